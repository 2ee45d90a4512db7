import Derived.Test.YtcdngkehajifcaaQ0
import Derived.Test.YtcdngkehajifcaaQ2
import Derived.Test.YtcdngkehajifcaaQ4
import Derived.Test.YtcdngkehajifcaaQ6
import Derived.Test.YtcdngkehajifcaaQ8
import Derived.Test.YtcdngkehajifcaaQ16
import Derived.Test.YtcdngkehajifcaaQ25
import Derived.Test.YtcdngkehajifcaaQ26
import Derived.Test.YtcdngkehajifcaaSayFnExactExchangeColours
/- Plain lemmas over rounds, lists and whole numbers, for the pure statements of this seat. No condition. -/
namespace Go.Proofs.Ytcdngkehajifcaa.Plain
open Go.RowKit Go.Proofs.YtcdngkehajifcaaW.PrintWords Go.Proofs.YtcdngkehajifcaaW.PrintLast
set_option linter.unusedVariables false

theorem wrap_id {x : Int} (h0 : -9223372036854775808 ≤ x) (h1 : x ≤ 9223372036854775807) : wrap64 x = x := by
  unfold wrap64
  omega

theorem rd_at {l : List Int} {i : Nat} (h : i < l.length) : rd l (i : Int) = l[i] := by
  simp [rd, List.getD, h]

theorem ev_some {α : Type} {g : Nat → Option α} {r : α} (h : ∀ k, g k = some r) : Ev g r := ⟨0, fun k _ => h k⟩

theorem ev_bind0 {α β : Type} {g : Option α} {f : Nat → α → Option β} {a : α} {r : β} (h : g = some a) (k : Ev (fun n => f n a) r) : Ev (fun n => g.bind (f n)) r := by
  obtain ⟨K, hK⟩ := k
  refine ⟨K, fun n hn => ?_⟩
  show g.bind (f n) = some r
  rw [h]
  exact hK n hn

theorem ev_if {α : Type} {c : Prop} [Decidable c] {f g : Nat → Option α} {r : α} (hf : c → Ev f r) (hg : ¬ c → Ev g r) : Ev (fun n => if c then f n else g n) r := by
  by_cases h : c
  · obtain ⟨K, hK⟩ := hf h
    exact ⟨K, fun n hn => (if_pos h).trans (hK n hn)⟩
  · obtain ⟨K, hK⟩ := hg h
    exact ⟨K, fun n hn => (if_neg h).trans (hK n hn)⟩

/-- A loop over an index, from any index on, in one shape. -/
theorem ev_up {α : Type} {n : Nat} {loop : Nat → Nat → Option α} {r : Nat → α} (hend : Ev (fun k => loop k n) (r n)) (hstep : ∀ i, i < n → (Ev (fun k => loop k (i + 1)) (r (i + 1)) → Ev (fun k => loop k i) (r i))) :
    ∀ i, i ≤ n → Ev (fun k => loop k i) (r i) := by
  intro i hi
  have : ∀ d i, i ≤ n → n - i = d → Ev (fun k => loop k i) (r i) := by
    intro d
    induction d with
    | zero =>
      intro i hi hd
      have e : i = n := by omega
      rw [e]; exact hend
    | succ d ih =>
      intro i hi hd
      exact hstep i (by omega) (ih (i + 1) (by omega) (by omega))
  exact this (n - i) i hi rfl
theorem succ_cast {i n : Nat} (h : i < n) (hn : n ≤ 9223372036854775807) : wrap64 ((i : Int) + 1) = ((i + 1 : Nat) : Int) := by
  rw [wrap_id (by omega) (by omega)]; rfl
end Go.Proofs.Ytcdngkehajifcaa.Plain

/- The law's own functions over lists of whole numbers: copies, equality, bounds. No condition but lengths that fit. -/
namespace Go.Proofs.Ytcdngkehajifcaa.Plain
open Go.RowKit Go.Proofs.YtcdngkehajifcaaW.PrintWords Go.Proofs.YtcdngkehajifcaaW.PrintLast
set_option linter.unusedVariables false
open Q

theorem copy_step (l : List Int) (i : Nat) (h : i < l.length) :
    (l.take i ++ List.replicate (l.length - i) (0 : Int)).set ((i : Int)).toNat (rd l (i : Int)) = l.take (i + 1) ++ List.replicate (l.length - (i + 1)) (0 : Int) := by
  have e : l.length - i = (l.length - (i + 1)) + 1 := by omega
  have hl : (l.take i).length = i := by simp; omega
  rw [Int.toNat_natCast, rd_at h, e, List.replicate_succ, List.set_append_right _ _ (by omega), hl, Nat.sub_self, List.set_cons_zero, List.take_succ_eq_append_getElem h, List.append_assoc]
  rfl

theorem toIntS_ev (l : List Int) (h : l.length ≤ 35184372088832) : Ev (fun k => laws_toIntS.f k l) l := by
  refine Ev.congr (f := fun k => laws_toIntS.l0 k l (List.replicate l.length 0) 0) (fun k => ?_) ?_
  · unfold laws_toIntS.f
    rw [if_pos (by omega), if_pos (by omega), Int.toNat_natCast]
  · have q := ev_up (n := l.length) (loop := fun k i => laws_toIntS.l0 k l (l.take i ++ List.replicate (l.length - i) 0) (i : Int)) (r := fun _ => l)
      (Ev.step (f := fun _ => some l) (fun k => by simp [laws_toIntS.l0]) (Ev.now l))
      (fun i hi ih => Ev.step (f := fun k => laws_toIntS.l0 k l (l.take (i + 1) ++ List.replicate (l.length - (i + 1)) 0) ((i + 1 : Nat) : Int)) (fun k => by
        simp only [laws_toIntS.l0]
        rw [if_pos (by omega), if_pos (by omega), if_pos (by simp; omega), copy_step l i hi, succ_cast hi (by omega)]) ih) 0 (Nat.zero_le _)
    simpa using q

theorem eqIntS_ev (l : List Int) (h : l.length ≤ 9223372036854775807) : Ev (fun k => laws_eqIntS.f k l l) true := by
  refine Ev.congr (f := fun k => laws_eqIntS.l0 k l l 0) (fun k => ?_) ?_
  · unfold laws_eqIntS.f
    rw [if_pos rfl]
  · exact ev_up (n := l.length) (loop := fun k i => laws_eqIntS.l0 k l l (i : Int)) (r := fun _ => true)
      (Ev.step (f := fun _ => some true) (fun k => by simp [laws_eqIntS.l0]) (Ev.now true))
      (fun i hi ih => Ev.step (f := fun k => laws_eqIntS.l0 k l l ((i + 1 : Nat) : Int)) (fun k => by
        simp only [laws_eqIntS.l0]
        rw [if_pos (by omega), if_pos (by omega), if_pos (by omega), if_pos trivial, succ_cast hi h]) ih) 0 (Nat.zero_le _)

theorem l1In_eq (a b c : Int) : spec_l1In.f a b c = some (decide (b ≤ a) && decide (a ≤ c)) := by
  unfold spec_l1In.f
  by_cases h : b ≤ a <;> simp [h]

theorem within_eq (a b c : Int) : impl_within.f a b c = some (decide (b ≤ a) && decide (a ≤ c)) := by
  unfold impl_within.f
  by_cases h : b ≤ a <;> simp [h]

theorem l1All_ev (l : List Int) (lo hi : Int) (h : l.length ≤ 9223372036854775807) : Ev (fun k => spec_l1All.f k l lo hi) (l.all fun x => decide (lo ≤ x) && decide (x ≤ hi)) := by
  have q := ev_up (n := l.length) (loop := fun k i => spec_l1All.l0 k lo hi l (l.length : Int) (i : Int)) (r := fun i => (l.drop i).all fun x => decide (lo ≤ x) && decide (x ≤ hi))
    (Ev.step (f := fun _ => some true) (fun k => by simp [spec_l1All.l0]) (by simpa using Ev.now true))
    (fun i hi' ih => by
      have e : (l.drop i).all (fun x => decide (lo ≤ x) && decide (x ≤ hi)) = ((decide (lo ≤ l[i]) && decide (l[i] ≤ hi)) && (l.drop (i + 1)).all fun x => decide (lo ≤ x) && decide (x ≤ hi)) := by
        rw [List.drop_eq_getElem_cons hi', List.all_cons]
      rw [e]
      cases hb : (decide (lo ≤ l[i]) && decide (l[i] ≤ hi)) with
      | true =>
        refine Ev.step (f := fun k => spec_l1All.l0 k lo hi l (l.length : Int) ((i + 1 : Nat) : Int)) (fun k => ?_) (by simpa using ih)
        simp only [spec_l1All.l0]
        rw [if_pos (by omega), if_pos (by omega), if_pos (by omega), l1In_eq, rd_at hi', hb, Option.bind_some, if_pos rfl, succ_cast hi' h]
      | false =>
        refine Ev.step (f := fun _ => some false) (fun k => ?_) (by simpa using Ev.now false)
        simp only [spec_l1All.l0]
        rw [if_pos (by omega), if_pos (by omega), if_pos (by omega), l1In_eq, rd_at hi', hb, Option.bind_some, if_neg (by simp)]) 0 (Nat.zero_le _)
  simpa [spec_l1All.f] using q

theorem szIntS_eq (l : List Int) (a : Int) (h0 : 0 ≤ a) (h1 : a ≤ 1048576) (h : l.length ≤ 9223372036854775807) : laws_szIntS.f l a = some (if a < (l.length : Int) then -1 else a - l.length) := by
  unfold laws_szIntS.f
  rw [wrap_id (by omega) (by omega)]
  by_cases hl : a < (l.length : Int)
  · rw [if_pos (by omega), if_pos hl]
  · rw [if_neg (by omega), if_neg hl]
end Go.Proofs.Ytcdngkehajifcaa.Plain

/- Paintings: both sides' tests, and the law's own functions over paintings. No condition but lengths that fit. -/
namespace Go.Proofs.Ytcdngkehajifcaa.Plain
open Go.RowKit Go.Proofs.YtcdngkehajifcaaW.PrintWords Go.Proofs.YtcdngkehajifcaaW.PrintLast
set_option linter.unusedVariables false
open Q

/-- A painting: so many people, so many colours, a colour for each pair. -/
def painted (n c : Int) (l : List Int) : Bool := (decide (0 ≤ n) && decide (n ≤ 8)) && ((decide (1 ≤ c) && decide (c ≤ 3)) && (decide ((l.length : Int) = n * (n - 1) / 2) && l.all fun x => decide (0 ≤ x) && decide (x ≤ c - 1)))

theorem szPainting_eq (n c : Int) (l : List Int) (a : Int) (h0 : 0 ≤ a) (h1 : a ≤ 1048576) (h : l.length ≤ 9223372036854775807) : laws_szPainting.f n c l a = some (if a < (l.length : Int) then -1 else a - l.length) := by
  unfold laws_szPainting.f
  rw [szIntS_eq l a h0 h1 h, Option.bind_some]
  by_cases hl : a < (l.length : Int)
  · rw [if_pos hl, if_pos (by omega)]
  · rw [if_neg hl, if_neg (by omega)]

theorem toPainting_ev (n c : Int) (l : List Int) (h : l.length ≤ 35184372088832) : Ev (fun k => laws_toPainting.f k n c l) (n, c, l) := by
  refine Ev.bind (f := fun _ t => some (n, c, t)) (toIntS_ev l h) (Ev.now _)

theorem eqPainting_ev (n c : Int) (l : List Int) (h : l.length ≤ 9223372036854775807) : Ev (fun k => laws_eqPainting.f k n c l n c l) true := by
  refine Ev.congr (f := fun k => (laws_eqIntS.f k l l).bind fun t => if t = true then some true else some false) (fun k => ?_) ?_
  · unfold laws_eqPainting.f
    rw [if_pos rfl, if_pos rfl]
  · exact Ev.bind (f := fun _ t => if t = true then some true else some false) (eqIntS_ev l h) (ev_some (fun _ => rfl))

theorem pairs_of {n : Int} (h0 : 0 ≤ n) (h1 : n ≤ 8) : wrap64 (Int.tdiv (wrap64 (n * (wrap64 (n - 1)))) 2) = n * (n - 1) / 2 := by
  have : n = 0 ∨ n = 1 ∨ n = 2 ∨ n = 3 ∨ n = 4 ∨ n = 5 ∨ n = 6 ∨ n = 7 ∨ n = 8 := by omega
  rcases this with rfl | rfl | rfl | rfl | rfl | rfl | rfl | rfl | rfl <;> decide +kernel

theorem choose_two {n : Int} (h0 : 0 ≤ n) (h1 : n ≤ 8) : Ev (fun k => impl_choose.f k n 2) (n * (n - 1) / 2) := by
  refine Ev.of (fun k => impl_choose.mono n 2 k) (k := 10) ?_
  have : n = 0 ∨ n = 1 ∨ n = 2 ∨ n = 3 ∨ n = 4 ∨ n = 5 ∨ n = 6 ∨ n = 7 ∨ n = 8 := by omega
  rcases this with rfl | rfl | rfl | rfl | rfl | rfl | rfl | rfl | rfl <;> decide +kernel

theorem ptGood_ev (n c : Int) (l : List Int) (h : l.length ≤ 9223372036854775807) : Ev (fun k => spec_ptGood.f k n c l) (painted n c l) := by
  unfold spec_ptGood.f
  refine ev_bind0 (l1In_eq _ _ _) ?_
  refine ev_if (fun b1 => ?_) (fun b1 => ?_)
  · refine ev_bind0 (l1In_eq _ _ _) ?_
    refine ev_if (fun b2 => ?_) (fun b2 => ?_)
    · have c1 : 0 ≤ n ∧ n ≤ 8 := by simpa using b1
      have c2 : 1 ≤ c ∧ c ≤ 3 := by simpa using b2
      rw [pairs_of c1.1 c1.2, wrap_id (x := c - 1) (by omega) (by omega)]
      refine ev_if (fun b3 => ?_) (fun b3 => ?_)
      · have e : painted n c l = l.all fun x => decide (0 ≤ x) && decide (x ≤ c - 1) := by
          unfold painted
          rw [b1, b2, decide_eq_true b3]; simp
        rw [e]
        exact Ev.bind (f := fun _ t => some t) (l1All_ev l _ _ h) (Ev.now _)
      · have e : painted n c l = false := by
          unfold painted
          rw [decide_eq_false b3]; simp
        rw [e]; exact Ev.now _
    · have e : painted n c l = false := by
        unfold painted
        rw [Bool.eq_false_iff.mpr b2]; simp
      rw [e]; exact Ev.now _
  · have e : painted n c l = false := by
      unfold painted
      rw [Bool.eq_false_iff.mpr b1]; simp
    rw [e]; exact Ev.now _

theorem isPainting_ev (n c : Int) (l : List Int) (h : l.length ≤ 9223372036854775807) : Ev (fun k => impl_IsPainting.f k n c l) (painted n c l) := by
  unfold impl_IsPainting.f
  have hp : impl_isPainted.f n c = some ((decide (0 ≤ n) && decide (n ≤ 8)) && (decide (1 ≤ c) && decide (c ≤ 3))) := by
    unfold impl_isPainted.f
    rw [within_eq, within_eq, Option.bind_some]
    cases (decide (0 ≤ n) && decide (n ≤ 8)) <;> simp
  refine ev_bind0 hp ?_
  refine ev_if (fun b1 => ?_) (fun b1 => ?_)
  · have c1 : (0 ≤ n ∧ n ≤ 8) ∧ (1 ≤ c ∧ c ≤ 3) := by simpa using b1
    refine Ev.bind (choose_two c1.1.1 c1.1.2) ?_
    rw [wrap_id (x := c - 1) (by omega) (by omega)]
    refine ev_if (fun b3 => ?_) (fun b3 => ?_)
    · have e : painted n c l = l.all fun x => decide (0 ≤ x) && decide (x ≤ c - 1) := by
        unfold painted
        rw [← Bool.and_assoc, b1, decide_eq_true b3]; simp
      rw [e]
      exact ev_some (fun _ => rfl)
    · have e : painted n c l = false := by
        unfold painted
        rw [decide_eq_false b3]; simp
      rw [e]; exact Ev.now _
  · have e : painted n c l = false := by
      unfold painted
      rw [← Bool.and_assoc, Bool.eq_false_iff.mpr b1]; simp
    rw [e]; exact Ev.now _
end Go.Proofs.Ytcdngkehajifcaa.Plain

/- Parties: both sides' tests, and the law's own functions over parties. No condition but lengths that fit. -/
namespace Go.Proofs.Ytcdngkehajifcaa.Plain
open Go.RowKit Go.Proofs.YtcdngkehajifcaaW.PrintWords Go.Proofs.YtcdngkehajifcaaW.PrintLast
set_option linter.unusedVariables false
open Q

/-! What a party is, in words of numbers. -/
end Go.Proofs.Ytcdngkehajifcaa.Plain

/- The laws' marks: written into a list and found again. No condition but a length that fits. -/
namespace Go.Proofs.Ytcdngkehajifcaa.Plain
open Go.RowKit Go.Proofs.YtcdngkehajifcaaW.PrintWords Go.Proofs.YtcdngkehajifcaaW.PrintLast
set_option linter.unusedVariables false
open Q

/-- The marks of n numbers from v on. -/
def marksI (v : Int) (n : Nat) : List Int := (List.range n).map fun i : Nat => v + (i : Int)
theorem marksI_length (v : Int) (n : Nat) : (marksI v n).length = n := by simp [marksI]
theorem marksI_get {v : Int} {n i : Nat} (h : i < (marksI v n).length) : (marksI v n)[i] = v + (i : Int) := by simp [marksI]

theorem marksI_step (v : Int) (l : List Int) {i : Nat} (hi : i < l.length) : (marksI v i ++ l.drop i).set i (v + (i : Int)) = marksI v (i + 1) ++ l.drop (i + 1) := by
  apply List.ext_getElem
  · simp [marksI_length]; omega
  · intro j h1 h2
    rw [List.getElem_set]
    by_cases e : i = j
    · subst e
      rw [if_pos rfl, List.getElem_append_left (by rw [marksI_length]; omega), marksI_get]
    · rw [if_neg e]
      by_cases c : j < i
      · rw [List.getElem_append_left (by rw [marksI_length]; omega), List.getElem_append_left (by rw [marksI_length]; omega), marksI_get, marksI_get]
      · rw [List.getElem_append_right (by rw [marksI_length]; omega), List.getElem_append_right (by rw [marksI_length]; omega), List.getElem_drop, List.getElem_drop]
        congr 1
        rw [marksI_length, marksI_length]
        omega

theorem markIntS_ev (l : List Int) (v : Int) (h : l.length ≤ 1152921504606846976) (h0 : 0 ≤ v) (h1 : v ≤ 1152921504606846976) : Ev (fun k => laws_markIntS.f k l v) (v + (l.length : Int), marksI v l.length) := by
  have q := ev_up (n := l.length) (loop := fun k i => laws_markIntS.l0 k (marksI v i ++ l.drop i) (v + (i : Int)) (i : Int)) (r := fun _ => (v + (l.length : Int), marksI v l.length))
    (by
      refine Ev.step (f := fun _ => some (v + (l.length : Int), marksI v l.length)) (fun k => ?_) (Ev.now _)
      simp only [laws_markIntS.l0]
      rw [List.drop_length, List.append_nil, if_neg (by rw [marksI_length]; omega)])
    (fun i hi ih => by
      have hlen : (marksI v i ++ l.drop i).length = l.length := by rw [List.length_append, marksI_length, List.length_drop]; omega
      have w1 : wrap64 (v + (i : Int) + 1) = v + ((i + 1 : Nat) : Int) := by rw [wrap_id (by omega) (by omega)]; omega
      refine Ev.step (f := fun k => laws_markIntS.l0 k (marksI v (i + 1) ++ l.drop (i + 1)) (v + ((i + 1 : Nat) : Int)) ((i + 1 : Nat) : Int)) (fun k => ?_) ih
      simp only [laws_markIntS.l0]
      rw [if_pos (by rw [hlen]; omega), if_pos (by omega), w1, succ_cast hi (by omega), Int.toNat_natCast, marksI_step v l hi]) 0 (Nat.zero_le _)
  have e : marksI v 0 ++ l.drop 0 = l := by simp [marksI]
  rw [e] at q
  simpa [laws_markIntS.f] using q

theorem heldIntS_ev (n : Nat) (v : Int) (h : n ≤ 1152921504606846976) (h0 : 0 ≤ v) (h1 : v ≤ 1152921504606846976) : Ev (fun k => laws_heldIntS.f k (marksI v n) v) (v + (n : Int)) := by
  have hl := marksI_length v n
  have q := ev_up (n := n) (loop := fun k i => laws_heldIntS.l0 k (marksI v n) (v + (i : Int)) (i : Int)) (r := fun _ => v + (n : Int))
    (Ev.step (f := fun _ => some (v + (n : Int))) (fun k => by simp only [laws_heldIntS.l0]; rw [if_neg (by rw [hl]; omega)]) (Ev.now _))
    (fun i hi ih => by
      have w1 : wrap64 (v + (i : Int) + 1) = v + ((i + 1 : Nat) : Int) := by rw [wrap_id (by omega) (by omega)]; omega
      refine Ev.step (f := fun k => laws_heldIntS.l0 k (marksI v n) (v + ((i + 1 : Nat) : Int)) ((i + 1 : Nat) : Int)) (fun k => ?_) ih
      simp only [laws_heldIntS.l0]
      rw [if_pos (by rw [hl]; omega), if_pos (by omega), rd_at (by rw [hl]; exact hi), marksI_get, if_pos rfl, w1, succ_cast hi (by omega)]) 0 (Nat.zero_le _)
  simpa [laws_heldIntS.f] using q

theorem markPainting_ev (n c : Int) (l : List Int) (h : l.length ≤ 1152921504606846976) : Ev (fun k => laws_markPainting.f k n c l 1) (1 + (l.length : Int), marksI 1 l.length) := by
  unfold laws_markPainting.f
  exact Ev.bind (f := fun _ bt => some (bt.1, bt.2)) (markIntS_ev l 1 h (by omega) (by omega)) (Ev.now _)

theorem heldPainting_ev (n c : Int) (m : Nat) (h : m ≤ 1152921504606846976) : Ev (fun k => laws_heldPainting.f k n c (marksI 1 m) 1) (1 + (m : Int)) := by
  unfold laws_heldPainting.f
  refine Ev.bind (heldIntS_ev m 1 h (by omega) (by omega)) ?_
  exact ev_if (fun q => by omega) (fun _ => Ev.now _)

end Go.Proofs.Ytcdngkehajifcaa.Plain
/- The program's ExchangeColours returns what the reference's returns, for all arguments. No condition. -/
namespace Go.Proofs.Ytcdngkehajifcaa.Pure
open Go.RowKit Go.Proofs.YtcdngkehajifcaaW.PrintWords Go.Proofs.YtcdngkehajifcaaW.PrintLast
set_option linter.unusedVariables false
open Q Plain

/-- A colour behind the exchange of two. -/
def xch (c d x : Int) : Int := if x = c then d else if x = d then c else x
/-- The first i colours are exchanged. -/
def mixL (c d : Int) (l : List Int) (i : Nat) : List Int := (l.take i).map (xch c d) ++ l.drop i
theorem mixL_length (c d : Int) (l : List Int) (i : Nat) : (mixL c d l i).length = l.length := by
  unfold mixL
  rw [List.length_append, List.length_map, List.length_take, List.length_drop]; omega
theorem mixL_set (c d : Int) {l : List Int} {i : Nat} (h : i < l.length) : (mixL c d l i).set i (xch c d l[i]) = mixL c d l (i + 1) := by
  unfold mixL
  have hl : ((l.take i).map (xch c d)).length = i := by simp; omega
  rw [List.set_append_right _ _ (by omega), hl, Nat.sub_self, List.drop_eq_getElem_cons h, List.set_cons_zero, List.take_succ_eq_append_getElem h, List.map_append, List.append_assoc]
  rfl
theorem mixL_at (c d : Int) {l : List Int} {i : Nat} (h : i < l.length) : rd (mixL c d l i) (i : Int) = l[i] := by
  rw [rd_at (by rw [mixL_length]; exact h)]
  unfold mixL
  have hl : ((l.take i).map (xch c d)).length = i := by simp; omega
  rw [List.getElem_append_right (by omega)]
  simp only [hl, Nat.sub_self, List.getElem_drop, Nat.add_zero]
theorem mixL_same (c d : Int) {l : List Int} {i : Nat} (h : i < l.length) (e : xch c d l[i] = l[i]) : mixL c d l (i + 1) = mixL c d l i := by
  have q := mixL_set c d h
  rw [e] at q
  rw [← q]
  apply List.ext_getElem
  · rw [List.length_set]
  · intro j j1 j2
    rw [List.getElem_set]
    by_cases z : i = j
    · subst z
      rw [if_pos rfl]
      have := mixL_at c d h
      rw [rd_at (by rw [mixL_length]; exact h)] at this
      exact this.symm
    · rw [if_neg z]
/-- Is it a painting, and two colours of it. -/
abbrev okX (n c : Int) (l : List Int) (a b : Int) : Prop := painted n c l = true ∧ (0 ≤ a ∧ a ≤ wrap64 (c - 1)) ∧ (0 ≤ b ∧ b ≤ wrap64 (c - 1))
/-- What both sides tell. -/
def tell (n c : Int) (l : List Int) (a b : Int) : Int × Int × List Int × Bool := if okX n c l a b then (n, c, mixL a b l l.length, true) else (0, 0, [], false)
theorem tell_len (n c : Int) (l : List Int) (a b : Int) : (tell n c l a b).2.2.1.length ≤ l.length := by
  unfold tell
  by_cases h : okX n c l a b
  · rw [if_pos h]
    show (mixL a b l l.length).length ≤ l.length
    rw [mixL_length]; exact Nat.le_refl _
  · rw [if_neg h]; simp

theorem impl_ev (n c : Int) (l : List Int) (a b : Int) (h : l.length ≤ 1048576) : Ev (fun k => impl_ExchangeColours.f k n c l a b) (tell n c l a b) := by
  unfold impl_ExchangeColours.f
  have bad : ¬ okX n c l a b → Ev (fun k => impl_ExchangeColours.j0 k a b true n c l) (tell n c l a b) := by
    intro hb
    unfold tell
    rw [if_neg hb]
    exact Ev.step (f := fun _ => some (0, 0, [], false)) (fun k => by simp only [impl_ExchangeColours.j0]; rfl) (Ev.now _)
  have hC : ∀ q, impl_isColour.f n c l q = some (decide (0 ≤ q) && decide (q ≤ wrap64 (c - 1))) := fun q => by unfold impl_isColour.f; rw [within_eq]; rfl
  refine Ev.bind (isPainting_ev n c l (by omega)) ?_
  refine ev_if (fun hp => ?_) (fun hp => bad (fun z => hp z.1))
  refine ev_bind0 (hC a) ?_
  refine ev_if (fun ha => ?_) (fun ha => bad (fun z => ha (by simp [z.2.1])))
  refine ev_bind0 (hC b) ?_
  simp only [Bool.and_eq_true, decide_eq_true_eq] at ha
  by_cases hb : 0 ≤ b ∧ b ≤ wrap64 (c - 1)
  · rw [decide_eq_true hb.1, decide_eq_true hb.2]
    unfold tell
    rw [if_pos ⟨hp, ha, hb⟩]
    have hown : impl_Painting_own.f n c l = some (n, c, l) := by
      unfold impl_Painting_own.f slices_Clone_int_int.f
      rw [if_pos (by omega)]
      rfl
    refine Ev.step (f := fun k => impl_ExchangeColours.l0 k a b l (l.length : Int) 0 n c l) (fun k => ?_) ?_
    · simp only [impl_ExchangeColours.j0]
      rw [if_neg (by simp), hown, Option.bind_some]
    · have q := ev_up (n := l.length) (loop := fun k i => impl_ExchangeColours.l0 k a b (mixL a b l i) (l.length : Int) (i : Int) n c (mixL a b l i)) (r := fun _ => (n, c, mixL a b l l.length, true))
        (Ev.step (f := fun _ => some (n, c, mixL a b l l.length, true)) (fun k => by simp only [impl_ExchangeColours.l0]; rw [if_neg (by omega)]) (Ev.now _))
        (fun i hi ih => by
          have hl := mixL_length a b l i
          have hs := mixL_set a b hi
          refine Ev.step (f := fun k => impl_ExchangeColours.l0 k a b (mixL a b l (i + 1)) (l.length : Int) ((i + 1 : Nat) : Int) n c (mixL a b l (i + 1))) (fun k => ?_) ih
          simp only [impl_ExchangeColours.l0]
          rw [if_pos (by omega), if_pos (by omega), if_pos (by rw [hl]; omega), mixL_at a b hi, succ_cast hi (by omega), Int.toNat_natCast]
          by_cases e1 : l[i] = a
          · have ex : xch a b l[i] = b := by unfold xch; rw [if_pos e1]
            rw [ex] at hs
            rw [if_pos e1, if_pos (by rw [hl]; omega), hs]
          · rw [if_neg e1]
            by_cases e2 : l[i] = b
            · have ex : xch a b l[i] = a := by unfold xch; rw [if_neg e1, if_pos e2]
              rw [ex] at hs
              rw [if_pos e2, if_pos (by rw [hl]; omega), hs]
            · have ex : xch a b l[i] = l[i] := by unfold xch; rw [if_neg e1, if_neg e2]
              rw [if_neg e2, mixL_same a b hi ex]) 0 (Nat.zero_le _)
      have e0 : mixL a b l 0 = l := by simp [mixL]
      rw [e0] at q
      exact q
  · rw [show (decide (0 ≤ b) && decide (b ≤ wrap64 (c - 1))) = false by rw [Bool.eq_false_iff]; intro q; simp only [Bool.and_eq_true, decide_eq_true_eq] at q; exact hb q]
    exact bad (fun z => hb z.2.2)

theorem spec_ev (n c : Int) (l : List Int) (a b : Int) (h : l.length ≤ 1048576) : Ev (fun k => spec_ExchangeColours.f k n c l a b) (tell n c l a b) := by
  unfold spec_ExchangeColours.f
  have bad : ¬ okX n c l a b → Ev (fun k => spec_ExchangeColours.j0 k a b true n c l) (tell n c l a b) := by
    intro hb
    unfold tell
    rw [if_neg hb]
    exact Ev.step (f := fun _ => some (0, 0, [], false)) (fun k => by simp only [spec_ExchangeColours.j0]; rfl) (Ev.now _)
  refine Ev.bind (ptGood_ev n c l (by omega)) ?_
  refine ev_if (fun hp => ?_) (fun hp => bad (fun z => hp z.1))
  refine ev_bind0 (l1In_eq a 0 _) ?_
  refine ev_if (fun ha => ?_) (fun ha => bad (fun z => ha (by simp [z.2.1])))
  refine ev_bind0 (l1In_eq b 0 _) ?_
  simp only [Bool.and_eq_true, decide_eq_true_eq] at ha
  by_cases hb : 0 ≤ b ∧ b ≤ wrap64 (c - 1)
  · rw [decide_eq_true hb.1, decide_eq_true hb.2]
    unfold tell
    rw [if_pos ⟨hp, ha, hb⟩]
    have hown : spec_ptOwn.f n c l = some (n, c, l) := by
      unfold spec_ptOwn.f spec_l1Own.f
      rw [Option.bind_some, if_pos (by simp only [List.length_nil]; omega)]
      rfl
    refine Ev.step (f := fun k => spec_ExchangeColours.l0 k a b l (l.length : Int) 0 n c l) (fun k => ?_) ?_
    · simp only [spec_ExchangeColours.j0]
      rw [if_neg (by simp), hown, Option.bind_some]
    · have q := ev_up (n := l.length) (loop := fun k i => spec_ExchangeColours.l0 k a b l (l.length : Int) (i : Int) n c (mixL a b l i)) (r := fun _ => (n, c, mixL a b l l.length, true))
        (Ev.step (f := fun _ => some (n, c, mixL a b l l.length, true)) (fun k => by simp only [spec_ExchangeColours.l0]; rw [if_neg (by omega)]) (Ev.now _))
        (fun i hi ih => by
          have hl := mixL_length a b l i
          have hs := mixL_set a b hi
          refine Ev.step (f := fun k => spec_ExchangeColours.l0 k a b l (l.length : Int) ((i + 1 : Nat) : Int) n c (mixL a b l (i + 1))) (fun k => ?_) ih
          simp only [spec_ExchangeColours.l0]
          rw [if_pos (by omega), if_pos (by omega), if_pos (by omega), rd_at hi, succ_cast hi (by omega), Int.toNat_natCast]
          by_cases e1 : l[i] = a
          · have ex : xch a b l[i] = b := by unfold xch; rw [if_pos e1]
            rw [ex] at hs
            rw [if_pos e1, if_pos (by rw [hl]; omega), Option.bind_some, hs]
            by_cases e2 : l[i] = b
            · have hab : a = b := by omega
              subst hab
              rw [if_pos e2, ← hs, List.set_set]
            · rw [if_neg e2]
          · rw [if_neg e1]
            by_cases e2 : l[i] = b
            · have ex : xch a b l[i] = a := by unfold xch; rw [if_neg e1, if_pos e2]
              rw [ex] at hs
              rw [if_pos e2, if_pos (by rw [hl]; omega), hs]
            · have ex : xch a b l[i] = l[i] := by unfold xch; rw [if_neg e1, if_neg e2]
              rw [if_neg e2, mixL_same a b hi ex]) 0 (Nat.zero_le _)
      have e0 : mixL a b l 0 = l := by simp [mixL]
      rw [e0] at q
      exact q
  · rw [show (decide (0 ≤ b) && decide (b ≤ wrap64 (c - 1))) = false by rw [Bool.eq_false_iff]; intro q; simp only [Bool.and_eq_true, decide_eq_true_eq] at q; exact hb q]
    exact bad (fun z => hb z.2.2)

theorem FnExactExchangeColours : laws_FnExactExchangeColours.Pure := by
  intro n c l a b _ _ hl _ _ _
  refine Ev.rounds (g := fun k => laws_FnExactExchangeColours.f k n c l a b) ?_
  unfold laws_FnExactExchangeColours.f
  refine ev_bind0 (szPainting_eq n c l 1048576 (by omega) (by omega) hl) ?_
  refine ev_if (fun _ => Ev.now _) (fun hb => ?_)
  have hs : l.length ≤ 1048576 := by
    by_cases h : (1048576 : Int) < (l.length : Int)
    · rw [if_pos h] at hb; omega
    · omega
  have hTl := toPainting_ev n c l (by omega)
  have hS := spec_ev n c l a b (by omega)
  have hI := impl_ev n c l a b (by omega)
  have hp := tell_len n c l a b
  generalize tell n c l a b = z at hS hI hp
  obtain ⟨pn, pc, ps, ok1⟩ := z
  replace hp : ps.length ≤ l.length := hp
  refine Ev.bind hTl ?_
  refine Ev.bind hS ?_
  refine Ev.bind hTl ?_
  refine Ev.bind hI ?_
  refine Ev.bind (eqPainting_ev pn pc ps (by omega)) ?_
  refine ev_if (fun _ => ?_) (fun h => absurd rfl h)
  show Ev (fun k => laws_FnExactExchangeColours.j0 k a b ok1 ok1 (ok1 != ok1) n c l pn pc ps n c l pn pc ps) true
  rw [show (ok1 != ok1) = false by simp]
  refine Ev.step (f := fun k => (laws_toPainting.f k n c l).bind fun bt214 => ((laws_eqPainting.f k n c l bt214.1 bt214.2.1 bt214.2.2).bind fun t219 => (if t219 = true then ((laws_markPainting.f k n c l 1).bind fun bt220 => (if bt220.1 < 0 then (laws_FnExactExchangeColours.j1 k a b ok1 true n c l pn pc ps pn pc ps) else ((laws_eqPainting.f k pn pc ps pn pc ps).bind fun t222 => (if t222 = true then (laws_FnExactExchangeColours.j1 k a b ok1 (ok1 != ok1) n c l pn pc ps pn pc ps) else (laws_FnExactExchangeColours.j1 k a b ok1 true n c l pn pc ps pn pc ps))))) else (some false)))) (fun k => by simp only [laws_FnExactExchangeColours.j0]; rfl) ?_
  refine Ev.bind hTl ?_
  refine Ev.bind (eqPainting_ev n c l (by omega)) ?_
  refine ev_if (fun _ => ?_) (fun h => absurd rfl h)
  refine Ev.bind (markPainting_ev n c l (by omega)) ?_
  refine ev_if (fun (q : (1 + (l.length : Int)) < 0) => by omega) (fun _ => ?_)
  refine Ev.bind (eqPainting_ev pn pc ps (by omega)) ?_
  refine ev_if (fun _ => ?_) (fun h => absurd rfl h)
  show Ev (fun k => laws_FnExactExchangeColours.j1 k a b ok1 (ok1 != ok1) n c l pn pc ps pn pc ps) true
  rw [show (ok1 != ok1) = false by simp]
  refine Ev.step (f := fun k => (laws_markPainting.f k pn pc ps 1).bind fun bt223 => ((laws_heldPainting.f k pn pc bt223.2 1).bind fun t225 => (if t225 < 0 then (some false) else (if t225 = bt223.1 then ((laws_toPainting.f k n c l).bind fun bt226 => ((impl_ExchangeColours.f k bt226.1 bt226.2.1 bt226.2.2 a b).bind fun bt231 => ((laws_eqPainting.f k bt231.1 bt231.2.1 bt231.2.2.1 pn pc ps).bind fun t238 => (if t238 = true then (laws_FnExactExchangeColours.j2 k bt223.1 (bt231.2.2.2 != ok1) pn pc bt223.2) else (laws_FnExactExchangeColours.j2 k bt223.1 true pn pc bt223.2))))) else (some false))))) (fun k => by simp only [laws_FnExactExchangeColours.j1]; rfl) ?_
  refine Ev.bind (markPainting_ev pn pc ps (by omega)) ?_
  refine Ev.bind (heldPainting_ev pn pc _ (by omega)) ?_
  refine ev_if (fun (q : (1 + ((ps.length : Nat) : Int)) < 0) => by omega) (fun _ => ?_)
  refine ev_if (fun _ => ?_) (fun h => absurd rfl h)
  refine Ev.bind hTl ?_
  refine Ev.bind hI ?_
  refine Ev.bind (eqPainting_ev pn pc ps (by omega)) ?_
  refine ev_if (fun _ => ?_) (fun h => absurd rfl h)
  show Ev (fun k => laws_FnExactExchangeColours.j2 k (1 + (ps.length : Int)) (ok1 != ok1) pn pc (marksI 1 ps.length)) true
  rw [show (ok1 != ok1) = false by simp]
  refine Ev.step (f := fun k => (laws_heldPainting.f k pn pc (marksI 1 ps.length) 1).bind fun t239 => (if t239 < 0 then (some false) else (if t239 = (1 + (ps.length : Int)) then (some true) else (some false)))) (fun k => by simp only [laws_FnExactExchangeColours.j2]; rfl) ?_
  refine Ev.bind (heldPainting_ev pn pc _ (by omega)) ?_
  refine ev_if (fun (q : (1 + ((ps.length : Nat) : Int)) < 0) => by omega) (fun _ => ?_)
  refine ev_if (fun _ => ?_) (fun h => absurd rfl h)
  exact Ev.now _
end Go.Proofs.Ytcdngkehajifcaa.Pure
