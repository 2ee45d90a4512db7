import Derived.Test.YtamioppeiahjcaaDoorQ0
import Derived.Test.YtamioppeiahjcaaDoorQ2
import Derived.Test.YtamioppeiahjcaaDoorQ8
import Derived.Test.YtamioppeiahjcaaDoorQ9
import Derived.Test.YtamioppeiahjcaaDoorQ20
import Derived.Test.YtamioppeiahjcaaDoorQ21
import Derived.Test.YtamioppeiahjcaaDoorSayFnExactPaintingText
/- Plain lemmas over rounds, lists and whole numbers, for the pure statements of this seat. No condition. -/
namespace Go.Proofs.YtamioppeiahjcaaDoor.Plain
open Go.RowKit Go.Proofs.YtamioppeiahjcaaDoorW.PrintWords Go.Proofs.YtamioppeiahjcaaDoorW.PrintLast
set_option linter.unusedVariables false

theorem wrap_id {x : Int} (h0 : -9223372036854775808 ≤ x) (h1 : x ≤ 9223372036854775807) : wrap64 x = x := by
  unfold wrap64
  omega

theorem rd_at {l : List Int} {i : Nat} (h : i < l.length) : rd l (i : Int) = l[i] := by
  simp [rd, List.getD, h]

theorem ev_some {α : Type} {g : Nat → Option α} {r : α} (h : ∀ k, g k = some r) : Ev g r := ⟨0, fun k _ => h k⟩

theorem ev_bind0 {α β : Type} {g : Option α} {f : Nat → α → Option β} {a : α} {r : β} (h : g = some a) (k : Ev (fun n => f n a) r) : Ev (fun n => g.bind (f n)) r := by
  obtain ⟨K, hK⟩ := k
  refine ⟨K, fun n hn => ?_⟩
  show g.bind (f n) = some r
  rw [h]
  exact hK n hn

theorem ev_if {α : Type} {c : Prop} [Decidable c] {f g : Nat → Option α} {r : α} (hf : c → Ev f r) (hg : ¬ c → Ev g r) : Ev (fun n => if c then f n else g n) r := by
  by_cases h : c
  · obtain ⟨K, hK⟩ := hf h
    exact ⟨K, fun n hn => (if_pos h).trans (hK n hn)⟩
  · obtain ⟨K, hK⟩ := hg h
    exact ⟨K, fun n hn => (if_neg h).trans (hK n hn)⟩

/-- A loop over an index, from any index on, in one shape. -/
theorem ev_up {α : Type} {n : Nat} {loop : Nat → Nat → Option α} {r : Nat → α} (hend : Ev (fun k => loop k n) (r n)) (hstep : ∀ i, i < n → (Ev (fun k => loop k (i + 1)) (r (i + 1)) → Ev (fun k => loop k i) (r i))) :
    ∀ i, i ≤ n → Ev (fun k => loop k i) (r i) := by
  intro i hi
  have : ∀ d i, i ≤ n → n - i = d → Ev (fun k => loop k i) (r i) := by
    intro d
    induction d with
    | zero =>
      intro i hi hd
      have e : i = n := by omega
      rw [e]; exact hend
    | succ d ih =>
      intro i hi hd
      exact hstep i (by omega) (ih (i + 1) (by omega) (by omega))
  exact this (n - i) i hi rfl
theorem succ_cast {i n : Nat} (h : i < n) (hn : n ≤ 9223372036854775807) : wrap64 ((i : Int) + 1) = ((i + 1 : Nat) : Int) := by
  rw [wrap_id (by omega) (by omega)]; rfl
end Go.Proofs.YtamioppeiahjcaaDoor.Plain

/- The law's own functions over lists of whole numbers: copies, equality, bounds. No condition but lengths that fit. -/
namespace Go.Proofs.YtamioppeiahjcaaDoor.Plain
open Go.RowKit Go.Proofs.YtamioppeiahjcaaDoorW.PrintWords Go.Proofs.YtamioppeiahjcaaDoorW.PrintLast
set_option linter.unusedVariables false
open Q

theorem copy_step (l : List Int) (i : Nat) (h : i < l.length) :
    (l.take i ++ List.replicate (l.length - i) (0 : Int)).set ((i : Int)).toNat (rd l (i : Int)) = l.take (i + 1) ++ List.replicate (l.length - (i + 1)) (0 : Int) := by
  have e : l.length - i = (l.length - (i + 1)) + 1 := by omega
  have hl : (l.take i).length = i := by simp; omega
  rw [Int.toNat_natCast, rd_at h, e, List.replicate_succ, List.set_append_right _ _ (by omega), hl, Nat.sub_self, List.set_cons_zero, List.take_succ_eq_append_getElem h, List.append_assoc]
  rfl

theorem toIntS_ev (l : List Int) (h : l.length ≤ 35184372088832) : Ev (fun k => laws_toIntS.f k l) l := by
  refine Ev.congr (f := fun k => laws_toIntS.l0 k l (List.replicate l.length 0) 0) (fun k => ?_) ?_
  · unfold laws_toIntS.f
    rw [if_pos (by omega), if_pos (by omega), Int.toNat_natCast]
  · have q := ev_up (n := l.length) (loop := fun k i => laws_toIntS.l0 k l (l.take i ++ List.replicate (l.length - i) 0) (i : Int)) (r := fun _ => l)
      (Ev.step (f := fun _ => some l) (fun k => by simp [laws_toIntS.l0]) (Ev.now l))
      (fun i hi ih => Ev.step (f := fun k => laws_toIntS.l0 k l (l.take (i + 1) ++ List.replicate (l.length - (i + 1)) 0) ((i + 1 : Nat) : Int)) (fun k => by
        simp only [laws_toIntS.l0]
        rw [if_pos (by omega), if_pos (by omega), if_pos (by simp; omega), copy_step l i hi, succ_cast hi (by omega)]) ih) 0 (Nat.zero_le _)
    simpa using q

theorem eqIntS_ev (l : List Int) (h : l.length ≤ 9223372036854775807) : Ev (fun k => laws_eqIntS.f k l l) true := by
  refine Ev.congr (f := fun k => laws_eqIntS.l0 k l l 0) (fun k => ?_) ?_
  · unfold laws_eqIntS.f
    rw [if_pos rfl]
  · exact ev_up (n := l.length) (loop := fun k i => laws_eqIntS.l0 k l l (i : Int)) (r := fun _ => true)
      (Ev.step (f := fun _ => some true) (fun k => by simp [laws_eqIntS.l0]) (Ev.now true))
      (fun i hi ih => Ev.step (f := fun k => laws_eqIntS.l0 k l l ((i + 1 : Nat) : Int)) (fun k => by
        simp only [laws_eqIntS.l0]
        rw [if_pos (by omega), if_pos (by omega), if_pos (by omega), if_pos trivial, succ_cast hi h]) ih) 0 (Nat.zero_le _)

theorem l1In_eq (a b c : Int) : spec_l1In.f a b c = some (decide (b ≤ a) && decide (a ≤ c)) := by
  unfold spec_l1In.f
  by_cases h : b ≤ a <;> simp [h]

theorem within_eq (a b c : Int) : impl_within.f a b c = some (decide (b ≤ a) && decide (a ≤ c)) := by
  unfold impl_within.f
  by_cases h : b ≤ a <;> simp [h]

theorem l1All_ev (l : List Int) (lo hi : Int) (h : l.length ≤ 9223372036854775807) : Ev (fun k => spec_l1All.f k l lo hi) (l.all fun x => decide (lo ≤ x) && decide (x ≤ hi)) := by
  have q := ev_up (n := l.length) (loop := fun k i => spec_l1All.l0 k lo hi l (l.length : Int) (i : Int)) (r := fun i => (l.drop i).all fun x => decide (lo ≤ x) && decide (x ≤ hi))
    (Ev.step (f := fun _ => some true) (fun k => by simp [spec_l1All.l0]) (by simpa using Ev.now true))
    (fun i hi' ih => by
      have e : (l.drop i).all (fun x => decide (lo ≤ x) && decide (x ≤ hi)) = ((decide (lo ≤ l[i]) && decide (l[i] ≤ hi)) && (l.drop (i + 1)).all fun x => decide (lo ≤ x) && decide (x ≤ hi)) := by
        rw [List.drop_eq_getElem_cons hi', List.all_cons]
      rw [e]
      cases hb : (decide (lo ≤ l[i]) && decide (l[i] ≤ hi)) with
      | true =>
        refine Ev.step (f := fun k => spec_l1All.l0 k lo hi l (l.length : Int) ((i + 1 : Nat) : Int)) (fun k => ?_) (by simpa using ih)
        simp only [spec_l1All.l0]
        rw [if_pos (by omega), if_pos (by omega), if_pos (by omega), l1In_eq, rd_at hi', hb, Option.bind_some, if_pos rfl, succ_cast hi' h]
      | false =>
        refine Ev.step (f := fun _ => some false) (fun k => ?_) (by simpa using Ev.now false)
        simp only [spec_l1All.l0]
        rw [if_pos (by omega), if_pos (by omega), if_pos (by omega), l1In_eq, rd_at hi', hb, Option.bind_some, if_neg (by simp)]) 0 (Nat.zero_le _)
  simpa [spec_l1All.f] using q

theorem szIntS_eq (l : List Int) (a : Int) (h0 : 0 ≤ a) (h1 : a ≤ 1048576) (h : l.length ≤ 9223372036854775807) : laws_szIntS.f l a = some (if a < (l.length : Int) then -1 else a - l.length) := by
  unfold laws_szIntS.f
  rw [wrap_id (by omega) (by omega)]
  by_cases hl : a < (l.length : Int)
  · rw [if_pos (by omega), if_pos hl]
  · rw [if_neg (by omega), if_neg hl]
end Go.Proofs.YtamioppeiahjcaaDoor.Plain

/- Paintings: both sides' tests, and the law's own functions over paintings. No condition but lengths that fit. -/
namespace Go.Proofs.YtamioppeiahjcaaDoor.Plain
open Go.RowKit Go.Proofs.YtamioppeiahjcaaDoorW.PrintWords Go.Proofs.YtamioppeiahjcaaDoorW.PrintLast
set_option linter.unusedVariables false
open Q

/-- A painting: so many people, so many colours, a colour for each pair. -/
def painted (n c : Int) (l : List Int) : Bool := (decide (0 ≤ n) && decide (n ≤ 8)) && ((decide (1 ≤ c) && decide (c ≤ 3)) && (decide ((l.length : Int) = n * (n - 1) / 2) && l.all fun x => decide (0 ≤ x) && decide (x ≤ c - 1)))

theorem szPainting_eq (n c : Int) (l : List Int) (a : Int) (h0 : 0 ≤ a) (h1 : a ≤ 1048576) (h : l.length ≤ 9223372036854775807) : laws_szPainting.f n c l a = some (if a < (l.length : Int) then -1 else a - l.length) := by
  unfold laws_szPainting.f
  rw [szIntS_eq l a h0 h1 h, Option.bind_some]
  by_cases hl : a < (l.length : Int)
  · rw [if_pos hl, if_pos (by omega)]
  · rw [if_neg hl, if_neg (by omega)]

theorem toPainting_ev (n c : Int) (l : List Int) (h : l.length ≤ 35184372088832) : Ev (fun k => laws_toPainting.f k n c l) (n, c, l) := by
  refine Ev.bind (f := fun _ t => some (n, c, t)) (toIntS_ev l h) (Ev.now _)

theorem eqPainting_ev (n c : Int) (l : List Int) (h : l.length ≤ 9223372036854775807) : Ev (fun k => laws_eqPainting.f k n c l n c l) true := by
  refine Ev.congr (f := fun k => (laws_eqIntS.f k l l).bind fun t => if t = true then some true else some false) (fun k => ?_) ?_
  · unfold laws_eqPainting.f
    rw [if_pos rfl, if_pos rfl]
  · exact Ev.bind (f := fun _ t => if t = true then some true else some false) (eqIntS_ev l h) (ev_some (fun _ => rfl))

theorem pairs_of {n : Int} (h0 : 0 ≤ n) (h1 : n ≤ 8) : wrap64 (Int.tdiv (wrap64 (n * (wrap64 (n - 1)))) 2) = n * (n - 1) / 2 := by
  have : n = 0 ∨ n = 1 ∨ n = 2 ∨ n = 3 ∨ n = 4 ∨ n = 5 ∨ n = 6 ∨ n = 7 ∨ n = 8 := by omega
  rcases this with rfl | rfl | rfl | rfl | rfl | rfl | rfl | rfl | rfl <;> decide +kernel

theorem choose_two {n : Int} (h0 : 0 ≤ n) (h1 : n ≤ 8) : Ev (fun k => impl_choose.f k n 2) (n * (n - 1) / 2) := by
  refine Ev.of (fun k => impl_choose.mono n 2 k) (k := 10) ?_
  have : n = 0 ∨ n = 1 ∨ n = 2 ∨ n = 3 ∨ n = 4 ∨ n = 5 ∨ n = 6 ∨ n = 7 ∨ n = 8 := by omega
  rcases this with rfl | rfl | rfl | rfl | rfl | rfl | rfl | rfl | rfl <;> decide +kernel

theorem ptGood_ev (n c : Int) (l : List Int) (h : l.length ≤ 9223372036854775807) : Ev (fun k => spec_ptGood.f k n c l) (painted n c l) := by
  unfold spec_ptGood.f
  refine ev_bind0 (l1In_eq _ _ _) ?_
  refine ev_if (fun b1 => ?_) (fun b1 => ?_)
  · refine ev_bind0 (l1In_eq _ _ _) ?_
    refine ev_if (fun b2 => ?_) (fun b2 => ?_)
    · have c1 : 0 ≤ n ∧ n ≤ 8 := by simpa using b1
      have c2 : 1 ≤ c ∧ c ≤ 3 := by simpa using b2
      rw [pairs_of c1.1 c1.2, wrap_id (x := c - 1) (by omega) (by omega)]
      refine ev_if (fun b3 => ?_) (fun b3 => ?_)
      · have e : painted n c l = l.all fun x => decide (0 ≤ x) && decide (x ≤ c - 1) := by
          unfold painted
          rw [b1, b2, decide_eq_true b3]; simp
        rw [e]
        exact Ev.bind (f := fun _ t => some t) (l1All_ev l _ _ h) (Ev.now _)
      · have e : painted n c l = false := by
          unfold painted
          rw [decide_eq_false b3]; simp
        rw [e]; exact Ev.now _
    · have e : painted n c l = false := by
        unfold painted
        rw [Bool.eq_false_iff.mpr b2]; simp
      rw [e]; exact Ev.now _
  · have e : painted n c l = false := by
      unfold painted
      rw [Bool.eq_false_iff.mpr b1]; simp
    rw [e]; exact Ev.now _

theorem isPainting_ev (n c : Int) (l : List Int) (h : l.length ≤ 9223372036854775807) : Ev (fun k => impl_IsPainting.f k n c l) (painted n c l) := by
  unfold impl_IsPainting.f
  have hp : impl_isPainted.f n c = some ((decide (0 ≤ n) && decide (n ≤ 8)) && (decide (1 ≤ c) && decide (c ≤ 3))) := by
    unfold impl_isPainted.f
    rw [within_eq, within_eq, Option.bind_some]
    cases (decide (0 ≤ n) && decide (n ≤ 8)) <;> simp
  refine ev_bind0 hp ?_
  refine ev_if (fun b1 => ?_) (fun b1 => ?_)
  · have c1 : (0 ≤ n ∧ n ≤ 8) ∧ (1 ≤ c ∧ c ≤ 3) := by simpa using b1
    refine Ev.bind (choose_two c1.1.1 c1.1.2) ?_
    rw [wrap_id (x := c - 1) (by omega) (by omega)]
    refine ev_if (fun b3 => ?_) (fun b3 => ?_)
    · have e : painted n c l = l.all fun x => decide (0 ≤ x) && decide (x ≤ c - 1) := by
        unfold painted
        rw [← Bool.and_assoc, b1, decide_eq_true b3]; simp
      rw [e]
      exact ev_some (fun _ => rfl)
    · have e : painted n c l = false := by
        unfold painted
        rw [decide_eq_false b3]; simp
      rw [e]; exact Ev.now _
  · have e : painted n c l = false := by
      unfold painted
      rw [← Bool.and_assoc, Bool.eq_false_iff.mpr b1]; simp
    rw [e]; exact Ev.now _
end Go.Proofs.YtamioppeiahjcaaDoor.Plain
/- The program's PaintingText returns what the reference's returns, for all arguments. No condition. -/
namespace Go.Proofs.YtamioppeiahjcaaDoor.Pure
open Go.RowKit Go.Proofs.YtamioppeiahjcaaDoorW.PrintWords Go.Proofs.YtamioppeiahjcaaDoorW.PrintLast
set_option linter.unusedVariables false
open Go Q Plain

theorem str_app (a b : List Int) : strOfNums (a ++ b) = strOfNums a ++ strOfNums b := by
  apply ByteArray.ext
  simp [strOfNums]
theorem str_size (a : List Int) : (strOfNums a).size = a.length := by
  simp [strOfNums, ByteArray.size]
/-- The digit of a number less than ten, as its byte. -/
def digit (d : Int) : Int := (wrap64 (48 + d)) % 256
theorem digit_eq {d : Int} (h0 : 0 ≤ d) (h1 : d < 10) : digit d = 48 + d := by
  unfold digit
  rw [wrap_id (by omega) (by omega)]; omega
theorem itoa_digit {d : Int} (h0 : 0 ≤ d) (h1 : d < 10) : strconv_Itoa.f d = some (strOfNums [digit d]) := by
  unfold strconv_Itoa.f
  rw [if_pos ⟨h0, by omega⟩]
  congr 1
  unfold Go.Lib.decDigits
  rw [dif_pos (by omega), digit_eq h0 h1]
  show ByteArray.mk #[UInt8.ofNat (48 + d.toNat)] = ByteArray.mk #[UInt8.ofNat (48 + d).toNat]
  rw [show (48 + d).toNat = 48 + d.toNat by omega]
theorem num_digit {d : Int} (h1 : d < 10) : Ev (fun k => spec_l1Num.f k d) (strOfNums [digit d]) := by
  refine Ev.step (f := fun _ => some (strOfNums [digit d])) (fun k => ?_) (Ev.now _)
  simp only [spec_l1Num.f]
  rw [if_pos h1]; rfl
/-- The digits of colours. -/
def digits (l : List Int) : List Int := l.map digit
/-- The text of a painting. -/
def textOf (n c : Int) (l : List Int) : ByteArray := (((strOfNums [digit n] ++ (⟨#[58]⟩ : ByteArray)) ++ strOfNums [digit c]) ++ (⟨#[58]⟩ : ByteArray)) ++ strOfNums (digits l)
/-- What both sides tell. -/
def tell (n c : Int) (l : List Int) : ByteArray × Bool := if painted n c l = true then (textOf n c l, true) else ((⟨#[]⟩ : ByteArray), false)
theorem colon_size : (⟨#[58]⟩ : ByteArray).size = 1 := rfl
theorem painted_small {n c : Int} {l : List Int} (h : painted n c l = true) : 0 ≤ n ∧ n ≤ 8 ∧ 1 ≤ c ∧ c ≤ 3 ∧ l.length ≤ 28 ∧ ∀ x ∈ l, 0 ≤ x ∧ x ≤ c - 1 := by
  unfold painted at h
  simp only [Bool.and_eq_true, decide_eq_true_eq, List.all_eq_true] at h
  obtain ⟨⟨h1, h2⟩, ⟨h3, h4⟩, h5, h6⟩ := h
  have : n = 0 ∨ n = 1 ∨ n = 2 ∨ n = 3 ∨ n = 4 ∨ n = 5 ∨ n = 6 ∨ n = 7 ∨ n = 8 := by omega
  refine ⟨h1, h2, h3, h4, ?_, h6⟩
  rcases this with rfl | rfl | rfl | rfl | rfl | rfl | rfl | rfl | rfl <;> omega

theorem impl_ev (n c : Int) (l : List Int) (h : l.length ≤ 1048576) : Ev (fun k => impl_PaintingText.f k n c l) (tell n c l) := by
  unfold impl_PaintingText.f tell
  refine Ev.bind (isPainting_ev n c l (by omega)) ?_
  refine ev_if (fun hp => ?_) (fun hp => by rw [if_neg hp]; exact Ev.now _)
  obtain ⟨p1, p2, p3, p4, p5, p6⟩ := painted_small hp
  rw [if_pos hp]
  have hT : Ev (fun k => impl_paintingText.f k n c l) (textOf n c l) := by
    unfold impl_paintingText.f
    have q := ev_up (n := l.length) (loop := fun k i => impl_paintingText.l0 k (digits (l.take i)) l (l.length : Int) (i : Int) n c l) (r := fun _ => textOf n c l)
      (Ev.step (f := fun _ => some (textOf n c l)) (fun k => by
        simp only [impl_paintingText.l0]
        have hl : (digits l).length = l.length := by simp [digits]
        rw [if_neg (by omega), List.take_length, itoa_digit p1 (by omega), Option.bind_some, str_size, if_pos (by simp), itoa_digit (show 0 ≤ c by omega) (by omega), Option.bind_some,
          if_pos (by simp only [ByteArray.size_append, str_size, colon_size, List.length_singleton]; omega), if_pos (by simp only [ByteArray.size_append, str_size, colon_size, List.length_singleton]; omega), if_pos (by simp only [ByteArray.size_append, str_size, colon_size, List.length_singleton, hl]; omega)]
        rfl) (Ev.now _))
      (fun i hi ih => by
        have e : digits (l.take i) ++ [digit l[i]] = digits (l.take (i + 1)) := by
          unfold digits
          rw [List.take_succ_eq_append_getElem hi, List.map_append]; rfl
        refine Ev.step (f := fun k => impl_paintingText.l0 k (digits (l.take (i + 1))) l (l.length : Int) ((i + 1 : Nat) : Int) n c l) (fun k => ?_) ih
        simp only [impl_paintingText.l0]
        rw [if_pos (by omega), if_pos (by omega), if_pos (by omega), if_pos (by simp [digits]; omega), rd_at hi, succ_cast hi (by omega), ← e]
        rfl) 0 (Nat.zero_le _)
    exact q
  exact Ev.bind hT (Ev.now _)

theorem spec_ev (n c : Int) (l : List Int) (h : l.length ≤ 1048576) : Ev (fun k => spec_PaintingText.f k n c l) (tell n c l) := by
  unfold spec_PaintingText.f tell
  refine Ev.bind (ptGood_ev n c l (by omega)) ?_
  refine ev_if (fun hp => ?_) (fun hp => by rw [if_neg hp]; exact Ev.now _)
  obtain ⟨p1, p2, p3, p4, p5, p6⟩ := painted_small hp
  rw [if_pos hp]
  have hT : Ev (fun k => spec_ptText.f k n c l) (textOf n c l) := by
    unfold spec_ptText.f
    refine Ev.bind (num_digit (show n < 10 by omega)) ?_
    refine ev_if (fun _ => ?_) (fun z => absurd (by rw [str_size]; simp) z)
    refine Ev.bind (num_digit (show c < 10 by omega)) ?_
    refine ev_if (fun _ => ?_) (fun z => absurd (by simp only [ByteArray.size_append, str_size, colon_size, List.length_singleton]; omega) z)
    refine ev_if (fun _ => ?_) (fun z => absurd (by simp only [ByteArray.size_append, str_size, colon_size, List.length_singleton]; omega) z)
    have q := ev_up (n := l.length) (loop := fun k i => spec_ptText.l0 k ((((strOfNums [digit n] ++ (⟨#[58]⟩ : ByteArray)) ++ strOfNums [digit c]) ++ (⟨#[58]⟩ : ByteArray)) ++ strOfNums (digits (l.take i))) l (l.length : Int) (i : Int)) (r := fun _ => textOf n c l)
      (Ev.step (f := fun _ => some (textOf n c l)) (fun k => by
        simp only [spec_ptText.l0]
        rw [if_neg (by omega), List.take_length]
        rfl) (Ev.now _))
      (fun i hi ih => by
        have hd := p6 l[i] (List.getElem_mem hi)
        have hl : (digits (l.take i)).length ≤ 28 := by simp [digits]; omega
        have e : strOfNums (digits (l.take i)) ++ strOfNums [digit l[i]] = strOfNums (digits (l.take (i + 1))) := by
          rw [← str_app]
          congr 1
          unfold digits
          rw [List.take_succ_eq_append_getElem hi, List.map_append]; rfl
        refine Ev.step (f := fun k => (spec_l1Num.f k l[i]).bind fun t => if ((((strOfNums [digit n] ++ (⟨#[58]⟩ : ByteArray)) ++ strOfNums [digit c]) ++ (⟨#[58]⟩ : ByteArray)) ++ strOfNums (digits (l.take i))).size + t.size ≤ 9223372036854775807 then spec_ptText.l0 k (((((strOfNums [digit n] ++ (⟨#[58]⟩ : ByteArray)) ++ strOfNums [digit c]) ++ (⟨#[58]⟩ : ByteArray)) ++ strOfNums (digits (l.take i))) ++ t) l (l.length : Int) ((i + 1 : Nat) : Int) else none) (fun k => ?_) ?_
        · simp only [spec_ptText.l0]
          rw [if_pos (by omega), if_pos (by omega), if_pos (by omega), rd_at hi, succ_cast hi (by omega)]
        · refine Ev.bind (num_digit (show l[i] < 10 by omega)) ?_
          refine ev_if (fun _ => ?_) (fun z => absurd (by simp only [ByteArray.size_append, str_size, colon_size, List.length_singleton]; omega) z)
          rw [ByteArray.append_assoc, e]
          exact ih) 0 (Nat.zero_le _)
    have e0 : strOfNums (digits (l.take 0)) = ByteArray.empty := rfl
    rw [e0, ByteArray.append_empty] at q
    exact q
  exact Ev.bind hT (Ev.now _)

theorem FnExactPaintingText : laws_FnExactPaintingText.Pure := by
  intro n c l _ _ hl _
  refine Ev.rounds (g := fun k => laws_FnExactPaintingText.f k n c l) ?_
  unfold laws_FnExactPaintingText.f
  refine ev_bind0 (szPainting_eq n c l 1048576 (by omega) (by omega) hl) ?_
  refine ev_if (fun _ => Ev.now _) (fun hb => ?_)
  have hs : l.length ≤ 1048576 := by
    by_cases h : (1048576 : Int) < (l.length : Int)
    · rw [if_pos h] at hb; omega
    · omega
  have hT := toPainting_ev n c l (by omega)
  have hrest : ∀ x : Bool, x = false → Ev (fun k => laws_FnExactPaintingText.j0 k x n c l n c l) true := by
    intro x he
    refine Ev.step (f := fun k => (laws_toPainting.f k n c l).bind fun bt => (laws_eqPainting.f k n c l bt.1 bt.2.1 bt.2.2).bind fun t => if t = true then some true else some false) (fun k => ?_) ?_
    · simp only [laws_FnExactPaintingText.j0]
      rw [if_neg (by rw [he]; simp)]
    · refine Ev.bind hT ?_
      exact Ev.bind (f := fun _ t => if t = true then some true else some false) (eqPainting_ev n c l (by omega)) (ev_some (fun _ => rfl))
  refine Ev.bind hT ?_
  refine Ev.bind (spec_ev n c l hs) ?_
  refine Ev.bind hT ?_
  refine Ev.bind (impl_ev n c l hs) ?_
  refine ev_if (fun _ => ?_) (fun h => absurd rfl h)
  exact hrest _ (by simp)
end Go.Proofs.YtamioppeiahjcaaDoor.Pure
