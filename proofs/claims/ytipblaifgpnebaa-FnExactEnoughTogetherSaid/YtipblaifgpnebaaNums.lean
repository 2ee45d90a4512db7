/- The numbers of friends, on both sides. No condition but lengths that fit. -/
import Derived.Test.YtipblaifgpnebaaQ0
import Derived.Test.YtipblaifgpnebaaQ7
import Derived.Test.YtipblaifgpnebaaQ15
import Derived.Test.YtipblaifgpnebaaQ16
import Derived.Test.YtipblaifgpnebaaBase
import Derived.Test.YtipblaifgpnebaaInts
import Derived.Test.YtipblaifgpnebaaParty
import Derived.Test.YtipblaifgpnebaaGraph
import Derived.Test.YtipblaifgpnebaaTable
import Derived.Test.YtipblaifgpnebaaCount16
namespace Go.Proofs.Ytipblaifgpnebaa.Plain
open Go.RowKit Go.Proofs.YtipblaifgpnebaaW.PrintWords Go.Proofs.YtipblaifgpnebaaW.PrintLast
set_option linter.unusedVariables false
open Q

/-- How many friends each of n people has. -/
def numsF (n : Nat) (f : Nat → Nat → Bool) : List Int := (List.range n).map fun a => ((cnt (f a) n : Nat) : Int)
theorem numsF_length (n : Nat) (f : Nat → Nat → Bool) : (numsF n f).length = n := by simp [numsF]
theorem numsF_get {n : Nat} {f : Nat → Nat → Bool} {a : Nat} (h : a < n) : rd (numsF n f) (a : Int) = ((cnt (f a) n : Nat) : Int) := by
  rw [rd_at (by rw [numsF_length]; exact h)]
  simp [numsF]
theorem numsF_getElem {n : Nat} {f : Nat → Nat → Bool} {a : Nat} (h : a < (numsF n f).length) : (numsF n f)[a] = ((cnt (f a) n : Nat) : Int) := by
  simp [numsF]

theorem nums_put {n : Nat} (f : Nat → Nat → Bool) {a b : Nat} (ha : a < n) (hb : b < n) (hab : a ≠ b) (hn : n ≤ 12) (h1 : f a b = false) (h2 : f b a = false) :
    ((numsF n f).set a (wrap64 (rd (numsF n f) (a : Int) + 1))).set b (wrap64 (rd ((numsF n f).set a (wrap64 (rd (numsF n f) (a : Int) + 1))) (b : Int) + 1)) = numsF n (withP f a b) := by
  have c1 := cnt_le (f a) n
  have c2 := cnt_le (f b) n
  have e1 : wrap64 (rd (numsF n f) (a : Int) + 1) = ((cnt (withP f a b a) n : Nat) : Int) := by
    rw [numsF_get ha, wrap_id (by omega) (by omega), cnt_one (f := f a) (g := withP f a b a) hb h1 (fun c _ => by unfold withP; simp [hab])]
    omega
  have e2 : wrap64 (rd ((numsF n f).set a (wrap64 (rd (numsF n f) (a : Int) + 1))) (b : Int) + 1) = ((cnt (withP f a b b) n : Nat) : Int) := by
    rw [rd_at (by rw [List.length_set, numsF_length]; exact hb), List.getElem_set_ne hab, numsF_getElem, wrap_id (by omega) (by omega), cnt_one (f := f b) (g := withP f a b b) ha h2 (fun c _ => by unfold withP; simp [show ¬ (b = a) from fun q => hab q.symm])]
    omega
  rw [e2, e1]
  apply List.ext_getElem
  · simp [numsF_length]
  · intro i g1 g2
    rw [numsF_length] at g2
    rw [List.getElem_set, List.getElem_set]
    by_cases i1 : b = i
    · subst i1
      rw [if_pos rfl, numsF_getElem]
    · rw [if_neg i1]
      by_cases i2 : a = i
      · subst i2
        rw [if_pos rfl, numsF_getElem]
      · rw [if_neg i2, numsF_getElem, numsF_getElem]
        congr 1
        apply cnt_congr
        intro c _
        unfold withP
        simp [show ¬ (i = a) from fun q => i2 q.symm, show ¬ (i = b) from fun q => i1 q.symm]

theorem numsF_congr {n : Nat} {f g : Nat → Nat → Bool} (h : ∀ a b, a < n → b < n → f a b = g a b) : numsF n f = numsF n g := by
  unfold numsF
  apply List.map_congr_left
  intro a ha
  rw [cnt_congr (fun b hb => h a b (by simpa using ha) hb)]

theorem paNumbers_ev {n : Nat} {l : List Pr} (hn : n ≤ 12) (hr : Right n l) (hs : ∀ i j, (hj : j < l.length) → (hij : i < j) → lessB l[i] l[j] = true) (h : l.length ≤ 9223372036854775807) :
    Ev (fun k => spec_paNumbers.f k (n : Int) l) (numsF n (adj l)) := by
  refine Ev.congr (f := fun k => spec_paNumbers.l0 k (List.replicate n 0) l (l.length : Int) 0) (fun k => ?_) ?_
  · unfold spec_paNumbers.f
    rw [if_pos (by omega), if_pos (by omega), Int.toNat_natCast]
  · have q := ev_up (n := l.length) (loop := fun k i => spec_paNumbers.l0 k (numsF n (adj (l.take i))) l (l.length : Int) (i : Int)) (r := fun _ => numsF n (adj l))
      (Ev.step (f := fun _ => some (numsF n (adj l))) (fun k => by simp [spec_paNumbers.l0]) (Ev.now _))
      (fun i hi ih => by
        have r := hr _ (List.getElem_mem hi)
        have ea : ((l[i].f0.toNat : Nat) : Int) = l[i].f0 := by omega
        have eb : ((l[i].f1.toNat : Nat) : Int) = l[i].f1 := by omega
        have hf := fresh_pair hr hs hi
        have hput := nums_put (n := n) (adj (l.take i)) (a := l[i].f0.toNat) (b := l[i].f1.toNat) (by omega) (by omega) (by omega) hn hf (by rw [adj_comm]; exact hf)
        rw [ea, eb] at hput
        have hnext : numsF n (withP (adj (l.take i)) l[i].f0.toNat l[i].f1.toNat) = numsF n (adj (l.take (i + 1))) := by
          apply numsF_congr
          intro c d _ _
          rw [List.take_succ_eq_append_getElem hi, adj_snoc]
          unfold withP
          congr 1
          have k1 : decide (c = l[i].f0.toNat) = decide (l[i].f0 = (c : Int)) := by apply decide_eq_decide.mpr; omega
          have k2 : decide (d = l[i].f1.toNat) = decide (l[i].f1 = (d : Int)) := by apply decide_eq_decide.mpr; omega
          have k3 : decide (c = l[i].f1.toNat) = decide (l[i].f1 = (c : Int)) := by apply decide_eq_decide.mpr; omega
          have k4 : decide (d = l[i].f0.toNat) = decide (l[i].f0 = (d : Int)) := by apply decide_eq_decide.mpr; omega
          rw [k1, k2, k3, k4, Bool.and_comm (decide (l[i].f1 = (c : Int)))]
        rw [hnext] at hput
        refine Ev.step (f := fun k => spec_paNumbers.l0 k (numsF n (adj (l.take (i + 1)))) l (l.length : Int) ((i + 1 : Nat) : Int)) (fun k => ?_) ih
        simp only [spec_paNumbers.l0]
        rw [if_pos (by omega), if_pos (by omega), if_pos (by omega), rdP_at hi, if_pos (by omega), if_pos (by rw [numsF_length]; omega), Option.bind_some, if_pos (by omega), if_pos (by rw [numsF_length]; omega), hput, succ_cast hi h]) 0 (Nat.zero_le _)
    have e : numsF n (adj (l.take 0)) = List.replicate n 0 := by
      unfold numsF
      rw [List.eq_replicate_iff]
      refine ⟨by simp, fun b hb => ?_⟩
      obtain ⟨a, _, rfl⟩ := List.mem_map.1 hb
      have hz : ∀ m, cnt (adj (l.take 0) a) m = 0 := by
        intro m
        induction m with
        | zero => rfl
        | succ m ih => rw [cnt_succ, ih, List.take_zero, adj_nil]; rfl
      rw [hz]; rfl
    rw [e] at q
    exact q

theorem number_eq {n : Nat} (hn : n ≤ 12) (f : Nat → Nat → Bool) {a : Nat} (ha : a < n) : impl_table_number.f (tabF n f) (a : Int) = some ((cnt (f a) n : Nat) : Int) := by
  unfold impl_table_number.f
  rw [if_pos (by omega), if_pos (by rw [tabF_length]; omega), tabF_get ha, count_mask (by omega)]; rfl

theorem numbers_ev {n : Nat} (hn : n ≤ 12) (f : Nat → Nat → Bool) : Ev (fun k => impl_table_numbers.f k (tabF n f)) (numsF n f) := by
  have q := ev_up (n := n) (loop := fun k i => impl_table_numbers.l0 k (tabF n f) ((numsF n f).take i) (n : Int) (i : Int)) (r := fun _ => numsF n f)
    (Ev.step (f := fun _ => some (numsF n f)) (fun k => by
      simp only [impl_table_numbers.l0]
      rw [if_neg (by omega), List.take_of_length_le (by rw [numsF_length]; omega)]) (Ev.now _))
    (fun i hi ih => by
      have hin : i < (numsF n f).length := by rw [numsF_length]; exact hi
      refine Ev.step (f := fun k => impl_table_numbers.l0 k (tabF n f) ((numsF n f).take (i + 1)) (n : Int) ((i + 1 : Nat) : Int)) (fun k => ?_) ih
      simp only [impl_table_numbers.l0]
      rw [if_pos (by omega), number_eq hn f hi, Option.bind_some, if_pos (by simp; omega), succ_cast hi (by omega), List.take_succ_eq_append_getElem hin, numsF_getElem]) 0 (Nat.zero_le _)
  refine Ev.congr (f := fun k => impl_table_numbers.l0 k (tabF n f) [] (n : Int) 0) (fun k => ?_) (by simpa using q)
  unfold impl_table_numbers.f
  rw [tabF_length]
end Go.Proofs.Ytipblaifgpnebaa.Plain
