/- The party of a table, on both sides. No condition but that there are at most twelve people. -/
import Derived.Test.YtipblaifgpnebaaQ0
import Derived.Test.YtipblaifgpnebaaQ59
import Derived.Test.YtipblaifgpnebaaQ65
import Derived.Test.YtipblaifgpnebaaQ66
import Derived.Test.YtipblaifgpnebaaBase
import Derived.Test.YtipblaifgpnebaaInts
import Derived.Test.YtipblaifgpnebaaParty
import Derived.Test.YtipblaifgpnebaaGraph
import Derived.Test.YtipblaifgpnebaaTable
import Derived.Test.YtipblaifgpnebaaTableB
namespace Go.Proofs.Ytipblaifgpnebaa.Plain
open Go.RowKit Go.Proofs.YtipblaifgpnebaaW.PrintWords Go.Proofs.YtipblaifgpnebaaW.PrintLast
set_option linter.unusedVariables false
open Q

theorem has_eq {n : Nat} (hn : n ≤ 12) (f : Nat → Nat → Bool) {a b : Nat} (ha : a < n) (hb : b < n) : impl_table_has.f (tabF n f) (a : Int) (b : Int) = some (f a b) := by
  unfold impl_table_has.f
  rw [if_pos (by omega), if_pos (by rw [tabF_length]; omega), if_pos (by omega), tabF_get ha]
  have hm := mask16 (f := f a) (n := n) (by omega)
  have e1 : shr .u16 ((maskOf (f a) n : Nat) : Int) (b : Int) = ((maskOf (f a) n / 2 ^ b : Nat) : Int) := by
    unfold shr
    have h1 : min ((b : Int)).toNat IntKind.u16.bits = b := by
      rw [Int.toNat_natCast]
      exact Nat.min_eq_left (by show b ≤ 16; omega)
    rw [h1]
    simp
  have hlt : maskOf (f a) n / 2 ^ b < 2 ^ 16 := Nat.lt_of_le_of_lt (Nat.div_le_self _ _) hm
  have e2 : Go.bits .and .u16 ((maskOf (f a) n / 2 ^ b : Nat) : Int) 1 = (((maskOf (f a) n / 2 ^ b) % 2 : Nat) : Int) := by
    rw [show (1 : Int) = ((1 : Nat) : Int) by rfl, and16 hlt (by omega), Nat.and_one_is_mod]
  rw [e1, e2]
  have hb2 := maskOf_bit (f a) n b
  rw [Nat.testBit_eq_decide_div_mod_eq, decide_eq_true hb, Bool.true_and] at hb2
  congr 1
  rw [← hb2, Bool.eq_iff_iff, beq_iff_eq, decide_eq_true_eq]
  omega

/-- A person's pairs with people from b on. -/
def rowFrom (n : Nat) (f : Nat → Bool) (a b : Nat) : List Pr := ((List.range n).drop b).filterMap fun c => if f c = true then some ⟨(a : Int), (c : Int)⟩ else none
/-- The pairs of people from a on. -/
def restFrom (n : Nat) (f : Nat → Nat → Bool) (a : Nat) : List Pr := ((List.range n).drop a).flatMap fun a => rowFrom n (f a) a (a + 1)
/-- The pairs of a relation, in order. -/
def pairsF (n : Nat) (f : Nat → Nat → Bool) : List Pr := restFrom n f 0

theorem rowFrom_end (n : Nat) (f : Nat → Bool) (a b : Nat) (h : n ≤ b) : rowFrom n f a b = [] := by
  unfold rowFrom
  rw [List.drop_of_length_le (by simpa using h)]; rfl
theorem rowFrom_step {n : Nat} {f : Nat → Bool} {a b : Nat} (h : b < n) : rowFrom n f a b = (if f b = true then [⟨(a : Int), (b : Int)⟩] else []) ++ rowFrom n f a (b + 1) := by
  unfold rowFrom
  rw [List.drop_eq_getElem_cons (by simpa using h), List.filterMap_cons, List.getElem_range]
  by_cases c : f b = true
  · rw [if_pos c, if_pos c]; rfl
  · rw [if_neg c, if_neg c]; rfl
theorem restFrom_end (n : Nat) (f : Nat → Nat → Bool) : restFrom n f n = [] := by
  unfold restFrom
  rw [List.drop_of_length_le (by simp)]; rfl
theorem restFrom_step {n : Nat} {f : Nat → Nat → Bool} {a : Nat} (h : a < n) : restFrom n f a = rowFrom n (f a) a (a + 1) ++ restFrom n f (a + 1) := by
  unfold restFrom
  rw [List.drop_eq_getElem_cons (by simpa using h), List.flatMap_cons, List.getElem_range]

theorem paOf_ev {n : Nat} (hn : n ≤ 12) (f : Nat → Nat → Bool) : Ev (fun k => spec_paOf.f k (tabB n f)) ((n : Int), pairsF n f) := by
  have outer : ∀ d a acc, a ≤ n → n - a = d → List.length acc ≤ 12 * a → Ev (fun k => spec_paOf.l0 k (tabB n f) (n : Int) (a : Int) (n : Int) acc) ((n : Int), acc ++ restFrom n f a) := by
    intro d
    induction d with
    | zero =>
      intro a acc ha hd _
      have e : a = n := by omega
      subst e
      rw [restFrom_end, List.append_nil]
      refine Ev.step (f := fun _ => some ((a : Int), acc)) (fun k => ?_) (Ev.now _)
      simp only [spec_paOf.l0]
      rw [if_neg (by omega)]
    | succ d ihd =>
      intro a acc ha hd hacc
      have han : a < n := by omega
      have inner : ∀ e b acc, a < b → b ≤ n → n - b = e → List.length acc ≤ 12 * a + b - 1 → Ev (fun k => spec_paOf.l1 k (tabB n f) (a : Int) (b : Int) (n : Int) (a : Int) (n : Int) acc) ((n : Int), acc ++ (rowFrom n (f a) a b ++ restFrom n f (a + 1))) := by
        intro e
        induction e with
        | zero =>
          intro b acc hab hb he hacc
          have e : b = n := by omega
          subst e
          rw [rowFrom_end _ _ _ _ (Nat.le_refl _), List.nil_append]
          refine Ev.step (f := fun k => spec_paOf.l0 k (tabB b f) (b : Int) ((a + 1 : Nat) : Int) (b : Int) acc) (fun k => ?_) (ihd (a + 1) acc (by omega) (by omega) (by omega))
          simp only [spec_paOf.l1]
          rw [if_neg (by rw [tabB_length]; omega), succ_cast han (by omega)]
        | succ e ihe =>
          intro b acc hab hb he hacc
          have hbn : b < n := by omega
          have hg : (rowB n (f a)).length = n := rowB_length _ _
          have hv : rdOf false (rowB n (f a)) (b : Int) = f a b := by rw [rdOfB_at (by rw [hg]; exact hbn), rowB_get]
          rw [rowFrom_step hbn]
          by_cases c : f a b = true
          · refine Ev.step (f := fun k => spec_paOf.l1 k (tabB n f) (a : Int) ((b + 1 : Nat) : Int) (n : Int) (a : Int) (n : Int) (acc ++ [⟨(a : Int), (b : Int)⟩])) (fun k => ?_) (by
              have := ihe (b + 1) (acc ++ [⟨(a : Int), (b : Int)⟩]) (by omega) (by omega) (by omega) (by simp; omega)
              rw [if_pos c]
              rw [List.append_assoc] at this ⊢
              exact this)
            simp only [spec_paOf.l1]
            rw [if_pos (by rw [tabB_length]; omega), if_pos (by omega), if_pos (by rw [tabB_length]; omega), if_pos (by omega), tabB_get han, if_pos (by rw [hg]; omega), hv, if_pos c, if_pos (by omega), succ_cast hbn (by omega)]
          · refine Ev.step (f := fun k => spec_paOf.l1 k (tabB n f) (a : Int) ((b + 1 : Nat) : Int) (n : Int) (a : Int) (n : Int) acc) (fun k => ?_) (by
              have := ihe (b + 1) acc (by omega) (by omega) (by omega) (by omega)
              rw [if_neg c, List.nil_append]
              exact this)
            simp only [spec_paOf.l1]
            rw [if_pos (by rw [tabB_length]; omega), if_pos (by omega), if_pos (by rw [tabB_length]; omega), if_pos (by omega), tabB_get han, if_pos (by rw [hg]; omega), hv, if_neg c, succ_cast hbn (by omega)]
      rw [restFrom_step han]
      refine Ev.step (f := fun k => spec_paOf.l1 k (tabB n f) (a : Int) ((a + 1 : Nat) : Int) (n : Int) (a : Int) (n : Int) acc) (fun k => ?_) (inner (n - (a + 1)) (a + 1) acc (by omega) (by omega) rfl (by omega))
      simp only [spec_paOf.l0]
      rw [if_pos (by omega), succ_cast han (by omega)]
  refine Ev.congr (f := fun k => spec_paOf.l0 k (tabB n f) (n : Int) 0 (n : Int) []) (fun k => ?_) (outer n 0 [] (Nat.zero_le _) rfl (by simp))
  unfold spec_paOf.f
  rw [tabB_length]

theorem party_ev {n : Nat} (hn : n ≤ 12) (f : Nat → Nat → Bool) : Ev (fun k => impl_table_party.f k (tabF n f)) ((n : Int), pairsF n f) := by
  have outer : ∀ d a acc, a ≤ n → n - a = d → List.length acc ≤ 12 * a → Ev (fun k => impl_table_party.l0 k (tabF n f) (n : Int) (a : Int) (n : Int) acc) ((n : Int), acc ++ restFrom n f a) := by
    intro d
    induction d with
    | zero =>
      intro a acc ha hd _
      have e : a = n := by omega
      subst e
      rw [restFrom_end, List.append_nil]
      refine Ev.step (f := fun _ => some ((a : Int), acc)) (fun k => ?_) (Ev.now _)
      simp only [impl_table_party.l0]
      rw [if_neg (by omega)]
    | succ d ihd =>
      intro a acc ha hd hacc
      have han : a < n := by omega
      have inner : ∀ e b acc, a < b → b ≤ n → n - b = e → List.length acc ≤ 12 * a + b - 1 → Ev (fun k => impl_table_party.l1 k (tabF n f) (a : Int) (b : Int) (n : Int) (a : Int) (n : Int) acc) ((n : Int), acc ++ (rowFrom n (f a) a b ++ restFrom n f (a + 1))) := by
        intro e
        induction e with
        | zero =>
          intro b acc hab hb he hacc
          have e : b = n := by omega
          subst e
          rw [rowFrom_end _ _ _ _ (Nat.le_refl _), List.nil_append]
          refine Ev.step (f := fun k => impl_table_party.l0 k (tabF b f) (b : Int) ((a + 1 : Nat) : Int) (b : Int) acc) (fun k => ?_) (ihd (a + 1) acc (by omega) (by omega) (by omega))
          simp only [impl_table_party.l1]
          rw [if_neg (by rw [tabF_length]; omega), succ_cast han (by omega)]
        | succ e ihe =>
          intro b acc hab hb he hacc
          have hbn : b < n := by omega
          rw [rowFrom_step hbn]
          by_cases c : f a b = true
          · refine Ev.step (f := fun k => impl_table_party.l1 k (tabF n f) (a : Int) ((b + 1 : Nat) : Int) (n : Int) (a : Int) (n : Int) (acc ++ [⟨(a : Int), (b : Int)⟩])) (fun k => ?_) (by
              have := ihe (b + 1) (acc ++ [⟨(a : Int), (b : Int)⟩]) (by omega) (by omega) (by omega) (by simp; omega)
              rw [if_pos c]
              rw [List.append_assoc] at this ⊢
              exact this)
            simp only [impl_table_party.l1]
            rw [if_pos (by rw [tabF_length]; omega), has_eq hn f han hbn, Option.bind_some, if_pos c, if_pos (by omega), succ_cast hbn (by omega)]
          · refine Ev.step (f := fun k => impl_table_party.l1 k (tabF n f) (a : Int) ((b + 1 : Nat) : Int) (n : Int) (a : Int) (n : Int) acc) (fun k => ?_) (by
              have := ihe (b + 1) acc (by omega) (by omega) (by omega) (by omega)
              rw [if_neg c, List.nil_append]
              exact this)
            simp only [impl_table_party.l1]
            rw [if_pos (by rw [tabF_length]; omega), has_eq hn f han hbn, Option.bind_some, if_neg c, succ_cast hbn (by omega)]
      rw [restFrom_step han]
      refine Ev.step (f := fun k => impl_table_party.l1 k (tabF n f) (a : Int) ((a + 1 : Nat) : Int) (n : Int) (a : Int) (n : Int) acc) (fun k => ?_) (inner (n - (a + 1)) (a + 1) acc (by omega) (by omega) rfl (by omega))
      simp only [impl_table_party.l0]
      rw [if_pos (by omega), succ_cast han (by omega)]
  refine Ev.congr (f := fun k => impl_table_party.l0 k (tabF n f) (n : Int) 0 (n : Int) []) (fun k => ?_) (outer n 0 [] (Nat.zero_le _) rfl (by simp))
  unfold impl_table_party.f
  rw [tabF_length]
end Go.Proofs.Ytipblaifgpnebaa.Plain
