/- Counting over people: sums, and that parties of at most twelve people in which each two have just one common friend are windmills. Plain lemmas. Conditions: the relation is symmetric, nobody is a friend of oneself, and the numbers of friends are even together. -/
import Derived.Test.YtipblaifgpnebaaQ0
import Derived.Test.YtipblaifgpnebaaBase
import Derived.Test.YtipblaifgpnebaaInts
import Derived.Test.YtipblaifgpnebaaParty
import Derived.Test.YtipblaifgpnebaaGraph
namespace Go.Proofs.Ytipblaifgpnebaa.Plain
open Go.RowKit Go.Proofs.YtipblaifgpnebaaW.PrintWords Go.Proofs.YtipblaifgpnebaaW.PrintLast
set_option linter.unusedVariables false
open Q

/-! Sums. -/
def sumN (g : Nat → Nat) : Nat → Nat
  | 0 => 0
  | n + 1 => sumN g n + g n
theorem sumN_congr {g h : Nat → Nat} : ∀ {n}, (∀ b, b < n → g b = h b) → sumN g n = sumN h n
  | 0, _ => rfl
  | n + 1, H => by
    unfold sumN
    rw [sumN_congr (n := n) (fun b hb => H b (by omega)), H n (by omega)]
theorem sumN_add (g h : Nat → Nat) : ∀ n, sumN (fun b => g b + h b) n = sumN g n + sumN h n
  | 0 => rfl
  | n + 1 => by
    unfold sumN
    rw [sumN_add g h n]; omega
theorem sumN_le {g h : Nat → Nat} : ∀ {n}, (∀ b, b < n → g b ≤ h b) → sumN g n ≤ sumN h n
  | 0, _ => Nat.le_refl _
  | n + 1, H => by
    unfold sumN
    have := sumN_le (n := n) (fun b hb => H b (by omega))
    have := H n (by omega)
    omega
theorem sumN_eq_of {g h : Nat → Nat} : ∀ {n}, (∀ b, b < n → g b ≤ h b) → sumN g n = sumN h n → ∀ b, b < n → g b = h b
  | 0, _, _, b, hb => by omega
  | n + 1, H, e, b, hb => by
    unfold sumN at e
    have h1 := sumN_le (n := n) (fun b hb => H b (by omega))
    have h2 := H n (by omega)
    by_cases c : b = n
    · subst c; omega
    · exact sumN_eq_of (n := n) (fun b hb => H b (by omega)) (by omega) b (by omega)
theorem sumN_cnt (p : Nat → Bool) (k : Nat) : ∀ n, sumN (fun c => if p c = true then k else 0) n = k * cnt p n
  | 0 => by simp [sumN, cnt_zero]
  | n + 1 => by
    unfold sumN
    rw [sumN_cnt p k n, cnt_succ]
    by_cases h : p n = true
    · rw [if_pos h, if_pos h, Nat.mul_add, Nat.mul_one]
    · rw [if_neg h, if_neg h]; rfl
theorem sumN_swap (p : Nat → Bool) (q : Nat → Nat → Bool) (n : Nat) : ∀ m, sumN (fun v => cnt (fun c => p c && q v c) n) m = sumN (fun c => if p c = true then cnt (fun v => q v c) m else 0) n
  | 0 => by
    have : sumN (fun c => if p c = true then cnt (fun v => q v c) 0 else 0) n = sumN (fun c => if p c = true then 0 else 0) n := rfl
    rw [this, sumN_cnt]; simp [sumN]
  | m + 1 => by
    have e1 : sumN (fun v => cnt (fun c => p c && q v c) n) (m + 1) = sumN (fun v => cnt (fun c => p c && q v c) n) m + cnt (fun c => p c && q m c) n := rfl
    have e2 : sumN (fun c => if p c = true then cnt (fun v => q v c) (m + 1) else 0) n = sumN (fun c => (if p c = true then cnt (fun v => q v c) m else 0) + (if (p c && q m c) = true then 1 else 0)) n := by
      apply sumN_congr
      intro c _
      rw [cnt_succ]
      cases p c <;> simp
    rw [e1, e2, sumN_add, sumN_swap p q n m, sumN_cnt, Nat.one_mul]
theorem sumN_const (m : Nat) : ∀ n, sumN (fun _ => m) n = m * n
  | 0 => rfl
  | n + 1 => by
    unfold sumN
    rw [sumN_const m n, Nat.mul_add, Nat.mul_one]
theorem sumN_but (u k m : Nat) : ∀ {n}, u < n → sumN (fun v => if v = u then k else m) n = k + m * (n - 1)
  | 0, h => by omega
  | n + 1, h => by
    unfold sumN
    by_cases c : u = n
    · subst c
      have : sumN (fun v => if v = u then k else m) u = sumN (fun _ => m) u := sumN_congr (fun b hb => by rw [if_neg (by omega)])
      rw [this, sumN_const, if_pos rfl, Nat.add_sub_cancel, Nat.add_comm]
    · rw [sumN_but u k m (n := n) (by omega), if_neg (by omega)]
      have e : n + 1 - 1 = (n - 1) + 1 := by omega
      rw [e, Nat.mul_add, Nat.mul_one]; omega

/-! How many hold: those that do. -/
theorem cnt_pos {p : Nat → Bool} {n : Nat} (h : 0 < cnt p n) : ∃ a, a < n ∧ p a = true := by
  unfold cnt at h
  obtain ⟨a, ha, hp⟩ := List.countP_pos_iff.mp h
  exact ⟨a, by simpa using ha, hp⟩
theorem cnt_inj {p q : Nat → Bool} {n : Nat} (g : Nat → Nat) (hg : ∀ x, x < n → p x = true → g x < n ∧ q (g x) = true) (hi : ∀ x y, x < n → y < n → p x = true → p y = true → g x = g y → x = y) : cnt p n ≤ cnt q n := by
  unfold cnt
  rw [List.countP_eq_length_filter, List.countP_eq_length_filter]
  have h1 : (((List.range n).filter p).map g).Nodup := by
    rw [List.nodup_iff_pairwise_ne, List.pairwise_map]
    have hnd : ((List.range n).filter p).Pairwise (· ≠ ·) := (List.nodup_iff_pairwise_ne.mp List.nodup_range).filter _
    refine hnd.imp_of_mem ?_
    intro a b ha hb hab e
    rw [List.mem_filter, List.mem_range] at ha hb
    exact hab (hi a b ha.1 hb.1 ha.2 hb.2 e)
  have h2 : ((List.range n).filter p).map g ⊆ (List.range n).filter q := by
    intro y hy
    obtain ⟨x, hx, rfl⟩ := List.mem_map.1 hy
    rw [List.mem_filter, List.mem_range] at hx
    have := hg x hx.1 hx.2
    exact List.mem_filter.mpr ⟨List.mem_range.mpr this.1, this.2⟩
  have := List.Nodup.length_le_of_subset h1 h2
  simpa using this
theorem cnt_two {p : Nat → Bool} {n a b : Nat} (ha : a < n) (hb : b < n) (hab : a ≠ b) (pa : p a = true) (pb : p b = true) : 2 ≤ cnt p n := by
  have h1 : cnt (fun c => decide (c = a)) n = 1 := by
    have := cnt_one (f := fun _ => false) (g := fun c => decide (c = a)) ha rfl (fun c _ => by simp)
    have z : cnt (fun _ => false) n = 0 := by unfold cnt; simp
    omega
  have h2 : cnt (fun c => decide (c = a) || decide (c = b)) n = 2 := by
    have := cnt_one (f := fun c => decide (c = a)) (g := fun c => decide (c = a) || decide (c = b)) hb (by simp; omega) (fun c _ => rfl)
    omega
  have h3 := cnt_inj (p := fun c => decide (c = a) || decide (c = b)) (q := p) (n := n) id (fun x hx hp => by
    simp only [Bool.or_eq_true, decide_eq_true_eq] at hp
    rcases hp with rfl | rfl
    · exact ⟨hx, pa⟩
    · exact ⟨hx, pb⟩) (fun _ _ _ _ _ _ e => e)
  omega
theorem cnt_unique {p : Nat → Bool} {n a b : Nat} (h : cnt p n = 1) (ha : a < n) (hb : b < n) (pa : p a = true) (pb : p b = true) : a = b := by
  by_cases e : a = b
  · exact e
  · have := cnt_two ha hb e pa pb
    omega
theorem cnt_not (p : Nat → Bool) : ∀ n, cnt p n + cnt (fun b => !p b) n = n
  | 0 => rfl
  | n + 1 => by
    have := cnt_not p n
    rw [cnt_succ, cnt_succ]
    cases p n <;> simp <;> omega
/-- All but one hold. -/
theorem cnt_full {p : Nat → Bool} {n c : Nat} (hc : c < n) (pc : p c = false) (h : n - 1 ≤ cnt p n) : ∀ x, x < n → x ≠ c → p x = true := by
  intro x hx hxc
  cases e : p x with
  | true => rfl
  | false =>
    have := cnt_two (p := fun b => !p b) hx hc hxc (by simp [e]) (by simp [pc])
    have := cnt_not p n
    omega
theorem cnt_all_but {p : Nat → Bool} {n c : Nat} (hc : c < n) (pc : p c = false) (h : ∀ x, x < n → x ≠ c → p x = true) : cnt p n = n - 1 := by
  have h1 : cnt (fun b => !p b) n = cnt (fun b => decide (b = c)) n := cnt_congr (fun b hb => by
    by_cases e : b = c
    · subst e; simp [pc]
    · simp [e, h b hb e])
  have h2 : cnt (fun b => decide (b = c)) n = 1 := by
    have := cnt_one (f := fun _ => false) (g := fun b => decide (b = c)) hc rfl (fun b _ => by simp)
    have z : cnt (fun _ => false) n = 0 := by unfold cnt; simp
    omega
  have := cnt_not p n
  omega

/-! Each two have just one friend in common. -/
section
variable {n : Nat} {f : Nat → Nat → Bool}
def com (f : Nat → Nat → Bool) (n a b : Nat) : Nat := cnt (fun c => f a c && f b c) n
def Friendly (f : Nat → Nat → Bool) (n : Nat) : Prop := ∀ a b, a < n → b < n → a ≠ b → com f n a b = 1
/-- Somebody is a friend of all others. -/
def Centre (f : Nat → Nat → Bool) (n c : Nat) : Prop := c < n ∧ ∀ x, x < n → x ≠ c → f c x = true

theorem one_common (hF : Friendly f n) {a b : Nat} (ha : a < n) (hb : b < n) (hab : a ≠ b) : ∃ y, y < n ∧ f a y = true ∧ f b y = true := by
  obtain ⟨y, hy, h⟩ := cnt_pos (p := fun c => f a c && f b c) (n := n) (by have := hF a b ha hb hab; unfold com at this; omega)
  simp only [Bool.and_eq_true] at h
  exact ⟨y, hy, h.1, h.2⟩
theorem same_common (hF : Friendly f n) {a b x y : Nat} (ha : a < n) (hb : b < n) (hab : a ≠ b) (hx : x < n) (hy : y < n) (h1 : f a x = true) (h2 : f b x = true) (h3 : f a y = true) (h4 : f b y = true) : x = y :=
  cnt_unique (p := fun c => f a c && f b c) (hF a b ha hb hab) hx hy (by simp [h1, h2]) (by simp [h3, h4])

theorem strangers_le (sym : ∀ a b, f a b = f b a) (hF : Friendly f n) {u v : Nat} (hu : u < n) (hv : v < n) (huv : u ≠ v) (h : f u v = false) : cnt (f u) n ≤ cnt (f v) n := by
  have H : ∀ x, ∃ y, x < n → f u x = true → y < n ∧ f x y = true ∧ f v y = true := by
    intro x
    by_cases hx : x < n ∧ f u x = true
    · have hxv : x ≠ v := by rintro rfl; rw [h] at hx; exact absurd hx.2 (by simp)
      obtain ⟨y, h1, h2, h3⟩ := one_common hF hx.1 hv hxv
      exact ⟨y, fun _ _ => ⟨h1, h2, h3⟩⟩
    · exact ⟨0, fun h1 h2 => absurd ⟨h1, h2⟩ hx⟩
  obtain ⟨g, hg⟩ := Classical.axiomOfChoice H
  refine cnt_inj g (fun x hx hp => ⟨(hg x hx hp).1, (hg x hx hp).2.2⟩) (fun x y hx hy px py e => ?_)
  obtain ⟨g1, g2, g3⟩ := hg x hx px
  obtain ⟨_, k2, _⟩ := hg y hy py
  rw [← e] at k2
  have hgu : u ≠ g x := by
    intro q
    rw [← q, sym v u, h] at g3
    exact absurd g3 (by simp)
  exact same_common hF hu g1 hgu hx hy px (by rw [sym]; exact g2) py (by rw [sym]; exact k2)

theorem regular_or_centre (sym : ∀ a b, f a b = f b a) (hF : Friendly f n) : (∃ k, ∀ a, a < n → cnt (f a) n = k) ∨ ∃ c, Centre f n c := by
  by_cases hr : ∃ k, ∀ a, a < n → cnt (f a) n = k
  · exact Or.inl hr
  right
  have h0 : ∃ u v, u < n ∧ v < n ∧ cnt (f u) n ≠ cnt (f v) n := by
    by_cases h : ∃ u v, u < n ∧ v < n ∧ cnt (f u) n ≠ cnt (f v) n
    · exact h
    · exfalso
      apply hr
      refine ⟨cnt (f 0) n, fun a ha => ?_⟩
      by_cases e : cnt (f a) n = cnt (f 0) n
      · exact e
      · exact absurd ⟨a, 0, ha, by omega, e⟩ h
  obtain ⟨u, v, hu, hv, huv⟩ := h0
  have adjAB : ∀ a b, a < n → b < n → cnt (f a) n = cnt (f u) n → cnt (f b) n ≠ cnt (f u) n → f a b = true := by
    intro a b ha hb e1 e2
    cases e : f a b with
    | true => rfl
    | false =>
      have hab : a ≠ b := by rintro rfl; exact e2 e1
      have h1 := strangers_le sym hF ha hb hab e
      have h2 := strangers_le sym hF hb ha hab.symm (by rw [sym]; exact e)
      omega
  by_cases hA : ∃ a, a < n ∧ a ≠ u ∧ cnt (f a) n = cnt (f u) n
  · obtain ⟨a, ha, hau, ea⟩ := hA
    refine ⟨v, hv, fun x hx hxv => ?_⟩
    rw [sym]
    refine adjAB x v hx hv ?_ (fun q => huv q.symm)
    by_cases e : cnt (f x) n = cnt (f u) n
    · exact e
    · exfalso
      exact hxv (same_common hF hu ha hau.symm hx hv (adjAB u x hu hx rfl e) (adjAB a x ha hx ea e) (adjAB u v hu hv rfl (fun q => huv q.symm)) (adjAB a v ha hv ea (fun q => huv q.symm)))
  · refine ⟨u, hu, fun x hx hxu => adjAB u x hu hx rfl (fun q => hA ⟨x, hx, hxu, q⟩)⟩

theorem regular_size (sym : ∀ a b, f a b = f b a) (hF : Friendly f n) (hn : 0 < n) {k : Nat} (hk : ∀ a, a < n → cnt (f a) n = k) : k + (n - 1) = k * k := by
  have e1 : sumN (fun v => com f n 0 v) n = k + (n - 1) := by
    rw [show k + (n - 1) = k + 1 * (n - 1) by omega, ← sumN_but 0 k 1 hn]
    apply sumN_congr
    intro v hv
    by_cases c : v = 0
    · subst c
      rw [if_pos rfl]
      unfold com
      rw [← hk 0 hn]
      apply cnt_congr
      intro b _
      simp
    · rw [if_neg c]
      exact hF 0 v hn hv (fun q => c q.symm)
  have e2 : sumN (fun v => com f n 0 v) n = k * k := by
    unfold com
    rw [sumN_swap (fun c => f 0 c) (fun v c => f v c) n n]
    have : sumN (fun c => if f 0 c = true then cnt (fun v => f v c) n else 0) n = sumN (fun c => if f 0 c = true then k else 0) n := by
      apply sumN_congr
      intro c hc
      have q : cnt (fun v => f v c) n = k := by
        rw [← hk c hc]
        exact cnt_congr (fun b _ => sym b c)
      rw [q]
    rw [this, sumN_cnt, hk 0 hn]
  omega

theorem friendship (sym : ∀ a b, f a b = f b a) (irr : ∀ a, f a a = false) (hF : Friendly f n) (h2 : 2 ≤ n) (h12 : n ≤ 12) {E : Nat} (hE : sumN (fun a => cnt (f a) n) n = 2 * E) : ∃ c, Centre f n c := by
  rcases regular_or_centre sym hF with ⟨k, hk⟩ | h
  · have hs := regular_size sym hF (by omega) hk
    have hk3 : k ≤ 3 := by
      by_cases c : k ≤ 3
      · exact c
      · exfalso
        have : 4 * k ≤ k * k := Nat.mul_le_mul_right k (by omega)
        omega
    have hsum : sumN (fun a => cnt (f a) n) n = k * n := by
      have : sumN (fun a => cnt (f a) n) n = sumN (fun a => if (true : Bool) = true then k else 0) n := sumN_congr (fun b hb => by simp [hk b hb])
      rw [this, sumN_cnt (fun _ => true) k n]
      have h2 : cnt (fun _ => true) n = n := by unfold cnt; simp
      rw [h2]
    have : k = 0 ∨ k = 1 ∨ k = 2 ∨ k = 3 := by omega
    rcases this with rfl | rfl | rfl | rfl
    · omega
    · omega
    · have hn : n = 3 := by omega
      refine ⟨0, by omega, cnt_full (by omega) (irr 0) (by rw [hk 0 (by omega)]; omega)⟩
    · have hn : n = 7 := by omega
      subst hn
      omega
  · exact h

/-- What the reference asks of the numbers of friends. -/
theorem friendly_degrees (sym : ∀ a b, f a b = f b a) (irr : ∀ a, f a a = false) (hF : Friendly f n) (h2 : 2 ≤ n) (h12 : n ≤ 12) {E : Nat} (hE : sumN (fun a => cnt (f a) n) n = 2 * E) :
    (∀ a, a < n → cnt (f a) n = n - 1 ∨ cnt (f a) n = 2) ∧ (∃ a, a < n ∧ cnt (f a) n = n - 1) ∧ 2 * E = 3 * (n - 1) := by
  obtain ⟨c, hc, hcx⟩ := friendship sym irr hF h2 h12 hE
  have dc : cnt (f c) n = n - 1 := cnt_all_but hc (irr c) hcx
  have dx : ∀ x, x < n → x ≠ c → cnt (f x) n = 2 := by
    intro x hx hxc
    have h1 := hF c x hc hx (fun q => hxc q.symm)
    unfold com at h1
    have e : cnt (f x) n = cnt (fun b => f c b && f x b) n + 1 := by
      refine cnt_one (f := fun b => f c b && f x b) (g := f x) hc (by simp [irr]) (fun b hb => ?_)
      by_cases q : b = c
      · subst q
        simp [irr, sym x b, hcx x hx hxc]
      · simp [hcx b hb q, q]
    omega
  refine ⟨fun a ha => ?_, ⟨c, hc, dc⟩, ?_⟩
  · by_cases q : a = c
    · subst q; exact Or.inl dc
    · exact Or.inr (dx a ha q)
  · rw [← hE]
    have : sumN (fun a => cnt (f a) n) n = sumN (fun a => if a = c then n - 1 else 2) n := by
      apply sumN_congr
      intro a ha
      by_cases q : a = c
      · subst q
        rw [if_pos rfl, dc]
      · rw [if_neg q, dx a ha q]
    rw [this, sumN_but c (n - 1) 2 hc]; omega

theorem degrees_friendly (sym : ∀ a b, f a b = f b a) (irr : ∀ a, f a a = false) (h3 : 2 ≤ n) {E : Nat} (hE : sumN (fun a => cnt (f a) n) n = 2 * E)
    (h1 : ∀ a, a < n → cnt (f a) n = n - 1 ∨ cnt (f a) n = 2) (h2 : ∃ a, a < n ∧ cnt (f a) n = n - 1) (hS : 2 * E = 3 * (n - 1)) : Friendly f n := by
  obtain ⟨c, hc, dc⟩ := h2
  have hcx := cnt_full hc (irr c) (by omega : n - 1 ≤ cnt (f c) n)
  have hn3 : 3 ≤ n := by omega
  have dx : ∀ x, x < n → x ≠ c → cnt (f x) n = 2 := by
    intro x hx hxc
    have key := sumN_eq_of (g := fun a => if a = c then n - 1 else 2) (h := fun a => cnt (f a) n) (n := n) (fun b hb => by
      by_cases q : b = c
      · subst q; simp [dc]
      · simp only [if_neg q]
        rcases h1 b hb with h | h <;> omega) (by
        rw [hE, hS, sumN_but c (n - 1) 2 hc]; omega) x hx
    simp only [if_neg hxc] at key
    exact key.symm
  intro a b ha hb hab
  unfold com
  have main : ∀ x y, x < n → y < n → x ≠ y → x ≠ c → y ≠ c → cnt (fun z => f x z && f y z) n = 1 := by
    intro x y hx hy hxy hxc hyc
    have hpos : 0 < cnt (fun z => f x z && f y z) n := by
      unfold cnt
      exact List.countP_pos_iff.mpr ⟨c, by simpa using hc, by simp [sym x c, sym y c, hcx x hx hxc, hcx y hy hyc]⟩
    by_cases q : 2 ≤ cnt (fun z => f x z && f y z) n
    · exfalso
      have e1 : cnt (fun z => f x z && f y z) n = cnt (fun z => decide (z ≠ c) && (f x z && f y z)) n + 1 := by
        refine cnt_one (f := fun z => decide (z ≠ c) && (f x z && f y z)) hc (by simp) (fun z hz => ?_)
        by_cases w : z = c
        · subst w; simp [sym x z, sym y z, hcx x hx hxc, hcx y hy hyc]
        · simp [w]
      obtain ⟨z, hz, pz⟩ := cnt_pos (p := fun z => decide (z ≠ c) && (f x z && f y z)) (n := n) (by omega)
      simp only [Bool.and_eq_true, decide_eq_true_eq] at pz
      obtain ⟨zc, zx, zy⟩ := pz
      have d2 := dx z hz zc
      have e2 : cnt (f z) n = cnt (fun w => decide (w ≠ c) && f z w) n + 1 := by
        refine cnt_one (f := fun w => decide (w ≠ c) && f z w) hc (by simp) (fun w hw => ?_)
        by_cases k : w = c
        · subst k; simp [sym z w, hcx z hz zc]
        · simp [k]
      have := cnt_two (p := fun w => decide (w ≠ c) && f z w) hx hy hxy (by simp [hxc, sym z x, zx]) (by simp [hyc, sym z y, zy])
      omega
    · omega
  have mainc : ∀ x, x < n → x ≠ c → cnt (fun z => f c z && f x z) n = 1 := by
    intro x hx hxc
    have e : cnt (f x) n = cnt (fun b => f c b && f x b) n + 1 := by
      refine cnt_one (f := fun b => f c b && f x b) (g := f x) hc (by simp [irr]) (fun b hb => ?_)
      by_cases q : b = c
      · subst q
        simp [irr, sym x b, hcx x hx hxc]
      · simp [hcx b hb q, q]
    have := dx x hx hxc
    omega
  by_cases qa : a = c
  · subst qa
    exact mainc b hb (fun q => hab q.symm)
  · by_cases qb : b = c
    · subst qb
      have := mainc a ha qa
      rw [← this]
      exact cnt_congr (fun z _ => Bool.and_comm _ _)
    · exact main a b ha hb hab qa qb
end
end Go.Proofs.Ytipblaifgpnebaa.Plain
