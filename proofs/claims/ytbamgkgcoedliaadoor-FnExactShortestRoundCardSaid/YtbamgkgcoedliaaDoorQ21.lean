-- Written by wip/tools/gprint.py (the kit's print, with contracts of this session): Lean checks it.
import Derived.Test.YtbamgkgcoedliaaDoorQ0
namespace Go.Proofs.YtbamgkgcoedliaaDoor.Q
open Go.RowKit Go.Proofs.YtbamgkgcoedliaaDoorW.PrintWords Go.Proofs.YtbamgkgcoedliaaDoorW.PrintLast Go.Proofs.YtbamgkgcoedliaaDoorW.PrintMore
attribute [local go_sem] max2_int min2_int max_two min_two max_three min_three max_four min_four   -- for this text's walks alone
set_option linter.unusedVariables false
set_option linter.unusedSimpArgs false

/-! ### impl_Pair_15: function 15 (proved by hand) -/
/-- A row of pairs without the one at a place. -/
def impl_Pair_15.f (l0 : List (S39)) (a1 a2 : Int) : Option (List (S39)) := if 0 ≤ a1 ∧ a1 < (l0.length : Int) ∧ a2 = a1 + 1 then some (l0.take a1.toNat ++ l0.drop (a1.toNat + 1)) else none
/-- The cells of a row of pairs. -/
def flatP (l : List (S39)) : List Value := l.flatMap fun x => [.int .i64 x.f0, .int .i64 x.f1]
theorem flatP_length : ∀ l : List (S39), (flatP l).length = l.length * 2
 | [] => rfl
 | x :: l => by
  have h := flatP_length l
  simp only [flatP, List.flatMap_cons, List.length_append, List.length_cons, List.length_nil] at h ⊢
  omega
theorem flatP_append (l m : List (S39)) : flatP (l ++ m) = flatP l ++ flatP m := by simp [flatP, List.flatMap_append]
theorem flatP_take : ∀ (l : List (S39)) (k : Nat), (flatP l).take (k * 2) = flatP (l.take k)
 | [], k => by simp [flatP]
 | x :: l, 0 => by simp [flatP]
 | x :: l, k + 1 => by
  have h := flatP_take l k
  have e : (k + 1) * 2 = k * 2 + 1 + 1 := by omega
  rw [e]
  show (Value.int .i64 x.f0 :: Value.int .i64 x.f1 :: flatP l).take (k * 2 + 1 + 1) = _
  rw [List.take_succ_cons, List.take_succ_cons, h]; rfl
theorem flatP_drop : ∀ (l : List (S39)) (k : Nat), (flatP l).drop (k * 2) = flatP (l.drop k)
 | [], k => by simp [flatP]
 | x :: l, 0 => by simp [flatP]
 | x :: l, k + 1 => by
  have h := flatP_drop l k
  have e : (k + 1) * 2 = k * 2 + 1 + 1 := by omega
  rw [e]
  show (Value.int .i64 x.f0 :: Value.int .i64 x.f1 :: flatP l).drop (k * 2 + 1 + 1) = _
  rw [List.drop_succ_cons, List.drop_succ_cons, h]; rfl
theorem flatP_one {l : List (S39)} {v : Value} (h : v ∈ flatP l) : v.oneCell' = true := by
 unfold flatP at h
 obtain ⟨x, _, hv⟩ := List.mem_flatMap.1 h
 simp only [List.mem_cons, List.not_mem_nil, or_false] at hv
 rcases hv with rfl | rfl <;> rfl
theorem flatP_of {w : World} {base : Nat} {ok : Nat → Prop} : ∀ {l : List (S39)} {cs : List Value}, Reps (k39.M w base ok) 2 l cs → cs = flatP l := by
 intro l cs h
 apply List.ext_getElem
 ·rw [h.1, flatP_length]
 ·intro j h1 h2
  have hj : j / 2 < l.length := by rw [h.1] at h1; omega
  have hk := k39_openM (h.2 (j / 2) l[j / 2] (List.getElem?_eq_getElem hj))
  have e1 : ((cs.drop (j / 2 * 2)).take 2)[j % 2]? = some cs[j] := by
   rw [List.getElem?_take_of_lt (by omega), List.getElem?_drop, show j / 2 * 2 + j % 2 = j by omega, List.getElem?_eq_getElem h1]
  have e2 : (((flatP l).drop (j / 2 * 2)).take 2)[j % 2]? = some (flatP l)[j] := by
   rw [List.getElem?_take_of_lt (by omega), List.getElem?_drop, show j / 2 * 2 + j % 2 = j by omega, List.getElem?_eq_getElem h2]
  rw [hk] at e1
  rw [flatP_drop, List.drop_eq_getElem_cons hj] at e2
  have e3 : (flatP (l[j / 2] :: l.drop (j / 2 + 1))).take 2 = [.int .i64 l[j / 2].f0, .int .i64 l[j / 2].f1] := rfl
  rw [e3] at e2
  exact Option.some.inj (e1.symm.trans e2)
theorem flatP_reps (w : World) (base : Nat) (ok : Nat → Prop) (l : List (S39)) : Reps (k39.M w base ok) 2 l (flatP l) := by
 refine ⟨flatP_length l, fun j p hj => ?_⟩
 obtain ⟨hj1, hj2⟩ := List.getElem?_eq_some_iff.1 hj
 rw [flatP_drop, List.drop_eq_getElem_cons hj1, hj2]
 exact k39_mkM _ _ _ p
theorem clearP (w : World) (ty b o c : Nat) (hc : ∀ j, j < 2 → (w.cell? ⟨b, o + j, none⟩).isSome = true) (hf : ∀ j, j < 2 → w.frozen? ⟨b, o + j, none⟩ = false) :
  (Builtin.clear_ #[28] ty #[.slice (some ⟨b, o, none⟩) 1 c]).run Tryd.prog w = .ok (.tuple #[]) (w.setCells b o [.int .i64 0, .int .i64 0]) := by
 have hv : ∀ w, (zeroValue 39).run Tryd.prog w = .ok (.agg #[(.int .i64 0), (.int .i64 0)]) w := by
  intro w
  obtain ⟨i, hi, hz, _⟩ := info_parts info39
  simp [zeroValue, typeInfo, hi, hz]
 have hst := run_storeCells_cells (P := Tryd.prog) b o [.int .i64 0, .int .i64 0] 0 w (by simpa using hc) (by simpa using hf) (by intro v hv'; simp only [List.mem_cons, List.not_mem_nil, or_false] at hv'; rcases hv' with rfl | rfl <;> rfl)
 simp only [Nat.add_zero] at hst
 have hzc : (Builtin.zeroCells (Value.agg #[(.int .i64 0), (.int .i64 0)]).cells 1).toList = [.int .i64 0, .int .i64 0] := by
  simp [Builtin.zeroCells, Value.cells, List.range_succ]
 simp [Builtin.clear_, run_underlying Tryd.underlying28, hv, hzc, hst]
set_option maxHeartbeats 8000000 in
set_option maxRecDepth 100000 in
theorem impl_Pair_15.walk (g cap n i j : Nat) (cur : Array Value) (w : World) (hgb : w.heap[g]? = some (.cells cur 39 (0, 0))) (hij : i < j) (hj : j ≤ n) (hcap : n ≤ cap) (hm : cap ≤ 9223372036854775807) (hsz : cur.size = cap * 2) (hone : ∀ u ∈ (cur.toList.take (n * 2)).drop (j * 2), u.oneCell' = true) (hj1 : j = i + 1) :
  Calls Tryd.prog 15 #[.slice (some ⟨g, 0, none⟩) n cap, .int .i64 i, .int .i64 j] w fun e w' => e = .returned (.slice (some ⟨g, 0, none⟩) (n - 1) cap) ∧ w' = (w.drew.setCells g (i * 2) ((cur.toList.take (n * 2)).drop (j * 2))).setCells g ((n - 1) * 2) [.int .i64 0, .int .i64 0] := by
 obtain ⟨i0, hi0, hz0, hz1, hz2⟩ := info_parts info39
 have t28 := Tryd.underlying28
 have hcell : ∀ k, k < cap * 2 → ∃ v, w.cell? ⟨g, k, none⟩ = some v ∧ cur[k]? = some v := fun k hk => ⟨cur[k]'(by omega), by rw [qaa hgb k, Array.getElem?_eq_getElem (by omega)], Array.getElem?_eq_getElem (by omega)⟩
 have hfro : ∀ k, w.frozen? ⟨g, k, none⟩ = false := fun k => qam hgb k
 obtain ⟨news, hnews⟩ : ∃ news, news = (cur.toList.take (n * 2)).drop (j * 2) := ⟨_, rfl⟩
 rw [← hnews] at hone ⊢
 have hlen : news.length = (n - j) * 2 := by rw [hnews, List.length_drop, List.length_take, Array.length_toList]; omega
 have hget : ∀ t u, news[t]? = some u → w.cell? ⟨g, j * 2 + t, none⟩ = some u := by
  intro t u hu
  have ht : t < (n - j) * 2 := by
   have := (List.getElem?_eq_some_iff.1 hu).1
   omega
  rw [hnews, List.getElem?_drop, List.getElem?_take_of_lt (by omega), Array.getElem?_toList] at hu
  rw [qaa hgb]; exact hu
 obtain ⟨A, hA, hsrc⟩ : ∃ A : Addr, (if cap = j then (some ⟨g, 0, none⟩ : Option Addr) else some ⟨g, j * 2, none⟩) = some A ∧ Aside0 (∀ t u, news[t]? = some u → w.drew.cell? (A.add t) = some u) := by
  by_cases h : cap = j
  ·refine ⟨⟨g, 0, none⟩, by rw [if_pos h], ⟨fun t u hu => ?_⟩⟩
   have := (List.getElem?_eq_some_iff.1 hu).1
   omega
  ·refine ⟨⟨g, j * 2, none⟩, by rw [if_neg h], ⟨fun t u hu => ?_⟩⟩
   rw [Addr.add_lit]
   exact hget t u hu
 have s1 := Aside0.mk hlen
 have s2 := Aside0.mk hone
 have s3 : Aside0 (∀ t, t < news.length → (w.drew.cell? ⟨g, 0 + i * 2 + t, none⟩).isSome = true ∧ w.drew.frozen? ⟨g, 0 + i * 2 + t, none⟩ = false) := by
  refine ⟨fun t ht => ?_⟩
  obtain ⟨v, hv, _⟩ := hcell (0 + i * 2 + t) (by omega)
  exact ⟨by show (w.cell? _).isSome = true; rw [hv]; rfl, hfro _⟩
 obtain ⟨W1, hW1⟩ : ∃ W1, W1 = w.drew.setCells g (0 + i * 2) news := ⟨_, rfl⟩
 obtain ⟨cur1, hc1, hc2, hc3⟩ := setCells_row news (0 + i * 2) w.drew cur hgb (by omega)
 rw [← hW1] at hc1
 have hcl : ∀ ty, (Builtin.clear_ #[28] ty #[.slice (some ⟨g, (i + (n - j)) * 2, none⟩) (n - (i + (n - j))) (cap - (i + (n - j)))]).run Tryd.prog W1 = .ok (.tuple #[]) (W1.setCells g ((i + (n - j)) * 2) [.int .i64 0, .int .i64 0]) := fun ty => by
  rw [show n - (i + (n - j)) = 1 by omega]
  exact clearP W1 ty g _ _ (fun k hk => by rw [qaa hc1, Array.getElem?_eq_getElem (by omega)]; rfl) (fun k hk => qam hc1 _)
 have hW : Aside0 (W1 = w.drew.setCells g (0 + i * 2) news) := ⟨hW1⟩
 have hic : i ≤ cap := by omega
 have hjc : j ≤ cap := by omega
 have HJ := Aside0.mk hj1
 clear hj1
 clear hnews hlen hone hcell hfro hget hW1 hc1 hc2 hc3 hgb
 go_enter Tryd.func15, Tryd.ntmps15
 go_wp2_with fail
 go_region_law (refine step_append_room rfl (.tmp 22) (.tmp 25) 28 rfl 39 i0 2 t28 hi0 hz1 g 0 i cap (by simp [Act.eval, Act.put]) A (n - j) (cap - j) news (by simp [Act.eval, Act.put]) s1.out hsrc.out s2.out (by omega) s3.out ?_; rw [← hW.out])
 go_wp2
 go_ret
 have hj1 := HJ.out
 refine ⟨by rw [show n - 1 = i + (n - j) by omega]; rfl, ?_⟩
 rw [hW.out, Nat.zero_add, show n - 1 = i + (n - j) by omega]
set_option maxHeartbeats 2000000 in
theorem impl_Pair_15.calls (P0_ : Nat → Prop) (u9000_ : Value) (l0 : List (S39)) (a1 a2 : Int) (r : List (S39)) (w0 w : World) (hB : Below w0.heap.size w0 w) (ho0 : Kd.R k39 39 w w0.heap.size P0_ u9000_ l0) (h : impl_Pair_15.f l0 a1 a2 = some r) :
  Calls Tryd.prog 15 #[u9000_, .int .i64 a1, .int .i64 a2] w fun e w' => ∃ v0_ : Value, e = .returned (v0_) ∧ Kd.R k39 39 w' w0.heap.size (fun k_ => (P0_ k_ ∨ w.heap.size ≤ k_)) v0_ r ∧ Below w0.heap.size w0 w' ∧ Kept w w' (fun k_ => P0_ k_) := by
 unfold impl_Pair_15.f at h
 by_cases c : 0 ≤ a1 ∧ a1 < (l0.length : Int) ∧ a2 = a1 + 1
 rotate_left
 ·rw [if_neg c] at h; cases h
 rw [if_pos c] at h
 obtain rfl := Option.some.inj h
 obtain ⟨c0, c1, c2⟩ := c
 obtain ⟨i, rfl⟩ : ∃ i : Nat, a1 = (i : Int) := ⟨a1.toNat, by omega⟩
 obtain ⟨j, hj⟩ : ∃ j : Nat, j = i + 1 := ⟨_, rfl⟩
 obtain rfl : a2 = (j : Int) := by omega
 have hi : i < l0.length := by omega
 clear h
 rw [Int.toNat_natCast, ← hj]
 obtain ⟨hok, inner, hown, hreps⟩ := ho0
 have hin := flatP_of hreps
 subst hin
 rcases hown.2 with ⟨_, hz⟩ | ⟨g, cap, cur, rfl, hbs, hgb, r1, r2, r3, r4⟩
 ·omega
 replace r3 : cur.size = cap * 2 := r3
 replace r4 : cur.toList.take (l0.length * 2) = flatP l0 := r4
 have hp : P0_ g := hok g (by simp [Value.ownBlock])
 have hnews : (cur.toList.take (l0.length * 2)).drop (j * 2) = flatP (l0.drop j) := by rw [r4, flatP_drop]
 have hnl : (flatP (l0.drop j)).length = (l0.length - j) * 2 := by rw [flatP_length, List.length_drop]
 refine (impl_Pair_15.walk g cap l0.length i j cur w hgb (by omega) (by omega) r1 (by simp only [maxLen] at r2; omega) r3 (fun u hu => by rw [hnews] at hu; exact flatP_one hu) hj).mono ?_
 rintro e w' ⟨rfl, hw'⟩
 rw [hnews] at hw'
 obtain ⟨cur1, hc1, hc2, hc3⟩ := setCells_row (flatP (l0.drop j)) (i * 2) w.drew cur hgb (by omega)
 obtain ⟨cur2, hd1, hd2, hd3⟩ := setCells_row [.int .i64 0, .int .i64 0] ((l0.length - 1) * 2) _ cur1 hc1 (by simp only [List.length_cons, List.length_nil]; omega)
 rw [← hw'] at hd1
 have hg : w.grownBy w' (some g) := by
  obtain ⟨x1, x2, x3, x4⟩ := setCells_same g (flatP (l0.drop j)) (i * 2) w.drew
  obtain ⟨y1, y2, y3, y4⟩ := setCells_same g [.int .i64 0, .int .i64 0] ((l0.length - 1) * 2) (w.drew.setCells g (i * 2) (flatP (l0.drop j)))
  rw [← hw'] at y1 y2 y3 y4
  refine ⟨?_, ?_, ?_, ?_, fun k hk hne => ?_⟩
  all_goals first | exact y1.trans x1 | exact y2.trans x2 | exact y3.trans x3 | exact (y4.trans x4).symm ▸ Nat.le_refl _ | skip
  rw [hw', setCells_far _ _ k (fun e => hne (by rw [e])), setCells_far _ _ k (fun e => hne (by rw [e]))]
  rfl
 refine ⟨_, rfl, ?_, hB.grown hg hB.size (fun q hq => by cases hq; exact hbs), Kept.of_grown hg (Kept.refl _ _) (fun q hq => by cases hq; exact .inl hp)⟩
 have hlen : (l0.take i ++ l0.drop j).length = l0.length - 1 := by rw [List.length_append, List.length_take, List.length_drop]; omega
 refine ⟨fun q hq => by simp only [Value.ownBlock, Option.some.injEq] at hq; subst hq; exact .inl hp, flatP (l0.take i ++ l0.drop j), ⟨by rw [flatP_length]; rfl, .inr ⟨g, cap, cur2, ?_, hbs, hd1, ?_, r2, ?_, ?_⟩⟩, flatP_reps _ _ _ _⟩
 ·rw [hlen]
 ·omega
 ·show cur2.size = cap * 2
  omega
 ·show cur2.toList.take ((l0.take i ++ l0.drop j).length * 2) = _
  have e1 : cur.toList.take (i * 2) = flatP (l0.take i) := by
   rw [← flatP_take, ← r4, List.take_take, Nat.min_eq_left (by omega)]
  have e2 : (l0.length - 1) * 2 ≤ (cur1.toList.take ((l0.length - 1) * 2)).length := by
   have h5 : cur1.toList.length = cap * 2 := Array.length_toList.trans (hc2.trans r3)
   rw [List.length_take, h5]
   omega
  have e3 : (flatP (l0.take i)).length = i * 2 := by rw [flatP_length, List.length_take]; omega
  rw [hlen, hd3, List.append_assoc, List.take_append_of_le_length e2, List.take_take, Nat.min_self, hc3, e1, List.take_append_of_le_length (by rw [List.length_append, hnl, e3]; omega), List.take_of_length_le (by rw [List.length_append, hnl, e3]; omega), flatP_append]

end Go.Proofs.YtbamgkgcoedliaaDoor.Q
