/- What impl.number and impl.ParsePainting take from the library: strings.Split at a colon, strconv.Atoi and strconv.Itoa, under the package variables that they read. -/
import Derived.Test.YtnmhhhpllffpeaaDoorProg
import Derived.Test.YtnmhhhpllffpeaaDoorShelf
import Derived.Lib.ConvBytes
import Derived.Lib.SmallJoins
import Derived.Lib.AppendIntMem
import Derived.Test.YtnmhhhpllffpeaaDoorV1
import Derived.Test.YtnmhhhpllffpeaaDoorV2WGuardMore
namespace Go.Proofs.YtnmhhhpllffpeaaDoor.Q
open Go.RowKit Go.Proofs.YtnmhhhpllffpeaaDoorW.PrintWords Go.Proofs.YtnmhhhpllffpeaaDoorW.PrintLast Go.Proofs.YtnmhhhpllffpeaaDoorW.PrintMore
set_option linter.unusedVariables false
/-- The package variables that the library's functions read. -/
structure Tab (w : World) : Prop where
  mx : ∃ m, w.cell? ⟨1, 0, none⟩ = some (.int .i64 m)
  es : ∃ tp p, w.var? Tryd.prog "strconv.ErrSyntax" = some #[.iface tp p]
  er : ∃ tp p, w.var? Tryd.prog "strconv.ErrRange" = some #[.iface tp p]
  tb : Lib.TabIs Tryd.prog w "internal/strconv.uint64pow10" .u64 Lib.pow10Tab
theorem var_below {P : Program} {w W : World} {n : String} {cs : Array Value} (h : w.var? P n = some cs) (hb : Below w.heap.size w W) : W.var? P n = some cs := by
  unfold World.var? at h ⊢
  cases hg : P.globalNamed n with
  | none => simp [hg] at h
  | some g =>
    simp only [hg, Option.bind_some] at h ⊢
    have hlt : g < w.heap.size := by
      rcases Nat.lt_or_ge g w.heap.size with h' | h'
      · exact h'
      · simp [Array.getElem?_eq_none h'] at h
    rw [hb.block g hlt]
    exact h
theorem Tab.below {w W : World} (h : Tab w) (hb : Below w.heap.size w W) : Tab W := by
  obtain ⟨⟨m, h1⟩, ⟨t2, p2, h2⟩, ⟨t3, p3, h3⟩, h4⟩ := h
  exact ⟨⟨m, (hb.cell (World.block_lt_of_cell? w _ h1)).trans h1⟩, ⟨t2, p2, var_below h2 hb⟩, ⟨t3, p3, var_below h3 hb⟩, var_below h4 hb⟩
theorem bytes_same {a b : ByteArray} (h : a.toList = b.toList) : a = b := by
  rw [ByteArray.toList_eq, ByteArray.toList_eq] at h
  cases a; cases b
  simpa using h
/-- The pieces between the colons. -/
def piecesOf (s : ByteArray) : List ByteArray := Lib.splitB ⟨#[58]⟩ 0 (Lib.countB s ⟨#[58]⟩) s
theorem parse_Split (s : ByteArray) (w : World) (hG : Tab w) (hs : s.size < 4294967281) :
    Calls Tryd.prog 16 #[.string s, .string ⟨#[58]⟩] w fun e w' => ∃ g, e = .returned (.slice (some ⟨g, 0, none⟩) (piecesOf s).length (piecesOf s).length) ∧ w.heap.size ≤ g ∧ w'.heap[g]? = some (.cells ((piecesOf s).map Value.string).toArray 9 (0, 0)) ∧ Below w.heap.size w w' := by
  obtain ⟨m, hm⟩ := hG.mx
  refine (Tryd.strings_Split s ⟨#[58]⟩ m w hs hm (by decide)).mono ?_
  rintro e w' ⟨rfl, rfl⟩
  have hl : (piecesOf s).length = Lib.countB s ⟨#[58]⟩ + 1 := Lib.splitB_all ⟨#[58]⟩ (by decide) 0 _ s rfl
  refine ⟨w.heap.size, by rw [hl], Nat.le_refl _, blk_new w _, below_alloc (Below.refl _ _) _⟩
/-- What strconv.Atoi tells: the number, if there was no error. -/
def atoiV (s : ByteArray) : Int × Bool := match Lib.atoiAll s.data.toList with
  | .ok n => (n, true)
  | _ => (0, false)
theorem parse_Atoi (s : ByteArray) (w : World) (hG : Tab w) (hs : s.size ≤ 281474976710656) :
    Calls Tryd.prog 35 #[.string s] w fun e w' => ∃ m ev, e = .returned (.tuple #[.int .i64 m, ev]) ∧ ((atoiV s).2 = true → ev = .nilIface ∧ m = (atoiV s).1) ∧ ((atoiV s).2 = false → ∃ t N, ev = .iface t (.pointer (some ⟨N, 0, none⟩))) ∧ Below w.heap.size w w' := by
  unfold atoiV
  cases h : Lib.atoiAll s.data.toList
  · rename_i n
    refine (Tryd.strconv_Atoi_ok s (by omega) n h w).mono ?_
    rintro e w' ⟨rfl, hw⟩
    refine ⟨_, _, rfl, fun _ => ⟨rfl, rfl⟩, (fun e_ => by cases e_), ?_⟩
    rcases hw with rfl | ⟨t, rfl⟩
    · exact Below.refl _ _
    · exact Go.Joins.below_bytesWorld _ _ _ _ (Nat.le_refl _)
  · obtain ⟨tp, p, hv⟩ := hG.es
    refine Calls.mono (Any.strconv_Atoi_syntax_var Tryd.laysC172 s hs h tp p w hv) ?_
    rintro e w' ⟨N, rfl, _, _, hb⟩
    exact ⟨_, _, rfl, (fun e_ => by cases e_), fun _ => ⟨_, N, rfl⟩, hb⟩
  · obtain ⟨tp, p, hv⟩ := hG.er
    refine (Tryd.strconv_Atoi_range_var s hs h tp p w hv).mono ?_
    rintro e w' ⟨N, rfl, _, _, hb⟩
    exact ⟨_, _, rfl, (fun e_ => by cases e_), fun _ => ⟨_, N, rfl⟩, hb⟩
theorem parse_Itoa (n : Int) (h0 : -9223372036854775808 ≤ n) (h1 : n ≤ 9223372036854775807) (w : World) (hG : Tab w) :
    Calls Tryd.prog 36 #[.int .i64 n] w fun e w' => e = .returned (.string ⟨(Lib.itoa n).toArray⟩) ∧ Below w.heap.size w w' := by
  refine (Tryd.strconv_Itoa n h0 h1 w hG.tb).mono ?_
  rintro e w' ⟨rfl, k, os, rfl⟩
  exact ⟨rfl, Lib.below_grow _ _ (Nat.le_refl _) _ _⟩
/-- The bytes of a text as whole numbers. -/
def numsOf (s : ByteArray) : List Int := s.data.toList.map fun b => (b.toNat : Int)
theorem numsOf_length (s : ByteArray) : (numsOf s).length = s.size := by rw [Lib.size_eq]; simp [numsOf]
/-- '[]byte(s)' lays a row of the bytes. -/
theorem conv_event {P : Program} {ops : Array Oper} {rest : List Oper} {o : Oper} {a : Act} {Q : Exit → Act → World → Prop} {W : World} (s : ByteArray) (hgd : o.guard = none) {N : Tmp} (_hd : o.dst = some N) {c : Nat} (hs : s.size ≤ 9223372036854775807)
    (hrun : (execOp a.eval o).run P W = .ok (.value (.slice (some ⟨W.heap.size, 0, none⟩) s.size c)) (Lib.bytesWorld W 5 s))
    (h : ∀ ad c_ w1, Kd.C (Kd.int .u8) w1 (some ad) (numsOf s).length (numsOf s) → Below W.heap.size W w1 → wpList P ops Q rest (a.put o.dst (.slice (some ad) (numsOf s).length c_)) w1) : wpList P ops Q (o :: rest) a W := by
  refine Kd.event_run hgd hrun ?_
  have := h ⟨W.heap.size, 0, none⟩ c (Lib.bytesWorld W 5 s) ?_ (Go.Joins.below_bytesWorld _ _ _ _ (Nat.le_refl _))
  · rw [numsOf_length] at this
    exact this
  · refine ⟨rfl, by rw [numsOf_length]; exact hs, fun _ => ⟨_, rfl, fun j p hp => ⟨[.int .u8 p], rfl, rfl, fun i u hi => ?_⟩⟩⟩
    have hj : j < s.size := by
      rw [← numsOf_length]
      exact (List.getElem?_eq_some_iff.1 hp).1
    cases i with
    | succ i => simp at hi
    | zero =>
      obtain rfl : Value.int .u8 p = u := by simpa using hi
      have hc := Lib.bytesWorld_cell W 5 s j hj
      have hp2 : p = (s.data.toList.getD j 0).toNat := by
        have := hp
        unfold numsOf at this
        rw [List.getElem?_map] at this
        rw [Lib.size_eq] at hj
        rw [List.getElem?_eq_getElem hj] at this
        simp at this
        rw [← this]
        simp [List.getD, List.getElem?_eq_getElem hj]
      rw [hp2]
      have ea : (⟨W.heap.size, 0, none⟩ : Addr).add (j * (Kd.int .u8).sz + 0) = ⟨W.heap.size, j, none⟩ := by
        show (⟨W.heap.size, 0, none⟩ : Addr).add (j * 1 + 0) = _
        rw [Nat.mul_one, Nat.add_zero]
        unfold Addr.add
        by_cases c0 : j = 0
        · subst c0; simp
        · simp [c0]
      rw [ea]
      exact hc
end Go.Proofs.YtnmhhhpllffpeaaDoor.Q
