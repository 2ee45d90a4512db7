-- Written by wip/tools/gprint.py (the kit's print, with contracts of this session): Lean checks it.
import Derived.Test.YtcdngkehajifcaaQ0
import Derived.Test.YtcdngkehajifcaaQ2
import Derived.Test.YtcdngkehajifcaaQ12
import Derived.Test.YtcdngkehajifcaaQ13
import Derived.Test.YtcdngkehajifcaaQ14
import Derived.Test.YtcdngkehajifcaaQ27
import Derived.Test.YtcdngkehajifcaaQ28
import Derived.Test.YtcdngkehajifcaaQ29
import Derived.Test.YtcdngkehajifcaaQ30
import Derived.Test.YtcdngkehajifcaaQ31
import Derived.Test.YtcdngkehajifcaaQ33
namespace Go.Proofs.Ytcdngkehajifcaa.Q
open Go.RowKit Go.Proofs.YtcdngkehajifcaaW.PrintWords Go.Proofs.YtcdngkehajifcaaW.PrintLast Go.Proofs.YtcdngkehajifcaaW.PrintMore
attribute [local go_sem] max2_int min2_int max_two min_two max_three min_three max_four min_four   -- for this text's walks alone
set_option linter.unusedVariables false
set_option linter.unusedSimpArgs false

/-! ### laws_FnExactRenamePainting: function 3 -/
mutual
def laws_FnExactRenamePainting.j0 : Nat → List Int → Bool → List Int → Bool → Bool → Int → Int → List Int → Int → Int → List Int → Int → Int → List Int → Int → Int → List Int → Option (Bool)
 | 0, _, _, _, _, _, _, _, _, _, _, _, _, _, _, _, _, _ => none
 | k + 1, x1, x7, x9, x11, x51, x205000, x205001, x205002, x221000, x221001, x221002, x227000, x227001, x227002, x237000, x237001, x237002 => if x51 = true then (some false) else ((laws_toPainting.f k x205000 x205001 x205002).bind fun bt238 => ((laws_eqPainting.f k x227000 x227001 x227002 bt238.1 bt238.2.1 bt238.2.2).bind fun t243 => (if t243 = true then ((laws_toIntS.f k x1).bind fun t244 => ((laws_eqIntS.f k x9 t244).bind fun t247 => (if t247 = true then ((laws_markPainting.f k x227000 x227001 x227002 1).bind fun bt248 => ((laws_markIntS.f k x9 bt248.1).bind fun bt250 => (if bt250.1 < 0 then (laws_FnExactRenamePainting.j1 k x1 x7 true x205000 x205001 x205002 x221000 x221001 x221002 x237000 x237001 x237002) else ((laws_eqPainting.f k x237000 x237001 x237002 x221000 x221001 x221002).bind fun t252 => (if t252 = true then (laws_FnExactRenamePainting.j1 k x1 x7 (x11 != x7) x205000 x205001 x205002 x221000 x221001 x221002 x237000 x237001 x237002) else (laws_FnExactRenamePainting.j1 k x1 x7 true x205000 x205001 x205002 x221000 x221001 x221002 x237000 x237001 x237002)))))) else (some false)))) else (some false))))
def laws_FnExactRenamePainting.j1 : Nat → List Int → Bool → Bool → Int → Int → List Int → Int → Int → List Int → Int → Int → List Int → Option (Bool)
 | 0, _, _, _, _, _, _, _, _, _, _, _, _ => none
 | k + 1, x1, x7, x80, x205000, x205001, x205002, x221000, x221001, x221002, x237000, x237001, x237002 => if x80 = true then (some false) else ((laws_markPainting.f k x237000 x237001 x237002 1).bind fun bt253 => ((laws_heldPainting.f k x237000 x237001 bt253.2 1).bind fun t255 => (if t255 < 0 then (some false) else (if t255 = bt253.1 then ((laws_toPainting.f k x205000 x205001 x205002).bind fun bt256 => ((laws_toIntS.f k x1).bind fun t261 => ((impl_RenamePainting.f k bt256.1 bt256.2.1 bt256.2.2 t261).bind fun bt264 => ((laws_eqPainting.f k bt264.1 bt264.2.1 bt264.2.2.1 x221000 x221001 x221002).bind fun t271 => (if t271 = true then (laws_FnExactRenamePainting.j2 k bt253.1 (bt264.2.2.2 != x7) x237000 x237001 bt253.2) else (laws_FnExactRenamePainting.j2 k bt253.1 true x237000 x237001 bt253.2)))))) else (some false)))))
def laws_FnExactRenamePainting.j2 : Nat → Int → Bool → Int → Int → List Int → Option (Bool)
 | 0, _, _, _, _, _ => none
 | k + 1, x13, x108, x237000, x237001, x237002 => if x108 = true then (some false) else ((laws_heldPainting.f k x237000 x237001 x237002 1).bind fun t272 => (if t272 < 0 then (some false) else (if t272 = x13 then (some true) else (some false))))
end
def laws_FnExactRenamePainting.f (k : Nat) (a0_0 : Int) (a0_1 : Int) (l0_2 : List Int) (l1 : List Int) : Option (Bool) := if (l1.length : Int) > 1048576 then (some true) else ((laws_szPainting.f a0_0 a0_1 l0_2 1048576).bind fun t205 => (if t205 < 0 then (some true) else ((laws_toPainting.f k a0_0 a0_1 l0_2).bind fun bt206 => ((laws_toIntS.f k l1).bind fun t211 => ((spec_RenamePainting.f k bt206.1 bt206.2.1 bt206.2.2 t211).bind fun bt214 => ((laws_toPainting.f k a0_0 a0_1 l0_2).bind fun bt221 => ((laws_toIntS.f k l1).bind fun t227 => ((impl_RenamePainting.f k bt221.1 bt221.2.1 bt221.2.2 t227).bind fun bt230 => ((laws_eqPainting.f k bt230.1 bt230.2.1 bt230.2.2.1 bt214.1 bt214.2.1 bt214.2.2.1).bind fun t237 => (if t237 = true then (laws_FnExactRenamePainting.j0 k l1 bt214.2.2.2 t227 bt230.2.2.2 (bt230.2.2.2 != bt214.2.2.2) a0_0 a0_1 l0_2 bt214.1 bt214.2.1 bt214.2.2.1 bt221.1 bt221.2.1 bt221.2.2 bt230.1 bt230.2.1 bt230.2.2.1) else (laws_FnExactRenamePainting.j0 k l1 bt214.2.2.2 t227 bt230.2.2.2 true a0_0 a0_1 l0_2 bt214.1 bt214.2.1 bt214.2.2.1 bt221.1 bt221.2.1 bt221.2.2 bt230.1 bt230.2.1 bt230.2.2.1)))))))))))
theorem laws_FnExactRenamePainting.mono_l : ∀ k, (∀ y0 y1 y2 y3 y4 y5 y6 y7 y8 y9 y10 y11 y12 y13 y14 y15 y16, LeO (laws_FnExactRenamePainting.j0 k y0 y1 y2 y3 y4 y5 y6 y7 y8 y9 y10 y11 y12 y13 y14 y15 y16) (laws_FnExactRenamePainting.j0 (k + 1) y0 y1 y2 y3 y4 y5 y6 y7 y8 y9 y10 y11 y12 y13 y14 y15 y16)) ∧ (∀ y0 y1 y2 y3 y4 y5 y6 y7 y8 y9 y10 y11, LeO (laws_FnExactRenamePainting.j1 k y0 y1 y2 y3 y4 y5 y6 y7 y8 y9 y10 y11) (laws_FnExactRenamePainting.j1 (k + 1) y0 y1 y2 y3 y4 y5 y6 y7 y8 y9 y10 y11)) ∧ (∀ y0 y1 y2 y3 y4, LeO (laws_FnExactRenamePainting.j2 k y0 y1 y2 y3 y4) (laws_FnExactRenamePainting.j2 (k + 1) y0 y1 y2 y3 y4))
 | 0 => ⟨fun _ _ _ _ _ _ _ _ _ _ _ _ _ _ _ _ _ r h => by simp [laws_FnExactRenamePainting.j0] at h, fun _ _ _ _ _ _ _ _ _ _ _ _ r h => by simp [laws_FnExactRenamePainting.j1] at h, fun _ _ _ _ _ r h => by simp [laws_FnExactRenamePainting.j2] at h⟩
 | k + 1 => by
  obtain ⟨ih0, ih1, ih2⟩ := laws_FnExactRenamePainting.mono_l k
  refine ⟨?_, ?_, ?_⟩
  ·intro y0 y1 y2 y3 y4 y5 y6 y7 y8 y9 y10 y11 y12 y13 y14 y15 y16
   unfold laws_FnExactRenamePainting.j0
   repeat' first
   | (with_reducible exact ih0 _ _ _ _ _ _ _ _ _ _ _ _ _ _ _ _ _)
   | (with_reducible exact ih1 _ _ _ _ _ _ _ _ _ _ _ _)
   | (with_reducible exact ih2 _ _ _ _ _)
   | (with_reducible exact impl_RenamePainting.mono _ _ _ _ _)
   | (with_reducible exact laws_eqIntS.mono _ _ _)
   | (with_reducible exact laws_eqPainting.mono _ _ _ _ _ _ _)
   | (with_reducible exact laws_heldPainting.mono _ _ _ _ _)
   | (with_reducible exact laws_markIntS.mono _ _ _)
   | (with_reducible exact laws_markPainting.mono _ _ _ _ _)
   | (with_reducible exact laws_toIntS.mono _ _)
   | (with_reducible exact laws_toPainting.mono _ _ _ _)
   | (with_reducible exact spec_RenamePainting.mono _ _ _ _ _)
   | (with_reducible exact LeO.refl _)
   | (with_reducible exact LeO.none _)
   | (with_reducible refine LeO.ite ?_ ?_)
   | (with_reducible refine LeO.bind ?_ (fun _ => ?_))
   | exact ih0 _ _ _ _ _ _ _ _ _ _ _ _ _ _ _ _ _
   | exact ih1 _ _ _ _ _ _ _ _ _ _ _ _
   | exact ih2 _ _ _ _ _
   | exact impl_RenamePainting.mono _ _ _ _ _
   | exact laws_eqIntS.mono _ _ _
   | exact laws_eqPainting.mono _ _ _ _ _ _ _
   | exact laws_heldPainting.mono _ _ _ _ _
   | exact laws_markIntS.mono _ _ _
   | exact laws_markPainting.mono _ _ _ _ _
   | exact laws_toIntS.mono _ _
   | exact laws_toPainting.mono _ _ _ _
   | exact spec_RenamePainting.mono _ _ _ _ _
   | exact LeO.none _
   | refine LeO.ite ?_ ?_
   | refine LeO.bind ?_ (fun _ => ?_)
  ·intro y0 y1 y2 y3 y4 y5 y6 y7 y8 y9 y10 y11
   unfold laws_FnExactRenamePainting.j1
   repeat' first
   | (with_reducible exact ih0 _ _ _ _ _ _ _ _ _ _ _ _ _ _ _ _ _)
   | (with_reducible exact ih1 _ _ _ _ _ _ _ _ _ _ _ _)
   | (with_reducible exact ih2 _ _ _ _ _)
   | (with_reducible exact impl_RenamePainting.mono _ _ _ _ _)
   | (with_reducible exact laws_eqIntS.mono _ _ _)
   | (with_reducible exact laws_eqPainting.mono _ _ _ _ _ _ _)
   | (with_reducible exact laws_heldPainting.mono _ _ _ _ _)
   | (with_reducible exact laws_markIntS.mono _ _ _)
   | (with_reducible exact laws_markPainting.mono _ _ _ _ _)
   | (with_reducible exact laws_toIntS.mono _ _)
   | (with_reducible exact laws_toPainting.mono _ _ _ _)
   | (with_reducible exact spec_RenamePainting.mono _ _ _ _ _)
   | (with_reducible exact LeO.refl _)
   | (with_reducible exact LeO.none _)
   | (with_reducible refine LeO.ite ?_ ?_)
   | (with_reducible refine LeO.bind ?_ (fun _ => ?_))
   | exact ih0 _ _ _ _ _ _ _ _ _ _ _ _ _ _ _ _ _
   | exact ih1 _ _ _ _ _ _ _ _ _ _ _ _
   | exact ih2 _ _ _ _ _
   | exact impl_RenamePainting.mono _ _ _ _ _
   | exact laws_eqIntS.mono _ _ _
   | exact laws_eqPainting.mono _ _ _ _ _ _ _
   | exact laws_heldPainting.mono _ _ _ _ _
   | exact laws_markIntS.mono _ _ _
   | exact laws_markPainting.mono _ _ _ _ _
   | exact laws_toIntS.mono _ _
   | exact laws_toPainting.mono _ _ _ _
   | exact spec_RenamePainting.mono _ _ _ _ _
   | exact LeO.none _
   | refine LeO.ite ?_ ?_
   | refine LeO.bind ?_ (fun _ => ?_)
  ·intro y0 y1 y2 y3 y4
   unfold laws_FnExactRenamePainting.j2
   repeat' first
   | (with_reducible exact ih0 _ _ _ _ _ _ _ _ _ _ _ _ _ _ _ _ _)
   | (with_reducible exact ih1 _ _ _ _ _ _ _ _ _ _ _ _)
   | (with_reducible exact ih2 _ _ _ _ _)
   | (with_reducible exact impl_RenamePainting.mono _ _ _ _ _)
   | (with_reducible exact laws_eqIntS.mono _ _ _)
   | (with_reducible exact laws_eqPainting.mono _ _ _ _ _ _ _)
   | (with_reducible exact laws_heldPainting.mono _ _ _ _ _)
   | (with_reducible exact laws_markIntS.mono _ _ _)
   | (with_reducible exact laws_markPainting.mono _ _ _ _ _)
   | (with_reducible exact laws_toIntS.mono _ _)
   | (with_reducible exact laws_toPainting.mono _ _ _ _)
   | (with_reducible exact spec_RenamePainting.mono _ _ _ _ _)
   | (with_reducible exact LeO.refl _)
   | (with_reducible exact LeO.none _)
   | (with_reducible refine LeO.ite ?_ ?_)
   | (with_reducible refine LeO.bind ?_ (fun _ => ?_))
   | exact ih0 _ _ _ _ _ _ _ _ _ _ _ _ _ _ _ _ _
   | exact ih1 _ _ _ _ _ _ _ _ _ _ _ _
   | exact ih2 _ _ _ _ _
   | exact impl_RenamePainting.mono _ _ _ _ _
   | exact laws_eqIntS.mono _ _ _
   | exact laws_eqPainting.mono _ _ _ _ _ _ _
   | exact laws_heldPainting.mono _ _ _ _ _
   | exact laws_markIntS.mono _ _ _
   | exact laws_markPainting.mono _ _ _ _ _
   | exact laws_toIntS.mono _ _
   | exact laws_toPainting.mono _ _ _ _
   | exact spec_RenamePainting.mono _ _ _ _ _
   | exact LeO.none _
   | refine LeO.ite ?_ ?_
   | refine LeO.bind ?_ (fun _ => ?_)
theorem laws_FnExactRenamePainting.mono : ∀ a0 a1 a2 a3 k, LeO (laws_FnExactRenamePainting.f k a0 a1 a2 a3) (laws_FnExactRenamePainting.f (k + 1) a0 a1 a2 a3) := by
 intro a0 a1 a2 a3 k
 obtain ⟨ih0, ih1, ih2⟩ := laws_FnExactRenamePainting.mono_l k
 unfold laws_FnExactRenamePainting.f
 repeat' first
   | (with_reducible exact ih0 _ _ _ _ _ _ _ _ _ _ _ _ _ _ _ _ _)
   | (with_reducible exact ih1 _ _ _ _ _ _ _ _ _ _ _ _)
   | (with_reducible exact ih2 _ _ _ _ _)
   | (with_reducible exact impl_RenamePainting.mono _ _ _ _ _)
   | (with_reducible exact laws_eqIntS.mono _ _ _)
   | (with_reducible exact laws_eqPainting.mono _ _ _ _ _ _ _)
   | (with_reducible exact laws_heldPainting.mono _ _ _ _ _)
   | (with_reducible exact laws_markIntS.mono _ _ _)
   | (with_reducible exact laws_markPainting.mono _ _ _ _ _)
   | (with_reducible exact laws_toIntS.mono _ _)
   | (with_reducible exact laws_toPainting.mono _ _ _ _)
   | (with_reducible exact spec_RenamePainting.mono _ _ _ _ _)
   | (with_reducible exact LeO.refl _)
   | (with_reducible exact LeO.none _)
   | (with_reducible refine LeO.ite ?_ ?_)
   | (with_reducible refine LeO.bind ?_ (fun _ => ?_))
   | exact ih0 _ _ _ _ _ _ _ _ _ _ _ _ _ _ _ _ _
   | exact ih1 _ _ _ _ _ _ _ _ _ _ _ _
   | exact ih2 _ _ _ _ _
   | exact impl_RenamePainting.mono _ _ _ _ _
   | exact laws_eqIntS.mono _ _ _
   | exact laws_eqPainting.mono _ _ _ _ _ _ _
   | exact laws_heldPainting.mono _ _ _ _ _
   | exact laws_markIntS.mono _ _ _
   | exact laws_markPainting.mono _ _ _ _ _
   | exact laws_toIntS.mono _ _
   | exact laws_toPainting.mono _ _ _ _
   | exact spec_RenamePainting.mono _ _ _ _ _
   | exact LeO.none _
   | refine LeO.ite ?_ ?_
   | refine LeO.bind ?_ (fun _ => ?_)
end Go.Proofs.Ytcdngkehajifcaa.Q
