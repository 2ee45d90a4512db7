/- strconv.Itoa of a number less than a hundred: its digits. No condition. -/
import Derived.Test.YtamioppeiahjcaaDoorProg
import Derived.Test.YtamioppeiahjcaaDoorShelf
import Derived.Test.YtamioppeiahjcaaDoorV1
import Derived.Test.YtamioppeiahjcaaDoorV2WGuardMore
namespace Go.Proofs.YtamioppeiahjcaaDoor.Q
theorem itoa_small (i : Nat) (hi : i < 100) (w : World) : Calls Tryd.prog 48 #[.int .i64 i] w fun e w' => e = .returned (.string ⟨(Go.Lib.decDigits i).toArray⟩) ∧ w' = w := Tryd.strconv_Itoa_small i hi w
end Go.Proofs.YtamioppeiahjcaaDoor.Q
