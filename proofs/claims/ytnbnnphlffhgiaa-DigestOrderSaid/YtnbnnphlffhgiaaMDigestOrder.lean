/- A helper of this seat's claims. It proves no statement by itself. -/
import Derived.Test.YtnbnnphlffhgiaaM0
import Derived.Test.YtnbnnphlffhgiaaMH
import Derived.Test.YtnbnnphlffhgiaaGDigestOrder
namespace Go.Proofs.Ytnbnnphlffhgiaa.T
open Go Go.Proofs Go.Proofs.Ytnbnnphlffhgiaa.K
set_option linter.unusedVariables false
set_option linter.unusedSimpArgs false
theorem sargassolaw1_DigestOrder.m (μ : Store) (x0 : List Int) (hx0 : Arr .u8 32 x0) (x1 : List Int) (hx1 : Arr .u8 32 x1) (x2 : Int) (hx2 : InR .i64 x2) (x3 : Int) (hx3 : InR .u8 x3) : sargassolaw1_DigestOrder.f x0 x1 x2 x3 = some true := by
  obtain ⟨k, e, k0, k1⟩ := number_eq hx2 (n := 32) (by omega) (by omega)
  have hs : Arr .u8 32 (x0.set k.toNat x3) := arr_set hx0 _ hx3
  simp only [sargassolaw1_DigestOrder.f, first1, Option.bind_some, if_true, e]
  rw [if_pos (by omega), hex_eq _ hx0, Option.bind_some, hex_eq _ hx1, Option.bind_some, hex_eq _ hs, Option.bind_some, if_pos (by rw [hexB_size, hx0.1]; rfl), less_eq, Option.bind_some, if_pos (hexB_less hx0 hx1).symm, less_eq, Option.bind_some, if_pos (hexB_less hx1 hx0).symm, less_eq, Option.bind_some, if_pos (hexB_less hx0 hs).symm, less_eq, Option.bind_some, cmpI_self, if_neg (by decide), short_eq _ hx1, Option.bind_some, if_pos ⟨by decide, by rw [hexB_size, hx1.1]; decide⟩, Option.bind_some]
  simp
end Go.Proofs.Ytnbnnphlffhgiaa.T
