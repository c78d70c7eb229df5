/- A helper of this seat's claims. It proves no statement by itself. -/
import Derived.Test.YtnbnnphlffhgiaaM0
import Derived.Test.YtnbnnphlffhgiaaMV
import Derived.Test.YtnbnnphlffhgiaaGValueRipe
namespace Go.Proofs.Ytnbnnphlffhgiaa.T
open Go Go.Proofs Go.Proofs.Ytnbnnphlffhgiaa.K
set_option linter.unusedVariables false
theorem sargassolaw15_ValueRipe.m (μ : Store) (x0 : Int) (hx0 : InR .i64 x0) (x1 : Int) (hx1 : InR .i64 x1) (x2 : Int) (hx2 : InR .u64 x2) : sargassolaw15_ValueRipe.f x0 x1 x2 = some true := by
  obtain ⟨h, e1, h0, h1⟩ := number_eq hx0 (n := 100000) (by omega) (by omega)
  obtain ⟨m, e2, m0, m1⟩ := number_eq hx1 (n := 1001) (by omega) (by omega)
  simp only [sargassolaw15_ValueRipe.f, first15, e1, e2, Option.bind_some, value_Ripe.f, if_true]
  rw [w64 (x := h + m) (by omega) (by omega), w64 (x := h + m - 1) (by omega) (by omega), w64 (x := h + 0) (by omega) (by omega)]
  have : ¬ (h + m ≤ h + m - 1) := by omega
  simp [this]
end Go.Proofs.Ytnbnnphlffhgiaa.T
