/- A helper of this seat's claims. It proves no statement by itself. -/
import Derived.Test.YtnbnnphlffhgiaaMC
import Derived.Test.YtnbnnphlffhgiaaGCompactSums
namespace Go.Proofs.Ytnbnnphlffhgiaa.T
open Go Go.Proofs Go.Proofs.Ytnbnnphlffhgiaa.K
set_option linter.unusedVariables false
theorem sargassolaw2_CompactSums.m (μ : Store) (x0 : Int) (hx0 : InR .u64 x0) (x1 : Int) (hx1 : InR .u64 x1) : sargassolaw2_CompactSums.f x0 x1 = some true := by
  unfold sargassolaw2_CompactSums.f
  rw [Int.tmod_eq_emod_of_nonneg hx0.1, Int.tmod_eq_emod_of_nonneg hx1.1]
  have a0 := Int.emod_nonneg x0 (b := 2100000000000001) (by omega)
  have a1 := Int.emod_lt_of_pos x0 (b := 2100000000000001) (by omega)
  have b0 := Int.emod_nonneg x1 (b := 2100000000000001) (by omega)
  have b1 := Int.emod_lt_of_pos x1 (b := 2100000000000001) (by omega)
  generalize x0 % 2100000000000001 = a at a0 a1 ⊢
  generalize x1 % 2100000000000001 = b at b0 b1 ⊢
  rw [wu64 (x := 2100000000000000 - a) (by omega) (by omega), wu64 (x := a + b) (by omega) (by omega)]
  have ia : InR .u64 a := ⟨a0, by omega⟩
  have ib : InR .u64 b := ⟨b0, by omega⟩
  have ic : InR .u64 (2100000000000000 - a) := ⟨by omega, by omega⟩
  have i1 : InR .u64 1 := ⟨by omega, by omega⟩
  have ih : InR .u64 9223372036854775808 := ⟨by omega, by omega⟩
  rw [first2, sum_eq [a, b] (by simp) (by simp [ia, ib]), sum_eq [b, a] (by simp) (by simp [ia, ib]), sum_eq [a, 2100000000000000 - a] (by simp) (by simp [ia, ic]), sum_eq [a, 2100000000000000 - a, 1] (by simp) (by simp [ia, ic, i1]),
    sum_eq [9223372036854775808, 9223372036854775808] (by simp) (by simp [ih]), sum_eq [] (by simp) (by simp)]
  have e1 : goSum 0 [a, b] = if 2100000000000000 < a + b then (0, false) else (a + b, true) := by
    simp [goSum, show ¬ (2100000000000000 < a) by omega]
  have e2 : goSum 0 [b, a] = if 2100000000000000 < a + b then (0, false) else (a + b, true) := by
    simp [goSum, show ¬ (2100000000000000 < b) by omega, Int.add_comm b a]
  have e3 : goSum 0 [a, 2100000000000000 - a] = (2100000000000000, true) := by
    have e : a + (2100000000000000 - a) = 2100000000000000 := by omega
    simp [goSum, show ¬ (2100000000000000 < a) by omega, e]
  have e4 : goSum 0 [a, 2100000000000000 - a, 1] = (0, false) := by
    have e : a + (2100000000000000 - a) = 2100000000000000 := by omega
    simp [goSum, show ¬ (2100000000000000 < a) by omega, e]
  have e5 : goSum 0 [9223372036854775808, 9223372036854775808] = (0, false) := by simp [goSum]
  rw [e1, e2, e3, e4, e5, show goSum 0 [] = (0, true) from rfl]
  by_cases hc : 2100000000000000 < a + b
  · simp [hc, show ¬ (a + b ≤ 2100000000000000) by omega]
  · simp [hc, show a + b ≤ 2100000000000000 by omega]
end Go.Proofs.Ytnbnnphlffhgiaa.T
