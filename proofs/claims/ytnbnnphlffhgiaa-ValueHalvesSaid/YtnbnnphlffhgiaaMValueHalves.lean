/- A helper of this seat's claims. It proves no statement by itself. -/
import Derived.Test.YtnbnnphlffhgiaaMV
import Derived.Test.YtnbnnphlffhgiaaGValueHalves
namespace Go.Proofs.Ytnbnnphlffhgiaa.T
open Go Go.Proofs Go.Proofs.Ytnbnnphlffhgiaa.K
set_option linter.unusedVariables false
theorem half_eq : ∀ n : Nat, n < 70 → (if 64 ≤ (n : Int) + 1 then 0 else 5000000000 / 2 ^ ((n : Int) + 1).toNat : Int) = IntKind.u64.wrap (Int.tdiv (if 64 ≤ (n : Int) then 0 else 5000000000 / 2 ^ (n : Int).toNat) 2) := by decide +kernel
theorem sargassolaw15_ValueHalves.m (μ : Store) (x0 : Int) (hx0 : InR .i64 x0) (x1 : Int) (hx1 : InR .i64 x1) (x2 : Int) (hx2 : InR .i64 x2) : sargassolaw15_ValueHalves.f x0 x1 x2 = some true := by
  obtain ⟨k, e1, k0, k1⟩ := number_eq hx0 (n := 70) (by omega) (by omega)
  obtain ⟨h, e2, h0, h1⟩ := number_eq hx1 (n := 10000) (by omega) (by omega)
  obtain ⟨o, e3, o0, o1⟩ := number_eq hx2 (n := h + 1) (by omega) (by omega)
  have p0 : 0 ≤ k * (h + 1) := Int.mul_nonneg (by omega) (by omega)
  have p1 : k * (h + 1) ≤ 70 * 10000 := Int.mul_le_mul (by omega) (by omega) (by omega) (by omega)
  have s0 : (k + 1) * (h + 1) = k * (h + 1) + (h + 1) := by rw [Int.add_mul, Int.one_mul]
  have d1 : k * (h + 1) / (h + 1) = k := Int.mul_ediv_cancel _ (by omega)
  have d2 : (k * (h + 1) + o) / (h + 1) = k := by
    rw [Int.add_comm, Int.add_mul_ediv_right _ _ (by omega), Int.ediv_eq_zero_of_lt o0 o1]; omega
  have d3 : (k + 1) * (h + 1) / (h + 1) = k + 1 := Int.mul_ediv_cancel _ (by omega)
  simp only [sargassolaw15_ValueHalves.f, first15, e1, e2, Option.bind_some, if_true, w64 (x := h + 1) (by omega) (by omega), e3, w64 (x := k + 1) (by omega) (by omega)]
  rw [w64 (x := k * (h + 1)) (by omega) (by omega), w64 (x := (k + 1) * (h + 1)) (by omega) (by omega), w64 (x := k * (h + 1) + o) (by omega) (by omega)]
  rw [reward_eq (x0 := k * (h + 1)) ⟨by omega, by omega⟩ ⟨by omega, by omega⟩, reward_eq (x0 := k * (h + 1) + o) ⟨by omega, by omega⟩ ⟨by omega, by omega⟩, reward_eq (x0 := (k + 1) * (h + 1)) ⟨by omega, by omega⟩ ⟨by omega, by omega⟩, reward_eq (x0 := -1) ⟨by omega, by omega⟩ ⟨by omega, by omega⟩, reward_eq (x0 := 5) (x1 := 0) ⟨by omega, by omega⟩ ⟨by omega, by omega⟩, d1, d2, d3]
  have n1 : ¬ (k * (h + 1) < 0 ∨ h + 1 < 1) := by omega
  have n2 : ¬ (k * (h + 1) + o < 0 ∨ h + 1 < 1) := by omega
  have n3 : ¬ ((k + 1) * (h + 1) < 0 ∨ h + 1 < 1) := by omega
  simp only [n1, n2, n3, if_false, Option.bind_some, if_true]
  have hc : (if 64 ≤ k + 1 then 0 else 5000000000 / 2 ^ (k + 1).toNat : Int) = IntKind.u64.wrap (Int.tdiv (if 64 ≤ k then 0 else 5000000000 / 2 ^ k.toNat) 2) := by
    have : ∃ n : Nat, k = n ∧ n < 70 := ⟨k.toNat, by omega, by omega⟩
    obtain ⟨n, rfl, hn⟩ := this
    exact half_eq n hn
  rw [if_pos hc]
  by_cases h6 : k < 64
  · simp [h6]
  · simp [h6, show (64 : Int) ≤ k by omega]
end Go.Proofs.Ytnbnnphlffhgiaa.T
