/- A helper of this seat's claims. It proves no statement by itself. -/
import Derived.Test.YtnbnnphlffhgiaaM0
namespace Go.Proofs.Ytnbnnphlffhgiaa.T
open Go Go.Proofs Go.Proofs.Ytnbnnphlffhgiaa.K
set_option linter.unusedVariables false
/-- What a reward is, in numbers. -/
theorem reward_eq {x0 x1 : Int} (h0 : InR .i64 x0) (h1 : InR .i64 x1) : value_Reward.f x0 x1 = some (if x0 < 0 ∨ x1 < 1 then 0 else if 64 ≤ x0 / x1 then 0 else 5000000000 / 2 ^ (x0 / x1).toNat) := by
  obtain ⟨a, b⟩ := h0
  obtain ⟨c, d⟩ := h1
  unfold value_Reward.f
  by_cases h : x0 < 0
  · simp [h]
  by_cases h' : x1 < 1
  · simp [h, h']
  have hq : Int.tdiv x0 x1 = x0 / x1 := Int.tdiv_eq_ediv_of_nonneg (by omega)
  have q0 : 0 ≤ x0 / x1 := Int.ediv_nonneg (by omega) (by omega)
  have q1 : x0 / x1 ≤ x0 := Int.ediv_le_self _ (by omega)
  have hn : x1 ≠ 0 := by omega
  rw [hq, w64 (by omega) (by omega)]
  simp only [h, h', hn, if_false, Option.bind_some, or_self, ne_eq, not_false_eq_true, if_true, q0]
  by_cases h6 : 64 ≤ x0 / x1
  · simp [h6]
  · simp only [h6, decide_false, if_false, Bool.false_eq_true, sR]
    rw [show min (x0 / x1).toNat IntKind.u64.bits = (x0 / x1).toNat by simp [IntKind.bits]; omega, Int.fdiv_eq_ediv_of_nonneg _ (Int.pow_nonneg (by omega))]
theorem first15 : sargassolaw15_first.f = some true := by
  unfold sargassolaw15_first.f
  rw [reward_eq ⟨by omega, by omega⟩ ⟨by omega, by omega⟩, reward_eq ⟨by omega, by omega⟩ ⟨by omega, by omega⟩]
  rfl
end Go.Proofs.Ytnbnnphlffhgiaa.T
