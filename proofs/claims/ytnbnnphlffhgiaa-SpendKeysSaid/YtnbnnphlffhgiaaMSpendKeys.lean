/- A helper of this seat's claims. It proves no statement by itself. -/
import Derived.Test.YtnbnnphlffhgiaaM0
import Derived.Test.YtnbnnphlffhgiaaMS3
import Derived.Test.YtnbnnphlffhgiaaGSpendKeys
namespace Go.Proofs.Ytnbnnphlffhgiaa.T
open Go Go.Proofs Go.Proofs.Ytnbnnphlffhgiaa.K
set_option linter.unusedVariables false
set_option linter.unusedSimpArgs false
theorem sargassolaw3_SpendKeys.m (μ : Store) (x0 : List Int) (u0 : Value) (hx0 : Slc (RI .u8) 1 μ u0 x0) (x1 : Int) (hx1 : InR .i64 x1) : sargassolaw3_SpendKeys.f x0 x1 = some true := by
  simp only [sargassolaw3_SpendKeys.f, first3, Option.bind_some, if_true]
  by_cases h0 : (x0.length : Int) = 0
  · rw [if_pos h0]; rfl
  · rw [if_neg h0]
    simp only [Option.bind_some]
    by_cases h1 : 80 < (x0.length : Int)
    · rw [if_pos (by simpa using h1)]
    · have hw : IntKind.i64.wrap (8 * (x0.length : Int)) = 8 * (x0.length : Int) := w64 (by omega) (by omega)
      obtain ⟨k, e, k0, k1⟩ := number_eq hx1 (n := 8 * (x0.length : Int)) (by omega) (by omega)
      have hd : IntKind.i64.wrap (Int.tdiv k 8) = k / 8 := by rw [Int.tdiv_eq_ediv_of_nonneg k0, w64 (by omega) (by omega)]
      have hl : x0.length ≤ 80 := by omega
      rw [if_neg (by simpa using h1), bytes_eq _ (by omega), Option.bind_some, hw, e, Option.bind_some, hd, if_pos (by omega), if_pos (by have := wrap_in .u64 (Int.tmod k 8); simp only [InR] at this; omega), lock_eq _ (by omega), Option.bind_some, lock_eq _ (by simp; omega), Option.bind_some, opens_eq, Option.bind_some, if_pos (by simp [hl]), opens_eq, Option.bind_some, if_pos (by simp [hl]), opens_eq, Option.bind_some, samehash_eq _ _ (sha_len _) (sha_len _), Option.bind_some, if_pos (by simp [hl]), if_pos (by decide), lock_eq _ (by simp), Option.bind_some, opens_eq, Option.bind_some, Option.bind_some]
      simp
end Go.Proofs.Ytnbnnphlffhgiaa.T
