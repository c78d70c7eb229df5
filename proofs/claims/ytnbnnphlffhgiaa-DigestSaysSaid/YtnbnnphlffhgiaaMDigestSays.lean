/- A helper of this seat's claims. It proves no statement by itself. -/
import Derived.Test.YtnbnnphlffhgiaaM0
import Derived.Test.YtnbnnphlffhgiaaMH
import Derived.Test.YtnbnnphlffhgiaaGDigestSays
namespace Go.Proofs.Ytnbnnphlffhgiaa.T
open Go Go.Proofs Go.Proofs.Ytnbnnphlffhgiaa.K
set_option linter.unusedVariables false
set_option linter.unusedSimpArgs false
theorem sargassolaw1_DigestSays.m (μ : Store) (x0 : List Int) (u0 : Value) (hx0 : Slc (RI .u8) 1 μ u0 x0) (x1 : List Int) (u1 : Value) (hx1 : Slc (RI .u8) 1 μ u1 x1) : sargassolaw1_DigestSays.f x0 x1 = some true := by
  simp only [sargassolaw1_DigestSays.f, first1, Option.bind_some, if_true]
  by_cases h0 : 300 < (x0.length : Int)
  · rw [if_pos h0]; rfl
  · rw [if_neg h0]
    simp only [Option.bind_some]
    by_cases h1 : 300 < (x1.length : Int)
    · rw [if_pos (by simpa using h1)]
    · rw [if_neg (by simpa using h1), sha_eq _ (by omega), Option.bind_some, twice_eq _ (by omega), Option.bind_some, ref_sha_eq _ (by omega), Option.bind_some, samehash_eq _ _ (sha_len _) (sha_len _), Option.bind_some, if_pos (by simp), ref_twice_eq _ (by omega), Option.bind_some, samehash_eq _ _ (sha_len _) (sha_len _), Option.bind_some, if_pos (by simp), less_eq, Option.bind_some, lesshash_eq _ _ (sha_len _) (sha_len _), Option.bind_some, if_pos rfl, hex_eq _ (sha_arr _), Option.bind_some, hex1_eq _ (sha_arr _), Option.bind_some, if_pos rfl, short_eq _ (sha_arr _), Option.bind_some, hex1_eq _ (sha_arr _), Option.bind_some, if_pos ⟨by decide, by rw [hexB_size, sha_len]; decide⟩, Option.bind_some]
      simp
end Go.Proofs.Ytnbnnphlffhgiaa.T
