/- A helper of this seat's claims. It proves no statement by itself. -/
import Derived.Test.YtnbnnphlffhgiaaMK2
import Derived.Test.YtnbnnphlffhgiaaGMerkleSays
namespace Go.Proofs.Ytnbnnphlffhgiaa.T
open Go Go.Proofs Go.Proofs.Ytnbnnphlffhgiaa.K
set_option linter.unusedVariables false
set_option linter.unusedSimpArgs false
theorem sargassolaw6_MerkleSays.m (μ : Store) (x0 : List (List Int)) (u0 : Value) (h0 : Slc (RA .u8 32) 32 μ u0 x0) (x1 : Int) (h1 : InR .i64 x1) (x2 : Int) (h2 : InR .i64 x2) (x3 : List Int) (h3 : Arr .u8 32 x3) (x4 : List (List Int)) (u4 : Value) (h4 : Slc (RA .u8 32) 32 μ u4 x4) : sargassolaw6_MerkleSays.f x0 x1 x2 x3 x4 = some true := by
  have s0 := hs_of h0
  have s4 := hs_of h4
  simp only [sargassolaw6_MerkleSays.f, first6, Option.bind_some, if_true]
  by_cases c : 60 < (x0.length : Int)
  · rw [if_pos c]; rfl
  · rw [if_neg c, Option.bind_some]
    by_cases c4 : 30 < (x4.length : Int)
    · rw [if_pos (by simpa using c4)]
    · rw [if_neg (by simpa using c4), pathL_eq x1 x0 s0 (by omega), pathL1_eq x1 x0 s0 (by omega)]
      simp only [Option.bind_some]
      rw [climb_eq x3 h3.1 x1 x2 x4 s4 (by omega), climb1_eq x3 h3.1 x1 x2 x4 s4 (by omega)]
      simp only [Option.bind_some]
      have hr := rootL_len x0 s0
      have hp := pathL_len x1 x0
      have hc := climbL_len x3 h3.1 x1 x2 x4
      rw [root_eq x0 s0 (by omega), root1_eq x0 s0 (by omega)]
      simp only [Option.bind_some]
      rw [samehash_eq _ _ hr hr]
      simp only [Option.bind_some]
      rw [if_pos (by simp), samehashes_eq _ _ (pathL_hs x1 x0 s0) (pathL_hs x1 x0 s0) (by omega)]
      simp [samehash_eq _ _ hc hc]
end Go.Proofs.Ytnbnnphlffhgiaa.T
