/- A helper of this seat's claims. It proves no statement by itself. -/
import Derived.Test.YtnbnnphlffhgiaaM0
import Derived.Test.YtnbnnphlffhgiaaMH
import Derived.Test.YtnbnnphlffhgiaaGDigestEdges
namespace Go.Proofs.Ytnbnnphlffhgiaa.T
open Go Go.Proofs Go.Proofs.Ytnbnnphlffhgiaa.K
set_option linter.unusedVariables false
set_option linter.unusedSimpArgs false
theorem sargassolaw1_DigestEdges.m (μ : Store) (x0 : Int) (hx0 : InR .i64 x0) (x1 : Int) (hx1 : InR .u8 x1) : sargassolaw1_DigestEdges.f x0 x1 = some true := by
  obtain ⟨n, e, n0, n1⟩ := number_eq hx0 (n := 90) (by omega) (by omega)
  simp only [sargassolaw1_DigestEdges.f, first1, Option.bind_some, if_true, e]
  obtain ⟨k, rfl⟩ : ∃ k : Nat, n = k := ⟨n.toNat, by omega⟩
  have hw : IntKind.i64.wrap ((k : Int) + 40) = ((k + 40 : Nat) : Int) := by rw [w64 (by omega) (by omega)]; omega
  have hl : loopO (sargassolaw1_DigestEdges.s0 x1 (k : Int)) (0, List.replicate (k + 40) 0) = some (List.replicate (k + 40) x1) := by
    refine loop_run (fun i => ((i : Int), List.replicate i x1 ++ List.replicate (k + 40 - i) 0)) (k + 40) (by simp) (fun i hi => ?_) ?_
    · simp only [sargassolaw1_DigestEdges.s0, hw]
      rw [if_pos (by omega), if_pos (by simp; omega), winc i (by omega), Int.toNat_natCast]
      obtain ⟨j, hj⟩ : ∃ j, k + 40 - i = j + 1 := ⟨k + 40 - i - 1, by omega⟩
      have hj' : k + 40 - (i + 1) = j := by omega
      rw [hj, hj', List.set_append_right _ _ (by simp)]
      simp [List.replicate_succ, List.replicate_succ', List.append_assoc]
      have hr : List.replicate i x1 ++ [x1] = x1 :: List.replicate i x1 := by rw [← List.replicate_succ, List.replicate_succ']
      rw [show x1 :: List.replicate j (0 : Int) = [x1] ++ List.replicate j 0 from rfl, ← List.append_assoc, hr]
      rfl
    · simp only [sargassolaw1_DigestEdges.s0, hw]
      rw [if_neg (by omega)]
      simp
  rw [hw, if_pos (by omega), Int.toNat_natCast, hl, Option.bind_some, sha_eq _ (by simp; omega), Option.bind_some, twice_eq _ (by simp; omega), Option.bind_some, ref_sha_eq _ (by simp; omega), Option.bind_some, samehash_eq _ _ (sha_len _) (sha_len _), Option.bind_some, if_pos (by simp), sha_eq _ (by rw [sha_len]; omega), Option.bind_some, samehash_eq _ _ (sha_len _) (sha_len _)]
  simp
end Go.Proofs.Ytnbnnphlffhgiaa.T
