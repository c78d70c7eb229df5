/- A helper of this seat's claims. It proves no statement by itself. -/
import Derived.Test.YtnbnnphlffhgiaaMK2
import Derived.Test.YtnbnnphlffhgiaaGMerkleClimbs
namespace Go.Proofs.Ytnbnnphlffhgiaa.T
open Go Go.Proofs Go.Proofs.Ytnbnnphlffhgiaa.K
set_option linter.unusedVariables false
set_option linter.unusedSimpArgs false
theorem sargassolaw6_MerkleClimbs.m (μ : Store) (x0 : List (List Int)) (u0 : Value) (h0 : Slc (RA .u8 32) 32 μ u0 x0) (x1 : Int) (h1 : InR .i64 x1) : sargassolaw6_MerkleClimbs.f x0 x1 = some true := by
  have s0 := hs_of h0
  simp only [sargassolaw6_MerkleClimbs.f, first6, Option.bind_some, if_true]
  by_cases z : (x0.length : Int) = 0
  · rw [if_pos z]; rfl
  rw [if_neg z, Option.bind_some]
  by_cases c : 60 < (x0.length : Int)
  · rw [if_pos (by simpa using c)]
  rw [if_neg (by simpa using c)]
  obtain ⟨n, e, n0, n1⟩ := number_eq h1 (n := (x0.length : Int)) (by omega) (by omega)
  obtain ⟨i, rfl⟩ : ∃ q : Nat, n = q := ⟨n.toNat, by omega⟩
  have hi : i < x0.length := by omega
  have hx := s0.at hi
  have hp := pathL_len (i : Int) x0
  have sp := pathL_hs (i : Int) x0 s0
  have hown := climbL_own i x0 (by omega) hi
  have hq : (pathL (i : Int) x0).2 = true := by rw [pathL_in i x0 hi]
  have hn : (pathL (i : Int) x0).1.length = cntR x0.length x0.length := by rw [pathL_in i x0 hi, path_len]
  rw [e, Option.bind_some, pathL_eq _ x0 s0 (by omega), Option.bind_some]
  generalize pathL (i : Int) x0 = P at hp sp hown hq hn ⊢
  obtain ⟨p, b⟩ := P
  simp only at hp sp hown hq hn ⊢
  rw [if_pos hq, if_pos (by omega), Int.toNat_natCast, climb_eq _ hx _ _ p sp (by omega), Option.bind_some, hown, hashes_eq p (by omega), Option.bind_some, if_pos (by omega), climb_eq _ hx _ _ _ (hs_snoc sp (by rfl)) (by simp; omega), Option.bind_some, Option.bind_some, climb_eq _ hx _ _ p sp (by omega), Option.bind_some, climbL_bad _ i x0.length _ (by rw [List.length_append, hn]; simp)]
  have e7 : (climbL (x0.getD i []) (x0.length : Int) (x0.length : Int) p).2 = false := by
    unfold climbL; rw [if_pos (by omega)]
  have e8 : (if 0 < (p.length : Int) then (if 0 ≤ 1 ∧ 1 ≤ (p.length : Int) then ((merkle_Climb.f (x0.getD i []) (i : Int) (x0.length : Int) ((p.take ((p.length : Int)).toNat).drop (1 : Int).toNat)).bind fun r8 => some (p, r8.2)) else none) else some (p, false)) = some (p, false) := by
    by_cases c1 : 0 < p.length
    · rw [if_pos (by omega), if_pos (by omega), climb_eq _ hx _ _ _ (hs_drop (hs_take sp _) _) (by simp; omega), Option.bind_some, climbL_bad _ i x0.length _ (by
        rw [← hn, List.length_drop, List.length_take, Int.toNat_natCast]
        simp only [show Int.toNat 1 = 1 from rfl]; omega)]
    · rw [if_neg (by omega)]
  rw [e8, Option.bind_some, e7]
  have hr := rootL_len x0 s0
  simp only [if_true]
  rw [root_eq x0 s0 (by omega), Option.bind_some, samehash_eq _ _ hr hr, Option.bind_some, if_pos (decide_eq_true rfl)]
  rfl
end Go.Proofs.Ytnbnnphlffhgiaa.T
