/- A helper of this seat's claims. It proves no statement by itself. -/
import Derived.Test.YtnbnnphlffhgiaaMK2
import Derived.Test.YtnbnnphlffhgiaaGMerkleOdd
namespace Go.Proofs.Ytnbnnphlffhgiaa.T
open Go Go.Proofs Go.Proofs.Ytnbnnphlffhgiaa.K
set_option linter.unusedVariables false
set_option linter.unusedSimpArgs false
/-- An odd row goes up as if its last were twice there. -/
theorem upL_odd (l : List (List Int)) (h : l.length % 2 = 1) : upL (l ++ [l.getD (l.length - 1) []]) = upL l := by
  unfold upL
  have e : ((l ++ [l.getD (l.length - 1) []]).length + 1) / 2 = (l.length + 1) / 2 := by simp; omega
  rw [e]
  apply List.map_congr_left
  intro j hj
  have hj : j < (l.length + 1) / 2 := by simpa using hj
  have a1 : (l ++ [l.getD (l.length - 1) []]).getD (2 * j) [] = l.getD (2 * j) [] := by
    simp only [List.getD]
    rw [List.getElem?_append_left (by omega)]
  have a2 : oth (2 * j) (l ++ [l.getD (l.length - 1) []]) = oth (2 * j) l := by
    unfold oth
    have hx := xor1 (2 * j)
    rw [if_pos (by omega)] at hx
    rw [hx, List.length_append, List.length_singleton]
    by_cases c : 2 * j + 1 < l.length
    · rw [Nat.min_eq_left (by omega), Nat.min_eq_left (by omega)]
      simp only [List.getD]
      rw [List.getElem?_append_left (by omega)]
    · have : 2 * j + 1 = l.length := by omega
      rw [Nat.min_eq_left (by omega), Nat.min_eq_right (by omega), this]
      simp [List.getD]
  unfold upG
  rw [a1, a2]
theorem rootL_odd (l : List (List Int)) (h : l.length % 2 = 1) (h3 : 3 ≤ l.length) : rootL (l ++ [l.getD (l.length - 1) []]) = rootL l := by
  unfold rootL
  rw [if_neg (by simp), if_neg (by omega), List.length_append, List.length_singleton, topR, if_pos (by simp; omega), upL_odd l h]
  obtain ⟨k, hk⟩ : ∃ k, l.length = k + 1 := ⟨l.length - 1, by omega⟩
  rw [hk, top_more k (upL l) (by rw [upL_len]; omega), show topR (k + 1) l = topR k (upL l) by rw [topR, if_pos (by omega)]]
theorem sargassolaw6_MerkleOdd.m (μ : Store) (x0 : List (List Int)) (u0 : Value) (h0 : Slc (RA .u8 32) 32 μ u0 x0) : sargassolaw6_MerkleOdd.f x0 = some true := by
  have s0 := hs_of h0
  simp only [sargassolaw6_MerkleOdd.f, first6, Option.bind_some, if_true]
  have alt : (((merkle_Root.f ([])).bind fun r2 => ((sargassoref_SameHash.f r2 ([0, 0, 0, 0, 0, 0, 0, 0, 0, 0, 0, 0, 0, 0, 0, 0, 0, 0, 0, 0, 0, 0, 0, 0, 0, 0, 0, 0, 0, 0, 0, 0])).bind fun r3 => some r3)).bind fun c2 => some c2) = some true := by
    rw [root_eq [] (by simp [Hs]) (by simp), Option.bind_some, samehash_eq _ _ (by rfl) (by rfl), Option.bind_some, decide_eq_true (by rfl)]
    rfl
  by_cases c : 31 < (x0.length : Int)
  · rw [if_pos c, Option.bind_some, if_pos rfl]; exact alt
  by_cases c2 : Int.tmod (x0.length : Int) 2 = 0
  · rw [if_neg c, if_pos c2, Option.bind_some, if_pos rfl]; exact alt
  rw [if_neg c, if_neg c2, Option.bind_some]
  rw [Int.tmod_eq_emod_of_nonneg (by omega)] at c2
  by_cases c3 : (x0.length : Int) < 2
  · rw [if_pos (by simpa using c3)]; exact alt
  have e1 : IntKind.i64.wrap ((x0.length : Int) - 1) = ((x0.length - 1 : Nat) : Int) := by rw [w64 (by omega) (by omega)]; omega
  have s1 : Hs (x0 ++ [x0.getD (x0.length - 1) []]) := hs_snoc s0 (s0.at (by omega))
  rw [if_neg (by simpa using c3), e1, if_pos (by omega), Int.toNat_natCast, root_eq x0 s0 (by omega), Option.bind_some, hashes_eq x0 (by omega), Option.bind_some, if_pos (by omega), root_eq _ s1 (by simp; omega), Option.bind_some, rootL_odd x0 (by omega) (by omega), samehash_eq _ _ (rootL_len x0 s0) (rootL_len x0 s0), Option.bind_some, Option.bind_some, decide_eq_true rfl]
end Go.Proofs.Ytnbnnphlffhgiaa.T
