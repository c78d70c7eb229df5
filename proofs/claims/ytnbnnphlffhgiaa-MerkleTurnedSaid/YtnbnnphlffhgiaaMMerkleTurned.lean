/- A helper of this seat's claims. It proves no statement by itself. -/
import Derived.Test.YtnbnnphlffhgiaaMK2
import Derived.Test.YtnbnnphlffhgiaaGMerkleTurned
namespace Go.Proofs.Ytnbnnphlffhgiaa.T
open Go Go.Proofs Go.Proofs.Ytnbnnphlffhgiaa.K
set_option linter.unusedVariables false
set_option linter.unusedSimpArgs false
theorem sargassolaw6_MerkleTurned.m (μ : Store) (x0 : List (List Int)) (u0 : Value) (h0 : Slc (RA .u8 32) 32 μ u0 x0) (x1 : Int) (h1 : InR .i64 x1) (x2 : Int) (h2 : InR .i64 x2) : sargassolaw6_MerkleTurned.f x0 x1 x2 = some true := by
  have s0 := hs_of h0
  simp only [sargassolaw6_MerkleTurned.f, first6, Option.bind_some, if_true]
  by_cases z : (x0.length : Int) = 0
  · rw [if_pos z]; rfl
  rw [if_neg z, Option.bind_some]
  by_cases c : 40 < (x0.length : Int)
  · rw [if_pos (by simpa using c)]
  rw [if_neg (by simpa using c)]
  obtain ⟨n, e, n0, n1⟩ := number_eq h1 (n := (x0.length : Int)) (by omega) (by omega)
  obtain ⟨b, e', b0, b1⟩ := number_eq h2 (n := 256) (by omega) (by omega)
  obtain ⟨i, rfl⟩ : ∃ q : Nat, n = q := ⟨n.toNat, by omega⟩
  obtain ⟨b, rfl⟩ : ∃ q : Nat, b = q := ⟨b.toNat, by omega⟩
  have hi : i < x0.length := by omega
  have hd : IntKind.i64.wrap (Int.tdiv (b : Int) 8) = ((b / 8 : Nat) : Int) := by
    rw [Int.tdiv_eq_ediv_of_nonneg (by omega), w64 (by omega) (by omega)]; omega
  have hm : IntKind.u64.wrap (Int.tmod (b : Int) 8) = ((b % 8 : Nat) : Int) := by
    rw [Int.tmod_eq_emod_of_nonneg (by omega), wu64 (by omega) (by omega)]; omega
  rw [e, Option.bind_some, hashes_eq x0 (by omega), Option.bind_some, e', Option.bind_some, if_pos (by omega), hd, if_pos (by omega), hm, if_pos (by omega), Int.toNat_natCast, Int.toNat_natCast]
  have s1 : Hs (x0.set i ((x0.getD i []).set (b / 8) (bXor .u8 ((x0.getD i []).getD (b / 8) 0) (sL .u8 1 ((b % 8 : Nat) : Int))))) := hs_set s0 (by rw [List.length_set]; exact s0.at hi)
  have l1 : (x0.set i ((x0.getD i []).set (b / 8) (bXor .u8 ((x0.getD i []).getD (b / 8) 0) (sL .u8 1 ((b % 8 : Nat) : Int))))).length = x0.length := List.length_set ..
  generalize x0.set i ((x0.getD i []).set (b / 8) (bXor .u8 ((x0.getD i []).getD (b / 8) 0) (sL .u8 1 ((b % 8 : Nat) : Int)))) = y at s1 l1 ⊢
  have hj : i < y.length := by omega
  have sp := pathL_hs (i : Int) x0 s0
  have sq := pathL_hs (i : Int) y s1
  have pl := pathL_len (i : Int) x0
  have ql := pathL_len (i : Int) y
  have hp : (pathL (i : Int) x0).2 = true := by rw [pathL_in i x0 hi]
  have hq : (pathL (i : Int) y).2 = true := by rw [pathL_in i y hj]
  have hn : (pathL (i : Int) x0).1.length = cntR x0.length x0.length := by rw [pathL_in i x0 hi, path_len]
  have own := climbL_own i y (by omega) hj
  rw [l1] at own
  rw [pathL_eq _ x0 s0 (by omega), Option.bind_some, pathL_eq _ y s1 (by omega), Option.bind_some]
  generalize pathL (i : Int) x0 = P at sp pl hp hn ⊢
  generalize pathL (i : Int) y = Q at sq ql hq own ⊢
  obtain ⟨p, pb⟩ := P
  obtain ⟨q, qb⟩ := Q
  simp only at sp pl hp hn sq ql hq own ⊢
  subst hp
  subst hq
  have hx := s1.at hj
  have h7 : (climbL (y.getD i []) (i : Int) (x0.length : Int) p).2 = true := by
    unfold climbL
    rw [if_neg (by omega), Int.toNat_natCast, if_neg (by rw [hn]; simp)]
  have l7 := climbL_len (y.getD i []) hx (i : Int) (x0.length : Int) p
  have hr := rootL_len y s1
  rw [if_pos rfl, Option.bind_some, if_neg (by decide), if_pos (by omega), climb_eq _ hx _ _ p sp (by omega), Option.bind_some, climb_eq _ hx _ _ q sq (by omega), Option.bind_some, own, samehashes_eq p q sp sq (by omega), Option.bind_some, if_pos h7]
  simp only [if_true]
  rw [root_eq y s1 (by omega), Option.bind_some, samehash_eq _ _ hr hr, Option.bind_some, if_pos (by simp)]
  by_cases d : p = q
  · subst d
    rw [own, if_pos (by simp), samehash_eq _ _ hr hr]
    simp
  · rw [if_neg (by simpa using d)]
    rfl
end Go.Proofs.Ytnbnnphlffhgiaa.T
