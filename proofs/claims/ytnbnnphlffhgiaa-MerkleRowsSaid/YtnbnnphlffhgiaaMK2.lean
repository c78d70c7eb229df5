/- A helper of this seat's claims. It proves no statement by itself. -/
import Derived.Test.YtnbnnphlffhgiaaM0
import Derived.Test.YtnbnnphlffhgiaaMK
/-! Rows of digests: copies, comparisons and ways of any number. -/
namespace Go.Proofs.Ytnbnnphlffhgiaa.T
open Go Go.Proofs Go.Proofs.Ytnbnnphlffhgiaa.K
set_option linter.unusedVariables false
set_option linter.unusedSimpArgs false
theorem hashes_eq (xs : List (List Int)) (h : xs.length ≤ 100000) : sargassoref_Hashes.f xs = some xs := by
  simp only [sargassoref_Hashes.f]
  rw [if_pos (by omega)]
  have e : loopO (sargassoref_Hashes.s0 xs) ([], 0) = some xs := by
    refine copy_run xs [] (by omega) (fun i hi => ?_) ?_
    · simp only [sargassoref_Hashes.s0, Int.toNat_natCast, List.length_take]
      rw [if_pos (by omega), if_pos (by omega), if_pos (by omega)]
    · simp only [sargassoref_Hashes.s0]
      rw [if_neg (by omega)]
  have z : List.replicate (Int.toNat 0) (List.replicate 32 (0 : Int)) = [] := rfl
  rw [z, e, Option.bind_some]
theorem samehashes_eq (xs ys : List (List Int)) (hx : Hs xs) (hy : Hs ys) (h : xs.length ≤ 100000) : sargassoref_SameHashes.f xs ys = some (decide (xs = ys)) := by
  simp only [sargassoref_SameHashes.f]
  by_cases c : xs.length = ys.length
  · have hs : ∀ i, i < xs.length → sargassoref_SameHashes.s0 xs ys (i : Int) = if xs.getD i [] = ys.getD i [] then some (.inl (IntKind.i64.wrap ((i : Int) + 1))) else some (.inr false) := fun i hi => by
      simp only [sargassoref_SameHashes.s0, Int.toNat_natCast]
      rw [if_pos (by omega), if_pos (by omega), if_pos (by omega), samehash_eq _ _ (hx.at hi) (hy.at (by omega)), Option.bind_some]
      by_cases d : xs.getD i [] = ys.getD i []
      · rw [if_pos (by simpa using d), if_pos d]
      · rw [if_neg (by simpa using d), if_neg d]
    rw [if_neg (by omega), all_run xs.length (fun i => xs.getD i [] = ys.getD i []) (by omega) hs (by simp only [sargassoref_SameHashes.s0]; rw [if_neg (by omega)])]
    congr 1
    exact decide_eq_decide.2 (ext_iff xs ys [] c)
  · rw [if_pos (by omega), decide_eq_false (fun e => c (by rw [e]))]
/-- The way of any number. -/
def pathL (i : Int) (l : List (List Int)) : List (List Int) × Bool := if i < 0 ∨ (l.length : Int) ≤ i then ([], false) else (pathR l.length i.toNat l, true)
theorem pathL_in (i : Nat) (l : List (List Int)) (hi : i < l.length) : pathL (i : Int) l = (pathR l.length i l, true) := by
  unfold pathL; rw [if_neg (by omega)]; rfl
theorem pathL_eq (i : Int) (l : List (List Int)) (h : Hs l) (hl : l.length < 100000) : merkle_Path.f i l = some (pathL i l) := by
  by_cases c : i < 0 ∨ (l.length : Int) ≤ i
  · simp only [merkle_Path.f, pathL]
    rw [if_pos c]
    by_cases c1 : i < 0
    · rw [if_pos c1]; rfl
    · rw [if_neg c1, Option.bind_some, if_pos (by simp; omega)]
  · obtain ⟨k, rfl⟩ : ∃ k : Nat, i = k := ⟨i.toNat, by omega⟩
    rw [path_eq k l h hl (by omega), pathL_in k l (by omega)]
theorem pathL1_eq (i : Int) (l : List (List Int)) (h : Hs l) (hl : l.length < 100000) : sargassoref1_Path.f i l = some (pathL i l) := by
  by_cases c : i < 0 ∨ (l.length : Int) ≤ i
  · simp only [sargassoref1_Path.f, pathL]
    rw [if_pos c]
    by_cases c1 : i < 0
    · rw [if_pos c1]; rfl
    · rw [if_neg c1, Option.bind_some, if_pos (by simp; omega)]
  · obtain ⟨k, rfl⟩ : ∃ k : Nat, i = k := ⟨i.toNat, by omega⟩
    rw [path1_eq k l h hl (by omega), pathL_in k l (by omega)]
theorem pathR_hs : ∀ (f i : Nat) (l : List (List Int)), Hs l → Hs (pathR f i l)
  | 0, i, l, h => fun x hx => by simp [pathR] at hx
  | f + 1, i, l, h => by
    rw [pathR]
    split
    · intro x hx
      rcases List.mem_cons.1 hx with rfl | hx
      · exact oth_len h (by omega)
      · exact pathR_hs f (i / 2) _ (upL_hs l) x hx
    · intro x hx; simp at hx
theorem pathL_hs (i : Int) (l : List (List Int)) (h : Hs l) : Hs (pathL i l).1 := by
  unfold pathL
  split
  · intro x hx; simp at hx
  · exact pathR_hs _ _ _ h
theorem cnt_le : ∀ f n : Nat, cntR f n ≤ f
  | 0, n => Nat.le_refl _
  | f + 1, n => by
    rw [cntR]
    have := cnt_le f ((n + 1) / 2)
    split <;> omega
theorem pathL_len (i : Int) (l : List (List Int)) : (pathL i l).1.length ≤ l.length := by
  unfold pathL
  split
  · simp
  · rw [path_len]; exact cnt_le _ _
theorem climbL_len (x : List Int) (hx : x.length = 32) (i n : Int) (p : List (List Int)) : (climbL x i n p).1.length = 32 := by
  unfold climbL
  split
  · rfl
  · split
    · rfl
    · exact climbR_len _ _ _ hx
theorem hs_set {l : List (List Int)} (h : Hs l) {i : Nat} {x : List Int} (hx : x.length = 32) : Hs (l.set i x) := fun y hy => by
  rcases List.mem_or_eq_of_mem_set hy with hy | rfl
  · exact h y hy
  · exact hx
theorem hs_take {l : List (List Int)} (h : Hs l) (n : Nat) : Hs (l.take n) := fun x hx => h x (List.mem_of_mem_take hx)
theorem hs_drop {l : List (List Int)} (h : Hs l) (n : Nat) : Hs (l.drop n) := fun x hx => h x (List.mem_of_mem_drop hx)
theorem hs_snoc {l : List (List Int)} (h : Hs l) {x : List Int} (hx : x.length = 32) : Hs (l ++ [x]) := fun y hy => by
  rcases List.mem_append.1 hy with hy | hy
  · exact h y hy
  · rw [List.mem_singleton.1 hy]; exact hx
/-- Climbing along its own way comes to the top. -/
theorem climbL_own (i : Nat) (l : List (List Int)) (hl : l.length ≤ 1000) (hi : i < l.length) : climbL (l.getD i []) (i : Int) (l.length : Int) (pathL (i : Int) l).1 = (rootL l, true) := by
  rw [pathL_in i l hi]
  unfold climbL rootL
  rw [if_neg (by omega), Int.toNat_natCast, Int.toNat_natCast, if_neg (by rw [path_len]; simp), climb_at _ _ _ (Nat.le_refl _) hi, if_neg (by omega)]
/-- Climbing along another way fails or takes one of the same length. -/
theorem climbL_bad (x : List Int) (i n : Nat) (p : List (List Int)) (h : p.length ≠ cntR n n) : (climbL x (i : Int) (n : Int) p).2 = false := by
  unfold climbL
  split
  · rfl
  · rw [Int.toNat_natCast, if_pos h]
end Go.Proofs.Ytnbnnphlffhgiaa.T
