/- A helper of this seat's claims. It proves no statement by itself. -/
import Derived.Test.YtnbnnphlffhgiaaMK2
import Derived.Test.YtnbnnphlffhgiaaGMerkleRows
namespace Go.Proofs.Ytnbnnphlffhgiaa.T
open Go Go.Proofs Go.Proofs.Ytnbnnphlffhgiaa.K
set_option linter.unusedVariables false
set_option linter.unusedSimpArgs false
theorem getD_take {α : Type} (l : List α) (n j : Nat) (d : α) (h : j < n) : (l.take n).getD j d = l.getD j d := by
  simp [List.getD, List.getElem?_take, h]
theorem getD_drop {α : Type} (l : List α) (n j : Nat) (d : α) : (l.drop n).getD j d = l.getD (n + j) d := by
  simp [List.getD, List.getElem?_drop]
/-- An even row's pairs. -/
theorem upG_even (l : List (List Int)) (j : Nat) (h : 2 * j + 1 < l.length) : upG l j = pr (l.getD (2 * j) []) (l.getD (2 * j + 1) []) := by
  unfold upG oth
  have hx := xor1 (2 * j)
  rw [if_pos (by omega)] at hx
  rw [hx, Nat.min_eq_left (by omega)]
theorem upL_take (l : List (List Int)) (m : Nat) (h : 2 * m ≤ l.length) : (upL l).take m = upL (l.take (2 * m)) := by
  unfold upL
  have e : ((l.take (2 * m)).length + 1) / 2 = m := by rw [List.length_take]; omega
  rw [e, ← List.map_take, List.take_range, Nat.min_eq_left (by omega)]
  apply List.map_congr_left
  intro j hj
  have hj : j < m := by simpa using hj
  rw [upG_even _ _ (by omega), upG_even _ _ (by rw [List.length_take]; omega), getD_take _ _ _ _ (by omega), getD_take _ _ _ _ (by omega)]
theorem upL_drop (l : List (List Int)) (m : Nat) (h : 2 * m ≤ l.length) (he : l.length % 2 = 0) : (upL l).drop m = upL (l.drop (2 * m)) := by
  refine (ext_iff _ _ [] (by rw [List.length_drop, upL_len, upL_len, List.length_drop]; omega)).1 (fun j h1 => ?_)
  rw [List.length_drop, upL_len] at h1
  rw [getD_drop, upL_at _ _ (by omega), upL_at _ _ (by rw [List.length_drop]; omega), upG_even _ _ (by omega), upG_even _ _ (by rw [List.length_drop]; omega), getD_drop, getD_drop]
  congr 2 <;> omega
theorem cnt_one : ∀ f : Nat, cntR f 1 = 0
  | 0 => rfl
  | f + 1 => by rw [cntR, if_neg (by omega)]
theorem top_fix : ∀ (k f : Nat) (l : List (List Int)), (topR k l).length ≤ 1 → k ≤ f → topR f l = topR k l
  | 0, f, l, h, hf => top_stop h
  | k + 1, f, l, h, hf => by
    obtain ⟨f, rfl⟩ : ∃ g, f = g + 1 := ⟨f - 1, by omega⟩
    by_cases c : 1 < l.length
    · rw [topR, if_pos c] at h
      rw [topR, if_pos c, topR, if_pos c]
      exact top_fix k f _ h (by omega)
    · rw [top_stop (by omega), top_stop (by omega)]
theorem pow_two (k : Nat) : 2 ^ (k + 1) = 2 * 2 ^ k := by rw [Nat.pow_succ, Nat.mul_comm]
theorem pow_pos' (k : Nat) : 1 ≤ 2 ^ k := Nat.one_le_two_pow
/-- Of a full row of two halves: the row of two above. -/
theorem top_pair : ∀ (k f : Nat) (l : List (List Int)), l.length = 2 ^ (k + 1) → k + 1 ≤ f →
    ∃ a b, topR k (l.take (2 ^ k)) = [a] ∧ topR k (l.drop (2 ^ k)) = [b] ∧ topR f l = upL [a, b] ∧ (pathR f (2 ^ k) l).length = k + 1 ∧ (pathR f (2 ^ k) l).getD k [] = a
  | 0, f, l, h, hf => by
    obtain ⟨f, rfl⟩ : ∃ g, f = g + 1 := ⟨f - 1, by omega⟩
    match l, h with
    | [a, b], _ =>
      refine ⟨a, b, rfl, rfl, ?_, ?_, ?_⟩
      · rw [topR, if_pos (by simp), top_stop (by rw [upL_len]; simp)]
      · rw [pathR, if_pos (by simp), List.length_cons, path_len, upL_len, show ([a, b].length + 1) / 2 = 1 by simp, cnt_one]
      · rw [pathR, if_pos (by simp)]
        rfl
  | k + 1, f, l, h, hf => by
    obtain ⟨f, rfl⟩ : ∃ g, f = g + 1 := ⟨f - 1, by omega⟩
    have p1 := pow_two (k + 1)
    have p2 := pow_two k
    have p3 := pow_pos' k
    have hu : (upL l).length = 2 ^ (k + 1) := by rw [upL_len]; omega
    obtain ⟨a, b, ha, hb, ht, hp, hg⟩ := top_pair k f (upL l) hu (by omega)
    refine ⟨a, b, ?_, ?_, ?_, ?_, ?_⟩
    · rw [topR, if_pos (by rw [List.length_take]; omega), p2, ← upL_take l _ (by omega)]; exact ha
    · rw [topR, if_pos (by rw [List.length_drop]; omega), p2, ← upL_drop l _ (by omega) (by omega)]; exact hb
    · rw [topR, if_pos (by omega)]; exact ht
    · rw [pathR, if_pos (by omega), List.length_cons, p2, Nat.mul_div_cancel_left _ (by decide), hp]
    · rw [pathR, if_pos (by omega), p2, Nat.mul_div_cancel_left _ (by decide)]; exact hg
theorem rootL_top (k : Nat) (l : List (List Int)) (h : l.length = 2 ^ k) (a : List Int) (ha : topR k l = [a]) : rootL l = a := by
  have p3 := pow_pos' k
  have hk : k < 2 ^ k := Nat.lt_two_pow_self
  unfold rootL
  rw [if_neg (by omega), top_fix k _ l (by rw [ha]; simp) (by omega), ha]
  rfl
theorem rootL_two (a b : List Int) : rootL [a, b] = (upL [a, b]).getD 0 [] := by
  unfold rootL
  rw [if_neg (by simp), List.length_cons, topR, if_pos (by simp), top_stop (by rw [upL_len]; simp)]
theorem sL_pow (k : Nat) (h : k < 5) : sL .i64 1 (k : Int) = ((2 ^ k : Nat) : Int) := by
  match k, h with
  | 0, _ => rfl
  | 1, _ => rfl
  | 2, _ => rfl
  | 3, _ => rfl
  | 4, _ => rfl
theorem rows_loop (k : Nat) (h : k < 5) : loopO (sargassolaw6_MerkleRows.s0 (k : Int)) (0, 1) = some ((k + 1 : Nat) : Int) := by
  have e : IntKind.u64.wrap (k : Int) = k := wu64 (by omega) (by omega)
  have big : 2 ^ (k + 1) ≤ 32 := Nat.pow_le_pow_right (by decide) (show k + 1 ≤ 5 by omega)
  have p1 := pow_two k
  refine loop_run (fun i => ((i : Int), ((2 ^ i : Nat) : Int))) (k + 1) rfl (fun i hi => ?_) ?_
  · have lt : 2 ^ i < 2 ^ (k + 1) := Nat.pow_lt_pow_right (by decide) hi
    have p2 := pow_two i
    have hw : IntKind.i64.wrap (2 * ((2 ^ i : Nat) : Int)) = ((2 ^ (i + 1) : Nat) : Int) := by
      rw [p2]; generalize 2 ^ i = q at lt ⊢; rw [w64 (by omega) (by omega)]; omega
    have hk : IntKind.i64.wrap (2 * ((2 ^ k : Nat) : Int)) = ((2 ^ (k + 1) : Nat) : Int) := by
      rw [p1]; generalize 2 ^ k = q at p1 ⊢; rw [w64 (by omega) (by omega)]; omega
    simp only [sargassolaw6_MerkleRows.s0]
    rw [e, sL_pow k h, hk, if_pos (Int.ofNat_lt.2 lt), winc i (by omega), hw]
  · have hk : IntKind.i64.wrap (2 * ((2 ^ k : Nat) : Int)) = ((2 ^ (k + 1) : Nat) : Int) := by
      rw [p1]; generalize 2 ^ k = q at p1 ⊢; rw [w64 (by omega) (by omega)]; omega
    simp only [sargassolaw6_MerkleRows.s0]
    rw [e, sL_pow k h, hk, if_neg (Int.lt_irrefl _)]
theorem sargassolaw6_MerkleRows.m (μ : Store) (x0 : List (List Int)) (u0 : Value) (h0 : Slc (RA .u8 32) 32 μ u0 x0) (x1 : Int) (h1 : InR .i64 x1) : sargassolaw6_MerkleRows.f x0 x1 = some true := by
  have s0 := hs_of h0
  obtain ⟨k, e, k0, k1⟩ := number_eq h1 (n := 5) (by omega) (by omega)
  obtain ⟨k, rfl⟩ : ∃ q : Nat, k = q := ⟨k.toNat, by omega⟩
  have eu : IntKind.u64.wrap (k : Int) = k := wu64 (by omega) (by omega)
  have big : 2 ^ k ≤ 16 := Nat.pow_le_pow_right (by decide) (show k ≤ 4 by omega)
  have p3 := pow_pos' k
  have p1 := pow_two k
  simp only [sargassolaw6_MerkleRows.f, first6, Option.bind_some, if_true]
  rw [e, Option.bind_some, rows_loop k (by omega), eu, sL_pow k (by omega), if_pos (by omega)]
  have hw : IntKind.i64.wrap (2 * ((2 ^ k : Nat) : Int)) = ((2 ^ (k + 1) : Nat) : Int) := by
    rw [p1]; generalize 2 ^ k = q at big ⊢; rw [w64 (by omega) (by omega)]; omega
  rw [hw]
  by_cases c : (x0.length : Int) < ((2 ^ (k + 1) : Nat) : Int)
  · rw [if_pos c]
  have hle : 2 ^ (k + 1) ≤ x0.length := by omega
  have hk : k < 2 ^ k := Nat.lt_two_pow_self
  have ll : (x0.take (2 ^ (k + 1))).length = 2 ^ (k + 1) := by rw [List.length_take]; omega
  have z : Int.toNat 0 = 0 := rfl
  have t1 : x0.take (2 ^ k) = (x0.take (2 ^ (k + 1))).take (2 ^ k) := by rw [List.take_take, Nat.min_eq_left (by omega)]
  rw [if_neg c, if_pos (by omega), Int.toNat_natCast, Int.toNat_natCast, z, List.drop_zero, List.drop_zero, t1]
  have sl := hs_take s0 (2 ^ (k + 1))
  generalize x0.take (2 ^ (k + 1)) = l at ll sl ⊢
  obtain ⟨a, b, ha, hb, ht, hp, hg⟩ := top_pair k (2 ^ (k + 1)) l ll (by omega)
  have r1 := rootL_top k (l.take (2 ^ k)) (by rw [List.length_take]; omega) a ha
  have r2 := rootL_top k (l.drop (2 ^ k)) (by rw [List.length_drop]; omega) b hb
  have la : a.length = 32 := by rw [← r1]; exact rootL_len _ (hs_take sl _)
  have lb : b.length = 32 := by rw [← r2]; exact rootL_len _ (hs_drop sl _)
  have hab : Hs [a, b] := fun x hx => by
    rcases List.mem_cons.1 hx with rfl | hx
    · exact la
    · rw [List.mem_singleton.1 hx]; exact lb
  have rl : rootL l = rootL [a, b] := by
    rw [rootL_two]; unfold rootL; rw [if_neg (by omega), ll, ht]
  have hr := rootL_len _ hab
  have pp := pathL_in (2 ^ k) l (by omega)
  rw [ll] at pp
  have e1 : IntKind.i64.wrap (((k + 1 : Nat) : Int) - 1) = (k : Int) := by rw [w64 (by omega) (by omega)]; omega
  rw [root_eq _ (hs_take sl _) (by rw [List.length_take]; omega), Option.bind_some, r1, if_pos (by omega), root_eq _ (hs_drop sl _) (by rw [List.length_drop]; omega), Option.bind_some, r2, Option.bind_some, if_pos (by omega), pathL_eq _ l sl (by omega), pp, Option.bind_some]
  simp only [if_true]
  rw [hp, if_pos rfl, root_eq l sl (by omega), Option.bind_some, root_eq _ hab (by simp), Option.bind_some, rl, samehash_eq _ _ hr hr, Option.bind_some, if_pos (by simp), e1, if_pos (by omega), Int.toNat_natCast, hg, samehash_eq _ _ la la]
  simp
end Go.Proofs.Ytnbnnphlffhgiaa.T
