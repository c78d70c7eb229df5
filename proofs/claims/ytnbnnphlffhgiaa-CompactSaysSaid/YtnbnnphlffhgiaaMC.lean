/- A helper of this seat's claims. It proves no statement by itself. -/
import Derived.Test.YtnbnnphlffhgiaaML
namespace Go.Proofs.Ytnbnnphlffhgiaa.T
open Go Go.Proofs Go.Proofs.Ytnbnnphlffhgiaa.K
set_option linter.unusedVariables false

/-- The sum of amounts, as it goes. -/
def goSum : Int → List Int → Int × Bool
  | s, [] => (s, true)
  | s, x :: r => if 2100000000000000 < s + x then (0, false) else goSum (s + x) r

theorem sum_loop (xs : List Int) (h : xs.length ≤ 140737488355328) (hx : ∀ x ∈ xs, InR .u64 x) : ∀ (r pre : List Int) (s : Int), xs = pre ++ r → 0 ≤ s → s ≤ 2100000000000000 →
    loopO (compact_Sum.s0 xs) (s, (pre.length : Int)) = some (goSum s r)
  | [], pre, s, e, _, _ => by
    obtain rfl : xs = pre := by simpa using e
    exact loopO_inr (by simp [compact_Sum.s0, goSum])
  | x :: r, pre, s, e, h0, h1 => by
    have hr : InR .u64 x := hx x (by simp [e])
    obtain ⟨a, b⟩ := hr
    have h3 := mid_lt pre r x
    have ih := sum_loop xs h hx r (pre ++ [x]) (s + x) (by simp [e]) (by omega)
    subst e
    unfold goSum
    by_cases hc : 2100000000000000 < s + x
    · rw [if_pos hc]
      refine loopO_inr ?_
      simp only [compact_Sum.s0, if_pos h3.2, if_pos h3, getD_mid]
      rw [if_pos (by rw [wu64 (by omega) (by omega)]; omega)]
    · rw [if_neg hc, loopO_inl (s' := (s + x, ((pre ++ [x]).length : Int)))]
      · exact ih (by omega)
      · simp only [compact_Sum.s0, if_pos h3.2, if_pos h3, getD_mid]
        rw [if_neg (by rw [wu64 (by omega) (by omega)]; omega), wu64 (by omega) (by omega), mid_next pre r x h]
theorem sum_eq (xs : List Int) (h : xs.length ≤ 140737488355328) (hx : ∀ x ∈ xs, InR .u64 x) : compact_Sum.f xs = some (goSum 0 xs) :=
  sum_loop xs h hx xs [] 0 rfl (by omega) (by omega)

theorem sum1_loop (xs : List Int) (h : xs.length ≤ 140737488355328) (hx : ∀ x ∈ xs, InR .u64 x) : ∀ (r pre : List Int) (s : Int), xs = pre ++ r → 0 ≤ s → s ≤ 2100000000000000 →
    loopO (sargassoref1_Sum.s0 xs) (s, (pre.length : Int)) = some (goSum s r)
  | [], pre, s, e, _, _ => by
    obtain rfl : xs = pre := by simpa using e
    exact loopO_inr (by simp [sargassoref1_Sum.s0, goSum])
  | x :: r, pre, s, e, h0, h1 => by
    have hr : InR .u64 x := hx x (by simp [e])
    obtain ⟨a, b⟩ := hr
    have h3 := mid_lt pre r x
    have ih := sum1_loop xs h hx r (pre ++ [x]) (s + x) (by simp [e]) (by omega)
    subst e
    unfold goSum
    by_cases hc : 2100000000000000 < s + x
    · rw [if_pos hc]
      refine loopO_inr ?_
      simp only [sargassoref1_Sum.s0, if_pos h3.2, if_pos h3, getD_mid]
      by_cases hb : 2100000000000000 < x
      · rw [if_pos hb]; simp
      · rw [if_neg hb, wu64 (by omega) (by omega)]; simp [hc]
    · rw [if_neg hc, loopO_inl (s' := (s + x, ((pre ++ [x]).length : Int)))]
      · exact ih (by omega)
      · simp only [sargassoref1_Sum.s0, if_pos h3.2, if_pos h3, getD_mid]
        rw [if_neg (by omega), wu64 (by omega) (by omega), mid_next pre r x h]
        simp [hc]
theorem sum1_eq (xs : List Int) (h : xs.length ≤ 140737488355328) (hx : ∀ x ∈ xs, InR .u64 x) : sargassoref1_Sum.f xs = some (goSum 0 xs) :=
  sum1_loop xs h hx xs [] 0 rfl (by omega) (by omega)

/-- A number's bytes, the least first. -/
def leb : Int → Nat → List Int
  | _, 0 => []
  | n, m + 1 => IntKind.u8.wrap n :: leb (sR .u64 n 8) m
theorem leb_len (n : Int) (m : Nat) : (leb n m).length = m := by
  induction m generalizing n with
  | zero => rfl
  | succ m ih => simp [leb, ih]

theorem number_loop (k : Nat) (hk : k ≤ 100) : ∀ (m i : Nat) (r : List Int) (n : Int), m + i = k → r.length + m ≤ 140737488355328 →
    (loopO (compact_number.s0 (k : Int)) (r, n, (i : Int))).map (fun (x : List Int × Int × Int × Int × Bool) => x.1) = some (r ++ leb n m)
  | 0, i, r, n, e, hl => by
    rw [loopO_inr (r := (r, n, (k : Int), (i : Int), decide ((i : Int) < (k : Int)))) (by simp only [compact_number.s0]; rw [if_neg (by omega)])]
    simp [leb]
  | m + 1, i, r, n, e, hl => by
    rw [loopO_inl (s' := (r ++ [IntKind.u8.wrap n], sR .u64 n 8, ((i + 1 : Nat) : Int)))]
    · rw [number_loop k hk m (i + 1) _ _ (by omega) (by simp; omega)]
      simp [leb]
    · simp only [compact_number.s0]
      rw [if_pos (by omega), if_pos (by omega), w64 (by omega) (by omega)]
      simp
theorem number_f (r : List Int) (n : Int) (k : Nat) (hk : k ≤ 100) (hl : r.length + k ≤ 140737488355328) : compact_number.f r n (k : Int) = some (r ++ leb n k) := by
  have h := number_loop k hk k 0 r n (by omega) hl
  unfold compact_number.f
  simp only [Int.natCast_zero] at h
  generalize loopO (compact_number.s0 (k : Int)) (r, n, 0) = z at h
  cases z with
  | none => cases h
  | some z => obtain ⟨a, b, c, d, e⟩ := z; simpa using h

theorem sR_sR (x : Int) (a b : Nat) (h : a + b ≤ 64) : sR .u64 (sR .u64 x a) b = sR .u64 x ((a + b : Nat) : Int) := by
  unfold sR
  have e1 : min (a : Int).toNat IntKind.u64.bits = a := by simp [IntKind.bits]; omega
  have e2 : min (b : Int).toNat IntKind.u64.bits = b := by simp [IntKind.bits]; omega
  have e3 : min ((a + b : Nat) : Int).toNat IntKind.u64.bits = a + b := by simp [IntKind.bits]; omega
  rw [e1, e2, e3, Int.pow_add, Int.fdiv_eq_ediv_of_nonneg _ (Int.pow_nonneg (by omega)), Int.fdiv_eq_ediv_of_nonneg _ (Int.pow_nonneg (by omega)), Int.fdiv_eq_ediv_of_nonneg _ (Int.mul_nonneg (Int.pow_nonneg (by omega)) (Int.pow_nonneg (by omega))), Int.ediv_ediv_of_nonneg (Int.pow_nonneg (by omega))]

theorem little_loop (x : Int) (k : Nat) (hk : k ≤ 8) : ∀ (m i : Nat) (r : List Int), m + i = k → r.length + m ≤ 140737488355328 →
    (loopO (sargassoref1_little.s0 x (k : Int)) (r, (i : Int))).map (fun (x : List Int × Int × Bool) => x.1) = some (r ++ leb (sR .u64 x ((8 * i : Nat) : Int)) m)
  | 0, i, r, e, hl => by
    rw [loopO_inr (r := (r, (i : Int), decide ((i : Int) < (k : Int)))) (by simp only [sargassoref1_little.s0]; rw [if_neg (by omega)])]
    simp [leb]
  | m + 1, i, r, e, hl => by
    rw [loopO_inl (s' := (r ++ [IntKind.u8.wrap (sR .u64 x ((8 * i : Nat) : Int))], ((i + 1 : Nat) : Int)))]
    · rw [little_loop x k hk m (i + 1) _ (by omega) (by simp; omega)]
      have := sR_sR x (8 * i) 8 (by omega)
      rw [leb, show sR .u64 (sR .u64 x ((8 * i : Nat) : Int)) 8 = sR .u64 x ((8 * (i + 1) : Nat) : Int) from this]
      simp
    · have ew : IntKind.u64.wrap (IntKind.i64.wrap (8 * (i : Int))) = ((8 * i : Nat) : Int) := by rw [w64 (by omega) (by omega), wu64 (by omega) (by omega)]; simp
      simp only [sargassoref1_little.s0, ew]
      rw [if_pos (by omega), if_pos (by omega), if_pos (by omega), w64 (by omega) (by omega)]
      simp
theorem little_f (r : List Int) (x : Int) (k : Nat) (hk : k ≤ 8) (hx : InR .u64 x) (hl : r.length + k ≤ 140737488355328) : sargassoref1_little.f r x (k : Int) = some (r ++ leb x k) := by
  have h := little_loop x k hk k 0 r (by omega) hl
  have e0 : sR .u64 x ((8 * 0 : Nat) : Int) = x := by simp [sR]
  rw [e0] at h
  unfold sargassoref1_little.f
  simp only [Int.natCast_zero] at h
  generalize loopO (sargassoref1_little.s0 x (k : Int)) (r, 0) = z at h
  cases z with
  | none => cases h
  | some z => obtain ⟨a, b, c⟩ := z; simpa using h

/-- A number in the fewest bytes. -/
def putN (n : Int) : List Int := if n < 253 then [IntKind.u8.wrap n] else if n < 65536 then 253 :: leb n 2 else if n < 4294967296 then 254 :: leb n 4 else 255 :: leb n 8
theorem putN_len (n : Int) : (putN n).length ≤ 9 := by
  unfold putN
  split
  · simp
  split
  · simp [leb_len]
  split <;> simp [leb_len]
theorem put_eq (b : List Int) (n : Int) (hl : b.length + 9 ≤ 140737488355328) : compact_Put.f b n = some (b ++ putN n) := by
  unfold compact_Put.f bytes_Clone.f compact_Len.f putN
  rw [if_pos (by omega)]
  by_cases h1 : n < 253
  · simp [h1, show b.length ≤ 140737488355327 by omega]
  by_cases h2 : n < 65536
  · have := number_f (b ++ [253]) n 2 (by omega) (by simp; omega)
    simp only [Int.cast_ofNat_Int] at this
    simp [h1, h2, show b.length ≤ 140737488355327 by omega, this]
  by_cases h3 : n < 4294967296
  · have := number_f (b ++ [254]) n 4 (by omega) (by simp; omega)
    simp only [Int.cast_ofNat_Int] at this
    simp [h1, h2, h3, show b.length ≤ 140737488355327 by omega, this]
  · have := number_f (b ++ [255]) n 8 (by omega) (by simp; omega)
    simp only [Int.cast_ofNat_Int] at this
    simp [h1, h2, h3, show b.length ≤ 140737488355327 by omega, this]
theorem put1_eq (b : List Int) (n : Int) (hn : InR .u64 n) (hl : b.length + 9 ≤ 140737488355328) : sargassoref1_Put.f b n = some (b ++ putN n) := by
  unfold sargassoref1_Put.f sargassoref1_Len.f putN
  by_cases h1 : n < 253
  · simp [h1, show b.length ≤ 140737488355327 by omega]
  by_cases h2 : n < 65536
  · have := little_f (b ++ [253]) n 2 (by omega) hn (by simp; omega)
    simp only [Int.cast_ofNat_Int] at this
    simp [h1, h2, show b.length ≤ 140737488355327 by omega, this]
  by_cases h3 : n < 4294967296
  · have := little_f (b ++ [254]) n 4 (by omega) hn (by simp; omega)
    simp only [Int.cast_ofNat_Int] at this
    simp [h1, h2, h3, show b.length ≤ 140737488355327 by omega, this]
  · have := little_f (b ++ [255]) n 8 (by omega) hn (by simp; omega)
    simp only [Int.cast_ofNat_Int] at this
    simp [h1, h2, h3, show b.length ≤ 140737488355327 by omega, this]
theorem four_eq (b : List Int) (n : Int) (hn : InR .u32 n) (hl : b.length + 9 ≤ 140737488355328) : compact_Four.f b n = some (b ++ leb n 4) := by
  unfold compact_Four.f bytes_Clone.f
  rw [if_pos (by omega), wu64 hn.1 (by have := hn.2; omega)]
  have := number_f b n 4 (by omega) (by omega)
  simp only [Int.cast_ofNat_Int] at this
  simp [this]
theorem four1_eq (b : List Int) (n : Int) (hn : InR .u32 n) (hl : b.length + 9 ≤ 140737488355328) : sargassoref1_Four.f b n = some (b ++ leb n 4) := by
  unfold sargassoref1_Four.f
  rw [wu64 hn.1 (by have := hn.2; omega)]
  have := little_f b n 4 (by omega) ⟨hn.1, by have := hn.2; omega⟩ (by omega)
  simp only [Int.cast_ofNat_Int] at this
  simp [this]
theorem eight_eq (b : List Int) (n : Int) (hl : b.length + 9 ≤ 140737488355328) : compact_Eight.f b n = some (b ++ leb n 8) := by
  unfold compact_Eight.f bytes_Clone.f
  rw [if_pos (by omega)]
  have := number_f b n 8 (by omega) (by omega)
  simp only [Int.cast_ofNat_Int] at this
  simp [this]
theorem eight1_eq (b : List Int) (n : Int) (hn : InR .u64 n) (hl : b.length + 9 ≤ 140737488355328) : sargassoref1_Eight.f b n = some (b ++ leb n 8) := by
  unfold sargassoref1_Eight.f
  have := little_f b n 8 (by omega) hn (by omega)
  simp only [Int.cast_ofNat_Int] at this
  simp [this]
theorem first2 : sargassolaw2_first.f = some true := by
  unfold sargassolaw2_first.f
  rw [put_eq [] 253 (by simp)]
  have e : putN 253 = [253, 253, 0] := by
    unfold putN
    simp [leb, IntKind.wrap, IntKind.signed, IntKind.bits, sR]
  rw [e]
  simp [compact_Len.f]
end Go.Proofs.Ytnbnnphlffhgiaa.T
