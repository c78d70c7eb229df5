/- A helper of this seat's claims. It proves no statement by itself. -/
import Derived.Test.YtnbnnphlffhgiaaMB
/-! Loops over lists, said plainly. -/
namespace Go.Proofs.Ytnbnnphlffhgiaa.T
open Go Go.Proofs Go.Proofs.Ytnbnnphlffhgiaa.K
set_option linter.unusedVariables false
set_option linter.unusedSimpArgs false

theorem els_all {α : Type} {RE : α → List Value → Prop} {sz : Nat} {xs : List α} {cs : List Value} {Q : α → Prop} (h : Els RE sz xs cs) (f : ∀ x c, RE x c → Q x) : ∀ x ∈ xs, Q x := by
  induction h with
  | nil => simp
  | cons h _ _ ih =>
    intro y hy
    rcases List.mem_cons.1 hy with rfl | hy
    · exact f _ _ h
    · exact ih y hy
theorem slc_ints {k : IntKind} {μ : Store} {v : Value} {xs : List Int} (h : Slc (RI k) 1 μ v xs) : ∀ x ∈ xs, InR k x := by
  obtain ⟨cs, he, _⟩ := h
  exact els_all he fun x c hc => hc.2
theorem slc_arrs {k : IntKind} {n sz : Nat} {μ : Store} {v : Value} {xs : List (List Int)} (h : Slc (RA k n) sz μ v xs) : ∀ x ∈ xs, Arr k n x := by
  obtain ⟨cs, he, _⟩ := h
  exact els_all he fun x c hc => hc.2
theorem getD_mid {α : Type} (pre r : List α) (x d : α) : (pre ++ x :: r).getD ((pre.length : Int).toNat) d = x := by
  simp [List.getD]
theorem mid_lt {α : Type} (pre r : List α) (x : α) : 0 ≤ (pre.length : Int) ∧ (pre.length : Int) < ((pre ++ x :: r).length : Int) := by
  simp; omega
theorem mid_next {α : Type} (pre r : List α) (x : α) (h : (pre ++ x :: r).length ≤ 140737488355328) : IntKind.i64.wrap ((pre.length : Int) + 1) = ((pre ++ [x]).length : Int) := by
  simp at h
  rw [w64 (by omega) (by omega)]; simp
theorem winc (i : Nat) (hi : i < 9223372036854775807) : IntKind.i64.wrap ((i : Int) + 1) = ((i + 1 : Nat) : Int) := by
  rw [w64 (by omega) (by omega)]; omega
theorem take_next {α : Type} (xs : List α) (i : Nat) (d : α) (h : i < xs.length) : xs.take i ++ [xs.getD i d] = xs.take (i + 1) := by
  rw [List.take_add_one]
  simp [List.getD, h]
/-- A list that is copied element by element. -/
theorem copy_run {α : Type} {step : (List α × Int) → Option ((List α × Int) ⊕ List α)} (xs : List α) (d : α) (h : xs.length < 9223372036854775807)
    (hs : ∀ i, i < xs.length → step (xs.take i, (i : Int)) = some (.inl (xs.take i ++ [xs.getD i d], IntKind.i64.wrap ((i : Int) + 1)))) (hn : step (xs, (xs.length : Int)) = some (.inr xs)) : loopO step ([], 0) = some xs :=
  loop_run (fun i => (xs.take i, (i : Int))) xs.length rfl (fun i hi => by
    rw [hs i hi, take_next _ _ _ hi, winc i (by omega)]) (by simpa using hn)
theorem bytes_eq (xs : List Int) (h : xs.length ≤ 140737488355328) : sargassoref_Bytes.f xs = some xs := by
  unfold sargassoref_Bytes.f
  rw [if_pos ⟨by omega, by omega, by omega⟩]
  simp only [Int.toNat_zero, List.replicate_zero]
  rw [copy_run xs 0 (by omega) (fun i hi => by
    simp only [sargassoref_Bytes.s0]
    rw [if_pos (by omega), if_pos (by omega), if_pos (by simp; omega), Int.toNat_natCast]) (by simp [sargassoref_Bytes.s0])]
  rfl

/-- A loop that looks for what does not fit. -/
theorem all_run {step : Int → Option (Int ⊕ Bool)} (n : Nat) (p : Nat → Prop) [DecidablePred p] (hn : n < 9223372036854775807)
    (hs : ∀ i, i < n → step (i : Int) = if p i then some (.inl (IntKind.i64.wrap ((i : Int) + 1))) else some (.inr false)) (he : step (n : Int) = some (.inr true)) : loopO step 0 = some (decide (∀ i, i < n → p i)) := by
  have key : ∀ m k, m + k = n → (∀ i, i < k → p i) → loopO step (k : Int) = some (decide (∀ i, i < n → p i)) := by
    intro m
    induction m with
    | zero =>
      intro k e h
      obtain rfl : k = n := by omega
      rw [loopO_inr he]
      congr 1
      exact (decide_eq_true h).symm
    | succ m ih =>
      intro k e h
      have h1 := hs k (by omega)
      by_cases hp : p k
      · rw [if_pos hp, winc k (by omega)] at h1
        rw [loopO_inl h1]
        refine ih (k + 1) (by omega) fun i hi => ?_
        rcases Nat.lt_or_ge i k with h2 | h2
        · exact h i h2
        · obtain rfl : i = k := by omega
          exact hp
      · rw [if_neg hp] at h1
        rw [loopO_inr h1]
        have : ¬ ∀ i, i < n → p i := fun h2 => hp (h2 k (by omega))
        simp [this]
  exact key n 0 (by omega) (by simp)
theorem ext_iff {α : Type} (xs ys : List α) (d : α) (h : xs.length = ys.length) : (∀ i, i < xs.length → xs.getD i d = ys.getD i d) ↔ xs = ys := by
  constructor
  · intro hh
    apply List.ext_getElem h
    intro i h1 h2
    have := hh i h1
    simpa [List.getD, h1, h2] using this
  · rintro rfl i _
    rfl
theorem samehash_eq (a b : List Int) (ha : a.length = 32) (hb : b.length = 32) : sargassoref_SameHash.f a b = some (decide (a = b)) := by
  unfold sargassoref_SameHash.f
  rw [all_run 32 (fun i => a.getD i 0 = b.getD i 0) (by omega) (fun i hi => by
    simp only [sargassoref_SameHash.s0, Int.toNat_natCast]
    rw [if_pos (by omega), if_pos (by omega)]
    by_cases h : a.getD i 0 = b.getD i 0
    · rw [if_neg (by simpa using h), if_pos h]
    · rw [if_pos h, if_neg h]) (by simp [sargassoref_SameHash.s0])]
  congr 2
  apply propext
  have := ext_iff a b 0 (by rw [ha, hb])
  rw [ha] at this
  exact this
theorem samebytes_eq' (xs ys : List Int) (h : xs.length ≤ 140737488355328) : sargassoref_SameBytes.f xs ys = some (decide (xs = ys)) := by
  unfold sargassoref_SameBytes.f
  by_cases hl : xs.length = ys.length
  · rw [if_neg (by omega), all_run xs.length (fun i => xs.getD i 0 = ys.getD i 0) (by omega) (fun i hi => by
      simp only [sargassoref_SameBytes.s0, Int.toNat_natCast]
      rw [if_pos (by omega), if_pos (by omega), if_pos (by omega)]) (by simp [sargassoref_SameBytes.s0])]
    congr 2
    exact propext (ext_iff xs ys 0 hl)
  · rw [if_pos (by omega)]
    have : xs ≠ ys := fun e => hl (by rw [e])
    simp [this]
theorem samebytes_eq (xs : List Int) (h : xs.length ≤ 140737488355328) : sargassoref_SameBytes.f xs xs = some true := by
  rw [samebytes_eq' xs xs h]
  simp
theorem cmpI_self : ∀ xs : List Int, cmpI xs xs = 0
  | [] => rfl
  | x :: xs => by simp [cmpI, cmpI_self xs]
theorem lesshash_eq (a b : List Int) (ha : a.length = 32) (hb : b.length = 32) : sargassoref_LessHash.f a b = some (decide (cmpI a b < 0)) := by
  have key : ∀ m k : Nat, m + k = 32 → loopO (sargassoref_LessHash.s0 a b) (k : Int) = some (decide (cmpI (a.drop k) (b.drop k) < 0)) := by
    intro m
    induction m with
    | zero =>
      intro k e
      rw [loopO_inr (r := false) (by simp only [sargassoref_LessHash.s0]; rw [if_neg (by omega)]), List.drop_eq_nil_of_le (by omega), List.drop_eq_nil_of_le (by omega)]
      rfl
    | succ m ih =>
      intro k e
      have e1 : a.drop k = a.getD k 0 :: a.drop (k + 1) := by
        rw [List.drop_eq_getElem_cons (by omega)]; simp [List.getD, show k < a.length by omega]
      have e2 : b.drop k = b.getD k 0 :: b.drop (k + 1) := by
        rw [List.drop_eq_getElem_cons (by omega)]; simp [List.getD, show k < b.length by omega]
      by_cases h : a.getD k 0 = b.getD k 0
      · have ec : cmpI (a.drop k) (b.drop k) = cmpI (a.drop (k + 1)) (b.drop (k + 1)) := by
          rw [e1, e2, h]
          simp [cmpI]
        rw [loopO_inl (s' := ((k + 1 : Nat) : Int)) (by
          simp only [sargassoref_LessHash.s0, Int.toNat_natCast]
          rw [if_pos (by omega), if_pos (by omega), if_neg (by simpa using h), winc k (by omega)]), ih (k + 1) (by omega), ec]
      · rw [loopO_inr (r := decide (a.getD k 0 < b.getD k 0)) (by
          simp only [sargassoref_LessHash.s0, Int.toNat_natCast]
          rw [if_pos (by omega), if_pos (by omega), if_pos h])]
        congr 1
        by_cases h1 : a.getD k 0 < b.getD k 0
        · have ec : cmpI (a.drop k) (b.drop k) = -1 := by
            rw [e1, e2]
            simp only [cmpI, if_pos h1]
          rw [ec, decide_eq_true h1]
          rfl
        · have ec : cmpI (a.drop k) (b.drop k) = 1 := by
            rw [e1, e2]
            simp only [cmpI, if_neg h1]
            rw [if_pos (by omega)]
          rw [ec, decide_eq_false h1]
          rfl
  exact key 32 0 (by omega)
end Go.Proofs.Ytnbnnphlffhgiaa.T
