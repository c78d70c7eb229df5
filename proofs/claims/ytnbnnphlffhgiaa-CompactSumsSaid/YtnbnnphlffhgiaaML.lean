/- A helper of this seat's claims. It proves no statement by itself. -/
import Derived.Test.YtnbnnphlffhgiaaM0
/-! Loops over lists, said plainly. -/
namespace Go.Proofs.Ytnbnnphlffhgiaa.T
open Go Go.Proofs Go.Proofs.Ytnbnnphlffhgiaa.K
set_option linter.unusedVariables false

theorem els_all {α : Type} {RE : α → List Value → Prop} {sz : Nat} {xs : List α} {cs : List Value} {Q : α → Prop} (h : Els RE sz xs cs) (f : ∀ x c, RE x c → Q x) : ∀ x ∈ xs, Q x := by
  induction h with
  | nil => simp
  | cons h _ _ ih =>
    intro y hy
    rcases List.mem_cons.1 hy with rfl | hy
    · exact f _ _ h
    · exact ih y hy
theorem slc_ints {k : IntKind} {μ : Store} {v : Value} {xs : List Int} (h : Slc (RI k) 1 μ v xs) : ∀ x ∈ xs, InR k x := by
  obtain ⟨cs, he, _⟩ := h
  exact els_all he fun x c hc => hc.2
theorem getD_mid {α : Type} (pre r : List α) (x d : α) : (pre ++ x :: r).getD ((pre.length : Int).toNat) d = x := by
  simp [List.getD]
theorem mid_lt {α : Type} (pre r : List α) (x : α) : 0 ≤ (pre.length : Int) ∧ (pre.length : Int) < ((pre ++ x :: r).length : Int) := by
  simp; omega
theorem mid_next {α : Type} (pre r : List α) (x : α) (h : (pre ++ x :: r).length ≤ 140737488355328) : IntKind.i64.wrap ((pre.length : Int) + 1) = ((pre ++ [x]).length : Int) := by
  simp at h
  rw [w64 (by omega) (by omega)]; simp

/-- Copying byte by byte. -/
theorem bytes_loop (xs : List Int) (h : xs.length ≤ 140737488355328) : ∀ (r pre : List Int), xs = pre ++ r → loopO (sargassoref_Bytes.s0 xs) (pre, (pre.length : Int)) = some (xs, (xs.length : Int), false)
  | [], pre, e => by
    obtain rfl : xs = pre := by simpa using e
    exact loopO_inr (by simp [sargassoref_Bytes.s0])
  | x :: r, pre, e => by
    have ih := bytes_loop xs h r (pre ++ [x]) (by simp [e])
    subst e
    have h1 := mid_lt pre r x
    rw [loopO_inl (s' := (pre ++ [x], ((pre ++ [x]).length : Int)))]
    · exact ih
    · have h2 : pre.length + 1 ≤ 140737488355328 := by simp at h; omega
      simp only [sargassoref_Bytes.s0, if_pos h1.2, if_pos h1, if_pos h2, getD_mid, mid_next pre r x h]
theorem bytes_eq (xs : List Int) (h : xs.length ≤ 140737488355328) : sargassoref_Bytes.f xs = some xs := by
  unfold sargassoref_Bytes.f
  rw [if_pos ⟨by omega, by omega, by omega⟩]
  have := bytes_loop xs h xs [] rfl
  simp only [Int.toNat_zero, List.replicate_zero]
  simp only [List.length_nil, Int.natCast_zero] at this
  rw [this]
  rfl

theorem samebytes_loop (xs : List Int) (h : xs.length ≤ 140737488355328) : ∀ (r pre : List Int), xs = pre ++ r → loopO (sargassoref_SameBytes.s0 xs xs) (pre.length : Int) = some true
  | [], pre, e => by
    obtain rfl : xs = pre := by simpa using e
    exact loopO_inr (by simp [sargassoref_SameBytes.s0])
  | x :: r, pre, e => by
    have ih := samebytes_loop xs h r (pre ++ [x]) (by simp [e])
    subst e
    have h1 := mid_lt pre r x
    rw [loopO_inl (s' := ((pre ++ [x]).length : Int))]
    · exact ih
    · simp only [sargassoref_SameBytes.s0, if_pos h1.2, if_pos h1, mid_next pre r x h, if_true]
theorem samebytes_eq (xs : List Int) (h : xs.length ≤ 140737488355328) : sargassoref_SameBytes.f xs xs = some true := by
  unfold sargassoref_SameBytes.f
  rw [if_neg (by simp)]
  exact samebytes_loop xs h xs [] rfl
end Go.Proofs.Ytnbnnphlffhgiaa.T
