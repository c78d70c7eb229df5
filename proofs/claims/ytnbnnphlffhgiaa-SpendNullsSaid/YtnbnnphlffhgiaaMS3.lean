/- A helper of this seat's claims. It proves no statement by itself. -/
import Derived.Test.YtnbnnphlffhgiaaMH
/-! Places and locks, plainly. -/
namespace Go.Proofs.Ytnbnnphlffhgiaa.T
open Go Go.Proofs Go.Proofs.Ytnbnnphlffhgiaa.K
set_option linter.unusedVariables false
set_option linter.unusedSimpArgs false

theorem cmpI_neg : ∀ a b : List Int, cmpI b a = - cmpI a b
  | [], [] => rfl
  | [], _ :: _ => rfl
  | _ :: _, [] => rfl
  | x :: a, y :: b => by
    simp only [cmpI]
    by_cases h : x < y
    · rw [if_pos h, if_neg (by omega), if_pos h]; rfl
    · by_cases h2 : y < x
      · rw [if_pos h2, if_neg h, if_pos h2]
      · rw [if_neg h2, if_neg h, if_neg h, if_neg h2, cmpI_neg a b]
theorem cmpI_zero : ∀ a b : List Int, cmpI a b = 0 → a = b
  | [], [], _ => rfl
  | [], _ :: _, h => by simp [cmpI] at h
  | _ :: _, [], h => by simp [cmpI] at h
  | x :: a, y :: b, h => by
    simp only [cmpI] at h
    by_cases h1 : x < y
    · rw [if_pos h1] at h; omega
    · rw [if_neg h1] at h
      by_cases h2 : y < x
      · rw [if_pos h2] at h; omega
      · rw [if_neg h2] at h
        rw [cmpI_zero a b h, show x = y by omega]
theorem cmpI_trans : ∀ a b c : List Int, cmpI a b < 0 → cmpI b c < 0 → cmpI a c < 0
  | [], [], _, h, _ => by simp [cmpI] at h
  | _, _ :: _, [], _, h => by simp [cmpI] at h
  | [], _ :: _, _ :: _, _, _ => by simp [cmpI]
  | _ :: _, [], _, h, _ => by simp [cmpI] at h
  | x :: a, y :: b, z :: c, h1, h2 => by
    simp only [cmpI] at h1 h2 ⊢
    by_cases p1 : x < y
    · by_cases p2 : y < z
      · rw [if_pos (by omega)]; omega
      · rw [if_neg p2] at h2
        by_cases p3 : z < y
        · rw [if_pos p3] at h2; omega
        · rw [if_pos (by omega)]; omega
    · rw [if_neg p1] at h1
      by_cases q1 : y < x
      · rw [if_pos q1] at h1; omega
      · rw [if_neg q1] at h1
        by_cases p2 : y < z
        · rw [if_pos (by omega)]; omega
        · rw [if_neg p2] at h2
          by_cases p3 : z < y
          · rw [if_pos p3] at h2; omega
          · rw [if_neg p3] at h2
            rw [if_neg (by omega), if_neg (by omega)]
            exact cmpI_trans a b c h1 h2
/-- One place ahead of another one. -/
def ltP (p q : Point) : Prop := cmpI p.Tx q.Tx < 0 ∨ (p.Tx = q.Tx ∧ p.N < q.N)
instance (p q : Point) : Decidable (ltP p q) := by unfold ltP; exact inferInstance
theorem lessP_eq (p q : Point) : spend_Less.f p q = some (decide (ltP p q)) := by
  simp only [spend_Less.f, spend_Compare.f, digest_Compare.f, bytes_Compare.f, Option.bind_some]
  by_cases h : cmpI p.Tx q.Tx = 0
  · rw [if_neg (by simpa using h)]
    have e := cmpI_zero _ _ h
    have hl : ltP p q ↔ p.N < q.N := by
      unfold ltP
      rw [h]
      simp [e]
    by_cases h1 : p.N < q.N
    · rw [if_pos h1, Option.bind_some, decide_eq_true (hl.2 h1)]; rfl
    · rw [if_neg h1, decide_eq_false (fun x => h1 (hl.1 x))]
      by_cases h2 : q.N < p.N
      · rw [if_pos h2]; rfl
      · rw [if_neg h2]; rfl
  · rw [if_pos h, Option.bind_some]
    have hl : ltP p q ↔ cmpI p.Tx q.Tx < 0 := by
      unfold ltP
      constructor
      · rintro (h1 | ⟨h1, _⟩)
        · exact h1
        · rw [h1, cmpI_self] at h; exact absurd rfl h
      · exact .inl
    congr 1
    by_cases h1 : cmpI p.Tx q.Tx < 0
    · rw [decide_eq_true h1, decide_eq_true (hl.2 h1)]
    · rw [decide_eq_false h1, decide_eq_false fun x => h1 (hl.1 x)]
theorem ltP_asym {p q : Point} (h : ltP p q) (h' : ltP q p) : False := by
  unfold ltP at h h'
  have := cmpI_neg p.Tx q.Tx
  rcases h with h | ⟨e, h⟩ <;> rcases h' with h' | ⟨e', h'⟩
  · omega
  · rw [e', cmpI_self] at h; omega
  · rw [e, cmpI_self] at h'; omega
  · omega
theorem ltP_total {p q : Point} (h : ¬ ltP p q) (h' : ¬ ltP q p) : p.Tx = q.Tx ∧ p.N = q.N := by
  unfold ltP at h h'
  have hn := cmpI_neg p.Tx q.Tx
  have h0 : cmpI p.Tx q.Tx = 0 := by
    have h1 : ¬ cmpI p.Tx q.Tx < 0 := fun x => h (.inl x)
    have h2 : ¬ cmpI q.Tx p.Tx < 0 := fun x => h' (.inl x)
    omega
  have e := cmpI_zero _ _ h0
  have h1 : ¬ p.N < q.N := fun x => h (.inr ⟨e, x⟩)
  have h2 : ¬ q.N < p.N := fun x => h' (.inr ⟨e.symm, x⟩)
  exact ⟨e, by omega⟩
theorem ltP_trans {p q r : Point} (h : ltP p q) (h' : ltP q r) : ltP p r := by
  unfold ltP at *
  rcases h with h | ⟨e, h⟩ <;> rcases h' with h' | ⟨e', h'⟩
  · exact .inl (cmpI_trans _ _ _ h h')
  · exact .inl (e' ▸ h)
  · exact .inl (e ▸ h')
  · exact .inr ⟨e.trans e', by omega⟩
theorem samepoint_eq (p q : Point) (hp : p.Tx.length = 32) (hq : q.Tx.length = 32) : sargassoref_SamePoint.f p q = some (decide (p.Tx = q.Tx ∧ p.N = q.N)) := by
  simp only [sargassoref_SamePoint.f, samehash_eq _ _ hp hq, Option.bind_some]
  by_cases h : p.Tx = q.Tx
  · simp [h]
  · simp [h]
theorem lock_eq (k : List Int) (h : k.length ≤ 1000000) : spend_Lock.f k = some (sha k) := by simp only [spend_Lock.f, sha_eq k h, Option.bind_some]
theorem opens_eq (k l : List Int) : spend_Opens.f k l = some (decide (k.length ≤ 80 ∧ sha k = l)) := by
  simp only [spend_Opens.f]
  by_cases h : (k.length : Int) ≤ 80
  · rw [if_pos h, lock_eq k (by omega), Option.bind_some, Option.bind_some]
    congr 1
    simp [show k.length ≤ 80 by omega]
  · rw [if_neg h, Option.bind_some, decide_eq_false (by omega)]
theorem opens1_eq (k l : List Int) (hl : l.length = 32) : sargassoref1_Opens.f k l = some (decide (k.length ≤ 80 ∧ sha k = l)) := by
  simp only [sargassoref1_Opens.f]
  by_cases h : (k.length : Int) ≤ 80
  · rw [if_pos h, ref_sha_eq k (by omega), Option.bind_some, samehash_eq _ _ (sha_len _) hl, Option.bind_some, Option.bind_some]
    congr 1
    simp [show k.length ≤ 80 by omega]
  · rw [if_neg h, Option.bind_some, decide_eq_false (by omega)]
def nullP : Point := ⟨List.replicate 32 0, 4294967295⟩
theorem null_eq : spend_Null.f = some nullP := rfl
theorem null1_eq : sargassoref1_Null.f = some nullP := rfl
theorem isnull_eq (p : Point) : spend_IsNull.f p = some (decide (p.Tx = nullP.Tx ∧ p.N = nullP.N)) := by simp only [spend_IsNull.f, null_eq, Option.bind_some]
theorem first3 : sargassolaw3_first.f = some true := by
  simp only [sargassolaw3_first.f, lock_eq [1, 2] (by simp), opens_eq, null_eq, isnull_eq, Option.bind_some]
  simp
theorem repl_set (n k : Nat) (x : Int) (hk : k < n) : (List.replicate n (0 : Int)).set k x = List.replicate n 0 ↔ x = 0 := by
  constructor
  · intro h
    have := congrArg (fun l => l.getD k 0) h
    simpa [List.getD, hk] using this
  · rintro rfl
    apply List.ext_getElem (by simp)
    intro i h1 h2
    rw [List.getElem_set]
    split <;> simp
theorem repl_cmp (k : Nat) : ∀ (n : Nat) (x : Int), k < n → 0 < x → cmpI (List.replicate n 0) ((List.replicate n (0 : Int)).set k x) = -1 := by
  induction k with
  | zero =>
    intro n x hn hx
    obtain ⟨n, rfl⟩ : ∃ m, n = m + 1 := ⟨n - 1, by omega⟩
    simp [List.replicate_succ, cmpI, hx]
  | succ k ih =>
    intro n x hn hx
    obtain ⟨n, rfl⟩ : ∃ m, n = m + 1 := ⟨n - 1, by omega⟩
    simp only [List.replicate_succ, List.set_cons_succ, cmpI]
    rw [if_neg (by omega), if_neg (by omega)]
    exact ih n x (by omega) hx
end Go.Proofs.Ytnbnnphlffhgiaa.T
