/- A helper of this seat's claims. It proves no statement by itself. -/
import Derived.Test.YtnbnnphlffhgiaaM0
import Derived.Test.YtnbnnphlffhgiaaMS3
import Derived.Test.YtnbnnphlffhgiaaGSpendNulls
namespace Go.Proofs.Ytnbnnphlffhgiaa.T
open Go Go.Proofs Go.Proofs.Ytnbnnphlffhgiaa.K
set_option linter.unusedVariables false
set_option linter.unusedSimpArgs false
theorem sargassolaw3_SpendNulls.m (μ : Store) (x0 : Int) (hx0 : InR .i64 x0) (x1 : Int) (hx1 : InR .u8 x1) (x2 : Int) (hx2 : InR .u32 x2) : sargassolaw3_SpendNulls.f x0 x1 x2 = some true := by
  obtain ⟨k, e, k0, k1⟩ := number_eq hx0 (n := 32) (by omega) (by omega)
  simp only [sargassolaw3_SpendNulls.f, first3, Option.bind_some, if_true, null_eq, null1_eq, e, isnull_eq, lessP_eq]
  rw [if_pos (by omega), samepoint_eq _ _ (by rfl) (by rfl)]
  have hk : k.toNat < 32 := by omega
  have e0 : nullP.Tx = List.replicate 32 0 := rfl
  have en : nullP.N = 4294967295 := rfl
  have e1 : (List.replicate 32 (0 : Int)).getD k.toNat 0 = 0 := by rw [List.getD, List.getElem?_replicate, if_pos hk]; rfl
  have ex : bXor .u8 0 x1 = x1 := by
    obtain ⟨a, rfl, ha⟩ := nat_of (k := .u8) rfl hx1
    have := bXor_nat .u8 rfl (a := 0) (b := a) (by simp [IntKind.bits]) ha
    simpa using this
  have hset := repl_set 32 k.toNat x1 hk
  obtain ⟨a, rfl, ha⟩ := nat_of (k := .u32) rfl hx2
  have hx : bXor .u32 4294967295 (a : Int) = ((4294967295 ^^^ a : Nat) : Int) := bXor_nat .u32 rfl (a := 4294967295) (b := a) (by simp [IntKind.bits]) ha
  have hb : 4294967295 ^^^ a < 4294967296 := Nat.xor_lt_two_pow (n := 32) (by omega) (by simpa [IntKind.bits] using ha)
  have hz : (4294967295 ^^^ a = 4294967295) ↔ a = 0 := by
    constructor
    · intro h
      have h2 : 4294967295 ^^^ (4294967295 ^^^ a) = 4294967295 ^^^ 4294967295 := by rw [h]
      rw [← Nat.xor_assoc, Nat.xor_self, Nat.zero_xor] at h2
      exact h2
    · rintro rfl; rfl
  rw [e0, en, e1, ex, hx]
  have c1 : decide (ltP ⟨List.replicate 32 0, ((4294967295 ^^^ a : Nat) : Int)⟩ nullP) = decide ((a : Int) ≠ 0) := by
    have : ltP ⟨List.replicate 32 0, ((4294967295 ^^^ a : Nat) : Int)⟩ nullP ↔ (a : Int) ≠ 0 := by
      unfold ltP
      simp only [e0, en, cmpI_self, true_and]
      constructor
      · rintro (h | h)
        · omega
        · intro h0; have := hz.2 (by omega); omega
      · intro h0
        right
        have : 4294967295 ^^^ a ≠ 4294967295 := fun h => h0 (by have := hz.1 h; omega)
        omega
    by_cases c : (a : Int) ≠ 0
    · rw [decide_eq_true c, decide_eq_true (this.2 c)]
    · rw [decide_eq_false c, decide_eq_false fun x => c (this.1 x)]
  have c2 : decide (ltP nullP ⟨(List.replicate 32 0).set k.toNat x1, 4294967295⟩) = decide (x1 ≠ 0) := by
    have hpos : x1 = 0 ∨ 0 < x1 := by have := hx1.1; omega
    rcases hpos with h | h
    · have h2 := hset.2 h
      rw [h2]
      have : ¬ ltP nullP ⟨List.replicate 32 0, 4294967295⟩ := fun x => ltP_asym x x
      rw [decide_eq_false this, decide_eq_false (by omega)]
    · have h2 := repl_cmp k.toNat 32 x1 hk h
      have : ltP nullP ⟨(List.replicate 32 0).set k.toNat x1, 4294967295⟩ := .inl (by rw [e0, h2]; decide)
      rw [decide_eq_true this, decide_eq_true (by omega)]
  have c3 : decide ((List.replicate 32 (0 : Int)).set k.toNat x1 = List.replicate 32 0 ∧ True) = decide (x1 = 0) := by
    by_cases c : x1 = 0
    · rw [decide_eq_true c, decide_eq_true ⟨hset.2 c, trivial⟩]
    · rw [decide_eq_false c, decide_eq_false fun x => c (hset.1 x.1)]
  have c4 : decide (True ∧ ((4294967295 ^^^ a : Nat) : Int) = 4294967295) = decide ((a : Int) = 0) := by
    by_cases c : (a : Int) = 0
    · rw [decide_eq_true c, decide_eq_true ⟨trivial, by rw [hz.2 (by omega)]; rfl⟩]
    · rw [decide_eq_false c, decide_eq_false fun x => c (by have := hz.1 (by omega); omega)]
  have c00 : decide (List.replicate 32 (0 : Int) = List.replicate 32 0 ∧ (4294967295 : Int) = 4294967295) = true := decide_eq_true ⟨rfl, rfl⟩
  have c0 : decide (True ∧ True) = true := rfl
  have c9 : ¬ decide (List.replicate 32 (0 : Int) = List.replicate 32 0 ∧ (0 : Int) = 4294967295) = true := by decide
  rw [if_pos c0, if_pos c3, if_pos c4, if_pos c1, if_pos c2, if_neg c9, Option.bind_some, Option.bind_some, c00]
end Go.Proofs.Ytnbnnphlffhgiaa.T
