/- A helper of this seat's claims. It proves no statement by itself. -/
import Derived.Test.YtnbnnphlffhgiaaM0
import Derived.Test.YtnbnnphlffhgiaaMH
import Derived.Test.YtnbnnphlffhgiaaGDigestTurned
namespace Go.Proofs.Ytnbnnphlffhgiaa.T
open Go Go.Proofs Go.Proofs.Ytnbnnphlffhgiaa.K
set_option linter.unusedVariables false
set_option linter.unusedSimpArgs false
theorem xor_back (x k : Int) (hx : InR .u8 x) : bXor .u8 (bXor .u8 x (sL .u8 1 k)) (sL .u8 1 k) = x := by
  obtain ⟨a, rfl, ha⟩ := nat_of (k := .u8) rfl hx
  obtain ⟨b, hb, hb'⟩ := nat_of (k := .u8) rfl (wrap_in .u8 (1 * 2 ^ min k.toNat IntKind.u8.bits))
  have e : sL .u8 1 k = (b : Int) := hb
  rw [e, bXor_nat .u8 rfl ha hb', bXor_nat .u8 rfl (Nat.xor_lt_two_pow ha hb') hb', Nat.xor_assoc, Nat.xor_self, Nat.xor_zero]
theorem sargassolaw1_DigestTurned.m (μ : Store) (x0 : List Int) (u0 : Value) (hx0 : Slc (RI .u8) 1 μ u0 x0) (x1 : Int) (hx1 : InR .i64 x1) : sargassolaw1_DigestTurned.f x0 x1 = some true := by
  simp only [sargassolaw1_DigestTurned.f, first1, Option.bind_some, if_true]
  by_cases h0 : (x0.length : Int) = 0
  · rw [if_pos h0]; rfl
  · rw [if_neg h0]
    simp only [Option.bind_some]
    by_cases h1 : 200 < (x0.length : Int)
    · rw [if_pos (by simpa using h1)]
    · have hw : IntKind.i64.wrap (8 * (x0.length : Int)) = 8 * (x0.length : Int) := w64 (by omega) (by omega)
      obtain ⟨k, e, k0, k1⟩ := number_eq hx1 (n := 8 * (x0.length : Int)) (by omega) (by omega)
      have hd : IntKind.i64.wrap (Int.tdiv k 8) = k / 8 := by rw [Int.tdiv_eq_ediv_of_nonneg k0, w64 (by omega) (by omega)]
      have hin := slc_ints hx0
      have hlt : (k / 8).toNat < x0.length := by omega
      have hxx := getD_in hin (k / 8).toNat
      have hback : ((x0.set (k / 8).toNat (bXor .u8 (x0.getD (k / 8).toNat 0) (sL .u8 1 (IntKind.u64.wrap (Int.tmod k 8))))).set (k / 8).toNat (bXor .u8 ((x0.set (k / 8).toNat (bXor .u8 (x0.getD (k / 8).toNat 0) (sL .u8 1 (IntKind.u64.wrap (Int.tmod k 8))))).getD (k / 8).toNat 0) (sL .u8 1 (IntKind.u64.wrap (Int.tmod k 8))))) = x0 := by
        have e1 : (x0.set (k / 8).toNat (bXor .u8 (x0.getD (k / 8).toNat 0) (sL .u8 1 (IntKind.u64.wrap (Int.tmod k 8))))).getD (k / 8).toNat 0 = bXor .u8 (x0.getD (k / 8).toNat 0) (sL .u8 1 (IntKind.u64.wrap (Int.tmod k 8))) := by
          simp [List.getD, hlt]
        rw [e1, xor_back _ _ hxx, List.set_set]
        apply List.ext_getElem (by simp)
        intro i h1 h2
        rw [List.getElem_set]
        split
        · rename_i h; subst h; simp [List.getD, hlt]
        · rfl
      have hex : ∀ a b : List Int, decide (hexB (sha a) = hexB (sha b)) = decide (sha a = sha b) := fun a b => by
        congr 1
        exact propext (hexB_inj (sha_arr a).2 (sha_arr b).2)
      rw [if_neg (by simpa using h1), bytes_eq _ (by omega), Option.bind_some, hw, e, Option.bind_some, hd, if_pos (by omega), if_pos (by have := wrap_in .u64 (Int.tmod k 8); simp only [InR] at this; omega), sha_eq _ (by omega), Option.bind_some, sha_eq _ (by simp; omega), Option.bind_some, Option.bind_some, if_pos (by omega), sha_eq _ (by simp; omega), Option.bind_some, if_pos (by simp; omega), hback, sha_eq _ (by omega), Option.bind_some, samehash_eq _ _ (sha_len _) (sha_len _), Option.bind_some, if_pos (by simp), hex_eq _ (sha_arr _), Option.bind_some, hex_eq _ (sha_arr _), Option.bind_some, samehash_eq _ _ (sha_len _) (sha_len _), Option.bind_some, if_pos (hex _ _), Option.bind_some, hex_eq _ (sha_arr _), Option.bind_some, samehash_eq _ _ (sha_len _) (sha_len _), Option.bind_some, Option.bind_some, hex]
      simp
end Go.Proofs.Ytnbnnphlffhgiaa.T
