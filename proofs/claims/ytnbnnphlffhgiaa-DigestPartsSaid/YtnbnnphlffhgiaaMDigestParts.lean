/- A helper of this seat's claims. It proves no statement by itself. -/
import Derived.Test.YtnbnnphlffhgiaaM0
import Derived.Test.YtnbnnphlffhgiaaMH
import Derived.Test.YtnbnnphlffhgiaaGDigestParts
namespace Go.Proofs.Ytnbnnphlffhgiaa.T
open Go Go.Proofs Go.Proofs.Ytnbnnphlffhgiaa.K
set_option linter.unusedVariables false
set_option linter.unusedSimpArgs false
theorem parts_loop (m : List Int) (cs : List Int) (hm : m.length ≤ 400) (hc : cs.length ≤ 6) (hcs : ∀ c ∈ cs, InR .i64 c) : ∀ (k i a : Nat) (w : digestWriter), k + i = cs.length → a ≤ m.length → WIn w (m.take a) →
    loopO (sargassolaw1_DigestParts.s0 m cs true) ((a : Int), (i : Int), w.s, w.rest, w.n) = some true
  | 0, i, a, w, e, ha, hw => by
    have hl : (m.take a).length = a := by simp; omega
    obtain ⟨w', e1, hw'⟩ := write_eq hw (b := m.drop a) (by simp; omega)
    rw [List.take_append_drop] at hw'
    have e1' : digest_Writer_Write.f ⟨w.s, w.rest, w.n⟩ (m.drop a) = some w' := e1
    refine loopO_inr ?_
    simp only [sargassolaw1_DigestParts.s0]
    have e2 : digest_Writer_Sum.f ⟨w'.s, w'.rest, w'.n⟩ = some (sha m) := sum_eq' hw' (by omega)
    rw [if_neg (by omega), if_pos (by omega), Int.toNat_natCast, Int.toNat_natCast, List.take_length, e1', Option.bind_some, if_pos trivial, e2, Option.bind_some, sha_eq _ (by omega), Option.bind_some, samehash_eq _ _ (sha_len _) (sha_len _), Option.bind_some, if_pos (by simp), digest_Writer_Len.f, Option.bind_some, Option.bind_some, hw'.1]
    simp
  | k + 1, i, a, w, e, ha, hw => by
    have hl : (m.take a).length = a := by simp; omega
    obtain ⟨n, e0, n0, n1⟩ := number_eq (hcs (cs.getD i 0) (by simp [List.getD, show i < cs.length by omega])) (n := (m.length : Int) - a + 1) (by omega) (by omega)
    obtain ⟨q, rfl⟩ : ∃ q : Nat, n = q := ⟨n.toNat, by omega⟩
    have hseg : m.take a ++ (m.take (a + q)).drop a = m.take (a + q) := by
      have h1 : m.take a = (m.take (a + q)).take a := by rw [List.take_take, Nat.min_eq_left (by omega)]
      rw [h1, List.take_append_drop]
    obtain ⟨w', e1, hw'⟩ := write_eq hw (b := (m.take (a + q)).drop a) (by simp; omega)
    rw [hseg] at hw'
    have e1' : digest_Writer_Write.f ⟨w.s, w.rest, w.n⟩ ((m.take (a + q)).drop a) = some w' := e1
    have hl' : (m.take (a + q)).length = a + q := by simp; omega
    have e2 : digest_Writer_Sum.f ⟨w'.s, w'.rest, w'.n⟩ = some (sha (m.take (a + q))) := sum_eq' hw' (by omega)
    have ew : IntKind.i64.wrap ((a : Int) + q) = ((a + q : Nat) : Int) := by rw [w64 (by omega) (by omega)]; omega
    have ew2 : IntKind.i64.wrap (IntKind.i64.wrap ((m.length : Int) - a) + 1) = (m.length : Int) - a + 1 := by rw [w64 (x := (m.length : Int) - a) (by omega) (by omega), w64 (by omega) (by omega)]
    rw [loopO_inl (s' := (((a + q : Nat) : Int), ((i + 1 : Nat) : Int), w'.s, w'.rest, w'.n))]
    · exact parts_loop m cs hm hc hcs k (i + 1) (a + q) w' (by omega) (by omega) hw'
    · simp only [sargassolaw1_DigestParts.s0]
      rw [if_pos (by omega), if_pos (by omega), Int.toNat_natCast, ew2, e0, Option.bind_some, ew, if_pos (by omega), Int.toNat_natCast, Int.toNat_natCast, e1', Option.bind_some, if_pos (by omega), e2, Option.bind_some, show (0 : Int).toNat = 0 from rfl, List.drop_zero, sha_eq _ (by omega), Option.bind_some, samehash_eq _ _ (sha_len _) (sha_len _), Option.bind_some, if_pos (by simp), digest_Writer_Len.f, Option.bind_some, Option.bind_some, hw'.1, hl', if_neg (by simp), winc i (by omega)]
theorem sargassolaw1_DigestParts.m (μ : Store) (x0 : List Int) (u0 : Value) (hx0 : Slc (RI .u8) 1 μ u0 x0) (x1 : List Int) (u1 : Value) (hx1 : Slc (RI .i64) 1 μ u1 x1) : sargassolaw1_DigestParts.f x0 x1 = some true := by
  simp only [sargassolaw1_DigestParts.f, first1, Option.bind_some, if_true]
  by_cases h0 : 400 < (x0.length : Int)
  · rw [if_pos h0]; rfl
  · rw [if_neg h0]
    simp only [Option.bind_some]
    by_cases h1 : 6 < (x1.length : Int)
    · rw [if_pos (by simpa using h1)]
    · rw [if_neg (by simpa using h1)]
      exact parts_loop x0 x1 (by omega) (by omega) (slc_ints hx1) x1.length 0 0 ⟨List.replicate 8 0, [], 0⟩ (by omega) (by omega) (wIn0 _)
end Go.Proofs.Ytnbnnphlffhgiaa.T
