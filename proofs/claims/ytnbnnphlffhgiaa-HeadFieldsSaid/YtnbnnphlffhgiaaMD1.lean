/- A helper of this seat's claims. It proves no statement by itself. -/
import Derived.Test.YtnbnnphlffhgiaaMD
/-! The program's digest is SHA-256: words, rounds, blocks. -/
namespace Go.Proofs.Ytnbnnphlffhgiaa.T
open Go Go.Proofs Go.Proofs.Ytnbnnphlffhgiaa.K
set_option linter.unusedVariables false
set_option linter.unusedSimpArgs false

theorem u32e (x : Int) : IntKind.u32.wrap x = x % 4294967296 := by simp [IntKind.wrap, IntKind.signed, IntKind.bits]
theorem wl (a b : Int) : IntKind.u32.wrap (IntKind.u32.wrap a + b) = IntKind.u32.wrap (a + b) := by simp only [u32e]; omega
theorem wr (a b : Int) : IntKind.u32.wrap (a + IntKind.u32.wrap b) = IntKind.u32.wrap (a + b) := by simp only [u32e]; omega
theorem bOr_comm (k : IntKind) (a b : Int) : bOr k a b = bOr k b a := by unfold bOr; rw [BitVec.or_comm]
theorem right_f (x n : Int) (h0 : 0 ≤ n) (h1 : n ≤ 32) : sargassoref1_right.f x n = some (rotr x n) := by
  simp only [sargassoref1_right.f, rotr]
  rw [wu64 (x := 32 - n) (by omega) (by omega), if_pos h0, if_pos (by omega)]
theorem turn_f (x n : Int) (h0 : 0 < n) (h1 : n < 32) : digest_turn.f x n = some (rotr x n) := by
  simp only [digest_turn.f, math_bits_RotateLeft32.f, rotr]
  have e1 : IntKind.i64.wrap (0 - n) = -n := by rw [w64 (by omega) (by omega)]; omega
  have e2 : IntKind.u64.wrap (-n) = 18446744073709551616 - n := by
    simp [IntKind.wrap, IntKind.signed, IntKind.bits]
    omega
  obtain ⟨m, rfl⟩ : ∃ m : Nat, n = m := ⟨n.toNat, by omega⟩
  have e3 : bAnd .u64 (18446744073709551616 - (m : Int)) 31 = 32 - (m : Int) := by
    have h := bAnd_nat .u64 rfl (a := 18446744073709551616 - m) (b := 31) (by simp [IntKind.bits]; omega) (by simp [IntKind.bits])
    have e : ((18446744073709551616 - m : Nat) : Int) = 18446744073709551616 - (m : Int) := by omega
    rw [e] at h
    have h' : (18446744073709551616 - m) &&& 31 = (18446744073709551616 - m) % 32 := and_low _ 5
    rw [h'] at h
    rw [show ((31 : Nat) : Int) = 31 from rfl] at h
    rw [h]
    omega
  rw [e1, e2, e3, wu64 (x := 32 - (32 - (m : Int))) (by omega) (by omega), if_pos (by omega), if_pos (by omega)]
  have e4 : 32 - (32 - (m : Int)) = m := by omega
  rw [e4, bOr_comm]
  rfl

theorem schedR_len (b : List Int) (p t : Nat) : (schedR b p t).length = 64 := by
  induction t with
  | zero => simp [schedR]
  | succ t ih => simp [schedR, ih]
theorem getD_drop' (l : List Int) (a i : Nat) : (l.drop a).getD i 0 = l.getD (a + i) 0 := by simp [List.getD]
theorem getD_take' (l : List Int) (a i : Nat) (h : i < a) : (l.take a).getD i 0 = l.getD i 0 := by simp [List.getD, h]
theorem w64n {i : Nat} {j : Int} (h : (i : Int) + j < 9223372036854775808) (h0 : -9223372036854775808 ≤ (i : Int) + j) : IntKind.i64.wrap ((i : Int) + j) = i + j := w64 h0 h
theorem wsub (i c : Nat) (hc : c ≤ i) (hi : i < 1000) : IntKind.i64.wrap ((i : Int) - (c : Nat)) = ((i - c : Nat) : Int) := by
  rw [w64 (by omega) (by omega)]; omega
theorem wadd1 (i : Nat) (hi : i < 9223372036854775807) : IntKind.i64.wrap ((i : Int) + 1) = ((i + 1 : Nat) : Int) := by
  rw [w64 (by omega) (by omega)]; omega
theorem wmul4 (i : Nat) (hi : i < 1000) : IntKind.i64.wrap (4 * (i : Int)) = ((4 * i : Nat) : Int) := by
  rw [w64 (by omega) (by omega)]; omega

theorem spread_step (b : List Int) (h : b.length = 64) (w : List Int) (i : Nat) (hi : i < 64) : digest_spread.s0 b ((i : Int), w) = some (.inl (((i + 1 : Nat) : Int), w.set i (schedVal b 0 w i))) := by
  simp only [digest_spread.s0]
  rw [if_pos (by omega)]
  by_cases h16 : i < 16
  · have hl : (b.take ((b.length : Int)).toNat).drop (IntKind.i64.wrap (4 * (i : Int))).toNat = b.drop (4 * i) := by
      rw [wmul4 i (by omega), Int.toNat_natCast, Int.toNat_natCast, List.take_length]
    have hll : (b.drop (4 * i)).length = 64 - 4 * i := by simp [h]
    rw [if_pos (by omega), hl, hll, wmul4 i (by omega), if_pos (by omega), if_pos (by omega), if_pos (by omega), if_pos (by omega), if_pos (by omega), if_pos (by omega)]
    simp only [Option.bind_some, getD_drop', Int.toNat_natCast]
    rw [wadd1 i (by omega)]
    simp only [schedVal, if_pos h16, wordAt, Nat.zero_add]
    rfl
  · have e2 := wsub i 2 (by omega) (by omega)
    have e7 := wsub i 7 (by omega) (by omega)
    have e15 := wsub i 15 (by omega) (by omega)
    have e16 := wsub i 16 (by omega) (by omega)
    simp only [show ((2 : Nat) : Int) = 2 from rfl, show ((7 : Nat) : Int) = 7 from rfl, show ((15 : Nat) : Int) = 15 from rfl, show ((16 : Nat) : Int) = 16 from rfl] at e2 e7 e15 e16
    rw [if_neg (by omega), e2, e7, e15, e16, if_pos (by omega), if_pos (by omega), if_pos (by omega), if_pos (by omega)]
    simp only [Int.toNat_natCast, turn_f _ 17 (by omega) (by omega), turn_f _ 19 (by omega) (by omega), turn_f _ 7 (by omega) (by omega), turn_f _ 18 (by omega) (by omega), Option.bind_some]
    rw [if_pos (by omega), wadd1 i (by omega)]
    simp only [Option.bind_some, schedVal, if_neg h16, sg0, sg1]
    congr 4
    simp only [wl, wr]
    congr 1
    omega
theorem spread_eq (b : List Int) (h : b.length = 64) : digest_spread.f b = some (schedR b 0 64) := by
  simp only [digest_spread.f]
  have e := loop_run (step := digest_spread.s0 b) (s := (0, List.replicate 64 0)) (fun i => ((i : Int), schedR b 0 i)) 64 (r := schedR b 0 64) rfl (fun i hi => by
    rw [spread_step b h _ i hi]
    rfl) (by simp only [digest_spread.s0]; rw [if_neg (by decide)])
  rw [e]
  rfl

theorem mix0_step (w x : List Int) (i : Nat) (hi : i < 64) : digest_mix.s0 w digest_keys.lit0 ((i : Int), x) = some (.inl (((i + 1 : Nat) : Int), rstep x (kc.getD i 0) (w.getD i 0))) := by
  simp only [digest_mix.s0]
  rw [if_pos (by omega)]
  simp only [turn_f _ 6 (by omega) (by omega), turn_f _ 11 (by omega) (by omega), turn_f _ 25 (by omega) (by omega), turn_f _ 2 (by omega) (by omega), turn_f _ 13 (by omega) (by omega), turn_f _ 22 (by omega) (by omega), Option.bind_some, Int.toNat_natCast]
  rw [if_pos (by omega), wadd1 i (by omega)]
  simp only [rstep, rt1, rt2, kc, wl, wr, show (0 : Int).toNat = 0 from rfl, show (1 : Int).toNat = 1 from rfl, show (2 : Int).toNat = 2 from rfl, show (3 : Int).toNat = 3 from rfl, show (4 : Int).toNat = 4 from rfl, show (5 : Int).toNat = 5 from rfl, show (6 : Int).toNat = 6 from rfl, show (7 : Int).toNat = 7 from rfl]
theorem mix_eq (s b : List Int) (h : b.length = 64) : digest_mix.f s b = some (mixV s b 0) := by
  simp only [digest_mix.f, spread_eq b h, digest_keys.f, Option.bind_some]
  have e := loop_run (step := digest_mix.s0 (schedR b 0 64) digest_keys.lit0) (s := (0, s)) (fun i => ((i : Int), roundR (schedR b 0 64) s i)) 64 (r := roundR (schedR b 0 64) s 64) rfl (fun i hi => by
    rw [mix0_step _ _ i hi]
    rfl) (by simp only [digest_mix.s0]; rw [if_neg (by decide)])
  rw [e]
  simp only [Option.bind_some]
  have e := loop_run (step := digest_mix.s1 (roundR (schedR b 0 64) s 64)) (s := (0, s)) (fun i => ((i : Int), addR (roundR (schedR b 0 64) s 64) s i)) 8 (r := mixV s b 0) rfl (fun i hi => by
    simp only [digest_mix.s1]
    rw [if_pos (by omega), if_pos (by omega), wadd1 i (by omega)]
    simp only [Int.toNat_natCast, addR]) (by simp only [digest_mix.s1]; rw [if_neg (by decide)]; rfl)
  rw [e]
  rfl

/-! Blocks that lie in a longer row. -/
theorem wordAt_in (m : List Int) (a n t : Nat) (h : t < 16) : wordAt ((m.take (a + 64)).drop a) (4 * t) = wordAt m (a + 4 * t) := by
  have e : ∀ j, j < 64 → ((m.take (a + 64)).drop a).getD j 0 = m.getD (a + j) 0 := fun j hj => by
    rw [getD_drop', getD_take' _ _ _ (by omega)]
  simp only [wordAt]
  rw [e _ (by omega), e _ (by omega), e _ (by omega), e _ (by omega)]
  simp only [Nat.add_assoc]
theorem schedR_in (m : List Int) (a t : Nat) : schedR ((m.take (a + 64)).drop a) 0 t = schedR m a t := by
  induction t with
  | zero => rfl
  | succ t ih =>
    simp only [schedR, ih]
    congr 1
    simp only [schedVal]
    by_cases h : t < 16
    · simp only [if_pos h, Nat.zero_add]
      exact wordAt_in m a 0 t h
    · simp only [if_neg h]
theorem mixV_in (s m : List Int) (a : Nat) : mixV s ((m.take (a + 64)).drop a) 0 = mixV s m a := by
  simp only [mixV, schedR_in]
theorem wordAt_app (m l : List Int) (p : Nat) (h : p + 3 < m.length) : wordAt (m ++ l) p = wordAt m p := by
  have e : ∀ j, j < m.length → (m ++ l).getD j 0 = m.getD j 0 := fun j hj => by simp [List.getD, List.getElem?_append_left hj]
  simp only [wordAt]
  rw [e _ (by omega), e _ (by omega), e _ (by omega), e _ (by omega)]
theorem schedR_app (m l : List Int) (p t : Nat) (h : p + 64 ≤ m.length) : schedR (m ++ l) p t = schedR m p t := by
  induction t with
  | zero => rfl
  | succ t ih =>
    simp only [schedR, ih]
    congr 1
    simp only [schedVal]
    by_cases h : t < 16
    · simp only [if_pos h]
      exact wordAt_app m l _ (by omega)
    · simp only [if_neg h]
theorem blocksR_app (m l s : List Int) (n : Nat) (h : 64 * n ≤ m.length) : blocksR (m ++ l) s n = blocksR m s n := by
  induction n with
  | zero => rfl
  | succ n ih =>
    simp only [blocksR, ih (by omega), mixV]
    rw [schedR_app _ _ _ _ (by omega)]
theorem mixV_drop (s m : List Int) (q a : Nat) : mixV s (m.drop q) a = mixV s m (q + a) := by
  have hw : ∀ p, wordAt (m.drop q) p = wordAt m (q + p) := fun p => by
    simp only [wordAt, getD_drop', Nat.add_assoc]
  have hs : ∀ t, schedR (m.drop q) a t = schedR m (q + a) t := fun t => by
    induction t with
    | zero => rfl
    | succ t ih =>
      simp only [schedR, ih]
      congr 1
      simp only [schedVal, hw, Nat.add_assoc]
  simp only [mixV, hs]
theorem addR_len (x s : List Int) (i : Nat) : (addR x s i).length = s.length := by
  induction i with
  | zero => rfl
  | succ i ih => simp [addR, ih]
theorem mixV_len (s m : List Int) (a : Nat) : (mixV s m a).length = s.length := addR_len _ _ _
theorem blocksR_len (m s : List Int) (n : Nat) : (blocksR m s n).length = s.length := by
  induction n with
  | zero => rfl
  | succ n ih => rw [blocksR, mixV_len, ih]
end Go.Proofs.Ytnbnnphlffhgiaa.T
