/- A helper of this seat's claims. It proves no statement by itself. -/
import Derived.Test.YtnbnnphlffhgiaaM0
import Derived.Test.YtnbnnphlffhgiaaMSq
import Derived.Test.YtnbnnphlffhgiaaGSeqWaits
namespace Go.Proofs.Ytnbnnphlffhgiaa.T
open Go Go.Proofs Go.Proofs.Ytnbnnphlffhgiaa.K
set_option linter.unusedVariables false
set_option linter.unusedSimpArgs false
theorem iMax_m1 (x : Int) (h : -1 ≤ x) : iMax (-1) x = x := by unfold iMax; split <;> omega
theorem sargassolaw14_SeqWaits.m (μ : Store) (x0 : Int) (hx0 : InR .i64 x0) (x1 : Int) (hx1 : InR .i64 x1) (x2 : Int) (hx2 : InR .u32 x2) (x3 : Bool) : sargassolaw14_SeqWaits.f x0 x1 x2 x3 = some true := by
  obtain ⟨n, e, n0, n1⟩ := number_eq hx0 (n := 65536) (by omega) (by omega)
  obtain ⟨c, e', c0, c1⟩ := number_eq hx1 (n := 100000) (by omega) (by omega)
  obtain ⟨n, rfl⟩ : ∃ q : Nat, n = q := ⟨n.toNat, by omega⟩
  obtain ⟨a, rfl, ha⟩ := nat_of (k := .u32) rfl hx2
  have hp : bAnd .u32 (a : Int) 1073741823 = ((a % 1073741824 : Nat) : Int) := by
    have := bAnd_nat .u32 rfl (a := a) (b := 1073741823) ha (by simp [IntKind.bits])
    rw [show ((1073741823 : Nat) : Int) = 1073741823 from rfl, show a &&& 1073741823 = _ from and_low a 30] at this
    exact this
  generalize a % 1073741824 = p at hp
  have hpl : ((p : Nat) : Int) < 1073741824 := by
    have := bAnd_nat .u32 rfl (a := a) (b := 1073741823) ha (by simp [IntKind.bits])
    rw [show ((1073741823 : Nat) : Int) = 1073741823 from rfl, show a &&& 1073741823 = _ from and_low a 30, hp] at this
    have h2 : a % 2 ^ 30 < 2 ^ 30 := Nat.mod_lt _ (by decide)
    omega
  have hw : IntKind.u32.wrap (n : Int) = n := wu32 (by omega) (by omega)
  have old : ∀ (s : Int) (h q : Int), seq_Met.f ⟨1, [⟨⟨List.replicate 32 0, 0⟩, [], s⟩], [], 0⟩ [h] [q] 0 0 = some true := fun s h q => by
    rw [met_of (need_old 1 _ [] 0 _ _ (by decide) rfl rfl)]; rfl
  have bad : ∀ (s : Int) (h q : Int), seq_Met.f ⟨2, [⟨⟨List.replicate 32 0, 0⟩, [], s⟩], [], 0⟩ [] [] h q = some false := fun s h q => by
    rw [met_of (need_bad 2 _ [] 0 _ _ (by simp))]; rfl
  have one : ∀ (s h q : Int), seq_Need.f ⟨2, [⟨⟨List.replicate 32 0, 0⟩, [], s⟩], [], 0⟩ [h] [q] = some ((ask (-1, -1) s h q).1, (ask (-1, -1) s h q).2, true) := fun s h q =>
    need_eq 2 [⟨⟨List.replicate 32 0, 0⟩, [], s⟩] [] 0 [h] [q] (by decide) rfl rfl (by simp)
  cases x3 with
  | false =>
    have e31 := and31 n (by omega)
    have e22 := and22 n (by omega)
    have e16 := and16 n (by omega)
    have eo := or31 n (by omega)
    have e31' := and31 (2147483648 + n) (by omega)
    rw [if_neg (by omega)] at e31 e22
    rw [if_pos (by omega)] at e31'
    have a1 : ask (-1, -1) (n : Int) c (p : Int) = (c + n - 1, -1) := by
      simp only [ask, e31, e22, e16, ne_eq, not_true_eq_false, if_false]
      rw [w64 (x := ((n % 65536 : Nat) : Int)) (by omega) (by omega), w64 (x := c + ((n % 65536 : Nat) : Int)) (by omega) (by omega), w64 (by omega) (by omega), iMax_m1 _ (by omega)]
      congr 1; omega
    have a2 : ask (-1, -1) ((2147483648 + n : Nat) : Int) c (p : Int) = (-1, -1) := by
      simp only [ask, e31']
      rw [if_pos (by decide)]
    have met1 : ∀ x : Int, seq_Met.f ⟨2, [⟨⟨List.replicate 32 0, 0⟩, [], (n : Int)⟩], [], 0⟩ [c] [(p : Int)] x (p : Int) = some (decide (c + n - 1 < x)) := fun x => by
      rw [met_of (one (n : Int) c (p : Int)), a1, w64 (by omega) (by omega), decide_eq_true (show (-1 : Int) < (p : Int) by omega)]
      simp
    have met2 : seq_Met.f ⟨2, [⟨⟨List.replicate 32 0, 0⟩, [], ((2147483648 + n : Nat) : Int)⟩], [], 0⟩ [c] [(p : Int)] 0 0 = some true := by
      rw [met_of (one _ c (p : Int)), a2]; rfl
    simp only [sargassolaw14_SeqWaits.f, first14, Option.bind_some, if_true, e, e', hp, hw]
    rw [if_neg (by decide), Option.bind_some, w64 (x := c + (n : Int)) (by omega) (by omega)]
    simp only
    rw [met1, Option.bind_some, if_neg (by decide), Option.bind_some, if_neg (by decide), if_neg (by decide), Option.bind_some]
    have hs : ((if decide (0 < c + (n : Int)) = true then (seq_Met.f ⟨2, [⟨⟨List.replicate 32 0, 0⟩, [], (n : Int)⟩], [], 0⟩ [c] [(p : Int)] (IntKind.i64.wrap (c + (n : Int) - 1)) (p : Int)).bind fun r6 => some r6 else some false) : Option Bool) = some false := by
      by_cases h : 0 < c + (n : Int)
      · rw [if_pos (by simpa using h), met1, w64 (by omega) (by omega)]; simp
      · rw [if_neg (by simpa using h)]
    rw [hs, Option.bind_some, old, Option.bind_some, if_pos (by simp)]
    simp only [List.set_cons_zero, List.getD_cons_zero, show (0 : Int).toNat = 0 from rfl]
    rw [eo, met2, Option.bind_some, bad, decide_eq_true (show c + (n : Int) - 1 < c + n by omega)]
    rfl
  | true =>
    have eo0 := or22 n (by omega)
    have e31 := and31 (4194304 + n) (by omega)
    have e22 := and22 (4194304 + n) (by omega)
    have e16 := and16 (4194304 + n) (by omega)
    have eo := or31 (4194304 + n) (by omega)
    have e31' := and31 (2147483648 + (4194304 + n)) (by omega)
    rw [if_neg (by omega)] at e31
    rw [if_pos (by omega)] at e22 e31'
    have hm : (4194304 + n) % 65536 = n := by omega
    rw [hm] at e16
    have a1 : ask (-1, -1) ((4194304 + n : Nat) : Int) c (p : Int) = (-1, (p : Int) + 512 * n - 1) := by
      simp only [ask, e31, e22, e16, ne_eq, not_true_eq_false, if_false]
      rw [if_pos (by decide), w64 (x := (p : Int)) (by omega) (by omega), w64 (x := (n : Int)) (by omega) (by omega), w64 (x := 512 * (n : Int)) (by omega) (by omega), w64 (x := (p : Int) + 512 * (n : Int)) (by omega) (by omega), w64 (by omega) (by omega), iMax_m1 _ (by omega)]
    have a2 : ask (-1, -1) ((2147483648 + (4194304 + n) : Nat) : Int) c (p : Int) = (-1, -1) := by
      simp only [ask, e31']
      rw [if_pos (by decide)]
    have met1 : ∀ q : Int, 0 ≤ q → q < 4294967296 → seq_Met.f ⟨2, [⟨⟨List.replicate 32 0, 0⟩, [], ((4194304 + n : Nat) : Int)⟩], [], 0⟩ [c] [(p : Int)] c q = some (decide ((p : Int) + 512 * n - 1 < q)) := fun q q0 q1 => by
      rw [met_of (one _ c (p : Int)), a1, w64 (x := q) (by omega) (by omega), decide_eq_true (show (-1 : Int) < c by omega)]
      simp
    have met2 : seq_Met.f ⟨2, [⟨⟨List.replicate 32 0, 0⟩, [], ((2147483648 + (4194304 + n) : Nat) : Int)⟩], [], 0⟩ [c] [(p : Int)] 0 0 = some true := by
      rw [met_of (one _ c (p : Int)), a2]; rfl
    have hq : IntKind.u32.wrap ((p : Int) + IntKind.u32.wrap (IntKind.i64.wrap (512 * (n : Int)))) = (p : Int) + 512 * n := by
      rw [w64 (x := 512 * (n : Int)) (by omega) (by omega), wu32 (x := 512 * (n : Int)) (by omega) (by omega), wu32 (by omega) (by omega)]
    simp only [sargassolaw14_SeqWaits.f, first14, Option.bind_some, if_true, e, e', hp, hw]
    rw [if_pos (by simp), Option.bind_some]
    simp only [List.set_cons_zero, List.getD_cons_zero, show (0 : Int).toNat = 0 from rfl, hq, eo0]
    rw [met1 _ (by omega) (by omega), Option.bind_some]
    have hs : ((if decide (0 < (p : Int) + 512 * (n : Int)) = true then (seq_Met.f ⟨2, [⟨⟨List.replicate 32 0, 0⟩, [], ((4194304 + n : Nat) : Int)⟩], [], 0⟩ [c] [(p : Int)] c (IntKind.u32.wrap ((p : Int) + 512 * (n : Int) - 1))).bind fun r5 => some r5 else (some false).bind fun c6 => if c6 = true then (seq_Met.f ⟨2, [⟨⟨List.replicate 32 0, 0⟩, [], ((4194304 + n : Nat) : Int)⟩], [], 0⟩ [c] [(p : Int)] (IntKind.i64.wrap (c - 1)) ((p : Int) + 512 * (n : Int))).bind fun r6 => some r6 else some false) : Option Bool) = some false := by
      by_cases h : 0 < (p : Int) + 512 * (n : Int)
      · rw [if_pos (by simpa using h), wu32 (by omega) (by omega), met1 _ (by omega) (by omega)]; simp
      · rw [if_neg (by simpa using h)]; rfl
    simp only [Option.bind_some] at hs ⊢
    rw [hs, Option.bind_some, old, Option.bind_some, if_pos (by simp), eo, met2, Option.bind_some, bad, decide_eq_true (show (p : Int) + 512 * (n : Int) - 1 < (p : Int) + 512 * n by omega)]
    rfl
end Go.Proofs.Ytnbnnphlffhgiaa.T
