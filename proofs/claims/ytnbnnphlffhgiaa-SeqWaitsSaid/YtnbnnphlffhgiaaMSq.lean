/- A helper of this seat's claims. It proves no statement by itself. -/
import Derived.Test.YtnbnnphlffhgiaaML
/-! Waiting inputs, plainly. -/
namespace Go.Proofs.Ytnbnnphlffhgiaa.T
open Go Go.Proofs Go.Proofs.Ytnbnnphlffhgiaa.K
set_option linter.unusedVariables false
set_option linter.unusedSimpArgs false

theorem and31 (a : Nat) (h : a < 4294967296) : bAnd .u32 (a : Int) 2147483648 = if a / 2147483648 % 2 = 1 then 2147483648 else 0 := by
  have := bAnd_nat .u32 rfl (a := a) (b := 2147483648) (by simpa [IntKind.bits] using h) (by simp [IntKind.bits])
  rw [show ((2147483648 : Nat) : Int) = 2147483648 from rfl, show a &&& 2147483648 = _ from and_bit a 31] at this
  rw [this, show 2 ^ 31 = 2147483648 from rfl]
  split <;> rfl
theorem and22 (a : Nat) (h : a < 4294967296) : bAnd .u32 (a : Int) 4194304 = if a / 4194304 % 2 = 1 then 4194304 else 0 := by
  have := bAnd_nat .u32 rfl (a := a) (b := 4194304) (by simpa [IntKind.bits] using h) (by simp [IntKind.bits])
  rw [show ((4194304 : Nat) : Int) = 4194304 from rfl, show a &&& 4194304 = _ from and_bit a 22] at this
  rw [this, show 2 ^ 22 = 4194304 from rfl]
  split <;> rfl
theorem and16 (a : Nat) (h : a < 4294967296) : bAnd .u32 (a : Int) 65535 = ((a % 65536 : Nat) : Int) := by
  have := bAnd_nat .u32 rfl (a := a) (b := 65535) (by simpa [IntKind.bits] using h) (by simp [IntKind.bits])
  rw [show ((65535 : Nat) : Int) = 65535 from rfl, show a &&& 65535 = _ from and_low a 16] at this
  exact this
theorem or22 (a : Nat) (h : a < 4194304) : bOr .u32 (a : Int) 4194304 = ((4194304 + a : Nat) : Int) := by
  have := bOr_nat .u32 rfl (a := a) (b := 4194304) (by simp [IntKind.bits]; omega) (by simp [IntKind.bits])
  rw [show ((4194304 : Nat) : Int) = 4194304 from rfl, show a ||| 4194304 = _ from or_high (i := 22) h] at this
  exact this
theorem or31 (a : Nat) (h : a < 2147483648) : bOr .u32 (a : Int) 2147483648 = ((2147483648 + a : Nat) : Int) := by
  have := bOr_nat .u32 rfl (a := a) (b := 2147483648) (by simp [IntKind.bits]; omega) (by simp [IntKind.bits])
  rw [show ((2147483648 : Nat) : Int) = 2147483648 from rfl, show a ||| 2147483648 = _ from or_high (i := 31) h] at this
  exact this
/-- What one input asks for, on top of what was asked. -/
def ask (c : Int × Int) (s h p : Int) : Int × Int :=
  if bAnd .u32 s 2147483648 ≠ 0 then c
  else if bAnd .u32 s 4194304 ≠ 0 then (c.1, iMax c.2 (IntKind.i64.wrap (IntKind.i64.wrap (IntKind.i64.wrap p + IntKind.i64.wrap (512 * IntKind.i64.wrap (bAnd .u32 s 65535))) - 1)))
  else (iMax c.1 (IntKind.i64.wrap (IntKind.i64.wrap (h + IntKind.i64.wrap (bAnd .u32 s 65535)) - 1)), c.2)
def asks (l : List In) (hs ps : List Int) : Nat → Int × Int
  | 0 => (-1, -1)
  | i + 1 => ask (asks l hs ps i) (l.getD i default).Seq (hs.getD i 0) (ps.getD i 0)
theorem need_eq (v : Int) (l : List In) (os : List Out) (tm : Int) (hs ps : List Int) (hv : ¬ v < 2) (h1 : hs.length = l.length) (h2 : ps.length = l.length) (hb : l.length < 1000000) :
    seq_Need.f ⟨v, l, os, tm⟩ hs ps = some ((asks l hs ps l.length).1, (asks l hs ps l.length).2, true) := by
  simp only [seq_Need.f]
  have hl : loopO (seq_Need.s0 ⟨v, l, os, tm⟩ hs ps) (-1, -1, 0) = some ((asks l hs ps l.length).1, (asks l hs ps l.length).2) := by
    refine loop_run (fun i => ((asks l hs ps i).1, (asks l hs ps i).2, (i : Int))) l.length rfl (fun i hi => ?_) ?_
    · simp only [seq_Need.s0, Int.toNat_natCast]
      rw [if_pos (by omega), if_pos (by omega)]
      simp only [asks, ask]
      by_cases c1 : bAnd .u32 (l.getD i default).Seq 2147483648 ≠ 0
      · rw [if_pos c1, if_pos c1, Option.bind_some, winc i (by omega)]
      · rw [if_neg c1, if_neg c1]
        by_cases c2 : bAnd .u32 (l.getD i default).Seq 4194304 ≠ 0
        · rw [if_pos c2, if_pos c2, if_pos (by omega), Option.bind_some, winc i (by omega)]
        · rw [if_neg c2, if_neg c2, if_pos (by omega), Option.bind_some, winc i (by omega)]
    · simp only [seq_Need.s0]
      rw [if_neg (by omega)]
  rw [if_neg (by omega), Option.bind_some, if_neg (by simp; omega), if_neg hv, hl]
  rfl
theorem need_old (v : Int) (l : List In) (os : List Out) (tm : Int) (hs ps : List Int) (hv : v < 2) (h1 : hs.length = l.length) (h2 : ps.length = l.length) :
    seq_Need.f ⟨v, l, os, tm⟩ hs ps = some (-1, -1, true) := by
  simp only [seq_Need.f]
  rw [if_neg (by omega), Option.bind_some, if_neg (by simp; omega), if_pos hv]
theorem need_bad (v : Int) (l : List In) (os : List Out) (tm : Int) (hs ps : List Int) (h1 : hs.length ≠ l.length) :
    seq_Need.f ⟨v, l, os, tm⟩ hs ps = some (0, 0, false) := by
  simp only [seq_Need.f]
  rw [if_pos (by omega), Option.bind_some, if_pos rfl]
theorem met_of {t : Tx} {hs ps : List Int} {a b : Int} {is : Bool} (h : seq_Need.f t hs ps = some (a, b, is)) (x p : Int) : seq_Met.f t hs ps x p = some (is && decide (a < x) && decide (b < IntKind.i64.wrap p)) := by
  simp only [seq_Met.f, h, Option.bind_some]
  cases is
  · simp
  · by_cases c : a < x
    · simp [c]
    · simp [c]
theorem first14 : sargassolaw14_first.f = some true := by
  have h3 := need_eq 2 [(⟨⟨List.replicate 32 0, 0⟩, [], 3⟩ : In)] [] 0 [5] [9] (by decide) rfl rfl (by decide)
  simp only [sargassolaw14_first.f, h3, Option.bind_some]
  have ha : asks [(⟨⟨List.replicate 32 0, 0⟩, [], 3⟩ : In)] [5] [9] 1 = (7, -1) := by
    show ask (-1, -1) 3 5 9 = (7, -1)
    have e1 := and31 3 (by decide)
    have e2 := and22 3 (by decide)
    have e3 := and16 3 (by decide)
    simp only [show ((3 : Nat) : Int) = 3 from rfl] at e1 e2 e3
    simp only [ask, e1, e2, e3]
    decide
  have hf : seq_Final.f ⟨0, [], [], 0⟩ 5 5 = some true := by simp only [seq_Final.f, if_true]
  simp only [List.length_cons, List.length_nil, Nat.zero_add, ha, hf, Option.bind_some]
  rfl
end Go.Proofs.Ytnbnnphlffhgiaa.T
