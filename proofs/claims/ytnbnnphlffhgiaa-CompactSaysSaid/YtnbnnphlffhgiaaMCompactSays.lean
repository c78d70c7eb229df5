/- A helper of this seat's claims. It proves no statement by itself. -/
import Derived.Test.YtnbnnphlffhgiaaMC
import Derived.Test.YtnbnnphlffhgiaaGCompactSays
namespace Go.Proofs.Ytnbnnphlffhgiaa.T
open Go Go.Proofs Go.Proofs.Ytnbnnphlffhgiaa.K
set_option linter.unusedVariables false
theorem sargassolaw2_CompactSays.m (μ : Store) (x0 : List Int) (u0 : Value) (hx0 : Slc (RI .u8) 1 μ u0 x0) (x1 : Int) (hx1 : InR .u64 x1) (x2 : List Int) (u2 : Value) (hx2 : Slc (RI .u64) 1 μ u2 x2) : sargassolaw2_CompactSays.f x0 x1 x2 = some true := by
  unfold sargassolaw2_CompactSays.f
  rw [first2]
  simp only [Option.bind_some, if_true]
  by_cases h1 : 100 < (x0.length : Int)
  · simp [h1]
  by_cases h2 : 40 < (x2.length : Int)
  · simp [h1, h2]
  have hs := slc_ints hx2
  have l1 : (x0 ++ putN x1).length ≤ 140737488355328 := by have := putN_len x1; simp; omega
  have l2 : (x0 ++ leb (IntKind.u32.wrap x1) 4).length ≤ 140737488355328 := by simp [leb_len]; omega
  have l3 : (x0 ++ leb x1 8).length ≤ 140737488355328 := by simp [leb_len]; omega
  simp only [sum_eq x2 (by omega) hs, sum1_eq x2 (by omega) hs, put_eq x0 x1 (by omega), bytes_eq x0 (by omega), Option.bind_some, put1_eq x0 x1 hx1 (by omega), four_eq x0 _ (wrap_in _ _) (by omega), four1_eq x0 _ (wrap_in _ _) (by omega), eight_eq x0 _ (by omega), eight1_eq x0 _ hx1 (by omega)]
  simp only [Option.bind_some, samebytes_eq _ l1, samebytes_eq _ l2, samebytes_eq _ l3, h1, h2, if_true, if_false, decide_false, Bool.false_eq_true]
  have hl : compact_Len.f x1 = sargassoref1_Len.f x1 := rfl
  rw [hl]
  cases hz : sargassoref1_Len.f x1 with
  | none => simp [sargassoref1_Len.f] at hz; split at hz <;> (try split at hz) <;> (try split at hz) <;> cases hz
  | some z => simp
end Go.Proofs.Ytnbnnphlffhgiaa.T
