/- A helper of this seat's claims. It proves no statement by itself. -/
import Derived.Test.YtnbnnphlffhgiaaM0
import Derived.Test.YtnbnnphlffhgiaaMS3
import Derived.Test.YtnbnnphlffhgiaaGSpendSays
namespace Go.Proofs.Ytnbnnphlffhgiaa.T
open Go Go.Proofs Go.Proofs.Ytnbnnphlffhgiaa.K
set_option linter.unusedVariables false
set_option linter.unusedSimpArgs false
theorem sargassolaw3_SpendSays.m (μ : Store) (x0 : List Int) (u0 : Value) (hx0 : Slc (RI .u8) 1 μ u0 x0) (x1 : List Int) (hx1 : Arr .u8 32 x1) (x2 : Point) (hx2 : PointW μ x2) (x3 : Point) (hx3 : PointW μ x3) : sargassolaw3_SpendSays.f x0 x1 x2 x3 = some true := by
  simp only [sargassolaw3_SpendSays.f, first3, Option.bind_some, if_true]
  by_cases h0 : 100 < (x0.length : Int)
  · rw [if_pos h0]
  · have h2 := hx2.1.1
    have h3 := hx3.1.1
    rw [if_neg h0, ref_sha_eq _ (by omega), Option.bind_some, lock_eq _ (by omega), Option.bind_some, samehash_eq _ _ (sha_len _) (sha_len _), Option.bind_some, if_pos (by simp), opens_eq, Option.bind_some, opens1_eq _ _ hx1.1, Option.bind_some, if_pos rfl, opens_eq, Option.bind_some, if_pos (by congr 1; simp; omega), isnull_eq, Option.bind_some, null1_eq, Option.bind_some, samepoint_eq _ _ h2 (by rfl), Option.bind_some, if_pos rfl, null_eq, Option.bind_some, Option.bind_some, samepoint_eq _ _ (by rfl) (by rfl), Option.bind_some, if_pos (by simp), lessP_eq, Option.bind_some]
    have hl : sargassoref1_LessPoint.f x2 x3 = some (decide (ltP x2 x3)) := by
      simp only [sargassoref1_LessPoint.f, samehash_eq _ _ h2 h3, Option.bind_some]
      by_cases e : x2.Tx = x3.Tx
      · rw [if_pos (by simpa using e)]
        congr 1
        have : ltP x2 x3 ↔ x2.N < x3.N := by unfold ltP; rw [e, cmpI_self]; simp
        by_cases c : x2.N < x3.N
        · rw [decide_eq_true c, decide_eq_true (this.2 c)]
        · rw [decide_eq_false c, decide_eq_false fun x => c (this.1 x)]
      · rw [if_neg (by simpa using e), lesshash_eq _ _ h2 h3, Option.bind_some]
        congr 1
        have : ltP x2 x3 ↔ cmpI x2.Tx x3.Tx < 0 := by unfold ltP; simp [e]
        by_cases c : cmpI x2.Tx x3.Tx < 0
        · rw [decide_eq_true c, decide_eq_true (this.2 c)]
        · rw [decide_eq_false c, decide_eq_false fun x => c (this.1 x)]
    rw [hl, Option.bind_some, Option.bind_some]
    simp
end Go.Proofs.Ytnbnnphlffhgiaa.T
