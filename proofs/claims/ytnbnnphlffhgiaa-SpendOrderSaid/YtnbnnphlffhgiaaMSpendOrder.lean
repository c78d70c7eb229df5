/- A helper of this seat's claims. It proves no statement by itself. -/
import Derived.Test.YtnbnnphlffhgiaaM0
import Derived.Test.YtnbnnphlffhgiaaMS3
import Derived.Test.YtnbnnphlffhgiaaGSpendOrder
namespace Go.Proofs.Ytnbnnphlffhgiaa.T
open Go Go.Proofs Go.Proofs.Ytnbnnphlffhgiaa.K
set_option linter.unusedVariables false
set_option linter.unusedSimpArgs false
theorem sargassolaw3_SpendOrder.m (μ : Store) (x0 : Point) (hx0 : PointW μ x0) (x1 : Point) (hx1 : PointW μ x1) (x2 : Point) (hx2 : PointW μ x2) : sargassolaw3_SpendOrder.f x0 x1 x2 = some true := by
  have hl : ∀ p q : Point, p.Tx = q.Tx → (ltP p q ↔ p.N < q.N) := fun p q e => by unfold ltP; rw [e, cmpI_self]; simp
  have h3 : decide (ltP x0 ⟨x0.Tx, x1.N⟩) = decide (x0.N < x1.N) := by
    have := hl x0 ⟨x0.Tx, x1.N⟩ rfl
    by_cases c : x0.N < x1.N
    · rw [decide_eq_true c, decide_eq_true (this.2 c)]
    · rw [decide_eq_false c, decide_eq_false fun x => c (this.1 x)]
  simp only [sargassolaw3_SpendOrder.f, first3, Option.bind_some, if_true, samepoint_eq _ _ hx0.1.1 hx1.1.1, lessP_eq, h3]
  have h1 : ((if decide (ltP x0 x1) = true then if decide (ltP x1 x2) = true then some (!decide (ltP x0 x2)) else some false else some false) : Option Bool) = some false := by
    by_cases a : ltP x0 x1
    · by_cases b : ltP x1 x2
      · simp [a, b, ltP_trans a b]
      · simp [a, b]
    · simp [a]
  rw [h1, Option.bind_some, if_neg (by simp)]
  by_cases a : ltP x0 x1
  · have b : ¬ ltP x1 x0 := fun b => ltP_asym a b
    have c : ¬ (x0.Tx = x1.Tx ∧ x0.N = x1.N) := fun ⟨c1, c2⟩ => by have := (hl _ _ c1).1 a; omega
    simp [a, b, c]
  · by_cases b : ltP x1 x0
    · have c : ¬ (x0.Tx = x1.Tx ∧ x0.N = x1.N) := fun ⟨c1, c2⟩ => by have := (hl _ _ c1.symm).1 b; omega
      simp [a, b, c]
    · have c := ltP_total a b
      simp [a, b, c]
end Go.Proofs.Ytnbnnphlffhgiaa.T
