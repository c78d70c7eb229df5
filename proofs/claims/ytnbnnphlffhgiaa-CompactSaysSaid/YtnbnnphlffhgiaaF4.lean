/- A helper of this seat's claims: printed by gen.py. It proves no statement by itself. -/
import Derived.Test.YtnbnnphlffhgiaaF3
namespace Go.Proofs.Ytnbnnphlffhgiaa.T
open Go Go.Proofs Go.Proofs.Ytnbnnphlffhgiaa.K
set_option linter.unusedVariables false
set_option linter.unusedSimpArgs false
/-! spend.Null -/
noncomputable def spend_Null.f : Option Point := some (⟨(List.replicate 32 0), 4294967295⟩ : Point)

/-! sargassoref1.Null -/
noncomputable def sargassoref1_Null.f : Option Point := some (⟨(List.replicate 32 0), 4294967295⟩ : Point)

/-! sargassoref1.LessPoint -/
noncomputable def sargassoref1_LessPoint.f (x0 : Point) (x1 : Point) : Option Bool := ((sargassoref_SameHash.f x0.Tx x1.Tx).bind fun r1 => (if r1 = true then some (decide (x0.N < x1.N)) else ((sargassoref_LessHash.f x0.Tx x1.Tx).bind fun r2 => some r2)))

/-! slices.Clone[[]sargasso/api.In,sargasso/api.In] -/
def slices_Clone_api_In_api_In.f (x0 : List In) : Option (List In) := if x0.length ≤ 1954687338268 then some x0 else none

/-! slices.Clone[[]sargasso/api.Out,sargasso/api.Out] -/
def slices_Clone_api_Out_api_Out.f (x0 : List Out) : Option (List Out) := if x0.length ≤ 3518437208883 then some x0 else none
end Go.Proofs.Ytnbnnphlffhgiaa.T
