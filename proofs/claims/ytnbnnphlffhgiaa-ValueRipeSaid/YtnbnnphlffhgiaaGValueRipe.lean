/- A helper of this seat's claims: printed by gen.py. It proves no statement by itself. -/
import Derived.Test.YtnbnnphlffhgiaaFH
namespace Go.Proofs.Ytnbnnphlffhgiaa.T
open Go Go.Proofs Go.Proofs.Ytnbnnphlffhgiaa.K
set_option linter.unusedVariables false
set_option linter.unusedSimpArgs false
/-! sargassolaw15.ValueRipe -/
noncomputable def sargassolaw15_ValueRipe.f (x0 : Int) (x1 : Int) (x2 : Int) : Option Bool := ((sargassolaw15_first.f).bind fun r1 => (if r1 = true then ((sargassoworld_Number.f x0 100000).bind fun r2 => ((sargassoworld_Number.f x1 1001).bind fun r3 => (((if r1 = true then ((value_Ripe.f (⟨x2, (List.replicate 32 0), r2, true⟩ : Money) (IntKind.i64.wrap (r2 + r3)) r3).bind fun r4 => (if r4 = true then ((value_Ripe.f (⟨x2, (List.replicate 32 0), r2, true⟩ : Money) (IntKind.i64.wrap ((IntKind.i64.wrap (r2 + r3)) - 1)) r3).bind fun r5 => (if r5 = true then some false else ((value_Ripe.f (⟨x2, (List.replicate 32 0), r2, false⟩ : Money) 0 r3).bind fun r6 => (if r6 = true then ((value_Ripe.f (⟨x2, (List.replicate 32 0), r2, true⟩ : Money) r2 0).bind fun r7 => some r7) else some false)))) else some false)) else some false)).bind fun c1 => some c1))) else some false))
end Go.Proofs.Ytnbnnphlffhgiaa.T
