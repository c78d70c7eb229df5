/- A helper of this seat's claims: printed by gen.py. It proves no statement by itself. -/
import Derived.Test.YtnbnnphlffhgiaaFH
namespace Go.Proofs.Ytnbnnphlffhgiaa.T
open Go Go.Proofs Go.Proofs.Ytnbnnphlffhgiaa.K
set_option linter.unusedVariables false
set_option linter.unusedSimpArgs false
/-! sargassolaw3.SpendSays -/
noncomputable def sargassolaw3_SpendSays.f (x0 : List Int) (x1 : List Int) (x2 : Point) (x3 : Point) : Option Bool := ((sargassolaw3_first.f).bind fun r1 => (if r1 = true then (if 100 < (x0.length : Int) then some r1 else ((sargassoref1_Sha.f x0).bind fun r2 => (((if r1 = true then ((spend_Lock.f x0).bind fun r3 => ((sargassoref_SameHash.f r3 r2).bind fun r4 => (if r4 = true then ((spend_Opens.f x0 x1).bind fun r5 => ((sargassoref1_Opens.f x0 x1).bind fun r6 => (if r5 = r6 then ((spend_Opens.f x0 r2).bind fun r7 => (if r7 = (decide ((x0.length : Int) ≤ 80)) then ((spend_IsNull.f x2).bind fun r8 => ((sargassoref1_Null.f).bind fun r9 => ((sargassoref_SamePoint.f x2 r9).bind fun r10 => (if r8 = r10 then ((spend_Null.f).bind fun r11 => ((sargassoref1_Null.f).bind fun r12 => ((sargassoref_SamePoint.f r11 r12).bind fun r13 => (if r13 = true then ((spend_Less.f x2 x3).bind fun r14 => ((sargassoref1_LessPoint.f x2 x3).bind fun r15 => some (decide (r14 = r15)))) else some false)))) else some false)))) else some false)) else some false))) else some false))) else some false)).bind fun c1 => some c1))) else some false))
end Go.Proofs.Ytnbnnphlffhgiaa.T
