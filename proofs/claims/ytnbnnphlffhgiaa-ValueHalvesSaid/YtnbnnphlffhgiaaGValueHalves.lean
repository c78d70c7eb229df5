/- A helper of this seat's claims: printed by gen.py. It proves no statement by itself. -/
import Derived.Test.YtnbnnphlffhgiaaFH
namespace Go.Proofs.Ytnbnnphlffhgiaa.T
open Go Go.Proofs Go.Proofs.Ytnbnnphlffhgiaa.K
set_option linter.unusedVariables false
set_option linter.unusedSimpArgs false
/-! sargassolaw15.ValueHalves -/
noncomputable def sargassolaw15_ValueHalves.f (x0 : Int) (x1 : Int) (x2 : Int) : Option Bool := ((sargassolaw15_first.f).bind fun r1 => (if r1 = true then ((sargassoworld_Number.f x0 70).bind fun r2 => ((sargassoworld_Number.f x1 10000).bind fun r3 => ((sargassoworld_Number.f x2 (IntKind.i64.wrap (r3 + 1))).bind fun r4 => ((value_Reward.f (IntKind.i64.wrap (r2 * (IntKind.i64.wrap (r3 + 1)))) (IntKind.i64.wrap (r3 + 1))).bind fun r5 => ((value_Reward.f (IntKind.i64.wrap ((IntKind.i64.wrap (r2 * (IntKind.i64.wrap (r3 + 1)))) + r4)) (IntKind.i64.wrap (r3 + 1))).bind fun r6 => ((value_Reward.f (IntKind.i64.wrap ((IntKind.i64.wrap (r2 + 1)) * (IntKind.i64.wrap (r3 + 1)))) (IntKind.i64.wrap (r3 + 1))).bind fun r7 => (((if r1 = true then (if r5 = r6 then (if r7 = (IntKind.u64.wrap (Int.tdiv r5 2)) then (if r2 < 64 then ((value_Reward.f (-1) (IntKind.i64.wrap (r3 + 1))).bind fun r8 => (if r8 = 0 then ((value_Reward.f 5 0).bind fun r9 => some (decide (r9 = 0))) else some false)) else (if r5 = 0 then ((value_Reward.f (-1) (IntKind.i64.wrap (r3 + 1))).bind fun r10 => (if r10 = 0 then ((value_Reward.f 5 0).bind fun r11 => some (decide (r11 = 0))) else some false)) else some false)) else some false) else some false) else some false)).bind fun c1 => some c1))))))) else some false))
end Go.Proofs.Ytnbnnphlffhgiaa.T
