/- A helper of this seat's claims: printed by gen.py. It proves no statement by itself. -/
import Derived.Test.YtnbnnphlffhgiaaF6
namespace Go.Proofs.Ytnbnnphlffhgiaa.T
open Go Go.Proofs Go.Proofs.Ytnbnnphlffhgiaa.K
set_option linter.unusedVariables false
set_option linter.unusedSimpArgs false
/-! sargassolaw2.first -/
noncomputable def sargassolaw2_first.f : Option Bool := ((compact_Put.f ([]) 253).bind fun r1 => (((if (r1.length : Int) = 3 then (if 0 < (r1.length : Int) then (if (r1.getD (0 : Int).toNat 0) = 253 then (if 1 < (r1.length : Int) then (if (r1.getD (1 : Int).toNat 0) = 253 then (if 2 < (r1.length : Int) then (if (r1.getD (2 : Int).toNat 0) = 0 then ((compact_Len.f 1).bind fun r2 => some (decide (r2 = 1))) else some false) else none) else some false) else none) else some false) else none) else some false)).bind fun c1 => some c1))

/-! sargassolaw4.light -/
noncomputable def sargassolaw4_light.s0 (x0 : Tx) : Int → Option (Int ⊕ Bool) := fun s1 => (if s1 < (x0.Ins.length : Int) then (if 0 ≤ s1 ∧ s1 < (x0.Ins.length : Int) then (if 100 < (((x0.Ins.getD s1.toNat default).Key).length : Int) then some (.inr false) else some (.inl (IntKind.i64.wrap (s1 + 1)))) else none) else some (.inr true))
noncomputable def sargassolaw4_light.f (x0 : Tx) : Option Bool := (((if 60 < (x0.Ins.length : Int) then some true else some (decide (60 < (x0.Outs.length : Int))))).bind fun c1 => (if c1 = true then some false else loopO (sargassolaw4_light.s0 x0) 0))

/-! sargassolaw15.first -/
noncomputable def sargassolaw15_first.f : Option Bool := ((((value_Reward.f 0 10).bind fun r1 => (if r1 = 5000000000 then ((value_Reward.f 10 10).bind fun r2 => some (decide (r2 = 2500000000))) else some false))).bind fun c1 => some c1)
end Go.Proofs.Ytnbnnphlffhgiaa.T
