/- A helper of this seat's claims: printed by gen.py. It proves no statement by itself. -/
import Derived.Test.YtnbnnphlffhgiaaF6
namespace Go.Proofs.Ytnbnnphlffhgiaa.T
open Go Go.Proofs Go.Proofs.Ytnbnnphlffhgiaa.K
set_option linter.unusedVariables false
set_option linter.unusedSimpArgs false
/-! sargassolaw1.first -/
noncomputable def sargassolaw1_first.f : Option Bool := ((digest_Sha.f ([])).bind fun r1 => (((if (r1.getD (0 : Int).toNat 0) = 227 then (if (r1.getD (1 : Int).toNat 0) = 176 then (if (r1.getD (2 : Int).toNat 0) = 196 then some (decide ((r1.getD (3 : Int).toNat 0) = 66)) else some false) else some false) else some false)).bind fun c1 => some c1))

/-! sargassolaw2.first -/
noncomputable def sargassolaw2_first.f : Option Bool := ((compact_Put.f ([]) 253).bind fun r1 => (((if (r1.length : Int) = 3 then (if 0 < (r1.length : Int) then (if (r1.getD (0 : Int).toNat 0) = 253 then (if 1 < (r1.length : Int) then (if (r1.getD (1 : Int).toNat 0) = 253 then (if 2 < (r1.length : Int) then (if (r1.getD (2 : Int).toNat 0) = 0 then ((compact_Len.f 1).bind fun r2 => some (decide (r2 = 1))) else some false) else none) else some false) else none) else some false) else none) else some false)).bind fun c1 => some c1))

/-! sargassolaw3.first -/
noncomputable def sargassolaw3_first.f : Option Bool := ((((spend_Lock.f ([1, 2] : List Int)).bind fun r1 => ((spend_Opens.f ([1, 2] : List Int) r1).bind fun r2 => (if r2 = true then ((spend_Null.f).bind fun r3 => ((spend_IsNull.f r3).bind fun r4 => some r4)) else some false)))).bind fun c1 => some c1)

/-! sargassolaw4.first -/
noncomputable def sargassolaw4_first.f : Option Bool := ((((tx_Bytes.f (⟨0, [], [], 0⟩ : Tx)).bind fun r1 => (if (r1.length : Int) = 10 then ((tx_Size.f (⟨0, [], [], 0⟩ : Tx)).bind fun r2 => some (decide (r2 = 10))) else some false))).bind fun c1 => some c1)

/-! sargassolaw4.light -/
noncomputable def sargassolaw4_light.s0 (x0 : Tx) : Int → Option (Int ⊕ Bool) := fun s1 => (if s1 < (x0.Ins.length : Int) then (if 0 ≤ s1 ∧ s1 < (x0.Ins.length : Int) then (if 100 < (((x0.Ins.getD s1.toNat default).Key).length : Int) then some (.inr false) else some (.inl (IntKind.i64.wrap (s1 + 1)))) else none) else some (.inr true))
noncomputable def sargassolaw4_light.f (x0 : Tx) : Option Bool := (((if 60 < (x0.Ins.length : Int) then some true else some (decide (60 < (x0.Outs.length : Int))))).bind fun c1 => (if c1 = true then some false else loopO (sargassolaw4_light.s0 x0) 0))

/-! sargassolaw5.first -/
noncomputable def sargassolaw5_first.f : Option Bool := ((head_Bytes.f (⟨0, (List.replicate 32 0), (List.replicate 32 0), 0, 0, 0⟩ : Head)).bind fun r1 => some (decide ((r1.length : Int) = 80)))

/-! sargassolaw6.first -/
noncomputable def sargassolaw6_first.f : Option Bool := ((merkle_Root.f ([[1, 0, 0, 0, 0, 0, 0, 0, 0, 0, 0, 0, 0, 0, 0, 0, 0, 0, 0, 0, 0, 0, 0, 0, 0, 0, 0, 0, 0, 0, 0, 0]] : List (List Int))).bind fun r1 => ((sargassoref_SameHash.f r1 ([1, 0, 0, 0, 0, 0, 0, 0, 0, 0, 0, 0, 0, 0, 0, 0, 0, 0, 0, 0, 0, 0, 0, 0, 0, 0, 0, 0, 0, 0, 0, 0])).bind fun r2 => some r2))

/-! sargassolaw14.first -/
noncomputable def sargassolaw14_first.f : Option Bool := ((seq_Need.f (⟨2, ([(⟨(⟨(List.replicate 32 0), 0⟩ : Point), [], 3⟩ : In)] : List In), [], 0⟩ : Tx) ([5] : List Int) ([9] : List Int)).bind fun r1 => ((((seq_Final.f (⟨0, [], [], 0⟩ : Tx) 5 5).bind fun r2 => (if r2 = true then (if r1.2.2 = true then (if r1.1 = 7 then some (decide (r1.2.1 = (-1))) else some false) else some false) else some false))).bind fun c1 => some c1))

/-! sargassolaw15.first -/
noncomputable def sargassolaw15_first.f : Option Bool := ((((value_Reward.f 0 10).bind fun r1 => (if r1 = 5000000000 then ((value_Reward.f 10 10).bind fun r2 => some (decide (r2 = 2500000000))) else some false))).bind fun c1 => some c1)
end Go.Proofs.Ytnbnnphlffhgiaa.T
