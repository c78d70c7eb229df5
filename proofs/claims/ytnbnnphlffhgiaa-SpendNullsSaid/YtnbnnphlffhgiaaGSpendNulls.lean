/- A helper of this seat's claims: printed by gen.py. It proves no statement by itself. -/
import Derived.Test.YtnbnnphlffhgiaaFH
namespace Go.Proofs.Ytnbnnphlffhgiaa.T
open Go Go.Proofs Go.Proofs.Ytnbnnphlffhgiaa.K
set_option linter.unusedVariables false
set_option linter.unusedSimpArgs false
/-! sargassolaw3.SpendNulls -/
noncomputable def sargassolaw3_SpendNulls.f (x0 : Int) (x1 : Int) (x2 : Int) : Option Bool := ((sargassolaw3_first.f).bind fun r1 => (if r1 = true then ((spend_Null.f).bind fun r2 => ((sargassoworld_Number.f x0 32).bind fun r3 => (if 0 ≤ r3 ∧ r3 < 32 then (((if r1 = true then ((spend_IsNull.f r2).bind fun r4 => (if r4 = true then ((spend_IsNull.f (⟨r2.Tx.set r3.toNat (bXor .u8 (r2.Tx.getD r3.toNat 0) x1), r2.N⟩ : Point)).bind fun r5 => (if r5 = (decide (x1 = 0)) then ((spend_IsNull.f (⟨r2.Tx, bXor .u32 r2.N x2⟩ : Point)).bind fun r6 => (if r6 = (decide (x2 = 0)) then ((spend_Less.f (⟨r2.Tx, bXor .u32 r2.N x2⟩ : Point) r2).bind fun r7 => (if r7 = (decide (x2 ≠ 0)) then ((spend_Less.f r2 (⟨r2.Tx.set r3.toNat (bXor .u8 (r2.Tx.getD r3.toNat 0) x1), r2.N⟩ : Point)).bind fun r8 => (if r8 = (decide (x1 ≠ 0)) then ((spend_IsNull.f (⟨(List.replicate 32 0), 0⟩ : Point)).bind fun r9 => (if r9 = true then some false else ((sargassoref1_Null.f).bind fun r10 => ((sargassoref_SamePoint.f r2 r10).bind fun r11 => some r11)))) else some false)) else some false)) else some false)) else some false)) else some false)) else some false)).bind fun c1 => some c1) else none))) else some false))
end Go.Proofs.Ytnbnnphlffhgiaa.T
