/- A helper of this seat's claims: printed by gen.py. It proves no statement by itself. -/
import Derived.Test.YtnbnnphlffhgiaaFH
namespace Go.Proofs.Ytnbnnphlffhgiaa.T
open Go Go.Proofs Go.Proofs.Ytnbnnphlffhgiaa.K
set_option linter.unusedVariables false
set_option linter.unusedSimpArgs false
/-! sargassolaw1.DigestOrder -/
noncomputable def sargassolaw1_DigestOrder.f (x0 : List Int) (x1 : List Int) (x2 : Int) (x3 : Int) : Option Bool := ((sargassolaw1_first.f).bind fun r1 => (if r1 = true then ((sargassoworld_Number.f x2 32).bind fun r2 => (if 0 ≤ r2 ∧ r2 < 32 then ((digest_Hex.f x0).bind fun r3 => ((digest_Hex.f x1).bind fun r4 => ((digest_Hex.f (x0.set r2.toNat x3)).bind fun r5 => (((if r1 = true then (if (r3.size : Int) = 64 then ((digest_Less.f x0 x1).bind fun r6 => (if r6 = (bLess r3 r4) then ((digest_Less.f x1 x0).bind fun r7 => (if r7 = (bLess r4 r3) then ((digest_Less.f x0 (x0.set r2.toNat x3)).bind fun r8 => (if r8 = (bLess r3 r5) then ((digest_Less.f x0 x0).bind fun r9 => (if r9 = true then some false else ((digest_Short.f x1).bind fun r10 => (if 0 ≤ 8 ∧ 8 ≤ (r4.size : Int) then some (decide (r10 = (r4.extract (0 : Int).toNat (8 : Int).toNat))) else none)))) else some false)) else some false)) else some false)) else some false) else some false)).bind fun c1 => some c1)))) else none)) else some false))
end Go.Proofs.Ytnbnnphlffhgiaa.T
