/- A helper of this seat's claims: printed by gen.py. It proves no statement by itself. -/
import Derived.Test.YtnbnnphlffhgiaaFH
namespace Go.Proofs.Ytnbnnphlffhgiaa.T
open Go Go.Proofs Go.Proofs.Ytnbnnphlffhgiaa.K
set_option linter.unusedVariables false
set_option linter.unusedSimpArgs false
/-! sargassolaw1.DigestSays -/
noncomputable def sargassolaw1_DigestSays.f (x0 : List Int) (x1 : List Int) : Option Bool := ((sargassolaw1_first.f).bind fun r1 => (if r1 = true then (((if 300 < (x0.length : Int) then some true else some (decide (300 < (x1.length : Int))))).bind fun c1 => (if c1 = true then some r1 else ((digest_Sha.f x0).bind fun r2 => ((digest_Twice.f x1).bind fun r3 => (((if r1 = true then ((sargassoref1_Sha.f x0).bind fun r4 => ((sargassoref_SameHash.f r2 r4).bind fun r5 => (if r5 = true then ((sargassoref1_Twice.f x1).bind fun r6 => ((sargassoref_SameHash.f r3 r6).bind fun r7 => (if r7 = true then ((digest_Less.f r2 r3).bind fun r8 => ((sargassoref_LessHash.f r2 r3).bind fun r9 => (if r8 = r9 then ((digest_Hex.f r2).bind fun r10 => ((sargassoref1_Hex.f r2).bind fun r11 => (if r10 = r11 then ((digest_Short.f r3).bind fun r12 => ((sargassoref1_Hex.f r3).bind fun r13 => (if 0 ≤ 8 ∧ 8 ≤ (r13.size : Int) then some (decide (r12 = (r13.extract (0 : Int).toNat (8 : Int).toNat))) else none))) else some false))) else some false))) else some false))) else some false))) else some false)).bind fun c2 => some c2))))) else some false))
end Go.Proofs.Ytnbnnphlffhgiaa.T
