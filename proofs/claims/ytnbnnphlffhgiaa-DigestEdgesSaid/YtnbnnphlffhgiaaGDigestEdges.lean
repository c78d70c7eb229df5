/- A helper of this seat's claims: printed by gen.py. It proves no statement by itself. -/
import Derived.Test.YtnbnnphlffhgiaaFH
namespace Go.Proofs.Ytnbnnphlffhgiaa.T
open Go Go.Proofs Go.Proofs.Ytnbnnphlffhgiaa.K
set_option linter.unusedVariables false
set_option linter.unusedSimpArgs false
/-! sargassolaw1.DigestEdges -/
noncomputable def sargassolaw1_DigestEdges.s0 (x1 : Int) (r2 : Int) : (Int × (List Int)) → Option ((Int × (List Int)) ⊕ (List Int)) := fun (s1, s2) => (if s1 < (IntKind.i64.wrap (r2 + 40)) then (if 0 ≤ s1 ∧ s1 < (s2.length : Int) then some (.inl (IntKind.i64.wrap (s1 + 1), s2.set s1.toNat x1)) else none) else some (.inr s2))
noncomputable def sargassolaw1_DigestEdges.f (x0 : Int) (x1 : Int) : Option Bool := ((sargassolaw1_first.f).bind fun r1 => (if r1 = true then ((sargassoworld_Number.f x0 90).bind fun r2 => (if 0 ≤ (IntKind.i64.wrap (r2 + 40) : Int) ∧ (IntKind.i64.wrap (r2 + 40) : Int) ≤ (IntKind.i64.wrap (r2 + 40)) ∧ (IntKind.i64.wrap (r2 + 40)) ≤ 140737488355328 then ((loopO (sargassolaw1_DigestEdges.s0 x1 r2) (0, List.replicate ((IntKind.i64.wrap (r2 + 40)).toNat) 0)).bind fun c1 => ((digest_Sha.f c1).bind fun r3 => ((digest_Twice.f c1).bind fun r4 => (((if r1 = true then ((sargassoref1_Sha.f c1).bind fun r5 => ((sargassoref_SameHash.f r3 r5).bind fun r6 => (if r6 = true then ((digest_Sha.f r3).bind fun r7 => ((sargassoref_SameHash.f r4 r7).bind fun r8 => some r8)) else some false))) else some false)).bind fun c2 => some c2)))) else none)) else some false))
end Go.Proofs.Ytnbnnphlffhgiaa.T
