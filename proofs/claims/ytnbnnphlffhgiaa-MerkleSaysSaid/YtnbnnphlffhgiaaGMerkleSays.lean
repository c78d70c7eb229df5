/- A helper of this seat's claims: printed by gen.py. It proves no statement by itself. -/
import Derived.Test.YtnbnnphlffhgiaaFH
namespace Go.Proofs.Ytnbnnphlffhgiaa.T
open Go Go.Proofs Go.Proofs.Ytnbnnphlffhgiaa.K
set_option linter.unusedVariables false
set_option linter.unusedSimpArgs false
/-! sargassolaw6.MerkleSays -/
noncomputable def sargassolaw6_MerkleSays.f (x0 : List (List Int)) (x1 : Int) (x2 : Int) (x3 : List Int) (x4 : List (List Int)) : Option Bool := ((sargassolaw6_first.f).bind fun r1 => (if r1 = true then (((if 60 < (x0.length : Int) then some true else some (decide (30 < (x4.length : Int))))).bind fun c1 => (if c1 = true then some r1 else ((merkle_Path.f x1 x0).bind fun r2 => ((sargassoref1_Path.f x1 x0).bind fun r3 => ((merkle_Climb.f x3 x1 x2 x4).bind fun r4 => ((sargassoref1_Climb.f x3 x1 x2 x4).bind fun r5 => (((if r1 = true then ((merkle_Root.f x0).bind fun r6 => ((sargassoref1_Root.f x0).bind fun r7 => ((sargassoref_SameHash.f r6 r7).bind fun r8 => (if r8 = true then ((sargassoref_SameHashes.f r2.1 r3.1).bind fun r9 => (if r9 = true then (if r2.2 = r3.2 then ((sargassoref_SameHash.f r4.1 r5.1).bind fun r10 => (if r10 = true then some (decide (r4.2 = r5.2)) else some false)) else some false) else some false)) else some false)))) else some false)).bind fun c2 => some c2))))))) else some false))
end Go.Proofs.Ytnbnnphlffhgiaa.T
