/- A helper of this seat's claims: printed by gen.py. It proves no statement by itself. -/
import Derived.Test.YtnbnnphlffhgiaaFH
namespace Go.Proofs.Ytnbnnphlffhgiaa.T
open Go Go.Proofs Go.Proofs.Ytnbnnphlffhgiaa.K
set_option linter.unusedVariables false
set_option linter.unusedSimpArgs false
/-! sargassolaw6.MerkleOdd -/
noncomputable def sargassolaw6_MerkleOdd.f (x0 : List (List Int)) : Option Bool := ((sargassolaw6_first.f).bind fun r1 => (if r1 = true then (((if 31 < (x0.length : Int) then some true else (if (Int.tmod (x0.length : Int) 2) = 0 then some true else some (decide ((x0.length : Int) < 2))))).bind fun c1 => (if c1 = true then (((if r1 = true then ((merkle_Root.f ([])).bind fun r2 => ((sargassoref_SameHash.f r2 ([0, 0, 0, 0, 0, 0, 0, 0, 0, 0, 0, 0, 0, 0, 0, 0, 0, 0, 0, 0, 0, 0, 0, 0, 0, 0, 0, 0, 0, 0, 0, 0])).bind fun r3 => some r3)) else some false)).bind fun c2 => some c2) else (((if r1 = true then (if 0 ≤ IntKind.i64.wrap ((x0.length : Int) - 1) ∧ IntKind.i64.wrap ((x0.length : Int) - 1) < (x0.length : Int) then ((merkle_Root.f x0).bind fun r4 => ((sargassoref_Hashes.f x0).bind fun r5 => (if r5.length + 1 ≤ 4398046511104 then ((merkle_Root.f (r5 ++ ([(x0.getD (IntKind.i64.wrap ((x0.length : Int) - 1)).toNat [])] : List (List Int)))).bind fun r6 => ((sargassoref_SameHash.f r4 r6).bind fun r7 => some r7)) else none))) else none) else some false)).bind fun c3 => some c3))) else some false))
end Go.Proofs.Ytnbnnphlffhgiaa.T
