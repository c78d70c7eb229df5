/- A helper of this seat's claims: printed by gen.py. It proves no statement by itself. -/
import Derived.Test.YtnbnnphlffhgiaaF4
namespace Go.Proofs.Ytnbnnphlffhgiaa.T
open Go Go.Proofs Go.Proofs.Ytnbnnphlffhgiaa.K
set_option linter.unusedVariables false
set_option linter.unusedSimpArgs false
/-! merkle.other -/
noncomputable def merkle_other.f (x0 : Int) (x1 : List (List Int)) : Option (List Int) := (if 0 ≤ iMin (bXor .i64 x0 1) (IntKind.i64.wrap ((x1.length : Int) - 1)) ∧ iMin (bXor .i64 x0 1) (IntKind.i64.wrap ((x1.length : Int) - 1)) < (x1.length : Int) then some (x1.getD (iMin (bXor .i64 x0 1) (IntKind.i64.wrap ((x1.length : Int) - 1))).toNat []) else none)
end Go.Proofs.Ytnbnnphlffhgiaa.T
