/- A helper of this seat's claims: printed by gen.py. It proves no statement by itself. -/
import Derived.Test.YtnbnnphlffhgiaaF2
namespace Go.Proofs.Ytnbnnphlffhgiaa.T
open Go Go.Proofs Go.Proofs.Ytnbnnphlffhgiaa.K
set_option linter.unusedVariables false
set_option linter.unusedSimpArgs false
/-! digest.begin -/
noncomputable def digest_begin.f : Option (List Int) := some ([1779033703, 3144134277, 1013904242, 2773480762, 1359893119, 2600822924, 528734635, 1541459225])

/-! digest.turn -/
noncomputable def digest_turn.f (x0 : Int) (x1 : Int) : Option Int := ((math_bits_RotateLeft32.f x0 (IntKind.i64.wrap (0 - x1))).bind fun r1 => some r1)

/-! sargassoref1.right -/
noncomputable def sargassoref1_right.f (x0 : Int) (x1 : Int) : Option Int := (if 0 ≤ x1 then (if 0 ≤ (IntKind.u64.wrap (32 - x1)) then some (bOr .u32 (sR .u32 x0 x1) (sL .u32 x0 (IntKind.u64.wrap (32 - x1)))) else none) else none)
end Go.Proofs.Ytnbnnphlffhgiaa.T
