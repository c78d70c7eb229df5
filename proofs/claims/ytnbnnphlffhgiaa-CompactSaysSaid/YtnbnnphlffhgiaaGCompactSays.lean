/- A helper of this seat's claims: printed by gen.py. It proves no statement by itself. -/
import Derived.Test.YtnbnnphlffhgiaaFH
namespace Go.Proofs.Ytnbnnphlffhgiaa.T
open Go Go.Proofs Go.Proofs.Ytnbnnphlffhgiaa.K
set_option linter.unusedVariables false
set_option linter.unusedSimpArgs false
/-! sargassolaw2.CompactSays -/
noncomputable def sargassolaw2_CompactSays.f (x0 : List Int) (x1 : Int) (x2 : List Int) : Option Bool := ((sargassolaw2_first.f).bind fun r1 => (if r1 = true then (((if 100 < (x0.length : Int) then some true else some (decide (40 < (x2.length : Int))))).bind fun c1 => (if c1 = true then some r1 else ((compact_Sum.f x2).bind fun r2 => ((sargassoref1_Sum.f x2).bind fun r3 => (((if r1 = true then ((compact_Put.f x0 x1).bind fun r4 => ((sargassoref_Bytes.f x0).bind fun r5 => ((sargassoref1_Put.f r5 x1).bind fun r6 => ((sargassoref_SameBytes.f r4 r6).bind fun r7 => (if r7 = true then ((compact_Len.f x1).bind fun r8 => ((sargassoref1_Len.f x1).bind fun r9 => (if r8 = r9 then ((compact_Four.f x0 (IntKind.u32.wrap x1)).bind fun r10 => ((sargassoref_Bytes.f x0).bind fun r11 => ((sargassoref1_Four.f r11 (IntKind.u32.wrap x1)).bind fun r12 => ((sargassoref_SameBytes.f r10 r12).bind fun r13 => (if r13 = true then ((compact_Eight.f x0 x1).bind fun r14 => ((sargassoref_Bytes.f x0).bind fun r15 => ((sargassoref1_Eight.f r15 x1).bind fun r16 => ((sargassoref_SameBytes.f r14 r16).bind fun r17 => (if r17 = true then (if r2.1 = r3.1 then some (decide (r2.2 = r3.2)) else some false) else some false))))) else some false))))) else some false))) else some false))))) else some false)).bind fun c2 => some c2))))) else some false))
end Go.Proofs.Ytnbnnphlffhgiaa.T
