/- A helper of this seat's claims: printed by gen.py. It proves no statement by itself. -/
import Derived.Test.YtnbnnphlffhgiaaF1
namespace Go.Proofs.Ytnbnnphlffhgiaa.T
open Go Go.Proofs Go.Proofs.Ytnbnnphlffhgiaa.K
set_option linter.unusedVariables false
set_option linter.unusedSimpArgs false
/-! bytes.Clone -/
def bytes_Clone.f (x0 : List Int) : Option (List Int) := if x0.length ≤ 140737488355328 then some x0 else none

/-! compact.Len -/
noncomputable def compact_Len.f (x0 : Int) : Option Int := (if x0 < 253 then some 1 else (if x0 < 65536 then some 3 else (if x0 < 4294967296 then some 5 else some 9)))

/-! compact.number -/
noncomputable def compact_number.s0 (x2 : Int) : ((List Int) × Int × Int) → Option (((List Int) × Int × Int) ⊕ ((List Int) × Int)) := fun (s1, s2, s3) => (if s3 < x2 then (if s1.length + 1 ≤ 140737488355328 then some (.inl (s1 ++ ([IntKind.u8.wrap s2] : List Int), sR .u64 s2 8, IntKind.i64.wrap (s3 + 1))) else none) else some (.inr (s1, s2)))
noncomputable def compact_number.f (x0 : List Int) (x1 : Int) (x2 : Int) : Option (List Int) := ((loopO (compact_number.s0 x2) (x0, x1, 0)).bind fun (c1, c2) => some c1)

/-! compact.Put -/
noncomputable def compact_Put.f (x0 : List Int) (x1 : Int) : Option (List Int) := ((bytes_Clone.f x0).bind fun r1 => ((compact_Len.f x1).bind fun r2 => (if r2 = 1 then (if r1.length + 1 ≤ 140737488355328 then some (r1 ++ ([IntKind.u8.wrap x1] : List Int)) else none) else (if r2 = 3 then (if r1.length + 1 ≤ 140737488355328 then ((compact_number.f (r1 ++ ([253] : List Int)) x1 2).bind fun r3 => some r3) else none) else (if r2 = 5 then (if r1.length + 1 ≤ 140737488355328 then ((compact_number.f (r1 ++ ([254] : List Int)) x1 4).bind fun r4 => some r4) else none) else (if r1.length + 1 ≤ 140737488355328 then ((compact_number.f (r1 ++ ([255] : List Int)) x1 8).bind fun r5 => some r5) else none))))))

/-! compact.Sum -/
noncomputable def compact_Sum.s0 (x0 : List Int) : (Int × Int) → Option ((Int × Int) ⊕ (Int × Bool)) := fun (s1, s2) => (if s2 < (x0.length : Int) then (if 0 ≤ s2 ∧ s2 < (x0.length : Int) then (if (IntKind.u64.wrap (2100000000000000 - s1)) < (x0.getD s2.toNat 0) then some (.inr (0, false)) else some (.inl (IntKind.u64.wrap (s1 + (x0.getD s2.toNat 0)), IntKind.i64.wrap (s2 + 1)))) else none) else some (.inr (s1, true)))
noncomputable def compact_Sum.f (x0 : List Int) : Option (Int × Bool) := loopO (compact_Sum.s0 x0) (0, 0)

/-! sargassoref1.Sum -/
noncomputable def sargassoref1_Sum.s0 (x0 : List Int) : (Int × Int) → Option ((Int × Int) ⊕ (Int × Bool)) := fun (s1, s2) => (if s2 < (x0.length : Int) then (((if 0 ≤ s2 ∧ s2 < (x0.length : Int) then (if 2100000000000000 < (x0.getD s2.toNat 0) then some true else some (decide (2100000000000000 < (IntKind.u64.wrap (s1 + (x0.getD s2.toNat 0)))))) else none)).bind fun c1 => (if c1 = true then some (.inr (0, false)) else (if 0 ≤ s2 ∧ s2 < (x0.length : Int) then some (.inl (IntKind.u64.wrap (s1 + (x0.getD s2.toNat 0)), IntKind.i64.wrap (s2 + 1))) else none))) else some (.inr (s1, true)))
noncomputable def sargassoref1_Sum.f (x0 : List Int) : Option (Int × Bool) := loopO (sargassoref1_Sum.s0 x0) (0, 0)

/-! sargassoref1.Len -/
noncomputable def sargassoref1_Len.f (x0 : Int) : Option Int := (if x0 < 253 then some 1 else (if x0 < 65536 then some 3 else (if x0 < 4294967296 then some 5 else some 9)))

/-! sargassoref1.little -/
noncomputable def sargassoref1_little.s0 (x1 : Int) (x2 : Int) : ((List Int) × Int) → Option (((List Int) × Int) ⊕ (List Int)) := fun (s1, s2) => (if s2 < x2 then (if 0 ≤ (IntKind.u64.wrap (IntKind.i64.wrap (8 * s2))) then (if s1.length + 1 ≤ 140737488355328 then some (.inl (s1 ++ ([IntKind.u8.wrap (sR .u64 x1 (IntKind.u64.wrap (IntKind.i64.wrap (8 * s2))))] : List Int), IntKind.i64.wrap (s2 + 1))) else none) else none) else some (.inr s1))
noncomputable def sargassoref1_little.f (x0 : List Int) (x1 : Int) (x2 : Int) : Option (List Int) := ((loopO (sargassoref1_little.s0 x1 x2) (x0, 0)).bind fun c1 => some c1)

/-! sargassoref1.Put -/
noncomputable def sargassoref1_Put.f (x0 : List Int) (x1 : Int) : Option (List Int) := ((sargassoref1_Len.f x1).bind fun r1 => (if r1 = 1 then (if x0.length + 1 ≤ 140737488355328 then some (x0 ++ ([IntKind.u8.wrap x1] : List Int)) else none) else (if r1 = 3 then (if x0.length + 1 ≤ 140737488355328 then ((sargassoref1_little.f (x0 ++ ([253] : List Int)) x1 2).bind fun r2 => some r2) else none) else (if r1 = 5 then (if x0.length + 1 ≤ 140737488355328 then ((sargassoref1_little.f (x0 ++ ([254] : List Int)) x1 4).bind fun r3 => some r3) else none) else (if x0.length + 1 ≤ 140737488355328 then ((sargassoref1_little.f (x0 ++ ([255] : List Int)) x1 8).bind fun r4 => some r4) else none)))))

/-! compact.Four -/
noncomputable def compact_Four.f (x0 : List Int) (x1 : Int) : Option (List Int) := ((bytes_Clone.f x0).bind fun r1 => ((compact_number.f r1 (IntKind.u64.wrap x1) 4).bind fun r2 => some r2))

/-! sargassoref1.Four -/
noncomputable def sargassoref1_Four.f (x0 : List Int) (x1 : Int) : Option (List Int) := ((sargassoref1_little.f x0 (IntKind.u64.wrap x1) 4).bind fun r1 => some r1)

/-! compact.Eight -/
noncomputable def compact_Eight.f (x0 : List Int) (x1 : Int) : Option (List Int) := ((bytes_Clone.f x0).bind fun r1 => ((compact_number.f r1 x1 8).bind fun r2 => some r2))

/-! sargassoref1.Eight -/
noncomputable def sargassoref1_Eight.f (x0 : List Int) (x1 : Int) : Option (List Int) := ((sargassoref1_little.f x0 x1 8).bind fun r1 => some r1)
end Go.Proofs.Ytnbnnphlffhgiaa.T
