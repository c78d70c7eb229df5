/- A helper of this seat's claims: printed by gen.py. It proves no statement by itself. -/
import Derived.Test.YtnbnnphlffhgiaaF4
namespace Go.Proofs.Ytnbnnphlffhgiaa.T
open Go Go.Proofs Go.Proofs.Ytnbnnphlffhgiaa.K
set_option linter.unusedVariables false
set_option linter.unusedSimpArgs false
/-! merkle.other -/
noncomputable def merkle_other.f (x0 : Int) (x1 : List (List Int)) : Option (List Int) := (if 0 ≤ iMin (bXor .i64 x0 1) (IntKind.i64.wrap ((x1.length : Int) - 1)) ∧ iMin (bXor .i64 x0 1) (IntKind.i64.wrap ((x1.length : Int) - 1)) < (x1.length : Int) then some (x1.getD (iMin (bXor .i64 x0 1) (IntKind.i64.wrap ((x1.length : Int) - 1))).toNat []) else none)

/-! merkle.pair -/
noncomputable def merkle_pair.f (x0 : List Int) (x1 : List Int) : Option (List Int) := ((slices_Concat_byte_byte.f ([x0, x1] : List (List Int))).bind fun r1 => ((digest_Twice.f r1).bind fun r2 => some r2))

/-! merkle.up -/
noncomputable def merkle_up.s0 (x0 : List (List Int)) : ((List (List Int)) × Int) → Option (((List (List Int)) × Int) ⊕ (List (List Int))) := fun (s1, s2) => (if s2 < (x0.length : Int) then (if 0 ≤ s2 ∧ s2 < (x0.length : Int) then ((merkle_other.f s2 x0).bind fun r1 => ((merkle_pair.f (x0.getD s2.toNat []) r1).bind fun r2 => (if s1.length + 1 ≤ 4398046511104 then some (.inl (s1 ++ ([r2] : List (List Int)), IntKind.i64.wrap (s2 + 2))) else none))) else none) else some (.inr s1))
noncomputable def merkle_up.f (x0 : List (List Int)) : Option (List (List Int)) := ((loopO (merkle_up.s0 x0) ([], 0)).bind fun c1 => some c1)

/-! merkle.Root -/
noncomputable def merkle_Root.s0 : (List (List Int)) → Option ((List (List Int)) ⊕ (List (List Int))) := fun s1 => (if 1 < (s1.length : Int) then ((merkle_up.f s1).bind fun r1 => some (.inl r1)) else some (.inr s1))
noncomputable def merkle_Root.f (x0 : List (List Int)) : Option (List Int) := (if (x0.length : Int) = 0 then some ([0, 0, 0, 0, 0, 0, 0, 0, 0, 0, 0, 0, 0, 0, 0, 0, 0, 0, 0, 0, 0, 0, 0, 0, 0, 0, 0, 0, 0, 0, 0, 0]) else ((loopO (merkle_Root.s0) x0).bind fun c1 => (if 0 < (c1.length : Int) then some (c1.getD (0 : Int).toNat []) else none)))

/-! merkle.Path -/
noncomputable def merkle_Path.s0 : (Int × (List (List Int)) × (List (List Int))) → Option ((Int × (List (List Int)) × (List (List Int))) ⊕ (Int × (List (List Int)))) := fun (s1, s2, s3) => (if 1 < (s3.length : Int) then ((merkle_other.f s1 s3).bind fun r1 => (if s2.length + 1 ≤ 4398046511104 then ((merkle_up.f s3).bind fun r2 => some (.inl (IntKind.i64.wrap (Int.tdiv s1 2), s2 ++ ([r1] : List (List Int)), r2))) else none)) else some (.inr (s1, s2)))
noncomputable def merkle_Path.f (x0 : Int) (x1 : List (List Int)) : Option ((List (List Int)) × Bool) := (((if x0 < 0 then some true else some (decide ((x1.length : Int) ≤ x0)))).bind fun c1 => (if c1 = true then some ([], false) else ((loopO (merkle_Path.s0) (x0, [], x1)).bind fun (c2, c3) => some (c3, true))))

/-! sargassoref1.pair -/
noncomputable def sargassoref1_pair.f (x0 : List Int) (x1 : List Int) : Option (List Int) := ((sargassoref_Bytes.f x0).bind fun r1 => (if r1.length + x1.length ≤ 140737488355328 then ((sargassoref1_Twice.f (r1 ++ x1)).bind fun r2 => some r2) else none))

/-! sargassoref1.row -/
noncomputable def sargassoref1_row.s0 (x0 : List (List Int)) : ((List (List Int)) × Int) → Option (((List (List Int)) × Int) ⊕ (List (List Int))) := fun (s1, s2) => (if s2 < (x0.length : Int) then (if 0 ≤ s2 ∧ s2 < (x0.length : Int) then (if 0 ≤ iMin (IntKind.i64.wrap (s2 + 1)) (IntKind.i64.wrap ((x0.length : Int) - 1)) ∧ iMin (IntKind.i64.wrap (s2 + 1)) (IntKind.i64.wrap ((x0.length : Int) - 1)) < (x0.length : Int) then ((sargassoref1_pair.f (x0.getD s2.toNat []) (x0.getD (iMin (IntKind.i64.wrap (s2 + 1)) (IntKind.i64.wrap ((x0.length : Int) - 1))).toNat [])).bind fun r1 => (if s1.length + 1 ≤ 4398046511104 then some (.inl (s1 ++ ([r1] : List (List Int)), IntKind.i64.wrap (s2 + 2))) else none)) else none) else none) else some (.inr s1))
noncomputable def sargassoref1_row.f (x0 : List (List Int)) : Option (List (List Int)) := ((loopO (sargassoref1_row.s0 x0) ([], 0)).bind fun c1 => some c1)

/-! sargassoref1.Path -/
noncomputable def sargassoref1_Path.s0 : (Int × (List (List Int)) × (List (List Int))) → Option ((Int × (List (List Int)) × (List (List Int))) ⊕ (Int × (List (List Int)) × (List (List Int)))) := fun (s1, s2, s3) => (if 1 < (s2.length : Int) then (((if (s2.length : Int) ≤ (bXor .i64 s1 1) then some s1 else some (bXor .i64 s1 1))).bind fun c5 => (if 0 ≤ c5 ∧ c5 < (s2.length : Int) then (if s3.length + 1 ≤ 4398046511104 then ((sargassoref1_row.f s2).bind fun r1 => some (.inl (IntKind.i64.wrap (Int.tdiv s1 2), r1, s3 ++ ([(s2.getD c5.toNat [])] : List (List Int))))) else none) else none)) else some (.inr (s1, s2, s3)))
noncomputable def sargassoref1_Path.f (x0 : Int) (x1 : List (List Int)) : Option ((List (List Int)) × Bool) := (((if x0 < 0 then some true else some (decide ((x1.length : Int) ≤ x0)))).bind fun c1 => (if c1 = true then some ([], false) else ((loopO (sargassoref1_Path.s0) (x0, x1, [])).bind fun (c2, c3, c4) => some (c4, true))))

/-! merkle.Climb -/
noncomputable def merkle_Climb.s1 (x3 : List (List Int)) : (Int × Int × (List Int)) → Option ((Int × Int × (List Int)) ⊕ (Int × (List Int))) := fun (s3, s4, s5) => (if s4 < (x3.length : Int) then (((if 0 ≤ s4 ∧ s4 < (x3.length : Int) then (((if (Int.tmod s3 2) = 0 then ((merkle_pair.f s5 (x3.getD s4.toNat [])).bind fun r1 => some r1) else ((merkle_pair.f (x3.getD s4.toNat []) s5).bind fun r2 => some r2))).bind fun c7 => some (IntKind.i64.wrap (Int.tdiv s3 2), c7)) else none)).bind fun (c5, c6) => some (.inl (c5, IntKind.i64.wrap (s4 + 1), c6))) else some (.inr (s3, s5)))
noncomputable def merkle_Climb.s0 : (Int × Int) → Option ((Int × Int) ⊕ Int) := fun (s1, s2) => (if 1 < s2 then some (.inl (IntKind.i64.wrap (s1 + 1), IntKind.i64.wrap (Int.tdiv (IntKind.i64.wrap (s2 + 1)) 2))) else some (.inr s1))
noncomputable def merkle_Climb.f (x0 : List Int) (x1 : Int) (x2 : Int) (x3 : List (List Int)) : Option ((List Int) × Bool) := (((if x2 < 1 then some true else (if 1048576 < x2 then some true else (if x1 < 0 then some true else some (decide (x2 ≤ x1)))))).bind fun c1 => (if c1 = true then some ([0, 0, 0, 0, 0, 0, 0, 0, 0, 0, 0, 0, 0, 0, 0, 0, 0, 0, 0, 0, 0, 0, 0, 0, 0, 0, 0, 0, 0, 0, 0, 0], false) else ((loopO (merkle_Climb.s0) (0, x2)).bind fun c2 => (if (x3.length : Int) ≠ c2 then some ([0, 0, 0, 0, 0, 0, 0, 0, 0, 0, 0, 0, 0, 0, 0, 0, 0, 0, 0, 0, 0, 0, 0, 0, 0, 0, 0, 0, 0, 0, 0, 0], false) else ((loopO (merkle_Climb.s1 x3) (x1, 0, x0)).bind fun (c3, c4) => some (c4, true))))))

/-! sargassoref1.Climb -/
noncomputable def sargassoref1_Climb.s1 (x3 : List (List Int)) (c2 : Int) : (Int × Int × (List Int)) → Option ((Int × Int × (List Int)) ⊕ (Int × (List Int))) := fun (s3, s4, s5) => (if s4 < c2 then (((((if (Int.tmod s3 2) = 0 then (if 0 ≤ s4 ∧ s4 < (x3.length : Int) then ((sargassoref1_pair.f s5 (x3.getD s4.toNat [])).bind fun r1 => some r1) else none) else (if 0 ≤ s4 ∧ s4 < (x3.length : Int) then ((sargassoref1_pair.f (x3.getD s4.toNat []) s5).bind fun r2 => some r2) else none))).bind fun c7 => some (IntKind.i64.wrap (Int.tdiv s3 2), c7))).bind fun (c5, c6) => some (.inl (c5, IntKind.i64.wrap (s4 + 1), c6))) else some (.inr (s3, s5)))
noncomputable def sargassoref1_Climb.s0 : (Int × Int) → Option ((Int × Int) ⊕ Int) := fun (s1, s2) => (if 1 < s2 then some (.inl (IntKind.i64.wrap (s1 + 1), IntKind.i64.wrap (Int.tdiv (IntKind.i64.wrap (s2 + 1)) 2))) else some (.inr s1))
noncomputable def sargassoref1_Climb.f (x0 : List Int) (x1 : Int) (x2 : Int) (x3 : List (List Int)) : Option ((List Int) × Bool) := (((if x2 < 1 then some true else (if 1048576 < x2 then some true else (if x1 < 0 then some true else some (decide (x2 ≤ x1)))))).bind fun c1 => (if c1 = true then some ([0, 0, 0, 0, 0, 0, 0, 0, 0, 0, 0, 0, 0, 0, 0, 0, 0, 0, 0, 0, 0, 0, 0, 0, 0, 0, 0, 0, 0, 0, 0, 0], false) else ((loopO (sargassoref1_Climb.s0) (0, x2)).bind fun c2 => (if (x3.length : Int) ≠ c2 then some ([0, 0, 0, 0, 0, 0, 0, 0, 0, 0, 0, 0, 0, 0, 0, 0, 0, 0, 0, 0, 0, 0, 0, 0, 0, 0, 0, 0, 0, 0, 0, 0], false) else ((loopO (sargassoref1_Climb.s1 x3 c2) (x1, 0, x0)).bind fun (c3, c4) => some (c4, true))))))

/-! sargassoref1.Root -/
noncomputable def sargassoref1_Root.s0 : (List (List Int)) → Option ((List (List Int)) ⊕ (List (List Int))) := fun s1 => (if 1 < (s1.length : Int) then ((sargassoref1_row.f s1).bind fun r1 => some (.inl r1)) else some (.inr s1))
noncomputable def sargassoref1_Root.f (x0 : List (List Int)) : Option (List Int) := (if (x0.length : Int) = 0 then some ([0, 0, 0, 0, 0, 0, 0, 0, 0, 0, 0, 0, 0, 0, 0, 0, 0, 0, 0, 0, 0, 0, 0, 0, 0, 0, 0, 0, 0, 0, 0, 0]) else ((loopO (sargassoref1_Root.s0) x0).bind fun c1 => (if 0 < (c1.length : Int) then some (c1.getD (0 : Int).toNat []) else none)))
end Go.Proofs.Ytnbnnphlffhgiaa.T
