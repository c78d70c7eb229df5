/- A helper of this seat's claims: printed by gen.py. It proves no statement by itself. -/
import Derived.Test.YtnbnnphlffhgiaaN
namespace Go.Proofs.Ytnbnnphlffhgiaa.T
open Go Go.Proofs Go.Proofs.Ytnbnnphlffhgiaa.K
set_option linter.unusedVariables false
set_option linter.unusedSimpArgs false
/-! math/bits.RotateLeft32 -/
noncomputable def math_bits_RotateLeft32.f (x0 : Int) (x1 : Int) : Option Int := (if 0 ≤ (bAnd .u64 (IntKind.u64.wrap x1) 31) then (if 0 ≤ (IntKind.u64.wrap (32 - (bAnd .u64 (IntKind.u64.wrap x1) 31))) then some (bOr .u32 (sL .u32 x0 (bAnd .u64 (IntKind.u64.wrap x1) 31)) (sR .u32 x0 (IntKind.u64.wrap (32 - (bAnd .u64 (IntKind.u64.wrap x1) 31))))) else none) else none)

/-! sargassoworld.Number -/
noncomputable def sargassoworld_Number.f (x0 : Int) (x1 : Int) : Option Int := (if x1 ≠ 0 then (((if (Int.tmod x0 x1) < 0 then some (IntKind.i64.wrap ((Int.tmod x0 x1) + x1)) else some (Int.tmod x0 x1))).bind fun c1 => some c1) else none)

/-! sargassoref.SameHash -/
noncomputable def sargassoref_SameHash.s0 (x0 : List Int) (x1 : List Int) : Int → Option (Int ⊕ Bool) := fun s1 => (if s1 < 32 then (if 0 ≤ s1 ∧ s1 < 32 then (if (x0.getD s1.toNat 0) ≠ (x1.getD s1.toNat 0) then some (.inr false) else some (.inl (IntKind.i64.wrap (s1 + 1)))) else none) else some (.inr true))
noncomputable def sargassoref_SameHash.f (x0 : List Int) (x1 : List Int) : Option Bool := loopO (sargassoref_SameHash.s0 x0 x1) 0

/-! sargassoref.Bytes -/
noncomputable def sargassoref_Bytes.s0 (x0 : List Int) : ((List Int) × Int) → Option (((List Int) × Int) ⊕ (List Int)) := fun (s1, s2) => (if s2 < (x0.length : Int) then (if 0 ≤ s2 ∧ s2 < (x0.length : Int) then (if s1.length + 1 ≤ 140737488355328 then some (.inl (s1 ++ ([(x0.getD s2.toNat 0)] : List Int), IntKind.i64.wrap (s2 + 1))) else none) else none) else some (.inr s1))
noncomputable def sargassoref_Bytes.f (x0 : List Int) : Option (List Int) := (if 0 ≤ (0 : Int) ∧ (0 : Int) ≤ (x0.length : Int) ∧ (x0.length : Int) ≤ 140737488355328 then ((loopO (sargassoref_Bytes.s0 x0) (List.replicate ((0 : Int).toNat) 0, 0)).bind fun c1 => some c1) else none)

/-! sargassoref.LessHash -/
noncomputable def sargassoref_LessHash.s0 (x0 : List Int) (x1 : List Int) : Int → Option (Int ⊕ Bool) := fun s1 => (if s1 < 32 then (if 0 ≤ s1 ∧ s1 < 32 then (if (x0.getD s1.toNat 0) ≠ (x1.getD s1.toNat 0) then some (.inr (decide ((x0.getD s1.toNat 0) < (x1.getD s1.toNat 0)))) else some (.inl (IntKind.i64.wrap (s1 + 1)))) else none) else some (.inr false))
noncomputable def sargassoref_LessHash.f (x0 : List Int) (x1 : List Int) : Option Bool := loopO (sargassoref_LessHash.s0 x0 x1) 0

/-! sargassoref.SameBytes -/
noncomputable def sargassoref_SameBytes.s0 (x0 : List Int) (x1 : List Int) : Int → Option (Int ⊕ Bool) := fun s1 => (if s1 < (x0.length : Int) then (if 0 ≤ s1 ∧ s1 < (x0.length : Int) then (if 0 ≤ s1 ∧ s1 < (x1.length : Int) then (if (x0.getD s1.toNat 0) = (x1.getD s1.toNat 0) then some (.inl (IntKind.i64.wrap (s1 + 1))) else some (.inr false)) else none) else none) else some (.inr true))
noncomputable def sargassoref_SameBytes.f (x0 : List Int) (x1 : List Int) : Option Bool := (if (x0.length : Int) ≠ (x1.length : Int) then some false else loopO (sargassoref_SameBytes.s0 x0 x1) 0)

/-! sargassoref.SamePoint -/
noncomputable def sargassoref_SamePoint.f (x0 : Point) (x1 : Point) : Option Bool := ((((sargassoref_SameHash.f x0.Tx x1.Tx).bind fun r1 => (if r1 = true then some (decide (x0.N = x1.N)) else some false))).bind fun c1 => some c1)

/-! sargassoref.SameIn -/
noncomputable def sargassoref_SameIn.f (x0 : In) (x1 : In) : Option Bool := ((((sargassoref_SamePoint.f x0.From x1.From).bind fun r1 => (if r1 = true then ((sargassoref_SameBytes.f x0.Key x1.Key).bind fun r2 => (if r2 = true then some (decide (x0.Seq = x1.Seq)) else some false)) else some false))).bind fun c1 => some c1)

/-! sargassoref.SameOut -/
noncomputable def sargassoref_SameOut.f (x0 : Out) (x1 : Out) : Option Bool := (((if x0.Value = x1.Value then ((sargassoref_SameHash.f x0.Lock x1.Lock).bind fun r1 => some r1) else some false)).bind fun c1 => some c1)

/-! sargassoref.SameTx -/
noncomputable def sargassoref_SameTx.s1 (x0 : Tx) (x1 : Tx) : Int → Option (Int ⊕ (Int ⊕ Bool)) := fun s2 => (if s2 < (x0.Outs.length : Int) then (if 0 ≤ s2 ∧ s2 < (x0.Outs.length : Int) then (if 0 ≤ s2 ∧ s2 < (x1.Outs.length : Int) then ((sargassoref_SameOut.f (x0.Outs.getD s2.toNat default) (x1.Outs.getD s2.toNat default)).bind fun r2 => (if r2 = true then some (.inl (IntKind.i64.wrap (s2 + 1))) else some (.inr (.inr false)))) else none) else none) else some (.inr (.inr true)))
noncomputable def sargassoref_SameTx.s0 (x0 : Tx) (x1 : Tx) : Int → Option (Int ⊕ Bool) := fun s1 => (if s1 < (x0.Ins.length : Int) then (if 0 ≤ s1 ∧ s1 < (x0.Ins.length : Int) then (if 0 ≤ s1 ∧ s1 < (x1.Ins.length : Int) then ((sargassoref_SameIn.f (x0.Ins.getD s1.toNat default) (x1.Ins.getD s1.toNat default)).bind fun r1 => (if r1 = true then some (.inl (IntKind.i64.wrap (s1 + 1))) else some (.inr false))) else none) else none) else loopO (sargassoref_SameTx.s1 x0 x1) 0)
noncomputable def sargassoref_SameTx.f (x0 : Tx) (x1 : Tx) : Option Bool := (((if x0.Version ≠ x1.Version then some true else (if x0.Time ≠ x1.Time then some true else (if (x0.Ins.length : Int) ≠ (x1.Ins.length : Int) then some true else some (decide ((x0.Outs.length : Int) ≠ (x1.Outs.length : Int))))))).bind fun c1 => (if c1 = true then some false else loopO (sargassoref_SameTx.s0 x0 x1) 0))

/-! sargassoref.SameHead -/
noncomputable def sargassoref_SameHead.f (x0 : Head) (x1 : Head) : Option Bool := (((if x0.Version = x1.Version then ((sargassoref_SameHash.f x0.Prev x1.Prev).bind fun r1 => (if r1 = true then ((sargassoref_SameHash.f x0.Root x1.Root).bind fun r2 => (if r2 = true then (if x0.Time = x1.Time then (if x0.Work = x1.Work then some (decide (x0.Nonce = x1.Nonce)) else some false) else some false) else some false)) else some false)) else some false)).bind fun c1 => some c1)

/-! sargassoref.Hashes -/
noncomputable def sargassoref_Hashes.s0 (x0 : List (List Int)) : ((List (List Int)) × Int) → Option (((List (List Int)) × Int) ⊕ (List (List Int))) := fun (s1, s2) => (if s2 < (x0.length : Int) then (if 0 ≤ s2 ∧ s2 < (x0.length : Int) then (if s1.length + 1 ≤ 4398046511104 then some (.inl (s1 ++ ([(x0.getD s2.toNat [])] : List (List Int)), IntKind.i64.wrap (s2 + 1))) else none) else none) else some (.inr s1))
noncomputable def sargassoref_Hashes.f (x0 : List (List Int)) : Option (List (List Int)) := (if 0 ≤ (0 : Int) ∧ (0 : Int) ≤ (x0.length : Int) ∧ (x0.length : Int) ≤ 4398046511104 then ((loopO (sargassoref_Hashes.s0 x0) (List.replicate ((0 : Int).toNat) (List.replicate 32 0), 0)).bind fun c1 => some c1) else none)

/-! sargassoref.SameHashes -/
noncomputable def sargassoref_SameHashes.s0 (x0 : List (List Int)) (x1 : List (List Int)) : Int → Option (Int ⊕ Bool) := fun s1 => (if s1 < (x0.length : Int) then (if 0 ≤ s1 ∧ s1 < (x0.length : Int) then (if 0 ≤ s1 ∧ s1 < (x1.length : Int) then ((sargassoref_SameHash.f (x0.getD s1.toNat []) (x1.getD s1.toNat [])).bind fun r1 => (if r1 = true then some (.inl (IntKind.i64.wrap (s1 + 1))) else some (.inr false))) else none) else none) else some (.inr true))
noncomputable def sargassoref_SameHashes.f (x0 : List (List Int)) (x1 : List (List Int)) : Option Bool := (if (x0.length : Int) ≠ (x1.length : Int) then some false else loopO (sargassoref_SameHashes.s0 x0 x1) 0)
end Go.Proofs.Ytnbnnphlffhgiaa.T
