/- A helper of this seat's claims: printed by gen.py. It proves no statement by itself. -/
import Derived.Test.YtnbnnphlffhgiaaF5
namespace Go.Proofs.Ytnbnnphlffhgiaa.T
open Go Go.Proofs Go.Proofs.Ytnbnnphlffhgiaa.K
set_option linter.unusedVariables false
set_option linter.unusedSimpArgs false
/-! seq.Need -/
noncomputable def seq_Need.s0 (x0 : Tx) (x1 : List Int) (x2 : List Int) : (Int × Int × Int) → Option ((Int × Int × Int) ⊕ (Int × Int)) := fun (s1, s2, s3) => (if s3 < (x0.Ins.length : Int) then (((if 0 ≤ s3 ∧ s3 < (x0.Ins.length : Int) then (if (bAnd .u32 ((x0.Ins.getD s3.toNat default).Seq) 2147483648) ≠ 0 then some (s1, s2) else (if (bAnd .u32 ((x0.Ins.getD s3.toNat default).Seq) 4194304) ≠ 0 then (if 0 ≤ s3 ∧ s3 < (x2.length : Int) then some (s1, iMax s2 (IntKind.i64.wrap ((IntKind.i64.wrap ((IntKind.i64.wrap (x2.getD s3.toNat 0)) + (IntKind.i64.wrap (512 * (IntKind.i64.wrap (bAnd .u32 ((x0.Ins.getD s3.toNat default).Seq) 65535)))))) - 1))) else none) else (if 0 ≤ s3 ∧ s3 < (x1.length : Int) then some (iMax s1 (IntKind.i64.wrap ((IntKind.i64.wrap ((x1.getD s3.toNat 0) + (IntKind.i64.wrap (bAnd .u32 ((x0.Ins.getD s3.toNat default).Seq) 65535)))) - 1)), s2) else none))) else none)).bind fun (c4, c5) => some (.inl (c4, c5, IntKind.i64.wrap (s3 + 1)))) else some (.inr (s1, s2)))
noncomputable def seq_Need.f (x0 : Tx) (x1 : List Int) (x2 : List Int) : Option (Int × Int × Bool) := (((if (x1.length : Int) ≠ (x0.Ins.length : Int) then some true else some (decide ((x2.length : Int) ≠ (x0.Ins.length : Int))))).bind fun c1 => (if c1 = true then some (0, 0, false) else (if x0.Version < 2 then some ((-1), (-1), true) else ((loopO (seq_Need.s0 x0 x1 x2) ((-1), (-1), 0)).bind fun (c2, c3) => some (c2, c3, true)))))

/-! seq.Final$1 -/
noncomputable def seq_Final_1.f (x0 : In) : Option Bool := some (decide (x0.Seq ≠ 4294967295))

/-! slices.IndexFunc[[]api.In,api.In] -/
noncomputable def slices_IndexFunc_api_In_api_In_at_seq_Final_1.s0 (x0 : List In) : Int → Option (Int ⊕ Int) := fun s1 => (if s1 < (x0.length : Int) then (if 0 ≤ s1 ∧ s1 < (x0.length : Int) then ((seq_Final_1.f (x0.getD s1.toNat default)).bind fun r1 => (if r1 = true then some (.inr s1) else some (.inl (IntKind.i64.wrap (s1 + 1))))) else none) else some (.inr (-1)))
noncomputable def slices_IndexFunc_api_In_api_In_at_seq_Final_1.f (x0 : List In) : Option Int := loopO (slices_IndexFunc_api_In_api_In_at_seq_Final_1.s0 x0) 0

/-! slices.ContainsFunc[[]api.In,api.In] -/
noncomputable def slices_ContainsFunc_api_In_api_In_at_seq_Final_1.f (x0 : List In) : Option Bool := ((slices_IndexFunc_api_In_api_In_at_seq_Final_1.f x0).bind fun r1 => some (decide (0 ≤ r1)))

/-! seq.Final -/
noncomputable def seq_Final.f (x0 : Tx) (x1 : Int) (x2 : Int) : Option Bool := (if x0.Time = 0 then some true else (((if x0.Time < 500000000 then some (decide ((IntKind.i64.wrap x0.Time) < x1)) else some false)).bind fun c1 => (if c1 = true then some true else (((if 500000000 ≤ x0.Time then some (decide (x0.Time < x2)) else some false)).bind fun c2 => (if c2 = true then some true else ((slices_ContainsFunc_api_In_api_In_at_seq_Final_1.f x0.Ins).bind fun r1 => some (!r1)))))))

/-! seq.Met -/
noncomputable def seq_Met.f (x0 : Tx) (x1 : List Int) (x2 : List Int) (x3 : Int) (x4 : Int) : Option Bool := ((seq_Need.f x0 x1 x2).bind fun r1 => (((if r1.2.2 = true then (if r1.1 < x3 then some (decide (r1.2.1 < (IntKind.i64.wrap x4))) else some false) else some false)).bind fun c1 => some c1))

/-! value.Reward -/
noncomputable def value_Reward.f (x0 : Int) (x1 : Int) : Option Int := (((if x0 < 0 then some true else (if x1 < 1 then some true else (if x1 ≠ 0 then some (decide (64 ≤ (IntKind.i64.wrap (Int.tdiv x0 x1)))) else none)))).bind fun c1 => (if c1 = true then some 0 else (if x1 ≠ 0 then (if 0 ≤ (IntKind.i64.wrap (Int.tdiv x0 x1)) then some (sR .u64 5000000000 (IntKind.i64.wrap (Int.tdiv x0 x1))) else none) else none)))

/-! value.Ripe -/
noncomputable def value_Ripe.f (x0 : Money) (x1 : Int) (x2 : Int) : Option Bool := (((if x0.Base = true then some (decide ((IntKind.i64.wrap (x0.Height + x2)) ≤ x1)) else some true)).bind fun c1 => some c1)
end Go.Proofs.Ytnbnnphlffhgiaa.T
