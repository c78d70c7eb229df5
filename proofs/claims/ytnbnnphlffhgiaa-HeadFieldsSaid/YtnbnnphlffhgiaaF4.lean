/- A helper of this seat's claims: printed by gen.py. It proves no statement by itself. -/
import Derived.Test.YtnbnnphlffhgiaaF3
namespace Go.Proofs.Ytnbnnphlffhgiaa.T
open Go Go.Proofs Go.Proofs.Ytnbnnphlffhgiaa.K
set_option linter.unusedVariables false
set_option linter.unusedSimpArgs false
/-! spend.Lock -/
noncomputable def spend_Lock.f (x0 : List Int) : Option (List Int) := ((digest_Sha.f x0).bind fun r1 => some r1)

/-! spend.Opens -/
noncomputable def spend_Opens.f (x0 : List Int) (x1 : List Int) : Option Bool := (((if (x0.length : Int) ≤ 80 then ((spend_Lock.f x0).bind fun r1 => some (decide (r1 = x1))) else some false)).bind fun c1 => some c1)

/-! spend.Null -/
noncomputable def spend_Null.f : Option Point := some (⟨(List.replicate 32 0), 4294967295⟩ : Point)

/-! spend.IsNull -/
noncomputable def spend_IsNull.f (x0 : Point) : Option Bool := ((spend_Null.f).bind fun r1 => some (decide (x0.Tx = r1.Tx ∧ x0.N = r1.N)))

/-! sargassoref1.Opens -/
noncomputable def sargassoref1_Opens.f (x0 : List Int) (x1 : List Int) : Option Bool := (((if (x0.length : Int) ≤ 80 then ((sargassoref1_Sha.f x0).bind fun r1 => ((sargassoref_SameHash.f r1 x1).bind fun r2 => some r2)) else some false)).bind fun c1 => some c1)

/-! sargassoref1.Null -/
noncomputable def sargassoref1_Null.f : Option Point := some (⟨(List.replicate 32 0), 4294967295⟩ : Point)

/-! spend.Compare -/
noncomputable def spend_Compare.f (x0 : Point) (x1 : Point) : Option Int := ((digest_Compare.f x0.Tx x1.Tx).bind fun r1 => (if r1 ≠ 0 then some r1 else (if x0.N < x1.N then some (-1) else (if x1.N < x0.N then some 1 else some 0))))

/-! spend.Less -/
noncomputable def spend_Less.f (x0 : Point) (x1 : Point) : Option Bool := ((spend_Compare.f x0 x1).bind fun r1 => some (decide (r1 < 0)))

/-! sargassoref1.LessPoint -/
noncomputable def sargassoref1_LessPoint.f (x0 : Point) (x1 : Point) : Option Bool := ((sargassoref_SameHash.f x0.Tx x1.Tx).bind fun r1 => (if r1 = true then some (decide (x0.N < x1.N)) else ((sargassoref_LessHash.f x0.Tx x1.Tx).bind fun r2 => some r2)))

/-! tx.Bytes -/
noncomputable def tx_Bytes.s1 (x0 : Tx) : ((List Int) × Int) → Option (((List Int) × Int) ⊕ (List Int)) := fun (s3, s4) => (if s4 < (x0.Outs.length : Int) then (if 0 ≤ s4 ∧ s4 < (x0.Outs.length : Int) then ((compact_Eight.f s3 ((x0.Outs.getD s4.toNat default).Value)).bind fun r7 => (if r7.length + ((x0.Outs.getD s4.toNat default).Lock).length ≤ 140737488355328 then some (.inl (r7 ++ ((x0.Outs.getD s4.toNat default).Lock), IntKind.i64.wrap (s4 + 1))) else none)) else none) else some (.inr s3))
noncomputable def tx_Bytes.s0 (x0 : Tx) : ((List Int) × Int) → Option (((List Int) × Int) ⊕ (List Int)) := fun (s1, s2) => (if s2 < (x0.Ins.length : Int) then (if 0 ≤ s2 ∧ s2 < (x0.Ins.length : Int) then (if s1.length + ((x0.Ins.getD s2.toNat default).From.Tx).length ≤ 140737488355328 then ((compact_Four.f (s1 ++ ((x0.Ins.getD s2.toNat default).From.Tx)) ((x0.Ins.getD s2.toNat default).From.N)).bind fun r3 => ((compact_Put.f r3 (IntKind.u64.wrap (((x0.Ins.getD s2.toNat default).Key).length : Int))).bind fun r4 => (if r4.length + ((x0.Ins.getD s2.toNat default).Key).length ≤ 140737488355328 then ((compact_Four.f (r4 ++ ((x0.Ins.getD s2.toNat default).Key)) ((x0.Ins.getD s2.toNat default).Seq)).bind fun r5 => some (.inl (r5, IntKind.i64.wrap (s2 + 1)))) else none))) else none) else none) else some (.inr s1))
noncomputable def tx_Bytes.f (x0 : Tx) : Option (List Int) := ((compact_Four.f ([]) x0.Version).bind fun r1 => ((compact_Put.f r1 (IntKind.u64.wrap (x0.Ins.length : Int))).bind fun r2 => ((loopO (tx_Bytes.s0 x0) (r2, 0)).bind fun c1 => ((compact_Put.f c1 (IntKind.u64.wrap (x0.Outs.length : Int))).bind fun r6 => ((loopO (tx_Bytes.s1 x0) (r6, 0)).bind fun c2 => ((compact_Four.f c2 x0.Time).bind fun r8 => some r8))))))

/-! tx.Size -/
noncomputable def tx_Size.f (x0 : Tx) : Option Int := ((tx_Bytes.f x0).bind fun r1 => some (r1.length : Int))

/-! slices.Clone[[]sargasso/api.In,sargasso/api.In] -/
def slices_Clone_api_In_api_In.f (x0 : List In) : Option (List In) := if x0.length ≤ 1954687338268 then some x0 else none

/-! slices.Clone[[]sargasso/api.Out,sargasso/api.Out] -/
def slices_Clone_api_Out_api_Out.f (x0 : List Out) : Option (List Out) := if x0.length ≤ 3518437208883 then some x0 else none

/-! tx.Clone -/
noncomputable def tx_Clone.s0 (r1 : List In) : (Int × (List In)) → Option ((Int × (List In)) ⊕ (List In)) := fun (s1, s2) => (if s1 < (r1.length : Int) then (if 0 ≤ s1 ∧ s1 < (s2.length : Int) then ((bytes_Clone.f ((s2.getD s1.toNat default).Key)).bind fun r3 => some (.inl (IntKind.i64.wrap (s1 + 1), s2.set s1.toNat (⟨(s2.getD s1.toNat default).From, r3, (s2.getD s1.toNat default).Seq⟩ : In)))) else none) else some (.inr s2))
noncomputable def tx_Clone.f (x0 : Tx) : Option Tx := ((slices_Clone_api_In_api_In.f x0.Ins).bind fun r1 => ((slices_Clone_api_Out_api_Out.f x0.Outs).bind fun r2 => ((loopO (tx_Clone.s0 r1) (0, r1)).bind fun c1 => some (⟨x0.Version, c1, r2, x0.Time⟩ : Tx))))

/-! slices.Grow[[]byte,byte], on nothing -/
def slices_Grow_byte_byte.f (x1 : Int) : Option (List Int) := if 0 ≤ x1 ∧ x1 ≤ 140737488355328 then some [] else none

/-! slices.Concat[[]byte,byte] -/
noncomputable def slices_Concat_byte_byte.s1 (x0 : List (List Int)) : ((List Int) × Int) → Option (((List Int) × Int) ⊕ (List Int)) := fun (s3, s4) => (if s4 < (x0.length : Int) then (if 0 ≤ s4 ∧ s4 < (x0.length : Int) then (if s3.length + (x0.getD s4.toNat []).length ≤ 140737488355328 then some (.inl (s3 ++ (x0.getD s4.toNat []), IntKind.i64.wrap (s4 + 1))) else none) else none) else some (.inr s3))
noncomputable def slices_Concat_byte_byte.s0 (x0 : List (List Int)) : (Int × Int) → Option ((Int × Int) ⊕ Int) := fun (s1, s2) => (if s2 < (x0.length : Int) then (((if 0 ≤ s2 ∧ s2 < (x0.length : Int) then (if (IntKind.i64.wrap (s1 + ((x0.getD s2.toNat []).length : Int))) < 0 then none else some (IntKind.i64.wrap (s1 + ((x0.getD s2.toNat []).length : Int)))) else none)).bind fun c2 => some (.inl (c2, IntKind.i64.wrap (s2 + 1)))) else some (.inr s1))
noncomputable def slices_Concat_byte_byte.f (x0 : List (List Int)) : Option (List Int) := ((loopO (slices_Concat_byte_byte.s0 x0) (0, 0)).bind fun c1 => ((slices_Grow_byte_byte.f c1).bind fun r1 => ((loopO (slices_Concat_byte_byte.s1 x0) (r1, 0)).bind fun c3 => some c3)))

/-! head.Bytes -/
noncomputable def head_Bytes.f (x0 : Head) : Option (List Int) := ((compact_Four.f ([]) x0.Version).bind fun r1 => ((slices_Concat_byte_byte.f ([r1, x0.Prev, x0.Root] : List (List Int))).bind fun r2 => ((compact_Four.f r2 x0.Time).bind fun r3 => ((compact_Four.f r3 x0.Work).bind fun r4 => ((compact_Four.f r4 x0.Nonce).bind fun r5 => some r5)))))

/-! head.ID -/
noncomputable def head_ID.f (x0 : Head) : Option (List Int) := ((head_Bytes.f x0).bind fun r1 => ((digest_Twice.f r1).bind fun r2 => some r2))
end Go.Proofs.Ytnbnnphlffhgiaa.T
