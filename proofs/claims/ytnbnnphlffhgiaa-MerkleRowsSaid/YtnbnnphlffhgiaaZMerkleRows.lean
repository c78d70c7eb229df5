/- Proved: the statement MerkleRowsSaid, as given (its conditions are those of the given row, no others): the call of sargasso/sargassolaw6.MerkleRows ends, with true, and the input reads as it did. -/
import Derived.Test.YtnbnnphlffhgiaaRows
import Derived.Test.YtnbnnphlffhgiaaHMerkleRows
import Derived.Test.YtnbnnphlffhgiaaMMerkleRows
import Derived.WalkKit
import Derived.ProofKit
import Derived.OpenShut
import Derived.ShutString
import Derived.ChangeOld
import Derived.Below
import Derived.Carry
import Derived.SizedLaws
import Derived.Test.YtnbnnphlffhgiaaRd
import Derived.Test.YtnbnnphlffhgiaaJn
namespace Go.Proofs.Ytnbnnphlffhgiaa.zMerkleRows
open Go Go.Proofs Go.Proofs.Ytnbnnphlffhgiaa.K Go.Proofs.Ytnbnnphlffhgiaa.T
open Go.ChangeShapes Go.WideShapes Go.ChangeAt Go.RowKit
set_option linter.unusedVariables false
theorem own : ownKnob Try.prog.godebug = none := by kernel_rfl
set_option maxRecDepth 100000 in
theorem lifted (os : Os) (started : os.Started) (H : Type) (enc : TypeId × Value → H) :
    ReturnsInHanded {} Try.checked os 17 .any (Rows.merkleRowsSpec.pre6 enc Try.prog Try.f17 Rows.merkleRowsRow.domain false) (Rows.merkleRowsSpec.post enc Try.prog Try.f17 false true false false) := by
  refine returnsInHanded_of_change_sized (C := Try.checked) own started (by kernel_rfl) Try.func17
    (ChangeSpec.witness6 (enc := enc) (C := Try.checked) false ⟨#[], #[.slice none 0 0, .int .i64 0], []⟩ 8 (by kernel_rfl) (by kernel_rfl) (by kernel_rfl) (by kernel_rfl)) ?_
  intro W base args ds gs before hval0 hW hcnd hsz0 _
  have hW' := hW
  obtain ⟨p, q, hA0, hV, rfl, hfz, hnd⟩ := hW
  have hA : DataW.TrodAll enc Try.prog W 0 (fun _ => true) true Try.f17.params.toList args.toList ds p := hA0
  have hval : ∀ (j : Nat) t v, Try.f17.params[j]? = some t → args[j]? = some v → Value.okWide Try.prog W .any base t v := hval0
  rw [Try.params17] at hA hval
  obtain ⟨v0, vs0, d0, ds0, p0, q0, hargs, rfl, rfl, h0, r0⟩ := trodAll_cons hA
  obtain ⟨v1, vs1, d1, ds1, p1, q1, rfl, rfl, rfl, h1, r1⟩ := trodAll_cons r0
  obtain ⟨rfl, rfl, rfl⟩ := trodAll_nil r1
  obtain rfl : args = #[v0, v1] := by cases args; simp_all
  obtain ⟨rfl, rfl⟩ := trodVars_none hV
  obtain ⟨x0, w0⟩ := at_slice Try.underlying80 (hval 0 80 v0 rfl rfl) rd80 h0
  obtain ⟨x1, rfl, _, _, w1⟩ := open_int Try.underlying3 (hval 1 3 v1 rfl rfl) h1
  have hμ : Agr (mem W) W := agr_mem W
  have hm := sargassolaw6_MerkleRows.m (mem W) x0 v0 w0 x1 (wf_in w1)
  refine (sargassolaw6_MerkleRows.c (mem W) W hμ x0 v0 w0 x1 (wf_in w1) true hm).mono fun e W' ⟨v, he, hv, _, hI⟩ => ?_
  subst hv
  subst he
  have bel : Below W.heap.size W W' := hI.below
  exact ⟨_, rfl, _, _, _, [], _, [], hW', trodAll_mk1 (shut_bool Try.underlying4 _), (trodAll_cons_mk (again laid rr80 tr80 h0 bel) (trodAll_cons_mk (again laid rr3 tr3 h1 bel) trodAll_mk0)), rfl, bel.frame _, fun h => by cases h⟩
theorem closed : joinedFacts Try.prog 17 Try.f17 Rows.merkleRowsSpec Rows.merkleRowsRow = true := by
  unfold joinedFacts
  rw [J.may, J.lifts, J.make]
  kernel_rfl
theorem over : Rows.merkleRowsRow.holds Try.pinned (OpenSpec.ofChange Rows.merkleRowsSpec) :=
  OpenClaim.holds_of_wide 17 Try.f17 rfl rfl rfl rfl rfl rfl rfl ⟨rfl, rfl, rfl, rfl, rfl⟩ rfl rfl rfl rfl rfl (by kernel_rfl) Try.func17 closed
    (of_decide_eq_true (by kernel_rfl)) (by unfold Func.isWrapper; first | (rw [if_pos (by decide +kernel)]; kernel_rfl) | (rw [if_neg (by decide +kernel)]; exact ⟨rfl, rfl⟩))
    (fun os started H enc _ => lifted os started H enc)
end Go.Proofs.Ytnbnnphlffhgiaa.zMerkleRows
namespace Go.Proofs.Ytnbnnphlffhgiaa
theorem merkleRows_holds : Rows.MerkleRowsSaid := zMerkleRows.over
#print axioms merkleRows_holds
end Go.Proofs.Ytnbnnphlffhgiaa
