/- Proved: the statement MerkleSaysSaid, as given (its conditions are those of the given row, no others): the call of sargasso/sargassolaw6.MerkleSays ends, with true, and the input reads as it did. -/
import Derived.Test.YtnbnnphlffhgiaaRows
import Derived.Test.YtnbnnphlffhgiaaHMerkleSays
import Derived.Test.YtnbnnphlffhgiaaMMerkleSays
import Derived.WalkKit
import Derived.ProofKit
import Derived.OpenShut
import Derived.ShutString
import Derived.ChangeOld
import Derived.Below
import Derived.Carry
import Derived.SizedLaws
import Derived.Test.YtnbnnphlffhgiaaRd
import Derived.Test.YtnbnnphlffhgiaaJn
namespace Go.Proofs.Ytnbnnphlffhgiaa.zMerkleSays
open Go Go.Proofs Go.Proofs.Ytnbnnphlffhgiaa.K Go.Proofs.Ytnbnnphlffhgiaa.T
open Go.ChangeShapes Go.WideShapes Go.ChangeAt Go.RowKit
set_option linter.unusedVariables false
theorem own : ownKnob Try.prog.godebug = none := by kernel_rfl
set_option maxRecDepth 100000 in
theorem lifted (os : Os) (started : os.Started) (H : Type) (enc : TypeId × Value → H) :
    ReturnsInHanded {} Try.checked os 18 .any (Rows.merkleSaysSpec.pre6 enc Try.prog Try.f18 Rows.merkleSaysRow.domain false) (Rows.merkleSaysSpec.post enc Try.prog Try.f18 false true false false) := by
  refine returnsInHanded_of_change_sized (C := Try.checked) own started (by kernel_rfl) Try.func18
    (ChangeSpec.witness6 (enc := enc) (C := Try.checked) false ⟨#[], #[.slice none 0 0, .int .i64 0, .int .i64 0, .agg #[.int .u8 0, .int .u8 0, .int .u8 0, .int .u8 0, .int .u8 0, .int .u8 0, .int .u8 0, .int .u8 0, .int .u8 0, .int .u8 0, .int .u8 0, .int .u8 0, .int .u8 0, .int .u8 0, .int .u8 0, .int .u8 0, .int .u8 0, .int .u8 0, .int .u8 0, .int .u8 0, .int .u8 0, .int .u8 0, .int .u8 0, .int .u8 0, .int .u8 0, .int .u8 0, .int .u8 0, .int .u8 0, .int .u8 0, .int .u8 0, .int .u8 0, .int .u8 0], .slice none 0 0], []⟩ 8 (by kernel_rfl) (by kernel_rfl) (by kernel_rfl) (by kernel_rfl)) ?_
  intro W base args ds gs before hval0 hW hcnd hsz0 _
  have hW' := hW
  obtain ⟨p, q, hA0, hV, rfl, hfz, hnd⟩ := hW
  have hA : DataW.TrodAll enc Try.prog W 0 (fun _ => true) true Try.f18.params.toList args.toList ds p := hA0
  have hval : ∀ (j : Nat) t v, Try.f18.params[j]? = some t → args[j]? = some v → Value.okWide Try.prog W .any base t v := hval0
  rw [Try.params18] at hA hval
  obtain ⟨v0, vs0, d0, ds0, p0, q0, hargs, rfl, rfl, h0, r0⟩ := trodAll_cons hA
  obtain ⟨v1, vs1, d1, ds1, p1, q1, rfl, rfl, rfl, h1, r1⟩ := trodAll_cons r0
  obtain ⟨v2, vs2, d2, ds2, p2, q2, rfl, rfl, rfl, h2, r2⟩ := trodAll_cons r1
  obtain ⟨v3, vs3, d3, ds3, p3, q3, rfl, rfl, rfl, h3, r3⟩ := trodAll_cons r2
  obtain ⟨v4, vs4, d4, ds4, p4, q4, rfl, rfl, rfl, h4, r4⟩ := trodAll_cons r3
  obtain ⟨rfl, rfl, rfl⟩ := trodAll_nil r4
  obtain rfl : args = #[v0, v1, v2, v3, v4] := by cases args; simp_all
  obtain ⟨rfl, rfl⟩ := trodVars_none hV
  obtain ⟨x0, w0⟩ := at_slice Try.underlying80 (hval 0 80 v0 rfl rfl) rd80 h0
  obtain ⟨x1, rfl, _, _, w1⟩ := open_int Try.underlying3 (hval 1 3 v1 rfl rfl) h1
  obtain ⟨x2, rfl, _, _, w2⟩ := open_int Try.underlying3 (hval 2 3 v2 rfl rfl) h2
  obtain ⟨c3, rfl, x3, rfl, w3⟩ := at_agg (agg_array Try.underlying33 (hval 3 33 v3 rfl rfl)) rd33 h3
  obtain ⟨x4, w4⟩ := at_slice Try.underlying80 (hval 4 80 v4 rfl rfl) rd80 h4
  have hμ : Agr (mem W) W := agr_mem W
  have hm := sargassolaw6_MerkleSays.m (mem W) x0 v0 w0 x1 (wf_in w1) x2 (wf_in w2) x3 w3 x4 v4 w4
  refine (sargassolaw6_MerkleSays.c (mem W) W hμ x0 v0 w0 x1 (wf_in w1) x2 (wf_in w2) x3 w3 x4 v4 w4 true hm).mono fun e W' ⟨v, he, hv, _, hI⟩ => ?_
  subst hv
  subst he
  have bel : Below W.heap.size W W' := hI.below
  exact ⟨_, rfl, _, _, _, [], _, [], hW', trodAll_mk1 (shut_bool Try.underlying4 _), (trodAll_cons_mk (again laid rr80 tr80 h0 bel) (trodAll_cons_mk (again laid rr3 tr3 h1 bel) (trodAll_cons_mk (again laid rr3 tr3 h2 bel) (trodAll_cons_mk (again laid rr33 tr33 h3 bel) (trodAll_cons_mk (again laid rr80 tr80 h4 bel) trodAll_mk0))))), rfl, bel.frame _, fun h => by cases h⟩
theorem closed : joinedFacts Try.prog 18 Try.f18 Rows.merkleSaysSpec Rows.merkleSaysRow = true := by
  unfold joinedFacts
  rw [J.may, J.lifts, J.make]
  kernel_rfl
theorem over : Rows.merkleSaysRow.holds Try.pinned (OpenSpec.ofChange Rows.merkleSaysSpec) :=
  OpenClaim.holds_of_wide 18 Try.f18 rfl rfl rfl rfl rfl rfl rfl ⟨rfl, rfl, rfl, rfl, rfl⟩ rfl rfl rfl rfl rfl (by kernel_rfl) Try.func18 closed
    (of_decide_eq_true (by kernel_rfl)) (by unfold Func.isWrapper; first | (rw [if_pos (by decide +kernel)]; kernel_rfl) | (rw [if_neg (by decide +kernel)]; exact ⟨rfl, rfl⟩))
    (fun os started H enc _ => lifted os started H enc)
end Go.Proofs.Ytnbnnphlffhgiaa.zMerkleSays
namespace Go.Proofs.Ytnbnnphlffhgiaa
theorem merkleSays_holds : Rows.MerkleSaysSaid := zMerkleSays.over
#print axioms merkleSays_holds
end Go.Proofs.Ytnbnnphlffhgiaa
