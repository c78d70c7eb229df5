/- A helper of this seat's claims: printed by gen.py. It proves no statement by itself. -/
import Derived.Test.YtnbnnphlffhgiaaC4
import Derived.Test.YtnbnnphlffhgiaaF5
namespace Go.Proofs.Ytnbnnphlffhgiaa.T
open Go Go.Proofs Go.Proofs.Ytnbnnphlffhgiaa.K
set_option linter.unusedVariables false
set_option linter.unusedSimpArgs false
/-! merkle.other: function 103 -/
set_option maxRecDepth 20000 in
theorem merkle_other.c (μ : Store) (w0 : World) (hμ : Agr μ w0) (x0 : Int) (hx0 : InR .i64 x0) (x1 : List (List Int)) (u1 : Value) (hx1 : Slc (RA .u8 32) 32 μ u1 x1) (r : List Int) (H : merkle_other.f x0 x1 = some r) :
    Calls Try.prog 103 [.int .i64 x0, u1].toArray w0 (fun e w' => ∃ v, e = .returned v ∧ v = .agg [av .u8 32 r].flatten.toArray ∧ Arr .u8 32 r ∧ Iv w0 [] μ μ [] w') := by
  refine enter Try.func103 rfl Try.ntmps103 rfl fun a hA => ?_
  have hI := Iv.start hμ
  have H := bI H
  refine w_seq fun _ hN1 => ?_
  refine w_reg ?_
  refine o_new [av .u8 32 (List.replicate 32 0)] zr33 hI hA rfl fun g1 a w hA hI hg1 => ?_
  refine o_nil ?_
  refine hN1 _ _ ?_
  refine w_seq fun _ hN2 => ?_
  refine w_reg ?_
  refine stp hA (r_mv hA rfl) rfl fun a hA => 
    stp hA (r_mv hA rfl) rfl fun a hA => 
    stp hA (r_xor hA rfl rfl) rfl fun a hA => 
    stp hA (r_mv hA rfl) rfl fun a hA => ?_
  obtain ⟨_, hsl1⟩ := Slc.sv hx1
  refine stp hA (r_slen Try.underlying80 hsl1 hA rfl) rfl fun a hA => 
    stp hA (r_sub hA rfl rfl) rfl fun a hA => 
    stp hA (r_min hA rfl rfl) rfl fun a hA => ?_
  obtain ⟨hb1, H⟩ := bG H
  obtain ⟨_, he1, _, hat1⟩ := Slc.elem hx1 (getD_some [] hb1.1 hb1.2)
  obtain ⟨rfl, hw1⟩ := he1
  obtain ⟨_, hsl2⟩ := Slc.sv hx1
  refine stp hA (r_six Try.underlying80 sz33 hsl2 hA rfl rfl hb1.1 hb1.2) rfl fun a hA => 
    stp hA (r_ldmA [] [av .u8 32 (x1.getD (iMin (bXor .i64 x0 1) (IntKind.i64.wrap ((x1.length : Int) - 1))).toNat [])] [] Try.underlying33 rfl sz33 rfl hI.agr hat1 hA rfl rfl) rfl fun a hA => 
    o_st (j := 0) [] [av .u8 32 (List.replicate 32 0)] [av .u8 32 (x1.getD (iMin (bXor .i64 x0 1) (IntKind.i64.wrap ((x1.length : Int) - 1))).toNat [])] [] sz33 rfl rfl (fl_cons (one_av _ _ _) fl_nil) hI rfl hA rfl rfl rfl rfl fun w hI => ?_
  refine o_nil ?_
  refine hN2 _ _ ?_
  refine w_ret ?_
  obtain rfl := Option.some.inj (bS H)
  exact retc Try.underlying33 rfl sz33 rfl hI (j := 0) rfl hA Try.results103 rfl ⟨_, rfl, rfl, hw1, hI.forget0⟩
end Go.Proofs.Ytnbnnphlffhgiaa.T
