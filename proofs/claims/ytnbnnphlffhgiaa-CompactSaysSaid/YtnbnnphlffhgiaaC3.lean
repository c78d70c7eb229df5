/- A helper of this seat's claims: printed by gen.py. It proves no statement by itself. -/
import Derived.Test.YtnbnnphlffhgiaaC2
import Derived.Test.YtnbnnphlffhgiaaF3
namespace Go.Proofs.Ytnbnnphlffhgiaa.T
open Go Go.Proofs Go.Proofs.Ytnbnnphlffhgiaa.K
set_option linter.unusedVariables false
set_option linter.unusedSimpArgs false
/-! digest.begin: function 108 -/
set_option maxRecDepth 20000 in
theorem digest_begin.c (μ : Store) (w0 : World) (hμ : Agr μ w0) (r : List Int) (H : digest_begin.f = some r) :
    Calls Try.prog 108 [].toArray w0 (fun e w' => ∃ v, e = .returned v ∧ v = .agg [av .u32 8 r].flatten.toArray ∧ Arr .u32 8 r ∧ Iv w0 [] μ μ [] w') := by
  refine enter Try.func108 rfl Try.ntmps108 rfl fun a hA => ?_
  have hI := Iv.start hμ
  have H := bI H
  refine w_seq fun _ hN1 => ?_
  refine w_reg ?_
  refine o_new [av .u32 8 (List.replicate 8 0)] zr26 hI hA rfl fun g1 a w hA hI hg1 => ?_
  refine o_nil ?_
  refine hN1 _ _ ?_
  refine w_seq fun _ hN2 => ?_
  refine w_reg ?_
  refine stp hA (r_bldA (cs := [av .u32 8 ([1779033703, 3144134277, 1013904242, 2773480762, 1359893119, 2600822924, 528734635, 1541459225])].flatten.toArray) zr26 Try.underlying26 sz25 hA rfl (by kernel_rfl)) rfl fun a hA => 
    o_st (j := 0) [] [av .u32 8 (List.replicate 8 0)] [av .u32 8 ([1779033703, 3144134277, 1013904242, 2773480762, 1359893119, 2600822924, 528734635, 1541459225])] [] sz26 rfl rfl (fl_cons (one_av _ _ _) fl_nil) hI rfl hA rfl rfl rfl rfl fun w hI => ?_
  refine o_nil ?_
  refine hN2 _ _ ?_
  refine w_ret ?_
  obtain rfl := Option.some.inj (bS H)
  exact retc Try.underlying26 rfl sz26 rfl hI (j := 0) rfl hA Try.results108 rfl ⟨_, rfl, rfl, (arr_lit rfl (by simp only [List.forall_mem_cons]; exact ⟨(in_lit .u32 1779033703 rfl), (in_lit .u32 3144134277 rfl), (in_lit .u32 1013904242 rfl), (in_lit .u32 2773480762 rfl), (in_lit .u32 1359893119 rfl), (in_lit .u32 2600822924 rfl), (in_lit .u32 528734635 rfl), (in_lit .u32 1541459225 rfl), by simp⟩)), hI.forget0⟩

/-! digest.turn: function 111 -/
set_option maxRecDepth 20000 in
theorem digest_turn.c (μ : Store) (w0 : World) (hμ : Agr μ w0) (x0 : Int) (hx0 : InR .u32 x0) (x1 : Int) (hx1 : InR .i64 x1) (r : Int) (H : digest_turn.f x0 x1 = some r) :
    Calls Try.prog 111 [.int .u32 x0, .int .i64 x1].toArray w0 (fun e w' => ∃ v, e = .returned v ∧ v = .int .u32 r ∧ InR .u32 r ∧ Iv w0 [] μ μ [] w') := by
  refine enter Try.func111 rfl Try.ntmps111 rfl fun a hA => ?_
  have hI := Iv.start hμ
  have H := bI H
  refine w_seq fun _ hN1 => ?_
  refine w_reg ?_
  refine stp hA (r_as hA rfl) rfl fun a hA => ?_
  refine o_nil ?_
  refine hN1 _ _ ?_
  refine w_seq fun _ hN2 => ?_
  refine w_reg ?_
  refine stp hA (r_mv hA rfl) rfl fun a hA => 
    stp hA (r_mv hA rfl) rfl fun a hA => 
    stp hA (r_neg hA rfl) rfl fun a hA => ?_
  obtain ⟨r1, hr1, H⟩ := bB H
  refine o_callp (u := .int .u32 r1) cf116 hA rfl hI (math_bits_RotateLeft32.c μ _ hI.agr x0 hx0 (IntKind.i64.wrap (0 - x1)) (wrap_in _ _) r1 hr1) rfl fun a w hz1 hI hA => 
    stp hA (r_as hA rfl) rfl fun a hA => ?_
  refine o_nil ?_
  refine hN2 _ _ ?_
  refine w_ret ?_
  obtain rfl := Option.some.inj (bS H)
  exact ret1 hA Try.results111 rfl ⟨_, rfl, rfl, hz1, hI.forget0⟩

/-! sargassoref1.right: function 90 -/
set_option maxRecDepth 20000 in
theorem sargassoref1_right.c (μ : Store) (w0 : World) (hμ : Agr μ w0) (x0 : Int) (hx0 : InR .u32 x0) (x1 : Int) (hx1 : InR .u64 x1) (r : Int) (H : sargassoref1_right.f x0 x1 = some r) :
    Calls Try.prog 90 [.int .u32 x0, .int .u64 x1].toArray w0 (fun e w' => ∃ v, e = .returned v ∧ v = .int .u32 r ∧ InR .u32 r ∧ Iv w0 [] μ μ [] w') := by
  refine enter Try.func90 rfl Try.ntmps90 rfl fun a hA => ?_
  have hI := Iv.start hμ
  have H := bI H
  refine w_seq fun _ hN1 => ?_
  refine w_reg ?_
  refine stp hA (r_as hA rfl) rfl fun a hA => ?_
  refine o_nil ?_
  refine hN1 _ _ ?_
  refine w_seq fun _ hN2 => ?_
  refine w_reg ?_
  refine stp hA (r_mv hA rfl) rfl fun a hA => 
    stp hA (r_mv hA rfl) rfl fun a hA => ?_
  obtain ⟨hb1, H⟩ := bG H
  refine stp hA (r_shr hA rfl rfl hb1) rfl fun a hA => 
    stp hA (r_mv hA rfl) rfl fun a hA => 
    stp hA (r_mv hA rfl) rfl fun a hA => 
    stp hA (r_sub hA rfl rfl) rfl fun a hA => ?_
  obtain ⟨hb2, H⟩ := bG H
  refine stp hA (r_shl hA rfl rfl hb2) rfl fun a hA => 
    stp hA (r_or hA rfl rfl) rfl fun a hA => 
    stp hA (r_as hA rfl) rfl fun a hA => ?_
  refine o_nil ?_
  refine hN2 _ _ ?_
  refine w_ret ?_
  obtain rfl := Option.some.inj (bS H)
  exact ret1 hA Try.results90 rfl ⟨_, rfl, rfl, (wrap_in _ _), hI.forget0⟩
end Go.Proofs.Ytnbnnphlffhgiaa.T
