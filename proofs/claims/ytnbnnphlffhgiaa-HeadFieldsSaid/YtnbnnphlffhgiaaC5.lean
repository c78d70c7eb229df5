/- A helper of this seat's claims: printed by gen.py. It proves no statement by itself. -/
import Derived.Test.YtnbnnphlffhgiaaC4
import Derived.Test.YtnbnnphlffhgiaaF5
import Derived.Test.YtnbnnphlffhgiaaK15
namespace Go.Proofs.Ytnbnnphlffhgiaa.T
open Go Go.Proofs Go.Proofs.Ytnbnnphlffhgiaa.K
set_option linter.unusedVariables false
set_option linter.unusedSimpArgs false
/-! merkle.other: function 103 -/
set_option maxRecDepth 20000 in
theorem merkle_other.c (μ : Store) (w0 : World) (hμ : Agr μ w0) (x0 : Int) (hx0 : InR .i64 x0) (x1 : List (List Int)) (u1 : Value) (hx1 : Slc (RA .u8 32) 32 μ u1 x1) (r : List Int) (H : merkle_other.f x0 x1 = some r) :
    Calls Try.prog 103 [.int .i64 x0, u1].toArray w0 (fun e w' => ∃ v, e = .returned v ∧ v = .agg [av .u8 32 r].flatten.toArray ∧ Arr .u8 32 r ∧ Iv w0 [] μ μ [] w') := by
  refine enter Try.func103 rfl Try.ntmps103 rfl fun a hA => ?_
  have hI := Iv.start hμ
  have H := bI H
  refine w_seq fun _ hN1 => ?_
  refine w_reg ?_
  refine o_new [av .u8 32 (List.replicate 32 0)] zr33 hI hA rfl fun g1 a w hA hI hg1 => ?_
  refine o_nil ?_
  refine hN1 _ _ ?_
  refine w_seq fun _ hN2 => ?_
  refine w_reg ?_
  refine stp hA (r_mv hA rfl) rfl fun a hA => 
    stp hA (r_mv hA rfl) rfl fun a hA => 
    stp hA (r_xor hA rfl rfl) rfl fun a hA => 
    stp hA (r_mv hA rfl) rfl fun a hA => ?_
  obtain ⟨_, hsl1⟩ := Slc.sv hx1
  refine stp hA (r_slen Try.underlying80 hsl1 hA rfl) rfl fun a hA => 
    stp hA (r_sub hA rfl rfl) rfl fun a hA => 
    stp hA (r_min hA rfl rfl) rfl fun a hA => ?_
  obtain ⟨hb1, H⟩ := bG H
  obtain ⟨_, he1, _, hat1⟩ := Slc.elem hx1 (getD_some [] hb1.1 hb1.2)
  obtain ⟨rfl, hw1⟩ := he1
  obtain ⟨_, hsl2⟩ := Slc.sv hx1
  refine stp hA (r_six Try.underlying80 sz33 hsl2 hA rfl rfl hb1.1 hb1.2) rfl fun a hA => 
    stp hA (r_ldmA [] [av .u8 32 (x1.getD (iMin (bXor .i64 x0 1) (IntKind.i64.wrap ((x1.length : Int) - 1))).toNat [])] [] Try.underlying33 rfl sz33 rfl hI.agr hat1 hA rfl rfl) rfl fun a hA => 
    o_st (j := 0) [] [av .u8 32 (List.replicate 32 0)] [av .u8 32 (x1.getD (iMin (bXor .i64 x0 1) (IntKind.i64.wrap ((x1.length : Int) - 1))).toNat [])] [] sz33 rfl rfl (fl_cons (one_av _ _ _) fl_nil) hI rfl hA rfl rfl rfl rfl fun w hI => ?_
  refine o_nil ?_
  refine hN2 _ _ ?_
  refine w_ret ?_
  obtain rfl := Option.some.inj (bS H)
  exact retc Try.underlying33 rfl sz33 rfl hI (j := 0) rfl hA Try.results103 rfl ⟨_, rfl, rfl, hw1, hI.forget0⟩

/-! merkle.pair: function 105 -/
set_option maxRecDepth 20000 in
theorem merkle_pair.c (μ : Store) (w0 : World) (hμ : Agr μ w0) (x0 : List Int) (hx0 : Arr .u8 32 x0) (x1 : List Int) (hx1 : Arr .u8 32 x1) (r : List Int) (H : merkle_pair.f x0 x1 = some r) :
    Calls Try.prog 105 [.agg [av .u8 32 x0].flatten.toArray, .agg [av .u8 32 x1].flatten.toArray].toArray w0 (fun e w' => ∃ v, e = .returned v ∧ v = .agg [av .u8 32 r].flatten.toArray ∧ Arr .u8 32 r ∧ Iv w0 [] μ μ [] w') := by
  refine enter Try.func105 rfl Try.ntmps105 rfl fun a hA => ?_
  have hI := Iv.start hμ
  have H := bI H
  refine w_seq fun _ hN1 => ?_
  refine w_reg ?_
  refine o_box [av .u8 32 x0] hI hA rfl rfl rfl fun g1 a w hA hI hg1 => 
    o_box [av .u8 32 x1] hI hA rfl rfl rfl fun g2 a w hA hI hg2 => 
    o_new [av .u8 32 (List.replicate 32 0)] zr33 hI hA rfl fun g3 a w hA hI hg3 => ?_
  refine o_nil ?_
  refine hN1 _ _ ?_
  refine w_seq fun _ hN2 => ?_
  refine w_anyS [] mo (fun w (h : Iv w0 [] μ μ [cel g3 [av .u8 32 (List.replicate 32 0)] 33, cel g2 [av .u8 32 x1] 33, cel g1 [av .u8 32 x0] 33] w) => (h.sel [1, 2] (by decide) rfl : Iv w0 [] μ μ [cel g2 [av .u8 32 x1] 33, cel g1 [av .u8 32 x0] 33] w)) hI fun w hI => ?_
  refine g_easy (i := 0) hA rfl rfl (by kernel_rfl) (.inr (hI.sel [1, 2] (by decide) rfl)) (fun _ => r_slv (i := 0) (j := 32) Try.underlying33 sz5 hA rfl rfl rfl (by decide) (by decide) (by decide) (by decide) rfl) rfl fun a hA => ?_
  refine g_easy (i := 1) hA rfl rfl (by kernel_rfl) (.inr (hI.sel [1, 2] (by decide) rfl)) (fun _ => r_slv (i := 0) (j := 32) Try.underlying33 sz5 hA rfl rfl rfl (by decide) (by decide) (by decide) (by decide) rfl) rfl fun a hA => ?_
  refine g_forced (i := 2) rfl (by kernel_rfl) ?_
  obtain ⟨μ1, hle1, hat1, hI, hth1⟩ := hI.freezeCelT 2 rfl
  have hS1 : Slc (RI .u8) 1 μ1 (.slice (some ⟨g1, 0, none⟩) 32 32) (x0) := slc_view0 [] [] hat1 hx0 rfl (by decide)
  obtain ⟨μ2, hle2, hat2, hI, hth2⟩ := hI.freezeCelT 1 rfl
  have hS2 : Slc (RI .u8) 1 μ2 (.slice (some ⟨g2, 0, none⟩) 32 32) (x1) := slc_view0 [] [] hat2 hx1 rfl (by decide)
  have hE1 : Els (RS (RI .u8) 1 μ2) 1 ([x0, x1] : List (List Int)) ([[(.slice (some ⟨g1, 0, none⟩) 32 32)]].flatten ++ ([[(.slice (some ⟨g2, 0, none⟩) 32 32)]].flatten ++ ([]))) := (Els.cons (c := [[(.slice (some ⟨g1, 0, none⟩) 32 32)]].flatten) ⟨_, rfl, (Slc.le hS1 (fun _ _ h => h) hle2)⟩ rfl (Els.cons (c := [[(.slice (some ⟨g2, 0, none⟩) 32 32)]].flatten) ⟨_, rfl, hS2⟩ rfl Els.nil))
  refine o_bsl ([[(.slice (some ⟨g1, 0, none⟩) 32 32)]].flatten ++ ([[(.slice (some ⟨g2, 0, none⟩) 32 32)]].flatten ++ ([]))) te22 zr22 Try.underlying129 hI hA rfl rfl rfl rfl ((fill_one (cells1 (Slc.le hS1 (fun _ _ h => h) hle2)) rfl (by kernel_rfl)).trans ((fill_one (cells1 hS2) rfl (by kernel_rfl)).trans (by kernel_rfl))) rfl fun g4 a w hA hI => ?_
  generalize hcs : ([[(.slice (some ⟨g1, 0, none⟩) 32 32)]].flatten ++ ([[(.slice (some ⟨g2, 0, none⟩) 32 32)]].flatten ++ ([])) : List Value) = cs1 at hE1 hI
  clear hcs
  refine o_nil ?_
  refine ⟨(.inr ((hth1 _ _ (hth2 _ _ hI)).sel [1, 0] (by decide) rfl)), ?_⟩
  refine g_forced (i := 3) rfl (by kernel_rfl) ?_
  obtain ⟨r1, hr1, H⟩ := bB H
  refine o_call (fun v w' => ∃ (v0 : Value) (c0 : List Value), v = v0 ∧ Els (RI .u8) 1 r1 c0 ∧ Iv w [] μ2 μ2 [row 5 1 v0 r1.length c0] w') cf101 hA rfl ((by obtain ⟨μ3, hle3, hsv1, hI⟩ := hI.freezeRow 0 rfl; have hS3 : Slc (RS (RI .u8) 1 μ3) 1 μ3 (.slice (some ⟨g4, 0, none⟩) 2 2) ([x0, x1] : List (List Int)) := ⟨_, (Els.mono hE1 (fun _ _ h => RS.le (fun _ _ h => h) hle3 h)), hsv1⟩; exact (slices_Concat_byte_byte.c μ3 _ hI.agr ([x0, x1] : List (List Int)) (.slice (some ⟨g4, 0, none⟩) 2 2) hS3 r1 hr1).mono fun _ _ ⟨v, he, b0, b1, hv, f0, hi⟩ => ⟨v, he, b0, b1, hv, f0, hi.low hle3⟩)) rfl fun v1 a w hz1 hA => ?_
  obtain ⟨_, cs2, rfl, hE2, hi1⟩ := hz1
  have hI := hI.call hi1
  refine o_nil ?_
  refine ⟨(.inr ((hth1 _ _ (hth2 _ _ hI)).sel [1, 0] (by decide) rfl)), ?_⟩
  refine g_forced (i := 4) rfl (by kernel_rfl) ?_
  obtain ⟨r2, hr2, H⟩ := bB H
  refine o_callp (u := .agg [av .u8 32 r2].flatten.toArray) cf32 hA rfl hI ((by obtain ⟨μ4, hle4, hsv2, hI⟩ := hI.freezeRow 0 rfl; have hS4 : Slc (RI .u8) 1 μ4 v1 r1 := ⟨_, hE2, hsv2⟩; exact low_plain hle4 (digest_Twice.c μ4 _ hI.agr r1 v1 hS4 r2 hr2))) rfl fun a w hz2 hI hA => ?_
  refine o_nil ?_
  refine ⟨(.inr ((hth1 _ _ (hth2 _ _ hI)).sel [1, 0] (by decide) rfl)), ?_⟩
  refine g_forced (i := 5) rfl (by kernel_rfl) ?_
  refine o_st (j := 2) [] [av .u8 32 (List.replicate 32 0)] [av .u8 32 r2] [] sz33 rfl rfl (fl_cons (one_av _ _ _) fl_nil) hI rfl hA rfl rfl rfl rfl fun w hI => ?_
  refine o_nil ?_
  refine ⟨(.inr ((hth1 _ _ (hth2 _ _ hI)).sel [1, 0] (by decide) rfl)), ?_⟩
  refine g_nil (by kernel_rfl) ?_
  refine hN2 _ _ ?_
  refine w_ret ?_
  obtain rfl := Option.some.inj (bS H)
  exact retc Try.underlying33 rfl sz33 rfl hI (j := 2) rfl hA Try.results105 rfl ⟨_, rfl, rfl, hz2, hI.forget0⟩

/-! merkle.up: function 102 -/
set_option maxRecDepth 20000 in
theorem merkle_up.c (μ : Store) (w0 : World) (hμ : Agr μ w0) (x0 : List (List Int)) (u0 : Value) (hx0 : Slc (RA .u8 32) 32 μ u0 x0) (r : List (List Int)) (H : merkle_up.f x0 = some r) :
    Calls Try.prog 102 [u0].toArray w0 (fun e w' => ∃ v, e = .returned v ∧ ∃ (v0 : Value) (c0 : List Value), v = v0 ∧ Els (RA .u8 32) 32 r c0 ∧ Iv w0 [] μ μ [row 33 32 v0 r.length c0] w') := by
  refine enter Try.func102 rfl Try.ntmps102 rfl fun a hA => ?_
  have hI := Iv.start hμ
  have H := bI H
  refine w_seq fun _ hN1 => ?_
  refine w_reg ?_
  refine stp hA (r_as hA rfl) rfl fun a hA => ?_
  refine o_nil ?_
  refine hN1 _ _ ?_
  refine w_seq fun _ hN2 => ?_
  refine w_reg ?_
  refine stp hA (r_as hA rfl) rfl fun a hA => ?_
  refine o_nil ?_
  refine hN2 _ _ ?_
  obtain ⟨c1, hz1, Hk1⟩ := bB H
  refine w_cut (fun a w => ∃ (vvc1 : Value) (ccc1 : List Value), Els (RA .u8 32) 32 c1 ccc1 ∧ Fr a 23 [(0, u0), (2, (.slice none 0 0)), (3, vvc1)] ∧ Iv w0 [] μ μ [row 33 32 vvc1 c1.length ccc1] w) ?_ ?_
  · have H := bI hz1
    refine w_seq fun _ hN3 => ?_
    refine w_reg ?_
    refine stp hA (r_as hA rfl) rfl fun a hA => ?_
    refine o_nil ?_
    refine hN3 _ _ ?_
    refine w_block ?_
    have hI := hI.nilRow 33 32
    obtain ⟨z1, hz2, Hk2⟩ := bind_some H
    obtain ⟨n1, hn1⟩ := loopO_some hz2
    refine w_loop (fun n a w => ∃ (s1 : List (List Int)) (s2 : Int) (vvs1 : Value) (ccs1 : List Value), loopN (merkle_up.s0 x0) n (s1, s2) = some z1 ∧ Els (RA .u8 32) 32 s1 ccs1 ∧ InR .i64 s2 ∧ Fr a 23 [(0, u0), (2, (.slice none 0 0)), (3, vvs1), (4, .int .i64 s2)] ∧ Iv w0 [] μ μ [row 33 32 vvs1 s1.length ccs1] w) n1 ⟨[], 0, (.slice none 0 0), [], hn1, (Els.nil (RE := (RA .u8 32)) (sz := 32)), (in_lit .i64 0 rfl), hA.sub ⟨rfl, rfl, rfl, rfl, trivial⟩, hI⟩ ?_
    clear hA hI
    rintro n a w ⟨s1, s2, vvs1, ccs1, hn1, ws1, ws2, hA, hI⟩
    obtain ⟨m1, rfl, H⟩ := loopN_bind hn1
    clear hn1
    refine w_seq fun _ hN4 => ?_
    refine w_seq fun _ hN5 => ?_
    refine w_reg ?_
    refine stp hA (r_mv hA rfl) rfl fun a hA => 
      stp hA (r_mv hA rfl) rfl fun a hA => ?_
    obtain ⟨_, hsl1⟩ := Slc.sv hx0
    refine stp hA (r_slen Try.underlying80 hsl1 hA rfl) rfl fun a hA => 
      stp hA (r_lss hA rfl rfl) rfl fun a hA => ?_
    refine o_nil ?_
    refine hN5 _ _ ?_
    refine w_cond hA rfl (fun hc1 => ?_) (fun hc1 => ?_)
    · have hc10 := hc1; have hc1 := of_decide_eq_true hc1; have H := bT H hc1
      refine w_skip ?_
      refine hN4 _ _ ?_
      refine w_seq fun _ hN6 => ?_
      refine w_block ?_
      refine w_anyS [] mo (fun w (h : Iv w0 [] μ μ [row 33 32 vvs1 s1.length ccs1] w) => (h.sel [] (by decide) rfl : Iv w0 [] μ μ [] w)) hI fun w hI => ?_
      refine g_easy (i := 0) hA rfl rfl (by kernel_rfl) (.inr (hI.sel [] (by decide) rfl)) (fun _ => r_mv hA rfl) rfl fun a hA => ?_
      refine g_easy (i := 1) hA rfl rfl (by kernel_rfl) (.inr (hI.sel [] (by decide) rfl)) (fun _ => r_mv hA rfl) rfl fun a hA => ?_
      refine g_easy (i := 2) hA rfl rfl (by kernel_rfl) (.inr (hI.sel [] (by decide) rfl)) (fun _ => r_mv hA rfl) rfl fun a hA => ?_
      obtain ⟨hb1, H⟩ := bG H
      obtain ⟨_, he1, _, hat1⟩ := Slc.elem hx0 (getD_some [] hb1.1 hb1.2)
      obtain ⟨rfl, hw1⟩ := he1
      obtain ⟨_, hsl2⟩ := Slc.sv hx0
      refine g_easy (i := 3) hA rfl rfl (by kernel_rfl) (.inr (hI.sel [] (by decide) rfl)) (fun _ => r_six Try.underlying80 sz33 hsl2 hA rfl rfl hb1.1 hb1.2) rfl fun a hA => ?_
      refine g_take (i := 4) hA rfl rfl (by kernel_rfl) (hI.sel [] (by decide) rfl) (fun w hI => r_ldmA [] [av .u8 32 (x0.getD s2.toNat [])] [] Try.underlying33 rfl sz33 rfl hI.agr hat1 hA rfl rfl) rfl fun a hA => ?_
      refine g_easy (i := 5) hA rfl rfl (by kernel_rfl) (.inr (hI.sel [] (by decide) rfl)) (fun _ => r_mv hA rfl) rfl fun a hA => ?_
      refine g_easy (i := 6) hA rfl rfl (by kernel_rfl) (.inr (hI.sel [] (by decide) rfl)) (fun _ => r_mv hA rfl) rfl fun a hA => ?_
      refine g_forced (i := 7) rfl (by kernel_rfl) ?_
      obtain ⟨r1, hr1, H⟩ := bB H
      refine o_callp (u := .agg [av .u8 32 r1].flatten.toArray) cf103 hA rfl hI (merkle_other.c μ _ hI.agr s2 ws2 x0 u0 hx0 r1 hr1) rfl fun a w hz3 hI hA => ?_
      refine o_nil ?_
      refine ⟨(.inr (hI.sel [] (by decide) rfl)), ?_⟩
      refine g_forced (i := 8) rfl (by kernel_rfl) ?_
      obtain ⟨r2, hr2, H⟩ := bB H
      refine o_callp (u := .agg [av .u8 32 r2].flatten.toArray) cf105 hA rfl hI (merkle_pair.c μ _ hI.agr (x0.getD s2.toNat []) hw1 r1 hz3 r2 hr2) rfl fun a w hz4 hI hA => ?_
      refine o_nil ?_
      refine ⟨(.inr (hI.sel [] (by decide) rfl)), ?_⟩
      refine g_forced (i := 9) rfl (by kernel_rfl) ?_
      have hE1 : Els (RA .u8 32) 32 ([r2] : List (List Int)) ([av .u8 32 r2].flatten ++ ([])) := (Els.cons (c := [av .u8 32 r2].flatten) ⟨rfl, hz4⟩ rfl Els.nil)
      refine o_bsl ([av .u8 32 r2].flatten ++ ([])) te33 zr33 Try.underlying80 hI hA rfl rfl rfl rfl (by kernel_rfl) rfl fun g1 a w hA hI => ?_
      generalize hcs : ([av .u8 32 r2].flatten ++ ([]) : List Value) = cs1 at hE1 hI
      clear hcs
      refine o_nil ?_
      refine ⟨(.inr (hI.sel [] (by decide) rfl)), ?_⟩
      refine g_forced (i := 10) rfl (by kernel_rfl) ?_
      obtain ⟨hb2, H⟩ := bG H
      have hE3 := ws1.app hE1
      refine o_appL (xs := (s1 : List (List Int))) (ys := (([r2] : List (List Int)) : List (List Int))) (j := 1) te33 Try.underlying80 hI rfl hA rfl rfl (src_row hI (j := 0) rfl) hE1.len (hE1.ones (one_RA _ _)) (by first | decide | (have hq := hb2; (try simp only [List.length_cons, List.length_nil] at hq); (try simp only [List.length_cons, List.length_nil]); (try simp only [maxLen]); omega)) (by first | decide | (have hq := hb2; (try simp only [List.length_cons, List.length_nil] at hq); (try simp only [List.length_cons, List.length_nil]); (try simp only [maxLen]); omega)) rfl fun v1 a w hA hI => ?_
      refine o_nil ?_
      refine ⟨(.inr (hI.sel [] (by decide) rfl)), ?_⟩
      refine g_easy (i := 11) hA rfl rfl (by kernel_rfl) (.inr (hI.sel [] (by decide) rfl)) (fun _ => r_as hA rfl) rfl fun a hA => ?_
      refine g_nil (by kernel_rfl) ?_
      refine hN6 _ _ ?_
      refine w_reg ?_
      refine stp hA (r_mv hA rfl) rfl fun a hA => 
        stp hA (r_add hA rfl rfl) rfl fun a hA => 
        stp hA (r_as hA rfl) rfl fun a hA => ?_
      refine o_nil ?_
      exact ⟨m1, Nat.lt_succ_self _, s1 ++ ([r2] : List (List Int)), IntKind.i64.wrap (s2 + 2), v1, ccs1 ++ cs1, H, hE3, (wrap_in _ _), hA.sub ⟨rfl, rfl, rfl, rfl, trivial⟩, (hI.sel [1] (by decide) rfl)⟩
    · have hc10 := hc1; have hc1 := of_decide_eq_false hc1; have H := bF H hc1
      refine w_exit rfl ?_
      have H : some s1 = some z1 := H
      obtain rfl := Option.some.inj H
      have H := Hk2
      cases Option.some.inj (bS H)
      exact ⟨vvs1, ccs1, ws1, hA.sub ⟨rfl, rfl, rfl, trivial⟩, hI⟩
  · rintro a w ⟨vvc1, ccc1, wc1, hA, hI⟩
    have H := Hk1
    refine w_seq fun _ hN7 => ?_
    refine w_reg ?_
    refine stp hA (r_mv hA rfl) rfl fun a hA => 
      stp hA (r_as hA rfl) rfl fun a hA => ?_
    refine o_nil ?_
    refine hN7 _ _ ?_
    refine w_ret ?_
    obtain rfl := Option.some.inj (bS H)
    exact ret1 hA Try.results102 rfl ⟨_, rfl, vvc1, ccc1, rfl, wc1, (hI.less (Store.le.refl _) hI.le)⟩

/-! merkle.Root: function 72 -/
set_option maxRecDepth 20000 in
theorem merkle_Root.c (μ : Store) (w0 : World) (hμ : Agr μ w0) (x0 : List (List Int)) (u0 : Value) (hx0 : Slc (RA .u8 32) 32 μ u0 x0) (r : List Int) (H : merkle_Root.f x0 = some r) :
    Calls Try.prog 72 [u0].toArray w0 (fun e w' => ∃ v, e = .returned v ∧ v = .agg [av .u8 32 r].flatten.toArray ∧ Arr .u8 32 r ∧ Iv w0 [] μ μ [] w') := by
  refine enter Try.func72 rfl Try.ntmps72 rfl fun a hA => ?_
  have hI := Iv.start hμ
  have H := bI H
  refine w_seq fun _ hN1 => ?_
  refine w_reg ?_
  refine o_new [av .u8 32 (List.replicate 32 0)] zr33 hI hA rfl fun g1 a w hA hI hg1 => ?_
  refine o_nil ?_
  refine hN1 _ _ ?_
  refine w_seq fun _ hN2 => ?_
  refine w_seq fun _ hN3 => ?_
  refine w_reg ?_
  refine stp hA (r_mv hA rfl) rfl fun a hA => ?_
  obtain ⟨_, hsl1⟩ := Slc.sv hx0
  refine stp hA (r_slen Try.underlying80 hsl1 hA rfl) rfl fun a hA => 
    stp hA (r_eql hA rfl rfl) rfl fun a hA => ?_
  refine o_nil ?_
  refine hN3 _ _ ?_
  refine w_cond hA rfl (fun hc1 => ?_) (fun hc1 => ?_)
  · have hc10 := hc1; have hc1 := of_decide_eq_true hc1; have H := bT H hc1
    refine w_seq fun _ hN4 => ?_
    refine w_reg ?_
    refine stp hA (r_bldA (cs := [av .u8 32 ([0, 0, 0, 0, 0, 0, 0, 0, 0, 0, 0, 0, 0, 0, 0, 0, 0, 0, 0, 0, 0, 0, 0, 0, 0, 0, 0, 0, 0, 0, 0, 0])].flatten.toArray) zr33 Try.underlying33 sz5 hA rfl (by kernel_rfl)) rfl fun a hA => 
      o_st (j := 0) [] [av .u8 32 (List.replicate 32 0)] [av .u8 32 ([0, 0, 0, 0, 0, 0, 0, 0, 0, 0, 0, 0, 0, 0, 0, 0, 0, 0, 0, 0, 0, 0, 0, 0, 0, 0, 0, 0, 0, 0, 0, 0])] [] sz33 rfl rfl (fl_cons (one_av _ _ _) fl_nil) hI rfl hA rfl rfl rfl rfl fun w hI => ?_
    refine o_nil ?_
    refine hN4 _ _ ?_
    refine w_ret ?_
    obtain rfl := Option.some.inj (bS H)
    exact retc Try.underlying33 rfl sz33 rfl hI (j := 0) rfl hA Try.results72 rfl ⟨_, rfl, rfl, (arr_lit rfl (by simp only [List.forall_mem_cons]; exact ⟨(in_lit .u8 0 rfl), (in_lit .u8 0 rfl), (in_lit .u8 0 rfl), (in_lit .u8 0 rfl), (in_lit .u8 0 rfl), (in_lit .u8 0 rfl), (in_lit .u8 0 rfl), (in_lit .u8 0 rfl), (in_lit .u8 0 rfl), (in_lit .u8 0 rfl), (in_lit .u8 0 rfl), (in_lit .u8 0 rfl), (in_lit .u8 0 rfl), (in_lit .u8 0 rfl), (in_lit .u8 0 rfl), (in_lit .u8 0 rfl), (in_lit .u8 0 rfl), (in_lit .u8 0 rfl), (in_lit .u8 0 rfl), (in_lit .u8 0 rfl), (in_lit .u8 0 rfl), (in_lit .u8 0 rfl), (in_lit .u8 0 rfl), (in_lit .u8 0 rfl), (in_lit .u8 0 rfl), (in_lit .u8 0 rfl), (in_lit .u8 0 rfl), (in_lit .u8 0 rfl), (in_lit .u8 0 rfl), (in_lit .u8 0 rfl), (in_lit .u8 0 rfl), (in_lit .u8 0 rfl), by simp⟩)), hI.forget0⟩
  · have hc10 := hc1; have hc1 := of_decide_eq_false hc1; have H := bF H hc1
    refine w_skip ?_
    refine hN2 _ _ ?_
    refine w_seq fun _ hN5 => ?_
    refine w_reg ?_
    refine stp hA (r_mv hA rfl) rfl fun a hA => 
      stp hA (r_as hA rfl) rfl fun a hA => ?_
    refine o_nil ?_
    refine hN5 _ _ ?_
    obtain ⟨c1, hz1, Hk1⟩ := bB H
    refine w_cut (fun a w => ∃ (μ1 : Store) (vvc1 : Value), μ.le μ1 ∧ Slc (RA .u8 32) 32 μ1 vvc1 c1 ∧ Fr a 17 [(0, u0), (2, .pointer (some ⟨g1, 0, none⟩)), (3, vvc1), (6, .bool (decide ((x0.length : Int) = 0)))] ∧ Iv w0 [] μ μ1 [cel g1 [av .u8 32 (List.replicate 32 0)] 33] w) ?_ ?_
    · have H := bI hz1
      refine w_block ?_
      obtain ⟨z1, hz2, Hk2⟩ := bind_some H
      obtain ⟨n1, hn1⟩ := loopO_some hz2
      refine w_loop (fun n a w => ∃ (s1 : List (List Int)) (μ2 : Store) (vvs1 : Value), loopN (merkle_Root.s0) n s1 = some z1 ∧ μ.le μ2 ∧ Slc (RA .u8 32) 32 μ2 vvs1 s1 ∧ Fr a 17 [(0, u0), (2, .pointer (some ⟨g1, 0, none⟩)), (3, vvs1), (6, .bool (decide ((x0.length : Int) = 0)))] ∧ Iv w0 [] μ μ2 [cel g1 [av .u8 32 (List.replicate 32 0)] 33] w) n1 ⟨x0, μ, u0, hn1, (Store.le.refl _), hx0, hA.sub ⟨rfl, rfl, rfl, rfl, trivial⟩, hI⟩ ?_
      clear hA hI
      rintro n a w ⟨s1, μ2, vvs1, hn1, hle2, ws1, hA, hI⟩
      obtain ⟨m1, rfl, H⟩ := loopN_bind hn1
      clear hn1
      refine w_seq fun _ hN6 => ?_
      refine w_seq fun _ hN7 => ?_
      refine w_reg ?_
      refine stp hA (r_mv hA rfl) rfl fun a hA => ?_
      obtain ⟨_, hsl2⟩ := Slc.sv ws1
      refine stp hA (r_slen Try.underlying80 hsl2 hA rfl) rfl fun a hA => 
        stp hA (r_gtr hA rfl rfl) rfl fun a hA => ?_
      refine o_nil ?_
      refine hN7 _ _ ?_
      refine w_cond hA rfl (fun hc2 => ?_) (fun hc2 => ?_)
      · have hc20 := hc2; have hc2 := of_decide_eq_true hc2; have H := bT H hc2
        refine w_skip ?_
        refine hN6 _ _ ?_
        refine w_block ?_
        refine w_reg ?_
        refine stp hA (r_mv hA rfl) rfl fun a hA => ?_
        obtain ⟨r1, hr1, H⟩ := bB H
        refine o_call _ cf102 hA rfl (merkle_up.c μ2 _ hI.agr s1 vvs1 ws1 r1 hr1) rfl fun v1 a w hz3 hA => ?_
        obtain ⟨_, cs1, rfl, hE1, hi1⟩ := hz3
        have hI := hI.call hi1
        refine stp hA (r_as hA rfl) rfl fun a hA => ?_
        refine o_nil ?_
        obtain ⟨μ3, hle3, hsv1, hI⟩ := hI.freezeRow 0 rfl
        have hS1 : Slc (RA .u8 32) 32 μ3 v1 r1 := ⟨_, hE1, hsv1⟩
        exact ⟨m1, Nat.lt_succ_self _, r1, μ3, v1, H, (hle2.trans hle3), hS1, hA.sub ⟨rfl, rfl, rfl, rfl, trivial⟩, hI⟩
      · have hc20 := hc2; have hc2 := of_decide_eq_false hc2; have H := bF H hc2
        refine w_exit rfl ?_
        have H : some s1 = some z1 := H
        obtain rfl := Option.some.inj H
        have H := Hk2
        cases Option.some.inj (bS H)
        exact ⟨μ2, vvs1, hle2, ws1, hA.sub ⟨rfl, rfl, rfl, rfl, trivial⟩, hI⟩
    · rintro a w ⟨μ1, vvc1, hle1, wc1, hA, hI⟩
      have H := Hk1
      refine w_seq fun _ hN8 => ?_
      refine w_reg ?_
      refine stp hA (r_mv hA rfl) rfl fun a hA => ?_
      obtain ⟨hb1, H⟩ := bG H
      obtain ⟨_, he1, _, hat1⟩ := Slc.elem wc1 (getD_some [] (by decide) hb1)
      obtain ⟨rfl, hw1⟩ := he1
      obtain ⟨_, hsl3⟩ := Slc.sv wc1
      refine stp hA (r_six Try.underlying80 sz33 hsl3 hA rfl rfl (by decide) hb1) rfl fun a hA => 
        stp hA (r_ldmA [] [av .u8 32 (c1.getD (0 : Int).toNat [])] [] Try.underlying33 rfl sz33 rfl hI.agr hat1 hA rfl rfl) rfl fun a hA => 
        o_st (j := 0) [] [av .u8 32 (List.replicate 32 0)] [av .u8 32 (c1.getD (0 : Int).toNat [])] [] sz33 rfl rfl (fl_cons (one_av _ _ _) fl_nil) hI rfl hA rfl rfl rfl rfl fun w hI => ?_
      refine o_nil ?_
      refine hN8 _ _ ?_
      refine w_ret ?_
      obtain rfl := Option.some.inj (bS H)
      exact retc Try.underlying33 rfl sz33 rfl hI (j := 0) rfl hA Try.results72 rfl ⟨_, rfl, rfl, hw1, hI.forget0⟩

/-! merkle.Path: function 74 -/
set_option maxRecDepth 20000 in
theorem merkle_Path.c (μ : Store) (w0 : World) (hμ : Agr μ w0) (x0 : Int) (hx0 : InR .i64 x0) (x1 : List (List Int)) (u1 : Value) (hx1 : Slc (RA .u8 32) 32 μ u1 x1) (r : (List (List Int)) × Bool) (H : merkle_Path.f x0 x1 = some r) :
    Calls Try.prog 74 [.int .i64 x0, u1].toArray w0 (fun e w' => ∃ v, e = .returned v ∧ ∃ (v0 : Value) (c0 : List Value), v = .tuple #[v0, .bool (r.2)] ∧ Els (RA .u8 32) 32 (r.1) c0 ∧ True ∧ Iv w0 [] μ μ [row 33 32 v0 (r.1).length c0] w') := by
  refine enter Try.func74 rfl Try.ntmps74 rfl fun a hA => ?_
  have hI := Iv.start hμ
  have H := bI H
  refine w_seq fun _ hN1 => ?_
  refine w_reg ?_
  refine stp hA (r_as hA rfl) rfl fun a hA => 
    stp hA (r_as hA rfl) rfl fun a hA => ?_
  refine o_nil ?_
  refine hN1 _ _ ?_
  refine w_seq fun _ hN2 => ?_
  obtain ⟨c1, hz1, Hk1⟩ := bB H
  refine w_cut (fun a w => Fr a 31 [(0, .int .i64 x0), (1, u1), (4, (.slice none 0 0)), (5, .bool false), (15, .bool c1)] ∧ Iv w0 [] μ μ [] w) ?_ ?_
  · have H := bI hz1
    refine w_reg ?_
    refine stp hA (r_mv hA rfl) rfl fun a hA => 
      stp hA (r_lss hA rfl rfl) rfl fun a hA => 
      stp hA (r_mv hA rfl) rfl fun a hA => ?_
    rcases Bool.eq_false_or_eq_true (decide (x0 < 0)) with hc1 | hc1
    · have hc10 := hc1; have hc1 := of_decide_eq_true hc1; have H := bT H hc1
      refine o_no hA rfl rfl (by rw [hc10]; simp [vb]) rfl fun a hA => 
        o_no hA rfl rfl (by rw [hc10]; simp [vb]) rfl fun a hA => 
        o_no hA rfl rfl (by rw [hc10]; simp [vb]) rfl fun a hA => 
        o_no hA rfl rfl (by rw [hc10]; simp [vb]) rfl fun a hA => 
        stp hA (r_pick_t hA rfl hc10 rfl) rfl fun a hA => ?_
      refine o_nil ?_
      cases Option.some.inj (bS H)
      exact ⟨hA.sub ⟨rfl, rfl, rfl, rfl, rfl, trivial⟩, hI⟩
    · have hc10 := hc1; have hc1 := of_decide_eq_false hc1; have H := bF H hc1
      refine o_yes hA rfl rfl hc10 <| 
        stp hA (r_mv hA rfl) rfl fun a hA => 
        o_yes hA rfl rfl hc10 <| 
        stp hA (r_mv hA rfl) rfl fun a hA => 
        o_yes hA rfl rfl hc10 <| ?_
      obtain ⟨_, hsl1⟩ := Slc.sv hx1
      refine stp hA (r_slen Try.underlying80 hsl1 hA rfl) rfl fun a hA => 
        o_yes hA rfl rfl hc10 <| 
        stp hA (r_geq hA rfl rfl) rfl fun a hA => 
        stp hA (r_pick_f hA rfl hc10 rfl) rfl fun a hA => ?_
      refine o_nil ?_
      cases Option.some.inj (bS H)
      exact ⟨hA.sub ⟨rfl, rfl, rfl, rfl, rfl, trivial⟩, hI⟩
  · rintro a w ⟨hA, hI⟩
    have H := Hk1
    refine w_cond hA rfl (fun hc2 => ?_) (fun hc2 => ?_)
    · have hc20 := hc2; have H := bT H hc2
      refine w_seq fun _ hN3 => ?_
      refine w_reg ?_
      refine stp hA (r_as hA rfl) rfl fun a hA => 
        stp hA (r_as hA rfl) rfl fun a hA => ?_
      refine o_nil ?_
      refine hN3 _ _ ?_
      refine w_ret ?_
      have hI := hI.nilRow 33 32
      obtain rfl := Option.some.inj (bS H)
      exact ret2 hA Try.results74 rfl rfl ⟨_, rfl, (.slice none 0 0), [], rfl, (Els.nil (RE := (RA .u8 32)) (sz := 32)), trivial, (hI.less (Store.le.refl _) hI.le)⟩
    · have hc20 := hc2; have hc2 := ft hc2; have H := bF H hc2
      refine w_skip ?_
      refine hN2 _ _ ?_
      refine w_seq fun _ hN4 => ?_
      refine w_reg ?_
      refine stp hA (r_as hA rfl) rfl fun a hA => ?_
      refine o_nil ?_
      refine hN4 _ _ ?_
      obtain ⟨⟨c2, c3⟩, hz2, Hk2⟩ := bB H
      refine w_cut (fun a w => ∃ (μ1 : Store) (vvc3 : Value) (ccc3 : List Value), μ.le μ1 ∧ InR .i64 c2 ∧ Els (RA .u8 32) 32 c3 ccc3 ∧ Fr a 31 [(0, .int .i64 c2), (1, u1), (4, (.slice none 0 0)), (5, .bool false), (6, vvc3), (15, .bool c1)] ∧ Iv w0 [] μ μ1 [row 33 32 vvc3 c3.length ccc3] w) ?_ ?_
      · have H := bI hz2
        refine w_seq fun _ hN5 => ?_
        refine w_reg ?_
        refine stp hA (r_mv hA rfl) rfl fun a hA => 
          stp hA (r_as hA rfl) rfl fun a hA => ?_
        refine o_nil ?_
        refine hN5 _ _ ?_
        refine w_block ?_
        have hI := hI.nilRow 33 32
        obtain ⟨z1, hz3, Hk3⟩ := bind_some H
        obtain ⟨n1, hn1⟩ := loopO_some hz3
        refine w_loop (fun n a w => ∃ (s1 : Int) (s2 : List (List Int)) (s3 : List (List Int)) (μ2 : Store) (vvs2 : Value) (ccs2 : List Value) (vvs3 : Value), loopN (merkle_Path.s0) n (s1, s2, s3) = some z1 ∧ μ.le μ2 ∧ InR .i64 s1 ∧ Els (RA .u8 32) 32 s2 ccs2 ∧ Slc (RA .u8 32) 32 μ2 vvs3 s3 ∧ Fr a 31 [(0, .int .i64 s1), (1, u1), (4, (.slice none 0 0)), (5, .bool false), (6, vvs2), (7, vvs3), (15, .bool c1)] ∧ Iv w0 [] μ μ2 [row 33 32 vvs2 s2.length ccs2] w) n1 ⟨x0, [], x1, μ, (.slice none 0 0), [], u1, hn1, (Store.le.refl _), hx0, (Els.nil (RE := (RA .u8 32)) (sz := 32)), hx1, hA.sub ⟨rfl, rfl, rfl, rfl, rfl, rfl, rfl, trivial⟩, hI⟩ ?_
        clear hA hI
        rintro n a w ⟨s1, s2, s3, μ2, vvs2, ccs2, vvs3, hn1, hle2, ws1, ws2, ws3, hA, hI⟩
        obtain ⟨m1, rfl, H⟩ := loopN_bind hn1
        clear hn1
        refine w_seq fun _ hN6 => ?_
        refine w_seq fun _ hN7 => ?_
        refine w_reg ?_
        refine stp hA (r_mv hA rfl) rfl fun a hA => ?_
        obtain ⟨_, hsl2⟩ := Slc.sv ws3
        refine stp hA (r_slen Try.underlying80 hsl2 hA rfl) rfl fun a hA => 
          stp hA (r_gtr hA rfl rfl) rfl fun a hA => ?_
        refine o_nil ?_
        refine hN7 _ _ ?_
        refine w_cond hA rfl (fun hc3 => ?_) (fun hc3 => ?_)
        · have hc30 := hc3; have hc3 := of_decide_eq_true hc3; have H := bT H hc3
          refine w_skip ?_
          refine hN6 _ _ ?_
          refine w_seq fun _ hN8 => ?_
          refine w_block ?_
          refine w_seq fun _ hN9 => ?_
          refine w_reg ?_
          refine stp hA (r_mv hA rfl) rfl fun a hA => 
            stp hA (r_mv hA rfl) rfl fun a hA => 
            stp hA (r_mv hA rfl) rfl fun a hA => ?_
          obtain ⟨r1, hr1, H⟩ := bB H
          refine o_callp (u := .agg [av .u8 32 r1].flatten.toArray) cf103 hA rfl hI (merkle_other.c μ2 _ hI.agr s1 ws1 s3 vvs3 ws3 r1 hr1) rfl fun a w hz4 hI hA => ?_
          have hE1 : Els (RA .u8 32) 32 ([r1] : List (List Int)) ([av .u8 32 r1].flatten ++ ([])) := (Els.cons (c := [av .u8 32 r1].flatten) ⟨rfl, hz4⟩ rfl Els.nil)
          refine o_bsl ([av .u8 32 r1].flatten ++ ([])) te33 zr33 Try.underlying80 hI hA rfl rfl rfl rfl (by kernel_rfl) rfl fun g1 a w hA hI => ?_
          generalize hcs : ([av .u8 32 r1].flatten ++ ([]) : List Value) = cs1 at hE1 hI
          clear hcs
          obtain ⟨hb1, H⟩ := bG H
          have hE3 := ws2.app hE1
          refine o_appL (xs := (s2 : List (List Int))) (ys := (([r1] : List (List Int)) : List (List Int))) (j := 1) te33 Try.underlying80 hI rfl hA rfl rfl (src_row hI (j := 0) rfl) hE1.len (hE1.ones (one_RA _ _)) (by first | decide | (have hq := hb1; (try simp only [List.length_cons, List.length_nil] at hq); (try simp only [List.length_cons, List.length_nil]); (try simp only [maxLen]); omega)) (by first | decide | (have hq := hb1; (try simp only [List.length_cons, List.length_nil] at hq); (try simp only [List.length_cons, List.length_nil]); (try simp only [maxLen]); omega)) rfl fun v1 a w hA hI => 
            stp hA (r_as hA rfl) rfl fun a hA => ?_
          refine o_nil ?_
          refine hN9 _ _ ?_
          refine w_reg ?_
          refine stp hA (r_mv hA rfl) rfl fun a hA => 
            stp hA (r_quo hA rfl rfl (by decide)) rfl fun a hA => 
            stp hA (r_as hA rfl) rfl fun a hA => ?_
          refine o_nil ?_
          refine hN8 _ _ ?_
          refine w_reg ?_
          refine stp hA (r_mv hA rfl) rfl fun a hA => ?_
          obtain ⟨r2, hr2, H⟩ := bB H
          refine o_call _ cf102 hA rfl (merkle_up.c μ2 _ hI.agr s3 vvs3 ws3 r2 hr2) rfl fun v2 a w hz5 hA => ?_
          obtain ⟨_, cs4, rfl, hE4, hi1⟩ := hz5
          have hI := hI.call hi1
          refine stp hA (r_as hA rfl) rfl fun a hA => ?_
          refine o_nil ?_
          obtain ⟨μ3, hle3, hsv2, hI⟩ := hI.freezeRow 0 rfl
          have hS1 : Slc (RA .u8 32) 32 μ3 v2 r2 := ⟨_, hE4, hsv2⟩
          exact ⟨m1, Nat.lt_succ_self _, IntKind.i64.wrap (Int.tdiv s1 2), s2 ++ ([r1] : List (List Int)), r2, μ3, v1, ccs2 ++ cs1, v2, H, (hle2.trans hle3), (wrap_in _ _), hE3, hS1, hA.sub ⟨rfl, rfl, rfl, rfl, rfl, rfl, rfl, trivial⟩, (hI.sel [1] (by decide) rfl)⟩
        · have hc30 := hc3; have hc3 := of_decide_eq_false hc3; have H := bF H hc3
          refine w_exit rfl ?_
          have H : some (s1, s2) = some z1 := H
          obtain rfl := Option.some.inj H
          have H := Hk3
          cases Option.some.inj (bS H)
          exact ⟨μ2, vvs2, ccs2, hle2, ws1, ws2, hA.sub ⟨rfl, rfl, rfl, rfl, rfl, rfl, trivial⟩, hI⟩
      · rintro a w ⟨μ1, vvc3, ccc3, hle1, wc2, wc3, hA, hI⟩
        have H := Hk2
        refine w_seq fun _ hN10 => ?_
        refine w_reg ?_
        refine stp hA (r_mv hA rfl) rfl fun a hA => 
          stp hA (r_as hA rfl) rfl fun a hA => 
          stp hA (r_as hA rfl) rfl fun a hA => ?_
        refine o_nil ?_
        refine hN10 _ _ ?_
        refine w_ret ?_
        obtain rfl := Option.some.inj (bS H)
        exact ret2 hA Try.results74 rfl rfl ⟨_, rfl, vvc3, ccc3, rfl, wc3, trivial, (hI.less (Store.le.refl _) hI.le)⟩

/-! sargassoref1.pair: function 106 -/
set_option maxRecDepth 20000 in
theorem sargassoref1_pair.c (μ : Store) (w0 : World) (hμ : Agr μ w0) (x0 : List Int) (hx0 : Arr .u8 32 x0) (x1 : List Int) (hx1 : Arr .u8 32 x1) (r : List Int) (H : sargassoref1_pair.f x0 x1 = some r) :
    Calls Try.prog 106 [.agg [av .u8 32 x0].flatten.toArray, .agg [av .u8 32 x1].flatten.toArray].toArray w0 (fun e w' => ∃ v, e = .returned v ∧ v = .agg [av .u8 32 r].flatten.toArray ∧ Arr .u8 32 r ∧ Iv w0 [] μ μ [] w') := by
  refine enter Try.func106 rfl Try.ntmps106 rfl fun a hA => ?_
  have hI := Iv.start hμ
  have H := bI H
  refine w_seq fun _ hN1 => ?_
  refine w_reg ?_
  refine o_box [av .u8 32 x0] hI hA rfl rfl rfl fun g1 a w hA hI hg1 => 
    o_box [av .u8 32 x1] hI hA rfl rfl rfl fun g2 a w hA hI hg2 => 
    o_new [av .u8 32 (List.replicate 32 0)] zr33 hI hA rfl fun g3 a w hA hI hg3 => ?_
  refine o_nil ?_
  refine hN1 _ _ ?_
  refine w_seq fun _ hN2 => ?_
  refine w_anyS [] mo (fun w (h : Iv w0 [] μ μ [cel g3 [av .u8 32 (List.replicate 32 0)] 33, cel g2 [av .u8 32 x1] 33, cel g1 [av .u8 32 x0] 33] w) => (h.sel [1, 2] (by decide) rfl : Iv w0 [] μ μ [cel g2 [av .u8 32 x1] 33, cel g1 [av .u8 32 x0] 33] w)) hI fun w hI => ?_
  refine g_easy (i := 0) hA rfl rfl (by kernel_rfl) (.inr (hI.sel [1, 2] (by decide) rfl)) (fun _ => r_slv (i := 0) (j := 32) Try.underlying33 sz5 hA rfl rfl rfl (by decide) (by decide) (by decide) (by decide) rfl) rfl fun a hA => ?_
  refine g_easy (i := 2) hA rfl rfl (by kernel_rfl) (.inr (hI.sel [1, 2] (by decide) rfl)) (fun _ => r_slv (i := 0) (j := 32) Try.underlying33 sz5 hA rfl rfl rfl (by decide) (by decide) (by decide) (by decide) rfl) rfl fun a hA => ?_
  refine g_forced (i := 1) rfl (by kernel_rfl) ?_
  obtain ⟨r1, hr1, H⟩ := bB H
  refine o_call (fun v w' => ∃ (v0 : Value) (c0 : List Value), v = v0 ∧ Els (RI .u8) 1 r1 c0 ∧ Iv w [] μ μ [row 5 1 v0 r1.length c0] w') cf34 hA rfl ((by obtain ⟨μ1, hle1, hat1, hI⟩ := hI.freezeCel 2 rfl; have hS1 : Slc (RI .u8) 1 μ1 (.slice (some ⟨g1, 0, none⟩) 32 32) (x0) := slc_view0 [] [] hat1 hx0 rfl (by decide); exact (sargassoref_Bytes.c μ1 _ hI.agr x0 (.slice (some ⟨g1, 0, none⟩) 32 32) hS1 r1 hr1).mono fun _ _ ⟨v, he, b0, b1, hv, f0, hi⟩ => ⟨v, he, b0, b1, hv, f0, hi.low hle1⟩)) rfl fun v1 a w hz1 hA => ?_
  obtain ⟨_, cs1, rfl, hE1, hi1⟩ := hz1
  have hI := hI.call hi1
  refine o_nil ?_
  refine ⟨(.inr (hI.sel [2, 3] (by decide) rfl)), ?_⟩
  refine g_forced (i := 3) rfl (by kernel_rfl) ?_
  have hE2 := els_av hx1
  obtain ⟨hb1, H⟩ := bG H
  have hE3 := hE1.app hE2
  refine o_appL (xs := (r1 : List Int)) (ys := (x1 : List Int)) (j := 0) te5 Try.underlying22 hI rfl hA rfl rfl (by simpa using src_cel [] [] hI (j := 2) rfl hx1 rfl) hE2.len (hE2.ones (one_RI _)) (by first | decide | (have hq := hb1; (try simp only [List.length_cons, List.length_nil] at hq); (try simp only [List.length_cons, List.length_nil]); (try simp only [maxLen]); omega)) (by first | decide | (have hq := hb1; (try simp only [List.length_cons, List.length_nil] at hq); (try simp only [List.length_cons, List.length_nil]); (try simp only [maxLen]); omega)) rfl fun v2 a w hA hI => ?_
  refine o_nil ?_
  refine ⟨(.inr (hI.sel [2, 3] (by decide) rfl)), ?_⟩
  refine g_forced (i := 4) rfl (by kernel_rfl) ?_
  obtain ⟨r2, hr2, H⟩ := bB H
  refine o_callp (u := .agg [av .u8 32 r2].flatten.toArray) cf38 hA rfl hI ((by obtain ⟨μ2, hle2, hsv2, hI⟩ := hI.freezeRow 0 rfl; have hS2 : Slc (RI .u8) 1 μ2 v2 (r1 ++ x1) := ⟨_, hE3, hsv2⟩; exact low_plain hle2 (sargassoref1_Twice.c μ2 _ hI.agr (r1 ++ x1) v2 hS2 r2 hr2))) rfl fun a w hz2 hI hA => ?_
  refine o_nil ?_
  refine ⟨(.inr (hI.sel [2, 3] (by decide) rfl)), ?_⟩
  refine g_forced (i := 5) rfl (by kernel_rfl) ?_
  refine o_st (j := 1) [] [av .u8 32 (List.replicate 32 0)] [av .u8 32 r2] [] sz33 rfl rfl (fl_cons (one_av _ _ _) fl_nil) hI rfl hA rfl rfl rfl rfl fun w hI => ?_
  refine o_nil ?_
  refine ⟨(.inr (hI.sel [2, 3] (by decide) rfl)), ?_⟩
  refine g_nil (by kernel_rfl) ?_
  refine hN2 _ _ ?_
  refine w_ret ?_
  obtain rfl := Option.some.inj (bS H)
  exact retc Try.underlying33 rfl sz33 rfl hI (j := 1) rfl hA Try.results106 rfl ⟨_, rfl, rfl, hz2, hI.forget0⟩

/-! sargassoref1.row: function 104 -/
set_option maxRecDepth 20000 in
theorem sargassoref1_row.c (μ : Store) (w0 : World) (hμ : Agr μ w0) (x0 : List (List Int)) (u0 : Value) (hx0 : Slc (RA .u8 32) 32 μ u0 x0) (r : List (List Int)) (H : sargassoref1_row.f x0 = some r) :
    Calls Try.prog 104 [u0].toArray w0 (fun e w' => ∃ v, e = .returned v ∧ ∃ (v0 : Value) (c0 : List Value), v = v0 ∧ Els (RA .u8 32) 32 r c0 ∧ Iv w0 [] μ μ [row 33 32 v0 r.length c0] w') := by
  refine enter Try.func104 rfl Try.ntmps104 rfl fun a hA => ?_
  have hI := Iv.start hμ
  have H := bI H
  refine w_seq fun _ hN1 => ?_
  refine w_reg ?_
  refine stp hA (r_as hA rfl) rfl fun a hA => ?_
  refine o_nil ?_
  refine hN1 _ _ ?_
  refine w_seq fun _ hN2 => ?_
  refine w_reg ?_
  refine stp hA (r_as hA rfl) rfl fun a hA => ?_
  refine o_nil ?_
  refine hN2 _ _ ?_
  obtain ⟨c1, hz1, Hk1⟩ := bB H
  refine w_cut (fun a w => ∃ (vvc1 : Value) (ccc1 : List Value), Els (RA .u8 32) 32 c1 ccc1 ∧ Fr a 29 [(0, u0), (2, (.slice none 0 0)), (3, vvc1)] ∧ Iv w0 [] μ μ [row 33 32 vvc1 c1.length ccc1] w) ?_ ?_
  · have H := bI hz1
    refine w_seq fun _ hN3 => ?_
    refine w_reg ?_
    refine stp hA (r_as hA rfl) rfl fun a hA => ?_
    refine o_nil ?_
    refine hN3 _ _ ?_
    refine w_block ?_
    have hI := hI.nilRow 33 32
    obtain ⟨z1, hz2, Hk2⟩ := bind_some H
    obtain ⟨n1, hn1⟩ := loopO_some hz2
    refine w_loop (fun n a w => ∃ (s1 : List (List Int)) (s2 : Int) (vvs1 : Value) (ccs1 : List Value), loopN (sargassoref1_row.s0 x0) n (s1, s2) = some z1 ∧ Els (RA .u8 32) 32 s1 ccs1 ∧ InR .i64 s2 ∧ Fr a 29 [(0, u0), (2, (.slice none 0 0)), (3, vvs1), (4, .int .i64 s2)] ∧ Iv w0 [] μ μ [row 33 32 vvs1 s1.length ccs1] w) n1 ⟨[], 0, (.slice none 0 0), [], hn1, (Els.nil (RE := (RA .u8 32)) (sz := 32)), (in_lit .i64 0 rfl), hA.sub ⟨rfl, rfl, rfl, rfl, trivial⟩, hI⟩ ?_
    clear hA hI
    rintro n a w ⟨s1, s2, vvs1, ccs1, hn1, ws1, ws2, hA, hI⟩
    obtain ⟨m1, rfl, H⟩ := loopN_bind hn1
    clear hn1
    refine w_seq fun _ hN4 => ?_
    refine w_seq fun _ hN5 => ?_
    refine w_reg ?_
    refine stp hA (r_mv hA rfl) rfl fun a hA => 
      stp hA (r_mv hA rfl) rfl fun a hA => ?_
    obtain ⟨_, hsl1⟩ := Slc.sv hx0
    refine stp hA (r_slen Try.underlying80 hsl1 hA rfl) rfl fun a hA => 
      stp hA (r_lss hA rfl rfl) rfl fun a hA => ?_
    refine o_nil ?_
    refine hN5 _ _ ?_
    refine w_cond hA rfl (fun hc1 => ?_) (fun hc1 => ?_)
    · have hc10 := hc1; have hc1 := of_decide_eq_true hc1; have H := bT H hc1
      refine w_skip ?_
      refine hN4 _ _ ?_
      refine w_seq fun _ hN6 => ?_
      refine w_block ?_
      refine w_anyS [] mo (fun w (h : Iv w0 [] μ μ [row 33 32 vvs1 s1.length ccs1] w) => (h.sel [] (by decide) rfl : Iv w0 [] μ μ [] w)) hI fun w hI => ?_
      refine g_easy (i := 0) hA rfl rfl (by kernel_rfl) (.inr (hI.sel [] (by decide) rfl)) (fun _ => r_mv hA rfl) rfl fun a hA => ?_
      refine g_easy (i := 1) hA rfl rfl (by kernel_rfl) (.inr (hI.sel [] (by decide) rfl)) (fun _ => r_mv hA rfl) rfl fun a hA => ?_
      refine g_easy (i := 2) hA rfl rfl (by kernel_rfl) (.inr (hI.sel [] (by decide) rfl)) (fun _ => r_mv hA rfl) rfl fun a hA => ?_
      obtain ⟨hb1, H⟩ := bG H
      obtain ⟨_, he1, _, hat1⟩ := Slc.elem hx0 (getD_some [] hb1.1 hb1.2)
      obtain ⟨rfl, hw1⟩ := he1
      obtain ⟨_, hsl2⟩ := Slc.sv hx0
      refine g_easy (i := 3) hA rfl rfl (by kernel_rfl) (.inr (hI.sel [] (by decide) rfl)) (fun _ => r_six Try.underlying80 sz33 hsl2 hA rfl rfl hb1.1 hb1.2) rfl fun a hA => ?_
      refine g_take (i := 4) hA rfl rfl (by kernel_rfl) (hI.sel [] (by decide) rfl) (fun w hI => r_ldmA [] [av .u8 32 (x0.getD s2.toNat [])] [] Try.underlying33 rfl sz33 rfl hI.agr hat1 hA rfl rfl) rfl fun a hA => ?_
      refine g_easy (i := 5) hA rfl rfl (by kernel_rfl) (.inr (hI.sel [] (by decide) rfl)) (fun _ => r_mv hA rfl) rfl fun a hA => ?_
      refine g_easy (i := 6) hA rfl rfl (by kernel_rfl) (.inr (hI.sel [] (by decide) rfl)) (fun _ => r_mv hA rfl) rfl fun a hA => ?_
      refine g_easy (i := 7) hA rfl rfl (by kernel_rfl) (.inr (hI.sel [] (by decide) rfl)) (fun _ => r_add hA rfl rfl) rfl fun a hA => ?_
      refine g_easy (i := 8) hA rfl rfl (by kernel_rfl) (.inr (hI.sel [] (by decide) rfl)) (fun _ => r_mv hA rfl) rfl fun a hA => ?_
      obtain ⟨_, hsl3⟩ := Slc.sv hx0
      refine g_easy (i := 9) hA rfl rfl (by kernel_rfl) (.inr (hI.sel [] (by decide) rfl)) (fun _ => r_slen Try.underlying80 hsl3 hA rfl) rfl fun a hA => ?_
      refine g_easy (i := 10) hA rfl rfl (by kernel_rfl) (.inr (hI.sel [] (by decide) rfl)) (fun _ => r_sub hA rfl rfl) rfl fun a hA => ?_
      refine g_easy (i := 11) hA rfl rfl (by kernel_rfl) (.inr (hI.sel [] (by decide) rfl)) (fun _ => r_min hA rfl rfl) rfl fun a hA => ?_
      obtain ⟨hb2, H⟩ := bG H
      obtain ⟨_, he2, _, hat2⟩ := Slc.elem hx0 (getD_some [] hb2.1 hb2.2)
      obtain ⟨rfl, hw2⟩ := he2
      obtain ⟨_, hsl4⟩ := Slc.sv hx0
      refine g_easy (i := 12) hA rfl rfl (by kernel_rfl) (.inr (hI.sel [] (by decide) rfl)) (fun _ => r_six Try.underlying80 sz33 hsl4 hA rfl rfl hb2.1 hb2.2) rfl fun a hA => ?_
      refine g_take (i := 13) hA rfl rfl (by kernel_rfl) (hI.sel [] (by decide) rfl) (fun w hI => r_ldmA [] [av .u8 32 (x0.getD (iMin (IntKind.i64.wrap (s2 + 1)) (IntKind.i64.wrap ((x0.length : Int) - 1))).toNat [])] [] Try.underlying33 rfl sz33 rfl hI.agr hat2 hA rfl rfl) rfl fun a hA => ?_
      refine g_forced (i := 14) rfl (by kernel_rfl) ?_
      obtain ⟨r1, hr1, H⟩ := bB H
      refine o_callp (u := .agg [av .u8 32 r1].flatten.toArray) cf106 hA rfl hI (sargassoref1_pair.c μ _ hI.agr (x0.getD s2.toNat []) hw1 (x0.getD (iMin (IntKind.i64.wrap (s2 + 1)) (IntKind.i64.wrap ((x0.length : Int) - 1))).toNat []) hw2 r1 hr1) rfl fun a w hz3 hI hA => ?_
      refine o_nil ?_
      refine ⟨(.inr (hI.sel [] (by decide) rfl)), ?_⟩
      refine g_forced (i := 15) rfl (by kernel_rfl) ?_
      have hE1 : Els (RA .u8 32) 32 ([r1] : List (List Int)) ([av .u8 32 r1].flatten ++ ([])) := (Els.cons (c := [av .u8 32 r1].flatten) ⟨rfl, hz3⟩ rfl Els.nil)
      refine o_bsl ([av .u8 32 r1].flatten ++ ([])) te33 zr33 Try.underlying80 hI hA rfl rfl rfl rfl (by kernel_rfl) rfl fun g1 a w hA hI => ?_
      generalize hcs : ([av .u8 32 r1].flatten ++ ([]) : List Value) = cs1 at hE1 hI
      clear hcs
      refine o_nil ?_
      refine ⟨(.inr (hI.sel [] (by decide) rfl)), ?_⟩
      refine g_forced (i := 16) rfl (by kernel_rfl) ?_
      obtain ⟨hb3, H⟩ := bG H
      have hE3 := ws1.app hE1
      refine o_appL (xs := (s1 : List (List Int))) (ys := (([r1] : List (List Int)) : List (List Int))) (j := 1) te33 Try.underlying80 hI rfl hA rfl rfl (src_row hI (j := 0) rfl) hE1.len (hE1.ones (one_RA _ _)) (by first | decide | (have hq := hb3; (try simp only [List.length_cons, List.length_nil] at hq); (try simp only [List.length_cons, List.length_nil]); (try simp only [maxLen]); omega)) (by first | decide | (have hq := hb3; (try simp only [List.length_cons, List.length_nil] at hq); (try simp only [List.length_cons, List.length_nil]); (try simp only [maxLen]); omega)) rfl fun v1 a w hA hI => ?_
      refine o_nil ?_
      refine ⟨(.inr (hI.sel [] (by decide) rfl)), ?_⟩
      refine g_easy (i := 17) hA rfl rfl (by kernel_rfl) (.inr (hI.sel [] (by decide) rfl)) (fun _ => r_as hA rfl) rfl fun a hA => ?_
      refine g_nil (by kernel_rfl) ?_
      refine hN6 _ _ ?_
      refine w_reg ?_
      refine stp hA (r_mv hA rfl) rfl fun a hA => 
        stp hA (r_add hA rfl rfl) rfl fun a hA => 
        stp hA (r_as hA rfl) rfl fun a hA => ?_
      refine o_nil ?_
      exact ⟨m1, Nat.lt_succ_self _, s1 ++ ([r1] : List (List Int)), IntKind.i64.wrap (s2 + 2), v1, ccs1 ++ cs1, H, hE3, (wrap_in _ _), hA.sub ⟨rfl, rfl, rfl, rfl, trivial⟩, (hI.sel [1] (by decide) rfl)⟩
    · have hc10 := hc1; have hc1 := of_decide_eq_false hc1; have H := bF H hc1
      refine w_exit rfl ?_
      have H : some s1 = some z1 := H
      obtain rfl := Option.some.inj H
      have H := Hk2
      cases Option.some.inj (bS H)
      exact ⟨vvs1, ccs1, ws1, hA.sub ⟨rfl, rfl, rfl, trivial⟩, hI⟩
  · rintro a w ⟨vvc1, ccc1, wc1, hA, hI⟩
    have H := Hk1
    refine w_seq fun _ hN7 => ?_
    refine w_reg ?_
    refine stp hA (r_mv hA rfl) rfl fun a hA => 
      stp hA (r_as hA rfl) rfl fun a hA => ?_
    refine o_nil ?_
    refine hN7 _ _ ?_
    refine w_ret ?_
    obtain rfl := Option.some.inj (bS H)
    exact ret1 hA Try.results104 rfl ⟨_, rfl, vvc1, ccc1, rfl, wc1, (hI.less (Store.le.refl _) hI.le)⟩

/-! sargassoref1.Path: function 75 -/
set_option maxRecDepth 20000 in
theorem sargassoref1_Path.c (μ : Store) (w0 : World) (hμ : Agr μ w0) (x0 : Int) (hx0 : InR .i64 x0) (x1 : List (List Int)) (u1 : Value) (hx1 : Slc (RA .u8 32) 32 μ u1 x1) (r : (List (List Int)) × Bool) (H : sargassoref1_Path.f x0 x1 = some r) :
    Calls Try.prog 75 [.int .i64 x0, u1].toArray w0 (fun e w' => ∃ v, e = .returned v ∧ ∃ (v0 : Value) (c0 : List Value), v = .tuple #[v0, .bool (r.2)] ∧ Els (RA .u8 32) 32 (r.1) c0 ∧ True ∧ Iv w0 [] μ μ [row 33 32 v0 (r.1).length c0] w') := by
  refine enter Try.func75 rfl Try.ntmps75 rfl fun a hA => ?_
  have hI := Iv.start hμ
  have H := bI H
  refine w_seq fun _ hN1 => ?_
  refine w_reg ?_
  refine stp hA (r_as hA rfl) rfl fun a hA => 
    stp hA (r_as hA rfl) rfl fun a hA => ?_
  refine o_nil ?_
  refine hN1 _ _ ?_
  refine w_seq fun _ hN2 => ?_
  obtain ⟨c1, hz1, Hk1⟩ := bB H
  refine w_cut (fun a w => Fr a 38 [(0, .int .i64 x0), (1, u1), (4, (.slice none 0 0)), (5, .bool false), (15, .bool c1)] ∧ Iv w0 [] μ μ [] w) ?_ ?_
  · have H := bI hz1
    refine w_reg ?_
    refine stp hA (r_mv hA rfl) rfl fun a hA => 
      stp hA (r_lss hA rfl rfl) rfl fun a hA => 
      stp hA (r_mv hA rfl) rfl fun a hA => ?_
    rcases Bool.eq_false_or_eq_true (decide (x0 < 0)) with hc1 | hc1
    · have hc10 := hc1; have hc1 := of_decide_eq_true hc1; have H := bT H hc1
      refine o_no hA rfl rfl (by rw [hc10]; simp [vb]) rfl fun a hA => 
        o_no hA rfl rfl (by rw [hc10]; simp [vb]) rfl fun a hA => 
        o_no hA rfl rfl (by rw [hc10]; simp [vb]) rfl fun a hA => 
        o_no hA rfl rfl (by rw [hc10]; simp [vb]) rfl fun a hA => 
        stp hA (r_pick_t hA rfl hc10 rfl) rfl fun a hA => ?_
      refine o_nil ?_
      cases Option.some.inj (bS H)
      exact ⟨hA.sub ⟨rfl, rfl, rfl, rfl, rfl, trivial⟩, hI⟩
    · have hc10 := hc1; have hc1 := of_decide_eq_false hc1; have H := bF H hc1
      refine o_yes hA rfl rfl hc10 <| 
        stp hA (r_mv hA rfl) rfl fun a hA => 
        o_yes hA rfl rfl hc10 <| 
        stp hA (r_mv hA rfl) rfl fun a hA => 
        o_yes hA rfl rfl hc10 <| ?_
      obtain ⟨_, hsl1⟩ := Slc.sv hx1
      refine stp hA (r_slen Try.underlying80 hsl1 hA rfl) rfl fun a hA => 
        o_yes hA rfl rfl hc10 <| 
        stp hA (r_geq hA rfl rfl) rfl fun a hA => 
        stp hA (r_pick_f hA rfl hc10 rfl) rfl fun a hA => ?_
      refine o_nil ?_
      cases Option.some.inj (bS H)
      exact ⟨hA.sub ⟨rfl, rfl, rfl, rfl, rfl, trivial⟩, hI⟩
  · rintro a w ⟨hA, hI⟩
    have H := Hk1
    refine w_cond hA rfl (fun hc2 => ?_) (fun hc2 => ?_)
    · have hc20 := hc2; have H := bT H hc2
      refine w_seq fun _ hN3 => ?_
      refine w_reg ?_
      refine stp hA (r_as hA rfl) rfl fun a hA => 
        stp hA (r_as hA rfl) rfl fun a hA => ?_
      refine o_nil ?_
      refine hN3 _ _ ?_
      refine w_ret ?_
      have hI := hI.nilRow 33 32
      obtain rfl := Option.some.inj (bS H)
      exact ret2 hA Try.results75 rfl rfl ⟨_, rfl, (.slice none 0 0), [], rfl, (Els.nil (RE := (RA .u8 32)) (sz := 32)), trivial, (hI.less (Store.le.refl _) hI.le)⟩
    · have hc20 := hc2; have hc2 := ft hc2; have H := bF H hc2
      refine w_skip ?_
      refine hN2 _ _ ?_
      refine w_seq fun _ hN4 => ?_
      refine w_reg ?_
      refine stp hA (r_as hA rfl) rfl fun a hA => ?_
      refine o_nil ?_
      refine hN4 _ _ ?_
      obtain ⟨⟨c2, c3, c4⟩, hz2, Hk2⟩ := bB H
      refine w_cut (fun a w => ∃ (μ1 : Store) (vvc3 : Value) (vvc4 : Value) (ccc4 : List Value), μ.le μ1 ∧ InR .i64 c2 ∧ Slc (RA .u8 32) 32 μ1 vvc3 c3 ∧ Els (RA .u8 32) 32 c4 ccc4 ∧ Fr a 38 [(0, .int .i64 c2), (1, vvc3), (4, (.slice none 0 0)), (5, .bool false), (6, vvc4), (15, .bool c1)] ∧ Iv w0 [] μ μ1 [row 33 32 vvc4 c4.length ccc4] w) ?_ ?_
      · have H := bI hz2
        refine w_block ?_
        have hI := hI.nilRow 33 32
        obtain ⟨z1, hz3, Hk3⟩ := bind_some H
        obtain ⟨n1, hn1⟩ := loopO_some hz3
        refine w_loop (fun n a w => ∃ (s1 : Int) (s2 : List (List Int)) (s3 : List (List Int)) (μ2 : Store) (vvs2 : Value) (vvs3 : Value) (ccs3 : List Value), loopN (sargassoref1_Path.s0) n (s1, s2, s3) = some z1 ∧ μ.le μ2 ∧ InR .i64 s1 ∧ Slc (RA .u8 32) 32 μ2 vvs2 s2 ∧ Els (RA .u8 32) 32 s3 ccs3 ∧ Fr a 38 [(0, .int .i64 s1), (1, vvs2), (4, (.slice none 0 0)), (5, .bool false), (6, vvs3), (15, .bool c1)] ∧ Iv w0 [] μ μ2 [row 33 32 vvs3 s3.length ccs3] w) n1 ⟨x0, x1, [], μ, u1, (.slice none 0 0), [], hn1, (Store.le.refl _), hx0, hx1, (Els.nil (RE := (RA .u8 32)) (sz := 32)), hA.sub ⟨rfl, rfl, rfl, rfl, rfl, rfl, trivial⟩, hI⟩ ?_
        clear hA hI
        rintro n a w ⟨s1, s2, s3, μ2, vvs2, vvs3, ccs3, hn1, hle2, ws1, ws2, ws3, hA, hI⟩
        obtain ⟨m1, rfl, H⟩ := loopN_bind hn1
        clear hn1
        refine w_seq fun _ hN5 => ?_
        refine w_seq fun _ hN6 => ?_
        refine w_reg ?_
        refine stp hA (r_mv hA rfl) rfl fun a hA => ?_
        obtain ⟨_, hsl2⟩ := Slc.sv ws2
        refine stp hA (r_slen Try.underlying80 hsl2 hA rfl) rfl fun a hA => 
          stp hA (r_gtr hA rfl rfl) rfl fun a hA => ?_
        refine o_nil ?_
        refine hN6 _ _ ?_
        refine w_cond hA rfl (fun hc3 => ?_) (fun hc3 => ?_)
        · have hc30 := hc3; have hc3 := of_decide_eq_true hc3; have H := bT H hc3
          refine w_skip ?_
          refine hN5 _ _ ?_
          refine w_block ?_
          refine w_seq fun _ hN7 => ?_
          refine w_reg ?_
          refine stp hA (r_mv hA rfl) rfl fun a hA => 
            stp hA (r_xor hA rfl rfl) rfl fun a hA => 
            stp hA (r_as hA rfl) rfl fun a hA => ?_
          refine o_nil ?_
          refine hN7 _ _ ?_
          obtain ⟨c5, hz4, Hk4⟩ := bB H
          refine w_cut (fun a w => InR .i64 c5 ∧ Fr a 38 [(0, .int .i64 s1), (1, vvs2), (4, (.slice none 0 0)), (5, .bool false), (6, vvs3), (7, .int .i64 c5), (15, .bool c1), (18, .bool (decide (1 < (s2.length : Int))))] ∧ Iv w0 [] μ μ2 [row 33 32 vvs3 s3.length ccs3] w) ?_ ?_
          · have H := bI hz4
            refine w_seq fun _ hN8 => ?_
            refine w_reg ?_
            refine stp hA (r_mv hA rfl) rfl fun a hA => 
              stp hA (r_mv hA rfl) rfl fun a hA => ?_
            obtain ⟨_, hsl3⟩ := Slc.sv ws2
            refine stp hA (r_slen Try.underlying80 hsl3 hA rfl) rfl fun a hA => 
              stp hA (r_geq hA rfl rfl) rfl fun a hA => ?_
            refine o_nil ?_
            refine hN8 _ _ ?_
            refine w_cond hA rfl (fun hc4 => ?_) (fun hc4 => ?_)
            · have hc40 := hc4; have hc4 := of_decide_eq_true hc4; have H := bT H hc4
              refine w_reg ?_
              refine stp hA (r_mv hA rfl) rfl fun a hA => 
                stp hA (r_as hA rfl) rfl fun a hA => ?_
              refine o_nil ?_
              cases Option.some.inj (bS H)
              exact ⟨ws1, hA.sub ⟨rfl, rfl, rfl, rfl, rfl, rfl, rfl, rfl, trivial⟩, hI⟩
            · have hc40 := hc4; have hc4 := of_decide_eq_false hc4; have H := bF H hc4
              refine w_skip ?_
              cases Option.some.inj (bS H)
              exact ⟨(wrap_in _ _), hA.sub ⟨rfl, rfl, rfl, rfl, rfl, rfl, rfl, rfl, trivial⟩, hI⟩
          · rintro a w ⟨wc5, hA, hI⟩
            have H := Hk4
            refine w_seq fun _ hN9 => ?_
            refine w_reg ?_
            refine stp hA (r_mv hA rfl) rfl fun a hA => 
              stp hA (r_mv hA rfl) rfl fun a hA => 
              stp hA (r_mv hA rfl) rfl fun a hA => ?_
            obtain ⟨hb1, H⟩ := bG H
            obtain ⟨_, he1, _, hat1⟩ := Slc.elem ws2 (getD_some [] hb1.1 hb1.2)
            obtain ⟨rfl, hw1⟩ := he1
            obtain ⟨_, hsl4⟩ := Slc.sv ws2
            refine stp hA (r_six Try.underlying80 sz33 hsl4 hA rfl rfl hb1.1 hb1.2) rfl fun a hA => 
              stp hA (r_ldmA [] [av .u8 32 (s2.getD c5.toNat [])] [] Try.underlying33 rfl sz33 rfl hI.agr hat1 hA rfl rfl) rfl fun a hA => ?_
            have hE1 : Els (RA .u8 32) 32 ([(s2.getD c5.toNat [])] : List (List Int)) ([av .u8 32 (s2.getD c5.toNat [])].flatten ++ ([])) := (Els.cons (c := [av .u8 32 (s2.getD c5.toNat [])].flatten) ⟨rfl, hw1⟩ rfl Els.nil)
            refine o_bsl ([av .u8 32 (s2.getD c5.toNat [])].flatten ++ ([])) te33 zr33 Try.underlying80 hI hA rfl rfl rfl rfl (by kernel_rfl) rfl fun g1 a w hA hI => ?_
            generalize hcs : ([av .u8 32 (s2.getD c5.toNat [])].flatten ++ ([]) : List Value) = cs1 at hE1 hI
            clear hcs
            obtain ⟨hb2, H⟩ := bG H
            have hE3 := ws3.app hE1
            refine o_appL (xs := (s3 : List (List Int))) (ys := (([(s2.getD c5.toNat [])] : List (List Int)) : List (List Int))) (j := 1) te33 Try.underlying80 hI rfl hA rfl rfl (src_row hI (j := 0) rfl) hE1.len (hE1.ones (one_RA _ _)) (by first | decide | (have hq := hb2; (try simp only [List.length_cons, List.length_nil] at hq); (try simp only [List.length_cons, List.length_nil]); (try simp only [maxLen]); omega)) (by first | decide | (have hq := hb2; (try simp only [List.length_cons, List.length_nil] at hq); (try simp only [List.length_cons, List.length_nil]); (try simp only [maxLen]); omega)) rfl fun v1 a w hA hI => 
              stp hA (r_as hA rfl) rfl fun a hA => ?_
            refine o_nil ?_
            refine hN9 _ _ ?_
            refine w_seq fun _ hN10 => ?_
            refine w_reg ?_
            refine stp hA (r_mv hA rfl) rfl fun a hA => ?_
            obtain ⟨r1, hr1, H⟩ := bB H
            refine o_call _ cf104 hA rfl (sargassoref1_row.c μ2 _ hI.agr s2 vvs2 ws2 r1 hr1) rfl fun v2 a w hz5 hA => ?_
            obtain ⟨_, cs4, rfl, hE4, hi1⟩ := hz5
            have hI := hI.call hi1
            refine stp hA (r_as hA rfl) rfl fun a hA => ?_
            refine o_nil ?_
            refine hN10 _ _ ?_
            refine w_reg ?_
            refine stp hA (r_mv hA rfl) rfl fun a hA => 
              stp hA (r_quo hA rfl rfl (by decide)) rfl fun a hA => 
              stp hA (r_as hA rfl) rfl fun a hA => ?_
            refine o_nil ?_
            obtain ⟨μ3, hle3, hsv2, hI⟩ := hI.freezeRow 0 rfl
            have hS1 : Slc (RA .u8 32) 32 μ3 v2 r1 := ⟨_, hE4, hsv2⟩
            exact ⟨m1, Nat.lt_succ_self _, IntKind.i64.wrap (Int.tdiv s1 2), r1, s3 ++ ([(s2.getD c5.toNat [])] : List (List Int)), μ3, v2, v1, ccs3 ++ cs1, H, (hle2.trans hle3), (wrap_in _ _), hS1, hE3, hA.sub ⟨rfl, rfl, rfl, rfl, rfl, rfl, trivial⟩, (hI.sel [1] (by decide) rfl)⟩
        · have hc30 := hc3; have hc3 := of_decide_eq_false hc3; have H := bF H hc3
          refine w_exit rfl ?_
          have H : some (s1, s2, s3) = some z1 := H
          obtain rfl := Option.some.inj H
          have H := Hk3
          cases Option.some.inj (bS H)
          exact ⟨μ2, vvs2, vvs3, ccs3, hle2, ws1, ws2, ws3, hA.sub ⟨rfl, rfl, rfl, rfl, rfl, rfl, trivial⟩, hI⟩
      · rintro a w ⟨μ1, vvc3, vvc4, ccc4, hle1, wc2, wc3, wc4, hA, hI⟩
        have H := Hk2
        refine w_seq fun _ hN11 => ?_
        refine w_reg ?_
        refine stp hA (r_mv hA rfl) rfl fun a hA => 
          stp hA (r_as hA rfl) rfl fun a hA => 
          stp hA (r_as hA rfl) rfl fun a hA => ?_
        refine o_nil ?_
        refine hN11 _ _ ?_
        refine w_ret ?_
        obtain rfl := Option.some.inj (bS H)
        exact ret2 hA Try.results75 rfl rfl ⟨_, rfl, vvc4, ccc4, rfl, wc4, trivial, (hI.less (Store.le.refl _) hI.le)⟩

/-! merkle.Climb: function 76 -/
set_option maxRecDepth 20000 in
theorem merkle_Climb.c (μ : Store) (w0 : World) (hμ : Agr μ w0) (x0 : List Int) (hx0 : Arr .u8 32 x0) (x1 : Int) (hx1 : InR .i64 x1) (x2 : Int) (hx2 : InR .i64 x2) (x3 : List (List Int)) (u3 : Value) (hx3 : Slc (RA .u8 32) 32 μ u3 x3) (r : (List Int) × Bool) (H : merkle_Climb.f x0 x1 x2 x3 = some r) :
    Calls Try.prog 76 [.agg [av .u8 32 x0].flatten.toArray, .int .i64 x1, .int .i64 x2, u3].toArray w0 (fun e w' => ∃ v, e = .returned v ∧ v = .tuple #[.agg [av .u8 32 r.1].flatten.toArray, .bool r.2] ∧ (Arr .u8 32 r.1 ∧ True) ∧ Iv w0 [] μ μ [] w') := by
  refine enter Try.func76 rfl Try.ntmps76 rfl fun a hA => ?_
  have hI := Iv.start hμ
  have H := bI H
  refine w_seq fun _ hN1 => ?_
  refine w_reg ?_
  refine o_box [av .u8 32 x0] hI hA rfl rfl rfl fun g1 a w hA hI hg1 => 
    o_new [av .u8 32 (List.replicate 32 0)] zr33 hI hA rfl fun g2 a w hA hI hg2 => 
    stp hA (r_as hA rfl) rfl fun a hA => ?_
  refine o_nil ?_
  refine hN1 _ _ ?_
  refine w_seq fun _ hN2 => ?_
  obtain ⟨c1, hz1, Hk1⟩ := bB H
  refine w_cut (fun a w => Fr a 62 [(0, .agg [av .u8 32 x0].flatten.toArray), (1, .int .i64 x1), (2, .int .i64 x2), (3, u3), (4, .pointer (some ⟨g1, 0, none⟩)), (8, .pointer (some ⟨g2, 0, none⟩)), (9, .bool false), (28, .bool c1)] ∧ Iv w0 [] μ μ [cel g2 [av .u8 32 (List.replicate 32 0)] 33, cel g1 [av .u8 32 x0] 33] w) ?_ ?_
  · have H := bI hz1
    refine w_reg ?_
    refine stp hA (r_mv hA rfl) rfl fun a hA => 
      stp hA (r_lss hA rfl rfl) rfl fun a hA => 
      stp hA (r_mv hA rfl) rfl fun a hA => ?_
    rcases Bool.eq_false_or_eq_true (decide (x2 < 1)) with hc1 | hc1
    · have hc10 := hc1; have hc1 := of_decide_eq_true hc1; have H := bT H hc1
      refine o_no hA rfl rfl (by rw [hc10]; simp [vb]) rfl fun a hA => 
        o_no hA rfl rfl (by rw [hc10]; simp [vb]) rfl fun a hA => 
        stp hA (r_pick_t hA rfl hc10 rfl) rfl fun a hA => 
        stp hA (r_mv hA rfl) rfl fun a hA => 
        o_no hA rfl rfl (by simp [vb]) rfl fun a hA => 
        o_no hA rfl rfl (by simp [vb]) rfl fun a hA => 
        stp hA (r_pick_t hA rfl rfl rfl) rfl fun a hA => 
        stp hA (r_mv hA rfl) rfl fun a hA => 
        o_no hA rfl rfl (by simp [vb]) rfl fun a hA => 
        o_no hA rfl rfl (by simp [vb]) rfl fun a hA => 
        o_no hA rfl rfl (by simp [vb]) rfl fun a hA => 
        stp hA (r_pick_t hA rfl rfl rfl) rfl fun a hA => ?_
      refine o_nil ?_
      cases Option.some.inj (bS H)
      exact ⟨hA.sub ⟨rfl, rfl, rfl, rfl, rfl, rfl, rfl, rfl, trivial⟩, hI⟩
    · have hc10 := hc1; have hc1 := of_decide_eq_false hc1; have H := bF H hc1
      refine o_yes hA rfl rfl hc10 <| 
        stp hA (r_mv hA rfl) rfl fun a hA => 
        o_yes hA rfl rfl hc10 <| 
        stp hA (r_gtr hA rfl rfl) rfl fun a hA => 
        stp hA (r_pick_f hA rfl hc10 rfl) rfl fun a hA => 
        stp hA (r_mv hA rfl) rfl fun a hA => ?_
      rcases Bool.eq_false_or_eq_true (decide (1048576 < x2)) with hc2 | hc2
      · have hc20 := hc2; have hc2 := of_decide_eq_true hc2; have H := bT H hc2
        refine o_no hA rfl rfl (by rw [hc20]; simp [vb]) rfl fun a hA => 
          o_no hA rfl rfl (by rw [hc20]; simp [vb]) rfl fun a hA => 
          stp hA (r_pick_t hA rfl hc20 rfl) rfl fun a hA => 
          stp hA (r_mv hA rfl) rfl fun a hA => 
          o_no hA rfl rfl (by simp [vb]) rfl fun a hA => 
          o_no hA rfl rfl (by simp [vb]) rfl fun a hA => 
          o_no hA rfl rfl (by simp [vb]) rfl fun a hA => 
          stp hA (r_pick_t hA rfl rfl rfl) rfl fun a hA => ?_
        refine o_nil ?_
        cases Option.some.inj (bS H)
        exact ⟨hA.sub ⟨rfl, rfl, rfl, rfl, rfl, rfl, rfl, rfl, trivial⟩, hI⟩
      · have hc20 := hc2; have hc2 := of_decide_eq_false hc2; have H := bF H hc2
        refine o_yes hA rfl rfl hc20 <| 
          stp hA (r_mv hA rfl) rfl fun a hA => 
          o_yes hA rfl rfl hc20 <| 
          stp hA (r_lss hA rfl rfl) rfl fun a hA => 
          stp hA (r_pick_f hA rfl hc20 rfl) rfl fun a hA => 
          stp hA (r_mv hA rfl) rfl fun a hA => ?_
        rcases Bool.eq_false_or_eq_true (decide (x1 < 0)) with hc3 | hc3
        · have hc30 := hc3; have hc3 := of_decide_eq_true hc3; have H := bT H hc3
          refine o_no hA rfl rfl (by rw [hc30]; simp [vb]) rfl fun a hA => 
            o_no hA rfl rfl (by rw [hc30]; simp [vb]) rfl fun a hA => 
            o_no hA rfl rfl (by rw [hc30]; simp [vb]) rfl fun a hA => 
            stp hA (r_pick_t hA rfl hc30 rfl) rfl fun a hA => ?_
          refine o_nil ?_
          cases Option.some.inj (bS H)
          exact ⟨hA.sub ⟨rfl, rfl, rfl, rfl, rfl, rfl, rfl, rfl, trivial⟩, hI⟩
        · have hc30 := hc3; have hc3 := of_decide_eq_false hc3; have H := bF H hc3
          refine o_yes hA rfl rfl hc30 <| 
            stp hA (r_mv hA rfl) rfl fun a hA => 
            o_yes hA rfl rfl hc30 <| 
            stp hA (r_mv hA rfl) rfl fun a hA => 
            o_yes hA rfl rfl hc30 <| 
            stp hA (r_geq hA rfl rfl) rfl fun a hA => 
            stp hA (r_pick_f hA rfl hc30 rfl) rfl fun a hA => ?_
          refine o_nil ?_
          cases Option.some.inj (bS H)
          exact ⟨hA.sub ⟨rfl, rfl, rfl, rfl, rfl, rfl, rfl, rfl, trivial⟩, hI⟩
  · rintro a w ⟨hA, hI⟩
    have H := Hk1
    refine w_cond hA rfl (fun hc4 => ?_) (fun hc4 => ?_)
    · have hc40 := hc4; have H := bT H hc4
      refine w_seq fun _ hN3 => ?_
      refine w_reg ?_
      refine stp hA (r_bldA (cs := [av .u8 32 ([0, 0, 0, 0, 0, 0, 0, 0, 0, 0, 0, 0, 0, 0, 0, 0, 0, 0, 0, 0, 0, 0, 0, 0, 0, 0, 0, 0, 0, 0, 0, 0])].flatten.toArray) zr33 Try.underlying33 sz5 hA rfl (by kernel_rfl)) rfl fun a hA => 
        o_st (j := 0) [] [av .u8 32 (List.replicate 32 0)] [av .u8 32 ([0, 0, 0, 0, 0, 0, 0, 0, 0, 0, 0, 0, 0, 0, 0, 0, 0, 0, 0, 0, 0, 0, 0, 0, 0, 0, 0, 0, 0, 0, 0, 0])] [] sz33 rfl rfl (fl_cons (one_av _ _ _) fl_nil) hI rfl hA rfl rfl rfl rfl fun w hI => 
        stp hA (r_as hA rfl) rfl fun a hA => ?_
      refine o_nil ?_
      refine hN3 _ _ ?_
      refine w_ret ?_
      obtain rfl := Option.some.inj (bS H)
      exact retN hA Try.results76 (.cell rfl (cell_ld Try.underlying33 rfl sz33 rfl hI (j := 0) rfl) (.tmp rfl .nil)) ⟨_, rfl, rfl, ⟨(arr_lit rfl (by simp only [List.forall_mem_cons]; exact ⟨(in_lit .u8 0 rfl), (in_lit .u8 0 rfl), (in_lit .u8 0 rfl), (in_lit .u8 0 rfl), (in_lit .u8 0 rfl), (in_lit .u8 0 rfl), (in_lit .u8 0 rfl), (in_lit .u8 0 rfl), (in_lit .u8 0 rfl), (in_lit .u8 0 rfl), (in_lit .u8 0 rfl), (in_lit .u8 0 rfl), (in_lit .u8 0 rfl), (in_lit .u8 0 rfl), (in_lit .u8 0 rfl), (in_lit .u8 0 rfl), (in_lit .u8 0 rfl), (in_lit .u8 0 rfl), (in_lit .u8 0 rfl), (in_lit .u8 0 rfl), (in_lit .u8 0 rfl), (in_lit .u8 0 rfl), (in_lit .u8 0 rfl), (in_lit .u8 0 rfl), (in_lit .u8 0 rfl), (in_lit .u8 0 rfl), (in_lit .u8 0 rfl), (in_lit .u8 0 rfl), (in_lit .u8 0 rfl), (in_lit .u8 0 rfl), (in_lit .u8 0 rfl), (in_lit .u8 0 rfl), by simp⟩)), trivial⟩, hI.forget0⟩
    · have hc40 := hc4; have hc4 := ft hc4; have H := bF H hc4
      refine w_skip ?_
      refine hN2 _ _ ?_
      refine w_seq fun _ hN4 => ?_
      refine w_reg ?_
      refine stp hA (r_as hA rfl) rfl fun a hA => ?_
      refine o_nil ?_
      refine hN4 _ _ ?_
      obtain ⟨c2, hz2, Hk2⟩ := bB H
      refine w_cut (fun a w => InR .i64 c2 ∧ Fr a 62 [(0, .agg [av .u8 32 x0].flatten.toArray), (1, .int .i64 x1), (2, .int .i64 x2), (3, u3), (4, .pointer (some ⟨g1, 0, none⟩)), (8, .pointer (some ⟨g2, 0, none⟩)), (9, .bool false), (10, .int .i64 c2), (28, .bool c1)] ∧ Iv w0 [] μ μ [cel g2 [av .u8 32 (List.replicate 32 0)] 33, cel g1 [av .u8 32 x0] 33] w) ?_ ?_
      · have H := bI hz2
        refine w_seq fun _ hN5 => ?_
        refine w_reg ?_
        refine stp hA (r_mv hA rfl) rfl fun a hA => 
          stp hA (r_as hA rfl) rfl fun a hA => ?_
        refine o_nil ?_
        refine hN5 _ _ ?_
        refine w_block ?_
        obtain ⟨z1, hz3, Hk3⟩ := bind_some H
        obtain ⟨n1, hn1⟩ := loopO_some hz3
        refine w_loop (fun n a w => ∃ (s1 : Int) (s2 : Int), loopN (merkle_Climb.s0) n (s1, s2) = some z1 ∧ InR .i64 s1 ∧ InR .i64 s2 ∧ Fr a 62 [(0, .agg [av .u8 32 x0].flatten.toArray), (1, .int .i64 x1), (2, .int .i64 x2), (3, u3), (4, .pointer (some ⟨g1, 0, none⟩)), (8, .pointer (some ⟨g2, 0, none⟩)), (9, .bool false), (10, .int .i64 s1), (11, .int .i64 s2), (28, .bool c1)] ∧ Iv w0 [] μ μ [cel g2 [av .u8 32 (List.replicate 32 0)] 33, cel g1 [av .u8 32 x0] 33] w) n1 ⟨0, x2, hn1, (in_lit .i64 0 rfl), hx2, hA.sub ⟨rfl, rfl, rfl, rfl, rfl, rfl, rfl, rfl, rfl, rfl, trivial⟩, hI⟩ ?_
        clear hA hI
        rintro n a w ⟨s1, s2, hn1, ws1, ws2, hA, hI⟩
        obtain ⟨m1, rfl, H⟩ := loopN_bind hn1
        clear hn1
        refine w_seq fun _ hN6 => ?_
        refine w_seq fun _ hN7 => ?_
        refine w_reg ?_
        refine stp hA (r_mv hA rfl) rfl fun a hA => 
          stp hA (r_gtr hA rfl rfl) rfl fun a hA => ?_
        refine o_nil ?_
        refine hN7 _ _ ?_
        refine w_cond hA rfl (fun hc5 => ?_) (fun hc5 => ?_)
        · have hc50 := hc5; have hc5 := of_decide_eq_true hc5; have H := bT H hc5
          refine w_skip ?_
          refine hN6 _ _ ?_
          refine w_seq fun _ hN8 => ?_
          refine w_block ?_
          refine w_reg ?_
          refine stp hA (r_mv hA rfl) rfl fun a hA => 
            stp hA (r_add hA rfl rfl) rfl fun a hA => 
            stp hA (r_as hA rfl) rfl fun a hA => ?_
          refine o_nil ?_
          refine hN8 _ _ ?_
          refine w_reg ?_
          refine stp hA (r_mv hA rfl) rfl fun a hA => 
            stp hA (r_add hA rfl rfl) rfl fun a hA => 
            stp hA (r_quo hA rfl rfl (by decide)) rfl fun a hA => 
            stp hA (r_as hA rfl) rfl fun a hA => ?_
          refine o_nil ?_
          exact ⟨m1, Nat.lt_succ_self _, IntKind.i64.wrap (s1 + 1), IntKind.i64.wrap (Int.tdiv (IntKind.i64.wrap (s2 + 1)) 2), H, (wrap_in _ _), (wrap_in _ _), hA.sub ⟨rfl, rfl, rfl, rfl, rfl, rfl, rfl, rfl, rfl, rfl, trivial⟩, hI⟩
        · have hc50 := hc5; have hc5 := of_decide_eq_false hc5; have H := bF H hc5
          refine w_exit rfl ?_
          have H : some s1 = some z1 := H
          obtain rfl := Option.some.inj H
          have H := Hk3
          cases Option.some.inj (bS H)
          exact ⟨ws1, hA.sub ⟨rfl, rfl, rfl, rfl, rfl, rfl, rfl, rfl, rfl, trivial⟩, hI⟩
      · rintro a w ⟨wc2, hA, hI⟩
        have H := Hk2
        refine w_seq fun _ hN9 => ?_
        refine w_seq fun _ hN10 => ?_
        refine w_reg ?_
        refine stp hA (r_mv hA rfl) rfl fun a hA => ?_
        obtain ⟨_, hsl1⟩ := Slc.sv hx3
        refine stp hA (r_slen Try.underlying80 hsl1 hA rfl) rfl fun a hA => 
          stp hA (r_mv hA rfl) rfl fun a hA => 
          stp hA (r_neq hA rfl rfl) rfl fun a hA => ?_
        refine o_nil ?_
        refine hN10 _ _ ?_
        refine w_cond hA rfl (fun hc6 => ?_) (fun hc6 => ?_)
        · have hc60 := hc6; have hc6 := of_decide_eq_true hc6; have H := bT H hc6
          refine w_seq fun _ hN11 => ?_
          refine w_reg ?_
          refine stp hA (r_bldA (cs := [av .u8 32 ([0, 0, 0, 0, 0, 0, 0, 0, 0, 0, 0, 0, 0, 0, 0, 0, 0, 0, 0, 0, 0, 0, 0, 0, 0, 0, 0, 0, 0, 0, 0, 0])].flatten.toArray) zr33 Try.underlying33 sz5 hA rfl (by kernel_rfl)) rfl fun a hA => 
            o_st (j := 0) [] [av .u8 32 (List.replicate 32 0)] [av .u8 32 ([0, 0, 0, 0, 0, 0, 0, 0, 0, 0, 0, 0, 0, 0, 0, 0, 0, 0, 0, 0, 0, 0, 0, 0, 0, 0, 0, 0, 0, 0, 0, 0])] [] sz33 rfl rfl (fl_cons (one_av _ _ _) fl_nil) hI rfl hA rfl rfl rfl rfl fun w hI => 
            stp hA (r_as hA rfl) rfl fun a hA => ?_
          refine o_nil ?_
          refine hN11 _ _ ?_
          refine w_ret ?_
          obtain rfl := Option.some.inj (bS H)
          exact retN hA Try.results76 (.cell rfl (cell_ld Try.underlying33 rfl sz33 rfl hI (j := 0) rfl) (.tmp rfl .nil)) ⟨_, rfl, rfl, ⟨(arr_lit rfl (by simp only [List.forall_mem_cons]; exact ⟨(in_lit .u8 0 rfl), (in_lit .u8 0 rfl), (in_lit .u8 0 rfl), (in_lit .u8 0 rfl), (in_lit .u8 0 rfl), (in_lit .u8 0 rfl), (in_lit .u8 0 rfl), (in_lit .u8 0 rfl), (in_lit .u8 0 rfl), (in_lit .u8 0 rfl), (in_lit .u8 0 rfl), (in_lit .u8 0 rfl), (in_lit .u8 0 rfl), (in_lit .u8 0 rfl), (in_lit .u8 0 rfl), (in_lit .u8 0 rfl), (in_lit .u8 0 rfl), (in_lit .u8 0 rfl), (in_lit .u8 0 rfl), (in_lit .u8 0 rfl), (in_lit .u8 0 rfl), (in_lit .u8 0 rfl), (in_lit .u8 0 rfl), (in_lit .u8 0 rfl), (in_lit .u8 0 rfl), (in_lit .u8 0 rfl), (in_lit .u8 0 rfl), (in_lit .u8 0 rfl), (in_lit .u8 0 rfl), (in_lit .u8 0 rfl), (in_lit .u8 0 rfl), (in_lit .u8 0 rfl), by simp⟩)), trivial⟩, hI.forget0⟩
        · have hc60 := hc6; have hc6 := of_decide_eq_false hc6; have H := bF H hc6
          refine w_skip ?_
          refine hN9 _ _ ?_
          obtain ⟨⟨c3, c4⟩, hz4, Hk4⟩ := bB H
          refine w_cut (fun a w => InR .i64 c3 ∧ Arr .u8 32 c4 ∧ Fr a 62 [(0, .agg [av .u8 32 x0].flatten.toArray), (1, .int .i64 c3), (2, .int .i64 x2), (3, u3), (4, .pointer (some ⟨g1, 0, none⟩)), (8, .pointer (some ⟨g2, 0, none⟩)), (9, .bool false), (10, .int .i64 c2), (28, .bool c1), (41, .bool (decide ((x3.length : Int) ≠ c2)))] ∧ Iv w0 [] μ μ [cel g2 [av .u8 32 (List.replicate 32 0)] 33, cel g1 [av .u8 32 c4] 33] w) ?_ ?_
          · have H := bI hz4
            refine w_seq fun _ hN12 => ?_
            refine w_reg ?_
            refine stp hA (r_mv hA rfl) rfl fun a hA => ?_
            obtain ⟨_, hsl2⟩ := Slc.sv hx3
            refine stp hA (r_slen Try.underlying80 hsl2 hA rfl) rfl fun a hA => 
              stp hA (r_mv hA rfl) rfl fun a hA => ?_
            refine o_nil ?_
            refine hN12 _ _ ?_
            refine w_block ?_
            obtain ⟨z2, hz5, Hk5⟩ := bind_some H
            obtain ⟨n2, hn2⟩ := loopO_some hz5
            refine w_loop (fun n a w => ∃ (s3 : Int) (s4 : Int) (s5 : List Int), loopN (merkle_Climb.s1 x3) n (s3, s4, s5) = some z2 ∧ InR .i64 s3 ∧ InR .i64 s4 ∧ Arr .u8 32 s5 ∧ Fr a 62 [(0, .agg [av .u8 32 x0].flatten.toArray), (1, .int .i64 s3), (2, .int .i64 x2), (3, u3), (4, .pointer (some ⟨g1, 0, none⟩)), (8, .pointer (some ⟨g2, 0, none⟩)), (9, .bool false), (10, .int .i64 c2), (28, .bool c1), (41, .bool (decide ((x3.length : Int) ≠ c2))), (43, u3), (44, .int .i64 (x3.length : Int)), (45, .int .i64 s4)] ∧ Iv w0 [] μ μ [cel g2 [av .u8 32 (List.replicate 32 0)] 33, cel g1 [av .u8 32 s5] 33] w) n2 ⟨x1, 0, x0, hn2, hx1, (in_lit .i64 0 rfl), hx0, hA.sub ⟨rfl, rfl, rfl, rfl, rfl, rfl, rfl, rfl, rfl, rfl, rfl, rfl, rfl, trivial⟩, hI⟩ ?_
            clear hA hI
            rintro n a w ⟨s3, s4, s5, hn2, ws3, ws4, ws5, hA, hI⟩
            obtain ⟨m2, rfl, H⟩ := loopN_bind hn2
            clear hn2
            refine w_seq fun _ hN13 => ?_
            refine w_reg ?_
            refine stp hA (r_lss hA rfl rfl) rfl fun a hA => ?_
            refine o_nil ?_
            refine hN13 _ _ ?_
            refine w_seq fun _ hN14 => ?_
            refine w_cond hA rfl (fun hc7 => ?_) (fun hc7 => ?_)
            · have hc70 := hc7; have hc7 := of_decide_eq_true hc7; have H := bT H hc7
              refine w_skip ?_
              refine hN14 _ _ ?_
              obtain ⟨⟨c5, c6⟩, hz6, Hk6⟩ := bB H
              refine w_cut (fun a w => InR .i64 c5 ∧ Arr .u8 32 c6 ∧ Fr a 62 [(0, .agg [av .u8 32 x0].flatten.toArray), (1, .int .i64 c5), (2, .int .i64 x2), (3, u3), (4, .pointer (some ⟨g1, 0, none⟩)), (8, .pointer (some ⟨g2, 0, none⟩)), (9, .bool false), (10, .int .i64 c2), (28, .bool c1), (41, .bool (decide ((x3.length : Int) ≠ c2))), (43, u3), (44, .int .i64 (x3.length : Int)), (45, .int .i64 s4), (46, .bool (decide (s4 < (x3.length : Int))))] ∧ Iv w0 [] μ μ [cel g2 [av .u8 32 (List.replicate 32 0)] 33, cel g1 [av .u8 32 c6] 33] w) ?_ ?_
              · have H := bI hz6
                refine w_block ?_
                refine w_seq fun _ hN15 => ?_
                refine w_reg ?_
                obtain ⟨hb1, H⟩ := bG H
                obtain ⟨_, he1, _, hat1⟩ := Slc.elem hx3 (getD_some [] hb1.1 hb1.2)
                obtain ⟨rfl, hw1⟩ := he1
                obtain ⟨_, hsl3⟩ := Slc.sv hx3
                refine stp hA (r_six Try.underlying80 sz33 hsl3 hA rfl rfl hb1.1 hb1.2) rfl fun a hA => 
                  stp hA (r_ldmA [] [av .u8 32 (x3.getD s4.toNat [])] [] Try.underlying33 rfl sz33 rfl hI.agr hat1 hA rfl rfl) rfl fun a hA => 
                  o_new [av .u8 32 (List.replicate 32 0)] zr33 hI hA rfl fun g3 a w hA hI hg3 => 
                  o_st (j := 0) [] [av .u8 32 (List.replicate 32 0)] [av .u8 32 (x3.getD s4.toNat [])] [] sz33 rfl rfl (fl_cons (one_av _ _ _) fl_nil) hI rfl hA rfl rfl rfl rfl fun w hI => ?_
                refine o_nil ?_
                refine hN15 _ _ ?_
                obtain ⟨c7, hz7, Hk7⟩ := bB H
                refine w_cut (fun a w => Arr .u8 32 c7 ∧ Fr a 62 [(0, .agg [av .u8 32 x0].flatten.toArray), (1, .int .i64 s3), (2, .int .i64 x2), (3, u3), (4, .pointer (some ⟨g1, 0, none⟩)), (8, .pointer (some ⟨g2, 0, none⟩)), (9, .bool false), (10, .int .i64 c2), (13, .pointer (some ⟨g3, 0, none⟩)), (28, .bool c1), (41, .bool (decide ((x3.length : Int) ≠ c2))), (43, u3), (44, .int .i64 (x3.length : Int)), (45, .int .i64 s4), (46, .bool (decide (s4 < (x3.length : Int))))] ∧ Iv w0 [] μ μ [cel g3 [av .u8 32 (x3.getD s4.toNat [])] 33, cel g2 [av .u8 32 (List.replicate 32 0)] 33, cel g1 [av .u8 32 c7] 33] w) ?_ ?_
                · have H := bI hz7
                  refine w_seq fun _ hN16 => ?_
                  refine w_reg ?_
                  refine stp hA (r_mv hA rfl) rfl fun a hA => 
                    stp hA (r_rem hA rfl rfl (by decide)) rfl fun a hA => 
                    stp hA (r_eql hA rfl rfl) rfl fun a hA => ?_
                  refine o_nil ?_
                  refine hN16 _ _ ?_
                  refine w_cond hA rfl (fun hc8 => ?_) (fun hc8 => ?_)
                  · have hc80 := hc8; have hc8 := of_decide_eq_true hc8; have H := bT H hc8
                    refine w_reg ?_
                    refine stp hA (r_ldA (j := 2) [] [av .u8 32 s5] [] Try.underlying33 rfl sz33 rfl hI rfl hA rfl rfl) rfl fun a hA => 
                      stp hA (r_ldA (j := 0) [] [av .u8 32 (x3.getD s4.toNat [])] [] Try.underlying33 rfl sz33 rfl hI rfl hA rfl rfl) rfl fun a hA => ?_
                    obtain ⟨r1, hr1, H⟩ := bB H
                    refine o_callp (u := .agg [av .u8 32 r1].flatten.toArray) cf105 hA rfl hI (merkle_pair.c μ _ hI.agr s5 ws5 (x3.getD s4.toNat []) hw1 r1 hr1) rfl fun a w hz8 hI hA => 
                      o_st (j := 2) [] [av .u8 32 s5] [av .u8 32 r1] [] sz33 rfl rfl (fl_cons (one_av _ _ _) fl_nil) hI rfl hA rfl rfl rfl rfl fun w hI => ?_
                    refine o_nil ?_
                    cases Option.some.inj (bS H)
                    exact ⟨hz8, hA.sub ⟨rfl, rfl, rfl, rfl, rfl, rfl, rfl, rfl, rfl, rfl, rfl, rfl, rfl, rfl, rfl, trivial⟩, hI⟩
                  · have hc80 := hc8; have hc8 := of_decide_eq_false hc8; have H := bF H hc8
                    refine w_reg ?_
                    refine stp hA (r_ldA (j := 0) [] [av .u8 32 (x3.getD s4.toNat [])] [] Try.underlying33 rfl sz33 rfl hI rfl hA rfl rfl) rfl fun a hA => 
                      stp hA (r_ldA (j := 2) [] [av .u8 32 s5] [] Try.underlying33 rfl sz33 rfl hI rfl hA rfl rfl) rfl fun a hA => ?_
                    obtain ⟨r2, hr2, H⟩ := bB H
                    refine o_callp (u := .agg [av .u8 32 r2].flatten.toArray) cf105 hA rfl hI (merkle_pair.c μ _ hI.agr (x3.getD s4.toNat []) hw1 s5 ws5 r2 hr2) rfl fun a w hz9 hI hA => 
                      o_st (j := 2) [] [av .u8 32 s5] [av .u8 32 r2] [] sz33 rfl rfl (fl_cons (one_av _ _ _) fl_nil) hI rfl hA rfl rfl rfl rfl fun w hI => ?_
                    refine o_nil ?_
                    cases Option.some.inj (bS H)
                    exact ⟨hz9, hA.sub ⟨rfl, rfl, rfl, rfl, rfl, rfl, rfl, rfl, rfl, rfl, rfl, rfl, rfl, rfl, rfl, trivial⟩, hI⟩
                · rintro a w ⟨wc7, hA, hI⟩
                  have H := Hk7
                  refine w_reg ?_
                  refine stp hA (r_mv hA rfl) rfl fun a hA => 
                    stp hA (r_quo hA rfl rfl (by decide)) rfl fun a hA => 
                    stp hA (r_as hA rfl) rfl fun a hA => ?_
                  refine o_nil ?_
                  cases Option.some.inj (bS H)
                  exact ⟨(wrap_in _ _), wc7, hA.sub ⟨rfl, rfl, rfl, rfl, rfl, rfl, rfl, rfl, rfl, rfl, rfl, rfl, rfl, rfl, trivial⟩, (hI.sel [1, 2] (by decide) rfl)⟩
              · rintro a w ⟨wc5, wc6, hA, hI⟩
                have H := Hk6
                refine w_reg ?_
                refine stp hA (r_add hA rfl rfl) rfl fun a hA => 
                  stp hA (r_mv hA rfl) rfl fun a hA => ?_
                refine o_nil ?_
                exact ⟨m2, Nat.lt_succ_self _, c5, IntKind.i64.wrap (s4 + 1), c6, H, wc5, (wrap_in _ _), wc6, hA.sub ⟨rfl, rfl, rfl, rfl, rfl, rfl, rfl, rfl, rfl, rfl, rfl, rfl, rfl, trivial⟩, hI⟩
            · have hc70 := hc7; have hc7 := of_decide_eq_false hc7; have H := bF H hc7
              refine w_exit rfl ?_
              have H : some (s3, s5) = some z2 := H
              obtain rfl := Option.some.inj H
              have H := Hk5
              cases Option.some.inj (bS H)
              exact ⟨ws3, ws5, hA.sub ⟨rfl, rfl, rfl, rfl, rfl, rfl, rfl, rfl, rfl, rfl, trivial⟩, hI⟩
          · rintro a w ⟨wc3, wc4, hA, hI⟩
            have H := Hk4
            refine w_seq fun _ hN17 => ?_
            refine w_reg ?_
            refine stp hA (r_ldA (j := 1) [] [av .u8 32 c4] [] Try.underlying33 rfl sz33 rfl hI rfl hA rfl rfl) rfl fun a hA => 
              o_st (j := 0) [] [av .u8 32 (List.replicate 32 0)] [av .u8 32 c4] [] sz33 rfl rfl (fl_cons (one_av _ _ _) fl_nil) hI rfl hA rfl rfl rfl rfl fun w hI => 
              stp hA (r_as hA rfl) rfl fun a hA => ?_
            refine o_nil ?_
            refine hN17 _ _ ?_
            refine w_ret ?_
            obtain rfl := Option.some.inj (bS H)
            exact retN hA Try.results76 (.cell rfl (cell_ld Try.underlying33 rfl sz33 rfl hI (j := 0) rfl) (.tmp rfl .nil)) ⟨_, rfl, rfl, ⟨wc4, trivial⟩, hI.forget0⟩

/-! sargassoref1.Climb: function 77 -/
set_option maxRecDepth 20000 in
theorem sargassoref1_Climb.c (μ : Store) (w0 : World) (hμ : Agr μ w0) (x0 : List Int) (hx0 : Arr .u8 32 x0) (x1 : Int) (hx1 : InR .i64 x1) (x2 : Int) (hx2 : InR .i64 x2) (x3 : List (List Int)) (u3 : Value) (hx3 : Slc (RA .u8 32) 32 μ u3 x3) (r : (List Int) × Bool) (H : sargassoref1_Climb.f x0 x1 x2 x3 = some r) :
    Calls Try.prog 77 [.agg [av .u8 32 x0].flatten.toArray, .int .i64 x1, .int .i64 x2, u3].toArray w0 (fun e w' => ∃ v, e = .returned v ∧ v = .tuple #[.agg [av .u8 32 r.1].flatten.toArray, .bool r.2] ∧ (Arr .u8 32 r.1 ∧ True) ∧ Iv w0 [] μ μ [] w') := by
  refine enter Try.func77 rfl Try.ntmps77 rfl fun a hA => ?_
  have hI := Iv.start hμ
  have H := bI H
  refine w_seq fun _ hN1 => ?_
  refine w_reg ?_
  refine o_box [av .u8 32 x0] hI hA rfl rfl rfl fun g1 a w hA hI hg1 => 
    o_new [av .u8 32 (List.replicate 32 0)] zr33 hI hA rfl fun g2 a w hA hI hg2 => 
    stp hA (r_as hA rfl) rfl fun a hA => ?_
  refine o_nil ?_
  refine hN1 _ _ ?_
  refine w_seq fun _ hN2 => ?_
  obtain ⟨c1, hz1, Hk1⟩ := bB H
  refine w_cut (fun a w => Fr a 65 [(0, .agg [av .u8 32 x0].flatten.toArray), (1, .int .i64 x1), (2, .int .i64 x2), (3, u3), (4, .pointer (some ⟨g1, 0, none⟩)), (8, .pointer (some ⟨g2, 0, none⟩)), (9, .bool false), (27, .bool c1)] ∧ Iv w0 [] μ μ [cel g2 [av .u8 32 (List.replicate 32 0)] 33, cel g1 [av .u8 32 x0] 33] w) ?_ ?_
  · have H := bI hz1
    refine w_reg ?_
    refine stp hA (r_mv hA rfl) rfl fun a hA => 
      stp hA (r_lss hA rfl rfl) rfl fun a hA => 
      stp hA (r_mv hA rfl) rfl fun a hA => ?_
    rcases Bool.eq_false_or_eq_true (decide (x2 < 1)) with hc1 | hc1
    · have hc10 := hc1; have hc1 := of_decide_eq_true hc1; have H := bT H hc1
      refine o_no hA rfl rfl (by rw [hc10]; simp [vb]) rfl fun a hA => 
        o_no hA rfl rfl (by rw [hc10]; simp [vb]) rfl fun a hA => 
        stp hA (r_pick_t hA rfl hc10 rfl) rfl fun a hA => 
        stp hA (r_mv hA rfl) rfl fun a hA => 
        o_no hA rfl rfl (by simp [vb]) rfl fun a hA => 
        o_no hA rfl rfl (by simp [vb]) rfl fun a hA => 
        stp hA (r_pick_t hA rfl rfl rfl) rfl fun a hA => 
        stp hA (r_mv hA rfl) rfl fun a hA => 
        o_no hA rfl rfl (by simp [vb]) rfl fun a hA => 
        o_no hA rfl rfl (by simp [vb]) rfl fun a hA => 
        o_no hA rfl rfl (by simp [vb]) rfl fun a hA => 
        stp hA (r_pick_t hA rfl rfl rfl) rfl fun a hA => ?_
      refine o_nil ?_
      cases Option.some.inj (bS H)
      exact ⟨hA.sub ⟨rfl, rfl, rfl, rfl, rfl, rfl, rfl, rfl, trivial⟩, hI⟩
    · have hc10 := hc1; have hc1 := of_decide_eq_false hc1; have H := bF H hc1
      refine o_yes hA rfl rfl hc10 <| 
        stp hA (r_mv hA rfl) rfl fun a hA => 
        o_yes hA rfl rfl hc10 <| 
        stp hA (r_gtr hA rfl rfl) rfl fun a hA => 
        stp hA (r_pick_f hA rfl hc10 rfl) rfl fun a hA => 
        stp hA (r_mv hA rfl) rfl fun a hA => ?_
      rcases Bool.eq_false_or_eq_true (decide (1048576 < x2)) with hc2 | hc2
      · have hc20 := hc2; have hc2 := of_decide_eq_true hc2; have H := bT H hc2
        refine o_no hA rfl rfl (by rw [hc20]; simp [vb]) rfl fun a hA => 
          o_no hA rfl rfl (by rw [hc20]; simp [vb]) rfl fun a hA => 
          stp hA (r_pick_t hA rfl hc20 rfl) rfl fun a hA => 
          stp hA (r_mv hA rfl) rfl fun a hA => 
          o_no hA rfl rfl (by simp [vb]) rfl fun a hA => 
          o_no hA rfl rfl (by simp [vb]) rfl fun a hA => 
          o_no hA rfl rfl (by simp [vb]) rfl fun a hA => 
          stp hA (r_pick_t hA rfl rfl rfl) rfl fun a hA => ?_
        refine o_nil ?_
        cases Option.some.inj (bS H)
        exact ⟨hA.sub ⟨rfl, rfl, rfl, rfl, rfl, rfl, rfl, rfl, trivial⟩, hI⟩
      · have hc20 := hc2; have hc2 := of_decide_eq_false hc2; have H := bF H hc2
        refine o_yes hA rfl rfl hc20 <| 
          stp hA (r_mv hA rfl) rfl fun a hA => 
          o_yes hA rfl rfl hc20 <| 
          stp hA (r_lss hA rfl rfl) rfl fun a hA => 
          stp hA (r_pick_f hA rfl hc20 rfl) rfl fun a hA => 
          stp hA (r_mv hA rfl) rfl fun a hA => ?_
        rcases Bool.eq_false_or_eq_true (decide (x1 < 0)) with hc3 | hc3
        · have hc30 := hc3; have hc3 := of_decide_eq_true hc3; have H := bT H hc3
          refine o_no hA rfl rfl (by rw [hc30]; simp [vb]) rfl fun a hA => 
            o_no hA rfl rfl (by rw [hc30]; simp [vb]) rfl fun a hA => 
            o_no hA rfl rfl (by rw [hc30]; simp [vb]) rfl fun a hA => 
            stp hA (r_pick_t hA rfl hc30 rfl) rfl fun a hA => ?_
          refine o_nil ?_
          cases Option.some.inj (bS H)
          exact ⟨hA.sub ⟨rfl, rfl, rfl, rfl, rfl, rfl, rfl, rfl, trivial⟩, hI⟩
        · have hc30 := hc3; have hc3 := of_decide_eq_false hc3; have H := bF H hc3
          refine o_yes hA rfl rfl hc30 <| 
            stp hA (r_mv hA rfl) rfl fun a hA => 
            o_yes hA rfl rfl hc30 <| 
            stp hA (r_mv hA rfl) rfl fun a hA => 
            o_yes hA rfl rfl hc30 <| 
            stp hA (r_geq hA rfl rfl) rfl fun a hA => 
            stp hA (r_pick_f hA rfl hc30 rfl) rfl fun a hA => ?_
          refine o_nil ?_
          cases Option.some.inj (bS H)
          exact ⟨hA.sub ⟨rfl, rfl, rfl, rfl, rfl, rfl, rfl, rfl, trivial⟩, hI⟩
  · rintro a w ⟨hA, hI⟩
    have H := Hk1
    refine w_cond hA rfl (fun hc4 => ?_) (fun hc4 => ?_)
    · have hc40 := hc4; have H := bT H hc4
      refine w_seq fun _ hN3 => ?_
      refine w_reg ?_
      refine stp hA (r_bldA (cs := [av .u8 32 ([0, 0, 0, 0, 0, 0, 0, 0, 0, 0, 0, 0, 0, 0, 0, 0, 0, 0, 0, 0, 0, 0, 0, 0, 0, 0, 0, 0, 0, 0, 0, 0])].flatten.toArray) zr33 Try.underlying33 sz5 hA rfl (by kernel_rfl)) rfl fun a hA => 
        o_st (j := 0) [] [av .u8 32 (List.replicate 32 0)] [av .u8 32 ([0, 0, 0, 0, 0, 0, 0, 0, 0, 0, 0, 0, 0, 0, 0, 0, 0, 0, 0, 0, 0, 0, 0, 0, 0, 0, 0, 0, 0, 0, 0, 0])] [] sz33 rfl rfl (fl_cons (one_av _ _ _) fl_nil) hI rfl hA rfl rfl rfl rfl fun w hI => 
        stp hA (r_as hA rfl) rfl fun a hA => ?_
      refine o_nil ?_
      refine hN3 _ _ ?_
      refine w_ret ?_
      obtain rfl := Option.some.inj (bS H)
      exact retN hA Try.results77 (.cell rfl (cell_ld Try.underlying33 rfl sz33 rfl hI (j := 0) rfl) (.tmp rfl .nil)) ⟨_, rfl, rfl, ⟨(arr_lit rfl (by simp only [List.forall_mem_cons]; exact ⟨(in_lit .u8 0 rfl), (in_lit .u8 0 rfl), (in_lit .u8 0 rfl), (in_lit .u8 0 rfl), (in_lit .u8 0 rfl), (in_lit .u8 0 rfl), (in_lit .u8 0 rfl), (in_lit .u8 0 rfl), (in_lit .u8 0 rfl), (in_lit .u8 0 rfl), (in_lit .u8 0 rfl), (in_lit .u8 0 rfl), (in_lit .u8 0 rfl), (in_lit .u8 0 rfl), (in_lit .u8 0 rfl), (in_lit .u8 0 rfl), (in_lit .u8 0 rfl), (in_lit .u8 0 rfl), (in_lit .u8 0 rfl), (in_lit .u8 0 rfl), (in_lit .u8 0 rfl), (in_lit .u8 0 rfl), (in_lit .u8 0 rfl), (in_lit .u8 0 rfl), (in_lit .u8 0 rfl), (in_lit .u8 0 rfl), (in_lit .u8 0 rfl), (in_lit .u8 0 rfl), (in_lit .u8 0 rfl), (in_lit .u8 0 rfl), (in_lit .u8 0 rfl), (in_lit .u8 0 rfl), by simp⟩)), trivial⟩, hI.forget0⟩
    · have hc40 := hc4; have hc4 := ft hc4; have H := bF H hc4
      refine w_skip ?_
      refine hN2 _ _ ?_
      refine w_seq fun _ hN4 => ?_
      refine w_reg ?_
      refine stp hA (r_as hA rfl) rfl fun a hA => ?_
      refine o_nil ?_
      refine hN4 _ _ ?_
      obtain ⟨c2, hz2, Hk2⟩ := bB H
      refine w_cut (fun a w => InR .i64 c2 ∧ Fr a 65 [(0, .agg [av .u8 32 x0].flatten.toArray), (1, .int .i64 x1), (2, .int .i64 x2), (3, u3), (4, .pointer (some ⟨g1, 0, none⟩)), (8, .pointer (some ⟨g2, 0, none⟩)), (9, .bool false), (10, .int .i64 c2), (27, .bool c1)] ∧ Iv w0 [] μ μ [cel g2 [av .u8 32 (List.replicate 32 0)] 33, cel g1 [av .u8 32 x0] 33] w) ?_ ?_
      · have H := bI hz2
        refine w_seq fun _ hN5 => ?_
        refine w_reg ?_
        refine stp hA (r_mv hA rfl) rfl fun a hA => 
          stp hA (r_as hA rfl) rfl fun a hA => ?_
        refine o_nil ?_
        refine hN5 _ _ ?_
        refine w_block ?_
        obtain ⟨z1, hz3, Hk3⟩ := bind_some H
        obtain ⟨n1, hn1⟩ := loopO_some hz3
        refine w_loop (fun n a w => ∃ (s1 : Int) (s2 : Int), loopN (sargassoref1_Climb.s0) n (s1, s2) = some z1 ∧ InR .i64 s1 ∧ InR .i64 s2 ∧ Fr a 65 [(0, .agg [av .u8 32 x0].flatten.toArray), (1, .int .i64 x1), (2, .int .i64 x2), (3, u3), (4, .pointer (some ⟨g1, 0, none⟩)), (8, .pointer (some ⟨g2, 0, none⟩)), (9, .bool false), (10, .int .i64 s1), (11, .int .i64 s2), (27, .bool c1)] ∧ Iv w0 [] μ μ [cel g2 [av .u8 32 (List.replicate 32 0)] 33, cel g1 [av .u8 32 x0] 33] w) n1 ⟨0, x2, hn1, (in_lit .i64 0 rfl), hx2, hA.sub ⟨rfl, rfl, rfl, rfl, rfl, rfl, rfl, rfl, rfl, rfl, trivial⟩, hI⟩ ?_
        clear hA hI
        rintro n a w ⟨s1, s2, hn1, ws1, ws2, hA, hI⟩
        obtain ⟨m1, rfl, H⟩ := loopN_bind hn1
        clear hn1
        refine w_seq fun _ hN6 => ?_
        refine w_seq fun _ hN7 => ?_
        refine w_reg ?_
        refine stp hA (r_mv hA rfl) rfl fun a hA => 
          stp hA (r_gtr hA rfl rfl) rfl fun a hA => ?_
        refine o_nil ?_
        refine hN7 _ _ ?_
        refine w_cond hA rfl (fun hc5 => ?_) (fun hc5 => ?_)
        · have hc50 := hc5; have hc5 := of_decide_eq_true hc5; have H := bT H hc5
          refine w_skip ?_
          refine hN6 _ _ ?_
          refine w_seq fun _ hN8 => ?_
          refine w_block ?_
          refine w_reg ?_
          refine stp hA (r_mv hA rfl) rfl fun a hA => 
            stp hA (r_add hA rfl rfl) rfl fun a hA => 
            stp hA (r_as hA rfl) rfl fun a hA => ?_
          refine o_nil ?_
          refine hN8 _ _ ?_
          refine w_reg ?_
          refine stp hA (r_mv hA rfl) rfl fun a hA => 
            stp hA (r_add hA rfl rfl) rfl fun a hA => 
            stp hA (r_quo hA rfl rfl (by decide)) rfl fun a hA => 
            stp hA (r_as hA rfl) rfl fun a hA => ?_
          refine o_nil ?_
          exact ⟨m1, Nat.lt_succ_self _, IntKind.i64.wrap (s1 + 1), IntKind.i64.wrap (Int.tdiv (IntKind.i64.wrap (s2 + 1)) 2), H, (wrap_in _ _), (wrap_in _ _), hA.sub ⟨rfl, rfl, rfl, rfl, rfl, rfl, rfl, rfl, rfl, rfl, trivial⟩, hI⟩
        · have hc50 := hc5; have hc5 := of_decide_eq_false hc5; have H := bF H hc5
          refine w_exit rfl ?_
          have H : some s1 = some z1 := H
          obtain rfl := Option.some.inj H
          have H := Hk3
          cases Option.some.inj (bS H)
          exact ⟨ws1, hA.sub ⟨rfl, rfl, rfl, rfl, rfl, rfl, rfl, rfl, rfl, trivial⟩, hI⟩
      · rintro a w ⟨wc2, hA, hI⟩
        have H := Hk2
        refine w_seq fun _ hN9 => ?_
        refine w_seq fun _ hN10 => ?_
        refine w_reg ?_
        refine stp hA (r_mv hA rfl) rfl fun a hA => ?_
        obtain ⟨_, hsl1⟩ := Slc.sv hx3
        refine stp hA (r_slen Try.underlying80 hsl1 hA rfl) rfl fun a hA => 
          stp hA (r_mv hA rfl) rfl fun a hA => 
          stp hA (r_neq hA rfl rfl) rfl fun a hA => ?_
        refine o_nil ?_
        refine hN10 _ _ ?_
        refine w_cond hA rfl (fun hc6 => ?_) (fun hc6 => ?_)
        · have hc60 := hc6; have hc6 := of_decide_eq_true hc6; have H := bT H hc6
          refine w_seq fun _ hN11 => ?_
          refine w_reg ?_
          refine stp hA (r_bldA (cs := [av .u8 32 ([0, 0, 0, 0, 0, 0, 0, 0, 0, 0, 0, 0, 0, 0, 0, 0, 0, 0, 0, 0, 0, 0, 0, 0, 0, 0, 0, 0, 0, 0, 0, 0])].flatten.toArray) zr33 Try.underlying33 sz5 hA rfl (by kernel_rfl)) rfl fun a hA => 
            o_st (j := 0) [] [av .u8 32 (List.replicate 32 0)] [av .u8 32 ([0, 0, 0, 0, 0, 0, 0, 0, 0, 0, 0, 0, 0, 0, 0, 0, 0, 0, 0, 0, 0, 0, 0, 0, 0, 0, 0, 0, 0, 0, 0, 0])] [] sz33 rfl rfl (fl_cons (one_av _ _ _) fl_nil) hI rfl hA rfl rfl rfl rfl fun w hI => 
            stp hA (r_as hA rfl) rfl fun a hA => ?_
          refine o_nil ?_
          refine hN11 _ _ ?_
          refine w_ret ?_
          obtain rfl := Option.some.inj (bS H)
          exact retN hA Try.results77 (.cell rfl (cell_ld Try.underlying33 rfl sz33 rfl hI (j := 0) rfl) (.tmp rfl .nil)) ⟨_, rfl, rfl, ⟨(arr_lit rfl (by simp only [List.forall_mem_cons]; exact ⟨(in_lit .u8 0 rfl), (in_lit .u8 0 rfl), (in_lit .u8 0 rfl), (in_lit .u8 0 rfl), (in_lit .u8 0 rfl), (in_lit .u8 0 rfl), (in_lit .u8 0 rfl), (in_lit .u8 0 rfl), (in_lit .u8 0 rfl), (in_lit .u8 0 rfl), (in_lit .u8 0 rfl), (in_lit .u8 0 rfl), (in_lit .u8 0 rfl), (in_lit .u8 0 rfl), (in_lit .u8 0 rfl), (in_lit .u8 0 rfl), (in_lit .u8 0 rfl), (in_lit .u8 0 rfl), (in_lit .u8 0 rfl), (in_lit .u8 0 rfl), (in_lit .u8 0 rfl), (in_lit .u8 0 rfl), (in_lit .u8 0 rfl), (in_lit .u8 0 rfl), (in_lit .u8 0 rfl), (in_lit .u8 0 rfl), (in_lit .u8 0 rfl), (in_lit .u8 0 rfl), (in_lit .u8 0 rfl), (in_lit .u8 0 rfl), (in_lit .u8 0 rfl), (in_lit .u8 0 rfl), by simp⟩)), trivial⟩, hI.forget0⟩
        · have hc60 := hc6; have hc6 := of_decide_eq_false hc6; have H := bF H hc6
          refine w_skip ?_
          refine hN9 _ _ ?_
          obtain ⟨⟨c3, c4⟩, hz4, Hk4⟩ := bB H
          refine w_cut (fun a w => InR .i64 c3 ∧ Arr .u8 32 c4 ∧ Fr a 65 [(0, .agg [av .u8 32 x0].flatten.toArray), (1, .int .i64 c3), (2, .int .i64 x2), (3, u3), (4, .pointer (some ⟨g1, 0, none⟩)), (8, .pointer (some ⟨g2, 0, none⟩)), (9, .bool false), (10, .int .i64 c2), (27, .bool c1), (40, .bool (decide ((x3.length : Int) ≠ c2)))] ∧ Iv w0 [] μ μ [cel g2 [av .u8 32 (List.replicate 32 0)] 33, cel g1 [av .u8 32 c4] 33] w) ?_ ?_
          · have H := bI hz4
            refine w_seq fun _ hN12 => ?_
            refine w_reg ?_
            refine stp hA (r_as hA rfl) rfl fun a hA => ?_
            refine o_nil ?_
            refine hN12 _ _ ?_
            refine w_block ?_
            obtain ⟨z2, hz5, Hk5⟩ := bind_some H
            obtain ⟨n2, hn2⟩ := loopO_some hz5
            refine w_loop (fun n a w => ∃ (s3 : Int) (s4 : Int) (s5 : List Int), loopN (sargassoref1_Climb.s1 x3 c2) n (s3, s4, s5) = some z2 ∧ InR .i64 s3 ∧ InR .i64 s4 ∧ Arr .u8 32 s5 ∧ Fr a 65 [(0, .agg [av .u8 32 x0].flatten.toArray), (1, .int .i64 s3), (2, .int .i64 x2), (3, u3), (4, .pointer (some ⟨g1, 0, none⟩)), (8, .pointer (some ⟨g2, 0, none⟩)), (9, .bool false), (10, .int .i64 c2), (12, .int .i64 s4), (27, .bool c1), (40, .bool (decide ((x3.length : Int) ≠ c2)))] ∧ Iv w0 [] μ μ [cel g2 [av .u8 32 (List.replicate 32 0)] 33, cel g1 [av .u8 32 s5] 33] w) n2 ⟨x1, 0, x0, hn2, hx1, (in_lit .i64 0 rfl), hx0, hA.sub ⟨rfl, rfl, rfl, rfl, rfl, rfl, rfl, rfl, rfl, rfl, rfl, trivial⟩, hI⟩ ?_
            clear hA hI
            rintro n a w ⟨s3, s4, s5, hn2, ws3, ws4, ws5, hA, hI⟩
            obtain ⟨m2, rfl, H⟩ := loopN_bind hn2
            clear hn2
            refine w_seq fun _ hN13 => ?_
            refine w_seq fun _ hN14 => ?_
            refine w_reg ?_
            refine stp hA (r_mv hA rfl) rfl fun a hA => 
              stp hA (r_mv hA rfl) rfl fun a hA => 
              stp hA (r_lss hA rfl rfl) rfl fun a hA => ?_
            refine o_nil ?_
            refine hN14 _ _ ?_
            refine w_cond hA rfl (fun hc7 => ?_) (fun hc7 => ?_)
            · have hc70 := hc7; have hc7 := of_decide_eq_true hc7; have H := bT H hc7
              refine w_skip ?_
              refine hN13 _ _ ?_
              obtain ⟨⟨c5, c6⟩, hz6, Hk6⟩ := bB H
              refine w_cut (fun a w => InR .i64 c5 ∧ Arr .u8 32 c6 ∧ Fr a 65 [(0, .agg [av .u8 32 x0].flatten.toArray), (1, .int .i64 c5), (2, .int .i64 x2), (3, u3), (4, .pointer (some ⟨g1, 0, none⟩)), (8, .pointer (some ⟨g2, 0, none⟩)), (9, .bool false), (10, .int .i64 c2), (12, .int .i64 s4), (27, .bool c1), (40, .bool (decide ((x3.length : Int) ≠ c2))), (44, .bool (decide (s4 < c2)))] ∧ Iv w0 [] μ μ [cel g2 [av .u8 32 (List.replicate 32 0)] 33, cel g1 [av .u8 32 c6] 33] w) ?_ ?_
              · have H := bI hz6
                refine w_block ?_
                obtain ⟨c7, hz7, Hk7⟩ := bB H
                refine w_cut (fun a w => Arr .u8 32 c7 ∧ Fr a 65 [(0, .agg [av .u8 32 x0].flatten.toArray), (1, .int .i64 s3), (2, .int .i64 x2), (3, u3), (4, .pointer (some ⟨g1, 0, none⟩)), (8, .pointer (some ⟨g2, 0, none⟩)), (9, .bool false), (10, .int .i64 c2), (12, .int .i64 s4), (27, .bool c1), (40, .bool (decide ((x3.length : Int) ≠ c2))), (44, .bool (decide (s4 < c2)))] ∧ Iv w0 [] μ μ [cel g2 [av .u8 32 (List.replicate 32 0)] 33, cel g1 [av .u8 32 c7] 33] w) ?_ ?_
                · have H := bI hz7
                  refine w_seq fun _ hN15 => ?_
                  refine w_reg ?_
                  refine stp hA (r_mv hA rfl) rfl fun a hA => 
                    stp hA (r_rem hA rfl rfl (by decide)) rfl fun a hA => 
                    stp hA (r_eql hA rfl rfl) rfl fun a hA => ?_
                  refine o_nil ?_
                  refine hN15 _ _ ?_
                  refine w_cond hA rfl (fun hc8 => ?_) (fun hc8 => ?_)
                  · have hc80 := hc8; have hc8 := of_decide_eq_true hc8; have H := bT H hc8
                    refine w_any [6] mo hI fun w hI => ?_
                    refine g_take (i := 0) hA rfl rfl (by kernel_rfl) hI (fun w hI => r_ldA (j := 1) [] [av .u8 32 s5] [] Try.underlying33 rfl sz33 rfl hI rfl hA rfl rfl) rfl fun a hA => ?_
                    refine g_easy (i := 1) hA rfl rfl (by kernel_rfl) (.inr hI) (fun _ => r_mv hA rfl) rfl fun a hA => ?_
                    refine g_easy (i := 2) hA rfl rfl (by kernel_rfl) (.inr hI) (fun _ => r_mv hA rfl) rfl fun a hA => ?_
                    obtain ⟨hb1, H⟩ := bG H
                    obtain ⟨_, he1, _, hat1⟩ := Slc.elem hx3 (getD_some [] hb1.1 hb1.2)
                    obtain ⟨rfl, hw1⟩ := he1
                    obtain ⟨_, hsl2⟩ := Slc.sv hx3
                    refine g_easy (i := 3) hA rfl rfl (by kernel_rfl) (.inr hI) (fun _ => r_six Try.underlying80 sz33 hsl2 hA rfl rfl hb1.1 hb1.2) rfl fun a hA => ?_
                    refine g_take (i := 4) hA rfl rfl (by kernel_rfl) hI (fun w hI => r_ldmA [] [av .u8 32 (x3.getD s4.toNat [])] [] Try.underlying33 rfl sz33 rfl hI.agr hat1 hA rfl rfl) rfl fun a hA => ?_
                    refine g_forced (i := 5) rfl (by kernel_rfl) ?_
                    obtain ⟨r1, hr1, H⟩ := bB H
                    refine o_callp (u := .agg [av .u8 32 r1].flatten.toArray) cf106 hA rfl hI (sargassoref1_pair.c μ _ hI.agr s5 ws5 (x3.getD s4.toNat []) hw1 r1 hr1) rfl fun a w hz8 hI hA => ?_
                    refine o_nil ?_
                    refine ⟨(.inr hI), ?_⟩
                    refine g_forced (i := 6) rfl (by kernel_rfl) ?_
                    refine o_st (j := 1) [] [av .u8 32 s5] [av .u8 32 r1] [] sz33 rfl rfl (fl_cons (one_av _ _ _) fl_nil) hI rfl hA rfl rfl rfl rfl fun w hI => ?_
                    refine o_nil ?_
                    refine ⟨(.inl (by kernel_rfl)), ?_⟩
                    refine g_nil (by kernel_rfl) ?_
                    cases Option.some.inj (bS H)
                    exact ⟨hz8, hA.sub ⟨rfl, rfl, rfl, rfl, rfl, rfl, rfl, rfl, rfl, rfl, rfl, rfl, trivial⟩, hI⟩
                  · have hc80 := hc8; have hc8 := of_decide_eq_false hc8; have H := bF H hc8
                    refine w_any [6] mo hI fun w hI => ?_
                    refine g_easy (i := 0) hA rfl rfl (by kernel_rfl) (.inr hI) (fun _ => r_mv hA rfl) rfl fun a hA => ?_
                    refine g_easy (i := 1) hA rfl rfl (by kernel_rfl) (.inr hI) (fun _ => r_mv hA rfl) rfl fun a hA => ?_
                    obtain ⟨hb2, H⟩ := bG H
                    obtain ⟨_, he2, _, hat2⟩ := Slc.elem hx3 (getD_some [] hb2.1 hb2.2)
                    obtain ⟨rfl, hw2⟩ := he2
                    obtain ⟨_, hsl3⟩ := Slc.sv hx3
                    refine g_easy (i := 2) hA rfl rfl (by kernel_rfl) (.inr hI) (fun _ => r_six Try.underlying80 sz33 hsl3 hA rfl rfl hb2.1 hb2.2) rfl fun a hA => ?_
                    refine g_take (i := 3) hA rfl rfl (by kernel_rfl) hI (fun w hI => r_ldmA [] [av .u8 32 (x3.getD s4.toNat [])] [] Try.underlying33 rfl sz33 rfl hI.agr hat2 hA rfl rfl) rfl fun a hA => ?_
                    refine g_take (i := 4) hA rfl rfl (by kernel_rfl) hI (fun w hI => r_ldA (j := 1) [] [av .u8 32 s5] [] Try.underlying33 rfl sz33 rfl hI rfl hA rfl rfl) rfl fun a hA => ?_
                    refine g_forced (i := 5) rfl (by kernel_rfl) ?_
                    obtain ⟨r2, hr2, H⟩ := bB H
                    refine o_callp (u := .agg [av .u8 32 r2].flatten.toArray) cf106 hA rfl hI (sargassoref1_pair.c μ _ hI.agr (x3.getD s4.toNat []) hw2 s5 ws5 r2 hr2) rfl fun a w hz9 hI hA => ?_
                    refine o_nil ?_
                    refine ⟨(.inr hI), ?_⟩
                    refine g_forced (i := 6) rfl (by kernel_rfl) ?_
                    refine o_st (j := 1) [] [av .u8 32 s5] [av .u8 32 r2] [] sz33 rfl rfl (fl_cons (one_av _ _ _) fl_nil) hI rfl hA rfl rfl rfl rfl fun w hI => ?_
                    refine o_nil ?_
                    refine ⟨(.inl (by kernel_rfl)), ?_⟩
                    refine g_nil (by kernel_rfl) ?_
                    cases Option.some.inj (bS H)
                    exact ⟨hz9, hA.sub ⟨rfl, rfl, rfl, rfl, rfl, rfl, rfl, rfl, rfl, rfl, rfl, rfl, trivial⟩, hI⟩
                · rintro a w ⟨wc7, hA, hI⟩
                  have H := Hk7
                  refine w_reg ?_
                  refine stp hA (r_mv hA rfl) rfl fun a hA => 
                    stp hA (r_quo hA rfl rfl (by decide)) rfl fun a hA => 
                    stp hA (r_as hA rfl) rfl fun a hA => ?_
                  refine o_nil ?_
                  cases Option.some.inj (bS H)
                  exact ⟨(wrap_in _ _), wc7, hA.sub ⟨rfl, rfl, rfl, rfl, rfl, rfl, rfl, rfl, rfl, rfl, rfl, rfl, trivial⟩, hI⟩
              · rintro a w ⟨wc5, wc6, hA, hI⟩
                have H := Hk6
                refine w_reg ?_
                refine stp hA (r_mv hA rfl) rfl fun a hA => 
                  stp hA (r_add hA rfl rfl) rfl fun a hA => 
                  stp hA (r_as hA rfl) rfl fun a hA => ?_
                refine o_nil ?_
                exact ⟨m2, Nat.lt_succ_self _, c5, IntKind.i64.wrap (s4 + 1), c6, H, wc5, (wrap_in _ _), wc6, hA.sub ⟨rfl, rfl, rfl, rfl, rfl, rfl, rfl, rfl, rfl, rfl, rfl, trivial⟩, hI⟩
            · have hc70 := hc7; have hc7 := of_decide_eq_false hc7; have H := bF H hc7
              refine w_exit rfl ?_
              have H : some (s3, s5) = some z2 := H
              obtain rfl := Option.some.inj H
              have H := Hk5
              cases Option.some.inj (bS H)
              exact ⟨ws3, ws5, hA.sub ⟨rfl, rfl, rfl, rfl, rfl, rfl, rfl, rfl, rfl, rfl, trivial⟩, hI⟩
          · rintro a w ⟨wc3, wc4, hA, hI⟩
            have H := Hk4
            refine w_seq fun _ hN16 => ?_
            refine w_reg ?_
            refine stp hA (r_ldA (j := 1) [] [av .u8 32 c4] [] Try.underlying33 rfl sz33 rfl hI rfl hA rfl rfl) rfl fun a hA => 
              o_st (j := 0) [] [av .u8 32 (List.replicate 32 0)] [av .u8 32 c4] [] sz33 rfl rfl (fl_cons (one_av _ _ _) fl_nil) hI rfl hA rfl rfl rfl rfl fun w hI => 
              stp hA (r_as hA rfl) rfl fun a hA => ?_
            refine o_nil ?_
            refine hN16 _ _ ?_
            refine w_ret ?_
            obtain rfl := Option.some.inj (bS H)
            exact retN hA Try.results77 (.cell rfl (cell_ld Try.underlying33 rfl sz33 rfl hI (j := 0) rfl) (.tmp rfl .nil)) ⟨_, rfl, rfl, ⟨wc4, trivial⟩, hI.forget0⟩

/-! sargassoref1.Root: function 78 -/
set_option maxRecDepth 20000 in
theorem sargassoref1_Root.c (μ : Store) (w0 : World) (hμ : Agr μ w0) (x0 : List (List Int)) (u0 : Value) (hx0 : Slc (RA .u8 32) 32 μ u0 x0) (r : List Int) (H : sargassoref1_Root.f x0 = some r) :
    Calls Try.prog 78 [u0].toArray w0 (fun e w' => ∃ v, e = .returned v ∧ v = .agg [av .u8 32 r].flatten.toArray ∧ Arr .u8 32 r ∧ Iv w0 [] μ μ [] w') := by
  refine enter Try.func78 rfl Try.ntmps78 rfl fun a hA => ?_
  have hI := Iv.start hμ
  have H := bI H
  refine w_seq fun _ hN1 => ?_
  refine w_reg ?_
  refine o_new [av .u8 32 (List.replicate 32 0)] zr33 hI hA rfl fun g1 a w hA hI hg1 => ?_
  refine o_nil ?_
  refine hN1 _ _ ?_
  refine w_seq fun _ hN2 => ?_
  refine w_seq fun _ hN3 => ?_
  refine w_reg ?_
  refine stp hA (r_mv hA rfl) rfl fun a hA => ?_
  obtain ⟨_, hsl1⟩ := Slc.sv hx0
  refine stp hA (r_slen Try.underlying80 hsl1 hA rfl) rfl fun a hA => 
    stp hA (r_eql hA rfl rfl) rfl fun a hA => ?_
  refine o_nil ?_
  refine hN3 _ _ ?_
  refine w_cond hA rfl (fun hc1 => ?_) (fun hc1 => ?_)
  · have hc10 := hc1; have hc1 := of_decide_eq_true hc1; have H := bT H hc1
    refine w_seq fun _ hN4 => ?_
    refine w_reg ?_
    refine stp hA (r_bldA (cs := [av .u8 32 ([0, 0, 0, 0, 0, 0, 0, 0, 0, 0, 0, 0, 0, 0, 0, 0, 0, 0, 0, 0, 0, 0, 0, 0, 0, 0, 0, 0, 0, 0, 0, 0])].flatten.toArray) zr33 Try.underlying33 sz5 hA rfl (by kernel_rfl)) rfl fun a hA => 
      o_st (j := 0) [] [av .u8 32 (List.replicate 32 0)] [av .u8 32 ([0, 0, 0, 0, 0, 0, 0, 0, 0, 0, 0, 0, 0, 0, 0, 0, 0, 0, 0, 0, 0, 0, 0, 0, 0, 0, 0, 0, 0, 0, 0, 0])] [] sz33 rfl rfl (fl_cons (one_av _ _ _) fl_nil) hI rfl hA rfl rfl rfl rfl fun w hI => ?_
    refine o_nil ?_
    refine hN4 _ _ ?_
    refine w_ret ?_
    obtain rfl := Option.some.inj (bS H)
    exact retc Try.underlying33 rfl sz33 rfl hI (j := 0) rfl hA Try.results78 rfl ⟨_, rfl, rfl, (arr_lit rfl (by simp only [List.forall_mem_cons]; exact ⟨(in_lit .u8 0 rfl), (in_lit .u8 0 rfl), (in_lit .u8 0 rfl), (in_lit .u8 0 rfl), (in_lit .u8 0 rfl), (in_lit .u8 0 rfl), (in_lit .u8 0 rfl), (in_lit .u8 0 rfl), (in_lit .u8 0 rfl), (in_lit .u8 0 rfl), (in_lit .u8 0 rfl), (in_lit .u8 0 rfl), (in_lit .u8 0 rfl), (in_lit .u8 0 rfl), (in_lit .u8 0 rfl), (in_lit .u8 0 rfl), (in_lit .u8 0 rfl), (in_lit .u8 0 rfl), (in_lit .u8 0 rfl), (in_lit .u8 0 rfl), (in_lit .u8 0 rfl), (in_lit .u8 0 rfl), (in_lit .u8 0 rfl), (in_lit .u8 0 rfl), (in_lit .u8 0 rfl), (in_lit .u8 0 rfl), (in_lit .u8 0 rfl), (in_lit .u8 0 rfl), (in_lit .u8 0 rfl), (in_lit .u8 0 rfl), (in_lit .u8 0 rfl), (in_lit .u8 0 rfl), by simp⟩)), hI.forget0⟩
  · have hc10 := hc1; have hc1 := of_decide_eq_false hc1; have H := bF H hc1
    refine w_skip ?_
    refine hN2 _ _ ?_
    obtain ⟨c1, hz1, Hk1⟩ := bB H
    refine w_cut (fun a w => ∃ (μ1 : Store) (vvc1 : Value), μ.le μ1 ∧ Slc (RA .u8 32) 32 μ1 vvc1 c1 ∧ Fr a 15 [(0, vvc1), (2, .pointer (some ⟨g1, 0, none⟩)), (5, .bool (decide ((x0.length : Int) = 0)))] ∧ Iv w0 [] μ μ1 [cel g1 [av .u8 32 (List.replicate 32 0)] 33] w) ?_ ?_
    · have H := bI hz1
      refine w_block ?_
      obtain ⟨z1, hz2, Hk2⟩ := bind_some H
      obtain ⟨n1, hn1⟩ := loopO_some hz2
      refine w_loop (fun n a w => ∃ (s1 : List (List Int)) (μ2 : Store) (vvs1 : Value), loopN (sargassoref1_Root.s0) n s1 = some z1 ∧ μ.le μ2 ∧ Slc (RA .u8 32) 32 μ2 vvs1 s1 ∧ Fr a 15 [(0, vvs1), (2, .pointer (some ⟨g1, 0, none⟩)), (5, .bool (decide ((x0.length : Int) = 0)))] ∧ Iv w0 [] μ μ2 [cel g1 [av .u8 32 (List.replicate 32 0)] 33] w) n1 ⟨x0, μ, u0, hn1, (Store.le.refl _), hx0, hA.sub ⟨rfl, rfl, rfl, trivial⟩, hI⟩ ?_
      clear hA hI
      rintro n a w ⟨s1, μ2, vvs1, hn1, hle2, ws1, hA, hI⟩
      obtain ⟨m1, rfl, H⟩ := loopN_bind hn1
      clear hn1
      refine w_seq fun _ hN5 => ?_
      refine w_seq fun _ hN6 => ?_
      refine w_reg ?_
      refine stp hA (r_mv hA rfl) rfl fun a hA => ?_
      obtain ⟨_, hsl2⟩ := Slc.sv ws1
      refine stp hA (r_slen Try.underlying80 hsl2 hA rfl) rfl fun a hA => 
        stp hA (r_gtr hA rfl rfl) rfl fun a hA => ?_
      refine o_nil ?_
      refine hN6 _ _ ?_
      refine w_cond hA rfl (fun hc2 => ?_) (fun hc2 => ?_)
      · have hc20 := hc2; have hc2 := of_decide_eq_true hc2; have H := bT H hc2
        refine w_skip ?_
        refine hN5 _ _ ?_
        refine w_block ?_
        refine w_reg ?_
        refine stp hA (r_mv hA rfl) rfl fun a hA => ?_
        obtain ⟨r1, hr1, H⟩ := bB H
        refine o_call _ cf104 hA rfl (sargassoref1_row.c μ2 _ hI.agr s1 vvs1 ws1 r1 hr1) rfl fun v1 a w hz3 hA => ?_
        obtain ⟨_, cs1, rfl, hE1, hi1⟩ := hz3
        have hI := hI.call hi1
        refine stp hA (r_as hA rfl) rfl fun a hA => ?_
        refine o_nil ?_
        obtain ⟨μ3, hle3, hsv1, hI⟩ := hI.freezeRow 0 rfl
        have hS1 : Slc (RA .u8 32) 32 μ3 v1 r1 := ⟨_, hE1, hsv1⟩
        exact ⟨m1, Nat.lt_succ_self _, r1, μ3, v1, H, (hle2.trans hle3), hS1, hA.sub ⟨rfl, rfl, rfl, trivial⟩, hI⟩
      · have hc20 := hc2; have hc2 := of_decide_eq_false hc2; have H := bF H hc2
        refine w_exit rfl ?_
        have H : some s1 = some z1 := H
        obtain rfl := Option.some.inj H
        have H := Hk2
        cases Option.some.inj (bS H)
        exact ⟨μ2, vvs1, hle2, ws1, hA.sub ⟨rfl, rfl, rfl, trivial⟩, hI⟩
    · rintro a w ⟨μ1, vvc1, hle1, wc1, hA, hI⟩
      have H := Hk1
      refine w_seq fun _ hN7 => ?_
      refine w_reg ?_
      refine stp hA (r_mv hA rfl) rfl fun a hA => ?_
      obtain ⟨hb1, H⟩ := bG H
      obtain ⟨_, he1, _, hat1⟩ := Slc.elem wc1 (getD_some [] (by decide) hb1)
      obtain ⟨rfl, hw1⟩ := he1
      obtain ⟨_, hsl3⟩ := Slc.sv wc1
      refine stp hA (r_six Try.underlying80 sz33 hsl3 hA rfl rfl (by decide) hb1) rfl fun a hA => 
        stp hA (r_ldmA [] [av .u8 32 (c1.getD (0 : Int).toNat [])] [] Try.underlying33 rfl sz33 rfl hI.agr hat1 hA rfl rfl) rfl fun a hA => 
        o_st (j := 0) [] [av .u8 32 (List.replicate 32 0)] [av .u8 32 (c1.getD (0 : Int).toNat [])] [] sz33 rfl rfl (fl_cons (one_av _ _ _) fl_nil) hI rfl hA rfl rfl rfl rfl fun w hI => ?_
      refine o_nil ?_
      refine hN7 _ _ ?_
      refine w_ret ?_
      obtain rfl := Option.some.inj (bS H)
      exact retc Try.underlying33 rfl sz33 rfl hI (j := 0) rfl hA Try.results78 rfl ⟨_, rfl, rfl, hw1, hI.forget0⟩
end Go.Proofs.Ytnbnnphlffhgiaa.T
