/- Proved: the statement BlockStart, as given (its conditions are those of the given row, and card where there is one; no others): the call ends, with true, and the input reads as it did. This file is one of its parts. -/
import Derived.Test.YtlpggofilkfbnaaDoorPBlockStart2
namespace Go.Proofs.YtlpggofilkfbnaaDoor.T
open Go Go.Proofs Go.Proofs.YtlpggofilkfbnaaDoor.K
set_option linter.unusedVariables false
set_option linter.unusedSimpArgs false
set_option maxRecDepth 20000 in
theorem tx_Bytes.c (μ : Store) (w0 : World) (hμ : Agr μ w0) (x0 : Tx) (u0_0 : Value) (u0_1 : Value) (hx0 : TxW μ x0 u0_0 u0_1) (r : List Int) (H : tx_Bytes.f x0 = some r) :
    Calls Tryd.prog 54 [.agg [[.int .u32 x0.Version], [u0_0], [u0_1], [.int .u32 x0.Time]].flatten.toArray].toArray w0 (fun e w' => ∃ v, e = .returned v ∧ ∃ (v0 : Value) (c0 : List Value), v = v0 ∧ Els (RI .u8) 1 r c0 ∧ Iv w0 [] μ μ [row 5 1 v0 r.length c0] w') := by
  refine enter Tryd.func54 rfl Tryd.ntmps54 rfl fun a hA => ?_
  have hI := Iv.start hμ
  have H := bI H
  refine w_seq fun _ hN1 => ?_
  refine w_reg ?_
  refine o_box [[.int .u32 x0.Version], [u0_0], [u0_1], [.int .u32 x0.Time]] hI hA rfl rfl rfl fun g1 a w hA hI hg1 => 
    stp hA (r_as hA rfl) rfl fun a hA => ?_
  refine o_nil ?_
  refine hN1 _ _ ?_
  refine w_seq fun _ hN2 => ?_
  refine w_reg ?_
  refine stp hA (r_fd (k := 0) Tryd.underlying32 rfl sz28 hA rfl rfl) rfl fun a hA => 
    stp hA (r_ld1 (j := 0) [] [[u0_0], [u0_1], [.int .u32 x0.Time]] Tryd.underlying28 rfl hI rfl hA rfl rfl) rfl fun a hA => ?_
  obtain ⟨r1, hr1, H⟩ := bB H
  refine o_call _ cf33 hA rfl (compact_Four.c μ _ hI.agr ([]) (.slice none 0 0) (slc_nil _ _ _) x0.Version hx0.1 r1 hr1) rfl fun v1 a w hz1 hA => ?_
  obtain ⟨_, cs1, rfl, hE1, hi1⟩ := hz1
  have hI := hI.call hi1
  refine stp hA (r_as hA rfl) rfl fun a hA => ?_
  refine o_nil ?_
  refine hN2 _ _ ?_
  refine w_seq fun _ hN3 => ?_
  refine w_reg ?_
  refine stp hA (r_mv hA rfl) rfl fun a hA => 
    stp hA (r_fd (k := 1) Tryd.underlying32 rfl sz29 hA rfl rfl) rfl fun a hA => 
    stp hA (r_ld1 (j := 1) [[.int .u32 x0.Version]] [[u0_1], [.int .u32 x0.Time]] Tryd.underlying29 rfl hI rfl hA rfl rfl) rfl fun a hA => ?_
  obtain ⟨_, hsl1⟩ := Slc.sv hx0.2.1
  refine stp hA (r_slen Tryd.underlying29 hsl1 hA rfl) rfl fun a hA => 
    stp hA (r_conv Tryd.underlying3 Tryd.underlying22 hA rfl) rfl fun a hA => ?_
  obtain ⟨r2, hr2, H⟩ := bB H
  refine o_call (fun v w' => ∃ (v0 : Value) (c0 : List Value), v = v0 ∧ Els (RI .u8) 1 r2 c0 ∧ Iv w [] μ μ [row 5 1 v0 r2.length c0] w') cf52 hA rfl ((by obtain ⟨μ1, hle1, hsv1, hI⟩ := hI.freezeRow 0 rfl; have hS1 : Slc (RI .u8) 1 μ1 v1 r1 := ⟨_, hE1, hsv1⟩; exact (compact_Put.c μ1 _ hI.agr r1 v1 hS1 (IntKind.u64.wrap (x0.Ins.length : Int)) (wrap_in _ _) r2 hr2).mono fun _ _ ⟨v, he, b0, b1, hv, f0, hi⟩ => ⟨v, he, b0, b1, hv, f0, hi.low hle1⟩)) rfl fun v2 a w hz2 hA => ?_
  obtain ⟨_, cs2, rfl, hE2, hi2⟩ := hz2
  have hI := hI.call hi2
  refine stp hA (r_as hA rfl) rfl fun a hA => ?_
  refine o_nil ?_
  refine hN3 _ _ ?_
  obtain ⟨c1, hz3, Hk1⟩ := bB H
  refine w_cut (fun a w => ∃ (vvc1 : Value) (ccc1 : List Value), Els (RI .u8) 1 c1 ccc1 ∧ Fr a 72 [(0, .agg [[.int .u32 x0.Version], [u0_0], [u0_1], [.int .u32 x0.Time]].flatten.toArray), (1, .pointer (some ⟨g1, 0, none⟩)), (2, (.slice none 0 0)), (3, vvc1)] ∧ Iv w0 [] μ μ [row 5 1 vvc1 c1.length ccc1, row 5 1 v1 r1.length cs1, cel g1 [[.int .u32 x0.Version], [u0_0], [u0_1], [.int .u32 x0.Time]] 32] w) ?_ ?_
  · have H := bI hz3
    refine w_seq fun _ hN4 => ?_
    refine w_reg ?_
    refine stp hA (r_fd (k := 1) Tryd.underlying32 rfl sz29 hA rfl rfl) rfl fun a hA => 
      stp hA (r_ld1 (j := 2) [[.int .u32 x0.Version]] [[u0_1], [.int .u32 x0.Time]] Tryd.underlying29 rfl hI rfl hA rfl rfl) rfl fun a hA => ?_
    obtain ⟨_, hsl2⟩ := Slc.sv hx0.2.1
    refine stp hA (r_slen Tryd.underlying29 hsl2 hA rfl) rfl fun a hA => 
      stp hA (r_mv hA rfl) rfl fun a hA => ?_
    refine o_nil ?_
    refine hN4 _ _ ?_
    refine w_block ?_
    obtain ⟨z1, hz4, Hk2⟩ := bind_some H
    obtain ⟨n1, hn1⟩ := loopO_some hz4
    refine w_loop (fun n a w => ∃ (s1 : List Int) (s2 : Int) (vvs1 : Value) (ccs1 : List Value), loopN (tx_Bytes.s0 x0) n (s1, s2) = some z1 ∧ Els (RI .u8) 1 s1 ccs1 ∧ InR .i64 s2 ∧ Fr a 72 [(0, .agg [[.int .u32 x0.Version], [u0_0], [u0_1], [.int .u32 x0.Time]].flatten.toArray), (1, .pointer (some ⟨g1, 0, none⟩)), (2, (.slice none 0 0)), (3, vvs1), (18, u0_0), (19, .int .i64 (x0.Ins.length : Int)), (20, .int .i64 s2)] ∧ Iv w0 [] μ μ [row 5 1 vvs1 s1.length ccs1, row 5 1 v1 r1.length cs1, cel g1 [[.int .u32 x0.Version], [u0_0], [u0_1], [.int .u32 x0.Time]] 32] w) n1 ⟨r2, 0, v2, cs2, hn1, hE2, (in_lit .i64 0 rfl), hA.sub ⟨rfl, rfl, rfl, rfl, rfl, rfl, rfl, trivial⟩, hI⟩ ?_
    clear hA hI
    rintro n a w ⟨s1, s2, vvs1, ccs1, hn1, ws1, ws2, hA, hI⟩
    obtain ⟨m1, rfl, H⟩ := loopN_bind hn1
    clear hn1
    refine w_seq fun _ hN5 => ?_
    refine w_reg ?_
    refine stp hA (r_lss hA rfl rfl) rfl fun a hA => ?_
    refine o_nil ?_
    refine hN5 _ _ ?_
    refine w_seq fun _ hN6 => ?_
    refine w_cond hA rfl (fun hc1 => ?_) (fun hc1 => ?_)
    · have hc10 := hc1; have hc1 := of_decide_eq_true hc1; have H := bT H hc1
      refine w_skip ?_
      refine hN6 _ _ ?_
      refine w_seq fun _ hN7 => ?_
      refine w_block ?_
      refine w_seq fun _ hN8 => ?_
      refine w_reg ?_
      obtain ⟨hb1, H⟩ := bG H
      obtain ⟨_, he1, _, hat1⟩ := Slc.elem hx0.2.1 (getD_some default hb1.1 hb1.2)
      obtain ⟨v3, rfl, hw1⟩ := he1
      obtain ⟨_, hsl3⟩ := Slc.sv hx0.2.1
      refine stp hA (r_six Tryd.underlying29 sz46 hsl3 hA rfl rfl hb1.1 hb1.2) rfl fun a hA => 
        stp hA (r_ldmA [] [av .u8 32 ((x0.Ins.getD s2.toNat default).From.Tx), [.int .u32 ((x0.Ins.getD s2.toNat default).From.N)], [v3], [.int .u32 ((x0.Ins.getD s2.toNat default).Seq)]] [] Tryd.underlying46 rfl sz46 rfl hI.agr hat1 hA rfl rfl) rfl fun a hA => 
        o_new [av .u8 32 (List.replicate 32 0), [.int .u32 0], [(.slice none 0 0)], [.int .u32 0]] zr46 hI hA rfl fun g2 a w hA hI hg2 => ?_
      obtain ⟨_, hsl4⟩ := Slc.sv hw1.2.2.1
      refine o_st (j := 0) [] [av .u8 32 (List.replicate 32 0), [.int .u32 0], [(.slice none 0 0)], [.int .u32 0]] [av .u8 32 ((x0.Ins.getD s2.toNat default).From.Tx), [.int .u32 ((x0.Ins.getD s2.toNat default).From.N)], [v3], [.int .u32 ((x0.Ins.getD s2.toNat default).Seq)]] [] sz46 rfl rfl (fl_cons (one_av _ _ _) (fl_cons (one_one rfl) (fl_cons (one_one (one_sl hsl4)) (fl_cons (one_one rfl) fl_nil)))) hI rfl hA rfl rfl rfl rfl fun w hI => ?_
      refine o_nil ?_
      refine hN8 _ _ ?_
      refine w_seq fun _ hN9 => ?_
      refine w_anyS [] mo (fun w (h : Iv w0 [] μ μ [cel g2 [av .u8 32 ((x0.Ins.getD s2.toNat default).From.Tx), [.int .u32 ((x0.Ins.getD s2.toNat default).From.N)], [v3], [.int .u32 ((x0.Ins.getD s2.toNat default).Seq)]] 46, row 5 1 vvs1 s1.length ccs1, row 5 1 v1 r1.length cs1, cel g1 [[.int .u32 x0.Version], [u0_0], [u0_1], [.int .u32 x0.Time]] 32] w) => (h.sel [0, 2, 3] (by decide) rfl : Iv w0 [] μ μ [cel g2 [av .u8 32 ((x0.Ins.getD s2.toNat default).From.Tx), [.int .u32 ((x0.Ins.getD s2.toNat default).From.N)], [v3], [.int .u32 ((x0.Ins.getD s2.toNat default).Seq)]] 46, row 5 1 v1 r1.length cs1, cel g1 [[.int .u32 x0.Version], [u0_0], [u0_1], [.int .u32 x0.Time]] 32] w)) hI fun w hI => ?_
      refine g_easy (i := 0) hA rfl rfl (by kernel_rfl) (.inr (hI.sel [0, 2, 3] (by decide) rfl)) (fun _ => r_mv hA rfl) rfl fun a hA => ?_
      refine g_easy (i := 1) hA rfl rfl (by kernel_rfl) (.inr (hI.sel [0, 2, 3] (by decide) rfl)) (fun _ => r_fd (k := 0) Tryd.underlying46 rfl sz44 hA rfl rfl) rfl fun a hA => ?_
      refine g_easy (i := 2) hA rfl rfl (by kernel_rfl) (.inr (hI.sel [0, 2, 3] (by decide) rfl)) (fun _ => r_fd (k := 0) Tryd.underlying44 rfl sz24 hA rfl rfl) rfl fun a hA => ?_
      refine g_easy (i := 3) hA rfl rfl (by kernel_rfl) (.inr (hI.sel [0, 2, 3] (by decide) rfl)) (fun _ => r_slv (i := 0) (j := 32) Tryd.underlying24 sz5 hA rfl rfl rfl (by decide) (by decide) (by decide) (by decide) rfl) rfl fun a hA => ?_
      refine g_easy (i := 5) hA rfl rfl (by kernel_rfl) (.inr (hI.sel [0, 2, 3] (by decide) rfl)) (fun _ => r_fd (k := 0) Tryd.underlying46 rfl sz44 hA rfl rfl) rfl fun a hA => ?_
      refine g_easy (i := 6) hA rfl rfl (by kernel_rfl) (.inr (hI.sel [0, 2, 3] (by decide) rfl)) (fun _ => r_fd (k := 32) Tryd.underlying44 rfl sz28 hA rfl rfl) rfl fun a hA => ?_
      refine g_take (i := 7) hA rfl rfl (by kernel_rfl) (hI.sel [0, 2, 3] (by decide) rfl) (fun w hI => r_ld1 (j := 0) [av .u8 32 ((x0.Ins.getD s2.toNat default).From.Tx)] [[v3], [.int .u32 ((x0.Ins.getD s2.toNat default).Seq)]] Tryd.underlying28 rfl hI rfl hA rfl rfl) rfl fun a hA => ?_
      refine g_forced (i := 4) rfl (by kernel_rfl) ?_
      have hE3 := els_av hw1.1
      obtain ⟨hb2, H⟩ := bG H
      have hE4 := ws1.app hE3
      refine o_appL (xs := (s1 : List Int)) (ys := ((x0.Ins.getD s2.toNat default).From.Tx : List Int)) (j := 1) te5 Tryd.underlying25 hI rfl hA rfl rfl (by simpa using src_cel [] [[.int .u32 ((x0.Ins.getD s2.toNat default).From.N)], [v3], [.int .u32 ((x0.Ins.getD s2.toNat default).Seq)]] hI (j := 0) rfl hw1.1 rfl) hE3.len (hE3.ones (one_RI _)) (by first | decide | (have hq := hb2; (try simp only [List.length_cons, List.length_nil] at hq); (try simp only [List.length_cons, List.length_nil]); (try simp only [maxLen]); omega)) (by first | decide | (have hq := hb2; (try simp only [List.length_cons, List.length_nil] at hq); (try simp only [List.length_cons, List.length_nil]); (try simp only [maxLen]); omega)) rfl fun v4 a w hA hI => ?_
      refine o_nil ?_
      refine ⟨(.inr (hI.sel [0, 2, 3] (by decide) rfl)), ?_⟩
      refine g_forced (i := 8) rfl (by kernel_rfl) ?_
      obtain ⟨r3, hr3, H⟩ := bB H
      refine o_call (fun v w' => ∃ (v0 : Value) (c0 : List Value), v = v0 ∧ Els (RI .u8) 1 r3 c0 ∧ Iv w [] μ μ [row 5 1 v0 r3.length c0] w') cf33 hA rfl ((by obtain ⟨μ2, hle2, hsv3, hI⟩ := hI.freezeRow 1 rfl; have hS2 : Slc (RI .u8) 1 μ2 v4 (s1 ++ ((x0.Ins.getD s2.toNat default).From.Tx)) := ⟨_, hE4, hsv3⟩; exact (compact_Four.c μ2 _ hI.agr (s1 ++ ((x0.Ins.getD s2.toNat default).From.Tx)) v4 hS2 ((x0.Ins.getD s2.toNat default).From.N) hw1.2.1 r3 hr3).mono fun _ _ ⟨v, he, b0, b1, hv, f0, hi⟩ => ⟨v, he, b0, b1, hv, f0, hi.low hle2⟩)) rfl fun v5 a w hz5 hA => ?_
      obtain ⟨_, cs5, rfl, hE5, hi3⟩ := hz5
      have hI := hI.call hi3
      refine o_nil ?_
      refine ⟨(.inr (hI.sel [1, 3, 4] (by decide) rfl)), ?_⟩
      refine g_easy (i := 9) hA rfl rfl (by kernel_rfl) (.inr (hI.sel [1, 3, 4] (by decide) rfl)) (fun _ => r_as hA rfl) rfl fun a hA => ?_
      refine g_nil (by kernel_rfl) ?_
      refine hN9 _ _ ?_
      refine w_seq fun _ hN10 => ?_
      refine w_anyS [] mo (fun w (h : Iv w0 [] μ μ [row 5 1 v5 r3.length cs5, cel g2 [av .u8 32 ((x0.Ins.getD s2.toNat default).From.Tx), [.int .u32 ((x0.Ins.getD s2.toNat default).From.N)], [v3], [.int .u32 ((x0.Ins.getD s2.toNat default).Seq)]] 46, row 5 1 v4 (s1 ++ ((x0.Ins.getD s2.toNat default).From.Tx)).length (ccs1 ++ ([av .u8 32 ((x0.Ins.getD s2.toNat default).From.Tx)].flatten)), row 5 1 v1 r1.length cs1, cel g1 [[.int .u32 x0.Version], [u0_0], [u0_1], [.int .u32 x0.Time]] 32] w) => (h.sel [0, 1, 2, 3, 4] (by decide) rfl : Iv w0 [] μ μ [row 5 1 v5 r3.length cs5, cel g2 [av .u8 32 ((x0.Ins.getD s2.toNat default).From.Tx), [.int .u32 ((x0.Ins.getD s2.toNat default).From.N)], [v3], [.int .u32 ((x0.Ins.getD s2.toNat default).Seq)]] 46, row 5 1 v4 (s1 ++ ((x0.Ins.getD s2.toNat default).From.Tx)).length (ccs1 ++ ([av .u8 32 ((x0.Ins.getD s2.toNat default).From.Tx)].flatten)), row 5 1 v1 r1.length cs1, cel g1 [[.int .u32 x0.Version], [u0_0], [u0_1], [.int .u32 x0.Time]] 32] w)) hI fun w hI => ?_
      refine g_easy (i := 0) hA rfl rfl (by kernel_rfl) (.inr hI) (fun _ => r_mv hA rfl) rfl fun a hA => ?_
      refine g_easy (i := 1) hA rfl rfl (by kernel_rfl) (.inr hI) (fun _ => r_fd (k := 33) Tryd.underlying46 rfl sz25 hA rfl rfl) rfl fun a hA => ?_
      refine g_take (i := 2) hA rfl rfl (by kernel_rfl) hI (fun w hI => r_ld1 (j := 1) [av .u8 32 ((x0.Ins.getD s2.toNat default).From.Tx), [.int .u32 ((x0.Ins.getD s2.toNat default).From.N)]] [[.int .u32 ((x0.Ins.getD s2.toNat default).Seq)]] Tryd.underlying25 rfl hI rfl hA rfl rfl) rfl fun a hA => ?_
      obtain ⟨_, hsl5⟩ := Slc.sv hw1.2.2.1
      refine g_easy (i := 3) hA rfl rfl (by kernel_rfl) (.inr hI) (fun _ => r_slen Tryd.underlying25 hsl5 hA rfl) rfl fun a hA => ?_
      refine g_easy (i := 4) hA rfl rfl (by kernel_rfl) (.inr hI) (fun _ => r_conv Tryd.underlying3 Tryd.underlying22 hA rfl) rfl fun a hA => ?_
      refine g_easy (i := 6) hA rfl rfl (by kernel_rfl) (.inr hI) (fun _ => r_fd (k := 33) Tryd.underlying46 rfl sz25 hA rfl rfl) rfl fun a hA => ?_
      refine g_take (i := 7) hA rfl rfl (by kernel_rfl) hI (fun w hI => r_ld1 (j := 1) [av .u8 32 ((x0.Ins.getD s2.toNat default).From.Tx), [.int .u32 ((x0.Ins.getD s2.toNat default).From.N)]] [[.int .u32 ((x0.Ins.getD s2.toNat default).Seq)]] Tryd.underlying25 rfl hI rfl hA rfl rfl) rfl fun a hA => ?_
      refine g_forced (i := 5) rfl (by kernel_rfl) ?_
      obtain ⟨r4, hr4, H⟩ := bB H
      refine o_call (fun v w' => ∃ (v0 : Value) (c0 : List Value), v = v0 ∧ Els (RI .u8) 1 r4 c0 ∧ Iv w [] μ μ [row 5 1 v0 r4.length c0] w') cf52 hA rfl ((by obtain ⟨μ3, hle3, hsv4, hI⟩ := hI.freezeRow 0 rfl; have hS3 : Slc (RI .u8) 1 μ3 v5 r3 := ⟨_, hE5, hsv4⟩; exact (compact_Put.c μ3 _ hI.agr r3 v5 hS3 (IntKind.u64.wrap (((x0.Ins.getD s2.toNat default).Key).length : Int)) (wrap_in _ _) r4 hr4).mono fun _ _ ⟨v, he, b0, b1, hv, f0, hi⟩ => ⟨v, he, b0, b1, hv, f0, hi.low hle3⟩)) rfl fun v6 a w hz6 hA => ?_
      obtain ⟨_, cs6, rfl, hE6, hi4⟩ := hz6
      have hI := hI.call hi4
      refine o_nil ?_
      refine ⟨(.inr (hI.sel [1, 2, 3, 4, 5] (by decide) rfl)), ?_⟩
      refine g_forced (i := 8) rfl (by kernel_rfl) ?_
      obtain ⟨cs7, hE7, hsv5⟩ : Slc (RI .u8) 1 μ v3 ((x0.Ins.getD s2.toNat default).Key) := id (hw1.2.2.1)
      obtain ⟨hb3, H⟩ := bG H
      have hE8 := hE6.app hE7
      refine o_appL (xs := (r4 : List Int)) (ys := ((x0.Ins.getD s2.toNat default).Key : List Int)) (j := 0) te5 Tryd.underlying25 hI rfl hA rfl rfl (src_sl hI.agr hsv5 hE7.len) hE7.len (hE7.ones (one_RI _)) (by first | decide | (have hq := hb3; (try simp only [List.length_cons, List.length_nil] at hq); (try simp only [List.length_cons, List.length_nil]); (try simp only [maxLen]); omega)) (by first | decide | (have hq := hb3; (try simp only [List.length_cons, List.length_nil] at hq); (try simp only [List.length_cons, List.length_nil]); (try simp only [maxLen]); omega)) rfl fun v7 a w hA hI => ?_
      refine o_nil ?_
      refine ⟨(.inr (hI.sel [1, 2, 3, 4, 5] (by decide) rfl)), ?_⟩
      refine g_easy (i := 9) hA rfl rfl (by kernel_rfl) (.inr (hI.sel [1, 2, 3, 4, 5] (by decide) rfl)) (fun _ => r_as hA rfl) rfl fun a hA => ?_
      refine g_nil (by kernel_rfl) ?_
      refine hN10 _ _ ?_
      refine w_reg ?_
      refine stp hA (r_mv hA rfl) rfl fun a hA => 
        stp hA (r_fd (k := 34) Tryd.underlying46 rfl sz28 hA rfl rfl) rfl fun a hA => 
        stp hA (r_ld1 (j := 2) [av .u8 32 ((x0.Ins.getD s2.toNat default).From.Tx), [.int .u32 ((x0.Ins.getD s2.toNat default).From.N)], [v3]] [] Tryd.underlying28 rfl hI rfl hA rfl rfl) rfl fun a hA => ?_
      obtain ⟨r5, hr5, H⟩ := bB H
      refine o_call (fun v w' => ∃ (v0 : Value) (c0 : List Value), v = v0 ∧ Els (RI .u8) 1 r5 c0 ∧ Iv w [] μ μ [row 5 1 v0 r5.length c0] w') cf33 hA rfl ((by obtain ⟨μ4, hle4, hsv6, hI⟩ := hI.freezeRow 0 rfl; have hS4 : Slc (RI .u8) 1 μ4 v7 (r4 ++ ((x0.Ins.getD s2.toNat default).Key)) := ⟨_, hE8, hsv6⟩; exact (compact_Four.c μ4 _ hI.agr (r4 ++ ((x0.Ins.getD s2.toNat default).Key)) v7 hS4 ((x0.Ins.getD s2.toNat default).Seq) hw1.2.2.2 r5 hr5).mono fun _ _ ⟨v, he, b0, b1, hv, f0, hi⟩ => ⟨v, he, b0, b1, hv, f0, hi.low hle4⟩)) rfl fun v8 a w hz7 hA => ?_
      obtain ⟨_, cs9, rfl, hE9, hi5⟩ := hz7
      have hI := hI.call hi5
      refine stp hA (r_as hA rfl) rfl fun a hA => ?_
      refine o_nil ?_
      refine hN7 _ _ ?_
      refine w_reg ?_
      refine stp hA (r_add hA rfl rfl) rfl fun a hA => 
        stp hA (r_mv hA rfl) rfl fun a hA => ?_
      refine o_nil ?_
      exact ⟨m1, Nat.lt_succ_self _, r5, IntKind.i64.wrap (s2 + 1), v8, cs9, H, hE9, (wrap_in _ _), hA.sub ⟨rfl, rfl, rfl, rfl, rfl, rfl, rfl, trivial⟩, (hI.sel [0, 5, 6] (by decide) rfl)⟩
    · have hc10 := hc1; have hc1 := of_decide_eq_false hc1; have H := bF H hc1
      refine w_exit rfl ?_
      have H : some s1 = some z1 := H
      obtain rfl := Option.some.inj H
      have H := Hk2
      cases Option.some.inj (bS H)
      exact ⟨vvs1, ccs1, ws1, hA.sub ⟨rfl, rfl, rfl, rfl, trivial⟩, hI⟩
  · rintro a w ⟨vvc1, ccc1, wc1, hA, hI⟩
    have H := Hk1
    refine w_seq fun _ hN11 => ?_
    refine w_reg ?_
    refine stp hA (r_mv hA rfl) rfl fun a hA => 
      stp hA (r_fd (k := 2) Tryd.underlying32 rfl sz30 hA rfl rfl) rfl fun a hA => 
      stp hA (r_ld1 (j := 2) [[.int .u32 x0.Version], [u0_0]] [[.int .u32 x0.Time]] Tryd.underlying30 rfl hI rfl hA rfl rfl) rfl fun a hA => ?_
    obtain ⟨_, hsl6⟩ := Slc.sv hx0.2.2.1
    refine stp hA (r_slen Tryd.underlying30 hsl6 hA rfl) rfl fun a hA => 
      stp hA (r_conv Tryd.underlying3 Tryd.underlying22 hA rfl) rfl fun a hA => ?_
    obtain ⟨r6, hr6, H⟩ := bB H
    refine o_call (fun v w' => ∃ (v0 : Value) (c0 : List Value), v = v0 ∧ Els (RI .u8) 1 r6 c0 ∧ Iv w [] μ μ [row 5 1 v0 r6.length c0] w') cf52 hA rfl ((by obtain ⟨μ5, hle5, hsv7, hI⟩ := hI.freezeRow 0 rfl; have hS5 : Slc (RI .u8) 1 μ5 vvc1 c1 := ⟨_, wc1, hsv7⟩; exact (compact_Put.c μ5 _ hI.agr c1 vvc1 hS5 (IntKind.u64.wrap (x0.Outs.length : Int)) (wrap_in _ _) r6 hr6).mono fun _ _ ⟨v, he, b0, b1, hv, f0, hi⟩ => ⟨v, he, b0, b1, hv, f0, hi.low hle5⟩)) rfl fun v9 a w hz8 hA => ?_
    obtain ⟨_, cs10, rfl, hE10, hi6⟩ := hz8
    have hI := hI.call hi6
    refine stp hA (r_as hA rfl) rfl fun a hA => ?_
    refine o_nil ?_
    refine hN11 _ _ ?_
    obtain ⟨c2, hz9, Hk3⟩ := bB H
    refine w_cut (fun a w => ∃ (vvc2 : Value) (ccc2 : List Value), Els (RI .u8) 1 c2 ccc2 ∧ Fr a 72 [(0, .agg [[.int .u32 x0.Version], [u0_0], [u0_1], [.int .u32 x0.Time]].flatten.toArray), (1, .pointer (some ⟨g1, 0, none⟩)), (2, (.slice none 0 0)), (3, vvc2)] ∧ Iv w0 [] μ μ [row 5 1 vvc2 c2.length ccc2, row 5 1 vvc1 c1.length ccc1, row 5 1 v1 r1.length cs1, cel g1 [[.int .u32 x0.Version], [u0_0], [u0_1], [.int .u32 x0.Time]] 32] w) ?_ ?_
    · have H := bI hz9
      refine w_seq fun _ hN12 => ?_
      refine w_reg ?_
      refine stp hA (r_fd (k := 2) Tryd.underlying32 rfl sz30 hA rfl rfl) rfl fun a hA => 
        stp hA (r_ld1 (j := 3) [[.int .u32 x0.Version], [u0_0]] [[.int .u32 x0.Time]] Tryd.underlying30 rfl hI rfl hA rfl rfl) rfl fun a hA => ?_
      obtain ⟨_, hsl7⟩ := Slc.sv hx0.2.2.1
      refine stp hA (r_slen Tryd.underlying30 hsl7 hA rfl) rfl fun a hA => 
        stp hA (r_mv hA rfl) rfl fun a hA => ?_
      refine o_nil ?_
      refine hN12 _ _ ?_
      refine w_block ?_
      obtain ⟨z2, hz10, Hk4⟩ := bind_some H
      obtain ⟨n2, hn2⟩ := loopO_some hz10
      refine w_loop (fun n a w => ∃ (s3 : List Int) (s4 : Int) (vvs3 : Value) (ccs3 : List Value), loopN (tx_Bytes.s1 x0) n (s3, s4) = some z2 ∧ Els (RI .u8) 1 s3 ccs3 ∧ InR .i64 s4 ∧ Fr a 72 [(0, .agg [[.int .u32 x0.Version], [u0_0], [u0_1], [.int .u32 x0.Time]].flatten.toArray), (1, .pointer (some ⟨g1, 0, none⟩)), (2, (.slice none 0 0)), (3, vvs3), (54, u0_1), (55, .int .i64 (x0.Outs.length : Int)), (56, .int .i64 s4)] ∧ Iv w0 [] μ μ [row 5 1 vvs3 s3.length ccs3, row 5 1 vvc1 c1.length ccc1, row 5 1 v1 r1.length cs1, cel g1 [[.int .u32 x0.Version], [u0_0], [u0_1], [.int .u32 x0.Time]] 32] w) n2 ⟨r6, 0, v9, cs10, hn2, hE10, (in_lit .i64 0 rfl), hA.sub ⟨rfl, rfl, rfl, rfl, rfl, rfl, rfl, trivial⟩, hI⟩ ?_
      clear hA hI
      rintro n a w ⟨s3, s4, vvs3, ccs3, hn2, ws3, ws4, hA, hI⟩
      obtain ⟨m2, rfl, H⟩ := loopN_bind hn2
      clear hn2
      refine w_seq fun _ hN13 => ?_
      refine w_reg ?_
      refine stp hA (r_lss hA rfl rfl) rfl fun a hA => ?_
      refine o_nil ?_
      refine hN13 _ _ ?_
      refine w_seq fun _ hN14 => ?_
      refine w_cond hA rfl (fun hc2 => ?_) (fun hc2 => ?_)
      · have hc20 := hc2; have hc2 := of_decide_eq_true hc2; have H := bT H hc2
        refine w_skip ?_
        refine hN14 _ _ ?_
        refine w_seq fun _ hN15 => ?_
        refine w_block ?_
        refine w_seq fun _ hN16 => ?_
        refine w_reg ?_
        obtain ⟨hb4, H⟩ := bG H
        obtain ⟨_, he2, _, hat2⟩ := Slc.elem hx0.2.2.1 (getD_some default hb4.1 hb4.2)
        obtain ⟨rfl, hw2⟩ := he2
        obtain ⟨_, hsl8⟩ := Slc.sv hx0.2.2.1
        refine stp hA (r_six Tryd.underlying30 sz48 hsl8 hA rfl rfl hb4.1 hb4.2) rfl fun a hA => 
          stp hA (r_ldmA [] [[.int .u64 ((x0.Outs.getD s4.toNat default).Value)], av .u8 32 ((x0.Outs.getD s4.toNat default).Lock)] [] Tryd.underlying48 rfl sz48 rfl hI.agr hat2 hA rfl rfl) rfl fun a hA => 
          o_new [[.int .u64 0], av .u8 32 (List.replicate 32 0)] zr48 hI hA rfl fun g3 a w hA hI hg3 => 
          o_st (j := 0) [] [[.int .u64 0], av .u8 32 (List.replicate 32 0)] [[.int .u64 ((x0.Outs.getD s4.toNat default).Value)], av .u8 32 ((x0.Outs.getD s4.toNat default).Lock)] [] sz48 rfl rfl (fl_cons (one_one rfl) (fl_cons (one_av _ _ _) fl_nil)) hI rfl hA rfl rfl rfl rfl fun w hI => ?_
        refine o_nil ?_
        refine hN16 _ _ ?_
        refine w_anyS [] mo (fun w (h : Iv w0 [] μ μ [cel g3 [[.int .u64 ((x0.Outs.getD s4.toNat default).Value)], av .u8 32 ((x0.Outs.getD s4.toNat default).Lock)] 48, row 5 1 vvs3 s3.length ccs3, row 5 1 vvc1 c1.length ccc1, row 5 1 v1 r1.length cs1, cel g1 [[.int .u32 x0.Version], [u0_0], [u0_1], [.int .u32 x0.Time]] 32] w) => (h.sel [0, 1, 2, 3, 4] (by decide) rfl : Iv w0 [] μ μ [cel g3 [[.int .u64 ((x0.Outs.getD s4.toNat default).Value)], av .u8 32 ((x0.Outs.getD s4.toNat default).Lock)] 48, row 5 1 vvs3 s3.length ccs3, row 5 1 vvc1 c1.length ccc1, row 5 1 v1 r1.length cs1, cel g1 [[.int .u32 x0.Version], [u0_0], [u0_1], [.int .u32 x0.Time]] 32] w)) hI fun w hI => ?_
        refine g_easy (i := 0) hA rfl rfl (by kernel_rfl) (.inr hI) (fun _ => r_mv hA rfl) rfl fun a hA => ?_
        refine g_easy (i := 1) hA rfl rfl (by kernel_rfl) (.inr hI) (fun _ => r_fd (k := 0) Tryd.underlying48 rfl sz22 hA rfl rfl) rfl fun a hA => ?_
        refine g_take (i := 2) hA rfl rfl (by kernel_rfl) hI (fun w hI => r_ld1 (j := 0) [] [av .u8 32 ((x0.Outs.getD s4.toNat default).Lock)] Tryd.underlying22 rfl hI rfl hA rfl rfl) rfl fun a hA => ?_
        refine g_easy (i := 4) hA rfl rfl (by kernel_rfl) (.inr hI) (fun _ => r_fd (k := 1) Tryd.underlying48 rfl sz24 hA rfl rfl) rfl fun a hA => ?_
        refine g_easy (i := 5) hA rfl rfl (by kernel_rfl) (.inr hI) (fun _ => r_slv (i := 0) (j := 32) Tryd.underlying24 sz5 hA rfl rfl rfl (by decide) (by decide) (by decide) (by decide) rfl) rfl fun a hA => ?_
        refine g_forced (i := 3) rfl (by kernel_rfl) ?_
        obtain ⟨r7, hr7, H⟩ := bB H
        refine o_call (fun v w' => ∃ (v0 : Value) (c0 : List Value), v = v0 ∧ Els (RI .u8) 1 r7 c0 ∧ Iv w [] μ μ [row 5 1 v0 r7.length c0] w') cf78 hA rfl ((by obtain ⟨μ6, hle6, hsv8, hI⟩ := hI.freezeRow 1 rfl; have hS6 : Slc (RI .u8) 1 μ6 vvs3 s3 := ⟨_, ws3, hsv8⟩; exact (compact_Eight.c μ6 _ hI.agr s3 vvs3 hS6 ((x0.Outs.getD s4.toNat default).Value) hw2.1 r7 hr7).mono fun _ _ ⟨v, he, b0, b1, hv, f0, hi⟩ => ⟨v, he, b0, b1, hv, f0, hi.low hle6⟩)) rfl fun v10 a w hz11 hA => ?_
        obtain ⟨_, cs11, rfl, hE11, hi7⟩ := hz11
        have hI := hI.call hi7
        refine o_nil ?_
        refine ⟨(.inr (hI.sel [1, 2, 3, 4, 5] (by decide) rfl)), ?_⟩
        refine g_forced (i := 6) rfl (by kernel_rfl) ?_
        have hE12 := els_av hw2.2
        obtain ⟨hb5, H⟩ := bG H
        have hE13 := hE11.app hE12
        refine o_appL (xs := (r7 : List Int)) (ys := ((x0.Outs.getD s4.toNat default).Lock : List Int)) (j := 0) te5 Tryd.underlying25 hI rfl hA rfl rfl (by simpa using src_cel [[.int .u64 ((x0.Outs.getD s4.toNat default).Value)]] [] hI (j := 1) rfl hw2.2 rfl) hE12.len (hE12.ones (one_RI _)) (by first | decide | (have hq := hb5; (try simp only [List.length_cons, List.length_nil] at hq); (try simp only [List.length_cons, List.length_nil]); (try simp only [maxLen]); omega)) (by first | decide | (have hq := hb5; (try simp only [List.length_cons, List.length_nil] at hq); (try simp only [List.length_cons, List.length_nil]); (try simp only [maxLen]); omega)) rfl fun v11 a w hA hI => ?_
        refine o_nil ?_
        refine ⟨(.inr (hI.sel [1, 2, 3, 4, 5] (by decide) rfl)), ?_⟩
        refine g_easy (i := 7) hA rfl rfl (by kernel_rfl) (.inr (hI.sel [1, 2, 3, 4, 5] (by decide) rfl)) (fun _ => r_as hA rfl) rfl fun a hA => ?_
        refine g_nil (by kernel_rfl) ?_
        refine hN15 _ _ ?_
        refine w_reg ?_
        refine stp hA (r_add hA rfl rfl) rfl fun a hA => 
          stp hA (r_mv hA rfl) rfl fun a hA => ?_
        refine o_nil ?_
        exact ⟨m2, Nat.lt_succ_self _, r7 ++ ((x0.Outs.getD s4.toNat default).Lock), IntKind.i64.wrap (s4 + 1), v11, cs11 ++ ([av .u8 32 ((x0.Outs.getD s4.toNat default).Lock)].flatten), H, hE13, (wrap_in _ _), hA.sub ⟨rfl, rfl, rfl, rfl, rfl, rfl, rfl, trivial⟩, (hI.sel [0, 3, 4, 5] (by decide) rfl)⟩
      · have hc20 := hc2; have hc2 := of_decide_eq_false hc2; have H := bF H hc2
        refine w_exit rfl ?_
        have H : some s3 = some z2 := H
        obtain rfl := Option.some.inj H
        have H := Hk4
        cases Option.some.inj (bS H)
        exact ⟨vvs3, ccs3, ws3, hA.sub ⟨rfl, rfl, rfl, rfl, trivial⟩, hI⟩
    · rintro a w ⟨vvc2, ccc2, wc2, hA, hI⟩
      have H := Hk3
      refine w_seq fun _ hN17 => ?_
      refine w_reg ?_
      refine stp hA (r_mv hA rfl) rfl fun a hA => 
        stp hA (r_fd (k := 3) Tryd.underlying32 rfl sz28 hA rfl rfl) rfl fun a hA => 
        stp hA (r_ld1 (j := 3) [[.int .u32 x0.Version], [u0_0], [u0_1]] [] Tryd.underlying28 rfl hI rfl hA rfl rfl) rfl fun a hA => ?_
      obtain ⟨r8, hr8, H⟩ := bB H
      refine o_call (fun v w' => ∃ (v0 : Value) (c0 : List Value), v = v0 ∧ Els (RI .u8) 1 r8 c0 ∧ Iv w [] μ μ [row 5 1 v0 r8.length c0] w') cf33 hA rfl ((by obtain ⟨μ7, hle7, hsv10, hI⟩ := hI.freezeRow 0 rfl; have hS7 : Slc (RI .u8) 1 μ7 vvc2 c2 := ⟨_, wc2, hsv10⟩; exact (compact_Four.c μ7 _ hI.agr c2 vvc2 hS7 x0.Time hx0.2.2.2 r8 hr8).mono fun _ _ ⟨v, he, b0, b1, hv, f0, hi⟩ => ⟨v, he, b0, b1, hv, f0, hi.low hle7⟩)) rfl fun v12 a w hz12 hA => ?_
      obtain ⟨_, cs14, rfl, hE14, hi8⟩ := hz12
      have hI := hI.call hi8
      refine stp hA (r_as hA rfl) rfl fun a hA => ?_
      refine o_nil ?_
      refine hN17 _ _ ?_
      refine w_ret ?_
      obtain rfl := Option.some.inj (bS H)
      exact ret1 hA Tryd.results54 rfl ⟨_, rfl, v12, cs14, rfl, hE14, ((hI.sel [0] (by decide) rfl).less (Store.le.refl _) hI.le)⟩
set_option maxRecDepth 20000 in
theorem tx_ID.c (μ : Store) (w0 : World) (hμ : Agr μ w0) (x0 : Tx) (u0_0 : Value) (u0_1 : Value) (hx0 : TxW μ x0 u0_0 u0_1) (r : List Int) (H : tx_ID.f x0 = some r) :
    Calls Tryd.prog 61 [.agg [[.int .u32 x0.Version], [u0_0], [u0_1], [.int .u32 x0.Time]].flatten.toArray].toArray w0 (fun e w' => ∃ v, e = .returned v ∧ v = .agg [av .u8 32 r].flatten.toArray ∧ Arr .u8 32 r ∧ Iv w0 [] μ μ [] w') := by
  refine enter Tryd.func61 rfl Tryd.ntmps61 rfl fun a hA => ?_
  have hI := Iv.start hμ
  have H := bI H
  refine w_seq fun _ hN1 => ?_
  refine w_reg ?_
  refine o_box [[.int .u32 x0.Version], [u0_0], [u0_1], [.int .u32 x0.Time]] hI hA rfl rfl rfl fun g1 a w hA hI hg1 => 
    o_new [av .u8 32 (List.replicate 32 0)] zr24 hI hA rfl fun g2 a w hA hI hg2 => ?_
  refine o_nil ?_
  refine hN1 _ _ ?_
  refine w_seq fun _ hN2 => ?_
  refine w_reg ?_
  refine stp hA (r_ldA (j := 1) [] [[.int .u32 x0.Version], [u0_0], [u0_1], [.int .u32 x0.Time]] [] Tryd.underlying32 rfl sz32 rfl hI rfl hA rfl rfl) rfl fun a hA => ?_
  obtain ⟨r1, hr1, H⟩ := bB H
  refine o_call _ cf54 hA rfl (tx_Bytes.c μ _ hI.agr x0 u0_0 u0_1 ⟨hx0.1, hx0.2.1, hx0.2.2.1, hx0.2.2.2⟩ r1 hr1) rfl fun v1 a w hz1 hA => ?_
  obtain ⟨_, cs1, rfl, hE1, hi1⟩ := hz1
  have hI := hI.call hi1
  obtain ⟨r2, hr2, H⟩ := bB H
  refine o_callp (u := .agg [av .u8 32 r2].flatten.toArray) cf76 hA rfl hI ((by obtain ⟨μ1, hle1, hsv1, hI⟩ := hI.freezeRow 0 rfl; have hS1 : Slc (RI .u8) 1 μ1 v1 r1 := ⟨_, hE1, hsv1⟩; exact low_plain hle1 (digest_Twice.c μ1 _ hI.agr r1 v1 hS1 r2 hr2))) rfl fun a w hz2 hI hA => 
    o_st (j := 1) [] [av .u8 32 (List.replicate 32 0)] [av .u8 32 r2] [] sz24 rfl rfl (fl_cons (one_av _ _ _) fl_nil) hI rfl hA rfl rfl rfl rfl fun w hI => ?_
  refine o_nil ?_
  refine hN2 _ _ ?_
  refine w_ret ?_
  obtain rfl := Option.some.inj (bS H)
  exact retc Tryd.underlying24 rfl sz24 rfl hI (j := 1) rfl hA Tryd.results61 rfl ⟨_, rfl, rfl, hz2, hI.forget0⟩
set_option maxRecDepth 20000 in
theorem tx_Size.c (μ : Store) (w0 : World) (hμ : Agr μ w0) (x0 : Tx) (u0_0 : Value) (u0_1 : Value) (hx0 : TxW μ x0 u0_0 u0_1) (r : Int) (H : tx_Size.f x0 = some r) :
    Calls Tryd.prog 90 [.agg [[.int .u32 x0.Version], [u0_0], [u0_1], [.int .u32 x0.Time]].flatten.toArray].toArray w0 (fun e w' => ∃ v, e = .returned v ∧ v = .int .i64 r ∧ InR .i64 r ∧ Iv w0 [] μ μ [] w') := by
  refine enter Tryd.func90 rfl Tryd.ntmps90 rfl fun a hA => ?_
  have hI := Iv.start hμ
  have H := bI H
  refine w_seq fun _ hN1 => ?_
  refine w_reg ?_
  refine o_box [[.int .u32 x0.Version], [u0_0], [u0_1], [.int .u32 x0.Time]] hI hA rfl rfl rfl fun g1 a w hA hI hg1 => 
    stp hA (r_as hA rfl) rfl fun a hA => ?_
  refine o_nil ?_
  refine hN1 _ _ ?_
  refine w_seq fun _ hN2 => ?_
  refine w_reg ?_
  refine stp hA (r_ldA (j := 0) [] [[.int .u32 x0.Version], [u0_0], [u0_1], [.int .u32 x0.Time]] [] Tryd.underlying32 rfl sz32 rfl hI rfl hA rfl rfl) rfl fun a hA => ?_
  obtain ⟨r1, hr1, H⟩ := bB H
  refine o_call _ cf54 hA rfl (tx_Bytes.c μ _ hI.agr x0 u0_0 u0_1 ⟨hx0.1, hx0.2.1, hx0.2.2.1, hx0.2.2.2⟩ r1 hr1) rfl fun v1 a w hz1 hA => ?_
  obtain ⟨_, cs1, rfl, hE1, hi1⟩ := hz1
  have hI := hI.call hi1
  have hlen1 := Iv.row_in hI (j := 0) rfl
  refine stp hA (r_rlen (xs := 0) Tryd.underlying25 hI (j := 0) rfl hA rfl) rfl fun a hA => 
    stp hA (r_as hA rfl) rfl fun a hA => ?_
  refine o_nil ?_
  refine hN2 _ _ ?_
  refine w_ret ?_
  obtain rfl := Option.some.inj (bS H)
  exact ret1 hA Tryd.results90 rfl ⟨_, rfl, rfl, hlen1, hI.forget0⟩
set_option maxRecDepth 20000 in
theorem tx_Check_1.c (μ : Store) (w0 : World) (hμ : Agr μ w0) (x0 : In) (u0_0 : Value) (hx0 : InW μ x0 u0_0) (r : Bool) (H : tx_Check_1.f x0 = some r) :
    Calls Tryd.prog 92 [.agg [av .u8 32 x0.From.Tx, [.int .u32 x0.From.N], [u0_0], [.int .u32 x0.Seq]].flatten.toArray].toArray w0 (fun e w' => ∃ v, e = .returned v ∧ v = .bool r ∧ True ∧ Iv w0 [] μ μ [] w') := by
  refine enter Tryd.func92 rfl Tryd.ntmps92 rfl fun a hA => ?_
  have hI := Iv.start hμ
  have H := bI H
  refine w_seq fun _ hN1 => ?_
  refine w_reg ?_
  refine o_box [av .u8 32 x0.From.Tx, [.int .u32 x0.From.N], [u0_0], [.int .u32 x0.Seq]] hI hA rfl rfl rfl fun g1 a w hA hI hg1 => 
    stp hA (r_as hA rfl) rfl fun a hA => ?_
  refine o_nil ?_
  refine hN1 _ _ ?_
  refine w_seq fun _ hN2 => ?_
  refine w_reg ?_
  refine stp hA (r_fd (k := 33) Tryd.underlying46 rfl sz25 hA rfl rfl) rfl fun a hA => 
    stp hA (r_ld1 (j := 0) [av .u8 32 x0.From.Tx, [.int .u32 x0.From.N]] [[.int .u32 x0.Seq]] Tryd.underlying25 rfl hI rfl hA rfl rfl) rfl fun a hA => ?_
  obtain ⟨_, hsl1⟩ := Slc.sv hx0.2.2.1
  refine stp hA (r_slen Tryd.underlying25 hsl1 hA rfl) rfl fun a hA => 
    stp hA (r_gtr hA rfl rfl) rfl fun a hA => 
    stp hA (r_as hA rfl) rfl fun a hA => ?_
  refine o_nil ?_
  refine hN2 _ _ ?_
  refine w_ret ?_
  obtain rfl := Option.some.inj (bS H)
  exact ret1 hA Tryd.results92 rfl ⟨_, rfl, rfl, trivial, hI.forget0⟩
set_option maxRecDepth 20000 in
theorem tx_values.c (μ : Store) (w0 : World) (hμ : Agr μ w0) (x0 : Tx) (u0_0 : Value) (u0_1 : Value) (hx0 : TxW μ x0 u0_0 u0_1) (r : List Int) (H : tx_values.f x0 = some r) :
    Calls Tryd.prog 107 [.agg [[.int .u32 x0.Version], [u0_0], [u0_1], [.int .u32 x0.Time]].flatten.toArray].toArray w0 (fun e w' => ∃ v, e = .returned v ∧ ∃ (v0 : Value) (c0 : List Value), v = v0 ∧ Els (RI .u64) 1 r c0 ∧ Iv w0 [] μ μ [row 22 1 v0 r.length c0] w') := by
  refine enter Tryd.func107 rfl Tryd.ntmps107 rfl fun a hA => ?_
  have hI := Iv.start hμ
  have H := bI H
  refine w_seq fun _ hN1 => ?_
  refine w_reg ?_
  refine o_box [[.int .u32 x0.Version], [u0_0], [u0_1], [.int .u32 x0.Time]] hI hA rfl rfl rfl fun g1 a w hA hI hg1 => 
    stp hA (r_as hA rfl) rfl fun a hA => ?_
  refine o_nil ?_
  refine hN1 _ _ ?_
  refine w_seq fun _ hN2 => ?_
  refine w_reg ?_
  refine stp hA (r_as hA rfl) rfl fun a hA => ?_
  refine o_nil ?_
  refine hN2 _ _ ?_
  obtain ⟨c1, hz1, Hk1⟩ := bB H
  refine w_cut (fun a w => ∃ (vvc1 : Value) (ccc1 : List Value), Els (RI .u64) 1 c1 ccc1 ∧ Fr a 20 [(0, .agg [[.int .u32 x0.Version], [u0_0], [u0_1], [.int .u32 x0.Time]].flatten.toArray), (1, .pointer (some ⟨g1, 0, none⟩)), (2, (.slice none 0 0)), (3, vvc1)] ∧ Iv w0 [] μ μ [row 22 1 vvc1 c1.length ccc1, cel g1 [[.int .u32 x0.Version], [u0_0], [u0_1], [.int .u32 x0.Time]] 32] w) ?_ ?_
  · have H := bI hz1
    refine w_seq fun _ hN3 => ?_
    refine w_reg ?_
    refine stp hA (r_fd (k := 2) Tryd.underlying32 rfl sz30 hA rfl rfl) rfl fun a hA => 
      stp hA (r_ld1 (j := 0) [[.int .u32 x0.Version], [u0_0]] [[.int .u32 x0.Time]] Tryd.underlying30 rfl hI rfl hA rfl rfl) rfl fun a hA => ?_
    obtain ⟨_, hsl1⟩ := Slc.sv hx0.2.2.1
    refine stp hA (r_slen Tryd.underlying30 hsl1 hA rfl) rfl fun a hA => 
      stp hA (r_mv hA rfl) rfl fun a hA => ?_
    refine o_nil ?_
    refine hN3 _ _ ?_
    refine w_block ?_
    have hI := hI.nilRow 22 1
    obtain ⟨z1, hz2, Hk2⟩ := bind_some H
    obtain ⟨n1, hn1⟩ := loopO_some hz2
    refine w_loop (fun n a w => ∃ (s1 : List Int) (s2 : Int) (vvs1 : Value) (ccs1 : List Value), loopN (tx_values.s0 x0) n (s1, s2) = some z1 ∧ Els (RI .u64) 1 s1 ccs1 ∧ InR .i64 s2 ∧ Fr a 20 [(0, .agg [[.int .u32 x0.Version], [u0_0], [u0_1], [.int .u32 x0.Time]].flatten.toArray), (1, .pointer (some ⟨g1, 0, none⟩)), (2, (.slice none 0 0)), (3, vvs1), (7, u0_1), (8, .int .i64 (x0.Outs.length : Int)), (9, .int .i64 s2)] ∧ Iv w0 [] μ μ [row 22 1 vvs1 s1.length ccs1, cel g1 [[.int .u32 x0.Version], [u0_0], [u0_1], [.int .u32 x0.Time]] 32] w) n1 ⟨[], 0, (.slice none 0 0), [], hn1, (Els.nil (RE := (RI .u64)) (sz := 1)), (in_lit .i64 0 rfl), hA.sub ⟨rfl, rfl, rfl, rfl, rfl, rfl, rfl, trivial⟩, hI⟩ ?_
    clear hA hI
    rintro n a w ⟨s1, s2, vvs1, ccs1, hn1, ws1, ws2, hA, hI⟩
    obtain ⟨m1, rfl, H⟩ := loopN_bind hn1
    clear hn1
    refine w_seq fun _ hN4 => ?_
    refine w_reg ?_
    refine stp hA (r_lss hA rfl rfl) rfl fun a hA => ?_
    refine o_nil ?_
    refine hN4 _ _ ?_
    refine w_seq fun _ hN5 => ?_
    refine w_cond hA rfl (fun hc1 => ?_) (fun hc1 => ?_)
    · have hc10 := hc1; have hc1 := of_decide_eq_true hc1; have H := bT H hc1
      refine w_skip ?_
      refine hN5 _ _ ?_
      refine w_seq fun _ hN6 => ?_
      refine w_block ?_
      refine w_seq fun _ hN7 => ?_
      refine w_reg ?_
      obtain ⟨hb1, H⟩ := bG H
      obtain ⟨_, he1, _, hat1⟩ := Slc.elem hx0.2.2.1 (getD_some default hb1.1 hb1.2)
      obtain ⟨rfl, hw1⟩ := he1
      obtain ⟨_, hsl2⟩ := Slc.sv hx0.2.2.1
      refine stp hA (r_six Tryd.underlying30 sz48 hsl2 hA rfl rfl hb1.1 hb1.2) rfl fun a hA => 
        stp hA (r_ldmA [] [[.int .u64 ((x0.Outs.getD s2.toNat default).Value)], av .u8 32 ((x0.Outs.getD s2.toNat default).Lock)] [] Tryd.underlying48 rfl sz48 rfl hI.agr hat1 hA rfl rfl) rfl fun a hA => 
        o_new [[.int .u64 0], av .u8 32 (List.replicate 32 0)] zr48 hI hA rfl fun g2 a w hA hI hg2 => 
        o_st (j := 0) [] [[.int .u64 0], av .u8 32 (List.replicate 32 0)] [[.int .u64 ((x0.Outs.getD s2.toNat default).Value)], av .u8 32 ((x0.Outs.getD s2.toNat default).Lock)] [] sz48 rfl rfl (fl_cons (one_one rfl) (fl_cons (one_av _ _ _) fl_nil)) hI rfl hA rfl rfl rfl rfl fun w hI => ?_
      refine o_nil ?_
      refine hN7 _ _ ?_
      refine w_reg ?_
      refine stp hA (r_mv hA rfl) rfl fun a hA => 
        stp hA (r_fd (k := 0) Tryd.underlying48 rfl sz22 hA rfl rfl) rfl fun a hA => 
        stp hA (r_ld1 (j := 0) [] [av .u8 32 ((x0.Outs.getD s2.toNat default).Lock)] Tryd.underlying22 rfl hI rfl hA rfl rfl) rfl fun a hA => ?_
      have hE1 : Els (RI .u64) 1 ([(x0.Outs.getD s2.toNat default).Value] : List Int) ([[.int .u64 ((x0.Outs.getD s2.toNat default).Value)]].flatten ++ ([])) := (Els.cons (c := [[.int .u64 ((x0.Outs.getD s2.toNat default).Value)]].flatten) ⟨rfl, hw1.1⟩ rfl Els.nil)
      refine o_bsl ([[.int .u64 ((x0.Outs.getD s2.toNat default).Value)]].flatten ++ ([])) te22 zr22 Tryd.underlying147 hI hA rfl rfl rfl rfl (by kernel_rfl) rfl fun g3 a w hA hI => ?_
      generalize hcs : ([[.int .u64 ((x0.Outs.getD s2.toNat default).Value)]].flatten ++ ([]) : List Value) = cs1 at hE1 hI
      clear hcs
      obtain ⟨hb2, H⟩ := bG H
      have hE3 := ws1.app hE1
      refine o_appL (xs := (s1 : List Int)) (ys := (([(x0.Outs.getD s2.toNat default).Value] : List Int) : List Int)) (j := 2) te22 Tryd.underlying147 hI rfl hA rfl rfl (src_row hI (j := 0) rfl) hE1.len (hE1.ones (one_RI _)) (by first | decide | (have hq := hb2; (try simp only [List.length_cons, List.length_nil] at hq); (try simp only [List.length_cons, List.length_nil]); (try simp only [maxLen]); omega)) (by first | decide | (have hq := hb2; (try simp only [List.length_cons, List.length_nil] at hq); (try simp only [List.length_cons, List.length_nil]); (try simp only [maxLen]); omega)) rfl fun v1 a w hA hI => 
        stp hA (r_as hA rfl) rfl fun a hA => ?_
      refine o_nil ?_
      refine hN6 _ _ ?_
      refine w_reg ?_
      refine stp hA (r_add hA rfl rfl) rfl fun a hA => 
        stp hA (r_mv hA rfl) rfl fun a hA => ?_
      refine o_nil ?_
      exact ⟨m1, Nat.lt_succ_self _, s1 ++ ([(x0.Outs.getD s2.toNat default).Value] : List Int), IntKind.i64.wrap (s2 + 1), v1, ccs1 ++ cs1, H, hE3, (wrap_in _ _), hA.sub ⟨rfl, rfl, rfl, rfl, rfl, rfl, rfl, trivial⟩, (hI.sel [2, 3] (by decide) rfl)⟩
    · have hc10 := hc1; have hc1 := of_decide_eq_false hc1; have H := bF H hc1
      refine w_exit rfl ?_
      have H : some s1 = some z1 := H
      obtain rfl := Option.some.inj H
      have H := Hk2
      cases Option.some.inj (bS H)
      exact ⟨vvs1, ccs1, ws1, hA.sub ⟨rfl, rfl, rfl, rfl, trivial⟩, hI⟩
  · rintro a w ⟨vvc1, ccc1, wc1, hA, hI⟩
    have H := Hk1
    refine w_seq fun _ hN8 => ?_
    refine w_reg ?_
    refine stp hA (r_mv hA rfl) rfl fun a hA => 
      stp hA (r_as hA rfl) rfl fun a hA => ?_
    refine o_nil ?_
    refine hN8 _ _ ?_
    refine w_ret ?_
    obtain rfl := Option.some.inj (bS H)
    exact ret1 hA Tryd.results107 rfl ⟨_, rfl, vvc1, ccc1, rfl, wc1, ((hI.sel [0] (by decide) rfl).less (Store.le.refl _) hI.le)⟩
set_option maxRecDepth 20000 in
theorem tx_Sum.c (μ : Store) (w0 : World) (hμ : Agr μ w0) (x0 : Tx) (u0_0 : Value) (u0_1 : Value) (hx0 : TxW μ x0 u0_0 u0_1) (r : Int × Bool) (H : tx_Sum.f x0 = some r) :
    Calls Tryd.prog 93 [.agg [[.int .u32 x0.Version], [u0_0], [u0_1], [.int .u32 x0.Time]].flatten.toArray].toArray w0 (fun e w' => ∃ v, e = .returned v ∧ v = .tuple #[.int .u64 r.1, .bool r.2] ∧ (InR .u64 r.1 ∧ True) ∧ Iv w0 [] μ μ [] w') := by
  refine enter Tryd.func93 rfl Tryd.ntmps93 rfl fun a hA => ?_
  have hI := Iv.start hμ
  have H := bI H
  refine w_seq fun _ hN1 => ?_
  refine w_reg ?_
  refine o_box [[.int .u32 x0.Version], [u0_0], [u0_1], [.int .u32 x0.Time]] hI hA rfl rfl rfl fun g1 a w hA hI hg1 => 
    stp hA (r_as hA rfl) rfl fun a hA => 
    stp hA (r_as hA rfl) rfl fun a hA => ?_
  refine o_nil ?_
  refine hN1 _ _ ?_
  refine w_seq fun _ hN2 => ?_
  refine w_reg ?_
  refine stp hA (r_ldA (j := 0) [] [[.int .u32 x0.Version], [u0_0], [u0_1], [.int .u32 x0.Time]] [] Tryd.underlying32 rfl sz32 rfl hI rfl hA rfl rfl) rfl fun a hA => ?_
  obtain ⟨r1, hr1, H⟩ := bB H
  refine o_call _ cf107 hA rfl (tx_values.c μ _ hI.agr x0 u0_0 u0_1 ⟨hx0.1, hx0.2.1, hx0.2.2.1, hx0.2.2.2⟩ r1 hr1) rfl fun v1 a w hz1 hA => ?_
  obtain ⟨_, cs1, rfl, hE1, hi1⟩ := hz1
  have hI := hI.call hi1
  obtain ⟨r2, hr2, H⟩ := bB H
  refine o_callp (u := .tuple #[.int .u64 r2.1, .bool r2.2]) cf106 hA rfl hI ((by obtain ⟨μ1, hle1, hsv1, hI⟩ := hI.freezeRow 0 rfl; have hS1 : Slc (RI .u64) 1 μ1 v1 r1 := ⟨_, hE1, hsv1⟩; exact low_plain hle1 (compact_Sum.c μ1 _ hI.agr r1 v1 hS1 r2 hr2))) rfl fun a w hz2 hI hA => 
    stp hA (r_extr (vs := [.int .u64 r2.1, .bool r2.2]) hA rfl rfl) rfl fun a hA => 
    stp hA (r_extr (vs := [.int .u64 r2.1, .bool r2.2]) hA rfl rfl) rfl fun a hA => 
    stp hA (r_as hA rfl) rfl fun a hA => 
    stp hA (r_as hA rfl) rfl fun a hA => ?_
  refine o_nil ?_
  refine hN2 _ _ ?_
  refine w_ret ?_
  obtain rfl := Option.some.inj (bS H)
  exact ret2 hA Tryd.results93 rfl rfl ⟨_, rfl, rfl, ⟨hz2.1, trivial⟩, hI.forget0⟩
set_option maxRecDepth 20000 in
theorem tx_twice.c (μ : Store) (w0 : World) (hμ : Agr μ w0) (x0 : Tx) (u0_0 : Value) (u0_1 : Value) (hx0 : TxW μ x0 u0_0 u0_1) (r : Bool) (H : tx_twice.f x0 = some r) :
    Calls Tryd.prog 94 [.agg [[.int .u32 x0.Version], [u0_0], [u0_1], [.int .u32 x0.Time]].flatten.toArray].toArray w0 (fun e w' => ∃ v, e = .returned v ∧ v = .bool r ∧ True ∧ Iv w0 [] μ μ [] w') := by
  refine enter Tryd.func94 rfl Tryd.ntmps94 rfl fun a hA => ?_
  have hI := Iv.start hμ
  have H := bI H
  refine w_seq fun _ hN1 => ?_
  refine w_reg ?_
  refine o_box [[.int .u32 x0.Version], [u0_0], [u0_1], [.int .u32 x0.Time]] hI hA rfl rfl rfl fun g1 a w hA hI hg1 => 
    stp hA (r_as hA rfl) rfl fun a hA => ?_
  refine o_nil ?_
  refine hN1 _ _ ?_
  refine w_seq fun _ hN2 => ?_
  refine w_reg ?_
  refine o_mkmap kv115 vv115 hI hA rfl fun g2 a w hI hA => 
    stp hA (r_as hA rfl) rfl fun a hA => ?_
  refine o_nil ?_
  refine hN2 _ _ ?_
  refine w_seq fun _ hN3 => ?_
  refine w_seq fun _ hN4 => ?_
  refine w_reg ?_
  refine stp hA (r_fd (k := 1) Tryd.underlying32 rfl sz29 hA rfl rfl) rfl fun a hA => 
    stp hA (r_ld1 (j := 1) [[.int .u32 x0.Version]] [[u0_1], [.int .u32 x0.Time]] Tryd.underlying29 rfl hI rfl hA rfl rfl) rfl fun a hA => ?_
  obtain ⟨_, hsl1⟩ := Slc.sv hx0.2.1
  refine stp hA (r_slen Tryd.underlying29 hsl1 hA rfl) rfl fun a hA => 
    stp hA (r_mv hA rfl) rfl fun a hA => ?_
  refine o_nil ?_
  refine hN4 _ _ ?_
  refine w_block ?_
  obtain ⟨z1, hz1, Hk1⟩ := bind_some H
  obtain ⟨n1, hn1⟩ := loopO_some hz1
  refine w_loop (fun n a w => ∃ (s1 : Int) (s2 : List (Point × Bool)), loopN (tx_twice.s0 x0) n (s1, s2) = some z1 ∧ InR .i64 s1 ∧ mw115 s2 ∧ Fr a 22 [(0, .agg [[.int .u32 x0.Version], [u0_0], [u0_1], [.int .u32 x0.Time]].flatten.toArray), (1, .pointer (some ⟨g1, 0, none⟩)), (2, .bool false), (3, .map (some g2)), (8, u0_0), (9, .int .i64 (x0.Ins.length : Int)), (10, .int .i64 s1)] ∧ Iv w0 [] μ μ [mpI g2 (ent kv115 vv115 s2), cel g1 [[.int .u32 x0.Version], [u0_0], [u0_1], [.int .u32 x0.Time]] 32] w) n1 ⟨0, ([] : List (Point × Bool)), hn1, (in_lit .i64 0 rfl), mw_nil, hA.sub ⟨rfl, rfl, rfl, rfl, rfl, rfl, rfl, trivial⟩, hI⟩ ?_
  clear hA hI
  rintro n a w ⟨s1, s2, hn1, ws1, ws2, hA, hI⟩
  obtain ⟨m1, rfl, H⟩ := loopN_bind hn1
  clear hn1
  refine w_seq fun _ hN5 => ?_
  refine w_reg ?_
  refine stp hA (r_lss hA rfl rfl) rfl fun a hA => ?_
  refine o_nil ?_
  refine hN5 _ _ ?_
  refine w_seq fun _ hN6 => ?_
  refine w_cond hA rfl (fun hc1 => ?_) (fun hc1 => ?_)
  · have hc10 := hc1; have hc1 := of_decide_eq_true hc1; have H := bT H hc1
    refine w_skip ?_
    refine hN6 _ _ ?_
    refine w_seq fun _ hN7 => ?_
    refine w_block ?_
    refine w_seq fun _ hN8 => ?_
    refine w_reg ?_
    obtain ⟨hb1, H⟩ := bG H
    obtain ⟨_, he1, _, hat1⟩ := Slc.elem hx0.2.1 (getD_some default hb1.1 hb1.2)
    obtain ⟨v1, rfl, hw1⟩ := he1
    obtain ⟨_, hsl2⟩ := Slc.sv hx0.2.1
    refine stp hA (r_six Tryd.underlying29 sz46 hsl2 hA rfl rfl hb1.1 hb1.2) rfl fun a hA => 
      stp hA (r_ldmA [] [av .u8 32 ((x0.Ins.getD s1.toNat default).From.Tx), [.int .u32 ((x0.Ins.getD s1.toNat default).From.N)], [v1], [.int .u32 ((x0.Ins.getD s1.toNat default).Seq)]] [] Tryd.underlying46 rfl sz46 rfl hI.agr hat1 hA rfl rfl) rfl fun a hA => 
      o_new [av .u8 32 (List.replicate 32 0), [.int .u32 0], [(.slice none 0 0)], [.int .u32 0]] zr46 hI hA rfl fun g3 a w hA hI hg3 => ?_
    obtain ⟨_, hsl3⟩ := Slc.sv hw1.2.2.1
    refine o_st (j := 0) [] [av .u8 32 (List.replicate 32 0), [.int .u32 0], [(.slice none 0 0)], [.int .u32 0]] [av .u8 32 ((x0.Ins.getD s1.toNat default).From.Tx), [.int .u32 ((x0.Ins.getD s1.toNat default).From.N)], [v1], [.int .u32 ((x0.Ins.getD s1.toNat default).Seq)]] [] sz46 rfl rfl (fl_cons (one_av _ _ _) (fl_cons (one_one rfl) (fl_cons (one_one (one_sl hsl3)) (fl_cons (one_one rfl) fl_nil)))) hI rfl hA rfl rfl rfl rfl fun w hI => ?_
    refine o_nil ?_
    refine hN8 _ _ ?_
    refine w_seq fun _ hN9 => ?_
    refine w_seq fun _ hN10 => ?_
    refine w_reg ?_
    refine stp hA (r_mv hA rfl) rfl fun a hA => 
      stp hA (r_fd (k := 0) Tryd.underlying46 rfl sz44 hA rfl rfl) rfl fun a hA => 
      stp hA (r_ldA (j := 0) [] [av .u8 32 ((x0.Ins.getD s1.toNat default).From.Tx), [.int .u32 ((x0.Ins.getD s1.toNat default).From.N)]] [[v1], [.int .u32 ((x0.Ins.getD s1.toNat default).Seq)]] Tryd.underlying44 rfl sz44 rfl hI rfl hA rfl rfl) rfl fun a hA => 
      stp hA (r_look (j := 1) kn115 Tryd.underlying115 mz115 ws2 ⟨hw1.1, hw1.2.1⟩ hI rfl hA rfl rfl) rfl fun a hA => ?_
    refine o_nil ?_
    refine hN10 _ _ ?_
    refine w_cond hA rfl (fun hc2 => ?_) (fun hc2 => ?_)
    · have hc20 := hc2; have H := bT H hc2
      refine w_seq fun _ hN11 => ?_
      refine w_reg ?_
      refine stp hA (r_as hA rfl) rfl fun a hA => ?_
      refine o_nil ?_
      refine hN11 _ _ ?_
      refine w_ret ?_
      have H : some true = some z1 := H
      obtain rfl := Option.some.inj H
      have H := Hk1
      obtain rfl := Option.some.inj (bS H)
      exact ret1 hA Tryd.results94 rfl ⟨_, rfl, rfl, trivial, hI.forget0⟩
    · have hc20 := hc2; have hc2 := ft hc2; have H := bF H hc2
      refine w_skip ?_
      refine hN9 _ _ ?_
      refine w_reg ?_
      refine stp hA (r_mv hA rfl) rfl fun a hA => 
        stp hA (r_fd (k := 0) Tryd.underlying46 rfl sz44 hA rfl rfl) rfl fun a hA => 
        stp hA (r_ldA (j := 0) [] [av .u8 32 ((x0.Ins.getD s1.toNat default).From.Tx), [.int .u32 ((x0.Ins.getD s1.toNat default).From.N)]] [[v1], [.int .u32 ((x0.Ins.getD s1.toNat default).Seq)]] Tryd.underlying44 rfl sz44 rfl hI rfl hA rfl rfl) rfl fun a hA => 
        o_mput (j := 1) (k := ((x0.Ins.getD s1.toNat default).From)) true kn115 Tryd.underlying115 ws2 ⟨hw1.1, hw1.2.1⟩ hI rfl hA rfl rfl rfl fun w hI => ?_
      refine o_nil ?_
      refine hN7 _ _ ?_
      refine w_reg ?_
      refine stp hA (r_add hA rfl rfl) rfl fun a hA => 
        stp hA (r_mv hA rfl) rfl fun a hA => ?_
      refine o_nil ?_
      exact ⟨m1, Nat.lt_succ_self _, IntKind.i64.wrap (s1 + 1), mput s2 ((x0.Ins.getD s1.toNat default).From) true, H, (wrap_in _ _), (MW.put ws2 ⟨hw1.1, hw1.2.1⟩ trivial), hA.sub ⟨rfl, rfl, rfl, rfl, rfl, rfl, rfl, trivial⟩, (hI.sel [1, 2] (by decide) rfl)⟩
  · have hc10 := hc1; have hc1 := of_decide_eq_false hc1; have H := bF H hc1
    refine w_exit rfl ?_
    refine hN3 _ _ ?_
    refine w_seq fun _ hN12 => ?_
    refine w_reg ?_
    refine stp hA (r_as hA rfl) rfl fun a hA => ?_
    refine o_nil ?_
    refine hN12 _ _ ?_
    refine w_ret ?_
    have H : some false = some z1 := H
    obtain rfl := Option.some.inj H
    have H := Hk1
    obtain rfl := Option.some.inj (bS H)
    exact ret1 hA Tryd.results94 rfl ⟨_, rfl, rfl, trivial, hI.forget0⟩
set_option maxRecDepth 20000 in
theorem tx_Base.c (μ : Store) (w0 : World) (hμ : Agr μ w0) (x0 : Tx) (u0_0 : Value) (u0_1 : Value) (hx0 : TxW μ x0 u0_0 u0_1) (r : Bool) (H : tx_Base.f x0 = some r) :
    Calls Tryd.prog 73 [.agg [[.int .u32 x0.Version], [u0_0], [u0_1], [.int .u32 x0.Time]].flatten.toArray].toArray w0 (fun e w' => ∃ v, e = .returned v ∧ v = .bool r ∧ True ∧ Iv w0 [] μ μ [] w') := by
  refine enter Tryd.func73 rfl Tryd.ntmps73 rfl fun a hA => ?_
  have hI := Iv.start hμ
  have H := bI H
  refine w_seq fun _ hN1 => ?_
  refine w_reg ?_
  refine o_box [[.int .u32 x0.Version], [u0_0], [u0_1], [.int .u32 x0.Time]] hI hA rfl rfl rfl fun g1 a w hA hI hg1 => 
    stp hA (r_as hA rfl) rfl fun a hA => ?_
  refine o_nil ?_
  refine hN1 _ _ ?_
  obtain ⟨c1, hz1, Hk1⟩ := bB H
  refine w_cut (fun a w => Fr a 15 [(0, .agg [[.int .u32 x0.Version], [u0_0], [u0_1], [.int .u32 x0.Time]].flatten.toArray), (1, .pointer (some ⟨g1, 0, none⟩)), (2, .bool c1)] ∧ Iv w0 [] μ μ [cel g1 [[.int .u32 x0.Version], [u0_0], [u0_1], [.int .u32 x0.Time]] 32] w) ?_ ?_
  · have H := bI hz1
    refine w_reg ?_
    refine stp hA (r_fd (k := 1) Tryd.underlying32 rfl sz29 hA rfl rfl) rfl fun a hA => 
      stp hA (r_ld1 (j := 0) [[.int .u32 x0.Version]] [[u0_1], [.int .u32 x0.Time]] Tryd.underlying29 rfl hI rfl hA rfl rfl) rfl fun a hA => ?_
    obtain ⟨_, hsl1⟩ := Slc.sv hx0.2.1
    refine stp hA (r_slen Tryd.underlying29 hsl1 hA rfl) rfl fun a hA => 
      stp hA (r_eql hA rfl rfl) rfl fun a hA => 
      stp hA (r_mv hA rfl) rfl fun a hA => ?_
    rcases Bool.eq_false_or_eq_true (decide ((x0.Ins.length : Int) = 1)) with hc1 | hc1
    · have hc10 := hc1; have hc1 := of_decide_eq_true hc1; have H := bT H hc1
      refine o_yes hA rfl rfl hc10 <| 
        stp hA (r_fd (k := 1) Tryd.underlying32 rfl sz29 hA rfl rfl) rfl fun a hA => 
        o_yes hA rfl rfl hc10 <| 
        stp hA (r_ld1 (j := 0) [[.int .u32 x0.Version]] [[u0_1], [.int .u32 x0.Time]] Tryd.underlying29 rfl hI rfl hA rfl rfl) rfl fun a hA => 
        o_yes hA rfl rfl hc10 <| ?_
      obtain ⟨hb1, H⟩ := bG H
      obtain ⟨_, he1, _, hat1⟩ := Slc.elem hx0.2.1 (getD_some default (by decide) hb1)
      obtain ⟨v1, rfl, hw1⟩ := he1
      obtain ⟨_, hsl2⟩ := Slc.sv hx0.2.1
      refine stp hA (r_six Tryd.underlying29 sz46 hsl2 hA rfl rfl (by decide) hb1) rfl fun a hA => 
        o_yes hA rfl rfl hc10 <| 
        stp hA (r_fd (k := so u0_0 + (0 : Int).toNat * 35) Tryd.underlying46 rfl sz44 hA rfl rfl) rfl fun a hA => 
        o_yes hA rfl rfl hc10 <| 
        stp hA (r_ldmA [] [av .u8 32 ((x0.Ins.getD (0 : Int).toNat default).From.Tx), [.int .u32 ((x0.Ins.getD (0 : Int).toNat default).From.N)]] [[v1], [.int .u32 ((x0.Ins.getD (0 : Int).toNat default).Seq)]] Tryd.underlying44 rfl sz44 rfl hI.agr hat1 hA rfl rfl) rfl fun a hA => 
        o_yes hA rfl rfl hc10 <| ?_
      obtain ⟨r1, hr1, H⟩ := bB H
      refine o_callp (u := .bool r1) cf96 hA rfl hI (spend_IsNull.c μ _ hI.agr ((x0.Ins.getD (0 : Int).toNat default).From) ⟨hw1.1, hw1.2.1⟩ r1 hr1) rfl fun a w hz2 hI hA => 
        stp hA (r_pick_t hA rfl hc10 rfl) rfl fun a hA => 
        stp hA (r_as hA rfl) rfl fun a hA => ?_
      refine o_nil ?_
      cases Option.some.inj (bS H)
      exact ⟨hA.sub ⟨rfl, rfl, rfl, trivial⟩, hI⟩
    · have hc10 := hc1; have hc1 := of_decide_eq_false hc1; have H := bF H hc1
      refine o_no hA rfl rfl (by rw [hc10]; simp [vb]) rfl fun a hA => 
        o_no hA rfl rfl (by rw [hc10]; simp [vb]) rfl fun a hA => 
        o_no hA rfl rfl (by rw [hc10]; simp [vb]) rfl fun a hA => 
        o_no hA rfl rfl (by rw [hc10]; simp [vb]) rfl fun a hA => 
        o_no hA rfl rfl (by rw [hc10]; simp [vb]) rfl fun a hA => 
        o_no hA rfl rfl (by rw [hc10]; simp [vb]) rfl fun a hA => 
        stp hA (r_pick_f hA rfl hc10 rfl) rfl fun a hA => 
        stp hA (r_as hA rfl) rfl fun a hA => ?_
      refine o_nil ?_
      cases Option.some.inj (bS H)
      exact ⟨hA.sub ⟨rfl, rfl, rfl, trivial⟩, hI⟩
  · rintro a w ⟨hA, hI⟩
    have H := Hk1
    refine w_ret ?_
    obtain rfl := Option.some.inj (bS H)
    exact ret1 hA Tryd.results73 rfl ⟨_, rfl, rfl, trivial, hI.forget0⟩
set_option maxRecDepth 20000 in
theorem tx_base_1.c (μ : Store) (w0 : World) (hμ : Agr μ w0) (x0 : In) (u0_0 : Value) (hx0 : InW μ x0 u0_0) (r : Bool) (H : tx_base_1.f x0 = some r) :
    Calls Tryd.prog 108 [.agg [av .u8 32 x0.From.Tx, [.int .u32 x0.From.N], [u0_0], [.int .u32 x0.Seq]].flatten.toArray].toArray w0 (fun e w' => ∃ v, e = .returned v ∧ v = .bool r ∧ True ∧ Iv w0 [] μ μ [] w') := by
  refine enter Tryd.func108 rfl Tryd.ntmps108 rfl fun a hA => ?_
  have hI := Iv.start hμ
  have H := bI H
  refine w_seq fun _ hN1 => ?_
  refine w_reg ?_
  refine o_box [av .u8 32 x0.From.Tx, [.int .u32 x0.From.N], [u0_0], [.int .u32 x0.Seq]] hI hA rfl rfl rfl fun g1 a w hA hI hg1 => 
    stp hA (r_as hA rfl) rfl fun a hA => ?_
  refine o_nil ?_
  refine hN1 _ _ ?_
  refine w_seq fun _ hN2 => ?_
  refine w_reg ?_
  refine stp hA (r_fd (k := 0) Tryd.underlying46 rfl sz44 hA rfl rfl) rfl fun a hA => 
    stp hA (r_ldA (j := 0) [] [av .u8 32 x0.From.Tx, [.int .u32 x0.From.N]] [[u0_0], [.int .u32 x0.Seq]] Tryd.underlying44 rfl sz44 rfl hI rfl hA rfl rfl) rfl fun a hA => ?_
  obtain ⟨r1, hr1, H⟩ := bB H
  refine o_callp (u := .bool r1) cf96 hA rfl hI (spend_IsNull.c μ _ hI.agr x0.From ⟨hx0.1, hx0.2.1⟩ r1 hr1) rfl fun a w hz1 hI hA => 
    stp hA (r_as hA rfl) rfl fun a hA => ?_
  refine o_nil ?_
  refine hN2 _ _ ?_
  refine w_ret ?_
  obtain rfl := Option.some.inj (bS H)
  exact ret1 hA Tryd.results108 rfl ⟨_, rfl, rfl, trivial, hI.forget0⟩
set_option maxRecDepth 20000 in
theorem slices_IndexFunc_api_In_api_In_at_tx_base_1.c (μ : Store) (w0 : World) (hμ : Agr μ w0) (x0 : List In) (u0 : Value) (hx0 : Slc (RIn μ) 35 μ u0 x0) (r : Int) (H : slices_IndexFunc_api_In_api_In_at_tx_base_1.f x0 = some r) :
    Calls Tryd.prog 105 [u0, .func (.func 108) #[] #[]].toArray w0 (fun e w' => ∃ v, e = .returned v ∧ v = .int .i64 r ∧ InR .i64 r ∧ Iv w0 [] μ μ [] w') := by
  refine enter Tryd.func105 rfl Tryd.ntmps105 rfl fun a hA => ?_
  have hI := Iv.start hμ
  have H := bI H
  refine w_seq fun _ hN1 => ?_
  refine w_reg ?_
  refine stp hA (r_as hA rfl) rfl fun a hA => ?_
  refine o_nil ?_
  refine hN1 _ _ ?_
  refine w_seq fun _ hN2 => ?_
  refine w_seq fun _ hN3 => ?_
  refine w_reg ?_
  refine stp hA (r_mv hA rfl) rfl fun a hA => ?_
  obtain ⟨_, hsl1⟩ := Slc.sv hx0
  refine stp hA (r_slen Tryd.underlying29 hsl1 hA rfl) rfl fun a hA => 
    stp hA (r_mv hA rfl) rfl fun a hA => ?_
  refine o_nil ?_
  refine hN3 _ _ ?_
  refine w_block ?_
  obtain ⟨z1, hz1, Hk1⟩ := bind_some H
  obtain ⟨n1, hn1⟩ := loopO_some hz1
  refine w_loop (fun n a w => ∃ (s1 : Int), loopN (slices_IndexFunc_api_In_api_In_at_tx_base_1.s0 x0) n s1 = some z1 ∧ InR .i64 s1 ∧ Fr a 19 [(0, u0), (1, .func (.func 108) #[] #[]), (4, .int .i64 0), (7, .int .i64 (x0.length : Int)), (8, .int .i64 s1)] ∧ Iv w0 [] μ μ [] w) n1 ⟨0, hn1, (in_lit .i64 0 rfl), hA.sub ⟨rfl, rfl, rfl, rfl, rfl, trivial⟩, hI⟩ ?_
  clear hA hI
  rintro n a w ⟨s1, hn1, ws1, hA, hI⟩
  obtain ⟨m1, rfl, H⟩ := loopN_bind hn1
  clear hn1
  refine w_seq fun _ hN4 => ?_
  refine w_reg ?_
  refine stp hA (r_lss hA rfl rfl) rfl fun a hA => ?_
  refine o_nil ?_
  refine hN4 _ _ ?_
  refine w_seq fun _ hN5 => ?_
  refine w_cond hA rfl (fun hc1 => ?_) (fun hc1 => ?_)
  · have hc10 := hc1; have hc1 := of_decide_eq_true hc1; have H := bT H hc1
    refine w_skip ?_
    refine hN5 _ _ ?_
    refine w_seq fun _ hN6 => ?_
    refine w_block ?_
    refine w_seq fun _ hN7 => ?_
    refine w_reg ?_
    refine stp hA (r_mv hA rfl) rfl fun a hA => 
      stp hA (r_as hA rfl) rfl fun a hA => ?_
    refine o_nil ?_
    refine hN7 _ _ ?_
    refine w_seq fun _ hN8 => ?_
    refine w_reg ?_
    refine stp hA (r_mv hA rfl) rfl fun a hA => 
      stp hA (r_mv hA rfl) rfl fun a hA => 
      stp hA (r_mv hA rfl) rfl fun a hA => ?_
    obtain ⟨hb1, H⟩ := bG H
    obtain ⟨_, he1, _, hat1⟩ := Slc.elem hx0 (getD_some default hb1.1 hb1.2)
    obtain ⟨v1, rfl, hw1⟩ := he1
    obtain ⟨_, hsl2⟩ := Slc.sv hx0
    refine stp hA (r_six Tryd.underlying29 sz46 hsl2 hA rfl rfl hb1.1 hb1.2) rfl fun a hA => 
      stp hA (r_ldmA [] [av .u8 32 ((x0.getD s1.toNat default).From.Tx), [.int .u32 ((x0.getD s1.toNat default).From.N)], [v1], [.int .u32 ((x0.getD s1.toNat default).Seq)]] [] Tryd.underlying46 rfl sz46 rfl hI.agr hat1 hA rfl rfl) rfl fun a hA => ?_
    obtain ⟨r1, hr1, H⟩ := bB H
    refine o_callpc (u := .bool r1) cf108 hA rfl rfl hI (tx_base_1.c μ _ hI.agr (x0.getD s1.toNat default) v1 ⟨hw1.1, hw1.2.1, hw1.2.2.1, hw1.2.2.2⟩ r1 hr1) rfl fun a w hz2 hI hA => ?_
    refine o_nil ?_
    refine hN8 _ _ ?_
    refine w_cond hA rfl (fun hc2 => ?_) (fun hc2 => ?_)
    · have hc20 := hc2; have H := bT H hc2
      refine w_seq fun _ hN9 => ?_
      refine w_reg ?_
      refine stp hA (r_mv hA rfl) rfl fun a hA => 
        stp hA (r_as hA rfl) rfl fun a hA => ?_
      refine o_nil ?_
      refine hN9 _ _ ?_
      refine w_ret ?_
      have H : some s1 = some z1 := H
      obtain rfl := Option.some.inj H
      have H := Hk1
      obtain rfl := Option.some.inj (bS H)
      exact ret1 hA Tryd.results105 rfl ⟨_, rfl, rfl, ws1, hI.forget0⟩
    · have hc20 := hc2; have hc2 := ft hc2; have H := bF H hc2
      refine w_skip ?_
      refine hN6 _ _ ?_
      refine w_reg ?_
      refine stp hA (r_add hA rfl rfl) rfl fun a hA => 
        stp hA (r_mv hA rfl) rfl fun a hA => ?_
      refine o_nil ?_
      exact ⟨m1, Nat.lt_succ_self _, IntKind.i64.wrap (s1 + 1), H, (wrap_in _ _), hA.sub ⟨rfl, rfl, rfl, rfl, rfl, trivial⟩, hI⟩
  · have hc10 := hc1; have hc1 := of_decide_eq_false hc1; have H := bF H hc1
    refine w_exit rfl ?_
    refine hN2 _ _ ?_
    refine w_seq fun _ hN10 => ?_
    refine w_reg ?_
    refine stp hA (r_as hA rfl) rfl fun a hA => ?_
    refine o_nil ?_
    refine hN10 _ _ ?_
    refine w_ret ?_
    have H : some (-1) = some z1 := H
    obtain rfl := Option.some.inj H
    have H := Hk1
    obtain rfl := Option.some.inj (bS H)
    exact ret1 hA Tryd.results105 rfl ⟨_, rfl, rfl, (in_lit .i64 (-1) rfl), hI.forget0⟩
set_option maxRecDepth 20000 in
theorem slices_ContainsFunc_api_In_api_In_at_tx_base_1.c (μ : Store) (w0 : World) (hμ : Agr μ w0) (x0 : List In) (u0 : Value) (hx0 : Slc (RIn μ) 35 μ u0 x0) (r : Bool) (H : slices_ContainsFunc_api_In_api_In_at_tx_base_1.f x0 = some r) :
    Calls Tryd.prog 91 [u0, .func (.func 108) #[] #[]].toArray w0 (fun e w' => ∃ v, e = .returned v ∧ v = .bool r ∧ True ∧ Iv w0 [] μ μ [] w') := by
  refine enter Tryd.func91 rfl Tryd.ntmps91 rfl fun a hA => ?_
  have hI := Iv.start hμ
  have H := bI H
  refine w_seq fun _ hN1 => ?_
  refine w_reg ?_
  refine stp hA (r_as hA rfl) rfl fun a hA => ?_
  refine o_nil ?_
  refine hN1 _ _ ?_
  refine w_seq fun _ hN2 => ?_
  refine w_reg ?_
  refine stp hA (r_mv hA rfl) rfl fun a hA => 
    stp hA (r_mv hA rfl) rfl fun a hA => ?_
  obtain ⟨r1, hr1, H⟩ := bB H
  refine o_callp (u := .int .i64 r1) cf105 hA rfl hI (slices_IndexFunc_api_In_api_In_at_tx_base_1.c μ _ hI.agr x0 u0 hx0 r1 hr1) rfl fun a w hz1 hI hA => 
    stp hA (r_geq hA rfl rfl) rfl fun a hA => 
    stp hA (r_as hA rfl) rfl fun a hA => ?_
  refine o_nil ?_
  refine hN2 _ _ ?_
  refine w_ret ?_
  obtain rfl := Option.some.inj (bS H)
  exact ret1 hA Tryd.results91 rfl ⟨_, rfl, rfl, trivial, hI.forget0⟩
set_option maxRecDepth 20000 in
theorem tx_base.c (μ : Store) (w0 : World) (hμ : Agr μ w0) (x0 : Tx) (u0_0 : Value) (u0_1 : Value) (hx0 : TxW μ x0 u0_0 u0_1) (e6 : Value) (he6 : ErS μ e6 (Er.b 7)) (r : Er) (H : tx_base.f x0 = some r) :
    Calls Tryd.prog 95 [.agg [[.int .u32 x0.Version], [u0_0], [u0_1], [.int .u32 x0.Time]].flatten.toArray].toArray w0 (fun e w' => ∃ v, e = .returned v ∧ ∃ (v0 : Value) (μ' : Store), v = v0 ∧ ErS μ' v0 r ∧ Iv w0 [] μ μ' [] w') := by
  refine enter Tryd.func95 rfl Tryd.ntmps95 rfl fun a hA => ?_
  have hI := Iv.start hμ
  have H := bI H
  refine w_seq fun _ hN1 => ?_
  refine w_reg ?_
  refine o_box [[.int .u32 x0.Version], [u0_0], [u0_1], [.int .u32 x0.Time]] hI hA rfl rfl rfl fun g1 a w hA hI hg1 => 
    stp hA (r_as hA rfl) rfl fun a hA => ?_
  refine o_nil ?_
  refine hN1 _ _ ?_
  refine w_seq fun _ hN2 => ?_
  refine w_seq fun _ hN3 => ?_
  refine w_reg ?_
  refine stp hA (r_ldA (j := 0) [] [[.int .u32 x0.Version], [u0_0], [u0_1], [.int .u32 x0.Time]] [] Tryd.underlying32 rfl sz32 rfl hI rfl hA rfl rfl) rfl fun a hA => ?_
  obtain ⟨r1, hr1, H⟩ := bB H
  refine o_callp (u := .bool r1) cf73 hA rfl hI (tx_Base.c μ _ hI.agr x0 u0_0 u0_1 ⟨hx0.1, hx0.2.1, hx0.2.2.1, hx0.2.2.2⟩ r1 hr1) rfl fun a w hz1 hI hA => ?_
  refine o_nil ?_
  refine hN3 _ _ ?_
  refine w_cond hA rfl (fun hc1 => ?_) (fun hc1 => ?_)
  · have hc10 := hc1; have H := bT H hc1
    refine w_seq fun _ hN4 => ?_
    refine w_seq fun _ hN5 => ?_
    refine w_reg ?_
    refine stp hA (r_fd (k := 1) Tryd.underlying32 rfl sz29 hA rfl rfl) rfl fun a hA => 
      stp hA (r_ld1 (j := 0) [[.int .u32 x0.Version]] [[u0_1], [.int .u32 x0.Time]] Tryd.underlying29 rfl hI rfl hA rfl rfl) rfl fun a hA => ?_
    obtain ⟨hb1, H⟩ := bG H
    obtain ⟨_, he1, _, hat1⟩ := Slc.elem hx0.2.1 (getD_some default (by decide) hb1)
    obtain ⟨v1, rfl, hw1⟩ := he1
    obtain ⟨_, hsl1⟩ := Slc.sv hx0.2.1
    refine stp hA (r_six Tryd.underlying29 sz46 hsl1 hA rfl rfl (by decide) hb1) rfl fun a hA => 
      stp hA (r_fd (k := so u0_0 + (0 : Int).toNat * 35 + 33) Tryd.underlying46 rfl sz25 hA rfl rfl) rfl fun a hA => 
      stp hA (r_ldm1 [av .u8 32 ((x0.Ins.getD (0 : Int).toNat default).From.Tx), [.int .u32 ((x0.Ins.getD (0 : Int).toNat default).From.N)]] [[.int .u32 ((x0.Ins.getD (0 : Int).toNat default).Seq)]] Tryd.underlying25 rfl hI.agr hat1 hA rfl rfl) rfl fun a hA => ?_
    obtain ⟨_, hsl2⟩ := Slc.sv hw1.2.2.1
    refine stp hA (r_slen Tryd.underlying25 hsl2 hA rfl) rfl fun a hA => 
      stp hA (r_lss hA rfl rfl) rfl fun a hA => ?_
    refine o_nil ?_
    refine hN5 _ _ ?_
    refine w_cond hA rfl (fun hc2 => ?_) (fun hc2 => ?_)
    · have hc20 := hc2; have hc2 := of_decide_eq_true hc2; have H := bT H hc2
      refine w_seq fun _ hN6 => ?_
      refine w_reg ?_
      refine stp hA (r_ldG Tryd.underlying51 rfl hI.agr he6 hA) rfl fun a hA => 
        stp hA (r_as hA rfl) rfl fun a hA => ?_
      refine o_nil ?_
      refine hN6 _ _ ?_
      refine w_ret ?_
      obtain rfl := Option.some.inj (bS H)
      exact ret1 hA Tryd.results95 rfl ⟨_, rfl, e6, μ, rfl, he6, (hI.sel [] (by decide) rfl)⟩
    · have hc20 := hc2; have hc2 := of_decide_eq_false hc2; have H := bF H hc2
      refine w_skip ?_
      refine hN4 _ _ ?_
      refine w_seq fun _ hN7 => ?_
      refine w_reg ?_
      refine stp hA (r_as hA rfl) rfl fun a hA => ?_
      refine o_nil ?_
      refine hN7 _ _ ?_
      refine w_ret ?_
      obtain rfl := Option.some.inj (bS H)
      exact ret1 hA Tryd.results95 rfl ⟨_, rfl, .nilIface, μ, rfl, erv_nil, (hI.sel [] (by decide) rfl)⟩
  · have hc10 := hc1; have hc1 := ft hc1; have H := bF H hc1
    refine w_skip ?_
    refine hN2 _ _ ?_
    refine w_seq fun _ hN8 => ?_
    refine w_seq fun _ hN9 => ?_
    refine w_reg ?_
    refine stp hA (r_fd (k := 1) Tryd.underlying32 rfl sz29 hA rfl rfl) rfl fun a hA => 
      stp hA (r_ld1 (j := 0) [[.int .u32 x0.Version]] [[u0_1], [.int .u32 x0.Time]] Tryd.underlying29 rfl hI rfl hA rfl rfl) rfl fun a hA => ?_
    obtain ⟨r2, hr2, H⟩ := bB H
    refine o_callp (u := .bool r2) cf91 hA rfl hI (slices_ContainsFunc_api_In_api_In_at_tx_base_1.c μ _ hI.agr x0.Ins u0_0 hx0.2.1 r2 hr2) rfl fun a w hz2 hI hA => ?_
    refine o_nil ?_
    refine hN9 _ _ ?_
    refine w_cond hA rfl (fun hc3 => ?_) (fun hc3 => ?_)
    · have hc30 := hc3; have H := bT H hc3
      refine w_seq fun _ hN10 => ?_
      refine w_reg ?_
      refine stp hA (r_ldG Tryd.underlying51 rfl hI.agr he6 hA) rfl fun a hA => 
        stp hA (r_as hA rfl) rfl fun a hA => ?_
      refine o_nil ?_
      refine hN10 _ _ ?_
      refine w_ret ?_
      obtain rfl := Option.some.inj (bS H)
      exact ret1 hA Tryd.results95 rfl ⟨_, rfl, e6, μ, rfl, he6, (hI.sel [] (by decide) rfl)⟩
    · have hc30 := hc3; have hc3 := ft hc3; have H := bF H hc3
      refine w_skip ?_
      refine hN8 _ _ ?_
      refine w_seq fun _ hN11 => ?_
      refine w_reg ?_
      refine stp hA (r_as hA rfl) rfl fun a hA => ?_
      refine o_nil ?_
      refine hN11 _ _ ?_
      refine w_ret ?_
      obtain rfl := Option.some.inj (bS H)
      exact ret1 hA Tryd.results95 rfl ⟨_, rfl, .nilIface, μ, rfl, erv_nil, (hI.sel [] (by decide) rfl)⟩
set_option maxRecDepth 20000 in
theorem slices_IndexFunc_api_In_api_In_at_tx_Check_1.c (μ : Store) (w0 : World) (hμ : Agr μ w0) (x0 : List In) (u0 : Value) (hx0 : Slc (RIn μ) 35 μ u0 x0) (r : Int) (H : slices_IndexFunc_api_In_api_In_at_tx_Check_1.f x0 = some r) :
    Calls Tryd.prog 105 [u0, .func (.func 92) #[] #[]].toArray w0 (fun e w' => ∃ v, e = .returned v ∧ v = .int .i64 r ∧ InR .i64 r ∧ Iv w0 [] μ μ [] w') := by
  refine enter Tryd.func105 rfl Tryd.ntmps105 rfl fun a hA => ?_
  have hI := Iv.start hμ
  have H := bI H
  refine w_seq fun _ hN1 => ?_
  refine w_reg ?_
  refine stp hA (r_as hA rfl) rfl fun a hA => ?_
  refine o_nil ?_
  refine hN1 _ _ ?_
  refine w_seq fun _ hN2 => ?_
  refine w_seq fun _ hN3 => ?_
  refine w_reg ?_
  refine stp hA (r_mv hA rfl) rfl fun a hA => ?_
  obtain ⟨_, hsl1⟩ := Slc.sv hx0
  refine stp hA (r_slen Tryd.underlying29 hsl1 hA rfl) rfl fun a hA => 
    stp hA (r_mv hA rfl) rfl fun a hA => ?_
  refine o_nil ?_
  refine hN3 _ _ ?_
  refine w_block ?_
  obtain ⟨z1, hz1, Hk1⟩ := bind_some H
  obtain ⟨n1, hn1⟩ := loopO_some hz1
  refine w_loop (fun n a w => ∃ (s1 : Int), loopN (slices_IndexFunc_api_In_api_In_at_tx_Check_1.s0 x0) n s1 = some z1 ∧ InR .i64 s1 ∧ Fr a 19 [(0, u0), (1, .func (.func 92) #[] #[]), (4, .int .i64 0), (7, .int .i64 (x0.length : Int)), (8, .int .i64 s1)] ∧ Iv w0 [] μ μ [] w) n1 ⟨0, hn1, (in_lit .i64 0 rfl), hA.sub ⟨rfl, rfl, rfl, rfl, rfl, trivial⟩, hI⟩ ?_
  clear hA hI
  rintro n a w ⟨s1, hn1, ws1, hA, hI⟩
  obtain ⟨m1, rfl, H⟩ := loopN_bind hn1
  clear hn1
  refine w_seq fun _ hN4 => ?_
  refine w_reg ?_
  refine stp hA (r_lss hA rfl rfl) rfl fun a hA => ?_
  refine o_nil ?_
  refine hN4 _ _ ?_
  refine w_seq fun _ hN5 => ?_
  refine w_cond hA rfl (fun hc1 => ?_) (fun hc1 => ?_)
  · have hc10 := hc1; have hc1 := of_decide_eq_true hc1; have H := bT H hc1
    refine w_skip ?_
    refine hN5 _ _ ?_
    refine w_seq fun _ hN6 => ?_
    refine w_block ?_
    refine w_seq fun _ hN7 => ?_
    refine w_reg ?_
    refine stp hA (r_mv hA rfl) rfl fun a hA => 
      stp hA (r_as hA rfl) rfl fun a hA => ?_
    refine o_nil ?_
    refine hN7 _ _ ?_
    refine w_seq fun _ hN8 => ?_
    refine w_reg ?_
    refine stp hA (r_mv hA rfl) rfl fun a hA => 
      stp hA (r_mv hA rfl) rfl fun a hA => 
      stp hA (r_mv hA rfl) rfl fun a hA => ?_
    obtain ⟨hb1, H⟩ := bG H
    obtain ⟨_, he1, _, hat1⟩ := Slc.elem hx0 (getD_some default hb1.1 hb1.2)
    obtain ⟨v1, rfl, hw1⟩ := he1
    obtain ⟨_, hsl2⟩ := Slc.sv hx0
    refine stp hA (r_six Tryd.underlying29 sz46 hsl2 hA rfl rfl hb1.1 hb1.2) rfl fun a hA => 
      stp hA (r_ldmA [] [av .u8 32 ((x0.getD s1.toNat default).From.Tx), [.int .u32 ((x0.getD s1.toNat default).From.N)], [v1], [.int .u32 ((x0.getD s1.toNat default).Seq)]] [] Tryd.underlying46 rfl sz46 rfl hI.agr hat1 hA rfl rfl) rfl fun a hA => ?_
    obtain ⟨r1, hr1, H⟩ := bB H
    refine o_callpc (u := .bool r1) cf92 hA rfl rfl hI (tx_Check_1.c μ _ hI.agr (x0.getD s1.toNat default) v1 ⟨hw1.1, hw1.2.1, hw1.2.2.1, hw1.2.2.2⟩ r1 hr1) rfl fun a w hz2 hI hA => ?_
    refine o_nil ?_
    refine hN8 _ _ ?_
    refine w_cond hA rfl (fun hc2 => ?_) (fun hc2 => ?_)
    · have hc20 := hc2; have H := bT H hc2
      refine w_seq fun _ hN9 => ?_
      refine w_reg ?_
      refine stp hA (r_mv hA rfl) rfl fun a hA => 
        stp hA (r_as hA rfl) rfl fun a hA => ?_
      refine o_nil ?_
      refine hN9 _ _ ?_
      refine w_ret ?_
      have H : some s1 = some z1 := H
      obtain rfl := Option.some.inj H
      have H := Hk1
      obtain rfl := Option.some.inj (bS H)
      exact ret1 hA Tryd.results105 rfl ⟨_, rfl, rfl, ws1, hI.forget0⟩
    · have hc20 := hc2; have hc2 := ft hc2; have H := bF H hc2
      refine w_skip ?_
      refine hN6 _ _ ?_
      refine w_reg ?_
      refine stp hA (r_add hA rfl rfl) rfl fun a hA => 
        stp hA (r_mv hA rfl) rfl fun a hA => ?_
      refine o_nil ?_
      exact ⟨m1, Nat.lt_succ_self _, IntKind.i64.wrap (s1 + 1), H, (wrap_in _ _), hA.sub ⟨rfl, rfl, rfl, rfl, rfl, trivial⟩, hI⟩
  · have hc10 := hc1; have hc1 := of_decide_eq_false hc1; have H := bF H hc1
    refine w_exit rfl ?_
    refine hN2 _ _ ?_
    refine w_seq fun _ hN10 => ?_
    refine w_reg ?_
    refine stp hA (r_as hA rfl) rfl fun a hA => ?_
    refine o_nil ?_
    refine hN10 _ _ ?_
    refine w_ret ?_
    have H : some (-1) = some z1 := H
    obtain rfl := Option.some.inj H
    have H := Hk1
    obtain rfl := Option.some.inj (bS H)
    exact ret1 hA Tryd.results105 rfl ⟨_, rfl, rfl, (in_lit .i64 (-1) rfl), hI.forget0⟩
set_option maxRecDepth 20000 in
theorem slices_ContainsFunc_api_In_api_In_at_tx_Check_1.c (μ : Store) (w0 : World) (hμ : Agr μ w0) (x0 : List In) (u0 : Value) (hx0 : Slc (RIn μ) 35 μ u0 x0) (r : Bool) (H : slices_ContainsFunc_api_In_api_In_at_tx_Check_1.f x0 = some r) :
    Calls Tryd.prog 91 [u0, .func (.func 92) #[] #[]].toArray w0 (fun e w' => ∃ v, e = .returned v ∧ v = .bool r ∧ True ∧ Iv w0 [] μ μ [] w') := by
  refine enter Tryd.func91 rfl Tryd.ntmps91 rfl fun a hA => ?_
  have hI := Iv.start hμ
  have H := bI H
  refine w_seq fun _ hN1 => ?_
  refine w_reg ?_
  refine stp hA (r_as hA rfl) rfl fun a hA => ?_
  refine o_nil ?_
  refine hN1 _ _ ?_
  refine w_seq fun _ hN2 => ?_
  refine w_reg ?_
  refine stp hA (r_mv hA rfl) rfl fun a hA => 
    stp hA (r_mv hA rfl) rfl fun a hA => ?_
  obtain ⟨r1, hr1, H⟩ := bB H
  refine o_callp (u := .int .i64 r1) cf105 hA rfl hI (slices_IndexFunc_api_In_api_In_at_tx_Check_1.c μ _ hI.agr x0 u0 hx0 r1 hr1) rfl fun a w hz1 hI hA => 
    stp hA (r_geq hA rfl rfl) rfl fun a hA => 
    stp hA (r_as hA rfl) rfl fun a hA => ?_
  refine o_nil ?_
  refine hN2 _ _ ?_
  refine w_ret ?_
  obtain rfl := Option.some.inj (bS H)
  exact ret1 hA Tryd.results91 rfl ⟨_, rfl, rfl, trivial, hI.forget0⟩
set_option maxRecDepth 20000 in
theorem tx_Check.c (μ : Store) (w0 : World) (hμ : Agr μ w0) (x0 : Tx) (u0_0 : Value) (u0_1 : Value) (hx0 : TxW μ x0 u0_0 u0_1) (e0 : Value) (he0 : ErS μ e0 (Er.b 1)) (e1 : Value) (he1 : ErS μ e1 (Er.b 2)) (e2 : Value) (he2 : ErS μ e2 (Er.b 3)) (e6 : Value) (he6 : ErS μ e6 (Er.b 7)) (e7 : Value) (he7 : ErS μ e7 (Er.b 8)) (e8 : Value) (he8 : ErS μ e8 (Er.b 9)) (r : Er) (H : tx_Check.f x0 = some r) :
    Calls Tryd.prog 72 [.agg [[.int .u32 x0.Version], [u0_0], [u0_1], [.int .u32 x0.Time]].flatten.toArray].toArray w0 (fun e w' => ∃ v, e = .returned v ∧ ∃ (v0 : Value) (μ' : Store), v = v0 ∧ ErS μ' v0 r ∧ Iv w0 [] μ μ' [] w') := by
  refine enter Tryd.func72 rfl Tryd.ntmps72 rfl fun a hA => ?_
  have hI := Iv.start hμ
  have H := bI H
  refine w_seq fun _ hN1 => ?_
  refine w_reg ?_
  refine o_box [[.int .u32 x0.Version], [u0_0], [u0_1], [.int .u32 x0.Time]] hI hA rfl rfl rfl fun g1 a w hA hI hg1 => 
    stp hA (r_as hA rfl) rfl fun a hA => ?_
  refine o_nil ?_
  refine hN1 _ _ ?_
  refine w_seq fun _ hN2 => ?_
  refine w_block ?_
  obtain ⟨c1, hz1, Hk1⟩ := bB H
  refine w_cut (fun a w => Fr a 52 [(0, .agg [[.int .u32 x0.Version], [u0_0], [u0_1], [.int .u32 x0.Time]].flatten.toArray), (1, .pointer (some ⟨g1, 0, none⟩)), (2, .nilIface), (5, .bool c1)] ∧ Iv w0 [] μ μ [cel g1 [[.int .u32 x0.Version], [u0_0], [u0_1], [.int .u32 x0.Time]] 32] w) ?_ ?_
  · have H := bI hz1
    refine w_reg ?_
    refine stp hA (r_fd (k := 1) Tryd.underlying32 rfl sz29 hA rfl rfl) rfl fun a hA => 
      stp hA (r_ld1 (j := 0) [[.int .u32 x0.Version]] [[u0_1], [.int .u32 x0.Time]] Tryd.underlying29 rfl hI rfl hA rfl rfl) rfl fun a hA => ?_
    obtain ⟨_, hsl1⟩ := Slc.sv hx0.2.1
    refine stp hA (r_slen Tryd.underlying29 hsl1 hA rfl) rfl fun a hA => 
      stp hA (r_eql hA rfl rfl) rfl fun a hA => 
      stp hA (r_mv hA rfl) rfl fun a hA => ?_
    rcases Bool.eq_false_or_eq_true (decide ((x0.Ins.length : Int) = 0)) with hc1 | hc1
    · have hc10 := hc1; have hc1 := of_decide_eq_true hc1; have H := bT H hc1
      refine o_no hA rfl rfl (by rw [hc10]; simp [vb]) rfl fun a hA => 
        o_no hA rfl rfl (by rw [hc10]; simp [vb]) rfl fun a hA => 
        o_no hA rfl rfl (by rw [hc10]; simp [vb]) rfl fun a hA => 
        o_no hA rfl rfl (by rw [hc10]; simp [vb]) rfl fun a hA => 
        stp hA (r_pick_t hA rfl hc10 rfl) rfl fun a hA => 
        stp hA (r_mv hA rfl) rfl fun a hA => 
        o_no hA rfl rfl (by simp [vb]) rfl fun a hA => 
        o_no hA rfl rfl (by simp [vb]) rfl fun a hA => 
        o_no hA rfl rfl (by simp [vb]) rfl fun a hA => 
        o_no hA rfl rfl (by simp [vb]) rfl fun a hA => 
        stp hA (r_pick_t hA rfl rfl rfl) rfl fun a hA => 
        stp hA (r_mv hA rfl) rfl fun a hA => 
        o_no hA rfl rfl (by simp [vb]) rfl fun a hA => 
        o_no hA rfl rfl (by simp [vb]) rfl fun a hA => 
        o_no hA rfl rfl (by simp [vb]) rfl fun a hA => 
        o_no hA rfl rfl (by simp [vb]) rfl fun a hA => 
        stp hA (r_pick_t hA rfl rfl rfl) rfl fun a hA => 
        stp hA (r_as hA rfl) rfl fun a hA => ?_
      refine o_nil ?_
      cases Option.some.inj (bS H)
      exact ⟨hA.sub ⟨rfl, rfl, rfl, rfl, trivial⟩, hI⟩
    · have hc10 := hc1; have hc1 := of_decide_eq_false hc1; have H := bF H hc1
      refine o_yes hA rfl rfl hc10 <| 
        stp hA (r_fd (k := 1) Tryd.underlying32 rfl sz29 hA rfl rfl) rfl fun a hA => 
        o_yes hA rfl rfl hc10 <| 
        stp hA (r_ld1 (j := 0) [[.int .u32 x0.Version]] [[u0_1], [.int .u32 x0.Time]] Tryd.underlying29 rfl hI rfl hA rfl rfl) rfl fun a hA => 
        o_yes hA rfl rfl hc10 <| ?_
      obtain ⟨_, hsl2⟩ := Slc.sv hx0.2.1
      refine stp hA (r_slen Tryd.underlying29 hsl2 hA rfl) rfl fun a hA => 
        o_yes hA rfl rfl hc10 <| 
        stp hA (r_gtr hA rfl rfl) rfl fun a hA => 
        stp hA (r_pick_f hA rfl hc10 rfl) rfl fun a hA => 
        stp hA (r_mv hA rfl) rfl fun a hA => ?_
      rcases Bool.eq_false_or_eq_true (decide (50 < (x0.Ins.length : Int))) with hc2 | hc2
      · have hc20 := hc2; have hc2 := of_decide_eq_true hc2; have H := bT H hc2
        refine o_no hA rfl rfl (by rw [hc20]; simp [vb]) rfl fun a hA => 
          o_no hA rfl rfl (by rw [hc20]; simp [vb]) rfl fun a hA => 
          o_no hA rfl rfl (by rw [hc20]; simp [vb]) rfl fun a hA => 
          o_no hA rfl rfl (by rw [hc20]; simp [vb]) rfl fun a hA => 
          stp hA (r_pick_t hA rfl hc20 rfl) rfl fun a hA => 
          stp hA (r_mv hA rfl) rfl fun a hA => 
          o_no hA rfl rfl (by simp [vb]) rfl fun a hA => 
          o_no hA rfl rfl (by simp [vb]) rfl fun a hA => 
          o_no hA rfl rfl (by simp [vb]) rfl fun a hA => 
          o_no hA rfl rfl (by simp [vb]) rfl fun a hA => 
          stp hA (r_pick_t hA rfl rfl rfl) rfl fun a hA => 
          stp hA (r_as hA rfl) rfl fun a hA => ?_
        refine o_nil ?_
        cases Option.some.inj (bS H)
        exact ⟨hA.sub ⟨rfl, rfl, rfl, rfl, trivial⟩, hI⟩
      · have hc20 := hc2; have hc2 := of_decide_eq_false hc2; have H := bF H hc2
        refine o_yes hA rfl rfl hc20 <| 
          stp hA (r_fd (k := 2) Tryd.underlying32 rfl sz30 hA rfl rfl) rfl fun a hA => 
          o_yes hA rfl rfl hc20 <| 
          stp hA (r_ld1 (j := 0) [[.int .u32 x0.Version], [u0_0]] [[.int .u32 x0.Time]] Tryd.underlying30 rfl hI rfl hA rfl rfl) rfl fun a hA => 
          o_yes hA rfl rfl hc20 <| ?_
        obtain ⟨_, hsl3⟩ := Slc.sv hx0.2.2.1
        refine stp hA (r_slen Tryd.underlying30 hsl3 hA rfl) rfl fun a hA => 
          o_yes hA rfl rfl hc20 <| 
          stp hA (r_eql hA rfl rfl) rfl fun a hA => 
          stp hA (r_pick_f hA rfl hc20 rfl) rfl fun a hA => 
          stp hA (r_mv hA rfl) rfl fun a hA => ?_
        rcases Bool.eq_false_or_eq_true (decide ((x0.Outs.length : Int) = 0)) with hc3 | hc3
        · have hc30 := hc3; have hc3 := of_decide_eq_true hc3; have H := bT H hc3
          refine o_no hA rfl rfl (by rw [hc30]; simp [vb]) rfl fun a hA => 
            o_no hA rfl rfl (by rw [hc30]; simp [vb]) rfl fun a hA => 
            o_no hA rfl rfl (by rw [hc30]; simp [vb]) rfl fun a hA => 
            o_no hA rfl rfl (by rw [hc30]; simp [vb]) rfl fun a hA => 
            stp hA (r_pick_t hA rfl hc30 rfl) rfl fun a hA => 
            stp hA (r_as hA rfl) rfl fun a hA => ?_
          refine o_nil ?_
          cases Option.some.inj (bS H)
          exact ⟨hA.sub ⟨rfl, rfl, rfl, rfl, trivial⟩, hI⟩
        · have hc30 := hc3; have hc3 := of_decide_eq_false hc3; have H := bF H hc3
          refine o_yes hA rfl rfl hc30 <| 
            stp hA (r_fd (k := 2) Tryd.underlying32 rfl sz30 hA rfl rfl) rfl fun a hA => 
            o_yes hA rfl rfl hc30 <| 
            stp hA (r_ld1 (j := 0) [[.int .u32 x0.Version], [u0_0]] [[.int .u32 x0.Time]] Tryd.underlying30 rfl hI rfl hA rfl rfl) rfl fun a hA => 
            o_yes hA rfl rfl hc30 <| ?_
          obtain ⟨_, hsl4⟩ := Slc.sv hx0.2.2.1
          refine stp hA (r_slen Tryd.underlying30 hsl4 hA rfl) rfl fun a hA => 
            o_yes hA rfl rfl hc30 <| 
            stp hA (r_gtr hA rfl rfl) rfl fun a hA => 
            stp hA (r_pick_f hA rfl hc30 rfl) rfl fun a hA => 
            stp hA (r_as hA rfl) rfl fun a hA => ?_
          refine o_nil ?_
          cases Option.some.inj (bS H)
          exact ⟨hA.sub ⟨rfl, rfl, rfl, rfl, trivial⟩, hI⟩
  · rintro a w ⟨hA, hI⟩
    have H := Hk1
    refine w_cond hA rfl (fun hc4 => ?_) (fun hc4 => ?_)
    · have hc40 := hc4; have H := bT H hc4
      refine w_seq fun _ hN3 => ?_
      refine w_reg ?_
      refine stp hA (r_ldG Tryd.underlying51 rfl hI.agr he0 hA) rfl fun a hA => 
        stp hA (r_as hA rfl) rfl fun a hA => ?_
      refine o_nil ?_
      refine hN3 _ _ ?_
      refine w_ret ?_
      obtain rfl := Option.some.inj (bS H)
      exact ret1 hA Tryd.results72 rfl ⟨_, rfl, e0, μ, rfl, he0, (hI.sel [] (by decide) rfl)⟩
    · have hc40 := hc4; have hc4 := ft hc4; have H := bF H hc4
      refine w_seq fun _ hN4 => ?_
      refine w_reg ?_
      refine stp hA (r_ldA (j := 0) [] [[.int .u32 x0.Version], [u0_0], [u0_1], [.int .u32 x0.Time]] [] Tryd.underlying32 rfl sz32 rfl hI rfl hA rfl rfl) rfl fun a hA => ?_
      obtain ⟨r1, hr1, H⟩ := bB H
      refine o_callp (u := .int .i64 r1) cf90 hA rfl hI (tx_Size.c μ _ hI.agr x0 u0_0 u0_1 ⟨hx0.1, hx0.2.1, hx0.2.2.1, hx0.2.2.2⟩ r1 hr1) rfl fun a w hz2 hI hA => 
        stp hA (r_gtr hA rfl rfl) rfl fun a hA => 
        stp hA (r_as hA rfl) rfl fun a hA => ?_
      refine o_nil ?_
      refine hN4 _ _ ?_
      refine w_cond hA rfl (fun hc5 => ?_) (fun hc5 => ?_)
      · have hc50 := hc5; have hc5 := of_decide_eq_true hc5; have H := bT H hc5
        refine w_seq fun _ hN5 => ?_
        refine w_reg ?_
        refine stp hA (r_ldG Tryd.underlying51 rfl hI.agr he1 hA) rfl fun a hA => 
          stp hA (r_as hA rfl) rfl fun a hA => ?_
        refine o_nil ?_
        refine hN5 _ _ ?_
        refine w_ret ?_
        obtain rfl := Option.some.inj (bS H)
        exact ret1 hA Tryd.results72 rfl ⟨_, rfl, e1, μ, rfl, he1, (hI.sel [] (by decide) rfl)⟩
      · have hc50 := hc5; have hc5 := of_decide_eq_false hc5; have H := bF H hc5
        refine w_seq fun _ hN6 => ?_
        refine w_reg ?_
        refine stp hA (r_fd (k := 1) Tryd.underlying32 rfl sz29 hA rfl rfl) rfl fun a hA => 
          stp hA (r_ld1 (j := 0) [[.int .u32 x0.Version]] [[u0_1], [.int .u32 x0.Time]] Tryd.underlying29 rfl hI rfl hA rfl rfl) rfl fun a hA => ?_
        obtain ⟨r2, hr2, H⟩ := bB H
        refine o_callp (u := .bool r2) cf91 hA rfl hI (slices_ContainsFunc_api_In_api_In_at_tx_Check_1.c μ _ hI.agr x0.Ins u0_0 hx0.2.1 r2 hr2) rfl fun a w hz3 hI hA => 
          stp hA (r_as hA rfl) rfl fun a hA => ?_
        refine o_nil ?_
        refine hN6 _ _ ?_
        refine w_cond hA rfl (fun hc6 => ?_) (fun hc6 => ?_)
        · have hc60 := hc6; have H := bT H hc6
          refine w_seq fun _ hN7 => ?_
          refine w_reg ?_
          refine stp hA (r_ldG Tryd.underlying51 rfl hI.agr he7 hA) rfl fun a hA => 
            stp hA (r_as hA rfl) rfl fun a hA => ?_
          refine o_nil ?_
          refine hN7 _ _ ?_
          refine w_ret ?_
          obtain rfl := Option.some.inj (bS H)
          exact ret1 hA Tryd.results72 rfl ⟨_, rfl, e7, μ, rfl, he7, (hI.sel [] (by decide) rfl)⟩
        · have hc60 := hc6; have hc6 := ft hc6; have H := bF H hc6
          refine w_skip ?_
          refine hN2 _ _ ?_
          refine w_seq fun _ hN8 => ?_
          refine w_seq fun _ hN9 => ?_
          refine w_reg ?_
          refine stp hA (r_ldA (j := 0) [] [[.int .u32 x0.Version], [u0_0], [u0_1], [.int .u32 x0.Time]] [] Tryd.underlying32 rfl sz32 rfl hI rfl hA rfl rfl) rfl fun a hA => ?_
          obtain ⟨r3, hr3, H⟩ := bB H
          refine o_callp (u := .tuple #[.int .u64 r3.1, .bool r3.2]) cf93 hA rfl hI (tx_Sum.c μ _ hI.agr x0 u0_0 u0_1 ⟨hx0.1, hx0.2.1, hx0.2.2.1, hx0.2.2.2⟩ r3 hr3) rfl fun a w hz4 hI hA => 
            stp hA (r_mv hA rfl) rfl fun a hA => 
            stp hA (r_extr (vs := [.int .u64 r3.1, .bool r3.2]) hA rfl rfl) rfl fun a hA => 
            stp hA (r_extr (vs := [.int .u64 r3.1, .bool r3.2]) hA rfl rfl) rfl fun a hA => 
            stp hA (r_as hA rfl) rfl fun a hA => 
            stp hA (r_as hA rfl) rfl fun a hA => ?_
          refine o_nil ?_
          refine hN9 _ _ ?_
          refine w_seq fun _ hN10 => ?_
          refine w_reg ?_
          refine stp hA (r_mv hA rfl) rfl fun a hA => 
            stp hA (r_not hA rfl) rfl fun a hA => ?_
          refine o_nil ?_
          refine hN10 _ _ ?_
          refine w_cond hA rfl (fun hc7 => ?_) (fun hc7 => ?_)
          · have hc70 := hc7; have hc7 := nT hc7; have hc7 := ft hc7; have H := bF H hc7
            refine w_seq fun _ hN11 => ?_
            refine w_reg ?_
            refine stp hA (r_ldG Tryd.underlying51 rfl hI.agr he8 hA) rfl fun a hA => 
              stp hA (r_as hA rfl) rfl fun a hA => ?_
            refine o_nil ?_
            refine hN11 _ _ ?_
            refine w_ret ?_
            obtain rfl := Option.some.inj (bS H)
            exact ret1 hA Tryd.results72 rfl ⟨_, rfl, e8, μ, rfl, he8, (hI.sel [] (by decide) rfl)⟩
          · have hc70 := hc7; have hc7 := nF hc7; have H := bT H hc7
            refine w_skip ?_
            refine hN8 _ _ ?_
            refine w_seq fun _ hN12 => ?_
            refine w_seq fun _ hN13 => ?_
            refine w_reg ?_
            refine stp hA (r_ldA (j := 0) [] [[.int .u32 x0.Version], [u0_0], [u0_1], [.int .u32 x0.Time]] [] Tryd.underlying32 rfl sz32 rfl hI rfl hA rfl rfl) rfl fun a hA => ?_
            obtain ⟨r4, hr4, H⟩ := bB H
            refine o_callp (u := .bool r4) cf94 hA rfl hI (tx_twice.c μ _ hI.agr x0 u0_0 u0_1 ⟨hx0.1, hx0.2.1, hx0.2.2.1, hx0.2.2.2⟩ r4 hr4) rfl fun a w hz5 hI hA => ?_
            refine o_nil ?_
            refine hN13 _ _ ?_
            refine w_cond hA rfl (fun hc8 => ?_) (fun hc8 => ?_)
            · have hc80 := hc8; have H := bT H hc8
              refine w_seq fun _ hN14 => ?_
              refine w_reg ?_
              refine stp hA (r_ldG Tryd.underlying51 rfl hI.agr he2 hA) rfl fun a hA => 
                stp hA (r_as hA rfl) rfl fun a hA => ?_
              refine o_nil ?_
              refine hN14 _ _ ?_
              refine w_ret ?_
              obtain rfl := Option.some.inj (bS H)
              exact ret1 hA Tryd.results72 rfl ⟨_, rfl, e2, μ, rfl, he2, (hI.sel [] (by decide) rfl)⟩
            · have hc80 := hc8; have hc8 := ft hc8; have H := bF H hc8
              refine w_skip ?_
              refine hN12 _ _ ?_
              refine w_seq fun _ hN15 => ?_
              refine w_reg ?_
              refine stp hA (r_ldA (j := 0) [] [[.int .u32 x0.Version], [u0_0], [u0_1], [.int .u32 x0.Time]] [] Tryd.underlying32 rfl sz32 rfl hI rfl hA rfl rfl) rfl fun a hA => ?_
              obtain ⟨r5, hr5, H⟩ := bB H
              refine o_call _ cf95 hA rfl (tx_base.c μ _ hI.agr x0 u0_0 u0_1 ⟨hx0.1, hx0.2.1, hx0.2.2.1, hx0.2.2.2⟩ e6 he6 r5 hr5) rfl fun v1 a w hz6 hA => ?_
              obtain ⟨_, μ1, rfl, hS1, hi1⟩ := hz6
              have hI := hI.call hi1
              refine stp hA (r_as hA rfl) rfl fun a hA => ?_
              refine o_nil ?_
              refine hN15 _ _ ?_
              refine w_ret ?_
              obtain rfl := Option.some.inj (bS H)
              exact ret1 hA Tryd.results72 rfl ⟨_, rfl, v1, μ1, rfl, hS1, (hI.sel [] (by decide) rfl)⟩
set_option maxRecDepth 20000 in
theorem sargassoref1_Base.c (μ : Store) (w0 : World) (hμ : Agr μ w0) (x0 : Tx) (u0_0 : Value) (u0_1 : Value) (hx0 : TxW μ x0 u0_0 u0_1) (r : Bool) (H : sargassoref1_Base.f x0 = some r) :
    Calls Tryd.prog 21 [.agg [[.int .u32 x0.Version], [u0_0], [u0_1], [.int .u32 x0.Time]].flatten.toArray].toArray w0 (fun e w' => ∃ v, e = .returned v ∧ v = .bool r ∧ True ∧ Iv w0 [] μ μ [] w') := by
  refine enter Tryd.func21 rfl Tryd.ntmps21 rfl fun a hA => ?_
  have hI := Iv.start hμ
  have H := bI H
  refine w_seq fun _ hN1 => ?_
  refine w_reg ?_
  refine o_box [[.int .u32 x0.Version], [u0_0], [u0_1], [.int .u32 x0.Time]] hI hA rfl rfl rfl fun g1 a w hA hI hg1 => 
    stp hA (r_as hA rfl) rfl fun a hA => ?_
  refine o_nil ?_
  refine hN1 _ _ ?_
  obtain ⟨c1, hz1, Hk1⟩ := bB H
  refine w_cut (fun a w => Fr a 16 [(0, .agg [[.int .u32 x0.Version], [u0_0], [u0_1], [.int .u32 x0.Time]].flatten.toArray), (1, .pointer (some ⟨g1, 0, none⟩)), (2, .bool c1)] ∧ Iv w0 [] μ μ [cel g1 [[.int .u32 x0.Version], [u0_0], [u0_1], [.int .u32 x0.Time]] 32] w) ?_ ?_
  · have H := bI hz1
    refine w_any [] mo hI fun w hI => ?_
    refine g_easy (i := 0) hA rfl rfl (by kernel_rfl) (.inr hI) (fun _ => r_fd (k := 1) Tryd.underlying32 rfl sz29 hA rfl rfl) rfl fun a hA => ?_
    refine g_take (i := 1) hA rfl rfl (by kernel_rfl) hI (fun w hI => r_ld1 (j := 0) [[.int .u32 x0.Version]] [[u0_1], [.int .u32 x0.Time]] Tryd.underlying29 rfl hI rfl hA rfl rfl) rfl fun a hA => ?_
    obtain ⟨_, hsl1⟩ := Slc.sv hx0.2.1
    refine g_easy (i := 2) hA rfl rfl (by kernel_rfl) (.inr hI) (fun _ => r_slen Tryd.underlying29 hsl1 hA rfl) rfl fun a hA => ?_
    refine g_easy (i := 3) hA rfl rfl (by kernel_rfl) (.inr hI) (fun _ => r_eql hA rfl rfl) rfl fun a hA => ?_
    refine g_easy (i := 4) hA rfl rfl (by kernel_rfl) (.inr hI) (fun _ => r_mv hA rfl) rfl fun a hA => ?_
    rcases Bool.eq_false_or_eq_true (decide ((x0.Ins.length : Int) = 1)) with hc1 | hc1
    · have hc10 := hc1; have hc1 := of_decide_eq_true hc1; have H := bT H hc1
      refine g_easy (i := 5) hA rfl (wanted_yes hA rfl rfl hc10) (by kernel_rfl) (.inr hI) (fun _ => r_fd (k := 1) Tryd.underlying32 rfl sz29 hA rfl rfl) rfl fun a hA => ?_
      refine g_take (i := 6) hA rfl (wanted_yes hA rfl rfl hc10) (by kernel_rfl) hI (fun w hI => r_ld1 (j := 0) [[.int .u32 x0.Version]] [[u0_1], [.int .u32 x0.Time]] Tryd.underlying29 rfl hI rfl hA rfl rfl) rfl fun a hA => ?_
      obtain ⟨hb1, H⟩ := bG H
      obtain ⟨_, he1, _, hat1⟩ := Slc.elem hx0.2.1 (getD_some default (by decide) hb1)
      obtain ⟨v1, rfl, hw1⟩ := he1
      obtain ⟨_, hsl2⟩ := Slc.sv hx0.2.1
      refine g_easy (i := 7) hA rfl (wanted_yes hA rfl rfl hc10) (by kernel_rfl) (.inr hI) (fun _ => r_six Tryd.underlying29 sz46 hsl2 hA rfl rfl (by decide) hb1) rfl fun a hA => ?_
      refine g_easy (i := 8) hA rfl (wanted_yes hA rfl rfl hc10) (by kernel_rfl) (.inr hI) (fun _ => r_fd (k := so u0_0 + (0 : Int).toNat * 35) Tryd.underlying46 rfl sz44 hA rfl rfl) rfl fun a hA => ?_
      refine g_take (i := 9) hA rfl (wanted_yes hA rfl rfl hc10) (by kernel_rfl) hI (fun w hI => r_ldmA [] [av .u8 32 ((x0.Ins.getD (0 : Int).toNat default).From.Tx), [.int .u32 ((x0.Ins.getD (0 : Int).toNat default).From.N)]] [[v1], [.int .u32 ((x0.Ins.getD (0 : Int).toNat default).Seq)]] Tryd.underlying44 rfl sz44 rfl hI.agr hat1 hA rfl rfl) rfl fun a hA => ?_
      refine g_forced (i := 10) rfl (by kernel_rfl) ?_
      refine o_yes hA rfl rfl hc10 <| ?_
      obtain ⟨r1, hr1, H⟩ := bB H
      refine o_callp (u := .agg [av .u8 32 r1.Tx, [.int .u32 r1.N]].flatten.toArray) cf36 hA rfl hI (sargassoref1_Null.c μ _ hI.agr  r1 hr1) rfl fun a w hz2 hI hA => ?_
      refine o_nil ?_
      refine ⟨(.inr hI), ?_⟩
      refine g_forced (i := 11) rfl (by kernel_rfl) ?_
      refine o_yes hA rfl rfl hc10 <| ?_
      obtain ⟨r2, hr2, H⟩ := bB H
      refine o_callp (u := .bool r2) cf50 hA rfl hI (sargassoref_SamePoint.c μ _ hI.agr ((x0.Ins.getD (0 : Int).toNat default).From) ⟨hw1.1, hw1.2.1⟩ r1 ⟨hz2.1, hz2.2⟩ r2 hr2) rfl fun a w hz3 hI hA => ?_
      refine o_nil ?_
      refine ⟨(.inr hI), ?_⟩
      refine g_easy (i := 12) hA rfl rfl (by kernel_rfl) (.inr hI) (fun _ => r_pick_t hA rfl hc10 rfl) rfl fun a hA => ?_
      refine g_easy (i := 13) hA rfl rfl (by kernel_rfl) (.inr hI) (fun _ => r_as hA rfl) rfl fun a hA => ?_
      refine g_nil (by kernel_rfl) ?_
      cases Option.some.inj (bS H)
      exact ⟨hA.sub ⟨rfl, rfl, rfl, trivial⟩, hI⟩
    · have hc10 := hc1; have hc1 := of_decide_eq_false hc1; have H := bF H hc1
      refine g_skip (i := 5) hA rfl (wanted_no hA rfl rfl (by rw [hc10]; simp [vb])) (by kernel_rfl) (.inr hI) rfl fun a hA => ?_
      refine g_skip (i := 6) hA rfl (wanted_no hA rfl rfl (by rw [hc10]; simp [vb])) (by kernel_rfl) (.inr hI) rfl fun a hA => ?_
      refine g_skip (i := 7) hA rfl (wanted_no hA rfl rfl (by rw [hc10]; simp [vb])) (by kernel_rfl) (.inr hI) rfl fun a hA => ?_
      refine g_skip (i := 8) hA rfl (wanted_no hA rfl rfl (by rw [hc10]; simp [vb])) (by kernel_rfl) (.inr hI) rfl fun a hA => ?_
      refine g_skip (i := 9) hA rfl (wanted_no hA rfl rfl (by rw [hc10]; simp [vb])) (by kernel_rfl) (.inr hI) rfl fun a hA => ?_
      refine g_skip (i := 10) hA rfl (wanted_no hA rfl rfl (by rw [hc10]; simp [vb])) (by kernel_rfl) (.inr hI) rfl fun a hA => ?_
      refine g_skip (i := 11) hA rfl (wanted_no hA rfl rfl (by rw [hc10]; simp [vb])) (by kernel_rfl) (.inr hI) rfl fun a hA => ?_
      refine g_easy (i := 12) hA rfl rfl (by kernel_rfl) (.inr hI) (fun _ => r_pick_f hA rfl hc10 rfl) rfl fun a hA => ?_
      refine g_easy (i := 13) hA rfl rfl (by kernel_rfl) (.inr hI) (fun _ => r_as hA rfl) rfl fun a hA => ?_
      refine g_nil (by kernel_rfl) ?_
      cases Option.some.inj (bS H)
      exact ⟨hA.sub ⟨rfl, rfl, rfl, trivial⟩, hI⟩
  · rintro a w ⟨hA, hI⟩
    have H := Hk1
    refine w_ret ?_
    obtain rfl := Option.some.inj (bS H)
    exact ret1 hA Tryd.results21 rfl ⟨_, rfl, rfl, trivial, hI.forget0⟩
end Go.Proofs.YtlpggofilkfbnaaDoor.T
namespace Go.Proofs.YtlpggofilkfbnaaDoor.T
open Go Go.Proofs Go.Proofs.YtlpggofilkfbnaaDoor.K
set_option linter.unusedVariables false
set_option linter.unusedSimpArgs false
noncomputable def block_First.f (x0 : Int) (x1 : Int) (x2 : List Int) (x3 : List Int) : Option Tx := ((compact_Four.f ([]) (IntKind.u32.wrap x0)).bind fun r1 => ((slices_Concat_byte_byte.f ([r1, x3] : List (List Int))).bind fun r2 => ((((spend_Null.f).bind fun r3 => some (r2, 1, ([(⟨r3, r2, 4294967295⟩ : In)] : List In), ([(⟨x1, x2⟩ : Out)] : List Out)))).bind fun (c1, c2, c3, c4) => some (⟨c2, c3, c4, 0⟩ : Tx))))
noncomputable def block_IDs.s0 (x0 : Block) : ((List (List Int)) × Int) → Option (((List (List Int)) × Int) ⊕ (List (List Int))) := fun (s1, s2) => (if s2 < (x0.Txs.length : Int) then (if 0 ≤ s2 ∧ s2 < (x0.Txs.length : Int) then ((tx_ID.f (x0.Txs.getD s2.toNat default)).bind fun r1 => (if s1.length + 1 ≤ 4398046511104 then some (.inl (s1 ++ ([r1] : List (List Int)), IntKind.i64.wrap (s2 + 1))) else none)) else none) else some (.inr s1))
noncomputable def block_IDs.f (x0 : Block) : Option (List (List Int)) := ((loopO (block_IDs.s0 x0) ([], 0)).bind fun c1 => some c1)
noncomputable def block_Root.f (x0 : Block) : Option (List Int) := ((block_IDs.f x0).bind fun r1 => ((merkle_Root.f r1).bind fun r2 => some r2))
noncomputable def block_Start.f : Option Block := ((spend_Lock.f ([])).bind fun r1 => ((block_First.f 0 0 r1 ([])).bind fun r2 => ((block_Root.f (⟨(⟨1, (List.replicate 32 0), (List.replicate 32 0), 1000, 1, 0⟩ : Head), ([r2] : List Tx)⟩ : Block)).bind fun r3 => some (⟨(⟨1, (List.replicate 32 0), r3, 1000, 1, 0⟩ : Head), ([r2] : List Tx)⟩ : Block))))
noncomputable def block_Bytes.s0 (x0 : Block) : ((List Int) × Int) → Option (((List Int) × Int) ⊕ (List Int)) := fun (s1, s2) => (if s2 < (x0.Txs.length : Int) then (if 0 ≤ s2 ∧ s2 < (x0.Txs.length : Int) then ((tx_Bytes.f (x0.Txs.getD s2.toNat default)).bind fun r3 => (if s1.length + r3.length ≤ 140737488355328 then some (.inl (s1 ++ r3, IntKind.i64.wrap (s2 + 1))) else none)) else none) else some (.inr s1))
noncomputable def block_Bytes.f (x0 : Block) : Option (List Int) := ((head_Bytes.f x0.Head).bind fun r1 => ((compact_Put.f r1 (IntKind.u64.wrap (x0.Txs.length : Int))).bind fun r2 => ((loopO (block_Bytes.s0 x0) (r2, 0)).bind fun c1 => some c1)))
noncomputable def block_Size.f (x0 : Block) : Option Int := ((block_Bytes.f x0).bind fun r1 => some (r1.length : Int))
noncomputable def block_parts.s1 (x0 : Block) : Int → Option (Int ⊕ (Int ⊕ Er)) := fun s2 => (if s2 < (x0.Txs.length : Int) then (if 0 ≤ s2 ∧ s2 < (x0.Txs.length : Int) then ((tx_Base.f (x0.Txs.getD s2.toNat default)).bind fun r2 => (if r2 ≠ (decide (s2 = 0)) then some (.inr (.inr (Er.pl s2 xErrBase))) else some (.inl (IntKind.i64.wrap (s2 + 1))))) else none) else some (.inr (.inr (Er.b 0))))
noncomputable def block_parts.s0 (x0 : Block) : Int → Option (Int ⊕ Er) := fun s1 => (if s1 < (x0.Txs.length : Int) then (if 0 ≤ s1 ∧ s1 < (x0.Txs.length : Int) then ((tx_Check.f (x0.Txs.getD s1.toNat default)).bind fun r1 => (if r1 ≠ (Er.b 0) then some (.inr (Er.pl s1 r1)) else some (.inl (IntKind.i64.wrap (s1 + 1))))) else none) else loopO (block_parts.s1 x0) 0)
noncomputable def block_parts.f (x0 : Block) : Option Er := loopO (block_parts.s0 x0) 0
noncomputable def block_twice.s1 (x0 : Block) (r1 : List (List Int)) (s1 : Int) (s3 : List ((List Int) × Bool)) : (Int × (List (Point × Bool))) → Option ((Int × (List (Point × Bool))) ⊕ ((Int × (List (Point × Bool)) × (List ((List Int) × Bool))) ⊕ Bool)) := fun (s4, s5) => (if s4 < (((x0.Txs.getD s1.toNat default).Ins).length : Int) then (if 0 ≤ s4 ∧ s4 < (((x0.Txs.getD s1.toNat default).Ins).length : Int) then (if ((mget s5 ((((x0.Txs.getD s1.toNat default).Ins).getD s4.toNat default).From)).getD false) = true then some (.inr (.inr true)) else some (.inl (IntKind.i64.wrap (s4 + 1), mput s5 ((((x0.Txs.getD s1.toNat default).Ins).getD s4.toNat default).From) true))) else none) else some (.inr (.inl (IntKind.i64.wrap (s1 + 1), s5, mput s3 (r1.getD s1.toNat []) true))))
noncomputable def block_twice.s0 (x0 : Block) (r1 : List (List Int)) : (Int × (List (Point × Bool)) × (List ((List Int) × Bool))) → Option ((Int × (List (Point × Bool)) × (List ((List Int) × Bool))) ⊕ Bool) := fun (s1, s2, s3) => (if s1 < (r1.length : Int) then (if 0 ≤ s1 ∧ s1 < (r1.length : Int) then (if ((mget s3 (r1.getD s1.toNat [])).getD false) = true then some (.inr true) else (if 0 ≤ s1 ∧ s1 < (x0.Txs.length : Int) then loopO (block_twice.s1 x0 r1 s1 s3) (0, s2) else none)) else none) else some (.inr false))
noncomputable def block_twice.f (x0 : Block) : Option Bool := ((block_IDs.f x0).bind fun r1 => loopO (block_twice.s0 x0 r1) (0, ([] : List (Point × Bool)), ([] : List ((List Int) × Bool))))
noncomputable def block_Check.f (x0 : Block) : Option Er := ((head_Check.f x0.Head).bind fun r1 => (if r1 ≠ (Er.b 0) then some r1 else (((if (x0.Txs.length : Int) = 0 then some true else some (decide (200 < (x0.Txs.length : Int))))).bind fun c1 => (if c1 = true then some xErrMany else ((block_Size.f x0).bind fun r2 => (if 20000 < r2 then some xErrLong else ((block_parts.f x0).bind fun r3 => (if r3 ≠ (Er.b 0) then some r3 else ((block_twice.f x0).bind fun r4 => (if r4 = true then some xErrTwice else ((block_Root.f x0).bind fun r5 => (if ¬ (r5 = x0.Head.Root) then some xErrRoot else some (Er.b 0)))))))))))))
noncomputable def block_ID.f (x0 : Block) : Option (List Int) := ((head_ID.f x0.Head).bind fun r1 => some r1)
end Go.Proofs.YtlpggofilkfbnaaDoor.T
namespace Go.Proofs.YtlpggofilkfbnaaDoor.T
open Go Go.Proofs Go.Proofs.YtlpggofilkfbnaaDoor.K
set_option linter.unusedVariables false
set_option linter.unusedSimpArgs false
set_option maxRecDepth 20000 in
theorem block_First.c (μ : Store) (w0 : World) (hμ : Agr μ w0) (x0 : Int) (hx0 : InR .i64 x0) (x1 : Int) (hx1 : InR .u64 x1) (x2 : List Int) (hx2 : Arr .u8 32 x2) (x3 : List Int) (u3 : Value) (hx3 : Slc (RI .u8) 1 μ u3 x3) (r : Tx) (H : block_First.f x0 x1 x2 x3 = some r) :
    Calls Tryd.prog 9 [.int .i64 x0, .int .u64 x1, .agg [av .u8 32 x2].flatten.toArray, u3].toArray w0 (fun e w' => ∃ v, e = .returned v ∧ ∃ (v0_0 : Value) (v0_1 : Value) (μ' : Store), v = .agg [[.int .u32 r.Version], [v0_0], [v0_1], [.int .u32 r.Time]].flatten.toArray ∧ TxW μ' r v0_0 v0_1 ∧ Iv w0 [] μ μ' [] w') := by
  refine enter Tryd.func9 rfl Tryd.ntmps9 rfl fun a hA => ?_
  have hI := Iv.start hμ
  have H := bI H
  refine w_seq fun _ hN1 => ?_
  refine w_reg ?_
  refine o_box [av .u8 32 x2] hI hA rfl rfl rfl fun g1 a w hA hI hg1 => 
    o_new [[.int .u32 0], [(.slice none 0 0)], [(.slice none 0 0)], [.int .u32 0]] zr32 hI hA rfl fun g2 a w hA hI hg2 => ?_
  refine o_nil ?_
  refine hN1 _ _ ?_
  refine w_seq fun _ hN2 => ?_
  refine w_reg ?_
  refine stp hA (r_mv hA rfl) rfl fun a hA => 
    stp hA (r_conv Tryd.underlying3 Tryd.underlying28 hA rfl) rfl fun a hA => ?_
  obtain ⟨r1, hr1, H⟩ := bB H
  refine o_call _ cf33 hA rfl (compact_Four.c μ _ hI.agr ([]) (.slice none 0 0) (slc_nil _ _ _) (IntKind.u32.wrap x0) (wrap_in _ _) r1 hr1) rfl fun v1 a w hz1 hA => ?_
  obtain ⟨_, cs1, rfl, hE1, hi1⟩ := hz1
  have hI := hI.call hi1
  refine stp hA (r_mv hA rfl) rfl fun a hA => ?_
  obtain ⟨μ1, hle1, hsv1, hI⟩ := hI.freezeRow 0 rfl
  have hS1 : Slc (RI .u8) 1 μ1 v1 r1 := ⟨_, hE1, hsv1⟩
  have hE2 : Els (RS (RI .u8) 1 μ1) 1 ([r1, x3] : List (List Int)) ([[v1]].flatten ++ ([[u3]].flatten ++ ([]))) := (Els.cons (c := [[v1]].flatten) ⟨_, rfl, hS1⟩ rfl (Els.cons (c := [[u3]].flatten) ⟨_, rfl, (Slc.le hx3 (fun _ _ h => h) hle1)⟩ rfl Els.nil))
  refine o_bsl ([[v1]].flatten ++ ([[u3]].flatten ++ ([]))) te25 zr25 Tryd.underlying101 hI hA rfl rfl rfl rfl ((fill_one (cells1 hS1) rfl (by kernel_rfl)).trans ((fill_one (cells1 (Slc.le hx3 (fun _ _ h => h) hle1)) rfl (by kernel_rfl)).trans (by kernel_rfl))) rfl fun g3 a w hA hI => ?_
  generalize hcs : ([[v1]].flatten ++ ([[u3]].flatten ++ ([])) : List Value) = cs2 at hE2 hI
  clear hcs
  obtain ⟨r2, hr2, H⟩ := bB H
  refine o_call (fun v w' => ∃ (v0 : Value) (c0 : List Value), v = v0 ∧ Els (RI .u8) 1 r2 c0 ∧ Iv w [] μ1 μ1 [row 5 1 v0 r2.length c0] w') cf32 hA rfl ((by obtain ⟨μ2, hle2, hsv2, hI⟩ := hI.freezeRow 0 rfl; have hS2 : Slc (RS (RI .u8) 1 μ2) 1 μ2 (.slice (some ⟨g3, 0, none⟩) 2 2) ([r1, x3] : List (List Int)) := ⟨_, (Els.mono hE2 (fun _ _ h => RS.le (fun _ _ h => h) hle2 h)), hsv2⟩; exact (slices_Concat_byte_byte.c μ2 _ hI.agr ([r1, x3] : List (List Int)) (.slice (some ⟨g3, 0, none⟩) 2 2) hS2 r2 hr2).mono fun _ _ ⟨v, he, b0, b1, hv, f0, hi⟩ => ⟨v, he, b0, b1, hv, f0, hi.low hle2⟩)) rfl fun v2 a w hz2 hA => ?_
  obtain ⟨_, cs3, rfl, hE3, hi2⟩ := hz2
  have hI := hI.call hi2
  refine stp hA (r_as hA rfl) rfl fun a hA => ?_
  refine o_nil ?_
  refine hN2 _ _ ?_
  obtain ⟨⟨c1, c2, c3, c4⟩, hz3, Hk1⟩ := bB H
  refine w_cut (fun a w => ∃ (μ3 : Store) (vvc1 : Value) (vvc3 : Value) (ccc3 : List Value) (vvc4 : Value) (ccc4 : List Value), μ1.le μ3 ∧ Slc (RI .u8) 1 μ3 vvc1 c1 ∧ InR .u32 c2 ∧ Els (RIn μ3) 35 c3 ccc3 ∧ Els (ROut μ3) 33 c4 ccc4 ∧ Fr a 25 [(0, .int .i64 x0), (1, .int .u64 x1), (2, .agg [av .u8 32 x2].flatten.toArray), (3, u3), (6, .pointer (some ⟨g1, 0, none⟩)), (8, .pointer (some ⟨g2, 0, none⟩)), (9, vvc1)] ∧ Iv w0 [] μ μ3 [row 46 35 vvc3 c3.length ccc3, row 48 33 vvc4 c4.length ccc4, row 25 1 (.slice (some ⟨g3, 0, none⟩) 2 2) ([r1, x3] : List (List Int)).length cs2, cel g2 [[.int .u32 c2], [vvc3], [vvc4], [.int .u32 0]] 32, cel g1 [av .u8 32 x2] 24] w) ?_ ?_
  · have H := bI hz3
    refine w_anyS [] mo (fun w (h : Iv w0 [] μ μ1 [row 5 1 v2 r2.length cs3, row 25 1 (.slice (some ⟨g3, 0, none⟩) 2 2) ([r1, x3] : List (List Int)).length cs2, cel g2 [[.int .u32 0], [(.slice none 0 0)], [(.slice none 0 0)], [.int .u32 0]] 32, cel g1 [av .u8 32 x2] 24] w) => (h.sel [0, 1, 3] (by decide) rfl : Iv w0 [] μ μ1 [row 5 1 v2 r2.length cs3, row 25 1 (.slice (some ⟨g3, 0, none⟩) 2 2) ([r1, x3] : List (List Int)).length cs2, cel g1 [av .u8 32 x2] 24] w)) hI fun w hI => ?_
    refine g_easy (i := 1) hA rfl rfl (by kernel_rfl) (.inr (hI.sel [0, 1, 3] (by decide) rfl)) (fun _ => r_mv hA rfl) rfl fun a hA => ?_
    refine g_easy (i := 4) hA rfl rfl (by kernel_rfl) (.inr (hI.sel [0, 1, 3] (by decide) rfl)) (fun _ => r_mv hA rfl) rfl fun a hA => ?_
    refine g_take (i := 5) hA rfl rfl (by kernel_rfl) (hI.sel [0, 1, 3] (by decide) rfl) (fun w hI => r_ldA (j := 2) [] [av .u8 32 x2] [] Tryd.underlying24 rfl sz24 rfl hI rfl hA rfl rfl) rfl fun a hA => ?_
    refine g_fork (i := 0) (is := [6]) (by kernel_rfl) (List.forall_mem_cons.2 ⟨⟨_, rfl, ?_⟩, (List.forall_mem_cons.2 ⟨⟨_, rfl, ?_⟩, List.forall_mem_nil _⟩)⟩)
    · skip
      obtain ⟨r3, hr3, H⟩ := bB H
      refine o_callp (u := .agg [av .u8 32 r3.Tx, [.int .u32 r3.N]].flatten.toArray) cf34 hA rfl hI (spend_Null.c μ1 _ hI.agr  r3 hr3) rfl fun a w hz4 hI hA => ?_
      refine o_nil ?_
      refine ⟨(.inr (hI.sel [0, 1, 3] (by decide) rfl)), ?_⟩
      refine g_fork (i := 2) (is := [6]) (by kernel_rfl) (List.forall_mem_cons.2 ⟨⟨_, rfl, ?_⟩, (List.forall_mem_cons.2 ⟨⟨_, rfl, ?_⟩, List.forall_mem_nil _⟩)⟩)
      · skip
        refine stp hA (r_bldS (cs := [av .u8 32 r3.Tx, [.int .u32 r3.N], [v2], [.int .u32 4294967295]].flatten.toArray) (pl := [(0, 33), (33, 1), (34, 1)]) zr46 Tryd.underlying46 ⟨rfl, sz44, rfl, sz25, rfl, sz28, trivial⟩ hA rfl ((fill_seg [] [av .u8 32 (List.replicate 32 0), [.int .u32 0]] [av .u8 32 r3.Tx, [.int .u32 r3.N]] [[(.slice none 0 0)], [.int .u32 0]] rfl rfl rfl rfl rfl).trans ((fill_seg [av .u8 32 r3.Tx, [.int .u32 r3.N]] [[(.slice none 0 0)]] [[v2]] [[.int .u32 0]] (own_cell hI (j := 0) rfl) rfl rfl rfl rfl).trans ((fill_seg [av .u8 32 r3.Tx, [.int .u32 r3.N], [v2]] [[.int .u32 0]] [[.int .u32 4294967295]] [] rfl rfl rfl rfl rfl).trans (rfl))))) rfl fun a hA => ?_
        refine o_nil ?_
        refine ⟨(.inr (hI.sel [0, 1, 3] (by decide) rfl)), ?_⟩
        refine g_fork (i := 3) (is := [6]) (by kernel_rfl) (List.forall_mem_cons.2 ⟨⟨_, rfl, ?_⟩, (List.forall_mem_cons.2 ⟨⟨_, rfl, ?_⟩, List.forall_mem_nil _⟩)⟩)
        · skip
          obtain ⟨μ4, hle4, hsv3, hI, hth1⟩ := hI.freezeRowT 0 rfl
          have hS3 : Slc (RI .u8) 1 μ4 v2 r2 := ⟨_, hE3, hsv3⟩
          have hE4 : Els (RIn μ4) 35 ([(⟨r3, r2, 4294967295⟩ : In)] : List In) ([av .u8 32 r3.Tx, [.int .u32 r3.N], [v2], [.int .u32 4294967295]].flatten ++ ([])) := (Els.cons (c := [av .u8 32 r3.Tx, [.int .u32 r3.N], [v2], [.int .u32 4294967295]].flatten) ⟨v2, rfl, ⟨hz4.1, hz4.2, hS3, (in_lit .u32 4294967295 rfl)⟩⟩ rfl Els.nil)
          refine o_bsl ([av .u8 32 r3.Tx, [.int .u32 r3.N], [v2], [.int .u32 4294967295]].flatten ++ ([])) te46 zr46 Tryd.underlying29 hI hA rfl rfl rfl rfl (by kernel_rfl) rfl fun g4 a w hA hI => ?_
          generalize hcs : ([av .u8 32 r3.Tx, [.int .u32 r3.N], [v2], [.int .u32 4294967295]].flatten ++ ([]) : List Value) = cs4 at hE4 hI
          clear hcs
          refine o_nil ?_
          refine ⟨(.inr ((hth1 _ _ hI).sel [0, 2, 4] (by decide) rfl)), ?_⟩
          refine g_forced (i := 6) rfl (by kernel_rfl) ?_
          refine stp hA (r_bldS (cs := [[.int .u64 x1], av .u8 32 x2].flatten.toArray) (pl := [(0, 1), (1, 32)]) zr48 Tryd.underlying48 ⟨rfl, sz22, rfl, sz24, trivial⟩ hA rfl (by kernel_rfl)) rfl fun a hA => ?_
          refine o_nil ?_
          refine ⟨(.inr ((hth1 _ _ hI).sel [0, 2, 4] (by decide) rfl)), ?_⟩
          refine g_forced (i := 7) rfl (by kernel_rfl) ?_
          have hE5 : Els (ROut μ4) 33 ([(⟨x1, x2⟩ : Out)] : List Out) ([[.int .u64 x1], av .u8 32 x2].flatten ++ ([])) := (Els.cons (c := [[.int .u64 x1], av .u8 32 x2].flatten) ⟨rfl, ⟨hx1, hx2⟩⟩ rfl Els.nil)
          refine o_bsl ([[.int .u64 x1], av .u8 32 x2].flatten ++ ([])) te48 zr48 Tryd.underlying30 hI hA rfl rfl rfl rfl (by kernel_rfl) rfl fun g5 a w hA hI => ?_
          generalize hcs : ([[.int .u64 x1], av .u8 32 x2].flatten ++ ([]) : List Value) = cs5 at hE5 hI
          clear hcs
          refine o_nil ?_
          refine ⟨(.inr ((hth1 _ _ hI).sel [0, 3, 5] (by decide) rfl)), ?_⟩
          refine g_forced (i := 8) rfl (by kernel_rfl) ?_
          refine stp hA (r_bldS (cs := [[.int .u32 1], [(.slice (some ⟨g4, 0, none⟩) 1 1)], [(.slice (some ⟨g5, 0, none⟩) 1 1)], [.int .u32 0]].flatten.toArray) (pl := [(0, 1), (1, 1), (2, 1), (3, 1)]) zr32 Tryd.underlying32 ⟨rfl, sz28, rfl, sz29, rfl, sz30, rfl, sz28, trivial⟩ hA rfl ((fill_one rfl rfl (by kernel_rfl)).trans ((fill_one (own_cell hI (j := 1) rfl) rfl (by kernel_rfl)).trans ((fill_one (own_cell hI (j := 0) rfl) rfl (by kernel_rfl)).trans (by kernel_rfl))))) rfl fun a hA => ?_
          refine o_nil ?_
          refine ⟨(.inr ((hth1 _ _ hI).sel [0, 3, 5] (by decide) rfl)), ?_⟩
          refine g_forced (i := 9) rfl (by kernel_rfl) ?_
          refine o_st (j := 3) [] [[.int .u32 0], [(.slice none 0 0)], [(.slice none 0 0)], [.int .u32 0]] [[.int .u32 1], [(.slice (some ⟨g4, 0, none⟩) 1 1)], [(.slice (some ⟨g5, 0, none⟩) 1 1)], [.int .u32 0]] [] sz32 rfl rfl (fl_cons (one_one rfl) (fl_cons (one_one (own_one hI (j := 1) rfl)) (fl_cons (one_one (own_one hI (j := 0) rfl)) (fl_cons (one_one rfl) fl_nil)))) hI rfl hA rfl rfl rfl rfl fun w hI => ?_
          refine o_nil ?_
          refine ⟨(.inr ((hth1 _ _ hI).sel [0, 3, 5] (by decide) rfl)), ?_⟩
          refine g_nil (by kernel_rfl) ?_
          cases Option.some.inj (bS H)
          exact ⟨μ4, v2, (.slice (some ⟨g4, 0, none⟩) 1 1), cs4, (.slice (some ⟨g5, 0, none⟩) 1 1), cs5, hle4, hS3, (in_lit .u32 1 rfl), hE4, hE5, hA.sub ⟨rfl, rfl, rfl, rfl, rfl, rfl, rfl, trivial⟩, (hI.sel [1, 0, 2, 3, 4] (by decide) rfl)⟩
        · skip
          refine stp hA (r_bldS (cs := [[.int .u64 x1], av .u8 32 x2].flatten.toArray) (pl := [(0, 1), (1, 32)]) zr48 Tryd.underlying48 ⟨rfl, sz22, rfl, sz24, trivial⟩ hA rfl (by kernel_rfl)) rfl fun a hA => ?_
          refine o_nil ?_
          refine ⟨(.inr (hI.sel [0, 1, 3] (by decide) rfl)), ?_⟩
          refine g_fork (i := 3) (is := [7]) (by kernel_rfl) (List.forall_mem_cons.2 ⟨⟨_, rfl, ?_⟩, (List.forall_mem_cons.2 ⟨⟨_, rfl, ?_⟩, List.forall_mem_nil _⟩)⟩)
          · skip
            obtain ⟨μ4, hle4, hsv3, hI, hth1⟩ := hI.freezeRowT 0 rfl
            have hS3 : Slc (RI .u8) 1 μ4 v2 r2 := ⟨_, hE3, hsv3⟩
            have hE4 : Els (RIn μ4) 35 ([(⟨r3, r2, 4294967295⟩ : In)] : List In) ([av .u8 32 r3.Tx, [.int .u32 r3.N], [v2], [.int .u32 4294967295]].flatten ++ ([])) := (Els.cons (c := [av .u8 32 r3.Tx, [.int .u32 r3.N], [v2], [.int .u32 4294967295]].flatten) ⟨v2, rfl, ⟨hz4.1, hz4.2, hS3, (in_lit .u32 4294967295 rfl)⟩⟩ rfl Els.nil)
            refine o_bsl ([av .u8 32 r3.Tx, [.int .u32 r3.N], [v2], [.int .u32 4294967295]].flatten ++ ([])) te46 zr46 Tryd.underlying29 hI hA rfl rfl rfl rfl (by kernel_rfl) rfl fun g4 a w hA hI => ?_
            generalize hcs : ([av .u8 32 r3.Tx, [.int .u32 r3.N], [v2], [.int .u32 4294967295]].flatten ++ ([]) : List Value) = cs4 at hE4 hI
            clear hcs
            refine o_nil ?_
            refine ⟨(.inr ((hth1 _ _ hI).sel [0, 2, 4] (by decide) rfl)), ?_⟩
            refine g_forced (i := 7) rfl (by kernel_rfl) ?_
            have hE5 : Els (ROut μ4) 33 ([(⟨x1, x2⟩ : Out)] : List Out) ([[.int .u64 x1], av .u8 32 x2].flatten ++ ([])) := (Els.cons (c := [[.int .u64 x1], av .u8 32 x2].flatten) ⟨rfl, ⟨hx1, hx2⟩⟩ rfl Els.nil)
            refine o_bsl ([[.int .u64 x1], av .u8 32 x2].flatten ++ ([])) te48 zr48 Tryd.underlying30 hI hA rfl rfl rfl rfl (by kernel_rfl) rfl fun g5 a w hA hI => ?_
            generalize hcs : ([[.int .u64 x1], av .u8 32 x2].flatten ++ ([]) : List Value) = cs5 at hE5 hI
            clear hcs
            refine o_nil ?_
            refine ⟨(.inr ((hth1 _ _ hI).sel [0, 3, 5] (by decide) rfl)), ?_⟩
            refine g_forced (i := 8) rfl (by kernel_rfl) ?_
            refine stp hA (r_bldS (cs := [[.int .u32 1], [(.slice (some ⟨g4, 0, none⟩) 1 1)], [(.slice (some ⟨g5, 0, none⟩) 1 1)], [.int .u32 0]].flatten.toArray) (pl := [(0, 1), (1, 1), (2, 1), (3, 1)]) zr32 Tryd.underlying32 ⟨rfl, sz28, rfl, sz29, rfl, sz30, rfl, sz28, trivial⟩ hA rfl ((fill_one rfl rfl (by kernel_rfl)).trans ((fill_one (own_cell hI (j := 1) rfl) rfl (by kernel_rfl)).trans ((fill_one (own_cell hI (j := 0) rfl) rfl (by kernel_rfl)).trans (by kernel_rfl))))) rfl fun a hA => ?_
            refine o_nil ?_
            refine ⟨(.inr ((hth1 _ _ hI).sel [0, 3, 5] (by decide) rfl)), ?_⟩
            refine g_forced (i := 9) rfl (by kernel_rfl) ?_
            refine o_st (j := 3) [] [[.int .u32 0], [(.slice none 0 0)], [(.slice none 0 0)], [.int .u32 0]] [[.int .u32 1], [(.slice (some ⟨g4, 0, none⟩) 1 1)], [(.slice (some ⟨g5, 0, none⟩) 1 1)], [.int .u32 0]] [] sz32 rfl rfl (fl_cons (one_one rfl) (fl_cons (one_one (own_one hI (j := 1) rfl)) (fl_cons (one_one (own_one hI (j := 0) rfl)) (fl_cons (one_one rfl) fl_nil)))) hI rfl hA rfl rfl rfl rfl fun w hI => ?_
            refine o_nil ?_
            refine ⟨(.inr ((hth1 _ _ hI).sel [0, 3, 5] (by decide) rfl)), ?_⟩
            refine g_nil (by kernel_rfl) ?_
            cases Option.some.inj (bS H)
            exact ⟨μ4, v2, (.slice (some ⟨g4, 0, none⟩) 1 1), cs4, (.slice (some ⟨g5, 0, none⟩) 1 1), cs5, hle4, hS3, (in_lit .u32 1 rfl), hE4, hE5, hA.sub ⟨rfl, rfl, rfl, rfl, rfl, rfl, rfl, trivial⟩, (hI.sel [1, 0, 2, 3, 4] (by decide) rfl)⟩
          · skip
            have hE4 : Els (ROut μ1) 33 ([(⟨x1, x2⟩ : Out)] : List Out) ([[.int .u64 x1], av .u8 32 x2].flatten ++ ([])) := (Els.cons (c := [[.int .u64 x1], av .u8 32 x2].flatten) ⟨rfl, ⟨hx1, hx2⟩⟩ rfl Els.nil)
            refine o_bsl ([[.int .u64 x1], av .u8 32 x2].flatten ++ ([])) te48 zr48 Tryd.underlying30 hI hA rfl rfl rfl rfl (by kernel_rfl) rfl fun g4 a w hA hI => ?_
            generalize hcs : ([[.int .u64 x1], av .u8 32 x2].flatten ++ ([]) : List Value) = cs4 at hE4 hI
            clear hcs
            refine o_nil ?_
            refine ⟨(.inr (hI.sel [1, 2, 4] (by decide) rfl)), ?_⟩
            refine g_forced (i := 3) rfl (by kernel_rfl) ?_
            obtain ⟨μ4, hle4, hsv3, hI, hth1⟩ := hI.freezeRowT 1 rfl
            have hS3 : Slc (RI .u8) 1 μ4 v2 r2 := ⟨_, hE3, hsv3⟩
            have hE5 : Els (RIn μ4) 35 ([(⟨r3, r2, 4294967295⟩ : In)] : List In) ([av .u8 32 r3.Tx, [.int .u32 r3.N], [v2], [.int .u32 4294967295]].flatten ++ ([])) := (Els.cons (c := [av .u8 32 r3.Tx, [.int .u32 r3.N], [v2], [.int .u32 4294967295]].flatten) ⟨v2, rfl, ⟨hz4.1, hz4.2, hS3, (in_lit .u32 4294967295 rfl)⟩⟩ rfl Els.nil)
            refine o_bsl ([av .u8 32 r3.Tx, [.int .u32 r3.N], [v2], [.int .u32 4294967295]].flatten ++ ([])) te46 zr46 Tryd.underlying29 hI hA rfl rfl rfl rfl (by kernel_rfl) rfl fun g5 a w hA hI => ?_
            generalize hcs : ([av .u8 32 r3.Tx, [.int .u32 r3.N], [v2], [.int .u32 4294967295]].flatten ++ ([]) : List Value) = cs5 at hE5 hI
            clear hcs
            refine o_nil ?_
            refine ⟨(.inr ((hth1 _ _ hI).sel [0, 3, 5] (by decide) rfl)), ?_⟩
            refine g_forced (i := 8) rfl (by kernel_rfl) ?_
            refine stp hA (r_bldS (cs := [[.int .u32 1], [(.slice (some ⟨g5, 0, none⟩) 1 1)], [(.slice (some ⟨g4, 0, none⟩) 1 1)], [.int .u32 0]].flatten.toArray) (pl := [(0, 1), (1, 1), (2, 1), (3, 1)]) zr32 Tryd.underlying32 ⟨rfl, sz28, rfl, sz29, rfl, sz30, rfl, sz28, trivial⟩ hA rfl ((fill_one rfl rfl (by kernel_rfl)).trans ((fill_one (own_cell hI (j := 0) rfl) rfl (by kernel_rfl)).trans ((fill_one (own_cell hI (j := 1) rfl) rfl (by kernel_rfl)).trans (by kernel_rfl))))) rfl fun a hA => ?_
            refine o_nil ?_
            refine ⟨(.inr ((hth1 _ _ hI).sel [0, 3, 5] (by decide) rfl)), ?_⟩
            refine g_forced (i := 9) rfl (by kernel_rfl) ?_
            refine o_st (j := 3) [] [[.int .u32 0], [(.slice none 0 0)], [(.slice none 0 0)], [.int .u32 0]] [[.int .u32 1], [(.slice (some ⟨g5, 0, none⟩) 1 1)], [(.slice (some ⟨g4, 0, none⟩) 1 1)], [.int .u32 0]] [] sz32 rfl rfl (fl_cons (one_one rfl) (fl_cons (one_one (own_one hI (j := 0) rfl)) (fl_cons (one_one (own_one hI (j := 1) rfl)) (fl_cons (one_one rfl) fl_nil)))) hI rfl hA rfl rfl rfl rfl fun w hI => ?_
            refine o_nil ?_
            refine ⟨(.inr ((hth1 _ _ hI).sel [0, 3, 5] (by decide) rfl)), ?_⟩
            refine g_nil (by kernel_rfl) ?_
            cases Option.some.inj (bS H)
            exact ⟨μ4, v2, (.slice (some ⟨g5, 0, none⟩) 1 1), cs5, (.slice (some ⟨g4, 0, none⟩) 1 1), cs4, hle4, hS3, (in_lit .u32 1 rfl), hE5, (Els.mono hE4 (fun _ _ h => ROut.le hle4 h)), hA.sub ⟨rfl, rfl, rfl, rfl, rfl, rfl, rfl, trivial⟩, hI⟩
      · skip
        refine stp hA (r_bldS (cs := [[.int .u64 x1], av .u8 32 x2].flatten.toArray) (pl := [(0, 1), (1, 32)]) zr48 Tryd.underlying48 ⟨rfl, sz22, rfl, sz24, trivial⟩ hA rfl (by kernel_rfl)) rfl fun a hA => ?_
        refine o_nil ?_
        refine ⟨(.inr (hI.sel [0, 1, 3] (by decide) rfl)), ?_⟩
        refine g_fork (i := 2) (is := [7]) (by kernel_rfl) (List.forall_mem_cons.2 ⟨⟨_, rfl, ?_⟩, (List.forall_mem_cons.2 ⟨⟨_, rfl, ?_⟩, List.forall_mem_nil _⟩)⟩)
        · skip
          refine stp hA (r_bldS (cs := [av .u8 32 r3.Tx, [.int .u32 r3.N], [v2], [.int .u32 4294967295]].flatten.toArray) (pl := [(0, 33), (33, 1), (34, 1)]) zr46 Tryd.underlying46 ⟨rfl, sz44, rfl, sz25, rfl, sz28, trivial⟩ hA rfl ((fill_seg [] [av .u8 32 (List.replicate 32 0), [.int .u32 0]] [av .u8 32 r3.Tx, [.int .u32 r3.N]] [[(.slice none 0 0)], [.int .u32 0]] rfl rfl rfl rfl rfl).trans ((fill_seg [av .u8 32 r3.Tx, [.int .u32 r3.N]] [[(.slice none 0 0)]] [[v2]] [[.int .u32 0]] (own_cell hI (j := 0) rfl) rfl rfl rfl rfl).trans ((fill_seg [av .u8 32 r3.Tx, [.int .u32 r3.N], [v2]] [[.int .u32 0]] [[.int .u32 4294967295]] [] rfl rfl rfl rfl rfl).trans (rfl))))) rfl fun a hA => ?_
          refine o_nil ?_
          refine ⟨(.inr (hI.sel [0, 1, 3] (by decide) rfl)), ?_⟩
          refine g_fork (i := 3) (is := [7]) (by kernel_rfl) (List.forall_mem_cons.2 ⟨⟨_, rfl, ?_⟩, (List.forall_mem_cons.2 ⟨⟨_, rfl, ?_⟩, List.forall_mem_nil _⟩)⟩)
          · skip
            obtain ⟨μ4, hle4, hsv3, hI, hth1⟩ := hI.freezeRowT 0 rfl
            have hS3 : Slc (RI .u8) 1 μ4 v2 r2 := ⟨_, hE3, hsv3⟩
            have hE4 : Els (RIn μ4) 35 ([(⟨r3, r2, 4294967295⟩ : In)] : List In) ([av .u8 32 r3.Tx, [.int .u32 r3.N], [v2], [.int .u32 4294967295]].flatten ++ ([])) := (Els.cons (c := [av .u8 32 r3.Tx, [.int .u32 r3.N], [v2], [.int .u32 4294967295]].flatten) ⟨v2, rfl, ⟨hz4.1, hz4.2, hS3, (in_lit .u32 4294967295 rfl)⟩⟩ rfl Els.nil)
            refine o_bsl ([av .u8 32 r3.Tx, [.int .u32 r3.N], [v2], [.int .u32 4294967295]].flatten ++ ([])) te46 zr46 Tryd.underlying29 hI hA rfl rfl rfl rfl (by kernel_rfl) rfl fun g4 a w hA hI => ?_
            generalize hcs : ([av .u8 32 r3.Tx, [.int .u32 r3.N], [v2], [.int .u32 4294967295]].flatten ++ ([]) : List Value) = cs4 at hE4 hI
            clear hcs
            refine o_nil ?_
            refine ⟨(.inr ((hth1 _ _ hI).sel [0, 2, 4] (by decide) rfl)), ?_⟩
            refine g_forced (i := 7) rfl (by kernel_rfl) ?_
            have hE5 : Els (ROut μ4) 33 ([(⟨x1, x2⟩ : Out)] : List Out) ([[.int .u64 x1], av .u8 32 x2].flatten ++ ([])) := (Els.cons (c := [[.int .u64 x1], av .u8 32 x2].flatten) ⟨rfl, ⟨hx1, hx2⟩⟩ rfl Els.nil)
            refine o_bsl ([[.int .u64 x1], av .u8 32 x2].flatten ++ ([])) te48 zr48 Tryd.underlying30 hI hA rfl rfl rfl rfl (by kernel_rfl) rfl fun g5 a w hA hI => ?_
            generalize hcs : ([[.int .u64 x1], av .u8 32 x2].flatten ++ ([]) : List Value) = cs5 at hE5 hI
            clear hcs
            refine o_nil ?_
            refine ⟨(.inr ((hth1 _ _ hI).sel [0, 3, 5] (by decide) rfl)), ?_⟩
            refine g_forced (i := 8) rfl (by kernel_rfl) ?_
            refine stp hA (r_bldS (cs := [[.int .u32 1], [(.slice (some ⟨g4, 0, none⟩) 1 1)], [(.slice (some ⟨g5, 0, none⟩) 1 1)], [.int .u32 0]].flatten.toArray) (pl := [(0, 1), (1, 1), (2, 1), (3, 1)]) zr32 Tryd.underlying32 ⟨rfl, sz28, rfl, sz29, rfl, sz30, rfl, sz28, trivial⟩ hA rfl ((fill_one rfl rfl (by kernel_rfl)).trans ((fill_one (own_cell hI (j := 1) rfl) rfl (by kernel_rfl)).trans ((fill_one (own_cell hI (j := 0) rfl) rfl (by kernel_rfl)).trans (by kernel_rfl))))) rfl fun a hA => ?_
            refine o_nil ?_
            refine ⟨(.inr ((hth1 _ _ hI).sel [0, 3, 5] (by decide) rfl)), ?_⟩
            refine g_forced (i := 9) rfl (by kernel_rfl) ?_
            refine o_st (j := 3) [] [[.int .u32 0], [(.slice none 0 0)], [(.slice none 0 0)], [.int .u32 0]] [[.int .u32 1], [(.slice (some ⟨g4, 0, none⟩) 1 1)], [(.slice (some ⟨g5, 0, none⟩) 1 1)], [.int .u32 0]] [] sz32 rfl rfl (fl_cons (one_one rfl) (fl_cons (one_one (own_one hI (j := 1) rfl)) (fl_cons (one_one (own_one hI (j := 0) rfl)) (fl_cons (one_one rfl) fl_nil)))) hI rfl hA rfl rfl rfl rfl fun w hI => ?_
            refine o_nil ?_
            refine ⟨(.inr ((hth1 _ _ hI).sel [0, 3, 5] (by decide) rfl)), ?_⟩
            refine g_nil (by kernel_rfl) ?_
            cases Option.some.inj (bS H)
            exact ⟨μ4, v2, (.slice (some ⟨g4, 0, none⟩) 1 1), cs4, (.slice (some ⟨g5, 0, none⟩) 1 1), cs5, hle4, hS3, (in_lit .u32 1 rfl), hE4, hE5, hA.sub ⟨rfl, rfl, rfl, rfl, rfl, rfl, rfl, trivial⟩, (hI.sel [1, 0, 2, 3, 4] (by decide) rfl)⟩
          · skip
            have hE4 : Els (ROut μ1) 33 ([(⟨x1, x2⟩ : Out)] : List Out) ([[.int .u64 x1], av .u8 32 x2].flatten ++ ([])) := (Els.cons (c := [[.int .u64 x1], av .u8 32 x2].flatten) ⟨rfl, ⟨hx1, hx2⟩⟩ rfl Els.nil)
            refine o_bsl ([[.int .u64 x1], av .u8 32 x2].flatten ++ ([])) te48 zr48 Tryd.underlying30 hI hA rfl rfl rfl rfl (by kernel_rfl) rfl fun g4 a w hA hI => ?_
            generalize hcs : ([[.int .u64 x1], av .u8 32 x2].flatten ++ ([]) : List Value) = cs4 at hE4 hI
            clear hcs
            refine o_nil ?_
            refine ⟨(.inr (hI.sel [1, 2, 4] (by decide) rfl)), ?_⟩
            refine g_forced (i := 3) rfl (by kernel_rfl) ?_
            obtain ⟨μ4, hle4, hsv3, hI, hth1⟩ := hI.freezeRowT 1 rfl
            have hS3 : Slc (RI .u8) 1 μ4 v2 r2 := ⟨_, hE3, hsv3⟩
            have hE5 : Els (RIn μ4) 35 ([(⟨r3, r2, 4294967295⟩ : In)] : List In) ([av .u8 32 r3.Tx, [.int .u32 r3.N], [v2], [.int .u32 4294967295]].flatten ++ ([])) := (Els.cons (c := [av .u8 32 r3.Tx, [.int .u32 r3.N], [v2], [.int .u32 4294967295]].flatten) ⟨v2, rfl, ⟨hz4.1, hz4.2, hS3, (in_lit .u32 4294967295 rfl)⟩⟩ rfl Els.nil)
            refine o_bsl ([av .u8 32 r3.Tx, [.int .u32 r3.N], [v2], [.int .u32 4294967295]].flatten ++ ([])) te46 zr46 Tryd.underlying29 hI hA rfl rfl rfl rfl (by kernel_rfl) rfl fun g5 a w hA hI => ?_
            generalize hcs : ([av .u8 32 r3.Tx, [.int .u32 r3.N], [v2], [.int .u32 4294967295]].flatten ++ ([]) : List Value) = cs5 at hE5 hI
            clear hcs
            refine o_nil ?_
            refine ⟨(.inr ((hth1 _ _ hI).sel [0, 3, 5] (by decide) rfl)), ?_⟩
            refine g_forced (i := 8) rfl (by kernel_rfl) ?_
            refine stp hA (r_bldS (cs := [[.int .u32 1], [(.slice (some ⟨g5, 0, none⟩) 1 1)], [(.slice (some ⟨g4, 0, none⟩) 1 1)], [.int .u32 0]].flatten.toArray) (pl := [(0, 1), (1, 1), (2, 1), (3, 1)]) zr32 Tryd.underlying32 ⟨rfl, sz28, rfl, sz29, rfl, sz30, rfl, sz28, trivial⟩ hA rfl ((fill_one rfl rfl (by kernel_rfl)).trans ((fill_one (own_cell hI (j := 0) rfl) rfl (by kernel_rfl)).trans ((fill_one (own_cell hI (j := 1) rfl) rfl (by kernel_rfl)).trans (by kernel_rfl))))) rfl fun a hA => ?_
            refine o_nil ?_
            refine ⟨(.inr ((hth1 _ _ hI).sel [0, 3, 5] (by decide) rfl)), ?_⟩
            refine g_forced (i := 9) rfl (by kernel_rfl) ?_
            refine o_st (j := 3) [] [[.int .u32 0], [(.slice none 0 0)], [(.slice none 0 0)], [.int .u32 0]] [[.int .u32 1], [(.slice (some ⟨g5, 0, none⟩) 1 1)], [(.slice (some ⟨g4, 0, none⟩) 1 1)], [.int .u32 0]] [] sz32 rfl rfl (fl_cons (one_one rfl) (fl_cons (one_one (own_one hI (j := 0) rfl)) (fl_cons (one_one (own_one hI (j := 1) rfl)) (fl_cons (one_one rfl) fl_nil)))) hI rfl hA rfl rfl rfl rfl fun w hI => ?_
            refine o_nil ?_
            refine ⟨(.inr ((hth1 _ _ hI).sel [0, 3, 5] (by decide) rfl)), ?_⟩
            refine g_nil (by kernel_rfl) ?_
            cases Option.some.inj (bS H)
            exact ⟨μ4, v2, (.slice (some ⟨g5, 0, none⟩) 1 1), cs5, (.slice (some ⟨g4, 0, none⟩) 1 1), cs4, hle4, hS3, (in_lit .u32 1 rfl), hE5, (Els.mono hE4 (fun _ _ h => ROut.le hle4 h)), hA.sub ⟨rfl, rfl, rfl, rfl, rfl, rfl, rfl, trivial⟩, hI⟩
        · skip
          have hE4 : Els (ROut μ1) 33 ([(⟨x1, x2⟩ : Out)] : List Out) ([[.int .u64 x1], av .u8 32 x2].flatten ++ ([])) := (Els.cons (c := [[.int .u64 x1], av .u8 32 x2].flatten) ⟨rfl, ⟨hx1, hx2⟩⟩ rfl Els.nil)
          refine o_bsl ([[.int .u64 x1], av .u8 32 x2].flatten ++ ([])) te48 zr48 Tryd.underlying30 hI hA rfl rfl rfl rfl (by kernel_rfl) rfl fun g4 a w hA hI => ?_
          generalize hcs : ([[.int .u64 x1], av .u8 32 x2].flatten ++ ([]) : List Value) = cs4 at hE4 hI
          clear hcs
          refine o_nil ?_
          refine ⟨(.inr (hI.sel [1, 2, 4] (by decide) rfl)), ?_⟩
          refine g_forced (i := 2) rfl (by kernel_rfl) ?_
          refine stp hA (r_bldS (cs := [av .u8 32 r3.Tx, [.int .u32 r3.N], [v2], [.int .u32 4294967295]].flatten.toArray) (pl := [(0, 33), (33, 1), (34, 1)]) zr46 Tryd.underlying46 ⟨rfl, sz44, rfl, sz25, rfl, sz28, trivial⟩ hA rfl ((fill_seg [] [av .u8 32 (List.replicate 32 0), [.int .u32 0]] [av .u8 32 r3.Tx, [.int .u32 r3.N]] [[(.slice none 0 0)], [.int .u32 0]] rfl rfl rfl rfl rfl).trans ((fill_seg [av .u8 32 r3.Tx, [.int .u32 r3.N]] [[(.slice none 0 0)]] [[v2]] [[.int .u32 0]] (own_cell hI (j := 1) rfl) rfl rfl rfl rfl).trans ((fill_seg [av .u8 32 r3.Tx, [.int .u32 r3.N], [v2]] [[.int .u32 0]] [[.int .u32 4294967295]] [] rfl rfl rfl rfl rfl).trans (rfl))))) rfl fun a hA => ?_
          refine o_nil ?_
          refine ⟨(.inr (hI.sel [1, 2, 4] (by decide) rfl)), ?_⟩
          refine g_forced (i := 3) rfl (by kernel_rfl) ?_
          obtain ⟨μ4, hle4, hsv3, hI, hth1⟩ := hI.freezeRowT 1 rfl
          have hS3 : Slc (RI .u8) 1 μ4 v2 r2 := ⟨_, hE3, hsv3⟩
          have hE5 : Els (RIn μ4) 35 ([(⟨r3, r2, 4294967295⟩ : In)] : List In) ([av .u8 32 r3.Tx, [.int .u32 r3.N], [v2], [.int .u32 4294967295]].flatten ++ ([])) := (Els.cons (c := [av .u8 32 r3.Tx, [.int .u32 r3.N], [v2], [.int .u32 4294967295]].flatten) ⟨v2, rfl, ⟨hz4.1, hz4.2, hS3, (in_lit .u32 4294967295 rfl)⟩⟩ rfl Els.nil)
          refine o_bsl ([av .u8 32 r3.Tx, [.int .u32 r3.N], [v2], [.int .u32 4294967295]].flatten ++ ([])) te46 zr46 Tryd.underlying29 hI hA rfl rfl rfl rfl (by kernel_rfl) rfl fun g5 a w hA hI => ?_
          generalize hcs : ([av .u8 32 r3.Tx, [.int .u32 r3.N], [v2], [.int .u32 4294967295]].flatten ++ ([]) : List Value) = cs5 at hE5 hI
          clear hcs
          refine o_nil ?_
          refine ⟨(.inr ((hth1 _ _ hI).sel [0, 3, 5] (by decide) rfl)), ?_⟩
          refine g_forced (i := 8) rfl (by kernel_rfl) ?_
          refine stp hA (r_bldS (cs := [[.int .u32 1], [(.slice (some ⟨g5, 0, none⟩) 1 1)], [(.slice (some ⟨g4, 0, none⟩) 1 1)], [.int .u32 0]].flatten.toArray) (pl := [(0, 1), (1, 1), (2, 1), (3, 1)]) zr32 Tryd.underlying32 ⟨rfl, sz28, rfl, sz29, rfl, sz30, rfl, sz28, trivial⟩ hA rfl ((fill_one rfl rfl (by kernel_rfl)).trans ((fill_one (own_cell hI (j := 0) rfl) rfl (by kernel_rfl)).trans ((fill_one (own_cell hI (j := 1) rfl) rfl (by kernel_rfl)).trans (by kernel_rfl))))) rfl fun a hA => ?_
          refine o_nil ?_
          refine ⟨(.inr ((hth1 _ _ hI).sel [0, 3, 5] (by decide) rfl)), ?_⟩
          refine g_forced (i := 9) rfl (by kernel_rfl) ?_
          refine o_st (j := 3) [] [[.int .u32 0], [(.slice none 0 0)], [(.slice none 0 0)], [.int .u32 0]] [[.int .u32 1], [(.slice (some ⟨g5, 0, none⟩) 1 1)], [(.slice (some ⟨g4, 0, none⟩) 1 1)], [.int .u32 0]] [] sz32 rfl rfl (fl_cons (one_one rfl) (fl_cons (one_one (own_one hI (j := 0) rfl)) (fl_cons (one_one (own_one hI (j := 1) rfl)) (fl_cons (one_one rfl) fl_nil)))) hI rfl hA rfl rfl rfl rfl fun w hI => ?_
          refine o_nil ?_
          refine ⟨(.inr ((hth1 _ _ hI).sel [0, 3, 5] (by decide) rfl)), ?_⟩
          refine g_nil (by kernel_rfl) ?_
          cases Option.some.inj (bS H)
          exact ⟨μ4, v2, (.slice (some ⟨g5, 0, none⟩) 1 1), cs5, (.slice (some ⟨g4, 0, none⟩) 1 1), cs4, hle4, hS3, (in_lit .u32 1 rfl), hE5, (Els.mono hE4 (fun _ _ h => ROut.le hle4 h)), hA.sub ⟨rfl, rfl, rfl, rfl, rfl, rfl, rfl, trivial⟩, hI⟩
    · skip
      refine stp hA (r_bldS (cs := [[.int .u64 x1], av .u8 32 x2].flatten.toArray) (pl := [(0, 1), (1, 32)]) zr48 Tryd.underlying48 ⟨rfl, sz22, rfl, sz24, trivial⟩ hA rfl (by kernel_rfl)) rfl fun a hA => ?_
      refine o_nil ?_
      refine ⟨(.inr (hI.sel [0, 1, 3] (by decide) rfl)), ?_⟩
      refine g_fork (i := 0) (is := [7]) (by kernel_rfl) (List.forall_mem_cons.2 ⟨⟨_, rfl, ?_⟩, (List.forall_mem_cons.2 ⟨⟨_, rfl, ?_⟩, List.forall_mem_nil _⟩)⟩)
      · skip
        obtain ⟨r3, hr3, H⟩ := bB H
        refine o_callp (u := .agg [av .u8 32 r3.Tx, [.int .u32 r3.N]].flatten.toArray) cf34 hA rfl hI (spend_Null.c μ1 _ hI.agr  r3 hr3) rfl fun a w hz4 hI hA => ?_
        refine o_nil ?_
        refine ⟨(.inr (hI.sel [0, 1, 3] (by decide) rfl)), ?_⟩
        refine g_fork (i := 2) (is := [7]) (by kernel_rfl) (List.forall_mem_cons.2 ⟨⟨_, rfl, ?_⟩, (List.forall_mem_cons.2 ⟨⟨_, rfl, ?_⟩, List.forall_mem_nil _⟩)⟩)
        · skip
          refine stp hA (r_bldS (cs := [av .u8 32 r3.Tx, [.int .u32 r3.N], [v2], [.int .u32 4294967295]].flatten.toArray) (pl := [(0, 33), (33, 1), (34, 1)]) zr46 Tryd.underlying46 ⟨rfl, sz44, rfl, sz25, rfl, sz28, trivial⟩ hA rfl ((fill_seg [] [av .u8 32 (List.replicate 32 0), [.int .u32 0]] [av .u8 32 r3.Tx, [.int .u32 r3.N]] [[(.slice none 0 0)], [.int .u32 0]] rfl rfl rfl rfl rfl).trans ((fill_seg [av .u8 32 r3.Tx, [.int .u32 r3.N]] [[(.slice none 0 0)]] [[v2]] [[.int .u32 0]] (own_cell hI (j := 0) rfl) rfl rfl rfl rfl).trans ((fill_seg [av .u8 32 r3.Tx, [.int .u32 r3.N], [v2]] [[.int .u32 0]] [[.int .u32 4294967295]] [] rfl rfl rfl rfl rfl).trans (rfl))))) rfl fun a hA => ?_
          refine o_nil ?_
          refine ⟨(.inr (hI.sel [0, 1, 3] (by decide) rfl)), ?_⟩
          refine g_fork (i := 3) (is := [7]) (by kernel_rfl) (List.forall_mem_cons.2 ⟨⟨_, rfl, ?_⟩, (List.forall_mem_cons.2 ⟨⟨_, rfl, ?_⟩, List.forall_mem_nil _⟩)⟩)
          · skip
            obtain ⟨μ4, hle4, hsv3, hI, hth1⟩ := hI.freezeRowT 0 rfl
            have hS3 : Slc (RI .u8) 1 μ4 v2 r2 := ⟨_, hE3, hsv3⟩
            have hE4 : Els (RIn μ4) 35 ([(⟨r3, r2, 4294967295⟩ : In)] : List In) ([av .u8 32 r3.Tx, [.int .u32 r3.N], [v2], [.int .u32 4294967295]].flatten ++ ([])) := (Els.cons (c := [av .u8 32 r3.Tx, [.int .u32 r3.N], [v2], [.int .u32 4294967295]].flatten) ⟨v2, rfl, ⟨hz4.1, hz4.2, hS3, (in_lit .u32 4294967295 rfl)⟩⟩ rfl Els.nil)
            refine o_bsl ([av .u8 32 r3.Tx, [.int .u32 r3.N], [v2], [.int .u32 4294967295]].flatten ++ ([])) te46 zr46 Tryd.underlying29 hI hA rfl rfl rfl rfl (by kernel_rfl) rfl fun g4 a w hA hI => ?_
            generalize hcs : ([av .u8 32 r3.Tx, [.int .u32 r3.N], [v2], [.int .u32 4294967295]].flatten ++ ([]) : List Value) = cs4 at hE4 hI
            clear hcs
            refine o_nil ?_
            refine ⟨(.inr ((hth1 _ _ hI).sel [0, 2, 4] (by decide) rfl)), ?_⟩
            refine g_forced (i := 7) rfl (by kernel_rfl) ?_
            have hE5 : Els (ROut μ4) 33 ([(⟨x1, x2⟩ : Out)] : List Out) ([[.int .u64 x1], av .u8 32 x2].flatten ++ ([])) := (Els.cons (c := [[.int .u64 x1], av .u8 32 x2].flatten) ⟨rfl, ⟨hx1, hx2⟩⟩ rfl Els.nil)
            refine o_bsl ([[.int .u64 x1], av .u8 32 x2].flatten ++ ([])) te48 zr48 Tryd.underlying30 hI hA rfl rfl rfl rfl (by kernel_rfl) rfl fun g5 a w hA hI => ?_
            generalize hcs : ([[.int .u64 x1], av .u8 32 x2].flatten ++ ([]) : List Value) = cs5 at hE5 hI
            clear hcs
            refine o_nil ?_
            refine ⟨(.inr ((hth1 _ _ hI).sel [0, 3, 5] (by decide) rfl)), ?_⟩
            refine g_forced (i := 8) rfl (by kernel_rfl) ?_
            refine stp hA (r_bldS (cs := [[.int .u32 1], [(.slice (some ⟨g4, 0, none⟩) 1 1)], [(.slice (some ⟨g5, 0, none⟩) 1 1)], [.int .u32 0]].flatten.toArray) (pl := [(0, 1), (1, 1), (2, 1), (3, 1)]) zr32 Tryd.underlying32 ⟨rfl, sz28, rfl, sz29, rfl, sz30, rfl, sz28, trivial⟩ hA rfl ((fill_one rfl rfl (by kernel_rfl)).trans ((fill_one (own_cell hI (j := 1) rfl) rfl (by kernel_rfl)).trans ((fill_one (own_cell hI (j := 0) rfl) rfl (by kernel_rfl)).trans (by kernel_rfl))))) rfl fun a hA => ?_
            refine o_nil ?_
            refine ⟨(.inr ((hth1 _ _ hI).sel [0, 3, 5] (by decide) rfl)), ?_⟩
            refine g_forced (i := 9) rfl (by kernel_rfl) ?_
            refine o_st (j := 3) [] [[.int .u32 0], [(.slice none 0 0)], [(.slice none 0 0)], [.int .u32 0]] [[.int .u32 1], [(.slice (some ⟨g4, 0, none⟩) 1 1)], [(.slice (some ⟨g5, 0, none⟩) 1 1)], [.int .u32 0]] [] sz32 rfl rfl (fl_cons (one_one rfl) (fl_cons (one_one (own_one hI (j := 1) rfl)) (fl_cons (one_one (own_one hI (j := 0) rfl)) (fl_cons (one_one rfl) fl_nil)))) hI rfl hA rfl rfl rfl rfl fun w hI => ?_
            refine o_nil ?_
            refine ⟨(.inr ((hth1 _ _ hI).sel [0, 3, 5] (by decide) rfl)), ?_⟩
            refine g_nil (by kernel_rfl) ?_
            cases Option.some.inj (bS H)
            exact ⟨μ4, v2, (.slice (some ⟨g4, 0, none⟩) 1 1), cs4, (.slice (some ⟨g5, 0, none⟩) 1 1), cs5, hle4, hS3, (in_lit .u32 1 rfl), hE4, hE5, hA.sub ⟨rfl, rfl, rfl, rfl, rfl, rfl, rfl, trivial⟩, (hI.sel [1, 0, 2, 3, 4] (by decide) rfl)⟩
          · skip
            have hE4 : Els (ROut μ1) 33 ([(⟨x1, x2⟩ : Out)] : List Out) ([[.int .u64 x1], av .u8 32 x2].flatten ++ ([])) := (Els.cons (c := [[.int .u64 x1], av .u8 32 x2].flatten) ⟨rfl, ⟨hx1, hx2⟩⟩ rfl Els.nil)
            refine o_bsl ([[.int .u64 x1], av .u8 32 x2].flatten ++ ([])) te48 zr48 Tryd.underlying30 hI hA rfl rfl rfl rfl (by kernel_rfl) rfl fun g4 a w hA hI => ?_
            generalize hcs : ([[.int .u64 x1], av .u8 32 x2].flatten ++ ([]) : List Value) = cs4 at hE4 hI
            clear hcs
            refine o_nil ?_
            refine ⟨(.inr (hI.sel [1, 2, 4] (by decide) rfl)), ?_⟩
            refine g_forced (i := 3) rfl (by kernel_rfl) ?_
            obtain ⟨μ4, hle4, hsv3, hI, hth1⟩ := hI.freezeRowT 1 rfl
            have hS3 : Slc (RI .u8) 1 μ4 v2 r2 := ⟨_, hE3, hsv3⟩
            have hE5 : Els (RIn μ4) 35 ([(⟨r3, r2, 4294967295⟩ : In)] : List In) ([av .u8 32 r3.Tx, [.int .u32 r3.N], [v2], [.int .u32 4294967295]].flatten ++ ([])) := (Els.cons (c := [av .u8 32 r3.Tx, [.int .u32 r3.N], [v2], [.int .u32 4294967295]].flatten) ⟨v2, rfl, ⟨hz4.1, hz4.2, hS3, (in_lit .u32 4294967295 rfl)⟩⟩ rfl Els.nil)
            refine o_bsl ([av .u8 32 r3.Tx, [.int .u32 r3.N], [v2], [.int .u32 4294967295]].flatten ++ ([])) te46 zr46 Tryd.underlying29 hI hA rfl rfl rfl rfl (by kernel_rfl) rfl fun g5 a w hA hI => ?_
            generalize hcs : ([av .u8 32 r3.Tx, [.int .u32 r3.N], [v2], [.int .u32 4294967295]].flatten ++ ([]) : List Value) = cs5 at hE5 hI
            clear hcs
            refine o_nil ?_
            refine ⟨(.inr ((hth1 _ _ hI).sel [0, 3, 5] (by decide) rfl)), ?_⟩
            refine g_forced (i := 8) rfl (by kernel_rfl) ?_
            refine stp hA (r_bldS (cs := [[.int .u32 1], [(.slice (some ⟨g5, 0, none⟩) 1 1)], [(.slice (some ⟨g4, 0, none⟩) 1 1)], [.int .u32 0]].flatten.toArray) (pl := [(0, 1), (1, 1), (2, 1), (3, 1)]) zr32 Tryd.underlying32 ⟨rfl, sz28, rfl, sz29, rfl, sz30, rfl, sz28, trivial⟩ hA rfl ((fill_one rfl rfl (by kernel_rfl)).trans ((fill_one (own_cell hI (j := 0) rfl) rfl (by kernel_rfl)).trans ((fill_one (own_cell hI (j := 1) rfl) rfl (by kernel_rfl)).trans (by kernel_rfl))))) rfl fun a hA => ?_
            refine o_nil ?_
            refine ⟨(.inr ((hth1 _ _ hI).sel [0, 3, 5] (by decide) rfl)), ?_⟩
            refine g_forced (i := 9) rfl (by kernel_rfl) ?_
            refine o_st (j := 3) [] [[.int .u32 0], [(.slice none 0 0)], [(.slice none 0 0)], [.int .u32 0]] [[.int .u32 1], [(.slice (some ⟨g5, 0, none⟩) 1 1)], [(.slice (some ⟨g4, 0, none⟩) 1 1)], [.int .u32 0]] [] sz32 rfl rfl (fl_cons (one_one rfl) (fl_cons (one_one (own_one hI (j := 0) rfl)) (fl_cons (one_one (own_one hI (j := 1) rfl)) (fl_cons (one_one rfl) fl_nil)))) hI rfl hA rfl rfl rfl rfl fun w hI => ?_
            refine o_nil ?_
            refine ⟨(.inr ((hth1 _ _ hI).sel [0, 3, 5] (by decide) rfl)), ?_⟩
            refine g_nil (by kernel_rfl) ?_
            cases Option.some.inj (bS H)
            exact ⟨μ4, v2, (.slice (some ⟨g5, 0, none⟩) 1 1), cs5, (.slice (some ⟨g4, 0, none⟩) 1 1), cs4, hle4, hS3, (in_lit .u32 1 rfl), hE5, (Els.mono hE4 (fun _ _ h => ROut.le hle4 h)), hA.sub ⟨rfl, rfl, rfl, rfl, rfl, rfl, rfl, trivial⟩, hI⟩
        · skip
          have hE4 : Els (ROut μ1) 33 ([(⟨x1, x2⟩ : Out)] : List Out) ([[.int .u64 x1], av .u8 32 x2].flatten ++ ([])) := (Els.cons (c := [[.int .u64 x1], av .u8 32 x2].flatten) ⟨rfl, ⟨hx1, hx2⟩⟩ rfl Els.nil)
          refine o_bsl ([[.int .u64 x1], av .u8 32 x2].flatten ++ ([])) te48 zr48 Tryd.underlying30 hI hA rfl rfl rfl rfl (by kernel_rfl) rfl fun g4 a w hA hI => ?_
          generalize hcs : ([[.int .u64 x1], av .u8 32 x2].flatten ++ ([]) : List Value) = cs4 at hE4 hI
          clear hcs
          refine o_nil ?_
          refine ⟨(.inr (hI.sel [1, 2, 4] (by decide) rfl)), ?_⟩
          refine g_forced (i := 2) rfl (by kernel_rfl) ?_
          refine stp hA (r_bldS (cs := [av .u8 32 r3.Tx, [.int .u32 r3.N], [v2], [.int .u32 4294967295]].flatten.toArray) (pl := [(0, 33), (33, 1), (34, 1)]) zr46 Tryd.underlying46 ⟨rfl, sz44, rfl, sz25, rfl, sz28, trivial⟩ hA rfl ((fill_seg [] [av .u8 32 (List.replicate 32 0), [.int .u32 0]] [av .u8 32 r3.Tx, [.int .u32 r3.N]] [[(.slice none 0 0)], [.int .u32 0]] rfl rfl rfl rfl rfl).trans ((fill_seg [av .u8 32 r3.Tx, [.int .u32 r3.N]] [[(.slice none 0 0)]] [[v2]] [[.int .u32 0]] (own_cell hI (j := 1) rfl) rfl rfl rfl rfl).trans ((fill_seg [av .u8 32 r3.Tx, [.int .u32 r3.N], [v2]] [[.int .u32 0]] [[.int .u32 4294967295]] [] rfl rfl rfl rfl rfl).trans (rfl))))) rfl fun a hA => ?_
          refine o_nil ?_
          refine ⟨(.inr (hI.sel [1, 2, 4] (by decide) rfl)), ?_⟩
          refine g_forced (i := 3) rfl (by kernel_rfl) ?_
          obtain ⟨μ4, hle4, hsv3, hI, hth1⟩ := hI.freezeRowT 1 rfl
          have hS3 : Slc (RI .u8) 1 μ4 v2 r2 := ⟨_, hE3, hsv3⟩
          have hE5 : Els (RIn μ4) 35 ([(⟨r3, r2, 4294967295⟩ : In)] : List In) ([av .u8 32 r3.Tx, [.int .u32 r3.N], [v2], [.int .u32 4294967295]].flatten ++ ([])) := (Els.cons (c := [av .u8 32 r3.Tx, [.int .u32 r3.N], [v2], [.int .u32 4294967295]].flatten) ⟨v2, rfl, ⟨hz4.1, hz4.2, hS3, (in_lit .u32 4294967295 rfl)⟩⟩ rfl Els.nil)
          refine o_bsl ([av .u8 32 r3.Tx, [.int .u32 r3.N], [v2], [.int .u32 4294967295]].flatten ++ ([])) te46 zr46 Tryd.underlying29 hI hA rfl rfl rfl rfl (by kernel_rfl) rfl fun g5 a w hA hI => ?_
          generalize hcs : ([av .u8 32 r3.Tx, [.int .u32 r3.N], [v2], [.int .u32 4294967295]].flatten ++ ([]) : List Value) = cs5 at hE5 hI
          clear hcs
          refine o_nil ?_
          refine ⟨(.inr ((hth1 _ _ hI).sel [0, 3, 5] (by decide) rfl)), ?_⟩
          refine g_forced (i := 8) rfl (by kernel_rfl) ?_
          refine stp hA (r_bldS (cs := [[.int .u32 1], [(.slice (some ⟨g5, 0, none⟩) 1 1)], [(.slice (some ⟨g4, 0, none⟩) 1 1)], [.int .u32 0]].flatten.toArray) (pl := [(0, 1), (1, 1), (2, 1), (3, 1)]) zr32 Tryd.underlying32 ⟨rfl, sz28, rfl, sz29, rfl, sz30, rfl, sz28, trivial⟩ hA rfl ((fill_one rfl rfl (by kernel_rfl)).trans ((fill_one (own_cell hI (j := 0) rfl) rfl (by kernel_rfl)).trans ((fill_one (own_cell hI (j := 1) rfl) rfl (by kernel_rfl)).trans (by kernel_rfl))))) rfl fun a hA => ?_
          refine o_nil ?_
          refine ⟨(.inr ((hth1 _ _ hI).sel [0, 3, 5] (by decide) rfl)), ?_⟩
          refine g_forced (i := 9) rfl (by kernel_rfl) ?_
          refine o_st (j := 3) [] [[.int .u32 0], [(.slice none 0 0)], [(.slice none 0 0)], [.int .u32 0]] [[.int .u32 1], [(.slice (some ⟨g5, 0, none⟩) 1 1)], [(.slice (some ⟨g4, 0, none⟩) 1 1)], [.int .u32 0]] [] sz32 rfl rfl (fl_cons (one_one rfl) (fl_cons (one_one (own_one hI (j := 0) rfl)) (fl_cons (one_one (own_one hI (j := 1) rfl)) (fl_cons (one_one rfl) fl_nil)))) hI rfl hA rfl rfl rfl rfl fun w hI => ?_
          refine o_nil ?_
          refine ⟨(.inr ((hth1 _ _ hI).sel [0, 3, 5] (by decide) rfl)), ?_⟩
          refine g_nil (by kernel_rfl) ?_
          cases Option.some.inj (bS H)
          exact ⟨μ4, v2, (.slice (some ⟨g5, 0, none⟩) 1 1), cs5, (.slice (some ⟨g4, 0, none⟩) 1 1), cs4, hle4, hS3, (in_lit .u32 1 rfl), hE5, (Els.mono hE4 (fun _ _ h => ROut.le hle4 h)), hA.sub ⟨rfl, rfl, rfl, rfl, rfl, rfl, rfl, trivial⟩, hI⟩
      · skip
        have hE4 : Els (ROut μ1) 33 ([(⟨x1, x2⟩ : Out)] : List Out) ([[.int .u64 x1], av .u8 32 x2].flatten ++ ([])) := (Els.cons (c := [[.int .u64 x1], av .u8 32 x2].flatten) ⟨rfl, ⟨hx1, hx2⟩⟩ rfl Els.nil)
        refine o_bsl ([[.int .u64 x1], av .u8 32 x2].flatten ++ ([])) te48 zr48 Tryd.underlying30 hI hA rfl rfl rfl rfl (by kernel_rfl) rfl fun g4 a w hA hI => ?_
        generalize hcs : ([[.int .u64 x1], av .u8 32 x2].flatten ++ ([]) : List Value) = cs4 at hE4 hI
        clear hcs
        refine o_nil ?_
        refine ⟨(.inr (hI.sel [1, 2, 4] (by decide) rfl)), ?_⟩
        refine g_forced (i := 0) rfl (by kernel_rfl) ?_
        obtain ⟨r3, hr3, H⟩ := bB H
        refine o_callp (u := .agg [av .u8 32 r3.Tx, [.int .u32 r3.N]].flatten.toArray) cf34 hA rfl hI (spend_Null.c μ1 _ hI.agr  r3 hr3) rfl fun a w hz4 hI hA => ?_
        refine o_nil ?_
        refine ⟨(.inr (hI.sel [1, 2, 4] (by decide) rfl)), ?_⟩
        refine g_forced (i := 2) rfl (by kernel_rfl) ?_
        refine stp hA (r_bldS (cs := [av .u8 32 r3.Tx, [.int .u32 r3.N], [v2], [.int .u32 4294967295]].flatten.toArray) (pl := [(0, 33), (33, 1), (34, 1)]) zr46 Tryd.underlying46 ⟨rfl, sz44, rfl, sz25, rfl, sz28, trivial⟩ hA rfl ((fill_seg [] [av .u8 32 (List.replicate 32 0), [.int .u32 0]] [av .u8 32 r3.Tx, [.int .u32 r3.N]] [[(.slice none 0 0)], [.int .u32 0]] rfl rfl rfl rfl rfl).trans ((fill_seg [av .u8 32 r3.Tx, [.int .u32 r3.N]] [[(.slice none 0 0)]] [[v2]] [[.int .u32 0]] (own_cell hI (j := 1) rfl) rfl rfl rfl rfl).trans ((fill_seg [av .u8 32 r3.Tx, [.int .u32 r3.N], [v2]] [[.int .u32 0]] [[.int .u32 4294967295]] [] rfl rfl rfl rfl rfl).trans (rfl))))) rfl fun a hA => ?_
        refine o_nil ?_
        refine ⟨(.inr (hI.sel [1, 2, 4] (by decide) rfl)), ?_⟩
        refine g_forced (i := 3) rfl (by kernel_rfl) ?_
        obtain ⟨μ4, hle4, hsv3, hI, hth1⟩ := hI.freezeRowT 1 rfl
        have hS3 : Slc (RI .u8) 1 μ4 v2 r2 := ⟨_, hE3, hsv3⟩
        have hE5 : Els (RIn μ4) 35 ([(⟨r3, r2, 4294967295⟩ : In)] : List In) ([av .u8 32 r3.Tx, [.int .u32 r3.N], [v2], [.int .u32 4294967295]].flatten ++ ([])) := (Els.cons (c := [av .u8 32 r3.Tx, [.int .u32 r3.N], [v2], [.int .u32 4294967295]].flatten) ⟨v2, rfl, ⟨hz4.1, hz4.2, hS3, (in_lit .u32 4294967295 rfl)⟩⟩ rfl Els.nil)
        refine o_bsl ([av .u8 32 r3.Tx, [.int .u32 r3.N], [v2], [.int .u32 4294967295]].flatten ++ ([])) te46 zr46 Tryd.underlying29 hI hA rfl rfl rfl rfl (by kernel_rfl) rfl fun g5 a w hA hI => ?_
        generalize hcs : ([av .u8 32 r3.Tx, [.int .u32 r3.N], [v2], [.int .u32 4294967295]].flatten ++ ([]) : List Value) = cs5 at hE5 hI
        clear hcs
        refine o_nil ?_
        refine ⟨(.inr ((hth1 _ _ hI).sel [0, 3, 5] (by decide) rfl)), ?_⟩
        refine g_forced (i := 8) rfl (by kernel_rfl) ?_
        refine stp hA (r_bldS (cs := [[.int .u32 1], [(.slice (some ⟨g5, 0, none⟩) 1 1)], [(.slice (some ⟨g4, 0, none⟩) 1 1)], [.int .u32 0]].flatten.toArray) (pl := [(0, 1), (1, 1), (2, 1), (3, 1)]) zr32 Tryd.underlying32 ⟨rfl, sz28, rfl, sz29, rfl, sz30, rfl, sz28, trivial⟩ hA rfl ((fill_one rfl rfl (by kernel_rfl)).trans ((fill_one (own_cell hI (j := 0) rfl) rfl (by kernel_rfl)).trans ((fill_one (own_cell hI (j := 1) rfl) rfl (by kernel_rfl)).trans (by kernel_rfl))))) rfl fun a hA => ?_
        refine o_nil ?_
        refine ⟨(.inr ((hth1 _ _ hI).sel [0, 3, 5] (by decide) rfl)), ?_⟩
        refine g_forced (i := 9) rfl (by kernel_rfl) ?_
        refine o_st (j := 3) [] [[.int .u32 0], [(.slice none 0 0)], [(.slice none 0 0)], [.int .u32 0]] [[.int .u32 1], [(.slice (some ⟨g5, 0, none⟩) 1 1)], [(.slice (some ⟨g4, 0, none⟩) 1 1)], [.int .u32 0]] [] sz32 rfl rfl (fl_cons (one_one rfl) (fl_cons (one_one (own_one hI (j := 0) rfl)) (fl_cons (one_one (own_one hI (j := 1) rfl)) (fl_cons (one_one rfl) fl_nil)))) hI rfl hA rfl rfl rfl rfl fun w hI => ?_
        refine o_nil ?_
        refine ⟨(.inr ((hth1 _ _ hI).sel [0, 3, 5] (by decide) rfl)), ?_⟩
        refine g_nil (by kernel_rfl) ?_
        cases Option.some.inj (bS H)
        exact ⟨μ4, v2, (.slice (some ⟨g5, 0, none⟩) 1 1), cs5, (.slice (some ⟨g4, 0, none⟩) 1 1), cs4, hle4, hS3, (in_lit .u32 1 rfl), hE5, (Els.mono hE4 (fun _ _ h => ROut.le hle4 h)), hA.sub ⟨rfl, rfl, rfl, rfl, rfl, rfl, rfl, trivial⟩, hI⟩
  · rintro a w ⟨μ3, vvc1, vvc3, ccc3, vvc4, ccc4, hle3, wc1, wc2, wc3, wc4, hA, hI⟩
    have H := Hk1
    refine w_ret ?_
    obtain ⟨μ5, hle5, hsv4, hI⟩ := hI.freezeRow 0 rfl
    have hS4 : Slc (RIn μ5) 35 μ5 vvc3 c3 := ⟨_, (Els.mono wc3 (fun _ _ h => RIn.le hle5 h)), hsv4⟩
    obtain ⟨μ6, hle6, hsv5, hI⟩ := hI.freezeRow 0 rfl
    have hS5 : Slc (ROut μ6) 33 μ6 vvc4 c4 := ⟨_, (Els.mono wc4 (fun _ _ h => ROut.le (hle5.trans hle6) h)), hsv5⟩
    obtain rfl := Option.some.inj (bS H)
    exact retc Tryd.underlying32 rfl sz32 rfl hI (j := 1) rfl hA Tryd.results9 rfl ⟨_, rfl, vvc3, vvc4, μ6, rfl, ⟨wc2, (Slc.le hS4 (fun _ _ h => RIn.le hle6 h) hle6), hS5, (in_lit .u32 0 rfl)⟩, (hI.sel [] (by decide) rfl)⟩
set_option maxRecDepth 20000 in
theorem block_IDs.c (μ : Store) (w0 : World) (hμ : Agr μ w0) (x0 : Block) (u0_0 : Value) (hx0 : BlockW μ x0 u0_0) (r : List (List Int)) (H : block_IDs.f x0 = some r) :
    Calls Tryd.prog 29 [.agg [[.int .u32 x0.Head.Version], av .u8 32 x0.Head.Prev, av .u8 32 x0.Head.Root, [.int .u32 x0.Head.Time], [.int .u32 x0.Head.Work], [.int .u32 x0.Head.Nonce], [u0_0]].flatten.toArray].toArray w0 (fun e w' => ∃ v, e = .returned v ∧ ∃ (v0 : Value) (c0 : List Value), v = v0 ∧ Els (RA .u8 32) 32 r c0 ∧ Iv w0 [] μ μ [row 24 32 v0 r.length c0] w') := by
  refine enter Tryd.func29 rfl Tryd.ntmps29 rfl fun a hA => ?_
  have hI := Iv.start hμ
  have H := bI H
  refine w_seq fun _ hN1 => ?_
  refine w_reg ?_
  refine o_box [[.int .u32 x0.Head.Version], av .u8 32 x0.Head.Prev, av .u8 32 x0.Head.Root, [.int .u32 x0.Head.Time], [.int .u32 x0.Head.Work], [.int .u32 x0.Head.Nonce], [u0_0]] hI hA rfl rfl rfl fun g1 a w hA hI hg1 => 
    stp hA (r_as hA rfl) rfl fun a hA => ?_
  refine o_nil ?_
  refine hN1 _ _ ?_
  refine w_seq fun _ hN2 => ?_
  refine w_reg ?_
  refine stp hA (r_as hA rfl) rfl fun a hA => ?_
  refine o_nil ?_
  refine hN2 _ _ ?_
  obtain ⟨c1, hz1, Hk1⟩ := bB H
  refine w_cut (fun a w => ∃ (vvc1 : Value) (ccc1 : List Value), Els (RA .u8 32) 32 c1 ccc1 ∧ Fr a 20 [(0, .agg [[.int .u32 x0.Head.Version], av .u8 32 x0.Head.Prev, av .u8 32 x0.Head.Root, [.int .u32 x0.Head.Time], [.int .u32 x0.Head.Work], [.int .u32 x0.Head.Nonce], [u0_0]].flatten.toArray), (1, .pointer (some ⟨g1, 0, none⟩)), (2, (.slice none 0 0)), (3, vvc1)] ∧ Iv w0 [] μ μ [row 24 32 vvc1 c1.length ccc1, cel g1 [[.int .u32 x0.Head.Version], av .u8 32 x0.Head.Prev, av .u8 32 x0.Head.Root, [.int .u32 x0.Head.Time], [.int .u32 x0.Head.Work], [.int .u32 x0.Head.Nonce], [u0_0]] 39] w) ?_ ?_
  · have H := bI hz1
    refine w_seq fun _ hN3 => ?_
    refine w_reg ?_
    refine stp hA (r_fd (k := 68) Tryd.underlying39 rfl sz37 hA rfl rfl) rfl fun a hA => 
      stp hA (r_ld1 (j := 0) [[.int .u32 x0.Head.Version], av .u8 32 x0.Head.Prev, av .u8 32 x0.Head.Root, [.int .u32 x0.Head.Time], [.int .u32 x0.Head.Work], [.int .u32 x0.Head.Nonce]] [] Tryd.underlying37 rfl hI rfl hA rfl rfl) rfl fun a hA => ?_
    obtain ⟨_, hsl1⟩ := Slc.sv hx0.2.2.2.2.2.2
    refine stp hA (r_slen Tryd.underlying37 hsl1 hA rfl) rfl fun a hA => 
      stp hA (r_mv hA rfl) rfl fun a hA => ?_
    refine o_nil ?_
    refine hN3 _ _ ?_
    refine w_block ?_
    have hI := hI.nilRow 24 32
    obtain ⟨z1, hz2, Hk2⟩ := bind_some H
    obtain ⟨n1, hn1⟩ := loopO_some hz2
    refine w_loop (fun n a w => ∃ (s1 : List (List Int)) (s2 : Int) (vvs1 : Value) (ccs1 : List Value), loopN (block_IDs.s0 x0) n (s1, s2) = some z1 ∧ Els (RA .u8 32) 32 s1 ccs1 ∧ InR .i64 s2 ∧ Fr a 20 [(0, .agg [[.int .u32 x0.Head.Version], av .u8 32 x0.Head.Prev, av .u8 32 x0.Head.Root, [.int .u32 x0.Head.Time], [.int .u32 x0.Head.Work], [.int .u32 x0.Head.Nonce], [u0_0]].flatten.toArray), (1, .pointer (some ⟨g1, 0, none⟩)), (2, (.slice none 0 0)), (3, vvs1), (7, u0_0), (8, .int .i64 (x0.Txs.length : Int)), (9, .int .i64 s2)] ∧ Iv w0 [] μ μ [row 24 32 vvs1 s1.length ccs1, cel g1 [[.int .u32 x0.Head.Version], av .u8 32 x0.Head.Prev, av .u8 32 x0.Head.Root, [.int .u32 x0.Head.Time], [.int .u32 x0.Head.Work], [.int .u32 x0.Head.Nonce], [u0_0]] 39] w) n1 ⟨[], 0, (.slice none 0 0), [], hn1, (Els.nil (RE := (RA .u8 32)) (sz := 32)), (in_lit .i64 0 rfl), hA.sub ⟨rfl, rfl, rfl, rfl, rfl, rfl, rfl, trivial⟩, hI⟩ ?_
    clear hA hI
    rintro n a w ⟨s1, s2, vvs1, ccs1, hn1, ws1, ws2, hA, hI⟩
    obtain ⟨m1, rfl, H⟩ := loopN_bind hn1
    clear hn1
    refine w_seq fun _ hN4 => ?_
    refine w_reg ?_
    refine stp hA (r_lss hA rfl rfl) rfl fun a hA => ?_
    refine o_nil ?_
    refine hN4 _ _ ?_
    refine w_seq fun _ hN5 => ?_
    refine w_cond hA rfl (fun hc1 => ?_) (fun hc1 => ?_)
    · have hc10 := hc1; have hc1 := of_decide_eq_true hc1; have H := bT H hc1
      refine w_skip ?_
      refine hN5 _ _ ?_
      refine w_seq fun _ hN6 => ?_
      refine w_block ?_
      refine w_seq fun _ hN7 => ?_
      refine w_reg ?_
      obtain ⟨hb1, H⟩ := bG H
      obtain ⟨_, he1, _, hat1⟩ := Slc.elem hx0.2.2.2.2.2.2 (getD_some default hb1.1 hb1.2)
      obtain ⟨v1, v2, rfl, hw1⟩ := he1
      obtain ⟨_, hsl2⟩ := Slc.sv hx0.2.2.2.2.2.2
      refine stp hA (r_six Tryd.underlying37 sz32 hsl2 hA rfl rfl hb1.1 hb1.2) rfl fun a hA => 
        stp hA (r_ldmA [] [[.int .u32 ((x0.Txs.getD s2.toNat default).Version)], [v1], [v2], [.int .u32 ((x0.Txs.getD s2.toNat default).Time)]] [] Tryd.underlying32 rfl sz32 rfl hI.agr hat1 hA rfl rfl) rfl fun a hA => 
        o_new [[.int .u32 0], [(.slice none 0 0)], [(.slice none 0 0)], [.int .u32 0]] zr32 hI hA rfl fun g2 a w hA hI hg2 => ?_
      obtain ⟨_, hsl3⟩ := Slc.sv hw1.2.1
      obtain ⟨_, hsl4⟩ := Slc.sv hw1.2.2.1
      refine o_st (j := 0) [] [[.int .u32 0], [(.slice none 0 0)], [(.slice none 0 0)], [.int .u32 0]] [[.int .u32 ((x0.Txs.getD s2.toNat default).Version)], [v1], [v2], [.int .u32 ((x0.Txs.getD s2.toNat default).Time)]] [] sz32 rfl rfl (fl_cons (one_one rfl) (fl_cons (one_one (one_sl hsl3)) (fl_cons (one_one (one_sl hsl4)) (fl_cons (one_one rfl) fl_nil)))) hI rfl hA rfl rfl rfl rfl fun w hI => ?_
      refine o_nil ?_
      refine hN7 _ _ ?_
      refine w_reg ?_
      refine stp hA (r_mv hA rfl) rfl fun a hA => 
        stp hA (r_ldA (j := 0) [] [[.int .u32 ((x0.Txs.getD s2.toNat default).Version)], [v1], [v2], [.int .u32 ((x0.Txs.getD s2.toNat default).Time)]] [] Tryd.underlying32 rfl sz32 rfl hI rfl hA rfl rfl) rfl fun a hA => ?_
      obtain ⟨r1, hr1, H⟩ := bB H
      refine o_callp (u := .agg [av .u8 32 r1].flatten.toArray) cf61 hA rfl hI (tx_ID.c μ _ hI.agr (x0.Txs.getD s2.toNat default) v1 v2 ⟨hw1.1, hw1.2.1, hw1.2.2.1, hw1.2.2.2⟩ r1 hr1) rfl fun a w hz3 hI hA => ?_
      have hE1 : Els (RA .u8 32) 32 ([r1] : List (List Int)) ([av .u8 32 r1].flatten ++ ([])) := (Els.cons (c := [av .u8 32 r1].flatten) ⟨rfl, hz3⟩ rfl Els.nil)
      refine o_bsl ([av .u8 32 r1].flatten ++ ([])) te24 zr24 Tryd.underlying71 hI hA rfl rfl rfl rfl (by kernel_rfl) rfl fun g3 a w hA hI => ?_
      generalize hcs : ([av .u8 32 r1].flatten ++ ([]) : List Value) = cs1 at hE1 hI
      clear hcs
      obtain ⟨hb2, H⟩ := bG H
      have hE3 := ws1.app hE1
      refine o_appL (xs := (s1 : List (List Int))) (ys := (([r1] : List (List Int)) : List (List Int))) (j := 2) te24 Tryd.underlying71 hI rfl hA rfl rfl (src_row hI (j := 0) rfl) hE1.len (hE1.ones (one_RA _ _)) (by first | decide | (have hq := hb2; (try simp only [List.length_cons, List.length_nil] at hq); (try simp only [List.length_cons, List.length_nil]); (try simp only [maxLen]); omega)) (by first | decide | (have hq := hb2; (try simp only [List.length_cons, List.length_nil] at hq); (try simp only [List.length_cons, List.length_nil]); (try simp only [maxLen]); omega)) rfl fun v3 a w hA hI => 
        stp hA (r_as hA rfl) rfl fun a hA => ?_
      refine o_nil ?_
      refine hN6 _ _ ?_
      refine w_reg ?_
      refine stp hA (r_add hA rfl rfl) rfl fun a hA => 
        stp hA (r_mv hA rfl) rfl fun a hA => ?_
      refine o_nil ?_
      exact ⟨m1, Nat.lt_succ_self _, s1 ++ ([r1] : List (List Int)), IntKind.i64.wrap (s2 + 1), v3, ccs1 ++ cs1, H, hE3, (wrap_in _ _), hA.sub ⟨rfl, rfl, rfl, rfl, rfl, rfl, rfl, trivial⟩, (hI.sel [2, 3] (by decide) rfl)⟩
    · have hc10 := hc1; have hc1 := of_decide_eq_false hc1; have H := bF H hc1
      refine w_exit rfl ?_
      have H : some s1 = some z1 := H
      obtain rfl := Option.some.inj H
      have H := Hk2
      cases Option.some.inj (bS H)
      exact ⟨vvs1, ccs1, ws1, hA.sub ⟨rfl, rfl, rfl, rfl, trivial⟩, hI⟩
  · rintro a w ⟨vvc1, ccc1, wc1, hA, hI⟩
    have H := Hk1
    refine w_seq fun _ hN8 => ?_
    refine w_reg ?_
    refine stp hA (r_mv hA rfl) rfl fun a hA => 
      stp hA (r_as hA rfl) rfl fun a hA => ?_
    refine o_nil ?_
    refine hN8 _ _ ?_
    refine w_ret ?_
    obtain rfl := Option.some.inj (bS H)
    exact ret1 hA Tryd.results29 rfl ⟨_, rfl, vvc1, ccc1, rfl, wc1, ((hI.sel [0] (by decide) rfl).less (Store.le.refl _) hI.le)⟩
set_option maxRecDepth 20000 in
theorem block_Root.c (μ : Store) (w0 : World) (hμ : Agr μ w0) (x0 : Block) (u0_0 : Value) (hx0 : BlockW μ x0 u0_0) (r : List Int) (H : block_Root.f x0 = some r) :
    Calls Tryd.prog 15 [.agg [[.int .u32 x0.Head.Version], av .u8 32 x0.Head.Prev, av .u8 32 x0.Head.Root, [.int .u32 x0.Head.Time], [.int .u32 x0.Head.Work], [.int .u32 x0.Head.Nonce], [u0_0]].flatten.toArray].toArray w0 (fun e w' => ∃ v, e = .returned v ∧ v = .agg [av .u8 32 r].flatten.toArray ∧ Arr .u8 32 r ∧ Iv w0 [] μ μ [] w') := by
  refine enter Tryd.func15 rfl Tryd.ntmps15 rfl fun a hA => ?_
  have hI := Iv.start hμ
  have H := bI H
  refine w_seq fun _ hN1 => ?_
  refine w_reg ?_
  refine o_box [[.int .u32 x0.Head.Version], av .u8 32 x0.Head.Prev, av .u8 32 x0.Head.Root, [.int .u32 x0.Head.Time], [.int .u32 x0.Head.Work], [.int .u32 x0.Head.Nonce], [u0_0]] hI hA rfl rfl rfl fun g1 a w hA hI hg1 => 
    o_new [av .u8 32 (List.replicate 32 0)] zr24 hI hA rfl fun g2 a w hA hI hg2 => ?_
  refine o_nil ?_
  refine hN1 _ _ ?_
  refine w_seq fun _ hN2 => ?_
  refine w_reg ?_
  refine stp hA (r_ldA (j := 1) [] [[.int .u32 x0.Head.Version], av .u8 32 x0.Head.Prev, av .u8 32 x0.Head.Root, [.int .u32 x0.Head.Time], [.int .u32 x0.Head.Work], [.int .u32 x0.Head.Nonce], [u0_0]] [] Tryd.underlying39 rfl sz39 rfl hI rfl hA rfl rfl) rfl fun a hA => ?_
  obtain ⟨r1, hr1, H⟩ := bB H
  refine o_call _ cf29 hA rfl (block_IDs.c μ _ hI.agr x0 u0_0 ⟨hx0.1, hx0.2.1, hx0.2.2.1, hx0.2.2.2.1, hx0.2.2.2.2.1, hx0.2.2.2.2.2.1, hx0.2.2.2.2.2.2⟩ r1 hr1) rfl fun v1 a w hz1 hA => ?_
  obtain ⟨_, cs1, rfl, hE1, hi1⟩ := hz1
  have hI := hI.call hi1
  obtain ⟨r2, hr2, H⟩ := bB H
  refine o_callp (u := .agg [av .u8 32 r2].flatten.toArray) cf42 hA rfl hI ((by obtain ⟨μ1, hle1, hsv1, hI⟩ := hI.freezeRow 0 rfl; have hS1 : Slc (RA .u8 32) 32 μ1 v1 r1 := ⟨_, hE1, hsv1⟩; exact low_plain hle1 (merkle_Root.c μ1 _ hI.agr r1 v1 hS1 r2 hr2))) rfl fun a w hz2 hI hA => 
    o_st (j := 1) [] [av .u8 32 (List.replicate 32 0)] [av .u8 32 r2] [] sz24 rfl rfl (fl_cons (one_av _ _ _) fl_nil) hI rfl hA rfl rfl rfl rfl fun w hI => ?_
  refine o_nil ?_
  refine hN2 _ _ ?_
  refine w_ret ?_
  obtain rfl := Option.some.inj (bS H)
  exact retc Tryd.underlying24 rfl sz24 rfl hI (j := 1) rfl hA Tryd.results15 rfl ⟨_, rfl, rfl, hz2, hI.forget0⟩
set_option maxRecDepth 20000 in
theorem block_Start.c (μ : Store) (w0 : World) (hμ : Agr μ w0) (r : Block) (H : block_Start.f = some r) :
    Calls Tryd.prog 12 [].toArray w0 (fun e w' => ∃ v, e = .returned v ∧ ∃ (v0_0 : Value) (μ' : Store), v = .agg [[.int .u32 r.Head.Version], av .u8 32 r.Head.Prev, av .u8 32 r.Head.Root, [.int .u32 r.Head.Time], [.int .u32 r.Head.Work], [.int .u32 r.Head.Nonce], [v0_0]].flatten.toArray ∧ BlockW μ' r v0_0 ∧ Iv w0 [] μ μ' [] w') := by
  refine enter Tryd.func12 rfl Tryd.ntmps12 rfl fun a hA => ?_
  have hI := Iv.start hμ
  have H := bI H
  refine w_seq fun _ hN1 => ?_
  refine w_reg ?_
  refine o_new [[.int .u32 0], av .u8 32 (List.replicate 32 0), av .u8 32 (List.replicate 32 0), [.int .u32 0], [.int .u32 0], [.int .u32 0], [(.slice none 0 0)]] zr39 hI hA rfl fun g1 a w hA hI hg1 => ?_
  refine o_nil ?_
  refine hN1 _ _ ?_
  refine w_seq fun _ hN2 => ?_
  refine w_reg ?_
  refine stp hA (r_bldS (cs := [[.int .u32 1], av .u8 32 (List.replicate 32 0), av .u8 32 (List.replicate 32 0), [.int .u32 1000], [.int .u32 1], [.int .u32 0]].flatten.toArray) (pl := [(0, 1), (1, 32), (33, 32), (65, 1), (66, 1), (67, 1)]) zr36 Tryd.underlying36 ⟨rfl, sz28, rfl, sz24, rfl, sz24, rfl, sz28, rfl, sz28, rfl, sz28, trivial⟩ hA rfl (by kernel_rfl)) rfl fun a hA => ?_
  obtain ⟨r1, hr1, H⟩ := bB H
  refine o_callp (u := .agg [av .u8 32 r1].flatten.toArray) cf39 hA rfl hI (spend_Lock.c μ _ hI.agr ([]) (.slice none 0 0) (slc_nil _ _ _) r1 hr1) rfl fun a w hz1 hI hA => ?_
  obtain ⟨r2, hr2, H⟩ := bB H
  refine o_call _ cf9 hA rfl (block_First.c μ _ hI.agr 0 (in_lit .i64 0 rfl) 0 (in_lit .u64 0 rfl) r1 hz1 ([]) (.slice none 0 0) (slc_nil _ _ _) r2 hr2) rfl fun v1 a w hz2 hA => ?_
  obtain ⟨v2, v3, μ1, rfl, hw1, hi1⟩ := hz2
  have hI := hI.call hi1
  have hE1 : Els (RTx μ1) 4 ([r2] : List Tx) ([[.int .u32 r2.Version], [v2], [v3], [.int .u32 r2.Time]].flatten ++ ([])) := (Els.cons (c := [[.int .u32 r2.Version], [v2], [v3], [.int .u32 r2.Time]].flatten) ⟨v2, v3, rfl, ⟨hw1.1, hw1.2.1, hw1.2.2.1, hw1.2.2.2⟩⟩ rfl Els.nil)
  refine o_bsl ([[.int .u32 r2.Version], [v2], [v3], [.int .u32 r2.Time]].flatten ++ ([])) te32 zr32 Tryd.underlying37 hI hA rfl rfl rfl rfl (by kernel_rfl) rfl fun g2 a w hA hI => ?_
  generalize hcs : ([[.int .u32 r2.Version], [v2], [v3], [.int .u32 r2.Time]].flatten ++ ([]) : List Value) = cs1 at hE1 hI
  clear hcs
  refine stp hA (r_bldS (cs := [[.int .u32 1], av .u8 32 (List.replicate 32 0), av .u8 32 (List.replicate 32 0), [.int .u32 1000], [.int .u32 1], [.int .u32 0], [(.slice (some ⟨g2, 0, none⟩) 1 1)]].flatten.toArray) (pl := [(0, 68), (68, 1)]) zr39 Tryd.underlying39 ⟨rfl, sz36, rfl, sz37, trivial⟩ hA rfl ((fill_seg [] [[.int .u32 0], av .u8 32 (List.replicate 32 0), av .u8 32 (List.replicate 32 0), [.int .u32 0], [.int .u32 0], [.int .u32 0]] [[.int .u32 1], av .u8 32 (List.replicate 32 0), av .u8 32 (List.replicate 32 0), [.int .u32 1000], [.int .u32 1], [.int .u32 0]] [[(.slice none 0 0)]] rfl rfl rfl rfl rfl).trans ((fill_seg [[.int .u32 1], av .u8 32 (List.replicate 32 0), av .u8 32 (List.replicate 32 0), [.int .u32 1000], [.int .u32 1], [.int .u32 0]] [[(.slice none 0 0)]] [[(.slice (some ⟨g2, 0, none⟩) 1 1)]] [] (own_cell hI (j := 0) rfl) rfl rfl rfl rfl).trans (rfl)))) rfl fun a hA => 
    o_new [[.int .u32 0], av .u8 32 (List.replicate 32 0), av .u8 32 (List.replicate 32 0), [.int .u32 0], [.int .u32 0], [.int .u32 0], [(.slice none 0 0)]] zr39 hI hA rfl fun g3 a w hA hI hg3 => 
    o_st (j := 0) [] [[.int .u32 0], av .u8 32 (List.replicate 32 0), av .u8 32 (List.replicate 32 0), [.int .u32 0], [.int .u32 0], [.int .u32 0], [(.slice none 0 0)]] [[.int .u32 1], av .u8 32 (List.replicate 32 0), av .u8 32 (List.replicate 32 0), [.int .u32 1000], [.int .u32 1], [.int .u32 0], [(.slice (some ⟨g2, 0, none⟩) 1 1)]] [] sz39 rfl rfl (fl_cons (one_one rfl) (fl_cons (one_av _ _ _) (fl_cons (one_av _ _ _) (fl_cons (one_one rfl) (fl_cons (one_one rfl) (fl_cons (one_one rfl) (fl_cons (one_one (own_one hI (j := 1) rfl)) fl_nil))))))) hI rfl hA rfl rfl rfl rfl fun w hI => ?_
  refine o_nil ?_
  refine hN2 _ _ ?_
  refine w_seq fun _ hN3 => ?_
  refine w_reg ?_
  refine stp hA (r_ldA (j := 0) [] [[.int .u32 1], av .u8 32 (List.replicate 32 0), av .u8 32 (List.replicate 32 0), [.int .u32 1000], [.int .u32 1], [.int .u32 0], [(.slice (some ⟨g2, 0, none⟩) 1 1)]] [] Tryd.underlying39 rfl sz39 rfl hI rfl hA rfl rfl) rfl fun a hA => ?_
  obtain ⟨r3, hr3, H⟩ := bB H
  refine o_callp (u := .agg [av .u8 32 r3].flatten.toArray) cf15 hA rfl hI ((by obtain ⟨μ2, hle1, hsv1, hI⟩ := hI.freezeRow 1 rfl; have hS1 : Slc (RTx μ2) 4 μ2 (.slice (some ⟨g2, 0, none⟩) 1 1) ([r2] : List Tx) := ⟨_, (Els.mono hE1 (fun _ _ h => RTx.le hle1 h)), hsv1⟩; exact low_plain hle1 (block_Root.c μ2 _ hI.agr (⟨(⟨1, (List.replicate 32 0), (List.replicate 32 0), 1000, 1, 0⟩ : Head), ([r2] : List Tx)⟩ : Block) (.slice (some ⟨g2, 0, none⟩) 1 1) ⟨(in_lit .u32 1 rfl), (arr_zero _ _), (arr_zero _ _), (in_lit .u32 1000 rfl), (in_lit .u32 1 rfl), (in_lit .u32 0 rfl), hS1⟩ r3 hr3))) rfl fun a w hz3 hI hA => 
    stp hA (r_fd (k := 0) Tryd.underlying39 rfl sz36 hA rfl rfl) rfl fun a hA => 
    stp hA (r_fd (k := 33) Tryd.underlying36 rfl sz24 hA rfl rfl) rfl fun a hA => 
    o_st (j := 0) [[.int .u32 1], av .u8 32 (List.replicate 32 0)] [av .u8 32 (List.replicate 32 0)] [av .u8 32 r3] [[.int .u32 1000], [.int .u32 1], [.int .u32 0], [(.slice (some ⟨g2, 0, none⟩) 1 1)]] sz24 rfl rfl (fl_cons (one_av _ _ _) fl_nil) hI rfl hA rfl rfl rfl rfl fun w hI => ?_
  refine o_nil ?_
  refine hN3 _ _ ?_
  refine w_seq fun _ hN4 => ?_
  refine w_reg ?_
  refine stp hA (r_ldA (j := 0) [] [[.int .u32 1], av .u8 32 (List.replicate 32 0), av .u8 32 r3, [.int .u32 1000], [.int .u32 1], [.int .u32 0], [(.slice (some ⟨g2, 0, none⟩) 1 1)]] [] Tryd.underlying39 rfl sz39 rfl hI rfl hA rfl rfl) rfl fun a hA => 
    o_st (j := 2) [] [[.int .u32 0], av .u8 32 (List.replicate 32 0), av .u8 32 (List.replicate 32 0), [.int .u32 0], [.int .u32 0], [.int .u32 0], [(.slice none 0 0)]] [[.int .u32 1], av .u8 32 (List.replicate 32 0), av .u8 32 r3, [.int .u32 1000], [.int .u32 1], [.int .u32 0], [(.slice (some ⟨g2, 0, none⟩) 1 1)]] [] sz39 rfl rfl (fl_cons (one_one rfl) (fl_cons (one_av _ _ _) (fl_cons (one_av _ _ _) (fl_cons (one_one rfl) (fl_cons (one_one rfl) (fl_cons (one_one rfl) (fl_cons (one_one (own_one hI (j := 1) rfl)) fl_nil))))))) hI rfl hA rfl rfl rfl rfl fun w hI => ?_
  refine o_nil ?_
  refine hN4 _ _ ?_
  refine w_ret ?_
  obtain ⟨μ3, hle2, hsv2, hI⟩ := hI.freezeRow 1 rfl
  have hS2 : Slc (RTx μ3) 4 μ3 (.slice (some ⟨g2, 0, none⟩) 1 1) ([r2] : List Tx) := ⟨_, (Els.mono hE1 (fun _ _ h => RTx.le hle2 h)), hsv2⟩
  obtain rfl := Option.some.inj (bS H)
  exact retc Tryd.underlying39 rfl sz39 rfl hI (j := 1) rfl hA Tryd.results12 rfl ⟨_, rfl, (.slice (some ⟨g2, 0, none⟩) 1 1), μ3, rfl, ⟨(in_lit .u32 1 rfl), (arr_zero _ _), hz3, (in_lit .u32 1000 rfl), (in_lit .u32 1 rfl), (in_lit .u32 0 rfl), hS2⟩, (hI.sel [] (by decide) rfl)⟩
set_option maxRecDepth 20000 in
theorem block_Bytes.c (μ : Store) (w0 : World) (hμ : Agr μ w0) (x0 : Block) (u0_0 : Value) (hx0 : BlockW μ x0 u0_0) (r : List Int) (H : block_Bytes.f x0 = some r) :
    Calls Tryd.prog 25 [.agg [[.int .u32 x0.Head.Version], av .u8 32 x0.Head.Prev, av .u8 32 x0.Head.Root, [.int .u32 x0.Head.Time], [.int .u32 x0.Head.Work], [.int .u32 x0.Head.Nonce], [u0_0]].flatten.toArray].toArray w0 (fun e w' => ∃ v, e = .returned v ∧ ∃ (v0 : Value) (c0 : List Value), v = v0 ∧ Els (RI .u8) 1 r c0 ∧ Iv w0 [] μ μ [row 5 1 v0 r.length c0] w') := by
  refine enter Tryd.func25 rfl Tryd.ntmps25 rfl fun a hA => ?_
  have hI := Iv.start hμ
  have H := bI H
  refine w_seq fun _ hN1 => ?_
  refine w_reg ?_
  refine o_box [[.int .u32 x0.Head.Version], av .u8 32 x0.Head.Prev, av .u8 32 x0.Head.Root, [.int .u32 x0.Head.Time], [.int .u32 x0.Head.Work], [.int .u32 x0.Head.Nonce], [u0_0]] hI hA rfl rfl rfl fun g1 a w hA hI hg1 => 
    stp hA (r_as hA rfl) rfl fun a hA => ?_
  refine o_nil ?_
  refine hN1 _ _ ?_
  refine w_seq fun _ hN2 => ?_
  refine w_any [] mo hI fun w hI => ?_
  refine g_easy (i := 0) hA rfl rfl (by kernel_rfl) (.inr hI) (fun _ => r_fd (k := 0) Tryd.underlying39 rfl sz36 hA rfl rfl) rfl fun a hA => ?_
  refine g_take (i := 1) hA rfl rfl (by kernel_rfl) hI (fun w hI => r_ldA (j := 0) [] [[.int .u32 x0.Head.Version], av .u8 32 x0.Head.Prev, av .u8 32 x0.Head.Root, [.int .u32 x0.Head.Time], [.int .u32 x0.Head.Work], [.int .u32 x0.Head.Nonce]] [[u0_0]] Tryd.underlying36 rfl sz36 rfl hI rfl hA rfl rfl) rfl fun a hA => ?_
  refine g_easy (i := 3) hA rfl rfl (by kernel_rfl) (.inr hI) (fun _ => r_fd (k := 68) Tryd.underlying39 rfl sz37 hA rfl rfl) rfl fun a hA => ?_
  refine g_take (i := 4) hA rfl rfl (by kernel_rfl) hI (fun w hI => r_ld1 (j := 0) [[.int .u32 x0.Head.Version], av .u8 32 x0.Head.Prev, av .u8 32 x0.Head.Root, [.int .u32 x0.Head.Time], [.int .u32 x0.Head.Work], [.int .u32 x0.Head.Nonce]] [] Tryd.underlying37 rfl hI rfl hA rfl rfl) rfl fun a hA => ?_
  obtain ⟨_, hsl1⟩ := Slc.sv hx0.2.2.2.2.2.2
  refine g_easy (i := 5) hA rfl rfl (by kernel_rfl) (.inr hI) (fun _ => r_slen Tryd.underlying37 hsl1 hA rfl) rfl fun a hA => ?_
  refine g_easy (i := 6) hA rfl rfl (by kernel_rfl) (.inr hI) (fun _ => r_conv Tryd.underlying3 Tryd.underlying22 hA rfl) rfl fun a hA => ?_
  refine g_forced (i := 2) rfl (by kernel_rfl) ?_
  obtain ⟨r1, hr1, H⟩ := bB H
  refine o_call _ cf53 hA rfl (head_Bytes.c μ _ hI.agr x0.Head ⟨hx0.1, hx0.2.1, hx0.2.2.1, hx0.2.2.2.1, hx0.2.2.2.2.1, hx0.2.2.2.2.2.1⟩ r1 hr1) rfl fun v1 a w hz1 hA => ?_
  obtain ⟨_, cs1, rfl, hE1, hi1⟩ := hz1
  have hI := hI.call hi1
  refine o_nil ?_
  refine ⟨(.inr (hI.sel [1] (by decide) rfl)), ?_⟩
  refine g_forced (i := 7) rfl (by kernel_rfl) ?_
  obtain ⟨r2, hr2, H⟩ := bB H
  refine o_call (fun v w' => ∃ (v0 : Value) (c0 : List Value), v = v0 ∧ Els (RI .u8) 1 r2 c0 ∧ Iv w [] μ μ [row 5 1 v0 r2.length c0] w') cf52 hA rfl ((by obtain ⟨μ1, hle1, hsv1, hI⟩ := hI.freezeRow 0 rfl; have hS1 : Slc (RI .u8) 1 μ1 v1 r1 := ⟨_, hE1, hsv1⟩; exact (compact_Put.c μ1 _ hI.agr r1 v1 hS1 (IntKind.u64.wrap (x0.Txs.length : Int)) (wrap_in _ _) r2 hr2).mono fun _ _ ⟨v, he, b0, b1, hv, f0, hi⟩ => ⟨v, he, b0, b1, hv, f0, hi.low hle1⟩)) rfl fun v2 a w hz2 hA => ?_
  obtain ⟨_, cs2, rfl, hE2, hi2⟩ := hz2
  have hI := hI.call hi2
  refine o_nil ?_
  refine ⟨(.inr (hI.sel [2] (by decide) rfl)), ?_⟩
  refine g_easy (i := 8) hA rfl rfl (by kernel_rfl) (.inr (hI.sel [2] (by decide) rfl)) (fun _ => r_as hA rfl) rfl fun a hA => ?_
  refine g_nil (by kernel_rfl) ?_
  refine hN2 _ _ ?_
  obtain ⟨c1, hz3, Hk1⟩ := bB H
  refine w_cut (fun a w => ∃ (vvc1 : Value) (ccc1 : List Value), Els (RI .u8) 1 c1 ccc1 ∧ Fr a 27 [(0, .agg [[.int .u32 x0.Head.Version], av .u8 32 x0.Head.Prev, av .u8 32 x0.Head.Root, [.int .u32 x0.Head.Time], [.int .u32 x0.Head.Work], [.int .u32 x0.Head.Nonce], [u0_0]].flatten.toArray), (1, .pointer (some ⟨g1, 0, none⟩)), (2, (.slice none 0 0)), (3, vvc1)] ∧ Iv w0 [] μ μ [row 5 1 vvc1 c1.length ccc1, row 5 1 v1 r1.length cs1, cel g1 [[.int .u32 x0.Head.Version], av .u8 32 x0.Head.Prev, av .u8 32 x0.Head.Root, [.int .u32 x0.Head.Time], [.int .u32 x0.Head.Work], [.int .u32 x0.Head.Nonce], [u0_0]] 39] w) ?_ ?_
  · have H := bI hz3
    refine w_seq fun _ hN3 => ?_
    refine w_reg ?_
    refine stp hA (r_fd (k := 68) Tryd.underlying39 rfl sz37 hA rfl rfl) rfl fun a hA => 
      stp hA (r_ld1 (j := 2) [[.int .u32 x0.Head.Version], av .u8 32 x0.Head.Prev, av .u8 32 x0.Head.Root, [.int .u32 x0.Head.Time], [.int .u32 x0.Head.Work], [.int .u32 x0.Head.Nonce]] [] Tryd.underlying37 rfl hI rfl hA rfl rfl) rfl fun a hA => ?_
    obtain ⟨_, hsl2⟩ := Slc.sv hx0.2.2.2.2.2.2
    refine stp hA (r_slen Tryd.underlying37 hsl2 hA rfl) rfl fun a hA => 
      stp hA (r_mv hA rfl) rfl fun a hA => ?_
    refine o_nil ?_
    refine hN3 _ _ ?_
    refine w_block ?_
    obtain ⟨z1, hz4, Hk2⟩ := bind_some H
    obtain ⟨n1, hn1⟩ := loopO_some hz4
    refine w_loop (fun n a w => ∃ (s1 : List Int) (s2 : Int) (vvs1 : Value) (ccs1 : List Value), loopN (block_Bytes.s0 x0) n (s1, s2) = some z1 ∧ Els (RI .u8) 1 s1 ccs1 ∧ InR .i64 s2 ∧ Fr a 27 [(0, .agg [[.int .u32 x0.Head.Version], av .u8 32 x0.Head.Prev, av .u8 32 x0.Head.Root, [.int .u32 x0.Head.Time], [.int .u32 x0.Head.Work], [.int .u32 x0.Head.Nonce], [u0_0]].flatten.toArray), (1, .pointer (some ⟨g1, 0, none⟩)), (2, (.slice none 0 0)), (3, vvs1), (15, u0_0), (16, .int .i64 (x0.Txs.length : Int)), (17, .int .i64 s2)] ∧ Iv w0 [] μ μ [row 5 1 vvs1 s1.length ccs1, row 5 1 v1 r1.length cs1, cel g1 [[.int .u32 x0.Head.Version], av .u8 32 x0.Head.Prev, av .u8 32 x0.Head.Root, [.int .u32 x0.Head.Time], [.int .u32 x0.Head.Work], [.int .u32 x0.Head.Nonce], [u0_0]] 39] w) n1 ⟨r2, 0, v2, cs2, hn1, hE2, (in_lit .i64 0 rfl), hA.sub ⟨rfl, rfl, rfl, rfl, rfl, rfl, rfl, trivial⟩, hI⟩ ?_
    clear hA hI
    rintro n a w ⟨s1, s2, vvs1, ccs1, hn1, ws1, ws2, hA, hI⟩
    obtain ⟨m1, rfl, H⟩ := loopN_bind hn1
    clear hn1
    refine w_seq fun _ hN4 => ?_
    refine w_reg ?_
    refine stp hA (r_lss hA rfl rfl) rfl fun a hA => ?_
    refine o_nil ?_
    refine hN4 _ _ ?_
    refine w_seq fun _ hN5 => ?_
    refine w_cond hA rfl (fun hc1 => ?_) (fun hc1 => ?_)
    · have hc10 := hc1; have hc1 := of_decide_eq_true hc1; have H := bT H hc1
      refine w_skip ?_
      refine hN5 _ _ ?_
      refine w_seq fun _ hN6 => ?_
      refine w_block ?_
      refine w_seq fun _ hN7 => ?_
      refine w_reg ?_
      obtain ⟨hb1, H⟩ := bG H
      obtain ⟨_, he1, _, hat1⟩ := Slc.elem hx0.2.2.2.2.2.2 (getD_some default hb1.1 hb1.2)
      obtain ⟨v3, v4, rfl, hw1⟩ := he1
      obtain ⟨_, hsl3⟩ := Slc.sv hx0.2.2.2.2.2.2
      refine stp hA (r_six Tryd.underlying37 sz32 hsl3 hA rfl rfl hb1.1 hb1.2) rfl fun a hA => 
        stp hA (r_ldmA [] [[.int .u32 ((x0.Txs.getD s2.toNat default).Version)], [v3], [v4], [.int .u32 ((x0.Txs.getD s2.toNat default).Time)]] [] Tryd.underlying32 rfl sz32 rfl hI.agr hat1 hA rfl rfl) rfl fun a hA => 
        o_new [[.int .u32 0], [(.slice none 0 0)], [(.slice none 0 0)], [.int .u32 0]] zr32 hI hA rfl fun g2 a w hA hI hg2 => ?_
      obtain ⟨_, hsl4⟩ := Slc.sv hw1.2.1
      obtain ⟨_, hsl5⟩ := Slc.sv hw1.2.2.1
      refine o_st (j := 0) [] [[.int .u32 0], [(.slice none 0 0)], [(.slice none 0 0)], [.int .u32 0]] [[.int .u32 ((x0.Txs.getD s2.toNat default).Version)], [v3], [v4], [.int .u32 ((x0.Txs.getD s2.toNat default).Time)]] [] sz32 rfl rfl (fl_cons (one_one rfl) (fl_cons (one_one (one_sl hsl4)) (fl_cons (one_one (one_sl hsl5)) (fl_cons (one_one rfl) fl_nil)))) hI rfl hA rfl rfl rfl rfl fun w hI => ?_
      refine o_nil ?_
      refine hN7 _ _ ?_
      refine w_reg ?_
      refine stp hA (r_mv hA rfl) rfl fun a hA => 
        stp hA (r_ldA (j := 0) [] [[.int .u32 ((x0.Txs.getD s2.toNat default).Version)], [v3], [v4], [.int .u32 ((x0.Txs.getD s2.toNat default).Time)]] [] Tryd.underlying32 rfl sz32 rfl hI rfl hA rfl rfl) rfl fun a hA => ?_
      obtain ⟨r3, hr3, H⟩ := bB H
      refine o_call _ cf54 hA rfl (tx_Bytes.c μ _ hI.agr (x0.Txs.getD s2.toNat default) v3 v4 ⟨hw1.1, hw1.2.1, hw1.2.2.1, hw1.2.2.2⟩ r3 hr3) rfl fun v5 a w hz5 hA => ?_
      obtain ⟨_, cs3, rfl, hE3, hi3⟩ := hz5
      have hI := hI.call hi3
      obtain ⟨hb2, H⟩ := bG H
      have hE5 := ws1.app hE3
      refine o_appL (xs := (s1 : List Int)) (ys := (r3 : List Int)) (j := 2) te5 Tryd.underlying25 hI rfl hA rfl rfl (src_row hI (j := 0) rfl) hE3.len (hE3.ones (one_RI _)) (by first | decide | (have hq := hb2; (try simp only [List.length_cons, List.length_nil] at hq); (try simp only [List.length_cons, List.length_nil]); (try simp only [maxLen]); omega)) (by first | decide | (have hq := hb2; (try simp only [List.length_cons, List.length_nil] at hq); (try simp only [List.length_cons, List.length_nil]); (try simp only [maxLen]); omega)) rfl fun v6 a w hA hI => 
        stp hA (r_as hA rfl) rfl fun a hA => ?_
      refine o_nil ?_
      refine hN6 _ _ ?_
      refine w_reg ?_
      refine stp hA (r_add hA rfl rfl) rfl fun a hA => 
        stp hA (r_mv hA rfl) rfl fun a hA => ?_
      refine o_nil ?_
      exact ⟨m1, Nat.lt_succ_self _, s1 ++ r3, IntKind.i64.wrap (s2 + 1), v6, ccs1 ++ cs3, H, hE5, (wrap_in _ _), hA.sub ⟨rfl, rfl, rfl, rfl, rfl, rfl, rfl, trivial⟩, (hI.sel [2, 3, 4] (by decide) rfl)⟩
    · have hc10 := hc1; have hc1 := of_decide_eq_false hc1; have H := bF H hc1
      refine w_exit rfl ?_
      have H : some s1 = some z1 := H
      obtain rfl := Option.some.inj H
      have H := Hk2
      cases Option.some.inj (bS H)
      exact ⟨vvs1, ccs1, ws1, hA.sub ⟨rfl, rfl, rfl, rfl, trivial⟩, hI⟩
  · rintro a w ⟨vvc1, ccc1, wc1, hA, hI⟩
    have H := Hk1
    refine w_seq fun _ hN8 => ?_
    refine w_reg ?_
    refine stp hA (r_mv hA rfl) rfl fun a hA => 
      stp hA (r_as hA rfl) rfl fun a hA => ?_
    refine o_nil ?_
    refine hN8 _ _ ?_
    refine w_ret ?_
    obtain rfl := Option.some.inj (bS H)
    exact ret1 hA Tryd.results25 rfl ⟨_, rfl, vvc1, ccc1, rfl, wc1, ((hI.sel [0] (by decide) rfl).less (Store.le.refl _) hI.le)⟩
set_option maxRecDepth 20000 in
theorem block_Size.c (μ : Store) (w0 : World) (hμ : Agr μ w0) (x0 : Block) (u0_0 : Value) (hx0 : BlockW μ x0 u0_0) (r : Int) (H : block_Size.f x0 = some r) :
    Calls Tryd.prog 24 [.agg [[.int .u32 x0.Head.Version], av .u8 32 x0.Head.Prev, av .u8 32 x0.Head.Root, [.int .u32 x0.Head.Time], [.int .u32 x0.Head.Work], [.int .u32 x0.Head.Nonce], [u0_0]].flatten.toArray].toArray w0 (fun e w' => ∃ v, e = .returned v ∧ v = .int .i64 r ∧ InR .i64 r ∧ Iv w0 [] μ μ [] w') := by
  refine enter Tryd.func24 rfl Tryd.ntmps24 rfl fun a hA => ?_
  have hI := Iv.start hμ
  have H := bI H
  refine w_seq fun _ hN1 => ?_
  refine w_reg ?_
  refine o_box [[.int .u32 x0.Head.Version], av .u8 32 x0.Head.Prev, av .u8 32 x0.Head.Root, [.int .u32 x0.Head.Time], [.int .u32 x0.Head.Work], [.int .u32 x0.Head.Nonce], [u0_0]] hI hA rfl rfl rfl fun g1 a w hA hI hg1 => 
    stp hA (r_as hA rfl) rfl fun a hA => ?_
  refine o_nil ?_
  refine hN1 _ _ ?_
  refine w_seq fun _ hN2 => ?_
  refine w_reg ?_
  refine stp hA (r_ldA (j := 0) [] [[.int .u32 x0.Head.Version], av .u8 32 x0.Head.Prev, av .u8 32 x0.Head.Root, [.int .u32 x0.Head.Time], [.int .u32 x0.Head.Work], [.int .u32 x0.Head.Nonce], [u0_0]] [] Tryd.underlying39 rfl sz39 rfl hI rfl hA rfl rfl) rfl fun a hA => ?_
  obtain ⟨r1, hr1, H⟩ := bB H
  refine o_call _ cf25 hA rfl (block_Bytes.c μ _ hI.agr x0 u0_0 ⟨hx0.1, hx0.2.1, hx0.2.2.1, hx0.2.2.2.1, hx0.2.2.2.2.1, hx0.2.2.2.2.2.1, hx0.2.2.2.2.2.2⟩ r1 hr1) rfl fun v1 a w hz1 hA => ?_
  obtain ⟨_, cs1, rfl, hE1, hi1⟩ := hz1
  have hI := hI.call hi1
  have hlen1 := Iv.row_in hI (j := 0) rfl
  refine stp hA (r_rlen (xs := 0) Tryd.underlying25 hI (j := 0) rfl hA rfl) rfl fun a hA => 
    stp hA (r_as hA rfl) rfl fun a hA => ?_
  refine o_nil ?_
  refine hN2 _ _ ?_
  refine w_ret ?_
  obtain rfl := Option.some.inj (bS H)
  exact ret1 hA Tryd.results24 rfl ⟨_, rfl, rfl, hlen1, hI.forget0⟩
set_option maxRecDepth 20000 in
theorem block_parts.c (μ : Store) (w0 : World) (hμ : Agr μ w0) (x0 : Block) (u0_0 : Value) (hx0 : BlockW μ x0 u0_0) (e0 : Value) (he0 : ErS μ e0 (Er.b 1)) (e1 : Value) (he1 : ErS μ e1 (Er.b 2)) (e2 : Value) (he2 : ErS μ e2 (Er.b 3)) (e6 : Value) (he6 : ErS μ e6 (Er.b 7)) (e7 : Value) (he7 : ErS μ e7 (Er.b 8)) (e8 : Value) (he8 : ErS μ e8 (Er.b 9)) (r : Er) (H : block_parts.f x0 = some r) :
    Calls Tryd.prog 44 [.agg [[.int .u32 x0.Head.Version], av .u8 32 x0.Head.Prev, av .u8 32 x0.Head.Root, [.int .u32 x0.Head.Time], [.int .u32 x0.Head.Work], [.int .u32 x0.Head.Nonce], [u0_0]].flatten.toArray].toArray w0 (fun e w' => ∃ v, e = .returned v ∧ ∃ (v0 : Value) (μ' : Store), v = v0 ∧ ErS μ' v0 r ∧ Iv w0 [] μ μ' [] w') := by
  refine enter Tryd.func44 rfl Tryd.ntmps44 rfl fun a hA => ?_
  have hI := Iv.start hμ
  have H := bI H
  refine w_seq fun _ hN1 => ?_
  refine w_reg ?_
  refine o_box [[.int .u32 x0.Head.Version], av .u8 32 x0.Head.Prev, av .u8 32 x0.Head.Root, [.int .u32 x0.Head.Time], [.int .u32 x0.Head.Work], [.int .u32 x0.Head.Nonce], [u0_0]] hI hA rfl rfl rfl fun g1 a w hA hI hg1 => 
    stp hA (r_as hA rfl) rfl fun a hA => ?_
  refine o_nil ?_
  refine hN1 _ _ ?_
  refine w_seq fun _ hN2 => ?_
  refine w_seq fun _ hN3 => ?_
  refine w_reg ?_
  refine stp hA (r_fd (k := 68) Tryd.underlying39 rfl sz37 hA rfl rfl) rfl fun a hA => 
    stp hA (r_ld1 (j := 0) [[.int .u32 x0.Head.Version], av .u8 32 x0.Head.Prev, av .u8 32 x0.Head.Root, [.int .u32 x0.Head.Time], [.int .u32 x0.Head.Work], [.int .u32 x0.Head.Nonce]] [] Tryd.underlying37 rfl hI rfl hA rfl rfl) rfl fun a hA => ?_
  obtain ⟨_, hsl1⟩ := Slc.sv hx0.2.2.2.2.2.2
  refine stp hA (r_slen Tryd.underlying37 hsl1 hA rfl) rfl fun a hA => 
    stp hA (r_mv hA rfl) rfl fun a hA => ?_
  refine o_nil ?_
  refine hN3 _ _ ?_
  refine w_block ?_
  obtain ⟨z1, hz1, Hk1⟩ := bind_some H
  obtain ⟨n1, hn1⟩ := loopO_some hz1
  refine w_loop (fun n a w => ∃ (s1 : Int) (μ1 : Store), loopN (block_parts.s0 x0) n s1 = some z1 ∧ μ.le μ1 ∧ InR .i64 s1 ∧ Fr a 45 [(0, .agg [[.int .u32 x0.Head.Version], av .u8 32 x0.Head.Prev, av .u8 32 x0.Head.Root, [.int .u32 x0.Head.Time], [.int .u32 x0.Head.Work], [.int .u32 x0.Head.Nonce], [u0_0]].flatten.toArray), (1, .pointer (some ⟨g1, 0, none⟩)), (2, .nilIface), (9, u0_0), (10, .int .i64 (x0.Txs.length : Int)), (11, .int .i64 s1)] ∧ Iv w0 [] μ μ1 [cel g1 [[.int .u32 x0.Head.Version], av .u8 32 x0.Head.Prev, av .u8 32 x0.Head.Root, [.int .u32 x0.Head.Time], [.int .u32 x0.Head.Work], [.int .u32 x0.Head.Nonce], [u0_0]] 39] w) n1 ⟨0, μ, hn1, (Store.le.refl _), (in_lit .i64 0 rfl), hA.sub ⟨rfl, rfl, rfl, rfl, rfl, rfl, trivial⟩, hI⟩ ?_
  clear hA hI
  rintro n a w ⟨s1, μ1, hn1, hle1, ws1, hA, hI⟩
  obtain ⟨m1, rfl, H⟩ := loopN_bind hn1
  clear hn1
  refine w_seq fun _ hN4 => ?_
  refine w_reg ?_
  refine stp hA (r_lss hA rfl rfl) rfl fun a hA => ?_
  refine o_nil ?_
  refine hN4 _ _ ?_
  refine w_seq fun _ hN5 => ?_
  refine w_cond hA rfl (fun hc1 => ?_) (fun hc1 => ?_)
  · have hc10 := hc1; have hc1 := of_decide_eq_true hc1; have H := bT H hc1
    refine w_skip ?_
    refine hN5 _ _ ?_
    refine w_seq fun _ hN6 => ?_
    refine w_block ?_
    refine w_seq fun _ hN7 => ?_
    refine w_reg ?_
    refine stp hA (r_mv hA rfl) rfl fun a hA => ?_
    obtain ⟨hb1, H⟩ := bG H
    obtain ⟨_, he1, _, hat1⟩ := Slc.elem (Slc.le hx0.2.2.2.2.2.2 (fun _ _ h => RTx.le hle1 h) hle1) (getD_some default hb1.1 hb1.2)
    obtain ⟨v1, v2, rfl, hw1⟩ := he1
    obtain ⟨_, hsl2⟩ := Slc.sv (Slc.le hx0.2.2.2.2.2.2 (fun _ _ h => RTx.le hle1 h) hle1)
    refine stp hA (r_six Tryd.underlying37 sz32 hsl2 hA rfl rfl hb1.1 hb1.2) rfl fun a hA => 
      stp hA (r_ldmA [] [[.int .u32 ((x0.Txs.getD s1.toNat default).Version)], [v1], [v2], [.int .u32 ((x0.Txs.getD s1.toNat default).Time)]] [] Tryd.underlying32 rfl sz32 rfl hI.agr hat1 hA rfl rfl) rfl fun a hA => 
      o_new [[.int .u32 0], [(.slice none 0 0)], [(.slice none 0 0)], [.int .u32 0]] zr32 hI hA rfl fun g2 a w hA hI hg2 => 
      stp hA (r_as hA rfl) rfl fun a hA => ?_
    obtain ⟨_, hsl3⟩ := Slc.sv hw1.2.1
    obtain ⟨_, hsl4⟩ := Slc.sv hw1.2.2.1
    refine o_st (j := 0) [] [[.int .u32 0], [(.slice none 0 0)], [(.slice none 0 0)], [.int .u32 0]] [[.int .u32 ((x0.Txs.getD s1.toNat default).Version)], [v1], [v2], [.int .u32 ((x0.Txs.getD s1.toNat default).Time)]] [] sz32 rfl rfl (fl_cons (one_one rfl) (fl_cons (one_one (one_sl hsl3)) (fl_cons (one_one (one_sl hsl4)) (fl_cons (one_one rfl) fl_nil)))) hI rfl hA rfl rfl rfl rfl fun w hI => ?_
    refine o_nil ?_
    refine hN7 _ _ ?_
    refine w_seq fun _ hN8 => ?_
    refine w_reg ?_
    refine stp hA (r_ldA (j := 0) [] [[.int .u32 ((x0.Txs.getD s1.toNat default).Version)], [v1], [v2], [.int .u32 ((x0.Txs.getD s1.toNat default).Time)]] [] Tryd.underlying32 rfl sz32 rfl hI rfl hA rfl rfl) rfl fun a hA => ?_
    obtain ⟨r1, hr1, H⟩ := bB H
    refine o_call _ cf72 hA rfl (tx_Check.c μ1 _ hI.agr (x0.Txs.getD s1.toNat default) v1 v2 ⟨hw1.1, hw1.2.1, hw1.2.2.1, hw1.2.2.2⟩ e0 (ErV.le (fun _ _ h => h) hle1 he0) e1 (ErV.le (fun _ _ h => h) hle1 he1) e2 (ErV.le (fun _ _ h => h) hle1 he2) e6 (ErV.le (fun _ _ h => h) hle1 he6) e7 (ErV.le (fun _ _ h => h) hle1 he7) e8 (ErV.le (fun _ _ h => h) hle1 he8) r1 hr1) rfl fun v3 a w hz2 hA => ?_
    obtain ⟨_, μ2, rfl, hS1, hi1⟩ := hz2
    have hI := hI.call hi1
    refine stp hA (r_as hA rfl) rfl fun a hA => ?_
    refine o_nil ?_
    refine hN8 _ _ ?_
    refine w_seq fun _ hN9 => ?_
    refine w_reg ?_
    refine stp hA (r_mv hA rfl) rfl fun a hA => 
      stp hA (r_neE erF hI.agr hS1 erv_nil (.inl ⟨.inr ⟨_, rfl⟩, Er.fitR⟩) hA rfl rfl) rfl fun a hA => ?_
    refine o_nil ?_
    refine hN9 _ _ ?_
    refine w_cond hA rfl (fun hc2 => ?_) (fun hc2 => ?_)
    · have hc20 := hc2; have hc2 := of_decide_eq_true hc2; have H := bT H hc2
      refine w_seq fun _ hN10 => ?_
      refine w_reg ?_
      refine stp hA (r_mv hA rfl) rfl fun a hA => 
        stp hA (r_mv hA rfl) rfl fun a hA => 
        stp hA (r_bldS (cs := [[.int .i64 s1], [v3]].flatten.toArray) (pl := [(0, 1), (1, 1)]) zr113 Tryd.underlying113 ⟨rfl, sz3, rfl, sz51, trivial⟩ hA rfl ((fill_one rfl rfl (by kernel_rfl)).trans ((fill_one (cells_err hS1) rfl (by kernel_rfl)).trans (by kernel_rfl)))) rfl fun a hA => 
        o_box [[.int .i64 s1], [v3]] hI hA rfl rfl rfl fun g3 a w hA hI hg3 => ?_
      obtain ⟨μ3, hle2, hat2, hI⟩ := hI.freezeCel 0 rfl
      have he2 : ErS μ3 (.iface 111 (.pointer (some ⟨g3, 0, none⟩))) (Er.pl s1 r1) := ⟨g3, v3, rfl, hat2, ws1, (ErV.le (fun _ _ h => h) hle2 hS1)⟩
      refine stp hA (r_mkI Tryd.underlying111 hA rfl) rfl fun a hA => 
        stp hA (r_as hA rfl) rfl fun a hA => ?_
      refine o_nil ?_
      refine hN10 _ _ ?_
      refine w_ret ?_
      have H : some (Er.pl s1 r1) = some z1 := H
      obtain rfl := Option.some.inj H
      have H := Hk1
      obtain rfl := Option.some.inj (bS H)
      exact ret1 hA Tryd.results44 rfl ⟨_, rfl, (.iface 111 (.pointer (some ⟨g3, 0, none⟩))), μ3, rfl, he2, (hI.sel [] (by decide) rfl)⟩
    · have hc20 := hc2; have hc2 := of_decide_eq_false hc2; have H := bF H hc2
      refine w_skip ?_
      refine hN6 _ _ ?_
      refine w_reg ?_
      refine stp hA (r_add hA rfl rfl) rfl fun a hA => 
        stp hA (r_mv hA rfl) rfl fun a hA => ?_
      refine o_nil ?_
      exact ⟨m1, Nat.lt_succ_self _, IntKind.i64.wrap (s1 + 1), μ2, H, (hle1.trans hi1.le), (wrap_in _ _), hA.sub ⟨rfl, rfl, rfl, rfl, rfl, rfl, trivial⟩, (hI.sel [1] (by decide) rfl)⟩
  · have hc10 := hc1; have hc1 := of_decide_eq_false hc1; have H := bF H hc1
    refine w_exit rfl ?_
    refine hN2 _ _ ?_
    refine w_seq fun _ hN11 => ?_
    refine w_seq fun _ hN12 => ?_
    refine w_reg ?_
    refine stp hA (r_fd (k := 68) Tryd.underlying39 rfl sz37 hA rfl rfl) rfl fun a hA => 
      stp hA (r_ld1 (j := 0) [[.int .u32 x0.Head.Version], av .u8 32 x0.Head.Prev, av .u8 32 x0.Head.Root, [.int .u32 x0.Head.Time], [.int .u32 x0.Head.Work], [.int .u32 x0.Head.Nonce]] [] Tryd.underlying37 rfl hI rfl hA rfl rfl) rfl fun a hA => ?_
    obtain ⟨_, hsl5⟩ := Slc.sv (Slc.le hx0.2.2.2.2.2.2 (fun _ _ h => RTx.le hle1 h) hle1)
    refine stp hA (r_slen Tryd.underlying37 hsl5 hA rfl) rfl fun a hA => 
      stp hA (r_mv hA rfl) rfl fun a hA => ?_
    refine o_nil ?_
    refine hN12 _ _ ?_
    refine w_block ?_
    obtain ⟨z2, hz3, Hk2⟩ := bind_some H
    obtain ⟨n2, hn2⟩ := loopO_some hz3
    refine w_loop (fun n a w => ∃ (s2 : Int), loopN (block_parts.s1 x0) n s2 = some z2 ∧ InR .i64 s2 ∧ Fr a 45 [(0, .agg [[.int .u32 x0.Head.Version], av .u8 32 x0.Head.Prev, av .u8 32 x0.Head.Root, [.int .u32 x0.Head.Time], [.int .u32 x0.Head.Work], [.int .u32 x0.Head.Nonce], [u0_0]].flatten.toArray), (1, .pointer (some ⟨g1, 0, none⟩)), (2, .nilIface), (9, u0_0), (10, .int .i64 (x0.Txs.length : Int)), (11, .int .i64 s1), (12, .bool (decide (s1 < (x0.Txs.length : Int)))), (27, u0_0), (28, .int .i64 (x0.Txs.length : Int)), (29, .int .i64 s2)] ∧ Iv w0 [] μ μ1 [cel g1 [[.int .u32 x0.Head.Version], av .u8 32 x0.Head.Prev, av .u8 32 x0.Head.Root, [.int .u32 x0.Head.Time], [.int .u32 x0.Head.Work], [.int .u32 x0.Head.Nonce], [u0_0]] 39] w) n2 ⟨0, hn2, (in_lit .i64 0 rfl), hA.sub ⟨rfl, rfl, rfl, rfl, rfl, rfl, rfl, rfl, rfl, rfl, trivial⟩, hI⟩ ?_
    clear hA hI
    rintro n a w ⟨s2, hn2, ws2, hA, hI⟩
    obtain ⟨m2, rfl, H⟩ := loopN_bind hn2
    clear hn2
    refine w_seq fun _ hN13 => ?_
    refine w_reg ?_
    refine stp hA (r_lss hA rfl rfl) rfl fun a hA => ?_
    refine o_nil ?_
    refine hN13 _ _ ?_
    refine w_seq fun _ hN14 => ?_
    refine w_cond hA rfl (fun hc3 => ?_) (fun hc3 => ?_)
    · have hc30 := hc3; have hc3 := of_decide_eq_true hc3; have H := bT H hc3
      refine w_skip ?_
      refine hN14 _ _ ?_
      refine w_seq fun _ hN15 => ?_
      refine w_block ?_
      refine w_seq fun _ hN16 => ?_
      refine w_reg ?_
      refine stp hA (r_mv hA rfl) rfl fun a hA => ?_
      obtain ⟨hb2, H⟩ := bG H
      obtain ⟨_, he3, _, hat3⟩ := Slc.elem (Slc.le hx0.2.2.2.2.2.2 (fun _ _ h => RTx.le hle1 h) hle1) (getD_some default hb2.1 hb2.2)
      obtain ⟨v4, v5, rfl, hw2⟩ := he3
      obtain ⟨_, hsl6⟩ := Slc.sv (Slc.le hx0.2.2.2.2.2.2 (fun _ _ h => RTx.le hle1 h) hle1)
      refine stp hA (r_six Tryd.underlying37 sz32 hsl6 hA rfl rfl hb2.1 hb2.2) rfl fun a hA => 
        stp hA (r_ldmA [] [[.int .u32 ((x0.Txs.getD s2.toNat default).Version)], [v4], [v5], [.int .u32 ((x0.Txs.getD s2.toNat default).Time)]] [] Tryd.underlying32 rfl sz32 rfl hI.agr hat3 hA rfl rfl) rfl fun a hA => 
        o_new [[.int .u32 0], [(.slice none 0 0)], [(.slice none 0 0)], [.int .u32 0]] zr32 hI hA rfl fun g4 a w hA hI hg4 => 
        stp hA (r_as hA rfl) rfl fun a hA => ?_
      obtain ⟨_, hsl7⟩ := Slc.sv hw2.2.1
      obtain ⟨_, hsl8⟩ := Slc.sv hw2.2.2.1
      refine o_st (j := 0) [] [[.int .u32 0], [(.slice none 0 0)], [(.slice none 0 0)], [.int .u32 0]] [[.int .u32 ((x0.Txs.getD s2.toNat default).Version)], [v4], [v5], [.int .u32 ((x0.Txs.getD s2.toNat default).Time)]] [] sz32 rfl rfl (fl_cons (one_one rfl) (fl_cons (one_one (one_sl hsl7)) (fl_cons (one_one (one_sl hsl8)) (fl_cons (one_one rfl) fl_nil)))) hI rfl hA rfl rfl rfl rfl fun w hI => ?_
      refine o_nil ?_
      refine hN16 _ _ ?_
      refine w_seq fun _ hN17 => ?_
      refine w_reg ?_
      refine stp hA (r_ldA (j := 0) [] [[.int .u32 ((x0.Txs.getD s2.toNat default).Version)], [v4], [v5], [.int .u32 ((x0.Txs.getD s2.toNat default).Time)]] [] Tryd.underlying32 rfl sz32 rfl hI rfl hA rfl rfl) rfl fun a hA => ?_
      obtain ⟨r2, hr2, H⟩ := bB H
      refine o_callp (u := .bool r2) cf73 hA rfl hI (tx_Base.c μ1 _ hI.agr (x0.Txs.getD s2.toNat default) v4 v5 ⟨hw2.1, hw2.2.1, hw2.2.2.1, hw2.2.2.2⟩ r2 hr2) rfl fun a w hz4 hI hA => 
        stp hA (r_mv hA rfl) rfl fun a hA => 
        stp hA (r_eql hA rfl rfl) rfl fun a hA => 
        stp hA (r_neqb Tryd.underlying4 hA rfl rfl) rfl fun a hA => ?_
      refine o_nil ?_
      refine hN17 _ _ ?_
      refine w_cond hA rfl (fun hc4 => ?_) (fun hc4 => ?_)
      · have hc40 := hc4; have hc4 := of_decide_eq_true hc4; have H := bT H hc4
        refine w_seq fun _ hN18 => ?_
        refine w_reg ?_
        refine stp hA (r_mv hA rfl) rfl fun a hA => 
          stp hA (r_ldG Tryd.underlying51 rfl hI.agr (ErV.le (fun _ _ h => h) hle1 he6) hA) rfl fun a hA => 
          stp hA (r_bldS (cs := [[.int .i64 s2], [e6]].flatten.toArray) (pl := [(0, 1), (1, 1)]) zr113 Tryd.underlying113 ⟨rfl, sz3, rfl, sz51, trivial⟩ hA rfl ((fill_one rfl rfl (by kernel_rfl)).trans ((fill_one (cells_err (ErV.le (fun _ _ h => h) hle1 he6)) rfl (by kernel_rfl)).trans (by kernel_rfl)))) rfl fun a hA => 
          o_box [[.int .i64 s2], [e6]] hI hA rfl rfl rfl fun g5 a w hA hI hg5 => ?_
        obtain ⟨μ4, hle3, hat4, hI⟩ := hI.freezeCel 0 rfl
        have he4 : ErS μ4 (.iface 111 (.pointer (some ⟨g5, 0, none⟩))) (Er.pl s2 xErrBase) := ⟨g5, e6, rfl, hat4, ws2, (ErV.le (fun _ _ h => h) (hle1.trans hle3) he6)⟩
        refine stp hA (r_mkI Tryd.underlying111 hA rfl) rfl fun a hA => 
          stp hA (r_as hA rfl) rfl fun a hA => ?_
        refine o_nil ?_
        refine hN18 _ _ ?_
        refine w_ret ?_
        have H : some (.inr (Er.pl s2 xErrBase)) = some z2 := H
        obtain rfl := Option.some.inj H
        have H := Hk2
        have H : some (Er.pl s2 xErrBase) = some z1 := H
        obtain rfl := Option.some.inj H
        have H := Hk1
        obtain rfl := Option.some.inj (bS H)
        exact ret1 hA Tryd.results44 rfl ⟨_, rfl, (.iface 111 (.pointer (some ⟨g5, 0, none⟩))), μ4, rfl, he4, (hI.sel [] (by decide) rfl)⟩
      · have hc40 := hc4; have hc4 := of_decide_eq_false hc4; have H := bF H hc4
        refine w_skip ?_
        refine hN15 _ _ ?_
        refine w_reg ?_
        refine stp hA (r_add hA rfl rfl) rfl fun a hA => 
          stp hA (r_mv hA rfl) rfl fun a hA => ?_
        refine o_nil ?_
        exact ⟨m2, Nat.lt_succ_self _, IntKind.i64.wrap (s2 + 1), H, (wrap_in _ _), hA.sub ⟨rfl, rfl, rfl, rfl, rfl, rfl, rfl, rfl, rfl, rfl, trivial⟩, (hI.sel [1] (by decide) rfl)⟩
    · have hc30 := hc3; have hc3 := of_decide_eq_false hc3; have H := bF H hc3
      refine w_exit rfl ?_
      refine hN11 _ _ ?_
      refine w_seq fun _ hN19 => ?_
      refine w_reg ?_
      refine stp hA (r_as hA rfl) rfl fun a hA => ?_
      refine o_nil ?_
      refine hN19 _ _ ?_
      refine w_ret ?_
      have H : some (.inr (Er.b 0)) = some z2 := H
      obtain rfl := Option.some.inj H
      have H := Hk2
      have H : some (Er.b 0) = some z1 := H
      obtain rfl := Option.some.inj H
      have H := Hk1
      obtain rfl := Option.some.inj (bS H)
      exact ret1 hA Tryd.results44 rfl ⟨_, rfl, .nilIface, μ1, rfl, erv_nil, (hI.sel [] (by decide) rfl)⟩
set_option maxRecDepth 20000 in
theorem block_twice.c (μ : Store) (w0 : World) (hμ : Agr μ w0) (x0 : Block) (u0_0 : Value) (hx0 : BlockW μ x0 u0_0) (r : Bool) (H : block_twice.f x0 = some r) :
    Calls Tryd.prog 45 [.agg [[.int .u32 x0.Head.Version], av .u8 32 x0.Head.Prev, av .u8 32 x0.Head.Root, [.int .u32 x0.Head.Time], [.int .u32 x0.Head.Work], [.int .u32 x0.Head.Nonce], [u0_0]].flatten.toArray].toArray w0 (fun e w' => ∃ v, e = .returned v ∧ v = .bool r ∧ True ∧ Iv w0 [] μ μ [] w') := by
  refine enter Tryd.func45 rfl Tryd.ntmps45 rfl fun a hA => ?_
  have hI := Iv.start hμ
  have H := bI H
  refine w_seq fun _ hN1 => ?_
  refine w_reg ?_
  refine o_box [[.int .u32 x0.Head.Version], av .u8 32 x0.Head.Prev, av .u8 32 x0.Head.Root, [.int .u32 x0.Head.Time], [.int .u32 x0.Head.Work], [.int .u32 x0.Head.Nonce], [u0_0]] hI hA rfl rfl rfl fun g1 a w hA hI hg1 => 
    stp hA (r_as hA rfl) rfl fun a hA => ?_
  refine o_nil ?_
  refine hN1 _ _ ?_
  refine w_seq fun _ hN2 => ?_
  refine w_reg ?_
  refine o_mkmap kv114 vv114 hI hA rfl fun g2 a w hI hA => 
    o_mkmap kv115 vv115 hI hA rfl fun g3 a w hI hA => 
    stp hA (r_as hA rfl) rfl fun a hA => 
    stp hA (r_as hA rfl) rfl fun a hA => ?_
  refine o_nil ?_
  refine hN2 _ _ ?_
  refine w_seq fun _ hN3 => ?_
  refine w_seq fun _ hN4 => ?_
  refine w_reg ?_
  refine stp hA (r_ldA (j := 2) [] [[.int .u32 x0.Head.Version], av .u8 32 x0.Head.Prev, av .u8 32 x0.Head.Root, [.int .u32 x0.Head.Time], [.int .u32 x0.Head.Work], [.int .u32 x0.Head.Nonce], [u0_0]] [] Tryd.underlying39 rfl sz39 rfl hI rfl hA rfl rfl) rfl fun a hA => ?_
  obtain ⟨r1, hr1, H⟩ := bB H
  refine o_call _ cf29 hA rfl (block_IDs.c μ _ hI.agr x0 u0_0 ⟨hx0.1, hx0.2.1, hx0.2.2.1, hx0.2.2.2.1, hx0.2.2.2.2.1, hx0.2.2.2.2.2.1, hx0.2.2.2.2.2.2⟩ r1 hr1) rfl fun v1 a w hz1 hA => ?_
  obtain ⟨_, cs1, rfl, hE1, hi1⟩ := hz1
  have hI := hI.call hi1
  have hlen1 := Iv.row_in hI (j := 0) rfl
  refine stp hA (r_rlen (xs := 0) Tryd.underlying71 hI (j := 0) rfl hA rfl) rfl fun a hA => 
    stp hA (r_mv hA rfl) rfl fun a hA => ?_
  refine o_nil ?_
  refine hN4 _ _ ?_
  refine w_block ?_
  obtain ⟨z1, hz2, Hk1⟩ := bind_some H
  obtain ⟨n1, hn1⟩ := loopO_some hz2
  refine w_loop (fun n a w => ∃ (s1 : Int) (s2 : List (Point × Bool)) (s3 : List ((List Int) × Bool)), loopN (block_twice.s0 x0 r1) n (s1, s2, s3) = some z1 ∧ InR .i64 s1 ∧ mw115 s2 ∧ mw114 s3 ∧ Fr a 44 [(0, .agg [[.int .u32 x0.Head.Version], av .u8 32 x0.Head.Prev, av .u8 32 x0.Head.Root, [.int .u32 x0.Head.Time], [.int .u32 x0.Head.Work], [.int .u32 x0.Head.Nonce], [u0_0]].flatten.toArray), (1, .pointer (some ⟨g1, 0, none⟩)), (2, .bool false), (3, .map (some g2)), (4, .map (some g3)), (12, v1), (13, .int .i64 (r1.length : Int)), (14, .int .i64 s1)] ∧ Iv w0 [] μ μ [row 24 32 v1 r1.length cs1, mpI g3 (ent kv115 vv115 s2), mpI g2 (ent kv114 vv114 s3), cel g1 [[.int .u32 x0.Head.Version], av .u8 32 x0.Head.Prev, av .u8 32 x0.Head.Root, [.int .u32 x0.Head.Time], [.int .u32 x0.Head.Work], [.int .u32 x0.Head.Nonce], [u0_0]] 39] w) n1 ⟨0, ([] : List (Point × Bool)), ([] : List ((List Int) × Bool)), hn1, (in_lit .i64 0 rfl), mw_nil, mw_nil, hA.sub ⟨rfl, rfl, rfl, rfl, rfl, rfl, rfl, rfl, trivial⟩, hI⟩ ?_
  clear hA hI
  rintro n a w ⟨s1, s2, s3, hn1, ws1, ws2, ws3, hA, hI⟩
  obtain ⟨m1, rfl, H⟩ := loopN_bind hn1
  clear hn1
  refine w_seq fun _ hN5 => ?_
  refine w_reg ?_
  refine stp hA (r_lss hA rfl rfl) rfl fun a hA => ?_
  refine o_nil ?_
  refine hN5 _ _ ?_
  refine w_seq fun _ hN6 => ?_
  refine w_cond hA rfl (fun hc1 => ?_) (fun hc1 => ?_)
  · have hc10 := hc1; have hc1 := of_decide_eq_true hc1; have H := bT H hc1
    refine w_skip ?_
    refine hN6 _ _ ?_
    refine w_seq fun _ hN7 => ?_
    refine w_block ?_
    refine w_seq fun _ hN8 => ?_
    refine w_reg ?_
    refine stp hA (r_mv hA rfl) rfl fun a hA => ?_
    obtain ⟨hb1, H⟩ := bG H
    refine stp hA (r_rix (j := 0) Tryd.underlying71 sz24 hI rfl hA rfl rfl hb1.1 hb1.2) rfl fun a hA => ?_
    obtain ⟨A1, _, B1, hc2, hl1, _, he1⟩ := Els.at_ hE1 (getD_some [] hb1.1 hb1.2)
    obtain ⟨rfl, hw1⟩ := he1
    refine stp hA (r_rldP (j := 0) (q := s1.toNat * 32) (off := 0) A1 B1 [] [av .u8 32 (r1.getD s1.toNat [])] [] hc2 hl1 rfl Tryd.underlying24 rfl sz24 rfl hI rfl hA rfl) rfl fun a hA => 
      o_new [av .u8 32 (List.replicate 32 0)] zr24 hI hA rfl fun g4 a w hA hI hg4 => 
      stp hA (r_as hA rfl) rfl fun a hA => 
      o_st (j := 0) [] [av .u8 32 (List.replicate 32 0)] [av .u8 32 (r1.getD s1.toNat [])] [] sz24 rfl rfl (fl_cons (one_av _ _ _) fl_nil) hI rfl hA rfl rfl rfl rfl fun w hI => ?_
    refine o_nil ?_
    refine hN8 _ _ ?_
    refine w_seq fun _ hN9 => ?_
    refine w_seq fun _ hN10 => ?_
    refine w_reg ?_
    refine stp hA (r_mv hA rfl) rfl fun a hA => 
      stp hA (r_ldA (j := 0) [] [av .u8 32 (r1.getD s1.toNat [])] [] Tryd.underlying24 rfl sz24 rfl hI rfl hA rfl rfl) rfl fun a hA => 
      stp hA (r_look (j := 3) kn114 Tryd.underlying114 mz114 ws3 hw1 hI rfl hA rfl rfl) rfl fun a hA => ?_
    refine o_nil ?_
    refine hN10 _ _ ?_
    refine w_cond hA rfl (fun hc3 => ?_) (fun hc3 => ?_)
    · have hc30 := hc3; have H := bT H hc3
      refine w_seq fun _ hN11 => ?_
      refine w_reg ?_
      refine stp hA (r_as hA rfl) rfl fun a hA => ?_
      refine o_nil ?_
      refine hN11 _ _ ?_
      refine w_ret ?_
      have H : some true = some z1 := H
      obtain rfl := Option.some.inj H
      have H := Hk1
      obtain rfl := Option.some.inj (bS H)
      exact ret1 hA Tryd.results45 rfl ⟨_, rfl, rfl, trivial, hI.forget0⟩
    · have hc30 := hc3; have hc3 := ft hc3; have H := bF H hc3
      refine w_skip ?_
      refine hN9 _ _ ?_
      refine w_seq fun _ hN12 => ?_
      refine w_reg ?_
      refine stp hA (r_mv hA rfl) rfl fun a hA => 
        stp hA (r_ldA (j := 0) [] [av .u8 32 (r1.getD s1.toNat [])] [] Tryd.underlying24 rfl sz24 rfl hI rfl hA rfl rfl) rfl fun a hA => 
        o_mput (j := 3) (k := (r1.getD s1.toNat [])) true kn114 Tryd.underlying114 ws3 hw1 hI rfl hA rfl rfl rfl fun w hI => ?_
      refine o_nil ?_
      refine hN12 _ _ ?_
      refine w_seq fun _ hN13 => ?_
      refine w_reg ?_
      refine stp hA (r_fd (k := 68) Tryd.underlying39 rfl sz37 hA rfl rfl) rfl fun a hA => 
        stp hA (r_ld1 (j := 4) [[.int .u32 x0.Head.Version], av .u8 32 x0.Head.Prev, av .u8 32 x0.Head.Root, [.int .u32 x0.Head.Time], [.int .u32 x0.Head.Work], [.int .u32 x0.Head.Nonce]] [] Tryd.underlying37 rfl hI rfl hA rfl rfl) rfl fun a hA => 
        stp hA (r_mv hA rfl) rfl fun a hA => ?_
      obtain ⟨hb2, H⟩ := bG H
      obtain ⟨_, he2, _, hat1⟩ := Slc.elem hx0.2.2.2.2.2.2 (getD_some default hb2.1 hb2.2)
      obtain ⟨v2, v3, rfl, hw2⟩ := he2
      obtain ⟨_, hsl1⟩ := Slc.sv hx0.2.2.2.2.2.2
      refine stp hA (r_six Tryd.underlying37 sz32 hsl1 hA rfl rfl hb2.1 hb2.2) rfl fun a hA => 
        stp hA (r_fd (k := so u0_0 + s1.toNat * 4 + 1) Tryd.underlying32 rfl sz29 hA rfl rfl) rfl fun a hA => 
        stp hA (r_ldm1 [[.int .u32 ((x0.Txs.getD s1.toNat default).Version)]] [[v3], [.int .u32 ((x0.Txs.getD s1.toNat default).Time)]] Tryd.underlying29 rfl hI.agr hat1 hA rfl rfl) rfl fun a hA => ?_
      obtain ⟨_, hsl2⟩ := Slc.sv hw2.2.1
      refine stp hA (r_slen Tryd.underlying29 hsl2 hA rfl) rfl fun a hA => 
        stp hA (r_mv hA rfl) rfl fun a hA => ?_
      refine o_nil ?_
      refine hN13 _ _ ?_
      refine w_block ?_
      obtain ⟨z2, hz3, Hk2⟩ := bind_some H
      obtain ⟨n2, hn2⟩ := loopO_some hz3
      refine w_loop (fun n a w => ∃ (s4 : Int) (s5 : List (Point × Bool)), loopN (block_twice.s1 x0 r1 s1 s3) n (s4, s5) = some z2 ∧ InR .i64 s4 ∧ mw115 s5 ∧ Fr a 44 [(0, .agg [[.int .u32 x0.Head.Version], av .u8 32 x0.Head.Prev, av .u8 32 x0.Head.Root, [.int .u32 x0.Head.Time], [.int .u32 x0.Head.Work], [.int .u32 x0.Head.Nonce], [u0_0]].flatten.toArray), (1, .pointer (some ⟨g1, 0, none⟩)), (2, .bool false), (3, .map (some g2)), (4, .map (some g3)), (5, .int .i64 s1), (6, .pointer (some ⟨g4, 0, none⟩)), (12, v1), (13, .int .i64 (r1.length : Int)), (14, .int .i64 s1), (15, .bool (decide (s1 < (r1.length : Int)))), (21, .bool ((mget s3 (r1.getD s1.toNat [])).getD false)), (29, v2), (30, .int .i64 (((x0.Txs.getD s1.toNat default).Ins).length : Int)), (31, .int .i64 s4)] ∧ Iv w0 [] μ μ [cel g4 [av .u8 32 (r1.getD s1.toNat [])] 24, row 24 32 v1 r1.length cs1, mpI g3 (ent kv115 vv115 s5), mpI g2 (ent kv114 vv114 (mput s3 (r1.getD s1.toNat []) true)), cel g1 [[.int .u32 x0.Head.Version], av .u8 32 x0.Head.Prev, av .u8 32 x0.Head.Root, [.int .u32 x0.Head.Time], [.int .u32 x0.Head.Work], [.int .u32 x0.Head.Nonce], [u0_0]] 39] w) n2 ⟨0, s2, hn2, (in_lit .i64 0 rfl), ws2, hA.sub ⟨rfl, rfl, rfl, rfl, rfl, rfl, rfl, rfl, rfl, rfl, rfl, rfl, rfl, rfl, rfl, trivial⟩, hI⟩ ?_
      clear hA hI
      rintro n a w ⟨s4, s5, hn2, ws4, ws5, hA, hI⟩
      obtain ⟨m2, rfl, H⟩ := loopN_bind hn2
      clear hn2
      refine w_seq fun _ hN14 => ?_
      refine w_reg ?_
      refine stp hA (r_lss hA rfl rfl) rfl fun a hA => ?_
      refine o_nil ?_
      refine hN14 _ _ ?_
      refine w_seq fun _ hN15 => ?_
      refine w_cond hA rfl (fun hc4 => ?_) (fun hc4 => ?_)
      · have hc40 := hc4; have hc4 := of_decide_eq_true hc4; have H := bT H hc4
        refine w_skip ?_
        refine hN15 _ _ ?_
        refine w_seq fun _ hN16 => ?_
        refine w_block ?_
        refine w_seq fun _ hN17 => ?_
        refine w_reg ?_
        obtain ⟨hb3, H⟩ := bG H
        obtain ⟨_, he3, _, hat2⟩ := Slc.elem hw2.2.1 (getD_some default hb3.1 hb3.2)
        obtain ⟨v4, rfl, hw3⟩ := he3
        obtain ⟨_, hsl3⟩ := Slc.sv hw2.2.1
        refine stp hA (r_six Tryd.underlying29 sz46 hsl3 hA rfl rfl hb3.1 hb3.2) rfl fun a hA => 
          stp hA (r_ldmA [] [av .u8 32 ((((x0.Txs.getD s1.toNat default).Ins).getD s4.toNat default).From.Tx), [.int .u32 ((((x0.Txs.getD s1.toNat default).Ins).getD s4.toNat default).From.N)], [v4], [.int .u32 ((((x0.Txs.getD s1.toNat default).Ins).getD s4.toNat default).Seq)]] [] Tryd.underlying46 rfl sz46 rfl hI.agr hat2 hA rfl rfl) rfl fun a hA => 
          o_new [av .u8 32 (List.replicate 32 0), [.int .u32 0], [(.slice none 0 0)], [.int .u32 0]] zr46 hI hA rfl fun g5 a w hA hI hg5 => ?_
        obtain ⟨_, hsl4⟩ := Slc.sv hw3.2.2.1
        refine o_st (j := 0) [] [av .u8 32 (List.replicate 32 0), [.int .u32 0], [(.slice none 0 0)], [.int .u32 0]] [av .u8 32 ((((x0.Txs.getD s1.toNat default).Ins).getD s4.toNat default).From.Tx), [.int .u32 ((((x0.Txs.getD s1.toNat default).Ins).getD s4.toNat default).From.N)], [v4], [.int .u32 ((((x0.Txs.getD s1.toNat default).Ins).getD s4.toNat default).Seq)]] [] sz46 rfl rfl (fl_cons (one_av _ _ _) (fl_cons (one_one rfl) (fl_cons (one_one (one_sl hsl4)) (fl_cons (one_one rfl) fl_nil)))) hI rfl hA rfl rfl rfl rfl fun w hI => ?_
        refine o_nil ?_
        refine hN17 _ _ ?_
        refine w_seq fun _ hN18 => ?_
        refine w_seq fun _ hN19 => ?_
        refine w_reg ?_
        refine stp hA (r_mv hA rfl) rfl fun a hA => 
          stp hA (r_fd (k := 0) Tryd.underlying46 rfl sz44 hA rfl rfl) rfl fun a hA => 
          stp hA (r_ldA (j := 0) [] [av .u8 32 ((((x0.Txs.getD s1.toNat default).Ins).getD s4.toNat default).From.Tx), [.int .u32 ((((x0.Txs.getD s1.toNat default).Ins).getD s4.toNat default).From.N)]] [[v4], [.int .u32 ((((x0.Txs.getD s1.toNat default).Ins).getD s4.toNat default).Seq)]] Tryd.underlying44 rfl sz44 rfl hI rfl hA rfl rfl) rfl fun a hA => 
          stp hA (r_look (j := 3) kn115 Tryd.underlying115 mz115 ws5 ⟨hw3.1, hw3.2.1⟩ hI rfl hA rfl rfl) rfl fun a hA => ?_
        refine o_nil ?_
        refine hN19 _ _ ?_
        refine w_cond hA rfl (fun hc5 => ?_) (fun hc5 => ?_)
        · have hc50 := hc5; have H := bT H hc5
          refine w_seq fun _ hN20 => ?_
          refine w_reg ?_
          refine stp hA (r_as hA rfl) rfl fun a hA => ?_
          refine o_nil ?_
          refine hN20 _ _ ?_
          refine w_ret ?_
          have H : some (.inr true) = some z2 := H
          obtain rfl := Option.some.inj H
          have H := Hk2
          have H : some true = some z1 := H
          obtain rfl := Option.some.inj H
          have H := Hk1
          obtain rfl := Option.some.inj (bS H)
          exact ret1 hA Tryd.results45 rfl ⟨_, rfl, rfl, trivial, hI.forget0⟩
        · have hc50 := hc5; have hc5 := ft hc5; have H := bF H hc5
          refine w_skip ?_
          refine hN18 _ _ ?_
          refine w_reg ?_
          refine stp hA (r_mv hA rfl) rfl fun a hA => 
            stp hA (r_fd (k := 0) Tryd.underlying46 rfl sz44 hA rfl rfl) rfl fun a hA => 
            stp hA (r_ldA (j := 0) [] [av .u8 32 ((((x0.Txs.getD s1.toNat default).Ins).getD s4.toNat default).From.Tx), [.int .u32 ((((x0.Txs.getD s1.toNat default).Ins).getD s4.toNat default).From.N)]] [[v4], [.int .u32 ((((x0.Txs.getD s1.toNat default).Ins).getD s4.toNat default).Seq)]] Tryd.underlying44 rfl sz44 rfl hI rfl hA rfl rfl) rfl fun a hA => 
            o_mput (j := 3) (k := ((((x0.Txs.getD s1.toNat default).Ins).getD s4.toNat default).From)) true kn115 Tryd.underlying115 ws5 ⟨hw3.1, hw3.2.1⟩ hI rfl hA rfl rfl rfl fun w hI => ?_
          refine o_nil ?_
          refine hN16 _ _ ?_
          refine w_reg ?_
          refine stp hA (r_add hA rfl rfl) rfl fun a hA => 
            stp hA (r_mv hA rfl) rfl fun a hA => ?_
          refine o_nil ?_
          exact ⟨m2, Nat.lt_succ_self _, IntKind.i64.wrap (s4 + 1), mput s5 ((((x0.Txs.getD s1.toNat default).Ins).getD s4.toNat default).From) true, H, (wrap_in _ _), (MW.put ws5 ⟨hw3.1, hw3.2.1⟩ trivial), hA.sub ⟨rfl, rfl, rfl, rfl, rfl, rfl, rfl, rfl, rfl, rfl, rfl, rfl, rfl, rfl, rfl, trivial⟩, (hI.sel [1, 2, 3, 4, 5] (by decide) rfl)⟩
      · have hc40 := hc4; have hc4 := of_decide_eq_false hc4; have H := bF H hc4
        refine w_exit rfl ?_
        refine hN7 _ _ ?_
        refine w_reg ?_
        refine stp hA (r_add hA rfl rfl) rfl fun a hA => 
          stp hA (r_mv hA rfl) rfl fun a hA => ?_
        refine o_nil ?_
        have H : some (.inl (IntKind.i64.wrap (s1 + 1), s5, mput s3 (r1.getD s1.toNat []) true)) = some z2 := H
        obtain rfl := Option.some.inj H
        have H := Hk2
        exact ⟨m1, Nat.lt_succ_self _, IntKind.i64.wrap (s1 + 1), s5, mput s3 (r1.getD s1.toNat []) true, H, (wrap_in _ _), ws5, (MW.put ws3 hw1 trivial), hA.sub ⟨rfl, rfl, rfl, rfl, rfl, rfl, rfl, rfl, trivial⟩, (hI.sel [1, 2, 3, 4] (by decide) rfl)⟩
  · have hc10 := hc1; have hc1 := of_decide_eq_false hc1; have H := bF H hc1
    refine w_exit rfl ?_
    refine hN3 _ _ ?_
    refine w_seq fun _ hN21 => ?_
    refine w_reg ?_
    refine stp hA (r_as hA rfl) rfl fun a hA => ?_
    refine o_nil ?_
    refine hN21 _ _ ?_
    refine w_ret ?_
    have H : some false = some z1 := H
    obtain rfl := Option.some.inj H
    have H := Hk1
    obtain rfl := Option.some.inj (bS H)
    exact ret1 hA Tryd.results45 rfl ⟨_, rfl, rfl, trivial, hI.forget0⟩
set_option maxRecDepth 20000 in
theorem block_Check.c (μ : Store) (w0 : World) (hμ : Agr μ w0) (x0 : Block) (u0_0 : Value) (hx0 : BlockW μ x0 u0_0) (e0 : Value) (he0 : ErS μ e0 (Er.b 1)) (e1 : Value) (he1 : ErS μ e1 (Er.b 2)) (e2 : Value) (he2 : ErS μ e2 (Er.b 3)) (e3 : Value) (he3 : ErS μ e3 (Er.b 4)) (e5 : Value) (he5 : ErS μ e5 (Er.b 6)) (e6 : Value) (he6 : ErS μ e6 (Er.b 7)) (e7 : Value) (he7 : ErS μ e7 (Er.b 8)) (e8 : Value) (he8 : ErS μ e8 (Er.b 9)) (r : Er) (H : block_Check.f x0 = some r) :
    Calls Tryd.prog 16 [.agg [[.int .u32 x0.Head.Version], av .u8 32 x0.Head.Prev, av .u8 32 x0.Head.Root, [.int .u32 x0.Head.Time], [.int .u32 x0.Head.Work], [.int .u32 x0.Head.Nonce], [u0_0]].flatten.toArray].toArray w0 (fun e w' => ∃ v, e = .returned v ∧ ∃ (v0 : Value) (μ' : Store), v = v0 ∧ ErS μ' v0 r ∧ Iv w0 [] μ μ' [] w') := by
  refine enter Tryd.func16 rfl Tryd.ntmps16 rfl fun a hA => ?_
  have hI := Iv.start hμ
  have H := bI H
  refine w_seq fun _ hN1 => ?_
  refine w_reg ?_
  refine o_box [[.int .u32 x0.Head.Version], av .u8 32 x0.Head.Prev, av .u8 32 x0.Head.Root, [.int .u32 x0.Head.Time], [.int .u32 x0.Head.Work], [.int .u32 x0.Head.Nonce], [u0_0]] hI hA rfl rfl rfl fun g1 a w hA hI hg1 => 
    stp hA (r_as hA rfl) rfl fun a hA => ?_
  refine o_nil ?_
  refine hN1 _ _ ?_
  refine w_seq fun _ hN2 => ?_
  refine w_seq fun _ hN3 => ?_
  refine w_reg ?_
  refine stp hA (r_fd (k := 0) Tryd.underlying39 rfl sz36 hA rfl rfl) rfl fun a hA => 
    stp hA (r_ldA (j := 0) [] [[.int .u32 x0.Head.Version], av .u8 32 x0.Head.Prev, av .u8 32 x0.Head.Root, [.int .u32 x0.Head.Time], [.int .u32 x0.Head.Work], [.int .u32 x0.Head.Nonce]] [[u0_0]] Tryd.underlying36 rfl sz36 rfl hI rfl hA rfl rfl) rfl fun a hA => ?_
  obtain ⟨r1, hr1, H⟩ := bB H
  refine o_call _ cf43 hA rfl (head_Check.c μ _ hI.agr x0.Head ⟨hx0.1, hx0.2.1, hx0.2.2.1, hx0.2.2.2.1, hx0.2.2.2.2.1, hx0.2.2.2.2.2.1⟩ e5 he5 r1 hr1) rfl fun v1 a w hz1 hA => ?_
  obtain ⟨_, μ1, rfl, hS1, hi1⟩ := hz1
  have hI := hI.call hi1
  refine stp hA (r_as hA rfl) rfl fun a hA => ?_
  refine o_nil ?_
  refine hN3 _ _ ?_
  refine w_seq fun _ hN4 => ?_
  refine w_reg ?_
  refine stp hA (r_mv hA rfl) rfl fun a hA => 
    stp hA (r_neE erF hI.agr hS1 erv_nil (.inl ⟨.inr ⟨_, rfl⟩, Er.fitR⟩) hA rfl rfl) rfl fun a hA => ?_
  refine o_nil ?_
  refine hN4 _ _ ?_
  refine w_cond hA rfl (fun hc1 => ?_) (fun hc1 => ?_)
  · have hc10 := hc1; have hc1 := of_decide_eq_true hc1; have H := bT H hc1
    refine w_seq fun _ hN5 => ?_
    refine w_reg ?_
    refine stp hA (r_mv hA rfl) rfl fun a hA => 
      stp hA (r_as hA rfl) rfl fun a hA => ?_
    refine o_nil ?_
    refine hN5 _ _ ?_
    refine w_ret ?_
    obtain rfl := Option.some.inj (bS H)
    exact ret1 hA Tryd.results16 rfl ⟨_, rfl, v1, μ1, rfl, hS1, (hI.sel [] (by decide) rfl)⟩
  · have hc10 := hc1; have hc1 := of_decide_eq_false hc1; have H := bF H hc1
    refine w_skip ?_
    refine hN2 _ _ ?_
    refine w_seq fun _ hN6 => ?_
    refine w_block ?_
    obtain ⟨c1, hz2, Hk1⟩ := bB H
    refine w_cut (fun a w => Fr a 45 [(0, .agg [[.int .u32 x0.Head.Version], av .u8 32 x0.Head.Prev, av .u8 32 x0.Head.Root, [.int .u32 x0.Head.Time], [.int .u32 x0.Head.Work], [.int .u32 x0.Head.Nonce], [u0_0]].flatten.toArray), (1, .pointer (some ⟨g1, 0, none⟩)), (2, .nilIface), (3, v1), (9, .bool (decide (r1 ≠ (Er.b 0)))), (11, .bool c1)] ∧ Iv w0 [] μ μ1 [cel g1 [[.int .u32 x0.Head.Version], av .u8 32 x0.Head.Prev, av .u8 32 x0.Head.Root, [.int .u32 x0.Head.Time], [.int .u32 x0.Head.Work], [.int .u32 x0.Head.Nonce], [u0_0]] 39] w) ?_ ?_
    · have H := bI hz2
      refine w_reg ?_
      refine stp hA (r_fd (k := 68) Tryd.underlying39 rfl sz37 hA rfl rfl) rfl fun a hA => 
        stp hA (r_ld1 (j := 0) [[.int .u32 x0.Head.Version], av .u8 32 x0.Head.Prev, av .u8 32 x0.Head.Root, [.int .u32 x0.Head.Time], [.int .u32 x0.Head.Work], [.int .u32 x0.Head.Nonce]] [] Tryd.underlying37 rfl hI rfl hA rfl rfl) rfl fun a hA => ?_
      obtain ⟨_, hsl1⟩ := Slc.sv (Slc.le hx0.2.2.2.2.2.2 (fun _ _ h => RTx.le hi1.le h) hi1.le)
      refine stp hA (r_slen Tryd.underlying37 hsl1 hA rfl) rfl fun a hA => 
        stp hA (r_eql hA rfl rfl) rfl fun a hA => 
        stp hA (r_mv hA rfl) rfl fun a hA => ?_
      rcases Bool.eq_false_or_eq_true (decide ((x0.Txs.length : Int) = 0)) with hc2 | hc2
      · have hc20 := hc2; have hc2 := of_decide_eq_true hc2; have H := bT H hc2
        refine o_no hA rfl rfl (by rw [hc20]; simp [vb]) rfl fun a hA => 
          o_no hA rfl rfl (by rw [hc20]; simp [vb]) rfl fun a hA => 
          o_no hA rfl rfl (by rw [hc20]; simp [vb]) rfl fun a hA => 
          o_no hA rfl rfl (by rw [hc20]; simp [vb]) rfl fun a hA => 
          stp hA (r_pick_t hA rfl hc20 rfl) rfl fun a hA => 
          stp hA (r_as hA rfl) rfl fun a hA => ?_
        refine o_nil ?_
        cases Option.some.inj (bS H)
        exact ⟨hA.sub ⟨rfl, rfl, rfl, rfl, rfl, rfl, trivial⟩, hI⟩
      · have hc20 := hc2; have hc2 := of_decide_eq_false hc2; have H := bF H hc2
        refine o_yes hA rfl rfl hc20 <| 
          stp hA (r_fd (k := 68) Tryd.underlying39 rfl sz37 hA rfl rfl) rfl fun a hA => 
          o_yes hA rfl rfl hc20 <| 
          stp hA (r_ld1 (j := 0) [[.int .u32 x0.Head.Version], av .u8 32 x0.Head.Prev, av .u8 32 x0.Head.Root, [.int .u32 x0.Head.Time], [.int .u32 x0.Head.Work], [.int .u32 x0.Head.Nonce]] [] Tryd.underlying37 rfl hI rfl hA rfl rfl) rfl fun a hA => 
          o_yes hA rfl rfl hc20 <| ?_
        obtain ⟨_, hsl2⟩ := Slc.sv (Slc.le hx0.2.2.2.2.2.2 (fun _ _ h => RTx.le hi1.le h) hi1.le)
        refine stp hA (r_slen Tryd.underlying37 hsl2 hA rfl) rfl fun a hA => 
          o_yes hA rfl rfl hc20 <| 
          stp hA (r_gtr hA rfl rfl) rfl fun a hA => 
          stp hA (r_pick_f hA rfl hc20 rfl) rfl fun a hA => 
          stp hA (r_as hA rfl) rfl fun a hA => ?_
        refine o_nil ?_
        cases Option.some.inj (bS H)
        exact ⟨hA.sub ⟨rfl, rfl, rfl, rfl, rfl, rfl, trivial⟩, hI⟩
    · rintro a w ⟨hA, hI⟩
      have H := Hk1
      refine w_cond hA rfl (fun hc3 => ?_) (fun hc3 => ?_)
      · have hc30 := hc3; have H := bT H hc3
        refine w_seq fun _ hN7 => ?_
        refine w_reg ?_
        refine stp hA (r_ldG Tryd.underlying51 rfl hI.agr (ErV.le (fun _ _ h => h) hi1.le he0) hA) rfl fun a hA => 
          stp hA (r_as hA rfl) rfl fun a hA => ?_
        refine o_nil ?_
        refine hN7 _ _ ?_
        refine w_ret ?_
        obtain rfl := Option.some.inj (bS H)
        exact ret1 hA Tryd.results16 rfl ⟨_, rfl, e0, μ1, rfl, (ErV.le (fun _ _ h => h) hi1.le he0), (hI.sel [] (by decide) rfl)⟩
      · have hc30 := hc3; have hc3 := ft hc3; have H := bF H hc3
        refine w_seq fun _ hN8 => ?_
        refine w_reg ?_
        refine stp hA (r_ldA (j := 0) [] [[.int .u32 x0.Head.Version], av .u8 32 x0.Head.Prev, av .u8 32 x0.Head.Root, [.int .u32 x0.Head.Time], [.int .u32 x0.Head.Work], [.int .u32 x0.Head.Nonce], [u0_0]] [] Tryd.underlying39 rfl sz39 rfl hI rfl hA rfl rfl) rfl fun a hA => ?_
        obtain ⟨r2, hr2, H⟩ := bB H
        refine o_callp (u := .int .i64 r2) cf24 hA rfl hI (block_Size.c μ1 _ hI.agr x0 u0_0 ⟨hx0.1, hx0.2.1, hx0.2.2.1, hx0.2.2.2.1, hx0.2.2.2.2.1, hx0.2.2.2.2.2.1, (Slc.le hx0.2.2.2.2.2.2 (fun _ _ h => RTx.le hi1.le h) hi1.le)⟩ r2 hr2) rfl fun a w hz3 hI hA => 
          stp hA (r_gtr hA rfl rfl) rfl fun a hA => 
          stp hA (r_as hA rfl) rfl fun a hA => ?_
        refine o_nil ?_
        refine hN8 _ _ ?_
        refine w_cond hA rfl (fun hc4 => ?_) (fun hc4 => ?_)
        · have hc40 := hc4; have hc4 := of_decide_eq_true hc4; have H := bT H hc4
          refine w_seq fun _ hN9 => ?_
          refine w_reg ?_
          refine stp hA (r_ldG Tryd.underlying51 rfl hI.agr (ErV.le (fun _ _ h => h) hi1.le he1) hA) rfl fun a hA => 
            stp hA (r_as hA rfl) rfl fun a hA => ?_
          refine o_nil ?_
          refine hN9 _ _ ?_
          refine w_ret ?_
          obtain rfl := Option.some.inj (bS H)
          exact ret1 hA Tryd.results16 rfl ⟨_, rfl, e1, μ1, rfl, (ErV.le (fun _ _ h => h) hi1.le he1), (hI.sel [] (by decide) rfl)⟩
        · have hc40 := hc4; have hc4 := of_decide_eq_false hc4; have H := bF H hc4
          refine w_skip ?_
          refine hN6 _ _ ?_
          refine w_seq fun _ hN10 => ?_
          refine w_seq fun _ hN11 => ?_
          refine w_reg ?_
          refine stp hA (r_ldA (j := 0) [] [[.int .u32 x0.Head.Version], av .u8 32 x0.Head.Prev, av .u8 32 x0.Head.Root, [.int .u32 x0.Head.Time], [.int .u32 x0.Head.Work], [.int .u32 x0.Head.Nonce], [u0_0]] [] Tryd.underlying39 rfl sz39 rfl hI rfl hA rfl rfl) rfl fun a hA => ?_
          obtain ⟨r3, hr3, H⟩ := bB H
          refine o_call _ cf44 hA rfl (block_parts.c μ1 _ hI.agr x0 u0_0 ⟨hx0.1, hx0.2.1, hx0.2.2.1, hx0.2.2.2.1, hx0.2.2.2.2.1, hx0.2.2.2.2.2.1, (Slc.le hx0.2.2.2.2.2.2 (fun _ _ h => RTx.le hi1.le h) hi1.le)⟩ e0 (ErV.le (fun _ _ h => h) hi1.le he0) e1 (ErV.le (fun _ _ h => h) hi1.le he1) e2 (ErV.le (fun _ _ h => h) hi1.le he2) e6 (ErV.le (fun _ _ h => h) hi1.le he6) e7 (ErV.le (fun _ _ h => h) hi1.le he7) e8 (ErV.le (fun _ _ h => h) hi1.le he8) r3 hr3) rfl fun v2 a w hz4 hA => ?_
          obtain ⟨_, μ2, rfl, hS2, hi2⟩ := hz4
          have hI := hI.call hi2
          refine stp hA (r_as hA rfl) rfl fun a hA => ?_
          refine o_nil ?_
          refine hN11 _ _ ?_
          refine w_seq fun _ hN12 => ?_
          refine w_reg ?_
          refine stp hA (r_mv hA rfl) rfl fun a hA => 
            stp hA (r_neE erF hI.agr hS2 erv_nil (.inl ⟨.inr ⟨_, rfl⟩, Er.fitR⟩) hA rfl rfl) rfl fun a hA => ?_
          refine o_nil ?_
          refine hN12 _ _ ?_
          refine w_cond hA rfl (fun hc5 => ?_) (fun hc5 => ?_)
          · have hc50 := hc5; have hc5 := of_decide_eq_true hc5; have H := bT H hc5
            refine w_seq fun _ hN13 => ?_
            refine w_reg ?_
            refine stp hA (r_mv hA rfl) rfl fun a hA => 
              stp hA (r_as hA rfl) rfl fun a hA => ?_
            refine o_nil ?_
            refine hN13 _ _ ?_
            refine w_ret ?_
            obtain rfl := Option.some.inj (bS H)
            exact ret1 hA Tryd.results16 rfl ⟨_, rfl, v2, μ2, rfl, hS2, (hI.sel [] (by decide) rfl)⟩
          · have hc50 := hc5; have hc5 := of_decide_eq_false hc5; have H := bF H hc5
            refine w_skip ?_
            refine hN10 _ _ ?_
            refine w_seq fun _ hN14 => ?_
            refine w_block ?_
            refine w_seq fun _ hN15 => ?_
            refine w_reg ?_
            refine stp hA (r_ldA (j := 0) [] [[.int .u32 x0.Head.Version], av .u8 32 x0.Head.Prev, av .u8 32 x0.Head.Root, [.int .u32 x0.Head.Time], [.int .u32 x0.Head.Work], [.int .u32 x0.Head.Nonce], [u0_0]] [] Tryd.underlying39 rfl sz39 rfl hI rfl hA rfl rfl) rfl fun a hA => ?_
            obtain ⟨r4, hr4, H⟩ := bB H
            refine o_callp (u := .bool r4) cf45 hA rfl hI (block_twice.c μ2 _ hI.agr x0 u0_0 ⟨hx0.1, hx0.2.1, hx0.2.2.1, hx0.2.2.2.1, hx0.2.2.2.2.1, hx0.2.2.2.2.2.1, (Slc.le hx0.2.2.2.2.2.2 (fun _ _ h => RTx.le (hi1.le.trans hi2.le) h) (hi1.le.trans hi2.le))⟩ r4 hr4) rfl fun a w hz5 hI hA => 
              stp hA (r_as hA rfl) rfl fun a hA => ?_
            refine o_nil ?_
            refine hN15 _ _ ?_
            refine w_cond hA rfl (fun hc6 => ?_) (fun hc6 => ?_)
            · have hc60 := hc6; have H := bT H hc6
              refine w_seq fun _ hN16 => ?_
              refine w_reg ?_
              refine stp hA (r_ldG Tryd.underlying51 rfl hI.agr (ErV.le (fun _ _ h => h) (hi1.le.trans hi2.le) he2) hA) rfl fun a hA => 
                stp hA (r_as hA rfl) rfl fun a hA => ?_
              refine o_nil ?_
              refine hN16 _ _ ?_
              refine w_ret ?_
              obtain rfl := Option.some.inj (bS H)
              exact ret1 hA Tryd.results16 rfl ⟨_, rfl, e2, μ2, rfl, (ErV.le (fun _ _ h => h) (hi1.le.trans hi2.le) he2), (hI.sel [] (by decide) rfl)⟩
            · have hc60 := hc6; have hc6 := ft hc6; have H := bF H hc6
              refine w_seq fun _ hN17 => ?_
              refine w_any [] mo hI fun w hI => ?_
              refine g_take (i := 0) hA rfl rfl (by kernel_rfl) hI (fun w hI => r_ldA (j := 0) [] [[.int .u32 x0.Head.Version], av .u8 32 x0.Head.Prev, av .u8 32 x0.Head.Root, [.int .u32 x0.Head.Time], [.int .u32 x0.Head.Work], [.int .u32 x0.Head.Nonce], [u0_0]] [] Tryd.underlying39 rfl sz39 rfl hI rfl hA rfl rfl) rfl fun a hA => ?_
              refine g_easy (i := 2) hA rfl rfl (by kernel_rfl) (.inr hI) (fun _ => r_fd (k := 0) Tryd.underlying39 rfl sz36 hA rfl rfl) rfl fun a hA => ?_
              refine g_easy (i := 3) hA rfl rfl (by kernel_rfl) (.inr hI) (fun _ => r_fd (k := 33) Tryd.underlying36 rfl sz24 hA rfl rfl) rfl fun a hA => ?_
              refine g_take (i := 4) hA rfl rfl (by kernel_rfl) hI (fun w hI => r_ldA (j := 0) [[.int .u32 x0.Head.Version], av .u8 32 x0.Head.Prev] [av .u8 32 x0.Head.Root] [[.int .u32 x0.Head.Time], [.int .u32 x0.Head.Work], [.int .u32 x0.Head.Nonce], [u0_0]] Tryd.underlying24 rfl sz24 rfl hI rfl hA rfl rfl) rfl fun a hA => ?_
              refine g_forced (i := 1) rfl (by kernel_rfl) ?_
              obtain ⟨r5, hr5, H⟩ := bB H
              refine o_callp (u := .agg [av .u8 32 r5].flatten.toArray) cf15 hA rfl hI (block_Root.c μ2 _ hI.agr x0 u0_0 ⟨hx0.1, hx0.2.1, hx0.2.2.1, hx0.2.2.2.1, hx0.2.2.2.2.1, hx0.2.2.2.2.2.1, (Slc.le hx0.2.2.2.2.2.2 (fun _ _ h => RTx.le (hi1.le.trans hi2.le) h) (hi1.le.trans hi2.le))⟩ r5 hr5) rfl fun a w hz6 hI hA => ?_
              refine o_nil ?_
              refine ⟨(.inr hI), ?_⟩
              refine g_easy (i := 5) hA rfl rfl (by kernel_rfl) (.inr hI) (fun _ => r_neS hA rfl rfl eg24 (eqv_arr Tryd.underlying24 Tryd.underlying5 sz5 hz6 hx0.2.2.1)) rfl fun a hA => ?_
              refine g_easy (i := 6) hA rfl rfl (by kernel_rfl) (.inr hI) (fun _ => r_as hA rfl) rfl fun a hA => ?_
              refine g_nil (by kernel_rfl) ?_
              refine hN17 _ _ ?_
              refine w_cond hA rfl (fun hc7 => ?_) (fun hc7 => ?_)
              · have hc70 := hc7; have hc7 := of_decide_eq_true hc7; have H := bT H hc7
                refine w_seq fun _ hN18 => ?_
                refine w_reg ?_
                refine stp hA (r_ldG Tryd.underlying51 rfl hI.agr (ErV.le (fun _ _ h => h) (hi1.le.trans hi2.le) he3) hA) rfl fun a hA => 
                  stp hA (r_as hA rfl) rfl fun a hA => ?_
                refine o_nil ?_
                refine hN18 _ _ ?_
                refine w_ret ?_
                obtain rfl := Option.some.inj (bS H)
                exact ret1 hA Tryd.results16 rfl ⟨_, rfl, e3, μ2, rfl, (ErV.le (fun _ _ h => h) (hi1.le.trans hi2.le) he3), (hI.sel [] (by decide) rfl)⟩
              · have hc70 := hc7; have hc7 := of_decide_eq_false hc7; have H := bF H hc7
                refine w_skip ?_
                refine hN14 _ _ ?_
                refine w_seq fun _ hN19 => ?_
                refine w_reg ?_
                refine stp hA (r_as hA rfl) rfl fun a hA => ?_
                refine o_nil ?_
                refine hN19 _ _ ?_
                refine w_ret ?_
                obtain rfl := Option.some.inj (bS H)
                exact ret1 hA Tryd.results16 rfl ⟨_, rfl, .nilIface, μ2, rfl, erv_nil, (hI.sel [] (by decide) rfl)⟩
set_option maxRecDepth 20000 in
theorem block_ID.c (μ : Store) (w0 : World) (hμ : Agr μ w0) (x0 : Block) (u0_0 : Value) (hx0 : BlockW μ x0 u0_0) (r : List Int) (H : block_ID.f x0 = some r) :
    Calls Tryd.prog 23 [.agg [[.int .u32 x0.Head.Version], av .u8 32 x0.Head.Prev, av .u8 32 x0.Head.Root, [.int .u32 x0.Head.Time], [.int .u32 x0.Head.Work], [.int .u32 x0.Head.Nonce], [u0_0]].flatten.toArray].toArray w0 (fun e w' => ∃ v, e = .returned v ∧ v = .agg [av .u8 32 r].flatten.toArray ∧ Arr .u8 32 r ∧ Iv w0 [] μ μ [] w') := by
  refine enter Tryd.func23 rfl Tryd.ntmps23 rfl fun a hA => ?_
  have hI := Iv.start hμ
  have H := bI H
  refine w_seq fun _ hN1 => ?_
  refine w_reg ?_
  refine o_box [[.int .u32 x0.Head.Version], av .u8 32 x0.Head.Prev, av .u8 32 x0.Head.Root, [.int .u32 x0.Head.Time], [.int .u32 x0.Head.Work], [.int .u32 x0.Head.Nonce], [u0_0]] hI hA rfl rfl rfl fun g1 a w hA hI hg1 => 
    o_new [av .u8 32 (List.replicate 32 0)] zr24 hI hA rfl fun g2 a w hA hI hg2 => ?_
  refine o_nil ?_
  refine hN1 _ _ ?_
  refine w_seq fun _ hN2 => ?_
  refine w_reg ?_
  refine stp hA (r_fd (k := 0) Tryd.underlying39 rfl sz36 hA rfl rfl) rfl fun a hA => 
    stp hA (r_ldA (j := 1) [] [[.int .u32 x0.Head.Version], av .u8 32 x0.Head.Prev, av .u8 32 x0.Head.Root, [.int .u32 x0.Head.Time], [.int .u32 x0.Head.Work], [.int .u32 x0.Head.Nonce]] [[u0_0]] Tryd.underlying36 rfl sz36 rfl hI rfl hA rfl rfl) rfl fun a hA => ?_
  obtain ⟨r1, hr1, H⟩ := bB H
  refine o_callp (u := .agg [av .u8 32 r1].flatten.toArray) cf51 hA rfl hI (head_ID.c μ _ hI.agr x0.Head ⟨hx0.1, hx0.2.1, hx0.2.2.1, hx0.2.2.2.1, hx0.2.2.2.2.1, hx0.2.2.2.2.2.1⟩ r1 hr1) rfl fun a w hz1 hI hA => 
    o_st (j := 0) [] [av .u8 32 (List.replicate 32 0)] [av .u8 32 r1] [] sz24 rfl rfl (fl_cons (one_av _ _ _) fl_nil) hI rfl hA rfl rfl rfl rfl fun w hI => ?_
  refine o_nil ?_
  refine hN2 _ _ ?_
  refine w_ret ?_
  obtain rfl := Option.some.inj (bS H)
  exact retc Tryd.underlying24 rfl sz24 rfl hI (j := 0) rfl hA Tryd.results23 rfl ⟨_, rfl, rfl, hz1, hI.forget0⟩
end Go.Proofs.YtlpggofilkfbnaaDoor.T
namespace Go.Proofs.YtlpggofilkfbnaaDoor.T
open Go Go.Proofs Go.Proofs.YtlpggofilkfbnaaDoor.K
set_option linter.unusedVariables false
set_option linter.unusedSimpArgs false
noncomputable def sargassolaw7_first.f : Option Bool := ((((block_Start.f).bind fun r1 => ((block_Check.f r1).bind fun r2 => (if r2 = (Er.b 0) then ((block_Start.f).bind fun r3 => ((block_IDs.f r3).bind fun r4 => some (decide ((r4.length : Int) = 1)))) else some false)))).bind fun c1 => some c1)
end Go.Proofs.YtlpggofilkfbnaaDoor.T
namespace Go.Proofs.YtlpggofilkfbnaaDoor.T
open Go Go.Proofs Go.Proofs.YtlpggofilkfbnaaDoor.K
set_option linter.unusedVariables false
set_option linter.unusedSimpArgs false
set_option maxRecDepth 20000 in
theorem sargassolaw7_first.c (μ : Store) (w0 : World) (hμ : Agr μ w0) (e0 : Value) (he0 : ErS μ e0 (Er.b 1)) (e1 : Value) (he1 : ErS μ e1 (Er.b 2)) (e2 : Value) (he2 : ErS μ e2 (Er.b 3)) (e3 : Value) (he3 : ErS μ e3 (Er.b 4)) (e5 : Value) (he5 : ErS μ e5 (Er.b 6)) (e6 : Value) (he6 : ErS μ e6 (Er.b 7)) (e7 : Value) (he7 : ErS μ e7 (Er.b 8)) (e8 : Value) (he8 : ErS μ e8 (Er.b 9)) (r : Bool) (H : sargassolaw7_first.f = some r) :
    Calls Tryd.prog 7 [].toArray w0 (fun e w' => ∃ v, e = .returned v ∧ v = .bool r ∧ True ∧ Iv w0 [] μ μ [] w') := by
  refine enter Tryd.func7 rfl Tryd.ntmps7 rfl fun a hA => ?_
  have hI := Iv.start hμ
  have H := bI H
  refine w_seq fun _ hN1 => ?_
  refine w_reg ?_
  refine stp hA (r_as hA rfl) rfl fun a hA => ?_
  refine o_nil ?_
  refine hN1 _ _ ?_
  obtain ⟨c1, hz1, Hk1⟩ := bB H
  refine w_cut (fun a w => ∃ (μ1 : Store), μ.le μ1 ∧ Fr a 10 [(0, .bool c1)] ∧ Iv w0 [] μ μ1 [] w) ?_ ?_
  · have H := bI hz1
    refine w_reg ?_
    obtain ⟨r1, hr1, H⟩ := bB H
    refine o_call _ cf12 hA rfl (block_Start.c μ _ hI.agr  r1 hr1) rfl fun v1 a w hz2 hA => ?_
    obtain ⟨v2, μ2, rfl, hw1, hi1⟩ := hz2
    have hI := hI.call hi1
    obtain ⟨r2, hr2, H⟩ := bB H
    refine o_call _ cf16 hA rfl (block_Check.c μ2 _ hI.agr r1 v2 ⟨hw1.1, hw1.2.1, hw1.2.2.1, hw1.2.2.2.1, hw1.2.2.2.2.1, hw1.2.2.2.2.2.1, hw1.2.2.2.2.2.2⟩ e0 (ErV.le (fun _ _ h => h) hi1.le he0) e1 (ErV.le (fun _ _ h => h) hi1.le he1) e2 (ErV.le (fun _ _ h => h) hi1.le he2) e3 (ErV.le (fun _ _ h => h) hi1.le he3) e5 (ErV.le (fun _ _ h => h) hi1.le he5) e6 (ErV.le (fun _ _ h => h) hi1.le he6) e7 (ErV.le (fun _ _ h => h) hi1.le he7) e8 (ErV.le (fun _ _ h => h) hi1.le he8) r2 hr2) rfl fun v3 a w hz3 hA => ?_
    obtain ⟨_, μ3, rfl, hS1, hi2⟩ := hz3
    have hI := hI.call hi2
    refine stp hA (r_eqE erF hI.agr hS1 erv_nil (.inl ⟨.inr ⟨_, rfl⟩, Er.fitR⟩) hA rfl rfl) rfl fun a hA => 
      stp hA (r_mv hA rfl) rfl fun a hA => ?_
    rcases Bool.eq_false_or_eq_true (decide (r2 = (Er.b 0))) with hc1 | hc1
    · have hc10 := hc1; have hc1 := of_decide_eq_true hc1; have H := bT H hc1
      refine o_yes hA rfl rfl hc10 <| ?_
      obtain ⟨r3, hr3, H⟩ := bB H
      refine o_call _ cf12 hA rfl (block_Start.c μ3 _ hI.agr  r3 hr3) rfl fun v4 a w hz4 hA => ?_
      obtain ⟨v5, μ4, rfl, hw2, hi3⟩ := hz4
      have hI := hI.call hi3
      refine o_yes hA rfl rfl hc10 <| ?_
      obtain ⟨r4, hr4, H⟩ := bB H
      refine o_call _ cf29 hA rfl (block_IDs.c μ4 _ hI.agr r3 v5 ⟨hw2.1, hw2.2.1, hw2.2.2.1, hw2.2.2.2.1, hw2.2.2.2.2.1, hw2.2.2.2.2.2.1, hw2.2.2.2.2.2.2⟩ r4 hr4) rfl fun v6 a w hz5 hA => ?_
      obtain ⟨_, cs1, rfl, hE1, hi4⟩ := hz5
      have hI := hI.call hi4
      refine o_yes hA rfl rfl hc10 <| ?_
      have hlen1 := Iv.row_in hI (j := 0) rfl
      refine stp hA (r_rlen (xs := 0) Tryd.underlying71 hI (j := 0) rfl hA rfl) rfl fun a hA => 
        o_yes hA rfl rfl hc10 <| 
        stp hA (r_eql hA rfl rfl) rfl fun a hA => 
        stp hA (r_pick_t hA rfl hc10 rfl) rfl fun a hA => 
        stp hA (r_as hA rfl) rfl fun a hA => ?_
      refine o_nil ?_
      cases Option.some.inj (bS H)
      exact ⟨μ4, ((hi1.le.trans hi2.le).trans hi3.le), hA.sub ⟨rfl, trivial⟩, (hI.sel [] (by decide) rfl)⟩
    · have hc10 := hc1; have hc1 := of_decide_eq_false hc1; have H := bF H hc1
      refine o_no hA rfl rfl (by rw [hc10]; simp [vb]) rfl fun a hA => 
        o_no hA rfl rfl (by rw [hc10]; simp [vb]) rfl fun a hA => 
        o_no hA rfl rfl (by rw [hc10]; simp [vb]) rfl fun a hA => 
        o_no hA rfl rfl (by rw [hc10]; simp [vb]) rfl fun a hA => 
        stp hA (r_pick_f hA rfl hc10 rfl) rfl fun a hA => 
        stp hA (r_as hA rfl) rfl fun a hA => ?_
      refine o_nil ?_
      cases Option.some.inj (bS H)
      exact ⟨μ3, (hi1.le.trans hi2.le), hA.sub ⟨rfl, trivial⟩, hI⟩
  · rintro a w ⟨μ1, hle1, hA, hI⟩
    have H := Hk1
    refine w_ret ?_
    obtain rfl := Option.some.inj (bS H)
    exact ret1 hA Tryd.results7 rfl ⟨_, rfl, rfl, trivial, hI.forget0⟩
end Go.Proofs.YtlpggofilkfbnaaDoor.T
namespace Go.Proofs.YtlpggofilkfbnaaDoor.T
open Go Go.Proofs Go.Proofs.YtlpggofilkfbnaaDoor.K
set_option linter.unusedVariables false
set_option linter.unusedSimpArgs false
noncomputable def sargassolaw7_BlockStart.f (x0 : Int) (x1 : List Int) : Option Bool := ((sargassolaw7_first.f).bind fun r1 => (if r1 = true then (if 70 < (x1.length : Int) then some r1 else ((sargassoworld_Number.f x0 1048576).bind fun r2 => ((block_First.f r2 9 ([3, 0, 0, 0, 0, 0, 0, 0, 0, 0, 0, 0, 0, 0, 0, 0, 0, 0, 0, 0, 0, 0, 0, 0, 0, 0, 0, 0, 0, 0, 0, 0]) x1).bind fun r3 => ((block_Start.f).bind fun r4 => (((if (r3.Ins.length : Int) ≠ 1 then some true else (if (r3.Outs.length : Int) ≠ 1 then some true else (if 0 < (r3.Ins.length : Int) then (if (((r3.Ins.getD (0 : Int).toNat default).Key).length : Int) ≠ (IntKind.i64.wrap (4 + (x1.length : Int))) then some true else some (decide ((r4.Txs.length : Int) ≠ 1))) else none)))).bind fun c1 => (if c1 = true then some false else (if 0 < (r3.Ins.length : Int) then (if 0 < (((r3.Ins.getD (0 : Int).toNat default).Key).length : Int) then (if 1 < (((r3.Ins.getD (0 : Int).toNat default).Key).length : Int) then (if 2 < (((r3.Ins.getD (0 : Int).toNat default).Key).length : Int) then (if 3 < (((r3.Ins.getD (0 : Int).toNat default).Key).length : Int) then (((if r1 = true then (if (bOr .i64 (bOr .i64 (bOr .i64 (IntKind.i64.wrap (((r3.Ins.getD (0 : Int).toNat default).Key).getD (0 : Int).toNat 0)) (sL .i64 (IntKind.i64.wrap (((r3.Ins.getD (0 : Int).toNat default).Key).getD (1 : Int).toNat 0)) 8)) (sL .i64 (IntKind.i64.wrap (((r3.Ins.getD (0 : Int).toNat default).Key).getD (2 : Int).toNat 0)) 16)) (sL .i64 (IntKind.i64.wrap (((r3.Ins.getD (0 : Int).toNat default).Key).getD (3 : Int).toNat 0)) 24)) = r2 then (if 0 ≤ 4 ∧ 4 ≤ (((r3.Ins.getD (0 : Int).toNat default).Key).length : Int) then ((sargassoref_SameBytes.f ((((r3.Ins.getD (0 : Int).toNat default).Key).take ((((r3.Ins.getD (0 : Int).toNat default).Key).length : Int)).toNat).drop (4 : Int).toNat) x1).bind fun r5 => (if r5 = true then (if 0 < (r3.Outs.length : Int) then (if ((r3.Outs.getD (0 : Int).toNat default).Value) = 9 then ((sargassoref1_Base.f r3).bind fun r6 => (if r6 = true then ((block_Check.f r4).bind fun r7 => (if r7 = (Er.b 0) then ((block_ID.f r4).bind fun r8 => ((block_Start.f).bind fun r9 => ((block_ID.f r9).bind fun r10 => ((sargassoref_SameHash.f r8 r10).bind fun r11 => (if r11 = true then (if r4.Head.Time = 1000 then ((block_Size.f r4).bind fun r12 => ((block_Bytes.f r4).bind fun r13 => some (decide (r12 = (r13.length : Int))))) else some false) else some false))))) else some false)) else some false)) else some false) else none) else some false)) else none) else some false) else some false)).bind fun c2 => some c2) else none) else none) else none) else none) else none))))))) else some false))
end Go.Proofs.YtlpggofilkfbnaaDoor.T
