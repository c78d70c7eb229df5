/- Proved: the statement TxSays, as given (its conditions are those of the given row, and card where there is one; no others): the call ends, with true, and the input reads as it did. This file is one of its parts. -/
import Derived.Test.YtpeelghbhihgkaaDoorPTxSays3
namespace Go.Proofs.YtpeelghbhihgkaaDoor.T
open Go Go.Proofs Go.Proofs.YtpeelghbhihgkaaDoor.K
set_option linter.unusedVariables false
set_option linter.unusedSimpArgs false
set_option maxRecDepth 20000 in
theorem tx_Bytes.c (μ : Store) (w0 : World) (hμ : Agr μ w0) (x0 : Tx) (u0_0 : Value) (u0_1 : Value) (hx0 : TxW μ x0 u0_0 u0_1) (r : List Int) (H : tx_Bytes.f x0 = some r) :
    Calls Tryd.prog 51 [.agg [[.int .u32 x0.Version], [u0_0], [u0_1], [.int .u32 x0.Time]].flatten.toArray].toArray w0 (fun e w' => ∃ v, e = .returned v ∧ ∃ (v0 : Value) (c0 : List Value), v = v0 ∧ Els (RI .u8) 1 r c0 ∧ Iv w0 [] μ μ [row 5 1 v0 r.length c0] w') := by
  refine enter Tryd.func51 rfl Tryd.ntmps51 rfl fun a hA => ?_
  have hI := Iv.start hμ
  have H := bI H
  refine w_seq fun _ hN1 => ?_
  refine w_reg ?_
  refine o_box [[.int .u32 x0.Version], [u0_0], [u0_1], [.int .u32 x0.Time]] hI hA rfl rfl rfl fun g1 a w hA hI hg1 => 
    stp hA (r_as hA rfl) rfl fun a hA => ?_
  refine o_nil ?_
  refine hN1 _ _ ?_
  refine w_seq fun _ hN2 => ?_
  refine w_reg ?_
  refine stp hA (r_fd (k := 0) Tryd.underlying68 rfl sz39 hA rfl rfl) rfl fun a hA => 
    stp hA (r_ld1 (j := 0) [] [[u0_0], [u0_1], [.int .u32 x0.Time]] Tryd.underlying39 rfl hI rfl hA rfl rfl) rfl fun a hA => ?_
  obtain ⟨r1, hr1, H⟩ := bB H
  refine o_call _ cf32 hA rfl (compact_Four.c μ _ hI.agr ([]) (.slice none 0 0) (slc_nil _ _ _) x0.Version hx0.1 r1 hr1) rfl fun v1 a w hz1 hA => ?_
  obtain ⟨_, cs1, rfl, hE1, hi1⟩ := hz1
  have hI := hI.call hi1
  refine stp hA (r_as hA rfl) rfl fun a hA => ?_
  refine o_nil ?_
  refine hN2 _ _ ?_
  refine w_seq fun _ hN3 => ?_
  refine w_reg ?_
  refine stp hA (r_mv hA rfl) rfl fun a hA => 
    stp hA (r_fd (k := 1) Tryd.underlying68 rfl sz63 hA rfl rfl) rfl fun a hA => 
    stp hA (r_ld1 (j := 1) [[.int .u32 x0.Version]] [[u0_1], [.int .u32 x0.Time]] Tryd.underlying63 rfl hI rfl hA rfl rfl) rfl fun a hA => ?_
  obtain ⟨_, hsl1⟩ := Slc.sv hx0.2.1
  refine stp hA (r_slen Tryd.underlying63 hsl1 hA rfl) rfl fun a hA => 
    stp hA (r_conv Tryd.underlying3 Tryd.underlying22 hA rfl) rfl fun a hA => ?_
  obtain ⟨r2, hr2, H⟩ := bB H
  refine o_call (fun v w' => ∃ (v0 : Value) (c0 : List Value), v = v0 ∧ Els (RI .u8) 1 r2 c0 ∧ Iv w [] μ μ [row 5 1 v0 r2.length c0] w') cf23 hA rfl ((by obtain ⟨μ1, hle1, hsv1, hI⟩ := hI.freezeRow 0 rfl; have hS1 : Slc (RI .u8) 1 μ1 v1 r1 := ⟨_, hE1, hsv1⟩; exact (compact_Put.c μ1 _ hI.agr r1 v1 hS1 (IntKind.u64.wrap (x0.Ins.length : Int)) (wrap_in _ _) r2 hr2).mono fun _ _ ⟨v, he, b0, b1, hv, f0, hi⟩ => ⟨v, he, b0, b1, hv, f0, hi.low hle1⟩)) rfl fun v2 a w hz2 hA => ?_
  obtain ⟨_, cs2, rfl, hE2, hi2⟩ := hz2
  have hI := hI.call hi2
  refine stp hA (r_as hA rfl) rfl fun a hA => ?_
  refine o_nil ?_
  refine hN3 _ _ ?_
  obtain ⟨c1, hz3, Hk1⟩ := bB H
  refine w_cut (fun a w => ∃ (vvc1 : Value) (ccc1 : List Value), Els (RI .u8) 1 c1 ccc1 ∧ Fr a 72 [(0, .agg [[.int .u32 x0.Version], [u0_0], [u0_1], [.int .u32 x0.Time]].flatten.toArray), (1, .pointer (some ⟨g1, 0, none⟩)), (2, (.slice none 0 0)), (3, vvc1)] ∧ Iv w0 [] μ μ [row 5 1 vvc1 c1.length ccc1, row 5 1 v1 r1.length cs1, cel g1 [[.int .u32 x0.Version], [u0_0], [u0_1], [.int .u32 x0.Time]] 68] w) ?_ ?_
  · have H := bI hz3
    refine w_seq fun _ hN4 => ?_
    refine w_reg ?_
    refine stp hA (r_fd (k := 1) Tryd.underlying68 rfl sz63 hA rfl rfl) rfl fun a hA => 
      stp hA (r_ld1 (j := 2) [[.int .u32 x0.Version]] [[u0_1], [.int .u32 x0.Time]] Tryd.underlying63 rfl hI rfl hA rfl rfl) rfl fun a hA => ?_
    obtain ⟨_, hsl2⟩ := Slc.sv hx0.2.1
    refine stp hA (r_slen Tryd.underlying63 hsl2 hA rfl) rfl fun a hA => 
      stp hA (r_mv hA rfl) rfl fun a hA => ?_
    refine o_nil ?_
    refine hN4 _ _ ?_
    refine w_block ?_
    obtain ⟨z1, hz4, Hk2⟩ := bind_some H
    obtain ⟨n1, hn1⟩ := loopO_some hz4
    refine w_loop (fun n a w => ∃ (s1 : List Int) (s2 : Int) (vvs1 : Value) (ccs1 : List Value), loopN (tx_Bytes.s0 x0) n (s1, s2) = some z1 ∧ Els (RI .u8) 1 s1 ccs1 ∧ InR .i64 s2 ∧ Fr a 72 [(0, .agg [[.int .u32 x0.Version], [u0_0], [u0_1], [.int .u32 x0.Time]].flatten.toArray), (1, .pointer (some ⟨g1, 0, none⟩)), (2, (.slice none 0 0)), (3, vvs1), (18, u0_0), (19, .int .i64 (x0.Ins.length : Int)), (20, .int .i64 s2)] ∧ Iv w0 [] μ μ [row 5 1 vvs1 s1.length ccs1, row 5 1 v1 r1.length cs1, cel g1 [[.int .u32 x0.Version], [u0_0], [u0_1], [.int .u32 x0.Time]] 68] w) n1 ⟨r2, 0, v2, cs2, hn1, hE2, (in_lit .i64 0 rfl), hA.sub ⟨rfl, rfl, rfl, rfl, rfl, rfl, rfl, trivial⟩, hI⟩ ?_
    clear hA hI
    rintro n a w ⟨s1, s2, vvs1, ccs1, hn1, ws1, ws2, hA, hI⟩
    obtain ⟨m1, rfl, H⟩ := loopN_bind hn1
    clear hn1
    refine w_seq fun _ hN5 => ?_
    refine w_reg ?_
    refine stp hA (r_lss hA rfl rfl) rfl fun a hA => ?_
    refine o_nil ?_
    refine hN5 _ _ ?_
    refine w_seq fun _ hN6 => ?_
    refine w_cond hA rfl (fun hc1 => ?_) (fun hc1 => ?_)
    · have hc10 := hc1; have hc1 := of_decide_eq_true hc1; have H := bT H hc1
      refine w_skip ?_
      refine hN6 _ _ ?_
      refine w_seq fun _ hN7 => ?_
      refine w_block ?_
      refine w_seq fun _ hN8 => ?_
      refine w_reg ?_
      obtain ⟨hb1, H⟩ := bG H
      obtain ⟨_, he1, _, hat1⟩ := Slc.elem hx0.2.1 (getD_some default hb1.1 hb1.2)
      obtain ⟨v3, rfl, hw1⟩ := he1
      obtain ⟨_, hsl3⟩ := Slc.sv hx0.2.1
      refine stp hA (r_six Tryd.underlying63 sz62 hsl3 hA rfl rfl hb1.1 hb1.2) rfl fun a hA => 
        stp hA (r_ldmA [] [av .u8 32 ((x0.Ins.getD s2.toNat default).From.Tx), [.int .u32 ((x0.Ins.getD s2.toNat default).From.N)], [v3], [.int .u32 ((x0.Ins.getD s2.toNat default).Seq)]] [] Tryd.underlying62 rfl sz62 rfl hI.agr hat1 hA rfl rfl) rfl fun a hA => 
        o_new [av .u8 32 (List.replicate 32 0), [.int .u32 0], [(.slice none 0 0)], [.int .u32 0]] zr62 hI hA rfl fun g2 a w hA hI hg2 => ?_
      obtain ⟨_, hsl4⟩ := Slc.sv hw1.2.2.1
      refine o_st (j := 0) [] [av .u8 32 (List.replicate 32 0), [.int .u32 0], [(.slice none 0 0)], [.int .u32 0]] [av .u8 32 ((x0.Ins.getD s2.toNat default).From.Tx), [.int .u32 ((x0.Ins.getD s2.toNat default).From.N)], [v3], [.int .u32 ((x0.Ins.getD s2.toNat default).Seq)]] [] sz62 rfl rfl (fl_cons (one_av _ _ _) (fl_cons (one_one rfl) (fl_cons (one_one (one_sl hsl4)) (fl_cons (one_one rfl) fl_nil)))) hI rfl hA rfl rfl rfl rfl fun w hI => ?_
      refine o_nil ?_
      refine hN8 _ _ ?_
      refine w_seq fun _ hN9 => ?_
      refine w_anyS [] mo (fun w (h : Iv w0 [] μ μ [cel g2 [av .u8 32 ((x0.Ins.getD s2.toNat default).From.Tx), [.int .u32 ((x0.Ins.getD s2.toNat default).From.N)], [v3], [.int .u32 ((x0.Ins.getD s2.toNat default).Seq)]] 62, row 5 1 vvs1 s1.length ccs1, row 5 1 v1 r1.length cs1, cel g1 [[.int .u32 x0.Version], [u0_0], [u0_1], [.int .u32 x0.Time]] 68] w) => (h.sel [0, 2, 3] (by decide) rfl : Iv w0 [] μ μ [cel g2 [av .u8 32 ((x0.Ins.getD s2.toNat default).From.Tx), [.int .u32 ((x0.Ins.getD s2.toNat default).From.N)], [v3], [.int .u32 ((x0.Ins.getD s2.toNat default).Seq)]] 62, row 5 1 v1 r1.length cs1, cel g1 [[.int .u32 x0.Version], [u0_0], [u0_1], [.int .u32 x0.Time]] 68] w)) hI fun w hI => ?_
      refine g_easy (i := 0) hA rfl rfl (by kernel_rfl) (.inr (hI.sel [0, 2, 3] (by decide) rfl)) (fun _ => r_mv hA rfl) rfl fun a hA => ?_
      refine g_easy (i := 1) hA rfl rfl (by kernel_rfl) (.inr (hI.sel [0, 2, 3] (by decide) rfl)) (fun _ => r_fd (k := 0) Tryd.underlying62 rfl sz60 hA rfl rfl) rfl fun a hA => ?_
      refine g_easy (i := 2) hA rfl rfl (by kernel_rfl) (.inr (hI.sel [0, 2, 3] (by decide) rfl)) (fun _ => r_fd (k := 0) Tryd.underlying60 rfl sz55 hA rfl rfl) rfl fun a hA => ?_
      refine g_easy (i := 3) hA rfl rfl (by kernel_rfl) (.inr (hI.sel [0, 2, 3] (by decide) rfl)) (fun _ => r_slv (i := 0) (j := 32) Tryd.underlying55 sz5 hA rfl rfl rfl (by decide) (by decide) (by decide) (by decide) rfl) rfl fun a hA => ?_
      refine g_easy (i := 5) hA rfl rfl (by kernel_rfl) (.inr (hI.sel [0, 2, 3] (by decide) rfl)) (fun _ => r_fd (k := 0) Tryd.underlying62 rfl sz60 hA rfl rfl) rfl fun a hA => ?_
      refine g_easy (i := 6) hA rfl rfl (by kernel_rfl) (.inr (hI.sel [0, 2, 3] (by decide) rfl)) (fun _ => r_fd (k := 32) Tryd.underlying60 rfl sz39 hA rfl rfl) rfl fun a hA => ?_
      refine g_take (i := 7) hA rfl rfl (by kernel_rfl) (hI.sel [0, 2, 3] (by decide) rfl) (fun w hI => r_ld1 (j := 0) [av .u8 32 ((x0.Ins.getD s2.toNat default).From.Tx)] [[v3], [.int .u32 ((x0.Ins.getD s2.toNat default).Seq)]] Tryd.underlying39 rfl hI rfl hA rfl rfl) rfl fun a hA => ?_
      refine g_forced (i := 4) rfl (by kernel_rfl) ?_
      have hE3 := els_av hw1.1
      obtain ⟨hb2, H⟩ := bG H
      have hE4 := ws1.app hE3
      refine o_appL (xs := (s1 : List Int)) (ys := ((x0.Ins.getD s2.toNat default).From.Tx : List Int)) (j := 1) te5 Tryd.underlying23 hI rfl hA rfl rfl (by simpa using src_cel [] [[.int .u32 ((x0.Ins.getD s2.toNat default).From.N)], [v3], [.int .u32 ((x0.Ins.getD s2.toNat default).Seq)]] hI (j := 0) rfl hw1.1 rfl) hE3.len (hE3.ones (one_RI _)) (by first | decide | (have hq := hb2; (try simp only [List.length_cons, List.length_nil] at hq); (try simp only [List.length_cons, List.length_nil]); (try simp only [maxLen]); omega)) (by first | decide | (have hq := hb2; (try simp only [List.length_cons, List.length_nil] at hq); (try simp only [List.length_cons, List.length_nil]); (try simp only [maxLen]); omega)) rfl fun v4 a w hA hI => ?_
      refine o_nil ?_
      refine ⟨(.inr (hI.sel [0, 2, 3] (by decide) rfl)), ?_⟩
      refine g_forced (i := 8) rfl (by kernel_rfl) ?_
      obtain ⟨r3, hr3, H⟩ := bB H
      refine o_call (fun v w' => ∃ (v0 : Value) (c0 : List Value), v = v0 ∧ Els (RI .u8) 1 r3 c0 ∧ Iv w [] μ μ [row 5 1 v0 r3.length c0] w') cf32 hA rfl ((by obtain ⟨μ2, hle2, hsv3, hI⟩ := hI.freezeRow 1 rfl; have hS2 : Slc (RI .u8) 1 μ2 v4 (s1 ++ ((x0.Ins.getD s2.toNat default).From.Tx)) := ⟨_, hE4, hsv3⟩; exact (compact_Four.c μ2 _ hI.agr (s1 ++ ((x0.Ins.getD s2.toNat default).From.Tx)) v4 hS2 ((x0.Ins.getD s2.toNat default).From.N) hw1.2.1 r3 hr3).mono fun _ _ ⟨v, he, b0, b1, hv, f0, hi⟩ => ⟨v, he, b0, b1, hv, f0, hi.low hle2⟩)) rfl fun v5 a w hz5 hA => ?_
      obtain ⟨_, cs5, rfl, hE5, hi3⟩ := hz5
      have hI := hI.call hi3
      refine o_nil ?_
      refine ⟨(.inr (hI.sel [1, 3, 4] (by decide) rfl)), ?_⟩
      refine g_easy (i := 9) hA rfl rfl (by kernel_rfl) (.inr (hI.sel [1, 3, 4] (by decide) rfl)) (fun _ => r_as hA rfl) rfl fun a hA => ?_
      refine g_nil (by kernel_rfl) ?_
      refine hN9 _ _ ?_
      refine w_seq fun _ hN10 => ?_
      refine w_anyS [] mo (fun w (h : Iv w0 [] μ μ [row 5 1 v5 r3.length cs5, cel g2 [av .u8 32 ((x0.Ins.getD s2.toNat default).From.Tx), [.int .u32 ((x0.Ins.getD s2.toNat default).From.N)], [v3], [.int .u32 ((x0.Ins.getD s2.toNat default).Seq)]] 62, row 5 1 v4 (s1 ++ ((x0.Ins.getD s2.toNat default).From.Tx)).length (ccs1 ++ ([av .u8 32 ((x0.Ins.getD s2.toNat default).From.Tx)].flatten)), row 5 1 v1 r1.length cs1, cel g1 [[.int .u32 x0.Version], [u0_0], [u0_1], [.int .u32 x0.Time]] 68] w) => (h.sel [0, 1, 2, 3, 4] (by decide) rfl : Iv w0 [] μ μ [row 5 1 v5 r3.length cs5, cel g2 [av .u8 32 ((x0.Ins.getD s2.toNat default).From.Tx), [.int .u32 ((x0.Ins.getD s2.toNat default).From.N)], [v3], [.int .u32 ((x0.Ins.getD s2.toNat default).Seq)]] 62, row 5 1 v4 (s1 ++ ((x0.Ins.getD s2.toNat default).From.Tx)).length (ccs1 ++ ([av .u8 32 ((x0.Ins.getD s2.toNat default).From.Tx)].flatten)), row 5 1 v1 r1.length cs1, cel g1 [[.int .u32 x0.Version], [u0_0], [u0_1], [.int .u32 x0.Time]] 68] w)) hI fun w hI => ?_
      refine g_easy (i := 0) hA rfl rfl (by kernel_rfl) (.inr hI) (fun _ => r_mv hA rfl) rfl fun a hA => ?_
      refine g_easy (i := 1) hA rfl rfl (by kernel_rfl) (.inr hI) (fun _ => r_fd (k := 33) Tryd.underlying62 rfl sz23 hA rfl rfl) rfl fun a hA => ?_
      refine g_take (i := 2) hA rfl rfl (by kernel_rfl) hI (fun w hI => r_ld1 (j := 1) [av .u8 32 ((x0.Ins.getD s2.toNat default).From.Tx), [.int .u32 ((x0.Ins.getD s2.toNat default).From.N)]] [[.int .u32 ((x0.Ins.getD s2.toNat default).Seq)]] Tryd.underlying23 rfl hI rfl hA rfl rfl) rfl fun a hA => ?_
      obtain ⟨_, hsl5⟩ := Slc.sv hw1.2.2.1
      refine g_easy (i := 3) hA rfl rfl (by kernel_rfl) (.inr hI) (fun _ => r_slen Tryd.underlying23 hsl5 hA rfl) rfl fun a hA => ?_
      refine g_easy (i := 4) hA rfl rfl (by kernel_rfl) (.inr hI) (fun _ => r_conv Tryd.underlying3 Tryd.underlying22 hA rfl) rfl fun a hA => ?_
      refine g_easy (i := 6) hA rfl rfl (by kernel_rfl) (.inr hI) (fun _ => r_fd (k := 33) Tryd.underlying62 rfl sz23 hA rfl rfl) rfl fun a hA => ?_
      refine g_take (i := 7) hA rfl rfl (by kernel_rfl) hI (fun w hI => r_ld1 (j := 1) [av .u8 32 ((x0.Ins.getD s2.toNat default).From.Tx), [.int .u32 ((x0.Ins.getD s2.toNat default).From.N)]] [[.int .u32 ((x0.Ins.getD s2.toNat default).Seq)]] Tryd.underlying23 rfl hI rfl hA rfl rfl) rfl fun a hA => ?_
      refine g_forced (i := 5) rfl (by kernel_rfl) ?_
      obtain ⟨r4, hr4, H⟩ := bB H
      refine o_call (fun v w' => ∃ (v0 : Value) (c0 : List Value), v = v0 ∧ Els (RI .u8) 1 r4 c0 ∧ Iv w [] μ μ [row 5 1 v0 r4.length c0] w') cf23 hA rfl ((by obtain ⟨μ3, hle3, hsv4, hI⟩ := hI.freezeRow 0 rfl; have hS3 : Slc (RI .u8) 1 μ3 v5 r3 := ⟨_, hE5, hsv4⟩; exact (compact_Put.c μ3 _ hI.agr r3 v5 hS3 (IntKind.u64.wrap (((x0.Ins.getD s2.toNat default).Key).length : Int)) (wrap_in _ _) r4 hr4).mono fun _ _ ⟨v, he, b0, b1, hv, f0, hi⟩ => ⟨v, he, b0, b1, hv, f0, hi.low hle3⟩)) rfl fun v6 a w hz6 hA => ?_
      obtain ⟨_, cs6, rfl, hE6, hi4⟩ := hz6
      have hI := hI.call hi4
      refine o_nil ?_
      refine ⟨(.inr (hI.sel [1, 2, 3, 4, 5] (by decide) rfl)), ?_⟩
      refine g_forced (i := 8) rfl (by kernel_rfl) ?_
      obtain ⟨cs7, hE7, hsv5⟩ : Slc (RI .u8) 1 μ v3 ((x0.Ins.getD s2.toNat default).Key) := id (hw1.2.2.1)
      obtain ⟨hb3, H⟩ := bG H
      have hE8 := hE6.app hE7
      refine o_appL (xs := (r4 : List Int)) (ys := ((x0.Ins.getD s2.toNat default).Key : List Int)) (j := 0) te5 Tryd.underlying23 hI rfl hA rfl rfl (src_sl hI.agr hsv5 hE7.len) hE7.len (hE7.ones (one_RI _)) (by first | decide | (have hq := hb3; (try simp only [List.length_cons, List.length_nil] at hq); (try simp only [List.length_cons, List.length_nil]); (try simp only [maxLen]); omega)) (by first | decide | (have hq := hb3; (try simp only [List.length_cons, List.length_nil] at hq); (try simp only [List.length_cons, List.length_nil]); (try simp only [maxLen]); omega)) rfl fun v7 a w hA hI => ?_
      refine o_nil ?_
      refine ⟨(.inr (hI.sel [1, 2, 3, 4, 5] (by decide) rfl)), ?_⟩
      refine g_easy (i := 9) hA rfl rfl (by kernel_rfl) (.inr (hI.sel [1, 2, 3, 4, 5] (by decide) rfl)) (fun _ => r_as hA rfl) rfl fun a hA => ?_
      refine g_nil (by kernel_rfl) ?_
      refine hN10 _ _ ?_
      refine w_reg ?_
      refine stp hA (r_mv hA rfl) rfl fun a hA => 
        stp hA (r_fd (k := 34) Tryd.underlying62 rfl sz39 hA rfl rfl) rfl fun a hA => 
        stp hA (r_ld1 (j := 2) [av .u8 32 ((x0.Ins.getD s2.toNat default).From.Tx), [.int .u32 ((x0.Ins.getD s2.toNat default).From.N)], [v3]] [] Tryd.underlying39 rfl hI rfl hA rfl rfl) rfl fun a hA => ?_
      obtain ⟨r5, hr5, H⟩ := bB H
      refine o_call (fun v w' => ∃ (v0 : Value) (c0 : List Value), v = v0 ∧ Els (RI .u8) 1 r5 c0 ∧ Iv w [] μ μ [row 5 1 v0 r5.length c0] w') cf32 hA rfl ((by obtain ⟨μ4, hle4, hsv6, hI⟩ := hI.freezeRow 0 rfl; have hS4 : Slc (RI .u8) 1 μ4 v7 (r4 ++ ((x0.Ins.getD s2.toNat default).Key)) := ⟨_, hE8, hsv6⟩; exact (compact_Four.c μ4 _ hI.agr (r4 ++ ((x0.Ins.getD s2.toNat default).Key)) v7 hS4 ((x0.Ins.getD s2.toNat default).Seq) hw1.2.2.2 r5 hr5).mono fun _ _ ⟨v, he, b0, b1, hv, f0, hi⟩ => ⟨v, he, b0, b1, hv, f0, hi.low hle4⟩)) rfl fun v8 a w hz7 hA => ?_
      obtain ⟨_, cs9, rfl, hE9, hi5⟩ := hz7
      have hI := hI.call hi5
      refine stp hA (r_as hA rfl) rfl fun a hA => ?_
      refine o_nil ?_
      refine hN7 _ _ ?_
      refine w_reg ?_
      refine stp hA (r_add hA rfl rfl) rfl fun a hA => 
        stp hA (r_mv hA rfl) rfl fun a hA => ?_
      refine o_nil ?_
      exact ⟨m1, Nat.lt_succ_self _, r5, IntKind.i64.wrap (s2 + 1), v8, cs9, H, hE9, (wrap_in _ _), hA.sub ⟨rfl, rfl, rfl, rfl, rfl, rfl, rfl, trivial⟩, (hI.sel [0, 5, 6] (by decide) rfl)⟩
    · have hc10 := hc1; have hc1 := of_decide_eq_false hc1; have H := bF H hc1
      refine w_exit rfl ?_
      have H : some s1 = some z1 := H
      obtain rfl := Option.some.inj H
      have H := Hk2
      cases Option.some.inj (bS H)
      exact ⟨vvs1, ccs1, ws1, hA.sub ⟨rfl, rfl, rfl, rfl, trivial⟩, hI⟩
  · rintro a w ⟨vvc1, ccc1, wc1, hA, hI⟩
    have H := Hk1
    refine w_seq fun _ hN11 => ?_
    refine w_reg ?_
    refine stp hA (r_mv hA rfl) rfl fun a hA => 
      stp hA (r_fd (k := 2) Tryd.underlying68 rfl sz66 hA rfl rfl) rfl fun a hA => 
      stp hA (r_ld1 (j := 2) [[.int .u32 x0.Version], [u0_0]] [[.int .u32 x0.Time]] Tryd.underlying66 rfl hI rfl hA rfl rfl) rfl fun a hA => ?_
    obtain ⟨_, hsl6⟩ := Slc.sv hx0.2.2.1
    refine stp hA (r_slen Tryd.underlying66 hsl6 hA rfl) rfl fun a hA => 
      stp hA (r_conv Tryd.underlying3 Tryd.underlying22 hA rfl) rfl fun a hA => ?_
    obtain ⟨r6, hr6, H⟩ := bB H
    refine o_call (fun v w' => ∃ (v0 : Value) (c0 : List Value), v = v0 ∧ Els (RI .u8) 1 r6 c0 ∧ Iv w [] μ μ [row 5 1 v0 r6.length c0] w') cf23 hA rfl ((by obtain ⟨μ5, hle5, hsv7, hI⟩ := hI.freezeRow 0 rfl; have hS5 : Slc (RI .u8) 1 μ5 vvc1 c1 := ⟨_, wc1, hsv7⟩; exact (compact_Put.c μ5 _ hI.agr c1 vvc1 hS5 (IntKind.u64.wrap (x0.Outs.length : Int)) (wrap_in _ _) r6 hr6).mono fun _ _ ⟨v, he, b0, b1, hv, f0, hi⟩ => ⟨v, he, b0, b1, hv, f0, hi.low hle5⟩)) rfl fun v9 a w hz8 hA => ?_
    obtain ⟨_, cs10, rfl, hE10, hi6⟩ := hz8
    have hI := hI.call hi6
    refine stp hA (r_as hA rfl) rfl fun a hA => ?_
    refine o_nil ?_
    refine hN11 _ _ ?_
    obtain ⟨c2, hz9, Hk3⟩ := bB H
    refine w_cut (fun a w => ∃ (vvc2 : Value) (ccc2 : List Value), Els (RI .u8) 1 c2 ccc2 ∧ Fr a 72 [(0, .agg [[.int .u32 x0.Version], [u0_0], [u0_1], [.int .u32 x0.Time]].flatten.toArray), (1, .pointer (some ⟨g1, 0, none⟩)), (2, (.slice none 0 0)), (3, vvc2)] ∧ Iv w0 [] μ μ [row 5 1 vvc2 c2.length ccc2, row 5 1 vvc1 c1.length ccc1, row 5 1 v1 r1.length cs1, cel g1 [[.int .u32 x0.Version], [u0_0], [u0_1], [.int .u32 x0.Time]] 68] w) ?_ ?_
    · have H := bI hz9
      refine w_seq fun _ hN12 => ?_
      refine w_reg ?_
      refine stp hA (r_fd (k := 2) Tryd.underlying68 rfl sz66 hA rfl rfl) rfl fun a hA => 
        stp hA (r_ld1 (j := 3) [[.int .u32 x0.Version], [u0_0]] [[.int .u32 x0.Time]] Tryd.underlying66 rfl hI rfl hA rfl rfl) rfl fun a hA => ?_
      obtain ⟨_, hsl7⟩ := Slc.sv hx0.2.2.1
      refine stp hA (r_slen Tryd.underlying66 hsl7 hA rfl) rfl fun a hA => 
        stp hA (r_mv hA rfl) rfl fun a hA => ?_
      refine o_nil ?_
      refine hN12 _ _ ?_
      refine w_block ?_
      obtain ⟨z2, hz10, Hk4⟩ := bind_some H
      obtain ⟨n2, hn2⟩ := loopO_some hz10
      refine w_loop (fun n a w => ∃ (s3 : List Int) (s4 : Int) (vvs3 : Value) (ccs3 : List Value), loopN (tx_Bytes.s1 x0) n (s3, s4) = some z2 ∧ Els (RI .u8) 1 s3 ccs3 ∧ InR .i64 s4 ∧ Fr a 72 [(0, .agg [[.int .u32 x0.Version], [u0_0], [u0_1], [.int .u32 x0.Time]].flatten.toArray), (1, .pointer (some ⟨g1, 0, none⟩)), (2, (.slice none 0 0)), (3, vvs3), (54, u0_1), (55, .int .i64 (x0.Outs.length : Int)), (56, .int .i64 s4)] ∧ Iv w0 [] μ μ [row 5 1 vvs3 s3.length ccs3, row 5 1 vvc1 c1.length ccc1, row 5 1 v1 r1.length cs1, cel g1 [[.int .u32 x0.Version], [u0_0], [u0_1], [.int .u32 x0.Time]] 68] w) n2 ⟨r6, 0, v9, cs10, hn2, hE10, (in_lit .i64 0 rfl), hA.sub ⟨rfl, rfl, rfl, rfl, rfl, rfl, rfl, trivial⟩, hI⟩ ?_
      clear hA hI
      rintro n a w ⟨s3, s4, vvs3, ccs3, hn2, ws3, ws4, hA, hI⟩
      obtain ⟨m2, rfl, H⟩ := loopN_bind hn2
      clear hn2
      refine w_seq fun _ hN13 => ?_
      refine w_reg ?_
      refine stp hA (r_lss hA rfl rfl) rfl fun a hA => ?_
      refine o_nil ?_
      refine hN13 _ _ ?_
      refine w_seq fun _ hN14 => ?_
      refine w_cond hA rfl (fun hc2 => ?_) (fun hc2 => ?_)
      · have hc20 := hc2; have hc2 := of_decide_eq_true hc2; have H := bT H hc2
        refine w_skip ?_
        refine hN14 _ _ ?_
        refine w_seq fun _ hN15 => ?_
        refine w_block ?_
        refine w_seq fun _ hN16 => ?_
        refine w_reg ?_
        obtain ⟨hb4, H⟩ := bG H
        obtain ⟨_, he2, _, hat2⟩ := Slc.elem hx0.2.2.1 (getD_some default hb4.1 hb4.2)
        obtain ⟨rfl, hw2⟩ := he2
        obtain ⟨_, hsl8⟩ := Slc.sv hx0.2.2.1
        refine stp hA (r_six Tryd.underlying66 sz65 hsl8 hA rfl rfl hb4.1 hb4.2) rfl fun a hA => 
          stp hA (r_ldmA [] [[.int .u64 ((x0.Outs.getD s4.toNat default).Value)], av .u8 32 ((x0.Outs.getD s4.toNat default).Lock)] [] Tryd.underlying65 rfl sz65 rfl hI.agr hat2 hA rfl rfl) rfl fun a hA => 
          o_new [[.int .u64 0], av .u8 32 (List.replicate 32 0)] zr65 hI hA rfl fun g3 a w hA hI hg3 => 
          o_st (j := 0) [] [[.int .u64 0], av .u8 32 (List.replicate 32 0)] [[.int .u64 ((x0.Outs.getD s4.toNat default).Value)], av .u8 32 ((x0.Outs.getD s4.toNat default).Lock)] [] sz65 rfl rfl (fl_cons (one_one rfl) (fl_cons (one_av _ _ _) fl_nil)) hI rfl hA rfl rfl rfl rfl fun w hI => ?_
        refine o_nil ?_
        refine hN16 _ _ ?_
        refine w_anyS [] mo (fun w (h : Iv w0 [] μ μ [cel g3 [[.int .u64 ((x0.Outs.getD s4.toNat default).Value)], av .u8 32 ((x0.Outs.getD s4.toNat default).Lock)] 65, row 5 1 vvs3 s3.length ccs3, row 5 1 vvc1 c1.length ccc1, row 5 1 v1 r1.length cs1, cel g1 [[.int .u32 x0.Version], [u0_0], [u0_1], [.int .u32 x0.Time]] 68] w) => (h.sel [0, 1, 2, 3, 4] (by decide) rfl : Iv w0 [] μ μ [cel g3 [[.int .u64 ((x0.Outs.getD s4.toNat default).Value)], av .u8 32 ((x0.Outs.getD s4.toNat default).Lock)] 65, row 5 1 vvs3 s3.length ccs3, row 5 1 vvc1 c1.length ccc1, row 5 1 v1 r1.length cs1, cel g1 [[.int .u32 x0.Version], [u0_0], [u0_1], [.int .u32 x0.Time]] 68] w)) hI fun w hI => ?_
        refine g_easy (i := 0) hA rfl rfl (by kernel_rfl) (.inr hI) (fun _ => r_mv hA rfl) rfl fun a hA => ?_
        refine g_easy (i := 1) hA rfl rfl (by kernel_rfl) (.inr hI) (fun _ => r_fd (k := 0) Tryd.underlying65 rfl sz22 hA rfl rfl) rfl fun a hA => ?_
        refine g_take (i := 2) hA rfl rfl (by kernel_rfl) hI (fun w hI => r_ld1 (j := 0) [] [av .u8 32 ((x0.Outs.getD s4.toNat default).Lock)] Tryd.underlying22 rfl hI rfl hA rfl rfl) rfl fun a hA => ?_
        refine g_easy (i := 4) hA rfl rfl (by kernel_rfl) (.inr hI) (fun _ => r_fd (k := 1) Tryd.underlying65 rfl sz55 hA rfl rfl) rfl fun a hA => ?_
        refine g_easy (i := 5) hA rfl rfl (by kernel_rfl) (.inr hI) (fun _ => r_slv (i := 0) (j := 32) Tryd.underlying55 sz5 hA rfl rfl rfl (by decide) (by decide) (by decide) (by decide) rfl) rfl fun a hA => ?_
        refine g_forced (i := 3) rfl (by kernel_rfl) ?_
        obtain ⟨r7, hr7, H⟩ := bB H
        refine o_call (fun v w' => ∃ (v0 : Value) (c0 : List Value), v = v0 ∧ Els (RI .u8) 1 r7 c0 ∧ Iv w [] μ μ [row 5 1 v0 r7.length c0] w') cf33 hA rfl ((by obtain ⟨μ6, hle6, hsv8, hI⟩ := hI.freezeRow 1 rfl; have hS6 : Slc (RI .u8) 1 μ6 vvs3 s3 := ⟨_, ws3, hsv8⟩; exact (compact_Eight.c μ6 _ hI.agr s3 vvs3 hS6 ((x0.Outs.getD s4.toNat default).Value) hw2.1 r7 hr7).mono fun _ _ ⟨v, he, b0, b1, hv, f0, hi⟩ => ⟨v, he, b0, b1, hv, f0, hi.low hle6⟩)) rfl fun v10 a w hz11 hA => ?_
        obtain ⟨_, cs11, rfl, hE11, hi7⟩ := hz11
        have hI := hI.call hi7
        refine o_nil ?_
        refine ⟨(.inr (hI.sel [1, 2, 3, 4, 5] (by decide) rfl)), ?_⟩
        refine g_forced (i := 6) rfl (by kernel_rfl) ?_
        have hE12 := els_av hw2.2
        obtain ⟨hb5, H⟩ := bG H
        have hE13 := hE11.app hE12
        refine o_appL (xs := (r7 : List Int)) (ys := ((x0.Outs.getD s4.toNat default).Lock : List Int)) (j := 0) te5 Tryd.underlying23 hI rfl hA rfl rfl (by simpa using src_cel [[.int .u64 ((x0.Outs.getD s4.toNat default).Value)]] [] hI (j := 1) rfl hw2.2 rfl) hE12.len (hE12.ones (one_RI _)) (by first | decide | (have hq := hb5; (try simp only [List.length_cons, List.length_nil] at hq); (try simp only [List.length_cons, List.length_nil]); (try simp only [maxLen]); omega)) (by first | decide | (have hq := hb5; (try simp only [List.length_cons, List.length_nil] at hq); (try simp only [List.length_cons, List.length_nil]); (try simp only [maxLen]); omega)) rfl fun v11 a w hA hI => ?_
        refine o_nil ?_
        refine ⟨(.inr (hI.sel [1, 2, 3, 4, 5] (by decide) rfl)), ?_⟩
        refine g_easy (i := 7) hA rfl rfl (by kernel_rfl) (.inr (hI.sel [1, 2, 3, 4, 5] (by decide) rfl)) (fun _ => r_as hA rfl) rfl fun a hA => ?_
        refine g_nil (by kernel_rfl) ?_
        refine hN15 _ _ ?_
        refine w_reg ?_
        refine stp hA (r_add hA rfl rfl) rfl fun a hA => 
          stp hA (r_mv hA rfl) rfl fun a hA => ?_
        refine o_nil ?_
        exact ⟨m2, Nat.lt_succ_self _, r7 ++ ((x0.Outs.getD s4.toNat default).Lock), IntKind.i64.wrap (s4 + 1), v11, cs11 ++ ([av .u8 32 ((x0.Outs.getD s4.toNat default).Lock)].flatten), H, hE13, (wrap_in _ _), hA.sub ⟨rfl, rfl, rfl, rfl, rfl, rfl, rfl, trivial⟩, (hI.sel [0, 3, 4, 5] (by decide) rfl)⟩
      · have hc20 := hc2; have hc2 := of_decide_eq_false hc2; have H := bF H hc2
        refine w_exit rfl ?_
        have H : some s3 = some z2 := H
        obtain rfl := Option.some.inj H
        have H := Hk4
        cases Option.some.inj (bS H)
        exact ⟨vvs3, ccs3, ws3, hA.sub ⟨rfl, rfl, rfl, rfl, trivial⟩, hI⟩
    · rintro a w ⟨vvc2, ccc2, wc2, hA, hI⟩
      have H := Hk3
      refine w_seq fun _ hN17 => ?_
      refine w_reg ?_
      refine stp hA (r_mv hA rfl) rfl fun a hA => 
        stp hA (r_fd (k := 3) Tryd.underlying68 rfl sz39 hA rfl rfl) rfl fun a hA => 
        stp hA (r_ld1 (j := 3) [[.int .u32 x0.Version], [u0_0], [u0_1]] [] Tryd.underlying39 rfl hI rfl hA rfl rfl) rfl fun a hA => ?_
      obtain ⟨r8, hr8, H⟩ := bB H
      refine o_call (fun v w' => ∃ (v0 : Value) (c0 : List Value), v = v0 ∧ Els (RI .u8) 1 r8 c0 ∧ Iv w [] μ μ [row 5 1 v0 r8.length c0] w') cf32 hA rfl ((by obtain ⟨μ7, hle7, hsv10, hI⟩ := hI.freezeRow 0 rfl; have hS7 : Slc (RI .u8) 1 μ7 vvc2 c2 := ⟨_, wc2, hsv10⟩; exact (compact_Four.c μ7 _ hI.agr c2 vvc2 hS7 x0.Time hx0.2.2.2 r8 hr8).mono fun _ _ ⟨v, he, b0, b1, hv, f0, hi⟩ => ⟨v, he, b0, b1, hv, f0, hi.low hle7⟩)) rfl fun v12 a w hz12 hA => ?_
      obtain ⟨_, cs14, rfl, hE14, hi8⟩ := hz12
      have hI := hI.call hi8
      refine stp hA (r_as hA rfl) rfl fun a hA => ?_
      refine o_nil ?_
      refine hN17 _ _ ?_
      refine w_ret ?_
      obtain rfl := Option.some.inj (bS H)
      exact ret1 hA Tryd.results51 rfl ⟨_, rfl, v12, cs14, rfl, hE14, ((hI.sel [0] (by decide) rfl).less (Store.le.refl _) hI.le)⟩
set_option maxRecDepth 20000 in
theorem tx_Size.c (μ : Store) (w0 : World) (hμ : Agr μ w0) (x0 : Tx) (u0_0 : Value) (u0_1 : Value) (hx0 : TxW μ x0 u0_0 u0_1) (r : Int) (H : tx_Size.f x0 = some r) :
    Calls Tryd.prog 54 [.agg [[.int .u32 x0.Version], [u0_0], [u0_1], [.int .u32 x0.Time]].flatten.toArray].toArray w0 (fun e w' => ∃ v, e = .returned v ∧ v = .int .i64 r ∧ InR .i64 r ∧ Iv w0 [] μ μ [] w') := by
  refine enter Tryd.func54 rfl Tryd.ntmps54 rfl fun a hA => ?_
  have hI := Iv.start hμ
  have H := bI H
  refine w_seq fun _ hN1 => ?_
  refine w_reg ?_
  refine o_box [[.int .u32 x0.Version], [u0_0], [u0_1], [.int .u32 x0.Time]] hI hA rfl rfl rfl fun g1 a w hA hI hg1 => 
    stp hA (r_as hA rfl) rfl fun a hA => ?_
  refine o_nil ?_
  refine hN1 _ _ ?_
  refine w_seq fun _ hN2 => ?_
  refine w_reg ?_
  refine stp hA (r_ldA (j := 0) [] [[.int .u32 x0.Version], [u0_0], [u0_1], [.int .u32 x0.Time]] [] Tryd.underlying68 rfl sz68 rfl hI rfl hA rfl rfl) rfl fun a hA => ?_
  obtain ⟨r1, hr1, H⟩ := bB H
  refine o_call _ cf51 hA rfl (tx_Bytes.c μ _ hI.agr x0 u0_0 u0_1 ⟨hx0.1, hx0.2.1, hx0.2.2.1, hx0.2.2.2⟩ r1 hr1) rfl fun v1 a w hz1 hA => ?_
  obtain ⟨_, cs1, rfl, hE1, hi1⟩ := hz1
  have hI := hI.call hi1
  have hlen1 := Iv.row_in hI (j := 0) rfl
  refine stp hA (r_rlen (xs := 0) Tryd.underlying23 hI (j := 0) rfl hA rfl) rfl fun a hA => 
    stp hA (r_as hA rfl) rfl fun a hA => ?_
  refine o_nil ?_
  refine hN2 _ _ ?_
  refine w_ret ?_
  obtain rfl := Option.some.inj (bS H)
  exact ret1 hA Tryd.results54 rfl ⟨_, rfl, rfl, hlen1, hI.forget0⟩
set_option maxRecDepth 20000 in
theorem tx_Check_1.c (μ : Store) (w0 : World) (hμ : Agr μ w0) (x0 : In) (u0_0 : Value) (hx0 : InW μ x0 u0_0) (r : Bool) (H : tx_Check_1.f x0 = some r) :
    Calls Tryd.prog 102 [.agg [av .u8 32 x0.From.Tx, [.int .u32 x0.From.N], [u0_0], [.int .u32 x0.Seq]].flatten.toArray].toArray w0 (fun e w' => ∃ v, e = .returned v ∧ v = .bool r ∧ True ∧ Iv w0 [] μ μ [] w') := by
  refine enter Tryd.func102 rfl Tryd.ntmps102 rfl fun a hA => ?_
  have hI := Iv.start hμ
  have H := bI H
  refine w_seq fun _ hN1 => ?_
  refine w_reg ?_
  refine o_box [av .u8 32 x0.From.Tx, [.int .u32 x0.From.N], [u0_0], [.int .u32 x0.Seq]] hI hA rfl rfl rfl fun g1 a w hA hI hg1 => 
    stp hA (r_as hA rfl) rfl fun a hA => ?_
  refine o_nil ?_
  refine hN1 _ _ ?_
  refine w_seq fun _ hN2 => ?_
  refine w_reg ?_
  refine stp hA (r_fd (k := 33) Tryd.underlying62 rfl sz23 hA rfl rfl) rfl fun a hA => 
    stp hA (r_ld1 (j := 0) [av .u8 32 x0.From.Tx, [.int .u32 x0.From.N]] [[.int .u32 x0.Seq]] Tryd.underlying23 rfl hI rfl hA rfl rfl) rfl fun a hA => ?_
  obtain ⟨_, hsl1⟩ := Slc.sv hx0.2.2.1
  refine stp hA (r_slen Tryd.underlying23 hsl1 hA rfl) rfl fun a hA => 
    stp hA (r_gtr hA rfl rfl) rfl fun a hA => 
    stp hA (r_as hA rfl) rfl fun a hA => ?_
  refine o_nil ?_
  refine hN2 _ _ ?_
  refine w_ret ?_
  obtain rfl := Option.some.inj (bS H)
  exact ret1 hA Tryd.results102 rfl ⟨_, rfl, rfl, trivial, hI.forget0⟩
set_option maxRecDepth 20000 in
theorem tx_values.c (μ : Store) (w0 : World) (hμ : Agr μ w0) (x0 : Tx) (u0_0 : Value) (u0_1 : Value) (hx0 : TxW μ x0 u0_0 u0_1) (r : List Int) (H : tx_values.f x0 = some r) :
    Calls Tryd.prog 141 [.agg [[.int .u32 x0.Version], [u0_0], [u0_1], [.int .u32 x0.Time]].flatten.toArray].toArray w0 (fun e w' => ∃ v, e = .returned v ∧ ∃ (v0 : Value) (c0 : List Value), v = v0 ∧ Els (RI .u64) 1 r c0 ∧ Iv w0 [] μ μ [row 22 1 v0 r.length c0] w') := by
  refine enter Tryd.func141 rfl Tryd.ntmps141 rfl fun a hA => ?_
  have hI := Iv.start hμ
  have H := bI H
  refine w_seq fun _ hN1 => ?_
  refine w_reg ?_
  refine o_box [[.int .u32 x0.Version], [u0_0], [u0_1], [.int .u32 x0.Time]] hI hA rfl rfl rfl fun g1 a w hA hI hg1 => 
    stp hA (r_as hA rfl) rfl fun a hA => ?_
  refine o_nil ?_
  refine hN1 _ _ ?_
  refine w_seq fun _ hN2 => ?_
  refine w_reg ?_
  refine stp hA (r_as hA rfl) rfl fun a hA => ?_
  refine o_nil ?_
  refine hN2 _ _ ?_
  obtain ⟨c1, hz1, Hk1⟩ := bB H
  refine w_cut (fun a w => ∃ (vvc1 : Value) (ccc1 : List Value), Els (RI .u64) 1 c1 ccc1 ∧ Fr a 20 [(0, .agg [[.int .u32 x0.Version], [u0_0], [u0_1], [.int .u32 x0.Time]].flatten.toArray), (1, .pointer (some ⟨g1, 0, none⟩)), (2, (.slice none 0 0)), (3, vvc1)] ∧ Iv w0 [] μ μ [row 22 1 vvc1 c1.length ccc1, cel g1 [[.int .u32 x0.Version], [u0_0], [u0_1], [.int .u32 x0.Time]] 68] w) ?_ ?_
  · have H := bI hz1
    refine w_seq fun _ hN3 => ?_
    refine w_reg ?_
    refine stp hA (r_fd (k := 2) Tryd.underlying68 rfl sz66 hA rfl rfl) rfl fun a hA => 
      stp hA (r_ld1 (j := 0) [[.int .u32 x0.Version], [u0_0]] [[.int .u32 x0.Time]] Tryd.underlying66 rfl hI rfl hA rfl rfl) rfl fun a hA => ?_
    obtain ⟨_, hsl1⟩ := Slc.sv hx0.2.2.1
    refine stp hA (r_slen Tryd.underlying66 hsl1 hA rfl) rfl fun a hA => 
      stp hA (r_mv hA rfl) rfl fun a hA => ?_
    refine o_nil ?_
    refine hN3 _ _ ?_
    refine w_block ?_
    have hI := hI.nilRow 22 1
    obtain ⟨z1, hz2, Hk2⟩ := bind_some H
    obtain ⟨n1, hn1⟩ := loopO_some hz2
    refine w_loop (fun n a w => ∃ (s1 : List Int) (s2 : Int) (vvs1 : Value) (ccs1 : List Value), loopN (tx_values.s0 x0) n (s1, s2) = some z1 ∧ Els (RI .u64) 1 s1 ccs1 ∧ InR .i64 s2 ∧ Fr a 20 [(0, .agg [[.int .u32 x0.Version], [u0_0], [u0_1], [.int .u32 x0.Time]].flatten.toArray), (1, .pointer (some ⟨g1, 0, none⟩)), (2, (.slice none 0 0)), (3, vvs1), (7, u0_1), (8, .int .i64 (x0.Outs.length : Int)), (9, .int .i64 s2)] ∧ Iv w0 [] μ μ [row 22 1 vvs1 s1.length ccs1, cel g1 [[.int .u32 x0.Version], [u0_0], [u0_1], [.int .u32 x0.Time]] 68] w) n1 ⟨[], 0, (.slice none 0 0), [], hn1, (Els.nil (RE := (RI .u64)) (sz := 1)), (in_lit .i64 0 rfl), hA.sub ⟨rfl, rfl, rfl, rfl, rfl, rfl, rfl, trivial⟩, hI⟩ ?_
    clear hA hI
    rintro n a w ⟨s1, s2, vvs1, ccs1, hn1, ws1, ws2, hA, hI⟩
    obtain ⟨m1, rfl, H⟩ := loopN_bind hn1
    clear hn1
    refine w_seq fun _ hN4 => ?_
    refine w_reg ?_
    refine stp hA (r_lss hA rfl rfl) rfl fun a hA => ?_
    refine o_nil ?_
    refine hN4 _ _ ?_
    refine w_seq fun _ hN5 => ?_
    refine w_cond hA rfl (fun hc1 => ?_) (fun hc1 => ?_)
    · have hc10 := hc1; have hc1 := of_decide_eq_true hc1; have H := bT H hc1
      refine w_skip ?_
      refine hN5 _ _ ?_
      refine w_seq fun _ hN6 => ?_
      refine w_block ?_
      refine w_seq fun _ hN7 => ?_
      refine w_reg ?_
      obtain ⟨hb1, H⟩ := bG H
      obtain ⟨_, he1, _, hat1⟩ := Slc.elem hx0.2.2.1 (getD_some default hb1.1 hb1.2)
      obtain ⟨rfl, hw1⟩ := he1
      obtain ⟨_, hsl2⟩ := Slc.sv hx0.2.2.1
      refine stp hA (r_six Tryd.underlying66 sz65 hsl2 hA rfl rfl hb1.1 hb1.2) rfl fun a hA => 
        stp hA (r_ldmA [] [[.int .u64 ((x0.Outs.getD s2.toNat default).Value)], av .u8 32 ((x0.Outs.getD s2.toNat default).Lock)] [] Tryd.underlying65 rfl sz65 rfl hI.agr hat1 hA rfl rfl) rfl fun a hA => 
        o_new [[.int .u64 0], av .u8 32 (List.replicate 32 0)] zr65 hI hA rfl fun g2 a w hA hI hg2 => 
        o_st (j := 0) [] [[.int .u64 0], av .u8 32 (List.replicate 32 0)] [[.int .u64 ((x0.Outs.getD s2.toNat default).Value)], av .u8 32 ((x0.Outs.getD s2.toNat default).Lock)] [] sz65 rfl rfl (fl_cons (one_one rfl) (fl_cons (one_av _ _ _) fl_nil)) hI rfl hA rfl rfl rfl rfl fun w hI => ?_
      refine o_nil ?_
      refine hN7 _ _ ?_
      refine w_reg ?_
      refine stp hA (r_mv hA rfl) rfl fun a hA => 
        stp hA (r_fd (k := 0) Tryd.underlying65 rfl sz22 hA rfl rfl) rfl fun a hA => 
        stp hA (r_ld1 (j := 0) [] [av .u8 32 ((x0.Outs.getD s2.toNat default).Lock)] Tryd.underlying22 rfl hI rfl hA rfl rfl) rfl fun a hA => ?_
      have hE1 : Els (RI .u64) 1 ([(x0.Outs.getD s2.toNat default).Value] : List Int) ([[.int .u64 ((x0.Outs.getD s2.toNat default).Value)]].flatten ++ ([])) := (Els.cons (c := [[.int .u64 ((x0.Outs.getD s2.toNat default).Value)]].flatten) ⟨rfl, hw1.1⟩ rfl Els.nil)
      refine o_bsl ([[.int .u64 ((x0.Outs.getD s2.toNat default).Value)]].flatten ++ ([])) te22 zr22 Tryd.underlying42 hI hA rfl rfl rfl rfl (by kernel_rfl) rfl fun g3 a w hA hI => ?_
      generalize hcs : ([[.int .u64 ((x0.Outs.getD s2.toNat default).Value)]].flatten ++ ([]) : List Value) = cs1 at hE1 hI
      clear hcs
      obtain ⟨hb2, H⟩ := bG H
      have hE3 := ws1.app hE1
      refine o_appL (xs := (s1 : List Int)) (ys := (([(x0.Outs.getD s2.toNat default).Value] : List Int) : List Int)) (j := 2) te22 Tryd.underlying42 hI rfl hA rfl rfl (src_row hI (j := 0) rfl) hE1.len (hE1.ones (one_RI _)) (by first | decide | (have hq := hb2; (try simp only [List.length_cons, List.length_nil] at hq); (try simp only [List.length_cons, List.length_nil]); (try simp only [maxLen]); omega)) (by first | decide | (have hq := hb2; (try simp only [List.length_cons, List.length_nil] at hq); (try simp only [List.length_cons, List.length_nil]); (try simp only [maxLen]); omega)) rfl fun v1 a w hA hI => 
        stp hA (r_as hA rfl) rfl fun a hA => ?_
      refine o_nil ?_
      refine hN6 _ _ ?_
      refine w_reg ?_
      refine stp hA (r_add hA rfl rfl) rfl fun a hA => 
        stp hA (r_mv hA rfl) rfl fun a hA => ?_
      refine o_nil ?_
      exact ⟨m1, Nat.lt_succ_self _, s1 ++ ([(x0.Outs.getD s2.toNat default).Value] : List Int), IntKind.i64.wrap (s2 + 1), v1, ccs1 ++ cs1, H, hE3, (wrap_in _ _), hA.sub ⟨rfl, rfl, rfl, rfl, rfl, rfl, rfl, trivial⟩, (hI.sel [2, 3] (by decide) rfl)⟩
    · have hc10 := hc1; have hc1 := of_decide_eq_false hc1; have H := bF H hc1
      refine w_exit rfl ?_
      have H : some s1 = some z1 := H
      obtain rfl := Option.some.inj H
      have H := Hk2
      cases Option.some.inj (bS H)
      exact ⟨vvs1, ccs1, ws1, hA.sub ⟨rfl, rfl, rfl, rfl, trivial⟩, hI⟩
  · rintro a w ⟨vvc1, ccc1, wc1, hA, hI⟩
    have H := Hk1
    refine w_seq fun _ hN8 => ?_
    refine w_reg ?_
    refine stp hA (r_mv hA rfl) rfl fun a hA => 
      stp hA (r_as hA rfl) rfl fun a hA => ?_
    refine o_nil ?_
    refine hN8 _ _ ?_
    refine w_ret ?_
    obtain rfl := Option.some.inj (bS H)
    exact ret1 hA Tryd.results141 rfl ⟨_, rfl, vvc1, ccc1, rfl, wc1, ((hI.sel [0] (by decide) rfl).less (Store.le.refl _) hI.le)⟩
set_option maxRecDepth 20000 in
theorem tx_Sum.c (μ : Store) (w0 : World) (hμ : Agr μ w0) (x0 : Tx) (u0_0 : Value) (u0_1 : Value) (hx0 : TxW μ x0 u0_0 u0_1) (r : Int × Bool) (H : tx_Sum.f x0 = some r) :
    Calls Tryd.prog 103 [.agg [[.int .u32 x0.Version], [u0_0], [u0_1], [.int .u32 x0.Time]].flatten.toArray].toArray w0 (fun e w' => ∃ v, e = .returned v ∧ v = .tuple #[.int .u64 r.1, .bool r.2] ∧ (InR .u64 r.1 ∧ True) ∧ Iv w0 [] μ μ [] w') := by
  refine enter Tryd.func103 rfl Tryd.ntmps103 rfl fun a hA => ?_
  have hI := Iv.start hμ
  have H := bI H
  refine w_seq fun _ hN1 => ?_
  refine w_reg ?_
  refine o_box [[.int .u32 x0.Version], [u0_0], [u0_1], [.int .u32 x0.Time]] hI hA rfl rfl rfl fun g1 a w hA hI hg1 => 
    stp hA (r_as hA rfl) rfl fun a hA => 
    stp hA (r_as hA rfl) rfl fun a hA => ?_
  refine o_nil ?_
  refine hN1 _ _ ?_
  refine w_seq fun _ hN2 => ?_
  refine w_reg ?_
  refine stp hA (r_ldA (j := 0) [] [[.int .u32 x0.Version], [u0_0], [u0_1], [.int .u32 x0.Time]] [] Tryd.underlying68 rfl sz68 rfl hI rfl hA rfl rfl) rfl fun a hA => ?_
  obtain ⟨r1, hr1, H⟩ := bB H
  refine o_call _ cf141 hA rfl (tx_values.c μ _ hI.agr x0 u0_0 u0_1 ⟨hx0.1, hx0.2.1, hx0.2.2.1, hx0.2.2.2⟩ r1 hr1) rfl fun v1 a w hz1 hA => ?_
  obtain ⟨_, cs1, rfl, hE1, hi1⟩ := hz1
  have hI := hI.call hi1
  obtain ⟨r2, hr2, H⟩ := bB H
  refine o_callp (u := .tuple #[.int .u64 r2.1, .bool r2.2]) cf128 hA rfl hI ((by obtain ⟨μ1, hle1, hsv1, hI⟩ := hI.freezeRow 0 rfl; have hS1 : Slc (RI .u64) 1 μ1 v1 r1 := ⟨_, hE1, hsv1⟩; exact low_plain hle1 (compact_Sum.c μ1 _ hI.agr r1 v1 hS1 r2 hr2))) rfl fun a w hz2 hI hA => 
    stp hA (r_extr (vs := [.int .u64 r2.1, .bool r2.2]) hA rfl rfl) rfl fun a hA => 
    stp hA (r_extr (vs := [.int .u64 r2.1, .bool r2.2]) hA rfl rfl) rfl fun a hA => 
    stp hA (r_as hA rfl) rfl fun a hA => 
    stp hA (r_as hA rfl) rfl fun a hA => ?_
  refine o_nil ?_
  refine hN2 _ _ ?_
  refine w_ret ?_
  obtain rfl := Option.some.inj (bS H)
  exact ret2 hA Tryd.results103 rfl rfl ⟨_, rfl, rfl, ⟨hz2.1, trivial⟩, hI.forget0⟩
set_option maxRecDepth 20000 in
theorem tx_twice.c (μ : Store) (w0 : World) (hμ : Agr μ w0) (x0 : Tx) (u0_0 : Value) (u0_1 : Value) (hx0 : TxW μ x0 u0_0 u0_1) (r : Bool) (H : tx_twice.f x0 = some r) :
    Calls Tryd.prog 104 [.agg [[.int .u32 x0.Version], [u0_0], [u0_1], [.int .u32 x0.Time]].flatten.toArray].toArray w0 (fun e w' => ∃ v, e = .returned v ∧ v = .bool r ∧ True ∧ Iv w0 [] μ μ [] w') := by
  refine enter Tryd.func104 rfl Tryd.ntmps104 rfl fun a hA => ?_
  have hI := Iv.start hμ
  have H := bI H
  refine w_seq fun _ hN1 => ?_
  refine w_reg ?_
  refine o_box [[.int .u32 x0.Version], [u0_0], [u0_1], [.int .u32 x0.Time]] hI hA rfl rfl rfl fun g1 a w hA hI hg1 => 
    stp hA (r_as hA rfl) rfl fun a hA => ?_
  refine o_nil ?_
  refine hN1 _ _ ?_
  refine w_seq fun _ hN2 => ?_
  refine w_reg ?_
  refine o_mkmap kv184 vv184 hI hA rfl fun g2 a w hI hA => 
    stp hA (r_as hA rfl) rfl fun a hA => ?_
  refine o_nil ?_
  refine hN2 _ _ ?_
  refine w_seq fun _ hN3 => ?_
  refine w_seq fun _ hN4 => ?_
  refine w_reg ?_
  refine stp hA (r_fd (k := 1) Tryd.underlying68 rfl sz63 hA rfl rfl) rfl fun a hA => 
    stp hA (r_ld1 (j := 1) [[.int .u32 x0.Version]] [[u0_1], [.int .u32 x0.Time]] Tryd.underlying63 rfl hI rfl hA rfl rfl) rfl fun a hA => ?_
  obtain ⟨_, hsl1⟩ := Slc.sv hx0.2.1
  refine stp hA (r_slen Tryd.underlying63 hsl1 hA rfl) rfl fun a hA => 
    stp hA (r_mv hA rfl) rfl fun a hA => ?_
  refine o_nil ?_
  refine hN4 _ _ ?_
  refine w_block ?_
  obtain ⟨z1, hz1, Hk1⟩ := bind_some H
  obtain ⟨n1, hn1⟩ := loopO_some hz1
  refine w_loop (fun n a w => ∃ (s1 : Int) (s2 : List (Point × Bool)), loopN (tx_twice.s0 x0) n (s1, s2) = some z1 ∧ InR .i64 s1 ∧ mw184 s2 ∧ Fr a 22 [(0, .agg [[.int .u32 x0.Version], [u0_0], [u0_1], [.int .u32 x0.Time]].flatten.toArray), (1, .pointer (some ⟨g1, 0, none⟩)), (2, .bool false), (3, .map (some g2)), (8, u0_0), (9, .int .i64 (x0.Ins.length : Int)), (10, .int .i64 s1)] ∧ Iv w0 [] μ μ [mpI g2 (ent kv184 vv184 s2), cel g1 [[.int .u32 x0.Version], [u0_0], [u0_1], [.int .u32 x0.Time]] 68] w) n1 ⟨0, ([] : List (Point × Bool)), hn1, (in_lit .i64 0 rfl), mw_nil, hA.sub ⟨rfl, rfl, rfl, rfl, rfl, rfl, rfl, trivial⟩, hI⟩ ?_
  clear hA hI
  rintro n a w ⟨s1, s2, hn1, ws1, ws2, hA, hI⟩
  obtain ⟨m1, rfl, H⟩ := loopN_bind hn1
  clear hn1
  refine w_seq fun _ hN5 => ?_
  refine w_reg ?_
  refine stp hA (r_lss hA rfl rfl) rfl fun a hA => ?_
  refine o_nil ?_
  refine hN5 _ _ ?_
  refine w_seq fun _ hN6 => ?_
  refine w_cond hA rfl (fun hc1 => ?_) (fun hc1 => ?_)
  · have hc10 := hc1; have hc1 := of_decide_eq_true hc1; have H := bT H hc1
    refine w_skip ?_
    refine hN6 _ _ ?_
    refine w_seq fun _ hN7 => ?_
    refine w_block ?_
    refine w_seq fun _ hN8 => ?_
    refine w_reg ?_
    obtain ⟨hb1, H⟩ := bG H
    obtain ⟨_, he1, _, hat1⟩ := Slc.elem hx0.2.1 (getD_some default hb1.1 hb1.2)
    obtain ⟨v1, rfl, hw1⟩ := he1
    obtain ⟨_, hsl2⟩ := Slc.sv hx0.2.1
    refine stp hA (r_six Tryd.underlying63 sz62 hsl2 hA rfl rfl hb1.1 hb1.2) rfl fun a hA => 
      stp hA (r_ldmA [] [av .u8 32 ((x0.Ins.getD s1.toNat default).From.Tx), [.int .u32 ((x0.Ins.getD s1.toNat default).From.N)], [v1], [.int .u32 ((x0.Ins.getD s1.toNat default).Seq)]] [] Tryd.underlying62 rfl sz62 rfl hI.agr hat1 hA rfl rfl) rfl fun a hA => 
      o_new [av .u8 32 (List.replicate 32 0), [.int .u32 0], [(.slice none 0 0)], [.int .u32 0]] zr62 hI hA rfl fun g3 a w hA hI hg3 => ?_
    obtain ⟨_, hsl3⟩ := Slc.sv hw1.2.2.1
    refine o_st (j := 0) [] [av .u8 32 (List.replicate 32 0), [.int .u32 0], [(.slice none 0 0)], [.int .u32 0]] [av .u8 32 ((x0.Ins.getD s1.toNat default).From.Tx), [.int .u32 ((x0.Ins.getD s1.toNat default).From.N)], [v1], [.int .u32 ((x0.Ins.getD s1.toNat default).Seq)]] [] sz62 rfl rfl (fl_cons (one_av _ _ _) (fl_cons (one_one rfl) (fl_cons (one_one (one_sl hsl3)) (fl_cons (one_one rfl) fl_nil)))) hI rfl hA rfl rfl rfl rfl fun w hI => ?_
    refine o_nil ?_
    refine hN8 _ _ ?_
    refine w_seq fun _ hN9 => ?_
    refine w_seq fun _ hN10 => ?_
    refine w_reg ?_
    refine stp hA (r_mv hA rfl) rfl fun a hA => 
      stp hA (r_fd (k := 0) Tryd.underlying62 rfl sz60 hA rfl rfl) rfl fun a hA => 
      stp hA (r_ldA (j := 0) [] [av .u8 32 ((x0.Ins.getD s1.toNat default).From.Tx), [.int .u32 ((x0.Ins.getD s1.toNat default).From.N)]] [[v1], [.int .u32 ((x0.Ins.getD s1.toNat default).Seq)]] Tryd.underlying60 rfl sz60 rfl hI rfl hA rfl rfl) rfl fun a hA => 
      stp hA (r_look (j := 1) kn184 Tryd.underlying184 mz184 ws2 ⟨hw1.1, hw1.2.1⟩ hI rfl hA rfl rfl) rfl fun a hA => ?_
    refine o_nil ?_
    refine hN10 _ _ ?_
    refine w_cond hA rfl (fun hc2 => ?_) (fun hc2 => ?_)
    · have hc20 := hc2; have H := bT H hc2
      refine w_seq fun _ hN11 => ?_
      refine w_reg ?_
      refine stp hA (r_as hA rfl) rfl fun a hA => ?_
      refine o_nil ?_
      refine hN11 _ _ ?_
      refine w_ret ?_
      have H : some true = some z1 := H
      obtain rfl := Option.some.inj H
      have H := Hk1
      obtain rfl := Option.some.inj (bS H)
      exact ret1 hA Tryd.results104 rfl ⟨_, rfl, rfl, trivial, hI.forget0⟩
    · have hc20 := hc2; have hc2 := ft hc2; have H := bF H hc2
      refine w_skip ?_
      refine hN9 _ _ ?_
      refine w_reg ?_
      refine stp hA (r_mv hA rfl) rfl fun a hA => 
        stp hA (r_fd (k := 0) Tryd.underlying62 rfl sz60 hA rfl rfl) rfl fun a hA => 
        stp hA (r_ldA (j := 0) [] [av .u8 32 ((x0.Ins.getD s1.toNat default).From.Tx), [.int .u32 ((x0.Ins.getD s1.toNat default).From.N)]] [[v1], [.int .u32 ((x0.Ins.getD s1.toNat default).Seq)]] Tryd.underlying60 rfl sz60 rfl hI rfl hA rfl rfl) rfl fun a hA => 
        o_mput (j := 1) (k := ((x0.Ins.getD s1.toNat default).From)) true kn184 Tryd.underlying184 ws2 ⟨hw1.1, hw1.2.1⟩ hI rfl hA rfl rfl rfl fun w hI => ?_
      refine o_nil ?_
      refine hN7 _ _ ?_
      refine w_reg ?_
      refine stp hA (r_add hA rfl rfl) rfl fun a hA => 
        stp hA (r_mv hA rfl) rfl fun a hA => ?_
      refine o_nil ?_
      exact ⟨m1, Nat.lt_succ_self _, IntKind.i64.wrap (s1 + 1), mput s2 ((x0.Ins.getD s1.toNat default).From) true, H, (wrap_in _ _), (MW.put ws2 ⟨hw1.1, hw1.2.1⟩ trivial), hA.sub ⟨rfl, rfl, rfl, rfl, rfl, rfl, rfl, trivial⟩, (hI.sel [1, 2] (by decide) rfl)⟩
  · have hc10 := hc1; have hc1 := of_decide_eq_false hc1; have H := bF H hc1
    refine w_exit rfl ?_
    refine hN3 _ _ ?_
    refine w_seq fun _ hN12 => ?_
    refine w_reg ?_
    refine stp hA (r_as hA rfl) rfl fun a hA => ?_
    refine o_nil ?_
    refine hN12 _ _ ?_
    refine w_ret ?_
    have H : some false = some z1 := H
    obtain rfl := Option.some.inj H
    have H := Hk1
    obtain rfl := Option.some.inj (bS H)
    exact ret1 hA Tryd.results104 rfl ⟨_, rfl, rfl, trivial, hI.forget0⟩
set_option maxRecDepth 20000 in
theorem tx_Base.c (μ : Store) (w0 : World) (hμ : Agr μ w0) (x0 : Tx) (u0_0 : Value) (u0_1 : Value) (hx0 : TxW μ x0 u0_0 u0_1) (r : Bool) (H : tx_Base.f x0 = some r) :
    Calls Tryd.prog 48 [.agg [[.int .u32 x0.Version], [u0_0], [u0_1], [.int .u32 x0.Time]].flatten.toArray].toArray w0 (fun e w' => ∃ v, e = .returned v ∧ v = .bool r ∧ True ∧ Iv w0 [] μ μ [] w') := by
  refine enter Tryd.func48 rfl Tryd.ntmps48 rfl fun a hA => ?_
  have hI := Iv.start hμ
  have H := bI H
  refine w_seq fun _ hN1 => ?_
  refine w_reg ?_
  refine o_box [[.int .u32 x0.Version], [u0_0], [u0_1], [.int .u32 x0.Time]] hI hA rfl rfl rfl fun g1 a w hA hI hg1 => 
    stp hA (r_as hA rfl) rfl fun a hA => ?_
  refine o_nil ?_
  refine hN1 _ _ ?_
  obtain ⟨c1, hz1, Hk1⟩ := bB H
  refine w_cut (fun a w => Fr a 15 [(0, .agg [[.int .u32 x0.Version], [u0_0], [u0_1], [.int .u32 x0.Time]].flatten.toArray), (1, .pointer (some ⟨g1, 0, none⟩)), (2, .bool c1)] ∧ Iv w0 [] μ μ [cel g1 [[.int .u32 x0.Version], [u0_0], [u0_1], [.int .u32 x0.Time]] 68] w) ?_ ?_
  · have H := bI hz1
    refine w_reg ?_
    refine stp hA (r_fd (k := 1) Tryd.underlying68 rfl sz63 hA rfl rfl) rfl fun a hA => 
      stp hA (r_ld1 (j := 0) [[.int .u32 x0.Version]] [[u0_1], [.int .u32 x0.Time]] Tryd.underlying63 rfl hI rfl hA rfl rfl) rfl fun a hA => ?_
    obtain ⟨_, hsl1⟩ := Slc.sv hx0.2.1
    refine stp hA (r_slen Tryd.underlying63 hsl1 hA rfl) rfl fun a hA => 
      stp hA (r_eql hA rfl rfl) rfl fun a hA => 
      stp hA (r_mv hA rfl) rfl fun a hA => ?_
    rcases Bool.eq_false_or_eq_true (decide ((x0.Ins.length : Int) = 1)) with hc1 | hc1
    · have hc10 := hc1; have hc1 := of_decide_eq_true hc1; have H := bT H hc1
      refine o_yes hA rfl rfl hc10 <| 
        stp hA (r_fd (k := 1) Tryd.underlying68 rfl sz63 hA rfl rfl) rfl fun a hA => 
        o_yes hA rfl rfl hc10 <| 
        stp hA (r_ld1 (j := 0) [[.int .u32 x0.Version]] [[u0_1], [.int .u32 x0.Time]] Tryd.underlying63 rfl hI rfl hA rfl rfl) rfl fun a hA => 
        o_yes hA rfl rfl hc10 <| ?_
      obtain ⟨hb1, H⟩ := bG H
      obtain ⟨_, he1, _, hat1⟩ := Slc.elem hx0.2.1 (getD_some default (by decide) hb1)
      obtain ⟨v1, rfl, hw1⟩ := he1
      obtain ⟨_, hsl2⟩ := Slc.sv hx0.2.1
      refine stp hA (r_six Tryd.underlying63 sz62 hsl2 hA rfl rfl (by decide) hb1) rfl fun a hA => 
        o_yes hA rfl rfl hc10 <| 
        stp hA (r_fd (k := so u0_0 + (0 : Int).toNat * 35) Tryd.underlying62 rfl sz60 hA rfl rfl) rfl fun a hA => 
        o_yes hA rfl rfl hc10 <| 
        stp hA (r_ldmA [] [av .u8 32 ((x0.Ins.getD (0 : Int).toNat default).From.Tx), [.int .u32 ((x0.Ins.getD (0 : Int).toNat default).From.N)]] [[v1], [.int .u32 ((x0.Ins.getD (0 : Int).toNat default).Seq)]] Tryd.underlying60 rfl sz60 rfl hI.agr hat1 hA rfl rfl) rfl fun a hA => 
        o_yes hA rfl rfl hc10 <| ?_
      obtain ⟨r1, hr1, H⟩ := bB H
      refine o_callp (u := .bool r1) cf106 hA rfl hI (spend_IsNull.c μ _ hI.agr ((x0.Ins.getD (0 : Int).toNat default).From) ⟨hw1.1, hw1.2.1⟩ r1 hr1) rfl fun a w hz2 hI hA => 
        stp hA (r_pick_t hA rfl hc10 rfl) rfl fun a hA => 
        stp hA (r_as hA rfl) rfl fun a hA => ?_
      refine o_nil ?_
      cases Option.some.inj (bS H)
      exact ⟨hA.sub ⟨rfl, rfl, rfl, trivial⟩, hI⟩
    · have hc10 := hc1; have hc1 := of_decide_eq_false hc1; have H := bF H hc1
      refine o_no hA rfl rfl (by rw [hc10]; simp [vb]) rfl fun a hA => 
        o_no hA rfl rfl (by rw [hc10]; simp [vb]) rfl fun a hA => 
        o_no hA rfl rfl (by rw [hc10]; simp [vb]) rfl fun a hA => 
        o_no hA rfl rfl (by rw [hc10]; simp [vb]) rfl fun a hA => 
        o_no hA rfl rfl (by rw [hc10]; simp [vb]) rfl fun a hA => 
        o_no hA rfl rfl (by rw [hc10]; simp [vb]) rfl fun a hA => 
        stp hA (r_pick_f hA rfl hc10 rfl) rfl fun a hA => 
        stp hA (r_as hA rfl) rfl fun a hA => ?_
      refine o_nil ?_
      cases Option.some.inj (bS H)
      exact ⟨hA.sub ⟨rfl, rfl, rfl, trivial⟩, hI⟩
  · rintro a w ⟨hA, hI⟩
    have H := Hk1
    refine w_ret ?_
    obtain rfl := Option.some.inj (bS H)
    exact ret1 hA Tryd.results48 rfl ⟨_, rfl, rfl, trivial, hI.forget0⟩
set_option maxRecDepth 20000 in
theorem tx_base_1.c (μ : Store) (w0 : World) (hμ : Agr μ w0) (x0 : In) (u0_0 : Value) (hx0 : InW μ x0 u0_0) (r : Bool) (H : tx_base_1.f x0 = some r) :
    Calls Tryd.prog 142 [.agg [av .u8 32 x0.From.Tx, [.int .u32 x0.From.N], [u0_0], [.int .u32 x0.Seq]].flatten.toArray].toArray w0 (fun e w' => ∃ v, e = .returned v ∧ v = .bool r ∧ True ∧ Iv w0 [] μ μ [] w') := by
  refine enter Tryd.func142 rfl Tryd.ntmps142 rfl fun a hA => ?_
  have hI := Iv.start hμ
  have H := bI H
  refine w_seq fun _ hN1 => ?_
  refine w_reg ?_
  refine o_box [av .u8 32 x0.From.Tx, [.int .u32 x0.From.N], [u0_0], [.int .u32 x0.Seq]] hI hA rfl rfl rfl fun g1 a w hA hI hg1 => 
    stp hA (r_as hA rfl) rfl fun a hA => ?_
  refine o_nil ?_
  refine hN1 _ _ ?_
  refine w_seq fun _ hN2 => ?_
  refine w_reg ?_
  refine stp hA (r_fd (k := 0) Tryd.underlying62 rfl sz60 hA rfl rfl) rfl fun a hA => 
    stp hA (r_ldA (j := 0) [] [av .u8 32 x0.From.Tx, [.int .u32 x0.From.N]] [[u0_0], [.int .u32 x0.Seq]] Tryd.underlying60 rfl sz60 rfl hI rfl hA rfl rfl) rfl fun a hA => ?_
  obtain ⟨r1, hr1, H⟩ := bB H
  refine o_callp (u := .bool r1) cf106 hA rfl hI (spend_IsNull.c μ _ hI.agr x0.From ⟨hx0.1, hx0.2.1⟩ r1 hr1) rfl fun a w hz1 hI hA => 
    stp hA (r_as hA rfl) rfl fun a hA => ?_
  refine o_nil ?_
  refine hN2 _ _ ?_
  refine w_ret ?_
  obtain rfl := Option.some.inj (bS H)
  exact ret1 hA Tryd.results142 rfl ⟨_, rfl, rfl, trivial, hI.forget0⟩
set_option maxRecDepth 20000 in
theorem slices_IndexFunc_api_In_api_In_at_tx_base_1.c (μ : Store) (w0 : World) (hμ : Agr μ w0) (x0 : List In) (u0 : Value) (hx0 : Slc (RIn μ) 35 μ u0 x0) (r : Int) (H : slices_IndexFunc_api_In_api_In_at_tx_base_1.f x0 = some r) :
    Calls Tryd.prog 140 [u0, .func (.func 142) #[] #[]].toArray w0 (fun e w' => ∃ v, e = .returned v ∧ v = .int .i64 r ∧ InR .i64 r ∧ Iv w0 [] μ μ [] w') := by
  refine enter Tryd.func140 rfl Tryd.ntmps140 rfl fun a hA => ?_
  have hI := Iv.start hμ
  have H := bI H
  refine w_seq fun _ hN1 => ?_
  refine w_reg ?_
  refine stp hA (r_as hA rfl) rfl fun a hA => ?_
  refine o_nil ?_
  refine hN1 _ _ ?_
  refine w_seq fun _ hN2 => ?_
  refine w_seq fun _ hN3 => ?_
  refine w_reg ?_
  refine stp hA (r_mv hA rfl) rfl fun a hA => ?_
  obtain ⟨_, hsl1⟩ := Slc.sv hx0
  refine stp hA (r_slen Tryd.underlying63 hsl1 hA rfl) rfl fun a hA => 
    stp hA (r_mv hA rfl) rfl fun a hA => ?_
  refine o_nil ?_
  refine hN3 _ _ ?_
  refine w_block ?_
  obtain ⟨z1, hz1, Hk1⟩ := bind_some H
  obtain ⟨n1, hn1⟩ := loopO_some hz1
  refine w_loop (fun n a w => ∃ (s1 : Int), loopN (slices_IndexFunc_api_In_api_In_at_tx_base_1.s0 x0) n s1 = some z1 ∧ InR .i64 s1 ∧ Fr a 19 [(0, u0), (1, .func (.func 142) #[] #[]), (4, .int .i64 0), (7, .int .i64 (x0.length : Int)), (8, .int .i64 s1)] ∧ Iv w0 [] μ μ [] w) n1 ⟨0, hn1, (in_lit .i64 0 rfl), hA.sub ⟨rfl, rfl, rfl, rfl, rfl, trivial⟩, hI⟩ ?_
  clear hA hI
  rintro n a w ⟨s1, hn1, ws1, hA, hI⟩
  obtain ⟨m1, rfl, H⟩ := loopN_bind hn1
  clear hn1
  refine w_seq fun _ hN4 => ?_
  refine w_reg ?_
  refine stp hA (r_lss hA rfl rfl) rfl fun a hA => ?_
  refine o_nil ?_
  refine hN4 _ _ ?_
  refine w_seq fun _ hN5 => ?_
  refine w_cond hA rfl (fun hc1 => ?_) (fun hc1 => ?_)
  · have hc10 := hc1; have hc1 := of_decide_eq_true hc1; have H := bT H hc1
    refine w_skip ?_
    refine hN5 _ _ ?_
    refine w_seq fun _ hN6 => ?_
    refine w_block ?_
    refine w_seq fun _ hN7 => ?_
    refine w_reg ?_
    refine stp hA (r_mv hA rfl) rfl fun a hA => 
      stp hA (r_as hA rfl) rfl fun a hA => ?_
    refine o_nil ?_
    refine hN7 _ _ ?_
    refine w_seq fun _ hN8 => ?_
    refine w_reg ?_
    refine stp hA (r_mv hA rfl) rfl fun a hA => 
      stp hA (r_mv hA rfl) rfl fun a hA => 
      stp hA (r_mv hA rfl) rfl fun a hA => ?_
    obtain ⟨hb1, H⟩ := bG H
    obtain ⟨_, he1, _, hat1⟩ := Slc.elem hx0 (getD_some default hb1.1 hb1.2)
    obtain ⟨v1, rfl, hw1⟩ := he1
    obtain ⟨_, hsl2⟩ := Slc.sv hx0
    refine stp hA (r_six Tryd.underlying63 sz62 hsl2 hA rfl rfl hb1.1 hb1.2) rfl fun a hA => 
      stp hA (r_ldmA [] [av .u8 32 ((x0.getD s1.toNat default).From.Tx), [.int .u32 ((x0.getD s1.toNat default).From.N)], [v1], [.int .u32 ((x0.getD s1.toNat default).Seq)]] [] Tryd.underlying62 rfl sz62 rfl hI.agr hat1 hA rfl rfl) rfl fun a hA => ?_
    obtain ⟨r1, hr1, H⟩ := bB H
    refine o_callpc (u := .bool r1) cf142 hA rfl rfl hI (tx_base_1.c μ _ hI.agr (x0.getD s1.toNat default) v1 ⟨hw1.1, hw1.2.1, hw1.2.2.1, hw1.2.2.2⟩ r1 hr1) rfl fun a w hz2 hI hA => ?_
    refine o_nil ?_
    refine hN8 _ _ ?_
    refine w_cond hA rfl (fun hc2 => ?_) (fun hc2 => ?_)
    · have hc20 := hc2; have H := bT H hc2
      refine w_seq fun _ hN9 => ?_
      refine w_reg ?_
      refine stp hA (r_mv hA rfl) rfl fun a hA => 
        stp hA (r_as hA rfl) rfl fun a hA => ?_
      refine o_nil ?_
      refine hN9 _ _ ?_
      refine w_ret ?_
      have H : some s1 = some z1 := H
      obtain rfl := Option.some.inj H
      have H := Hk1
      obtain rfl := Option.some.inj (bS H)
      exact ret1 hA Tryd.results140 rfl ⟨_, rfl, rfl, ws1, hI.forget0⟩
    · have hc20 := hc2; have hc2 := ft hc2; have H := bF H hc2
      refine w_skip ?_
      refine hN6 _ _ ?_
      refine w_reg ?_
      refine stp hA (r_add hA rfl rfl) rfl fun a hA => 
        stp hA (r_mv hA rfl) rfl fun a hA => ?_
      refine o_nil ?_
      exact ⟨m1, Nat.lt_succ_self _, IntKind.i64.wrap (s1 + 1), H, (wrap_in _ _), hA.sub ⟨rfl, rfl, rfl, rfl, rfl, trivial⟩, hI⟩
  · have hc10 := hc1; have hc1 := of_decide_eq_false hc1; have H := bF H hc1
    refine w_exit rfl ?_
    refine hN2 _ _ ?_
    refine w_seq fun _ hN10 => ?_
    refine w_reg ?_
    refine stp hA (r_as hA rfl) rfl fun a hA => ?_
    refine o_nil ?_
    refine hN10 _ _ ?_
    refine w_ret ?_
    have H : some (-1) = some z1 := H
    obtain rfl := Option.some.inj H
    have H := Hk1
    obtain rfl := Option.some.inj (bS H)
    exact ret1 hA Tryd.results140 rfl ⟨_, rfl, rfl, (in_lit .i64 (-1) rfl), hI.forget0⟩
set_option maxRecDepth 20000 in
theorem slices_ContainsFunc_api_In_api_In_at_tx_base_1.c (μ : Store) (w0 : World) (hμ : Agr μ w0) (x0 : List In) (u0 : Value) (hx0 : Slc (RIn μ) 35 μ u0 x0) (r : Bool) (H : slices_ContainsFunc_api_In_api_In_at_tx_base_1.f x0 = some r) :
    Calls Tryd.prog 101 [u0, .func (.func 142) #[] #[]].toArray w0 (fun e w' => ∃ v, e = .returned v ∧ v = .bool r ∧ True ∧ Iv w0 [] μ μ [] w') := by
  refine enter Tryd.func101 rfl Tryd.ntmps101 rfl fun a hA => ?_
  have hI := Iv.start hμ
  have H := bI H
  refine w_seq fun _ hN1 => ?_
  refine w_reg ?_
  refine stp hA (r_as hA rfl) rfl fun a hA => ?_
  refine o_nil ?_
  refine hN1 _ _ ?_
  refine w_seq fun _ hN2 => ?_
  refine w_reg ?_
  refine stp hA (r_mv hA rfl) rfl fun a hA => 
    stp hA (r_mv hA rfl) rfl fun a hA => ?_
  obtain ⟨r1, hr1, H⟩ := bB H
  refine o_callp (u := .int .i64 r1) cf140 hA rfl hI (slices_IndexFunc_api_In_api_In_at_tx_base_1.c μ _ hI.agr x0 u0 hx0 r1 hr1) rfl fun a w hz1 hI hA => 
    stp hA (r_geq hA rfl rfl) rfl fun a hA => 
    stp hA (r_as hA rfl) rfl fun a hA => ?_
  refine o_nil ?_
  refine hN2 _ _ ?_
  refine w_ret ?_
  obtain rfl := Option.some.inj (bS H)
  exact ret1 hA Tryd.results101 rfl ⟨_, rfl, rfl, trivial, hI.forget0⟩
set_option maxRecDepth 20000 in
theorem tx_base.c (μ : Store) (w0 : World) (hμ : Agr μ w0) (x0 : Tx) (u0_0 : Value) (u0_1 : Value) (hx0 : TxW μ x0 u0_0 u0_1) (e9 : Value) (he9 : ErS μ e9 (Er.b 10)) (r : Er) (H : tx_base.f x0 = some r) :
    Calls Tryd.prog 105 [.agg [[.int .u32 x0.Version], [u0_0], [u0_1], [.int .u32 x0.Time]].flatten.toArray].toArray w0 (fun e w' => ∃ v, e = .returned v ∧ ∃ (v0 : Value) (μ' : Store), v = v0 ∧ ErS μ' v0 r ∧ Iv w0 [] μ μ' [] w') := by
  refine enter Tryd.func105 rfl Tryd.ntmps105 rfl fun a hA => ?_
  have hI := Iv.start hμ
  have H := bI H
  refine w_seq fun _ hN1 => ?_
  refine w_reg ?_
  refine o_box [[.int .u32 x0.Version], [u0_0], [u0_1], [.int .u32 x0.Time]] hI hA rfl rfl rfl fun g1 a w hA hI hg1 => 
    stp hA (r_as hA rfl) rfl fun a hA => ?_
  refine o_nil ?_
  refine hN1 _ _ ?_
  refine w_seq fun _ hN2 => ?_
  refine w_seq fun _ hN3 => ?_
  refine w_reg ?_
  refine stp hA (r_ldA (j := 0) [] [[.int .u32 x0.Version], [u0_0], [u0_1], [.int .u32 x0.Time]] [] Tryd.underlying68 rfl sz68 rfl hI rfl hA rfl rfl) rfl fun a hA => ?_
  obtain ⟨r1, hr1, H⟩ := bB H
  refine o_callp (u := .bool r1) cf48 hA rfl hI (tx_Base.c μ _ hI.agr x0 u0_0 u0_1 ⟨hx0.1, hx0.2.1, hx0.2.2.1, hx0.2.2.2⟩ r1 hr1) rfl fun a w hz1 hI hA => ?_
  refine o_nil ?_
  refine hN3 _ _ ?_
  refine w_cond hA rfl (fun hc1 => ?_) (fun hc1 => ?_)
  · have hc10 := hc1; have H := bT H hc1
    refine w_seq fun _ hN4 => ?_
    refine w_seq fun _ hN5 => ?_
    refine w_reg ?_
    refine stp hA (r_fd (k := 1) Tryd.underlying68 rfl sz63 hA rfl rfl) rfl fun a hA => 
      stp hA (r_ld1 (j := 0) [[.int .u32 x0.Version]] [[u0_1], [.int .u32 x0.Time]] Tryd.underlying63 rfl hI rfl hA rfl rfl) rfl fun a hA => ?_
    obtain ⟨hb1, H⟩ := bG H
    obtain ⟨_, he1, _, hat1⟩ := Slc.elem hx0.2.1 (getD_some default (by decide) hb1)
    obtain ⟨v1, rfl, hw1⟩ := he1
    obtain ⟨_, hsl1⟩ := Slc.sv hx0.2.1
    refine stp hA (r_six Tryd.underlying63 sz62 hsl1 hA rfl rfl (by decide) hb1) rfl fun a hA => 
      stp hA (r_fd (k := so u0_0 + (0 : Int).toNat * 35 + 33) Tryd.underlying62 rfl sz23 hA rfl rfl) rfl fun a hA => 
      stp hA (r_ldm1 [av .u8 32 ((x0.Ins.getD (0 : Int).toNat default).From.Tx), [.int .u32 ((x0.Ins.getD (0 : Int).toNat default).From.N)]] [[.int .u32 ((x0.Ins.getD (0 : Int).toNat default).Seq)]] Tryd.underlying23 rfl hI.agr hat1 hA rfl rfl) rfl fun a hA => ?_
    obtain ⟨_, hsl2⟩ := Slc.sv hw1.2.2.1
    refine stp hA (r_slen Tryd.underlying23 hsl2 hA rfl) rfl fun a hA => 
      stp hA (r_lss hA rfl rfl) rfl fun a hA => ?_
    refine o_nil ?_
    refine hN5 _ _ ?_
    refine w_cond hA rfl (fun hc2 => ?_) (fun hc2 => ?_)
    · have hc20 := hc2; have hc2 := of_decide_eq_true hc2; have H := bT H hc2
      refine w_seq fun _ hN6 => ?_
      refine w_reg ?_
      refine stp hA (r_ldG Tryd.underlying34 rfl hI.agr he9 hA) rfl fun a hA => 
        stp hA (r_as hA rfl) rfl fun a hA => ?_
      refine o_nil ?_
      refine hN6 _ _ ?_
      refine w_ret ?_
      obtain rfl := Option.some.inj (bS H)
      exact ret1 hA Tryd.results105 rfl ⟨_, rfl, e9, μ, rfl, he9, (hI.sel [] (by decide) rfl)⟩
    · have hc20 := hc2; have hc2 := of_decide_eq_false hc2; have H := bF H hc2
      refine w_skip ?_
      refine hN4 _ _ ?_
      refine w_seq fun _ hN7 => ?_
      refine w_reg ?_
      refine stp hA (r_as hA rfl) rfl fun a hA => ?_
      refine o_nil ?_
      refine hN7 _ _ ?_
      refine w_ret ?_
      obtain rfl := Option.some.inj (bS H)
      exact ret1 hA Tryd.results105 rfl ⟨_, rfl, .nilIface, μ, rfl, erv_nil, (hI.sel [] (by decide) rfl)⟩
  · have hc10 := hc1; have hc1 := ft hc1; have H := bF H hc1
    refine w_skip ?_
    refine hN2 _ _ ?_
    refine w_seq fun _ hN8 => ?_
    refine w_seq fun _ hN9 => ?_
    refine w_reg ?_
    refine stp hA (r_fd (k := 1) Tryd.underlying68 rfl sz63 hA rfl rfl) rfl fun a hA => 
      stp hA (r_ld1 (j := 0) [[.int .u32 x0.Version]] [[u0_1], [.int .u32 x0.Time]] Tryd.underlying63 rfl hI rfl hA rfl rfl) rfl fun a hA => ?_
    obtain ⟨r2, hr2, H⟩ := bB H
    refine o_callp (u := .bool r2) cf101 hA rfl hI (slices_ContainsFunc_api_In_api_In_at_tx_base_1.c μ _ hI.agr x0.Ins u0_0 hx0.2.1 r2 hr2) rfl fun a w hz2 hI hA => ?_
    refine o_nil ?_
    refine hN9 _ _ ?_
    refine w_cond hA rfl (fun hc3 => ?_) (fun hc3 => ?_)
    · have hc30 := hc3; have H := bT H hc3
      refine w_seq fun _ hN10 => ?_
      refine w_reg ?_
      refine stp hA (r_ldG Tryd.underlying34 rfl hI.agr he9 hA) rfl fun a hA => 
        stp hA (r_as hA rfl) rfl fun a hA => ?_
      refine o_nil ?_
      refine hN10 _ _ ?_
      refine w_ret ?_
      obtain rfl := Option.some.inj (bS H)
      exact ret1 hA Tryd.results105 rfl ⟨_, rfl, e9, μ, rfl, he9, (hI.sel [] (by decide) rfl)⟩
    · have hc30 := hc3; have hc3 := ft hc3; have H := bF H hc3
      refine w_skip ?_
      refine hN8 _ _ ?_
      refine w_seq fun _ hN11 => ?_
      refine w_reg ?_
      refine stp hA (r_as hA rfl) rfl fun a hA => ?_
      refine o_nil ?_
      refine hN11 _ _ ?_
      refine w_ret ?_
      obtain rfl := Option.some.inj (bS H)
      exact ret1 hA Tryd.results105 rfl ⟨_, rfl, .nilIface, μ, rfl, erv_nil, (hI.sel [] (by decide) rfl)⟩
set_option maxRecDepth 20000 in
theorem slices_IndexFunc_api_In_api_In_at_tx_Check_1.c (μ : Store) (w0 : World) (hμ : Agr μ w0) (x0 : List In) (u0 : Value) (hx0 : Slc (RIn μ) 35 μ u0 x0) (r : Int) (H : slices_IndexFunc_api_In_api_In_at_tx_Check_1.f x0 = some r) :
    Calls Tryd.prog 140 [u0, .func (.func 102) #[] #[]].toArray w0 (fun e w' => ∃ v, e = .returned v ∧ v = .int .i64 r ∧ InR .i64 r ∧ Iv w0 [] μ μ [] w') := by
  refine enter Tryd.func140 rfl Tryd.ntmps140 rfl fun a hA => ?_
  have hI := Iv.start hμ
  have H := bI H
  refine w_seq fun _ hN1 => ?_
  refine w_reg ?_
  refine stp hA (r_as hA rfl) rfl fun a hA => ?_
  refine o_nil ?_
  refine hN1 _ _ ?_
  refine w_seq fun _ hN2 => ?_
  refine w_seq fun _ hN3 => ?_
  refine w_reg ?_
  refine stp hA (r_mv hA rfl) rfl fun a hA => ?_
  obtain ⟨_, hsl1⟩ := Slc.sv hx0
  refine stp hA (r_slen Tryd.underlying63 hsl1 hA rfl) rfl fun a hA => 
    stp hA (r_mv hA rfl) rfl fun a hA => ?_
  refine o_nil ?_
  refine hN3 _ _ ?_
  refine w_block ?_
  obtain ⟨z1, hz1, Hk1⟩ := bind_some H
  obtain ⟨n1, hn1⟩ := loopO_some hz1
  refine w_loop (fun n a w => ∃ (s1 : Int), loopN (slices_IndexFunc_api_In_api_In_at_tx_Check_1.s0 x0) n s1 = some z1 ∧ InR .i64 s1 ∧ Fr a 19 [(0, u0), (1, .func (.func 102) #[] #[]), (4, .int .i64 0), (7, .int .i64 (x0.length : Int)), (8, .int .i64 s1)] ∧ Iv w0 [] μ μ [] w) n1 ⟨0, hn1, (in_lit .i64 0 rfl), hA.sub ⟨rfl, rfl, rfl, rfl, rfl, trivial⟩, hI⟩ ?_
  clear hA hI
  rintro n a w ⟨s1, hn1, ws1, hA, hI⟩
  obtain ⟨m1, rfl, H⟩ := loopN_bind hn1
  clear hn1
  refine w_seq fun _ hN4 => ?_
  refine w_reg ?_
  refine stp hA (r_lss hA rfl rfl) rfl fun a hA => ?_
  refine o_nil ?_
  refine hN4 _ _ ?_
  refine w_seq fun _ hN5 => ?_
  refine w_cond hA rfl (fun hc1 => ?_) (fun hc1 => ?_)
  · have hc10 := hc1; have hc1 := of_decide_eq_true hc1; have H := bT H hc1
    refine w_skip ?_
    refine hN5 _ _ ?_
    refine w_seq fun _ hN6 => ?_
    refine w_block ?_
    refine w_seq fun _ hN7 => ?_
    refine w_reg ?_
    refine stp hA (r_mv hA rfl) rfl fun a hA => 
      stp hA (r_as hA rfl) rfl fun a hA => ?_
    refine o_nil ?_
    refine hN7 _ _ ?_
    refine w_seq fun _ hN8 => ?_
    refine w_reg ?_
    refine stp hA (r_mv hA rfl) rfl fun a hA => 
      stp hA (r_mv hA rfl) rfl fun a hA => 
      stp hA (r_mv hA rfl) rfl fun a hA => ?_
    obtain ⟨hb1, H⟩ := bG H
    obtain ⟨_, he1, _, hat1⟩ := Slc.elem hx0 (getD_some default hb1.1 hb1.2)
    obtain ⟨v1, rfl, hw1⟩ := he1
    obtain ⟨_, hsl2⟩ := Slc.sv hx0
    refine stp hA (r_six Tryd.underlying63 sz62 hsl2 hA rfl rfl hb1.1 hb1.2) rfl fun a hA => 
      stp hA (r_ldmA [] [av .u8 32 ((x0.getD s1.toNat default).From.Tx), [.int .u32 ((x0.getD s1.toNat default).From.N)], [v1], [.int .u32 ((x0.getD s1.toNat default).Seq)]] [] Tryd.underlying62 rfl sz62 rfl hI.agr hat1 hA rfl rfl) rfl fun a hA => ?_
    obtain ⟨r1, hr1, H⟩ := bB H
    refine o_callpc (u := .bool r1) cf102 hA rfl rfl hI (tx_Check_1.c μ _ hI.agr (x0.getD s1.toNat default) v1 ⟨hw1.1, hw1.2.1, hw1.2.2.1, hw1.2.2.2⟩ r1 hr1) rfl fun a w hz2 hI hA => ?_
    refine o_nil ?_
    refine hN8 _ _ ?_
    refine w_cond hA rfl (fun hc2 => ?_) (fun hc2 => ?_)
    · have hc20 := hc2; have H := bT H hc2
      refine w_seq fun _ hN9 => ?_
      refine w_reg ?_
      refine stp hA (r_mv hA rfl) rfl fun a hA => 
        stp hA (r_as hA rfl) rfl fun a hA => ?_
      refine o_nil ?_
      refine hN9 _ _ ?_
      refine w_ret ?_
      have H : some s1 = some z1 := H
      obtain rfl := Option.some.inj H
      have H := Hk1
      obtain rfl := Option.some.inj (bS H)
      exact ret1 hA Tryd.results140 rfl ⟨_, rfl, rfl, ws1, hI.forget0⟩
    · have hc20 := hc2; have hc2 := ft hc2; have H := bF H hc2
      refine w_skip ?_
      refine hN6 _ _ ?_
      refine w_reg ?_
      refine stp hA (r_add hA rfl rfl) rfl fun a hA => 
        stp hA (r_mv hA rfl) rfl fun a hA => ?_
      refine o_nil ?_
      exact ⟨m1, Nat.lt_succ_self _, IntKind.i64.wrap (s1 + 1), H, (wrap_in _ _), hA.sub ⟨rfl, rfl, rfl, rfl, rfl, trivial⟩, hI⟩
  · have hc10 := hc1; have hc1 := of_decide_eq_false hc1; have H := bF H hc1
    refine w_exit rfl ?_
    refine hN2 _ _ ?_
    refine w_seq fun _ hN10 => ?_
    refine w_reg ?_
    refine stp hA (r_as hA rfl) rfl fun a hA => ?_
    refine o_nil ?_
    refine hN10 _ _ ?_
    refine w_ret ?_
    have H : some (-1) = some z1 := H
    obtain rfl := Option.some.inj H
    have H := Hk1
    obtain rfl := Option.some.inj (bS H)
    exact ret1 hA Tryd.results140 rfl ⟨_, rfl, rfl, (in_lit .i64 (-1) rfl), hI.forget0⟩
set_option maxRecDepth 20000 in
theorem slices_ContainsFunc_api_In_api_In_at_tx_Check_1.c (μ : Store) (w0 : World) (hμ : Agr μ w0) (x0 : List In) (u0 : Value) (hx0 : Slc (RIn μ) 35 μ u0 x0) (r : Bool) (H : slices_ContainsFunc_api_In_api_In_at_tx_Check_1.f x0 = some r) :
    Calls Tryd.prog 101 [u0, .func (.func 102) #[] #[]].toArray w0 (fun e w' => ∃ v, e = .returned v ∧ v = .bool r ∧ True ∧ Iv w0 [] μ μ [] w') := by
  refine enter Tryd.func101 rfl Tryd.ntmps101 rfl fun a hA => ?_
  have hI := Iv.start hμ
  have H := bI H
  refine w_seq fun _ hN1 => ?_
  refine w_reg ?_
  refine stp hA (r_as hA rfl) rfl fun a hA => ?_
  refine o_nil ?_
  refine hN1 _ _ ?_
  refine w_seq fun _ hN2 => ?_
  refine w_reg ?_
  refine stp hA (r_mv hA rfl) rfl fun a hA => 
    stp hA (r_mv hA rfl) rfl fun a hA => ?_
  obtain ⟨r1, hr1, H⟩ := bB H
  refine o_callp (u := .int .i64 r1) cf140 hA rfl hI (slices_IndexFunc_api_In_api_In_at_tx_Check_1.c μ _ hI.agr x0 u0 hx0 r1 hr1) rfl fun a w hz1 hI hA => 
    stp hA (r_geq hA rfl rfl) rfl fun a hA => 
    stp hA (r_as hA rfl) rfl fun a hA => ?_
  refine o_nil ?_
  refine hN2 _ _ ?_
  refine w_ret ?_
  obtain rfl := Option.some.inj (bS H)
  exact ret1 hA Tryd.results101 rfl ⟨_, rfl, rfl, trivial, hI.forget0⟩
set_option maxRecDepth 20000 in
theorem tx_Check.c (μ : Store) (w0 : World) (hμ : Agr μ w0) (x0 : Tx) (u0_0 : Value) (u0_1 : Value) (hx0 : TxW μ x0 u0_0 u0_1) (e1 : Value) (he1 : ErS μ e1 (Er.b 2)) (e2 : Value) (he2 : ErS μ e2 (Er.b 3)) (e3 : Value) (he3 : ErS μ e3 (Er.b 4)) (e4 : Value) (he4 : ErS μ e4 (Er.b 5)) (e5 : Value) (he5 : ErS μ e5 (Er.b 6)) (e9 : Value) (he9 : ErS μ e9 (Er.b 10)) (r : Er) (H : tx_Check.f x0 = some r) :
    Calls Tryd.prog 46 [.agg [[.int .u32 x0.Version], [u0_0], [u0_1], [.int .u32 x0.Time]].flatten.toArray].toArray w0 (fun e w' => ∃ v, e = .returned v ∧ ∃ (v0 : Value) (μ' : Store), v = v0 ∧ ErS μ' v0 r ∧ Iv w0 [] μ μ' [] w') := by
  refine enter Tryd.func46 rfl Tryd.ntmps46 rfl fun a hA => ?_
  have hI := Iv.start hμ
  have H := bI H
  refine w_seq fun _ hN1 => ?_
  refine w_reg ?_
  refine o_box [[.int .u32 x0.Version], [u0_0], [u0_1], [.int .u32 x0.Time]] hI hA rfl rfl rfl fun g1 a w hA hI hg1 => 
    stp hA (r_as hA rfl) rfl fun a hA => ?_
  refine o_nil ?_
  refine hN1 _ _ ?_
  refine w_seq fun _ hN2 => ?_
  refine w_block ?_
  obtain ⟨c1, hz1, Hk1⟩ := bB H
  refine w_cut (fun a w => Fr a 52 [(0, .agg [[.int .u32 x0.Version], [u0_0], [u0_1], [.int .u32 x0.Time]].flatten.toArray), (1, .pointer (some ⟨g1, 0, none⟩)), (2, .nilIface), (5, .bool c1)] ∧ Iv w0 [] μ μ [cel g1 [[.int .u32 x0.Version], [u0_0], [u0_1], [.int .u32 x0.Time]] 68] w) ?_ ?_
  · have H := bI hz1
    refine w_reg ?_
    refine stp hA (r_fd (k := 1) Tryd.underlying68 rfl sz63 hA rfl rfl) rfl fun a hA => 
      stp hA (r_ld1 (j := 0) [[.int .u32 x0.Version]] [[u0_1], [.int .u32 x0.Time]] Tryd.underlying63 rfl hI rfl hA rfl rfl) rfl fun a hA => ?_
    obtain ⟨_, hsl1⟩ := Slc.sv hx0.2.1
    refine stp hA (r_slen Tryd.underlying63 hsl1 hA rfl) rfl fun a hA => 
      stp hA (r_eql hA rfl rfl) rfl fun a hA => 
      stp hA (r_mv hA rfl) rfl fun a hA => ?_
    rcases Bool.eq_false_or_eq_true (decide ((x0.Ins.length : Int) = 0)) with hc1 | hc1
    · have hc10 := hc1; have hc1 := of_decide_eq_true hc1; have H := bT H hc1
      refine o_no hA rfl rfl (by rw [hc10]; simp [vb]) rfl fun a hA => 
        o_no hA rfl rfl (by rw [hc10]; simp [vb]) rfl fun a hA => 
        o_no hA rfl rfl (by rw [hc10]; simp [vb]) rfl fun a hA => 
        o_no hA rfl rfl (by rw [hc10]; simp [vb]) rfl fun a hA => 
        stp hA (r_pick_t hA rfl hc10 rfl) rfl fun a hA => 
        stp hA (r_mv hA rfl) rfl fun a hA => 
        o_no hA rfl rfl (by simp [vb]) rfl fun a hA => 
        o_no hA rfl rfl (by simp [vb]) rfl fun a hA => 
        o_no hA rfl rfl (by simp [vb]) rfl fun a hA => 
        o_no hA rfl rfl (by simp [vb]) rfl fun a hA => 
        stp hA (r_pick_t hA rfl rfl rfl) rfl fun a hA => 
        stp hA (r_mv hA rfl) rfl fun a hA => 
        o_no hA rfl rfl (by simp [vb]) rfl fun a hA => 
        o_no hA rfl rfl (by simp [vb]) rfl fun a hA => 
        o_no hA rfl rfl (by simp [vb]) rfl fun a hA => 
        o_no hA rfl rfl (by simp [vb]) rfl fun a hA => 
        stp hA (r_pick_t hA rfl rfl rfl) rfl fun a hA => 
        stp hA (r_as hA rfl) rfl fun a hA => ?_
      refine o_nil ?_
      cases Option.some.inj (bS H)
      exact ⟨hA.sub ⟨rfl, rfl, rfl, rfl, trivial⟩, hI⟩
    · have hc10 := hc1; have hc1 := of_decide_eq_false hc1; have H := bF H hc1
      refine o_yes hA rfl rfl hc10 <| 
        stp hA (r_fd (k := 1) Tryd.underlying68 rfl sz63 hA rfl rfl) rfl fun a hA => 
        o_yes hA rfl rfl hc10 <| 
        stp hA (r_ld1 (j := 0) [[.int .u32 x0.Version]] [[u0_1], [.int .u32 x0.Time]] Tryd.underlying63 rfl hI rfl hA rfl rfl) rfl fun a hA => 
        o_yes hA rfl rfl hc10 <| ?_
      obtain ⟨_, hsl2⟩ := Slc.sv hx0.2.1
      refine stp hA (r_slen Tryd.underlying63 hsl2 hA rfl) rfl fun a hA => 
        o_yes hA rfl rfl hc10 <| 
        stp hA (r_gtr hA rfl rfl) rfl fun a hA => 
        stp hA (r_pick_f hA rfl hc10 rfl) rfl fun a hA => 
        stp hA (r_mv hA rfl) rfl fun a hA => ?_
      rcases Bool.eq_false_or_eq_true (decide (50 < (x0.Ins.length : Int))) with hc2 | hc2
      · have hc20 := hc2; have hc2 := of_decide_eq_true hc2; have H := bT H hc2
        refine o_no hA rfl rfl (by rw [hc20]; simp [vb]) rfl fun a hA => 
          o_no hA rfl rfl (by rw [hc20]; simp [vb]) rfl fun a hA => 
          o_no hA rfl rfl (by rw [hc20]; simp [vb]) rfl fun a hA => 
          o_no hA rfl rfl (by rw [hc20]; simp [vb]) rfl fun a hA => 
          stp hA (r_pick_t hA rfl hc20 rfl) rfl fun a hA => 
          stp hA (r_mv hA rfl) rfl fun a hA => 
          o_no hA rfl rfl (by simp [vb]) rfl fun a hA => 
          o_no hA rfl rfl (by simp [vb]) rfl fun a hA => 
          o_no hA rfl rfl (by simp [vb]) rfl fun a hA => 
          o_no hA rfl rfl (by simp [vb]) rfl fun a hA => 
          stp hA (r_pick_t hA rfl rfl rfl) rfl fun a hA => 
          stp hA (r_as hA rfl) rfl fun a hA => ?_
        refine o_nil ?_
        cases Option.some.inj (bS H)
        exact ⟨hA.sub ⟨rfl, rfl, rfl, rfl, trivial⟩, hI⟩
      · have hc20 := hc2; have hc2 := of_decide_eq_false hc2; have H := bF H hc2
        refine o_yes hA rfl rfl hc20 <| 
          stp hA (r_fd (k := 2) Tryd.underlying68 rfl sz66 hA rfl rfl) rfl fun a hA => 
          o_yes hA rfl rfl hc20 <| 
          stp hA (r_ld1 (j := 0) [[.int .u32 x0.Version], [u0_0]] [[.int .u32 x0.Time]] Tryd.underlying66 rfl hI rfl hA rfl rfl) rfl fun a hA => 
          o_yes hA rfl rfl hc20 <| ?_
        obtain ⟨_, hsl3⟩ := Slc.sv hx0.2.2.1
        refine stp hA (r_slen Tryd.underlying66 hsl3 hA rfl) rfl fun a hA => 
          o_yes hA rfl rfl hc20 <| 
          stp hA (r_eql hA rfl rfl) rfl fun a hA => 
          stp hA (r_pick_f hA rfl hc20 rfl) rfl fun a hA => 
          stp hA (r_mv hA rfl) rfl fun a hA => ?_
        rcases Bool.eq_false_or_eq_true (decide ((x0.Outs.length : Int) = 0)) with hc3 | hc3
        · have hc30 := hc3; have hc3 := of_decide_eq_true hc3; have H := bT H hc3
          refine o_no hA rfl rfl (by rw [hc30]; simp [vb]) rfl fun a hA => 
            o_no hA rfl rfl (by rw [hc30]; simp [vb]) rfl fun a hA => 
            o_no hA rfl rfl (by rw [hc30]; simp [vb]) rfl fun a hA => 
            o_no hA rfl rfl (by rw [hc30]; simp [vb]) rfl fun a hA => 
            stp hA (r_pick_t hA rfl hc30 rfl) rfl fun a hA => 
            stp hA (r_as hA rfl) rfl fun a hA => ?_
          refine o_nil ?_
          cases Option.some.inj (bS H)
          exact ⟨hA.sub ⟨rfl, rfl, rfl, rfl, trivial⟩, hI⟩
        · have hc30 := hc3; have hc3 := of_decide_eq_false hc3; have H := bF H hc3
          refine o_yes hA rfl rfl hc30 <| 
            stp hA (r_fd (k := 2) Tryd.underlying68 rfl sz66 hA rfl rfl) rfl fun a hA => 
            o_yes hA rfl rfl hc30 <| 
            stp hA (r_ld1 (j := 0) [[.int .u32 x0.Version], [u0_0]] [[.int .u32 x0.Time]] Tryd.underlying66 rfl hI rfl hA rfl rfl) rfl fun a hA => 
            o_yes hA rfl rfl hc30 <| ?_
          obtain ⟨_, hsl4⟩ := Slc.sv hx0.2.2.1
          refine stp hA (r_slen Tryd.underlying66 hsl4 hA rfl) rfl fun a hA => 
            o_yes hA rfl rfl hc30 <| 
            stp hA (r_gtr hA rfl rfl) rfl fun a hA => 
            stp hA (r_pick_f hA rfl hc30 rfl) rfl fun a hA => 
            stp hA (r_as hA rfl) rfl fun a hA => ?_
          refine o_nil ?_
          cases Option.some.inj (bS H)
          exact ⟨hA.sub ⟨rfl, rfl, rfl, rfl, trivial⟩, hI⟩
  · rintro a w ⟨hA, hI⟩
    have H := Hk1
    refine w_cond hA rfl (fun hc4 => ?_) (fun hc4 => ?_)
    · have hc40 := hc4; have H := bT H hc4
      refine w_seq fun _ hN3 => ?_
      refine w_reg ?_
      refine stp hA (r_ldG Tryd.underlying34 rfl hI.agr he1 hA) rfl fun a hA => 
        stp hA (r_as hA rfl) rfl fun a hA => ?_
      refine o_nil ?_
      refine hN3 _ _ ?_
      refine w_ret ?_
      obtain rfl := Option.some.inj (bS H)
      exact ret1 hA Tryd.results46 rfl ⟨_, rfl, e1, μ, rfl, he1, (hI.sel [] (by decide) rfl)⟩
    · have hc40 := hc4; have hc4 := ft hc4; have H := bF H hc4
      refine w_seq fun _ hN4 => ?_
      refine w_reg ?_
      refine stp hA (r_ldA (j := 0) [] [[.int .u32 x0.Version], [u0_0], [u0_1], [.int .u32 x0.Time]] [] Tryd.underlying68 rfl sz68 rfl hI rfl hA rfl rfl) rfl fun a hA => ?_
      obtain ⟨r1, hr1, H⟩ := bB H
      refine o_callp (u := .int .i64 r1) cf54 hA rfl hI (tx_Size.c μ _ hI.agr x0 u0_0 u0_1 ⟨hx0.1, hx0.2.1, hx0.2.2.1, hx0.2.2.2⟩ r1 hr1) rfl fun a w hz2 hI hA => 
        stp hA (r_gtr hA rfl rfl) rfl fun a hA => 
        stp hA (r_as hA rfl) rfl fun a hA => ?_
      refine o_nil ?_
      refine hN4 _ _ ?_
      refine w_cond hA rfl (fun hc5 => ?_) (fun hc5 => ?_)
      · have hc50 := hc5; have hc5 := of_decide_eq_true hc5; have H := bT H hc5
        refine w_seq fun _ hN5 => ?_
        refine w_reg ?_
        refine stp hA (r_ldG Tryd.underlying34 rfl hI.agr he2 hA) rfl fun a hA => 
          stp hA (r_as hA rfl) rfl fun a hA => ?_
        refine o_nil ?_
        refine hN5 _ _ ?_
        refine w_ret ?_
        obtain rfl := Option.some.inj (bS H)
        exact ret1 hA Tryd.results46 rfl ⟨_, rfl, e2, μ, rfl, he2, (hI.sel [] (by decide) rfl)⟩
      · have hc50 := hc5; have hc5 := of_decide_eq_false hc5; have H := bF H hc5
        refine w_seq fun _ hN6 => ?_
        refine w_reg ?_
        refine stp hA (r_fd (k := 1) Tryd.underlying68 rfl sz63 hA rfl rfl) rfl fun a hA => 
          stp hA (r_ld1 (j := 0) [[.int .u32 x0.Version]] [[u0_1], [.int .u32 x0.Time]] Tryd.underlying63 rfl hI rfl hA rfl rfl) rfl fun a hA => ?_
        obtain ⟨r2, hr2, H⟩ := bB H
        refine o_callp (u := .bool r2) cf101 hA rfl hI (slices_ContainsFunc_api_In_api_In_at_tx_Check_1.c μ _ hI.agr x0.Ins u0_0 hx0.2.1 r2 hr2) rfl fun a w hz3 hI hA => 
          stp hA (r_as hA rfl) rfl fun a hA => ?_
        refine o_nil ?_
        refine hN6 _ _ ?_
        refine w_cond hA rfl (fun hc6 => ?_) (fun hc6 => ?_)
        · have hc60 := hc6; have H := bT H hc6
          refine w_seq fun _ hN7 => ?_
          refine w_reg ?_
          refine stp hA (r_ldG Tryd.underlying34 rfl hI.agr he3 hA) rfl fun a hA => 
            stp hA (r_as hA rfl) rfl fun a hA => ?_
          refine o_nil ?_
          refine hN7 _ _ ?_
          refine w_ret ?_
          obtain rfl := Option.some.inj (bS H)
          exact ret1 hA Tryd.results46 rfl ⟨_, rfl, e3, μ, rfl, he3, (hI.sel [] (by decide) rfl)⟩
        · have hc60 := hc6; have hc6 := ft hc6; have H := bF H hc6
          refine w_skip ?_
          refine hN2 _ _ ?_
          refine w_seq fun _ hN8 => ?_
          refine w_seq fun _ hN9 => ?_
          refine w_reg ?_
          refine stp hA (r_ldA (j := 0) [] [[.int .u32 x0.Version], [u0_0], [u0_1], [.int .u32 x0.Time]] [] Tryd.underlying68 rfl sz68 rfl hI rfl hA rfl rfl) rfl fun a hA => ?_
          obtain ⟨r3, hr3, H⟩ := bB H
          refine o_callp (u := .tuple #[.int .u64 r3.1, .bool r3.2]) cf103 hA rfl hI (tx_Sum.c μ _ hI.agr x0 u0_0 u0_1 ⟨hx0.1, hx0.2.1, hx0.2.2.1, hx0.2.2.2⟩ r3 hr3) rfl fun a w hz4 hI hA => 
            stp hA (r_mv hA rfl) rfl fun a hA => 
            stp hA (r_extr (vs := [.int .u64 r3.1, .bool r3.2]) hA rfl rfl) rfl fun a hA => 
            stp hA (r_extr (vs := [.int .u64 r3.1, .bool r3.2]) hA rfl rfl) rfl fun a hA => 
            stp hA (r_as hA rfl) rfl fun a hA => 
            stp hA (r_as hA rfl) rfl fun a hA => ?_
          refine o_nil ?_
          refine hN9 _ _ ?_
          refine w_seq fun _ hN10 => ?_
          refine w_reg ?_
          refine stp hA (r_mv hA rfl) rfl fun a hA => 
            stp hA (r_not hA rfl) rfl fun a hA => ?_
          refine o_nil ?_
          refine hN10 _ _ ?_
          refine w_cond hA rfl (fun hc7 => ?_) (fun hc7 => ?_)
          · have hc70 := hc7; have hc7 := nT hc7; have hc7 := ft hc7; have H := bF H hc7
            refine w_seq fun _ hN11 => ?_
            refine w_reg ?_
            refine stp hA (r_ldG Tryd.underlying34 rfl hI.agr he4 hA) rfl fun a hA => 
              stp hA (r_as hA rfl) rfl fun a hA => ?_
            refine o_nil ?_
            refine hN11 _ _ ?_
            refine w_ret ?_
            obtain rfl := Option.some.inj (bS H)
            exact ret1 hA Tryd.results46 rfl ⟨_, rfl, e4, μ, rfl, he4, (hI.sel [] (by decide) rfl)⟩
          · have hc70 := hc7; have hc7 := nF hc7; have H := bT H hc7
            refine w_skip ?_
            refine hN8 _ _ ?_
            refine w_seq fun _ hN12 => ?_
            refine w_seq fun _ hN13 => ?_
            refine w_reg ?_
            refine stp hA (r_ldA (j := 0) [] [[.int .u32 x0.Version], [u0_0], [u0_1], [.int .u32 x0.Time]] [] Tryd.underlying68 rfl sz68 rfl hI rfl hA rfl rfl) rfl fun a hA => ?_
            obtain ⟨r4, hr4, H⟩ := bB H
            refine o_callp (u := .bool r4) cf104 hA rfl hI (tx_twice.c μ _ hI.agr x0 u0_0 u0_1 ⟨hx0.1, hx0.2.1, hx0.2.2.1, hx0.2.2.2⟩ r4 hr4) rfl fun a w hz5 hI hA => ?_
            refine o_nil ?_
            refine hN13 _ _ ?_
            refine w_cond hA rfl (fun hc8 => ?_) (fun hc8 => ?_)
            · have hc80 := hc8; have H := bT H hc8
              refine w_seq fun _ hN14 => ?_
              refine w_reg ?_
              refine stp hA (r_ldG Tryd.underlying34 rfl hI.agr he5 hA) rfl fun a hA => 
                stp hA (r_as hA rfl) rfl fun a hA => ?_
              refine o_nil ?_
              refine hN14 _ _ ?_
              refine w_ret ?_
              obtain rfl := Option.some.inj (bS H)
              exact ret1 hA Tryd.results46 rfl ⟨_, rfl, e5, μ, rfl, he5, (hI.sel [] (by decide) rfl)⟩
            · have hc80 := hc8; have hc8 := ft hc8; have H := bF H hc8
              refine w_skip ?_
              refine hN12 _ _ ?_
              refine w_seq fun _ hN15 => ?_
              refine w_reg ?_
              refine stp hA (r_ldA (j := 0) [] [[.int .u32 x0.Version], [u0_0], [u0_1], [.int .u32 x0.Time]] [] Tryd.underlying68 rfl sz68 rfl hI rfl hA rfl rfl) rfl fun a hA => ?_
              obtain ⟨r5, hr5, H⟩ := bB H
              refine o_call _ cf105 hA rfl (tx_base.c μ _ hI.agr x0 u0_0 u0_1 ⟨hx0.1, hx0.2.1, hx0.2.2.1, hx0.2.2.2⟩ e9 he9 r5 hr5) rfl fun v1 a w hz6 hA => ?_
              obtain ⟨_, μ1, rfl, hS1, hi1⟩ := hz6
              have hI := hI.call hi1
              refine stp hA (r_as hA rfl) rfl fun a hA => ?_
              refine o_nil ?_
              refine hN15 _ _ ?_
              refine w_ret ?_
              obtain rfl := Option.some.inj (bS H)
              exact ret1 hA Tryd.results46 rfl ⟨_, rfl, v1, μ1, rfl, hS1, (hI.sel [] (by decide) rfl)⟩
set_option maxRecDepth 20000 in
theorem slices_Equal_api_Out_api_Out.c (μ : Store) (w0 : World) (hμ : Agr μ w0) (x0 : List Out) (u0 : Value) (hx0 : Slc (ROut μ) 33 μ u0 x0) (x1 : List Out) (u1 : Value) (hx1 : Slc (ROut μ) 33 μ u1 x1) (r : Bool) (H : slices_Equal_api_Out_api_Out.f x0 x1 = some r) :
    Calls Tryd.prog 109 [u0, u1].toArray w0 (fun e w' => ∃ v, e = .returned v ∧ v = .bool r ∧ True ∧ Iv w0 [] μ μ [] w') := by
  refine enter Tryd.func109 rfl Tryd.ntmps109 rfl fun a hA => ?_
  have hI := Iv.start hμ
  have H := bI H
  refine w_seq fun _ hN1 => ?_
  refine w_reg ?_
  refine stp hA (r_as hA rfl) rfl fun a hA => ?_
  refine o_nil ?_
  refine hN1 _ _ ?_
  refine w_seq fun _ hN2 => ?_
  refine w_seq fun _ hN3 => ?_
  refine w_reg ?_
  refine stp hA (r_mv hA rfl) rfl fun a hA => ?_
  obtain ⟨_, hsl1⟩ := Slc.sv hx0
  refine stp hA (r_slen Tryd.underlying66 hsl1 hA rfl) rfl fun a hA => 
    stp hA (r_mv hA rfl) rfl fun a hA => ?_
  obtain ⟨_, hsl2⟩ := Slc.sv hx1
  refine stp hA (r_slen Tryd.underlying66 hsl2 hA rfl) rfl fun a hA => 
    stp hA (r_neq hA rfl rfl) rfl fun a hA => ?_
  refine o_nil ?_
  refine hN3 _ _ ?_
  refine w_cond hA rfl (fun hc1 => ?_) (fun hc1 => ?_)
  · have hc10 := hc1; have hc1 := of_decide_eq_true hc1; have H := bT H hc1
    refine w_seq fun _ hN4 => ?_
    refine w_reg ?_
    refine stp hA (r_as hA rfl) rfl fun a hA => ?_
    refine o_nil ?_
    refine hN4 _ _ ?_
    refine w_ret ?_
    obtain rfl := Option.some.inj (bS H)
    exact ret1 hA Tryd.results109 rfl ⟨_, rfl, rfl, trivial, hI.forget0⟩
  · have hc10 := hc1; have hc1 := of_decide_eq_false hc1; have H := bF H hc1
    refine w_skip ?_
    refine hN2 _ _ ?_
    refine w_seq fun _ hN5 => ?_
    refine w_seq fun _ hN6 => ?_
    refine w_reg ?_
    refine stp hA (r_mv hA rfl) rfl fun a hA => ?_
    obtain ⟨_, hsl3⟩ := Slc.sv hx0
    refine stp hA (r_slen Tryd.underlying66 hsl3 hA rfl) rfl fun a hA => 
      stp hA (r_mv hA rfl) rfl fun a hA => ?_
    refine o_nil ?_
    refine hN6 _ _ ?_
    refine w_block ?_
    obtain ⟨z1, hz1, Hk1⟩ := bind_some H
    obtain ⟨n1, hn1⟩ := loopO_some hz1
    refine w_loop (fun n a w => ∃ (s1 : Int), loopN (slices_Equal_api_Out_api_Out.s0 x0 x1) n s1 = some z1 ∧ InR .i64 s1 ∧ Fr a 26 [(0, u0), (1, u1), (4, .bool false), (10, .bool (decide ((x0.length : Int) ≠ (x1.length : Int)))), (12, .int .i64 (x0.length : Int)), (13, .int .i64 s1)] ∧ Iv w0 [] μ μ [] w) n1 ⟨0, hn1, (in_lit .i64 0 rfl), hA.sub ⟨rfl, rfl, rfl, rfl, rfl, rfl, trivial⟩, hI⟩ ?_
    clear hA hI
    rintro n a w ⟨s1, hn1, ws1, hA, hI⟩
    obtain ⟨m1, rfl, H⟩ := loopN_bind hn1
    clear hn1
    refine w_seq fun _ hN7 => ?_
    refine w_reg ?_
    refine stp hA (r_lss hA rfl rfl) rfl fun a hA => ?_
    refine o_nil ?_
    refine hN7 _ _ ?_
    refine w_seq fun _ hN8 => ?_
    refine w_cond hA rfl (fun hc2 => ?_) (fun hc2 => ?_)
    · have hc20 := hc2; have hc2 := of_decide_eq_true hc2; have H := bT H hc2
      refine w_skip ?_
      refine hN8 _ _ ?_
      refine w_seq fun _ hN9 => ?_
      refine w_block ?_
      refine w_seq fun _ hN10 => ?_
      refine w_reg ?_
      refine stp hA (r_mv hA rfl) rfl fun a hA => 
        stp hA (r_as hA rfl) rfl fun a hA => ?_
      refine o_nil ?_
      refine hN10 _ _ ?_
      refine w_seq fun _ hN11 => ?_
      refine w_draw mo (by kernel_rfl) hI ?_
      refine qtp hA (fun _ hI => r_mv hA rfl) rfl fun a hA => 
        qtp hA (fun _ hI => r_mv hA rfl) rfl fun a hA => ?_
      obtain ⟨hb1, H⟩ := bG H
      obtain ⟨_, he1, _, hat1⟩ := Slc.elem hx0 (getD_some default hb1.1 hb1.2)
      obtain ⟨rfl, hw1⟩ := he1
      obtain ⟨_, hsl4⟩ := Slc.sv hx0
      refine qtp hA (fun _ hI => r_six Tryd.underlying66 sz65 hsl4 hA rfl rfl hb1.1 hb1.2) rfl fun a hA => 
        qtp hA (fun _ hI => r_ldmA [] [[.int .u64 ((x0.getD s1.toNat default).Value)], av .u8 32 ((x0.getD s1.toNat default).Lock)] [] Tryd.underlying65 rfl sz65 rfl hI.agr hat1 hA rfl rfl) rfl fun a hA => 
        qtp hA (fun _ hI => r_mv hA rfl) rfl fun a hA => 
        qtp hA (fun _ hI => r_mv hA rfl) rfl fun a hA => ?_
      obtain ⟨hb2, H⟩ := bG H
      obtain ⟨_, he2, _, hat2⟩ := Slc.elem hx1 (getD_some default hb2.1 hb2.2)
      obtain ⟨rfl, hw2⟩ := he2
      obtain ⟨_, hsl5⟩ := Slc.sv hx1
      refine qtp hA (fun _ hI => r_six Tryd.underlying66 sz65 hsl5 hA rfl rfl hb2.1 hb2.2) rfl fun a hA => 
        qtp hA (fun _ hI => r_ldmA [] [[.int .u64 ((x1.getD s1.toNat default).Value)], av .u8 32 ((x1.getD s1.toNat default).Lock)] [] Tryd.underlying65 rfl sz65 rfl hI.agr hat2 hA rfl rfl) rfl fun a hA => 
        qtp hA (fun _ hI => r_neS hA rfl rfl eg65 (eqv_struct Tryd.underlying65 sh65 (eqf_cons (by decide) (part1 [] [av .u8 32 ((x0.getD s1.toNat default).Lock)] Tryd.underlying22 rfl rfl) (part1 [] [av .u8 32 ((x1.getD s1.toNat default).Lock)] Tryd.underlying22 rfl rfl) (eqv_int Tryd.underlying22) (eqf_last (by decide) (partA [[.int .u64 ((x0.getD s1.toNat default).Value)]] [av .u8 32 ((x0.getD s1.toNat default).Lock)] [] Tryd.underlying55 rfl sz55 rfl rfl) (partA [[.int .u64 ((x1.getD s1.toNat default).Value)]] [av .u8 32 ((x1.getD s1.toNat default).Lock)] [] Tryd.underlying55 rfl sz55 rfl rfl) (eqv_arr Tryd.underlying55 Tryd.underlying5 sz5 hw1.2 hw2.2))))) rfl fun a hA => ?_
      refine q_nil fun w hI => ?_
      refine hN11 _ _ ?_
      refine w_cond hA rfl (fun hc3 => ?_) (fun hc3 => ?_)
      · have hc30 := hc3; have hc3 := of_decide_eq_true hc3; have H := bT H hc3
        refine w_seq fun _ hN12 => ?_
        refine w_reg ?_
        refine stp hA (r_as hA rfl) rfl fun a hA => ?_
        refine o_nil ?_
        refine hN12 _ _ ?_
        refine w_ret ?_
        have H : some false = some z1 := H
        obtain rfl := Option.some.inj H
        have H := Hk1
        obtain rfl := Option.some.inj (bS H)
        exact ret1 hA Tryd.results109 rfl ⟨_, rfl, rfl, trivial, hI.forget0⟩
      · have hc30 := hc3; have hc3 := of_decide_eq_false hc3; have H := bF H hc3
        refine w_skip ?_
        refine hN9 _ _ ?_
        refine w_reg ?_
        refine stp hA (r_add hA rfl rfl) rfl fun a hA => 
          stp hA (r_mv hA rfl) rfl fun a hA => ?_
        refine o_nil ?_
        exact ⟨m1, Nat.lt_succ_self _, IntKind.i64.wrap (s1 + 1), H, (wrap_in _ _), hA.sub ⟨rfl, rfl, rfl, rfl, rfl, rfl, trivial⟩, hI⟩
    · have hc20 := hc2; have hc2 := of_decide_eq_false hc2; have H := bF H hc2
      refine w_exit rfl ?_
      refine hN5 _ _ ?_
      refine w_seq fun _ hN13 => ?_
      refine w_reg ?_
      refine stp hA (r_as hA rfl) rfl fun a hA => ?_
      refine o_nil ?_
      refine hN13 _ _ ?_
      refine w_ret ?_
      have H : some true = some z1 := H
      obtain rfl := Option.some.inj H
      have H := Hk1
      obtain rfl := Option.some.inj (bS H)
      exact ret1 hA Tryd.results109 rfl ⟨_, rfl, rfl, trivial, hI.forget0⟩
set_option maxRecDepth 20000 in
theorem tx_Same_1.c (μ : Store) (w0 : World) (hμ : Agr μ w0) (x0 : In) (u0_0 : Value) (hx0 : InW μ x0 u0_0) (x1 : In) (u1_0 : Value) (hx1 : InW μ x1 u1_0) (r : Bool) (H : tx_Same_1.f x0 x1 = some r) :
    Calls Tryd.prog 111 [.agg [av .u8 32 x0.From.Tx, [.int .u32 x0.From.N], [u0_0], [.int .u32 x0.Seq]].flatten.toArray, .agg [av .u8 32 x1.From.Tx, [.int .u32 x1.From.N], [u1_0], [.int .u32 x1.Seq]].flatten.toArray].toArray w0 (fun e w' => ∃ v, e = .returned v ∧ v = .bool r ∧ True ∧ Iv w0 [] μ μ [] w') := by
  refine enter Tryd.func111 rfl Tryd.ntmps111 rfl fun a hA => ?_
  have hI := Iv.start hμ
  have H := bI H
  refine w_seq fun _ hN1 => ?_
  refine w_reg ?_
  refine o_box [av .u8 32 x0.From.Tx, [.int .u32 x0.From.N], [u0_0], [.int .u32 x0.Seq]] hI hA rfl rfl rfl fun g1 a w hA hI hg1 => 
    o_box [av .u8 32 x1.From.Tx, [.int .u32 x1.From.N], [u1_0], [.int .u32 x1.Seq]] hI hA rfl rfl rfl fun g2 a w hA hI hg2 => 
    stp hA (r_as hA rfl) rfl fun a hA => ?_
  refine o_nil ?_
  refine hN1 _ _ ?_
  obtain ⟨c1, hz1, Hk1⟩ := bB H
  refine w_cut (fun a w => Fr a 24 [(0, .agg [av .u8 32 x0.From.Tx, [.int .u32 x0.From.N], [u0_0], [.int .u32 x0.Seq]].flatten.toArray), (1, .agg [av .u8 32 x1.From.Tx, [.int .u32 x1.From.N], [u1_0], [.int .u32 x1.Seq]].flatten.toArray), (2, .pointer (some ⟨g1, 0, none⟩)), (3, .pointer (some ⟨g2, 0, none⟩)), (4, .bool c1)] ∧ Iv w0 [] μ μ [cel g2 [av .u8 32 x1.From.Tx, [.int .u32 x1.From.N], [u1_0], [.int .u32 x1.Seq]] 62, cel g1 [av .u8 32 x0.From.Tx, [.int .u32 x0.From.N], [u0_0], [.int .u32 x0.Seq]] 62] w) ?_ ?_
  · have H := bI hz1
    refine w_reg ?_
    refine stp hA (r_fd (k := 0) Tryd.underlying62 rfl sz60 hA rfl rfl) rfl fun a hA => 
      stp hA (r_ldA (j := 1) [] [av .u8 32 x0.From.Tx, [.int .u32 x0.From.N]] [[u0_0], [.int .u32 x0.Seq]] Tryd.underlying60 rfl sz60 rfl hI rfl hA rfl rfl) rfl fun a hA => 
      stp hA (r_fd (k := 0) Tryd.underlying62 rfl sz60 hA rfl rfl) rfl fun a hA => 
      stp hA (r_ldA (j := 0) [] [av .u8 32 x1.From.Tx, [.int .u32 x1.From.N]] [[u1_0], [.int .u32 x1.Seq]] Tryd.underlying60 rfl sz60 rfl hI rfl hA rfl rfl) rfl fun a hA => 
      stp hA (r_eqS hA rfl rfl eg60 (eqv_struct Tryd.underlying60 sh60 (eqf_cons (by decide) (partA [] [av .u8 32 x0.From.Tx] [[.int .u32 x0.From.N]] Tryd.underlying55 rfl sz55 rfl rfl) (partA [] [av .u8 32 x1.From.Tx] [[.int .u32 x1.From.N]] Tryd.underlying55 rfl sz55 rfl rfl) (eqv_arr Tryd.underlying55 Tryd.underlying5 sz5 hx0.1 hx1.1) (eqf_last (by decide) (part1 [av .u8 32 x0.From.Tx] [] Tryd.underlying39 rfl rfl) (part1 [av .u8 32 x1.From.Tx] [] Tryd.underlying39 rfl rfl) (eqv_int Tryd.underlying39))))) rfl fun a hA => 
      stp hA (r_mv hA rfl) rfl fun a hA => ?_
    rcases Bool.eq_false_or_eq_true (decide (x0.From.Tx = x1.From.Tx ∧ x0.From.N = x1.From.N)) with hc1 | hc1
    · have hc10 := hc1; have hc1 := of_decide_eq_true hc1; have H := bT H hc1
      refine o_yes hA rfl rfl hc10 <| 
        stp hA (r_fd (k := 34) Tryd.underlying62 rfl sz39 hA rfl rfl) rfl fun a hA => 
        o_yes hA rfl rfl hc10 <| 
        stp hA (r_ld1 (j := 1) [av .u8 32 x0.From.Tx, [.int .u32 x0.From.N], [u0_0]] [] Tryd.underlying39 rfl hI rfl hA rfl rfl) rfl fun a hA => 
        o_yes hA rfl rfl hc10 <| 
        stp hA (r_fd (k := 34) Tryd.underlying62 rfl sz39 hA rfl rfl) rfl fun a hA => 
        o_yes hA rfl rfl hc10 <| 
        stp hA (r_ld1 (j := 0) [av .u8 32 x1.From.Tx, [.int .u32 x1.From.N], [u1_0]] [] Tryd.underlying39 rfl hI rfl hA rfl rfl) rfl fun a hA => 
        o_yes hA rfl rfl hc10 <| 
        stp hA (r_eql hA rfl rfl) rfl fun a hA => 
        stp hA (r_pick_t hA rfl hc10 rfl) rfl fun a hA => 
        stp hA (r_mv hA rfl) rfl fun a hA => ?_
      rcases Bool.eq_false_or_eq_true (decide (x0.Seq = x1.Seq)) with hc2 | hc2
      · have hc20 := hc2; have hc2 := of_decide_eq_true hc2; have H := bT H hc2
        refine o_yes hA rfl rfl hc20 <| 
          stp hA (r_fd (k := 33) Tryd.underlying62 rfl sz23 hA rfl rfl) rfl fun a hA => 
          o_yes hA rfl rfl hc20 <| 
          stp hA (r_ld1 (j := 1) [av .u8 32 x0.From.Tx, [.int .u32 x0.From.N]] [[.int .u32 x0.Seq]] Tryd.underlying23 rfl hI rfl hA rfl rfl) rfl fun a hA => 
          o_yes hA rfl rfl hc20 <| 
          stp hA (r_fd (k := 33) Tryd.underlying62 rfl sz23 hA rfl rfl) rfl fun a hA => 
          o_yes hA rfl rfl hc20 <| 
          stp hA (r_ld1 (j := 0) [av .u8 32 x1.From.Tx, [.int .u32 x1.From.N]] [[.int .u32 x1.Seq]] Tryd.underlying23 rfl hI rfl hA rfl rfl) rfl fun a hA => 
          o_yes hA rfl rfl hc20 <| ?_
        obtain ⟨r1, hr1, H⟩ := bB H
        refine o_callp (u := .bool r1) cf112 hA rfl hI (bytes_Equal.c μ _ hI.agr x0.Key u0_0 hx0.2.2.1 x1.Key u1_0 hx1.2.2.1 r1 hr1) rfl fun a w hz2 hI hA => 
          stp hA (r_pick_t hA rfl hc20 rfl) rfl fun a hA => 
          stp hA (r_as hA rfl) rfl fun a hA => ?_
        refine o_nil ?_
        cases Option.some.inj (bS H)
        exact ⟨hA.sub ⟨rfl, rfl, rfl, rfl, rfl, trivial⟩, hI⟩
      · have hc20 := hc2; have hc2 := of_decide_eq_false hc2; have H := bF H hc2
        refine o_no hA rfl rfl (by rw [hc20]; simp [vb]) rfl fun a hA => 
          o_no hA rfl rfl (by rw [hc20]; simp [vb]) rfl fun a hA => 
          o_no hA rfl rfl (by rw [hc20]; simp [vb]) rfl fun a hA => 
          o_no hA rfl rfl (by rw [hc20]; simp [vb]) rfl fun a hA => 
          o_no hA rfl rfl (by rw [hc20]; simp [vb]) rfl fun a hA => 
          stp hA (r_pick_f hA rfl hc20 rfl) rfl fun a hA => 
          stp hA (r_as hA rfl) rfl fun a hA => ?_
        refine o_nil ?_
        cases Option.some.inj (bS H)
        exact ⟨hA.sub ⟨rfl, rfl, rfl, rfl, rfl, trivial⟩, hI⟩
    · have hc10 := hc1; have hc1 := of_decide_eq_false hc1; have H := bF H hc1
      refine o_no hA rfl rfl (by rw [hc10]; simp [vb]) rfl fun a hA => 
        o_no hA rfl rfl (by rw [hc10]; simp [vb]) rfl fun a hA => 
        o_no hA rfl rfl (by rw [hc10]; simp [vb]) rfl fun a hA => 
        o_no hA rfl rfl (by rw [hc10]; simp [vb]) rfl fun a hA => 
        o_no hA rfl rfl (by rw [hc10]; simp [vb]) rfl fun a hA => 
        stp hA (r_pick_f hA rfl hc10 rfl) rfl fun a hA => 
        stp hA (r_mv hA rfl) rfl fun a hA => 
        o_no hA rfl rfl (by simp [vb]) rfl fun a hA => 
        o_no hA rfl rfl (by simp [vb]) rfl fun a hA => 
        o_no hA rfl rfl (by simp [vb]) rfl fun a hA => 
        o_no hA rfl rfl (by simp [vb]) rfl fun a hA => 
        o_no hA rfl rfl (by simp [vb]) rfl fun a hA => 
        stp hA (r_pick_f hA rfl rfl rfl) rfl fun a hA => 
        stp hA (r_as hA rfl) rfl fun a hA => ?_
      refine o_nil ?_
      cases Option.some.inj (bS H)
      exact ⟨hA.sub ⟨rfl, rfl, rfl, rfl, rfl, trivial⟩, hI⟩
  · rintro a w ⟨hA, hI⟩
    have H := Hk1
    refine w_ret ?_
    obtain rfl := Option.some.inj (bS H)
    exact ret1 hA Tryd.results111 rfl ⟨_, rfl, rfl, trivial, hI.forget0⟩
set_option maxRecDepth 20000 in
theorem slices_EqualFunc_api_In_api_In_api_In_api_In_at_tx_Same_1.c (μ : Store) (w0 : World) (hμ : Agr μ w0) (x0 : List In) (u0 : Value) (hx0 : Slc (RIn μ) 35 μ u0 x0) (x1 : List In) (u1 : Value) (hx1 : Slc (RIn μ) 35 μ u1 x1) (r : Bool) (H : slices_EqualFunc_api_In_api_In_api_In_api_In_at_tx_Same_1.f x0 x1 = some r) :
    Calls Tryd.prog 110 [u0, u1, .func (.func 111) #[] #[]].toArray w0 (fun e w' => ∃ v, e = .returned v ∧ v = .bool r ∧ True ∧ Iv w0 [] μ μ [] w') := by
  refine enter Tryd.func110 rfl Tryd.ntmps110 rfl fun a hA => ?_
  have hI := Iv.start hμ
  have H := bI H
  refine w_seq fun _ hN1 => ?_
  refine w_reg ?_
  refine stp hA (r_as hA rfl) rfl fun a hA => ?_
  refine o_nil ?_
  refine hN1 _ _ ?_
  refine w_seq fun _ hN2 => ?_
  refine w_seq fun _ hN3 => ?_
  refine w_reg ?_
  refine stp hA (r_mv hA rfl) rfl fun a hA => ?_
  obtain ⟨_, hsl1⟩ := Slc.sv hx0
  refine stp hA (r_slen Tryd.underlying63 hsl1 hA rfl) rfl fun a hA => 
    stp hA (r_mv hA rfl) rfl fun a hA => ?_
  obtain ⟨_, hsl2⟩ := Slc.sv hx1
  refine stp hA (r_slen Tryd.underlying63 hsl2 hA rfl) rfl fun a hA => 
    stp hA (r_neq hA rfl rfl) rfl fun a hA => ?_
  refine o_nil ?_
  refine hN3 _ _ ?_
  refine w_cond hA rfl (fun hc1 => ?_) (fun hc1 => ?_)
  · have hc10 := hc1; have hc1 := of_decide_eq_true hc1; have H := bT H hc1
    refine w_seq fun _ hN4 => ?_
    refine w_reg ?_
    refine stp hA (r_as hA rfl) rfl fun a hA => ?_
    refine o_nil ?_
    refine hN4 _ _ ?_
    refine w_ret ?_
    obtain rfl := Option.some.inj (bS H)
    exact ret1 hA Tryd.results110 rfl ⟨_, rfl, rfl, trivial, hI.forget0⟩
  · have hc10 := hc1; have hc1 := of_decide_eq_false hc1; have H := bF H hc1
    refine w_skip ?_
    refine hN2 _ _ ?_
    refine w_seq fun _ hN5 => ?_
    refine w_seq fun _ hN6 => ?_
    refine w_reg ?_
    refine stp hA (r_mv hA rfl) rfl fun a hA => ?_
    obtain ⟨_, hsl3⟩ := Slc.sv hx0
    refine stp hA (r_slen Tryd.underlying63 hsl3 hA rfl) rfl fun a hA => 
      stp hA (r_mv hA rfl) rfl fun a hA => ?_
    refine o_nil ?_
    refine hN6 _ _ ?_
    refine w_block ?_
    obtain ⟨z1, hz1, Hk1⟩ := bind_some H
    obtain ⟨n1, hn1⟩ := loopO_some hz1
    refine w_loop (fun n a w => ∃ (s1 : Int), loopN (slices_EqualFunc_api_In_api_In_api_In_api_In_at_tx_Same_1.s0 x0 x1) n s1 = some z1 ∧ InR .i64 s1 ∧ Fr a 32 [(0, u0), (1, u1), (2, .func (.func 111) #[] #[]), (6, .bool false), (14, .bool (decide ((x0.length : Int) ≠ (x1.length : Int)))), (15, u0), (16, .int .i64 (x0.length : Int)), (17, .int .i64 s1)] ∧ Iv w0 [] μ μ [] w) n1 ⟨0, hn1, (in_lit .i64 0 rfl), hA.sub ⟨rfl, rfl, rfl, rfl, rfl, rfl, rfl, rfl, trivial⟩, hI⟩ ?_
    clear hA hI
    rintro n a w ⟨s1, hn1, ws1, hA, hI⟩
    obtain ⟨m1, rfl, H⟩ := loopN_bind hn1
    clear hn1
    refine w_seq fun _ hN7 => ?_
    refine w_reg ?_
    refine stp hA (r_lss hA rfl rfl) rfl fun a hA => ?_
    refine o_nil ?_
    refine hN7 _ _ ?_
    refine w_seq fun _ hN8 => ?_
    refine w_cond hA rfl (fun hc2 => ?_) (fun hc2 => ?_)
    · have hc20 := hc2; have hc2 := of_decide_eq_true hc2; have H := bT H hc2
      refine w_skip ?_
      refine hN8 _ _ ?_
      refine w_seq fun _ hN9 => ?_
      refine w_block ?_
      refine w_seq fun _ hN10 => ?_
      refine w_reg ?_
      refine stp hA (r_mv hA rfl) rfl fun a hA => ?_
      obtain ⟨hb1, H⟩ := bG H
      obtain ⟨_, he1, _, hat1⟩ := Slc.elem hx0 (getD_some default hb1.1 hb1.2)
      obtain ⟨v1, rfl, hw1⟩ := he1
      obtain ⟨_, hsl4⟩ := Slc.sv hx0
      refine stp hA (r_six Tryd.underlying63 sz62 hsl4 hA rfl rfl hb1.1 hb1.2) rfl fun a hA => 
        stp hA (r_ldmA [] [av .u8 32 ((x0.getD s1.toNat default).From.Tx), [.int .u32 ((x0.getD s1.toNat default).From.N)], [v1], [.int .u32 ((x0.getD s1.toNat default).Seq)]] [] Tryd.underlying62 rfl sz62 rfl hI.agr hat1 hA rfl rfl) rfl fun a hA => 
        o_new [av .u8 32 (List.replicate 32 0), [.int .u32 0], [(.slice none 0 0)], [.int .u32 0]] zr62 hI hA rfl fun g1 a w hA hI hg1 => 
        stp hA (r_as hA rfl) rfl fun a hA => ?_
      obtain ⟨_, hsl5⟩ := Slc.sv hw1.2.2.1
      refine o_st (j := 0) [] [av .u8 32 (List.replicate 32 0), [.int .u32 0], [(.slice none 0 0)], [.int .u32 0]] [av .u8 32 ((x0.getD s1.toNat default).From.Tx), [.int .u32 ((x0.getD s1.toNat default).From.N)], [v1], [.int .u32 ((x0.getD s1.toNat default).Seq)]] [] sz62 rfl rfl (fl_cons (one_av _ _ _) (fl_cons (one_one rfl) (fl_cons (one_one (one_sl hsl5)) (fl_cons (one_one rfl) fl_nil)))) hI rfl hA rfl rfl rfl rfl fun w hI => ?_
      refine o_nil ?_
      refine hN10 _ _ ?_
      refine w_seq fun _ hN11 => ?_
      refine w_reg ?_
      refine stp hA (r_mv hA rfl) rfl fun a hA => 
        stp hA (r_mv hA rfl) rfl fun a hA => ?_
      obtain ⟨hb2, H⟩ := bG H
      obtain ⟨_, he2, _, hat2⟩ := Slc.elem hx1 (getD_some default hb2.1 hb2.2)
      obtain ⟨v2, rfl, hw2⟩ := he2
      obtain ⟨_, hsl6⟩ := Slc.sv hx1
      refine stp hA (r_six Tryd.underlying63 sz62 hsl6 hA rfl rfl hb2.1 hb2.2) rfl fun a hA => 
        stp hA (r_ldmA [] [av .u8 32 ((x1.getD s1.toNat default).From.Tx), [.int .u32 ((x1.getD s1.toNat default).From.N)], [v2], [.int .u32 ((x1.getD s1.toNat default).Seq)]] [] Tryd.underlying62 rfl sz62 rfl hI.agr hat2 hA rfl rfl) rfl fun a hA => 
        o_new [av .u8 32 (List.replicate 32 0), [.int .u32 0], [(.slice none 0 0)], [.int .u32 0]] zr62 hI hA rfl fun g2 a w hA hI hg2 => ?_
      obtain ⟨_, hsl7⟩ := Slc.sv hw2.2.2.1
      refine o_st (j := 0) [] [av .u8 32 (List.replicate 32 0), [.int .u32 0], [(.slice none 0 0)], [.int .u32 0]] [av .u8 32 ((x1.getD s1.toNat default).From.Tx), [.int .u32 ((x1.getD s1.toNat default).From.N)], [v2], [.int .u32 ((x1.getD s1.toNat default).Seq)]] [] sz62 rfl rfl (fl_cons (one_av _ _ _) (fl_cons (one_one rfl) (fl_cons (one_one (one_sl hsl7)) (fl_cons (one_one rfl) fl_nil)))) hI rfl hA rfl rfl rfl rfl fun w hI => ?_
      refine o_nil ?_
      refine hN11 _ _ ?_
      refine w_seq fun _ hN12 => ?_
      refine w_reg ?_
      refine stp hA (r_mv hA rfl) rfl fun a hA => 
        stp hA (r_ldA (j := 1) [] [av .u8 32 ((x0.getD s1.toNat default).From.Tx), [.int .u32 ((x0.getD s1.toNat default).From.N)], [v1], [.int .u32 ((x0.getD s1.toNat default).Seq)]] [] Tryd.underlying62 rfl sz62 rfl hI rfl hA rfl rfl) rfl fun a hA => 
        stp hA (r_ldA (j := 0) [] [av .u8 32 ((x1.getD s1.toNat default).From.Tx), [.int .u32 ((x1.getD s1.toNat default).From.N)], [v2], [.int .u32 ((x1.getD s1.toNat default).Seq)]] [] Tryd.underlying62 rfl sz62 rfl hI rfl hA rfl rfl) rfl fun a hA => ?_
      obtain ⟨r1, hr1, H⟩ := bB H
      refine o_callpc (u := .bool r1) cf111 hA rfl rfl hI (tx_Same_1.c μ _ hI.agr (x0.getD s1.toNat default) v1 ⟨hw1.1, hw1.2.1, hw1.2.2.1, hw1.2.2.2⟩ (x1.getD s1.toNat default) v2 ⟨hw2.1, hw2.2.1, hw2.2.2.1, hw2.2.2.2⟩ r1 hr1) rfl fun a w hz2 hI hA => 
        stp hA (r_not hA rfl) rfl fun a hA => ?_
      refine o_nil ?_
      refine hN12 _ _ ?_
      refine w_cond hA rfl (fun hc3 => ?_) (fun hc3 => ?_)
      · have hc30 := hc3; have hc3 := nT hc3; have hc3 := ft hc3; have H := bF H hc3
        refine w_seq fun _ hN13 => ?_
        refine w_reg ?_
        refine stp hA (r_as hA rfl) rfl fun a hA => ?_
        refine o_nil ?_
        refine hN13 _ _ ?_
        refine w_ret ?_
        have H : some false = some z1 := H
        obtain rfl := Option.some.inj H
        have H := Hk1
        obtain rfl := Option.some.inj (bS H)
        exact ret1 hA Tryd.results110 rfl ⟨_, rfl, rfl, trivial, hI.forget0⟩
      · have hc30 := hc3; have hc3 := nF hc3; have H := bT H hc3
        refine w_skip ?_
        refine hN9 _ _ ?_
        refine w_reg ?_
        refine stp hA (r_add hA rfl rfl) rfl fun a hA => 
          stp hA (r_mv hA rfl) rfl fun a hA => ?_
        refine o_nil ?_
        exact ⟨m1, Nat.lt_succ_self _, IntKind.i64.wrap (s1 + 1), H, (wrap_in _ _), hA.sub ⟨rfl, rfl, rfl, rfl, rfl, rfl, rfl, rfl, trivial⟩, (hI.sel [] (by decide) rfl)⟩
    · have hc20 := hc2; have hc2 := of_decide_eq_false hc2; have H := bF H hc2
      refine w_exit rfl ?_
      refine hN5 _ _ ?_
      refine w_seq fun _ hN14 => ?_
      refine w_reg ?_
      refine stp hA (r_as hA rfl) rfl fun a hA => ?_
      refine o_nil ?_
      refine hN14 _ _ ?_
      refine w_ret ?_
      have H : some true = some z1 := H
      obtain rfl := Option.some.inj H
      have H := Hk1
      obtain rfl := Option.some.inj (bS H)
      exact ret1 hA Tryd.results110 rfl ⟨_, rfl, rfl, trivial, hI.forget0⟩
set_option maxRecDepth 20000 in
theorem tx_Same.c (μ : Store) (w0 : World) (hμ : Agr μ w0) (x0 : Tx) (u0_0 : Value) (u0_1 : Value) (hx0 : TxW μ x0 u0_0 u0_1) (x1 : Tx) (u1_0 : Value) (u1_1 : Value) (hx1 : TxW μ x1 u1_0 u1_1) (r : Bool) (H : tx_Same.f x0 x1 = some r) :
    Calls Tryd.prog 55 [.agg [[.int .u32 x0.Version], [u0_0], [u0_1], [.int .u32 x0.Time]].flatten.toArray, .agg [[.int .u32 x1.Version], [u1_0], [u1_1], [.int .u32 x1.Time]].flatten.toArray].toArray w0 (fun e w' => ∃ v, e = .returned v ∧ v = .bool r ∧ True ∧ Iv w0 [] μ μ [] w') := by
  refine enter Tryd.func55 rfl Tryd.ntmps55 rfl fun a hA => ?_
  have hI := Iv.start hμ
  have H := bI H
  refine w_seq fun _ hN1 => ?_
  refine w_reg ?_
  refine o_box [[.int .u32 x0.Version], [u0_0], [u0_1], [.int .u32 x0.Time]] hI hA rfl rfl rfl fun g1 a w hA hI hg1 => 
    o_box [[.int .u32 x1.Version], [u1_0], [u1_1], [.int .u32 x1.Time]] hI hA rfl rfl rfl fun g2 a w hA hI hg2 => 
    stp hA (r_as hA rfl) rfl fun a hA => ?_
  refine o_nil ?_
  refine hN1 _ _ ?_
  obtain ⟨c1, hz1, Hk1⟩ := bB H
  refine w_cut (fun a w => Fr a 31 [(0, .agg [[.int .u32 x0.Version], [u0_0], [u0_1], [.int .u32 x0.Time]].flatten.toArray), (1, .agg [[.int .u32 x1.Version], [u1_0], [u1_1], [.int .u32 x1.Time]].flatten.toArray), (2, .pointer (some ⟨g1, 0, none⟩)), (3, .pointer (some ⟨g2, 0, none⟩)), (4, .bool c1)] ∧ Iv w0 [] μ μ [cel g2 [[.int .u32 x1.Version], [u1_0], [u1_1], [.int .u32 x1.Time]] 68, cel g1 [[.int .u32 x0.Version], [u0_0], [u0_1], [.int .u32 x0.Time]] 68] w) ?_ ?_
  · have H := bI hz1
    refine w_reg ?_
    refine stp hA (r_fd (k := 0) Tryd.underlying68 rfl sz39 hA rfl rfl) rfl fun a hA => 
      stp hA (r_ld1 (j := 1) [] [[u0_0], [u0_1], [.int .u32 x0.Time]] Tryd.underlying39 rfl hI rfl hA rfl rfl) rfl fun a hA => 
      stp hA (r_fd (k := 0) Tryd.underlying68 rfl sz39 hA rfl rfl) rfl fun a hA => 
      stp hA (r_ld1 (j := 0) [] [[u1_0], [u1_1], [.int .u32 x1.Time]] Tryd.underlying39 rfl hI rfl hA rfl rfl) rfl fun a hA => 
      stp hA (r_eql hA rfl rfl) rfl fun a hA => 
      stp hA (r_mv hA rfl) rfl fun a hA => ?_
    rcases Bool.eq_false_or_eq_true (decide (x0.Version = x1.Version)) with hc1 | hc1
    · have hc10 := hc1; have hc1 := of_decide_eq_true hc1; have H := bT H hc1
      refine o_yes hA rfl rfl hc10 <| 
        stp hA (r_fd (k := 3) Tryd.underlying68 rfl sz39 hA rfl rfl) rfl fun a hA => 
        o_yes hA rfl rfl hc10 <| 
        stp hA (r_ld1 (j := 1) [[.int .u32 x0.Version], [u0_0], [u0_1]] [] Tryd.underlying39 rfl hI rfl hA rfl rfl) rfl fun a hA => 
        o_yes hA rfl rfl hc10 <| 
        stp hA (r_fd (k := 3) Tryd.underlying68 rfl sz39 hA rfl rfl) rfl fun a hA => 
        o_yes hA rfl rfl hc10 <| 
        stp hA (r_ld1 (j := 0) [[.int .u32 x1.Version], [u1_0], [u1_1]] [] Tryd.underlying39 rfl hI rfl hA rfl rfl) rfl fun a hA => 
        o_yes hA rfl rfl hc10 <| 
        stp hA (r_eql hA rfl rfl) rfl fun a hA => 
        stp hA (r_pick_t hA rfl hc10 rfl) rfl fun a hA => 
        stp hA (r_mv hA rfl) rfl fun a hA => ?_
      rcases Bool.eq_false_or_eq_true (decide (x0.Time = x1.Time)) with hc2 | hc2
      · have hc20 := hc2; have hc2 := of_decide_eq_true hc2; have H := bT H hc2
        refine o_yes hA rfl rfl hc20 <| 
          stp hA (r_fd (k := 2) Tryd.underlying68 rfl sz66 hA rfl rfl) rfl fun a hA => 
          o_yes hA rfl rfl hc20 <| 
          stp hA (r_ld1 (j := 1) [[.int .u32 x0.Version], [u0_0]] [[.int .u32 x0.Time]] Tryd.underlying66 rfl hI rfl hA rfl rfl) rfl fun a hA => 
          o_yes hA rfl rfl hc20 <| 
          stp hA (r_fd (k := 2) Tryd.underlying68 rfl sz66 hA rfl rfl) rfl fun a hA => 
          o_yes hA rfl rfl hc20 <| 
          stp hA (r_ld1 (j := 0) [[.int .u32 x1.Version], [u1_0]] [[.int .u32 x1.Time]] Tryd.underlying66 rfl hI rfl hA rfl rfl) rfl fun a hA => 
          o_yes hA rfl rfl hc20 <| ?_
        obtain ⟨r1, hr1, H⟩ := bB H
        refine o_callp (u := .bool r1) cf109 hA rfl hI (slices_Equal_api_Out_api_Out.c μ _ hI.agr x0.Outs u0_1 hx0.2.2.1 x1.Outs u1_1 hx1.2.2.1 r1 hr1) rfl fun a w hz2 hI hA => 
          stp hA (r_pick_t hA rfl hc20 rfl) rfl fun a hA => 
          stp hA (r_mv hA rfl) rfl fun a hA => ?_
        rcases Bool.eq_false_or_eq_true r1 with hc3 | hc3
        · have hc30 := hc3; have H := bT H hc3
          refine o_yes hA rfl rfl hc30 <| 
            stp hA (r_fd (k := 1) Tryd.underlying68 rfl sz63 hA rfl rfl) rfl fun a hA => 
            o_yes hA rfl rfl hc30 <| 
            stp hA (r_ld1 (j := 1) [[.int .u32 x0.Version]] [[u0_1], [.int .u32 x0.Time]] Tryd.underlying63 rfl hI rfl hA rfl rfl) rfl fun a hA => 
            o_yes hA rfl rfl hc30 <| 
            stp hA (r_fd (k := 1) Tryd.underlying68 rfl sz63 hA rfl rfl) rfl fun a hA => 
            o_yes hA rfl rfl hc30 <| 
            stp hA (r_ld1 (j := 0) [[.int .u32 x1.Version]] [[u1_1], [.int .u32 x1.Time]] Tryd.underlying63 rfl hI rfl hA rfl rfl) rfl fun a hA => 
            o_yes hA rfl rfl hc30 <| ?_
          obtain ⟨r2, hr2, H⟩ := bB H
          refine o_callp (u := .bool r2) cf110 hA rfl hI (slices_EqualFunc_api_In_api_In_api_In_api_In_at_tx_Same_1.c μ _ hI.agr x0.Ins u0_0 hx0.2.1 x1.Ins u1_0 hx1.2.1 r2 hr2) rfl fun a w hz3 hI hA => 
            stp hA (r_pick_t hA rfl hc30 rfl) rfl fun a hA => 
            stp hA (r_as hA rfl) rfl fun a hA => ?_
          refine o_nil ?_
          cases Option.some.inj (bS H)
          exact ⟨hA.sub ⟨rfl, rfl, rfl, rfl, rfl, trivial⟩, hI⟩
        · have hc30 := hc3; have hc3 := ft hc3; have H := bF H hc3
          refine o_no hA rfl rfl (by rw [hc30]; simp [vb]) rfl fun a hA => 
            o_no hA rfl rfl (by rw [hc30]; simp [vb]) rfl fun a hA => 
            o_no hA rfl rfl (by rw [hc30]; simp [vb]) rfl fun a hA => 
            o_no hA rfl rfl (by rw [hc30]; simp [vb]) rfl fun a hA => 
            o_no hA rfl rfl (by rw [hc30]; simp [vb]) rfl fun a hA => 
            stp hA (r_pick_f hA rfl hc30 rfl) rfl fun a hA => 
            stp hA (r_as hA rfl) rfl fun a hA => ?_
          refine o_nil ?_
          cases Option.some.inj (bS H)
          exact ⟨hA.sub ⟨rfl, rfl, rfl, rfl, rfl, trivial⟩, hI⟩
      · have hc20 := hc2; have hc2 := of_decide_eq_false hc2; have H := bF H hc2
        refine o_no hA rfl rfl (by rw [hc20]; simp [vb]) rfl fun a hA => 
          o_no hA rfl rfl (by rw [hc20]; simp [vb]) rfl fun a hA => 
          o_no hA rfl rfl (by rw [hc20]; simp [vb]) rfl fun a hA => 
          o_no hA rfl rfl (by rw [hc20]; simp [vb]) rfl fun a hA => 
          o_no hA rfl rfl (by rw [hc20]; simp [vb]) rfl fun a hA => 
          stp hA (r_pick_f hA rfl hc20 rfl) rfl fun a hA => 
          stp hA (r_mv hA rfl) rfl fun a hA => 
          o_no hA rfl rfl (by simp [vb]) rfl fun a hA => 
          o_no hA rfl rfl (by simp [vb]) rfl fun a hA => 
          o_no hA rfl rfl (by simp [vb]) rfl fun a hA => 
          o_no hA rfl rfl (by simp [vb]) rfl fun a hA => 
          o_no hA rfl rfl (by simp [vb]) rfl fun a hA => 
          stp hA (r_pick_f hA rfl rfl rfl) rfl fun a hA => 
          stp hA (r_as hA rfl) rfl fun a hA => ?_
        refine o_nil ?_
        cases Option.some.inj (bS H)
        exact ⟨hA.sub ⟨rfl, rfl, rfl, rfl, rfl, trivial⟩, hI⟩
    · have hc10 := hc1; have hc1 := of_decide_eq_false hc1; have H := bF H hc1
      refine o_no hA rfl rfl (by rw [hc10]; simp [vb]) rfl fun a hA => 
        o_no hA rfl rfl (by rw [hc10]; simp [vb]) rfl fun a hA => 
        o_no hA rfl rfl (by rw [hc10]; simp [vb]) rfl fun a hA => 
        o_no hA rfl rfl (by rw [hc10]; simp [vb]) rfl fun a hA => 
        o_no hA rfl rfl (by rw [hc10]; simp [vb]) rfl fun a hA => 
        stp hA (r_pick_f hA rfl hc10 rfl) rfl fun a hA => 
        stp hA (r_mv hA rfl) rfl fun a hA => 
        o_no hA rfl rfl (by simp [vb]) rfl fun a hA => 
        o_no hA rfl rfl (by simp [vb]) rfl fun a hA => 
        o_no hA rfl rfl (by simp [vb]) rfl fun a hA => 
        o_no hA rfl rfl (by simp [vb]) rfl fun a hA => 
        o_no hA rfl rfl (by simp [vb]) rfl fun a hA => 
        stp hA (r_pick_f hA rfl rfl rfl) rfl fun a hA => 
        stp hA (r_mv hA rfl) rfl fun a hA => 
        o_no hA rfl rfl (by simp [vb]) rfl fun a hA => 
        o_no hA rfl rfl (by simp [vb]) rfl fun a hA => 
        o_no hA rfl rfl (by simp [vb]) rfl fun a hA => 
        o_no hA rfl rfl (by simp [vb]) rfl fun a hA => 
        o_no hA rfl rfl (by simp [vb]) rfl fun a hA => 
        stp hA (r_pick_f hA rfl rfl rfl) rfl fun a hA => 
        stp hA (r_as hA rfl) rfl fun a hA => ?_
      refine o_nil ?_
      cases Option.some.inj (bS H)
      exact ⟨hA.sub ⟨rfl, rfl, rfl, rfl, rfl, trivial⟩, hI⟩
  · rintro a w ⟨hA, hI⟩
    have H := Hk1
    refine w_ret ?_
    obtain rfl := Option.some.inj (bS H)
    exact ret1 hA Tryd.results55 rfl ⟨_, rfl, rfl, trivial, hI.forget0⟩
set_option maxRecDepth 20000 in
theorem sargassoref1_TxBytes.c (μ : Store) (w0 : World) (hμ : Agr μ w0) (x0 : Tx) (u0_0 : Value) (u0_1 : Value) (hx0 : TxW μ x0 u0_0 u0_1) (r : List Int) (H : sargassoref1_TxBytes.f x0 = some r) :
    Calls Tryd.prog 56 [.agg [[.int .u32 x0.Version], [u0_0], [u0_1], [.int .u32 x0.Time]].flatten.toArray].toArray w0 (fun e w' => ∃ v, e = .returned v ∧ ∃ (v0 : Value) (c0 : List Value), v = v0 ∧ Els (RI .u8) 1 r c0 ∧ Iv w0 [] μ μ [row 5 1 v0 r.length c0] w') := by
  refine enter Tryd.func56 rfl Tryd.ntmps56 rfl fun a hA => ?_
  have hI := Iv.start hμ
  have H := bI H
  refine w_seq fun _ hN1 => ?_
  refine w_reg ?_
  refine o_box [[.int .u32 x0.Version], [u0_0], [u0_1], [.int .u32 x0.Time]] hI hA rfl rfl rfl fun g1 a w hA hI hg1 => 
    stp hA (r_as hA rfl) rfl fun a hA => ?_
  refine o_nil ?_
  refine hN1 _ _ ?_
  refine w_seq fun _ hN2 => ?_
  refine w_anyS [] mo (fun w (h : Iv w0 [] μ μ [cel g1 [[.int .u32 x0.Version], [u0_0], [u0_1], [.int .u32 x0.Time]] 68] w) => (h.sel [0] (by decide) rfl : Iv w0 [] μ μ [cel g1 [[.int .u32 x0.Version], [u0_0], [u0_1], [.int .u32 x0.Time]] 68] w)) hI fun w hI => ?_
  refine g_easy (i := 0) hA rfl rfl (by kernel_rfl) (.inr hI) (fun _ => r_fd (k := 0) Tryd.underlying68 rfl sz39 hA rfl rfl) rfl fun a hA => ?_
  refine g_take (i := 1) hA rfl rfl (by kernel_rfl) hI (fun w hI => r_ld1 (j := 0) [] [[u0_0], [u0_1], [.int .u32 x0.Time]] Tryd.underlying39 rfl hI rfl hA rfl rfl) rfl fun a hA => ?_
  refine g_easy (i := 3) hA rfl rfl (by kernel_rfl) (.inr hI) (fun _ => r_fd (k := 1) Tryd.underlying68 rfl sz63 hA rfl rfl) rfl fun a hA => ?_
  refine g_take (i := 4) hA rfl rfl (by kernel_rfl) hI (fun w hI => r_ld1 (j := 0) [[.int .u32 x0.Version]] [[u0_1], [.int .u32 x0.Time]] Tryd.underlying63 rfl hI rfl hA rfl rfl) rfl fun a hA => ?_
  obtain ⟨_, hsl1⟩ := Slc.sv hx0.2.1
  refine g_easy (i := 5) hA rfl rfl (by kernel_rfl) (.inr hI) (fun _ => r_slen Tryd.underlying63 hsl1 hA rfl) rfl fun a hA => ?_
  refine g_easy (i := 6) hA rfl rfl (by kernel_rfl) (.inr hI) (fun _ => r_conv Tryd.underlying3 Tryd.underlying22 hA rfl) rfl fun a hA => ?_
  refine g_forced (i := 2) rfl (by kernel_rfl) ?_
  have hI := hI.nilRow 5 1
  obtain ⟨r1, hr1, H⟩ := bB H
  refine o_call _ cf114 hA rfl (sargassoref1_Four.c μ _ hI.agr ([]) (.slice none 0 0) ([]) (Els.nil (RE := (RI .u8)) (sz := 1)) (hI.item (j := 0) rfl) x0.Version hx0.1 r1 hr1) rfl fun v1 a w hz1 hA => ?_
  obtain ⟨_, cs1, rfl, hE1, hi1⟩ := hz1
  have hI := hI.call1 0 rfl hi1
  refine o_nil ?_
  refine ⟨(.inr (hI.sel [1] (by decide) rfl)), ?_⟩
  refine g_forced (i := 7) rfl (by kernel_rfl) ?_
  obtain ⟨r2, hr2, H⟩ := bB H
  refine o_call _ cf113 hA rfl (sargassoref1_Put.c μ _ hI.agr r1 v1 cs1 hE1 (hI.item (j := 0) rfl) (IntKind.u64.wrap (x0.Ins.length : Int)) (wrap_in _ _) r2 hr2) rfl fun v2 a w hz2 hA => ?_
  obtain ⟨_, cs2, rfl, hE2, hi2⟩ := hz2
  have hI := hI.call1 0 rfl hi2
  refine o_nil ?_
  refine ⟨(.inr (hI.sel [1] (by decide) rfl)), ?_⟩
  refine g_easy (i := 8) hA rfl rfl (by kernel_rfl) (.inr (hI.sel [1] (by decide) rfl)) (fun _ => r_as hA rfl) rfl fun a hA => ?_
  refine g_nil (by kernel_rfl) ?_
  refine hN2 _ _ ?_
  obtain ⟨c1, hz3, Hk1⟩ := bB H
  refine w_cut (fun a w => ∃ (vvc1 : Value) (ccc1 : List Value), Els (RI .u8) 1 c1 ccc1 ∧ Fr a 81 [(0, .agg [[.int .u32 x0.Version], [u0_0], [u0_1], [.int .u32 x0.Time]].flatten.toArray), (1, .pointer (some ⟨g1, 0, none⟩)), (2, (.slice none 0 0)), (3, vvc1)] ∧ Iv w0 [] μ μ [row 5 1 vvc1 c1.length ccc1, cel g1 [[.int .u32 x0.Version], [u0_0], [u0_1], [.int .u32 x0.Time]] 68] w) ?_ ?_
  · have H := bI hz3
    refine w_seq fun _ hN3 => ?_
    refine w_reg ?_
    refine stp hA (r_as hA rfl) rfl fun a hA => ?_
    refine o_nil ?_
    refine hN3 _ _ ?_
    refine w_block ?_
    obtain ⟨z1, hz4, Hk2⟩ := bind_some H
    obtain ⟨n1, hn1⟩ := loopO_some hz4
    refine w_loop (fun n a w => ∃ (s1 : List Int) (s2 : Int) (vvs1 : Value) (ccs1 : List Value), loopN (sargassoref1_TxBytes.s0 x0) n (s1, s2) = some z1 ∧ Els (RI .u8) 1 s1 ccs1 ∧ InR .i64 s2 ∧ Fr a 81 [(0, .agg [[.int .u32 x0.Version], [u0_0], [u0_1], [.int .u32 x0.Time]].flatten.toArray), (1, .pointer (some ⟨g1, 0, none⟩)), (2, (.slice none 0 0)), (3, vvs1), (4, .int .i64 s2)] ∧ Iv w0 [] μ μ [row 5 1 vvs1 s1.length ccs1, cel g1 [[.int .u32 x0.Version], [u0_0], [u0_1], [.int .u32 x0.Time]] 68] w) n1 ⟨r2, 0, v2, cs2, hn1, hE2, (in_lit .i64 0 rfl), hA.sub ⟨rfl, rfl, rfl, rfl, rfl, trivial⟩, hI⟩ ?_
    clear hA hI
    rintro n a w ⟨s1, s2, vvs1, ccs1, hn1, ws1, ws2, hA, hI⟩
    obtain ⟨m1, rfl, H⟩ := loopN_bind hn1
    clear hn1
    refine w_seq fun _ hN4 => ?_
    refine w_seq fun _ hN5 => ?_
    refine w_reg ?_
    refine stp hA (r_mv hA rfl) rfl fun a hA => 
      stp hA (r_fd (k := 1) Tryd.underlying68 rfl sz63 hA rfl rfl) rfl fun a hA => 
      stp hA (r_ld1 (j := 1) [[.int .u32 x0.Version]] [[u0_1], [.int .u32 x0.Time]] Tryd.underlying63 rfl hI rfl hA rfl rfl) rfl fun a hA => ?_
    obtain ⟨_, hsl2⟩ := Slc.sv hx0.2.1
    refine stp hA (r_slen Tryd.underlying63 hsl2 hA rfl) rfl fun a hA => 
      stp hA (r_lss hA rfl rfl) rfl fun a hA => ?_
    refine o_nil ?_
    refine hN5 _ _ ?_
    refine w_cond hA rfl (fun hc1 => ?_) (fun hc1 => ?_)
    · have hc10 := hc1; have hc1 := of_decide_eq_true hc1; have H := bT H hc1
      refine w_skip ?_
      refine hN4 _ _ ?_
      refine w_seq fun _ hN6 => ?_
      refine w_block ?_
      refine w_seq fun _ hN7 => ?_
      refine w_reg ?_
      refine stp hA (r_fd (k := 1) Tryd.underlying68 rfl sz63 hA rfl rfl) rfl fun a hA => 
        stp hA (r_ld1 (j := 1) [[.int .u32 x0.Version]] [[u0_1], [.int .u32 x0.Time]] Tryd.underlying63 rfl hI rfl hA rfl rfl) rfl fun a hA => 
        stp hA (r_mv hA rfl) rfl fun a hA => ?_
      obtain ⟨hb1, H⟩ := bG H
      obtain ⟨_, he1, _, hat1⟩ := Slc.elem hx0.2.1 (getD_some default hb1.1 hb1.2)
      obtain ⟨v3, rfl, hw1⟩ := he1
      obtain ⟨_, hsl3⟩ := Slc.sv hx0.2.1
      refine stp hA (r_six Tryd.underlying63 sz62 hsl3 hA rfl rfl hb1.1 hb1.2) rfl fun a hA => 
        stp hA (r_ldmA [] [av .u8 32 ((x0.Ins.getD s2.toNat default).From.Tx), [.int .u32 ((x0.Ins.getD s2.toNat default).From.N)], [v3], [.int .u32 ((x0.Ins.getD s2.toNat default).Seq)]] [] Tryd.underlying62 rfl sz62 rfl hI.agr hat1 hA rfl rfl) rfl fun a hA => 
        o_new [av .u8 32 (List.replicate 32 0), [.int .u32 0], [(.slice none 0 0)], [.int .u32 0]] zr62 hI hA rfl fun g2 a w hA hI hg2 => ?_
      obtain ⟨_, hsl4⟩ := Slc.sv hw1.2.2.1
      refine o_st (j := 0) [] [av .u8 32 (List.replicate 32 0), [.int .u32 0], [(.slice none 0 0)], [.int .u32 0]] [av .u8 32 ((x0.Ins.getD s2.toNat default).From.Tx), [.int .u32 ((x0.Ins.getD s2.toNat default).From.N)], [v3], [.int .u32 ((x0.Ins.getD s2.toNat default).Seq)]] [] sz62 rfl rfl (fl_cons (one_av _ _ _) (fl_cons (one_one rfl) (fl_cons (one_one (one_sl hsl4)) (fl_cons (one_one rfl) fl_nil)))) hI rfl hA rfl rfl rfl rfl fun w hI => ?_
      refine o_nil ?_
      refine hN7 _ _ ?_
      refine w_seq fun _ hN8 => ?_
      refine w_reg ?_
      refine stp hA (r_mv hA rfl) rfl fun a hA => 
        stp hA (r_fd (k := 0) Tryd.underlying62 rfl sz60 hA rfl rfl) rfl fun a hA => 
        stp hA (r_fd (k := 0) Tryd.underlying60 rfl sz55 hA rfl rfl) rfl fun a hA => 
        stp hA (r_slv (i := 0) (j := 32) Tryd.underlying55 sz5 hA rfl rfl rfl (by decide) (by decide) (by decide) (by decide) rfl) rfl fun a hA => ?_
      have hE3 := els_av hw1.1
      obtain ⟨hb2, H⟩ := bG H
      have hE4 := ws1.app hE3
      refine o_appL (xs := (s1 : List Int)) (ys := ((x0.Ins.getD s2.toNat default).From.Tx : List Int)) (j := 1) te5 Tryd.underlying23 hI rfl hA rfl rfl (by simpa using src_cel [] [[.int .u32 ((x0.Ins.getD s2.toNat default).From.N)], [v3], [.int .u32 ((x0.Ins.getD s2.toNat default).Seq)]] hI (j := 0) rfl hw1.1 rfl) hE3.len (hE3.ones (one_RI _)) (by first | decide | (have hq := hb2; (try simp only [List.length_cons, List.length_nil] at hq); (try simp only [List.length_cons, List.length_nil]); (try simp only [maxLen]); omega)) (by first | decide | (have hq := hb2; (try simp only [List.length_cons, List.length_nil] at hq); (try simp only [List.length_cons, List.length_nil]); (try simp only [maxLen]); omega)) rfl fun v4 a w hA hI => 
        stp hA (r_as hA rfl) rfl fun a hA => ?_
      refine o_nil ?_
      refine hN8 _ _ ?_
      refine w_seq fun _ hN9 => ?_
      refine w_anyS [] mo (fun w (h : Iv w0 [] μ μ [cel g2 [av .u8 32 ((x0.Ins.getD s2.toNat default).From.Tx), [.int .u32 ((x0.Ins.getD s2.toNat default).From.N)], [v3], [.int .u32 ((x0.Ins.getD s2.toNat default).Seq)]] 62, row 5 1 v4 (s1 ++ ((x0.Ins.getD s2.toNat default).From.Tx)).length (ccs1 ++ ([av .u8 32 ((x0.Ins.getD s2.toNat default).From.Tx)].flatten)), cel g1 [[.int .u32 x0.Version], [u0_0], [u0_1], [.int .u32 x0.Time]] 68] w) => (h.sel [0, 2] (by decide) rfl : Iv w0 [] μ μ [cel g2 [av .u8 32 ((x0.Ins.getD s2.toNat default).From.Tx), [.int .u32 ((x0.Ins.getD s2.toNat default).From.N)], [v3], [.int .u32 ((x0.Ins.getD s2.toNat default).Seq)]] 62, cel g1 [[.int .u32 x0.Version], [u0_0], [u0_1], [.int .u32 x0.Time]] 68] w)) hI fun w hI => ?_
      refine g_easy (i := 0) hA rfl rfl (by kernel_rfl) (.inr (hI.sel [0, 2] (by decide) rfl)) (fun _ => r_mv hA rfl) rfl fun a hA => ?_
      refine g_easy (i := 1) hA rfl rfl (by kernel_rfl) (.inr (hI.sel [0, 2] (by decide) rfl)) (fun _ => r_fd (k := 0) Tryd.underlying62 rfl sz60 hA rfl rfl) rfl fun a hA => ?_
      refine g_easy (i := 2) hA rfl rfl (by kernel_rfl) (.inr (hI.sel [0, 2] (by decide) rfl)) (fun _ => r_fd (k := 32) Tryd.underlying60 rfl sz39 hA rfl rfl) rfl fun a hA => ?_
      refine g_take (i := 3) hA rfl rfl (by kernel_rfl) (hI.sel [0, 2] (by decide) rfl) (fun w hI => r_ld1 (j := 0) [av .u8 32 ((x0.Ins.getD s2.toNat default).From.Tx)] [[v3], [.int .u32 ((x0.Ins.getD s2.toNat default).Seq)]] Tryd.underlying39 rfl hI rfl hA rfl rfl) rfl fun a hA => ?_
      refine g_easy (i := 5) hA rfl rfl (by kernel_rfl) (.inr (hI.sel [0, 2] (by decide) rfl)) (fun _ => r_fd (k := 33) Tryd.underlying62 rfl sz23 hA rfl rfl) rfl fun a hA => ?_
      refine g_take (i := 6) hA rfl rfl (by kernel_rfl) (hI.sel [0, 2] (by decide) rfl) (fun w hI => r_ld1 (j := 0) [av .u8 32 ((x0.Ins.getD s2.toNat default).From.Tx), [.int .u32 ((x0.Ins.getD s2.toNat default).From.N)]] [[.int .u32 ((x0.Ins.getD s2.toNat default).Seq)]] Tryd.underlying23 rfl hI rfl hA rfl rfl) rfl fun a hA => ?_
      obtain ⟨_, hsl5⟩ := Slc.sv hw1.2.2.1
      refine g_easy (i := 7) hA rfl rfl (by kernel_rfl) (.inr (hI.sel [0, 2] (by decide) rfl)) (fun _ => r_slen Tryd.underlying23 hsl5 hA rfl) rfl fun a hA => ?_
      refine g_easy (i := 8) hA rfl rfl (by kernel_rfl) (.inr (hI.sel [0, 2] (by decide) rfl)) (fun _ => r_conv Tryd.underlying3 Tryd.underlying22 hA rfl) rfl fun a hA => ?_
      refine g_forced (i := 4) rfl (by kernel_rfl) ?_
      obtain ⟨r3, hr3, H⟩ := bB H
      refine o_call _ cf114 hA rfl (sargassoref1_Four.c μ _ hI.agr (s1 ++ ((x0.Ins.getD s2.toNat default).From.Tx)) v4 (ccs1 ++ ([av .u8 32 ((x0.Ins.getD s2.toNat default).From.Tx)].flatten)) hE4 (hI.item (j := 1) rfl) ((x0.Ins.getD s2.toNat default).From.N) hw1.2.1 r3 hr3) rfl fun v5 a w hz5 hA => ?_
      obtain ⟨_, cs5, rfl, hE5, hi3⟩ := hz5
      have hI := hI.call1 1 rfl hi3
      refine o_nil ?_
      refine ⟨(.inr (hI.sel [1, 2] (by decide) rfl)), ?_⟩
      refine g_forced (i := 9) rfl (by kernel_rfl) ?_
      obtain ⟨r4, hr4, H⟩ := bB H
      refine o_call _ cf113 hA rfl (sargassoref1_Put.c μ _ hI.agr r3 v5 cs5 hE5 (hI.item (j := 0) rfl) (IntKind.u64.wrap (((x0.Ins.getD s2.toNat default).Key).length : Int)) (wrap_in _ _) r4 hr4) rfl fun v6 a w hz6 hA => ?_
      obtain ⟨_, cs6, rfl, hE6, hi4⟩ := hz6
      have hI := hI.call1 0 rfl hi4
      refine o_nil ?_
      refine ⟨(.inr (hI.sel [1, 2] (by decide) rfl)), ?_⟩
      refine g_easy (i := 10) hA rfl rfl (by kernel_rfl) (.inr (hI.sel [1, 2] (by decide) rfl)) (fun _ => r_as hA rfl) rfl fun a hA => ?_
      refine g_nil (by kernel_rfl) ?_
      refine hN9 _ _ ?_
      refine w_anyS [] mo (fun w (h : Iv w0 [] μ μ [row 5 1 v6 r4.length cs6, cel g2 [av .u8 32 ((x0.Ins.getD s2.toNat default).From.Tx), [.int .u32 ((x0.Ins.getD s2.toNat default).From.N)], [v3], [.int .u32 ((x0.Ins.getD s2.toNat default).Seq)]] 62, cel g1 [[.int .u32 x0.Version], [u0_0], [u0_1], [.int .u32 x0.Time]] 68] w) => (h.sel [1, 2] (by decide) rfl : Iv w0 [] μ μ [cel g2 [av .u8 32 ((x0.Ins.getD s2.toNat default).From.Tx), [.int .u32 ((x0.Ins.getD s2.toNat default).From.N)], [v3], [.int .u32 ((x0.Ins.getD s2.toNat default).Seq)]] 62, cel g1 [[.int .u32 x0.Version], [u0_0], [u0_1], [.int .u32 x0.Time]] 68] w)) hI fun w hI => ?_
      refine g_easy (i := 0) hA rfl rfl (by kernel_rfl) (.inr (hI.sel [1, 2] (by decide) rfl)) (fun _ => r_mv hA rfl) rfl fun a hA => ?_
      refine g_easy (i := 1) hA rfl rfl (by kernel_rfl) (.inr (hI.sel [1, 2] (by decide) rfl)) (fun _ => r_fd (k := 33) Tryd.underlying62 rfl sz23 hA rfl rfl) rfl fun a hA => ?_
      refine g_take (i := 2) hA rfl rfl (by kernel_rfl) (hI.sel [1, 2] (by decide) rfl) (fun w hI => r_ld1 (j := 0) [av .u8 32 ((x0.Ins.getD s2.toNat default).From.Tx), [.int .u32 ((x0.Ins.getD s2.toNat default).From.N)]] [[.int .u32 ((x0.Ins.getD s2.toNat default).Seq)]] Tryd.underlying23 rfl hI rfl hA rfl rfl) rfl fun a hA => ?_
      refine g_easy (i := 4) hA rfl rfl (by kernel_rfl) (.inr (hI.sel [1, 2] (by decide) rfl)) (fun _ => r_fd (k := 34) Tryd.underlying62 rfl sz39 hA rfl rfl) rfl fun a hA => ?_
      refine g_take (i := 5) hA rfl rfl (by kernel_rfl) (hI.sel [1, 2] (by decide) rfl) (fun w hI => r_ld1 (j := 0) [av .u8 32 ((x0.Ins.getD s2.toNat default).From.Tx), [.int .u32 ((x0.Ins.getD s2.toNat default).From.N)], [v3]] [] Tryd.underlying39 rfl hI rfl hA rfl rfl) rfl fun a hA => ?_
      refine g_forced (i := 3) rfl (by kernel_rfl) ?_
      obtain ⟨cs7, hE7, hsv2⟩ : Slc (RI .u8) 1 μ v3 ((x0.Ins.getD s2.toNat default).Key) := id (hw1.2.2.1)
      obtain ⟨hb3, H⟩ := bG H
      have hE8 := hE6.app hE7
      refine o_appL (xs := (r4 : List Int)) (ys := ((x0.Ins.getD s2.toNat default).Key : List Int)) (j := 0) te5 Tryd.underlying23 hI rfl hA rfl rfl (src_sl hI.agr hsv2 hE7.len) hE7.len (hE7.ones (one_RI _)) (by first | decide | (have hq := hb3; (try simp only [List.length_cons, List.length_nil] at hq); (try simp only [List.length_cons, List.length_nil]); (try simp only [maxLen]); omega)) (by first | decide | (have hq := hb3; (try simp only [List.length_cons, List.length_nil] at hq); (try simp only [List.length_cons, List.length_nil]); (try simp only [maxLen]); omega)) rfl fun v7 a w hA hI => ?_
      refine o_nil ?_
      refine ⟨(.inr (hI.sel [1, 2] (by decide) rfl)), ?_⟩
      refine g_forced (i := 6) rfl (by kernel_rfl) ?_
      obtain ⟨r5, hr5, H⟩ := bB H
      refine o_call _ cf114 hA rfl (sargassoref1_Four.c μ _ hI.agr (r4 ++ ((x0.Ins.getD s2.toNat default).Key)) v7 (cs6 ++ cs7) hE8 (hI.item (j := 0) rfl) ((x0.Ins.getD s2.toNat default).Seq) hw1.2.2.2 r5 hr5) rfl fun v8 a w hz7 hA => ?_
      obtain ⟨_, cs9, rfl, hE9, hi5⟩ := hz7
      have hI := hI.call1 0 rfl hi5
      refine o_nil ?_
      refine ⟨(.inr (hI.sel [1, 2] (by decide) rfl)), ?_⟩
      refine g_easy (i := 7) hA rfl rfl (by kernel_rfl) (.inr (hI.sel [1, 2] (by decide) rfl)) (fun _ => r_as hA rfl) rfl fun a hA => ?_
      refine g_nil (by kernel_rfl) ?_
      refine hN6 _ _ ?_
      refine w_reg ?_
      refine stp hA (r_mv hA rfl) rfl fun a hA => 
        stp hA (r_add hA rfl rfl) rfl fun a hA => 
        stp hA (r_as hA rfl) rfl fun a hA => ?_
      refine o_nil ?_
      exact ⟨m1, Nat.lt_succ_self _, r5, IntKind.i64.wrap (s2 + 1), v8, cs9, H, hE9, (wrap_in _ _), hA.sub ⟨rfl, rfl, rfl, rfl, rfl, trivial⟩, (hI.sel [0, 2] (by decide) rfl)⟩
    · have hc10 := hc1; have hc1 := of_decide_eq_false hc1; have H := bF H hc1
      refine w_exit rfl ?_
      have H : some s1 = some z1 := H
      obtain rfl := Option.some.inj H
      have H := Hk2
      cases Option.some.inj (bS H)
      exact ⟨vvs1, ccs1, ws1, hA.sub ⟨rfl, rfl, rfl, rfl, trivial⟩, hI⟩
  · rintro a w ⟨vvc1, ccc1, wc1, hA, hI⟩
    have H := Hk1
    refine w_seq fun _ hN10 => ?_
    refine w_reg ?_
    refine stp hA (r_mv hA rfl) rfl fun a hA => 
      stp hA (r_fd (k := 2) Tryd.underlying68 rfl sz66 hA rfl rfl) rfl fun a hA => 
      stp hA (r_ld1 (j := 1) [[.int .u32 x0.Version], [u0_0]] [[.int .u32 x0.Time]] Tryd.underlying66 rfl hI rfl hA rfl rfl) rfl fun a hA => ?_
    obtain ⟨_, hsl6⟩ := Slc.sv hx0.2.2.1
    refine stp hA (r_slen Tryd.underlying66 hsl6 hA rfl) rfl fun a hA => 
      stp hA (r_conv Tryd.underlying3 Tryd.underlying22 hA rfl) rfl fun a hA => ?_
    obtain ⟨r6, hr6, H⟩ := bB H
    refine o_call _ cf113 hA rfl (sargassoref1_Put.c μ _ hI.agr c1 vvc1 ccc1 wc1 (hI.item (j := 0) rfl) (IntKind.u64.wrap (x0.Outs.length : Int)) (wrap_in _ _) r6 hr6) rfl fun v9 a w hz8 hA => ?_
    obtain ⟨_, cs10, rfl, hE10, hi6⟩ := hz8
    have hI := hI.call1 0 rfl hi6
    refine stp hA (r_as hA rfl) rfl fun a hA => ?_
    refine o_nil ?_
    refine hN10 _ _ ?_
    obtain ⟨c2, hz9, Hk3⟩ := bB H
    refine w_cut (fun a w => ∃ (vvc2 : Value) (ccc2 : List Value), Els (RI .u8) 1 c2 ccc2 ∧ Fr a 81 [(0, .agg [[.int .u32 x0.Version], [u0_0], [u0_1], [.int .u32 x0.Time]].flatten.toArray), (1, .pointer (some ⟨g1, 0, none⟩)), (2, (.slice none 0 0)), (3, vvc2)] ∧ Iv w0 [] μ μ [row 5 1 vvc2 c2.length ccc2, cel g1 [[.int .u32 x0.Version], [u0_0], [u0_1], [.int .u32 x0.Time]] 68] w) ?_ ?_
    · have H := bI hz9
      refine w_seq fun _ hN11 => ?_
      refine w_reg ?_
      refine stp hA (r_as hA rfl) rfl fun a hA => ?_
      refine o_nil ?_
      refine hN11 _ _ ?_
      refine w_block ?_
      obtain ⟨z2, hz10, Hk4⟩ := bind_some H
      obtain ⟨n2, hn2⟩ := loopO_some hz10
      refine w_loop (fun n a w => ∃ (s3 : List Int) (s4 : Int) (vvs3 : Value) (ccs3 : List Value), loopN (sargassoref1_TxBytes.s1 x0) n (s3, s4) = some z2 ∧ Els (RI .u8) 1 s3 ccs3 ∧ InR .i64 s4 ∧ Fr a 81 [(0, .agg [[.int .u32 x0.Version], [u0_0], [u0_1], [.int .u32 x0.Time]].flatten.toArray), (1, .pointer (some ⟨g1, 0, none⟩)), (2, (.slice none 0 0)), (3, vvs3), (6, .int .i64 s4)] ∧ Iv w0 [] μ μ [row 5 1 vvs3 s3.length ccs3, cel g1 [[.int .u32 x0.Version], [u0_0], [u0_1], [.int .u32 x0.Time]] 68] w) n2 ⟨r6, 0, v9, cs10, hn2, hE10, (in_lit .i64 0 rfl), hA.sub ⟨rfl, rfl, rfl, rfl, rfl, trivial⟩, hI⟩ ?_
      clear hA hI
      rintro n a w ⟨s3, s4, vvs3, ccs3, hn2, ws3, ws4, hA, hI⟩
      obtain ⟨m2, rfl, H⟩ := loopN_bind hn2
      clear hn2
      refine w_seq fun _ hN12 => ?_
      refine w_seq fun _ hN13 => ?_
      refine w_reg ?_
      refine stp hA (r_mv hA rfl) rfl fun a hA => 
        stp hA (r_fd (k := 2) Tryd.underlying68 rfl sz66 hA rfl rfl) rfl fun a hA => 
        stp hA (r_ld1 (j := 1) [[.int .u32 x0.Version], [u0_0]] [[.int .u32 x0.Time]] Tryd.underlying66 rfl hI rfl hA rfl rfl) rfl fun a hA => ?_
      obtain ⟨_, hsl7⟩ := Slc.sv hx0.2.2.1
      refine stp hA (r_slen Tryd.underlying66 hsl7 hA rfl) rfl fun a hA => 
        stp hA (r_lss hA rfl rfl) rfl fun a hA => ?_
      refine o_nil ?_
      refine hN13 _ _ ?_
      refine w_cond hA rfl (fun hc2 => ?_) (fun hc2 => ?_)
      · have hc20 := hc2; have hc2 := of_decide_eq_true hc2; have H := bT H hc2
        refine w_skip ?_
        refine hN12 _ _ ?_
        refine w_seq fun _ hN14 => ?_
        refine w_block ?_
        refine w_anyS [] mo (fun w (h : Iv w0 [] μ μ [row 5 1 vvs3 s3.length ccs3, cel g1 [[.int .u32 x0.Version], [u0_0], [u0_1], [.int .u32 x0.Time]] 68] w) => (h.sel [1] (by decide) rfl : Iv w0 [] μ μ [cel g1 [[.int .u32 x0.Version], [u0_0], [u0_1], [.int .u32 x0.Time]] 68] w)) hI fun w hI => ?_
        refine g_easy (i := 0) hA rfl rfl (by kernel_rfl) (.inr (hI.sel [1] (by decide) rfl)) (fun _ => r_mv hA rfl) rfl fun a hA => ?_
        refine g_easy (i := 1) hA rfl rfl (by kernel_rfl) (.inr (hI.sel [1] (by decide) rfl)) (fun _ => r_fd (k := 2) Tryd.underlying68 rfl sz66 hA rfl rfl) rfl fun a hA => ?_
        refine g_take (i := 2) hA rfl rfl (by kernel_rfl) (hI.sel [1] (by decide) rfl) (fun w hI => r_ld1 (j := 0) [[.int .u32 x0.Version], [u0_0]] [[.int .u32 x0.Time]] Tryd.underlying66 rfl hI rfl hA rfl rfl) rfl fun a hA => ?_
        refine g_easy (i := 3) hA rfl rfl (by kernel_rfl) (.inr (hI.sel [1] (by decide) rfl)) (fun _ => r_mv hA rfl) rfl fun a hA => ?_
        obtain ⟨hb4, H⟩ := bG H
        obtain ⟨_, he2, _, hat2⟩ := Slc.elem hx0.2.2.1 (getD_some default hb4.1 hb4.2)
        obtain ⟨rfl, hw2⟩ := he2
        obtain ⟨_, hsl8⟩ := Slc.sv hx0.2.2.1
        refine g_easy (i := 4) hA rfl rfl (by kernel_rfl) (.inr (hI.sel [1] (by decide) rfl)) (fun _ => r_six Tryd.underlying66 sz65 hsl8 hA rfl rfl hb4.1 hb4.2) rfl fun a hA => ?_
        refine g_easy (i := 5) hA rfl rfl (by kernel_rfl) (.inr (hI.sel [1] (by decide) rfl)) (fun _ => r_fd (k := so u0_1 + s4.toNat * 33) Tryd.underlying65 rfl sz22 hA rfl rfl) rfl fun a hA => ?_
        refine g_take (i := 6) hA rfl rfl (by kernel_rfl) (hI.sel [1] (by decide) rfl) (fun w hI => r_ldm1 [] [av .u8 32 ((x0.Outs.getD s4.toNat default).Lock)] Tryd.underlying22 rfl hI.agr hat2 hA rfl rfl) rfl fun a hA => ?_
        refine g_easy (i := 8) hA rfl rfl (by kernel_rfl) (.inr (hI.sel [1] (by decide) rfl)) (fun _ => r_fd (k := 2) Tryd.underlying68 rfl sz66 hA rfl rfl) rfl fun a hA => ?_
        refine g_take (i := 9) hA rfl rfl (by kernel_rfl) (hI.sel [1] (by decide) rfl) (fun w hI => r_ld1 (j := 0) [[.int .u32 x0.Version], [u0_0]] [[.int .u32 x0.Time]] Tryd.underlying66 rfl hI rfl hA rfl rfl) rfl fun a hA => ?_
        refine g_easy (i := 10) hA rfl rfl (by kernel_rfl) (.inr (hI.sel [1] (by decide) rfl)) (fun _ => r_mv hA rfl) rfl fun a hA => ?_
        refine g_easy (i := 11) hA rfl rfl (by kernel_rfl) (.inr (hI.sel [1] (by decide) rfl)) (fun _ => r_six Tryd.underlying66 sz65 hsl8 hA rfl rfl hb4.1 hb4.2) rfl fun a hA => ?_
        refine g_easy (i := 12) hA rfl rfl (by kernel_rfl) (.inr (hI.sel [1] (by decide) rfl)) (fun _ => r_fd (k := so u0_1 + s4.toNat * 33 + 1) Tryd.underlying65 rfl sz55 hA rfl rfl) rfl fun a hA => ?_
        obtain ⟨v10, hS1, hr7⟩ := r_sla (b := 0) (P := Tryd.prog) (t := 55) (x := .tmp 74) (l := none) (h := none) (i := 0) (j := 32) Tryd.underlying55 sz5 (at_in [[.int .u64 ((x0.Outs.getD s4.toNat default).Value)]] [av .u8 32 ((x0.Outs.getD s4.toNat default).Lock)] [] hat2 rfl) hw2.2 (by decide) hA rfl rfl rfl (by omega) (by omega) (by omega)
        refine g_easy (i := 13) hA rfl rfl (by kernel_rfl) (.inr (hI.sel [1] (by decide) rfl)) (fun _ => hr7 _ _ _ _ _ _) rfl fun a hA => ?_
        refine g_forced (i := 7) rfl (by kernel_rfl) ?_
        obtain ⟨r7, hr8, H⟩ := bB H
        refine o_call _ cf115 hA rfl (sargassoref1_Eight.c μ _ hI.agr s3 vvs3 ccs3 ws3 (hI.item (j := 0) rfl) ((x0.Outs.getD s4.toNat default).Value) hw2.1 r7 hr8) rfl fun v11 a w hz11 hA => ?_
        obtain ⟨_, cs11, rfl, hE11, hi7⟩ := hz11
        have hI := hI.call1 0 rfl hi7
        refine o_nil ?_
        refine ⟨(.inr (hI.sel [1] (by decide) rfl)), ?_⟩
        refine g_forced (i := 14) rfl (by kernel_rfl) ?_
        obtain ⟨cs12, hE12, hsv3⟩ : Slc (RI .u8) 1 μ v10 ((((x0.Outs.getD s4.toNat default).Lock).take (32 : Int).toNat).drop (0 : Int).toNat) := id (hS1)
        obtain ⟨hb5, H⟩ := bG H
        have hE13 := hE11.app hE12
        refine o_appL (xs := (r7 : List Int)) (ys := ((((x0.Outs.getD s4.toNat default).Lock).take (32 : Int).toNat).drop (0 : Int).toNat : List Int)) (j := 0) te5 Tryd.underlying23 hI rfl hA rfl rfl (src_sl hI.agr hsv3 hE12.len) hE12.len (hE12.ones (one_RI _)) (by first | decide | (have hq := hb5; (try simp only [List.length_cons, List.length_nil] at hq); (try simp only [List.length_cons, List.length_nil]); (try simp only [maxLen]); omega)) (by first | decide | (have hq := hb5; (try simp only [List.length_cons, List.length_nil] at hq); (try simp only [List.length_cons, List.length_nil]); (try simp only [maxLen]); omega)) rfl fun v12 a w hA hI => ?_
        refine o_nil ?_
        refine ⟨(.inr (hI.sel [1] (by decide) rfl)), ?_⟩
        refine g_easy (i := 15) hA rfl rfl (by kernel_rfl) (.inr (hI.sel [1] (by decide) rfl)) (fun _ => r_as hA rfl) rfl fun a hA => ?_
        refine g_nil (by kernel_rfl) ?_
        refine hN14 _ _ ?_
        refine w_reg ?_
        refine stp hA (r_mv hA rfl) rfl fun a hA => 
          stp hA (r_add hA rfl rfl) rfl fun a hA => 
          stp hA (r_as hA rfl) rfl fun a hA => ?_
        refine o_nil ?_
        exact ⟨m2, Nat.lt_succ_self _, r7 ++ ((((x0.Outs.getD s4.toNat default).Lock).take (32 : Int).toNat).drop (0 : Int).toNat), IntKind.i64.wrap (s4 + 1), v12, cs11 ++ cs12, H, hE13, (wrap_in _ _), hA.sub ⟨rfl, rfl, rfl, rfl, rfl, trivial⟩, hI⟩
      · have hc20 := hc2; have hc2 := of_decide_eq_false hc2; have H := bF H hc2
        refine w_exit rfl ?_
        have H : some s3 = some z2 := H
        obtain rfl := Option.some.inj H
        have H := Hk4
        cases Option.some.inj (bS H)
        exact ⟨vvs3, ccs3, ws3, hA.sub ⟨rfl, rfl, rfl, rfl, trivial⟩, hI⟩
    · rintro a w ⟨vvc2, ccc2, wc2, hA, hI⟩
      have H := Hk3
      refine w_seq fun _ hN15 => ?_
      refine w_reg ?_
      refine stp hA (r_mv hA rfl) rfl fun a hA => 
        stp hA (r_fd (k := 3) Tryd.underlying68 rfl sz39 hA rfl rfl) rfl fun a hA => 
        stp hA (r_ld1 (j := 1) [[.int .u32 x0.Version], [u0_0], [u0_1]] [] Tryd.underlying39 rfl hI rfl hA rfl rfl) rfl fun a hA => ?_
      obtain ⟨r8, hr9, H⟩ := bB H
      refine o_call _ cf114 hA rfl (sargassoref1_Four.c μ _ hI.agr c2 vvc2 ccc2 wc2 (hI.item (j := 0) rfl) x0.Time hx0.2.2.2 r8 hr9) rfl fun v13 a w hz12 hA => ?_
      obtain ⟨_, cs14, rfl, hE14, hi8⟩ := hz12
      have hI := hI.call1 0 rfl hi8
      refine stp hA (r_as hA rfl) rfl fun a hA => ?_
      refine o_nil ?_
      refine hN15 _ _ ?_
      refine w_ret ?_
      obtain rfl := Option.some.inj (bS H)
      exact ret1 hA Tryd.results56 rfl ⟨_, rfl, v13, cs14, rfl, hE14, ((hI.sel [0] (by decide) rfl).less (Store.le.refl _) hI.le)⟩
set_option maxRecDepth 20000 in
theorem tx_ID.c (μ : Store) (w0 : World) (hμ : Agr μ w0) (x0 : Tx) (u0_0 : Value) (u0_1 : Value) (hx0 : TxW μ x0 u0_0 u0_1) (r : List Int) (H : tx_ID.f x0 = some r) :
    Calls Tryd.prog 57 [.agg [[.int .u32 x0.Version], [u0_0], [u0_1], [.int .u32 x0.Time]].flatten.toArray].toArray w0 (fun e w' => ∃ v, e = .returned v ∧ v = .agg [av .u8 32 r].flatten.toArray ∧ Arr .u8 32 r ∧ Iv w0 [] μ μ [] w') := by
  refine enter Tryd.func57 rfl Tryd.ntmps57 rfl fun a hA => ?_
  have hI := Iv.start hμ
  have H := bI H
  refine w_seq fun _ hN1 => ?_
  refine w_reg ?_
  refine o_box [[.int .u32 x0.Version], [u0_0], [u0_1], [.int .u32 x0.Time]] hI hA rfl rfl rfl fun g1 a w hA hI hg1 => 
    o_new [av .u8 32 (List.replicate 32 0)] zr55 hI hA rfl fun g2 a w hA hI hg2 => ?_
  refine o_nil ?_
  refine hN1 _ _ ?_
  refine w_seq fun _ hN2 => ?_
  refine w_reg ?_
  refine stp hA (r_ldA (j := 1) [] [[.int .u32 x0.Version], [u0_0], [u0_1], [.int .u32 x0.Time]] [] Tryd.underlying68 rfl sz68 rfl hI rfl hA rfl rfl) rfl fun a hA => ?_
  obtain ⟨r1, hr1, H⟩ := bB H
  refine o_call _ cf51 hA rfl (tx_Bytes.c μ _ hI.agr x0 u0_0 u0_1 ⟨hx0.1, hx0.2.1, hx0.2.2.1, hx0.2.2.2⟩ r1 hr1) rfl fun v1 a w hz1 hA => ?_
  obtain ⟨_, cs1, rfl, hE1, hi1⟩ := hz1
  have hI := hI.call hi1
  obtain ⟨r2, hr2, H⟩ := bB H
  refine o_callp (u := .agg [av .u8 32 r2].flatten.toArray) cf116 hA rfl hI ((by obtain ⟨μ1, hle1, hsv1, hI⟩ := hI.freezeRow 0 rfl; have hS1 : Slc (RI .u8) 1 μ1 v1 r1 := ⟨_, hE1, hsv1⟩; exact low_plain hle1 (digest_Twice.c μ1 _ hI.agr r1 v1 hS1 r2 hr2))) rfl fun a w hz2 hI hA => 
    o_st (j := 1) [] [av .u8 32 (List.replicate 32 0)] [av .u8 32 r2] [] sz55 rfl rfl (fl_cons (one_av _ _ _) fl_nil) hI rfl hA rfl rfl rfl rfl fun w hI => ?_
  refine o_nil ?_
  refine hN2 _ _ ?_
  refine w_ret ?_
  obtain rfl := Option.some.inj (bS H)
  exact retc Tryd.underlying55 rfl sz55 rfl hI (j := 1) rfl hA Tryd.results57 rfl ⟨_, rfl, rfl, hz2, hI.forget0⟩
set_option maxRecDepth 20000 in
theorem sargassoref1_Base.c (μ : Store) (w0 : World) (hμ : Agr μ w0) (x0 : Tx) (u0_0 : Value) (u0_1 : Value) (hx0 : TxW μ x0 u0_0 u0_1) (r : Bool) (H : sargassoref1_Base.f x0 = some r) :
    Calls Tryd.prog 59 [.agg [[.int .u32 x0.Version], [u0_0], [u0_1], [.int .u32 x0.Time]].flatten.toArray].toArray w0 (fun e w' => ∃ v, e = .returned v ∧ v = .bool r ∧ True ∧ Iv w0 [] μ μ [] w') := by
  refine enter Tryd.func59 rfl Tryd.ntmps59 rfl fun a hA => ?_
  have hI := Iv.start hμ
  have H := bI H
  refine w_seq fun _ hN1 => ?_
  refine w_reg ?_
  refine o_box [[.int .u32 x0.Version], [u0_0], [u0_1], [.int .u32 x0.Time]] hI hA rfl rfl rfl fun g1 a w hA hI hg1 => 
    stp hA (r_as hA rfl) rfl fun a hA => ?_
  refine o_nil ?_
  refine hN1 _ _ ?_
  obtain ⟨c1, hz1, Hk1⟩ := bB H
  refine w_cut (fun a w => Fr a 16 [(0, .agg [[.int .u32 x0.Version], [u0_0], [u0_1], [.int .u32 x0.Time]].flatten.toArray), (1, .pointer (some ⟨g1, 0, none⟩)), (2, .bool c1)] ∧ Iv w0 [] μ μ [cel g1 [[.int .u32 x0.Version], [u0_0], [u0_1], [.int .u32 x0.Time]] 68] w) ?_ ?_
  · have H := bI hz1
    refine w_any [] mo hI fun w hI => ?_
    refine g_easy (i := 0) hA rfl rfl (by kernel_rfl) (.inr hI) (fun _ => r_fd (k := 1) Tryd.underlying68 rfl sz63 hA rfl rfl) rfl fun a hA => ?_
    refine g_take (i := 1) hA rfl rfl (by kernel_rfl) hI (fun w hI => r_ld1 (j := 0) [[.int .u32 x0.Version]] [[u0_1], [.int .u32 x0.Time]] Tryd.underlying63 rfl hI rfl hA rfl rfl) rfl fun a hA => ?_
    obtain ⟨_, hsl1⟩ := Slc.sv hx0.2.1
    refine g_easy (i := 2) hA rfl rfl (by kernel_rfl) (.inr hI) (fun _ => r_slen Tryd.underlying63 hsl1 hA rfl) rfl fun a hA => ?_
    refine g_easy (i := 3) hA rfl rfl (by kernel_rfl) (.inr hI) (fun _ => r_eql hA rfl rfl) rfl fun a hA => ?_
    refine g_easy (i := 4) hA rfl rfl (by kernel_rfl) (.inr hI) (fun _ => r_mv hA rfl) rfl fun a hA => ?_
    rcases Bool.eq_false_or_eq_true (decide ((x0.Ins.length : Int) = 1)) with hc1 | hc1
    · have hc10 := hc1; have hc1 := of_decide_eq_true hc1; have H := bT H hc1
      refine g_easy (i := 5) hA rfl (wanted_yes hA rfl rfl hc10) (by kernel_rfl) (.inr hI) (fun _ => r_fd (k := 1) Tryd.underlying68 rfl sz63 hA rfl rfl) rfl fun a hA => ?_
      refine g_take (i := 6) hA rfl (wanted_yes hA rfl rfl hc10) (by kernel_rfl) hI (fun w hI => r_ld1 (j := 0) [[.int .u32 x0.Version]] [[u0_1], [.int .u32 x0.Time]] Tryd.underlying63 rfl hI rfl hA rfl rfl) rfl fun a hA => ?_
      obtain ⟨hb1, H⟩ := bG H
      obtain ⟨_, he1, _, hat1⟩ := Slc.elem hx0.2.1 (getD_some default (by decide) hb1)
      obtain ⟨v1, rfl, hw1⟩ := he1
      obtain ⟨_, hsl2⟩ := Slc.sv hx0.2.1
      refine g_easy (i := 7) hA rfl (wanted_yes hA rfl rfl hc10) (by kernel_rfl) (.inr hI) (fun _ => r_six Tryd.underlying63 sz62 hsl2 hA rfl rfl (by decide) hb1) rfl fun a hA => ?_
      refine g_easy (i := 8) hA rfl (wanted_yes hA rfl rfl hc10) (by kernel_rfl) (.inr hI) (fun _ => r_fd (k := so u0_0 + (0 : Int).toNat * 35) Tryd.underlying62 rfl sz60 hA rfl rfl) rfl fun a hA => ?_
      refine g_take (i := 9) hA rfl (wanted_yes hA rfl rfl hc10) (by kernel_rfl) hI (fun w hI => r_ldmA [] [av .u8 32 ((x0.Ins.getD (0 : Int).toNat default).From.Tx), [.int .u32 ((x0.Ins.getD (0 : Int).toNat default).From.N)]] [[v1], [.int .u32 ((x0.Ins.getD (0 : Int).toNat default).Seq)]] Tryd.underlying60 rfl sz60 rfl hI.agr hat1 hA rfl rfl) rfl fun a hA => ?_
      refine g_forced (i := 10) rfl (by kernel_rfl) ?_
      refine o_yes hA rfl rfl hc10 <| ?_
      obtain ⟨r1, hr1, H⟩ := bB H
      refine o_callp (u := .agg [av .u8 32 r1.Tx, [.int .u32 r1.N]].flatten.toArray) cf47 hA rfl hI (sargassoref1_Null.c μ _ hI.agr  r1 hr1) rfl fun a w hz2 hI hA => ?_
      refine o_nil ?_
      refine ⟨(.inr hI), ?_⟩
      refine g_forced (i := 11) rfl (by kernel_rfl) ?_
      refine o_yes hA rfl rfl hc10 <| ?_
      obtain ⟨r2, hr2, H⟩ := bB H
      refine o_callp (u := .bool r2) cf117 hA rfl hI (sargassoref_SamePoint.c μ _ hI.agr ((x0.Ins.getD (0 : Int).toNat default).From) ⟨hw1.1, hw1.2.1⟩ r1 ⟨hz2.1, hz2.2⟩ r2 hr2) rfl fun a w hz3 hI hA => ?_
      refine o_nil ?_
      refine ⟨(.inr hI), ?_⟩
      refine g_easy (i := 12) hA rfl rfl (by kernel_rfl) (.inr hI) (fun _ => r_pick_t hA rfl hc10 rfl) rfl fun a hA => ?_
      refine g_easy (i := 13) hA rfl rfl (by kernel_rfl) (.inr hI) (fun _ => r_as hA rfl) rfl fun a hA => ?_
      refine g_nil (by kernel_rfl) ?_
      cases Option.some.inj (bS H)
      exact ⟨hA.sub ⟨rfl, rfl, rfl, trivial⟩, hI⟩
    · have hc10 := hc1; have hc1 := of_decide_eq_false hc1; have H := bF H hc1
      refine g_skip (i := 5) hA rfl (wanted_no hA rfl rfl (by rw [hc10]; simp [vb])) (by kernel_rfl) (.inr hI) rfl fun a hA => ?_
      refine g_skip (i := 6) hA rfl (wanted_no hA rfl rfl (by rw [hc10]; simp [vb])) (by kernel_rfl) (.inr hI) rfl fun a hA => ?_
      refine g_skip (i := 7) hA rfl (wanted_no hA rfl rfl (by rw [hc10]; simp [vb])) (by kernel_rfl) (.inr hI) rfl fun a hA => ?_
      refine g_skip (i := 8) hA rfl (wanted_no hA rfl rfl (by rw [hc10]; simp [vb])) (by kernel_rfl) (.inr hI) rfl fun a hA => ?_
      refine g_skip (i := 9) hA rfl (wanted_no hA rfl rfl (by rw [hc10]; simp [vb])) (by kernel_rfl) (.inr hI) rfl fun a hA => ?_
      refine g_skip (i := 10) hA rfl (wanted_no hA rfl rfl (by rw [hc10]; simp [vb])) (by kernel_rfl) (.inr hI) rfl fun a hA => ?_
      refine g_skip (i := 11) hA rfl (wanted_no hA rfl rfl (by rw [hc10]; simp [vb])) (by kernel_rfl) (.inr hI) rfl fun a hA => ?_
      refine g_easy (i := 12) hA rfl rfl (by kernel_rfl) (.inr hI) (fun _ => r_pick_f hA rfl hc10 rfl) rfl fun a hA => ?_
      refine g_easy (i := 13) hA rfl rfl (by kernel_rfl) (.inr hI) (fun _ => r_as hA rfl) rfl fun a hA => ?_
      refine g_nil (by kernel_rfl) ?_
      cases Option.some.inj (bS H)
      exact ⟨hA.sub ⟨rfl, rfl, rfl, trivial⟩, hI⟩
  · rintro a w ⟨hA, hI⟩
    have H := Hk1
    refine w_ret ?_
    obtain rfl := Option.some.inj (bS H)
    exact ret1 hA Tryd.results59 rfl ⟨_, rfl, rfl, trivial, hI.forget0⟩
set_option maxRecDepth 20000 in
theorem sargassoref1_Size.c (μ : Store) (w0 : World) (hμ : Agr μ w0) (x0 : Tx) (u0_0 : Value) (u0_1 : Value) (hx0 : TxW μ x0 u0_0 u0_1) (r : Int) (H : sargassoref1_Size.f x0 = some r) :
    Calls Tryd.prog 118 [.agg [[.int .u32 x0.Version], [u0_0], [u0_1], [.int .u32 x0.Time]].flatten.toArray].toArray w0 (fun e w' => ∃ v, e = .returned v ∧ v = .int .i64 r ∧ InR .i64 r ∧ Iv w0 [] μ μ [] w') := by
  refine enter Tryd.func118 rfl Tryd.ntmps118 rfl fun a hA => ?_
  have hI := Iv.start hμ
  have H := bI H
  refine w_seq fun _ hN1 => ?_
  refine w_reg ?_
  refine o_box [[.int .u32 x0.Version], [u0_0], [u0_1], [.int .u32 x0.Time]] hI hA rfl rfl rfl fun g1 a w hA hI hg1 => 
    stp hA (r_as hA rfl) rfl fun a hA => ?_
  refine o_nil ?_
  refine hN1 _ _ ?_
  refine w_seq fun _ hN2 => ?_
  refine w_reg ?_
  refine stp hA (r_ldA (j := 0) [] [[.int .u32 x0.Version], [u0_0], [u0_1], [.int .u32 x0.Time]] [] Tryd.underlying68 rfl sz68 rfl hI rfl hA rfl rfl) rfl fun a hA => ?_
  obtain ⟨r1, hr1, H⟩ := bB H
  refine o_call _ cf56 hA rfl (sargassoref1_TxBytes.c μ _ hI.agr x0 u0_0 u0_1 ⟨hx0.1, hx0.2.1, hx0.2.2.1, hx0.2.2.2⟩ r1 hr1) rfl fun v1 a w hz1 hA => ?_
  obtain ⟨_, cs1, rfl, hE1, hi1⟩ := hz1
  have hI := hI.call hi1
  have hlen1 := Iv.row_in hI (j := 0) rfl
  refine stp hA (r_rlen (xs := 0) Tryd.underlying23 hI (j := 0) rfl hA rfl) rfl fun a hA => 
    stp hA (r_as hA rfl) rfl fun a hA => ?_
  refine o_nil ?_
  refine hN2 _ _ ?_
  refine w_ret ?_
  obtain rfl := Option.some.inj (bS H)
  exact ret1 hA Tryd.results118 rfl ⟨_, rfl, rfl, hlen1, hI.forget0⟩
set_option maxRecDepth 20000 in
theorem sargassoref1_Values.c (μ : Store) (w0 : World) (hμ : Agr μ w0) (x0 : Tx) (u0_0 : Value) (u0_1 : Value) (hx0 : TxW μ x0 u0_0 u0_1) (r : List Int) (H : sargassoref1_Values.f x0 = some r) :
    Calls Tryd.prog 120 [.agg [[.int .u32 x0.Version], [u0_0], [u0_1], [.int .u32 x0.Time]].flatten.toArray].toArray w0 (fun e w' => ∃ v, e = .returned v ∧ ∃ (v0 : Value) (c0 : List Value), v = v0 ∧ Els (RI .u64) 1 r c0 ∧ Iv w0 [] μ μ [row 22 1 v0 r.length c0] w') := by
  refine enter Tryd.func120 rfl Tryd.ntmps120 rfl fun a hA => ?_
  have hI := Iv.start hμ
  have H := bI H
  refine w_seq fun _ hN1 => ?_
  refine w_reg ?_
  refine o_box [[.int .u32 x0.Version], [u0_0], [u0_1], [.int .u32 x0.Time]] hI hA rfl rfl rfl fun g1 a w hA hI hg1 => 
    stp hA (r_as hA rfl) rfl fun a hA => ?_
  refine o_nil ?_
  refine hN1 _ _ ?_
  refine w_seq fun _ hN2 => ?_
  refine w_reg ?_
  refine stp hA (r_as hA rfl) rfl fun a hA => ?_
  refine o_nil ?_
  refine hN2 _ _ ?_
  obtain ⟨c1, hz1, Hk1⟩ := bB H
  refine w_cut (fun a w => ∃ (vvc1 : Value) (ccc1 : List Value), Els (RI .u64) 1 c1 ccc1 ∧ Fr a 22 [(0, .agg [[.int .u32 x0.Version], [u0_0], [u0_1], [.int .u32 x0.Time]].flatten.toArray), (1, .pointer (some ⟨g1, 0, none⟩)), (2, (.slice none 0 0)), (3, vvc1)] ∧ Iv w0 [] μ μ [row 22 1 vvc1 c1.length ccc1, cel g1 [[.int .u32 x0.Version], [u0_0], [u0_1], [.int .u32 x0.Time]] 68] w) ?_ ?_
  · have H := bI hz1
    refine w_seq fun _ hN3 => ?_
    refine w_reg ?_
    refine stp hA (r_as hA rfl) rfl fun a hA => ?_
    refine o_nil ?_
    refine hN3 _ _ ?_
    refine w_block ?_
    have hI := hI.nilRow 22 1
    obtain ⟨z1, hz2, Hk2⟩ := bind_some H
    obtain ⟨n1, hn1⟩ := loopO_some hz2
    refine w_loop (fun n a w => ∃ (s1 : List Int) (s2 : Int) (vvs1 : Value) (ccs1 : List Value), loopN (sargassoref1_Values.s0 x0) n (s1, s2) = some z1 ∧ Els (RI .u64) 1 s1 ccs1 ∧ InR .i64 s2 ∧ Fr a 22 [(0, .agg [[.int .u32 x0.Version], [u0_0], [u0_1], [.int .u32 x0.Time]].flatten.toArray), (1, .pointer (some ⟨g1, 0, none⟩)), (2, (.slice none 0 0)), (3, vvs1), (4, .int .i64 s2)] ∧ Iv w0 [] μ μ [row 22 1 vvs1 s1.length ccs1, cel g1 [[.int .u32 x0.Version], [u0_0], [u0_1], [.int .u32 x0.Time]] 68] w) n1 ⟨[], 0, (.slice none 0 0), [], hn1, (Els.nil (RE := (RI .u64)) (sz := 1)), (in_lit .i64 0 rfl), hA.sub ⟨rfl, rfl, rfl, rfl, rfl, trivial⟩, hI⟩ ?_
    clear hA hI
    rintro n a w ⟨s1, s2, vvs1, ccs1, hn1, ws1, ws2, hA, hI⟩
    obtain ⟨m1, rfl, H⟩ := loopN_bind hn1
    clear hn1
    refine w_seq fun _ hN4 => ?_
    refine w_seq fun _ hN5 => ?_
    refine w_reg ?_
    refine stp hA (r_mv hA rfl) rfl fun a hA => 
      stp hA (r_fd (k := 2) Tryd.underlying68 rfl sz66 hA rfl rfl) rfl fun a hA => 
      stp hA (r_ld1 (j := 1) [[.int .u32 x0.Version], [u0_0]] [[.int .u32 x0.Time]] Tryd.underlying66 rfl hI rfl hA rfl rfl) rfl fun a hA => ?_
    obtain ⟨_, hsl1⟩ := Slc.sv hx0.2.2.1
    refine stp hA (r_slen Tryd.underlying66 hsl1 hA rfl) rfl fun a hA => 
      stp hA (r_lss hA rfl rfl) rfl fun a hA => ?_
    refine o_nil ?_
    refine hN5 _ _ ?_
    refine w_cond hA rfl (fun hc1 => ?_) (fun hc1 => ?_)
    · have hc10 := hc1; have hc1 := of_decide_eq_true hc1; have H := bT H hc1
      refine w_skip ?_
      refine hN4 _ _ ?_
      refine w_seq fun _ hN6 => ?_
      refine w_block ?_
      refine w_reg ?_
      refine stp hA (r_mv hA rfl) rfl fun a hA => 
        stp hA (r_fd (k := 2) Tryd.underlying68 rfl sz66 hA rfl rfl) rfl fun a hA => 
        stp hA (r_ld1 (j := 1) [[.int .u32 x0.Version], [u0_0]] [[.int .u32 x0.Time]] Tryd.underlying66 rfl hI rfl hA rfl rfl) rfl fun a hA => 
        stp hA (r_mv hA rfl) rfl fun a hA => ?_
      obtain ⟨hb1, H⟩ := bG H
      obtain ⟨_, he1, _, hat1⟩ := Slc.elem hx0.2.2.1 (getD_some default hb1.1 hb1.2)
      obtain ⟨rfl, hw1⟩ := he1
      obtain ⟨_, hsl2⟩ := Slc.sv hx0.2.2.1
      refine stp hA (r_six Tryd.underlying66 sz65 hsl2 hA rfl rfl hb1.1 hb1.2) rfl fun a hA => 
        stp hA (r_fd (k := so u0_1 + s2.toNat * 33) Tryd.underlying65 rfl sz22 hA rfl rfl) rfl fun a hA => 
        stp hA (r_ldm1 [] [av .u8 32 ((x0.Outs.getD s2.toNat default).Lock)] Tryd.underlying22 rfl hI.agr hat1 hA rfl rfl) rfl fun a hA => ?_
      have hE1 : Els (RI .u64) 1 ([(x0.Outs.getD s2.toNat default).Value] : List Int) ([[.int .u64 ((x0.Outs.getD s2.toNat default).Value)]].flatten ++ ([])) := (Els.cons (c := [[.int .u64 ((x0.Outs.getD s2.toNat default).Value)]].flatten) ⟨rfl, hw1.1⟩ rfl Els.nil)
      refine o_bsl ([[.int .u64 ((x0.Outs.getD s2.toNat default).Value)]].flatten ++ ([])) te22 zr22 Tryd.underlying42 hI hA rfl rfl rfl rfl (by kernel_rfl) rfl fun g2 a w hA hI => ?_
      generalize hcs : ([[.int .u64 ((x0.Outs.getD s2.toNat default).Value)]].flatten ++ ([]) : List Value) = cs1 at hE1 hI
      clear hcs
      obtain ⟨hb2, H⟩ := bG H
      have hE3 := ws1.app hE1
      refine o_appL (xs := (s1 : List Int)) (ys := (([(x0.Outs.getD s2.toNat default).Value] : List Int) : List Int)) (j := 1) te22 Tryd.underlying42 hI rfl hA rfl rfl (src_row hI (j := 0) rfl) hE1.len (hE1.ones (one_RI _)) (by first | decide | (have hq := hb2; (try simp only [List.length_cons, List.length_nil] at hq); (try simp only [List.length_cons, List.length_nil]); (try simp only [maxLen]); omega)) (by first | decide | (have hq := hb2; (try simp only [List.length_cons, List.length_nil] at hq); (try simp only [List.length_cons, List.length_nil]); (try simp only [maxLen]); omega)) rfl fun v1 a w hA hI => 
        stp hA (r_as hA rfl) rfl fun a hA => ?_
      refine o_nil ?_
      refine hN6 _ _ ?_
      refine w_reg ?_
      refine stp hA (r_mv hA rfl) rfl fun a hA => 
        stp hA (r_add hA rfl rfl) rfl fun a hA => 
        stp hA (r_as hA rfl) rfl fun a hA => ?_
      refine o_nil ?_
      exact ⟨m1, Nat.lt_succ_self _, s1 ++ ([(x0.Outs.getD s2.toNat default).Value] : List Int), IntKind.i64.wrap (s2 + 1), v1, ccs1 ++ cs1, H, hE3, (wrap_in _ _), hA.sub ⟨rfl, rfl, rfl, rfl, rfl, trivial⟩, (hI.sel [1, 2] (by decide) rfl)⟩
    · have hc10 := hc1; have hc1 := of_decide_eq_false hc1; have H := bF H hc1
      refine w_exit rfl ?_
      have H : some s1 = some z1 := H
      obtain rfl := Option.some.inj H
      have H := Hk2
      cases Option.some.inj (bS H)
      exact ⟨vvs1, ccs1, ws1, hA.sub ⟨rfl, rfl, rfl, rfl, trivial⟩, hI⟩
  · rintro a w ⟨vvc1, ccc1, wc1, hA, hI⟩
    have H := Hk1
    refine w_seq fun _ hN7 => ?_
    refine w_reg ?_
    refine stp hA (r_mv hA rfl) rfl fun a hA => 
      stp hA (r_as hA rfl) rfl fun a hA => ?_
    refine o_nil ?_
    refine hN7 _ _ ?_
    refine w_ret ?_
    obtain rfl := Option.some.inj (bS H)
    exact ret1 hA Tryd.results120 rfl ⟨_, rfl, vvc1, ccc1, rfl, wc1, ((hI.sel [0] (by decide) rfl).less (Store.le.refl _) hI.le)⟩
set_option maxRecDepth 20000 in
theorem sargassoref1_CheckTx.c (μ : Store) (w0 : World) (hμ : Agr μ w0) (x0 : Tx) (u0_0 : Value) (u0_1 : Value) (hx0 : TxW μ x0 u0_0 u0_1) (r : Int) (H : sargassoref1_CheckTx.f x0 = some r) :
    Calls Tryd.prog 60 [.agg [[.int .u32 x0.Version], [u0_0], [u0_1], [.int .u32 x0.Time]].flatten.toArray].toArray w0 (fun e w' => ∃ v, e = .returned v ∧ v = .int .i64 r ∧ InR .i64 r ∧ Iv w0 [] μ μ [] w') := by
  refine enter Tryd.func60 rfl Tryd.ntmps60 rfl fun a hA => ?_
  have hI := Iv.start hμ
  have H := bI H
  refine w_seq fun _ hN1 => ?_
  refine w_reg ?_
  refine o_box [[.int .u32 x0.Version], [u0_0], [u0_1], [.int .u32 x0.Time]] hI hA rfl rfl rfl fun g1 a w hA hI hg1 => 
    stp hA (r_as hA rfl) rfl fun a hA => ?_
  refine o_nil ?_
  refine hN1 _ _ ?_
  refine w_seq fun _ hN2 => ?_
  obtain ⟨c1, hz1, Hk1⟩ := bB H
  refine w_cut (fun a w => Fr a 106 [(0, .agg [[.int .u32 x0.Version], [u0_0], [u0_1], [.int .u32 x0.Time]].flatten.toArray), (1, .pointer (some ⟨g1, 0, none⟩)), (2, .int .i64 0), (30, .bool c1)] ∧ Iv w0 [] μ μ [cel g1 [[.int .u32 x0.Version], [u0_0], [u0_1], [.int .u32 x0.Time]] 68] w) ?_ ?_
  · have H := bI hz1
    refine w_reg ?_
    refine stp hA (r_fd (k := 1) Tryd.underlying68 rfl sz63 hA rfl rfl) rfl fun a hA => 
      stp hA (r_ld1 (j := 0) [[.int .u32 x0.Version]] [[u0_1], [.int .u32 x0.Time]] Tryd.underlying63 rfl hI rfl hA rfl rfl) rfl fun a hA => ?_
    obtain ⟨_, hsl1⟩ := Slc.sv hx0.2.1
    refine stp hA (r_slen Tryd.underlying63 hsl1 hA rfl) rfl fun a hA => 
      stp hA (r_eql hA rfl rfl) rfl fun a hA => 
      stp hA (r_mv hA rfl) rfl fun a hA => ?_
    rcases Bool.eq_false_or_eq_true (decide ((x0.Ins.length : Int) = 0)) with hc1 | hc1
    · have hc10 := hc1; have hc1 := of_decide_eq_true hc1; have H := bT H hc1
      refine o_no hA rfl rfl (by rw [hc10]; simp [vb]) rfl fun a hA => 
        o_no hA rfl rfl (by rw [hc10]; simp [vb]) rfl fun a hA => 
        o_no hA rfl rfl (by rw [hc10]; simp [vb]) rfl fun a hA => 
        o_no hA rfl rfl (by rw [hc10]; simp [vb]) rfl fun a hA => 
        stp hA (r_pick_t hA rfl hc10 rfl) rfl fun a hA => 
        stp hA (r_mv hA rfl) rfl fun a hA => 
        o_no hA rfl rfl (by simp [vb]) rfl fun a hA => 
        o_no hA rfl rfl (by simp [vb]) rfl fun a hA => 
        o_no hA rfl rfl (by simp [vb]) rfl fun a hA => 
        o_no hA rfl rfl (by simp [vb]) rfl fun a hA => 
        stp hA (r_pick_t hA rfl rfl rfl) rfl fun a hA => 
        stp hA (r_mv hA rfl) rfl fun a hA => 
        o_no hA rfl rfl (by simp [vb]) rfl fun a hA => 
        o_no hA rfl rfl (by simp [vb]) rfl fun a hA => 
        o_no hA rfl rfl (by simp [vb]) rfl fun a hA => 
        o_no hA rfl rfl (by simp [vb]) rfl fun a hA => 
        stp hA (r_pick_t hA rfl rfl rfl) rfl fun a hA => ?_
      refine o_nil ?_
      cases Option.some.inj (bS H)
      exact ⟨hA.sub ⟨rfl, rfl, rfl, rfl, trivial⟩, hI⟩
    · have hc10 := hc1; have hc1 := of_decide_eq_false hc1; have H := bF H hc1
      refine o_yes hA rfl rfl hc10 <| 
        stp hA (r_fd (k := 1) Tryd.underlying68 rfl sz63 hA rfl rfl) rfl fun a hA => 
        o_yes hA rfl rfl hc10 <| 
        stp hA (r_ld1 (j := 0) [[.int .u32 x0.Version]] [[u0_1], [.int .u32 x0.Time]] Tryd.underlying63 rfl hI rfl hA rfl rfl) rfl fun a hA => 
        o_yes hA rfl rfl hc10 <| ?_
      obtain ⟨_, hsl2⟩ := Slc.sv hx0.2.1
      refine stp hA (r_slen Tryd.underlying63 hsl2 hA rfl) rfl fun a hA => 
        o_yes hA rfl rfl hc10 <| 
        stp hA (r_gtr hA rfl rfl) rfl fun a hA => 
        stp hA (r_pick_f hA rfl hc10 rfl) rfl fun a hA => 
        stp hA (r_mv hA rfl) rfl fun a hA => ?_
      rcases Bool.eq_false_or_eq_true (decide (50 < (x0.Ins.length : Int))) with hc2 | hc2
      · have hc20 := hc2; have hc2 := of_decide_eq_true hc2; have H := bT H hc2
        refine o_no hA rfl rfl (by rw [hc20]; simp [vb]) rfl fun a hA => 
          o_no hA rfl rfl (by rw [hc20]; simp [vb]) rfl fun a hA => 
          o_no hA rfl rfl (by rw [hc20]; simp [vb]) rfl fun a hA => 
          o_no hA rfl rfl (by rw [hc20]; simp [vb]) rfl fun a hA => 
          stp hA (r_pick_t hA rfl hc20 rfl) rfl fun a hA => 
          stp hA (r_mv hA rfl) rfl fun a hA => 
          o_no hA rfl rfl (by simp [vb]) rfl fun a hA => 
          o_no hA rfl rfl (by simp [vb]) rfl fun a hA => 
          o_no hA rfl rfl (by simp [vb]) rfl fun a hA => 
          o_no hA rfl rfl (by simp [vb]) rfl fun a hA => 
          stp hA (r_pick_t hA rfl rfl rfl) rfl fun a hA => ?_
        refine o_nil ?_
        cases Option.some.inj (bS H)
        exact ⟨hA.sub ⟨rfl, rfl, rfl, rfl, trivial⟩, hI⟩
      · have hc20 := hc2; have hc2 := of_decide_eq_false hc2; have H := bF H hc2
        refine o_yes hA rfl rfl hc20 <| 
          stp hA (r_fd (k := 2) Tryd.underlying68 rfl sz66 hA rfl rfl) rfl fun a hA => 
          o_yes hA rfl rfl hc20 <| 
          stp hA (r_ld1 (j := 0) [[.int .u32 x0.Version], [u0_0]] [[.int .u32 x0.Time]] Tryd.underlying66 rfl hI rfl hA rfl rfl) rfl fun a hA => 
          o_yes hA rfl rfl hc20 <| ?_
        obtain ⟨_, hsl3⟩ := Slc.sv hx0.2.2.1
        refine stp hA (r_slen Tryd.underlying66 hsl3 hA rfl) rfl fun a hA => 
          o_yes hA rfl rfl hc20 <| 
          stp hA (r_eql hA rfl rfl) rfl fun a hA => 
          stp hA (r_pick_f hA rfl hc20 rfl) rfl fun a hA => 
          stp hA (r_mv hA rfl) rfl fun a hA => ?_
        rcases Bool.eq_false_or_eq_true (decide ((x0.Outs.length : Int) = 0)) with hc3 | hc3
        · have hc30 := hc3; have hc3 := of_decide_eq_true hc3; have H := bT H hc3
          refine o_no hA rfl rfl (by rw [hc30]; simp [vb]) rfl fun a hA => 
            o_no hA rfl rfl (by rw [hc30]; simp [vb]) rfl fun a hA => 
            o_no hA rfl rfl (by rw [hc30]; simp [vb]) rfl fun a hA => 
            o_no hA rfl rfl (by rw [hc30]; simp [vb]) rfl fun a hA => 
            stp hA (r_pick_t hA rfl hc30 rfl) rfl fun a hA => ?_
          refine o_nil ?_
          cases Option.some.inj (bS H)
          exact ⟨hA.sub ⟨rfl, rfl, rfl, rfl, trivial⟩, hI⟩
        · have hc30 := hc3; have hc3 := of_decide_eq_false hc3; have H := bF H hc3
          refine o_yes hA rfl rfl hc30 <| 
            stp hA (r_fd (k := 2) Tryd.underlying68 rfl sz66 hA rfl rfl) rfl fun a hA => 
            o_yes hA rfl rfl hc30 <| 
            stp hA (r_ld1 (j := 0) [[.int .u32 x0.Version], [u0_0]] [[.int .u32 x0.Time]] Tryd.underlying66 rfl hI rfl hA rfl rfl) rfl fun a hA => 
            o_yes hA rfl rfl hc30 <| ?_
          obtain ⟨_, hsl4⟩ := Slc.sv hx0.2.2.1
          refine stp hA (r_slen Tryd.underlying66 hsl4 hA rfl) rfl fun a hA => 
            o_yes hA rfl rfl hc30 <| 
            stp hA (r_gtr hA rfl rfl) rfl fun a hA => 
            stp hA (r_pick_f hA rfl hc30 rfl) rfl fun a hA => ?_
          refine o_nil ?_
          cases Option.some.inj (bS H)
          exact ⟨hA.sub ⟨rfl, rfl, rfl, rfl, trivial⟩, hI⟩
  · rintro a w ⟨hA, hI⟩
    have H := Hk1
    refine w_cond hA rfl (fun hc4 => ?_) (fun hc4 => ?_)
    · have hc40 := hc4; have H := bT H hc4
      refine w_seq fun _ hN3 => ?_
      refine w_reg ?_
      refine stp hA (r_as hA rfl) rfl fun a hA => ?_
      refine o_nil ?_
      refine hN3 _ _ ?_
      refine w_ret ?_
      obtain rfl := Option.some.inj (bS H)
      exact ret1 hA Tryd.results60 rfl ⟨_, rfl, rfl, (in_lit .i64 104 rfl), hI.forget0⟩
    · have hc40 := hc4; have hc4 := ft hc4; have H := bF H hc4
      refine w_skip ?_
      refine hN2 _ _ ?_
      refine w_seq fun _ hN4 => ?_
      refine w_seq fun _ hN5 => ?_
      refine w_reg ?_
      refine stp hA (r_ldA (j := 0) [] [[.int .u32 x0.Version], [u0_0], [u0_1], [.int .u32 x0.Time]] [] Tryd.underlying68 rfl sz68 rfl hI rfl hA rfl rfl) rfl fun a hA => ?_
      obtain ⟨r1, hr1, H⟩ := bB H
      refine o_callp (u := .int .i64 r1) cf118 hA rfl hI (sargassoref1_Size.c μ _ hI.agr x0 u0_0 u0_1 ⟨hx0.1, hx0.2.1, hx0.2.2.1, hx0.2.2.2⟩ r1 hr1) rfl fun a w hz2 hI hA => 
        stp hA (r_gtr hA rfl rfl) rfl fun a hA => ?_
      refine o_nil ?_
      refine hN5 _ _ ?_
      refine w_cond hA rfl (fun hc5 => ?_) (fun hc5 => ?_)
      · have hc50 := hc5; have hc5 := of_decide_eq_true hc5; have H := bT H hc5
        refine w_seq fun _ hN6 => ?_
        refine w_reg ?_
        refine stp hA (r_as hA rfl) rfl fun a hA => ?_
        refine o_nil ?_
        refine hN6 _ _ ?_
        refine w_ret ?_
        obtain rfl := Option.some.inj (bS H)
        exact ret1 hA Tryd.results60 rfl ⟨_, rfl, rfl, (in_lit .i64 103 rfl), hI.forget0⟩
      · have hc50 := hc5; have hc5 := of_decide_eq_false hc5; have H := bF H hc5
        refine w_skip ?_
        refine hN4 _ _ ?_
        refine w_seq fun _ hN7 => ?_
        refine w_seq fun _ hN8 => ?_
        refine w_reg ?_
        refine stp hA (r_as hA rfl) rfl fun a hA => ?_
        refine o_nil ?_
        refine hN8 _ _ ?_
        refine w_block ?_
        obtain ⟨z1, hz3, Hk2⟩ := bind_some H
        obtain ⟨n1, hn1⟩ := loopO_some hz3
        refine w_loop (fun n a w => ∃ (s1 : Int), loopN (sargassoref1_CheckTx.s0 x0) n s1 = some z1 ∧ InR .i64 s1 ∧ Fr a 106 [(0, .agg [[.int .u32 x0.Version], [u0_0], [u0_1], [.int .u32 x0.Time]].flatten.toArray), (1, .pointer (some ⟨g1, 0, none⟩)), (2, .int .i64 0), (3, .int .i64 s1), (30, .bool c1), (33, .bool (decide (4000 < r1)))] ∧ Iv w0 [] μ μ [cel g1 [[.int .u32 x0.Version], [u0_0], [u0_1], [.int .u32 x0.Time]] 68] w) n1 ⟨0, hn1, (in_lit .i64 0 rfl), hA.sub ⟨rfl, rfl, rfl, rfl, rfl, rfl, trivial⟩, hI⟩ ?_
        clear hA hI
        rintro n a w ⟨s1, hn1, ws1, hA, hI⟩
        obtain ⟨m1, rfl, H⟩ := loopN_bind hn1
        clear hn1
        refine w_seq fun _ hN9 => ?_
        refine w_seq fun _ hN10 => ?_
        refine w_reg ?_
        refine stp hA (r_mv hA rfl) rfl fun a hA => 
          stp hA (r_fd (k := 1) Tryd.underlying68 rfl sz63 hA rfl rfl) rfl fun a hA => 
          stp hA (r_ld1 (j := 0) [[.int .u32 x0.Version]] [[u0_1], [.int .u32 x0.Time]] Tryd.underlying63 rfl hI rfl hA rfl rfl) rfl fun a hA => ?_
        obtain ⟨_, hsl5⟩ := Slc.sv hx0.2.1
        refine stp hA (r_slen Tryd.underlying63 hsl5 hA rfl) rfl fun a hA => 
          stp hA (r_lss hA rfl rfl) rfl fun a hA => ?_
        refine o_nil ?_
        refine hN10 _ _ ?_
        refine w_cond hA rfl (fun hc6 => ?_) (fun hc6 => ?_)
        · have hc60 := hc6; have hc6 := of_decide_eq_true hc6; have H := bT H hc6
          refine w_skip ?_
          refine hN9 _ _ ?_
          refine w_seq fun _ hN11 => ?_
          refine w_block ?_
          refine w_seq fun _ hN12 => ?_
          refine w_reg ?_
          refine stp hA (r_fd (k := 1) Tryd.underlying68 rfl sz63 hA rfl rfl) rfl fun a hA => 
            stp hA (r_ld1 (j := 0) [[.int .u32 x0.Version]] [[u0_1], [.int .u32 x0.Time]] Tryd.underlying63 rfl hI rfl hA rfl rfl) rfl fun a hA => 
            stp hA (r_mv hA rfl) rfl fun a hA => ?_
          obtain ⟨hb1, H⟩ := bG H
          obtain ⟨_, he1, _, hat1⟩ := Slc.elem hx0.2.1 (getD_some default hb1.1 hb1.2)
          obtain ⟨v1, rfl, hw1⟩ := he1
          obtain ⟨_, hsl6⟩ := Slc.sv hx0.2.1
          refine stp hA (r_six Tryd.underlying63 sz62 hsl6 hA rfl rfl hb1.1 hb1.2) rfl fun a hA => 
            stp hA (r_fd (k := so u0_0 + s1.toNat * 35 + 33) Tryd.underlying62 rfl sz23 hA rfl rfl) rfl fun a hA => 
            stp hA (r_ldm1 [av .u8 32 ((x0.Ins.getD s1.toNat default).From.Tx), [.int .u32 ((x0.Ins.getD s1.toNat default).From.N)]] [[.int .u32 ((x0.Ins.getD s1.toNat default).Seq)]] Tryd.underlying23 rfl hI.agr hat1 hA rfl rfl) rfl fun a hA => ?_
          obtain ⟨_, hsl7⟩ := Slc.sv hw1.2.2.1
          refine stp hA (r_slen Tryd.underlying23 hsl7 hA rfl) rfl fun a hA => 
            stp hA (r_gtr hA rfl rfl) rfl fun a hA => ?_
          refine o_nil ?_
          refine hN12 _ _ ?_
          refine w_cond hA rfl (fun hc7 => ?_) (fun hc7 => ?_)
          · have hc70 := hc7; have hc7 := of_decide_eq_true hc7; have H := bT H hc7
            refine w_seq fun _ hN13 => ?_
            refine w_reg ?_
            refine stp hA (r_as hA rfl) rfl fun a hA => ?_
            refine o_nil ?_
            refine hN13 _ _ ?_
            refine w_ret ?_
            have H : some 114 = some z1 := H
            obtain rfl := Option.some.inj H
            have H := Hk2
            obtain rfl := Option.some.inj (bS H)
            exact ret1 hA Tryd.results60 rfl ⟨_, rfl, rfl, (in_lit .i64 114 rfl), hI.forget0⟩
          · have hc70 := hc7; have hc7 := of_decide_eq_false hc7; have H := bF H hc7
            refine w_skip ?_
            refine hN11 _ _ ?_
            refine w_reg ?_
            refine stp hA (r_mv hA rfl) rfl fun a hA => 
              stp hA (r_add hA rfl rfl) rfl fun a hA => 
              stp hA (r_as hA rfl) rfl fun a hA => ?_
            refine o_nil ?_
            exact ⟨m1, Nat.lt_succ_self _, IntKind.i64.wrap (s1 + 1), H, (wrap_in _ _), hA.sub ⟨rfl, rfl, rfl, rfl, rfl, rfl, trivial⟩, hI⟩
        · have hc60 := hc6; have hc6 := of_decide_eq_false hc6; have H := bF H hc6
          refine w_exit rfl ?_
          refine hN7 _ _ ?_
          refine w_seq fun _ hN14 => ?_
          refine w_reg ?_
          refine stp hA (r_ldA (j := 0) [] [[.int .u32 x0.Version], [u0_0], [u0_1], [.int .u32 x0.Time]] [] Tryd.underlying68 rfl sz68 rfl hI rfl hA rfl rfl) rfl fun a hA => ?_
          obtain ⟨r2, hr2, H⟩ := bB H
          refine o_call _ cf120 hA rfl (sargassoref1_Values.c μ _ hI.agr x0 u0_0 u0_1 ⟨hx0.1, hx0.2.1, hx0.2.2.1, hx0.2.2.2⟩ r2 hr2) rfl fun v2 a w hz4 hA => ?_
          obtain ⟨_, cs1, rfl, hE1, hi1⟩ := hz4
          have hI := hI.call hi1
          obtain ⟨r3, hr3, H⟩ := bB H
          refine o_callp (u := .tuple #[.int .u64 r3.1, .bool r3.2]) cf119 hA rfl hI ((by obtain ⟨μ1, hle1, hsv1, hI⟩ := hI.freezeRow 0 rfl; have hS1 : Slc (RI .u64) 1 μ1 v2 r2 := ⟨_, hE1, hsv1⟩; exact low_plain hle1 (sargassoref1_Sum.c μ1 _ hI.agr r2 v2 hS1 r3 hr3))) rfl fun a w hz5 hI hA => 
            stp hA (r_mv hA rfl) rfl fun a hA => 
            stp hA (r_extr (vs := [.int .u64 r3.1, .bool r3.2]) hA rfl rfl) rfl fun a hA => 
            stp hA (r_extr (vs := [.int .u64 r3.1, .bool r3.2]) hA rfl rfl) rfl fun a hA => 
            stp hA (r_as hA rfl) rfl fun a hA => 
            stp hA (r_as hA rfl) rfl fun a hA => ?_
          refine o_nil ?_
          refine hN14 _ _ ?_
          refine w_seq fun _ hN15 => ?_
          refine w_seq fun _ hN16 => ?_
          refine w_reg ?_
          refine stp hA (r_mv hA rfl) rfl fun a hA => 
            stp hA (r_not hA rfl) rfl fun a hA => ?_
          refine o_nil ?_
          refine hN16 _ _ ?_
          refine w_cond hA rfl (fun hc8 => ?_) (fun hc8 => ?_)
          · have hc80 := hc8; have hc8 := nT hc8; have hc8 := ft hc8; have H := bF H hc8
            refine w_seq fun _ hN17 => ?_
            refine w_reg ?_
            refine stp hA (r_as hA rfl) rfl fun a hA => ?_
            refine o_nil ?_
            refine hN17 _ _ ?_
            refine w_ret ?_
            have H : some 105 = some z1 := H
            obtain rfl := Option.some.inj H
            have H := Hk2
            obtain rfl := Option.some.inj (bS H)
            exact ret1 hA Tryd.results60 rfl ⟨_, rfl, rfl, (in_lit .i64 105 rfl), hI.forget0⟩
          · have hc80 := hc8; have hc8 := nF hc8; have H := bT H hc8
            refine w_skip ?_
            refine hN15 _ _ ?_
            refine w_seq fun _ hN18 => ?_
            refine w_seq fun _ hN19 => ?_
            refine w_reg ?_
            refine stp hA (r_as hA rfl) rfl fun a hA => ?_
            refine o_nil ?_
            refine hN19 _ _ ?_
            refine w_block ?_
            obtain ⟨z2, hz6, Hk3⟩ := bind_some H
            obtain ⟨n2, hn2⟩ := loopO_some hz6
            refine w_loop (fun n a w => ∃ (s2 : Int), loopN (sargassoref1_CheckTx.s1 x0) n s2 = some z2 ∧ InR .i64 s2 ∧ Fr a 106 [(0, .agg [[.int .u32 x0.Version], [u0_0], [u0_1], [.int .u32 x0.Time]].flatten.toArray), (1, .pointer (some ⟨g1, 0, none⟩)), (2, .int .i64 0), (3, .int .i64 s1), (5, .bool r3.2), (6, .int .i64 s2), (30, .bool c1), (33, .bool (decide (4000 < r1))), (38, .bool (decide (s1 < (x0.Ins.length : Int)))), (56, .bool (!r3.2))] ∧ Iv w0 [] μ μ [row 22 1 v2 r2.length cs1, cel g1 [[.int .u32 x0.Version], [u0_0], [u0_1], [.int .u32 x0.Time]] 68] w) n2 ⟨0, hn2, (in_lit .i64 0 rfl), hA.sub ⟨rfl, rfl, rfl, rfl, rfl, rfl, rfl, rfl, rfl, rfl, trivial⟩, hI⟩ ?_
            clear hA hI
            rintro n a w ⟨s2, hn2, ws2, hA, hI⟩
            obtain ⟨m2, rfl, H⟩ := loopN_bind hn2
            clear hn2
            refine w_seq fun _ hN20 => ?_
            refine w_seq fun _ hN21 => ?_
            refine w_reg ?_
            refine stp hA (r_mv hA rfl) rfl fun a hA => 
              stp hA (r_fd (k := 1) Tryd.underlying68 rfl sz63 hA rfl rfl) rfl fun a hA => 
              stp hA (r_ld1 (j := 1) [[.int .u32 x0.Version]] [[u0_1], [.int .u32 x0.Time]] Tryd.underlying63 rfl hI rfl hA rfl rfl) rfl fun a hA => ?_
            obtain ⟨_, hsl8⟩ := Slc.sv hx0.2.1
            refine stp hA (r_slen Tryd.underlying63 hsl8 hA rfl) rfl fun a hA => 
              stp hA (r_lss hA rfl rfl) rfl fun a hA => ?_
            refine o_nil ?_
            refine hN21 _ _ ?_
            refine w_cond hA rfl (fun hc9 => ?_) (fun hc9 => ?_)
            · have hc90 := hc9; have hc9 := of_decide_eq_true hc9; have H := bT H hc9
              refine w_skip ?_
              refine hN20 _ _ ?_
              refine w_seq fun _ hN22 => ?_
              refine w_block ?_
              refine w_seq fun _ hN23 => ?_
              refine w_reg ?_
              refine stp hA (r_as hA rfl) rfl fun a hA => ?_
              refine o_nil ?_
              refine hN23 _ _ ?_
              refine w_block ?_
              obtain ⟨z3, hz7, Hk4⟩ := bind_some H
              obtain ⟨n3, hn3⟩ := loopO_some hz7
              refine w_loop (fun n a w => ∃ (s3 : Int), loopN (sargassoref1_CheckTx.s2 x0 s2) n s3 = some z3 ∧ InR .i64 s3 ∧ Fr a 106 [(0, .agg [[.int .u32 x0.Version], [u0_0], [u0_1], [.int .u32 x0.Time]].flatten.toArray), (1, .pointer (some ⟨g1, 0, none⟩)), (2, .int .i64 0), (3, .int .i64 s1), (5, .bool r3.2), (6, .int .i64 s2), (7, .int .i64 s3), (30, .bool c1), (33, .bool (decide (4000 < r1))), (38, .bool (decide (s1 < (x0.Ins.length : Int)))), (56, .bool (!r3.2)), (61, .bool (decide (s2 < (x0.Ins.length : Int))))] ∧ Iv w0 [] μ μ [row 22 1 v2 r2.length cs1, cel g1 [[.int .u32 x0.Version], [u0_0], [u0_1], [.int .u32 x0.Time]] 68] w) n3 ⟨0, hn3, (in_lit .i64 0 rfl), hA.sub ⟨rfl, rfl, rfl, rfl, rfl, rfl, rfl, rfl, rfl, rfl, rfl, rfl, trivial⟩, hI⟩ ?_
              clear hA hI
              rintro n a w ⟨s3, hn3, ws3, hA, hI⟩
              obtain ⟨m3, rfl, H⟩ := loopN_bind hn3
              clear hn3
              refine w_seq fun _ hN24 => ?_
              refine w_seq fun _ hN25 => ?_
              refine w_reg ?_
              refine stp hA (r_mv hA rfl) rfl fun a hA => 
                stp hA (r_mv hA rfl) rfl fun a hA => 
                stp hA (r_lss hA rfl rfl) rfl fun a hA => ?_
              refine o_nil ?_
              refine hN25 _ _ ?_
              refine w_cond hA rfl (fun hc10 => ?_) (fun hc10 => ?_)
              · have hc100 := hc10; have hc10 := of_decide_eq_true hc10; have H := bT H hc10
                refine w_skip ?_
                refine hN24 _ _ ?_
                refine w_seq fun _ hN26 => ?_
                refine w_block ?_
                refine w_seq fun _ hN27 => ?_
                refine w_draw mo (by kernel_rfl) hI ?_
                refine qtp hA (fun _ hI => r_fd (k := 1) Tryd.underlying68 rfl sz63 hA rfl rfl) rfl fun a hA => 
                  qtp hA (fun _ hI => r_ld1 (j := 1) [[.int .u32 x0.Version]] [[u0_1], [.int .u32 x0.Time]] Tryd.underlying63 rfl hI rfl hA rfl rfl) rfl fun a hA => 
                  qtp hA (fun _ hI => r_mv hA rfl) rfl fun a hA => ?_
                obtain ⟨hb2, H⟩ := bG H
                obtain ⟨_, he2, _, hat2⟩ := Slc.elem hx0.2.1 (getD_some default hb2.1 hb2.2)
                obtain ⟨v3, rfl, hw2⟩ := he2
                obtain ⟨_, hsl9⟩ := Slc.sv hx0.2.1
                refine qtp hA (fun _ hI => r_six Tryd.underlying63 sz62 hsl9 hA rfl rfl hb2.1 hb2.2) rfl fun a hA => 
                  qtp hA (fun _ hI => r_fd (k := so u0_0 + s2.toNat * 35) Tryd.underlying62 rfl sz60 hA rfl rfl) rfl fun a hA => 
                  qtp hA (fun _ hI => r_ldmA [] [av .u8 32 ((x0.Ins.getD s2.toNat default).From.Tx), [.int .u32 ((x0.Ins.getD s2.toNat default).From.N)]] [[v3], [.int .u32 ((x0.Ins.getD s2.toNat default).Seq)]] Tryd.underlying60 rfl sz60 rfl hI.agr hat2 hA rfl rfl) rfl fun a hA => 
                  qtp hA (fun _ hI => r_fd (k := 1) Tryd.underlying68 rfl sz63 hA rfl rfl) rfl fun a hA => 
                  qtp hA (fun _ hI => r_ld1 (j := 1) [[.int .u32 x0.Version]] [[u0_1], [.int .u32 x0.Time]] Tryd.underlying63 rfl hI rfl hA rfl rfl) rfl fun a hA => 
                  qtp hA (fun _ hI => r_mv hA rfl) rfl fun a hA => ?_
                obtain ⟨hb3, H⟩ := bG H
                obtain ⟨_, he3, _, hat3⟩ := Slc.elem hx0.2.1 (getD_some default hb3.1 hb3.2)
                obtain ⟨v4, rfl, hw3⟩ := he3
                obtain ⟨_, hsl10⟩ := Slc.sv hx0.2.1
                refine qtp hA (fun _ hI => r_six Tryd.underlying63 sz62 hsl10 hA rfl rfl hb3.1 hb3.2) rfl fun a hA => 
                  qtp hA (fun _ hI => r_fd (k := so u0_0 + s3.toNat * 35) Tryd.underlying62 rfl sz60 hA rfl rfl) rfl fun a hA => 
                  qtp hA (fun _ hI => r_ldmA [] [av .u8 32 ((x0.Ins.getD s3.toNat default).From.Tx), [.int .u32 ((x0.Ins.getD s3.toNat default).From.N)]] [[v4], [.int .u32 ((x0.Ins.getD s3.toNat default).Seq)]] Tryd.underlying60 rfl sz60 rfl hI.agr hat3 hA rfl rfl) rfl fun a hA => ?_
                obtain ⟨r4, hr4, H⟩ := bB H
                refine qcall (v := .bool r4) cf117 hA rfl (fun _ hI => plq (sargassoref_SamePoint.c μ _ hI.agr ((x0.Ins.getD s2.toNat default).From) ⟨hw2.1, hw2.2.1⟩ ((x0.Ins.getD s3.toNat default).From) ⟨hw3.1, hw3.2.1⟩ r4 hr4) hI) rfl fun a hA => ?_
                refine q_nil fun w hI => ?_
                refine hN27 _ _ ?_
                refine w_cond hA rfl (fun hc11 => ?_) (fun hc11 => ?_)
                · have hc110 := hc11; have H := bT H hc11
                  refine w_seq fun _ hN28 => ?_
                  refine w_reg ?_
                  refine stp hA (r_as hA rfl) rfl fun a hA => ?_
                  refine o_nil ?_
                  refine hN28 _ _ ?_
                  refine w_ret ?_
                  have H : some (.inr (.inr 106)) = some z3 := H
                  obtain rfl := Option.some.inj H
                  have H := Hk4
                  have H : some (.inr 106) = some z2 := H
                  obtain rfl := Option.some.inj H
                  have H := Hk3
                  have H : some 106 = some z1 := H
                  obtain rfl := Option.some.inj H
                  have H := Hk2
                  obtain rfl := Option.some.inj (bS H)
                  exact ret1 hA Tryd.results60 rfl ⟨_, rfl, rfl, (in_lit .i64 106 rfl), hI.forget0⟩
                · have hc110 := hc11; have hc11 := ft hc11; have H := bF H hc11
                  refine w_skip ?_
                  refine hN26 _ _ ?_
                  refine w_reg ?_
                  refine stp hA (r_mv hA rfl) rfl fun a hA => 
                    stp hA (r_add hA rfl rfl) rfl fun a hA => 
                    stp hA (r_as hA rfl) rfl fun a hA => ?_
                  refine o_nil ?_
                  exact ⟨m3, Nat.lt_succ_self _, IntKind.i64.wrap (s3 + 1), H, (wrap_in _ _), hA.sub ⟨rfl, rfl, rfl, rfl, rfl, rfl, rfl, rfl, rfl, rfl, rfl, rfl, trivial⟩, hI⟩
              · have hc100 := hc10; have hc10 := of_decide_eq_false hc10; have H := bF H hc10
                refine w_exit rfl ?_
                refine hN22 _ _ ?_
                refine w_reg ?_
                refine stp hA (r_mv hA rfl) rfl fun a hA => 
                  stp hA (r_add hA rfl rfl) rfl fun a hA => 
                  stp hA (r_as hA rfl) rfl fun a hA => ?_
                refine o_nil ?_
                have H : some (.inl (IntKind.i64.wrap (s2 + 1))) = some z3 := H
                obtain rfl := Option.some.inj H
                have H := Hk4
                exact ⟨m2, Nat.lt_succ_self _, IntKind.i64.wrap (s2 + 1), H, (wrap_in _ _), hA.sub ⟨rfl, rfl, rfl, rfl, rfl, rfl, rfl, rfl, rfl, rfl, trivial⟩, hI⟩
            · have hc90 := hc9; have hc9 := of_decide_eq_false hc9; have H := bF H hc9
              refine w_exit rfl ?_
              refine hN18 _ _ ?_
              refine w_seq fun _ hN29 => ?_
              refine w_seq fun _ hN30 => ?_
              refine w_reg ?_
              refine stp hA (r_ldA (j := 1) [] [[.int .u32 x0.Version], [u0_0], [u0_1], [.int .u32 x0.Time]] [] Tryd.underlying68 rfl sz68 rfl hI rfl hA rfl rfl) rfl fun a hA => ?_
              obtain ⟨r5, hr5, H⟩ := bB H
              refine o_callp (u := .bool r5) cf59 hA rfl hI (sargassoref1_Base.c μ _ hI.agr x0 u0_0 u0_1 ⟨hx0.1, hx0.2.1, hx0.2.2.1, hx0.2.2.2⟩ r5 hr5) rfl fun a w hz9 hI hA => ?_
              refine o_nil ?_
              refine hN30 _ _ ?_
              refine w_cond hA rfl (fun hc12 => ?_) (fun hc12 => ?_)
              · have hc120 := hc12; have H := bT H hc12
                refine w_seq fun _ hN31 => ?_
                refine w_seq fun _ hN32 => ?_
                refine w_reg ?_
                refine stp hA (r_fd (k := 1) Tryd.underlying68 rfl sz63 hA rfl rfl) rfl fun a hA => 
                  stp hA (r_ld1 (j := 1) [[.int .u32 x0.Version]] [[u0_1], [.int .u32 x0.Time]] Tryd.underlying63 rfl hI rfl hA rfl rfl) rfl fun a hA => ?_
                obtain ⟨hb4, H⟩ := bG H
                obtain ⟨_, he4, _, hat4⟩ := Slc.elem hx0.2.1 (getD_some default (by decide) hb4)
                obtain ⟨v5, rfl, hw4⟩ := he4
                obtain ⟨_, hsl11⟩ := Slc.sv hx0.2.1
                refine stp hA (r_six Tryd.underlying63 sz62 hsl11 hA rfl rfl (by decide) hb4) rfl fun a hA => 
                  stp hA (r_fd (k := so u0_0 + (0 : Int).toNat * 35 + 33) Tryd.underlying62 rfl sz23 hA rfl rfl) rfl fun a hA => 
                  stp hA (r_ldm1 [av .u8 32 ((x0.Ins.getD (0 : Int).toNat default).From.Tx), [.int .u32 ((x0.Ins.getD (0 : Int).toNat default).From.N)]] [[.int .u32 ((x0.Ins.getD (0 : Int).toNat default).Seq)]] Tryd.underlying23 rfl hI.agr hat4 hA rfl rfl) rfl fun a hA => ?_
                obtain ⟨_, hsl12⟩ := Slc.sv hw4.2.2.1
                refine stp hA (r_slen Tryd.underlying23 hsl12 hA rfl) rfl fun a hA => 
                  stp hA (r_lss hA rfl rfl) rfl fun a hA => ?_
                refine o_nil ?_
                refine hN32 _ _ ?_
                refine w_cond hA rfl (fun hc13 => ?_) (fun hc13 => ?_)
                · have hc130 := hc13; have hc13 := of_decide_eq_true hc13; have H := bT H hc13
                  refine w_seq fun _ hN33 => ?_
                  refine w_reg ?_
                  refine stp hA (r_as hA rfl) rfl fun a hA => ?_
                  refine o_nil ?_
                  refine hN33 _ _ ?_
                  refine w_ret ?_
                  have H : some (.inr 107) = some z2 := H
                  obtain rfl := Option.some.inj H
                  have H := Hk3
                  have H : some 107 = some z1 := H
                  obtain rfl := Option.some.inj H
                  have H := Hk2
                  obtain rfl := Option.some.inj (bS H)
                  exact ret1 hA Tryd.results60 rfl ⟨_, rfl, rfl, (in_lit .i64 107 rfl), hI.forget0⟩
                · have hc130 := hc13; have hc13 := of_decide_eq_false hc13; have H := bF H hc13
                  refine w_skip ?_
                  refine hN31 _ _ ?_
                  refine w_seq fun _ hN34 => ?_
                  refine w_reg ?_
                  refine stp hA (r_as hA rfl) rfl fun a hA => ?_
                  refine o_nil ?_
                  refine hN34 _ _ ?_
                  refine w_ret ?_
                  have H : some (.inr 0) = some z2 := H
                  obtain rfl := Option.some.inj H
                  have H := Hk3
                  have H : some 0 = some z1 := H
                  obtain rfl := Option.some.inj H
                  have H := Hk2
                  obtain rfl := Option.some.inj (bS H)
                  exact ret1 hA Tryd.results60 rfl ⟨_, rfl, rfl, (in_lit .i64 0 rfl), hI.forget0⟩
              · have hc120 := hc12; have hc12 := ft hc12; have H := bF H hc12
                refine w_skip ?_
                refine hN29 _ _ ?_
                refine w_seq fun _ hN35 => ?_
                refine w_seq fun _ hN36 => ?_
                refine w_reg ?_
                refine stp hA (r_as hA rfl) rfl fun a hA => ?_
                refine o_nil ?_
                refine hN36 _ _ ?_
                refine w_block ?_
                obtain ⟨z4, hz10, Hk5⟩ := bind_some H
                obtain ⟨n4, hn4⟩ := loopO_some hz10
                refine w_loop (fun n a w => ∃ (s4 : Int), loopN (sargassoref1_CheckTx.s3 x0) n s4 = some z4 ∧ InR .i64 s4 ∧ Fr a 106 [(0, .agg [[.int .u32 x0.Version], [u0_0], [u0_1], [.int .u32 x0.Time]].flatten.toArray), (1, .pointer (some ⟨g1, 0, none⟩)), (2, .int .i64 0), (3, .int .i64 s1), (5, .bool r3.2), (6, .int .i64 s2), (8, .int .i64 s4), (30, .bool c1), (33, .bool (decide (4000 < r1))), (38, .bool (decide (s1 < (x0.Ins.length : Int)))), (56, .bool (!r3.2)), (61, .bool (decide (s2 < (x0.Ins.length : Int)))), (83, .bool r5)] ∧ Iv w0 [] μ μ [row 22 1 v2 r2.length cs1, cel g1 [[.int .u32 x0.Version], [u0_0], [u0_1], [.int .u32 x0.Time]] 68] w) n4 ⟨0, hn4, (in_lit .i64 0 rfl), hA.sub ⟨rfl, rfl, rfl, rfl, rfl, rfl, rfl, rfl, rfl, rfl, rfl, rfl, rfl, trivial⟩, hI⟩ ?_
                clear hA hI
                rintro n a w ⟨s4, hn4, ws4, hA, hI⟩
                obtain ⟨m4, rfl, H⟩ := loopN_bind hn4
                clear hn4
                refine w_seq fun _ hN37 => ?_
                refine w_seq fun _ hN38 => ?_
                refine w_reg ?_
                refine stp hA (r_mv hA rfl) rfl fun a hA => 
                  stp hA (r_fd (k := 1) Tryd.underlying68 rfl sz63 hA rfl rfl) rfl fun a hA => 
                  stp hA (r_ld1 (j := 1) [[.int .u32 x0.Version]] [[u0_1], [.int .u32 x0.Time]] Tryd.underlying63 rfl hI rfl hA rfl rfl) rfl fun a hA => ?_
                obtain ⟨_, hsl13⟩ := Slc.sv hx0.2.1
                refine stp hA (r_slen Tryd.underlying63 hsl13 hA rfl) rfl fun a hA => 
                  stp hA (r_lss hA rfl rfl) rfl fun a hA => ?_
                refine o_nil ?_
                refine hN38 _ _ ?_
                refine w_cond hA rfl (fun hc14 => ?_) (fun hc14 => ?_)
                · have hc140 := hc14; have hc14 := of_decide_eq_true hc14; have H := bT H hc14
                  refine w_skip ?_
                  refine hN37 _ _ ?_
                  refine w_seq fun _ hN39 => ?_
                  refine w_block ?_
                  refine w_seq fun _ hN40 => ?_
                  refine w_any [] mo hI fun w hI => ?_
                  refine g_easy (i := 0) hA rfl rfl (by kernel_rfl) (.inr hI) (fun _ => r_fd (k := 1) Tryd.underlying68 rfl sz63 hA rfl rfl) rfl fun a hA => ?_
                  refine g_take (i := 1) hA rfl rfl (by kernel_rfl) hI (fun w hI => r_ld1 (j := 1) [[.int .u32 x0.Version]] [[u0_1], [.int .u32 x0.Time]] Tryd.underlying63 rfl hI rfl hA rfl rfl) rfl fun a hA => ?_
                  refine g_easy (i := 2) hA rfl rfl (by kernel_rfl) (.inr hI) (fun _ => r_mv hA rfl) rfl fun a hA => ?_
                  obtain ⟨hb5, H⟩ := bG H
                  obtain ⟨_, he5, _, hat5⟩ := Slc.elem hx0.2.1 (getD_some default hb5.1 hb5.2)
                  obtain ⟨v6, rfl, hw5⟩ := he5
                  obtain ⟨_, hsl14⟩ := Slc.sv hx0.2.1
                  refine g_easy (i := 3) hA rfl rfl (by kernel_rfl) (.inr hI) (fun _ => r_six Tryd.underlying63 sz62 hsl14 hA rfl rfl hb5.1 hb5.2) rfl fun a hA => ?_
                  refine g_easy (i := 4) hA rfl rfl (by kernel_rfl) (.inr hI) (fun _ => r_fd (k := so u0_0 + s4.toNat * 35) Tryd.underlying62 rfl sz60 hA rfl rfl) rfl fun a hA => ?_
                  refine g_take (i := 5) hA rfl rfl (by kernel_rfl) hI (fun w hI => r_ldmA [] [av .u8 32 ((x0.Ins.getD s4.toNat default).From.Tx), [.int .u32 ((x0.Ins.getD s4.toNat default).From.N)]] [[v6], [.int .u32 ((x0.Ins.getD s4.toNat default).Seq)]] Tryd.underlying60 rfl sz60 rfl hI.agr hat5 hA rfl rfl) rfl fun a hA => ?_
                  refine g_forced (i := 6) rfl (by kernel_rfl) ?_
                  obtain ⟨r6, hr6, H⟩ := bB H
                  refine o_callp (u := .agg [av .u8 32 r6.Tx, [.int .u32 r6.N]].flatten.toArray) cf47 hA rfl hI (sargassoref1_Null.c μ _ hI.agr  r6 hr6) rfl fun a w hz11 hI hA => ?_
                  refine o_nil ?_
                  refine ⟨(.inr hI), ?_⟩
                  refine g_forced (i := 7) rfl (by kernel_rfl) ?_
                  obtain ⟨r7, hr7, H⟩ := bB H
                  refine o_callp (u := .bool r7) cf117 hA rfl hI (sargassoref_SamePoint.c μ _ hI.agr ((x0.Ins.getD s4.toNat default).From) ⟨hw5.1, hw5.2.1⟩ r6 ⟨hz11.1, hz11.2⟩ r7 hr7) rfl fun a w hz12 hI hA => ?_
                  refine o_nil ?_
                  refine ⟨(.inr hI), ?_⟩
                  refine g_nil (by kernel_rfl) ?_
                  refine hN40 _ _ ?_
                  refine w_cond hA rfl (fun hc15 => ?_) (fun hc15 => ?_)
                  · have hc150 := hc15; have H := bT H hc15
                    refine w_seq fun _ hN41 => ?_
                    refine w_reg ?_
                    refine stp hA (r_as hA rfl) rfl fun a hA => ?_
                    refine o_nil ?_
                    refine hN41 _ _ ?_
                    refine w_ret ?_
                    have H : some (.inr (.inr 107)) = some z4 := H
                    obtain rfl := Option.some.inj H
                    have H := Hk5
                    have H : some (.inr 107) = some z2 := H
                    obtain rfl := Option.some.inj H
                    have H := Hk3
                    have H : some 107 = some z1 := H
                    obtain rfl := Option.some.inj H
                    have H := Hk2
                    obtain rfl := Option.some.inj (bS H)
                    exact ret1 hA Tryd.results60 rfl ⟨_, rfl, rfl, (in_lit .i64 107 rfl), hI.forget0⟩
                  · have hc150 := hc15; have hc15 := ft hc15; have H := bF H hc15
                    refine w_skip ?_
                    refine hN39 _ _ ?_
                    refine w_reg ?_
                    refine stp hA (r_mv hA rfl) rfl fun a hA => 
                      stp hA (r_add hA rfl rfl) rfl fun a hA => 
                      stp hA (r_as hA rfl) rfl fun a hA => ?_
                    refine o_nil ?_
                    exact ⟨m4, Nat.lt_succ_self _, IntKind.i64.wrap (s4 + 1), H, (wrap_in _ _), hA.sub ⟨rfl, rfl, rfl, rfl, rfl, rfl, rfl, rfl, rfl, rfl, rfl, rfl, rfl, trivial⟩, hI⟩
                · have hc140 := hc14; have hc14 := of_decide_eq_false hc14; have H := bF H hc14
                  refine w_exit rfl ?_
                  refine hN35 _ _ ?_
                  refine w_seq fun _ hN42 => ?_
                  refine w_reg ?_
                  refine stp hA (r_as hA rfl) rfl fun a hA => ?_
                  refine o_nil ?_
                  refine hN42 _ _ ?_
                  refine w_ret ?_
                  have H : some (.inr (.inr 0)) = some z4 := H
                  obtain rfl := Option.some.inj H
                  have H := Hk5
                  have H : some (.inr 0) = some z2 := H
                  obtain rfl := Option.some.inj H
                  have H := Hk3
                  have H : some 0 = some z1 := H
                  obtain rfl := Option.some.inj H
                  have H := Hk2
                  obtain rfl := Option.some.inj (bS H)
                  exact ret1 hA Tryd.results60 rfl ⟨_, rfl, rfl, (in_lit .i64 0 rfl), hI.forget0⟩
set_option maxRecDepth 20000 in
theorem slices_Clone_api_In_api_In.c (μ : Store) (w0 : World) (hμ : Agr μ w0) (x0 : List In) (u0 : Value) (hx0 : Slc (RIn μ) 35 μ u0 x0) (r : List In) (H : slices_Clone_api_In_api_In.f x0 = some r) :
    Calls Tryd.prog 121 [u0].toArray w0 (fun e w' => ∃ v, e = .returned v ∧ ∃ (v0 : Value) (c0 : List Value) (μ' : Store), v = v0 ∧ Els (RIn μ') 35 r c0 ∧ Iv w0 [] μ μ' [row 62 35 v0 r.length c0] w') := by
  obtain ⟨hb, H⟩ := guard_some H
  obtain rfl := Option.some.inj H
  obtain ⟨cs, hE, A, cp, rfl, h2, h3, h4, h5⟩ := hx0
  refine enter Tryd.func121 rfl Tryd.ntmps121 rfl fun a hA => ?_
  have hI := Iv.start hμ
  refine w_seq fun _ hN1 => w_reg (stp hA (r_as hA rfl) rfl fun a hA => o_nil (hN1 _ _ ?_))
  refine w_seq fun _ hN2 => w_seq fun _ hN3 => w_reg (stp hA (r_mv hA rfl) rfl fun a hA => stp hA (r_eqnil Tryd.underlying63 hA rfl rfl) rfl fun a hA => o_nil (hN3 _ _ ?_))
  refine w_cond hA rfl (fun hc => ?_) (fun hc => ?_)
  · have hx : x0 = [] := List.eq_nil_of_length_eq_zero (by
      rcases Nat.eq_zero_or_pos x0.length with h | h
      · exact h
      · rw [h4 (by omega)] at hc; cases hc)
    subst hx
    cases hE
    refine w_seq fun _ hN4 => w_reg (stp hA (r_as hA rfl) rfl fun a hA => o_nil (hN4 _ _ ?_))
    refine w_ret ?_
    have hI := hI.nilRow 62 35
    exact ret1 hA Tryd.results121 rfl ⟨_, rfl, .slice none 0 0, [], μ, rfl, .nil, hI⟩
  · refine w_skip (hN2 _ _ ?_)
    refine w_seq fun _ hN5 => w_reg ?_
    refine o_bsl [] te62 zr62 Tryd.underlying63 hI hA rfl rfl rfl rfl (by kernel_rfl) rfl fun g a w hA hI => ?_
    refine stp hA (r_mv hA rfl) rfl fun a hA => ?_
    refine o_appL (xs := ([] : List In)) (ys := x0) (j := 0) te62 Tryd.underlying63 hI rfl hA rfl rfl (src_sl hI.agr ⟨A, cp, rfl, h2, h3, h4, h5⟩ hE.len) hE.len (hE.ones RIn.ones) (by simp only [List.length_nil, maxLen]; omega) (by simp only [List.length_nil]; omega) rfl fun v a w hA hI => ?_
    refine stp hA (r_as hA rfl) rfl fun a hA => o_nil (hN5 _ _ (w_ret ?_))
    exact ret1 hA Tryd.results121 rfl ⟨_, rfl, v, cs, μ, rfl, hE, hI⟩
set_option maxRecDepth 20000 in
theorem slices_Clone_api_Out_api_Out.c (μ : Store) (w0 : World) (hμ : Agr μ w0) (x0 : List Out) (u0 : Value) (hx0 : Slc (ROut μ) 33 μ u0 x0) (r : List Out) (H : slices_Clone_api_Out_api_Out.f x0 = some r) :
    Calls Tryd.prog 122 [u0].toArray w0 (fun e w' => ∃ v, e = .returned v ∧ ∃ (v0 : Value) (c0 : List Value) (μ' : Store), v = v0 ∧ Els (ROut μ') 33 r c0 ∧ Iv w0 [] μ μ' [row 65 33 v0 r.length c0] w') := by
  obtain ⟨hb, H⟩ := guard_some H
  obtain rfl := Option.some.inj H
  obtain ⟨cs, hE, A, cp, rfl, h2, h3, h4, h5⟩ := hx0
  refine enter Tryd.func122 rfl Tryd.ntmps122 rfl fun a hA => ?_
  have hI := Iv.start hμ
  refine w_seq fun _ hN1 => w_reg (stp hA (r_as hA rfl) rfl fun a hA => o_nil (hN1 _ _ ?_))
  refine w_seq fun _ hN2 => w_seq fun _ hN3 => w_reg (stp hA (r_mv hA rfl) rfl fun a hA => stp hA (r_eqnil Tryd.underlying66 hA rfl rfl) rfl fun a hA => o_nil (hN3 _ _ ?_))
  refine w_cond hA rfl (fun hc => ?_) (fun hc => ?_)
  · have hx : x0 = [] := List.eq_nil_of_length_eq_zero (by
      rcases Nat.eq_zero_or_pos x0.length with h | h
      · exact h
      · rw [h4 (by omega)] at hc; cases hc)
    subst hx
    cases hE
    refine w_seq fun _ hN4 => w_reg (stp hA (r_as hA rfl) rfl fun a hA => o_nil (hN4 _ _ ?_))
    refine w_ret ?_
    have hI := hI.nilRow 65 33
    exact ret1 hA Tryd.results122 rfl ⟨_, rfl, .slice none 0 0, [], μ, rfl, .nil, hI⟩
  · refine w_skip (hN2 _ _ ?_)
    refine w_seq fun _ hN5 => w_reg ?_
    refine o_bsl [] te65 zr65 Tryd.underlying66 hI hA rfl rfl rfl rfl (by kernel_rfl) rfl fun g a w hA hI => ?_
    refine stp hA (r_mv hA rfl) rfl fun a hA => ?_
    refine o_appL (xs := ([] : List Out)) (ys := x0) (j := 0) te65 Tryd.underlying66 hI rfl hA rfl rfl (src_sl hI.agr ⟨A, cp, rfl, h2, h3, h4, h5⟩ hE.len) hE.len (hE.ones ROut.ones) (by simp only [List.length_nil, maxLen]; omega) (by simp only [List.length_nil]; omega) rfl fun v a w hA hI => ?_
    refine stp hA (r_as hA rfl) rfl fun a hA => o_nil (hN5 _ _ (w_ret ?_))
    exact ret1 hA Tryd.results122 rfl ⟨_, rfl, v, cs, μ, rfl, hE, hI⟩
set_option maxRecDepth 20000 in
theorem tx_Clone.c (μ : Store) (w0 : World) (hμ : Agr μ w0) (x0 : Tx) (u0_0 : Value) (u0_1 : Value) (hx0 : TxW μ x0 u0_0 u0_1) (r : Tx) (H : tx_Clone.f x0 = some r) :
    Calls Tryd.prog 61 [.agg [[.int .u32 x0.Version], [u0_0], [u0_1], [.int .u32 x0.Time]].flatten.toArray].toArray w0 (fun e w' => ∃ v, e = .returned v ∧ ∃ (v0_0 : Value) (v0_1 : Value) (μ' : Store), v = .agg [[.int .u32 r.Version], [v0_0], [v0_1], [.int .u32 r.Time]].flatten.toArray ∧ TxW μ' r v0_0 v0_1 ∧ Iv w0 [] μ μ' [] w') := by
  refine enter Tryd.func61 rfl Tryd.ntmps61 rfl fun a hA => ?_
  have hI := Iv.start hμ
  have H := bI H
  refine w_seq fun _ hN1 => ?_
  refine w_reg ?_
  refine o_box [[.int .u32 x0.Version], [u0_0], [u0_1], [.int .u32 x0.Time]] hI hA rfl rfl rfl fun g1 a w hA hI hg1 => 
    o_new [[.int .u32 0], [(.slice none 0 0)], [(.slice none 0 0)], [.int .u32 0]] zr68 hI hA rfl fun g2 a w hA hI hg2 => ?_
  refine o_nil ?_
  refine hN1 _ _ ?_
  refine w_seq fun _ hN2 => ?_
  refine w_any [7, 9] mo hI fun w hI => ?_
  refine g_easy (i := 0) hA rfl rfl (by kernel_rfl) (.inr hI) (fun _ => r_fd (k := 1) Tryd.underlying68 rfl sz63 hA rfl rfl) rfl fun a hA => ?_
  refine g_take (i := 1) hA rfl rfl (by kernel_rfl) hI (fun w hI => r_ld1 (j := 1) [[.int .u32 x0.Version]] [[u0_1], [.int .u32 x0.Time]] Tryd.underlying63 rfl hI rfl hA rfl rfl) rfl fun a hA => ?_
  refine g_easy (i := 3) hA rfl rfl (by kernel_rfl) (.inr hI) (fun _ => r_fd (k := 2) Tryd.underlying68 rfl sz66 hA rfl rfl) rfl fun a hA => ?_
  refine g_take (i := 4) hA rfl rfl (by kernel_rfl) hI (fun w hI => r_ld1 (j := 1) [[.int .u32 x0.Version], [u0_0]] [[.int .u32 x0.Time]] Tryd.underlying66 rfl hI rfl hA rfl rfl) rfl fun a hA => ?_
  refine g_forced (i := 2) rfl (by kernel_rfl) ?_
  obtain ⟨r1, hr1, H⟩ := bB H
  refine o_call _ cf121 hA rfl (slices_Clone_api_In_api_In.c μ _ hI.agr x0.Ins u0_0 hx0.2.1 r1 hr1) rfl fun v1 a w hz1 hA => ?_
  obtain ⟨_, cs1, μ1, rfl, hE1, hi1⟩ := hz1
  have hI := hI.call hi1
  refine o_nil ?_
  refine ⟨(.inr ((hI.sel [1, 2] (by decide) rfl).less (Store.le.refl _) hi1.le)), ?_⟩
  refine g_easy (i := 6) hA rfl rfl (by kernel_rfl) (.inr ((hI.sel [1, 2] (by decide) rfl).less (Store.le.refl _) hi1.le)) (fun _ => r_fd (k := 1) Tryd.underlying68 rfl sz63 hA rfl rfl) rfl fun a hA => ?_
  refine g_forced (i := 5) rfl (by kernel_rfl) ?_
  obtain ⟨r2, hr2, H⟩ := bB H
  refine o_call _ cf122 hA rfl (slices_Clone_api_Out_api_Out.c μ1 _ hI.agr x0.Outs u0_1 (Slc.le hx0.2.2.1 (fun _ _ h => ROut.le hi1.le h) hi1.le) r2 hr2) rfl fun v2 a w hz2 hA => ?_
  obtain ⟨_, cs2, μ2, rfl, hE2, hi2⟩ := hz2
  have hI := hI.call hi2
  refine o_nil ?_
  refine ⟨(.inr ((hI.sel [2, 3] (by decide) rfl).less (Store.le.refl _) (hi1.le.trans hi2.le))), ?_⟩
  refine g_forced (i := 7) rfl (by kernel_rfl) ?_
  have hone := own_one hI (j := 1) rfl
  have hcel := own_cell hI (j := 1) rfl
  refine o_st (j := 3) [[.int .u32 x0.Version]] [[u0_0]] [[v1]] [[u0_1], [.int .u32 x0.Time]] sz63 rfl rfl (by intro c hc; simp at hc; subst hc; exact hone) hI rfl hA rfl rfl hcel rfl fun w hI => ?_
  refine o_nil ?_
  refine ⟨(.inl (by kernel_rfl)), ?_⟩
  refine g_easy (i := 8) hA rfl rfl (by kernel_rfl) (.inl (by kernel_rfl)) (fun _ => r_fd (k := 2) Tryd.underlying68 rfl sz66 hA rfl rfl) rfl fun a hA => ?_
  refine g_forced (i := 9) rfl (by kernel_rfl) ?_
  have hone := own_one hI (j := 0) rfl
  have hcel := own_cell hI (j := 0) rfl
  refine o_st (j := 3) [[.int .u32 x0.Version], [v1]] [[u0_1]] [[v2]] [[.int .u32 x0.Time]] sz66 rfl rfl (by intro c hc; simp at hc; subst hc; exact hone) hI rfl hA rfl rfl hcel rfl fun w hI => ?_
  refine o_nil ?_
  refine ⟨(.inl (by kernel_rfl)), ?_⟩
  refine g_nil (by kernel_rfl) ?_
  refine hN2 _ _ ?_
  obtain ⟨c1, hz3, Hk1⟩ := bB H
  refine w_cut (fun a w => ∃ (μ3 : Store) (ccc1 : List Value), μ2.le μ3 ∧ Els (RIn μ3) 35 c1 ccc1 ∧ Fr a 32 [(0, .agg [[.int .u32 x0.Version], [u0_0], [u0_1], [.int .u32 x0.Time]].flatten.toArray), (1, .pointer (some ⟨g1, 0, none⟩)), (2, .pointer (some ⟨g2, 0, none⟩))] ∧ Iv w0 [] μ μ3 [row 65 33 v2 r2.length cs2, row 62 35 v1 c1.length ccc1, cel g2 [[.int .u32 0], [(.slice none 0 0)], [(.slice none 0 0)], [.int .u32 0]] 68, cel g1 [[.int .u32 x0.Version], [v1], [v2], [.int .u32 x0.Time]] 68] w) ?_ ?_
  · have H := bI hz3
    refine w_seq fun _ hN3 => ?_
    refine w_reg ?_
    refine stp hA (r_fd (k := 1) Tryd.underlying68 rfl sz63 hA rfl rfl) rfl fun a hA => 
      stp hA (r_ld1 (j := 3) [[.int .u32 x0.Version]] [[v2], [.int .u32 x0.Time]] Tryd.underlying63 rfl hI rfl hA rfl rfl) rfl fun a hA => ?_
    have hlen1 := Iv.row_in hI (j := 1) rfl
    refine stp hA (r_rlen (xs := 0) Tryd.underlying63 hI (j := 1) rfl hA rfl) rfl fun a hA => 
      stp hA (r_mv hA rfl) rfl fun a hA => ?_
    refine o_nil ?_
    refine hN3 _ _ ?_
    refine w_block ?_
    obtain ⟨z1, hz4, Hk2⟩ := bind_some H
    obtain ⟨n1, hn1⟩ := loopO_some hz4
    refine w_loop (fun n a w => ∃ (s1 : Int) (s2 : List In) (μ4 : Store) (ccs2 : List Value), loopN (tx_Clone.s0 r1) n (s1, s2) = some z1 ∧ μ2.le μ4 ∧ InR .i64 s1 ∧ Els (RIn μ4) 35 s2 ccs2 ∧ Fr a 32 [(0, .agg [[.int .u32 x0.Version], [u0_0], [u0_1], [.int .u32 x0.Time]].flatten.toArray), (1, .pointer (some ⟨g1, 0, none⟩)), (2, .pointer (some ⟨g2, 0, none⟩)), (14, .int .i64 (r1.length : Int)), (15, .int .i64 s1)] ∧ Iv w0 [] μ μ4 [row 65 33 v2 r2.length cs2, row 62 35 v1 s2.length ccs2, cel g2 [[.int .u32 0], [(.slice none 0 0)], [(.slice none 0 0)], [.int .u32 0]] 68, cel g1 [[.int .u32 x0.Version], [v1], [v2], [.int .u32 x0.Time]] 68] w) n1 ⟨0, r1, μ2, cs1, hn1, (Store.le.refl _), (in_lit .i64 0 rfl), (Els.mono hE1 (fun _ _ h => RIn.le hi2.le h)), hA.sub ⟨rfl, rfl, rfl, rfl, rfl, trivial⟩, hI⟩ ?_
    clear hA hI
    rintro n a w ⟨s1, s2, μ4, ccs2, hn1, hle2, ws1, ws2, hA, hI⟩
    obtain ⟨m1, rfl, H⟩ := loopN_bind hn1
    clear hn1
    refine w_seq fun _ hN4 => ?_
    refine w_reg ?_
    refine stp hA (r_lss hA rfl rfl) rfl fun a hA => ?_
    refine o_nil ?_
    refine hN4 _ _ ?_
    refine w_seq fun _ hN5 => ?_
    refine w_cond hA rfl (fun hc1 => ?_) (fun hc1 => ?_)
    · have hc10 := hc1; have hc1 := of_decide_eq_true hc1; have H := bT H hc1
      refine w_skip ?_
      refine hN5 _ _ ?_
      refine w_seq fun _ hN6 => ?_
      refine w_block ?_
      refine w_seq fun _ hN7 => ?_
      refine w_reg ?_
      refine stp hA (r_mv hA rfl) rfl fun a hA => 
        stp hA (r_as hA rfl) rfl fun a hA => ?_
      refine o_nil ?_
      refine hN7 _ _ ?_
      refine w_any [12] mo hI fun w hI => ?_
      refine g_easy (i := 0) hA rfl rfl (by kernel_rfl) (.inr hI) (fun _ => r_fd (k := 1) Tryd.underlying68 rfl sz63 hA rfl rfl) rfl fun a hA => ?_
      refine g_take (i := 1) hA rfl rfl (by kernel_rfl) hI (fun w hI => r_ld1 (j := 3) [[.int .u32 x0.Version]] [[v2], [.int .u32 x0.Time]] Tryd.underlying63 rfl hI rfl hA rfl rfl) rfl fun a hA => ?_
      refine g_easy (i := 2) hA rfl rfl (by kernel_rfl) (.inr hI) (fun _ => r_mv hA rfl) rfl fun a hA => ?_
      refine g_easy (i := 3) hA rfl rfl (by kernel_rfl) (.inr hI) (fun _ => r_fd (k := 1) Tryd.underlying68 rfl sz63 hA rfl rfl) rfl fun a hA => ?_
      refine g_take (i := 4) hA rfl rfl (by kernel_rfl) hI (fun w hI => r_ld1 (j := 3) [[.int .u32 x0.Version]] [[v2], [.int .u32 x0.Time]] Tryd.underlying63 rfl hI rfl hA rfl rfl) rfl fun a hA => ?_
      refine g_easy (i := 5) hA rfl rfl (by kernel_rfl) (.inr hI) (fun _ => r_mv hA rfl) rfl fun a hA => ?_
      obtain ⟨hb1, H⟩ := bG H
      refine g_take (i := 6) hA rfl rfl (by kernel_rfl) hI (fun w hI => r_rix (j := 1) Tryd.underlying63 sz62 hI rfl hA rfl rfl hb1.1 hb1.2) rfl fun a hA => ?_
      refine g_easy (i := 7) hA rfl rfl (by kernel_rfl) (.inr hI) (fun _ => r_fd (k := so v1 + s1.toNat * 35 + 33) Tryd.underlying62 rfl sz23 hA rfl rfl) rfl fun a hA => ?_
      obtain ⟨A1, _, B1, hc2, hl1, _, he1⟩ := Els.at_ ws2 (getD_some default hb1.1 hb1.2)
      obtain ⟨v3, rfl, hw1⟩ := he1
      refine g_take (i := 8) hA rfl rfl (by kernel_rfl) hI (fun w hI => r_rldQ (j := 1) (q := s1.toNat * 35) (off := 33) A1 B1 [av .u8 32 ((s2.getD s1.toNat default).From.Tx), [.int .u32 ((s2.getD s1.toNat default).From.N)]] [[.int .u32 ((s2.getD s1.toNat default).Seq)]] hc2 hl1 rfl Tryd.underlying23 rfl hI rfl hA rfl) rfl fun a hA => ?_
      refine g_forced (i := 9) rfl (by kernel_rfl) ?_
      obtain ⟨r3, hr3, H⟩ := bB H
      refine o_call _ cf93 hA rfl (bytes_Clone.c μ4 _ hI.agr ((s2.getD s1.toNat default).Key) v3 hw1.2.2.1 r3 hr3) rfl fun v4 a w hz5 hA => ?_
      obtain ⟨_, cs3, rfl, hE3, hi3⟩ := hz5
      have hI := hI.call hi3
      refine o_nil ?_
      refine ⟨(.inr (hI.sel [1, 2, 3, 4] (by decide) rfl)), ?_⟩
      refine g_mono (I' := fun w => Iv w0 [] μ μ4 [row 5 1 v4 r3.length cs3, row 65 33 v2 r2.length cs2, row 62 35 v1 s2.length ccs2, cel g2 [[.int .u32 0], [(.slice none 0 0)], [(.slice none 0 0)], [.int .u32 0]] 68, cel g1 [[.int .u32 x0.Version], [v1], [v2], [.int .u32 x0.Time]] 68] w) (fun w h => (h.sel [1, 2, 3, 4] (by decide) rfl)) _ _ _ _ ?_
      refine g_take (i := 10) hA rfl rfl (by kernel_rfl) hI (fun w hI => r_rix (j := 2) Tryd.underlying63 sz62 hI rfl hA rfl rfl hb1.1 hb1.2) rfl fun a hA => ?_
      refine g_easy (i := 11) hA rfl rfl (by kernel_rfl) (.inr hI) (fun _ => r_fd (k := so v1 + s1.toNat * 35 + 33) Tryd.underlying62 rfl sz23 hA rfl rfl) rfl fun a hA => ?_
      refine g_forced (i := 12) rfl (by kernel_rfl) ?_
      obtain ⟨μ5, hle3, hsv1, hI, hth1⟩ := hI.freezeRowT 0 rfl
      have hS1 : Slc (RI .u8) 1 μ5 v4 r3 := ⟨_, hE3, hsv1⟩
      obtain ⟨A2, _, B2, hc3, hl2, hl3, he2⟩ := Els.at_ (Els.mono ws2 (fun _ _ h => RIn.le hle3 h)) (getD_some default hb1.1 hb1.2)
      obtain ⟨v5, rfl, hw2⟩ := he2
      have hE4 := Els.setAt (y := (⟨(s2.getD s1.toNat default).From, r3, (s2.getD s1.toNat default).Seq⟩ : In)) (d := [av .u8 32 ((s2.getD s1.toNat default).From.Tx), [.int .u32 ((s2.getD s1.toNat default).From.N)], [v4], [.int .u32 ((s2.getD s1.toNat default).Seq)]].flatten) (Els.mono ws2 (fun _ _ h => RIn.le hle3 h)) hc3 (idx_lt hb1.1 hb1.2) hl2 hl3 ⟨v4, rfl, ⟨hw2.1, hw2.2.1, hS1, hw2.2.2.2⟩⟩ rfl
      obtain ⟨_, hsc1⟩ := Slc.sv hS1
      refine o_rstPL (j := 1) (q := s1.toNat * 35) (off := 33) (m' := (s2.set s1.toNat (⟨(s2.getD s1.toNat default).From, r3, (s2.getD s1.toNat default).Seq⟩ : In)).length) A2 B2 [av .u8 32 ((s2.getD s1.toNat default).From.Tx), [.int .u32 ((s2.getD s1.toNat default).From.N)]] [[v5]] [[v4]] [[.int .u32 ((s2.getD s1.toNat default).Seq)]] hc3 hl2 rfl sz23 rfl rfl (fl_cons (one_one (one_sl hsc1)) fl_nil) hI rfl hA rfl rfl (cells_sl hsc1) (by omega) (by first | exact (List.length_set ..).symm | simp) fun w hI => ?_
      refine o_nil ?_
      refine ⟨(.inl (by kernel_rfl)), ?_⟩
      refine g_nil (by kernel_rfl) ?_
      refine hN6 _ _ ?_
      refine w_reg ?_
      refine stp hA (r_add hA rfl rfl) rfl fun a hA => 
        stp hA (r_mv hA rfl) rfl fun a hA => ?_
      refine o_nil ?_
      exact ⟨m1, Nat.lt_succ_self _, IntKind.i64.wrap (s1 + 1), s2.set s1.toNat (⟨(s2.getD s1.toNat default).From, r3, (s2.getD s1.toNat default).Seq⟩ : In), μ5, A2 ++ ([av .u8 32 ((s2.getD s1.toNat default).From.Tx), [.int .u32 ((s2.getD s1.toNat default).From.N)], [v4], [.int .u32 ((s2.getD s1.toNat default).Seq)]].flatten ++ B2), H, (hle2.trans hle3), (wrap_in _ _), hE4, hA.sub ⟨rfl, rfl, rfl, rfl, rfl, trivial⟩, hI⟩
    · have hc10 := hc1; have hc1 := of_decide_eq_false hc1; have H := bF H hc1
      refine w_exit rfl ?_
      have H : some s2 = some z1 := H
      obtain rfl := Option.some.inj H
      have H := Hk2
      cases Option.some.inj (bS H)
      exact ⟨μ4, ccs2, hle2, ws2, hA.sub ⟨rfl, rfl, rfl, trivial⟩, hI⟩
  · rintro a w ⟨μ3, ccc1, hle1, wc1, hA, hI⟩
    have H := Hk1
    refine w_seq fun _ hN8 => ?_
    refine w_reg ?_
    refine stp hA (r_ldA (j := 3) [] [[.int .u32 x0.Version], [v1], [v2], [.int .u32 x0.Time]] [] Tryd.underlying68 rfl sz68 rfl hI rfl hA rfl rfl) rfl fun a hA => 
      o_st (j := 2) [] [[.int .u32 0], [(.slice none 0 0)], [(.slice none 0 0)], [.int .u32 0]] [[.int .u32 x0.Version], [v1], [v2], [.int .u32 x0.Time]] [] sz68 rfl rfl (fl_cons (one_one rfl) (fl_cons (one_one (own_one hI (j := 1) rfl)) (fl_cons (one_one (own_one hI (j := 0) rfl)) (fl_cons (one_one rfl) fl_nil)))) hI rfl hA rfl rfl rfl rfl fun w hI => ?_
    refine o_nil ?_
    refine hN8 _ _ ?_
    refine w_ret ?_
    obtain ⟨μ6, hle4, hsv2, hI⟩ := hI.freezeRow 1 rfl
    have hS2 : Slc (RIn μ6) 35 μ6 v1 c1 := ⟨_, (Els.mono wc1 (fun _ _ h => RIn.le hle4 h)), hsv2⟩
    obtain ⟨μ7, hle5, hsv3, hI⟩ := hI.freezeRow 0 rfl
    have hS3 : Slc (ROut μ7) 33 μ7 v2 r2 := ⟨_, (Els.mono hE2 (fun _ _ h => ROut.le ((hle1.trans hle4).trans hle5) h)), hsv3⟩
    obtain rfl := Option.some.inj (bS H)
    exact retc Tryd.underlying68 rfl sz68 rfl hI (j := 0) rfl hA Tryd.results61 rfl ⟨_, rfl, v1, v2, μ7, rfl, ⟨hx0.1, (Slc.le hS2 (fun _ _ h => RIn.le hle5 h) hle5), hS3, hx0.2.2.2⟩, (hI.sel [] (by decide) rfl)⟩
end Go.Proofs.YtpeelghbhihgkaaDoor.T
namespace Go.Proofs.YtpeelghbhihgkaaDoor.T
open Go Go.Proofs Go.Proofs.YtpeelghbhihgkaaDoor.K
set_option linter.unusedVariables false
set_option linter.unusedSimpArgs false
noncomputable def sargassolaw4_first.f : Option Bool := ((((tx_Bytes.f (⟨0, [], [], 0⟩ : Tx)).bind fun r1 => (if (r1.length : Int) = 10 then ((tx_Size.f (⟨0, [], [], 0⟩ : Tx)).bind fun r2 => some (decide (r2 = 10))) else some false))).bind fun c1 => some c1)
noncomputable def sargassolaw4_light.s0 (x0 : Tx) : Int → Option (Int ⊕ Bool) := fun s1 => (if s1 < (x0.Ins.length : Int) then (if 0 ≤ s1 ∧ s1 < (x0.Ins.length : Int) then (if 100 < (((x0.Ins.getD s1.toNat default).Key).length : Int) then some (.inr false) else some (.inl (IntKind.i64.wrap (s1 + 1)))) else none) else some (.inr true))
noncomputable def sargassolaw4_light.f (x0 : Tx) : Option Bool := (((if 60 < (x0.Ins.length : Int) then some true else some (decide (60 < (x0.Outs.length : Int))))).bind fun c1 => (if c1 = true then some false else loopO (sargassolaw4_light.s0 x0) 0))
end Go.Proofs.YtpeelghbhihgkaaDoor.T
namespace Go.Proofs.YtpeelghbhihgkaaDoor.T
open Go Go.Proofs Go.Proofs.YtpeelghbhihgkaaDoor.K
set_option linter.unusedVariables false
set_option linter.unusedSimpArgs false
set_option maxRecDepth 20000 in
theorem sargassolaw4_first.c (μ : Store) (w0 : World) (hμ : Agr μ w0) (r : Bool) (H : sargassolaw4_first.f = some r) :
    Calls Tryd.prog 45 [].toArray w0 (fun e w' => ∃ v, e = .returned v ∧ v = .bool r ∧ True ∧ Iv w0 [] μ μ [] w') := by
  refine enter Tryd.func45 rfl Tryd.ntmps45 rfl fun a hA => ?_
  have hI := Iv.start hμ
  have H := bI H
  refine w_seq fun _ hN1 => ?_
  refine w_reg ?_
  refine stp hA (r_as hA rfl) rfl fun a hA => ?_
  refine o_nil ?_
  refine hN1 _ _ ?_
  obtain ⟨c1, hz1, Hk1⟩ := bB H
  refine w_cut (fun a w => Fr a 10 [(0, .bool c1)] ∧ Iv w0 [] μ μ [] w) ?_ ?_
  · have H := bI hz1
    refine w_reg ?_
    refine stp hA (r_bldS (cs := [[.int .u32 0], [(.slice none 0 0)], [(.slice none 0 0)], [.int .u32 0]].flatten.toArray) (pl := [(0, 1), (1, 1), (2, 1), (3, 1)]) zr68 Tryd.underlying68 ⟨rfl, sz39, rfl, sz63, rfl, sz66, rfl, sz39, trivial⟩ hA rfl (by kernel_rfl)) rfl fun a hA => ?_
    obtain ⟨r1, hr1, H⟩ := bB H
    refine o_call _ cf51 hA rfl (tx_Bytes.c μ _ hI.agr (⟨0, [], [], 0⟩ : Tx) (.slice none 0 0) (.slice none 0 0) ⟨(in_lit .u32 0 rfl), (slc_nil _ _ _), (slc_nil _ _ _), (in_lit .u32 0 rfl)⟩ r1 hr1) rfl fun v1 a w hz2 hA => ?_
    obtain ⟨_, cs1, rfl, hE1, hi1⟩ := hz2
    have hI := hI.call hi1
    have hlen1 := Iv.row_in hI (j := 0) rfl
    refine stp hA (r_rlen (xs := 0) Tryd.underlying23 hI (j := 0) rfl hA rfl) rfl fun a hA => 
      stp hA (r_eql hA rfl rfl) rfl fun a hA => 
      stp hA (r_mv hA rfl) rfl fun a hA => ?_
    rcases Bool.eq_false_or_eq_true (decide ((r1.length : Int) = 10)) with hc1 | hc1
    · have hc10 := hc1; have hc1 := of_decide_eq_true hc1; have H := bT H hc1
      refine o_yes hA rfl rfl hc10 <| 
        stp hA (r_bldS (cs := [[.int .u32 0], [(.slice none 0 0)], [(.slice none 0 0)], [.int .u32 0]].flatten.toArray) (pl := [(0, 1), (1, 1), (2, 1), (3, 1)]) zr68 Tryd.underlying68 ⟨rfl, sz39, rfl, sz63, rfl, sz66, rfl, sz39, trivial⟩ hA rfl (by kernel_rfl)) rfl fun a hA => 
        o_yes hA rfl rfl hc10 <| ?_
      obtain ⟨r2, hr2, H⟩ := bB H
      refine o_callp (u := .int .i64 r2) cf54 hA rfl hI (tx_Size.c μ _ hI.agr (⟨0, [], [], 0⟩ : Tx) (.slice none 0 0) (.slice none 0 0) ⟨(in_lit .u32 0 rfl), (slc_nil _ _ _), (slc_nil _ _ _), (in_lit .u32 0 rfl)⟩ r2 hr2) rfl fun a w hz3 hI hA => 
        o_yes hA rfl rfl hc10 <| 
        stp hA (r_eql hA rfl rfl) rfl fun a hA => 
        stp hA (r_pick_t hA rfl hc10 rfl) rfl fun a hA => 
        stp hA (r_as hA rfl) rfl fun a hA => ?_
      refine o_nil ?_
      cases Option.some.inj (bS H)
      exact ⟨hA.sub ⟨rfl, trivial⟩, (hI.sel [] (by decide) rfl)⟩
    · have hc10 := hc1; have hc1 := of_decide_eq_false hc1; have H := bF H hc1
      refine o_no hA rfl rfl (by rw [hc10]; simp [vb]) rfl fun a hA => 
        o_no hA rfl rfl (by rw [hc10]; simp [vb]) rfl fun a hA => 
        o_no hA rfl rfl (by rw [hc10]; simp [vb]) rfl fun a hA => 
        stp hA (r_pick_f hA rfl hc10 rfl) rfl fun a hA => 
        stp hA (r_as hA rfl) rfl fun a hA => ?_
      refine o_nil ?_
      cases Option.some.inj (bS H)
      exact ⟨hA.sub ⟨rfl, trivial⟩, (hI.sel [] (by decide) rfl)⟩
  · rintro a w ⟨hA, hI⟩
    have H := Hk1
    refine w_ret ?_
    obtain rfl := Option.some.inj (bS H)
    exact ret1 hA Tryd.results45 rfl ⟨_, rfl, rfl, trivial, hI.forget0⟩
set_option maxRecDepth 20000 in
theorem sargassolaw4_light.c (μ : Store) (w0 : World) (hμ : Agr μ w0) (x0 : Tx) (u0_0 : Value) (u0_1 : Value) (hx0 : TxW μ x0 u0_0 u0_1) (r : Bool) (H : sargassolaw4_light.f x0 = some r) :
    Calls Tryd.prog 49 [.agg [[.int .u32 x0.Version], [u0_0], [u0_1], [.int .u32 x0.Time]].flatten.toArray].toArray w0 (fun e w' => ∃ v, e = .returned v ∧ v = .bool r ∧ True ∧ Iv w0 [] μ μ [] w') := by
  refine enter Tryd.func49 rfl Tryd.ntmps49 rfl fun a hA => ?_
  have hI := Iv.start hμ
  have H := bI H
  refine w_seq fun _ hN1 => ?_
  refine w_reg ?_
  refine o_box [[.int .u32 x0.Version], [u0_0], [u0_1], [.int .u32 x0.Time]] hI hA rfl rfl rfl fun g1 a w hA hI hg1 => 
    stp hA (r_as hA rfl) rfl fun a hA => ?_
  refine o_nil ?_
  refine hN1 _ _ ?_
  refine w_seq fun _ hN2 => ?_
  obtain ⟨c1, hz1, Hk1⟩ := bB H
  refine w_cut (fun a w => Fr a 29 [(0, .agg [[.int .u32 x0.Version], [u0_0], [u0_1], [.int .u32 x0.Time]].flatten.toArray), (1, .pointer (some ⟨g1, 0, none⟩)), (2, .bool false), (13, .bool c1)] ∧ Iv w0 [] μ μ [cel g1 [[.int .u32 x0.Version], [u0_0], [u0_1], [.int .u32 x0.Time]] 68] w) ?_ ?_
  · have H := bI hz1
    refine w_reg ?_
    refine stp hA (r_fd (k := 1) Tryd.underlying68 rfl sz63 hA rfl rfl) rfl fun a hA => 
      stp hA (r_ld1 (j := 0) [[.int .u32 x0.Version]] [[u0_1], [.int .u32 x0.Time]] Tryd.underlying63 rfl hI rfl hA rfl rfl) rfl fun a hA => ?_
    obtain ⟨_, hsl1⟩ := Slc.sv hx0.2.1
    refine stp hA (r_slen Tryd.underlying63 hsl1 hA rfl) rfl fun a hA => 
      stp hA (r_gtr hA rfl rfl) rfl fun a hA => 
      stp hA (r_mv hA rfl) rfl fun a hA => ?_
    rcases Bool.eq_false_or_eq_true (decide (60 < (x0.Ins.length : Int))) with hc1 | hc1
    · have hc10 := hc1; have hc1 := of_decide_eq_true hc1; have H := bT H hc1
      refine o_no hA rfl rfl (by rw [hc10]; simp [vb]) rfl fun a hA => 
        o_no hA rfl rfl (by rw [hc10]; simp [vb]) rfl fun a hA => 
        o_no hA rfl rfl (by rw [hc10]; simp [vb]) rfl fun a hA => 
        o_no hA rfl rfl (by rw [hc10]; simp [vb]) rfl fun a hA => 
        stp hA (r_pick_t hA rfl hc10 rfl) rfl fun a hA => ?_
      refine o_nil ?_
      cases Option.some.inj (bS H)
      exact ⟨hA.sub ⟨rfl, rfl, rfl, rfl, trivial⟩, hI⟩
    · have hc10 := hc1; have hc1 := of_decide_eq_false hc1; have H := bF H hc1
      refine o_yes hA rfl rfl hc10 <| 
        stp hA (r_fd (k := 2) Tryd.underlying68 rfl sz66 hA rfl rfl) rfl fun a hA => 
        o_yes hA rfl rfl hc10 <| 
        stp hA (r_ld1 (j := 0) [[.int .u32 x0.Version], [u0_0]] [[.int .u32 x0.Time]] Tryd.underlying66 rfl hI rfl hA rfl rfl) rfl fun a hA => 
        o_yes hA rfl rfl hc10 <| ?_
      obtain ⟨_, hsl2⟩ := Slc.sv hx0.2.2.1
      refine stp hA (r_slen Tryd.underlying66 hsl2 hA rfl) rfl fun a hA => 
        o_yes hA rfl rfl hc10 <| 
        stp hA (r_gtr hA rfl rfl) rfl fun a hA => 
        stp hA (r_pick_f hA rfl hc10 rfl) rfl fun a hA => ?_
      refine o_nil ?_
      cases Option.some.inj (bS H)
      exact ⟨hA.sub ⟨rfl, rfl, rfl, rfl, trivial⟩, hI⟩
  · rintro a w ⟨hA, hI⟩
    have H := Hk1
    refine w_cond hA rfl (fun hc2 => ?_) (fun hc2 => ?_)
    · have hc20 := hc2; have H := bT H hc2
      refine w_seq fun _ hN3 => ?_
      refine w_reg ?_
      refine stp hA (r_as hA rfl) rfl fun a hA => ?_
      refine o_nil ?_
      refine hN3 _ _ ?_
      refine w_ret ?_
      obtain rfl := Option.some.inj (bS H)
      exact ret1 hA Tryd.results49 rfl ⟨_, rfl, rfl, trivial, hI.forget0⟩
    · have hc20 := hc2; have hc2 := ft hc2; have H := bF H hc2
      refine w_skip ?_
      refine hN2 _ _ ?_
      refine w_seq fun _ hN4 => ?_
      refine w_seq fun _ hN5 => ?_
      refine w_reg ?_
      refine stp hA (r_as hA rfl) rfl fun a hA => ?_
      refine o_nil ?_
      refine hN5 _ _ ?_
      refine w_block ?_
      obtain ⟨z1, hz2, Hk2⟩ := bind_some H
      obtain ⟨n1, hn1⟩ := loopO_some hz2
      refine w_loop (fun n a w => ∃ (s1 : Int), loopN (sargassolaw4_light.s0 x0) n s1 = some z1 ∧ InR .i64 s1 ∧ Fr a 29 [(0, .agg [[.int .u32 x0.Version], [u0_0], [u0_1], [.int .u32 x0.Time]].flatten.toArray), (1, .pointer (some ⟨g1, 0, none⟩)), (2, .bool false), (3, .int .i64 s1), (13, .bool c1)] ∧ Iv w0 [] μ μ [cel g1 [[.int .u32 x0.Version], [u0_0], [u0_1], [.int .u32 x0.Time]] 68] w) n1 ⟨0, hn1, (in_lit .i64 0 rfl), hA.sub ⟨rfl, rfl, rfl, rfl, rfl, trivial⟩, hI⟩ ?_
      clear hA hI
      rintro n a w ⟨s1, hn1, ws1, hA, hI⟩
      obtain ⟨m1, rfl, H⟩ := loopN_bind hn1
      clear hn1
      refine w_seq fun _ hN6 => ?_
      refine w_seq fun _ hN7 => ?_
      refine w_reg ?_
      refine stp hA (r_mv hA rfl) rfl fun a hA => 
        stp hA (r_fd (k := 1) Tryd.underlying68 rfl sz63 hA rfl rfl) rfl fun a hA => 
        stp hA (r_ld1 (j := 0) [[.int .u32 x0.Version]] [[u0_1], [.int .u32 x0.Time]] Tryd.underlying63 rfl hI rfl hA rfl rfl) rfl fun a hA => ?_
      obtain ⟨_, hsl3⟩ := Slc.sv hx0.2.1
      refine stp hA (r_slen Tryd.underlying63 hsl3 hA rfl) rfl fun a hA => 
        stp hA (r_lss hA rfl rfl) rfl fun a hA => ?_
      refine o_nil ?_
      refine hN7 _ _ ?_
      refine w_cond hA rfl (fun hc3 => ?_) (fun hc3 => ?_)
      · have hc30 := hc3; have hc3 := of_decide_eq_true hc3; have H := bT H hc3
        refine w_skip ?_
        refine hN6 _ _ ?_
        refine w_seq fun _ hN8 => ?_
        refine w_block ?_
        refine w_seq fun _ hN9 => ?_
        refine w_reg ?_
        refine stp hA (r_fd (k := 1) Tryd.underlying68 rfl sz63 hA rfl rfl) rfl fun a hA => 
          stp hA (r_ld1 (j := 0) [[.int .u32 x0.Version]] [[u0_1], [.int .u32 x0.Time]] Tryd.underlying63 rfl hI rfl hA rfl rfl) rfl fun a hA => 
          stp hA (r_mv hA rfl) rfl fun a hA => ?_
        obtain ⟨hb1, H⟩ := bG H
        obtain ⟨_, he1, _, hat1⟩ := Slc.elem hx0.2.1 (getD_some default hb1.1 hb1.2)
        obtain ⟨v1, rfl, hw1⟩ := he1
        obtain ⟨_, hsl4⟩ := Slc.sv hx0.2.1
        refine stp hA (r_six Tryd.underlying63 sz62 hsl4 hA rfl rfl hb1.1 hb1.2) rfl fun a hA => 
          stp hA (r_fd (k := so u0_0 + s1.toNat * 35 + 33) Tryd.underlying62 rfl sz23 hA rfl rfl) rfl fun a hA => 
          stp hA (r_ldm1 [av .u8 32 ((x0.Ins.getD s1.toNat default).From.Tx), [.int .u32 ((x0.Ins.getD s1.toNat default).From.N)]] [[.int .u32 ((x0.Ins.getD s1.toNat default).Seq)]] Tryd.underlying23 rfl hI.agr hat1 hA rfl rfl) rfl fun a hA => ?_
        obtain ⟨_, hsl5⟩ := Slc.sv hw1.2.2.1
        refine stp hA (r_slen Tryd.underlying23 hsl5 hA rfl) rfl fun a hA => 
          stp hA (r_gtr hA rfl rfl) rfl fun a hA => ?_
        refine o_nil ?_
        refine hN9 _ _ ?_
        refine w_cond hA rfl (fun hc4 => ?_) (fun hc4 => ?_)
        · have hc40 := hc4; have hc4 := of_decide_eq_true hc4; have H := bT H hc4
          refine w_seq fun _ hN10 => ?_
          refine w_reg ?_
          refine stp hA (r_as hA rfl) rfl fun a hA => ?_
          refine o_nil ?_
          refine hN10 _ _ ?_
          refine w_ret ?_
          have H : some false = some z1 := H
          obtain rfl := Option.some.inj H
          have H := Hk2
          obtain rfl := Option.some.inj (bS H)
          exact ret1 hA Tryd.results49 rfl ⟨_, rfl, rfl, trivial, hI.forget0⟩
        · have hc40 := hc4; have hc4 := of_decide_eq_false hc4; have H := bF H hc4
          refine w_skip ?_
          refine hN8 _ _ ?_
          refine w_reg ?_
          refine stp hA (r_mv hA rfl) rfl fun a hA => 
            stp hA (r_add hA rfl rfl) rfl fun a hA => 
            stp hA (r_as hA rfl) rfl fun a hA => ?_
          refine o_nil ?_
          exact ⟨m1, Nat.lt_succ_self _, IntKind.i64.wrap (s1 + 1), H, (wrap_in _ _), hA.sub ⟨rfl, rfl, rfl, rfl, rfl, trivial⟩, hI⟩
      · have hc30 := hc3; have hc3 := of_decide_eq_false hc3; have H := bF H hc3
        refine w_exit rfl ?_
        refine hN4 _ _ ?_
        refine w_seq fun _ hN11 => ?_
        refine w_reg ?_
        refine stp hA (r_as hA rfl) rfl fun a hA => ?_
        refine o_nil ?_
        refine hN11 _ _ ?_
        refine w_ret ?_
        have H : some true = some z1 := H
        obtain rfl := Option.some.inj H
        have H := Hk2
        obtain rfl := Option.some.inj (bS H)
        exact ret1 hA Tryd.results49 rfl ⟨_, rfl, rfl, trivial, hI.forget0⟩
end Go.Proofs.YtpeelghbhihgkaaDoor.T
namespace Go.Proofs.YtpeelghbhihgkaaDoor.T
open Go Go.Proofs Go.Proofs.YtpeelghbhihgkaaDoor.K
set_option linter.unusedVariables false
set_option linter.unusedSimpArgs false
noncomputable def sargassolaw4_TxSays.f (x0 : Tx) (x1 : Tx) : Option Bool := ((sargassolaw4_first.f).bind fun r1 => (if r1 = true then ((((sargassolaw4_light.f x0).bind fun r2 => (if r2 = true then ((sargassolaw4_light.f x1).bind fun r3 => some (!r3)) else some true))).bind fun c1 => (if c1 = true then some r1 else ((sargassoref1_TxBytes.f x0).bind fun r4 => (((if r1 = true then ((tx_Bytes.f x0).bind fun r5 => ((sargassoref_SameBytes.f r5 r4).bind fun r6 => (if r6 = true then ((tx_Size.f x0).bind fun r7 => (if r7 = (r4.length : Int) then ((tx_ID.f x0).bind fun r8 => ((sargassoref1_Twice.f r4).bind fun r9 => ((sargassoref_SameHash.f r8 r9).bind fun r10 => (if r10 = true then ((tx_Base.f x0).bind fun r11 => ((sargassoref1_Base.f x0).bind fun r12 => (if r11 = r12 then ((tx_Check.f x0).bind fun r13 => ((sargassoref1_CheckTx.f x0).bind fun r14 => ((sargassosee_Is.f r13 r14).bind fun r15 => (if r15 = true then ((tx_Same.f x0 x1).bind fun r16 => ((sargassoref_SameTx.f x0 x1).bind fun r17 => (if r16 = r17 then ((tx_Clone.f x0).bind fun r18 => ((sargassoref_SameTx.f r18 x0).bind fun r19 => some r19)) else some false))) else some false)))) else some false))) else some false)))) else some false)) else some false))) else some false)).bind fun c2 => some c2)))) else some false))
end Go.Proofs.YtpeelghbhihgkaaDoor.T
