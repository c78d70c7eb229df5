/- Proved: the statement RedoOn, as given (its conditions are those of the given row, and card where there is one; no others): the call ends, with true, and the input reads as it did. This file is one of its parts. -/
import Derived.Test.YtcpdnoochieecaaDoorPRedoOn2
namespace Go.Proofs.YtcpdnoochieecaaDoor.T
open Go Go.Proofs Go.Proofs.YtcpdnoochieecaaDoor.K
set_option linter.unusedVariables false
set_option linter.unusedSimpArgs false
set_option maxRecDepth 20000 in
theorem tx_Bytes.c (μ : Store) (w0 : World) (hμ : Agr μ w0) (x0 : Tx) (u0_0 : Value) (u0_1 : Value) (hx0 : TxW μ x0 u0_0 u0_1) (r : List Int) (H : tx_Bytes.f x0 = some r) :
    Calls Tryd.prog 100 [.agg [[.int .u32 x0.Version], [u0_0], [u0_1], [.int .u32 x0.Time]].flatten.toArray].toArray w0 (fun e w' => ∃ v, e = .returned v ∧ ∃ (v0 : Value) (c0 : List Value), v = v0 ∧ Els (RI .u8) 1 r c0 ∧ Iv w0 [] μ μ [row 5 1 v0 r.length c0] w') := by
  refine enter Tryd.func100 rfl Tryd.ntmps100 rfl fun a hA => ?_
  have hI := Iv.start hμ
  have H := bI H
  refine w_seq fun _ hN1 => w_reg <| o_box [[.int .u32 x0.Version], [u0_0], [u0_1], [.int .u32 x0.Time]] hI hA rfl rfl rfl fun g1 a w hA hI hg1 => 
    sta hA rfl rfl fun a hA => ?_
  refine o_nil <| hN1 _ _ <| w_seq fun _ hN2 => w_reg <| stp hA (r_fd (k := 0) Tryd.underlying32 rfl sz24 hA rfl rfl) rfl fun a hA => 
    stp hA (r_ld1 (j := 0) [] [[u0_0], [u0_1], [.int .u32 x0.Time]] Tryd.underlying24 rfl hI rfl hA rfl rfl) rfl fun a hA => ?_
  obtain ⟨r1, hr1, H⟩ := bB H
  refine o_call _ cf107 hA rfl (compact_Four.c μ _ hI.agr ([]) (.slice none 0 0) (slc_nil _ _ _) x0.Version hx0.1 r1 hr1) rfl fun v1 a w hz1 hA => ?_
  obtain ⟨_, cs1, rfl, hE1, hi1⟩ := hz1
  have hI := hI.call hi1
  refine sta hA rfl rfl fun a hA => ?_
  refine o_nil <| hN2 _ _ <| w_seq fun _ hN3 => w_reg <| stm hA rfl rfl fun a hA => 
    stp hA (r_fd (k := 1) Tryd.underlying32 rfl sz29 hA rfl rfl) rfl fun a hA => 
    stp hA (r_ld1 (j := 1) [[.int .u32 x0.Version]] [[u0_1], [.int .u32 x0.Time]] Tryd.underlying29 rfl hI rfl hA rfl rfl) rfl fun a hA => ?_
  obtain ⟨_, hsl1⟩ := Slc.sv hx0.2.1
  refine stp hA (r_slen Tryd.underlying29 hsl1 hA rfl) rfl fun a hA => 
    stp hA (r_conv Tryd.underlying3 Tryd.underlying34 hA rfl) rfl fun a hA => ?_
  obtain ⟨r2, hr2, H⟩ := bB H
  refine o_callW (fun w v w' => ∃ (v0 : Value) (c0 : List Value), v = v0 ∧ Els (RI .u8) 1 r2 c0 ∧ Iv w [] μ μ [row 5 1 v0 r2.length c0] w') cf112 hA rfl ((by obtain ⟨μ1, hle1, hsv1, hI⟩ := hI.freezeRow 0 rfl; have hS1 : Slc (RI .u8) 1 μ1 v1 r1 := ⟨_, hE1, hsv1⟩; exact (compact_Put.c μ1 _ hI.agr r1 v1 hS1 (IntKind.u64.wrap (x0.Ins.length : Int)) (wrap_in _ _) r2 hr2).mono fun _ _ ⟨v, he, b0, b1, hv, f0, hi⟩ => ⟨v, he, b0, b1, hv, f0, hi.low hle1⟩)) rfl fun v2 a w hz2 hA => ?_
  obtain ⟨_, cs2, rfl, hE2, hi2⟩ := hz2
  have hI := hI.call hi2
  refine sta hA rfl rfl fun a hA => ?_
  refine o_nil <| hN3 _ _ ?_
  obtain ⟨c1, hz3, Hk1⟩ := bB H
  refine w_cut (fun a w => ∃ (vvc1 : Value) (ccc1 : List Value), Els (RI .u8) 1 c1 ccc1 ∧ Fr a 72 [(1, .pointer (some ⟨g1, 0, none⟩)), (2, (.slice none 0 0)), (3, vvc1)] ∧ Iv w0 [] μ μ [row 5 1 vvc1 c1.length ccc1, row 5 1 v1 r1.length cs1, cel g1 [[.int .u32 x0.Version], [u0_0], [u0_1], [.int .u32 x0.Time]] 32] w) ?_ ?_
  · have H := bI hz3
    refine w_seq fun _ hN4 => w_reg <| stp hA (r_fd (k := 1) Tryd.underlying32 rfl sz29 hA rfl rfl) rfl fun a hA => 
      stp hA (r_ld1 (j := 2) [[.int .u32 x0.Version]] [[u0_1], [.int .u32 x0.Time]] Tryd.underlying29 rfl hI rfl hA rfl rfl) rfl fun a hA => ?_
    obtain ⟨_, hsl2⟩ := Slc.sv hx0.2.1
    refine stp hA (r_slen Tryd.underlying29 hsl2 hA rfl) rfl fun a hA => 
      stm hA rfl rfl fun a hA => ?_
    refine o_nil <| hN4 _ _ <| w_block ?_
    obtain ⟨z1, hz4, Hk2⟩ := bind_some H
    obtain ⟨n1, hn1⟩ := loopO_some hz4
    refine w_loop (fun n a w => ∃ (s1 : List Int) (s2 : Int) (vvs1 : Value) (ccs1 : List Value), loopN (tx_Bytes.s0 x0) n (s1, s2) = some z1 ∧ Els (RI .u8) 1 s1 ccs1 ∧ InR .i64 s2 ∧ Fr a 72 [(1, .pointer (some ⟨g1, 0, none⟩)), (2, (.slice none 0 0)), (3, vvs1), (18, u0_0), (19, .int .i64 (x0.Ins.length : Int)), (20, .int .i64 s2)] ∧ Iv w0 [] μ μ [row 5 1 vvs1 s1.length ccs1, row 5 1 v1 r1.length cs1, cel g1 [[.int .u32 x0.Version], [u0_0], [u0_1], [.int .u32 x0.Time]] 32] w) n1 ⟨r2, 0, v2, cs2, hn1, hE2, (in_lit .i64 0 rfl), hA.sub ⟨rfl, rfl, rfl, rfl, rfl, rfl, trivial⟩, hI⟩ ?_
    clear hA hI
    rintro n a w ⟨s1, s2, vvs1, ccs1, hn1, ws1, ws2, hA, hI⟩
    obtain ⟨m1, rfl, H⟩ := loopN_bind hn1
    clear hn1
    refine w_seq fun _ hN5 => w_reg <| stp hA (r_lss hA rfl rfl) rfl fun a hA => ?_
    refine o_nil <| hN5 _ _ <| w_seq fun _ hN6 => w_cond hA rfl (fun hc1 => ?_) (fun hc1 => ?_)
    · obtain ⟨hc1, H⟩ := dT H hc1
      refine w_skip <| hN6 _ _ <| w_seq fun _ hN7 => w_block <| w_seq fun _ hN8 => w_reg ?_
      obtain ⟨hb1, H⟩ := bG H
      obtain ⟨_, he1, _, hat1⟩ := Slc.elem hx0.2.1 (getD_some default hb1.1 hb1.2)
      obtain ⟨v3, rfl, hw1⟩ := he1
      obtain ⟨_, hsl3⟩ := Slc.sv hx0.2.1
      refine stp hA (r_six Tryd.underlying29 sz42 hsl3 hA rfl rfl hb1.1 hb1.2) rfl fun a hA => 
        stp hA (r_ldmA [] [av .u8 32 ((x0.Ins.getD s2.toNat default).From.Tx), [.int .u32 ((x0.Ins.getD s2.toNat default).From.N)], [v3], [.int .u32 ((x0.Ins.getD s2.toNat default).Seq)]] [] Tryd.underlying42 rfl sz42 rfl hI.agr hat1 hA rfl rfl) rfl fun a hA => 
        o_new [av .u8 32 (List.replicate 32 0), [.int .u32 0], [(.slice none 0 0)], [.int .u32 0]] zr42 hI hA rfl fun g2 a w hA hI hg2 => ?_
      obtain ⟨_, hsl4⟩ := Slc.sv hw1.2.2.1
      refine o_st (j := 0) [] [av .u8 32 (List.replicate 32 0), [.int .u32 0], [(.slice none 0 0)], [.int .u32 0]] [av .u8 32 ((x0.Ins.getD s2.toNat default).From.Tx), [.int .u32 ((x0.Ins.getD s2.toNat default).From.N)], [v3], [.int .u32 ((x0.Ins.getD s2.toNat default).Seq)]] [] sz42 rfl rfl (fl_cons (one_av _ _ _) (fl_cons (one_one rfl) (fl_cons (one_one (one_sl hsl4)) (fl_cons (one_one rfl) fl_nil)))) hI rfl hA rfl rfl rfl rfl fun w hI => ?_
      refine o_nil <| hN8 _ _ <| w_seq fun _ hN9 => ?_
      refine w_anyS [] mo (fun w (h : Iv w0 [] μ μ [cel g2 [av .u8 32 ((x0.Ins.getD s2.toNat default).From.Tx), [.int .u32 ((x0.Ins.getD s2.toNat default).From.N)], [v3], [.int .u32 ((x0.Ins.getD s2.toNat default).Seq)]] 42, row 5 1 vvs1 s1.length ccs1, row 5 1 v1 r1.length cs1, cel g1 [[.int .u32 x0.Version], [u0_0], [u0_1], [.int .u32 x0.Time]] 32] w) => (h.sl [0, 2, 3] rfl : Iv w0 [] μ μ [cel g2 [av .u8 32 ((x0.Ins.getD s2.toNat default).From.Tx), [.int .u32 ((x0.Ins.getD s2.toNat default).From.N)], [v3], [.int .u32 ((x0.Ins.getD s2.toNat default).Seq)]] 42, row 5 1 v1 r1.length cs1, cel g1 [[.int .u32 x0.Version], [u0_0], [u0_1], [.int .u32 x0.Time]] 32] w)) hI fun w hI => ?_
      refine gE 0 hA rfl (.inr (hI.sl [0, 2, 3] rfl)) (fun _ => r_mv hA rfl) fun a hA => ?_
      refine gE 1 hA rfl (.inr (hI.sl [0, 2, 3] rfl)) (fun _ => r_fd (k := 0) Tryd.underlying42 rfl sz39 hA rfl rfl) fun a hA => ?_
      refine gE 2 hA rfl (.inr (hI.sl [0, 2, 3] rfl)) (fun _ => r_fd (k := 0) Tryd.underlying39 rfl sz26 hA rfl rfl) fun a hA => ?_
      refine gE 3 hA rfl (.inr (hI.sl [0, 2, 3] rfl)) (fun _ => r_slv (i := 0) (j := 32) Tryd.underlying26 sz5 hA rfl rfl rfl (by decide) (by decide) (by decide) (by decide) rfl) fun a hA => ?_
      refine gE 5 hA rfl (.inr (hI.sl [0, 2, 3] rfl)) (fun _ => r_fd (k := 0) Tryd.underlying42 rfl sz39 hA rfl rfl) fun a hA => ?_
      refine gE 6 hA rfl (.inr (hI.sl [0, 2, 3] rfl)) (fun _ => r_fd (k := 32) Tryd.underlying39 rfl sz24 hA rfl rfl) fun a hA => ?_
      refine gT 7 hA rfl (hI.sl [0, 2, 3] rfl) (fun w hI => r_ld1 (j := 0) [av .u8 32 ((x0.Ins.getD s2.toNat default).From.Tx)] [[v3], [.int .u32 ((x0.Ins.getD s2.toNat default).Seq)]] Tryd.underlying24 rfl hI rfl hA rfl rfl) fun a hA => ?_
      refine gF 4 rfl ?_
      have hE3 := els_av hw1.1
      obtain ⟨hb2, H⟩ := bG H
      have hE4 := ws1.app hE3
      refine o_appG (xs := (s1 : List Int)) (ys := ((x0.Ins.getD s2.toNat default).From.Tx : List Int)) (M := 140737488355328) 1 te5 Tryd.underlying40 hI rfl hA rfl rfl (by simpa using src_cel [] [[.int .u32 ((x0.Ins.getD s2.toNat default).From.N)], [v3], [.int .u32 ((x0.Ins.getD s2.toNat default).Seq)]] hI (j := 0) rfl hw1.1 rfl) hE3.len (hE3.ones (one_RI _)) hb2 rfl fun v4 a w hA hI => ?_
      refine o_nil <| ⟨(.inr (hI.sl [0, 2, 3] rfl)), ?_⟩
      refine gF 8 rfl ?_
      obtain ⟨r3, hr3, H⟩ := bB H
      refine o_callW (fun w v w' => ∃ (v0 : Value) (c0 : List Value), v = v0 ∧ Els (RI .u8) 1 r3 c0 ∧ Iv w [] μ μ [row 5 1 v0 r3.length c0] w') cf107 hA rfl ((by obtain ⟨μ2, hle2, hsv3, hI⟩ := hI.freezeRow 1 rfl; have hS2 : Slc (RI .u8) 1 μ2 v4 (s1 ++ ((x0.Ins.getD s2.toNat default).From.Tx)) := ⟨_, hE4, hsv3⟩; exact (compact_Four.c μ2 _ hI.agr (s1 ++ ((x0.Ins.getD s2.toNat default).From.Tx)) v4 hS2 ((x0.Ins.getD s2.toNat default).From.N) hw1.2.1 r3 hr3).mono fun _ _ ⟨v, he, b0, b1, hv, f0, hi⟩ => ⟨v, he, b0, b1, hv, f0, hi.low hle2⟩)) rfl fun v5 a w hz5 hA => ?_
      obtain ⟨_, cs5, rfl, hE5, hi3⟩ := hz5
      have hI := hI.call hi3
      refine o_nil <| ⟨(.inr (hI.sl [1, 3, 4] rfl)), ?_⟩
      refine gE 9 hA rfl (.inr (hI.sl [1, 3, 4] rfl)) (fun _ => r_as hA rfl) fun a hA => ?_
      refine gN <| hN9 _ _ <| w_seq fun _ hN10 => ?_
      refine w_anyS [] mo (fun w (h : Iv w0 [] μ μ [row 5 1 v5 r3.length cs5, cel g2 [av .u8 32 ((x0.Ins.getD s2.toNat default).From.Tx), [.int .u32 ((x0.Ins.getD s2.toNat default).From.N)], [v3], [.int .u32 ((x0.Ins.getD s2.toNat default).Seq)]] 42, row 5 1 v4 (s1 ++ ((x0.Ins.getD s2.toNat default).From.Tx)).length (ccs1 ++ ([av .u8 32 ((x0.Ins.getD s2.toNat default).From.Tx)].flatten)), row 5 1 v1 r1.length cs1, cel g1 [[.int .u32 x0.Version], [u0_0], [u0_1], [.int .u32 x0.Time]] 32] w) => (h.sl [0, 1, 2, 3, 4] rfl : Iv w0 [] μ μ [row 5 1 v5 r3.length cs5, cel g2 [av .u8 32 ((x0.Ins.getD s2.toNat default).From.Tx), [.int .u32 ((x0.Ins.getD s2.toNat default).From.N)], [v3], [.int .u32 ((x0.Ins.getD s2.toNat default).Seq)]] 42, row 5 1 v4 (s1 ++ ((x0.Ins.getD s2.toNat default).From.Tx)).length (ccs1 ++ ([av .u8 32 ((x0.Ins.getD s2.toNat default).From.Tx)].flatten)), row 5 1 v1 r1.length cs1, cel g1 [[.int .u32 x0.Version], [u0_0], [u0_1], [.int .u32 x0.Time]] 32] w)) hI fun w hI => ?_
      refine gE 0 hA rfl (.inr hI) (fun _ => r_mv hA rfl) fun a hA => ?_
      refine gE 1 hA rfl (.inr hI) (fun _ => r_fd (k := 33) Tryd.underlying42 rfl sz40 hA rfl rfl) fun a hA => ?_
      refine gT 2 hA rfl hI (fun w hI => r_ld1 (j := 1) [av .u8 32 ((x0.Ins.getD s2.toNat default).From.Tx), [.int .u32 ((x0.Ins.getD s2.toNat default).From.N)]] [[.int .u32 ((x0.Ins.getD s2.toNat default).Seq)]] Tryd.underlying40 rfl hI rfl hA rfl rfl) fun a hA => ?_
      obtain ⟨_, hsl5⟩ := Slc.sv hw1.2.2.1
      refine gE 3 hA rfl (.inr hI) (fun _ => r_slen Tryd.underlying40 hsl5 hA rfl) fun a hA => ?_
      refine gE 4 hA rfl (.inr hI) (fun _ => r_conv Tryd.underlying3 Tryd.underlying34 hA rfl) fun a hA => ?_
      refine gE 6 hA rfl (.inr hI) (fun _ => r_fd (k := 33) Tryd.underlying42 rfl sz40 hA rfl rfl) fun a hA => ?_
      refine gT 7 hA rfl hI (fun w hI => r_ld1 (j := 1) [av .u8 32 ((x0.Ins.getD s2.toNat default).From.Tx), [.int .u32 ((x0.Ins.getD s2.toNat default).From.N)]] [[.int .u32 ((x0.Ins.getD s2.toNat default).Seq)]] Tryd.underlying40 rfl hI rfl hA rfl rfl) fun a hA => ?_
      refine gF 5 rfl ?_
      obtain ⟨r4, hr4, H⟩ := bB H
      refine o_callW (fun w v w' => ∃ (v0 : Value) (c0 : List Value), v = v0 ∧ Els (RI .u8) 1 r4 c0 ∧ Iv w [] μ μ [row 5 1 v0 r4.length c0] w') cf112 hA rfl ((by obtain ⟨μ3, hle3, hsv4, hI⟩ := hI.freezeRow 0 rfl; have hS3 : Slc (RI .u8) 1 μ3 v5 r3 := ⟨_, hE5, hsv4⟩; exact (compact_Put.c μ3 _ hI.agr r3 v5 hS3 (IntKind.u64.wrap (((x0.Ins.getD s2.toNat default).Key).length : Int)) (wrap_in _ _) r4 hr4).mono fun _ _ ⟨v, he, b0, b1, hv, f0, hi⟩ => ⟨v, he, b0, b1, hv, f0, hi.low hle3⟩)) rfl fun v6 a w hz6 hA => ?_
      obtain ⟨_, cs6, rfl, hE6, hi4⟩ := hz6
      have hI := hI.call hi4
      refine o_nil <| ⟨(.inr (hI.sl [1, 2, 3, 4, 5] rfl)), ?_⟩
      refine gF 8 rfl ?_
      obtain ⟨cs7, hE7, hsv5⟩ : Slc (RI .u8) 1 μ v3 ((x0.Ins.getD s2.toNat default).Key) := id (hw1.2.2.1)
      obtain ⟨hb3, H⟩ := bG H
      have hE8 := hE6.app hE7
      refine o_appG (xs := (r4 : List Int)) (ys := ((x0.Ins.getD s2.toNat default).Key : List Int)) (M := 140737488355328) 0 te5 Tryd.underlying40 hI rfl hA rfl rfl (src_sl hI.agr hsv5 hE7.len) hE7.len (hE7.ones (one_RI _)) hb3 rfl fun v7 a w hA hI => ?_
      refine o_nil <| ⟨(.inr (hI.sl [1, 2, 3, 4, 5] rfl)), ?_⟩
      refine gE 9 hA rfl (.inr (hI.sl [1, 2, 3, 4, 5] rfl)) (fun _ => r_as hA rfl) fun a hA => ?_
      refine gN <| hN10 _ _ <| w_reg <| stm hA rfl rfl fun a hA => 
        stp hA (r_fd (k := 34) Tryd.underlying42 rfl sz24 hA rfl rfl) rfl fun a hA => 
        stp hA (r_ld1 (j := 2) [av .u8 32 ((x0.Ins.getD s2.toNat default).From.Tx), [.int .u32 ((x0.Ins.getD s2.toNat default).From.N)], [v3]] [] Tryd.underlying24 rfl hI rfl hA rfl rfl) rfl fun a hA => ?_
      obtain ⟨r5, hr5, H⟩ := bB H
      refine o_callW (fun w v w' => ∃ (v0 : Value) (c0 : List Value), v = v0 ∧ Els (RI .u8) 1 r5 c0 ∧ Iv w [] μ μ [row 5 1 v0 r5.length c0] w') cf107 hA rfl ((by obtain ⟨μ4, hle4, hsv6, hI⟩ := hI.freezeRow 0 rfl; have hS4 : Slc (RI .u8) 1 μ4 v7 (r4 ++ ((x0.Ins.getD s2.toNat default).Key)) := ⟨_, hE8, hsv6⟩; exact (compact_Four.c μ4 _ hI.agr (r4 ++ ((x0.Ins.getD s2.toNat default).Key)) v7 hS4 ((x0.Ins.getD s2.toNat default).Seq) hw1.2.2.2 r5 hr5).mono fun _ _ ⟨v, he, b0, b1, hv, f0, hi⟩ => ⟨v, he, b0, b1, hv, f0, hi.low hle4⟩)) rfl fun v8 a w hz7 hA => ?_
      obtain ⟨_, cs9, rfl, hE9, hi5⟩ := hz7
      have hI := hI.call hi5
      refine sta hA rfl rfl fun a hA => ?_
      refine o_nil <| hN7 _ _ <| w_reg <| stp hA (r_add hA rfl rfl) rfl fun a hA => 
        stm hA rfl rfl fun a hA => ?_
      refine o_nil <| ⟨m1, Nat.lt_succ_self _, r5, IntKind.i64.wrap (s2 + 1), v8, cs9, H, hE9, (wrap_in _ _), hA.sub ⟨rfl, rfl, rfl, rfl, rfl, rfl, trivial⟩, (hI.sl [0, 5, 6] rfl)⟩
    · obtain ⟨hc1, H⟩ := dF H hc1
      refine w_exit rfl ?_
      have H : some s1 = some z1 := H
      obtain rfl := sI H
      have H := Hk2
      cases sJ H
      exact ⟨vvs1, ccs1, ws1, hA.sub ⟨rfl, rfl, rfl, trivial⟩, hI⟩
  · rintro a w ⟨vvc1, ccc1, wc1, hA, hI⟩
    have H := Hk1
    refine w_seq fun _ hN11 => w_reg <| stm hA rfl rfl fun a hA => 
      stp hA (r_fd (k := 2) Tryd.underlying32 rfl sz30 hA rfl rfl) rfl fun a hA => 
      stp hA (r_ld1 (j := 2) [[.int .u32 x0.Version], [u0_0]] [[.int .u32 x0.Time]] Tryd.underlying30 rfl hI rfl hA rfl rfl) rfl fun a hA => ?_
    obtain ⟨_, hsl6⟩ := Slc.sv hx0.2.2.1
    refine stp hA (r_slen Tryd.underlying30 hsl6 hA rfl) rfl fun a hA => 
      stp hA (r_conv Tryd.underlying3 Tryd.underlying34 hA rfl) rfl fun a hA => ?_
    obtain ⟨r6, hr6, H⟩ := bB H
    refine o_callW (fun w v w' => ∃ (v0 : Value) (c0 : List Value), v = v0 ∧ Els (RI .u8) 1 r6 c0 ∧ Iv w [] μ μ [row 5 1 v0 r6.length c0] w') cf112 hA rfl ((by obtain ⟨μ5, hle5, hsv7, hI⟩ := hI.freezeRow 0 rfl; have hS5 : Slc (RI .u8) 1 μ5 vvc1 c1 := ⟨_, wc1, hsv7⟩; exact (compact_Put.c μ5 _ hI.agr c1 vvc1 hS5 (IntKind.u64.wrap (x0.Outs.length : Int)) (wrap_in _ _) r6 hr6).mono fun _ _ ⟨v, he, b0, b1, hv, f0, hi⟩ => ⟨v, he, b0, b1, hv, f0, hi.low hle5⟩)) rfl fun v9 a w hz8 hA => ?_
    obtain ⟨_, cs10, rfl, hE10, hi6⟩ := hz8
    have hI := hI.call hi6
    refine sta hA rfl rfl fun a hA => ?_
    refine o_nil <| hN11 _ _ ?_
    obtain ⟨c2, hz9, Hk3⟩ := bB H
    refine w_cut (fun a w => ∃ (vvc2 : Value) (ccc2 : List Value), Els (RI .u8) 1 c2 ccc2 ∧ Fr a 72 [(1, .pointer (some ⟨g1, 0, none⟩)), (2, (.slice none 0 0)), (3, vvc2)] ∧ Iv w0 [] μ μ [row 5 1 vvc2 c2.length ccc2, row 5 1 vvc1 c1.length ccc1, row 5 1 v1 r1.length cs1, cel g1 [[.int .u32 x0.Version], [u0_0], [u0_1], [.int .u32 x0.Time]] 32] w) ?_ ?_
    · have H := bI hz9
      refine w_seq fun _ hN12 => w_reg <| stp hA (r_fd (k := 2) Tryd.underlying32 rfl sz30 hA rfl rfl) rfl fun a hA => 
        stp hA (r_ld1 (j := 3) [[.int .u32 x0.Version], [u0_0]] [[.int .u32 x0.Time]] Tryd.underlying30 rfl hI rfl hA rfl rfl) rfl fun a hA => ?_
      obtain ⟨_, hsl7⟩ := Slc.sv hx0.2.2.1
      refine stp hA (r_slen Tryd.underlying30 hsl7 hA rfl) rfl fun a hA => 
        stm hA rfl rfl fun a hA => ?_
      refine o_nil <| hN12 _ _ <| w_block ?_
      obtain ⟨z2, hz10, Hk4⟩ := bind_some H
      obtain ⟨n2, hn2⟩ := loopO_some hz10
      refine w_loop (fun n a w => ∃ (s3 : List Int) (s4 : Int) (vvs3 : Value) (ccs3 : List Value), loopN (tx_Bytes.s1 x0) n (s3, s4) = some z2 ∧ Els (RI .u8) 1 s3 ccs3 ∧ InR .i64 s4 ∧ Fr a 72 [(1, .pointer (some ⟨g1, 0, none⟩)), (2, (.slice none 0 0)), (3, vvs3), (54, u0_1), (55, .int .i64 (x0.Outs.length : Int)), (56, .int .i64 s4)] ∧ Iv w0 [] μ μ [row 5 1 vvs3 s3.length ccs3, row 5 1 vvc1 c1.length ccc1, row 5 1 v1 r1.length cs1, cel g1 [[.int .u32 x0.Version], [u0_0], [u0_1], [.int .u32 x0.Time]] 32] w) n2 ⟨r6, 0, v9, cs10, hn2, hE10, (in_lit .i64 0 rfl), hA.sub ⟨rfl, rfl, rfl, rfl, rfl, rfl, trivial⟩, hI⟩ ?_
      clear hA hI
      rintro n a w ⟨s3, s4, vvs3, ccs3, hn2, ws3, ws4, hA, hI⟩
      obtain ⟨m2, rfl, H⟩ := loopN_bind hn2
      clear hn2
      refine w_seq fun _ hN13 => w_reg <| stp hA (r_lss hA rfl rfl) rfl fun a hA => ?_
      refine o_nil <| hN13 _ _ <| w_seq fun _ hN14 => w_cond hA rfl (fun hc2 => ?_) (fun hc2 => ?_)
      · obtain ⟨hc2, H⟩ := dT H hc2
        refine w_skip <| hN14 _ _ <| w_seq fun _ hN15 => w_block <| w_seq fun _ hN16 => w_reg ?_
        obtain ⟨hb4, H⟩ := bG H
        obtain ⟨_, he2, _, hat2⟩ := Slc.elem hx0.2.2.1 (getD_some default hb4.1 hb4.2)
        obtain ⟨rfl, hw2⟩ := he2
        obtain ⟨_, hsl8⟩ := Slc.sv hx0.2.2.1
        refine stp hA (r_six Tryd.underlying30 sz44 hsl8 hA rfl rfl hb4.1 hb4.2) rfl fun a hA => 
          stp hA (r_ldmA [] [[.int .u64 ((x0.Outs.getD s4.toNat default).Value)], av .u8 32 ((x0.Outs.getD s4.toNat default).Lock)] [] Tryd.underlying44 rfl sz44 rfl hI.agr hat2 hA rfl rfl) rfl fun a hA => 
          o_new [[.int .u64 0], av .u8 32 (List.replicate 32 0)] zr44 hI hA rfl fun g3 a w hA hI hg3 => 
          o_st (j := 0) [] [[.int .u64 0], av .u8 32 (List.replicate 32 0)] [[.int .u64 ((x0.Outs.getD s4.toNat default).Value)], av .u8 32 ((x0.Outs.getD s4.toNat default).Lock)] [] sz44 rfl rfl (fl_cons (one_one rfl) (fl_cons (one_av _ _ _) fl_nil)) hI rfl hA rfl rfl rfl rfl fun w hI => ?_
        refine o_nil <| hN16 _ _ ?_
        refine w_anyS [] mo (fun w (h : Iv w0 [] μ μ [cel g3 [[.int .u64 ((x0.Outs.getD s4.toNat default).Value)], av .u8 32 ((x0.Outs.getD s4.toNat default).Lock)] 44, row 5 1 vvs3 s3.length ccs3, row 5 1 vvc1 c1.length ccc1, row 5 1 v1 r1.length cs1, cel g1 [[.int .u32 x0.Version], [u0_0], [u0_1], [.int .u32 x0.Time]] 32] w) => (h.sl [0, 1, 2, 3, 4] rfl : Iv w0 [] μ μ [cel g3 [[.int .u64 ((x0.Outs.getD s4.toNat default).Value)], av .u8 32 ((x0.Outs.getD s4.toNat default).Lock)] 44, row 5 1 vvs3 s3.length ccs3, row 5 1 vvc1 c1.length ccc1, row 5 1 v1 r1.length cs1, cel g1 [[.int .u32 x0.Version], [u0_0], [u0_1], [.int .u32 x0.Time]] 32] w)) hI fun w hI => ?_
        refine gE 0 hA rfl (.inr hI) (fun _ => r_mv hA rfl) fun a hA => ?_
        refine gE 1 hA rfl (.inr hI) (fun _ => r_fd (k := 0) Tryd.underlying44 rfl sz34 hA rfl rfl) fun a hA => ?_
        refine gT 2 hA rfl hI (fun w hI => r_ld1 (j := 0) [] [av .u8 32 ((x0.Outs.getD s4.toNat default).Lock)] Tryd.underlying34 rfl hI rfl hA rfl rfl) fun a hA => ?_
        refine gE 4 hA rfl (.inr hI) (fun _ => r_fd (k := 1) Tryd.underlying44 rfl sz26 hA rfl rfl) fun a hA => ?_
        refine gE 5 hA rfl (.inr hI) (fun _ => r_slv (i := 0) (j := 32) Tryd.underlying26 sz5 hA rfl rfl rfl (by decide) (by decide) (by decide) (by decide) rfl) fun a hA => ?_
        refine gF 3 rfl ?_
        obtain ⟨r7, hr7, H⟩ := bB H
        refine o_callW (fun w v w' => ∃ (v0 : Value) (c0 : List Value), v = v0 ∧ Els (RI .u8) 1 r7 c0 ∧ Iv w [] μ μ [row 5 1 v0 r7.length c0] w') cf127 hA rfl ((by obtain ⟨μ6, hle6, hsv8, hI⟩ := hI.freezeRow 1 rfl; have hS6 : Slc (RI .u8) 1 μ6 vvs3 s3 := ⟨_, ws3, hsv8⟩; exact (compact_Eight.c μ6 _ hI.agr s3 vvs3 hS6 ((x0.Outs.getD s4.toNat default).Value) hw2.1 r7 hr7).mono fun _ _ ⟨v, he, b0, b1, hv, f0, hi⟩ => ⟨v, he, b0, b1, hv, f0, hi.low hle6⟩)) rfl fun v10 a w hz11 hA => ?_
        obtain ⟨_, cs11, rfl, hE11, hi7⟩ := hz11
        have hI := hI.call hi7
        refine o_nil <| ⟨(.inr (hI.sl [1, 2, 3, 4, 5] rfl)), ?_⟩
        refine gF 6 rfl ?_
        have hE12 := els_av hw2.2
        obtain ⟨hb5, H⟩ := bG H
        have hE13 := hE11.app hE12
        refine o_appG (xs := (r7 : List Int)) (ys := ((x0.Outs.getD s4.toNat default).Lock : List Int)) (M := 140737488355328) 0 te5 Tryd.underlying40 hI rfl hA rfl rfl (by simpa using src_cel [[.int .u64 ((x0.Outs.getD s4.toNat default).Value)]] [] hI (j := 1) rfl hw2.2 rfl) hE12.len (hE12.ones (one_RI _)) hb5 rfl fun v11 a w hA hI => ?_
        refine o_nil <| ⟨(.inr (hI.sl [1, 2, 3, 4, 5] rfl)), ?_⟩
        refine gE 7 hA rfl (.inr (hI.sl [1, 2, 3, 4, 5] rfl)) (fun _ => r_as hA rfl) fun a hA => ?_
        refine gN <| hN15 _ _ <| w_reg <| stp hA (r_add hA rfl rfl) rfl fun a hA => 
          stm hA rfl rfl fun a hA => ?_
        refine o_nil <| ⟨m2, Nat.lt_succ_self _, r7 ++ ((x0.Outs.getD s4.toNat default).Lock), IntKind.i64.wrap (s4 + 1), v11, cs11 ++ ([av .u8 32 ((x0.Outs.getD s4.toNat default).Lock)].flatten), H, hE13, (wrap_in _ _), hA.sub ⟨rfl, rfl, rfl, rfl, rfl, rfl, trivial⟩, (hI.sl [0, 3, 4, 5] rfl)⟩
      · obtain ⟨hc2, H⟩ := dF H hc2
        refine w_exit rfl ?_
        have H : some s3 = some z2 := H
        obtain rfl := sI H
        have H := Hk4
        cases sJ H
        exact ⟨vvs3, ccs3, ws3, hA.sub ⟨rfl, rfl, rfl, trivial⟩, hI⟩
    · rintro a w ⟨vvc2, ccc2, wc2, hA, hI⟩
      have H := Hk3
      refine w_seq fun _ hN17 => w_reg <| stm hA rfl rfl fun a hA => 
        stp hA (r_fd (k := 3) Tryd.underlying32 rfl sz24 hA rfl rfl) rfl fun a hA => 
        stp hA (r_ld1 (j := 3) [[.int .u32 x0.Version], [u0_0], [u0_1]] [] Tryd.underlying24 rfl hI rfl hA rfl rfl) rfl fun a hA => ?_
      obtain ⟨r8, hr8, H⟩ := bB H
      refine o_callW (fun w v w' => ∃ (v0 : Value) (c0 : List Value), v = v0 ∧ Els (RI .u8) 1 r8 c0 ∧ Iv w [] μ μ [row 5 1 v0 r8.length c0] w') cf107 hA rfl ((by obtain ⟨μ7, hle7, hsv10, hI⟩ := hI.freezeRow 0 rfl; have hS7 : Slc (RI .u8) 1 μ7 vvc2 c2 := ⟨_, wc2, hsv10⟩; exact (compact_Four.c μ7 _ hI.agr c2 vvc2 hS7 x0.Time hx0.2.2.2 r8 hr8).mono fun _ _ ⟨v, he, b0, b1, hv, f0, hi⟩ => ⟨v, he, b0, b1, hv, f0, hi.low hle7⟩)) rfl fun v12 a w hz12 hA => ?_
      obtain ⟨_, cs14, rfl, hE14, hi8⟩ := hz12
      have hI := hI.call hi8
      refine sta hA rfl rfl fun a hA => ?_
      refine o_nil <| hN17 _ _ <| w_ret ?_
      obtain rfl := sJ H
      exact ret1 hA Tryd.results100 rfl ⟨_, rfl, v12, cs14, rfl, hE14, ((hI.sl [0] rfl).less (Store.le.refl _) hI.le)⟩
set_option maxRecDepth 20000 in
theorem tx_ID.c (μ : Store) (w0 : World) (hμ : Agr μ w0) (x0 : Tx) (u0_0 : Value) (u0_1 : Value) (hx0 : TxW μ x0 u0_0 u0_1) (r : List Int) (H : tx_ID.f x0 = some r) :
    Calls Tryd.prog 79 [.agg [[.int .u32 x0.Version], [u0_0], [u0_1], [.int .u32 x0.Time]].flatten.toArray].toArray w0 (fun e w' => ∃ v, e = .returned v ∧ v = .agg [av .u8 32 r].flatten.toArray ∧ Arr .u8 32 r ∧ Iv w0 [] μ μ [] w') := by
  refine enter Tryd.func79 rfl Tryd.ntmps79 rfl fun a hA => ?_
  have hI := Iv.start hμ
  have H := bI H
  refine w_seq fun _ hN1 => w_reg <| o_box [[.int .u32 x0.Version], [u0_0], [u0_1], [.int .u32 x0.Time]] hI hA rfl rfl rfl fun g1 a w hA hI hg1 => 
    o_new [av .u8 32 (List.replicate 32 0)] zr26 hI hA rfl fun g2 a w hA hI hg2 => ?_
  refine o_nil <| hN1 _ _ <| w_seq fun _ hN2 => w_reg <| stp hA (r_ldA (j := 1) [] [[.int .u32 x0.Version], [u0_0], [u0_1], [.int .u32 x0.Time]] [] Tryd.underlying32 rfl sz32 rfl hI rfl hA rfl rfl) rfl fun a hA => ?_
  obtain ⟨r1, hr1, H⟩ := bB H
  refine o_call _ cf100 hA rfl (tx_Bytes.c μ _ hI.agr x0 u0_0 u0_1 ⟨hx0.1, hx0.2.1, hx0.2.2.1, hx0.2.2.2⟩ r1 hr1) rfl fun v1 a w hz1 hA => ?_
  obtain ⟨_, cs1, rfl, hE1, hi1⟩ := hz1
  have hI := hI.call hi1
  obtain ⟨r2, hr2, H⟩ := bB H
  refine o_callp (u := .agg [av .u8 32 r2].flatten.toArray) cf94 hA rfl hI ((by obtain ⟨μ1, hle1, hsv1, hI⟩ := hI.freezeRow 0 rfl; have hS1 : Slc (RI .u8) 1 μ1 v1 r1 := ⟨_, hE1, hsv1⟩; exact low_plain hle1 (digest_Twice.c μ1 _ hI.agr r1 v1 hS1 r2 hr2))) rfl fun a w hz2 hI hA => 
    o_st (j := 1) [] [av .u8 32 (List.replicate 32 0)] [av .u8 32 r2] [] sz26 rfl rfl (fl_cons (one_av _ _ _) fl_nil) hI rfl hA rfl rfl rfl rfl fun w hI => ?_
  refine o_nil <| hN2 _ _ <| w_ret ?_
  obtain rfl := sJ H
  exact retc Tryd.underlying26 rfl sz26 rfl hI (j := 1) rfl hA Tryd.results79 rfl ⟨_, rfl, rfl, hz2, hI.forget0⟩
set_option maxRecDepth 20000 in
theorem tx_Size.c (μ : Store) (w0 : World) (hμ : Agr μ w0) (x0 : Tx) (u0_0 : Value) (u0_1 : Value) (hx0 : TxW μ x0 u0_0 u0_1) (r : Int) (H : tx_Size.f x0 = some r) :
    Calls Tryd.prog 77 [.agg [[.int .u32 x0.Version], [u0_0], [u0_1], [.int .u32 x0.Time]].flatten.toArray].toArray w0 (fun e w' => ∃ v, e = .returned v ∧ v = .int .i64 r ∧ InR .i64 r ∧ Iv w0 [] μ μ [] w') := by
  refine enter Tryd.func77 rfl Tryd.ntmps77 rfl fun a hA => ?_
  have hI := Iv.start hμ
  have H := bI H
  refine w_seq fun _ hN1 => w_reg <| o_box [[.int .u32 x0.Version], [u0_0], [u0_1], [.int .u32 x0.Time]] hI hA rfl rfl rfl fun g1 a w hA hI hg1 => 
    sta hA rfl rfl fun a hA => ?_
  refine o_nil <| hN1 _ _ <| w_seq fun _ hN2 => w_reg <| stp hA (r_ldA (j := 0) [] [[.int .u32 x0.Version], [u0_0], [u0_1], [.int .u32 x0.Time]] [] Tryd.underlying32 rfl sz32 rfl hI rfl hA rfl rfl) rfl fun a hA => ?_
  obtain ⟨r1, hr1, H⟩ := bB H
  refine o_call _ cf100 hA rfl (tx_Bytes.c μ _ hI.agr x0 u0_0 u0_1 ⟨hx0.1, hx0.2.1, hx0.2.2.1, hx0.2.2.2⟩ r1 hr1) rfl fun v1 a w hz1 hA => ?_
  obtain ⟨_, cs1, rfl, hE1, hi1⟩ := hz1
  have hI := hI.call hi1
  have hlen1 := Iv.row_in hI (j := 0) rfl
  refine stp hA (r_rlen (xs := 0) Tryd.underlying40 hI (j := 0) rfl hA rfl) rfl fun a hA => 
    sta hA rfl rfl fun a hA => ?_
  refine o_nil <| hN2 _ _ <| w_ret ?_
  obtain rfl := sJ H
  exact ret1 hA Tryd.results77 rfl ⟨_, rfl, rfl, hlen1, hI.forget0⟩
set_option maxRecDepth 20000 in
theorem sargassoref1_First.c (μ : Store) (w0 : World) (hμ : Agr μ w0) (x0 : Int) (hx0 : InR .i64 x0) (x1 : Int) (hx1 : InR .u64 x1) (x2 : List Int) (hx2 : Arr .u8 32 x2) (x3 : List Int) (u3 : Value) (hx3 : Slc (RI .u8) 1 μ u3 x3) (r : Tx) (H : sargassoref1_First.f x0 x1 x2 x3 = some r) :
    Calls Tryd.prog 12 [.int .i64 x0, .int .u64 x1, .agg [av .u8 32 x2].flatten.toArray, u3].toArray w0 (fun e w' => ∃ v, e = .returned v ∧ ∃ (v0_0 : Value) (v0_1 : Value) (μ' : Store), v = .agg [[.int .u32 r.Version], [v0_0], [v0_1], [.int .u32 r.Time]].flatten.toArray ∧ TxW μ' r v0_0 v0_1 ∧ Iv w0 [] μ μ' [] w') := by
  refine enter Tryd.func12 rfl Tryd.ntmps12 rfl fun a hA => ?_
  have hI := Iv.start hμ
  have H := bI H
  refine w_seq fun _ hN1 => w_reg <| o_box [av .u8 32 x2] hI hA rfl rfl rfl fun g1 a w hA hI hg1 => 
    o_new [[.int .u32 0], [(.slice none 0 0)], [(.slice none 0 0)], [.int .u32 0]] zr32 hI hA rfl fun g2 a w hA hI hg2 => ?_
  refine o_nil <| hN1 _ _ <| w_seq fun _ hN2 => w_reg <| stm hA rfl rfl fun a hA => 
    stp hA (r_conv Tryd.underlying3 Tryd.underlying24 hA rfl) rfl fun a hA => ?_
  have hI := hI.nilRow 5 1
  obtain ⟨r1, hr1, H⟩ := bB H
  refine o_call _ cf49 hA rfl (sargassoref1_Four.c μ _ hI.agr ([]) (.slice none 0 0) ([]) (Els.nil (RE := (RI .u8)) (sz := 1)) (hI.item (j := 0) rfl) (IntKind.u32.wrap x0) (wrap_in _ _) r1 hr1) rfl fun v1 a w hz1 hA => ?_
  obtain ⟨_, cs1, rfl, hE1, hi1⟩ := hz1
  have hI := hI.call1 0 rfl hi1
  refine stm hA rfl rfl fun a hA => ?_
  obtain ⟨cs2, hE2, hsv1⟩ : Slc (RI .u8) 1 μ u3 x3 := id (hx3)
  obtain ⟨hb1, H⟩ := bG H
  have hE3 := hE1.app hE2
  refine o_appG (xs := (r1 : List Int)) (ys := (x3 : List Int)) (M := 140737488355328) 0 te5 Tryd.underlying40 hI rfl hA rfl rfl (src_sl hI.agr hsv1 hE2.len) hE2.len (hE2.ones (one_RI _)) hb1 rfl fun v2 a w hA hI => 
    sta hA rfl rfl fun a hA => ?_
  refine o_nil <| hN2 _ _ ?_
  obtain ⟨⟨c1, c2, c3, c4⟩, hz2, Hk1⟩ := bB H
  refine w_cut (fun a w => ∃ (μ1 : Store) (vvc1 : Value) (vvc3 : Value) (ccc3 : List Value) (vvc4 : Value) (ccc4 : List Value), μ.le μ1 ∧ Slc (RI .u8) 1 μ1 vvc1 c1 ∧ InR .u32 c2 ∧ Els (RIn μ1) 35 c3 ccc3 ∧ Els (ROut μ1) 33 c4 ccc4 ∧ Fr a 24 [(8, .pointer (some ⟨g2, 0, none⟩)), (9, vvc1)] ∧ Iv w0 [] μ μ1 [row 42 35 vvc3 c3.length ccc3, row 44 33 vvc4 c4.length ccc4, cel g2 [[.int .u32 c2], [vvc3], [vvc4], [.int .u32 0]] 32, cel g1 [av .u8 32 x2] 26] w) ?_ ?_
  · have H := bI hz2
    refine w_anyS [] mo (fun w (h : Iv w0 [] μ μ [row 5 1 v2 (r1 ++ x3).length (cs1 ++ cs2), cel g2 [[.int .u32 0], [(.slice none 0 0)], [(.slice none 0 0)], [.int .u32 0]] 32, cel g1 [av .u8 32 x2] 26] w) => (h.sl [0, 2] rfl : Iv w0 [] μ μ [row 5 1 v2 (r1 ++ x3).length (cs1 ++ cs2), cel g1 [av .u8 32 x2] 26] w)) hI fun w hI => ?_
    refine gE 1 hA rfl (.inr (hI.sl [0, 2] rfl)) (fun _ => r_mv hA rfl) fun a hA => ?_
    refine gE 4 hA rfl (.inr (hI.sl [0, 2] rfl)) (fun _ => r_mv hA rfl) fun a hA => ?_
    refine gT 5 hA rfl (hI.sl [0, 2] rfl) (fun w hI => r_ldA (j := 1) [] [av .u8 32 x2] [] Tryd.underlying26 rfl sz26 rfl hI rfl hA rfl rfl) fun a hA => ?_
    refine g_fork (i := 0) (is := [6]) (by kernel_rfl) (List.forall_mem_cons.2 ⟨⟨_, rfl, ?_⟩, (List.forall_mem_cons.2 ⟨⟨_, rfl, ?_⟩, List.forall_mem_nil _⟩)⟩)
    · skip
      obtain ⟨r2, hr2, H⟩ := bB H
      refine o_callp (u := .agg [av .u8 32 r2.Tx, [.int .u32 r2.N]].flatten.toArray) cf50 hA rfl hI (sargassoref1_Null.c μ _ hI.agr  r2 hr2) rfl fun a w hz3 hI hA => ?_
      refine o_nil <| ⟨(.inr (hI.sl [0, 2] rfl)), ?_⟩
      refine g_fork (i := 2) (is := [6]) (by kernel_rfl) (List.forall_mem_cons.2 ⟨⟨_, rfl, ?_⟩, (List.forall_mem_cons.2 ⟨⟨_, rfl, ?_⟩, List.forall_mem_nil _⟩)⟩)
      · skip
        refine stp hA (r_bldS (cs := [av .u8 32 r2.Tx, [.int .u32 r2.N], [v2], [.int .u32 4294967295]].flatten.toArray) (pl := [(0, 33), (33, 1), (34, 1)]) zr42 Tryd.underlying42 ⟨rfl, sz39, rfl, sz40, rfl, sz24, trivial⟩ hA rfl ((fill_seg [] [av .u8 32 (List.replicate 32 0), [.int .u32 0]] [av .u8 32 r2.Tx, [.int .u32 r2.N]] [[(.slice none 0 0)], [.int .u32 0]] rfl rfl rfl rfl rfl).trans ((fill_seg [av .u8 32 r2.Tx, [.int .u32 r2.N]] [[(.slice none 0 0)]] [[v2]] [[.int .u32 0]] (own_cell hI (j := 0) rfl) rfl rfl rfl rfl).trans ((fill_seg [av .u8 32 r2.Tx, [.int .u32 r2.N], [v2]] [[.int .u32 0]] [[.int .u32 4294967295]] [] rfl rfl rfl rfl rfl).trans (rfl))))) rfl fun a hA => ?_
        refine o_nil <| ⟨(.inr (hI.sl [0, 2] rfl)), ?_⟩
        refine g_fork (i := 3) (is := [6]) (by kernel_rfl) (List.forall_mem_cons.2 ⟨⟨_, rfl, ?_⟩, (List.forall_mem_cons.2 ⟨⟨_, rfl, ?_⟩, List.forall_mem_nil _⟩)⟩)
        · skip
          obtain ⟨μ2, hle2, hsv2, hI, hth1⟩ := hI.freezeRowT 0 rfl
          have hS1 : Slc (RI .u8) 1 μ2 v2 (r1 ++ x3) := ⟨_, hE3, hsv2⟩
          have hE4 : Els (RIn μ2) 35 ([(⟨r2, r1 ++ x3, 4294967295⟩ : In)] : List In) _ := (Els.cons (c := [av .u8 32 r2.Tx, [.int .u32 r2.N], [v2], [.int .u32 4294967295]].flatten) ⟨v2, rfl, ⟨hz3.1, hz3.2, hS1, (in_lit .u32 4294967295 rfl)⟩⟩ rfl Els.nil)
          refine o_bsl ([av .u8 32 r2.Tx, [.int .u32 r2.N], [v2], [.int .u32 4294967295]].flatten ++ ([])) te42 zr42 Tryd.underlying29 hI hA rfl rfl rfl rfl (by kernel_rfl) rfl fun g3 a w hA hI => ?_
          generalize hcs : ([av .u8 32 r2.Tx, [.int .u32 r2.N], [v2], [.int .u32 4294967295]].flatten ++ ([]) : List Value) = cs4 at hE4 hI
          clear hcs
          refine o_nil <| ⟨(.inr ((hth1 _ _ hI).sl [0, 3] rfl)), ?_⟩
          refine gF 6 rfl ?_
          refine stp hA (r_bldS (cs := [[.int .u64 x1], av .u8 32 x2].flatten.toArray) (pl := [(0, 1), (1, 32)]) zr44 Tryd.underlying44 ⟨rfl, sz34, rfl, sz26, trivial⟩ hA rfl (by kernel_rfl)) rfl fun a hA => ?_
          refine o_nil <| ⟨(.inr ((hth1 _ _ hI).sl [0, 3] rfl)), ?_⟩
          refine gF 7 rfl ?_
          have hE5 : Els (ROut μ2) 33 ([(⟨x1, x2⟩ : Out)] : List Out) _ := (Els.cons (c := [[.int .u64 x1], av .u8 32 x2].flatten) ⟨rfl, ⟨hx1, hx2⟩⟩ rfl Els.nil)
          refine o_bsl ([[.int .u64 x1], av .u8 32 x2].flatten ++ ([])) te44 zr44 Tryd.underlying30 hI hA rfl rfl rfl rfl (by kernel_rfl) rfl fun g4 a w hA hI => ?_
          generalize hcs : ([[.int .u64 x1], av .u8 32 x2].flatten ++ ([]) : List Value) = cs5 at hE5 hI
          clear hcs
          refine o_nil <| ⟨(.inr ((hth1 _ _ hI).sl [0, 4] rfl)), ?_⟩
          refine gF 8 rfl ?_
          refine stp hA (r_bldS (cs := [[.int .u32 1], [(.slice (some ⟨g3, 0, none⟩) 1 1)], [(.slice (some ⟨g4, 0, none⟩) 1 1)], [.int .u32 0]].flatten.toArray) (pl := [(0, 1), (1, 1), (2, 1), (3, 1)]) zr32 Tryd.underlying32 ⟨rfl, sz24, rfl, sz29, rfl, sz30, rfl, sz24, trivial⟩ hA rfl ((fill_one rfl rfl (by kernel_rfl)).trans ((fill_one (own_cell hI (j := 1) rfl) rfl (by kernel_rfl)).trans ((fill_one (own_cell hI (j := 0) rfl) rfl (by kernel_rfl)).trans (by kernel_rfl))))) rfl fun a hA => ?_
          refine o_nil <| ⟨(.inr ((hth1 _ _ hI).sl [0, 4] rfl)), ?_⟩
          refine gF 9 rfl ?_
          refine o_st (j := 2) [] [[.int .u32 0], [(.slice none 0 0)], [(.slice none 0 0)], [.int .u32 0]] [[.int .u32 1], [(.slice (some ⟨g3, 0, none⟩) 1 1)], [(.slice (some ⟨g4, 0, none⟩) 1 1)], [.int .u32 0]] [] sz32 rfl rfl (fl_cons (one_one rfl) (fl_cons (one_one (own_one hI (j := 1) rfl)) (fl_cons (one_one (own_one hI (j := 0) rfl)) (fl_cons (one_one rfl) fl_nil)))) hI rfl hA rfl rfl rfl rfl fun w hI => ?_
          refine o_nil <| ⟨(.inr ((hth1 _ _ hI).sl [0, 4] rfl)), ?_⟩
          refine gN ?_
          cases sJ H
          exact ⟨μ2, v2, (.slice (some ⟨g3, 0, none⟩) 1 1), cs4, (.slice (some ⟨g4, 0, none⟩) 1 1), cs5, hle2, hS1, (in_lit .u32 1 rfl), hE4, hE5, hA.sub ⟨rfl, rfl, trivial⟩, (hI.sl [1, 0, 2, 3] rfl)⟩
        · skip
          refine stp hA (r_bldS (cs := [[.int .u64 x1], av .u8 32 x2].flatten.toArray) (pl := [(0, 1), (1, 32)]) zr44 Tryd.underlying44 ⟨rfl, sz34, rfl, sz26, trivial⟩ hA rfl (by kernel_rfl)) rfl fun a hA => ?_
          refine o_nil <| ⟨(.inr (hI.sl [0, 2] rfl)), ?_⟩
          refine g_fork (i := 3) (is := [7]) (by kernel_rfl) (List.forall_mem_cons.2 ⟨⟨_, rfl, ?_⟩, (List.forall_mem_cons.2 ⟨⟨_, rfl, ?_⟩, List.forall_mem_nil _⟩)⟩)
          · skip
            obtain ⟨μ2, hle2, hsv2, hI, hth1⟩ := hI.freezeRowT 0 rfl
            have hS1 : Slc (RI .u8) 1 μ2 v2 (r1 ++ x3) := ⟨_, hE3, hsv2⟩
            have hE4 : Els (RIn μ2) 35 ([(⟨r2, r1 ++ x3, 4294967295⟩ : In)] : List In) _ := (Els.cons (c := [av .u8 32 r2.Tx, [.int .u32 r2.N], [v2], [.int .u32 4294967295]].flatten) ⟨v2, rfl, ⟨hz3.1, hz3.2, hS1, (in_lit .u32 4294967295 rfl)⟩⟩ rfl Els.nil)
            refine o_bsl ([av .u8 32 r2.Tx, [.int .u32 r2.N], [v2], [.int .u32 4294967295]].flatten ++ ([])) te42 zr42 Tryd.underlying29 hI hA rfl rfl rfl rfl (by kernel_rfl) rfl fun g3 a w hA hI => ?_
            generalize hcs : ([av .u8 32 r2.Tx, [.int .u32 r2.N], [v2], [.int .u32 4294967295]].flatten ++ ([]) : List Value) = cs4 at hE4 hI
            clear hcs
            refine o_nil <| ⟨(.inr ((hth1 _ _ hI).sl [0, 3] rfl)), ?_⟩
            refine gF 7 rfl ?_
            have hE5 : Els (ROut μ2) 33 ([(⟨x1, x2⟩ : Out)] : List Out) _ := (Els.cons (c := [[.int .u64 x1], av .u8 32 x2].flatten) ⟨rfl, ⟨hx1, hx2⟩⟩ rfl Els.nil)
            refine o_bsl ([[.int .u64 x1], av .u8 32 x2].flatten ++ ([])) te44 zr44 Tryd.underlying30 hI hA rfl rfl rfl rfl (by kernel_rfl) rfl fun g4 a w hA hI => ?_
            generalize hcs : ([[.int .u64 x1], av .u8 32 x2].flatten ++ ([]) : List Value) = cs5 at hE5 hI
            clear hcs
            refine o_nil <| ⟨(.inr ((hth1 _ _ hI).sl [0, 4] rfl)), ?_⟩
            refine gF 8 rfl ?_
            refine stp hA (r_bldS (cs := [[.int .u32 1], [(.slice (some ⟨g3, 0, none⟩) 1 1)], [(.slice (some ⟨g4, 0, none⟩) 1 1)], [.int .u32 0]].flatten.toArray) (pl := [(0, 1), (1, 1), (2, 1), (3, 1)]) zr32 Tryd.underlying32 ⟨rfl, sz24, rfl, sz29, rfl, sz30, rfl, sz24, trivial⟩ hA rfl ((fill_one rfl rfl (by kernel_rfl)).trans ((fill_one (own_cell hI (j := 1) rfl) rfl (by kernel_rfl)).trans ((fill_one (own_cell hI (j := 0) rfl) rfl (by kernel_rfl)).trans (by kernel_rfl))))) rfl fun a hA => ?_
            refine o_nil <| ⟨(.inr ((hth1 _ _ hI).sl [0, 4] rfl)), ?_⟩
            refine gF 9 rfl ?_
            refine o_st (j := 2) [] [[.int .u32 0], [(.slice none 0 0)], [(.slice none 0 0)], [.int .u32 0]] [[.int .u32 1], [(.slice (some ⟨g3, 0, none⟩) 1 1)], [(.slice (some ⟨g4, 0, none⟩) 1 1)], [.int .u32 0]] [] sz32 rfl rfl (fl_cons (one_one rfl) (fl_cons (one_one (own_one hI (j := 1) rfl)) (fl_cons (one_one (own_one hI (j := 0) rfl)) (fl_cons (one_one rfl) fl_nil)))) hI rfl hA rfl rfl rfl rfl fun w hI => ?_
            refine o_nil <| ⟨(.inr ((hth1 _ _ hI).sl [0, 4] rfl)), ?_⟩
            refine gN ?_
            cases sJ H
            exact ⟨μ2, v2, (.slice (some ⟨g3, 0, none⟩) 1 1), cs4, (.slice (some ⟨g4, 0, none⟩) 1 1), cs5, hle2, hS1, (in_lit .u32 1 rfl), hE4, hE5, hA.sub ⟨rfl, rfl, trivial⟩, (hI.sl [1, 0, 2, 3] rfl)⟩
          · skip
            have hE4 : Els (ROut μ) 33 ([(⟨x1, x2⟩ : Out)] : List Out) _ := (Els.cons (c := [[.int .u64 x1], av .u8 32 x2].flatten) ⟨rfl, ⟨hx1, hx2⟩⟩ rfl Els.nil)
            refine o_bsl ([[.int .u64 x1], av .u8 32 x2].flatten ++ ([])) te44 zr44 Tryd.underlying30 hI hA rfl rfl rfl rfl (by kernel_rfl) rfl fun g3 a w hA hI => ?_
            generalize hcs : ([[.int .u64 x1], av .u8 32 x2].flatten ++ ([]) : List Value) = cs4 at hE4 hI
            clear hcs
            refine o_nil <| ⟨(.inr (hI.sl [1, 3] rfl)), ?_⟩
            refine gF 3 rfl ?_
            obtain ⟨μ2, hle2, hsv2, hI, hth1⟩ := hI.freezeRowT 1 rfl
            have hS1 : Slc (RI .u8) 1 μ2 v2 (r1 ++ x3) := ⟨_, hE3, hsv2⟩
            have hE5 : Els (RIn μ2) 35 ([(⟨r2, r1 ++ x3, 4294967295⟩ : In)] : List In) _ := (Els.cons (c := [av .u8 32 r2.Tx, [.int .u32 r2.N], [v2], [.int .u32 4294967295]].flatten) ⟨v2, rfl, ⟨hz3.1, hz3.2, hS1, (in_lit .u32 4294967295 rfl)⟩⟩ rfl Els.nil)
            refine o_bsl ([av .u8 32 r2.Tx, [.int .u32 r2.N], [v2], [.int .u32 4294967295]].flatten ++ ([])) te42 zr42 Tryd.underlying29 hI hA rfl rfl rfl rfl (by kernel_rfl) rfl fun g4 a w hA hI => ?_
            generalize hcs : ([av .u8 32 r2.Tx, [.int .u32 r2.N], [v2], [.int .u32 4294967295]].flatten ++ ([]) : List Value) = cs5 at hE5 hI
            clear hcs
            refine o_nil <| ⟨(.inr ((hth1 _ _ hI).sl [0, 4] rfl)), ?_⟩
            refine gF 8 rfl ?_
            refine stp hA (r_bldS (cs := [[.int .u32 1], [(.slice (some ⟨g4, 0, none⟩) 1 1)], [(.slice (some ⟨g3, 0, none⟩) 1 1)], [.int .u32 0]].flatten.toArray) (pl := [(0, 1), (1, 1), (2, 1), (3, 1)]) zr32 Tryd.underlying32 ⟨rfl, sz24, rfl, sz29, rfl, sz30, rfl, sz24, trivial⟩ hA rfl ((fill_one rfl rfl (by kernel_rfl)).trans ((fill_one (own_cell hI (j := 0) rfl) rfl (by kernel_rfl)).trans ((fill_one (own_cell hI (j := 1) rfl) rfl (by kernel_rfl)).trans (by kernel_rfl))))) rfl fun a hA => ?_
            refine o_nil <| ⟨(.inr ((hth1 _ _ hI).sl [0, 4] rfl)), ?_⟩
            refine gF 9 rfl ?_
            refine o_st (j := 2) [] [[.int .u32 0], [(.slice none 0 0)], [(.slice none 0 0)], [.int .u32 0]] [[.int .u32 1], [(.slice (some ⟨g4, 0, none⟩) 1 1)], [(.slice (some ⟨g3, 0, none⟩) 1 1)], [.int .u32 0]] [] sz32 rfl rfl (fl_cons (one_one rfl) (fl_cons (one_one (own_one hI (j := 0) rfl)) (fl_cons (one_one (own_one hI (j := 1) rfl)) (fl_cons (one_one rfl) fl_nil)))) hI rfl hA rfl rfl rfl rfl fun w hI => ?_
            refine o_nil <| ⟨(.inr ((hth1 _ _ hI).sl [0, 4] rfl)), ?_⟩
            refine gN ?_
            cases sJ H
            exact ⟨μ2, v2, (.slice (some ⟨g4, 0, none⟩) 1 1), cs5, (.slice (some ⟨g3, 0, none⟩) 1 1), cs4, hle2, hS1, (in_lit .u32 1 rfl), hE5, hE4, hA.sub ⟨rfl, rfl, trivial⟩, hI⟩
      · skip
        refine stp hA (r_bldS (cs := [[.int .u64 x1], av .u8 32 x2].flatten.toArray) (pl := [(0, 1), (1, 32)]) zr44 Tryd.underlying44 ⟨rfl, sz34, rfl, sz26, trivial⟩ hA rfl (by kernel_rfl)) rfl fun a hA => ?_
        refine o_nil <| ⟨(.inr (hI.sl [0, 2] rfl)), ?_⟩
        refine g_fork (i := 2) (is := [7]) (by kernel_rfl) (List.forall_mem_cons.2 ⟨⟨_, rfl, ?_⟩, (List.forall_mem_cons.2 ⟨⟨_, rfl, ?_⟩, List.forall_mem_nil _⟩)⟩)
        · skip
          refine stp hA (r_bldS (cs := [av .u8 32 r2.Tx, [.int .u32 r2.N], [v2], [.int .u32 4294967295]].flatten.toArray) (pl := [(0, 33), (33, 1), (34, 1)]) zr42 Tryd.underlying42 ⟨rfl, sz39, rfl, sz40, rfl, sz24, trivial⟩ hA rfl ((fill_seg [] [av .u8 32 (List.replicate 32 0), [.int .u32 0]] [av .u8 32 r2.Tx, [.int .u32 r2.N]] [[(.slice none 0 0)], [.int .u32 0]] rfl rfl rfl rfl rfl).trans ((fill_seg [av .u8 32 r2.Tx, [.int .u32 r2.N]] [[(.slice none 0 0)]] [[v2]] [[.int .u32 0]] (own_cell hI (j := 0) rfl) rfl rfl rfl rfl).trans ((fill_seg [av .u8 32 r2.Tx, [.int .u32 r2.N], [v2]] [[.int .u32 0]] [[.int .u32 4294967295]] [] rfl rfl rfl rfl rfl).trans (rfl))))) rfl fun a hA => ?_
          refine o_nil <| ⟨(.inr (hI.sl [0, 2] rfl)), ?_⟩
          refine g_fork (i := 3) (is := [7]) (by kernel_rfl) (List.forall_mem_cons.2 ⟨⟨_, rfl, ?_⟩, (List.forall_mem_cons.2 ⟨⟨_, rfl, ?_⟩, List.forall_mem_nil _⟩)⟩)
          · skip
            obtain ⟨μ2, hle2, hsv2, hI, hth1⟩ := hI.freezeRowT 0 rfl
            have hS1 : Slc (RI .u8) 1 μ2 v2 (r1 ++ x3) := ⟨_, hE3, hsv2⟩
            have hE4 : Els (RIn μ2) 35 ([(⟨r2, r1 ++ x3, 4294967295⟩ : In)] : List In) _ := (Els.cons (c := [av .u8 32 r2.Tx, [.int .u32 r2.N], [v2], [.int .u32 4294967295]].flatten) ⟨v2, rfl, ⟨hz3.1, hz3.2, hS1, (in_lit .u32 4294967295 rfl)⟩⟩ rfl Els.nil)
            refine o_bsl ([av .u8 32 r2.Tx, [.int .u32 r2.N], [v2], [.int .u32 4294967295]].flatten ++ ([])) te42 zr42 Tryd.underlying29 hI hA rfl rfl rfl rfl (by kernel_rfl) rfl fun g3 a w hA hI => ?_
            generalize hcs : ([av .u8 32 r2.Tx, [.int .u32 r2.N], [v2], [.int .u32 4294967295]].flatten ++ ([]) : List Value) = cs4 at hE4 hI
            clear hcs
            refine o_nil <| ⟨(.inr ((hth1 _ _ hI).sl [0, 3] rfl)), ?_⟩
            refine gF 7 rfl ?_
            have hE5 : Els (ROut μ2) 33 ([(⟨x1, x2⟩ : Out)] : List Out) _ := (Els.cons (c := [[.int .u64 x1], av .u8 32 x2].flatten) ⟨rfl, ⟨hx1, hx2⟩⟩ rfl Els.nil)
            refine o_bsl ([[.int .u64 x1], av .u8 32 x2].flatten ++ ([])) te44 zr44 Tryd.underlying30 hI hA rfl rfl rfl rfl (by kernel_rfl) rfl fun g4 a w hA hI => ?_
            generalize hcs : ([[.int .u64 x1], av .u8 32 x2].flatten ++ ([]) : List Value) = cs5 at hE5 hI
            clear hcs
            refine o_nil <| ⟨(.inr ((hth1 _ _ hI).sl [0, 4] rfl)), ?_⟩
            refine gF 8 rfl ?_
            refine stp hA (r_bldS (cs := [[.int .u32 1], [(.slice (some ⟨g3, 0, none⟩) 1 1)], [(.slice (some ⟨g4, 0, none⟩) 1 1)], [.int .u32 0]].flatten.toArray) (pl := [(0, 1), (1, 1), (2, 1), (3, 1)]) zr32 Tryd.underlying32 ⟨rfl, sz24, rfl, sz29, rfl, sz30, rfl, sz24, trivial⟩ hA rfl ((fill_one rfl rfl (by kernel_rfl)).trans ((fill_one (own_cell hI (j := 1) rfl) rfl (by kernel_rfl)).trans ((fill_one (own_cell hI (j := 0) rfl) rfl (by kernel_rfl)).trans (by kernel_rfl))))) rfl fun a hA => ?_
            refine o_nil <| ⟨(.inr ((hth1 _ _ hI).sl [0, 4] rfl)), ?_⟩
            refine gF 9 rfl ?_
            refine o_st (j := 2) [] [[.int .u32 0], [(.slice none 0 0)], [(.slice none 0 0)], [.int .u32 0]] [[.int .u32 1], [(.slice (some ⟨g3, 0, none⟩) 1 1)], [(.slice (some ⟨g4, 0, none⟩) 1 1)], [.int .u32 0]] [] sz32 rfl rfl (fl_cons (one_one rfl) (fl_cons (one_one (own_one hI (j := 1) rfl)) (fl_cons (one_one (own_one hI (j := 0) rfl)) (fl_cons (one_one rfl) fl_nil)))) hI rfl hA rfl rfl rfl rfl fun w hI => ?_
            refine o_nil <| ⟨(.inr ((hth1 _ _ hI).sl [0, 4] rfl)), ?_⟩
            refine gN ?_
            cases sJ H
            exact ⟨μ2, v2, (.slice (some ⟨g3, 0, none⟩) 1 1), cs4, (.slice (some ⟨g4, 0, none⟩) 1 1), cs5, hle2, hS1, (in_lit .u32 1 rfl), hE4, hE5, hA.sub ⟨rfl, rfl, trivial⟩, (hI.sl [1, 0, 2, 3] rfl)⟩
          · skip
            have hE4 : Els (ROut μ) 33 ([(⟨x1, x2⟩ : Out)] : List Out) _ := (Els.cons (c := [[.int .u64 x1], av .u8 32 x2].flatten) ⟨rfl, ⟨hx1, hx2⟩⟩ rfl Els.nil)
            refine o_bsl ([[.int .u64 x1], av .u8 32 x2].flatten ++ ([])) te44 zr44 Tryd.underlying30 hI hA rfl rfl rfl rfl (by kernel_rfl) rfl fun g3 a w hA hI => ?_
            generalize hcs : ([[.int .u64 x1], av .u8 32 x2].flatten ++ ([]) : List Value) = cs4 at hE4 hI
            clear hcs
            refine o_nil <| ⟨(.inr (hI.sl [1, 3] rfl)), ?_⟩
            refine gF 3 rfl ?_
            obtain ⟨μ2, hle2, hsv2, hI, hth1⟩ := hI.freezeRowT 1 rfl
            have hS1 : Slc (RI .u8) 1 μ2 v2 (r1 ++ x3) := ⟨_, hE3, hsv2⟩
            have hE5 : Els (RIn μ2) 35 ([(⟨r2, r1 ++ x3, 4294967295⟩ : In)] : List In) _ := (Els.cons (c := [av .u8 32 r2.Tx, [.int .u32 r2.N], [v2], [.int .u32 4294967295]].flatten) ⟨v2, rfl, ⟨hz3.1, hz3.2, hS1, (in_lit .u32 4294967295 rfl)⟩⟩ rfl Els.nil)
            refine o_bsl ([av .u8 32 r2.Tx, [.int .u32 r2.N], [v2], [.int .u32 4294967295]].flatten ++ ([])) te42 zr42 Tryd.underlying29 hI hA rfl rfl rfl rfl (by kernel_rfl) rfl fun g4 a w hA hI => ?_
            generalize hcs : ([av .u8 32 r2.Tx, [.int .u32 r2.N], [v2], [.int .u32 4294967295]].flatten ++ ([]) : List Value) = cs5 at hE5 hI
            clear hcs
            refine o_nil <| ⟨(.inr ((hth1 _ _ hI).sl [0, 4] rfl)), ?_⟩
            refine gF 8 rfl ?_
            refine stp hA (r_bldS (cs := [[.int .u32 1], [(.slice (some ⟨g4, 0, none⟩) 1 1)], [(.slice (some ⟨g3, 0, none⟩) 1 1)], [.int .u32 0]].flatten.toArray) (pl := [(0, 1), (1, 1), (2, 1), (3, 1)]) zr32 Tryd.underlying32 ⟨rfl, sz24, rfl, sz29, rfl, sz30, rfl, sz24, trivial⟩ hA rfl ((fill_one rfl rfl (by kernel_rfl)).trans ((fill_one (own_cell hI (j := 0) rfl) rfl (by kernel_rfl)).trans ((fill_one (own_cell hI (j := 1) rfl) rfl (by kernel_rfl)).trans (by kernel_rfl))))) rfl fun a hA => ?_
            refine o_nil <| ⟨(.inr ((hth1 _ _ hI).sl [0, 4] rfl)), ?_⟩
            refine gF 9 rfl ?_
            refine o_st (j := 2) [] [[.int .u32 0], [(.slice none 0 0)], [(.slice none 0 0)], [.int .u32 0]] [[.int .u32 1], [(.slice (some ⟨g4, 0, none⟩) 1 1)], [(.slice (some ⟨g3, 0, none⟩) 1 1)], [.int .u32 0]] [] sz32 rfl rfl (fl_cons (one_one rfl) (fl_cons (one_one (own_one hI (j := 0) rfl)) (fl_cons (one_one (own_one hI (j := 1) rfl)) (fl_cons (one_one rfl) fl_nil)))) hI rfl hA rfl rfl rfl rfl fun w hI => ?_
            refine o_nil <| ⟨(.inr ((hth1 _ _ hI).sl [0, 4] rfl)), ?_⟩
            refine gN ?_
            cases sJ H
            exact ⟨μ2, v2, (.slice (some ⟨g4, 0, none⟩) 1 1), cs5, (.slice (some ⟨g3, 0, none⟩) 1 1), cs4, hle2, hS1, (in_lit .u32 1 rfl), hE5, hE4, hA.sub ⟨rfl, rfl, trivial⟩, hI⟩
        · skip
          have hE4 : Els (ROut μ) 33 ([(⟨x1, x2⟩ : Out)] : List Out) _ := (Els.cons (c := [[.int .u64 x1], av .u8 32 x2].flatten) ⟨rfl, ⟨hx1, hx2⟩⟩ rfl Els.nil)
          refine o_bsl ([[.int .u64 x1], av .u8 32 x2].flatten ++ ([])) te44 zr44 Tryd.underlying30 hI hA rfl rfl rfl rfl (by kernel_rfl) rfl fun g3 a w hA hI => ?_
          generalize hcs : ([[.int .u64 x1], av .u8 32 x2].flatten ++ ([]) : List Value) = cs4 at hE4 hI
          clear hcs
          refine o_nil <| ⟨(.inr (hI.sl [1, 3] rfl)), ?_⟩
          refine gF 2 rfl ?_
          refine stp hA (r_bldS (cs := [av .u8 32 r2.Tx, [.int .u32 r2.N], [v2], [.int .u32 4294967295]].flatten.toArray) (pl := [(0, 33), (33, 1), (34, 1)]) zr42 Tryd.underlying42 ⟨rfl, sz39, rfl, sz40, rfl, sz24, trivial⟩ hA rfl ((fill_seg [] [av .u8 32 (List.replicate 32 0), [.int .u32 0]] [av .u8 32 r2.Tx, [.int .u32 r2.N]] [[(.slice none 0 0)], [.int .u32 0]] rfl rfl rfl rfl rfl).trans ((fill_seg [av .u8 32 r2.Tx, [.int .u32 r2.N]] [[(.slice none 0 0)]] [[v2]] [[.int .u32 0]] (own_cell hI (j := 1) rfl) rfl rfl rfl rfl).trans ((fill_seg [av .u8 32 r2.Tx, [.int .u32 r2.N], [v2]] [[.int .u32 0]] [[.int .u32 4294967295]] [] rfl rfl rfl rfl rfl).trans (rfl))))) rfl fun a hA => ?_
          refine o_nil <| ⟨(.inr (hI.sl [1, 3] rfl)), ?_⟩
          refine gF 3 rfl ?_
          obtain ⟨μ2, hle2, hsv2, hI, hth1⟩ := hI.freezeRowT 1 rfl
          have hS1 : Slc (RI .u8) 1 μ2 v2 (r1 ++ x3) := ⟨_, hE3, hsv2⟩
          have hE5 : Els (RIn μ2) 35 ([(⟨r2, r1 ++ x3, 4294967295⟩ : In)] : List In) _ := (Els.cons (c := [av .u8 32 r2.Tx, [.int .u32 r2.N], [v2], [.int .u32 4294967295]].flatten) ⟨v2, rfl, ⟨hz3.1, hz3.2, hS1, (in_lit .u32 4294967295 rfl)⟩⟩ rfl Els.nil)
          refine o_bsl ([av .u8 32 r2.Tx, [.int .u32 r2.N], [v2], [.int .u32 4294967295]].flatten ++ ([])) te42 zr42 Tryd.underlying29 hI hA rfl rfl rfl rfl (by kernel_rfl) rfl fun g4 a w hA hI => ?_
          generalize hcs : ([av .u8 32 r2.Tx, [.int .u32 r2.N], [v2], [.int .u32 4294967295]].flatten ++ ([]) : List Value) = cs5 at hE5 hI
          clear hcs
          refine o_nil <| ⟨(.inr ((hth1 _ _ hI).sl [0, 4] rfl)), ?_⟩
          refine gF 8 rfl ?_
          refine stp hA (r_bldS (cs := [[.int .u32 1], [(.slice (some ⟨g4, 0, none⟩) 1 1)], [(.slice (some ⟨g3, 0, none⟩) 1 1)], [.int .u32 0]].flatten.toArray) (pl := [(0, 1), (1, 1), (2, 1), (3, 1)]) zr32 Tryd.underlying32 ⟨rfl, sz24, rfl, sz29, rfl, sz30, rfl, sz24, trivial⟩ hA rfl ((fill_one rfl rfl (by kernel_rfl)).trans ((fill_one (own_cell hI (j := 0) rfl) rfl (by kernel_rfl)).trans ((fill_one (own_cell hI (j := 1) rfl) rfl (by kernel_rfl)).trans (by kernel_rfl))))) rfl fun a hA => ?_
          refine o_nil <| ⟨(.inr ((hth1 _ _ hI).sl [0, 4] rfl)), ?_⟩
          refine gF 9 rfl ?_
          refine o_st (j := 2) [] [[.int .u32 0], [(.slice none 0 0)], [(.slice none 0 0)], [.int .u32 0]] [[.int .u32 1], [(.slice (some ⟨g4, 0, none⟩) 1 1)], [(.slice (some ⟨g3, 0, none⟩) 1 1)], [.int .u32 0]] [] sz32 rfl rfl (fl_cons (one_one rfl) (fl_cons (one_one (own_one hI (j := 0) rfl)) (fl_cons (one_one (own_one hI (j := 1) rfl)) (fl_cons (one_one rfl) fl_nil)))) hI rfl hA rfl rfl rfl rfl fun w hI => ?_
          refine o_nil <| ⟨(.inr ((hth1 _ _ hI).sl [0, 4] rfl)), ?_⟩
          refine gN ?_
          cases sJ H
          exact ⟨μ2, v2, (.slice (some ⟨g4, 0, none⟩) 1 1), cs5, (.slice (some ⟨g3, 0, none⟩) 1 1), cs4, hle2, hS1, (in_lit .u32 1 rfl), hE5, hE4, hA.sub ⟨rfl, rfl, trivial⟩, hI⟩
    · skip
      refine stp hA (r_bldS (cs := [[.int .u64 x1], av .u8 32 x2].flatten.toArray) (pl := [(0, 1), (1, 32)]) zr44 Tryd.underlying44 ⟨rfl, sz34, rfl, sz26, trivial⟩ hA rfl (by kernel_rfl)) rfl fun a hA => ?_
      refine o_nil <| ⟨(.inr (hI.sl [0, 2] rfl)), ?_⟩
      refine g_fork (i := 0) (is := [7]) (by kernel_rfl) (List.forall_mem_cons.2 ⟨⟨_, rfl, ?_⟩, (List.forall_mem_cons.2 ⟨⟨_, rfl, ?_⟩, List.forall_mem_nil _⟩)⟩)
      · skip
        obtain ⟨r2, hr2, H⟩ := bB H
        refine o_callp (u := .agg [av .u8 32 r2.Tx, [.int .u32 r2.N]].flatten.toArray) cf50 hA rfl hI (sargassoref1_Null.c μ _ hI.agr  r2 hr2) rfl fun a w hz3 hI hA => ?_
        refine o_nil <| ⟨(.inr (hI.sl [0, 2] rfl)), ?_⟩
        refine g_fork (i := 2) (is := [7]) (by kernel_rfl) (List.forall_mem_cons.2 ⟨⟨_, rfl, ?_⟩, (List.forall_mem_cons.2 ⟨⟨_, rfl, ?_⟩, List.forall_mem_nil _⟩)⟩)
        · skip
          refine stp hA (r_bldS (cs := [av .u8 32 r2.Tx, [.int .u32 r2.N], [v2], [.int .u32 4294967295]].flatten.toArray) (pl := [(0, 33), (33, 1), (34, 1)]) zr42 Tryd.underlying42 ⟨rfl, sz39, rfl, sz40, rfl, sz24, trivial⟩ hA rfl ((fill_seg [] [av .u8 32 (List.replicate 32 0), [.int .u32 0]] [av .u8 32 r2.Tx, [.int .u32 r2.N]] [[(.slice none 0 0)], [.int .u32 0]] rfl rfl rfl rfl rfl).trans ((fill_seg [av .u8 32 r2.Tx, [.int .u32 r2.N]] [[(.slice none 0 0)]] [[v2]] [[.int .u32 0]] (own_cell hI (j := 0) rfl) rfl rfl rfl rfl).trans ((fill_seg [av .u8 32 r2.Tx, [.int .u32 r2.N], [v2]] [[.int .u32 0]] [[.int .u32 4294967295]] [] rfl rfl rfl rfl rfl).trans (rfl))))) rfl fun a hA => ?_
          refine o_nil <| ⟨(.inr (hI.sl [0, 2] rfl)), ?_⟩
          refine g_fork (i := 3) (is := [7]) (by kernel_rfl) (List.forall_mem_cons.2 ⟨⟨_, rfl, ?_⟩, (List.forall_mem_cons.2 ⟨⟨_, rfl, ?_⟩, List.forall_mem_nil _⟩)⟩)
          · skip
            obtain ⟨μ2, hle2, hsv2, hI, hth1⟩ := hI.freezeRowT 0 rfl
            have hS1 : Slc (RI .u8) 1 μ2 v2 (r1 ++ x3) := ⟨_, hE3, hsv2⟩
            have hE4 : Els (RIn μ2) 35 ([(⟨r2, r1 ++ x3, 4294967295⟩ : In)] : List In) _ := (Els.cons (c := [av .u8 32 r2.Tx, [.int .u32 r2.N], [v2], [.int .u32 4294967295]].flatten) ⟨v2, rfl, ⟨hz3.1, hz3.2, hS1, (in_lit .u32 4294967295 rfl)⟩⟩ rfl Els.nil)
            refine o_bsl ([av .u8 32 r2.Tx, [.int .u32 r2.N], [v2], [.int .u32 4294967295]].flatten ++ ([])) te42 zr42 Tryd.underlying29 hI hA rfl rfl rfl rfl (by kernel_rfl) rfl fun g3 a w hA hI => ?_
            generalize hcs : ([av .u8 32 r2.Tx, [.int .u32 r2.N], [v2], [.int .u32 4294967295]].flatten ++ ([]) : List Value) = cs4 at hE4 hI
            clear hcs
            refine o_nil <| ⟨(.inr ((hth1 _ _ hI).sl [0, 3] rfl)), ?_⟩
            refine gF 7 rfl ?_
            have hE5 : Els (ROut μ2) 33 ([(⟨x1, x2⟩ : Out)] : List Out) _ := (Els.cons (c := [[.int .u64 x1], av .u8 32 x2].flatten) ⟨rfl, ⟨hx1, hx2⟩⟩ rfl Els.nil)
            refine o_bsl ([[.int .u64 x1], av .u8 32 x2].flatten ++ ([])) te44 zr44 Tryd.underlying30 hI hA rfl rfl rfl rfl (by kernel_rfl) rfl fun g4 a w hA hI => ?_
            generalize hcs : ([[.int .u64 x1], av .u8 32 x2].flatten ++ ([]) : List Value) = cs5 at hE5 hI
            clear hcs
            refine o_nil <| ⟨(.inr ((hth1 _ _ hI).sl [0, 4] rfl)), ?_⟩
            refine gF 8 rfl ?_
            refine stp hA (r_bldS (cs := [[.int .u32 1], [(.slice (some ⟨g3, 0, none⟩) 1 1)], [(.slice (some ⟨g4, 0, none⟩) 1 1)], [.int .u32 0]].flatten.toArray) (pl := [(0, 1), (1, 1), (2, 1), (3, 1)]) zr32 Tryd.underlying32 ⟨rfl, sz24, rfl, sz29, rfl, sz30, rfl, sz24, trivial⟩ hA rfl ((fill_one rfl rfl (by kernel_rfl)).trans ((fill_one (own_cell hI (j := 1) rfl) rfl (by kernel_rfl)).trans ((fill_one (own_cell hI (j := 0) rfl) rfl (by kernel_rfl)).trans (by kernel_rfl))))) rfl fun a hA => ?_
            refine o_nil <| ⟨(.inr ((hth1 _ _ hI).sl [0, 4] rfl)), ?_⟩
            refine gF 9 rfl ?_
            refine o_st (j := 2) [] [[.int .u32 0], [(.slice none 0 0)], [(.slice none 0 0)], [.int .u32 0]] [[.int .u32 1], [(.slice (some ⟨g3, 0, none⟩) 1 1)], [(.slice (some ⟨g4, 0, none⟩) 1 1)], [.int .u32 0]] [] sz32 rfl rfl (fl_cons (one_one rfl) (fl_cons (one_one (own_one hI (j := 1) rfl)) (fl_cons (one_one (own_one hI (j := 0) rfl)) (fl_cons (one_one rfl) fl_nil)))) hI rfl hA rfl rfl rfl rfl fun w hI => ?_
            refine o_nil <| ⟨(.inr ((hth1 _ _ hI).sl [0, 4] rfl)), ?_⟩
            refine gN ?_
            cases sJ H
            exact ⟨μ2, v2, (.slice (some ⟨g3, 0, none⟩) 1 1), cs4, (.slice (some ⟨g4, 0, none⟩) 1 1), cs5, hle2, hS1, (in_lit .u32 1 rfl), hE4, hE5, hA.sub ⟨rfl, rfl, trivial⟩, (hI.sl [1, 0, 2, 3] rfl)⟩
          · skip
            have hE4 : Els (ROut μ) 33 ([(⟨x1, x2⟩ : Out)] : List Out) _ := (Els.cons (c := [[.int .u64 x1], av .u8 32 x2].flatten) ⟨rfl, ⟨hx1, hx2⟩⟩ rfl Els.nil)
            refine o_bsl ([[.int .u64 x1], av .u8 32 x2].flatten ++ ([])) te44 zr44 Tryd.underlying30 hI hA rfl rfl rfl rfl (by kernel_rfl) rfl fun g3 a w hA hI => ?_
            generalize hcs : ([[.int .u64 x1], av .u8 32 x2].flatten ++ ([]) : List Value) = cs4 at hE4 hI
            clear hcs
            refine o_nil <| ⟨(.inr (hI.sl [1, 3] rfl)), ?_⟩
            refine gF 3 rfl ?_
            obtain ⟨μ2, hle2, hsv2, hI, hth1⟩ := hI.freezeRowT 1 rfl
            have hS1 : Slc (RI .u8) 1 μ2 v2 (r1 ++ x3) := ⟨_, hE3, hsv2⟩
            have hE5 : Els (RIn μ2) 35 ([(⟨r2, r1 ++ x3, 4294967295⟩ : In)] : List In) _ := (Els.cons (c := [av .u8 32 r2.Tx, [.int .u32 r2.N], [v2], [.int .u32 4294967295]].flatten) ⟨v2, rfl, ⟨hz3.1, hz3.2, hS1, (in_lit .u32 4294967295 rfl)⟩⟩ rfl Els.nil)
            refine o_bsl ([av .u8 32 r2.Tx, [.int .u32 r2.N], [v2], [.int .u32 4294967295]].flatten ++ ([])) te42 zr42 Tryd.underlying29 hI hA rfl rfl rfl rfl (by kernel_rfl) rfl fun g4 a w hA hI => ?_
            generalize hcs : ([av .u8 32 r2.Tx, [.int .u32 r2.N], [v2], [.int .u32 4294967295]].flatten ++ ([]) : List Value) = cs5 at hE5 hI
            clear hcs
            refine o_nil <| ⟨(.inr ((hth1 _ _ hI).sl [0, 4] rfl)), ?_⟩
            refine gF 8 rfl ?_
            refine stp hA (r_bldS (cs := [[.int .u32 1], [(.slice (some ⟨g4, 0, none⟩) 1 1)], [(.slice (some ⟨g3, 0, none⟩) 1 1)], [.int .u32 0]].flatten.toArray) (pl := [(0, 1), (1, 1), (2, 1), (3, 1)]) zr32 Tryd.underlying32 ⟨rfl, sz24, rfl, sz29, rfl, sz30, rfl, sz24, trivial⟩ hA rfl ((fill_one rfl rfl (by kernel_rfl)).trans ((fill_one (own_cell hI (j := 0) rfl) rfl (by kernel_rfl)).trans ((fill_one (own_cell hI (j := 1) rfl) rfl (by kernel_rfl)).trans (by kernel_rfl))))) rfl fun a hA => ?_
            refine o_nil <| ⟨(.inr ((hth1 _ _ hI).sl [0, 4] rfl)), ?_⟩
            refine gF 9 rfl ?_
            refine o_st (j := 2) [] [[.int .u32 0], [(.slice none 0 0)], [(.slice none 0 0)], [.int .u32 0]] [[.int .u32 1], [(.slice (some ⟨g4, 0, none⟩) 1 1)], [(.slice (some ⟨g3, 0, none⟩) 1 1)], [.int .u32 0]] [] sz32 rfl rfl (fl_cons (one_one rfl) (fl_cons (one_one (own_one hI (j := 0) rfl)) (fl_cons (one_one (own_one hI (j := 1) rfl)) (fl_cons (one_one rfl) fl_nil)))) hI rfl hA rfl rfl rfl rfl fun w hI => ?_
            refine o_nil <| ⟨(.inr ((hth1 _ _ hI).sl [0, 4] rfl)), ?_⟩
            refine gN ?_
            cases sJ H
            exact ⟨μ2, v2, (.slice (some ⟨g4, 0, none⟩) 1 1), cs5, (.slice (some ⟨g3, 0, none⟩) 1 1), cs4, hle2, hS1, (in_lit .u32 1 rfl), hE5, hE4, hA.sub ⟨rfl, rfl, trivial⟩, hI⟩
        · skip
          have hE4 : Els (ROut μ) 33 ([(⟨x1, x2⟩ : Out)] : List Out) _ := (Els.cons (c := [[.int .u64 x1], av .u8 32 x2].flatten) ⟨rfl, ⟨hx1, hx2⟩⟩ rfl Els.nil)
          refine o_bsl ([[.int .u64 x1], av .u8 32 x2].flatten ++ ([])) te44 zr44 Tryd.underlying30 hI hA rfl rfl rfl rfl (by kernel_rfl) rfl fun g3 a w hA hI => ?_
          generalize hcs : ([[.int .u64 x1], av .u8 32 x2].flatten ++ ([]) : List Value) = cs4 at hE4 hI
          clear hcs
          refine o_nil <| ⟨(.inr (hI.sl [1, 3] rfl)), ?_⟩
          refine gF 2 rfl ?_
          refine stp hA (r_bldS (cs := [av .u8 32 r2.Tx, [.int .u32 r2.N], [v2], [.int .u32 4294967295]].flatten.toArray) (pl := [(0, 33), (33, 1), (34, 1)]) zr42 Tryd.underlying42 ⟨rfl, sz39, rfl, sz40, rfl, sz24, trivial⟩ hA rfl ((fill_seg [] [av .u8 32 (List.replicate 32 0), [.int .u32 0]] [av .u8 32 r2.Tx, [.int .u32 r2.N]] [[(.slice none 0 0)], [.int .u32 0]] rfl rfl rfl rfl rfl).trans ((fill_seg [av .u8 32 r2.Tx, [.int .u32 r2.N]] [[(.slice none 0 0)]] [[v2]] [[.int .u32 0]] (own_cell hI (j := 1) rfl) rfl rfl rfl rfl).trans ((fill_seg [av .u8 32 r2.Tx, [.int .u32 r2.N], [v2]] [[.int .u32 0]] [[.int .u32 4294967295]] [] rfl rfl rfl rfl rfl).trans (rfl))))) rfl fun a hA => ?_
          refine o_nil <| ⟨(.inr (hI.sl [1, 3] rfl)), ?_⟩
          refine gF 3 rfl ?_
          obtain ⟨μ2, hle2, hsv2, hI, hth1⟩ := hI.freezeRowT 1 rfl
          have hS1 : Slc (RI .u8) 1 μ2 v2 (r1 ++ x3) := ⟨_, hE3, hsv2⟩
          have hE5 : Els (RIn μ2) 35 ([(⟨r2, r1 ++ x3, 4294967295⟩ : In)] : List In) _ := (Els.cons (c := [av .u8 32 r2.Tx, [.int .u32 r2.N], [v2], [.int .u32 4294967295]].flatten) ⟨v2, rfl, ⟨hz3.1, hz3.2, hS1, (in_lit .u32 4294967295 rfl)⟩⟩ rfl Els.nil)
          refine o_bsl ([av .u8 32 r2.Tx, [.int .u32 r2.N], [v2], [.int .u32 4294967295]].flatten ++ ([])) te42 zr42 Tryd.underlying29 hI hA rfl rfl rfl rfl (by kernel_rfl) rfl fun g4 a w hA hI => ?_
          generalize hcs : ([av .u8 32 r2.Tx, [.int .u32 r2.N], [v2], [.int .u32 4294967295]].flatten ++ ([]) : List Value) = cs5 at hE5 hI
          clear hcs
          refine o_nil <| ⟨(.inr ((hth1 _ _ hI).sl [0, 4] rfl)), ?_⟩
          refine gF 8 rfl ?_
          refine stp hA (r_bldS (cs := [[.int .u32 1], [(.slice (some ⟨g4, 0, none⟩) 1 1)], [(.slice (some ⟨g3, 0, none⟩) 1 1)], [.int .u32 0]].flatten.toArray) (pl := [(0, 1), (1, 1), (2, 1), (3, 1)]) zr32 Tryd.underlying32 ⟨rfl, sz24, rfl, sz29, rfl, sz30, rfl, sz24, trivial⟩ hA rfl ((fill_one rfl rfl (by kernel_rfl)).trans ((fill_one (own_cell hI (j := 0) rfl) rfl (by kernel_rfl)).trans ((fill_one (own_cell hI (j := 1) rfl) rfl (by kernel_rfl)).trans (by kernel_rfl))))) rfl fun a hA => ?_
          refine o_nil <| ⟨(.inr ((hth1 _ _ hI).sl [0, 4] rfl)), ?_⟩
          refine gF 9 rfl ?_
          refine o_st (j := 2) [] [[.int .u32 0], [(.slice none 0 0)], [(.slice none 0 0)], [.int .u32 0]] [[.int .u32 1], [(.slice (some ⟨g4, 0, none⟩) 1 1)], [(.slice (some ⟨g3, 0, none⟩) 1 1)], [.int .u32 0]] [] sz32 rfl rfl (fl_cons (one_one rfl) (fl_cons (one_one (own_one hI (j := 0) rfl)) (fl_cons (one_one (own_one hI (j := 1) rfl)) (fl_cons (one_one rfl) fl_nil)))) hI rfl hA rfl rfl rfl rfl fun w hI => ?_
          refine o_nil <| ⟨(.inr ((hth1 _ _ hI).sl [0, 4] rfl)), ?_⟩
          refine gN ?_
          cases sJ H
          exact ⟨μ2, v2, (.slice (some ⟨g4, 0, none⟩) 1 1), cs5, (.slice (some ⟨g3, 0, none⟩) 1 1), cs4, hle2, hS1, (in_lit .u32 1 rfl), hE5, hE4, hA.sub ⟨rfl, rfl, trivial⟩, hI⟩
      · skip
        have hE4 : Els (ROut μ) 33 ([(⟨x1, x2⟩ : Out)] : List Out) _ := (Els.cons (c := [[.int .u64 x1], av .u8 32 x2].flatten) ⟨rfl, ⟨hx1, hx2⟩⟩ rfl Els.nil)
        refine o_bsl ([[.int .u64 x1], av .u8 32 x2].flatten ++ ([])) te44 zr44 Tryd.underlying30 hI hA rfl rfl rfl rfl (by kernel_rfl) rfl fun g3 a w hA hI => ?_
        generalize hcs : ([[.int .u64 x1], av .u8 32 x2].flatten ++ ([]) : List Value) = cs4 at hE4 hI
        clear hcs
        refine o_nil <| ⟨(.inr (hI.sl [1, 3] rfl)), ?_⟩
        refine gF 0 rfl ?_
        obtain ⟨r2, hr2, H⟩ := bB H
        refine o_callp (u := .agg [av .u8 32 r2.Tx, [.int .u32 r2.N]].flatten.toArray) cf50 hA rfl hI (sargassoref1_Null.c μ _ hI.agr  r2 hr2) rfl fun a w hz3 hI hA => ?_
        refine o_nil <| ⟨(.inr (hI.sl [1, 3] rfl)), ?_⟩
        refine gF 2 rfl ?_
        refine stp hA (r_bldS (cs := [av .u8 32 r2.Tx, [.int .u32 r2.N], [v2], [.int .u32 4294967295]].flatten.toArray) (pl := [(0, 33), (33, 1), (34, 1)]) zr42 Tryd.underlying42 ⟨rfl, sz39, rfl, sz40, rfl, sz24, trivial⟩ hA rfl ((fill_seg [] [av .u8 32 (List.replicate 32 0), [.int .u32 0]] [av .u8 32 r2.Tx, [.int .u32 r2.N]] [[(.slice none 0 0)], [.int .u32 0]] rfl rfl rfl rfl rfl).trans ((fill_seg [av .u8 32 r2.Tx, [.int .u32 r2.N]] [[(.slice none 0 0)]] [[v2]] [[.int .u32 0]] (own_cell hI (j := 1) rfl) rfl rfl rfl rfl).trans ((fill_seg [av .u8 32 r2.Tx, [.int .u32 r2.N], [v2]] [[.int .u32 0]] [[.int .u32 4294967295]] [] rfl rfl rfl rfl rfl).trans (rfl))))) rfl fun a hA => ?_
        refine o_nil <| ⟨(.inr (hI.sl [1, 3] rfl)), ?_⟩
        refine gF 3 rfl ?_
        obtain ⟨μ2, hle2, hsv2, hI, hth1⟩ := hI.freezeRowT 1 rfl
        have hS1 : Slc (RI .u8) 1 μ2 v2 (r1 ++ x3) := ⟨_, hE3, hsv2⟩
        have hE5 : Els (RIn μ2) 35 ([(⟨r2, r1 ++ x3, 4294967295⟩ : In)] : List In) _ := (Els.cons (c := [av .u8 32 r2.Tx, [.int .u32 r2.N], [v2], [.int .u32 4294967295]].flatten) ⟨v2, rfl, ⟨hz3.1, hz3.2, hS1, (in_lit .u32 4294967295 rfl)⟩⟩ rfl Els.nil)
        refine o_bsl ([av .u8 32 r2.Tx, [.int .u32 r2.N], [v2], [.int .u32 4294967295]].flatten ++ ([])) te42 zr42 Tryd.underlying29 hI hA rfl rfl rfl rfl (by kernel_rfl) rfl fun g4 a w hA hI => ?_
        generalize hcs : ([av .u8 32 r2.Tx, [.int .u32 r2.N], [v2], [.int .u32 4294967295]].flatten ++ ([]) : List Value) = cs5 at hE5 hI
        clear hcs
        refine o_nil <| ⟨(.inr ((hth1 _ _ hI).sl [0, 4] rfl)), ?_⟩
        refine gF 8 rfl ?_
        refine stp hA (r_bldS (cs := [[.int .u32 1], [(.slice (some ⟨g4, 0, none⟩) 1 1)], [(.slice (some ⟨g3, 0, none⟩) 1 1)], [.int .u32 0]].flatten.toArray) (pl := [(0, 1), (1, 1), (2, 1), (3, 1)]) zr32 Tryd.underlying32 ⟨rfl, sz24, rfl, sz29, rfl, sz30, rfl, sz24, trivial⟩ hA rfl ((fill_one rfl rfl (by kernel_rfl)).trans ((fill_one (own_cell hI (j := 0) rfl) rfl (by kernel_rfl)).trans ((fill_one (own_cell hI (j := 1) rfl) rfl (by kernel_rfl)).trans (by kernel_rfl))))) rfl fun a hA => ?_
        refine o_nil <| ⟨(.inr ((hth1 _ _ hI).sl [0, 4] rfl)), ?_⟩
        refine gF 9 rfl ?_
        refine o_st (j := 2) [] [[.int .u32 0], [(.slice none 0 0)], [(.slice none 0 0)], [.int .u32 0]] [[.int .u32 1], [(.slice (some ⟨g4, 0, none⟩) 1 1)], [(.slice (some ⟨g3, 0, none⟩) 1 1)], [.int .u32 0]] [] sz32 rfl rfl (fl_cons (one_one rfl) (fl_cons (one_one (own_one hI (j := 0) rfl)) (fl_cons (one_one (own_one hI (j := 1) rfl)) (fl_cons (one_one rfl) fl_nil)))) hI rfl hA rfl rfl rfl rfl fun w hI => ?_
        refine o_nil <| ⟨(.inr ((hth1 _ _ hI).sl [0, 4] rfl)), ?_⟩
        refine gN ?_
        cases sJ H
        exact ⟨μ2, v2, (.slice (some ⟨g4, 0, none⟩) 1 1), cs5, (.slice (some ⟨g3, 0, none⟩) 1 1), cs4, hle2, hS1, (in_lit .u32 1 rfl), hE5, hE4, hA.sub ⟨rfl, rfl, trivial⟩, hI⟩
  · rintro a w ⟨μ1, vvc1, vvc3, ccc3, vvc4, ccc4, hle1, wc1, wc2, wc3, wc4, hA, hI⟩
    have H := Hk1
    refine w_ret ?_
    obtain ⟨μ3, hle3, hsv3, hI⟩ := hI.freezeRow 0 rfl
    have hS2 : Slc (RIn μ3) 35 μ3 vvc3 c3 := ⟨_, (Els.mono wc3 (fun _ _ h => RIn.le hle3 h)), hsv3⟩
    obtain ⟨μ4, hle4, hsv4, hI⟩ := hI.freezeRow 0 rfl
    have hS3 : Slc (ROut μ4) 33 μ4 vvc4 c4 := ⟨_, wc4, hsv4⟩
    obtain rfl := sJ H
    exact retc Tryd.underlying32 rfl sz32 rfl hI (j := 0) rfl hA Tryd.results12 rfl ⟨_, rfl, vvc3, vvc4, μ4, rfl, ⟨wc2, (Slc.le hS2 (fun _ _ h => RIn.le hle4 h) hle4), hS3, (in_lit .u32 0 rfl)⟩, (hI.sl [] rfl)⟩
set_option maxRecDepth 20000 in
theorem sargassoref1_TxBytes.c (μ : Store) (w0 : World) (hμ : Agr μ w0) (x0 : Tx) (u0_0 : Value) (u0_1 : Value) (hx0 : TxW μ x0 u0_0 u0_1) (r : List Int) (H : sargassoref1_TxBytes.f x0 = some r) :
    Calls Tryd.prog 75 [.agg [[.int .u32 x0.Version], [u0_0], [u0_1], [.int .u32 x0.Time]].flatten.toArray].toArray w0 (fun e w' => ∃ v, e = .returned v ∧ ∃ (v0 : Value) (c0 : List Value), v = v0 ∧ Els (RI .u8) 1 r c0 ∧ Iv w0 [] μ μ [row 5 1 v0 r.length c0] w') := by
  refine enter Tryd.func75 rfl Tryd.ntmps75 rfl fun a hA => ?_
  have hI := Iv.start hμ
  have H := bI H
  refine w_seq fun _ hN1 => w_reg <| o_box [[.int .u32 x0.Version], [u0_0], [u0_1], [.int .u32 x0.Time]] hI hA rfl rfl rfl fun g1 a w hA hI hg1 => 
    sta hA rfl rfl fun a hA => ?_
  refine o_nil <| hN1 _ _ <| w_seq fun _ hN2 => ?_
  refine w_anyS [] mo (fun w (h : Iv w0 [] μ μ [cel g1 [[.int .u32 x0.Version], [u0_0], [u0_1], [.int .u32 x0.Time]] 32] w) => (h.sl [0] rfl : Iv w0 [] μ μ [cel g1 [[.int .u32 x0.Version], [u0_0], [u0_1], [.int .u32 x0.Time]] 32] w)) hI fun w hI => ?_
  refine gE 0 hA rfl (.inr hI) (fun _ => r_fd (k := 0) Tryd.underlying32 rfl sz24 hA rfl rfl) fun a hA => ?_
  refine gT 1 hA rfl hI (fun w hI => r_ld1 (j := 0) [] [[u0_0], [u0_1], [.int .u32 x0.Time]] Tryd.underlying24 rfl hI rfl hA rfl rfl) fun a hA => ?_
  refine gE 3 hA rfl (.inr hI) (fun _ => r_fd (k := 1) Tryd.underlying32 rfl sz29 hA rfl rfl) fun a hA => ?_
  refine gT 4 hA rfl hI (fun w hI => r_ld1 (j := 0) [[.int .u32 x0.Version]] [[u0_1], [.int .u32 x0.Time]] Tryd.underlying29 rfl hI rfl hA rfl rfl) fun a hA => ?_
  obtain ⟨_, hsl1⟩ := Slc.sv hx0.2.1
  refine gE 5 hA rfl (.inr hI) (fun _ => r_slen Tryd.underlying29 hsl1 hA rfl) fun a hA => ?_
  refine gE 6 hA rfl (.inr hI) (fun _ => r_conv Tryd.underlying3 Tryd.underlying34 hA rfl) fun a hA => ?_
  refine gF 2 rfl ?_
  have hI := hI.nilRow 5 1
  obtain ⟨r1, hr1, H⟩ := bB H
  refine o_call _ cf49 hA rfl (sargassoref1_Four.c μ _ hI.agr ([]) (.slice none 0 0) ([]) (Els.nil (RE := (RI .u8)) (sz := 1)) (hI.item (j := 0) rfl) x0.Version hx0.1 r1 hr1) rfl fun v1 a w hz1 hA => ?_
  obtain ⟨_, cs1, rfl, hE1, hi1⟩ := hz1
  have hI := hI.call1 0 rfl hi1
  refine o_nil <| ⟨(.inr (hI.sl [1] rfl)), ?_⟩
  refine gF 7 rfl ?_
  obtain ⟨r2, hr2, H⟩ := bB H
  refine o_call _ cf98 hA rfl (sargassoref1_Put.c μ _ hI.agr r1 v1 cs1 hE1 (hI.item (j := 0) rfl) (IntKind.u64.wrap (x0.Ins.length : Int)) (wrap_in _ _) r2 hr2) rfl fun v2 a w hz2 hA => ?_
  obtain ⟨_, cs2, rfl, hE2, hi2⟩ := hz2
  have hI := hI.call1 0 rfl hi2
  refine o_nil <| ⟨(.inr (hI.sl [1] rfl)), ?_⟩
  refine gE 8 hA rfl (.inr (hI.sl [1] rfl)) (fun _ => r_as hA rfl) fun a hA => ?_
  refine gN <| hN2 _ _ ?_
  obtain ⟨c1, hz3, Hk1⟩ := bB H
  refine w_cut (fun a w => ∃ (vvc1 : Value) (ccc1 : List Value), Els (RI .u8) 1 c1 ccc1 ∧ Fr a 81 [(1, .pointer (some ⟨g1, 0, none⟩)), (2, (.slice none 0 0)), (3, vvc1)] ∧ Iv w0 [] μ μ [row 5 1 vvc1 c1.length ccc1, cel g1 [[.int .u32 x0.Version], [u0_0], [u0_1], [.int .u32 x0.Time]] 32] w) ?_ ?_
  · have H := bI hz3
    refine w_seq fun _ hN3 => w_reg <| sta hA rfl rfl fun a hA => ?_
    refine o_nil <| hN3 _ _ <| w_block ?_
    obtain ⟨z1, hz4, Hk2⟩ := bind_some H
    obtain ⟨n1, hn1⟩ := loopO_some hz4
    refine w_loop (fun n a w => ∃ (s1 : List Int) (s2 : Int) (vvs1 : Value) (ccs1 : List Value), loopN (sargassoref1_TxBytes.s0 x0) n (s1, s2) = some z1 ∧ Els (RI .u8) 1 s1 ccs1 ∧ InR .i64 s2 ∧ Fr a 81 [(1, .pointer (some ⟨g1, 0, none⟩)), (2, (.slice none 0 0)), (3, vvs1), (4, .int .i64 s2)] ∧ Iv w0 [] μ μ [row 5 1 vvs1 s1.length ccs1, cel g1 [[.int .u32 x0.Version], [u0_0], [u0_1], [.int .u32 x0.Time]] 32] w) n1 ⟨r2, 0, v2, cs2, hn1, hE2, (in_lit .i64 0 rfl), hA.sub ⟨rfl, rfl, rfl, rfl, trivial⟩, hI⟩ ?_
    clear hA hI
    rintro n a w ⟨s1, s2, vvs1, ccs1, hn1, ws1, ws2, hA, hI⟩
    obtain ⟨m1, rfl, H⟩ := loopN_bind hn1
    clear hn1
    refine w_seq fun _ hN4 => w_seq fun _ hN5 => w_reg <| stm hA rfl rfl fun a hA => 
      stp hA (r_fd (k := 1) Tryd.underlying32 rfl sz29 hA rfl rfl) rfl fun a hA => 
      stp hA (r_ld1 (j := 1) [[.int .u32 x0.Version]] [[u0_1], [.int .u32 x0.Time]] Tryd.underlying29 rfl hI rfl hA rfl rfl) rfl fun a hA => ?_
    obtain ⟨_, hsl2⟩ := Slc.sv hx0.2.1
    refine stp hA (r_slen Tryd.underlying29 hsl2 hA rfl) rfl fun a hA => 
      stp hA (r_lss hA rfl rfl) rfl fun a hA => ?_
    refine o_nil <| hN5 _ _ <| w_cond hA rfl (fun hc1 => ?_) (fun hc1 => ?_)
    · obtain ⟨hc1, H⟩ := dT H hc1
      refine w_skip <| hN4 _ _ <| w_seq fun _ hN6 => w_block <| w_seq fun _ hN7 => w_reg <| stp hA (r_fd (k := 1) Tryd.underlying32 rfl sz29 hA rfl rfl) rfl fun a hA => 
        stp hA (r_ld1 (j := 1) [[.int .u32 x0.Version]] [[u0_1], [.int .u32 x0.Time]] Tryd.underlying29 rfl hI rfl hA rfl rfl) rfl fun a hA => 
        stm hA rfl rfl fun a hA => ?_
      obtain ⟨hb1, H⟩ := bG H
      obtain ⟨_, he1, _, hat1⟩ := Slc.elem hx0.2.1 (getD_some default hb1.1 hb1.2)
      obtain ⟨v3, rfl, hw1⟩ := he1
      obtain ⟨_, hsl3⟩ := Slc.sv hx0.2.1
      refine stp hA (r_six Tryd.underlying29 sz42 hsl3 hA rfl rfl hb1.1 hb1.2) rfl fun a hA => 
        stp hA (r_ldmA [] [av .u8 32 ((x0.Ins.getD s2.toNat default).From.Tx), [.int .u32 ((x0.Ins.getD s2.toNat default).From.N)], [v3], [.int .u32 ((x0.Ins.getD s2.toNat default).Seq)]] [] Tryd.underlying42 rfl sz42 rfl hI.agr hat1 hA rfl rfl) rfl fun a hA => 
        o_new [av .u8 32 (List.replicate 32 0), [.int .u32 0], [(.slice none 0 0)], [.int .u32 0]] zr42 hI hA rfl fun g2 a w hA hI hg2 => ?_
      obtain ⟨_, hsl4⟩ := Slc.sv hw1.2.2.1
      refine o_st (j := 0) [] [av .u8 32 (List.replicate 32 0), [.int .u32 0], [(.slice none 0 0)], [.int .u32 0]] [av .u8 32 ((x0.Ins.getD s2.toNat default).From.Tx), [.int .u32 ((x0.Ins.getD s2.toNat default).From.N)], [v3], [.int .u32 ((x0.Ins.getD s2.toNat default).Seq)]] [] sz42 rfl rfl (fl_cons (one_av _ _ _) (fl_cons (one_one rfl) (fl_cons (one_one (one_sl hsl4)) (fl_cons (one_one rfl) fl_nil)))) hI rfl hA rfl rfl rfl rfl fun w hI => ?_
      refine o_nil <| hN7 _ _ <| w_seq fun _ hN8 => w_reg <| stm hA rfl rfl fun a hA => 
        stp hA (r_fd (k := 0) Tryd.underlying42 rfl sz39 hA rfl rfl) rfl fun a hA => 
        stp hA (r_fd (k := 0) Tryd.underlying39 rfl sz26 hA rfl rfl) rfl fun a hA => 
        stp hA (r_slv (i := 0) (j := 32) Tryd.underlying26 sz5 hA rfl rfl rfl (by decide) (by decide) (by decide) (by decide) rfl) rfl fun a hA => ?_
      have hE3 := els_av hw1.1
      obtain ⟨hb2, H⟩ := bG H
      have hE4 := ws1.app hE3
      refine o_appG (xs := (s1 : List Int)) (ys := ((x0.Ins.getD s2.toNat default).From.Tx : List Int)) (M := 140737488355328) 1 te5 Tryd.underlying40 hI rfl hA rfl rfl (by simpa using src_cel [] [[.int .u32 ((x0.Ins.getD s2.toNat default).From.N)], [v3], [.int .u32 ((x0.Ins.getD s2.toNat default).Seq)]] hI (j := 0) rfl hw1.1 rfl) hE3.len (hE3.ones (one_RI _)) hb2 rfl fun v4 a w hA hI => 
        sta hA rfl rfl fun a hA => ?_
      refine o_nil <| hN8 _ _ <| w_seq fun _ hN9 => ?_
      refine w_anyS [] mo (fun w (h : Iv w0 [] μ μ [cel g2 [av .u8 32 ((x0.Ins.getD s2.toNat default).From.Tx), [.int .u32 ((x0.Ins.getD s2.toNat default).From.N)], [v3], [.int .u32 ((x0.Ins.getD s2.toNat default).Seq)]] 42, row 5 1 v4 (s1 ++ ((x0.Ins.getD s2.toNat default).From.Tx)).length (ccs1 ++ ([av .u8 32 ((x0.Ins.getD s2.toNat default).From.Tx)].flatten)), cel g1 [[.int .u32 x0.Version], [u0_0], [u0_1], [.int .u32 x0.Time]] 32] w) => (h.sl [0, 2] rfl : Iv w0 [] μ μ [cel g2 [av .u8 32 ((x0.Ins.getD s2.toNat default).From.Tx), [.int .u32 ((x0.Ins.getD s2.toNat default).From.N)], [v3], [.int .u32 ((x0.Ins.getD s2.toNat default).Seq)]] 42, cel g1 [[.int .u32 x0.Version], [u0_0], [u0_1], [.int .u32 x0.Time]] 32] w)) hI fun w hI => ?_
      refine gE 0 hA rfl (.inr (hI.sl [0, 2] rfl)) (fun _ => r_mv hA rfl) fun a hA => ?_
      refine gE 1 hA rfl (.inr (hI.sl [0, 2] rfl)) (fun _ => r_fd (k := 0) Tryd.underlying42 rfl sz39 hA rfl rfl) fun a hA => ?_
      refine gE 2 hA rfl (.inr (hI.sl [0, 2] rfl)) (fun _ => r_fd (k := 32) Tryd.underlying39 rfl sz24 hA rfl rfl) fun a hA => ?_
      refine gT 3 hA rfl (hI.sl [0, 2] rfl) (fun w hI => r_ld1 (j := 0) [av .u8 32 ((x0.Ins.getD s2.toNat default).From.Tx)] [[v3], [.int .u32 ((x0.Ins.getD s2.toNat default).Seq)]] Tryd.underlying24 rfl hI rfl hA rfl rfl) fun a hA => ?_
      refine gE 5 hA rfl (.inr (hI.sl [0, 2] rfl)) (fun _ => r_fd (k := 33) Tryd.underlying42 rfl sz40 hA rfl rfl) fun a hA => ?_
      refine gT 6 hA rfl (hI.sl [0, 2] rfl) (fun w hI => r_ld1 (j := 0) [av .u8 32 ((x0.Ins.getD s2.toNat default).From.Tx), [.int .u32 ((x0.Ins.getD s2.toNat default).From.N)]] [[.int .u32 ((x0.Ins.getD s2.toNat default).Seq)]] Tryd.underlying40 rfl hI rfl hA rfl rfl) fun a hA => ?_
      obtain ⟨_, hsl5⟩ := Slc.sv hw1.2.2.1
      refine gE 7 hA rfl (.inr (hI.sl [0, 2] rfl)) (fun _ => r_slen Tryd.underlying40 hsl5 hA rfl) fun a hA => ?_
      refine gE 8 hA rfl (.inr (hI.sl [0, 2] rfl)) (fun _ => r_conv Tryd.underlying3 Tryd.underlying34 hA rfl) fun a hA => ?_
      refine gF 4 rfl ?_
      obtain ⟨r3, hr3, H⟩ := bB H
      refine o_call _ cf49 hA rfl (sargassoref1_Four.c μ _ hI.agr (s1 ++ ((x0.Ins.getD s2.toNat default).From.Tx)) v4 (ccs1 ++ ([av .u8 32 ((x0.Ins.getD s2.toNat default).From.Tx)].flatten)) hE4 (hI.item (j := 1) rfl) ((x0.Ins.getD s2.toNat default).From.N) hw1.2.1 r3 hr3) rfl fun v5 a w hz5 hA => ?_
      obtain ⟨_, cs5, rfl, hE5, hi3⟩ := hz5
      have hI := hI.call1 1 rfl hi3
      refine o_nil <| ⟨(.inr (hI.sl [1, 2] rfl)), ?_⟩
      refine gF 9 rfl ?_
      obtain ⟨r4, hr4, H⟩ := bB H
      refine o_call _ cf98 hA rfl (sargassoref1_Put.c μ _ hI.agr r3 v5 cs5 hE5 (hI.item (j := 0) rfl) (IntKind.u64.wrap (((x0.Ins.getD s2.toNat default).Key).length : Int)) (wrap_in _ _) r4 hr4) rfl fun v6 a w hz6 hA => ?_
      obtain ⟨_, cs6, rfl, hE6, hi4⟩ := hz6
      have hI := hI.call1 0 rfl hi4
      refine o_nil <| ⟨(.inr (hI.sl [1, 2] rfl)), ?_⟩
      refine gE 10 hA rfl (.inr (hI.sl [1, 2] rfl)) (fun _ => r_as hA rfl) fun a hA => ?_
      refine gN <| hN9 _ _ ?_
      refine w_anyS [] mo (fun w (h : Iv w0 [] μ μ [row 5 1 v6 r4.length cs6, cel g2 [av .u8 32 ((x0.Ins.getD s2.toNat default).From.Tx), [.int .u32 ((x0.Ins.getD s2.toNat default).From.N)], [v3], [.int .u32 ((x0.Ins.getD s2.toNat default).Seq)]] 42, cel g1 [[.int .u32 x0.Version], [u0_0], [u0_1], [.int .u32 x0.Time]] 32] w) => (h.sl [1, 2] rfl : Iv w0 [] μ μ [cel g2 [av .u8 32 ((x0.Ins.getD s2.toNat default).From.Tx), [.int .u32 ((x0.Ins.getD s2.toNat default).From.N)], [v3], [.int .u32 ((x0.Ins.getD s2.toNat default).Seq)]] 42, cel g1 [[.int .u32 x0.Version], [u0_0], [u0_1], [.int .u32 x0.Time]] 32] w)) hI fun w hI => ?_
      refine gE 0 hA rfl (.inr (hI.sl [1, 2] rfl)) (fun _ => r_mv hA rfl) fun a hA => ?_
      refine gE 1 hA rfl (.inr (hI.sl [1, 2] rfl)) (fun _ => r_fd (k := 33) Tryd.underlying42 rfl sz40 hA rfl rfl) fun a hA => ?_
      refine gT 2 hA rfl (hI.sl [1, 2] rfl) (fun w hI => r_ld1 (j := 0) [av .u8 32 ((x0.Ins.getD s2.toNat default).From.Tx), [.int .u32 ((x0.Ins.getD s2.toNat default).From.N)]] [[.int .u32 ((x0.Ins.getD s2.toNat default).Seq)]] Tryd.underlying40 rfl hI rfl hA rfl rfl) fun a hA => ?_
      refine gE 4 hA rfl (.inr (hI.sl [1, 2] rfl)) (fun _ => r_fd (k := 34) Tryd.underlying42 rfl sz24 hA rfl rfl) fun a hA => ?_
      refine gT 5 hA rfl (hI.sl [1, 2] rfl) (fun w hI => r_ld1 (j := 0) [av .u8 32 ((x0.Ins.getD s2.toNat default).From.Tx), [.int .u32 ((x0.Ins.getD s2.toNat default).From.N)], [v3]] [] Tryd.underlying24 rfl hI rfl hA rfl rfl) fun a hA => ?_
      refine gF 3 rfl ?_
      obtain ⟨cs7, hE7, hsv2⟩ : Slc (RI .u8) 1 μ v3 ((x0.Ins.getD s2.toNat default).Key) := id (hw1.2.2.1)
      obtain ⟨hb3, H⟩ := bG H
      have hE8 := hE6.app hE7
      refine o_appG (xs := (r4 : List Int)) (ys := ((x0.Ins.getD s2.toNat default).Key : List Int)) (M := 140737488355328) 0 te5 Tryd.underlying40 hI rfl hA rfl rfl (src_sl hI.agr hsv2 hE7.len) hE7.len (hE7.ones (one_RI _)) hb3 rfl fun v7 a w hA hI => ?_
      refine o_nil <| ⟨(.inr (hI.sl [1, 2] rfl)), ?_⟩
      refine gF 6 rfl ?_
      obtain ⟨r5, hr5, H⟩ := bB H
      refine o_call _ cf49 hA rfl (sargassoref1_Four.c μ _ hI.agr (r4 ++ ((x0.Ins.getD s2.toNat default).Key)) v7 (cs6 ++ cs7) hE8 (hI.item (j := 0) rfl) ((x0.Ins.getD s2.toNat default).Seq) hw1.2.2.2 r5 hr5) rfl fun v8 a w hz7 hA => ?_
      obtain ⟨_, cs9, rfl, hE9, hi5⟩ := hz7
      have hI := hI.call1 0 rfl hi5
      refine o_nil <| ⟨(.inr (hI.sl [1, 2] rfl)), ?_⟩
      refine gE 7 hA rfl (.inr (hI.sl [1, 2] rfl)) (fun _ => r_as hA rfl) fun a hA => ?_
      refine gN <| hN6 _ _ <| w_reg <| stm hA rfl rfl fun a hA => 
        stp hA (r_add hA rfl rfl) rfl fun a hA => 
        sta hA rfl rfl fun a hA => ?_
      refine o_nil <| ⟨m1, Nat.lt_succ_self _, r5, IntKind.i64.wrap (s2 + 1), v8, cs9, H, hE9, (wrap_in _ _), hA.sub ⟨rfl, rfl, rfl, rfl, trivial⟩, (hI.sl [0, 2] rfl)⟩
    · obtain ⟨hc1, H⟩ := dF H hc1
      refine w_exit rfl ?_
      have H : some s1 = some z1 := H
      obtain rfl := sI H
      have H := Hk2
      cases sJ H
      exact ⟨vvs1, ccs1, ws1, hA.sub ⟨rfl, rfl, rfl, trivial⟩, hI⟩
  · rintro a w ⟨vvc1, ccc1, wc1, hA, hI⟩
    have H := Hk1
    refine w_seq fun _ hN10 => w_reg <| stm hA rfl rfl fun a hA => 
      stp hA (r_fd (k := 2) Tryd.underlying32 rfl sz30 hA rfl rfl) rfl fun a hA => 
      stp hA (r_ld1 (j := 1) [[.int .u32 x0.Version], [u0_0]] [[.int .u32 x0.Time]] Tryd.underlying30 rfl hI rfl hA rfl rfl) rfl fun a hA => ?_
    obtain ⟨_, hsl6⟩ := Slc.sv hx0.2.2.1
    refine stp hA (r_slen Tryd.underlying30 hsl6 hA rfl) rfl fun a hA => 
      stp hA (r_conv Tryd.underlying3 Tryd.underlying34 hA rfl) rfl fun a hA => ?_
    obtain ⟨r6, hr6, H⟩ := bB H
    refine o_call _ cf98 hA rfl (sargassoref1_Put.c μ _ hI.agr c1 vvc1 ccc1 wc1 (hI.item (j := 0) rfl) (IntKind.u64.wrap (x0.Outs.length : Int)) (wrap_in _ _) r6 hr6) rfl fun v9 a w hz8 hA => ?_
    obtain ⟨_, cs10, rfl, hE10, hi6⟩ := hz8
    have hI := hI.call1 0 rfl hi6
    refine sta hA rfl rfl fun a hA => ?_
    refine o_nil <| hN10 _ _ ?_
    obtain ⟨c2, hz9, Hk3⟩ := bB H
    refine w_cut (fun a w => ∃ (vvc2 : Value) (ccc2 : List Value), Els (RI .u8) 1 c2 ccc2 ∧ Fr a 81 [(1, .pointer (some ⟨g1, 0, none⟩)), (2, (.slice none 0 0)), (3, vvc2)] ∧ Iv w0 [] μ μ [row 5 1 vvc2 c2.length ccc2, cel g1 [[.int .u32 x0.Version], [u0_0], [u0_1], [.int .u32 x0.Time]] 32] w) ?_ ?_
    · have H := bI hz9
      refine w_seq fun _ hN11 => w_reg <| sta hA rfl rfl fun a hA => ?_
      refine o_nil <| hN11 _ _ <| w_block ?_
      obtain ⟨z2, hz10, Hk4⟩ := bind_some H
      obtain ⟨n2, hn2⟩ := loopO_some hz10
      refine w_loop (fun n a w => ∃ (s3 : List Int) (s4 : Int) (vvs3 : Value) (ccs3 : List Value), loopN (sargassoref1_TxBytes.s1 x0) n (s3, s4) = some z2 ∧ Els (RI .u8) 1 s3 ccs3 ∧ InR .i64 s4 ∧ Fr a 81 [(1, .pointer (some ⟨g1, 0, none⟩)), (2, (.slice none 0 0)), (3, vvs3), (6, .int .i64 s4)] ∧ Iv w0 [] μ μ [row 5 1 vvs3 s3.length ccs3, cel g1 [[.int .u32 x0.Version], [u0_0], [u0_1], [.int .u32 x0.Time]] 32] w) n2 ⟨r6, 0, v9, cs10, hn2, hE10, (in_lit .i64 0 rfl), hA.sub ⟨rfl, rfl, rfl, rfl, trivial⟩, hI⟩ ?_
      clear hA hI
      rintro n a w ⟨s3, s4, vvs3, ccs3, hn2, ws3, ws4, hA, hI⟩
      obtain ⟨m2, rfl, H⟩ := loopN_bind hn2
      clear hn2
      refine w_seq fun _ hN12 => w_seq fun _ hN13 => w_reg <| stm hA rfl rfl fun a hA => 
        stp hA (r_fd (k := 2) Tryd.underlying32 rfl sz30 hA rfl rfl) rfl fun a hA => 
        stp hA (r_ld1 (j := 1) [[.int .u32 x0.Version], [u0_0]] [[.int .u32 x0.Time]] Tryd.underlying30 rfl hI rfl hA rfl rfl) rfl fun a hA => ?_
      obtain ⟨_, hsl7⟩ := Slc.sv hx0.2.2.1
      refine stp hA (r_slen Tryd.underlying30 hsl7 hA rfl) rfl fun a hA => 
        stp hA (r_lss hA rfl rfl) rfl fun a hA => ?_
      refine o_nil <| hN13 _ _ <| w_cond hA rfl (fun hc2 => ?_) (fun hc2 => ?_)
      · obtain ⟨hc2, H⟩ := dT H hc2
        refine w_skip <| hN12 _ _ <| w_seq fun _ hN14 => w_block ?_
        refine w_anyS [] mo (fun w (h : Iv w0 [] μ μ [row 5 1 vvs3 s3.length ccs3, cel g1 [[.int .u32 x0.Version], [u0_0], [u0_1], [.int .u32 x0.Time]] 32] w) => (h.sl [1] rfl : Iv w0 [] μ μ [cel g1 [[.int .u32 x0.Version], [u0_0], [u0_1], [.int .u32 x0.Time]] 32] w)) hI fun w hI => ?_
        refine gE 0 hA rfl (.inr (hI.sl [1] rfl)) (fun _ => r_mv hA rfl) fun a hA => ?_
        refine gE 1 hA rfl (.inr (hI.sl [1] rfl)) (fun _ => r_fd (k := 2) Tryd.underlying32 rfl sz30 hA rfl rfl) fun a hA => ?_
        refine gT 2 hA rfl (hI.sl [1] rfl) (fun w hI => r_ld1 (j := 0) [[.int .u32 x0.Version], [u0_0]] [[.int .u32 x0.Time]] Tryd.underlying30 rfl hI rfl hA rfl rfl) fun a hA => ?_
        refine gE 3 hA rfl (.inr (hI.sl [1] rfl)) (fun _ => r_mv hA rfl) fun a hA => ?_
        obtain ⟨hb4, H⟩ := bG H
        obtain ⟨_, he2, _, hat2⟩ := Slc.elem hx0.2.2.1 (getD_some default hb4.1 hb4.2)
        obtain ⟨rfl, hw2⟩ := he2
        obtain ⟨_, hsl8⟩ := Slc.sv hx0.2.2.1
        refine gE 4 hA rfl (.inr (hI.sl [1] rfl)) (fun _ => r_six Tryd.underlying30 sz44 hsl8 hA rfl rfl hb4.1 hb4.2) fun a hA => ?_
        refine gE 5 hA rfl (.inr (hI.sl [1] rfl)) (fun _ => r_fd (k := so u0_1 + s4.toNat * 33) Tryd.underlying44 rfl sz34 hA rfl rfl) fun a hA => ?_
        refine gT 6 hA rfl (hI.sl [1] rfl) (fun w hI => r_ldm1 [] [av .u8 32 ((x0.Outs.getD s4.toNat default).Lock)] Tryd.underlying34 rfl hI.agr hat2 hA rfl rfl) fun a hA => ?_
        refine gE 8 hA rfl (.inr (hI.sl [1] rfl)) (fun _ => r_fd (k := 2) Tryd.underlying32 rfl sz30 hA rfl rfl) fun a hA => ?_
        refine gT 9 hA rfl (hI.sl [1] rfl) (fun w hI => r_ld1 (j := 0) [[.int .u32 x0.Version], [u0_0]] [[.int .u32 x0.Time]] Tryd.underlying30 rfl hI rfl hA rfl rfl) fun a hA => ?_
        refine gE 10 hA rfl (.inr (hI.sl [1] rfl)) (fun _ => r_mv hA rfl) fun a hA => ?_
        refine gE 11 hA rfl (.inr (hI.sl [1] rfl)) (fun _ => r_six Tryd.underlying30 sz44 hsl8 hA rfl rfl hb4.1 hb4.2) fun a hA => ?_
        refine gE 12 hA rfl (.inr (hI.sl [1] rfl)) (fun _ => r_fd (k := so u0_1 + s4.toNat * 33 + 1) Tryd.underlying44 rfl sz26 hA rfl rfl) fun a hA => ?_
        obtain ⟨v10, hS1, hr7⟩ := r_sla (b := 0) (P := Tryd.prog) (t := 26) (x := .tmp 74) (l := none) (h := none) (i := 0) (j := 32) Tryd.underlying26 sz5 (at_in [[.int .u64 ((x0.Outs.getD s4.toNat default).Value)]] [av .u8 32 ((x0.Outs.getD s4.toNat default).Lock)] [] hat2 rfl) hw2.2 (by decide) hA rfl rfl rfl (by omega) (by omega) (by omega)
        refine gE 13 hA rfl (.inr (hI.sl [1] rfl)) (fun _ => hr7 _ _ _ _ _ _) fun a hA => ?_
        refine gF 7 rfl ?_
        obtain ⟨r7, hr8, H⟩ := bB H
        refine o_call _ cf99 hA rfl (sargassoref1_Eight.c μ _ hI.agr s3 vvs3 ccs3 ws3 (hI.item (j := 0) rfl) ((x0.Outs.getD s4.toNat default).Value) hw2.1 r7 hr8) rfl fun v11 a w hz11 hA => ?_
        obtain ⟨_, cs11, rfl, hE11, hi7⟩ := hz11
        have hI := hI.call1 0 rfl hi7
        refine o_nil <| ⟨(.inr (hI.sl [1] rfl)), ?_⟩
        refine gF 14 rfl ?_
        obtain ⟨cs12, hE12, hsv3⟩ : Slc (RI .u8) 1 μ v10 ((((x0.Outs.getD s4.toNat default).Lock).take (32 : Int).toNat).drop (0 : Int).toNat) := id (hS1)
        obtain ⟨hb5, H⟩ := bG H
        have hE13 := hE11.app hE12
        refine o_appG (xs := (r7 : List Int)) (ys := ((((x0.Outs.getD s4.toNat default).Lock).take (32 : Int).toNat).drop (0 : Int).toNat : List Int)) (M := 140737488355328) 0 te5 Tryd.underlying40 hI rfl hA rfl rfl (src_sl hI.agr hsv3 hE12.len) hE12.len (hE12.ones (one_RI _)) hb5 rfl fun v12 a w hA hI => ?_
        refine o_nil <| ⟨(.inr (hI.sl [1] rfl)), ?_⟩
        refine gE 15 hA rfl (.inr (hI.sl [1] rfl)) (fun _ => r_as hA rfl) fun a hA => ?_
        refine gN <| hN14 _ _ <| w_reg <| stm hA rfl rfl fun a hA => 
          stp hA (r_add hA rfl rfl) rfl fun a hA => 
          sta hA rfl rfl fun a hA => ?_
        refine o_nil <| ⟨m2, Nat.lt_succ_self _, r7 ++ ((((x0.Outs.getD s4.toNat default).Lock).take (32 : Int).toNat).drop (0 : Int).toNat), IntKind.i64.wrap (s4 + 1), v12, cs11 ++ cs12, H, hE13, (wrap_in _ _), hA.sub ⟨rfl, rfl, rfl, rfl, trivial⟩, hI⟩
      · obtain ⟨hc2, H⟩ := dF H hc2
        refine w_exit rfl ?_
        have H : some s3 = some z2 := H
        obtain rfl := sI H
        have H := Hk4
        cases sJ H
        exact ⟨vvs3, ccs3, ws3, hA.sub ⟨rfl, rfl, rfl, trivial⟩, hI⟩
    · rintro a w ⟨vvc2, ccc2, wc2, hA, hI⟩
      have H := Hk3
      refine w_seq fun _ hN15 => w_reg <| stm hA rfl rfl fun a hA => 
        stp hA (r_fd (k := 3) Tryd.underlying32 rfl sz24 hA rfl rfl) rfl fun a hA => 
        stp hA (r_ld1 (j := 1) [[.int .u32 x0.Version], [u0_0], [u0_1]] [] Tryd.underlying24 rfl hI rfl hA rfl rfl) rfl fun a hA => ?_
      obtain ⟨r8, hr9, H⟩ := bB H
      refine o_call _ cf49 hA rfl (sargassoref1_Four.c μ _ hI.agr c2 vvc2 ccc2 wc2 (hI.item (j := 0) rfl) x0.Time hx0.2.2.2 r8 hr9) rfl fun v13 a w hz12 hA => ?_
      obtain ⟨_, cs14, rfl, hE14, hi8⟩ := hz12
      have hI := hI.call1 0 rfl hi8
      refine sta hA rfl rfl fun a hA => ?_
      refine o_nil <| hN15 _ _ <| w_ret ?_
      obtain rfl := sJ H
      exact ret1 hA Tryd.results75 rfl ⟨_, rfl, v13, cs14, rfl, hE14, ((hI.sl [0] rfl).less (Store.le.refl _) hI.le)⟩
set_option maxRecDepth 20000 in
theorem slices_Clone_api_In_api_In.c (μ : Store) (w0 : World) (hμ : Agr μ w0) (x0 : List In) (u0 : Value) (hx0 : Slc (RIn μ) 35 μ u0 x0) (r : List In) (H : slices_Clone_api_In_api_In.f x0 = some r) :
    Calls Tryd.prog 130 [u0].toArray w0 (fun e w' => ∃ v, e = .returned v ∧ ∃ (v0 : Value) (c0 : List Value) (μ' : Store), v = v0 ∧ Els (RIn μ') 35 r c0 ∧ Iv w0 [] μ μ' [row 42 35 v0 r.length c0] w') := by
  obtain ⟨hb, H⟩ := guard_some H
  obtain rfl := sI H
  obtain ⟨cs, hE, A, cp, rfl, h2, h3, h4, h5⟩ := hx0
  refine enter Tryd.func130 rfl Tryd.ntmps130 rfl fun a hA => ?_
  have hI := Iv.start hμ
  refine w_seq fun _ hN1 => w_reg (stp hA (r_as hA rfl) rfl fun a hA => o_nil (hN1 _ _ ?_))
  refine w_seq fun _ hN2 => w_seq fun _ hN3 => w_reg (stp hA (r_mv hA rfl) rfl fun a hA => stp hA (r_eqnil Tryd.underlying29 hA rfl rfl) rfl fun a hA => o_nil (hN3 _ _ ?_))
  refine w_cond hA rfl (fun hc => ?_) (fun hc => ?_)
  · have hx : x0 = [] := List.eq_nil_of_length_eq_zero (by
      rcases Nat.eq_zero_or_pos x0.length with h | h
      · exact h
      · rw [h4 (by omega)] at hc; cases hc)
    subst hx
    cases hE
    refine w_seq fun _ hN4 => w_reg (stp hA (r_as hA rfl) rfl fun a hA => o_nil (hN4 _ _ ?_))
    refine w_ret ?_
    have hI := hI.nilRow 42 35
    exact ret1 hA Tryd.results130 rfl ⟨_, rfl, .slice none 0 0, [], μ, rfl, .nil, hI⟩
  · refine w_skip (hN2 _ _ ?_)
    refine w_seq fun _ hN5 => w_reg ?_
    refine o_bsl [] te42 zr42 Tryd.underlying29 hI hA rfl rfl rfl rfl (by kernel_rfl) rfl fun g a w hA hI => ?_
    refine stp hA (r_mv hA rfl) rfl fun a hA => ?_
    refine o_appL (xs := ([] : List In)) (ys := x0) (j := 0) te42 Tryd.underlying29 hI rfl hA rfl rfl (src_sl hI.agr ⟨A, cp, rfl, h2, h3, h4, h5⟩ hE.len) hE.len (hE.ones RIn.ones) (by simp only [List.length_nil, maxLen]; omega) (by simp only [List.length_nil]; omega) rfl fun v a w hA hI => ?_
    refine stp hA (r_as hA rfl) rfl fun a hA => o_nil (hN5 _ _ (w_ret ?_))
    exact ret1 hA Tryd.results130 rfl ⟨_, rfl, v, cs, μ, rfl, hE, hI⟩
set_option maxRecDepth 20000 in
theorem slices_Clone_api_Out_api_Out.c (μ : Store) (w0 : World) (hμ : Agr μ w0) (x0 : List Out) (u0 : Value) (hx0 : Slc (ROut μ) 33 μ u0 x0) (r : List Out) (H : slices_Clone_api_Out_api_Out.f x0 = some r) :
    Calls Tryd.prog 131 [u0].toArray w0 (fun e w' => ∃ v, e = .returned v ∧ ∃ (v0 : Value) (c0 : List Value), v = v0 ∧ Els (ROut μ) 33 r c0 ∧ Iv w0 [] μ μ [row 44 33 v0 r.length c0] w') := by
  obtain ⟨hb, H⟩ := guard_some H
  obtain rfl := sI H
  obtain ⟨cs, hE, A, cp, rfl, h2, h3, h4, h5⟩ := hx0
  refine enter Tryd.func131 rfl Tryd.ntmps131 rfl fun a hA => ?_
  have hI := Iv.start hμ
  refine w_seq fun _ hN1 => w_reg (stp hA (r_as hA rfl) rfl fun a hA => o_nil (hN1 _ _ ?_))
  refine w_seq fun _ hN2 => w_seq fun _ hN3 => w_reg (stp hA (r_mv hA rfl) rfl fun a hA => stp hA (r_eqnil Tryd.underlying30 hA rfl rfl) rfl fun a hA => o_nil (hN3 _ _ ?_))
  refine w_cond hA rfl (fun hc => ?_) (fun hc => ?_)
  · have hx : x0 = [] := List.eq_nil_of_length_eq_zero (by
      rcases Nat.eq_zero_or_pos x0.length with h | h
      · exact h
      · rw [h4 (by omega)] at hc; cases hc)
    subst hx
    cases hE
    refine w_seq fun _ hN4 => w_reg (stp hA (r_as hA rfl) rfl fun a hA => o_nil (hN4 _ _ ?_))
    refine w_ret ?_
    have hI := hI.nilRow 44 33
    exact ret1 hA Tryd.results131 rfl ⟨_, rfl, .slice none 0 0, [], rfl, .nil, hI⟩
  · refine w_skip (hN2 _ _ ?_)
    refine w_seq fun _ hN5 => w_reg ?_
    refine o_bsl [] te44 zr44 Tryd.underlying30 hI hA rfl rfl rfl rfl (by kernel_rfl) rfl fun g a w hA hI => ?_
    refine stp hA (r_mv hA rfl) rfl fun a hA => ?_
    refine o_appL (xs := ([] : List Out)) (ys := x0) (j := 0) te44 Tryd.underlying30 hI rfl hA rfl rfl (src_sl hI.agr ⟨A, cp, rfl, h2, h3, h4, h5⟩ hE.len) hE.len (hE.ones ROut.ones) (by simp only [List.length_nil, maxLen]; omega) (by simp only [List.length_nil]; omega) rfl fun v a w hA hI => ?_
    refine stp hA (r_as hA rfl) rfl fun a hA => o_nil (hN5 _ _ (w_ret ?_))
    exact ret1 hA Tryd.results131 rfl ⟨_, rfl, v, cs, rfl, hE, hI⟩
set_option maxRecDepth 20000 in
theorem tx_Clone.c (μ : Store) (w0 : World) (hμ : Agr μ w0) (x0 : Tx) (u0_0 : Value) (u0_1 : Value) (hx0 : TxW μ x0 u0_0 u0_1) (r : Tx) (H : tx_Clone.f x0 = some r) :
    Calls Tryd.prog 104 [.agg [[.int .u32 x0.Version], [u0_0], [u0_1], [.int .u32 x0.Time]].flatten.toArray].toArray w0 (fun e w' => ∃ v, e = .returned v ∧ ∃ (v0_0 : Value) (v0_1 : Value) (μ' : Store), v = .agg [[.int .u32 r.Version], [v0_0], [v0_1], [.int .u32 r.Time]].flatten.toArray ∧ TxW μ' r v0_0 v0_1 ∧ Iv w0 [] μ μ' [] w') := by
  refine enter Tryd.func104 rfl Tryd.ntmps104 rfl fun a hA => ?_
  have hI := Iv.start hμ
  have H := bI H
  refine w_seq fun _ hN1 => w_reg <| o_box [[.int .u32 x0.Version], [u0_0], [u0_1], [.int .u32 x0.Time]] hI hA rfl rfl rfl fun g1 a w hA hI hg1 => 
    o_new [[.int .u32 0], [(.slice none 0 0)], [(.slice none 0 0)], [.int .u32 0]] zr32 hI hA rfl fun g2 a w hA hI hg2 => ?_
  refine o_nil <| hN1 _ _ <| w_seq fun _ hN2 => ?_
  refine w_any [7, 9] mo hI fun w hI => ?_
  refine gE 0 hA rfl (.inr hI) (fun _ => r_fd (k := 1) Tryd.underlying32 rfl sz29 hA rfl rfl) fun a hA => ?_
  refine gT 1 hA rfl hI (fun w hI => r_ld1 (j := 1) [[.int .u32 x0.Version]] [[u0_1], [.int .u32 x0.Time]] Tryd.underlying29 rfl hI rfl hA rfl rfl) fun a hA => ?_
  refine gE 3 hA rfl (.inr hI) (fun _ => r_fd (k := 2) Tryd.underlying32 rfl sz30 hA rfl rfl) fun a hA => ?_
  refine gT 4 hA rfl hI (fun w hI => r_ld1 (j := 1) [[.int .u32 x0.Version], [u0_0]] [[.int .u32 x0.Time]] Tryd.underlying30 rfl hI rfl hA rfl rfl) fun a hA => ?_
  refine gF 2 rfl ?_
  obtain ⟨r1, hr1, H⟩ := bB H
  refine o_call _ cf130 hA rfl (slices_Clone_api_In_api_In.c μ _ hI.agr x0.Ins u0_0 hx0.2.1 r1 hr1) rfl fun v1 a w hz1 hA => ?_
  obtain ⟨_, cs1, μ1, rfl, hE1, hi1⟩ := hz1
  have hI := hI.call hi1
  refine o_nil <| ⟨(.inr ((hI.sl [1, 2] rfl).less (Store.le.refl _) hi1.le)), ?_⟩
  refine gE 6 hA rfl (.inr ((hI.sl [1, 2] rfl).less (Store.le.refl _) hi1.le)) (fun _ => r_fd (k := 1) Tryd.underlying32 rfl sz29 hA rfl rfl) fun a hA => ?_
  refine gF 5 rfl ?_
  obtain ⟨r2, hr2, H⟩ := bB H
  refine o_call _ cf131 hA rfl (slices_Clone_api_Out_api_Out.c μ1 _ hI.agr x0.Outs u0_1 (Slc.le hx0.2.2.1 (fun _ _ h => ROut.le hi1.le h) hi1.le) r2 hr2) rfl fun v2 a w hz2 hA => ?_
  obtain ⟨_, cs2, rfl, hE2, hi2⟩ := hz2
  have hI := hI.call hi2
  refine o_nil <| ⟨(.inr ((hI.sl [2, 3] rfl).less (Store.le.refl _) hi1.le)), ?_⟩
  refine gF 7 rfl ?_
  have hone := own_one hI (j := 1) rfl
  have hcel := own_cell hI (j := 1) rfl
  refine o_st (j := 3) [[.int .u32 x0.Version]] [[u0_0]] [[v1]] [[u0_1], [.int .u32 x0.Time]] sz29 rfl rfl (by intro c hc; simp at hc; subst hc; exact hone) hI rfl hA rfl rfl hcel rfl fun w hI => ?_
  refine o_nil <| ⟨(.inl (by kernel_rfl)), ?_⟩
  refine gE 8 hA rfl (.inl (by kernel_rfl)) (fun _ => r_fd (k := 2) Tryd.underlying32 rfl sz30 hA rfl rfl) fun a hA => ?_
  refine gF 9 rfl ?_
  have hone := own_one hI (j := 0) rfl
  have hcel := own_cell hI (j := 0) rfl
  refine o_st (j := 3) [[.int .u32 x0.Version], [v1]] [[u0_1]] [[v2]] [[.int .u32 x0.Time]] sz30 rfl rfl (by intro c hc; simp at hc; subst hc; exact hone) hI rfl hA rfl rfl hcel rfl fun w hI => ?_
  refine o_nil <| ⟨(.inl (by kernel_rfl)), ?_⟩
  refine gN <| hN2 _ _ ?_
  obtain ⟨c1, hz3, Hk1⟩ := bB H
  refine w_cut (fun a w => ∃ (μ2 : Store) (ccc1 : List Value), μ1.le μ2 ∧ Els (RIn μ2) 35 c1 ccc1 ∧ Fr a 32 [(1, .pointer (some ⟨g1, 0, none⟩)), (2, .pointer (some ⟨g2, 0, none⟩))] ∧ Iv w0 [] μ μ2 [row 44 33 v2 r2.length cs2, row 42 35 v1 c1.length ccc1, cel g2 [[.int .u32 0], [(.slice none 0 0)], [(.slice none 0 0)], [.int .u32 0]] 32, cel g1 [[.int .u32 x0.Version], [v1], [v2], [.int .u32 x0.Time]] 32] w) ?_ ?_
  · have H := bI hz3
    refine w_seq fun _ hN3 => w_reg <| stp hA (r_fd (k := 1) Tryd.underlying32 rfl sz29 hA rfl rfl) rfl fun a hA => 
      stp hA (r_ld1 (j := 3) [[.int .u32 x0.Version]] [[v2], [.int .u32 x0.Time]] Tryd.underlying29 rfl hI rfl hA rfl rfl) rfl fun a hA => ?_
    have hlen1 := Iv.row_in hI (j := 1) rfl
    refine stp hA (r_rlen (xs := 0) Tryd.underlying29 hI (j := 1) rfl hA rfl) rfl fun a hA => 
      stm hA rfl rfl fun a hA => ?_
    refine o_nil <| hN3 _ _ <| w_block ?_
    obtain ⟨z1, hz4, Hk2⟩ := bind_some H
    obtain ⟨n1, hn1⟩ := loopO_some hz4
    refine w_loop (fun n a w => ∃ (s1 : Int) (s2 : List In) (μ3 : Store) (ccs2 : List Value), loopN (tx_Clone.s0 r1) n (s1, s2) = some z1 ∧ μ1.le μ3 ∧ InR .i64 s1 ∧ Els (RIn μ3) 35 s2 ccs2 ∧ Fr a 32 [(1, .pointer (some ⟨g1, 0, none⟩)), (2, .pointer (some ⟨g2, 0, none⟩)), (14, .int .i64 (r1.length : Int)), (15, .int .i64 s1)] ∧ Iv w0 [] μ μ3 [row 44 33 v2 r2.length cs2, row 42 35 v1 s2.length ccs2, cel g2 [[.int .u32 0], [(.slice none 0 0)], [(.slice none 0 0)], [.int .u32 0]] 32, cel g1 [[.int .u32 x0.Version], [v1], [v2], [.int .u32 x0.Time]] 32] w) n1 ⟨0, r1, μ1, cs1, hn1, (Store.le.refl _), (in_lit .i64 0 rfl), hE1, hA.sub ⟨rfl, rfl, rfl, rfl, trivial⟩, hI⟩ ?_
    clear hA hI
    rintro n a w ⟨s1, s2, μ3, ccs2, hn1, hle2, ws1, ws2, hA, hI⟩
    obtain ⟨m1, rfl, H⟩ := loopN_bind hn1
    clear hn1
    refine w_seq fun _ hN4 => w_reg <| stp hA (r_lss hA rfl rfl) rfl fun a hA => ?_
    refine o_nil <| hN4 _ _ <| w_seq fun _ hN5 => w_cond hA rfl (fun hc1 => ?_) (fun hc1 => ?_)
    · obtain ⟨hc1, H⟩ := dT H hc1
      refine w_skip <| hN5 _ _ <| w_seq fun _ hN6 => w_block <| w_seq fun _ hN7 => w_reg <| stm hA rfl rfl fun a hA => 
        sta hA rfl rfl fun a hA => ?_
      refine o_nil <| hN7 _ _ ?_
      refine w_any [12] mo hI fun w hI => ?_
      refine gE 0 hA rfl (.inr hI) (fun _ => r_fd (k := 1) Tryd.underlying32 rfl sz29 hA rfl rfl) fun a hA => ?_
      refine gT 1 hA rfl hI (fun w hI => r_ld1 (j := 3) [[.int .u32 x0.Version]] [[v2], [.int .u32 x0.Time]] Tryd.underlying29 rfl hI rfl hA rfl rfl) fun a hA => ?_
      refine gE 2 hA rfl (.inr hI) (fun _ => r_mv hA rfl) fun a hA => ?_
      refine gE 3 hA rfl (.inr hI) (fun _ => r_fd (k := 1) Tryd.underlying32 rfl sz29 hA rfl rfl) fun a hA => ?_
      refine gT 4 hA rfl hI (fun w hI => r_ld1 (j := 3) [[.int .u32 x0.Version]] [[v2], [.int .u32 x0.Time]] Tryd.underlying29 rfl hI rfl hA rfl rfl) fun a hA => ?_
      refine gE 5 hA rfl (.inr hI) (fun _ => r_mv hA rfl) fun a hA => ?_
      obtain ⟨hb1, H⟩ := bG H
      refine gT 6 hA rfl hI (fun w hI => r_rix (j := 1) Tryd.underlying29 sz42 hI rfl hA rfl rfl hb1.1 hb1.2) fun a hA => ?_
      refine gE 7 hA rfl (.inr hI) (fun _ => r_fd (k := so v1 + s1.toNat * 35 + 33) Tryd.underlying42 rfl sz40 hA rfl rfl) fun a hA => ?_
      obtain ⟨A1, _, B1, hc2, hl1, _, he1⟩ := Els.at_ ws2 (getD_some default hb1.1 hb1.2)
      obtain ⟨v3, rfl, hw1⟩ := he1
      refine gT 8 hA rfl hI (fun w hI => r_rldQ (j := 1) (q := s1.toNat * 35) (off := 33) A1 B1 [av .u8 32 ((s2.getD s1.toNat default).From.Tx), [.int .u32 ((s2.getD s1.toNat default).From.N)]] [[.int .u32 ((s2.getD s1.toNat default).Seq)]] hc2 hl1 rfl Tryd.underlying40 rfl hI rfl hA rfl) fun a hA => ?_
      refine gF 9 rfl ?_
      obtain ⟨r3, hr3, H⟩ := bB H
      refine o_call _ cf132 hA rfl (bytes_Clone.c μ3 _ hI.agr ((s2.getD s1.toNat default).Key) v3 hw1.2.2.1 r3 hr3) rfl fun v4 a w hz5 hA => ?_
      obtain ⟨_, cs3, rfl, hE3, hi3⟩ := hz5
      have hI := hI.call hi3
      refine o_nil <| ⟨(.inr (hI.sl [1, 2, 3, 4] rfl)), ?_⟩
      refine g_mono (I' := fun w => Iv w0 [] μ μ3 [row 5 1 v4 r3.length cs3, row 44 33 v2 r2.length cs2, row 42 35 v1 s2.length ccs2, cel g2 [[.int .u32 0], [(.slice none 0 0)], [(.slice none 0 0)], [.int .u32 0]] 32, cel g1 [[.int .u32 x0.Version], [v1], [v2], [.int .u32 x0.Time]] 32] w) (fun w h => (h.sl [1, 2, 3, 4] rfl)) _ _ _ _ ?_
      refine gT 10 hA rfl hI (fun w hI => r_rix (j := 2) Tryd.underlying29 sz42 hI rfl hA rfl rfl hb1.1 hb1.2) fun a hA => ?_
      refine gE 11 hA rfl (.inr hI) (fun _ => r_fd (k := so v1 + s1.toNat * 35 + 33) Tryd.underlying42 rfl sz40 hA rfl rfl) fun a hA => ?_
      refine gF 12 rfl ?_
      obtain ⟨μ4, hle3, hsv1, hI, hth1⟩ := hI.freezeRowT 0 rfl
      have hS1 : Slc (RI .u8) 1 μ4 v4 r3 := ⟨_, hE3, hsv1⟩
      obtain ⟨A2, _, B2, hc3, hl2, hl3, he2⟩ := Els.at_ (Els.mono ws2 (fun _ _ h => RIn.le hle3 h)) (getD_some default hb1.1 hb1.2)
      obtain ⟨v5, rfl, hw2⟩ := he2
      have hE4 := Els.setAt (y := (⟨(s2.getD s1.toNat default).From, r3, (s2.getD s1.toNat default).Seq⟩ : In)) (d := [av .u8 32 ((s2.getD s1.toNat default).From.Tx), [.int .u32 ((s2.getD s1.toNat default).From.N)], [v4], [.int .u32 ((s2.getD s1.toNat default).Seq)]].flatten) (Els.mono ws2 (fun _ _ h => RIn.le hle3 h)) hc3 (idx_lt hb1.1 hb1.2) hl2 hl3 ⟨v4, rfl, ⟨hw2.1, hw2.2.1, hS1, hw2.2.2.2⟩⟩ rfl
      obtain ⟨_, hsc1⟩ := Slc.sv hS1
      refine o_rstPL (j := 1) (q := s1.toNat * 35) (off := 33) (m' := (s2.set s1.toNat (⟨(s2.getD s1.toNat default).From, r3, (s2.getD s1.toNat default).Seq⟩ : In)).length) A2 B2 [av .u8 32 ((s2.getD s1.toNat default).From.Tx), [.int .u32 ((s2.getD s1.toNat default).From.N)]] [[v5]] [[v4]] [[.int .u32 ((s2.getD s1.toNat default).Seq)]] hc3 hl2 rfl sz40 rfl rfl (fl_cons (one_one (one_sl hsc1)) fl_nil) hI rfl hA rfl rfl (cells_sl hsc1) (by omega) (by first | exact (List.length_set ..).symm | simp) fun w hI => ?_
      refine o_nil <| ⟨(.inl (by kernel_rfl)), ?_⟩
      refine gN <| hN6 _ _ <| w_reg <| stp hA (r_add hA rfl rfl) rfl fun a hA => 
        stm hA rfl rfl fun a hA => ?_
      refine o_nil <| ⟨m1, Nat.lt_succ_self _, IntKind.i64.wrap (s1 + 1), s2.set s1.toNat (⟨(s2.getD s1.toNat default).From, r3, (s2.getD s1.toNat default).Seq⟩ : In), μ4, A2 ++ ([av .u8 32 ((s2.getD s1.toNat default).From.Tx), [.int .u32 ((s2.getD s1.toNat default).From.N)], [v4], [.int .u32 ((s2.getD s1.toNat default).Seq)]].flatten ++ B2), H, (hle2.trans hle3), (wrap_in _ _), hE4, hA.sub ⟨rfl, rfl, rfl, rfl, trivial⟩, hI⟩
    · obtain ⟨hc1, H⟩ := dF H hc1
      refine w_exit rfl ?_
      have H : some s2 = some z1 := H
      obtain rfl := sI H
      have H := Hk2
      cases sJ H
      exact ⟨μ3, ccs2, hle2, ws2, hA.sub ⟨rfl, rfl, trivial⟩, hI⟩
  · rintro a w ⟨μ2, ccc1, hle1, wc1, hA, hI⟩
    have H := Hk1
    refine w_seq fun _ hN8 => w_reg <| stp hA (r_ldA (j := 3) [] [[.int .u32 x0.Version], [v1], [v2], [.int .u32 x0.Time]] [] Tryd.underlying32 rfl sz32 rfl hI rfl hA rfl rfl) rfl fun a hA => 
      o_st (j := 2) [] [[.int .u32 0], [(.slice none 0 0)], [(.slice none 0 0)], [.int .u32 0]] [[.int .u32 x0.Version], [v1], [v2], [.int .u32 x0.Time]] [] sz32 rfl rfl (fl_cons (one_one rfl) (fl_cons (one_one (own_one hI (j := 1) rfl)) (fl_cons (one_one (own_one hI (j := 0) rfl)) (fl_cons (one_one rfl) fl_nil)))) hI rfl hA rfl rfl rfl rfl fun w hI => ?_
    refine o_nil <| hN8 _ _ <| w_ret ?_
    obtain ⟨μ5, hle4, hsv2, hI⟩ := hI.freezeRow 1 rfl
    have hS2 : Slc (RIn μ5) 35 μ5 v1 c1 := ⟨_, (Els.mono wc1 (fun _ _ h => RIn.le hle4 h)), hsv2⟩
    obtain ⟨μ6, hle5, hsv3, hI⟩ := hI.freezeRow 0 rfl
    have hS3 : Slc (ROut μ6) 33 μ6 v2 r2 := ⟨_, hE2, hsv3⟩
    obtain rfl := sJ H
    exact retc Tryd.underlying32 rfl sz32 rfl hI (j := 0) rfl hA Tryd.results104 rfl ⟨_, rfl, v1, v2, μ6, rfl, ⟨hx0.1, (Slc.le hS2 (fun _ _ h => RIn.le hle5 h) hle5), hS3, hx0.2.2.2⟩, (hI.sl [] rfl)⟩
set_option maxRecDepth 20000 in
theorem tx_Clones.c (μ : Store) (w0 : World) (hμ : Agr μ w0) (x0 : List Tx) (u0 : Value) (hx0 : Slc (RTx μ) 4 μ u0 x0) (r : List Tx) (H : tx_Clones.f x0 = some r) :
    Calls Tryd.prog 81 [u0].toArray w0 (fun e w' => ∃ v, e = .returned v ∧ ∃ (v0 : Value) (c0 : List Value) (μ' : Store), v = v0 ∧ Els (RTx μ') 4 r c0 ∧ Iv w0 [] μ μ' [row 32 4 v0 r.length c0] w') := by
  refine enter Tryd.func81 rfl Tryd.ntmps81 rfl fun a hA => ?_
  have hI := Iv.start hμ
  have H := bI H
  refine w_seq fun _ hN1 => w_reg <| sta hA rfl rfl fun a hA => ?_
  refine o_nil <| hN1 _ _ <| w_seq fun _ hN2 => w_reg <| sta hA rfl rfl fun a hA => ?_
  refine o_nil <| hN2 _ _ ?_
  obtain ⟨c1, hz1, Hk1⟩ := bB H
  refine w_cut (fun a w => ∃ (μ1 : Store) (vvc1 : Value) (ccc1 : List Value), μ.le μ1 ∧ Els (RTx μ1) 4 c1 ccc1 ∧ Fr a 19 [(2, (.slice none 0 0)), (3, vvc1)] ∧ Iv w0 [] μ μ1 [row 32 4 vvc1 c1.length ccc1] w) ?_ ?_
  · have H := bI hz1
    refine w_seq fun _ hN3 => w_reg <| stm hA rfl rfl fun a hA => ?_
    obtain ⟨_, hsl1⟩ := Slc.sv hx0
    refine stp hA (r_slen Tryd.underlying35 hsl1 hA rfl) rfl fun a hA => 
      stm hA rfl rfl fun a hA => ?_
    refine o_nil <| hN3 _ _ <| w_block ?_
    have hI := hI.nilRow 32 4
    obtain ⟨z1, hz2, Hk2⟩ := bind_some H
    obtain ⟨n1, hn1⟩ := loopO_some hz2
    refine w_loop (fun n a w => ∃ (s1 : List Tx) (s2 : Int) (μ2 : Store) (vvs1 : Value) (ccs1 : List Value), loopN (tx_Clones.s0 x0) n (s1, s2) = some z1 ∧ μ.le μ2 ∧ Els (RTx μ2) 4 s1 ccs1 ∧ InR .i64 s2 ∧ Fr a 19 [(2, (.slice none 0 0)), (3, vvs1), (6, u0), (7, .int .i64 (x0.length : Int)), (8, .int .i64 s2)] ∧ Iv w0 [] μ μ2 [row 32 4 vvs1 s1.length ccs1] w) n1 ⟨[], 0, μ, (.slice none 0 0), [], hn1, (Store.le.refl _), (Els.nil (RE := (RTx μ)) (sz := 4)), (in_lit .i64 0 rfl), hA.sub ⟨rfl, rfl, rfl, rfl, rfl, trivial⟩, hI⟩ ?_
    clear hA hI
    rintro n a w ⟨s1, s2, μ2, vvs1, ccs1, hn1, hle2, ws1, ws2, hA, hI⟩
    obtain ⟨m1, rfl, H⟩ := loopN_bind hn1
    clear hn1
    refine w_seq fun _ hN4 => w_reg <| stp hA (r_lss hA rfl rfl) rfl fun a hA => ?_
    refine o_nil <| hN4 _ _ <| w_seq fun _ hN5 => w_cond hA rfl (fun hc1 => ?_) (fun hc1 => ?_)
    · obtain ⟨hc1, H⟩ := dT H hc1
      refine w_skip <| hN5 _ _ <| w_seq fun _ hN6 => w_block <| w_seq fun _ hN7 => w_reg ?_
      obtain ⟨hb1, H⟩ := bG H
      obtain ⟨_, he1, _, hat1⟩ := Slc.elem (Slc.le hx0 (fun _ _ h => RTx.le hle2 h) hle2) (getD_some default hb1.1 hb1.2)
      obtain ⟨v1, v2, rfl, hw1⟩ := he1
      obtain ⟨_, hsl2⟩ := Slc.sv (Slc.le hx0 (fun _ _ h => RTx.le hle2 h) hle2)
      refine stp hA (r_six Tryd.underlying35 sz32 hsl2 hA rfl rfl hb1.1 hb1.2) rfl fun a hA => 
        stp hA (r_ldmA [] [[.int .u32 ((x0.getD s2.toNat default).Version)], [v1], [v2], [.int .u32 ((x0.getD s2.toNat default).Time)]] [] Tryd.underlying32 rfl sz32 rfl hI.agr hat1 hA rfl rfl) rfl fun a hA => 
        o_new [[.int .u32 0], [(.slice none 0 0)], [(.slice none 0 0)], [.int .u32 0]] zr32 hI hA rfl fun g1 a w hA hI hg1 => ?_
      obtain ⟨_, hsl3⟩ := Slc.sv hw1.2.1
      obtain ⟨_, hsl4⟩ := Slc.sv hw1.2.2.1
      refine o_st (j := 0) [] [[.int .u32 0], [(.slice none 0 0)], [(.slice none 0 0)], [.int .u32 0]] [[.int .u32 ((x0.getD s2.toNat default).Version)], [v1], [v2], [.int .u32 ((x0.getD s2.toNat default).Time)]] [] sz32 rfl rfl (fl_cons (one_one rfl) (fl_cons (one_one (one_sl hsl3)) (fl_cons (one_one (one_sl hsl4)) (fl_cons (one_one rfl) fl_nil)))) hI rfl hA rfl rfl rfl rfl fun w hI => ?_
      refine o_nil <| hN7 _ _ <| w_reg <| stm hA rfl rfl fun a hA => 
        stp hA (r_ldA (j := 0) [] [[.int .u32 ((x0.getD s2.toNat default).Version)], [v1], [v2], [.int .u32 ((x0.getD s2.toNat default).Time)]] [] Tryd.underlying32 rfl sz32 rfl hI rfl hA rfl rfl) rfl fun a hA => ?_
      obtain ⟨r1, hr1, H⟩ := bB H
      refine o_call _ cf104 hA rfl (tx_Clone.c μ2 _ hI.agr (x0.getD s2.toNat default) v1 v2 ⟨hw1.1, hw1.2.1, hw1.2.2.1, hw1.2.2.2⟩ r1 hr1) rfl fun v3 a w hz3 hA => ?_
      obtain ⟨v4, v5, μ3, rfl, hw2, hi1⟩ := hz3
      have hI := hI.call hi1
      have hE1 : Els (RTx μ3) 4 ([r1] : List Tx) _ := (Els.cons (c := [[.int .u32 r1.Version], [v4], [v5], [.int .u32 r1.Time]].flatten) ⟨v4, v5, rfl, ⟨hw2.1, hw2.2.1, hw2.2.2.1, hw2.2.2.2⟩⟩ rfl Els.nil)
      refine o_bsl ([[.int .u32 r1.Version], [v4], [v5], [.int .u32 r1.Time]].flatten ++ ([])) te32 zr32 Tryd.underlying35 hI hA rfl rfl rfl rfl (by kernel_rfl) rfl fun g2 a w hA hI => ?_
      generalize hcs : ([[.int .u32 r1.Version], [v4], [v5], [.int .u32 r1.Time]].flatten ++ ([]) : List Value) = cs1 at hE1 hI
      clear hcs
      obtain ⟨hb2, H⟩ := bG H
      have hE3 := (Els.mono ws1 (fun _ _ h => RTx.le hi1.le h)).app hE1
      refine o_appG (xs := (s1 : List Tx)) (ys := (([r1] : List Tx) : List Tx)) (M := 2199023255552) 2 te32 Tryd.underlying35 hI rfl hA rfl rfl (src_row hI (j := 0) rfl) hE1.len (hE1.ones RTx.ones) hb2 rfl fun v6 a w hA hI => 
        sta hA rfl rfl fun a hA => ?_
      refine o_nil <| hN6 _ _ <| w_reg <| stp hA (r_add hA rfl rfl) rfl fun a hA => 
        stm hA rfl rfl fun a hA => ?_
      refine o_nil <| ⟨m1, Nat.lt_succ_self _, s1 ++ ([r1] : List Tx), IntKind.i64.wrap (s2 + 1), μ3, v6, ccs1 ++ cs1, H, (hle2.trans hi1.le), hE3, (wrap_in _ _), hA.sub ⟨rfl, rfl, rfl, rfl, rfl, trivial⟩, (hI.sl [2] rfl)⟩
    · obtain ⟨hc1, H⟩ := dF H hc1
      refine w_exit rfl ?_
      have H : some s1 = some z1 := H
      obtain rfl := sI H
      have H := Hk2
      cases sJ H
      exact ⟨μ2, vvs1, ccs1, hle2, ws1, hA.sub ⟨rfl, rfl, trivial⟩, hI⟩
  · rintro a w ⟨μ1, vvc1, ccc1, hle1, wc1, hA, hI⟩
    have H := Hk1
    refine w_seq fun _ hN8 => w_reg <| stm hA rfl rfl fun a hA => 
      sta hA rfl rfl fun a hA => ?_
    refine o_nil <| hN8 _ _ <| w_ret ?_
    obtain rfl := sJ H
    exact ret1 hA Tryd.results81 rfl ⟨_, rfl, vvc1, ccc1, μ1, rfl, wc1, hI⟩
set_option maxRecDepth 20000 in
theorem sargassoref1_Size.c (μ : Store) (w0 : World) (hμ : Agr μ w0) (x0 : Tx) (u0_0 : Value) (u0_1 : Value) (hx0 : TxW μ x0 u0_0 u0_1) (r : Int) (H : sargassoref1_Size.f x0 = some r) :
    Calls Tryd.prog 40 [.agg [[.int .u32 x0.Version], [u0_0], [u0_1], [.int .u32 x0.Time]].flatten.toArray].toArray w0 (fun e w' => ∃ v, e = .returned v ∧ v = .int .i64 r ∧ InR .i64 r ∧ Iv w0 [] μ μ [] w') := by
  refine enter Tryd.func40 rfl Tryd.ntmps40 rfl fun a hA => ?_
  have hI := Iv.start hμ
  have H := bI H
  refine w_seq fun _ hN1 => w_reg <| o_box [[.int .u32 x0.Version], [u0_0], [u0_1], [.int .u32 x0.Time]] hI hA rfl rfl rfl fun g1 a w hA hI hg1 => 
    sta hA rfl rfl fun a hA => ?_
  refine o_nil <| hN1 _ _ <| w_seq fun _ hN2 => w_reg <| stp hA (r_ldA (j := 0) [] [[.int .u32 x0.Version], [u0_0], [u0_1], [.int .u32 x0.Time]] [] Tryd.underlying32 rfl sz32 rfl hI rfl hA rfl rfl) rfl fun a hA => ?_
  obtain ⟨r1, hr1, H⟩ := bB H
  refine o_call _ cf75 hA rfl (sargassoref1_TxBytes.c μ _ hI.agr x0 u0_0 u0_1 ⟨hx0.1, hx0.2.1, hx0.2.2.1, hx0.2.2.2⟩ r1 hr1) rfl fun v1 a w hz1 hA => ?_
  obtain ⟨_, cs1, rfl, hE1, hi1⟩ := hz1
  have hI := hI.call hi1
  have hlen1 := Iv.row_in hI (j := 0) rfl
  refine stp hA (r_rlen (xs := 0) Tryd.underlying40 hI (j := 0) rfl hA rfl) rfl fun a hA => 
    sta hA rfl rfl fun a hA => ?_
  refine o_nil <| hN2 _ _ <| w_ret ?_
  obtain rfl := sJ H
  exact ret1 hA Tryd.results40 rfl ⟨_, rfl, rfl, hlen1, hI.forget0⟩
end Go.Proofs.YtcpdnoochieecaaDoor.T
namespace Go.Proofs.YtcpdnoochieecaaDoor.T
open Go Go.Proofs Go.Proofs.YtcpdnoochieecaaDoor.K
set_option linter.unusedVariables false
set_option linter.unusedSimpArgs false
noncomputable def block_IDs.s0 (x0 : Block) : ((List (List Int)) × Int) → Option (((List (List Int)) × Int) ⊕ (List (List Int))) := fun (s1, s2) => (if s2 < (x0.Txs.length : Int) then (if 0 ≤ s2 ∧ s2 < (x0.Txs.length : Int) then ((tx_ID.f (x0.Txs.getD s2.toNat default)).bind fun r1 => (if s1.length + 1 ≤ 4398046511104 then some (.inl (s1 ++ ([r1] : List (List Int)), IntKind.i64.wrap (s2 + 1))) else none)) else none) else some (.inr s1))
noncomputable def block_IDs.f (x0 : Block) : Option (List (List Int)) := ((loopO (block_IDs.s0 x0) ([], 0)).bind fun c1 => some c1)
noncomputable def notes_New.f (x0 : Int) : Option ((Option notesLog) × Er) := (((if x0 < 1 then some true else some (decide (65536 < x0)))).bind fun c1 => (if c1 = true then some (none, xErrRange) else some ((some (⟨x0, 0, [], ([] : List (Int × Int))⟩ : notesLog)), (Er.b 0))))
def slices_Clone_api_Note_api_Note.f (x0 : List Note) : Option (List Note) := if x0.length ≤ 2932031007402 then some x0 else none
noncomputable def notes_Log_All.f (x0 : notesLog) : Option (List Note) := ((slices_Clone_api_Note_api_Note.f x0.l).bind fun r1 => some r1)
noncomputable def notes_Log_Add.f (x0 : notesLog) (x1 : List Int) (x2 : Int) : Option (Er × notesLog) := (((if x2 < 1 then some true else some (decide (9 < x2)))).bind fun c1 => (if c1 = true then some (xErrRange, (⟨x0.most, x0.op, x0.l, x0.lost⟩ : notesLog)) else (if x0.l.length + 1 ≤ 2932031007402 then (((if x0.most < ((x0.l ++ ([(⟨x0.op, x1, x2⟩ : Note)] : List Note)).length : Int) then (if 0 < ((x0.l ++ ([(⟨x0.op, x1, x2⟩ : Note)] : List Note)).length : Int) then (if 0 ≤ 1 ∧ 1 ≤ ((x0.l ++ ([(⟨x0.op, x1, x2⟩ : Note)] : List Note)).length : Int) then ((slices_Clone_api_Note_api_Note.f (((x0.l ++ ([(⟨x0.op, x1, x2⟩ : Note)] : List Note)).take (((x0.l ++ ([(⟨x0.op, x1, x2⟩ : Note)] : List Note)).length : Int)).toNat).drop (1 : Int).toNat)).bind fun r1 => some (r1, mput x0.lost (((x0.l ++ ([(⟨x0.op, x1, x2⟩ : Note)] : List Note)).getD (0 : Int).toNat default).Op) (IntKind.i64.wrap (((mget x0.lost (((x0.l ++ ([(⟨x0.op, x1, x2⟩ : Note)] : List Note)).getD (0 : Int).toNat default).Op)).getD 0) + 1)))) else none) else none) else some (x0.l ++ ([(⟨x0.op, x1, x2⟩ : Note)] : List Note), x0.lost))).bind fun (c2, c3) => some ((Er.b 0), (⟨x0.most, x0.op, c2, c3⟩ : notesLog))) else none)))
noncomputable def redo_New.f (x0 : Int) : Option ((Option redoRedo) × Er) := (((if x0 < 1 then some true else some (decide (16777216 < x0)))).bind fun c1 => (if c1 = true then some (none, xErrRange) else some ((some (⟨x0, 0, []⟩ : redoRedo)), (Er.b 0))))
noncomputable def redo_Redo_All.f (x0 : redoRedo) : Option (List Tx) := ((tx_Clones.f x0.l).bind fun r1 => some r1)
noncomputable def redo_Redo_Bytes.f (x0 : redoRedo) : Option Int := some x0.bytes
noncomputable def redo_behind.f (x0 : Block) : Option (List Tx) := (if 0 ≤ (iMin (x0.Txs.length : Int) 1) ∧ (iMin (x0.Txs.length : Int) 1) ≤ (x0.Txs.length : Int) then ((tx_Clones.f ((x0.Txs.take ((x0.Txs.length : Int)).toNat).drop (iMin (x0.Txs.length : Int) 1).toNat)).bind fun r1 => some r1) else none)
noncomputable def redo_Redo_Back.s1 (x0 : redoRedo) : (Int × (List Tx) × Int × Int × (List Note) × (List (Int × Int))) → Option ((Int × (List Tx) × Int × Int × (List Note) × (List (Int × Int))) ⊕ (redoRedo × notesLog)) := fun (s3, s4, s5, s6, s7, s8) => (if x0.most < s3 then (if 0 ≤ IntKind.i64.wrap ((s4.length : Int) - 1) ∧ IntKind.i64.wrap ((s4.length : Int) - 1) < (s4.length : Int) then ((tx_ID.f (s4.getD (IntKind.i64.wrap ((s4.length : Int) - 1)).toNat default)).bind fun r5 => ((notes_Log_Add.f (⟨s5, s6, s7, s8⟩ : notesLog) r5 7).bind fun r6 => ((tx_Size.f (s4.getD (IntKind.i64.wrap ((s4.length : Int) - 1)).toNat default)).bind fun r7 => (if 0 ≤ (IntKind.i64.wrap ((s4.length : Int) - 1)) ∧ (IntKind.i64.wrap ((s4.length : Int) - 1)) ≤ (s4.length : Int) then some (.inl (IntKind.i64.wrap (s3 - r7), (s4.take (IntKind.i64.wrap ((s4.length : Int) - 1)).toNat).drop (0 : Int).toNat, r6.2.most, r6.2.op, r6.2.l, r6.2.lost)) else none)))) else none) else some (.inr ((⟨x0.most, s3, s4⟩ : redoRedo), (⟨s5, s6, s7, s8⟩ : notesLog))))
noncomputable def redo_Redo_Back.s0 (r1 : List Tx) : (Int × Int) → Option ((Int × Int) ⊕ Int) := fun (s1, s2) => (if s1 < (r1.length : Int) then (if 0 ≤ s1 ∧ s1 < (r1.length : Int) then ((tx_Size.f (r1.getD s1.toNat default)).bind fun r2 => some (.inl (IntKind.i64.wrap (s1 + 1), IntKind.i64.wrap (s2 + r2)))) else none) else some (.inr s2))
noncomputable def redo_Redo_Back.f (x0 : redoRedo) (x1 : Block) (x2 : notesLog) : Option (redoRedo × notesLog) := ((((redo_behind.f x1).bind fun r1 => loopO (redo_Redo_Back.s0 r1) (0, x0.bytes))).bind fun c1 => ((redo_behind.f x1).bind fun r3 => ((slices_Concat_api_Tx_api_Tx.f ([r3, x0.l] : List (List Tx))).bind fun r4 => loopO (redo_Redo_Back.s1 x0) (c1, r4, x2.most, x2.op, x2.l, x2.lost))))
noncomputable def redo_Redo_On.s0 (x0 : redoRedo) (r1 : List (List Int)) : ((List Tx) × Int × Int) → Option (((List Tx) × Int × Int) ⊕ ((List Tx) × Int)) := fun (s1, s2, s3) => (if s3 < (x0.l.length : Int) then (((if 0 ≤ s3 ∧ s3 < (x0.l.length : Int) then ((tx_ID.f (x0.l.getD s3.toNat default)).bind fun r2 => ((slices_Contains_api_Hash_api_Hash.f r1 r2).bind fun r3 => (if r3 = true then some (s1, s2) else (if s1.length + 1 ≤ 2199023255552 then ((tx_Size.f (x0.l.getD s3.toNat default)).bind fun r4 => some (s1 ++ ([(x0.l.getD s3.toNat default)] : List Tx), IntKind.i64.wrap (s2 + r4))) else none)))) else none)).bind fun (c3, c4) => some (.inl (c3, c4, IntKind.i64.wrap (s3 + 1)))) else some (.inr (s1, s2)))
noncomputable def redo_Redo_On.f (x0 : redoRedo) (x1 : Block) : Option redoRedo := ((block_IDs.f x1).bind fun r1 => ((loopO (redo_Redo_On.s0 x0 r1) ([], 0, 0)).bind fun (c1, c2) => some (⟨x0.most, c2, c1⟩ : redoRedo)))
end Go.Proofs.YtcpdnoochieecaaDoor.T
namespace Go.Proofs.YtcpdnoochieecaaDoor.T
open Go Go.Proofs Go.Proofs.YtcpdnoochieecaaDoor.K
set_option linter.unusedVariables false
set_option linter.unusedSimpArgs false
set_option maxRecDepth 20000 in
theorem block_IDs.c (μ : Store) (w0 : World) (hμ : Agr μ w0) (x0 : Block) (u0_0 : Value) (hx0 : BlockW μ x0 u0_0) (r : List (List Int)) (H : block_IDs.f x0 = some r) :
    Calls Tryd.prog 48 [.agg [[.int .u32 x0.Head.Version], av .u8 32 x0.Head.Prev, av .u8 32 x0.Head.Root, [.int .u32 x0.Head.Time], [.int .u32 x0.Head.Work], [.int .u32 x0.Head.Nonce], [u0_0]].flatten.toArray].toArray w0 (fun e w' => ∃ v, e = .returned v ∧ ∃ (v0 : Value) (c0 : List Value), v = v0 ∧ Els (RA .u8 32) 32 r c0 ∧ Iv w0 [] μ μ [row 26 32 v0 r.length c0] w') := by
  refine enter Tryd.func48 rfl Tryd.ntmps48 rfl fun a hA => ?_
  have hI := Iv.start hμ
  have H := bI H
  refine w_seq fun _ hN1 => w_reg <| o_box [[.int .u32 x0.Head.Version], av .u8 32 x0.Head.Prev, av .u8 32 x0.Head.Root, [.int .u32 x0.Head.Time], [.int .u32 x0.Head.Work], [.int .u32 x0.Head.Nonce], [u0_0]] hI hA rfl rfl rfl fun g1 a w hA hI hg1 => 
    sta hA rfl rfl fun a hA => ?_
  refine o_nil <| hN1 _ _ <| w_seq fun _ hN2 => w_reg <| sta hA rfl rfl fun a hA => ?_
  refine o_nil <| hN2 _ _ ?_
  obtain ⟨c1, hz1, Hk1⟩ := bB H
  refine w_cut (fun a w => ∃ (vvc1 : Value) (ccc1 : List Value), Els (RA .u8 32) 32 c1 ccc1 ∧ Fr a 20 [(2, (.slice none 0 0)), (3, vvc1)] ∧ Iv w0 [] μ μ [row 26 32 vvc1 c1.length ccc1, cel g1 [[.int .u32 x0.Head.Version], av .u8 32 x0.Head.Prev, av .u8 32 x0.Head.Root, [.int .u32 x0.Head.Time], [.int .u32 x0.Head.Work], [.int .u32 x0.Head.Nonce], [u0_0]] 37] w) ?_ ?_
  · have H := bI hz1
    refine w_seq fun _ hN3 => w_reg <| stp hA (r_fd (k := 68) Tryd.underlying37 rfl sz35 hA rfl rfl) rfl fun a hA => 
      stp hA (r_ld1 (j := 0) [[.int .u32 x0.Head.Version], av .u8 32 x0.Head.Prev, av .u8 32 x0.Head.Root, [.int .u32 x0.Head.Time], [.int .u32 x0.Head.Work], [.int .u32 x0.Head.Nonce]] [] Tryd.underlying35 rfl hI rfl hA rfl rfl) rfl fun a hA => ?_
    obtain ⟨_, hsl1⟩ := Slc.sv hx0.2.2.2.2.2.2
    refine stp hA (r_slen Tryd.underlying35 hsl1 hA rfl) rfl fun a hA => 
      stm hA rfl rfl fun a hA => ?_
    refine o_nil <| hN3 _ _ <| w_block ?_
    have hI := hI.nilRow 26 32
    obtain ⟨z1, hz2, Hk2⟩ := bind_some H
    obtain ⟨n1, hn1⟩ := loopO_some hz2
    refine w_loop (fun n a w => ∃ (s1 : List (List Int)) (s2 : Int) (vvs1 : Value) (ccs1 : List Value), loopN (block_IDs.s0 x0) n (s1, s2) = some z1 ∧ Els (RA .u8 32) 32 s1 ccs1 ∧ InR .i64 s2 ∧ Fr a 20 [(2, (.slice none 0 0)), (3, vvs1), (7, u0_0), (8, .int .i64 (x0.Txs.length : Int)), (9, .int .i64 s2)] ∧ Iv w0 [] μ μ [row 26 32 vvs1 s1.length ccs1, cel g1 [[.int .u32 x0.Head.Version], av .u8 32 x0.Head.Prev, av .u8 32 x0.Head.Root, [.int .u32 x0.Head.Time], [.int .u32 x0.Head.Work], [.int .u32 x0.Head.Nonce], [u0_0]] 37] w) n1 ⟨[], 0, (.slice none 0 0), [], hn1, (Els.nil (RE := (RA .u8 32)) (sz := 32)), (in_lit .i64 0 rfl), hA.sub ⟨rfl, rfl, rfl, rfl, rfl, trivial⟩, hI⟩ ?_
    clear hA hI
    rintro n a w ⟨s1, s2, vvs1, ccs1, hn1, ws1, ws2, hA, hI⟩
    obtain ⟨m1, rfl, H⟩ := loopN_bind hn1
    clear hn1
    refine w_seq fun _ hN4 => w_reg <| stp hA (r_lss hA rfl rfl) rfl fun a hA => ?_
    refine o_nil <| hN4 _ _ <| w_seq fun _ hN5 => w_cond hA rfl (fun hc1 => ?_) (fun hc1 => ?_)
    · obtain ⟨hc1, H⟩ := dT H hc1
      refine w_skip <| hN5 _ _ <| w_seq fun _ hN6 => w_block <| w_seq fun _ hN7 => w_reg ?_
      obtain ⟨hb1, H⟩ := bG H
      obtain ⟨_, he1, _, hat1⟩ := Slc.elem hx0.2.2.2.2.2.2 (getD_some default hb1.1 hb1.2)
      obtain ⟨v1, v2, rfl, hw1⟩ := he1
      obtain ⟨_, hsl2⟩ := Slc.sv hx0.2.2.2.2.2.2
      refine stp hA (r_six Tryd.underlying35 sz32 hsl2 hA rfl rfl hb1.1 hb1.2) rfl fun a hA => 
        stp hA (r_ldmA [] [[.int .u32 ((x0.Txs.getD s2.toNat default).Version)], [v1], [v2], [.int .u32 ((x0.Txs.getD s2.toNat default).Time)]] [] Tryd.underlying32 rfl sz32 rfl hI.agr hat1 hA rfl rfl) rfl fun a hA => 
        o_new [[.int .u32 0], [(.slice none 0 0)], [(.slice none 0 0)], [.int .u32 0]] zr32 hI hA rfl fun g2 a w hA hI hg2 => ?_
      obtain ⟨_, hsl3⟩ := Slc.sv hw1.2.1
      obtain ⟨_, hsl4⟩ := Slc.sv hw1.2.2.1
      refine o_st (j := 0) [] [[.int .u32 0], [(.slice none 0 0)], [(.slice none 0 0)], [.int .u32 0]] [[.int .u32 ((x0.Txs.getD s2.toNat default).Version)], [v1], [v2], [.int .u32 ((x0.Txs.getD s2.toNat default).Time)]] [] sz32 rfl rfl (fl_cons (one_one rfl) (fl_cons (one_one (one_sl hsl3)) (fl_cons (one_one (one_sl hsl4)) (fl_cons (one_one rfl) fl_nil)))) hI rfl hA rfl rfl rfl rfl fun w hI => ?_
      refine o_nil <| hN7 _ _ <| w_reg <| stm hA rfl rfl fun a hA => 
        stp hA (r_ldA (j := 0) [] [[.int .u32 ((x0.Txs.getD s2.toNat default).Version)], [v1], [v2], [.int .u32 ((x0.Txs.getD s2.toNat default).Time)]] [] Tryd.underlying32 rfl sz32 rfl hI rfl hA rfl rfl) rfl fun a hA => ?_
      obtain ⟨r1, hr1, H⟩ := bB H
      refine o_callp (u := .agg [av .u8 32 r1].flatten.toArray) cf79 hA rfl hI (tx_ID.c μ _ hI.agr (x0.Txs.getD s2.toNat default) v1 v2 ⟨hw1.1, hw1.2.1, hw1.2.2.1, hw1.2.2.2⟩ r1 hr1) rfl fun a w hz3 hI hA => ?_
      have hE1 : Els (RA .u8 32) 32 ([r1] : List (List Int)) _ := (Els.cons (c := [av .u8 32 r1].flatten) ⟨rfl, hz3⟩ rfl Els.nil)
      refine o_bsl ([av .u8 32 r1].flatten ++ ([])) te26 zr26 Tryd.underlying62 hI hA rfl rfl rfl rfl (by kernel_rfl) rfl fun g3 a w hA hI => ?_
      generalize hcs : ([av .u8 32 r1].flatten ++ ([]) : List Value) = cs1 at hE1 hI
      clear hcs
      obtain ⟨hb2, H⟩ := bG H
      have hE3 := ws1.app hE1
      refine o_appG (xs := (s1 : List (List Int))) (ys := (([r1] : List (List Int)) : List (List Int))) (M := 4398046511104) 2 te26 Tryd.underlying62 hI rfl hA rfl rfl (src_row hI (j := 0) rfl) hE1.len (hE1.ones (one_RA _ _)) hb2 rfl fun v3 a w hA hI => 
        sta hA rfl rfl fun a hA => ?_
      refine o_nil <| hN6 _ _ <| w_reg <| stp hA (r_add hA rfl rfl) rfl fun a hA => 
        stm hA rfl rfl fun a hA => ?_
      refine o_nil <| ⟨m1, Nat.lt_succ_self _, s1 ++ ([r1] : List (List Int)), IntKind.i64.wrap (s2 + 1), v3, ccs1 ++ cs1, H, hE3, (wrap_in _ _), hA.sub ⟨rfl, rfl, rfl, rfl, rfl, trivial⟩, (hI.sl [2, 3] rfl)⟩
    · obtain ⟨hc1, H⟩ := dF H hc1
      refine w_exit rfl ?_
      have H : some s1 = some z1 := H
      obtain rfl := sI H
      have H := Hk2
      cases sJ H
      exact ⟨vvs1, ccs1, ws1, hA.sub ⟨rfl, rfl, trivial⟩, hI⟩
  · rintro a w ⟨vvc1, ccc1, wc1, hA, hI⟩
    have H := Hk1
    refine w_seq fun _ hN8 => w_reg <| stm hA rfl rfl fun a hA => 
      sta hA rfl rfl fun a hA => ?_
    refine o_nil <| hN8 _ _ <| w_ret ?_
    obtain rfl := sJ H
    exact ret1 hA Tryd.results48 rfl ⟨_, rfl, vvc1, ccc1, rfl, wc1, ((hI.sl [0] rfl).less (Store.le.refl _) hI.le)⟩
set_option maxRecDepth 20000 in
theorem notes_New.c (μ : Store) (w0 : World) (hμ : Agr μ w0) (x0 : Int) (hx0 : InR .i64 x0) (e7 : Value) (he7 : ErS μ e7 (Er.b 8)) (r : (Option notesLog) × Er) (H : notes_New.f x0 = some r) :
    Calls Tryd.prog 28 [.int .i64 x0].toArray w0 (fun e w' => ∃ v, e = .returned v ∧ (((r.1) = none ∧ ∃ (v1 : Value) (μ' : Store), v = .tuple #[.pointer none, v1] ∧ ErS μ' v1 (r.2) ∧ Iv w0 [] μ μ' [] w') ∨ (∃ pq : notesLog, (r.1) = some pq ∧ ∃ (gq_1 : Nat) (vp_1 : Value) (cp_1 : List Value) (gm_1 : Nat) (v1 : Value) (μ' : Store), v = .tuple #[.pointer (some ⟨gq_1, 0, none⟩), v1] ∧ InR .i64 pq.most ∧ InR .i64 pq.op ∧ Els (RNote μ') 34 pq.l cp_1 ∧ mw131 pq.lost ∧ ErS μ' v1 (r.2) ∧ Iv w0 [] μ μ' [cel gq_1 [[.int .i64 pq.most], [.int .i64 pq.op], [vp_1], [.map (some gm_1)]] 133, row 79 34 vp_1 pq.l.length cp_1, mpI gm_1 (ent kv131 vv131 pq.lost)] w'))) := by
  refine enter Tryd.func28 rfl Tryd.ntmps28 rfl fun a hA => ?_
  have hI := Iv.start hμ
  have H := bI H
  refine w_seq fun _ hN1 => w_reg <| sta hA rfl rfl fun a hA => 
    sta hA rfl rfl fun a hA => ?_
  refine o_nil <| hN1 _ _ <| w_seq fun _ hN2 => ?_
  obtain ⟨c1, hz1, Hk1⟩ := bB H
  refine w_cut (fun a w => Fr a 15 [(0, .int .i64 x0), (2, .pointer none), (3, .nilIface), (9, .bool c1)] ∧ Iv w0 [] μ μ [] w) ?_ ?_
  · have H := bI hz1
    refine w_reg <| stm hA rfl rfl fun a hA => 
      stp hA (r_lss hA rfl rfl) rfl fun a hA => 
      stm hA rfl rfl fun a hA => ?_
    rcases Bool.eq_false_or_eq_true (decide (x0 < 1)) with hc1 | hc1
    · have hc10 := hc1; obtain ⟨hc1, H⟩ := dT H hc1
      refine o_no hA rfl rfl (by rw [hc10]; simp [vb]) rfl fun a hA => 
        o_no hA rfl rfl (by rw [hc10]; simp [vb]) rfl fun a hA => 
        stp hA (r_pick_t hA rfl hc10 rfl) rfl fun a hA => ?_
      refine o_nil ?_
      cases sJ H
      exact ⟨hA.sub ⟨rfl, rfl, rfl, rfl, trivial⟩, hI⟩
    · have hc10 := hc1; obtain ⟨hc1, H⟩ := dF H hc1
      refine o_yes hA rfl rfl hc10 <| 
        stm hA rfl rfl fun a hA => 
        o_yes hA rfl rfl hc10 <| 
        stp hA (r_gtr hA rfl rfl) rfl fun a hA => 
        stp hA (r_pick_f hA rfl hc10 rfl) rfl fun a hA => ?_
      refine o_nil ?_
      cases sJ H
      exact ⟨hA.sub ⟨rfl, rfl, rfl, rfl, trivial⟩, hI⟩
  · rintro a w ⟨hA, hI⟩
    have H := Hk1
    refine w_cond hA rfl (fun hc2 => ?_) (fun hc2 => ?_)
    · have H := bT H hc2
      refine w_seq fun _ hN3 => ?_
      refine w_draw mo (by kernel_rfl) hI ?_
      refine qtp hA (fun _ hI => r_ldG Tryd.underlying47 rfl hI.agr he7 hA) rfl fun a hA => 
        qtp hA (fun _ hI => r_as hA rfl) rfl fun a hA => 
        qtp hA (fun _ hI => r_as hA rfl) rfl fun a hA => ?_
      refine q_nil fun w hI => ?_
      refine hN3 _ _ <| w_ret ?_
      obtain rfl := sJ H
      exact ret2 hA Tryd.results28 rfl rfl ⟨_, rfl, .inl ⟨rfl, e7, μ, rfl, he7, hI⟩⟩
    · have hc2 := ft hc2; have H := bF H hc2
      refine w_skip <| hN2 _ _ <| w_seq fun _ hN4 => w_reg <| stm hA rfl rfl fun a hA => 
        o_mkmap kv131 vv131 hI hA rfl fun g1 a w hI hA => 
        stp hA (r_bldS (cs := [[.int .i64 x0], [.int .i64 0], [(.slice none 0 0)], [.map (some g1)]].flatten.toArray) (pl := [(0, 1), (1, 1), (2, 1), (3, 1)]) zr133 Tryd.underlying133 ⟨rfl, sz3, rfl, sz3, rfl, sz76, rfl, sz131, trivial⟩ hA rfl ((fill_seg [] [[.int .i64 0]] [[.int .i64 x0]] [[.int .i64 0], [(.slice none 0 0)], [.map none]] rfl rfl rfl rfl rfl).trans ((fill_seg [[.int .i64 x0], [.int .i64 0], [(.slice none 0 0)]] [[.map none]] [[.map (some g1)]] [] rfl rfl rfl rfl rfl).trans (rfl)))) rfl fun a hA => 
        o_box [[.int .i64 x0], [.int .i64 0], [(.slice none 0 0)], [.map (some g1)]] hI hA rfl rfl rfl fun g2 a w hA hI hg2 => 
        sta hA rfl rfl fun a hA => 
        sta hA rfl rfl fun a hA => ?_
      refine o_nil <| hN4 _ _ <| w_ret ?_
      have hI := hI.nilRow 79 34
      obtain rfl := sJ H
      exact ret2 hA Tryd.results28 rfl rfl ⟨_, rfl, .inr ⟨_, rfl, g2, (.slice none 0 0), [], g1, .nilIface, μ, rfl, hx0, (in_lit .i64 0 rfl), (Els.nil (RE := (RNote μ)) (sz := 34)), mw_nil, erv_nil, (hI.sl [1, 0, 2] rfl)⟩⟩
set_option maxRecDepth 20000 in
theorem slices_Clone_api_Note_api_Note.c (μ : Store) (w0 : World) (hμ : Agr μ w0) (x0 : List Note) (u0 : Value) (hx0 : Slc (RNote μ) 34 μ u0 x0) (r : List Note) (H : slices_Clone_api_Note_api_Note.f x0 = some r) :
    Calls Tryd.prog 69 [u0].toArray w0 (fun e w' => ∃ v, e = .returned v ∧ ∃ (v0 : Value) (c0 : List Value), v = v0 ∧ Els (RNote μ) 34 r c0 ∧ Iv w0 [] μ μ [row 79 34 v0 r.length c0] w') := by
  obtain ⟨hb, H⟩ := guard_some H
  obtain rfl := sI H
  obtain ⟨cs, hE, A, cp, rfl, h2, h3, h4, h5⟩ := hx0
  refine enter Tryd.func69 rfl Tryd.ntmps69 rfl fun a hA => ?_
  have hI := Iv.start hμ
  refine w_seq fun _ hN1 => w_reg (stp hA (r_as hA rfl) rfl fun a hA => o_nil (hN1 _ _ ?_))
  refine w_seq fun _ hN2 => w_seq fun _ hN3 => w_reg (stp hA (r_mv hA rfl) rfl fun a hA => stp hA (r_eqnil Tryd.underlying76 hA rfl rfl) rfl fun a hA => o_nil (hN3 _ _ ?_))
  refine w_cond hA rfl (fun hc => ?_) (fun hc => ?_)
  · have hx : x0 = [] := List.eq_nil_of_length_eq_zero (by
      rcases Nat.eq_zero_or_pos x0.length with h | h
      · exact h
      · rw [h4 (by omega)] at hc; cases hc)
    subst hx
    cases hE
    refine w_seq fun _ hN4 => w_reg (stp hA (r_as hA rfl) rfl fun a hA => o_nil (hN4 _ _ ?_))
    refine w_ret ?_
    have hI := hI.nilRow 79 34
    exact ret1 hA Tryd.results69 rfl ⟨_, rfl, .slice none 0 0, [], rfl, .nil, hI⟩
  · refine w_skip (hN2 _ _ ?_)
    refine w_seq fun _ hN5 => w_reg ?_
    refine o_bsl [] te79 zr79 Tryd.underlying76 hI hA rfl rfl rfl rfl (by kernel_rfl) rfl fun g a w hA hI => ?_
    refine stp hA (r_mv hA rfl) rfl fun a hA => ?_
    refine o_appL (xs := ([] : List Note)) (ys := x0) (j := 0) te79 Tryd.underlying76 hI rfl hA rfl rfl (src_sl hI.agr ⟨A, cp, rfl, h2, h3, h4, h5⟩ hE.len) hE.len (hE.ones RNote.ones) (by simp only [List.length_nil, maxLen]; omega) (by simp only [List.length_nil]; omega) rfl fun v a w hA hI => ?_
    refine stp hA (r_as hA rfl) rfl fun a hA => o_nil (hN5 _ _ (w_ret ?_))
    exact ret1 hA Tryd.results69 rfl ⟨_, rfl, v, cs, rfl, hE, hI⟩
set_option maxRecDepth 20000 in
theorem notes_Log_All.c (μ : Store) (w0 : World) (hμ : Agr μ w0) (x0 : notesLog) (vp1 : Value) (cp1 : List Value) (gm1 : Nat) (g0 : Nat) (hp1 : InR .i64 x0.most) (hp2 : InR .i64 x0.op) (hp3 : Els (RNote μ) 34 x0.l cp1) (hp4 : mw131 x0.lost) (ho0 : Its μ w0 [cel g0 [[.int .i64 x0.most], [.int .i64 x0.op], [vp1], [.map (some gm1)]] 133, row 79 34 vp1 x0.l.length cp1, mpI gm1 (ent kv131 vv131 x0.lost)]) (r : List Note) (H : notes_Log_All.f x0 = some r) :
    Calls Tryd.prog 31 [.pointer (some ⟨g0, 0, none⟩)].toArray w0 (fun e w' => ∃ v, e = .returned v ∧ ∃ (v0 : Value) (c0 : List Value), v = v0 ∧ Els (RNote μ) 34 r c0 ∧ Iv w0 (many [cel g0 [[.int .i64 x0.most], [.int .i64 x0.op], [vp1], [.map (some gm1)]] 133, row 79 34 vp1 x0.l.length cp1, mpI gm1 (ent kv131 vv131 x0.lost)]).foot μ μ [row 79 34 v0 r.length c0, cel g0 [[.int .i64 x0.most], [.int .i64 x0.op], [vp1], [.map (some gm1)]] 133, row 79 34 vp1 x0.l.length cp1, mpI gm1 (ent kv131 vv131 x0.lost)] w') := by
  refine enter Tryd.func31 rfl Tryd.ntmps31 rfl fun a hA => ?_
  have hI := Iv.startN hμ ho0
  have H := bI H
  refine w_seq fun _ hN1 => w_reg <| sta hA rfl rfl fun a hA => ?_
  refine o_nil <| hN1 _ _ <| w_seq fun _ hN2 => w_reg <| stm hA rfl rfl fun a hA => 
    stp hA (r_nilc hA rfl) rfl fun a hA => 
    stp hA (r_fd (k := 2) Tryd.underlying133 rfl sz76 hA rfl rfl) rfl fun a hA => 
    stp hA (r_ld1 (j := 0) [[.int .i64 x0.most], [.int .i64 x0.op]] [[.map (some gm1)]] Tryd.underlying76 rfl hI rfl hA rfl rfl) rfl fun a hA => ?_
  obtain ⟨r1, hr1, H⟩ := bB H
  refine o_callW (fun w v w' => ∃ (v0 : Value) (c0 : List Value), v = v0 ∧ Els (RNote μ) 34 r1 c0 ∧ Iv w [] μ μ [row 79 34 v0 r1.length c0] w') cf69 hA rfl ((by obtain ⟨μ1, hle1, hsv1, hI⟩ := hI.freezeRow 1 rfl; have hS1 : Slc (RNote μ1) 34 μ1 vp1 x0.l := ⟨_, hp3, hsv1⟩; exact (slices_Clone_api_Note_api_Note.c μ1 _ hI.agr x0.l vp1 hS1 r1 hr1).mono fun _ _ ⟨v, he, b0, b1, hv, f0, hi⟩ => ⟨v, he, b0, b1, hv, f0, hi.low hle1⟩)) rfl fun v1 a w hz1 hA => ?_
  obtain ⟨_, cs1, rfl, hE1, hi1⟩ := hz1
  have hI := hI.call hi1
  refine sta hA rfl rfl fun a hA => ?_
  refine o_nil <| hN2 _ _ <| w_ret ?_
  obtain rfl := sJ H
  exact ret1 hA Tryd.results31 rfl ⟨_, rfl, v1, cs1, rfl, hE1, (hI.less (Store.le.refl _) hI.le)⟩
set_option maxRecDepth 20000 in
theorem notes_Log_Add.c (μ : Store) (w0 : World) (hμ : Agr μ w0) (x0 : notesLog) (vp1 : Value) (cp1 : List Value) (gm1 : Nat) (g0 : Nat) (hp1 : InR .i64 x0.most) (hp2 : InR .i64 x0.op) (hp3 : Els (RNote μ) 34 x0.l cp1) (hp4 : mw131 x0.lost) (ho0 : Its μ w0 [cel g0 [[.int .i64 x0.most], [.int .i64 x0.op], [vp1], [.map (some gm1)]] 133, row 79 34 vp1 x0.l.length cp1, mpI gm1 (ent kv131 vv131 x0.lost)]) (x1 : List Int) (hx1 : Arr .u8 32 x1) (x2 : Int) (hx2 : InR .i64 x2) (e7 : Value) (he7 : ErS μ e7 (Er.b 8)) (r : Er × notesLog) (H : notes_Log_Add.f x0 x1 x2 = some r) :
    Calls Tryd.prog 30 [.pointer (some ⟨g0, 0, none⟩), .agg [av .u8 32 x1].flatten.toArray, .int .i64 x2].toArray w0 (fun e w' => ∃ v, e = .returned v ∧ ∃ (v0 : Value) (vp_1 : Value) (cp_1 : List Value) (gm_1 : Nat) (μ' : Store), v = v0 ∧ ErS μ' v0 (r.1) ∧ InR .i64 (r.2).most ∧ InR .i64 (r.2).op ∧ Els (RNote μ') 34 (r.2).l cp_1 ∧ mw131 (r.2).lost ∧ Iv w0 (many [cel g0 [[.int .i64 x0.most], [.int .i64 x0.op], [vp1], [.map (some gm1)]] 133, row 79 34 vp1 x0.l.length cp1, mpI gm1 (ent kv131 vv131 x0.lost)]).foot μ μ' [cel g0 [[.int .i64 ((r.2).most)], [.int .i64 ((r.2).op)], [vp_1], [.map (some gm_1)]] 133, row 79 34 vp_1 ((r.2).l).length cp_1, mpI gm_1 (ent kv131 vv131 ((r.2).lost))] w') := by
  refine enter Tryd.func30 rfl Tryd.ntmps30 rfl fun a hA => ?_
  have hI := Iv.startN hμ ho0
  have H := bI H
  refine w_seq fun _ hN1 => w_reg <| o_box [av .u8 32 x1] hI hA rfl rfl rfl fun g1 a w hA hI hg1 => 
    sta hA rfl rfl fun a hA => ?_
  refine o_nil <| hN1 _ _ <| w_seq fun _ hN2 => ?_
  obtain ⟨c1, hz1, Hk1⟩ := bB H
  refine w_cut (fun a w => Fr a 62 [(0, .pointer (some ⟨g0, 0, none⟩)), (2, .int .i64 x2), (4, .pointer (some ⟨g1, 0, none⟩)), (6, .nilIface), (12, .bool c1)] ∧ Iv w0 (many [cel g0 [[.int .i64 x0.most], [.int .i64 x0.op], [vp1], [.map (some gm1)]] 133, row 79 34 vp1 x0.l.length cp1, mpI gm1 (ent kv131 vv131 x0.lost)]).foot μ μ [cel g1 [av .u8 32 x1] 26, cel g0 [[.int .i64 x0.most], [.int .i64 x0.op], [vp1], [.map (some gm1)]] 133, row 79 34 vp1 x0.l.length cp1, mpI gm1 (ent kv131 vv131 x0.lost)] w) ?_ ?_
  · have H := bI hz1
    refine w_reg <| stm hA rfl rfl fun a hA => 
      stp hA (r_lss hA rfl rfl) rfl fun a hA => 
      stm hA rfl rfl fun a hA => ?_
    rcases Bool.eq_false_or_eq_true (decide (x2 < 1)) with hc1 | hc1
    · have hc10 := hc1; obtain ⟨hc1, H⟩ := dT H hc1
      refine o_no hA rfl rfl (by rw [hc10]; simp [vb]) rfl fun a hA => 
        o_no hA rfl rfl (by rw [hc10]; simp [vb]) rfl fun a hA => 
        stp hA (r_pick_t hA rfl hc10 rfl) rfl fun a hA => ?_
      refine o_nil ?_
      cases sJ H
      exact ⟨hA.sub ⟨rfl, rfl, rfl, rfl, rfl, trivial⟩, hI⟩
    · have hc10 := hc1; obtain ⟨hc1, H⟩ := dF H hc1
      refine o_yes hA rfl rfl hc10 <| 
        stm hA rfl rfl fun a hA => 
        o_yes hA rfl rfl hc10 <| 
        stp hA (r_gtr hA rfl rfl) rfl fun a hA => 
        stp hA (r_pick_f hA rfl hc10 rfl) rfl fun a hA => ?_
      refine o_nil ?_
      cases sJ H
      exact ⟨hA.sub ⟨rfl, rfl, rfl, rfl, rfl, trivial⟩, hI⟩
  · rintro a w ⟨hA, hI⟩
    have H := Hk1
    refine w_cond hA rfl (fun hc2 => ?_) (fun hc2 => ?_)
    · have H := bT H hc2
      refine w_seq fun _ hN3 => w_reg <| stp hA (r_ldG Tryd.underlying47 rfl hI.agr he7 hA) rfl fun a hA => 
        sta hA rfl rfl fun a hA => ?_
      refine o_nil <| hN3 _ _ <| w_ret ?_
      obtain rfl := sJ H
      exact ret1 hA Tryd.results30 rfl ⟨_, rfl, e7, vp1, cp1, gm1, μ, rfl, he7, hp1, hp2, hp3, hp4, (hI.sl [1, 2, 3] rfl)⟩
    · have hc2 := ft hc2; have H := bF H hc2
      refine w_skip <| hN2 _ _ <| w_seq fun _ hN4 => ?_
      refine w_any [13, 16] mo hI fun w hI => ?_
      refine gE 0 hA rfl (.inr hI) (fun _ => r_mv hA rfl) fun a hA => ?_
      refine gE 1 hA rfl (.inr hI) (fun _ => r_mv hA rfl) fun a hA => ?_
      refine gE 2 hA rfl (.inr hI) (fun _ => r_nilc hA rfl) fun a hA => ?_
      refine gE 3 hA rfl (.inr hI) (fun _ => r_fd (k := 2) Tryd.underlying133 rfl sz76 hA rfl rfl) fun a hA => ?_
      refine gT 4 hA rfl hI (fun w hI => r_ld1 (j := 1) [[.int .i64 x0.most], [.int .i64 x0.op]] [[.map (some gm1)]] Tryd.underlying76 rfl hI rfl hA rfl rfl) fun a hA => ?_
      refine gE 5 hA rfl (.inr hI) (fun _ => r_mv hA rfl) fun a hA => ?_
      refine gE 6 hA rfl (.inr hI) (fun _ => r_nilc hA rfl) fun a hA => ?_
      refine gE 7 hA rfl (.inr hI) (fun _ => r_fd (k := 1) Tryd.underlying133 rfl sz3 hA rfl rfl) fun a hA => ?_
      refine gT 8 hA rfl hI (fun w hI => r_ld1 (j := 1) [[.int .i64 x0.most]] [[vp1], [.map (some gm1)]] Tryd.underlying3 rfl hI rfl hA rfl rfl) fun a hA => ?_
      refine gT 9 hA rfl hI (fun w hI => r_ldA (j := 0) [] [av .u8 32 x1] [] Tryd.underlying26 rfl sz26 rfl hI rfl hA rfl rfl) fun a hA => ?_
      refine gE 10 hA rfl (.inr hI) (fun _ => r_mv hA rfl) fun a hA => ?_
      refine gF 11 rfl ?_
      refine stp hA (r_bldS (cs := [[.int .i64 x0.op], av .u8 32 x1, [.int .i64 x2]].flatten.toArray) (pl := [(0, 1), (1, 32), (33, 1)]) zr79 Tryd.underlying79 ⟨rfl, sz3, rfl, sz26, rfl, sz3, trivial⟩ hA rfl (by kernel_rfl)) rfl fun a hA => ?_
      refine o_nil <| ⟨(.inr hI), ?_⟩
      refine gF 12 rfl ?_
      have hE1 : Els (RNote μ) 34 ([(⟨x0.op, x1, x2⟩ : Note)] : List Note) _ := (Els.cons (c := [[.int .i64 x0.op], av .u8 32 x1, [.int .i64 x2]].flatten) ⟨rfl, ⟨hp2, hx1, hx2⟩⟩ rfl Els.nil)
      refine o_bsl ([[.int .i64 x0.op], av .u8 32 x1, [.int .i64 x2]].flatten ++ ([])) te79 zr79 Tryd.underlying76 hI hA rfl rfl rfl rfl (by kernel_rfl) rfl fun g2 a w hA hI => ?_
      generalize hcs : ([[.int .i64 x0.op], av .u8 32 x1, [.int .i64 x2]].flatten ++ ([]) : List Value) = cs1 at hE1 hI
      clear hcs
      refine o_nil <| ⟨(.inr (hI.sl [1, 2, 3, 4] rfl)), ?_⟩
      refine gF 13 rfl ?_
      obtain ⟨hb1, H⟩ := bG H
      have hE3 := hp3.app hE1
      refine o_appG (xs := (x0.l : List Note)) (ys := (([(⟨x0.op, x1, x2⟩ : Note)] : List Note) : List Note)) (M := 2932031007402) 3 te79 Tryd.underlying76 hI rfl hA rfl rfl (src_row hI (j := 0) rfl) hE1.len (hE1.ones RNote.ones) hb1 rfl fun v1 a w hA hI => ?_
      refine o_nil <| ⟨(.inl (by kernel_rfl)), ?_⟩
      refine gE 14 hA rfl (.inl (by kernel_rfl)) (fun _ => r_nilc hA rfl) fun a hA => ?_
      refine gE 15 hA rfl (.inl (by kernel_rfl)) (fun _ => r_fd (k := 2) Tryd.underlying133 rfl sz76 hA rfl rfl) fun a hA => ?_
      refine gF 16 rfl ?_
      have hone := own_one hI (j := 3) rfl
      have hcel := own_cell hI (j := 3) rfl
      refine o_st (j := 2) [[.int .i64 x0.most], [.int .i64 x0.op]] [[vp1]] [[v1]] [[.map (some gm1)]] sz76 rfl rfl (by intro c hc; simp at hc; subst hc; exact hone) hI rfl hA rfl rfl hcel rfl fun w hI => ?_
      refine o_nil <| ⟨(.inl (by kernel_rfl)), ?_⟩
      refine gN <| hN4 _ _ ?_
      obtain ⟨⟨c2, c3⟩, hz2, Hk2⟩ := bB H
      refine w_cut (fun a w => ∃ (μ1 : Store) (vvc2 : Value) (ccc2 : List Value), μ.le μ1 ∧ Els (RNote μ1) 34 c2 ccc2 ∧ mw131 c3 ∧ Fr a 62 [(6, .nilIface)] ∧ Iv w0 (many [cel g0 [[.int .i64 x0.most], [.int .i64 x0.op], [vp1], [.map (some gm1)]] 133, row 79 34 vp1 x0.l.length cp1, mpI gm1 (ent kv131 vv131 x0.lost)]).foot μ μ1 [row 79 34 vvc2 c2.length ccc2, row 79 34 (.slice (some ⟨g2, 0, none⟩) 1 1) ([(⟨x0.op, x1, x2⟩ : Note)] : List Note).length cs1, cel g1 [av .u8 32 x1] 26, cel g0 [[.int .i64 x0.most], [.int .i64 x0.op], [vvc2], [.map (some gm1)]] 133, mpI gm1 (ent kv131 vv131 c3)] w) ?_ ?_
      · have H := bI hz2
        refine w_seq fun _ hN5 => ?_
        refine w_draw mo (by kernel_rfl) hI ?_
        refine qtp hA (fun _ hI => r_mv hA rfl) rfl fun a hA => 
          qtp hA (fun _ hI => r_nilc hA rfl) rfl fun a hA => 
          qtp hA (fun _ hI => r_fd (k := 2) Tryd.underlying133 rfl sz76 hA rfl rfl) rfl fun a hA => 
          qtp hA (fun _ hI => r_ld1 (j := 2) [[.int .i64 x0.most], [.int .i64 x0.op]] [[.map (some gm1)]] Tryd.underlying76 rfl hI rfl hA rfl rfl) rfl fun a hA => 
          qtp hA (fun _ hI => r_rlen (xs := 0) Tryd.underlying76 hI (j := 3) rfl hA rfl) rfl fun a hA => 
          qtp hA (fun _ hI => r_mv hA rfl) rfl fun a hA => 
          qtp hA (fun _ hI => r_nilc hA rfl) rfl fun a hA => 
          qtp hA (fun _ hI => r_fd (k := 0) Tryd.underlying133 rfl sz3 hA rfl rfl) rfl fun a hA => 
          qtp hA (fun _ hI => r_ld1 (j := 2) [] [[.int .i64 x0.op], [v1], [.map (some gm1)]] Tryd.underlying3 rfl hI rfl hA rfl rfl) rfl fun a hA => 
          qtp hA (fun _ hI => r_gtr hA rfl rfl) rfl fun a hA => ?_
        refine q_nil fun w hI => ?_
        refine hN5 _ _ <| w_cond hA rfl (fun hc3 => ?_) (fun hc3 => ?_)
        · obtain ⟨hc3, H⟩ := dT H hc3
          refine w_seq fun _ hN6 => ?_
          refine w_any [13] mo hI fun w hI => ?_
          refine gE 0 hA rfl (.inr hI) (fun _ => r_mv hA rfl) fun a hA => ?_
          refine gE 1 hA rfl (.inr hI) (fun _ => r_nilc hA rfl) fun a hA => ?_
          refine gE 2 hA rfl (.inr hI) (fun _ => r_fd (k := 3) Tryd.underlying133 rfl sz131 hA rfl rfl) fun a hA => ?_
          refine gT 3 hA rfl hI (fun w hI => r_ld1 (j := 2) [[.int .i64 x0.most], [.int .i64 x0.op], [v1]] [] Tryd.underlying131 rfl hI rfl hA rfl rfl) fun a hA => ?_
          refine gE 4 hA rfl (.inr hI) (fun _ => r_mv hA rfl) fun a hA => ?_
          refine gE 5 hA rfl (.inr hI) (fun _ => r_nilc hA rfl) fun a hA => ?_
          refine gE 6 hA rfl (.inr hI) (fun _ => r_fd (k := 2) Tryd.underlying133 rfl sz76 hA rfl rfl) fun a hA => ?_
          refine gT 7 hA rfl hI (fun w hI => r_ld1 (j := 2) [[.int .i64 x0.most], [.int .i64 x0.op]] [[.map (some gm1)]] Tryd.underlying76 rfl hI rfl hA rfl rfl) fun a hA => ?_
          obtain ⟨hb2, H⟩ := bG H
          refine gT 8 hA rfl hI (fun w hI => r_rix (j := 3) Tryd.underlying76 sz79 hI rfl hA rfl rfl (by decide) hb2) fun a hA => ?_
          refine gE 9 hA rfl (.inr hI) (fun _ => r_fd (k := so v1 + (0 : Int).toNat * 34) Tryd.underlying79 rfl sz3 hA rfl rfl) fun a hA => ?_
          obtain ⟨A1, _, B1, hc4, hl1, _, he1⟩ := Els.at_ hE3 (getD_some default (by decide) hb2)
          obtain ⟨rfl, hw1⟩ := he1
          refine gT 10 hA rfl hI (fun w hI => r_rldQ (j := 3) (q := (0 : Int).toNat * 34) (off := 0) A1 B1 [] [av .u8 32 (((x0.l ++ ([(⟨x0.op, x1, x2⟩ : Note)] : List Note)).getD (0 : Int).toNat default).Tx), [.int .i64 (((x0.l ++ ([(⟨x0.op, x1, x2⟩ : Note)] : List Note)).getD (0 : Int).toNat default).Reason)]] hc4 hl1 rfl Tryd.underlying3 rfl hI rfl hA rfl) fun a hA => ?_
          refine gT 11 hA rfl hI (fun w hI => r_look (j := 4) kn131 Tryd.underlying131 mz131 hp4 hw1.1 hI rfl hA rfl rfl) fun a hA => ?_
          refine gE 12 hA rfl (.inr hI) (fun _ => r_add hA rfl rfl) fun a hA => ?_
          refine gF 13 rfl ?_
          refine o_mput (j := 4) (k := (((x0.l ++ ([(⟨x0.op, x1, x2⟩ : Note)] : List Note)).getD (0 : Int).toNat default).Op)) (IntKind.i64.wrap (((mget x0.lost (((x0.l ++ ([(⟨x0.op, x1, x2⟩ : Note)] : List Note)).getD (0 : Int).toNat default).Op)).getD 0) + 1)) kn131 Tryd.underlying131 hp4 hw1.1 hI rfl hA rfl rfl rfl fun w hI => ?_
          refine o_nil <| ⟨(.inl (by kernel_rfl)), ?_⟩
          refine gN <| hN6 _ _ <| w_reg <| stm hA rfl rfl fun a hA => 
            stm hA rfl rfl fun a hA => 
            stp hA (r_nilc hA rfl) rfl fun a hA => 
            stp hA (r_fd (k := 2) Tryd.underlying133 rfl sz76 hA rfl rfl) rfl fun a hA => 
            stp hA (r_ld1 (j := 2) [[.int .i64 x0.most], [.int .i64 x0.op]] [[.map (some gm1)]] Tryd.underlying76 rfl hI rfl hA rfl rfl) rfl fun a hA => ?_
          obtain ⟨μ2, hle2, hsv2, hI⟩ := hI.freezeRow 3 rfl
          have hS1 : Slc (RNote μ2) 34 μ2 v1 (x0.l ++ ([(⟨x0.op, x1, x2⟩ : Note)] : List Note)) := ⟨_, hE3, hsv2⟩
          obtain ⟨hb3, H⟩ := bG H
          obtain ⟨v2, hS2, hr1⟩ := r_sl (P := Tryd.prog) (t := 76) (x := .tmp 57) (l := (some (.const (.int .i64 1)))) (h := none) (i := 1) (j := ((x0.l ++ ([(⟨x0.op, x1, x2⟩ : Note)] : List Note)).length : Int)) Tryd.underlying76 sz79 hS1 hA rfl rfl rfl (by have hq := hb3; omega) (by have hq := hb3; omega) (by have hq := hb3; omega)
          refine stp hA (hr1 _ _ _ _ _ _) rfl fun a hA => ?_
          obtain ⟨r1, hr2, H⟩ := bB H
          refine o_call _ cf69 hA rfl (slices_Clone_api_Note_api_Note.c μ2 _ hI.agr (((x0.l ++ ([(⟨x0.op, x1, x2⟩ : Note)] : List Note)).take (((x0.l ++ ([(⟨x0.op, x1, x2⟩ : Note)] : List Note)).length : Int)).toNat).drop (1 : Int).toNat) v2 hS2 r1 hr2) rfl fun v3 a w hz3 hA => ?_
          obtain ⟨_, cs4, rfl, hE4, hi1⟩ := hz3
          have hI := hI.call hi1
          refine stp hA (r_nilc hA rfl) rfl fun a hA => 
            stp hA (r_fd (k := 2) Tryd.underlying133 rfl sz76 hA rfl rfl) rfl fun a hA => ?_
          have hone := own_one hI (j := 0) rfl
          have hcel := own_cell hI (j := 0) rfl
          refine o_st (j := 3) [[.int .i64 x0.most], [.int .i64 x0.op]] [[v1]] [[v3]] [[.map (some gm1)]] sz76 rfl rfl (by intro c hc; simp at hc; subst hc; exact hone) hI rfl hA rfl rfl hcel rfl fun w hI => ?_
          refine o_nil ?_
          cases sJ H
          exact ⟨μ2, v3, cs4, hle2, hE4, (MW.put hp4 hw1.1 (wrap_in _ _)), hA.sub ⟨rfl, trivial⟩, hI⟩
        · obtain ⟨hc3, H⟩ := dF H hc3
          refine w_skip ?_
          cases sJ H
          exact ⟨μ, v1, cp1 ++ cs1, (Store.le.refl _), hE3, hp4, hA.sub ⟨rfl, trivial⟩, (hI.sl [3, 0, 1, 2, 4] rfl)⟩
      · rintro a w ⟨μ1, vvc2, ccc2, hle1, wc2, wc3, hA, hI⟩
        have H := Hk2
        refine w_seq fun _ hN7 => w_reg <| sta hA rfl rfl fun a hA => ?_
        refine o_nil <| hN7 _ _ <| w_ret ?_
        obtain rfl := sJ H
        exact ret1 hA Tryd.results30 rfl ⟨_, rfl, .nilIface, vvc2, ccc2, gm1, μ1, rfl, erv_nil, hp1, hp2, wc2, wc3, (hI.sl [3, 0, 4] rfl)⟩
set_option maxRecDepth 20000 in
theorem redo_New.c (μ : Store) (w0 : World) (hμ : Agr μ w0) (x0 : Int) (hx0 : InR .i64 x0) (e7 : Value) (he7 : ErS μ e7 (Er.b 8)) (r : (Option redoRedo) × Er) (H : redo_New.f x0 = some r) :
    Calls Tryd.prog 41 [.int .i64 x0].toArray w0 (fun e w' => ∃ v, e = .returned v ∧ (((r.1) = none ∧ ∃ (v1 : Value) (μ' : Store), v = .tuple #[.pointer none, v1] ∧ ErS μ' v1 (r.2) ∧ Iv w0 [] μ μ' [] w') ∨ (∃ pq : redoRedo, (r.1) = some pq ∧ ∃ (gq_1 : Nat) (vp_1 : Value) (v1 : Value) (μ' : Store), v = .tuple #[.pointer (some ⟨gq_1, 0, none⟩), v1] ∧ InR .i64 pq.most ∧ InR .i64 pq.bytes ∧ Slc (RTx μ') 4 μ' vp_1 pq.l ∧ ErS μ' v1 (r.2) ∧ Iv w0 [] μ μ' [cel gq_1 [[.int .i64 pq.most], [.int .i64 pq.bytes], [vp_1]] 141] w'))) := by
  refine enter Tryd.func41 rfl Tryd.ntmps41 rfl fun a hA => ?_
  have hI := Iv.start hμ
  have H := bI H
  refine w_seq fun _ hN1 => w_reg <| sta hA rfl rfl fun a hA => 
    sta hA rfl rfl fun a hA => ?_
  refine o_nil <| hN1 _ _ <| w_seq fun _ hN2 => ?_
  obtain ⟨c1, hz1, Hk1⟩ := bB H
  refine w_cut (fun a w => Fr a 14 [(0, .int .i64 x0), (2, .pointer none), (3, .nilIface), (9, .bool c1)] ∧ Iv w0 [] μ μ [] w) ?_ ?_
  · have H := bI hz1
    refine w_reg <| stm hA rfl rfl fun a hA => 
      stp hA (r_lss hA rfl rfl) rfl fun a hA => 
      stm hA rfl rfl fun a hA => ?_
    rcases Bool.eq_false_or_eq_true (decide (x0 < 1)) with hc1 | hc1
    · have hc10 := hc1; obtain ⟨hc1, H⟩ := dT H hc1
      refine o_no hA rfl rfl (by rw [hc10]; simp [vb]) rfl fun a hA => 
        o_no hA rfl rfl (by rw [hc10]; simp [vb]) rfl fun a hA => 
        stp hA (r_pick_t hA rfl hc10 rfl) rfl fun a hA => ?_
      refine o_nil ?_
      cases sJ H
      exact ⟨hA.sub ⟨rfl, rfl, rfl, rfl, trivial⟩, hI⟩
    · have hc10 := hc1; obtain ⟨hc1, H⟩ := dF H hc1
      refine o_yes hA rfl rfl hc10 <| 
        stm hA rfl rfl fun a hA => 
        o_yes hA rfl rfl hc10 <| 
        stp hA (r_gtr hA rfl rfl) rfl fun a hA => 
        stp hA (r_pick_f hA rfl hc10 rfl) rfl fun a hA => ?_
      refine o_nil ?_
      cases sJ H
      exact ⟨hA.sub ⟨rfl, rfl, rfl, rfl, trivial⟩, hI⟩
  · rintro a w ⟨hA, hI⟩
    have H := Hk1
    refine w_cond hA rfl (fun hc2 => ?_) (fun hc2 => ?_)
    · have H := bT H hc2
      refine w_seq fun _ hN3 => ?_
      refine w_draw mo (by kernel_rfl) hI ?_
      refine qtp hA (fun _ hI => r_ldG Tryd.underlying47 rfl hI.agr he7 hA) rfl fun a hA => 
        qtp hA (fun _ hI => r_as hA rfl) rfl fun a hA => 
        qtp hA (fun _ hI => r_as hA rfl) rfl fun a hA => ?_
      refine q_nil fun w hI => ?_
      refine hN3 _ _ <| w_ret ?_
      obtain rfl := sJ H
      exact ret2 hA Tryd.results41 rfl rfl ⟨_, rfl, .inl ⟨rfl, e7, μ, rfl, he7, hI⟩⟩
    · have hc2 := ft hc2; have H := bF H hc2
      refine w_skip <| hN2 _ _ <| w_seq fun _ hN4 => w_reg <| stm hA rfl rfl fun a hA => 
        stp hA (r_bldS (cs := [[.int .i64 x0], [.int .i64 0], [(.slice none 0 0)]].flatten.toArray) (pl := [(0, 1), (1, 1), (2, 1)]) zr141 Tryd.underlying141 ⟨rfl, sz3, rfl, sz3, rfl, sz35, trivial⟩ hA rfl (by kernel_rfl)) rfl fun a hA => 
        o_box [[.int .i64 x0], [.int .i64 0], [(.slice none 0 0)]] hI hA rfl rfl rfl fun g1 a w hA hI hg1 => 
        sta hA rfl rfl fun a hA => 
        sta hA rfl rfl fun a hA => ?_
      refine o_nil <| hN4 _ _ <| w_ret ?_
      obtain rfl := sJ H
      exact ret2 hA Tryd.results41 rfl rfl ⟨_, rfl, .inr ⟨_, rfl, g1, (.slice none 0 0), .nilIface, μ, rfl, hx0, (in_lit .i64 0 rfl), (slc_nil _ _ _), erv_nil, hI⟩⟩
set_option maxRecDepth 20000 in
theorem redo_Redo_All.c (μ : Store) (w0 : World) (hμ : Agr μ w0) (x0 : redoRedo) (vp1 : Value) (g0 : Nat) (hp1 : InR .i64 x0.most) (hp2 : InR .i64 x0.bytes) (hp3 : Slc (RTx μ) 4 μ vp1 x0.l) (ho0 : Its μ w0 [cel g0 [[.int .i64 x0.most], [.int .i64 x0.bytes], [vp1]] 141]) (r : List Tx) (H : redo_Redo_All.f x0 = some r) :
    Calls Tryd.prog 44 [.pointer (some ⟨g0, 0, none⟩)].toArray w0 (fun e w' => ∃ v, e = .returned v ∧ ∃ (v0 : Value) (c0 : List Value) (μ' : Store), v = v0 ∧ Els (RTx μ') 4 r c0 ∧ Iv w0 (many [cel g0 [[.int .i64 x0.most], [.int .i64 x0.bytes], [vp1]] 141]).foot μ μ' [row 32 4 v0 r.length c0, cel g0 [[.int .i64 x0.most], [.int .i64 x0.bytes], [vp1]] 141] w') := by
  refine enter Tryd.func44 rfl Tryd.ntmps44 rfl fun a hA => ?_
  have hI := Iv.startN hμ ho0
  have H := bI H
  refine w_seq fun _ hN1 => w_reg <| sta hA rfl rfl fun a hA => ?_
  refine o_nil <| hN1 _ _ <| w_seq fun _ hN2 => w_reg <| stm hA rfl rfl fun a hA => 
    stp hA (r_nilc hA rfl) rfl fun a hA => 
    stp hA (r_fd (k := 2) Tryd.underlying141 rfl sz35 hA rfl rfl) rfl fun a hA => 
    stp hA (r_ld1 (j := 0) [[.int .i64 x0.most], [.int .i64 x0.bytes]] [] Tryd.underlying35 rfl hI rfl hA rfl rfl) rfl fun a hA => ?_
  obtain ⟨r1, hr1, H⟩ := bB H
  refine o_call _ cf81 hA rfl (tx_Clones.c μ _ hI.agr x0.l vp1 hp3 r1 hr1) rfl fun v1 a w hz1 hA => ?_
  obtain ⟨_, cs1, μ1, rfl, hE1, hi1⟩ := hz1
  have hI := hI.call hi1
  refine sta hA rfl rfl fun a hA => ?_
  refine o_nil <| hN2 _ _ <| w_ret ?_
  obtain rfl := sJ H
  exact ret1 hA Tryd.results44 rfl ⟨_, rfl, v1, cs1, μ1, rfl, hE1, hI⟩
set_option maxRecDepth 20000 in
theorem redo_Redo_Bytes.c (μ : Store) (w0 : World) (hμ : Agr μ w0) (x0 : redoRedo) (vp1 : Value) (g0 : Nat) (hp1 : InR .i64 x0.most) (hp2 : InR .i64 x0.bytes) (hp3 : Slc (RTx μ) 4 μ vp1 x0.l) (ho0 : Its μ w0 [cel g0 [[.int .i64 x0.most], [.int .i64 x0.bytes], [vp1]] 141]) (r : Int) (H : redo_Redo_Bytes.f x0 = some r) :
    Calls Tryd.prog 45 [.pointer (some ⟨g0, 0, none⟩)].toArray w0 (fun e w' => ∃ v, e = .returned v ∧ v = .int .i64 r ∧ InR .i64 r ∧ Iv w0 (many [cel g0 [[.int .i64 x0.most], [.int .i64 x0.bytes], [vp1]] 141]).foot μ μ [cel g0 [[.int .i64 x0.most], [.int .i64 x0.bytes], [vp1]] 141] w') := by
  refine enter Tryd.func45 rfl Tryd.ntmps45 rfl fun a hA => ?_
  have hI := Iv.startN hμ ho0
  have H := bI H
  refine w_seq fun _ hN1 => w_reg <| sta hA rfl rfl fun a hA => ?_
  refine o_nil <| hN1 _ _ <| w_seq fun _ hN2 => w_reg <| stm hA rfl rfl fun a hA => 
    stp hA (r_nilc hA rfl) rfl fun a hA => 
    stp hA (r_fd (k := 1) Tryd.underlying141 rfl sz3 hA rfl rfl) rfl fun a hA => 
    stp hA (r_ld1 (j := 0) [[.int .i64 x0.most]] [[vp1]] Tryd.underlying3 rfl hI rfl hA rfl rfl) rfl fun a hA => 
    sta hA rfl rfl fun a hA => ?_
  refine o_nil <| hN2 _ _ <| w_ret ?_
  obtain rfl := sJ H
  exact ret1 hA Tryd.results45 rfl ⟨_, rfl, rfl, hp2, (hI.less (Store.le.refl _) hI.le)⟩
set_option maxRecDepth 20000 in
theorem redo_behind.c (μ : Store) (w0 : World) (hμ : Agr μ w0) (x0 : Block) (u0_0 : Value) (hx0 : BlockW μ x0 u0_0) (r : List Tx) (H : redo_behind.f x0 = some r) :
    Calls Tryd.prog 76 [.agg [[.int .u32 x0.Head.Version], av .u8 32 x0.Head.Prev, av .u8 32 x0.Head.Root, [.int .u32 x0.Head.Time], [.int .u32 x0.Head.Work], [.int .u32 x0.Head.Nonce], [u0_0]].flatten.toArray].toArray w0 (fun e w' => ∃ v, e = .returned v ∧ ∃ (v0 : Value) (c0 : List Value) (μ' : Store), v = v0 ∧ Els (RTx μ') 4 r c0 ∧ Iv w0 [] μ μ' [row 32 4 v0 r.length c0] w') := by
  refine enter Tryd.func76 rfl Tryd.ntmps76 rfl fun a hA => ?_
  have hI := Iv.start hμ
  have H := bI H
  refine w_seq fun _ hN1 => w_reg <| o_box [[.int .u32 x0.Head.Version], av .u8 32 x0.Head.Prev, av .u8 32 x0.Head.Root, [.int .u32 x0.Head.Time], [.int .u32 x0.Head.Work], [.int .u32 x0.Head.Nonce], [u0_0]] hI hA rfl rfl rfl fun g1 a w hA hI hg1 => 
    sta hA rfl rfl fun a hA => ?_
  refine o_nil <| hN1 _ _ <| w_seq fun _ hN2 => w_reg <| stp hA (r_fd (k := 68) Tryd.underlying37 rfl sz35 hA rfl rfl) rfl fun a hA => 
    stp hA (r_ld1 (j := 0) [[.int .u32 x0.Head.Version], av .u8 32 x0.Head.Prev, av .u8 32 x0.Head.Root, [.int .u32 x0.Head.Time], [.int .u32 x0.Head.Work], [.int .u32 x0.Head.Nonce]] [] Tryd.underlying35 rfl hI rfl hA rfl rfl) rfl fun a hA => 
    stp hA (r_fd (k := 68) Tryd.underlying37 rfl sz35 hA rfl rfl) rfl fun a hA => 
    stp hA (r_ld1 (j := 0) [[.int .u32 x0.Head.Version], av .u8 32 x0.Head.Prev, av .u8 32 x0.Head.Root, [.int .u32 x0.Head.Time], [.int .u32 x0.Head.Work], [.int .u32 x0.Head.Nonce]] [] Tryd.underlying35 rfl hI rfl hA rfl rfl) rfl fun a hA => ?_
  obtain ⟨_, hsl1⟩ := Slc.sv hx0.2.2.2.2.2.2
  refine stp hA (r_slen Tryd.underlying35 hsl1 hA rfl) rfl fun a hA => 
    stp hA (r_min hA rfl rfl) rfl fun a hA => ?_
  obtain ⟨hb1, H⟩ := bG H
  obtain ⟨v1, hS1, hr1⟩ := r_sl (P := Tryd.prog) (t := 35) (x := .tmp 4) (l := (some (.tmp 8))) (h := none) (i := iMin (x0.Txs.length : Int) 1) (j := (x0.Txs.length : Int)) Tryd.underlying35 sz32 hx0.2.2.2.2.2.2 hA rfl rfl rfl (by have hq := hb1; omega) (by have hq := hb1; omega) (by have hq := hb1; omega)
  refine stp hA (hr1 _ _ _ _ _ _) rfl fun a hA => ?_
  obtain ⟨r1, hr2, H⟩ := bB H
  refine o_call _ cf81 hA rfl (tx_Clones.c μ _ hI.agr ((x0.Txs.take ((x0.Txs.length : Int)).toNat).drop (iMin (x0.Txs.length : Int) 1).toNat) v1 hS1 r1 hr2) rfl fun v2 a w hz1 hA => ?_
  obtain ⟨_, cs1, μ1, rfl, hE1, hi1⟩ := hz1
  have hI := hI.call hi1
  refine sta hA rfl rfl fun a hA => ?_
  refine o_nil <| hN2 _ _ <| w_ret ?_
  obtain rfl := sJ H
  exact ret1 hA Tryd.results76 rfl ⟨_, rfl, v2, cs1, μ1, rfl, hE1, (hI.sl [0] rfl)⟩
set_option maxRecDepth 20000 in
theorem redo_Redo_Back.c (μ : Store) (w0 : World) (hμ : Agr μ w0) (x0 : redoRedo) (vp1 : Value) (g0 : Nat) (hp1 : InR .i64 x0.most) (hp2 : InR .i64 x0.bytes) (hp3 : Slc (RTx μ) 4 μ vp1 x0.l) (x1 : Block) (u1_0 : Value) (hx1 : BlockW μ x1 u1_0) (x2 : notesLog) (vp2 : Value) (cp1 : List Value) (gm1 : Nat) (g2 : Nat) (hp4 : InR .i64 x2.most) (hp5 : InR .i64 x2.op) (hp6 : Els (RNote μ) 34 x2.l cp1) (hp7 : mw131 x2.lost) (ho2 : Its μ w0 [cel g0 [[.int .i64 x0.most], [.int .i64 x0.bytes], [vp1]] 141, cel g2 [[.int .i64 x2.most], [.int .i64 x2.op], [vp2], [.map (some gm1)]] 133, row 79 34 vp2 x2.l.length cp1, mpI gm1 (ent kv131 vv131 x2.lost)]) (e7 : Value) (he7 : ErS μ e7 (Er.b 8)) (r : redoRedo × notesLog) (H : redo_Redo_Back.f x0 x1 x2 = some r) :
    Calls Tryd.prog 42 [.pointer (some ⟨g0, 0, none⟩), .agg [[.int .u32 x1.Head.Version], av .u8 32 x1.Head.Prev, av .u8 32 x1.Head.Root, [.int .u32 x1.Head.Time], [.int .u32 x1.Head.Work], [.int .u32 x1.Head.Nonce], [u1_0]].flatten.toArray, .pointer (some ⟨g2, 0, none⟩)].toArray w0 (fun e w' => ∃ v, e = .returned v ∧ ∃ (vp_1 : Value) (vp_2 : Value) (cp_1 : List Value) (gm_1 : Nat) (μ' : Store), v = .tuple #[] ∧ InR .i64 (r.1).most ∧ InR .i64 (r.1).bytes ∧ Slc (RTx μ') 4 μ' vp_1 (r.1).l ∧ InR .i64 (r.2).most ∧ InR .i64 (r.2).op ∧ Els (RNote μ') 34 (r.2).l cp_1 ∧ mw131 (r.2).lost ∧ Iv w0 (many [cel g0 [[.int .i64 x0.most], [.int .i64 x0.bytes], [vp1]] 141, cel g2 [[.int .i64 x2.most], [.int .i64 x2.op], [vp2], [.map (some gm1)]] 133, row 79 34 vp2 x2.l.length cp1, mpI gm1 (ent kv131 vv131 x2.lost)]).foot μ μ' [cel g0 [[.int .i64 ((r.1).most)], [.int .i64 ((r.1).bytes)], [vp_1]] 141, cel g2 [[.int .i64 ((r.2).most)], [.int .i64 ((r.2).op)], [vp_2], [.map (some gm_1)]] 133, row 79 34 vp_2 ((r.2).l).length cp_1, mpI gm_1 (ent kv131 vv131 ((r.2).lost))] w') := by
  refine enter Tryd.func42 rfl Tryd.ntmps42 rfl fun a hA => ?_
  have hI := Iv.startN hμ ho2
  have H := bI H
  refine w_seq fun _ hN1 => w_reg <| o_box [[.int .u32 x1.Head.Version], av .u8 32 x1.Head.Prev, av .u8 32 x1.Head.Root, [.int .u32 x1.Head.Time], [.int .u32 x1.Head.Work], [.int .u32 x1.Head.Nonce], [u1_0]] hI hA rfl rfl rfl fun g1 a w hA hI hg1 => ?_
  refine o_nil <| hN1 _ _ ?_
  obtain ⟨c1, hz1, Hk1⟩ := bB H
  refine w_cut (fun a w => ∃ (μ1 : Store), μ.le μ1 ∧ InR .i64 c1 ∧ Fr a 86 [(0, .pointer (some ⟨g0, 0, none⟩)), (2, .pointer (some ⟨g2, 0, none⟩)), (4, .pointer (some ⟨g1, 0, none⟩))] ∧ Iv w0 (many [cel g0 [[.int .i64 x0.most], [.int .i64 x0.bytes], [vp1]] 141, cel g2 [[.int .i64 x2.most], [.int .i64 x2.op], [vp2], [.map (some gm1)]] 133, row 79 34 vp2 x2.l.length cp1, mpI gm1 (ent kv131 vv131 x2.lost)]).foot μ μ1 [cel g1 [[.int .u32 x1.Head.Version], av .u8 32 x1.Head.Prev, av .u8 32 x1.Head.Root, [.int .u32 x1.Head.Time], [.int .u32 x1.Head.Work], [.int .u32 x1.Head.Nonce], [u1_0]] 37, cel g0 [[.int .i64 x0.most], [.int .i64 c1], [vp1]] 141, cel g2 [[.int .i64 x2.most], [.int .i64 x2.op], [vp2], [.map (some gm1)]] 133, row 79 34 vp2 x2.l.length cp1, mpI gm1 (ent kv131 vv131 x2.lost)] w) ?_ ?_
  · have H := bI hz1
    refine w_seq fun _ hN2 => w_reg <| stp hA (r_ldA (j := 0) [] [[.int .u32 x1.Head.Version], av .u8 32 x1.Head.Prev, av .u8 32 x1.Head.Root, [.int .u32 x1.Head.Time], [.int .u32 x1.Head.Work], [.int .u32 x1.Head.Nonce], [u1_0]] [] Tryd.underlying37 rfl sz37 rfl hI rfl hA rfl rfl) rfl fun a hA => ?_
    obtain ⟨r1, hr1, H⟩ := bB H
    refine o_call _ cf76 hA rfl (redo_behind.c μ _ hI.agr x1 u1_0 ⟨hx1.1, hx1.2.1, hx1.2.2.1, hx1.2.2.2.1, hx1.2.2.2.2.1, hx1.2.2.2.2.2.1, hx1.2.2.2.2.2.2⟩ r1 hr1) rfl fun v1 a w hz2 hA => ?_
    obtain ⟨_, cs1, μ2, rfl, hE1, hi1⟩ := hz2
    have hI := hI.call hi1
    have hlen1 := Iv.row_in hI (j := 0) rfl
    refine stp hA (r_rlen (xs := 0) Tryd.underlying35 hI (j := 0) rfl hA rfl) rfl fun a hA => 
      stm hA rfl rfl fun a hA => ?_
    refine o_nil <| hN2 _ _ <| w_block ?_
    obtain ⟨z1, hz3, Hk2⟩ := bind_some H
    obtain ⟨n1, hn1⟩ := loopO_some hz3
    refine w_loop (fun n a w => ∃ (s1 : Int) (s2 : Int), loopN (redo_Redo_Back.s0 r1) n (s1, s2) = some z1 ∧ InR .i64 s1 ∧ InR .i64 s2 ∧ Fr a 86 [(0, .pointer (some ⟨g0, 0, none⟩)), (2, .pointer (some ⟨g2, 0, none⟩)), (4, .pointer (some ⟨g1, 0, none⟩)), (10, v1), (11, .int .i64 (r1.length : Int)), (12, .int .i64 s1)] ∧ Iv w0 (many [cel g0 [[.int .i64 x0.most], [.int .i64 x0.bytes], [vp1]] 141, cel g2 [[.int .i64 x2.most], [.int .i64 x2.op], [vp2], [.map (some gm1)]] 133, row 79 34 vp2 x2.l.length cp1, mpI gm1 (ent kv131 vv131 x2.lost)]).foot μ μ2 [row 32 4 v1 r1.length cs1, cel g1 [[.int .u32 x1.Head.Version], av .u8 32 x1.Head.Prev, av .u8 32 x1.Head.Root, [.int .u32 x1.Head.Time], [.int .u32 x1.Head.Work], [.int .u32 x1.Head.Nonce], [u1_0]] 37, cel g0 [[.int .i64 x0.most], [.int .i64 s2], [vp1]] 141, cel g2 [[.int .i64 x2.most], [.int .i64 x2.op], [vp2], [.map (some gm1)]] 133, row 79 34 vp2 x2.l.length cp1, mpI gm1 (ent kv131 vv131 x2.lost)] w) n1 ⟨0, x0.bytes, hn1, (in_lit .i64 0 rfl), hp2, hA.sub ⟨rfl, rfl, rfl, rfl, rfl, rfl, trivial⟩, hI⟩ ?_
    clear hA hI
    rintro n a w ⟨s1, s2, hn1, ws1, ws2, hA, hI⟩
    obtain ⟨m1, rfl, H⟩ := loopN_bind hn1
    clear hn1
    refine w_seq fun _ hN3 => w_reg <| stp hA (r_lss hA rfl rfl) rfl fun a hA => ?_
    refine o_nil <| hN3 _ _ <| w_seq fun _ hN4 => w_cond hA rfl (fun hc1 => ?_) (fun hc1 => ?_)
    · obtain ⟨hc1, H⟩ := dT H hc1
      refine w_skip <| hN4 _ _ <| w_seq fun _ hN5 => w_block <| w_seq fun _ hN6 => w_reg ?_
      obtain ⟨hb1, H⟩ := bG H
      refine stp hA (r_rix (j := 0) Tryd.underlying35 sz32 hI rfl hA rfl rfl hb1.1 hb1.2) rfl fun a hA => ?_
      obtain ⟨A1, _, B1, hc2, hl1, _, he1⟩ := Els.at_ hE1 (getD_some default hb1.1 hb1.2)
      obtain ⟨v2, v3, rfl, hw1⟩ := he1
      refine stp hA (r_rldP (j := 0) (q := s1.toNat * 4) (off := 0) A1 B1 [] [[.int .u32 ((r1.getD s1.toNat default).Version)], [v2], [v3], [.int .u32 ((r1.getD s1.toNat default).Time)]] [] hc2 hl1 rfl Tryd.underlying32 rfl sz32 rfl hI rfl hA rfl) rfl fun a hA => 
        o_new [[.int .u32 0], [(.slice none 0 0)], [(.slice none 0 0)], [.int .u32 0]] zr32 hI hA rfl fun g2 a w hA hI hg2 => ?_
      obtain ⟨_, hsl1⟩ := Slc.sv hw1.2.1
      obtain ⟨_, hsl2⟩ := Slc.sv hw1.2.2.1
      refine o_st (j := 0) [] [[.int .u32 0], [(.slice none 0 0)], [(.slice none 0 0)], [.int .u32 0]] [[.int .u32 ((r1.getD s1.toNat default).Version)], [v2], [v3], [.int .u32 ((r1.getD s1.toNat default).Time)]] [] sz32 rfl rfl (fl_cons (one_one rfl) (fl_cons (one_one (one_sl hsl1)) (fl_cons (one_one (one_sl hsl2)) (fl_cons (one_one rfl) fl_nil)))) hI rfl hA rfl rfl rfl rfl fun w hI => ?_
      refine o_nil <| hN6 _ _ ?_
      refine w_any [9] mo hI fun w hI => ?_
      refine gE 0 hA rfl (.inr hI) (fun _ => r_mv hA rfl) fun a hA => ?_
      refine gE 1 hA rfl (.inr hI) (fun _ => r_nilc hA rfl) fun a hA => ?_
      refine gE 2 hA rfl (.inr hI) (fun _ => r_fd (k := 1) Tryd.underlying141 rfl sz3 hA rfl rfl) fun a hA => ?_
      refine gT 3 hA rfl hI (fun w hI => r_ld1 (j := 3) [[.int .i64 x0.most]] [[vp1]] Tryd.underlying3 rfl hI rfl hA rfl rfl) fun a hA => ?_
      refine gT 4 hA rfl hI (fun w hI => r_ldA (j := 0) [] [[.int .u32 ((r1.getD s1.toNat default).Version)], [v2], [v3], [.int .u32 ((r1.getD s1.toNat default).Time)]] [] Tryd.underlying32 rfl sz32 rfl hI rfl hA rfl rfl) fun a hA => ?_
      refine gF 5 rfl ?_
      obtain ⟨r2, hr2, H⟩ := bB H
      refine o_callp (u := .int .i64 r2) cf77 hA rfl hI (tx_Size.c μ2 _ hI.agr (r1.getD s1.toNat default) v2 v3 ⟨hw1.1, hw1.2.1, hw1.2.2.1, hw1.2.2.2⟩ r2 hr2) rfl fun a w hz4 hI hA => ?_
      refine o_nil <| ⟨(.inr hI), ?_⟩
      refine gE 6 hA rfl (.inr hI) (fun _ => r_add hA rfl rfl) fun a hA => ?_
      refine gE 7 hA rfl (.inr hI) (fun _ => r_nilc hA rfl) fun a hA => ?_
      refine gE 8 hA rfl (.inr hI) (fun _ => r_fd (k := 1) Tryd.underlying141 rfl sz3 hA rfl rfl) fun a hA => ?_
      refine gF 9 rfl ?_
      refine o_st (j := 3) [[.int .i64 x0.most]] [[.int .i64 s2]] [[.int .i64 (IntKind.i64.wrap (s2 + r2))]] [[vp1]] sz3 rfl rfl (fl_cons (one_one rfl) fl_nil) hI rfl hA rfl rfl rfl rfl fun w hI => ?_
      refine o_nil <| ⟨(.inl (by kernel_rfl)), ?_⟩
      refine gN <| hN5 _ _ <| w_reg <| stp hA (r_add hA rfl rfl) rfl fun a hA => 
        stm hA rfl rfl fun a hA => ?_
      refine o_nil <| ⟨m1, Nat.lt_succ_self _, IntKind.i64.wrap (s1 + 1), IntKind.i64.wrap (s2 + r2), H, (wrap_in _ _), (wrap_in _ _), hA.sub ⟨rfl, rfl, rfl, rfl, rfl, rfl, trivial⟩, (hI.sl [1, 2, 3, 4, 5, 6] rfl)⟩
    · obtain ⟨hc1, H⟩ := dF H hc1
      refine w_exit rfl ?_
      have H : some s2 = some z1 := H
      obtain rfl := sI H
      have H := Hk2
      cases sJ H
      exact ⟨μ2, hi1.le, ws2, hA.sub ⟨rfl, rfl, rfl, trivial⟩, (hI.sl [1, 2, 3, 4, 5] rfl)⟩
  · rintro a w ⟨μ1, hle1, wc1, hA, hI⟩
    have H := Hk1
    refine w_seq fun _ hN7 => ?_
    refine w_any [11] mo hI fun w hI => ?_
    refine gE 0 hA rfl (.inr hI) (fun _ => r_mv hA rfl) fun a hA => ?_
    refine gT 1 hA rfl hI (fun w hI => r_ldA (j := 0) [] [[.int .u32 x1.Head.Version], av .u8 32 x1.Head.Prev, av .u8 32 x1.Head.Root, [.int .u32 x1.Head.Time], [.int .u32 x1.Head.Work], [.int .u32 x1.Head.Nonce], [u1_0]] [] Tryd.underlying37 rfl sz37 rfl hI rfl hA rfl rfl) fun a hA => ?_
    refine gE 3 hA rfl (.inr hI) (fun _ => r_mv hA rfl) fun a hA => ?_
    refine gE 4 hA rfl (.inr hI) (fun _ => r_nilc hA rfl) fun a hA => ?_
    refine gE 5 hA rfl (.inr hI) (fun _ => r_fd (k := 2) Tryd.underlying141 rfl sz35 hA rfl rfl) fun a hA => ?_
    refine gT 6 hA rfl hI (fun w hI => r_ld1 (j := 1) [[.int .i64 x0.most], [.int .i64 c1]] [] Tryd.underlying35 rfl hI rfl hA rfl rfl) fun a hA => ?_
    refine gF 2 rfl ?_
    obtain ⟨r3, hr3, H⟩ := bB H
    refine o_call _ cf76 hA rfl (redo_behind.c μ1 _ hI.agr x1 u1_0 ⟨hx1.1, hx1.2.1, hx1.2.2.1, hx1.2.2.2.1, hx1.2.2.2.2.1, hx1.2.2.2.2.2.1, (Slc.le hx1.2.2.2.2.2.2 (fun _ _ h => RTx.le hle1 h) hle1)⟩ r3 hr3) rfl fun v4 a w hz5 hA => ?_
    obtain ⟨_, cs2, μ3, rfl, hE2, hi2⟩ := hz5
    have hI := hI.call hi2
    refine o_nil <| ⟨(.inr ((hI.sl [1, 2, 3, 4, 5] rfl).less hle1 hi2.le)), ?_⟩
    refine gF 7 rfl ?_
    obtain ⟨μ4, hle2, hsv1, hI, hth1⟩ := hI.freezeRowT 0 rfl
    have hS1 : Slc (RTx μ4) 4 μ4 v4 r3 := ⟨_, (Els.mono hE2 (fun _ _ h => RTx.le hle2 h)), hsv1⟩
    have hE3 : Els (RS (RTx μ4) 4 μ4) 1 ([r3, x0.l] : List (List Tx)) _ := (Els.cons (c := [[v4]].flatten) ⟨_, rfl, hS1⟩ rfl (Els.cons (c := [[vp1]].flatten) ⟨_, rfl, (Slc.le hp3 (fun _ _ h => RTx.le ((hle1.trans hi2.le).trans hle2) h) ((hle1.trans hi2.le).trans hle2))⟩ rfl Els.nil))
    refine o_bsl ([[v4]].flatten ++ ([[vp1]].flatten ++ ([]))) te35 zr35 Tryd.underlying165 hI hA rfl rfl rfl rfl ((fill_one (cells1 hS1) rfl (by kernel_rfl)).trans ((fill_one (cells1 (Slc.le hp3 (fun _ _ h => RTx.le ((hle1.trans hi2.le).trans hle2) h) ((hle1.trans hi2.le).trans hle2))) rfl (by kernel_rfl)).trans (by kernel_rfl))) rfl fun g3 a w hA hI => ?_
    generalize hcs : ([[v4]].flatten ++ ([[vp1]].flatten ++ ([])) : List Value) = cs3 at hE3 hI
    clear hcs
    refine o_nil <| ⟨(.inr (((hth1 _ _ hI).sl [2, 3, 4, 5, 6] rfl).less hle1 hi2.le)), ?_⟩
    refine gF 8 rfl ?_
    obtain ⟨μ5, hle3, hsv2, hI, hth2⟩ := hI.freezeRowT 0 rfl
    have hS2 : Slc (RS (RTx μ5) 4 μ5) 1 μ5 (.slice (some ⟨g3, 0, none⟩) 2 2) ([r3, x0.l] : List (List Tx)) := ⟨_, (Els.mono hE3 (fun _ _ h => RS.le (fun _ _ h => RTx.le hle3 h) hle3 h)), hsv2⟩
    obtain ⟨r4, hr4, H⟩ := bB H
    refine o_call _ cf78 hA rfl (slices_Concat_api_Tx_api_Tx.c μ5 _ hI.agr ([r3, x0.l] : List (List Tx)) (.slice (some ⟨g3, 0, none⟩) 2 2) hS2 r4 hr4) rfl fun v5 a w hz6 hA => ?_
    obtain ⟨_, cs4, μ6, rfl, hE4, hi3⟩ := hz6
    have hI := hI.call hi3
    refine o_nil <| ⟨(.inr (((hth1 _ _ (hth2 _ _ (hI.less (((hle1.trans hi2.le).trans hle2).trans hle3) hi3.le))).sl [3, 4, 5, 6, 7] rfl).less hle1 hi2.le)), ?_⟩
    refine gE 9 hA rfl (.inr (((hth1 _ _ (hth2 _ _ (hI.less (((hle1.trans hi2.le).trans hle2).trans hle3) hi3.le))).sl [3, 4, 5, 6, 7] rfl).less hle1 hi2.le)) (fun _ => r_nilc hA rfl) fun a hA => ?_
    refine gE 10 hA rfl (.inr (((hth1 _ _ (hth2 _ _ (hI.less (((hle1.trans hi2.le).trans hle2).trans hle3) hi3.le))).sl [3, 4, 5, 6, 7] rfl).less hle1 hi2.le)) (fun _ => r_fd (k := 2) Tryd.underlying141 rfl sz35 hA rfl rfl) fun a hA => ?_
    refine gF 11 rfl ?_
    have hone := own_one hI (j := 0) rfl
    have hcel := own_cell hI (j := 0) rfl
    refine o_st (j := 2) [[.int .i64 x0.most], [.int .i64 c1]] [[vp1]] [[v5]] [] sz35 rfl rfl (by intro c hc; simp at hc; subst hc; exact hone) hI rfl hA rfl rfl hcel rfl fun w hI => ?_
    refine o_nil <| ⟨(.inl (by kernel_rfl)), ?_⟩
    refine gN <| hN7 _ _ <| w_block ?_
    obtain ⟨μ7, hle4, hsv3, hI⟩ := hI.freezeRow 0 rfl
    have hS3 : Slc (RTx μ7) 4 μ7 v5 r4 := ⟨_, (Els.mono hE4 (fun _ _ h => RTx.le hle4 h)), hsv3⟩
    obtain ⟨z2, hz7, Hk3⟩ := bind_some H
    obtain ⟨n2, hn2⟩ := loopO_some hz7
    refine w_loop (fun n a w => ∃ (s3 : Int) (s4 : List Tx) (s5 : Int) (s6 : Int) (s7 : List Note) (s8 : List (Int × Int)) (μ8 : Store) (vvs4 : Value) (vvs7 : Value) (ccs7 : List Value) (ggs8 : Nat), loopN (redo_Redo_Back.s1 x0) n (s3, s4, s5, s6, s7, s8) = some z2 ∧ μ7.le μ8 ∧ InR .i64 s3 ∧ Slc (RTx μ8) 4 μ8 vvs4 s4 ∧ InR .i64 s5 ∧ InR .i64 s6 ∧ Els (RNote μ8) 34 s7 ccs7 ∧ mw131 s8 ∧ Fr a 86 [(0, .pointer (some ⟨g0, 0, none⟩)), (2, .pointer (some ⟨g2, 0, none⟩))] ∧ Iv w0 (many [cel g0 [[.int .i64 x0.most], [.int .i64 x0.bytes], [vp1]] 141, cel g2 [[.int .i64 x2.most], [.int .i64 x2.op], [vp2], [.map (some gm1)]] 133, row 79 34 vp2 x2.l.length cp1, mpI gm1 (ent kv131 vv131 x2.lost)]).foot μ μ8 [cel g1 [[.int .u32 x1.Head.Version], av .u8 32 x1.Head.Prev, av .u8 32 x1.Head.Root, [.int .u32 x1.Head.Time], [.int .u32 x1.Head.Work], [.int .u32 x1.Head.Nonce], [u1_0]] 37, cel g0 [[.int .i64 x0.most], [.int .i64 s3], [vvs4]] 141, cel g2 [[.int .i64 s5], [.int .i64 s6], [vvs7], [.map (some ggs8)]] 133, row 79 34 vvs7 s7.length ccs7, mpI ggs8 (ent kv131 vv131 s8)] w) n2 ⟨c1, r4, x2.most, x2.op, x2.l, x2.lost, μ7, v5, vp2, cp1, gm1, hn2, (Store.le.refl _), wc1, hS3, hp4, hp5, hp6, hp7, hA.sub ⟨rfl, rfl, trivial⟩, hI⟩ ?_
    clear hA hI
    rintro n a w ⟨s3, s4, s5, s6, s7, s8, μ8, vvs4, vvs7, ccs7, ggs8, hn2, hle5, ws3, ws4, ws5, ws6, ws7, ws8, hA, hI⟩
    obtain ⟨m2, rfl, H⟩ := loopN_bind hn2
    clear hn2
    refine w_seq fun _ hN8 => w_seq fun _ hN9 => ?_
    refine w_draw mo (by kernel_rfl) hI ?_
    refine qtp hA (fun _ hI => r_mv hA rfl) rfl fun a hA => 
      qtp hA (fun _ hI => r_nilc hA rfl) rfl fun a hA => 
      qtp hA (fun _ hI => r_fd (k := 1) Tryd.underlying141 rfl sz3 hA rfl rfl) rfl fun a hA => 
      qtp hA (fun _ hI => r_ld1 (j := 1) [[.int .i64 x0.most]] [[vvs4]] Tryd.underlying3 rfl hI rfl hA rfl rfl) rfl fun a hA => 
      qtp hA (fun _ hI => r_mv hA rfl) rfl fun a hA => 
      qtp hA (fun _ hI => r_nilc hA rfl) rfl fun a hA => 
      qtp hA (fun _ hI => r_fd (k := 0) Tryd.underlying141 rfl sz3 hA rfl rfl) rfl fun a hA => 
      qtp hA (fun _ hI => r_ld1 (j := 1) [] [[.int .i64 s3], [vvs4]] Tryd.underlying3 rfl hI rfl hA rfl rfl) rfl fun a hA => 
      qtp hA (fun _ hI => r_gtr hA rfl rfl) rfl fun a hA => ?_
    refine q_nil fun w hI => ?_
    refine hN9 _ _ <| w_cond hA rfl (fun hc3 => ?_) (fun hc3 => ?_)
    · obtain ⟨hc3, H⟩ := dT H hc3
      refine w_skip <| hN8 _ _ <| w_block <| w_seq fun _ hN10 => w_reg <| stm hA rfl rfl fun a hA => 
        stp hA (r_nilc hA rfl) rfl fun a hA => 
        stp hA (r_fd (k := 2) Tryd.underlying141 rfl sz35 hA rfl rfl) rfl fun a hA => 
        stp hA (r_ld1 (j := 1) [[.int .i64 x0.most], [.int .i64 s3]] [] Tryd.underlying35 rfl hI rfl hA rfl rfl) rfl fun a hA => ?_
      obtain ⟨_, hsl3⟩ := Slc.sv ws4
      refine stp hA (r_slen Tryd.underlying35 hsl3 hA rfl) rfl fun a hA => 
        stp hA (r_sub hA rfl rfl) rfl fun a hA => 
        sta hA rfl rfl fun a hA => ?_
      refine o_nil <| hN10 _ _ <| w_seq fun _ hN11 => w_reg <| stm hA rfl rfl fun a hA => 
        stm hA rfl rfl fun a hA => 
        stp hA (r_nilc hA rfl) rfl fun a hA => 
        stp hA (r_fd (k := 2) Tryd.underlying141 rfl sz35 hA rfl rfl) rfl fun a hA => 
        stp hA (r_ld1 (j := 1) [[.int .i64 x0.most], [.int .i64 s3]] [] Tryd.underlying35 rfl hI rfl hA rfl rfl) rfl fun a hA => 
        stm hA rfl rfl fun a hA => ?_
      obtain ⟨hb2, H⟩ := bG H
      obtain ⟨_, he2, _, hat1⟩ := Slc.elem ws4 (getD_some default hb2.1 hb2.2)
      obtain ⟨v6, v7, rfl, hw2⟩ := he2
      obtain ⟨_, hsl4⟩ := Slc.sv ws4
      refine stp hA (r_six Tryd.underlying35 sz32 hsl4 hA rfl rfl hb2.1 hb2.2) rfl fun a hA => 
        stp hA (r_ldmA [] [[.int .u32 ((s4.getD (IntKind.i64.wrap ((s4.length : Int) - 1)).toNat default).Version)], [v6], [v7], [.int .u32 ((s4.getD (IntKind.i64.wrap ((s4.length : Int) - 1)).toNat default).Time)]] [] Tryd.underlying32 rfl sz32 rfl hI.agr hat1 hA rfl rfl) rfl fun a hA => ?_
      obtain ⟨r5, hr5, H⟩ := bB H
      refine o_callp (u := .agg [av .u8 32 r5].flatten.toArray) cf79 hA rfl hI (tx_ID.c μ8 _ hI.agr (s4.getD (IntKind.i64.wrap ((s4.length : Int) - 1)).toNat default) v6 v7 ⟨hw2.1, hw2.2.1, hw2.2.2.1, hw2.2.2.2⟩ r5 hr5) rfl fun a w hz8 hI hA => ?_
      obtain ⟨r6, hr6, H⟩ := bB H
      have hI := hI.sl [2, 3, 4, 0, 1] rfl
      refine o_call _ cf30 hA rfl (notes_Log_Add.c μ8 _ hI.agr (⟨s5, s6, s7, s8⟩ : notesLog) vvs7 ccs7 ggs8 g2 ws5 ws6 ws7 ws8 (hI.handN 3) r5 hz8 7 (in_lit .i64 7 rfl) e7 (ErV.le (fun _ _ h => h) ((((((hle1.trans hi2.le).trans hle2).trans hle3).trans hi3.le).trans hle4).trans hle5) he7) r6 hr6) rfl fun v8 a w hz9 hA => ?_
      obtain ⟨_, vp3, cp2, gm2, μ9, rfl, hS4, hp8, hp9, hp10, hp11, hi4⟩ := hz9
      have hI := hI.back3 hi4
      refine o_nil <| hN11 _ _ <| w_seq fun _ hN12 => ?_
      refine w_any [15] mo hI fun w hI => ?_
      refine gE 0 hA rfl (.inr hI) (fun _ => r_mv hA rfl) fun a hA => ?_
      refine gE 1 hA rfl (.inr hI) (fun _ => r_nilc hA rfl) fun a hA => ?_
      refine gE 2 hA rfl (.inr hI) (fun _ => r_fd (k := 1) Tryd.underlying141 rfl sz3 hA rfl rfl) fun a hA => ?_
      refine gT 3 hA rfl hI (fun w hI => r_ld1 (j := 4) [[.int .i64 x0.most]] [[vvs4]] Tryd.underlying3 rfl hI rfl hA rfl rfl) fun a hA => ?_
      refine gE 4 hA rfl (.inr hI) (fun _ => r_mv hA rfl) fun a hA => ?_
      refine gE 5 hA rfl (.inr hI) (fun _ => r_nilc hA rfl) fun a hA => ?_
      refine gE 6 hA rfl (.inr hI) (fun _ => r_fd (k := 2) Tryd.underlying141 rfl sz35 hA rfl rfl) fun a hA => ?_
      refine gT 7 hA rfl hI (fun w hI => r_ld1 (j := 4) [[.int .i64 x0.most], [.int .i64 s3]] [] Tryd.underlying35 rfl hI rfl hA rfl rfl) fun a hA => ?_
      refine gE 8 hA rfl (.inr hI) (fun _ => r_mv hA rfl) fun a hA => ?_
      refine gE 9 hA rfl (.inr hI) (fun _ => r_six Tryd.underlying35 sz32 (SlV.le hi4.le hsl4) hA rfl rfl hb2.1 hb2.2) fun a hA => ?_
      refine gT 10 hA rfl hI (fun w hI => r_ldmA [] [[.int .u32 ((s4.getD (IntKind.i64.wrap ((s4.length : Int) - 1)).toNat default).Version)], [v6], [v7], [.int .u32 ((s4.getD (IntKind.i64.wrap ((s4.length : Int) - 1)).toNat default).Time)]] [] Tryd.underlying32 rfl sz32 rfl hI.agr (At.le hi4.le hat1) hA rfl rfl) fun a hA => ?_
      refine gF 11 rfl ?_
      obtain ⟨r7, hr7, H⟩ := bB H
      refine o_callp (u := .int .i64 r7) cf77 hA rfl hI (tx_Size.c μ9 _ hI.agr (s4.getD (IntKind.i64.wrap ((s4.length : Int) - 1)).toNat default) v6 v7 ⟨hw2.1, (Slc.le hw2.2.1 (fun _ _ h => RIn.le hi4.le h) hi4.le), (Slc.le hw2.2.2.1 (fun _ _ h => ROut.le hi4.le h) hi4.le), hw2.2.2.2⟩ r7 hr7) rfl fun a w hz10 hI hA => ?_
      refine o_nil <| ⟨(.inr hI), ?_⟩
      refine gE 12 hA rfl (.inr hI) (fun _ => r_sub hA rfl rfl) fun a hA => ?_
      refine gE 13 hA rfl (.inr hI) (fun _ => r_nilc hA rfl) fun a hA => ?_
      refine gE 14 hA rfl (.inr hI) (fun _ => r_fd (k := 1) Tryd.underlying141 rfl sz3 hA rfl rfl) fun a hA => ?_
      refine gF 15 rfl ?_
      refine o_st (j := 4) [[.int .i64 x0.most]] [[.int .i64 s3]] [[.int .i64 (IntKind.i64.wrap (s3 - r7))]] [[vvs4]] sz3 rfl rfl (fl_cons (one_one rfl) fl_nil) hI rfl hA rfl rfl rfl rfl fun w hI => ?_
      refine o_nil <| ⟨(.inl (by kernel_rfl)), ?_⟩
      refine gN <| hN12 _ _ <| w_reg <| stm hA rfl rfl fun a hA => 
        stm hA rfl rfl fun a hA => 
        stp hA (r_nilc hA rfl) rfl fun a hA => 
        stp hA (r_fd (k := 2) Tryd.underlying141 rfl sz35 hA rfl rfl) rfl fun a hA => 
        stp hA (r_ld1 (j := 4) [[.int .i64 x0.most], [.int .i64 (IntKind.i64.wrap (s3 - r7))]] [] Tryd.underlying35 rfl hI rfl hA rfl rfl) rfl fun a hA => 
        stm hA rfl rfl fun a hA => ?_
      obtain ⟨hb3, H⟩ := bG H
      obtain ⟨v9, hS5, hr8⟩ := r_sl (P := Tryd.prog) (t := 35) (x := .tmp 81) (l := none) (h := (some (.tmp 82))) (i := 0) (j := IntKind.i64.wrap ((s4.length : Int) - 1)) Tryd.underlying35 sz32 (Slc.le ws4 (fun _ _ h => RTx.le hi4.le h) hi4.le) hA rfl rfl rfl (by have hq := hb3; omega) (by have hq := hb3; omega) (by have hq := hb3; omega)
      refine stp hA (hr8 _ _ _ _ _ _) rfl fun a hA => 
        stp hA (r_nilc hA rfl) rfl fun a hA => 
        stp hA (r_fd (k := 2) Tryd.underlying141 rfl sz35 hA rfl rfl) rfl fun a hA => ?_
      obtain ⟨_, hsc⟩ := Slc.sv hS5
      refine o_st (j := 4) [[.int .i64 x0.most], [.int .i64 (IntKind.i64.wrap (s3 - r7))]] [[vvs4]] [[v9]] [] sz35 rfl rfl (by intro c hc; simp at hc; subst hc; exact one_sl hsc) hI rfl hA rfl rfl (cells_sl hsc) rfl fun w hI => ?_
      refine o_nil <| ⟨m2, Nat.lt_succ_self _, IntKind.i64.wrap (s3 - r7), (s4.take (IntKind.i64.wrap ((s4.length : Int) - 1)).toNat).drop (0 : Int).toNat, r6.2.most, r6.2.op, r6.2.l, r6.2.lost, μ9, v9, vp3, cp2, gm2, H, (hle5.trans hi4.le), (wrap_in _ _), hS5, hp8, hp9, hp10, hp11, hA.sub ⟨rfl, rfl, trivial⟩, (hI.sl [3, 4, 0, 1, 2] rfl)⟩
    · obtain ⟨hc3, H⟩ := dF H hc3
      refine w_exit rfl ?_
      have H : some ((⟨x0.most, s3, s4⟩ : redoRedo), (⟨s5, s6, s7, s8⟩ : notesLog)) = some z2 := H
      obtain rfl := sI H
      have H := Hk3
      obtain rfl := sJ H
      exact ret0 hA Tryd.results42 ⟨_, rfl, vvs4, vvs7, ccs7, ggs8, μ8, rfl, hp1, ws3, ws4, ws5, ws6, ws7, ws8, (hI.sl [1, 2, 3, 4] rfl)⟩
set_option maxRecDepth 20000 in
theorem redo_Redo_On.c (μ : Store) (w0 : World) (hμ : Agr μ w0) (x0 : redoRedo) (vp1 : Value) (g0 : Nat) (hp1 : InR .i64 x0.most) (hp2 : InR .i64 x0.bytes) (hp3 : Slc (RTx μ) 4 μ vp1 x0.l) (ho0 : Its μ w0 [cel g0 [[.int .i64 x0.most], [.int .i64 x0.bytes], [vp1]] 141]) (x1 : Block) (u1_0 : Value) (hx1 : BlockW μ x1 u1_0) (r : redoRedo) (H : redo_Redo_On.f x0 x1 = some r) :
    Calls Tryd.prog 46 [.pointer (some ⟨g0, 0, none⟩), .agg [[.int .u32 x1.Head.Version], av .u8 32 x1.Head.Prev, av .u8 32 x1.Head.Root, [.int .u32 x1.Head.Time], [.int .u32 x1.Head.Work], [.int .u32 x1.Head.Nonce], [u1_0]].flatten.toArray].toArray w0 (fun e w' => ∃ v, e = .returned v ∧ ∃ (vp_1 : Value) (μ' : Store), v = .tuple #[] ∧ InR .i64 r.most ∧ InR .i64 r.bytes ∧ Slc (RTx μ') 4 μ' vp_1 r.l ∧ Iv w0 (many [cel g0 [[.int .i64 x0.most], [.int .i64 x0.bytes], [vp1]] 141]).foot μ μ' [cel g0 [[.int .i64 r.most], [.int .i64 r.bytes], [vp_1]] 141] w') := by
  refine enter Tryd.func46 rfl Tryd.ntmps46 rfl fun a hA => ?_
  have hI := Iv.startN hμ ho0
  have H := bI H
  refine w_seq fun _ hN1 => w_reg <| o_box [[.int .u32 x1.Head.Version], av .u8 32 x1.Head.Prev, av .u8 32 x1.Head.Root, [.int .u32 x1.Head.Time], [.int .u32 x1.Head.Work], [.int .u32 x1.Head.Nonce], [u1_0]] hI hA rfl rfl rfl fun g1 a w hA hI hg1 => ?_
  refine o_nil <| hN1 _ _ <| w_seq fun _ hN2 => w_reg <| stp hA (r_ldA (j := 0) [] [[.int .u32 x1.Head.Version], av .u8 32 x1.Head.Prev, av .u8 32 x1.Head.Root, [.int .u32 x1.Head.Time], [.int .u32 x1.Head.Work], [.int .u32 x1.Head.Nonce], [u1_0]] [] Tryd.underlying37 rfl sz37 rfl hI rfl hA rfl rfl) rfl fun a hA => ?_
  obtain ⟨r1, hr1, H⟩ := bB H
  refine o_call _ cf48 hA rfl (block_IDs.c μ _ hI.agr x1 u1_0 ⟨hx1.1, hx1.2.1, hx1.2.2.1, hx1.2.2.2.1, hx1.2.2.2.2.1, hx1.2.2.2.2.2.1, hx1.2.2.2.2.2.2⟩ r1 hr1) rfl fun v1 a w hz1 hA => ?_
  obtain ⟨_, cs1, rfl, hE1, hi1⟩ := hz1
  have hI := hI.call hi1
  refine sta hA rfl rfl fun a hA => ?_
  refine o_nil <| hN2 _ _ <| w_seq fun _ hN3 => w_reg <| sta hA rfl rfl fun a hA => ?_
  refine o_nil <| hN3 _ _ <| w_seq fun _ hN4 => w_reg <| sta hA rfl rfl fun a hA => ?_
  refine o_nil <| hN4 _ _ ?_
  obtain ⟨⟨c1, c2⟩, hz2, Hk1⟩ := bB H
  refine w_cut (fun a w => ∃ (vvc1 : Value) (ccc1 : List Value), Els (RTx μ) 4 c1 ccc1 ∧ InR .i64 c2 ∧ Fr a 42 [(0, .pointer (some ⟨g0, 0, none⟩)), (5, vvc1), (6, .int .i64 c2)] ∧ Iv w0 (many [cel g0 [[.int .i64 x0.most], [.int .i64 x0.bytes], [vp1]] 141]).foot μ μ [row 32 4 vvc1 c1.length ccc1, row 26 32 v1 r1.length cs1, cel g1 [[.int .u32 x1.Head.Version], av .u8 32 x1.Head.Prev, av .u8 32 x1.Head.Root, [.int .u32 x1.Head.Time], [.int .u32 x1.Head.Work], [.int .u32 x1.Head.Nonce], [u1_0]] 37, cel g0 [[.int .i64 x0.most], [.int .i64 x0.bytes], [vp1]] 141] w) ?_ ?_
  · have H := bI hz2
    refine w_seq fun _ hN5 => w_reg <| stm hA rfl rfl fun a hA => 
      stp hA (r_nilc hA rfl) rfl fun a hA => 
      stp hA (r_fd (k := 2) Tryd.underlying141 rfl sz35 hA rfl rfl) rfl fun a hA => 
      stp hA (r_ld1 (j := 2) [[.int .i64 x0.most], [.int .i64 x0.bytes]] [] Tryd.underlying35 rfl hI rfl hA rfl rfl) rfl fun a hA => ?_
    obtain ⟨_, hsl1⟩ := Slc.sv hp3
    refine stp hA (r_slen Tryd.underlying35 hsl1 hA rfl) rfl fun a hA => 
      stm hA rfl rfl fun a hA => ?_
    refine o_nil <| hN5 _ _ <| w_block ?_
    have hI := hI.nilRow 32 4
    obtain ⟨z1, hz3, Hk2⟩ := bind_some H
    obtain ⟨n1, hn1⟩ := loopO_some hz3
    refine w_loop (fun n a w => ∃ (s1 : List Tx) (s2 : Int) (s3 : Int) (vvs1 : Value) (ccs1 : List Value), loopN (redo_Redo_On.s0 x0 r1) n (s1, s2, s3) = some z1 ∧ Els (RTx μ) 4 s1 ccs1 ∧ InR .i64 s2 ∧ InR .i64 s3 ∧ Fr a 42 [(0, .pointer (some ⟨g0, 0, none⟩)), (4, v1), (5, vvs1), (6, .int .i64 s2), (14, vp1), (15, .int .i64 (x0.l.length : Int)), (16, .int .i64 s3)] ∧ Iv w0 (many [cel g0 [[.int .i64 x0.most], [.int .i64 x0.bytes], [vp1]] 141]).foot μ μ [row 32 4 vvs1 s1.length ccs1, row 26 32 v1 r1.length cs1, cel g1 [[.int .u32 x1.Head.Version], av .u8 32 x1.Head.Prev, av .u8 32 x1.Head.Root, [.int .u32 x1.Head.Time], [.int .u32 x1.Head.Work], [.int .u32 x1.Head.Nonce], [u1_0]] 37, cel g0 [[.int .i64 x0.most], [.int .i64 x0.bytes], [vp1]] 141] w) n1 ⟨[], 0, 0, (.slice none 0 0), [], hn1, (Els.nil (RE := (RTx μ)) (sz := 4)), (in_lit .i64 0 rfl), (in_lit .i64 0 rfl), hA.sub ⟨rfl, rfl, rfl, rfl, rfl, rfl, rfl, trivial⟩, hI⟩ ?_
    clear hA hI
    rintro n a w ⟨s1, s2, s3, vvs1, ccs1, hn1, ws1, ws2, ws3, hA, hI⟩
    obtain ⟨m1, rfl, H⟩ := loopN_bind hn1
    clear hn1
    refine w_seq fun _ hN6 => w_reg <| stp hA (r_lss hA rfl rfl) rfl fun a hA => ?_
    refine o_nil <| hN6 _ _ <| w_seq fun _ hN7 => w_cond hA rfl (fun hc1 => ?_) (fun hc1 => ?_)
    · obtain ⟨hc1, H⟩ := dT H hc1
      refine w_skip <| hN7 _ _ ?_
      obtain ⟨⟨c3, c4⟩, hz4, Hk3⟩ := bB H
      refine w_cut (fun a w => ∃ (vvc3 : Value) (ccc3 : List Value), Els (RTx μ) 4 c3 ccc3 ∧ InR .i64 c4 ∧ Fr a 42 [(0, .pointer (some ⟨g0, 0, none⟩)), (4, v1), (5, vvc3), (6, .int .i64 c4), (14, vp1), (15, .int .i64 (x0.l.length : Int)), (16, .int .i64 s3), (17, .bool (decide (s3 < (x0.l.length : Int))))] ∧ Iv w0 (many [cel g0 [[.int .i64 x0.most], [.int .i64 x0.bytes], [vp1]] 141]).foot μ μ [row 32 4 vvc3 c3.length ccc3, row 26 32 v1 r1.length cs1, cel g1 [[.int .u32 x1.Head.Version], av .u8 32 x1.Head.Prev, av .u8 32 x1.Head.Root, [.int .u32 x1.Head.Time], [.int .u32 x1.Head.Work], [.int .u32 x1.Head.Nonce], [u1_0]] 37, cel g0 [[.int .i64 x0.most], [.int .i64 x0.bytes], [vp1]] 141] w) ?_ ?_
      · have H := bI hz4
        refine w_block <| w_seq fun _ hN8 => w_reg ?_
        obtain ⟨hb1, H⟩ := bG H
        obtain ⟨_, he1, _, hat1⟩ := Slc.elem hp3 (getD_some default hb1.1 hb1.2)
        obtain ⟨v2, v3, rfl, hw1⟩ := he1
        obtain ⟨_, hsl2⟩ := Slc.sv hp3
        refine stp hA (r_six Tryd.underlying35 sz32 hsl2 hA rfl rfl hb1.1 hb1.2) rfl fun a hA => 
          stp hA (r_ldmA [] [[.int .u32 ((x0.l.getD s3.toNat default).Version)], [v2], [v3], [.int .u32 ((x0.l.getD s3.toNat default).Time)]] [] Tryd.underlying32 rfl sz32 rfl hI.agr hat1 hA rfl rfl) rfl fun a hA => 
          o_new [[.int .u32 0], [(.slice none 0 0)], [(.slice none 0 0)], [.int .u32 0]] zr32 hI hA rfl fun g2 a w hA hI hg2 => ?_
        obtain ⟨_, hsl3⟩ := Slc.sv hw1.2.1
        obtain ⟨_, hsl4⟩ := Slc.sv hw1.2.2.1
        refine o_st (j := 0) [] [[.int .u32 0], [(.slice none 0 0)], [(.slice none 0 0)], [.int .u32 0]] [[.int .u32 ((x0.l.getD s3.toNat default).Version)], [v2], [v3], [.int .u32 ((x0.l.getD s3.toNat default).Time)]] [] sz32 rfl rfl (fl_cons (one_one rfl) (fl_cons (one_one (one_sl hsl3)) (fl_cons (one_one (one_sl hsl4)) (fl_cons (one_one rfl) fl_nil)))) hI rfl hA rfl rfl rfl rfl fun w hI => ?_
        refine o_nil <| hN8 _ _ <| w_seq fun _ hN9 => w_reg <| stm hA rfl rfl fun a hA => 
          stp hA (r_ldA (j := 0) [] [[.int .u32 ((x0.l.getD s3.toNat default).Version)], [v2], [v3], [.int .u32 ((x0.l.getD s3.toNat default).Time)]] [] Tryd.underlying32 rfl sz32 rfl hI rfl hA rfl rfl) rfl fun a hA => ?_
        obtain ⟨r2, hr2, H⟩ := bB H
        refine o_callp (u := .agg [av .u8 32 r2].flatten.toArray) cf79 hA rfl hI (tx_ID.c μ _ hI.agr (x0.l.getD s3.toNat default) v2 v3 ⟨hw1.1, hw1.2.1, hw1.2.2.1, hw1.2.2.2⟩ r2 hr2) rfl fun a w hz5 hI hA => ?_
        obtain ⟨r3, hr3, H⟩ := bB H
        refine o_callp (u := .bool r3) cf82 hA rfl hI ((by obtain ⟨μ1, hle1, hsv1, hI⟩ := hI.freezeRow 2 rfl; have hS1 : Slc (RA .u8 32) 32 μ1 v1 r1 := ⟨_, hE1, hsv1⟩; exact low_plain hle1 (slices_Contains_api_Hash_api_Hash.c μ1 _ hI.agr r1 v1 hS1 r2 hz5 r3 hr3))) rfl fun a w hz6 hI hA => 
          stp hA (r_not hA rfl) rfl fun a hA => ?_
        refine o_nil <| hN9 _ _ <| w_cond hA rfl (fun hc2 => ?_) (fun hc2 => ?_)
        · have hc2 := nT hc2; have hc2 := ft hc2; have H := bF H hc2
          refine w_seq fun _ hN10 => w_reg <| stm hA rfl rfl fun a hA => 
            stp hA (r_ldA (j := 0) [] [[.int .u32 ((x0.l.getD s3.toNat default).Version)], [v2], [v3], [.int .u32 ((x0.l.getD s3.toNat default).Time)]] [] Tryd.underlying32 rfl sz32 rfl hI rfl hA rfl rfl) rfl fun a hA => ?_
          have hE2 : Els (RTx μ) 4 ([(x0.l.getD s3.toNat default)] : List Tx) _ := (Els.cons (c := [[.int .u32 ((x0.l.getD s3.toNat default).Version)], [v2], [v3], [.int .u32 ((x0.l.getD s3.toNat default).Time)]].flatten) ⟨v2, v3, rfl, ⟨hw1.1, hw1.2.1, hw1.2.2.1, hw1.2.2.2⟩⟩ rfl Els.nil)
          refine o_bsl ([[.int .u32 ((x0.l.getD s3.toNat default).Version)], [v2], [v3], [.int .u32 ((x0.l.getD s3.toNat default).Time)]].flatten ++ ([])) te32 zr32 Tryd.underlying35 hI hA rfl rfl rfl rfl (by kernel_rfl) rfl fun g3 a w hA hI => ?_
          generalize hcs : ([[.int .u32 ((x0.l.getD s3.toNat default).Version)], [v2], [v3], [.int .u32 ((x0.l.getD s3.toNat default).Time)]].flatten ++ ([]) : List Value) = cs2 at hE2 hI
          clear hcs
          obtain ⟨hb2, H⟩ := bG H
          have hE4 := ws1.app hE2
          refine o_appG (xs := (s1 : List Tx)) (ys := (([(x0.l.getD s3.toNat default)] : List Tx) : List Tx)) (M := 2199023255552) 2 te32 Tryd.underlying35 hI rfl hA rfl rfl (src_row hI (j := 0) rfl) hE2.len (hE2.ones RTx.ones) hb2 rfl fun v4 a w hA hI => 
            sta hA rfl rfl fun a hA => ?_
          refine o_nil <| hN10 _ _ <| w_reg <| stm hA rfl rfl fun a hA => 
            stp hA (r_ldA (j := 1) [] [[.int .u32 ((x0.l.getD s3.toNat default).Version)], [v2], [v3], [.int .u32 ((x0.l.getD s3.toNat default).Time)]] [] Tryd.underlying32 rfl sz32 rfl hI rfl hA rfl rfl) rfl fun a hA => ?_
          obtain ⟨r4, hr4, H⟩ := bB H
          refine o_callp (u := .int .i64 r4) cf77 hA rfl hI (tx_Size.c μ _ hI.agr (x0.l.getD s3.toNat default) v2 v3 ⟨hw1.1, hw1.2.1, hw1.2.2.1, hw1.2.2.2⟩ r4 hr4) rfl fun a w hz7 hI hA => 
            stp hA (r_add hA rfl rfl) rfl fun a hA => 
            sta hA rfl rfl fun a hA => ?_
          refine o_nil ?_
          cases sJ H
          exact ⟨v4, ccs1 ++ cs2, hE4, (wrap_in _ _), hA.sub ⟨rfl, rfl, rfl, rfl, rfl, rfl, rfl, rfl, trivial⟩, (hI.sl [2, 3, 4, 5] rfl)⟩
        · have hc2 := nF hc2; have H := bT H hc2
          refine w_skip ?_
          cases sJ H
          exact ⟨vvs1, ccs1, ws1, ws2, hA.sub ⟨rfl, rfl, rfl, rfl, rfl, rfl, rfl, rfl, trivial⟩, (hI.sl [1, 2, 3, 4] rfl)⟩
      · rintro a w ⟨vvc3, ccc3, wc3, wc4, hA, hI⟩
        have H := Hk3
        refine w_reg <| stp hA (r_add hA rfl rfl) rfl fun a hA => 
          stm hA rfl rfl fun a hA => ?_
        refine o_nil <| ⟨m1, Nat.lt_succ_self _, c3, c4, IntKind.i64.wrap (s3 + 1), vvc3, ccc3, H, wc3, wc4, (wrap_in _ _), hA.sub ⟨rfl, rfl, rfl, rfl, rfl, rfl, rfl, trivial⟩, hI⟩
    · obtain ⟨hc1, H⟩ := dF H hc1
      refine w_exit rfl ?_
      have H : some (s1, s2) = some z1 := H
      obtain rfl := sI H
      have H := Hk2
      cases sJ H
      exact ⟨vvs1, ccs1, ws1, ws2, hA.sub ⟨rfl, rfl, rfl, trivial⟩, hI⟩
  · rintro a w ⟨vvc1, ccc1, wc1, wc2, hA, hI⟩
    have H := Hk1
    refine w_reg <| stm hA rfl rfl fun a hA => 
      stm hA rfl rfl fun a hA => 
      stm hA rfl rfl fun a hA => 
      stm hA rfl rfl fun a hA => 
      stp hA (r_nilc hA rfl) rfl fun a hA => 
      stp hA (r_fd (k := 2) Tryd.underlying141 rfl sz35 hA rfl rfl) rfl fun a hA => ?_
    have hone := own_one hI (j := 0) rfl
    have hcel := own_cell hI (j := 0) rfl
    refine o_st (j := 3) [[.int .i64 x0.most], [.int .i64 x0.bytes]] [[vp1]] [[vvc1]] [] sz35 rfl rfl (by intro c hc; simp at hc; subst hc; exact hone) hI rfl hA rfl rfl hcel rfl fun w hI => 
      stp hA (r_nilc hA rfl) rfl fun a hA => 
      stp hA (r_fd (k := 1) Tryd.underlying141 rfl sz3 hA rfl rfl) rfl fun a hA => 
      o_st (j := 3) [[.int .i64 x0.most]] [[.int .i64 x0.bytes]] [[.int .i64 c2]] [[vvc1]] sz3 rfl rfl (fl_cons (one_one rfl) fl_nil) hI rfl hA rfl rfl rfl rfl fun w hI => ?_
    refine o_nil ?_
    obtain ⟨μ2, hle2, hsv3, hI⟩ := hI.freezeRow 0 rfl
    have hS2 : Slc (RTx μ2) 4 μ2 vvc1 c1 := ⟨_, (Els.mono wc1 (fun _ _ h => RTx.le hle2 h)), hsv3⟩
    obtain rfl := sJ H
    exact ret0 hA Tryd.results46 ⟨_, rfl, vvc1, μ2, rfl, hp1, wc2, hS2, (hI.sl [2] rfl)⟩
end Go.Proofs.YtcpdnoochieecaaDoor.T
namespace Go.Proofs.YtcpdnoochieecaaDoor.T
open Go Go.Proofs Go.Proofs.YtcpdnoochieecaaDoor.K
set_option linter.unusedVariables false
set_option linter.unusedSimpArgs false
noncomputable def sargassolaw24_first.f : Option Bool := ((redo_New.f 10).bind fun r1 => (oM r1.1 ((some ()).bind fun _ => some false) fun p1 => (((if r1.2 = (Er.b 0) then ((redo_Redo_All.f p1).bind fun r2 => (if (r2.length : Int) = 0 then ((redo_Redo_Bytes.f p1).bind fun r3 => some (decide (r3 = 0))) else some false)) else some false)).bind fun c1 => some c1)))
end Go.Proofs.YtcpdnoochieecaaDoor.T
namespace Go.Proofs.YtcpdnoochieecaaDoor.T
open Go Go.Proofs Go.Proofs.YtcpdnoochieecaaDoor.K
set_option linter.unusedVariables false
set_option linter.unusedSimpArgs false
set_option maxRecDepth 20000 in
theorem sargassolaw24_first.c (μ : Store) (w0 : World) (hμ : Agr μ w0) (e7 : Value) (he7 : ErS μ e7 (Er.b 8)) (r : Bool) (H : sargassolaw24_first.f = some r) :
    Calls Tryd.prog 39 [].toArray w0 (fun e w' => ∃ v, e = .returned v ∧ v = .bool r ∧ True ∧ Iv w0 [] μ μ [] w') := by
  refine enter Tryd.func39 rfl Tryd.ntmps39 rfl fun a hA => ?_
  have hI := Iv.start hμ
  have H := bI H
  refine w_seq fun _ hN1 => w_reg <| sta hA rfl rfl fun a hA => ?_
  refine o_nil <| hN1 _ _ <| w_seq fun _ hN2 => w_reg ?_
  obtain ⟨r1, hr1, H⟩ := bB H
  refine o_call _ cf41 hA rfl (redo_New.c μ _ hI.agr 10 (in_lit .i64 10 rfl) e7 he7 r1 hr1) rfl fun v1 a w hz1 hA => ?_
  rcases hz1 with ⟨ho1, hz2⟩ | ⟨p1, ho1, hz2⟩
  · skip
    have H := bON H ho1
    obtain ⟨v2, μ1, rfl, hS1, hi1⟩ := hz2
    have hI := hI.call hi1
    refine stm hA rfl rfl fun a hA => 
      stp hA (r_extr (vs := [.pointer none, v2]) hA rfl rfl) rfl fun a hA => 
      stp hA (r_extr (vs := [.pointer none, v2]) hA rfl rfl) rfl fun a hA => 
      sta hA rfl rfl fun a hA => 
      sta hA rfl rfl fun a hA => ?_
    refine o_nil <| hN2 _ _ ?_
    obtain ⟨⟨⟩, hz3, Hk1⟩ := bB H
    refine w_cut (fun a w => Fr a 24 [(0, .bool false)] ∧ Iv w0 [] μ μ1 [] w) ?_ ?_
    · have H := bI hz3
      refine w_reg <| stm hA rfl rfl fun a hA => 
        stp hA (r_nilnil_neq Tryd.underlying96 hA rfl rfl) rfl fun a hA => 
        stm hA rfl rfl fun a hA => 
        o_no hA rfl rfl (by simp [vb]) rfl fun a hA => 
        o_no hA rfl rfl (by simp [vb]) rfl fun a hA => 
        stp hA (r_pick_f hA rfl rfl rfl) rfl fun a hA => 
        stm hA rfl rfl fun a hA => 
        o_no hA rfl rfl (by simp [vb]) rfl fun a hA => 
        o_no hA rfl rfl (by simp [vb]) rfl fun a hA => 
        o_no hA rfl rfl (by simp [vb]) rfl fun a hA => 
        o_no hA rfl rfl (by simp [vb]) rfl fun a hA => 
        stp hA (r_pick_f hA rfl rfl rfl) rfl fun a hA => 
        stm hA rfl rfl fun a hA => 
        o_no hA rfl rfl (by simp [vb]) rfl fun a hA => 
        o_no hA rfl rfl (by simp [vb]) rfl fun a hA => 
        o_no hA rfl rfl (by simp [vb]) rfl fun a hA => 
        stp hA (r_pick_f hA rfl rfl rfl) rfl fun a hA => 
        sta hA rfl rfl fun a hA => ?_
      refine o_nil ?_
      cases sJ H
      exact ⟨hA.sub ⟨rfl, trivial⟩, hI⟩
    · rintro a w ⟨hA, hI⟩
      have H := Hk1
      refine w_ret ?_
      obtain rfl := sJ H
      exact ret1 hA Tryd.results39 rfl ⟨_, rfl, rfl, trivial, hI.forget0⟩
  · skip
    have H := bOS H ho1
    obtain ⟨g1, vp1, v3, μ2, rfl, hp1, hp2, hp3, hS2, hi2⟩ := hz2
    have hI := hI.call hi2
    refine stm hA rfl rfl fun a hA => 
      stp hA (r_extr (vs := [.pointer (some ⟨g1, 0, none⟩), v3]) hA rfl rfl) rfl fun a hA => 
      stp hA (r_extr (vs := [.pointer (some ⟨g1, 0, none⟩), v3]) hA rfl rfl) rfl fun a hA => 
      sta hA rfl rfl fun a hA => 
      sta hA rfl rfl fun a hA => ?_
    refine o_nil <| hN2 _ _ ?_
    obtain ⟨c1, hz4, Hk2⟩ := bB H
    refine w_cut (fun a w => ∃ (μ3 : Store), μ2.le μ3 ∧ Fr a 24 [(0, .bool c1)] ∧ Iv w0 [] μ μ3 [cel g1 [[.int .i64 p1.most], [.int .i64 p1.bytes], [vp1]] 141] w) ?_ ?_
    · have H := bI hz4
      refine w_reg <| stm hA rfl rfl fun a hA => 
        stp hA (r_ptrnil_neq Tryd.underlying96 hA rfl rfl) rfl fun a hA => 
        stm hA rfl rfl fun a hA => 
        o_yes hA rfl rfl rfl <| 
        stm hA rfl rfl fun a hA => 
        o_yes hA rfl rfl rfl <| 
        stp hA (r_eqE erF hI.agr hS2 erv_nil (.inl ⟨.inr ⟨_, rfl⟩, Er.fitR⟩) hA rfl rfl) rfl fun a hA => 
        stp hA (r_pick_t hA rfl rfl rfl) rfl fun a hA => 
        stm hA rfl rfl fun a hA => ?_
      rcases Bool.eq_false_or_eq_true (decide (r1.2 = (Er.b 0))) with hc1 | hc1
      · have hc10 := hc1; obtain ⟨hc1, H⟩ := dT H hc1
        refine o_yes hA rfl rfl hc10 <| 
          stm hA rfl rfl fun a hA => 
          o_yes hA rfl rfl hc10 <| ?_
        obtain ⟨r2, hr2, H⟩ := bB H
        refine o_call _ cf44 hA rfl (redo_Redo_All.c μ2 _ hI.agr p1 vp1 g1 hp1 hp2 hp3 (hI.handN 1) r2 hr2) rfl fun v4 a w hz5 hA => ?_
        obtain ⟨_, cs1, μ4, rfl, hE1, hi3⟩ := hz5
        have hI := hI.backN 1 hi3
        have hI : Iv w0 [] μ μ4 [row 32 4 v4 r2.length cs1, cel g1 [[.int .i64 p1.most], [.int .i64 p1.bytes], [vp1]] 141] w := hI
        refine o_yes hA rfl rfl hc10 <| ?_
        have hlen1 := Iv.row_in hI (j := 0) rfl
        refine stp hA (r_rlen (xs := 0) Tryd.underlying35 hI (j := 0) rfl hA rfl) rfl fun a hA => 
          o_yes hA rfl rfl hc10 <| 
          stp hA (r_eql hA rfl rfl) rfl fun a hA => 
          stp hA (r_pick_t hA rfl hc10 rfl) rfl fun a hA => 
          stm hA rfl rfl fun a hA => ?_
        rcases Bool.eq_false_or_eq_true (decide ((r2.length : Int) = 0)) with hc2 | hc2
        · have hc20 := hc2; obtain ⟨hc2, H⟩ := dT H hc2
          refine o_yes hA rfl rfl hc20 <| 
            stm hA rfl rfl fun a hA => 
            o_yes hA rfl rfl hc20 <| ?_
          obtain ⟨r3, hr3, H⟩ := bB H
          have hI := hI.sl [1, 0] rfl
          refine o_call _ cf45 hA rfl (redo_Redo_Bytes.c μ4 _ hI.agr p1 vp1 g1 hp1 hp2 (Slc.le hp3 (fun _ _ h => RTx.le hi3.le h) hi3.le) (hI.handN 1) r3 hr3) rfl fun v5 a w hz6 hA => ?_
          obtain ⟨rfl, hw1, hi4⟩ := hz6
          have hI := hI.back1 hi4
          refine o_yes hA rfl rfl hc20 <| 
            stp hA (r_eql hA rfl rfl) rfl fun a hA => 
            stp hA (r_pick_t hA rfl hc20 rfl) rfl fun a hA => 
            sta hA rfl rfl fun a hA => ?_
          refine o_nil ?_
          cases sJ H
          exact ⟨μ4, hi3.le, hA.sub ⟨rfl, trivial⟩, (hI.sl [0] rfl)⟩
        · have hc20 := hc2; obtain ⟨hc2, H⟩ := dF H hc2
          refine o_no hA rfl rfl (by rw [hc20]; simp [vb]) rfl fun a hA => 
            o_no hA rfl rfl (by rw [hc20]; simp [vb]) rfl fun a hA => 
            o_no hA rfl rfl (by rw [hc20]; simp [vb]) rfl fun a hA => 
            stp hA (r_pick_f hA rfl hc20 rfl) rfl fun a hA => 
            sta hA rfl rfl fun a hA => ?_
          refine o_nil ?_
          cases sJ H
          exact ⟨μ4, hi3.le, hA.sub ⟨rfl, trivial⟩, (hI.sl [1] rfl)⟩
      · have hc10 := hc1; obtain ⟨hc1, H⟩ := dF H hc1
        refine o_no hA rfl rfl (by rw [hc10]; simp [vb]) rfl fun a hA => 
          o_no hA rfl rfl (by rw [hc10]; simp [vb]) rfl fun a hA => 
          o_no hA rfl rfl (by rw [hc10]; simp [vb]) rfl fun a hA => 
          o_no hA rfl rfl (by rw [hc10]; simp [vb]) rfl fun a hA => 
          stp hA (r_pick_f hA rfl hc10 rfl) rfl fun a hA => 
          stm hA rfl rfl fun a hA => 
          o_no hA rfl rfl (by simp [vb]) rfl fun a hA => 
          o_no hA rfl rfl (by simp [vb]) rfl fun a hA => 
          o_no hA rfl rfl (by simp [vb]) rfl fun a hA => 
          stp hA (r_pick_f hA rfl rfl rfl) rfl fun a hA => 
          sta hA rfl rfl fun a hA => ?_
        refine o_nil ?_
        cases sJ H
        exact ⟨μ2, (Store.le.refl _), hA.sub ⟨rfl, trivial⟩, hI⟩
    · rintro a w ⟨μ3, hle1, hA, hI⟩
      have H := Hk2
      refine w_ret ?_
      obtain rfl := sJ H
      exact ret1 hA Tryd.results39 rfl ⟨_, rfl, rfl, trivial, hI.forget0⟩
end Go.Proofs.YtcpdnoochieecaaDoor.T
namespace Go.Proofs.YtcpdnoochieecaaDoor.T
open Go Go.Proofs Go.Proofs.YtcpdnoochieecaaDoor.K
set_option linter.unusedVariables false
set_option linter.unusedSimpArgs false
noncomputable def sargassolaw24_RedoOn.s0 (x1 : Int) (r2 : Int) : ((List Tx) × Int × Int × (List Tx) × (List Tx)) → Option (((List Tx) × Int × Int × (List Tx) × (List Tx)) ⊕ ((List Tx) × Int × (List Tx) × (List Tx))) := fun (s16, s17, s18, s19, s20) => (if s18 < r2 then (((if s20.length + 1 ≤ 2199023255552 then (if 0 ≤ (IntKind.u64.wrap s18) then (if (bAnd .i64 (sR .i64 x1 (IntKind.u64.wrap s18)) 1) = 1 then (if s19.length + 1 ≤ 2199023255552 then some (s16, s17, s19 ++ ([(⟨IntKind.u32.wrap s18, ([(⟨(⟨(List.replicate 32 0), 0⟩ : Point), [], 0⟩ : In)] : List In), ([(⟨0, (List.replicate 32 0)⟩ : Out)] : List Out), 0⟩ : Tx)] : List Tx), s20 ++ ([(⟨IntKind.u32.wrap s18, ([(⟨(⟨(List.replicate 32 0), 0⟩ : Point), [], 0⟩ : In)] : List In), ([(⟨0, (List.replicate 32 0)⟩ : Out)] : List Out), 0⟩ : Tx)] : List Tx)) else none) else (if s16.length + 1 ≤ 2199023255552 then ((sargassoref1_Size.f (⟨IntKind.u32.wrap s18, ([(⟨(⟨(List.replicate 32 0), 0⟩ : Point), [], 0⟩ : In)] : List In), ([(⟨0, (List.replicate 32 0)⟩ : Out)] : List Out), 0⟩ : Tx)).bind fun r17 => some (s16 ++ ([(⟨IntKind.u32.wrap s18, ([(⟨(⟨(List.replicate 32 0), 0⟩ : Point), [], 0⟩ : In)] : List In), ([(⟨0, (List.replicate 32 0)⟩ : Out)] : List Out), 0⟩ : Tx)] : List Tx), IntKind.i64.wrap (s17 + r17), s19, s20 ++ ([(⟨IntKind.u32.wrap s18, ([(⟨(⟨(List.replicate 32 0), 0⟩ : Point), [], 0⟩ : In)] : List In), ([(⟨0, (List.replicate 32 0)⟩ : Out)] : List Out), 0⟩ : Tx)] : List Tx))) else none)) else none) else none)).bind fun (c33, c34, c35, c36) => some (.inl (c33, c34, IntKind.i64.wrap (s18 + 1), c35, c36))) else some (.inr (s16, s17, s19, s20)))
noncomputable def sargassolaw24_RedoOn.f (x0 : Int) (x1 : Int) : Option Bool := ((sargassolaw24_first.f).bind fun r1 => (if r1 = true then ((sargassoworld_Number.f x0 20).bind fun r2 => ((redo_New.f 1048576).bind fun r3 => (oM r3.1 ((notes_New.f 10).bind fun r4 => (oM r4.1 ((some true).bind fun c1 => (if c1 = true then some false else none)) fun p2 => ((some true).bind fun c10 => (if c10 = true then some false else none)))) fun p1 => ((notes_New.f 10).bind fun r11 => (oM r11.1 ((some true).bind fun c19 => (if c19 = true then some false else none)) fun p3 => (((if r3.2 ≠ (Er.b 0) then some true else some (decide (r11.2 ≠ (Er.b 0))))).bind fun c28 => (if c28 = true then some false else ((sargassoref1_First.f 1 1 ([0, 0, 0, 0, 0, 0, 0, 0, 0, 0, 0, 0, 0, 0, 0, 0, 0, 0, 0, 0, 0, 0, 0, 0, 0, 0, 0, 0, 0, 0, 0, 0]) ([])).bind fun r15 => ((sargassoref1_First.f 1 2 ([0, 0, 0, 0, 0, 0, 0, 0, 0, 0, 0, 0, 0, 0, 0, 0, 0, 0, 0, 0, 0, 0, 0, 0, 0, 0, 0, 0, 0, 0, 0, 0]) ([])).bind fun r16 => ((loopO (sargassolaw24_RedoOn.s0 x1 r2) ([], 0, 0, ([r16] : List Tx), ([r15] : List Tx))).bind fun (c29, c30, c31, c32) => ((redo_Redo_Back.f p1 (⟨(⟨0, (List.replicate 32 0), (List.replicate 32 0), 0, 0, 0⟩ : Head), c32⟩ : Block) (⟨p3.most, p3.op, p3.l, p3.lost⟩ : notesLog)).bind fun r18 => ((redo_Redo_All.f r18.1).bind fun r19 => ((redo_Redo_On.f r18.1 (⟨(⟨0, (List.replicate 32 0), (List.replicate 32 0), 0, 0, 0⟩ : Head), c31⟩ : Block)).bind fun r20 => ((redo_Redo_All.f r20).bind fun r21 => ((redo_Redo_On.f r20 (⟨(⟨0, (List.replicate 32 0), (List.replicate 32 0), 0, 0, 0⟩ : Head), c31⟩ : Block)).bind fun r22 => (((if r1 = true then (if (r19.length : Int) = r2 then ((sargassoref_SameTxs.f r21 c29).bind fun r23 => (if r23 = true then ((redo_Redo_All.f r22).bind fun r24 => ((sargassoref_SameTxs.f r24 c29).bind fun r25 => (if r25 = true then ((redo_Redo_Bytes.f r22).bind fun r26 => (if r26 = c30 then ((notes_Log_All.f (⟨r18.2.most, r18.2.op, r18.2.l, r18.2.lost⟩ : notesLog)).bind fun r27 => some (decide ((r27.length : Int) = 0))) else some false)) else some false))) else some false)) else some false) else some false)).bind fun c37 => some c37)))))))))))))))) else some false))
end Go.Proofs.YtcpdnoochieecaaDoor.T
