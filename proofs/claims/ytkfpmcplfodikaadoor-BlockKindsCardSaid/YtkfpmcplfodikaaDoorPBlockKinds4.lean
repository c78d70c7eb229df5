/- Proved: the statement BlockKinds, as given (its conditions are those of the given row, and card where there is one; no others): the call ends, with true, and the input reads as it did. This file is one of its parts. -/
import Derived.Test.YtkfpmcplfodikaaDoorPBlockKinds3
namespace Go.Proofs.YtkfpmcplfodikaaDoor.T
open Go Go.Proofs Go.Proofs.YtkfpmcplfodikaaDoor.K
set_option linter.unusedVariables false
set_option linter.unusedSimpArgs false
set_option maxRecDepth 20000 in
theorem block_IDs.c (μ : Store) (w0 : World) (hμ : Agr μ w0) (x0 : Block) (u0_0 : Value) (hx0 : BlockW μ x0 u0_0) (r : List (List Int)) (H : block_IDs.f x0 = some r) :
    Calls Tryd.prog 13 [.agg [[.int .u32 x0.Head.Version], av .u8 32 x0.Head.Prev, av .u8 32 x0.Head.Root, [.int .u32 x0.Head.Time], [.int .u32 x0.Head.Work], [.int .u32 x0.Head.Nonce], [u0_0]].flatten.toArray].toArray w0 (fun e w' => ∃ v, e = .returned v ∧ ∃ (v0 : Value) (c0 : List Value), v = v0 ∧ Els (RA .u8 32) 32 r c0 ∧ Iv w0 [] μ μ [row 26 32 v0 r.length c0] w') := by
  refine enter Tryd.func13 rfl Tryd.ntmps13 rfl fun a hA => ?_
  have hI := Iv.start hμ
  have H := bI H
  refine w_seq fun _ hN1 => w_reg <| o_box [[.int .u32 x0.Head.Version], av .u8 32 x0.Head.Prev, av .u8 32 x0.Head.Root, [.int .u32 x0.Head.Time], [.int .u32 x0.Head.Work], [.int .u32 x0.Head.Nonce], [u0_0]] hI hA rfl rfl rfl fun g1 a w hA hI hg1 => 
    sta hA rfl rfl fun a hA => ?_
  refine o_nil <| hN1 _ _ <| w_seq fun _ hN2 => w_reg <| sta hA rfl rfl fun a hA => ?_
  refine o_nil <| hN2 _ _ ?_
  obtain ⟨c1, hz1, Hk1⟩ := bB H
  refine w_cut (fun a w => ∃ (vvc1 : Value) (ccc1 : List Value), Els (RA .u8 32) 32 c1 ccc1 ∧ Fr a 20 [(2, (.slice none 0 0)), (3, vvc1)] ∧ Iv w0 [] μ μ [row 26 32 vvc1 c1.length ccc1, cel g1 [[.int .u32 x0.Head.Version], av .u8 32 x0.Head.Prev, av .u8 32 x0.Head.Root, [.int .u32 x0.Head.Time], [.int .u32 x0.Head.Work], [.int .u32 x0.Head.Nonce], [u0_0]] 37] w) ?_ ?_
  · have H := bI hz1
    refine w_seq fun _ hN3 => w_reg <| stp hA (r_fd (k := 68) Tryd.underlying37 rfl sz35 hA rfl rfl) rfl fun a hA => 
      stp hA (r_ld1 (j := 0) [[.int .u32 x0.Head.Version], av .u8 32 x0.Head.Prev, av .u8 32 x0.Head.Root, [.int .u32 x0.Head.Time], [.int .u32 x0.Head.Work], [.int .u32 x0.Head.Nonce]] [] Tryd.underlying35 rfl hI rfl hA rfl rfl) rfl fun a hA => ?_
    obtain ⟨_, hsl1⟩ := Slc.sv hx0.2.2.2.2.2.2
    refine stp hA (r_slen Tryd.underlying35 hsl1 hA rfl) rfl fun a hA => 
      stm hA rfl rfl fun a hA => ?_
    refine o_nil <| hN3 _ _ <| w_block ?_
    have hI := hI.nilRow 26 32
    obtain ⟨z1, hz2, Hk2⟩ := bind_some H
    obtain ⟨n1, hn1⟩ := loopO_some hz2
    refine w_loop (fun n a w => ∃ (s1 : List (List Int)) (s2 : Int) (vvs1 : Value) (ccs1 : List Value), loopN (block_IDs.s0 x0) n (s1, s2) = some z1 ∧ Els (RA .u8 32) 32 s1 ccs1 ∧ InR .i64 s2 ∧ Fr a 20 [(2, (.slice none 0 0)), (3, vvs1), (7, u0_0), (8, .int .i64 (x0.Txs.length : Int)), (9, .int .i64 s2)] ∧ Iv w0 [] μ μ [row 26 32 vvs1 s1.length ccs1, cel g1 [[.int .u32 x0.Head.Version], av .u8 32 x0.Head.Prev, av .u8 32 x0.Head.Root, [.int .u32 x0.Head.Time], [.int .u32 x0.Head.Work], [.int .u32 x0.Head.Nonce], [u0_0]] 37] w) n1 ⟨([] : List (List Int)), 0, (.slice none 0 0), [], hn1, (Els.nil (RE := (RA .u8 32)) (sz := 32)), (in_lit .i64 0 rfl), hA.sub ⟨rfl, rfl, rfl, rfl, rfl, trivial⟩, hI⟩ ?_
    clear hA hI
    rintro n a w ⟨s1, s2, vvs1, ccs1, hn1, ws1, ws2, hA, hI⟩
    obtain ⟨m1, rfl, H⟩ := loopN_bind hn1
    clear hn1
    refine w_seq fun _ hN4 => w_reg <| stp hA (r_lss hA rfl rfl) rfl fun a hA => ?_
    refine o_nil <| hN4 _ _ <| w_seq fun _ hN5 => w_cond hA rfl (fun hc1 => ?_) (fun hc1 => ?_)
    · obtain ⟨hc1, H⟩ := dT H hc1
      refine w_skip <| hN5 _ _ <| w_seq fun _ hN6 => w_block <| w_seq fun _ hN7 => w_reg ?_
      obtain ⟨hb1, H⟩ := bG H
      obtain ⟨_, he1, _, hat1⟩ := Slc.elem hx0.2.2.2.2.2.2 (getD_some default hb1.1 hb1.2)
      obtain ⟨v1, v2, rfl, hw1⟩ := he1
      obtain ⟨_, hsl2⟩ := Slc.sv hx0.2.2.2.2.2.2
      refine stp hA (r_six Tryd.underlying35 sz32 hsl2 hA rfl rfl hb1.1 hb1.2) rfl fun a hA => 
        stp hA (r_ldmA [] [[.int .u32 ((x0.Txs.getD s2.toNat default).Version)], [v1], [v2], [.int .u32 ((x0.Txs.getD s2.toNat default).Time)]] [] Tryd.underlying32 rfl sz32 rfl hI.agr hat1 hA rfl rfl) rfl fun a hA => 
        o_new [[.int .u32 0], [(.slice none 0 0)], [(.slice none 0 0)], [.int .u32 0]] zr32 hI hA rfl fun g2 a w hA hI hg2 => ?_
      obtain ⟨_, hsl3⟩ := Slc.sv hw1.2.1
      obtain ⟨_, hsl4⟩ := Slc.sv hw1.2.2.1
      refine o_st (j := 0) [] [[.int .u32 0], [(.slice none 0 0)], [(.slice none 0 0)], [.int .u32 0]] [[.int .u32 ((x0.Txs.getD s2.toNat default).Version)], [v1], [v2], [.int .u32 ((x0.Txs.getD s2.toNat default).Time)]] [] sz32 rfl rfl (fl_cons (oneC rfl) (fl_cons (oneC (one_sl hsl3)) (fl_cons (oneC (one_sl hsl4)) (fl_cons (oneC rfl) fl_nil)))) hI rfl hA rfl rfl rfl rfl fun w hI => ?_
      refine o_nil <| hN7 _ _ <| w_reg <| stm hA rfl rfl fun a hA => 
        stp hA (r_ldA (j := 0) [] [[.int .u32 ((x0.Txs.getD s2.toNat default).Version)], [v1], [v2], [.int .u32 ((x0.Txs.getD s2.toNat default).Time)]] [] Tryd.underlying32 rfl sz32 rfl hI rfl hA rfl rfl) rfl fun a hA => ?_
      obtain ⟨r1, hr1, H⟩ := bB H
      refine o_callp (u := .agg [av .u8 32 r1].flatten.toArray) cf27 hA rfl hI (tx_ID.c μ _ hI.agr (x0.Txs.getD s2.toNat default) v1 v2 ⟨hw1.1, hw1.2.1, hw1.2.2.1, hw1.2.2.2⟩ r1 hr1) rfl fun a w hz3 hI hA => ?_
      have hE1 : Els (RA .u8 32) 32 ([r1] : List (List Int)) _ := (Els.cons (c := [av .u8 32 r1].flatten) ⟨rfl, hz3⟩ rfl Els.nil)
      refine o_bsl ([av .u8 32 r1].flatten ++ ([])) te26 zr26 Tryd.underlying56 hI hA rfl rfl rfl rfl (by kernel_rfl) rfl fun g3 a w hA hI => ?_
      generalize hcs : ([av .u8 32 r1].flatten ++ ([]) : List Value) = cs1 at hE1 hI
      clear hcs
      obtain ⟨hb2, H⟩ := bG H
      have hE3 := ws1.app hE1
      refine o_appG (xs := (s1 : List (List Int))) (ys := (([r1] : List (List Int)) : List (List Int))) (M := 4398046511104) 2 te26 Tryd.underlying56 hI rfl hA rfl rfl (src_row hI (j := 0) rfl) hE1.len (hE1.ones (one_RA _ _)) hb2 rfl fun v3 a w hA hI => 
        sta hA rfl rfl fun a hA => ?_
      refine o_nil <| hN6 _ _ <| w_reg <| stp hA (r_add hA rfl rfl) rfl fun a hA => 
        stm hA rfl rfl fun a hA => ?_
      refine o_nil <| ⟨m1, Nat.lt_succ_self _, s1 ++ ([r1] : List (List Int)), IntKind.i64.wrap (s2 + 1), v3, ccs1 ++ cs1, H, hE3, (wrap_in _ _), hA.sub ⟨rfl, rfl, rfl, rfl, rfl, trivial⟩, (hI.sl [2, 3] rfl)⟩
    · obtain ⟨hc1, H⟩ := dF H hc1
      refine w_exit rfl ?_
      have H : some s1 = some z1 := H
      obtain rfl := sI H
      have H := Hk2
      cases sJ H
      exact ⟨vvs1, ccs1, ws1, hA.sub ⟨rfl, rfl, trivial⟩, hI⟩
  · rintro a w ⟨vvc1, ccc1, wc1, hA, hI⟩
    have H := Hk1
    refine w_seq fun _ hN8 => w_reg <| stm hA rfl rfl fun a hA => 
      sta hA rfl rfl fun a hA => ?_
    refine o_nil <| hN8 _ _ <| w_ret ?_
    obtain rfl := sJ H
    exact ret1 hA Tryd.results13 rfl ⟨_, rfl, vvc1, ccc1, rfl, wc1, ((hI.sl [0] rfl).less (Store.le.refl _) hI.le)⟩
set_option maxRecDepth 20000 in
theorem block_Root.c (μ : Store) (w0 : World) (hμ : Agr μ w0) (x0 : Block) (u0_0 : Value) (hx0 : BlockW μ x0 u0_0) (r : List Int) (H : block_Root.f x0 = some r) :
    Calls Tryd.prog 7 [.agg [[.int .u32 x0.Head.Version], av .u8 32 x0.Head.Prev, av .u8 32 x0.Head.Root, [.int .u32 x0.Head.Time], [.int .u32 x0.Head.Work], [.int .u32 x0.Head.Nonce], [u0_0]].flatten.toArray].toArray w0 (fun e w' => ∃ v, e = .returned v ∧ v = .agg [av .u8 32 r].flatten.toArray ∧ Arr .u8 32 r ∧ Iv w0 [] μ μ [] w') := by
  refine enter Tryd.func7 rfl Tryd.ntmps7 rfl fun a hA => ?_
  have hI := Iv.start hμ
  have H := bI H
  refine w_seq fun _ hN1 => w_reg <| o_box [[.int .u32 x0.Head.Version], av .u8 32 x0.Head.Prev, av .u8 32 x0.Head.Root, [.int .u32 x0.Head.Time], [.int .u32 x0.Head.Work], [.int .u32 x0.Head.Nonce], [u0_0]] hI hA rfl rfl rfl fun g1 a w hA hI hg1 => 
    o_new [av .u8 32 (List.replicate 32 0)] zr26 hI hA rfl fun g2 a w hA hI hg2 => ?_
  refine o_nil <| hN1 _ _ <| w_seq fun _ hN2 => w_reg <| stp hA (r_ldA (j := 1) [] [[.int .u32 x0.Head.Version], av .u8 32 x0.Head.Prev, av .u8 32 x0.Head.Root, [.int .u32 x0.Head.Time], [.int .u32 x0.Head.Work], [.int .u32 x0.Head.Nonce], [u0_0]] [] Tryd.underlying37 rfl sz37 rfl hI rfl hA rfl rfl) rfl fun a hA => ?_
  obtain ⟨r1, hr1, H⟩ := bB H
  refine o_call _ cf13 hA rfl (block_IDs.c μ _ hI.agr x0 u0_0 ⟨hx0.1, hx0.2.1, hx0.2.2.1, hx0.2.2.2.1, hx0.2.2.2.2.1, hx0.2.2.2.2.2.1, hx0.2.2.2.2.2.2⟩ r1 hr1) rfl fun v1 a w hz1 hA => ?_
  obtain ⟨_, cs1, rfl, hE1, hi1⟩ := hz1
  have hI := hI.call hi1
  obtain ⟨r2, hr2, H⟩ := bB H
  refine o_callp (u := .agg [av .u8 32 r2].flatten.toArray) cf16 hA rfl hI ((by obtain ⟨μ1, hle1, hsv1, hI⟩ := hI.freezeRow 0 rfl; have hS1 : Slc (RA .u8 32) 32 μ1 v1 r1 := ⟨_, hE1, hsv1⟩; exact low_plain hle1 (merkle_Root.c μ1 _ hI.agr r1 v1 hS1 r2 hr2))) rfl fun a w hz2 hI hA => 
    o_st (j := 1) [] [av .u8 32 (List.replicate 32 0)] [av .u8 32 r2] [] sz26 rfl rfl (fl_cons (one_av _ _ _) fl_nil) hI rfl hA rfl rfl rfl rfl fun w hI => ?_
  refine o_nil <| hN2 _ _ <| w_ret ?_
  obtain rfl := sJ H
  exact retc Tryd.underlying26 rfl sz26 rfl hI (j := 1) rfl hA Tryd.results7 rfl ⟨_, rfl, rfl, hz2, hI.forget0⟩
set_option maxRecDepth 20000 in
theorem block_Bytes.c (μ : Store) (w0 : World) (hμ : Agr μ w0) (x0 : Block) (u0_0 : Value) (hx0 : BlockW μ x0 u0_0) (r : List Int) (H : block_Bytes.f x0 = some r) :
    Calls Tryd.prog 30 [.agg [[.int .u32 x0.Head.Version], av .u8 32 x0.Head.Prev, av .u8 32 x0.Head.Root, [.int .u32 x0.Head.Time], [.int .u32 x0.Head.Work], [.int .u32 x0.Head.Nonce], [u0_0]].flatten.toArray].toArray w0 (fun e w' => ∃ v, e = .returned v ∧ ∃ (v0 : Value) (c0 : List Value), v = v0 ∧ Els (RI .u8) 1 r c0 ∧ Iv w0 [] μ μ [row 5 1 v0 r.length c0] w') := by
  refine enter Tryd.func30 rfl Tryd.ntmps30 rfl fun a hA => ?_
  have hI := Iv.start hμ
  have H := bI H
  refine w_seq fun _ hN1 => w_reg <| o_box [[.int .u32 x0.Head.Version], av .u8 32 x0.Head.Prev, av .u8 32 x0.Head.Root, [.int .u32 x0.Head.Time], [.int .u32 x0.Head.Work], [.int .u32 x0.Head.Nonce], [u0_0]] hI hA rfl rfl rfl fun g1 a w hA hI hg1 => 
    sta hA rfl rfl fun a hA => ?_
  refine o_nil <| hN1 _ _ <| w_seq fun _ hN2 => ?_
  refine w_any [] mo hI fun w hI => ?_
  refine gE 0 hA rfl (.inr hI) (fun _ => r_fd (k := 0) Tryd.underlying37 rfl sz28 hA rfl rfl) fun a hA => ?_
  refine gT 1 hA rfl hI (fun w hI => r_ldA (j := 0) [] [[.int .u32 x0.Head.Version], av .u8 32 x0.Head.Prev, av .u8 32 x0.Head.Root, [.int .u32 x0.Head.Time], [.int .u32 x0.Head.Work], [.int .u32 x0.Head.Nonce]] [[u0_0]] Tryd.underlying28 rfl sz28 rfl hI rfl hA rfl rfl) fun a hA => ?_
  refine gE 3 hA rfl (.inr hI) (fun _ => r_fd (k := 68) Tryd.underlying37 rfl sz35 hA rfl rfl) fun a hA => ?_
  refine gT 4 hA rfl hI (fun w hI => r_ld1 (j := 0) [[.int .u32 x0.Head.Version], av .u8 32 x0.Head.Prev, av .u8 32 x0.Head.Root, [.int .u32 x0.Head.Time], [.int .u32 x0.Head.Work], [.int .u32 x0.Head.Nonce]] [] Tryd.underlying35 rfl hI rfl hA rfl rfl) fun a hA => ?_
  obtain ⟨_, hsl1⟩ := Slc.sv hx0.2.2.2.2.2.2
  refine gE 5 hA rfl (.inr hI) (fun _ => r_slen Tryd.underlying35 hsl1 hA rfl) fun a hA => ?_
  refine gE 6 hA rfl (.inr hI) (fun _ => r_conv Tryd.underlying3 Tryd.underlying34 hA rfl) fun a hA => ?_
  refine gF 2 rfl ?_
  obtain ⟨r1, hr1, H⟩ := bB H
  refine o_call _ cf44 hA rfl (head_Bytes.c μ _ hI.agr x0.Head ⟨hx0.1, hx0.2.1, hx0.2.2.1, hx0.2.2.2.1, hx0.2.2.2.2.1, hx0.2.2.2.2.2.1⟩ r1 hr1) rfl fun v1 a w hz1 hA => ?_
  obtain ⟨_, cs1, rfl, hE1, hi1⟩ := hz1
  have hI := hI.call hi1
  refine o_nil <| ⟨(.inr (hI.sl [1] rfl)), ?_⟩
  refine gF 7 rfl ?_
  obtain ⟨r2, hr2, H⟩ := bB H
  refine o_callW (fun w v w' => ∃ (v0 : Value) (c0 : List Value), v = v0 ∧ Els (RI .u8) 1 r2 c0 ∧ Iv w [] μ μ [row 5 1 v0 r2.length c0] w') cf43 hA rfl ((by obtain ⟨μ1, hle1, hsv1, hI⟩ := hI.freezeRow 0 rfl; have hS1 : Slc (RI .u8) 1 μ1 v1 r1 := ⟨_, hE1, hsv1⟩; exact (compact_Put.c μ1 _ hI.agr r1 v1 hS1 (IntKind.u64.wrap (x0.Txs.length : Int)) (wrap_in _ _) r2 hr2).mono fun _ _ ⟨v, he, b0, b1, hv, f0, hi⟩ => ⟨v, he, b0, b1, hv, f0, hi.low hle1⟩)) rfl fun v2 a w hz2 hA => ?_
  obtain ⟨_, cs2, rfl, hE2, hi2⟩ := hz2
  have hI := hI.call hi2
  refine o_nil <| ⟨(.inr (hI.sl [2] rfl)), ?_⟩
  refine gE 8 hA rfl (.inr (hI.sl [2] rfl)) (fun _ => r_as hA rfl) fun a hA => ?_
  refine gN <| hN2 _ _ ?_
  obtain ⟨c1, hz3, Hk1⟩ := bB H
  refine w_cut (fun a w => ∃ (vvc1 : Value) (ccc1 : List Value), Els (RI .u8) 1 c1 ccc1 ∧ Fr a 27 [(2, (.slice none 0 0)), (3, vvc1)] ∧ Iv w0 [] μ μ [row 5 1 vvc1 c1.length ccc1, row 5 1 v1 r1.length cs1, cel g1 [[.int .u32 x0.Head.Version], av .u8 32 x0.Head.Prev, av .u8 32 x0.Head.Root, [.int .u32 x0.Head.Time], [.int .u32 x0.Head.Work], [.int .u32 x0.Head.Nonce], [u0_0]] 37] w) ?_ ?_
  · have H := bI hz3
    refine w_seq fun _ hN3 => w_reg <| stp hA (r_fd (k := 68) Tryd.underlying37 rfl sz35 hA rfl rfl) rfl fun a hA => 
      stp hA (r_ld1 (j := 2) [[.int .u32 x0.Head.Version], av .u8 32 x0.Head.Prev, av .u8 32 x0.Head.Root, [.int .u32 x0.Head.Time], [.int .u32 x0.Head.Work], [.int .u32 x0.Head.Nonce]] [] Tryd.underlying35 rfl hI rfl hA rfl rfl) rfl fun a hA => ?_
    obtain ⟨_, hsl2⟩ := Slc.sv hx0.2.2.2.2.2.2
    refine stp hA (r_slen Tryd.underlying35 hsl2 hA rfl) rfl fun a hA => 
      stm hA rfl rfl fun a hA => ?_
    refine o_nil <| hN3 _ _ <| w_block ?_
    obtain ⟨z1, hz4, Hk2⟩ := bind_some H
    obtain ⟨n1, hn1⟩ := loopO_some hz4
    refine w_loop (fun n a w => ∃ (s1 : List Int) (s2 : Int) (vvs1 : Value) (ccs1 : List Value), loopN (block_Bytes.s0 x0) n (s1, s2) = some z1 ∧ Els (RI .u8) 1 s1 ccs1 ∧ InR .i64 s2 ∧ Fr a 27 [(2, (.slice none 0 0)), (3, vvs1), (15, u0_0), (16, .int .i64 (x0.Txs.length : Int)), (17, .int .i64 s2)] ∧ Iv w0 [] μ μ [row 5 1 vvs1 s1.length ccs1, row 5 1 v1 r1.length cs1, cel g1 [[.int .u32 x0.Head.Version], av .u8 32 x0.Head.Prev, av .u8 32 x0.Head.Root, [.int .u32 x0.Head.Time], [.int .u32 x0.Head.Work], [.int .u32 x0.Head.Nonce], [u0_0]] 37] w) n1 ⟨r2, 0, v2, cs2, hn1, hE2, (in_lit .i64 0 rfl), hA.sub ⟨rfl, rfl, rfl, rfl, rfl, trivial⟩, hI⟩ ?_
    clear hA hI
    rintro n a w ⟨s1, s2, vvs1, ccs1, hn1, ws1, ws2, hA, hI⟩
    obtain ⟨m1, rfl, H⟩ := loopN_bind hn1
    clear hn1
    refine w_seq fun _ hN4 => w_reg <| stp hA (r_lss hA rfl rfl) rfl fun a hA => ?_
    refine o_nil <| hN4 _ _ <| w_seq fun _ hN5 => w_cond hA rfl (fun hc1 => ?_) (fun hc1 => ?_)
    · obtain ⟨hc1, H⟩ := dT H hc1
      refine w_skip <| hN5 _ _ <| w_seq fun _ hN6 => w_block <| w_seq fun _ hN7 => w_reg ?_
      obtain ⟨hb1, H⟩ := bG H
      obtain ⟨_, he1, _, hat1⟩ := Slc.elem hx0.2.2.2.2.2.2 (getD_some default hb1.1 hb1.2)
      obtain ⟨v3, v4, rfl, hw1⟩ := he1
      obtain ⟨_, hsl3⟩ := Slc.sv hx0.2.2.2.2.2.2
      refine stp hA (r_six Tryd.underlying35 sz32 hsl3 hA rfl rfl hb1.1 hb1.2) rfl fun a hA => 
        stp hA (r_ldmA [] [[.int .u32 ((x0.Txs.getD s2.toNat default).Version)], [v3], [v4], [.int .u32 ((x0.Txs.getD s2.toNat default).Time)]] [] Tryd.underlying32 rfl sz32 rfl hI.agr hat1 hA rfl rfl) rfl fun a hA => 
        o_new [[.int .u32 0], [(.slice none 0 0)], [(.slice none 0 0)], [.int .u32 0]] zr32 hI hA rfl fun g2 a w hA hI hg2 => ?_
      obtain ⟨_, hsl4⟩ := Slc.sv hw1.2.1
      obtain ⟨_, hsl5⟩ := Slc.sv hw1.2.2.1
      refine o_st (j := 0) [] [[.int .u32 0], [(.slice none 0 0)], [(.slice none 0 0)], [.int .u32 0]] [[.int .u32 ((x0.Txs.getD s2.toNat default).Version)], [v3], [v4], [.int .u32 ((x0.Txs.getD s2.toNat default).Time)]] [] sz32 rfl rfl (fl_cons (oneC rfl) (fl_cons (oneC (one_sl hsl4)) (fl_cons (oneC (one_sl hsl5)) (fl_cons (oneC rfl) fl_nil)))) hI rfl hA rfl rfl rfl rfl fun w hI => ?_
      refine o_nil <| hN7 _ _ <| w_reg <| stm hA rfl rfl fun a hA => 
        stp hA (r_ldA (j := 0) [] [[.int .u32 ((x0.Txs.getD s2.toNat default).Version)], [v3], [v4], [.int .u32 ((x0.Txs.getD s2.toNat default).Time)]] [] Tryd.underlying32 rfl sz32 rfl hI rfl hA rfl rfl) rfl fun a hA => ?_
      obtain ⟨r3, hr3, H⟩ := bB H
      refine o_call _ cf40 hA rfl (tx_Bytes.c μ _ hI.agr (x0.Txs.getD s2.toNat default) v3 v4 ⟨hw1.1, hw1.2.1, hw1.2.2.1, hw1.2.2.2⟩ r3 hr3) rfl fun v5 a w hz5 hA => ?_
      obtain ⟨_, cs3, rfl, hE3, hi3⟩ := hz5
      have hI := hI.call hi3
      obtain ⟨hb2, H⟩ := bG H
      have hE5 := ws1.app hE3
      refine o_appG (xs := (s1 : List Int)) (ys := (r3 : List Int)) (M := 140737488355328) 2 te5 Tryd.underlying40 hI rfl hA rfl rfl (src_row hI (j := 0) rfl) hE3.len (hE3.ones (one_RI _)) hb2 rfl fun v6 a w hA hI => 
        sta hA rfl rfl fun a hA => ?_
      refine o_nil <| hN6 _ _ <| w_reg <| stp hA (r_add hA rfl rfl) rfl fun a hA => 
        stm hA rfl rfl fun a hA => ?_
      refine o_nil <| ⟨m1, Nat.lt_succ_self _, s1 ++ r3, IntKind.i64.wrap (s2 + 1), v6, ccs1 ++ cs3, H, hE5, (wrap_in _ _), hA.sub ⟨rfl, rfl, rfl, rfl, rfl, trivial⟩, (hI.sl [2, 3, 4] rfl)⟩
    · obtain ⟨hc1, H⟩ := dF H hc1
      refine w_exit rfl ?_
      have H : some s1 = some z1 := H
      obtain rfl := sI H
      have H := Hk2
      cases sJ H
      exact ⟨vvs1, ccs1, ws1, hA.sub ⟨rfl, rfl, trivial⟩, hI⟩
  · rintro a w ⟨vvc1, ccc1, wc1, hA, hI⟩
    have H := Hk1
    refine w_seq fun _ hN8 => w_reg <| stm hA rfl rfl fun a hA => 
      sta hA rfl rfl fun a hA => ?_
    refine o_nil <| hN8 _ _ <| w_ret ?_
    obtain rfl := sJ H
    exact ret1 hA Tryd.results30 rfl ⟨_, rfl, vvc1, ccc1, rfl, wc1, ((hI.sl [0] rfl).less (Store.le.refl _) hI.le)⟩
set_option maxRecDepth 20000 in
theorem block_Size.c (μ : Store) (w0 : World) (hμ : Agr μ w0) (x0 : Block) (u0_0 : Value) (hx0 : BlockW μ x0 u0_0) (r : Int) (H : block_Size.f x0 = some r) :
    Calls Tryd.prog 18 [.agg [[.int .u32 x0.Head.Version], av .u8 32 x0.Head.Prev, av .u8 32 x0.Head.Root, [.int .u32 x0.Head.Time], [.int .u32 x0.Head.Work], [.int .u32 x0.Head.Nonce], [u0_0]].flatten.toArray].toArray w0 (fun e w' => ∃ v, e = .returned v ∧ v = .int .i64 r ∧ InR .i64 r ∧ Iv w0 [] μ μ [] w') := by
  refine enter Tryd.func18 rfl Tryd.ntmps18 rfl fun a hA => ?_
  have hI := Iv.start hμ
  have H := bI H
  refine w_seq fun _ hN1 => w_reg <| o_box [[.int .u32 x0.Head.Version], av .u8 32 x0.Head.Prev, av .u8 32 x0.Head.Root, [.int .u32 x0.Head.Time], [.int .u32 x0.Head.Work], [.int .u32 x0.Head.Nonce], [u0_0]] hI hA rfl rfl rfl fun g1 a w hA hI hg1 => 
    sta hA rfl rfl fun a hA => ?_
  refine o_nil <| hN1 _ _ <| w_seq fun _ hN2 => w_reg <| stp hA (r_ldA (j := 0) [] [[.int .u32 x0.Head.Version], av .u8 32 x0.Head.Prev, av .u8 32 x0.Head.Root, [.int .u32 x0.Head.Time], [.int .u32 x0.Head.Work], [.int .u32 x0.Head.Nonce], [u0_0]] [] Tryd.underlying37 rfl sz37 rfl hI rfl hA rfl rfl) rfl fun a hA => ?_
  obtain ⟨r1, hr1, H⟩ := bB H
  refine o_call _ cf30 hA rfl (block_Bytes.c μ _ hI.agr x0 u0_0 ⟨hx0.1, hx0.2.1, hx0.2.2.1, hx0.2.2.2.1, hx0.2.2.2.2.1, hx0.2.2.2.2.2.1, hx0.2.2.2.2.2.2⟩ r1 hr1) rfl fun v1 a w hz1 hA => ?_
  obtain ⟨_, cs1, rfl, hE1, hi1⟩ := hz1
  have hI := hI.call hi1
  have hlen1 := Iv.row_in hI (j := 0) rfl
  refine stp hA (r_rlen (xs := 0) Tryd.underlying40 hI (j := 0) rfl hA rfl) rfl fun a hA => 
    sta hA rfl rfl fun a hA => ?_
  refine o_nil <| hN2 _ _ <| w_ret ?_
  obtain rfl := sJ H
  exact ret1 hA Tryd.results18 rfl ⟨_, rfl, rfl, hlen1, hI.forget0⟩
set_option maxRecDepth 20000 in
theorem block_parts.c (μ : Store) (w0 : World) (hμ : Agr μ w0) (x0 : Block) (u0_0 : Value) (hx0 : BlockW μ x0 u0_0) (e0 : Value) (he0 : ErS μ e0 (Er.b 1)) (e1 : Value) (he1 : ErS μ e1 (Er.b 2)) (e2 : Value) (he2 : ErS μ e2 (Er.b 3)) (e5 : Value) (he5 : ErS μ e5 (Er.b 6)) (e6 : Value) (he6 : ErS μ e6 (Er.b 7)) (e7 : Value) (he7 : ErS μ e7 (Er.b 8)) (r : Er) (H : block_parts.f x0 = some r) :
    Calls Tryd.prog 19 [.agg [[.int .u32 x0.Head.Version], av .u8 32 x0.Head.Prev, av .u8 32 x0.Head.Root, [.int .u32 x0.Head.Time], [.int .u32 x0.Head.Work], [.int .u32 x0.Head.Nonce], [u0_0]].flatten.toArray].toArray w0 (fun e w' => ∃ v, e = .returned v ∧ ∃ (v0 : Value) (μ' : Store), v = v0 ∧ ErS μ' v0 r ∧ Iv w0 [] μ μ' [] w') := by
  refine enter Tryd.func19 rfl Tryd.ntmps19 rfl fun a hA => ?_
  have hI := Iv.start hμ
  have H := bI H
  refine w_seq fun _ hN1 => w_reg <| o_box [[.int .u32 x0.Head.Version], av .u8 32 x0.Head.Prev, av .u8 32 x0.Head.Root, [.int .u32 x0.Head.Time], [.int .u32 x0.Head.Work], [.int .u32 x0.Head.Nonce], [u0_0]] hI hA rfl rfl rfl fun g1 a w hA hI hg1 => 
    sta hA rfl rfl fun a hA => ?_
  refine o_nil <| hN1 _ _ <| w_seq fun _ hN2 => w_seq fun _ hN3 => w_reg <| stp hA (r_fd (k := 68) Tryd.underlying37 rfl sz35 hA rfl rfl) rfl fun a hA => 
    stp hA (r_ld1 (j := 0) [[.int .u32 x0.Head.Version], av .u8 32 x0.Head.Prev, av .u8 32 x0.Head.Root, [.int .u32 x0.Head.Time], [.int .u32 x0.Head.Work], [.int .u32 x0.Head.Nonce]] [] Tryd.underlying35 rfl hI rfl hA rfl rfl) rfl fun a hA => ?_
  obtain ⟨_, hsl1⟩ := Slc.sv hx0.2.2.2.2.2.2
  refine stp hA (r_slen Tryd.underlying35 hsl1 hA rfl) rfl fun a hA => 
    stm hA rfl rfl fun a hA => ?_
  refine o_nil <| hN3 _ _ <| w_block ?_
  obtain ⟨z1, hz1, Hk1⟩ := bind_some H
  obtain ⟨n1, hn1⟩ := loopO_some hz1
  refine w_loop (fun n a w => ∃ (s1 : Int) (μ1 : Store), loopN (block_parts.s0 x0) n s1 = some z1 ∧ μ.le μ1 ∧ InR .i64 s1 ∧ Fr a 45 [(1, .pointer (some ⟨g1, 0, none⟩)), (2, .nilIface), (9, u0_0), (10, .int .i64 (x0.Txs.length : Int)), (11, .int .i64 s1)] ∧ Iv w0 [] μ μ1 [cel g1 [[.int .u32 x0.Head.Version], av .u8 32 x0.Head.Prev, av .u8 32 x0.Head.Root, [.int .u32 x0.Head.Time], [.int .u32 x0.Head.Work], [.int .u32 x0.Head.Nonce], [u0_0]] 37] w) n1 ⟨0, μ, hn1, (Store.le.refl _), (in_lit .i64 0 rfl), hA.sub ⟨rfl, rfl, rfl, rfl, rfl, trivial⟩, hI⟩ ?_
  clear hA hI
  rintro n a w ⟨s1, μ1, hn1, hle1, ws1, hA, hI⟩
  obtain ⟨m1, rfl, H⟩ := loopN_bind hn1
  clear hn1
  refine w_seq fun _ hN4 => w_reg <| stp hA (r_lss hA rfl rfl) rfl fun a hA => ?_
  refine o_nil <| hN4 _ _ <| w_seq fun _ hN5 => w_cond hA rfl (fun hc1 => ?_) (fun hc1 => ?_)
  · obtain ⟨hc1, H⟩ := dT H hc1
    refine w_skip <| hN5 _ _ <| w_seq fun _ hN6 => w_block <| w_seq fun _ hN7 => w_reg <| stm hA rfl rfl fun a hA => ?_
    obtain ⟨hb1, H⟩ := bG H
    obtain ⟨_, he1, _, hat1⟩ := Slc.elem (Slc.le hx0.2.2.2.2.2.2 (fun _ _ h => RTx.le hle1 h) hle1) (getD_some default hb1.1 hb1.2)
    obtain ⟨v1, v2, rfl, hw1⟩ := he1
    obtain ⟨_, hsl2⟩ := Slc.sv (Slc.le hx0.2.2.2.2.2.2 (fun _ _ h => RTx.le hle1 h) hle1)
    refine stp hA (r_six Tryd.underlying35 sz32 hsl2 hA rfl rfl hb1.1 hb1.2) rfl fun a hA => 
      stp hA (r_ldmA [] [[.int .u32 ((x0.Txs.getD s1.toNat default).Version)], [v1], [v2], [.int .u32 ((x0.Txs.getD s1.toNat default).Time)]] [] Tryd.underlying32 rfl sz32 rfl hI.agr hat1 hA rfl rfl) rfl fun a hA => 
      o_new [[.int .u32 0], [(.slice none 0 0)], [(.slice none 0 0)], [.int .u32 0]] zr32 hI hA rfl fun g2 a w hA hI hg2 => 
      sta hA rfl rfl fun a hA => ?_
    obtain ⟨_, hsl3⟩ := Slc.sv hw1.2.1
    obtain ⟨_, hsl4⟩ := Slc.sv hw1.2.2.1
    refine o_st (j := 0) [] [[.int .u32 0], [(.slice none 0 0)], [(.slice none 0 0)], [.int .u32 0]] [[.int .u32 ((x0.Txs.getD s1.toNat default).Version)], [v1], [v2], [.int .u32 ((x0.Txs.getD s1.toNat default).Time)]] [] sz32 rfl rfl (fl_cons (oneC rfl) (fl_cons (oneC (one_sl hsl3)) (fl_cons (oneC (one_sl hsl4)) (fl_cons (oneC rfl) fl_nil)))) hI rfl hA rfl rfl rfl rfl fun w hI => ?_
    refine o_nil <| hN7 _ _ <| w_seq fun _ hN8 => w_reg <| stp hA (r_ldA (j := 0) [] [[.int .u32 ((x0.Txs.getD s1.toNat default).Version)], [v1], [v2], [.int .u32 ((x0.Txs.getD s1.toNat default).Time)]] [] Tryd.underlying32 rfl sz32 rfl hI rfl hA rfl rfl) rfl fun a hA => ?_
    obtain ⟨r1, hr1, H⟩ := bB H
    refine o_call _ cf31 hA rfl (tx_Check.c μ1 _ hI.agr (x0.Txs.getD s1.toNat default) v1 v2 ⟨hw1.1, hw1.2.1, hw1.2.2.1, hw1.2.2.2⟩ e0 (ErV.le (fun _ _ h => h) hle1 he0) e1 (ErV.le (fun _ _ h => h) hle1 he1) e2 (ErV.le (fun _ _ h => h) hle1 he2) e5 (ErV.le (fun _ _ h => h) hle1 he5) e6 (ErV.le (fun _ _ h => h) hle1 he6) e7 (ErV.le (fun _ _ h => h) hle1 he7) r1 hr1) rfl fun v3 a w hz2 hA => ?_
    obtain ⟨_, μ2, rfl, hS1, hi1⟩ := hz2
    have hI := hI.call hi1
    refine sta hA rfl rfl fun a hA => ?_
    refine o_nil <| hN8 _ _ <| w_seq fun _ hN9 => w_reg <| stm hA rfl rfl fun a hA => 
      stp hA (r_neE erF hI.agr hS1 erv_nil (.inl ⟨.inr ⟨_, rfl⟩, Er.fitR⟩) hA rfl rfl) rfl fun a hA => ?_
    refine o_nil <| hN9 _ _ <| w_cond hA rfl (fun hc2 => ?_) (fun hc2 => ?_)
    · obtain ⟨hc2, H⟩ := dT H hc2
      refine w_seq fun _ hN10 => w_reg <| stm hA rfl rfl fun a hA => 
        stm hA rfl rfl fun a hA => 
        stp hA (r_bldS (cs := [[.int .i64 s1], [v3]].flatten.toArray) (pl := [(0, 1), (1, 1)]) zr76 Tryd.underlying76 ⟨rfl, sz3, rfl, sz47, trivial⟩ hA rfl ((fill_one rfl rfl (by kernel_rfl)).trans ((fill_one (cells_err hS1) rfl (by kernel_rfl)).trans (by kernel_rfl)))) rfl fun a hA => 
        o_box [[.int .i64 s1], [v3]] hI hA rfl rfl rfl fun g3 a w hA hI hg3 => ?_
      obtain ⟨μ3, hle2, hat2, hI⟩ := hI.freezeCel 0 rfl
      have he2 : ErS μ3 (.iface 74 (.pointer (some ⟨g3, 0, none⟩))) (Er.pl s1 r1) := ⟨g3, v3, rfl, hat2, ws1, (ErV.le (fun _ _ h => h) hle2 hS1)⟩
      refine stp hA (r_mkI Tryd.underlying74 hA rfl) rfl fun a hA => 
        sta hA rfl rfl fun a hA => ?_
      refine o_nil <| hN10 _ _ <| w_ret ?_
      have H : some (Er.pl s1 r1) = some z1 := H
      obtain rfl := sI H
      have H := Hk1
      obtain rfl := sJ H
      exact ret1 hA Tryd.results19 rfl ⟨_, rfl, (.iface 74 (.pointer (some ⟨g3, 0, none⟩))), μ3, rfl, he2, (hI.sl [] rfl)⟩
    · obtain ⟨hc2, H⟩ := dF H hc2
      refine w_skip <| hN6 _ _ <| w_reg <| stp hA (r_add hA rfl rfl) rfl fun a hA => 
        stm hA rfl rfl fun a hA => ?_
      refine o_nil <| ⟨m1, Nat.lt_succ_self _, IntKind.i64.wrap (s1 + 1), μ2, H, (hle1.trans hi1.le), (wrap_in _ _), hA.sub ⟨rfl, rfl, rfl, rfl, rfl, trivial⟩, (hI.sl [1] rfl)⟩
  · obtain ⟨hc1, H⟩ := dF H hc1
    refine w_exit rfl <| hN2 _ _ <| w_seq fun _ hN11 => w_seq fun _ hN12 => w_reg <| stp hA (r_fd (k := 68) Tryd.underlying37 rfl sz35 hA rfl rfl) rfl fun a hA => 
      stp hA (r_ld1 (j := 0) [[.int .u32 x0.Head.Version], av .u8 32 x0.Head.Prev, av .u8 32 x0.Head.Root, [.int .u32 x0.Head.Time], [.int .u32 x0.Head.Work], [.int .u32 x0.Head.Nonce]] [] Tryd.underlying35 rfl hI rfl hA rfl rfl) rfl fun a hA => ?_
    obtain ⟨_, hsl5⟩ := Slc.sv (Slc.le hx0.2.2.2.2.2.2 (fun _ _ h => RTx.le hle1 h) hle1)
    refine stp hA (r_slen Tryd.underlying35 hsl5 hA rfl) rfl fun a hA => 
      stm hA rfl rfl fun a hA => ?_
    refine o_nil <| hN12 _ _ <| w_block ?_
    obtain ⟨z2, hz3, Hk2⟩ := bind_some H
    obtain ⟨n2, hn2⟩ := loopO_some hz3
    refine w_loop (fun n a w => ∃ (s2 : Int), loopN (block_parts.s1 x0) n s2 = some z2 ∧ InR .i64 s2 ∧ Fr a 45 [(2, .nilIface), (27, u0_0), (28, .int .i64 (x0.Txs.length : Int)), (29, .int .i64 s2)] ∧ Iv w0 [] μ μ1 [cel g1 [[.int .u32 x0.Head.Version], av .u8 32 x0.Head.Prev, av .u8 32 x0.Head.Root, [.int .u32 x0.Head.Time], [.int .u32 x0.Head.Work], [.int .u32 x0.Head.Nonce], [u0_0]] 37] w) n2 ⟨0, hn2, (in_lit .i64 0 rfl), hA.sub ⟨rfl, rfl, rfl, rfl, trivial⟩, hI⟩ ?_
    clear hA hI
    rintro n a w ⟨s2, hn2, ws2, hA, hI⟩
    obtain ⟨m2, rfl, H⟩ := loopN_bind hn2
    clear hn2
    refine w_seq fun _ hN13 => w_reg <| stp hA (r_lss hA rfl rfl) rfl fun a hA => ?_
    refine o_nil <| hN13 _ _ <| w_seq fun _ hN14 => w_cond hA rfl (fun hc3 => ?_) (fun hc3 => ?_)
    · obtain ⟨hc3, H⟩ := dT H hc3
      refine w_skip <| hN14 _ _ <| w_seq fun _ hN15 => w_block <| w_seq fun _ hN16 => w_reg <| stm hA rfl rfl fun a hA => ?_
      obtain ⟨hb2, H⟩ := bG H
      obtain ⟨_, he3, _, hat3⟩ := Slc.elem (Slc.le hx0.2.2.2.2.2.2 (fun _ _ h => RTx.le hle1 h) hle1) (getD_some default hb2.1 hb2.2)
      obtain ⟨v4, v5, rfl, hw2⟩ := he3
      obtain ⟨_, hsl6⟩ := Slc.sv (Slc.le hx0.2.2.2.2.2.2 (fun _ _ h => RTx.le hle1 h) hle1)
      refine stp hA (r_six Tryd.underlying35 sz32 hsl6 hA rfl rfl hb2.1 hb2.2) rfl fun a hA => 
        stp hA (r_ldmA [] [[.int .u32 ((x0.Txs.getD s2.toNat default).Version)], [v4], [v5], [.int .u32 ((x0.Txs.getD s2.toNat default).Time)]] [] Tryd.underlying32 rfl sz32 rfl hI.agr hat3 hA rfl rfl) rfl fun a hA => 
        o_new [[.int .u32 0], [(.slice none 0 0)], [(.slice none 0 0)], [.int .u32 0]] zr32 hI hA rfl fun g4 a w hA hI hg4 => 
        sta hA rfl rfl fun a hA => ?_
      obtain ⟨_, hsl7⟩ := Slc.sv hw2.2.1
      obtain ⟨_, hsl8⟩ := Slc.sv hw2.2.2.1
      refine o_st (j := 0) [] [[.int .u32 0], [(.slice none 0 0)], [(.slice none 0 0)], [.int .u32 0]] [[.int .u32 ((x0.Txs.getD s2.toNat default).Version)], [v4], [v5], [.int .u32 ((x0.Txs.getD s2.toNat default).Time)]] [] sz32 rfl rfl (fl_cons (oneC rfl) (fl_cons (oneC (one_sl hsl7)) (fl_cons (oneC (one_sl hsl8)) (fl_cons (oneC rfl) fl_nil)))) hI rfl hA rfl rfl rfl rfl fun w hI => ?_
      refine o_nil <| hN16 _ _ <| w_seq fun _ hN17 => w_reg <| stp hA (r_ldA (j := 0) [] [[.int .u32 ((x0.Txs.getD s2.toNat default).Version)], [v4], [v5], [.int .u32 ((x0.Txs.getD s2.toNat default).Time)]] [] Tryd.underlying32 rfl sz32 rfl hI rfl hA rfl rfl) rfl fun a hA => ?_
      obtain ⟨r2, hr2, H⟩ := bB H
      refine o_callp (u := .bool r2) cf32 hA rfl hI (tx_Base.c μ1 _ hI.agr (x0.Txs.getD s2.toNat default) v4 v5 ⟨hw2.1, hw2.2.1, hw2.2.2.1, hw2.2.2.2⟩ r2 hr2) rfl fun a w hz4 hI hA => 
        stm hA rfl rfl fun a hA => 
        stp hA (r_eql hA rfl rfl) rfl fun a hA => 
        stp hA (r_neqb Tryd.underlying4 hA rfl rfl) rfl fun a hA => ?_
      refine o_nil <| hN17 _ _ <| w_cond hA rfl (fun hc4 => ?_) (fun hc4 => ?_)
      · obtain ⟨hc4, H⟩ := dT H hc4
        refine w_seq fun _ hN18 => w_reg <| stm hA rfl rfl fun a hA => 
          stp hA (r_ldG Tryd.underlying47 rfl hI.agr (ErV.le (fun _ _ h => h) hle1 he5) hA) rfl fun a hA => 
          stp hA (r_bldS (cs := [[.int .i64 s2], [e5]].flatten.toArray) (pl := [(0, 1), (1, 1)]) zr76 Tryd.underlying76 ⟨rfl, sz3, rfl, sz47, trivial⟩ hA rfl ((fill_one rfl rfl (by kernel_rfl)).trans ((fill_one (cells_err (ErV.le (fun _ _ h => h) hle1 he5)) rfl (by kernel_rfl)).trans (by kernel_rfl)))) rfl fun a hA => 
          o_box [[.int .i64 s2], [e5]] hI hA rfl rfl rfl fun g5 a w hA hI hg5 => ?_
        obtain ⟨μ4, hle3, hat4, hI⟩ := hI.freezeCel 0 rfl
        have he4 : ErS μ4 (.iface 74 (.pointer (some ⟨g5, 0, none⟩))) (Er.pl s2 xErrBase) := ⟨g5, e5, rfl, hat4, ws2, (ErV.le (fun _ _ h => h) (hle1.trans hle3) he5)⟩
        refine stp hA (r_mkI Tryd.underlying74 hA rfl) rfl fun a hA => 
          sta hA rfl rfl fun a hA => ?_
        refine o_nil <| hN18 _ _ <| w_ret ?_
        have H : some (.inr (Er.pl s2 xErrBase)) = some z2 := H
        obtain rfl := sI H
        have H := Hk2
        have H : some (Er.pl s2 xErrBase) = some z1 := H
        obtain rfl := sI H
        have H := Hk1
        obtain rfl := sJ H
        exact ret1 hA Tryd.results19 rfl ⟨_, rfl, (.iface 74 (.pointer (some ⟨g5, 0, none⟩))), μ4, rfl, he4, (hI.sl [] rfl)⟩
      · obtain ⟨hc4, H⟩ := dF H hc4
        refine w_skip <| hN15 _ _ <| w_reg <| stp hA (r_add hA rfl rfl) rfl fun a hA => 
          stm hA rfl rfl fun a hA => ?_
        refine o_nil <| ⟨m2, Nat.lt_succ_self _, IntKind.i64.wrap (s2 + 1), H, (wrap_in _ _), hA.sub ⟨rfl, rfl, rfl, rfl, trivial⟩, (hI.sl [1] rfl)⟩
    · obtain ⟨hc3, H⟩ := dF H hc3
      refine w_exit rfl <| hN11 _ _ <| w_seq fun _ hN19 => w_reg <| sta hA rfl rfl fun a hA => ?_
      refine o_nil <| hN19 _ _ <| w_ret ?_
      have H : some (.inr (Er.b 0)) = some z2 := H
      obtain rfl := sI H
      have H := Hk2
      have H : some (Er.b 0) = some z1 := H
      obtain rfl := sI H
      have H := Hk1
      obtain rfl := sJ H
      exact ret1 hA Tryd.results19 rfl ⟨_, rfl, .nilIface, μ1, rfl, erv_nil, (hI.sl [] rfl)⟩
set_option maxRecDepth 20000 in
theorem block_twice.c (μ : Store) (w0 : World) (hμ : Agr μ w0) (x0 : Block) (u0_0 : Value) (hx0 : BlockW μ x0 u0_0) (r : Bool) (H : block_twice.f x0 = some r) :
    Calls Tryd.prog 20 [.agg [[.int .u32 x0.Head.Version], av .u8 32 x0.Head.Prev, av .u8 32 x0.Head.Root, [.int .u32 x0.Head.Time], [.int .u32 x0.Head.Work], [.int .u32 x0.Head.Nonce], [u0_0]].flatten.toArray].toArray w0 (fun e w' => ∃ v, e = .returned v ∧ v = .bool r ∧ True ∧ Iv w0 [] μ μ [] w') := by
  refine enter Tryd.func20 rfl Tryd.ntmps20 rfl fun a hA => ?_
  have hI := Iv.start hμ
  have H := bI H
  refine w_seq fun _ hN1 => w_reg <| o_box [[.int .u32 x0.Head.Version], av .u8 32 x0.Head.Prev, av .u8 32 x0.Head.Root, [.int .u32 x0.Head.Time], [.int .u32 x0.Head.Work], [.int .u32 x0.Head.Nonce], [u0_0]] hI hA rfl rfl rfl fun g1 a w hA hI hg1 => 
    sta hA rfl rfl fun a hA => ?_
  refine o_nil <| hN1 _ _ <| w_seq fun _ hN2 => w_reg <| o_mkmap kv78 vv78 hI hA rfl fun g2 a w hI hA => 
    o_mkmap kv79 vv79 hI hA rfl fun g3 a w hI hA => 
    sta hA rfl rfl fun a hA => 
    sta hA rfl rfl fun a hA => ?_
  refine o_nil <| hN2 _ _ <| w_seq fun _ hN3 => w_seq fun _ hN4 => w_reg <| stp hA (r_ldA (j := 2) [] [[.int .u32 x0.Head.Version], av .u8 32 x0.Head.Prev, av .u8 32 x0.Head.Root, [.int .u32 x0.Head.Time], [.int .u32 x0.Head.Work], [.int .u32 x0.Head.Nonce], [u0_0]] [] Tryd.underlying37 rfl sz37 rfl hI rfl hA rfl rfl) rfl fun a hA => ?_
  obtain ⟨r1, hr1, H⟩ := bB H
  refine o_call _ cf13 hA rfl (block_IDs.c μ _ hI.agr x0 u0_0 ⟨hx0.1, hx0.2.1, hx0.2.2.1, hx0.2.2.2.1, hx0.2.2.2.2.1, hx0.2.2.2.2.2.1, hx0.2.2.2.2.2.2⟩ r1 hr1) rfl fun v1 a w hz1 hA => ?_
  obtain ⟨_, cs1, rfl, hE1, hi1⟩ := hz1
  have hI := hI.call hi1
  have hlen1 := Iv.row_in hI (j := 0) rfl
  refine stp hA (r_rlen (xs := 0) Tryd.underlying56 hI (j := 0) rfl hA rfl) rfl fun a hA => 
    stm hA rfl rfl fun a hA => ?_
  refine o_nil <| hN4 _ _ <| w_block ?_
  obtain ⟨z1, hz2, Hk1⟩ := bind_some H
  obtain ⟨n1, hn1⟩ := loopO_some hz2
  refine w_loop (fun n a w => ∃ (s1 : Int) (s2 : List (Point × Bool)) (s3 : List ((List Int) × Bool)), loopN (block_twice.s0 x0 r1) n (s1, s2, s3) = some z1 ∧ InR .i64 s1 ∧ mw79 s2 ∧ mw78 s3 ∧ Fr a 44 [(1, .pointer (some ⟨g1, 0, none⟩)), (2, .bool false), (3, .map (some g2)), (4, .map (some g3)), (12, v1), (13, .int .i64 (r1.length : Int)), (14, .int .i64 s1)] ∧ Iv w0 [] μ μ [row 26 32 v1 r1.length cs1, mpI g3 (ent kv79 vv79 s2), mpI g2 (ent kv78 vv78 s3), cel g1 [[.int .u32 x0.Head.Version], av .u8 32 x0.Head.Prev, av .u8 32 x0.Head.Root, [.int .u32 x0.Head.Time], [.int .u32 x0.Head.Work], [.int .u32 x0.Head.Nonce], [u0_0]] 37] w) n1 ⟨0, ([] : List (Point × Bool)), ([] : List ((List Int) × Bool)), hn1, (in_lit .i64 0 rfl), mw_nil, mw_nil, hA.sub ⟨rfl, rfl, rfl, rfl, rfl, rfl, rfl, trivial⟩, hI⟩ ?_
  clear hA hI
  rintro n a w ⟨s1, s2, s3, hn1, ws1, ws2, ws3, hA, hI⟩
  obtain ⟨m1, rfl, H⟩ := loopN_bind hn1
  clear hn1
  refine w_seq fun _ hN5 => w_reg <| stp hA (r_lss hA rfl rfl) rfl fun a hA => ?_
  refine o_nil <| hN5 _ _ <| w_seq fun _ hN6 => w_cond hA rfl (fun hc1 => ?_) (fun hc1 => ?_)
  · obtain ⟨hc1, H⟩ := dT H hc1
    refine w_skip <| hN6 _ _ <| w_seq fun _ hN7 => w_block <| w_seq fun _ hN8 => w_reg <| stm hA rfl rfl fun a hA => ?_
    obtain ⟨hb1, H⟩ := bG H
    refine stp hA (r_rix (j := 0) Tryd.underlying56 sz26 hI rfl hA rfl rfl hb1.1 hb1.2) rfl fun a hA => ?_
    obtain ⟨A1, _, B1, hc2, hl1, _, he1⟩ := Els.at_ hE1 (getD_some [] hb1.1 hb1.2)
    obtain ⟨rfl, hw1⟩ := he1
    refine stp hA (r_rldP (j := 0) (q := s1.toNat * 32) (off := 0) A1 B1 [] [av .u8 32 (r1.getD s1.toNat [])] [] hc2 hl1 rfl Tryd.underlying26 rfl sz26 rfl hI rfl hA rfl) rfl fun a hA => 
      o_new [av .u8 32 (List.replicate 32 0)] zr26 hI hA rfl fun g4 a w hA hI hg4 => 
      sta hA rfl rfl fun a hA => 
      o_st (j := 0) [] [av .u8 32 (List.replicate 32 0)] [av .u8 32 (r1.getD s1.toNat [])] [] sz26 rfl rfl (fl_cons (one_av _ _ _) fl_nil) hI rfl hA rfl rfl rfl rfl fun w hI => ?_
    refine o_nil <| hN8 _ _ <| w_seq fun _ hN9 => w_seq fun _ hN10 => w_reg <| stm hA rfl rfl fun a hA => 
      stp hA (r_ldA (j := 0) [] [av .u8 32 (r1.getD s1.toNat [])] [] Tryd.underlying26 rfl sz26 rfl hI rfl hA rfl rfl) rfl fun a hA => 
      stp hA (r_look (j := 3) kn78 Tryd.underlying78 mz78 ws3 hw1 hI rfl hA rfl rfl) rfl fun a hA => ?_
    refine o_nil <| hN10 _ _ <| w_cond hA rfl (fun hc3 => ?_) (fun hc3 => ?_)
    · have H := bT H hc3
      refine w_seq fun _ hN11 => w_reg <| sta hA rfl rfl fun a hA => ?_
      refine o_nil <| hN11 _ _ <| w_ret ?_
      have H : some true = some z1 := H
      obtain rfl := sI H
      have H := Hk1
      obtain rfl := sJ H
      exact ret1 hA Tryd.results20 rfl ⟨_, rfl, rfl, trivial, hI.forget0⟩
    · have hc3 := ft hc3; have H := bF H hc3
      refine w_skip <| hN9 _ _ <| w_seq fun _ hN12 => w_reg <| stm hA rfl rfl fun a hA => 
        stp hA (r_ldA (j := 0) [] [av .u8 32 (r1.getD s1.toNat [])] [] Tryd.underlying26 rfl sz26 rfl hI rfl hA rfl rfl) rfl fun a hA => 
        o_mput (j := 3) (k := (r1.getD s1.toNat [])) true kn78 Tryd.underlying78 ws3 hw1 hI rfl hA rfl rfl rfl fun w hI => ?_
      refine o_nil <| hN12 _ _ <| w_seq fun _ hN13 => w_reg <| stp hA (r_fd (k := 68) Tryd.underlying37 rfl sz35 hA rfl rfl) rfl fun a hA => 
        stp hA (r_ld1 (j := 4) [[.int .u32 x0.Head.Version], av .u8 32 x0.Head.Prev, av .u8 32 x0.Head.Root, [.int .u32 x0.Head.Time], [.int .u32 x0.Head.Work], [.int .u32 x0.Head.Nonce]] [] Tryd.underlying35 rfl hI rfl hA rfl rfl) rfl fun a hA => 
        stm hA rfl rfl fun a hA => ?_
      obtain ⟨hb2, H⟩ := bG H
      obtain ⟨_, he2, _, hat1⟩ := Slc.elem hx0.2.2.2.2.2.2 (getD_some default hb2.1 hb2.2)
      obtain ⟨v2, v3, rfl, hw2⟩ := he2
      obtain ⟨_, hsl1⟩ := Slc.sv hx0.2.2.2.2.2.2
      refine stp hA (r_six Tryd.underlying35 sz32 hsl1 hA rfl rfl hb2.1 hb2.2) rfl fun a hA => 
        stp hA (r_fd (k := so u0_0 + s1.toNat * 4 + 1) Tryd.underlying32 rfl sz29 hA rfl rfl) rfl fun a hA => 
        stp hA (r_ldm1 [[.int .u32 ((x0.Txs.getD s1.toNat default).Version)]] [[v3], [.int .u32 ((x0.Txs.getD s1.toNat default).Time)]] Tryd.underlying29 rfl hI.agr hat1 hA rfl rfl) rfl fun a hA => ?_
      obtain ⟨_, hsl2⟩ := Slc.sv hw2.2.1
      refine stp hA (r_slen Tryd.underlying29 hsl2 hA rfl) rfl fun a hA => 
        stm hA rfl rfl fun a hA => ?_
      refine o_nil <| hN13 _ _ <| w_block ?_
      obtain ⟨z2, hz3, Hk2⟩ := bind_some H
      obtain ⟨n2, hn2⟩ := loopO_some hz3
      refine w_loop (fun n a w => ∃ (s4 : Int) (s5 : List (Point × Bool)), loopN (block_twice.s1 x0 r1 s1 s3) n (s4, s5) = some z2 ∧ InR .i64 s4 ∧ mw79 s5 ∧ Fr a 44 [(1, .pointer (some ⟨g1, 0, none⟩)), (2, .bool false), (3, .map (some g2)), (4, .map (some g3)), (5, .int .i64 s1), (6, .pointer (some ⟨g4, 0, none⟩)), (12, v1), (13, .int .i64 (r1.length : Int)), (14, .int .i64 s1), (15, .bool (decide (s1 < (r1.length : Int)))), (21, .bool ((mget s3 (r1.getD s1.toNat [])).getD false)), (29, v2), (30, .int .i64 (((x0.Txs.getD s1.toNat default).Ins).length : Int)), (31, .int .i64 s4)] ∧ Iv w0 [] μ μ [cel g4 [av .u8 32 (r1.getD s1.toNat [])] 26, row 26 32 v1 r1.length cs1, mpI g3 (ent kv79 vv79 s5), mpI g2 (ent kv78 vv78 (mput s3 (r1.getD s1.toNat []) true)), cel g1 [[.int .u32 x0.Head.Version], av .u8 32 x0.Head.Prev, av .u8 32 x0.Head.Root, [.int .u32 x0.Head.Time], [.int .u32 x0.Head.Work], [.int .u32 x0.Head.Nonce], [u0_0]] 37] w) n2 ⟨0, s2, hn2, (in_lit .i64 0 rfl), ws2, hA.sub ⟨rfl, rfl, rfl, rfl, rfl, rfl, rfl, rfl, rfl, rfl, rfl, rfl, rfl, rfl, trivial⟩, hI⟩ ?_
      clear hA hI
      rintro n a w ⟨s4, s5, hn2, ws4, ws5, hA, hI⟩
      obtain ⟨m2, rfl, H⟩ := loopN_bind hn2
      clear hn2
      refine w_seq fun _ hN14 => w_reg <| stp hA (r_lss hA rfl rfl) rfl fun a hA => ?_
      refine o_nil <| hN14 _ _ <| w_seq fun _ hN15 => w_cond hA rfl (fun hc4 => ?_) (fun hc4 => ?_)
      · obtain ⟨hc4, H⟩ := dT H hc4
        refine w_skip <| hN15 _ _ <| w_seq fun _ hN16 => w_block <| w_seq fun _ hN17 => w_reg ?_
        obtain ⟨hb3, H⟩ := bG H
        obtain ⟨_, he3, _, hat2⟩ := Slc.elem hw2.2.1 (getD_some default hb3.1 hb3.2)
        obtain ⟨v4, rfl, hw3⟩ := he3
        obtain ⟨_, hsl3⟩ := Slc.sv hw2.2.1
        refine stp hA (r_six Tryd.underlying29 sz42 hsl3 hA rfl rfl hb3.1 hb3.2) rfl fun a hA => 
          stp hA (r_ldmA [] [av .u8 32 ((((x0.Txs.getD s1.toNat default).Ins).getD s4.toNat default).From.Tx), [.int .u32 ((((x0.Txs.getD s1.toNat default).Ins).getD s4.toNat default).From.N)], [v4], [.int .u32 ((((x0.Txs.getD s1.toNat default).Ins).getD s4.toNat default).Seq)]] [] Tryd.underlying42 rfl sz42 rfl hI.agr hat2 hA rfl rfl) rfl fun a hA => 
          o_new [av .u8 32 (List.replicate 32 0), [.int .u32 0], [(.slice none 0 0)], [.int .u32 0]] zr42 hI hA rfl fun g5 a w hA hI hg5 => ?_
        obtain ⟨_, hsl4⟩ := Slc.sv hw3.2.2.1
        refine o_st (j := 0) [] [av .u8 32 (List.replicate 32 0), [.int .u32 0], [(.slice none 0 0)], [.int .u32 0]] [av .u8 32 ((((x0.Txs.getD s1.toNat default).Ins).getD s4.toNat default).From.Tx), [.int .u32 ((((x0.Txs.getD s1.toNat default).Ins).getD s4.toNat default).From.N)], [v4], [.int .u32 ((((x0.Txs.getD s1.toNat default).Ins).getD s4.toNat default).Seq)]] [] sz42 rfl rfl (fl_cons (one_av _ _ _) (fl_cons (oneC rfl) (fl_cons (oneC (one_sl hsl4)) (fl_cons (oneC rfl) fl_nil)))) hI rfl hA rfl rfl rfl rfl fun w hI => ?_
        refine o_nil <| hN17 _ _ <| w_seq fun _ hN18 => w_seq fun _ hN19 => w_reg <| stm hA rfl rfl fun a hA => 
          stp hA (r_fd (k := 0) Tryd.underlying42 rfl sz39 hA rfl rfl) rfl fun a hA => 
          stp hA (r_ldA (j := 0) [] [av .u8 32 ((((x0.Txs.getD s1.toNat default).Ins).getD s4.toNat default).From.Tx), [.int .u32 ((((x0.Txs.getD s1.toNat default).Ins).getD s4.toNat default).From.N)]] [[v4], [.int .u32 ((((x0.Txs.getD s1.toNat default).Ins).getD s4.toNat default).Seq)]] Tryd.underlying39 rfl sz39 rfl hI rfl hA rfl rfl) rfl fun a hA => 
          stp hA (r_look (j := 3) kn79 Tryd.underlying79 mz79 ws5 ⟨hw3.1, hw3.2.1⟩ hI rfl hA rfl rfl) rfl fun a hA => ?_
        refine o_nil <| hN19 _ _ <| w_cond hA rfl (fun hc5 => ?_) (fun hc5 => ?_)
        · have H := bT H hc5
          refine w_seq fun _ hN20 => w_reg <| sta hA rfl rfl fun a hA => ?_
          refine o_nil <| hN20 _ _ <| w_ret ?_
          have H : some (.inr true) = some z2 := H
          obtain rfl := sI H
          have H := Hk2
          have H : some true = some z1 := H
          obtain rfl := sI H
          have H := Hk1
          obtain rfl := sJ H
          exact ret1 hA Tryd.results20 rfl ⟨_, rfl, rfl, trivial, hI.forget0⟩
        · have hc5 := ft hc5; have H := bF H hc5
          refine w_skip <| hN18 _ _ <| w_reg <| stm hA rfl rfl fun a hA => 
            stp hA (r_fd (k := 0) Tryd.underlying42 rfl sz39 hA rfl rfl) rfl fun a hA => 
            stp hA (r_ldA (j := 0) [] [av .u8 32 ((((x0.Txs.getD s1.toNat default).Ins).getD s4.toNat default).From.Tx), [.int .u32 ((((x0.Txs.getD s1.toNat default).Ins).getD s4.toNat default).From.N)]] [[v4], [.int .u32 ((((x0.Txs.getD s1.toNat default).Ins).getD s4.toNat default).Seq)]] Tryd.underlying39 rfl sz39 rfl hI rfl hA rfl rfl) rfl fun a hA => 
            o_mput (j := 3) (k := ((((x0.Txs.getD s1.toNat default).Ins).getD s4.toNat default).From)) true kn79 Tryd.underlying79 ws5 ⟨hw3.1, hw3.2.1⟩ hI rfl hA rfl rfl rfl fun w hI => ?_
          refine o_nil <| hN16 _ _ <| w_reg <| stp hA (r_add hA rfl rfl) rfl fun a hA => 
            stm hA rfl rfl fun a hA => ?_
          refine o_nil <| ⟨m2, Nat.lt_succ_self _, IntKind.i64.wrap (s4 + 1), mput s5 ((((x0.Txs.getD s1.toNat default).Ins).getD s4.toNat default).From) true, H, (wrap_in _ _), (MW.put ws5 ⟨hw3.1, hw3.2.1⟩ trivial), hA.sub ⟨rfl, rfl, rfl, rfl, rfl, rfl, rfl, rfl, rfl, rfl, rfl, rfl, rfl, rfl, trivial⟩, (hI.sl [1, 2, 3, 4, 5] rfl)⟩
      · obtain ⟨hc4, H⟩ := dF H hc4
        refine w_exit rfl <| hN7 _ _ <| w_reg <| stp hA (r_add hA rfl rfl) rfl fun a hA => 
          stm hA rfl rfl fun a hA => ?_
        refine o_nil ?_
        have H : some (.inl (IntKind.i64.wrap (s1 + 1), s5, mput s3 (r1.getD s1.toNat []) true)) = some z2 := H
        obtain rfl := sI H
        have H := Hk2
        exact ⟨m1, Nat.lt_succ_self _, IntKind.i64.wrap (s1 + 1), s5, mput s3 (r1.getD s1.toNat []) true, H, (wrap_in _ _), ws5, (MW.put ws3 hw1 trivial), hA.sub ⟨rfl, rfl, rfl, rfl, rfl, rfl, rfl, trivial⟩, (hI.sl [1, 2, 3, 4] rfl)⟩
  · obtain ⟨hc1, H⟩ := dF H hc1
    refine w_exit rfl <| hN3 _ _ <| w_seq fun _ hN21 => w_reg <| sta hA rfl rfl fun a hA => ?_
    refine o_nil <| hN21 _ _ <| w_ret ?_
    have H : some false = some z1 := H
    obtain rfl := sI H
    have H := Hk1
    obtain rfl := sJ H
    exact ret1 hA Tryd.results20 rfl ⟨_, rfl, rfl, trivial, hI.forget0⟩
set_option maxRecDepth 20000 in
theorem block_Check.c (μ : Store) (w0 : World) (hμ : Agr μ w0) (x0 : Block) (u0_0 : Value) (hx0 : BlockW μ x0 u0_0) (e0 : Value) (he0 : ErS μ e0 (Er.b 1)) (e1 : Value) (he1 : ErS μ e1 (Er.b 2)) (e2 : Value) (he2 : ErS μ e2 (Er.b 3)) (e3 : Value) (he3 : ErS μ e3 (Er.b 4)) (e4 : Value) (he4 : ErS μ e4 (Er.b 5)) (e5 : Value) (he5 : ErS μ e5 (Er.b 6)) (e6 : Value) (he6 : ErS μ e6 (Er.b 7)) (e7 : Value) (he7 : ErS μ e7 (Er.b 8)) (r : Er) (H : block_Check.f x0 = some r) :
    Calls Tryd.prog 8 [.agg [[.int .u32 x0.Head.Version], av .u8 32 x0.Head.Prev, av .u8 32 x0.Head.Root, [.int .u32 x0.Head.Time], [.int .u32 x0.Head.Work], [.int .u32 x0.Head.Nonce], [u0_0]].flatten.toArray].toArray w0 (fun e w' => ∃ v, e = .returned v ∧ ∃ (v0 : Value) (μ' : Store), v = v0 ∧ ErS μ' v0 r ∧ Iv w0 [] μ μ' [] w') := by
  refine enter Tryd.func8 rfl Tryd.ntmps8 rfl fun a hA => ?_
  have hI := Iv.start hμ
  have H := bI H
  refine w_seq fun _ hN1 => w_reg <| o_box [[.int .u32 x0.Head.Version], av .u8 32 x0.Head.Prev, av .u8 32 x0.Head.Root, [.int .u32 x0.Head.Time], [.int .u32 x0.Head.Work], [.int .u32 x0.Head.Nonce], [u0_0]] hI hA rfl rfl rfl fun g1 a w hA hI hg1 => 
    sta hA rfl rfl fun a hA => ?_
  refine o_nil <| hN1 _ _ <| w_seq fun _ hN2 => w_seq fun _ hN3 => w_reg <| stp hA (r_fd (k := 0) Tryd.underlying37 rfl sz28 hA rfl rfl) rfl fun a hA => 
    stp hA (r_ldA (j := 0) [] [[.int .u32 x0.Head.Version], av .u8 32 x0.Head.Prev, av .u8 32 x0.Head.Root, [.int .u32 x0.Head.Time], [.int .u32 x0.Head.Work], [.int .u32 x0.Head.Nonce]] [[u0_0]] Tryd.underlying28 rfl sz28 rfl hI rfl hA rfl rfl) rfl fun a hA => ?_
  obtain ⟨r1, hr1, H⟩ := bB H
  refine o_call _ cf17 hA rfl (head_Check.c μ _ hI.agr x0.Head ⟨hx0.1, hx0.2.1, hx0.2.2.1, hx0.2.2.2.1, hx0.2.2.2.2.1, hx0.2.2.2.2.2.1⟩ e4 he4 r1 hr1) rfl fun v1 a w hz1 hA => ?_
  obtain ⟨_, μ1, rfl, hS1, hi1⟩ := hz1
  have hI := hI.call hi1
  refine sta hA rfl rfl fun a hA => ?_
  refine o_nil <| hN3 _ _ <| w_seq fun _ hN4 => w_reg <| stm hA rfl rfl fun a hA => 
    stp hA (r_neE erF hI.agr hS1 erv_nil (.inl ⟨.inr ⟨_, rfl⟩, Er.fitR⟩) hA rfl rfl) rfl fun a hA => ?_
  refine o_nil <| hN4 _ _ <| w_cond hA rfl (fun hc1 => ?_) (fun hc1 => ?_)
  · obtain ⟨hc1, H⟩ := dT H hc1
    refine w_seq fun _ hN5 => w_reg <| stm hA rfl rfl fun a hA => 
      sta hA rfl rfl fun a hA => ?_
    refine o_nil <| hN5 _ _ <| w_ret ?_
    obtain rfl := sJ H
    exact ret1 hA Tryd.results8 rfl ⟨_, rfl, v1, μ1, rfl, hS1, (hI.sl [] rfl)⟩
  · obtain ⟨hc1, H⟩ := dF H hc1
    refine w_skip <| hN2 _ _ <| w_seq fun _ hN6 => w_block ?_
    obtain ⟨c1, hz2, Hk1⟩ := bB H
    refine w_cut (fun a w => Fr a 45 [(1, .pointer (some ⟨g1, 0, none⟩)), (2, .nilIface), (11, .bool c1)] ∧ Iv w0 [] μ μ1 [cel g1 [[.int .u32 x0.Head.Version], av .u8 32 x0.Head.Prev, av .u8 32 x0.Head.Root, [.int .u32 x0.Head.Time], [.int .u32 x0.Head.Work], [.int .u32 x0.Head.Nonce], [u0_0]] 37] w) ?_ ?_
    · have H := bI hz2
      refine w_reg <| stp hA (r_fd (k := 68) Tryd.underlying37 rfl sz35 hA rfl rfl) rfl fun a hA => 
        stp hA (r_ld1 (j := 0) [[.int .u32 x0.Head.Version], av .u8 32 x0.Head.Prev, av .u8 32 x0.Head.Root, [.int .u32 x0.Head.Time], [.int .u32 x0.Head.Work], [.int .u32 x0.Head.Nonce]] [] Tryd.underlying35 rfl hI rfl hA rfl rfl) rfl fun a hA => ?_
      obtain ⟨_, hsl1⟩ := Slc.sv (Slc.le hx0.2.2.2.2.2.2 (fun _ _ h => RTx.le hi1.le h) hi1.le)
      refine stp hA (r_slen Tryd.underlying35 hsl1 hA rfl) rfl fun a hA => 
        stp hA (r_eql hA rfl rfl) rfl fun a hA => 
        stm hA rfl rfl fun a hA => ?_
      rcases Bool.eq_false_or_eq_true (decide ((x0.Txs.length : Int) = 0)) with hc2 | hc2
      · have hc20 := hc2; obtain ⟨hc2, H⟩ := dT H hc2
        refine o_no hA rfl rfl (by rw [hc20]; simp [vb]) rfl fun a hA => 
          o_no hA rfl rfl (by rw [hc20]; simp [vb]) rfl fun a hA => 
          o_no hA rfl rfl (by rw [hc20]; simp [vb]) rfl fun a hA => 
          o_no hA rfl rfl (by rw [hc20]; simp [vb]) rfl fun a hA => 
          stp hA (r_pick_t hA rfl hc20 rfl) rfl fun a hA => 
          sta hA rfl rfl fun a hA => ?_
        refine o_nil ?_
        cases sJ H
        exact ⟨hA.sub ⟨rfl, rfl, rfl, trivial⟩, hI⟩
      · have hc20 := hc2; obtain ⟨hc2, H⟩ := dF H hc2
        refine o_yes hA rfl rfl hc20 <| 
          stp hA (r_fd (k := 68) Tryd.underlying37 rfl sz35 hA rfl rfl) rfl fun a hA => 
          o_yes hA rfl rfl hc20 <| 
          stp hA (r_ld1 (j := 0) [[.int .u32 x0.Head.Version], av .u8 32 x0.Head.Prev, av .u8 32 x0.Head.Root, [.int .u32 x0.Head.Time], [.int .u32 x0.Head.Work], [.int .u32 x0.Head.Nonce]] [] Tryd.underlying35 rfl hI rfl hA rfl rfl) rfl fun a hA => 
          o_yes hA rfl rfl hc20 <| ?_
        obtain ⟨_, hsl2⟩ := Slc.sv (Slc.le hx0.2.2.2.2.2.2 (fun _ _ h => RTx.le hi1.le h) hi1.le)
        refine stp hA (r_slen Tryd.underlying35 hsl2 hA rfl) rfl fun a hA => 
          o_yes hA rfl rfl hc20 <| 
          stp hA (r_gtr hA rfl rfl) rfl fun a hA => 
          stp hA (r_pick_f hA rfl hc20 rfl) rfl fun a hA => 
          sta hA rfl rfl fun a hA => ?_
        refine o_nil ?_
        cases sJ H
        exact ⟨hA.sub ⟨rfl, rfl, rfl, trivial⟩, hI⟩
    · rintro a w ⟨hA, hI⟩
      have H := Hk1
      refine w_cond hA rfl (fun hc3 => ?_) (fun hc3 => ?_)
      · have H := bT H hc3
        refine w_seq fun _ hN7 => w_reg <| stp hA (r_ldG Tryd.underlying47 rfl hI.agr (ErV.le (fun _ _ h => h) hi1.le he0) hA) rfl fun a hA => 
          sta hA rfl rfl fun a hA => ?_
        refine o_nil <| hN7 _ _ <| w_ret ?_
        obtain rfl := sJ H
        exact ret1 hA Tryd.results8 rfl ⟨_, rfl, e0, μ1, rfl, (ErV.le (fun _ _ h => h) hi1.le he0), (hI.sl [] rfl)⟩
      · have hc3 := ft hc3; have H := bF H hc3
        refine w_seq fun _ hN8 => w_reg <| stp hA (r_ldA (j := 0) [] [[.int .u32 x0.Head.Version], av .u8 32 x0.Head.Prev, av .u8 32 x0.Head.Root, [.int .u32 x0.Head.Time], [.int .u32 x0.Head.Work], [.int .u32 x0.Head.Nonce], [u0_0]] [] Tryd.underlying37 rfl sz37 rfl hI rfl hA rfl rfl) rfl fun a hA => ?_
        obtain ⟨r2, hr2, H⟩ := bB H
        refine o_callp (u := .int .i64 r2) cf18 hA rfl hI (block_Size.c μ1 _ hI.agr x0 u0_0 ⟨hx0.1, hx0.2.1, hx0.2.2.1, hx0.2.2.2.1, hx0.2.2.2.2.1, hx0.2.2.2.2.2.1, (Slc.le hx0.2.2.2.2.2.2 (fun _ _ h => RTx.le hi1.le h) hi1.le)⟩ r2 hr2) rfl fun a w hz3 hI hA => 
          stp hA (r_gtr hA rfl rfl) rfl fun a hA => 
          sta hA rfl rfl fun a hA => ?_
        refine o_nil <| hN8 _ _ <| w_cond hA rfl (fun hc4 => ?_) (fun hc4 => ?_)
        · obtain ⟨hc4, H⟩ := dT H hc4
          refine w_seq fun _ hN9 => w_reg <| stp hA (r_ldG Tryd.underlying47 rfl hI.agr (ErV.le (fun _ _ h => h) hi1.le he1) hA) rfl fun a hA => 
            sta hA rfl rfl fun a hA => ?_
          refine o_nil <| hN9 _ _ <| w_ret ?_
          obtain rfl := sJ H
          exact ret1 hA Tryd.results8 rfl ⟨_, rfl, e1, μ1, rfl, (ErV.le (fun _ _ h => h) hi1.le he1), (hI.sl [] rfl)⟩
        · obtain ⟨hc4, H⟩ := dF H hc4
          refine w_skip <| hN6 _ _ <| w_seq fun _ hN10 => w_seq fun _ hN11 => w_reg <| stp hA (r_ldA (j := 0) [] [[.int .u32 x0.Head.Version], av .u8 32 x0.Head.Prev, av .u8 32 x0.Head.Root, [.int .u32 x0.Head.Time], [.int .u32 x0.Head.Work], [.int .u32 x0.Head.Nonce], [u0_0]] [] Tryd.underlying37 rfl sz37 rfl hI rfl hA rfl rfl) rfl fun a hA => ?_
          obtain ⟨r3, hr3, H⟩ := bB H
          refine o_call _ cf19 hA rfl (block_parts.c μ1 _ hI.agr x0 u0_0 ⟨hx0.1, hx0.2.1, hx0.2.2.1, hx0.2.2.2.1, hx0.2.2.2.2.1, hx0.2.2.2.2.2.1, (Slc.le hx0.2.2.2.2.2.2 (fun _ _ h => RTx.le hi1.le h) hi1.le)⟩ e0 (ErV.le (fun _ _ h => h) hi1.le he0) e1 (ErV.le (fun _ _ h => h) hi1.le he1) e2 (ErV.le (fun _ _ h => h) hi1.le he2) e5 (ErV.le (fun _ _ h => h) hi1.le he5) e6 (ErV.le (fun _ _ h => h) hi1.le he6) e7 (ErV.le (fun _ _ h => h) hi1.le he7) r3 hr3) rfl fun v2 a w hz4 hA => ?_
          obtain ⟨_, μ2, rfl, hS2, hi2⟩ := hz4
          have hI := hI.call hi2
          refine sta hA rfl rfl fun a hA => ?_
          refine o_nil <| hN11 _ _ <| w_seq fun _ hN12 => w_reg <| stm hA rfl rfl fun a hA => 
            stp hA (r_neE erF hI.agr hS2 erv_nil (.inl ⟨.inr ⟨_, rfl⟩, Er.fitR⟩) hA rfl rfl) rfl fun a hA => ?_
          refine o_nil <| hN12 _ _ <| w_cond hA rfl (fun hc5 => ?_) (fun hc5 => ?_)
          · obtain ⟨hc5, H⟩ := dT H hc5
            refine w_seq fun _ hN13 => w_reg <| stm hA rfl rfl fun a hA => 
              sta hA rfl rfl fun a hA => ?_
            refine o_nil <| hN13 _ _ <| w_ret ?_
            obtain rfl := sJ H
            exact ret1 hA Tryd.results8 rfl ⟨_, rfl, v2, μ2, rfl, hS2, (hI.sl [] rfl)⟩
          · obtain ⟨hc5, H⟩ := dF H hc5
            refine w_skip <| hN10 _ _ <| w_seq fun _ hN14 => w_block <| w_seq fun _ hN15 => w_reg <| stp hA (r_ldA (j := 0) [] [[.int .u32 x0.Head.Version], av .u8 32 x0.Head.Prev, av .u8 32 x0.Head.Root, [.int .u32 x0.Head.Time], [.int .u32 x0.Head.Work], [.int .u32 x0.Head.Nonce], [u0_0]] [] Tryd.underlying37 rfl sz37 rfl hI rfl hA rfl rfl) rfl fun a hA => ?_
            obtain ⟨r4, hr4, H⟩ := bB H
            refine o_callp (u := .bool r4) cf20 hA rfl hI (block_twice.c μ2 _ hI.agr x0 u0_0 ⟨hx0.1, hx0.2.1, hx0.2.2.1, hx0.2.2.2.1, hx0.2.2.2.2.1, hx0.2.2.2.2.2.1, (Slc.le hx0.2.2.2.2.2.2 (fun _ _ h => RTx.le (hi1.le.trans hi2.le) h) (hi1.le.trans hi2.le))⟩ r4 hr4) rfl fun a w hz5 hI hA => 
              sta hA rfl rfl fun a hA => ?_
            refine o_nil <| hN15 _ _ <| w_cond hA rfl (fun hc6 => ?_) (fun hc6 => ?_)
            · have H := bT H hc6
              refine w_seq fun _ hN16 => w_reg <| stp hA (r_ldG Tryd.underlying47 rfl hI.agr (ErV.le (fun _ _ h => h) (hi1.le.trans hi2.le) he2) hA) rfl fun a hA => 
                sta hA rfl rfl fun a hA => ?_
              refine o_nil <| hN16 _ _ <| w_ret ?_
              obtain rfl := sJ H
              exact ret1 hA Tryd.results8 rfl ⟨_, rfl, e2, μ2, rfl, (ErV.le (fun _ _ h => h) (hi1.le.trans hi2.le) he2), (hI.sl [] rfl)⟩
            · have hc6 := ft hc6; have H := bF H hc6
              refine w_seq fun _ hN17 => ?_
              refine w_any [] mo hI fun w hI => ?_
              refine gT 0 hA rfl hI (fun w hI => r_ldA (j := 0) [] [[.int .u32 x0.Head.Version], av .u8 32 x0.Head.Prev, av .u8 32 x0.Head.Root, [.int .u32 x0.Head.Time], [.int .u32 x0.Head.Work], [.int .u32 x0.Head.Nonce], [u0_0]] [] Tryd.underlying37 rfl sz37 rfl hI rfl hA rfl rfl) fun a hA => ?_
              refine gE 2 hA rfl (.inr hI) (fun _ => r_fd (k := 0) Tryd.underlying37 rfl sz28 hA rfl rfl) fun a hA => ?_
              refine gE 3 hA rfl (.inr hI) (fun _ => r_fd (k := 33) Tryd.underlying28 rfl sz26 hA rfl rfl) fun a hA => ?_
              refine gT 4 hA rfl hI (fun w hI => r_ldA (j := 0) [[.int .u32 x0.Head.Version], av .u8 32 x0.Head.Prev] [av .u8 32 x0.Head.Root] [[.int .u32 x0.Head.Time], [.int .u32 x0.Head.Work], [.int .u32 x0.Head.Nonce], [u0_0]] Tryd.underlying26 rfl sz26 rfl hI rfl hA rfl rfl) fun a hA => ?_
              refine gF 1 rfl ?_
              obtain ⟨r5, hr5, H⟩ := bB H
              refine o_callp (u := .agg [av .u8 32 r5].flatten.toArray) cf7 hA rfl hI (block_Root.c μ2 _ hI.agr x0 u0_0 ⟨hx0.1, hx0.2.1, hx0.2.2.1, hx0.2.2.2.1, hx0.2.2.2.2.1, hx0.2.2.2.2.2.1, (Slc.le hx0.2.2.2.2.2.2 (fun _ _ h => RTx.le (hi1.le.trans hi2.le) h) (hi1.le.trans hi2.le))⟩ r5 hr5) rfl fun a w hz6 hI hA => ?_
              refine o_nil <| ⟨(.inr hI), ?_⟩
              refine gE 5 hA rfl (.inr hI) (fun _ => r_neS hA rfl rfl eg26 (eqv_arr Tryd.underlying26 Tryd.underlying5 sz5 hz6 hx0.2.2.1)) fun a hA => ?_
              refine gE 6 hA rfl (.inr hI) (fun _ => r_as hA rfl) fun a hA => ?_
              refine gN <| hN17 _ _ <| w_cond hA rfl (fun hc7 => ?_) (fun hc7 => ?_)
              · obtain ⟨hc7, H⟩ := dT H hc7
                refine w_seq fun _ hN18 => w_reg <| stp hA (r_ldG Tryd.underlying47 rfl hI.agr (ErV.le (fun _ _ h => h) (hi1.le.trans hi2.le) he3) hA) rfl fun a hA => 
                  sta hA rfl rfl fun a hA => ?_
                refine o_nil <| hN18 _ _ <| w_ret ?_
                obtain rfl := sJ H
                exact ret1 hA Tryd.results8 rfl ⟨_, rfl, e3, μ2, rfl, (ErV.le (fun _ _ h => h) (hi1.le.trans hi2.le) he3), (hI.sl [] rfl)⟩
              · obtain ⟨hc7, H⟩ := dF H hc7
                refine w_skip <| hN14 _ _ <| w_seq fun _ hN19 => w_reg <| sta hA rfl rfl fun a hA => ?_
                refine o_nil <| hN19 _ _ <| w_ret ?_
                obtain rfl := sJ H
                exact ret1 hA Tryd.results8 rfl ⟨_, rfl, .nilIface, μ2, rfl, erv_nil, (hI.sl [] rfl)⟩
set_option maxRecDepth 20000 in
theorem block_First.c (μ : Store) (w0 : World) (hμ : Agr μ w0) (x0 : Int) (hx0 : InR .i64 x0) (x1 : Int) (hx1 : InR .u64 x1) (x2 : List Int) (hx2 : Arr .u8 32 x2) (x3 : List Int) (u3 : Value) (hx3 : Slc (RI .u8) 1 μ u3 x3) (r : Tx) (H : block_First.f x0 x1 x2 x3 = some r) :
    Calls Tryd.prog 25 [.int .i64 x0, .int .u64 x1, .agg [av .u8 32 x2].flatten.toArray, u3].toArray w0 (fun e w' => ∃ v, e = .returned v ∧ ∃ (v0_0 : Value) (v0_1 : Value) (μ' : Store), v = .agg [[.int .u32 r.Version], [v0_0], [v0_1], [.int .u32 r.Time]].flatten.toArray ∧ TxW μ' r v0_0 v0_1 ∧ Iv w0 [] μ μ' [] w') := by
  refine enter Tryd.func25 rfl Tryd.ntmps25 rfl fun a hA => ?_
  have hI := Iv.start hμ
  have H := bI H
  refine w_seq fun _ hN1 => w_reg <| o_box [av .u8 32 x2] hI hA rfl rfl rfl fun g1 a w hA hI hg1 => 
    o_new [[.int .u32 0], [(.slice none 0 0)], [(.slice none 0 0)], [.int .u32 0]] zr32 hI hA rfl fun g2 a w hA hI hg2 => ?_
  refine o_nil <| hN1 _ _ <| w_seq fun _ hN2 => w_reg <| stm hA rfl rfl fun a hA => 
    stp hA (r_conv Tryd.underlying3 Tryd.underlying24 hA rfl) rfl fun a hA => ?_
  obtain ⟨r1, hr1, H⟩ := bB H
  refine o_call _ cf36 hA rfl (compact_Four.c μ _ hI.agr ([]) (.slice none 0 0) (slc_nil _ _ _) (IntKind.u32.wrap x0) (wrap_in _ _) r1 hr1) rfl fun v1 a w hz1 hA => ?_
  obtain ⟨_, cs1, rfl, hE1, hi1⟩ := hz1
  have hI := hI.call hi1
  refine stm hA rfl rfl fun a hA => ?_
  obtain ⟨μ1, hle1, hsv1, hI⟩ := hI.freezeRow 0 rfl
  have hS1 : Slc (RI .u8) 1 μ1 v1 r1 := ⟨_, hE1, hsv1⟩
  have hE2 : Els (RS (RI .u8) 1 μ1) 1 ([r1, x3] : List (List Int)) _ := (Els.cons (c := [[v1]].flatten) ⟨_, rfl, hS1⟩ rfl (Els.cons (c := [[u3]].flatten) ⟨_, rfl, (Slc.le hx3 (fun _ _ h => h) hle1)⟩ rfl Els.nil))
  refine o_bsl ([[v1]].flatten ++ ([[u3]].flatten ++ ([]))) te40 zr40 Tryd.underlying99 hI hA rfl rfl rfl rfl ((fill_one (cells1 hS1) rfl (by kernel_rfl)).trans ((fill_one (cells1 (Slc.le hx3 (fun _ _ h => h) hle1)) rfl (by kernel_rfl)).trans (by kernel_rfl))) rfl fun g3 a w hA hI => ?_
  generalize hcs : ([[v1]].flatten ++ ([[u3]].flatten ++ ([])) : List Value) = cs2 at hE2 hI
  clear hcs
  obtain ⟨r2, hr2, H⟩ := bB H
  refine o_callW (fun w v w' => ∃ (v0 : Value) (c0 : List Value), v = v0 ∧ Els (RI .u8) 1 r2 c0 ∧ Iv w [] μ1 μ1 [row 5 1 v0 r2.length c0] w') cf35 hA rfl ((by obtain ⟨μ2, hle2, hsv2, hI⟩ := hI.freezeRow 0 rfl; have hS2 : Slc (RS (RI .u8) 1 μ2) 1 μ2 (.slice (some ⟨g3, 0, none⟩) 2 2) ([r1, x3] : List (List Int)) := ⟨_, (Els.mono hE2 (fun _ _ h => RS.le (fun _ _ h => h) hle2 h)), hsv2⟩; exact (slices_Concat_byte_byte.c μ2 _ hI.agr ([r1, x3] : List (List Int)) (.slice (some ⟨g3, 0, none⟩) 2 2) hS2 r2 hr2).mono fun _ _ ⟨v, he, b0, b1, hv, f0, hi⟩ => ⟨v, he, b0, b1, hv, f0, hi.low hle2⟩)) rfl fun v2 a w hz2 hA => ?_
  obtain ⟨_, cs3, rfl, hE3, hi2⟩ := hz2
  have hI := hI.call hi2
  refine sta hA rfl rfl fun a hA => ?_
  refine o_nil <| hN2 _ _ ?_
  obtain ⟨⟨c1, c2, c3, c4⟩, hz3, Hk1⟩ := bB H
  refine w_cut (fun a w => ∃ (μ3 : Store) (vvc1 : Value) (vvc3 : Value) (ccc3 : List Value) (vvc4 : Value) (ccc4 : List Value), μ1.le μ3 ∧ Slc (RI .u8) 1 μ3 vvc1 c1 ∧ InR .u32 c2 ∧ Els (RIn μ3) 35 c3 ccc3 ∧ Els (ROut μ3) 33 c4 ccc4 ∧ Fr a 25 [(8, .pointer (some ⟨g2, 0, none⟩)), (9, vvc1)] ∧ Iv w0 [] μ μ3 [row 42 35 vvc3 c3.length ccc3, row 44 33 vvc4 c4.length ccc4, row 40 1 (.slice (some ⟨g3, 0, none⟩) 2 2) ([r1, x3] : List (List Int)).length cs2, cel g2 [[.int .u32 c2], [vvc3], [vvc4], [.int .u32 0]] 32, cel g1 [av .u8 32 x2] 26] w) ?_ ?_
  · have H := bI hz3
    refine w_anyS [] mo (fun w (h : Iv w0 [] μ μ1 [row 5 1 v2 r2.length cs3, row 40 1 (.slice (some ⟨g3, 0, none⟩) 2 2) ([r1, x3] : List (List Int)).length cs2, cel g2 [[.int .u32 0], [(.slice none 0 0)], [(.slice none 0 0)], [.int .u32 0]] 32, cel g1 [av .u8 32 x2] 26] w) => (h.sl [0, 1, 3] rfl : Iv w0 [] μ μ1 [row 5 1 v2 r2.length cs3, row 40 1 (.slice (some ⟨g3, 0, none⟩) 2 2) ([r1, x3] : List (List Int)).length cs2, cel g1 [av .u8 32 x2] 26] w)) hI fun w hI => ?_
    refine gE 1 hA rfl (.inr (hI.sl [0, 1, 3] rfl)) (fun _ => r_mv hA rfl) fun a hA => ?_
    refine gE 4 hA rfl (.inr (hI.sl [0, 1, 3] rfl)) (fun _ => r_mv hA rfl) fun a hA => ?_
    refine gT 5 hA rfl (hI.sl [0, 1, 3] rfl) (fun w hI => r_ldA (j := 2) [] [av .u8 32 x2] [] Tryd.underlying26 rfl sz26 rfl hI rfl hA rfl rfl) fun a hA => ?_
    refine g_fork (i := 0) (is := [6]) (by kernel_rfl) (List.forall_mem_cons.2 ⟨⟨_, rfl, ?_⟩, (List.forall_mem_cons.2 ⟨⟨_, rfl, ?_⟩, List.forall_mem_nil _⟩)⟩)
    · skip
      obtain ⟨r3, hr3, H⟩ := bB H
      refine o_callp (u := .agg [av .u8 32 r3.Tx, [.int .u32 r3.N]].flatten.toArray) cf37 hA rfl hI (spend_Null.c μ1 _ hI.agr  r3 hr3) rfl fun a w hz4 hI hA => ?_
      refine o_nil <| ⟨(.inr (hI.sl [0, 1, 3] rfl)), ?_⟩
      refine g_fork (i := 2) (is := [6]) (by kernel_rfl) (List.forall_mem_cons.2 ⟨⟨_, rfl, ?_⟩, (List.forall_mem_cons.2 ⟨⟨_, rfl, ?_⟩, List.forall_mem_nil _⟩)⟩)
      · skip
        refine stp hA (r_bldS (cs := [av .u8 32 r3.Tx, [.int .u32 r3.N], [v2], [.int .u32 4294967295]].flatten.toArray) (pl := [(0, 33), (33, 1), (34, 1)]) zr42 Tryd.underlying42 ⟨rfl, sz39, rfl, sz40, rfl, sz24, trivial⟩ hA rfl ((fill_seg [] [av .u8 32 (List.replicate 32 0), [.int .u32 0]] [av .u8 32 r3.Tx, [.int .u32 r3.N]] [[(.slice none 0 0)], [.int .u32 0]] rfl rfl rfl rfl rfl).trans ((fill_seg [av .u8 32 r3.Tx, [.int .u32 r3.N]] [[(.slice none 0 0)]] [[v2]] [[.int .u32 0]] (own_cell hI (j := 0) rfl) rfl rfl rfl rfl).trans ((fill_seg [av .u8 32 r3.Tx, [.int .u32 r3.N], [v2]] [[.int .u32 0]] [[.int .u32 4294967295]] [] rfl rfl rfl rfl rfl).trans (rfl))))) rfl fun a hA => ?_
        refine o_nil <| ⟨(.inr (hI.sl [0, 1, 3] rfl)), ?_⟩
        refine g_fork (i := 3) (is := [6]) (by kernel_rfl) (List.forall_mem_cons.2 ⟨⟨_, rfl, ?_⟩, (List.forall_mem_cons.2 ⟨⟨_, rfl, ?_⟩, List.forall_mem_nil _⟩)⟩)
        · skip
          obtain ⟨μ4, hle4, hsv3, hI, hth1⟩ := hI.freezeRowT 0 rfl
          have hS3 : Slc (RI .u8) 1 μ4 v2 r2 := ⟨_, hE3, hsv3⟩
          have hE4 : Els (RIn μ4) 35 ([(⟨r3, r2, 4294967295⟩ : In)] : List In) _ := (Els.cons (c := [av .u8 32 r3.Tx, [.int .u32 r3.N], [v2], [.int .u32 4294967295]].flatten) ⟨v2, rfl, ⟨hz4.1, hz4.2, hS3, (in_lit .u32 4294967295 rfl)⟩⟩ rfl Els.nil)
          refine o_bsl ([av .u8 32 r3.Tx, [.int .u32 r3.N], [v2], [.int .u32 4294967295]].flatten ++ ([])) te42 zr42 Tryd.underlying29 hI hA rfl rfl rfl rfl (by kernel_rfl) rfl fun g4 a w hA hI => ?_
          generalize hcs : ([av .u8 32 r3.Tx, [.int .u32 r3.N], [v2], [.int .u32 4294967295]].flatten ++ ([]) : List Value) = cs4 at hE4 hI
          clear hcs
          refine o_nil <| ⟨(.inr ((hth1 _ _ hI).sl [0, 2, 4] rfl)), ?_⟩
          refine gF 6 rfl ?_
          refine stp hA (r_bldS (cs := [[.int .u64 x1], av .u8 32 x2].flatten.toArray) (pl := [(0, 1), (1, 32)]) zr44 Tryd.underlying44 ⟨rfl, sz34, rfl, sz26, trivial⟩ hA rfl (by kernel_rfl)) rfl fun a hA => ?_
          refine o_nil <| ⟨(.inr ((hth1 _ _ hI).sl [0, 2, 4] rfl)), ?_⟩
          refine gF 7 rfl ?_
          have hE5 : Els (ROut μ4) 33 ([(⟨x1, x2⟩ : Out)] : List Out) _ := (Els.cons (c := [[.int .u64 x1], av .u8 32 x2].flatten) ⟨rfl, ⟨hx1, hx2⟩⟩ rfl Els.nil)
          refine o_bsl ([[.int .u64 x1], av .u8 32 x2].flatten ++ ([])) te44 zr44 Tryd.underlying30 hI hA rfl rfl rfl rfl (by kernel_rfl) rfl fun g5 a w hA hI => ?_
          generalize hcs : ([[.int .u64 x1], av .u8 32 x2].flatten ++ ([]) : List Value) = cs5 at hE5 hI
          clear hcs
          refine o_nil <| ⟨(.inr ((hth1 _ _ hI).sl [0, 3, 5] rfl)), ?_⟩
          refine gF 8 rfl ?_
          refine stp hA (r_bldS (cs := [[.int .u32 1], [(.slice (some ⟨g4, 0, none⟩) 1 1)], [(.slice (some ⟨g5, 0, none⟩) 1 1)], [.int .u32 0]].flatten.toArray) (pl := [(0, 1), (1, 1), (2, 1), (3, 1)]) zr32 Tryd.underlying32 ⟨rfl, sz24, rfl, sz29, rfl, sz30, rfl, sz24, trivial⟩ hA rfl ((fill_one rfl rfl (by kernel_rfl)).trans ((fill_one (own_cell hI (j := 1) rfl) rfl (by kernel_rfl)).trans ((fill_one (own_cell hI (j := 0) rfl) rfl (by kernel_rfl)).trans (by kernel_rfl))))) rfl fun a hA => ?_
          refine o_nil <| ⟨(.inr ((hth1 _ _ hI).sl [0, 3, 5] rfl)), ?_⟩
          refine gF 9 rfl ?_
          refine o_st (j := 3) [] [[.int .u32 0], [(.slice none 0 0)], [(.slice none 0 0)], [.int .u32 0]] [[.int .u32 1], [(.slice (some ⟨g4, 0, none⟩) 1 1)], [(.slice (some ⟨g5, 0, none⟩) 1 1)], [.int .u32 0]] [] sz32 rfl rfl (fl_cons (oneC rfl) (fl_cons (oneC (own_one hI (j := 1) rfl)) (fl_cons (oneC (own_one hI (j := 0) rfl)) (fl_cons (oneC rfl) fl_nil)))) hI rfl hA rfl rfl rfl rfl fun w hI => ?_
          refine o_nil <| ⟨(.inr ((hth1 _ _ hI).sl [0, 3, 5] rfl)), ?_⟩
          refine gN ?_
          cases sJ H
          exact ⟨μ4, v2, (.slice (some ⟨g4, 0, none⟩) 1 1), cs4, (.slice (some ⟨g5, 0, none⟩) 1 1), cs5, hle4, hS3, (in_lit .u32 1 rfl), hE4, hE5, hA.sub ⟨rfl, rfl, trivial⟩, (hI.sl [1, 0, 2, 3, 4] rfl)⟩
        · skip
          refine stp hA (r_bldS (cs := [[.int .u64 x1], av .u8 32 x2].flatten.toArray) (pl := [(0, 1), (1, 32)]) zr44 Tryd.underlying44 ⟨rfl, sz34, rfl, sz26, trivial⟩ hA rfl (by kernel_rfl)) rfl fun a hA => ?_
          refine o_nil <| ⟨(.inr (hI.sl [0, 1, 3] rfl)), ?_⟩
          refine g_fork (i := 3) (is := [7]) (by kernel_rfl) (List.forall_mem_cons.2 ⟨⟨_, rfl, ?_⟩, (List.forall_mem_cons.2 ⟨⟨_, rfl, ?_⟩, List.forall_mem_nil _⟩)⟩)
          · skip
            obtain ⟨μ4, hle4, hsv3, hI, hth1⟩ := hI.freezeRowT 0 rfl
            have hS3 : Slc (RI .u8) 1 μ4 v2 r2 := ⟨_, hE3, hsv3⟩
            have hE4 : Els (RIn μ4) 35 ([(⟨r3, r2, 4294967295⟩ : In)] : List In) _ := (Els.cons (c := [av .u8 32 r3.Tx, [.int .u32 r3.N], [v2], [.int .u32 4294967295]].flatten) ⟨v2, rfl, ⟨hz4.1, hz4.2, hS3, (in_lit .u32 4294967295 rfl)⟩⟩ rfl Els.nil)
            refine o_bsl ([av .u8 32 r3.Tx, [.int .u32 r3.N], [v2], [.int .u32 4294967295]].flatten ++ ([])) te42 zr42 Tryd.underlying29 hI hA rfl rfl rfl rfl (by kernel_rfl) rfl fun g4 a w hA hI => ?_
            generalize hcs : ([av .u8 32 r3.Tx, [.int .u32 r3.N], [v2], [.int .u32 4294967295]].flatten ++ ([]) : List Value) = cs4 at hE4 hI
            clear hcs
            refine o_nil <| ⟨(.inr ((hth1 _ _ hI).sl [0, 2, 4] rfl)), ?_⟩
            refine gF 7 rfl ?_
            have hE5 : Els (ROut μ4) 33 ([(⟨x1, x2⟩ : Out)] : List Out) _ := (Els.cons (c := [[.int .u64 x1], av .u8 32 x2].flatten) ⟨rfl, ⟨hx1, hx2⟩⟩ rfl Els.nil)
            refine o_bsl ([[.int .u64 x1], av .u8 32 x2].flatten ++ ([])) te44 zr44 Tryd.underlying30 hI hA rfl rfl rfl rfl (by kernel_rfl) rfl fun g5 a w hA hI => ?_
            generalize hcs : ([[.int .u64 x1], av .u8 32 x2].flatten ++ ([]) : List Value) = cs5 at hE5 hI
            clear hcs
            refine o_nil <| ⟨(.inr ((hth1 _ _ hI).sl [0, 3, 5] rfl)), ?_⟩
            refine gF 8 rfl ?_
            refine stp hA (r_bldS (cs := [[.int .u32 1], [(.slice (some ⟨g4, 0, none⟩) 1 1)], [(.slice (some ⟨g5, 0, none⟩) 1 1)], [.int .u32 0]].flatten.toArray) (pl := [(0, 1), (1, 1), (2, 1), (3, 1)]) zr32 Tryd.underlying32 ⟨rfl, sz24, rfl, sz29, rfl, sz30, rfl, sz24, trivial⟩ hA rfl ((fill_one rfl rfl (by kernel_rfl)).trans ((fill_one (own_cell hI (j := 1) rfl) rfl (by kernel_rfl)).trans ((fill_one (own_cell hI (j := 0) rfl) rfl (by kernel_rfl)).trans (by kernel_rfl))))) rfl fun a hA => ?_
            refine o_nil <| ⟨(.inr ((hth1 _ _ hI).sl [0, 3, 5] rfl)), ?_⟩
            refine gF 9 rfl ?_
            refine o_st (j := 3) [] [[.int .u32 0], [(.slice none 0 0)], [(.slice none 0 0)], [.int .u32 0]] [[.int .u32 1], [(.slice (some ⟨g4, 0, none⟩) 1 1)], [(.slice (some ⟨g5, 0, none⟩) 1 1)], [.int .u32 0]] [] sz32 rfl rfl (fl_cons (oneC rfl) (fl_cons (oneC (own_one hI (j := 1) rfl)) (fl_cons (oneC (own_one hI (j := 0) rfl)) (fl_cons (oneC rfl) fl_nil)))) hI rfl hA rfl rfl rfl rfl fun w hI => ?_
            refine o_nil <| ⟨(.inr ((hth1 _ _ hI).sl [0, 3, 5] rfl)), ?_⟩
            refine gN ?_
            cases sJ H
            exact ⟨μ4, v2, (.slice (some ⟨g4, 0, none⟩) 1 1), cs4, (.slice (some ⟨g5, 0, none⟩) 1 1), cs5, hle4, hS3, (in_lit .u32 1 rfl), hE4, hE5, hA.sub ⟨rfl, rfl, trivial⟩, (hI.sl [1, 0, 2, 3, 4] rfl)⟩
          · skip
            have hE4 : Els (ROut μ1) 33 ([(⟨x1, x2⟩ : Out)] : List Out) _ := (Els.cons (c := [[.int .u64 x1], av .u8 32 x2].flatten) ⟨rfl, ⟨hx1, hx2⟩⟩ rfl Els.nil)
            refine o_bsl ([[.int .u64 x1], av .u8 32 x2].flatten ++ ([])) te44 zr44 Tryd.underlying30 hI hA rfl rfl rfl rfl (by kernel_rfl) rfl fun g4 a w hA hI => ?_
            generalize hcs : ([[.int .u64 x1], av .u8 32 x2].flatten ++ ([]) : List Value) = cs4 at hE4 hI
            clear hcs
            refine o_nil <| ⟨(.inr (hI.sl [1, 2, 4] rfl)), ?_⟩
            refine gF 3 rfl ?_
            obtain ⟨μ4, hle4, hsv3, hI, hth1⟩ := hI.freezeRowT 1 rfl
            have hS3 : Slc (RI .u8) 1 μ4 v2 r2 := ⟨_, hE3, hsv3⟩
            have hE5 : Els (RIn μ4) 35 ([(⟨r3, r2, 4294967295⟩ : In)] : List In) _ := (Els.cons (c := [av .u8 32 r3.Tx, [.int .u32 r3.N], [v2], [.int .u32 4294967295]].flatten) ⟨v2, rfl, ⟨hz4.1, hz4.2, hS3, (in_lit .u32 4294967295 rfl)⟩⟩ rfl Els.nil)
            refine o_bsl ([av .u8 32 r3.Tx, [.int .u32 r3.N], [v2], [.int .u32 4294967295]].flatten ++ ([])) te42 zr42 Tryd.underlying29 hI hA rfl rfl rfl rfl (by kernel_rfl) rfl fun g5 a w hA hI => ?_
            generalize hcs : ([av .u8 32 r3.Tx, [.int .u32 r3.N], [v2], [.int .u32 4294967295]].flatten ++ ([]) : List Value) = cs5 at hE5 hI
            clear hcs
            refine o_nil <| ⟨(.inr ((hth1 _ _ hI).sl [0, 3, 5] rfl)), ?_⟩
            refine gF 8 rfl ?_
            refine stp hA (r_bldS (cs := [[.int .u32 1], [(.slice (some ⟨g5, 0, none⟩) 1 1)], [(.slice (some ⟨g4, 0, none⟩) 1 1)], [.int .u32 0]].flatten.toArray) (pl := [(0, 1), (1, 1), (2, 1), (3, 1)]) zr32 Tryd.underlying32 ⟨rfl, sz24, rfl, sz29, rfl, sz30, rfl, sz24, trivial⟩ hA rfl ((fill_one rfl rfl (by kernel_rfl)).trans ((fill_one (own_cell hI (j := 0) rfl) rfl (by kernel_rfl)).trans ((fill_one (own_cell hI (j := 1) rfl) rfl (by kernel_rfl)).trans (by kernel_rfl))))) rfl fun a hA => ?_
            refine o_nil <| ⟨(.inr ((hth1 _ _ hI).sl [0, 3, 5] rfl)), ?_⟩
            refine gF 9 rfl ?_
            refine o_st (j := 3) [] [[.int .u32 0], [(.slice none 0 0)], [(.slice none 0 0)], [.int .u32 0]] [[.int .u32 1], [(.slice (some ⟨g5, 0, none⟩) 1 1)], [(.slice (some ⟨g4, 0, none⟩) 1 1)], [.int .u32 0]] [] sz32 rfl rfl (fl_cons (oneC rfl) (fl_cons (oneC (own_one hI (j := 0) rfl)) (fl_cons (oneC (own_one hI (j := 1) rfl)) (fl_cons (oneC rfl) fl_nil)))) hI rfl hA rfl rfl rfl rfl fun w hI => ?_
            refine o_nil <| ⟨(.inr ((hth1 _ _ hI).sl [0, 3, 5] rfl)), ?_⟩
            refine gN ?_
            cases sJ H
            exact ⟨μ4, v2, (.slice (some ⟨g5, 0, none⟩) 1 1), cs5, (.slice (some ⟨g4, 0, none⟩) 1 1), cs4, hle4, hS3, (in_lit .u32 1 rfl), hE5, hE4, hA.sub ⟨rfl, rfl, trivial⟩, hI⟩
      · skip
        refine stp hA (r_bldS (cs := [[.int .u64 x1], av .u8 32 x2].flatten.toArray) (pl := [(0, 1), (1, 32)]) zr44 Tryd.underlying44 ⟨rfl, sz34, rfl, sz26, trivial⟩ hA rfl (by kernel_rfl)) rfl fun a hA => ?_
        refine o_nil <| ⟨(.inr (hI.sl [0, 1, 3] rfl)), ?_⟩
        refine g_fork (i := 2) (is := [7]) (by kernel_rfl) (List.forall_mem_cons.2 ⟨⟨_, rfl, ?_⟩, (List.forall_mem_cons.2 ⟨⟨_, rfl, ?_⟩, List.forall_mem_nil _⟩)⟩)
        · skip
          refine stp hA (r_bldS (cs := [av .u8 32 r3.Tx, [.int .u32 r3.N], [v2], [.int .u32 4294967295]].flatten.toArray) (pl := [(0, 33), (33, 1), (34, 1)]) zr42 Tryd.underlying42 ⟨rfl, sz39, rfl, sz40, rfl, sz24, trivial⟩ hA rfl ((fill_seg [] [av .u8 32 (List.replicate 32 0), [.int .u32 0]] [av .u8 32 r3.Tx, [.int .u32 r3.N]] [[(.slice none 0 0)], [.int .u32 0]] rfl rfl rfl rfl rfl).trans ((fill_seg [av .u8 32 r3.Tx, [.int .u32 r3.N]] [[(.slice none 0 0)]] [[v2]] [[.int .u32 0]] (own_cell hI (j := 0) rfl) rfl rfl rfl rfl).trans ((fill_seg [av .u8 32 r3.Tx, [.int .u32 r3.N], [v2]] [[.int .u32 0]] [[.int .u32 4294967295]] [] rfl rfl rfl rfl rfl).trans (rfl))))) rfl fun a hA => ?_
          refine o_nil <| ⟨(.inr (hI.sl [0, 1, 3] rfl)), ?_⟩
          refine g_fork (i := 3) (is := [7]) (by kernel_rfl) (List.forall_mem_cons.2 ⟨⟨_, rfl, ?_⟩, (List.forall_mem_cons.2 ⟨⟨_, rfl, ?_⟩, List.forall_mem_nil _⟩)⟩)
          · skip
            obtain ⟨μ4, hle4, hsv3, hI, hth1⟩ := hI.freezeRowT 0 rfl
            have hS3 : Slc (RI .u8) 1 μ4 v2 r2 := ⟨_, hE3, hsv3⟩
            have hE4 : Els (RIn μ4) 35 ([(⟨r3, r2, 4294967295⟩ : In)] : List In) _ := (Els.cons (c := [av .u8 32 r3.Tx, [.int .u32 r3.N], [v2], [.int .u32 4294967295]].flatten) ⟨v2, rfl, ⟨hz4.1, hz4.2, hS3, (in_lit .u32 4294967295 rfl)⟩⟩ rfl Els.nil)
            refine o_bsl ([av .u8 32 r3.Tx, [.int .u32 r3.N], [v2], [.int .u32 4294967295]].flatten ++ ([])) te42 zr42 Tryd.underlying29 hI hA rfl rfl rfl rfl (by kernel_rfl) rfl fun g4 a w hA hI => ?_
            generalize hcs : ([av .u8 32 r3.Tx, [.int .u32 r3.N], [v2], [.int .u32 4294967295]].flatten ++ ([]) : List Value) = cs4 at hE4 hI
            clear hcs
            refine o_nil <| ⟨(.inr ((hth1 _ _ hI).sl [0, 2, 4] rfl)), ?_⟩
            refine gF 7 rfl ?_
            have hE5 : Els (ROut μ4) 33 ([(⟨x1, x2⟩ : Out)] : List Out) _ := (Els.cons (c := [[.int .u64 x1], av .u8 32 x2].flatten) ⟨rfl, ⟨hx1, hx2⟩⟩ rfl Els.nil)
            refine o_bsl ([[.int .u64 x1], av .u8 32 x2].flatten ++ ([])) te44 zr44 Tryd.underlying30 hI hA rfl rfl rfl rfl (by kernel_rfl) rfl fun g5 a w hA hI => ?_
            generalize hcs : ([[.int .u64 x1], av .u8 32 x2].flatten ++ ([]) : List Value) = cs5 at hE5 hI
            clear hcs
            refine o_nil <| ⟨(.inr ((hth1 _ _ hI).sl [0, 3, 5] rfl)), ?_⟩
            refine gF 8 rfl ?_
            refine stp hA (r_bldS (cs := [[.int .u32 1], [(.slice (some ⟨g4, 0, none⟩) 1 1)], [(.slice (some ⟨g5, 0, none⟩) 1 1)], [.int .u32 0]].flatten.toArray) (pl := [(0, 1), (1, 1), (2, 1), (3, 1)]) zr32 Tryd.underlying32 ⟨rfl, sz24, rfl, sz29, rfl, sz30, rfl, sz24, trivial⟩ hA rfl ((fill_one rfl rfl (by kernel_rfl)).trans ((fill_one (own_cell hI (j := 1) rfl) rfl (by kernel_rfl)).trans ((fill_one (own_cell hI (j := 0) rfl) rfl (by kernel_rfl)).trans (by kernel_rfl))))) rfl fun a hA => ?_
            refine o_nil <| ⟨(.inr ((hth1 _ _ hI).sl [0, 3, 5] rfl)), ?_⟩
            refine gF 9 rfl ?_
            refine o_st (j := 3) [] [[.int .u32 0], [(.slice none 0 0)], [(.slice none 0 0)], [.int .u32 0]] [[.int .u32 1], [(.slice (some ⟨g4, 0, none⟩) 1 1)], [(.slice (some ⟨g5, 0, none⟩) 1 1)], [.int .u32 0]] [] sz32 rfl rfl (fl_cons (oneC rfl) (fl_cons (oneC (own_one hI (j := 1) rfl)) (fl_cons (oneC (own_one hI (j := 0) rfl)) (fl_cons (oneC rfl) fl_nil)))) hI rfl hA rfl rfl rfl rfl fun w hI => ?_
            refine o_nil <| ⟨(.inr ((hth1 _ _ hI).sl [0, 3, 5] rfl)), ?_⟩
            refine gN ?_
            cases sJ H
            exact ⟨μ4, v2, (.slice (some ⟨g4, 0, none⟩) 1 1), cs4, (.slice (some ⟨g5, 0, none⟩) 1 1), cs5, hle4, hS3, (in_lit .u32 1 rfl), hE4, hE5, hA.sub ⟨rfl, rfl, trivial⟩, (hI.sl [1, 0, 2, 3, 4] rfl)⟩
          · skip
            have hE4 : Els (ROut μ1) 33 ([(⟨x1, x2⟩ : Out)] : List Out) _ := (Els.cons (c := [[.int .u64 x1], av .u8 32 x2].flatten) ⟨rfl, ⟨hx1, hx2⟩⟩ rfl Els.nil)
            refine o_bsl ([[.int .u64 x1], av .u8 32 x2].flatten ++ ([])) te44 zr44 Tryd.underlying30 hI hA rfl rfl rfl rfl (by kernel_rfl) rfl fun g4 a w hA hI => ?_
            generalize hcs : ([[.int .u64 x1], av .u8 32 x2].flatten ++ ([]) : List Value) = cs4 at hE4 hI
            clear hcs
            refine o_nil <| ⟨(.inr (hI.sl [1, 2, 4] rfl)), ?_⟩
            refine gF 3 rfl ?_
            obtain ⟨μ4, hle4, hsv3, hI, hth1⟩ := hI.freezeRowT 1 rfl
            have hS3 : Slc (RI .u8) 1 μ4 v2 r2 := ⟨_, hE3, hsv3⟩
            have hE5 : Els (RIn μ4) 35 ([(⟨r3, r2, 4294967295⟩ : In)] : List In) _ := (Els.cons (c := [av .u8 32 r3.Tx, [.int .u32 r3.N], [v2], [.int .u32 4294967295]].flatten) ⟨v2, rfl, ⟨hz4.1, hz4.2, hS3, (in_lit .u32 4294967295 rfl)⟩⟩ rfl Els.nil)
            refine o_bsl ([av .u8 32 r3.Tx, [.int .u32 r3.N], [v2], [.int .u32 4294967295]].flatten ++ ([])) te42 zr42 Tryd.underlying29 hI hA rfl rfl rfl rfl (by kernel_rfl) rfl fun g5 a w hA hI => ?_
            generalize hcs : ([av .u8 32 r3.Tx, [.int .u32 r3.N], [v2], [.int .u32 4294967295]].flatten ++ ([]) : List Value) = cs5 at hE5 hI
            clear hcs
            refine o_nil <| ⟨(.inr ((hth1 _ _ hI).sl [0, 3, 5] rfl)), ?_⟩
            refine gF 8 rfl ?_
            refine stp hA (r_bldS (cs := [[.int .u32 1], [(.slice (some ⟨g5, 0, none⟩) 1 1)], [(.slice (some ⟨g4, 0, none⟩) 1 1)], [.int .u32 0]].flatten.toArray) (pl := [(0, 1), (1, 1), (2, 1), (3, 1)]) zr32 Tryd.underlying32 ⟨rfl, sz24, rfl, sz29, rfl, sz30, rfl, sz24, trivial⟩ hA rfl ((fill_one rfl rfl (by kernel_rfl)).trans ((fill_one (own_cell hI (j := 0) rfl) rfl (by kernel_rfl)).trans ((fill_one (own_cell hI (j := 1) rfl) rfl (by kernel_rfl)).trans (by kernel_rfl))))) rfl fun a hA => ?_
            refine o_nil <| ⟨(.inr ((hth1 _ _ hI).sl [0, 3, 5] rfl)), ?_⟩
            refine gF 9 rfl ?_
            refine o_st (j := 3) [] [[.int .u32 0], [(.slice none 0 0)], [(.slice none 0 0)], [.int .u32 0]] [[.int .u32 1], [(.slice (some ⟨g5, 0, none⟩) 1 1)], [(.slice (some ⟨g4, 0, none⟩) 1 1)], [.int .u32 0]] [] sz32 rfl rfl (fl_cons (oneC rfl) (fl_cons (oneC (own_one hI (j := 0) rfl)) (fl_cons (oneC (own_one hI (j := 1) rfl)) (fl_cons (oneC rfl) fl_nil)))) hI rfl hA rfl rfl rfl rfl fun w hI => ?_
            refine o_nil <| ⟨(.inr ((hth1 _ _ hI).sl [0, 3, 5] rfl)), ?_⟩
            refine gN ?_
            cases sJ H
            exact ⟨μ4, v2, (.slice (some ⟨g5, 0, none⟩) 1 1), cs5, (.slice (some ⟨g4, 0, none⟩) 1 1), cs4, hle4, hS3, (in_lit .u32 1 rfl), hE5, hE4, hA.sub ⟨rfl, rfl, trivial⟩, hI⟩
        · skip
          have hE4 : Els (ROut μ1) 33 ([(⟨x1, x2⟩ : Out)] : List Out) _ := (Els.cons (c := [[.int .u64 x1], av .u8 32 x2].flatten) ⟨rfl, ⟨hx1, hx2⟩⟩ rfl Els.nil)
          refine o_bsl ([[.int .u64 x1], av .u8 32 x2].flatten ++ ([])) te44 zr44 Tryd.underlying30 hI hA rfl rfl rfl rfl (by kernel_rfl) rfl fun g4 a w hA hI => ?_
          generalize hcs : ([[.int .u64 x1], av .u8 32 x2].flatten ++ ([]) : List Value) = cs4 at hE4 hI
          clear hcs
          refine o_nil <| ⟨(.inr (hI.sl [1, 2, 4] rfl)), ?_⟩
          refine gF 2 rfl ?_
          refine stp hA (r_bldS (cs := [av .u8 32 r3.Tx, [.int .u32 r3.N], [v2], [.int .u32 4294967295]].flatten.toArray) (pl := [(0, 33), (33, 1), (34, 1)]) zr42 Tryd.underlying42 ⟨rfl, sz39, rfl, sz40, rfl, sz24, trivial⟩ hA rfl ((fill_seg [] [av .u8 32 (List.replicate 32 0), [.int .u32 0]] [av .u8 32 r3.Tx, [.int .u32 r3.N]] [[(.slice none 0 0)], [.int .u32 0]] rfl rfl rfl rfl rfl).trans ((fill_seg [av .u8 32 r3.Tx, [.int .u32 r3.N]] [[(.slice none 0 0)]] [[v2]] [[.int .u32 0]] (own_cell hI (j := 1) rfl) rfl rfl rfl rfl).trans ((fill_seg [av .u8 32 r3.Tx, [.int .u32 r3.N], [v2]] [[.int .u32 0]] [[.int .u32 4294967295]] [] rfl rfl rfl rfl rfl).trans (rfl))))) rfl fun a hA => ?_
          refine o_nil <| ⟨(.inr (hI.sl [1, 2, 4] rfl)), ?_⟩
          refine gF 3 rfl ?_
          obtain ⟨μ4, hle4, hsv3, hI, hth1⟩ := hI.freezeRowT 1 rfl
          have hS3 : Slc (RI .u8) 1 μ4 v2 r2 := ⟨_, hE3, hsv3⟩
          have hE5 : Els (RIn μ4) 35 ([(⟨r3, r2, 4294967295⟩ : In)] : List In) _ := (Els.cons (c := [av .u8 32 r3.Tx, [.int .u32 r3.N], [v2], [.int .u32 4294967295]].flatten) ⟨v2, rfl, ⟨hz4.1, hz4.2, hS3, (in_lit .u32 4294967295 rfl)⟩⟩ rfl Els.nil)
          refine o_bsl ([av .u8 32 r3.Tx, [.int .u32 r3.N], [v2], [.int .u32 4294967295]].flatten ++ ([])) te42 zr42 Tryd.underlying29 hI hA rfl rfl rfl rfl (by kernel_rfl) rfl fun g5 a w hA hI => ?_
          generalize hcs : ([av .u8 32 r3.Tx, [.int .u32 r3.N], [v2], [.int .u32 4294967295]].flatten ++ ([]) : List Value) = cs5 at hE5 hI
          clear hcs
          refine o_nil <| ⟨(.inr ((hth1 _ _ hI).sl [0, 3, 5] rfl)), ?_⟩
          refine gF 8 rfl ?_
          refine stp hA (r_bldS (cs := [[.int .u32 1], [(.slice (some ⟨g5, 0, none⟩) 1 1)], [(.slice (some ⟨g4, 0, none⟩) 1 1)], [.int .u32 0]].flatten.toArray) (pl := [(0, 1), (1, 1), (2, 1), (3, 1)]) zr32 Tryd.underlying32 ⟨rfl, sz24, rfl, sz29, rfl, sz30, rfl, sz24, trivial⟩ hA rfl ((fill_one rfl rfl (by kernel_rfl)).trans ((fill_one (own_cell hI (j := 0) rfl) rfl (by kernel_rfl)).trans ((fill_one (own_cell hI (j := 1) rfl) rfl (by kernel_rfl)).trans (by kernel_rfl))))) rfl fun a hA => ?_
          refine o_nil <| ⟨(.inr ((hth1 _ _ hI).sl [0, 3, 5] rfl)), ?_⟩
          refine gF 9 rfl ?_
          refine o_st (j := 3) [] [[.int .u32 0], [(.slice none 0 0)], [(.slice none 0 0)], [.int .u32 0]] [[.int .u32 1], [(.slice (some ⟨g5, 0, none⟩) 1 1)], [(.slice (some ⟨g4, 0, none⟩) 1 1)], [.int .u32 0]] [] sz32 rfl rfl (fl_cons (oneC rfl) (fl_cons (oneC (own_one hI (j := 0) rfl)) (fl_cons (oneC (own_one hI (j := 1) rfl)) (fl_cons (oneC rfl) fl_nil)))) hI rfl hA rfl rfl rfl rfl fun w hI => ?_
          refine o_nil <| ⟨(.inr ((hth1 _ _ hI).sl [0, 3, 5] rfl)), ?_⟩
          refine gN ?_
          cases sJ H
          exact ⟨μ4, v2, (.slice (some ⟨g5, 0, none⟩) 1 1), cs5, (.slice (some ⟨g4, 0, none⟩) 1 1), cs4, hle4, hS3, (in_lit .u32 1 rfl), hE5, hE4, hA.sub ⟨rfl, rfl, trivial⟩, hI⟩
    · skip
      refine stp hA (r_bldS (cs := [[.int .u64 x1], av .u8 32 x2].flatten.toArray) (pl := [(0, 1), (1, 32)]) zr44 Tryd.underlying44 ⟨rfl, sz34, rfl, sz26, trivial⟩ hA rfl (by kernel_rfl)) rfl fun a hA => ?_
      refine o_nil <| ⟨(.inr (hI.sl [0, 1, 3] rfl)), ?_⟩
      refine g_fork (i := 0) (is := [7]) (by kernel_rfl) (List.forall_mem_cons.2 ⟨⟨_, rfl, ?_⟩, (List.forall_mem_cons.2 ⟨⟨_, rfl, ?_⟩, List.forall_mem_nil _⟩)⟩)
      · skip
        obtain ⟨r3, hr3, H⟩ := bB H
        refine o_callp (u := .agg [av .u8 32 r3.Tx, [.int .u32 r3.N]].flatten.toArray) cf37 hA rfl hI (spend_Null.c μ1 _ hI.agr  r3 hr3) rfl fun a w hz4 hI hA => ?_
        refine o_nil <| ⟨(.inr (hI.sl [0, 1, 3] rfl)), ?_⟩
        refine g_fork (i := 2) (is := [7]) (by kernel_rfl) (List.forall_mem_cons.2 ⟨⟨_, rfl, ?_⟩, (List.forall_mem_cons.2 ⟨⟨_, rfl, ?_⟩, List.forall_mem_nil _⟩)⟩)
        · skip
          refine stp hA (r_bldS (cs := [av .u8 32 r3.Tx, [.int .u32 r3.N], [v2], [.int .u32 4294967295]].flatten.toArray) (pl := [(0, 33), (33, 1), (34, 1)]) zr42 Tryd.underlying42 ⟨rfl, sz39, rfl, sz40, rfl, sz24, trivial⟩ hA rfl ((fill_seg [] [av .u8 32 (List.replicate 32 0), [.int .u32 0]] [av .u8 32 r3.Tx, [.int .u32 r3.N]] [[(.slice none 0 0)], [.int .u32 0]] rfl rfl rfl rfl rfl).trans ((fill_seg [av .u8 32 r3.Tx, [.int .u32 r3.N]] [[(.slice none 0 0)]] [[v2]] [[.int .u32 0]] (own_cell hI (j := 0) rfl) rfl rfl rfl rfl).trans ((fill_seg [av .u8 32 r3.Tx, [.int .u32 r3.N], [v2]] [[.int .u32 0]] [[.int .u32 4294967295]] [] rfl rfl rfl rfl rfl).trans (rfl))))) rfl fun a hA => ?_
          refine o_nil <| ⟨(.inr (hI.sl [0, 1, 3] rfl)), ?_⟩
          refine g_fork (i := 3) (is := [7]) (by kernel_rfl) (List.forall_mem_cons.2 ⟨⟨_, rfl, ?_⟩, (List.forall_mem_cons.2 ⟨⟨_, rfl, ?_⟩, List.forall_mem_nil _⟩)⟩)
          · skip
            obtain ⟨μ4, hle4, hsv3, hI, hth1⟩ := hI.freezeRowT 0 rfl
            have hS3 : Slc (RI .u8) 1 μ4 v2 r2 := ⟨_, hE3, hsv3⟩
            have hE4 : Els (RIn μ4) 35 ([(⟨r3, r2, 4294967295⟩ : In)] : List In) _ := (Els.cons (c := [av .u8 32 r3.Tx, [.int .u32 r3.N], [v2], [.int .u32 4294967295]].flatten) ⟨v2, rfl, ⟨hz4.1, hz4.2, hS3, (in_lit .u32 4294967295 rfl)⟩⟩ rfl Els.nil)
            refine o_bsl ([av .u8 32 r3.Tx, [.int .u32 r3.N], [v2], [.int .u32 4294967295]].flatten ++ ([])) te42 zr42 Tryd.underlying29 hI hA rfl rfl rfl rfl (by kernel_rfl) rfl fun g4 a w hA hI => ?_
            generalize hcs : ([av .u8 32 r3.Tx, [.int .u32 r3.N], [v2], [.int .u32 4294967295]].flatten ++ ([]) : List Value) = cs4 at hE4 hI
            clear hcs
            refine o_nil <| ⟨(.inr ((hth1 _ _ hI).sl [0, 2, 4] rfl)), ?_⟩
            refine gF 7 rfl ?_
            have hE5 : Els (ROut μ4) 33 ([(⟨x1, x2⟩ : Out)] : List Out) _ := (Els.cons (c := [[.int .u64 x1], av .u8 32 x2].flatten) ⟨rfl, ⟨hx1, hx2⟩⟩ rfl Els.nil)
            refine o_bsl ([[.int .u64 x1], av .u8 32 x2].flatten ++ ([])) te44 zr44 Tryd.underlying30 hI hA rfl rfl rfl rfl (by kernel_rfl) rfl fun g5 a w hA hI => ?_
            generalize hcs : ([[.int .u64 x1], av .u8 32 x2].flatten ++ ([]) : List Value) = cs5 at hE5 hI
            clear hcs
            refine o_nil <| ⟨(.inr ((hth1 _ _ hI).sl [0, 3, 5] rfl)), ?_⟩
            refine gF 8 rfl ?_
            refine stp hA (r_bldS (cs := [[.int .u32 1], [(.slice (some ⟨g4, 0, none⟩) 1 1)], [(.slice (some ⟨g5, 0, none⟩) 1 1)], [.int .u32 0]].flatten.toArray) (pl := [(0, 1), (1, 1), (2, 1), (3, 1)]) zr32 Tryd.underlying32 ⟨rfl, sz24, rfl, sz29, rfl, sz30, rfl, sz24, trivial⟩ hA rfl ((fill_one rfl rfl (by kernel_rfl)).trans ((fill_one (own_cell hI (j := 1) rfl) rfl (by kernel_rfl)).trans ((fill_one (own_cell hI (j := 0) rfl) rfl (by kernel_rfl)).trans (by kernel_rfl))))) rfl fun a hA => ?_
            refine o_nil <| ⟨(.inr ((hth1 _ _ hI).sl [0, 3, 5] rfl)), ?_⟩
            refine gF 9 rfl ?_
            refine o_st (j := 3) [] [[.int .u32 0], [(.slice none 0 0)], [(.slice none 0 0)], [.int .u32 0]] [[.int .u32 1], [(.slice (some ⟨g4, 0, none⟩) 1 1)], [(.slice (some ⟨g5, 0, none⟩) 1 1)], [.int .u32 0]] [] sz32 rfl rfl (fl_cons (oneC rfl) (fl_cons (oneC (own_one hI (j := 1) rfl)) (fl_cons (oneC (own_one hI (j := 0) rfl)) (fl_cons (oneC rfl) fl_nil)))) hI rfl hA rfl rfl rfl rfl fun w hI => ?_
            refine o_nil <| ⟨(.inr ((hth1 _ _ hI).sl [0, 3, 5] rfl)), ?_⟩
            refine gN ?_
            cases sJ H
            exact ⟨μ4, v2, (.slice (some ⟨g4, 0, none⟩) 1 1), cs4, (.slice (some ⟨g5, 0, none⟩) 1 1), cs5, hle4, hS3, (in_lit .u32 1 rfl), hE4, hE5, hA.sub ⟨rfl, rfl, trivial⟩, (hI.sl [1, 0, 2, 3, 4] rfl)⟩
          · skip
            have hE4 : Els (ROut μ1) 33 ([(⟨x1, x2⟩ : Out)] : List Out) _ := (Els.cons (c := [[.int .u64 x1], av .u8 32 x2].flatten) ⟨rfl, ⟨hx1, hx2⟩⟩ rfl Els.nil)
            refine o_bsl ([[.int .u64 x1], av .u8 32 x2].flatten ++ ([])) te44 zr44 Tryd.underlying30 hI hA rfl rfl rfl rfl (by kernel_rfl) rfl fun g4 a w hA hI => ?_
            generalize hcs : ([[.int .u64 x1], av .u8 32 x2].flatten ++ ([]) : List Value) = cs4 at hE4 hI
            clear hcs
            refine o_nil <| ⟨(.inr (hI.sl [1, 2, 4] rfl)), ?_⟩
            refine gF 3 rfl ?_
            obtain ⟨μ4, hle4, hsv3, hI, hth1⟩ := hI.freezeRowT 1 rfl
            have hS3 : Slc (RI .u8) 1 μ4 v2 r2 := ⟨_, hE3, hsv3⟩
            have hE5 : Els (RIn μ4) 35 ([(⟨r3, r2, 4294967295⟩ : In)] : List In) _ := (Els.cons (c := [av .u8 32 r3.Tx, [.int .u32 r3.N], [v2], [.int .u32 4294967295]].flatten) ⟨v2, rfl, ⟨hz4.1, hz4.2, hS3, (in_lit .u32 4294967295 rfl)⟩⟩ rfl Els.nil)
            refine o_bsl ([av .u8 32 r3.Tx, [.int .u32 r3.N], [v2], [.int .u32 4294967295]].flatten ++ ([])) te42 zr42 Tryd.underlying29 hI hA rfl rfl rfl rfl (by kernel_rfl) rfl fun g5 a w hA hI => ?_
            generalize hcs : ([av .u8 32 r3.Tx, [.int .u32 r3.N], [v2], [.int .u32 4294967295]].flatten ++ ([]) : List Value) = cs5 at hE5 hI
            clear hcs
            refine o_nil <| ⟨(.inr ((hth1 _ _ hI).sl [0, 3, 5] rfl)), ?_⟩
            refine gF 8 rfl ?_
            refine stp hA (r_bldS (cs := [[.int .u32 1], [(.slice (some ⟨g5, 0, none⟩) 1 1)], [(.slice (some ⟨g4, 0, none⟩) 1 1)], [.int .u32 0]].flatten.toArray) (pl := [(0, 1), (1, 1), (2, 1), (3, 1)]) zr32 Tryd.underlying32 ⟨rfl, sz24, rfl, sz29, rfl, sz30, rfl, sz24, trivial⟩ hA rfl ((fill_one rfl rfl (by kernel_rfl)).trans ((fill_one (own_cell hI (j := 0) rfl) rfl (by kernel_rfl)).trans ((fill_one (own_cell hI (j := 1) rfl) rfl (by kernel_rfl)).trans (by kernel_rfl))))) rfl fun a hA => ?_
            refine o_nil <| ⟨(.inr ((hth1 _ _ hI).sl [0, 3, 5] rfl)), ?_⟩
            refine gF 9 rfl ?_
            refine o_st (j := 3) [] [[.int .u32 0], [(.slice none 0 0)], [(.slice none 0 0)], [.int .u32 0]] [[.int .u32 1], [(.slice (some ⟨g5, 0, none⟩) 1 1)], [(.slice (some ⟨g4, 0, none⟩) 1 1)], [.int .u32 0]] [] sz32 rfl rfl (fl_cons (oneC rfl) (fl_cons (oneC (own_one hI (j := 0) rfl)) (fl_cons (oneC (own_one hI (j := 1) rfl)) (fl_cons (oneC rfl) fl_nil)))) hI rfl hA rfl rfl rfl rfl fun w hI => ?_
            refine o_nil <| ⟨(.inr ((hth1 _ _ hI).sl [0, 3, 5] rfl)), ?_⟩
            refine gN ?_
            cases sJ H
            exact ⟨μ4, v2, (.slice (some ⟨g5, 0, none⟩) 1 1), cs5, (.slice (some ⟨g4, 0, none⟩) 1 1), cs4, hle4, hS3, (in_lit .u32 1 rfl), hE5, hE4, hA.sub ⟨rfl, rfl, trivial⟩, hI⟩
        · skip
          have hE4 : Els (ROut μ1) 33 ([(⟨x1, x2⟩ : Out)] : List Out) _ := (Els.cons (c := [[.int .u64 x1], av .u8 32 x2].flatten) ⟨rfl, ⟨hx1, hx2⟩⟩ rfl Els.nil)
          refine o_bsl ([[.int .u64 x1], av .u8 32 x2].flatten ++ ([])) te44 zr44 Tryd.underlying30 hI hA rfl rfl rfl rfl (by kernel_rfl) rfl fun g4 a w hA hI => ?_
          generalize hcs : ([[.int .u64 x1], av .u8 32 x2].flatten ++ ([]) : List Value) = cs4 at hE4 hI
          clear hcs
          refine o_nil <| ⟨(.inr (hI.sl [1, 2, 4] rfl)), ?_⟩
          refine gF 2 rfl ?_
          refine stp hA (r_bldS (cs := [av .u8 32 r3.Tx, [.int .u32 r3.N], [v2], [.int .u32 4294967295]].flatten.toArray) (pl := [(0, 33), (33, 1), (34, 1)]) zr42 Tryd.underlying42 ⟨rfl, sz39, rfl, sz40, rfl, sz24, trivial⟩ hA rfl ((fill_seg [] [av .u8 32 (List.replicate 32 0), [.int .u32 0]] [av .u8 32 r3.Tx, [.int .u32 r3.N]] [[(.slice none 0 0)], [.int .u32 0]] rfl rfl rfl rfl rfl).trans ((fill_seg [av .u8 32 r3.Tx, [.int .u32 r3.N]] [[(.slice none 0 0)]] [[v2]] [[.int .u32 0]] (own_cell hI (j := 1) rfl) rfl rfl rfl rfl).trans ((fill_seg [av .u8 32 r3.Tx, [.int .u32 r3.N], [v2]] [[.int .u32 0]] [[.int .u32 4294967295]] [] rfl rfl rfl rfl rfl).trans (rfl))))) rfl fun a hA => ?_
          refine o_nil <| ⟨(.inr (hI.sl [1, 2, 4] rfl)), ?_⟩
          refine gF 3 rfl ?_
          obtain ⟨μ4, hle4, hsv3, hI, hth1⟩ := hI.freezeRowT 1 rfl
          have hS3 : Slc (RI .u8) 1 μ4 v2 r2 := ⟨_, hE3, hsv3⟩
          have hE5 : Els (RIn μ4) 35 ([(⟨r3, r2, 4294967295⟩ : In)] : List In) _ := (Els.cons (c := [av .u8 32 r3.Tx, [.int .u32 r3.N], [v2], [.int .u32 4294967295]].flatten) ⟨v2, rfl, ⟨hz4.1, hz4.2, hS3, (in_lit .u32 4294967295 rfl)⟩⟩ rfl Els.nil)
          refine o_bsl ([av .u8 32 r3.Tx, [.int .u32 r3.N], [v2], [.int .u32 4294967295]].flatten ++ ([])) te42 zr42 Tryd.underlying29 hI hA rfl rfl rfl rfl (by kernel_rfl) rfl fun g5 a w hA hI => ?_
          generalize hcs : ([av .u8 32 r3.Tx, [.int .u32 r3.N], [v2], [.int .u32 4294967295]].flatten ++ ([]) : List Value) = cs5 at hE5 hI
          clear hcs
          refine o_nil <| ⟨(.inr ((hth1 _ _ hI).sl [0, 3, 5] rfl)), ?_⟩
          refine gF 8 rfl ?_
          refine stp hA (r_bldS (cs := [[.int .u32 1], [(.slice (some ⟨g5, 0, none⟩) 1 1)], [(.slice (some ⟨g4, 0, none⟩) 1 1)], [.int .u32 0]].flatten.toArray) (pl := [(0, 1), (1, 1), (2, 1), (3, 1)]) zr32 Tryd.underlying32 ⟨rfl, sz24, rfl, sz29, rfl, sz30, rfl, sz24, trivial⟩ hA rfl ((fill_one rfl rfl (by kernel_rfl)).trans ((fill_one (own_cell hI (j := 0) rfl) rfl (by kernel_rfl)).trans ((fill_one (own_cell hI (j := 1) rfl) rfl (by kernel_rfl)).trans (by kernel_rfl))))) rfl fun a hA => ?_
          refine o_nil <| ⟨(.inr ((hth1 _ _ hI).sl [0, 3, 5] rfl)), ?_⟩
          refine gF 9 rfl ?_
          refine o_st (j := 3) [] [[.int .u32 0], [(.slice none 0 0)], [(.slice none 0 0)], [.int .u32 0]] [[.int .u32 1], [(.slice (some ⟨g5, 0, none⟩) 1 1)], [(.slice (some ⟨g4, 0, none⟩) 1 1)], [.int .u32 0]] [] sz32 rfl rfl (fl_cons (oneC rfl) (fl_cons (oneC (own_one hI (j := 0) rfl)) (fl_cons (oneC (own_one hI (j := 1) rfl)) (fl_cons (oneC rfl) fl_nil)))) hI rfl hA rfl rfl rfl rfl fun w hI => ?_
          refine o_nil <| ⟨(.inr ((hth1 _ _ hI).sl [0, 3, 5] rfl)), ?_⟩
          refine gN ?_
          cases sJ H
          exact ⟨μ4, v2, (.slice (some ⟨g5, 0, none⟩) 1 1), cs5, (.slice (some ⟨g4, 0, none⟩) 1 1), cs4, hle4, hS3, (in_lit .u32 1 rfl), hE5, hE4, hA.sub ⟨rfl, rfl, trivial⟩, hI⟩
      · skip
        have hE4 : Els (ROut μ1) 33 ([(⟨x1, x2⟩ : Out)] : List Out) _ := (Els.cons (c := [[.int .u64 x1], av .u8 32 x2].flatten) ⟨rfl, ⟨hx1, hx2⟩⟩ rfl Els.nil)
        refine o_bsl ([[.int .u64 x1], av .u8 32 x2].flatten ++ ([])) te44 zr44 Tryd.underlying30 hI hA rfl rfl rfl rfl (by kernel_rfl) rfl fun g4 a w hA hI => ?_
        generalize hcs : ([[.int .u64 x1], av .u8 32 x2].flatten ++ ([]) : List Value) = cs4 at hE4 hI
        clear hcs
        refine o_nil <| ⟨(.inr (hI.sl [1, 2, 4] rfl)), ?_⟩
        refine gF 0 rfl ?_
        obtain ⟨r3, hr3, H⟩ := bB H
        refine o_callp (u := .agg [av .u8 32 r3.Tx, [.int .u32 r3.N]].flatten.toArray) cf37 hA rfl hI (spend_Null.c μ1 _ hI.agr  r3 hr3) rfl fun a w hz4 hI hA => ?_
        refine o_nil <| ⟨(.inr (hI.sl [1, 2, 4] rfl)), ?_⟩
        refine gF 2 rfl ?_
        refine stp hA (r_bldS (cs := [av .u8 32 r3.Tx, [.int .u32 r3.N], [v2], [.int .u32 4294967295]].flatten.toArray) (pl := [(0, 33), (33, 1), (34, 1)]) zr42 Tryd.underlying42 ⟨rfl, sz39, rfl, sz40, rfl, sz24, trivial⟩ hA rfl ((fill_seg [] [av .u8 32 (List.replicate 32 0), [.int .u32 0]] [av .u8 32 r3.Tx, [.int .u32 r3.N]] [[(.slice none 0 0)], [.int .u32 0]] rfl rfl rfl rfl rfl).trans ((fill_seg [av .u8 32 r3.Tx, [.int .u32 r3.N]] [[(.slice none 0 0)]] [[v2]] [[.int .u32 0]] (own_cell hI (j := 1) rfl) rfl rfl rfl rfl).trans ((fill_seg [av .u8 32 r3.Tx, [.int .u32 r3.N], [v2]] [[.int .u32 0]] [[.int .u32 4294967295]] [] rfl rfl rfl rfl rfl).trans (rfl))))) rfl fun a hA => ?_
        refine o_nil <| ⟨(.inr (hI.sl [1, 2, 4] rfl)), ?_⟩
        refine gF 3 rfl ?_
        obtain ⟨μ4, hle4, hsv3, hI, hth1⟩ := hI.freezeRowT 1 rfl
        have hS3 : Slc (RI .u8) 1 μ4 v2 r2 := ⟨_, hE3, hsv3⟩
        have hE5 : Els (RIn μ4) 35 ([(⟨r3, r2, 4294967295⟩ : In)] : List In) _ := (Els.cons (c := [av .u8 32 r3.Tx, [.int .u32 r3.N], [v2], [.int .u32 4294967295]].flatten) ⟨v2, rfl, ⟨hz4.1, hz4.2, hS3, (in_lit .u32 4294967295 rfl)⟩⟩ rfl Els.nil)
        refine o_bsl ([av .u8 32 r3.Tx, [.int .u32 r3.N], [v2], [.int .u32 4294967295]].flatten ++ ([])) te42 zr42 Tryd.underlying29 hI hA rfl rfl rfl rfl (by kernel_rfl) rfl fun g5 a w hA hI => ?_
        generalize hcs : ([av .u8 32 r3.Tx, [.int .u32 r3.N], [v2], [.int .u32 4294967295]].flatten ++ ([]) : List Value) = cs5 at hE5 hI
        clear hcs
        refine o_nil <| ⟨(.inr ((hth1 _ _ hI).sl [0, 3, 5] rfl)), ?_⟩
        refine gF 8 rfl ?_
        refine stp hA (r_bldS (cs := [[.int .u32 1], [(.slice (some ⟨g5, 0, none⟩) 1 1)], [(.slice (some ⟨g4, 0, none⟩) 1 1)], [.int .u32 0]].flatten.toArray) (pl := [(0, 1), (1, 1), (2, 1), (3, 1)]) zr32 Tryd.underlying32 ⟨rfl, sz24, rfl, sz29, rfl, sz30, rfl, sz24, trivial⟩ hA rfl ((fill_one rfl rfl (by kernel_rfl)).trans ((fill_one (own_cell hI (j := 0) rfl) rfl (by kernel_rfl)).trans ((fill_one (own_cell hI (j := 1) rfl) rfl (by kernel_rfl)).trans (by kernel_rfl))))) rfl fun a hA => ?_
        refine o_nil <| ⟨(.inr ((hth1 _ _ hI).sl [0, 3, 5] rfl)), ?_⟩
        refine gF 9 rfl ?_
        refine o_st (j := 3) [] [[.int .u32 0], [(.slice none 0 0)], [(.slice none 0 0)], [.int .u32 0]] [[.int .u32 1], [(.slice (some ⟨g5, 0, none⟩) 1 1)], [(.slice (some ⟨g4, 0, none⟩) 1 1)], [.int .u32 0]] [] sz32 rfl rfl (fl_cons (oneC rfl) (fl_cons (oneC (own_one hI (j := 0) rfl)) (fl_cons (oneC (own_one hI (j := 1) rfl)) (fl_cons (oneC rfl) fl_nil)))) hI rfl hA rfl rfl rfl rfl fun w hI => ?_
        refine o_nil <| ⟨(.inr ((hth1 _ _ hI).sl [0, 3, 5] rfl)), ?_⟩
        refine gN ?_
        cases sJ H
        exact ⟨μ4, v2, (.slice (some ⟨g5, 0, none⟩) 1 1), cs5, (.slice (some ⟨g4, 0, none⟩) 1 1), cs4, hle4, hS3, (in_lit .u32 1 rfl), hE5, hE4, hA.sub ⟨rfl, rfl, trivial⟩, hI⟩
  · rintro a w ⟨μ3, vvc1, vvc3, ccc3, vvc4, ccc4, hle3, wc1, wc2, wc3, wc4, hA, hI⟩
    have H := Hk1
    refine w_ret ?_
    obtain ⟨μ5, hle5, hsv4, hI⟩ := hI.freezeRow 0 rfl
    have hS4 : Slc (RIn μ5) 35 μ5 vvc3 c3 := ⟨_, (Els.mono wc3 (fun _ _ h => RIn.le hle5 h)), hsv4⟩
    obtain ⟨μ6, hle6, hsv5, hI⟩ := hI.freezeRow 0 rfl
    have hS5 : Slc (ROut μ6) 33 μ6 vvc4 c4 := ⟨_, wc4, hsv5⟩
    obtain rfl := sJ H
    exact retc Tryd.underlying32 rfl sz32 rfl hI (j := 1) rfl hA Tryd.results25 rfl ⟨_, rfl, vvc3, vvc4, μ6, rfl, ⟨wc2, (Slc.le hS4 (fun _ _ h => RIn.le hle6 h) hle6), hS5, (in_lit .u32 0 rfl)⟩, (hI.sl [] rfl)⟩
set_option maxRecDepth 20000 in
theorem block_Start.c (μ : Store) (w0 : World) (hμ : Agr μ w0) (r : Block) (H : block_Start.f = some r) :
    Calls Tryd.prog 12 [].toArray w0 (fun e w' => ∃ v, e = .returned v ∧ ∃ (v0_0 : Value) (μ' : Store), v = .agg [[.int .u32 r.Head.Version], av .u8 32 r.Head.Prev, av .u8 32 r.Head.Root, [.int .u32 r.Head.Time], [.int .u32 r.Head.Work], [.int .u32 r.Head.Nonce], [v0_0]].flatten.toArray ∧ BlockW μ' r v0_0 ∧ Iv w0 [] μ μ' [] w') := by
  refine enter Tryd.func12 rfl Tryd.ntmps12 rfl fun a hA => ?_
  have hI := Iv.start hμ
  have H := bI H
  refine w_seq fun _ hN1 => w_reg <| o_new [[.int .u32 0], av .u8 32 (List.replicate 32 0), av .u8 32 (List.replicate 32 0), [.int .u32 0], [.int .u32 0], [.int .u32 0], [(.slice none 0 0)]] zr37 hI hA rfl fun g1 a w hA hI hg1 => ?_
  refine o_nil <| hN1 _ _ <| w_seq fun _ hN2 => w_reg <| stp hA (r_bldS (cs := [[.int .u32 1], av .u8 32 (List.replicate 32 0), av .u8 32 (List.replicate 32 0), [.int .u32 1000], [.int .u32 1], [.int .u32 0]].flatten.toArray) (pl := [(0, 1), (1, 32), (33, 32), (65, 1), (66, 1), (67, 1)]) zr28 Tryd.underlying28 ⟨rfl, sz24, rfl, sz26, rfl, sz26, rfl, sz24, rfl, sz24, rfl, sz24, trivial⟩ hA rfl (by kernel_rfl)) rfl fun a hA => ?_
  obtain ⟨r1, hr1, H⟩ := bB H
  refine o_callp (u := .agg [av .u8 32 r1].flatten.toArray) cf26 hA rfl hI (spend_Lock.c μ _ hI.agr ([]) (.slice none 0 0) (slc_nil _ _ _) r1 hr1) rfl fun a w hz1 hI hA => ?_
  obtain ⟨r2, hr2, H⟩ := bB H
  refine o_call _ cf25 hA rfl (block_First.c μ _ hI.agr 0 (in_lit .i64 0 rfl) 0 (in_lit .u64 0 rfl) r1 hz1 ([]) (.slice none 0 0) (slc_nil _ _ _) r2 hr2) rfl fun v1 a w hz2 hA => ?_
  obtain ⟨v2, v3, μ1, rfl, hw1, hi1⟩ := hz2
  have hI := hI.call hi1
  have hE1 : Els (RTx μ1) 4 ([r2] : List Tx) _ := (Els.cons (c := [[.int .u32 r2.Version], [v2], [v3], [.int .u32 r2.Time]].flatten) ⟨v2, v3, rfl, ⟨hw1.1, hw1.2.1, hw1.2.2.1, hw1.2.2.2⟩⟩ rfl Els.nil)
  refine o_bsl ([[.int .u32 r2.Version], [v2], [v3], [.int .u32 r2.Time]].flatten ++ ([])) te32 zr32 Tryd.underlying35 hI hA rfl rfl rfl rfl (by kernel_rfl) rfl fun g2 a w hA hI => ?_
  generalize hcs : ([[.int .u32 r2.Version], [v2], [v3], [.int .u32 r2.Time]].flatten ++ ([]) : List Value) = cs1 at hE1 hI
  clear hcs
  refine stp hA (r_bldS (cs := [[.int .u32 1], av .u8 32 (List.replicate 32 0), av .u8 32 (List.replicate 32 0), [.int .u32 1000], [.int .u32 1], [.int .u32 0], [(.slice (some ⟨g2, 0, none⟩) 1 1)]].flatten.toArray) (pl := [(0, 68), (68, 1)]) zr37 Tryd.underlying37 ⟨rfl, sz28, rfl, sz35, trivial⟩ hA rfl ((fill_seg [] [[.int .u32 0], av .u8 32 (List.replicate 32 0), av .u8 32 (List.replicate 32 0), [.int .u32 0], [.int .u32 0], [.int .u32 0]] [[.int .u32 1], av .u8 32 (List.replicate 32 0), av .u8 32 (List.replicate 32 0), [.int .u32 1000], [.int .u32 1], [.int .u32 0]] [[(.slice none 0 0)]] rfl rfl rfl rfl rfl).trans ((fill_seg [[.int .u32 1], av .u8 32 (List.replicate 32 0), av .u8 32 (List.replicate 32 0), [.int .u32 1000], [.int .u32 1], [.int .u32 0]] [[(.slice none 0 0)]] [[(.slice (some ⟨g2, 0, none⟩) 1 1)]] [] (own_cell hI (j := 0) rfl) rfl rfl rfl rfl).trans (rfl)))) rfl fun a hA => 
    o_new [[.int .u32 0], av .u8 32 (List.replicate 32 0), av .u8 32 (List.replicate 32 0), [.int .u32 0], [.int .u32 0], [.int .u32 0], [(.slice none 0 0)]] zr37 hI hA rfl fun g3 a w hA hI hg3 => 
    o_st (j := 0) [] [[.int .u32 0], av .u8 32 (List.replicate 32 0), av .u8 32 (List.replicate 32 0), [.int .u32 0], [.int .u32 0], [.int .u32 0], [(.slice none 0 0)]] [[.int .u32 1], av .u8 32 (List.replicate 32 0), av .u8 32 (List.replicate 32 0), [.int .u32 1000], [.int .u32 1], [.int .u32 0], [(.slice (some ⟨g2, 0, none⟩) 1 1)]] [] sz37 rfl rfl (fl_cons (oneC rfl) (fl_cons (one_av _ _ _) (fl_cons (one_av _ _ _) (fl_cons (oneC rfl) (fl_cons (oneC rfl) (fl_cons (oneC rfl) (fl_cons (oneC (own_one hI (j := 1) rfl)) fl_nil))))))) hI rfl hA rfl rfl rfl rfl fun w hI => ?_
  refine o_nil <| hN2 _ _ <| w_seq fun _ hN3 => w_reg <| stp hA (r_ldA (j := 0) [] [[.int .u32 1], av .u8 32 (List.replicate 32 0), av .u8 32 (List.replicate 32 0), [.int .u32 1000], [.int .u32 1], [.int .u32 0], [(.slice (some ⟨g2, 0, none⟩) 1 1)]] [] Tryd.underlying37 rfl sz37 rfl hI rfl hA rfl rfl) rfl fun a hA => ?_
  obtain ⟨r3, hr3, H⟩ := bB H
  refine o_callp (u := .agg [av .u8 32 r3].flatten.toArray) cf7 hA rfl hI ((by obtain ⟨μ2, hle1, hsv1, hI⟩ := hI.freezeRow 1 rfl; have hS1 : Slc (RTx μ2) 4 μ2 (.slice (some ⟨g2, 0, none⟩) 1 1) ([r2] : List Tx) := ⟨_, (Els.mono hE1 (fun _ _ h => RTx.le hle1 h)), hsv1⟩; exact low_plain hle1 (block_Root.c μ2 _ hI.agr (⟨(⟨1, (List.replicate 32 0), (List.replicate 32 0), 1000, 1, 0⟩ : Head), ([r2] : List Tx)⟩ : Block) (.slice (some ⟨g2, 0, none⟩) 1 1) ⟨(in_lit .u32 1 rfl), (arr_zero _ _), (arr_zero _ _), (in_lit .u32 1000 rfl), (in_lit .u32 1 rfl), (in_lit .u32 0 rfl), hS1⟩ r3 hr3))) rfl fun a w hz3 hI hA => 
    stp hA (r_fd (k := 0) Tryd.underlying37 rfl sz28 hA rfl rfl) rfl fun a hA => 
    stp hA (r_fd (k := 33) Tryd.underlying28 rfl sz26 hA rfl rfl) rfl fun a hA => 
    o_st (j := 0) [[.int .u32 1], av .u8 32 (List.replicate 32 0)] [av .u8 32 (List.replicate 32 0)] [av .u8 32 r3] [[.int .u32 1000], [.int .u32 1], [.int .u32 0], [(.slice (some ⟨g2, 0, none⟩) 1 1)]] sz26 rfl rfl (fl_cons (one_av _ _ _) fl_nil) hI rfl hA rfl rfl rfl rfl fun w hI => ?_
  refine o_nil <| hN3 _ _ <| w_seq fun _ hN4 => w_reg <| stp hA (r_ldA (j := 0) [] [[.int .u32 1], av .u8 32 (List.replicate 32 0), av .u8 32 r3, [.int .u32 1000], [.int .u32 1], [.int .u32 0], [(.slice (some ⟨g2, 0, none⟩) 1 1)]] [] Tryd.underlying37 rfl sz37 rfl hI rfl hA rfl rfl) rfl fun a hA => 
    o_st (j := 2) [] [[.int .u32 0], av .u8 32 (List.replicate 32 0), av .u8 32 (List.replicate 32 0), [.int .u32 0], [.int .u32 0], [.int .u32 0], [(.slice none 0 0)]] [[.int .u32 1], av .u8 32 (List.replicate 32 0), av .u8 32 r3, [.int .u32 1000], [.int .u32 1], [.int .u32 0], [(.slice (some ⟨g2, 0, none⟩) 1 1)]] [] sz37 rfl rfl (fl_cons (oneC rfl) (fl_cons (one_av _ _ _) (fl_cons (one_av _ _ _) (fl_cons (oneC rfl) (fl_cons (oneC rfl) (fl_cons (oneC rfl) (fl_cons (oneC (own_one hI (j := 1) rfl)) fl_nil))))))) hI rfl hA rfl rfl rfl rfl fun w hI => ?_
  refine o_nil <| hN4 _ _ <| w_ret ?_
  obtain ⟨μ3, hle2, hsv2, hI⟩ := hI.freezeRow 1 rfl
  have hS2 : Slc (RTx μ3) 4 μ3 (.slice (some ⟨g2, 0, none⟩) 1 1) ([r2] : List Tx) := ⟨_, (Els.mono hE1 (fun _ _ h => RTx.le hle2 h)), hsv2⟩
  obtain rfl := sJ H
  exact retc Tryd.underlying37 rfl sz37 rfl hI (j := 1) rfl hA Tryd.results12 rfl ⟨_, rfl, (.slice (some ⟨g2, 0, none⟩) 1 1), μ3, rfl, ⟨(in_lit .u32 1 rfl), (arr_zero _ _), hz3, (in_lit .u32 1000 rfl), (in_lit .u32 1 rfl), (in_lit .u32 0 rfl), hS2⟩, (hI.sl [] rfl)⟩
end Go.Proofs.YtkfpmcplfodikaaDoor.T
namespace Go.Proofs.YtkfpmcplfodikaaDoor.T
open Go Go.Proofs Go.Proofs.YtkfpmcplfodikaaDoor.K
set_option linter.unusedVariables false
set_option linter.unusedSimpArgs false
noncomputable def sargassolaw7_first.f : Option Bool := ((((block_Start.f).bind fun r1 => ((block_Check.f r1).bind fun r2 => (if r2 = (Er.b 0) then ((block_Start.f).bind fun r3 => ((block_IDs.f r3).bind fun r4 => some (decide ((r4.length : Int) = 1)))) else some false)))).bind fun c1 => some c1)
end Go.Proofs.YtkfpmcplfodikaaDoor.T
namespace Go.Proofs.YtkfpmcplfodikaaDoor.T
open Go Go.Proofs Go.Proofs.YtkfpmcplfodikaaDoor.K
set_option linter.unusedVariables false
set_option linter.unusedSimpArgs false
set_option maxRecDepth 20000 in
theorem sargassolaw7_first.c (μ : Store) (w0 : World) (hμ : Agr μ w0) (e0 : Value) (he0 : ErS μ e0 (Er.b 1)) (e1 : Value) (he1 : ErS μ e1 (Er.b 2)) (e2 : Value) (he2 : ErS μ e2 (Er.b 3)) (e3 : Value) (he3 : ErS μ e3 (Er.b 4)) (e4 : Value) (he4 : ErS μ e4 (Er.b 5)) (e5 : Value) (he5 : ErS μ e5 (Er.b 6)) (e6 : Value) (he6 : ErS μ e6 (Er.b 7)) (e7 : Value) (he7 : ErS μ e7 (Er.b 8)) (r : Bool) (H : sargassolaw7_first.f = some r) :
    Calls Tryd.prog 4 [].toArray w0 (fun e w' => ∃ v, e = .returned v ∧ v = .bool r ∧ True ∧ Iv w0 [] μ μ [] w') := by
  refine enter Tryd.func4 rfl Tryd.ntmps4 rfl fun a hA => ?_
  have hI := Iv.start hμ
  have H := bI H
  refine w_seq fun _ hN1 => w_reg <| sta hA rfl rfl fun a hA => ?_
  refine o_nil <| hN1 _ _ ?_
  obtain ⟨c1, hz1, Hk1⟩ := bB H
  refine w_cut (fun a w => ∃ (μ1 : Store), μ.le μ1 ∧ Fr a 10 [(0, .bool c1)] ∧ Iv w0 [] μ μ1 [] w) ?_ ?_
  · have H := bI hz1
    refine w_reg ?_
    obtain ⟨r1, hr1, H⟩ := bB H
    refine o_call _ cf12 hA rfl (block_Start.c μ _ hI.agr  r1 hr1) rfl fun v1 a w hz2 hA => ?_
    obtain ⟨v2, μ2, rfl, hw1, hi1⟩ := hz2
    have hI := hI.call hi1
    obtain ⟨r2, hr2, H⟩ := bB H
    refine o_call _ cf8 hA rfl (block_Check.c μ2 _ hI.agr r1 v2 ⟨hw1.1, hw1.2.1, hw1.2.2.1, hw1.2.2.2.1, hw1.2.2.2.2.1, hw1.2.2.2.2.2.1, hw1.2.2.2.2.2.2⟩ e0 (ErV.le (fun _ _ h => h) hi1.le he0) e1 (ErV.le (fun _ _ h => h) hi1.le he1) e2 (ErV.le (fun _ _ h => h) hi1.le he2) e3 (ErV.le (fun _ _ h => h) hi1.le he3) e4 (ErV.le (fun _ _ h => h) hi1.le he4) e5 (ErV.le (fun _ _ h => h) hi1.le he5) e6 (ErV.le (fun _ _ h => h) hi1.le he6) e7 (ErV.le (fun _ _ h => h) hi1.le he7) r2 hr2) rfl fun v3 a w hz3 hA => ?_
    obtain ⟨_, μ3, rfl, hS1, hi2⟩ := hz3
    have hI := hI.call hi2
    refine stp hA (r_eqE erF hI.agr hS1 erv_nil (.inl ⟨.inr ⟨_, rfl⟩, Er.fitR⟩) hA rfl rfl) rfl fun a hA => 
      stm hA rfl rfl fun a hA => ?_
    rcases Bool.eq_false_or_eq_true (decide (r2 = (Er.b 0))) with hc1 | hc1
    · have hc10 := hc1; obtain ⟨hc1, H⟩ := dT H hc1
      refine o_yes hA rfl rfl hc10 <| ?_
      obtain ⟨r3, hr3, H⟩ := bB H
      refine o_call _ cf12 hA rfl (block_Start.c μ3 _ hI.agr  r3 hr3) rfl fun v4 a w hz4 hA => ?_
      obtain ⟨v5, μ4, rfl, hw2, hi3⟩ := hz4
      have hI := hI.call hi3
      refine o_yes hA rfl rfl hc10 <| ?_
      obtain ⟨r4, hr4, H⟩ := bB H
      refine o_call _ cf13 hA rfl (block_IDs.c μ4 _ hI.agr r3 v5 ⟨hw2.1, hw2.2.1, hw2.2.2.1, hw2.2.2.2.1, hw2.2.2.2.2.1, hw2.2.2.2.2.2.1, hw2.2.2.2.2.2.2⟩ r4 hr4) rfl fun v6 a w hz5 hA => ?_
      obtain ⟨_, cs1, rfl, hE1, hi4⟩ := hz5
      have hI := hI.call hi4
      refine o_yes hA rfl rfl hc10 <| ?_
      have hlen1 := Iv.row_in hI (j := 0) rfl
      refine stp hA (r_rlen (xs := 0) Tryd.underlying56 hI (j := 0) rfl hA rfl) rfl fun a hA => 
        o_yes hA rfl rfl hc10 <| 
        stp hA (r_eql hA rfl rfl) rfl fun a hA => 
        stp hA (r_pick_t hA rfl hc10 rfl) rfl fun a hA => 
        sta hA rfl rfl fun a hA => ?_
      refine o_nil ?_
      cases sJ H
      exact ⟨μ4, ((hi1.le.trans hi2.le).trans hi3.le), hA.sub ⟨rfl, trivial⟩, (hI.sl [] rfl)⟩
    · have hc10 := hc1; obtain ⟨hc1, H⟩ := dF H hc1
      refine o_no hA rfl rfl (by rw [hc10]; simp [vb]) rfl fun a hA => 
        o_no hA rfl rfl (by rw [hc10]; simp [vb]) rfl fun a hA => 
        o_no hA rfl rfl (by rw [hc10]; simp [vb]) rfl fun a hA => 
        o_no hA rfl rfl (by rw [hc10]; simp [vb]) rfl fun a hA => 
        stp hA (r_pick_f hA rfl hc10 rfl) rfl fun a hA => 
        sta hA rfl rfl fun a hA => ?_
      refine o_nil ?_
      cases sJ H
      exact ⟨μ3, (hi1.le.trans hi2.le), hA.sub ⟨rfl, trivial⟩, hI⟩
  · rintro a w ⟨μ1, hle1, hA, hI⟩
    have H := Hk1
    refine w_ret ?_
    obtain rfl := sJ H
    exact ret1 hA Tryd.results4 rfl ⟨_, rfl, rfl, trivial, hI.forget0⟩
end Go.Proofs.YtkfpmcplfodikaaDoor.T
namespace Go.Proofs.YtkfpmcplfodikaaDoor.T
open Go Go.Proofs Go.Proofs.YtkfpmcplfodikaaDoor.K
set_option linter.unusedVariables false
set_option linter.unusedSimpArgs false
noncomputable def sargassolaw7_BlockKinds.s0 (r2 : Int) : (Int × (List Tx)) → Option ((Int × (List Tx)) ⊕ (List Tx)) := fun (s1, s2) => (if s1 < (IntKind.i64.wrap (r2 + 2)) then (if s2.length + 1 ≤ 2199023255552 then some (.inl (IntKind.i64.wrap (s1 + 1), s2 ++ ([(⟨IntKind.u32.wrap s1, ([(⟨(⟨[1, 0, 0, 0, 0, 0, 0, 0, 0, 0, 0, 0, 0, 0, 0, 0, 0, 0, 0, 0, 0, 0, 0, 0, 0, 0, 0, 0, 0, 0, 0, 0], IntKind.u32.wrap s1⟩ : Point), ([] : List Int), 0⟩ : In)] : List In), ([(⟨0, (List.replicate 32 0)⟩ : Out)] : List Out), 0⟩ : Tx)] : List Tx))) else none) else some (.inr s2))
noncomputable def sargassolaw7_BlockKinds.f (x0 : Int) (x1 : Int) (x2 : Int) : Option Bool := ((sargassolaw7_first.f).bind fun r1 => (if r1 = true then ((sargassoworld_Number.f x0 9).bind fun r2 => ((sargassoworld_Number.f x1 (IntKind.i64.wrap (r2 + 2))).bind fun r3 => ((sargassoref1_First.f 3 5 ([0, 0, 0, 0, 0, 0, 0, 0, 0, 0, 0, 0, 0, 0, 0, 0, 0, 0, 0, 0, 0, 0, 0, 0, 0, 0, 0, 0, 0, 0, 0, 0]) ([])).bind fun r4 => ((loopO (sargassolaw7_BlockKinds.s0 r2) (1, ([r4] : List Tx))).bind fun c1 => ((((sargassoworld_Number.f x2 4).bind fun r5 => (if r5 = 0 then (if 0 ≤ r3 ∧ r3 < (c1.length : Int) then some (104, true, c1.set r3.toNat (⟨(c1.getD r3.toNat default).Version, (c1.getD r3.toNat default).Ins, [], (c1.getD r3.toNat default).Time⟩ : Tx)) else none) else (if r5 = 1 then (((if 0 < r3 then ((sargassoref1_First.f r3 1 ([0, 0, 0, 0, 0, 0, 0, 0, 0, 0, 0, 0, 0, 0, 0, 0, 0, 0, 0, 0, 0, 0, 0, 0, 0, 0, 0, 0, 0, 0, 0, 0]) ([])).bind fun r6 => (if 0 ≤ r3 ∧ r3 < (c1.length : Int) then some (c1.set r3.toNat r6) else none)) else (if 0 < (c1.length : Int) then some (c1.set (0 : Int).toNat (⟨0, ([(⟨(⟨(List.replicate 32 0), 77⟩ : Point), ([] : List Int), 0⟩ : In)] : List In), ([(⟨0, (List.replicate 32 0)⟩ : Out)] : List Out), 0⟩ : Tx)) else none))).bind fun c5 => some (107, true, c5)) else (if r5 = 2 then (if 0 < r3 then (if 0 ≤ r3 ∧ r3 < (c1.length : Int) then some (106, true, c1.set r3.toNat (⟨(c1.getD r3.toNat default).Version, (c1.getD r3.toNat default).Ins ++ ([((c1.getD r3.toNat default).Ins.getD (0 : Int).toNat default)] : List In), (c1.getD r3.toNat default).Outs, (c1.getD r3.toNat default).Time⟩ : Tx)) else none) else some (0, true, c1)) else (if 1 < r3 then (if 0 ≤ r3 ∧ r3 < (c1.length : Int) then some (106, false, c1.set r3.toNat (⟨(c1.getD r3.toNat default).Version, (c1.getD r3.toNat default).Ins.set (0 : Int).toNat (⟨(⟨((c1.getD r3.toNat default).Ins.getD (0 : Int).toNat default).From.Tx, 1⟩ : Point), ((c1.getD r3.toNat default).Ins.getD (0 : Int).toNat default).Key, ((c1.getD r3.toNat default).Ins.getD (0 : Int).toNat default).Seq⟩ : In), (c1.getD r3.toNat default).Outs, (c1.getD r3.toNat default).Time⟩ : Tx)) else none) else some (0, false, c1))))))).bind fun (c2, c3, c4) => ((block_Root.f (⟨(⟨0, (List.replicate 32 0), (List.replicate 32 0), 0, 1, 0⟩ : Head), c4⟩ : Block)).bind fun r7 => ((block_Check.f (⟨(⟨0, (List.replicate 32 0), r7, 0, 1, 0⟩ : Head), c4⟩ : Block)).bind fun r8 => (if c2 = 0 then (((if r1 = true then some (decide (r8 = (Er.b 0))) else some false)).bind fun c6 => some c6) else (((if r1 = true then (if c3 = true then ((sargassoref_Placed.f c2 r3).bind fun r9 => ((sargassosee_Same.f r8 r9).bind fun r10 => (if r10 = true then some true else (if c3 = true then some false else ((sargassosee_Is.f r8 c2).bind fun r11 => some r11))))) else (if c3 = true then some false else ((sargassosee_Is.f r8 c2).bind fun r12 => some r12))) else some false)).bind fun c7 => some c7))))))))) else some false))
end Go.Proofs.YtkfpmcplfodikaaDoor.T
namespace Go.Proofs.YtkfpmcplfodikaaDoor.K
open Go
set_option linter.unusedVariables false
section
variable {W0 : World} {md : List Nat} {μ0 μ ν ν' : Store} {its : List It} {w : World} {v : Value} {e sz m : Nat} {cs : List Value} {tp ta : TypeId} {code : ByteArray → Nat} {x : Er} {u : Value}
theorem ErV.thaw {l : List (Er × Value)} (hle : μ.le ν) (hle' : μ.le ν') (hk : ∀ k o, ν k = some o → ν' k = some o ∨ v.ownBlock = some k) (hS : SlV ν v m cs) (h : ErV tp ta code ν x u) (hl : ∀ p ∈ l, ErV tp ta code μ p.1 p.2 ∧ p.1.isP = false)
    (hx : x ∈ l.map (·.1) ∨ ((x.isP = true ∧ x.err ∈ l.map (·.1)) ∧ m ≠ 0 ∧ ∃ z, cs[0]? = some z ∧ ∀ p, z ≠ .int .i64 p)) (h0 : v.ownBlock = none ∨ so v = 0) : ErV tp ta code ν' x u := by
  rcases hx with hx | ⟨⟨h1, h2⟩, hm, z, hz, hp⟩
  · exact (ErV.low hle h hx hl).le (fun _ _ h => h) hle'
  · cases x with
    | b n => cases h1
    | pl p y =>
      obtain ⟨g, u', rfl, hA, hr, he⟩ := h
      refine ⟨g, u', rfl, fun j c hc => ?_, hr, (ErV.low hle he h2 hl).le (fun _ _ h => h) hle'⟩
      have h3 := hA j c hc
      have hg : v.ownBlock ≠ some g := fun e => by
        obtain ⟨A, cp, e1, _, _, e4, e5⟩ := hS
        have e6 := e5 hm 0 z hz
        have e7 := e4 hm
        subst e7
        rw [e1] at e
        have : g = sb v := by simpa [Value.ownBlock] using e.symm
        have ho : so v = 0 := by
          rcases h0 with h0 | h0
          · rw [e1] at h0; simp [Value.ownBlock] at h0
          · exact h0
        rw [ho, ← this] at e6
        have e8 := hA 0 (.int .i64 p) rfl
        rw [e6] at e8
        exact hp p (Option.some.inj e8)
      unfold Store.cell at h3 ⊢
      cases hm' : ν g with
      | none => simp [hm'] at h3
      | some o =>
        rcases hk g o hm' with h4 | h4
        · rw [h4]; rw [hm'] at h3; exact h3
        · exact absurd h4 hg
end
end Go.Proofs.YtkfpmcplfodikaaDoor.K
namespace Go.Proofs.YtkfpmcplfodikaaDoor.K
open Go
set_option linter.unusedVariables false
set_option linter.unusedSimpArgs false
def hole (μ : Store) (q : Option Nat) : Store := fun k => if q = some k then none else μ k
section
variable {W0 : World} {md : List Nat} {μ0 μ ν ν' : Store} {its : List It} {w : World} {v : Value} {e sz m n N : Nat} {cs : List Value} {q : Option Nat}
theorem hole_some {k : Nat} {o : Obj} (h : hole μ q k = some o) : μ k = some o ∧ q ≠ some k := by
  unfold hole at h
  split at h
  · cases h
  · exact ⟨h, by assumption⟩
theorem hole_at {k : Nat} (h : q ≠ some k) : hole μ q k = μ k := by unfold hole; rw [if_neg h]
theorem hole_le : (hole μ q).le μ := fun _ _ h => (hole_some h).1
theorem le_hole (h : μ.le ν) (hg : ∀ g, q = some g → μ g = none) : μ.le (hole ν q) := fun k o e => by
  rw [hole_at fun e' => ?_]
  · exact h k o e
  · rw [hg k e'] at e; cases e
theorem le_none {g : Nat} (h : μ.le ν) (hn : ν g = none) : μ g = none := by
  cases hm : μ g with
  | none => rfl
  | some o => rw [h g o hm] at hn; cases hn
theorem hole_mono (h : μ.le ν) : (hole μ q).le (hole ν q) := fun k o e => by
  obtain ⟨h1, h2⟩ := hole_some e
  rw [hole_at h2]; exact h k o h1
theorem SlV.hole (h : SlV μ v n cs) (hne : n ≠ 0 → q ≠ some (sb v)) : SlV (K.hole μ q) v n cs := by
  obtain ⟨A, cp, h1, h2, h3, h4, h5⟩ := h
  refine ⟨A, cp, h1, h2, h3, h4, fun hn j u hu => ?_⟩
  have := h5 hn j u hu
  unfold Store.cell at this ⊢
  rw [hole_at (hne hn)]
  exact this
structure Was (N : Nat) (μ : Store) (e sz : Nat) (v : Value) (n : Nat) (cs : List Value) : Prop where
  low : ∀ g, v.ownBlock = some g → N ≤ g ∧ μ g ≠ none
  own : ∀ w : World, (∀ g, v.ownBlock = some g → w.heap[g]? = μ g) → w.ownsRow 0 e sz v n cs
theorem Was.le (h : Was N μ e sz v n cs) (hl : μ.le ν) : Was N ν e sz v n cs := by
  have hs : ∀ g, v.ownBlock = some g → ν g = μ g := fun g hg => by
    cases hm : μ g with
    | none => exact absurd hm (h.low g hg).2
    | some o => exact hl g o hm
  exact ⟨fun g hg => ⟨(h.low g hg).1, by rw [hs g hg]; exact (h.low g hg).2⟩, fun w hw => h.own w fun g hg => (hw g hg).trans (hs g hg)⟩
theorem Was.hole (h : Was N μ e sz v n cs) (hq : ∀ g, v.ownBlock = some g → q ≠ some g) : Was N (K.hole μ q) e sz v n cs :=
  ⟨fun g hg => ⟨(h.low g hg).1, by rw [hole_at (hq g hg)]; exact (h.low g hg).2⟩, fun w hw => h.own w fun g hg => (hw g hg).trans (hole_at (hq g hg))⟩
theorem Iv.freezeRowW (hI : Iv W0 [] μ0 μ its w) (j : Nat) (hj : its[j]? = some (row e sz v m cs)) : ∃ μ', μ.le μ' ∧ SlV μ' v m cs ∧ Iv W0 [] μ0 μ' (its.eraseIdx j) w ∧ Was W0.heap.size μ' e sz v m cs ∧ ∀ g, v.ownBlock = some g → μ g = none := by
  have hown := hI.row_ok hj
  have hmem := List.mem_of_getElem? hj
  have hfo : ∀ k, k ∈ (row e sz v m cs).foot ↔ v.ownBlock = some k := fun k => by simp [row]
  obtain ⟨hok, hft⟩ := hI.own _ hmem
  rcases hown.2 with ⟨rfl, rfl⟩ | ⟨g, cap, cur, rfl, hbg, hg, hnc, hcm, hcs, htake⟩
  · exact ⟨μ, Store.le.refl _, ⟨none, 0, rfl, Nat.le_refl _, by simp [maxLen], fun h => absurd rfl h, fun h => absurd rfl h⟩, hI.drop (List.eraseIdx_sublist its j), ⟨by simp [Value.ownBlock], fun w' _ => (row e sz _ _ cs).loc w w' (by simp [row, Value.ownBlock]) hok⟩, by simp [Value.ownBlock]⟩
  · obtain ⟨μ', h1, h2, h3⟩ := hI.freeze j hj (g := g) (by simp [row, Value.ownBlock]) hg
    have hgf := hft g ((hfo g).2 (by simp [Value.ownBlock]))
    refine ⟨μ', h1, ⟨_, _, rfl, hnc, hcm, fun _ => rfl, fun _ i u hu => ?_⟩, h3, ⟨fun g' hg' => ?_, fun w' hw' => (row e sz _ _ cs).loc w w' (fun g' hg' => ?_) hok⟩, fun g' hg' => ?_⟩
    · simp only [sb, so, Nat.zero_add, Store.cell, h2]
      rw [← htake, List.getElem?_take] at hu
      split at hu
      · simpa using hu
      · cases hu
    · have : g' = g := by simpa [Value.ownBlock] using hg'.symm
      subst this
      exact ⟨by simpa using hgf.2.2, by rw [h2]; simp⟩
    · have : g' = g := by simpa [row, Value.ownBlock] using hg'
      subst this
      rw [hw' g' (by simp [Value.ownBlock]), h2]; exact hg.symm
    · have : g' = g := by simpa [Value.ownBlock] using hg'.symm
      subst this
      exact hgf.2.1
theorem Iv.thawW (h : Iv W0 [] μ0 μ its w) (hW : Was N μ e sz v m cs) (h0 : ∀ g, N ≤ g → μ0 g = none) (hN : W0.heap.size ≤ N) : Iv W0 [] μ0 (hole μ v.ownBlock) (row e sz v m cs :: its) w := by
  have hfo : ∀ k, k ∈ (row e sz v m cs).foot ↔ v.ownBlock = some k := fun k => by simp [row]
  refine ⟨h.os, h.tape, h.out, h.size, h.frame, le_hole h.le (fun g hg => h0 g (hW.low g hg).1), fun k o e => h.agr k o (hole_le k o e), fun k o e => h.fresh k o (hole_le k o e), ?_, fun i hi => ?_⟩
  · rw [List.flatMap_cons, List.nodup_append]
    refine ⟨by simp only [row]; cases v.ownBlock <;> simp, h.nodup, fun g hg g' hg' e => ?_⟩
    subst e
    obtain ⟨i, hi, hgi⟩ := List.mem_flatMap.1 hg'
    exact (hW.low g ((hfo g).1 hg)).2 ((h.own i hi).2 g hgi).2.1
  · rcases List.mem_cons.1 hi with rfl | hi
    · refine ⟨hW.own w (fun g hg => ?_), fun g hg => ?_⟩
      · cases hm : μ g with
        | none => exact absurd hm (hW.low g hg).2
        | some o => exact h.agr g o hm
      have hg' := (hfo g).1 hg
      obtain ⟨a, b⟩ := hW.low g hg'
      refine ⟨?_, by unfold hole; rw [if_pos hg'], .inl (Nat.le_trans hN a)⟩
      cases hm : μ g with
      | none => exact absurd hm b
      | some o => exact (Array.getElem?_eq_some_iff.1 (h.agr g o hm)).1
    · obtain ⟨a, b⟩ := h.own i hi
      refine ⟨a, fun g hg => ?_⟩
      obtain ⟨b1, b2, b3⟩ := b g hg
      refine ⟨b1, ?_, b3⟩
      unfold hole
      split
      · rfl
      · exact b2
end
section
variable {P : Program} {Q : Exit → AW} {ops : Array Oper} {rest : List Oper} {W0 : World} {md : List Nat} {μ0 μ : Store} {its : List It} {w : World} {ds : List Deferred} {a : Act} {n : Nat} {L : List (Nat × Value)} {d : Nat} {ty t e : TypeId} {pos : String} {aft : Array Edge} {x y : Operand} {vx : Value} {sz by_ mx m bl bo : Nat} {olds news : List Value}
theorem o_appN (hte : TyE P e sz by_) (ht : P.underlying t = some (.slice e)) (hI : Iv W0 md μ0 μ its w) (hA : FrG ds a n L) (hx : ov L x = some (.slice (some ⟨bl, bo, none⟩) m m)) (hat : At μ bl bo olds) (hlo : olds.length = m * sz) (hy : ov L y = some vx)
    (hf : ∃ A cp, vx = .slice A mx cp ∧ (mx ≠ 0 → ∃ ad, A = some ad ∧ ∀ j u, news[j]? = some u → w.cell? (ad.add j) = some u)) (h0 : 0 < mx) (hl : news.length = mx * sz)
    (h63 : m + mx ≤ maxLen) (hb : (m + mx) * by_ ≤ 140737488355328) (hd : Nat.ble (d + 1) n = true)
    (k : ∀ v' a w, FrG ds a n ((d, v') :: L) → Iv W0 md μ0 μ (row e sz v' (m + mx) (olds ++ news) :: its) w → wpList P ops Q rest a w) :
    wpList P ops Q (⟨some d, .call { callee := .builtin .append, args := #[x, y], argTypes := #[t, t] }, ty, pos, aft, none⟩ :: rest) a w := by
  obtain ⟨i, z, hi, hz, hsize, hzs, hby⟩ := hte
  obtain ⟨A, cp, rfl, hA2⟩ := hf
  obtain ⟨ad, rfl, hnews⟩ := hA2 (by omega)
  subst hsize
  subst hby
  have hlen : (olds ++ news).length = (m + mx) * i.size := by rw [List.length_append, hlo, hl, Nat.add_mul]
  have holds : ∀ j u, olds[j]? = some u → w.cell? ((⟨bl, bo, none⟩ : Addr).add j) = some u := fun j u hu => by rw [add_eq]; exact hI.agr.cell (hat j u hu)
  have hr := run_append_grow (P := P) w t ty e i z ht hi hz ⟨bl, bo, none⟩ m m olds hlo holds ad mx cp news hl hnews (by omega) (by simp only [maxLen] at h63; omega) (growslice_fits (by omega) hb)
  have hge := grownCap_ge w (m + mx) m e
  have hcm : grownCap w (m + mx) m e ≤ maxLen := grownCap_le_maxLen w (m + mx) m e h63
  have hI2 := hI.drew1.alloc (.cells (olds.toArray ++ news.toArray ++ Builtin.zeroCells z.cells (grownCap w (m + mx) m e - (m + mx))) e) (row e i.size (.slice (some ⟨w.heap.size, 0, none⟩) (m + mx) (grownCap w (m + mx) m e)) (m + mx) (olds ++ news)) rfl ⟨hlen, .inr ⟨w.heap.size, _, _, rfl, Nat.zero_le _, heap_alloc_new w.drew _, hge, hcm, by
    simp only [Array.size_append, List.size_toArray, size_zeroCells, hzs, hlo, hl, ← Nat.add_mul]
    congr 1
    omega, by
    simp only [Array.toList_append, List.append_assoc]
    rw [← List.append_assoc, ← hlen]
    exact List.take_left⟩⟩
  refine wpl_val (v := _) (w' := _) ?_ (k _ _ _ (hA.put hd _) hI2)
  simp only [execOp, resolve, invoke, builtin, Sem.run_bind, Sem.run_pure, Result.andThen_ok, List.map_toArray, List.map_cons, List.map_nil, hA.ev hx, hA.ev hy, hr]
  rfl
end
end Go.Proofs.YtkfpmcplfodikaaDoor.K
namespace Go.Proofs.YtkfpmcplfodikaaDoor.T
open Go Go.Proofs Go.Proofs.YtkfpmcplfodikaaDoor.K
set_option linter.unusedVariables false
set_option linter.unusedSimpArgs false
theorem hole_none_le {μ : Store} : μ.le (hole μ none) := fun k o e => by rw [hole_at (by simp)]; exact e
structure OneT (N : Nat) (μ : Store) (q : Option Nat) (X : Tx) (c : List Value) (g : Nat) (cI : List Value) (vO : Value) : Prop where
  q_eq : q = some g
  cells : c = [[.int .u32 X.Version], [.slice (some ⟨g, 0, none⟩) 1 1], [vO], [.int .u32 X.Time]].flatten
  ver : InR .u32 X.Version
  time : InR .u32 X.Time
  one : X.Ins.length = 1
  ins : Els (RIn (hole μ q)) 35 X.Ins cI
  outs : Slc (ROut (hole μ q)) 33 (hole μ q) vO X.Outs
  was : Was N μ 42 35 (.slice (some ⟨g, 0, none⟩) 1 1) 1 cI
structure OwnT (N : Nat) (μ : Store) (m : Nat) (l : List Tx) (cc : List Value) : Prop where
  ex : 1 ≤ m → ∃ q, (∀ g, q = some g → N ≤ g ∧ μ g ≠ none) ∧ Els (RTx (hole μ q)) 4 (l.take m) (cc.take (m * 4)) ∧ Els (RTx (hole μ q)) 4 (l.drop (m + 1)) (cc.drop ((m + 1) * 4)) ∧ (l.length ≤ m → q = none) ∧
    (∀ X, l[m]? = some X → ∃ g cI vO, OneT N μ q X ((cc.drop (m * 4)).take 4) g cI vO)
theorem OwnT.start {N : Nat} {μ : Store} {m : Nat} {r : Tx} {cc : List Value} (h : Els (RTx μ) 4 [r] cc) : OwnT N μ m [r] cc := by
  refine ⟨fun hm => ⟨none, by simp, ?_, ?_, fun _ => rfl, fun X hX => ?_⟩⟩
  · exact (h.take m).mono fun x c hr => RTx.le hole_none_le hr
  · exact (h.drop (m + 1)).mono fun x c hr => RTx.le hole_none_le hr
  · rw [List.getElem?_eq_none (by simpa using hm)] at hX; cases hX
theorem SlV.hole_row {μ : Store} {q : Option Nat} {g n cp : Nat} {cs : List Value} (h : SlV μ (.slice (some ⟨g, 0, none⟩) n cp) n cs) (hq : q ≠ some g) : SlV (hole μ q) (.slice (some ⟨g, 0, none⟩) n cp) n cs := SlV.hole h fun _ => hq
theorem OwnT.step {N : Nat} {μ μa μb : Store} {m : Nat} {l : List Tx} {cc : List Value} (h : OwnT N μ m l cc) (hE : Els (RTx μ) 4 l cc) (hla : μ.le μa) (hlb : μa.le μb) {Y : Tx} {g g' : Nat} {cI cO c4 : List Value} (hW : Was N μa 42 35 (.slice (some ⟨g, 0, none⟩) 1 1) 1 cI) (hg : μ g = none) (hg' : μa g' = none)
    (hv : InR .u32 Y.Version) (ht : InR .u32 Y.Time) (h1 : Y.Ins.length = 1) (h2 : Y.Outs.length = 1) (hI : ∀ ν, Els (RIn ν) 35 Y.Ins cI) (hO : Els (ROut μ) 33 Y.Outs cO) (sI : SlV μa (.slice (some ⟨g, 0, none⟩) 1 1) 1 cI) (sO : SlV μb (.slice (some ⟨g', 0, none⟩) 1 1) 1 cO)
    (hc : c4 = [[.int .u32 Y.Version], [.slice (some ⟨g, 0, none⟩) 1 1], [.slice (some ⟨g', 0, none⟩) 1 1], [.int .u32 Y.Time]].flatten) : OwnT N μb m (l ++ [Y]) (cc ++ c4) := by
  have hab := hla.trans hlb
  have hga : μa g ≠ none := (hW.low g rfl).2
  have hgg : g ≠ g' := fun e => hga (e ▸ hg')
  have hmg : ∀ q : Option Nat, (∀ k, q = some k → μ k ≠ none) → q ≠ some g ∧ q ≠ some g' := fun q hq => ⟨fun e => hq g e hg, fun e => hq g' e (le_none hla hg')⟩
  -- the new one, where it is not the one
  have hY : ∀ q : Option Nat, q ≠ some g → q ≠ some g' → Els (RTx (hole μb q)) 4 [Y] c4 := fun q q1 q2 => by
    refine Els.one ⟨.slice (some ⟨g, 0, none⟩) 1 1, .slice (some ⟨g', 0, none⟩) 1 1, hc, hv, ⟨cI, hI _, ?_⟩, ⟨cO, hO.mono fun x c hr => hr, ?_⟩, ht⟩ (by rw [hc]; rfl)
    · rw [h1]; exact SlV.hole_row (sI.le hlb) q1
    · rw [h2]; exact SlV.hole_row sO q2
  have hlen := hE.len
  have hl4 : c4.length = 4 := by rw [hc]; rfl
  refine ⟨fun hm => ?_⟩
  obtain ⟨q, k1, k2, k3, k4, k5⟩ := h.ex hm
  rcases Nat.lt_trichotomy m l.length with hlt | heq | hgt
  · -- it is there already
    obtain ⟨hq1, hq2⟩ := hmg q fun k e => (k1 k e).2
    obtain ⟨X, hX⟩ : ∃ X, l[m]? = some X := ⟨_, List.getElem?_eq_getElem hlt⟩
    obtain ⟨g0, cI0, vO0, ho⟩ := k5 X hX
    have hmc : (m + 1) * 4 ≤ cc.length := by rw [hlen]; exact Nat.mul_le_mul_right _ hlt
    refine ⟨q, fun k e => ⟨(k1 k e).1, fun hn => (k1 k e).2 (le_none hab hn)⟩, ?_, ?_, fun hle => ?_, fun X' hX' => ?_⟩
    · rw [List.take_append_of_le_length (by omega), List.take_append_of_le_length (by omega)]
      exact k2.mono fun x c hr => RTx.le (hole_mono hab) hr
    · rw [List.drop_append_of_le_length (by omega), List.drop_append_of_le_length hmc]
      exact (k3.mono fun x c hr => RTx.le (hole_mono hab) hr).app (hY q hq1 hq2)
    · rw [List.length_append] at hle; simp at hle; omega
    · have : X' = X := by
        rw [List.getElem?_append_left hlt, hX] at hX'
        exact (Option.some.inj hX').symm
      subst this
      refine ⟨g0, cI0, vO0, ho.q_eq, ?_, ho.ver, ho.time, ho.one, ho.ins.mono fun x c hr => RIn.le (hole_mono hab) hr, ho.outs.le (fun x c hr => ROut.le (hole_mono hab) hr) (hole_mono hab), ho.was.le hab⟩
      rw [List.drop_append_of_le_length (by omega), List.take_append_of_le_length (by rw [List.length_drop]; omega)]
      exact ho.cells
  · -- it is the new one
    have hq0 : q = none := k4 (by omega)
    have hcm : cc.length = m * 4 := by rw [hlen, heq]
    refine ⟨some g, fun k e => ?_, ?_, ?_, fun hle => ?_, fun X' hX' => ?_⟩
    · cases e
      exact ⟨(hW.low g rfl).1, fun hn => hga (le_none hlb hn)⟩
    · rw [List.take_append_of_le_length (by omega), List.take_append_of_le_length (by omega), List.take_of_length_le (by omega), List.take_of_length_le (by omega)]
      exact hE.mono fun x c hr => RTx.le (le_hole hab fun k e => by cases e; exact hg) hr
    · rw [List.drop_of_length_le (by rw [List.length_append]; simp; omega), List.drop_of_length_le (by rw [List.length_append]; omega)]
      exact Els.nil
    · rw [List.length_append] at hle; simp at hle; omega
    · have : X' = Y := by
        rw [heq, List.getElem?_append_right (by omega)] at hX'
        simpa using hX'.symm
      subst this
      refine ⟨g, cI, .slice (some ⟨g', 0, none⟩) 1 1, rfl, ?_, hv, ht, h1, hI _, ⟨cO, hO.mono fun x c hr => hr, ?_⟩, hW.le hlb⟩
      · rw [List.drop_left' hcm, List.take_of_length_le (by omega)]
        exact hc
      · rw [h2]
        exact SlV.hole_row sO fun e => hgg (Option.some.inj e)
  · -- not yet
    have hq0 : q = none := k4 (by omega)
    subst hq0
    refine ⟨none, by simp, ?_, ?_, fun _ => rfl, fun X' hX' => ?_⟩
    · rw [List.take_of_length_le (by rw [List.length_append]; simp; omega), List.take_of_length_le (by rw [List.length_append, hlen, hl4]; omega)]
      exact (hE.mono fun x c hr => RTx.le (hab.trans hole_none_le) hr).app (hY none (by simp) (by simp))
    · rw [List.drop_of_length_le (by rw [List.length_append]; simp; omega), List.drop_of_length_le (by rw [List.length_append, hlen, hl4]; omega)]
      exact Els.nil
    · rw [List.getElem?_eq_none (by rw [List.length_append]; simp; omega)] at hX'
      cases hX'
theorem OwnT.put {μ ν : Store} {m : Nat} {l : List Tx} {cc : List Value} {q : Option Nat} (h2 : Els (RTx (hole μ q)) 4 (l.take m) (cc.take (m * 4))) (h3 : Els (RTx (hole μ q)) 4 (l.drop (m + 1)) (cc.drop ((m + 1) * 4))) (hl : (hole μ q).le ν) (hm : m < l.length) {A c c' B : List Value} (hc : cc = A ++ (c ++ B)) (hA : A.length = m * 4) (hcl : c.length = 4) {X : Tx} (hX : RTx ν X c') (hcl' : c'.length = 4) :
    Els (RTx ν) 4 (l.set m X) (A ++ (c' ++ B)) := by
  have e : l.set m X = l.take m ++ X :: l.drop (m + 1) := List.set_eq_take_append_cons_drop.trans (by rw [if_pos hm])
  rw [e]
  have ea : cc.take (m * 4) = A := by rw [hc, ← hA, List.take_left]
  have eb : cc.drop ((m + 1) * 4) = B := by
    rw [hc, ← List.append_assoc]
    exact List.drop_left' (by rw [List.length_append]; omega)
  rw [ea] at h2
  rw [eb] at h3
  exact (h2.mono fun x c hr => RTx.le hl hr).app (Els.cons hX hcl' (h3.mono fun x c hr => RTx.le hl hr))
end Go.Proofs.YtkfpmcplfodikaaDoor.T
namespace Go.Proofs.YtkfpmcplfodikaaDoor.T
open Go Go.Proofs Go.Proofs.YtkfpmcplfodikaaDoor.K
set_option linter.unusedVariables false
set_option linter.unusedSimpArgs false
set_option maxRecDepth 20000 in
theorem sargassolaw7_BlockKinds.c (μ : Store) (w0 : World) (hμ : Agr μ w0) (x0 : Int) (hx0 : InR .i64 x0) (x1 : Int) (hx1 : InR .i64 x1) (x2 : Int) (hx2 : InR .i64 x2) (hG : Gl μ) (r : Bool) (H : sargassolaw7_BlockKinds.f x0 x1 x2 = some r) :
    Calls Tryd.prog 3 [.int .i64 x0, .int .i64 x1, .int .i64 x2].toArray w0 (fun e w' => ∃ v, e = .returned v ∧ v = .bool r ∧ True ∧ Iv w0 [] μ μ [] w') := by
  refine enter Tryd.func3 rfl Tryd.ntmps3 rfl fun a hA => ?_
  have hI := Iv.start hμ
  have H := bI H
  obtain ⟨e0, he0⟩ := hG.g0
  obtain ⟨e1, he1⟩ := hG.g1
  obtain ⟨e2, he2⟩ := hG.g2
  obtain ⟨e3, he3⟩ := hG.g3
  obtain ⟨e4, he4⟩ := hG.g4
  obtain ⟨e5, he5⟩ := hG.g5
  obtain ⟨e6, he6⟩ := hG.g6
  obtain ⟨e7, he7⟩ := hG.g7
  refine w_seq fun _ hN1 => w_reg <| sta hA rfl rfl fun a hA => ?_
  refine o_nil <| hN1 _ _ <| w_seq fun _ hN2 => w_reg ?_
  obtain ⟨r1, hr1, H⟩ := bB H
  refine o_callp (u := .bool r1) cf4 hA rfl hI (sargassolaw7_first.c μ _ hI.agr e0 he0 e1 he1 e2 he2 e3 he3 e4 he4 e5 he5 e6 he6 e7 he7 r1 hr1) rfl fun a w hz1 hI hA => 
    sta hA rfl rfl fun a hA => ?_
  refine o_nil <| hN2 _ _ <| w_seq fun _ hN3 => w_seq fun _ hN4 => w_reg <| stm hA rfl rfl fun a hA => 
    stp hA (r_not hA rfl) rfl fun a hA => ?_
  refine o_nil <| hN4 _ _ <| w_cond hA rfl (fun hc1 => ?_) (fun hc1 => ?_)
  · have hc10 := hc1; have hc1 := nT hc1; have hc1 := ft hc1; have H := bF H hc1
    refine w_seq fun _ hN5 => w_reg <| sta hA rfl rfl fun a hA => ?_
    refine o_nil <| hN5 _ _ <| w_ret ?_
    obtain rfl := sJ H
    exact ret1 hA Tryd.results3 rfl ⟨_, rfl, rfl, trivial, hI.forget0⟩
  · have hc10 := hc1; have hc1 := nF hc1; have H := bT H hc1
    refine w_skip <| hN3 _ _ <| w_seq fun _ hN6 => w_reg <| stm hA rfl rfl fun a hA => ?_
    obtain ⟨r2, hr2, H⟩ := bB H
    refine o_callp (u := .int .i64 r2) cf5 hA rfl hI (sargassoworld_Number.c μ _ hI.agr x0 hx0 9 (in_lit .i64 9 rfl) r2 hr2) rfl fun a w hz2 hI hA => 
      stp hA (r_add hA rfl rfl) rfl fun a hA => 
      sta hA rfl rfl fun a hA => ?_
    refine o_nil <| hN6 _ _ <| w_seq fun _ hN7 => w_reg <| stm hA rfl rfl fun a hA => 
      stm hA rfl rfl fun a hA => ?_
    obtain ⟨r3, hr3, H⟩ := bB H
    refine o_callp (u := .int .i64 r3) cf5 hA rfl hI (sargassoworld_Number.c μ _ hI.agr x1 hx1 (IntKind.i64.wrap (r2 + 2)) (wrap_in _ _) r3 hr3) rfl fun a w hz3 hI hA => 
      sta hA rfl rfl fun a hA => ?_
    refine o_nil <| hN7 _ _ <| w_seq fun _ hN8 => w_reg <| stp hA (r_bldS (cs := [[.int .u32 0], av .u8 32 (List.replicate 32 0), av .u8 32 (List.replicate 32 0), [.int .u32 0], [.int .u32 1], [.int .u32 0]].flatten.toArray) (pl := [(0, 1), (1, 32), (33, 32), (65, 1), (66, 1), (67, 1)]) zr28 Tryd.underlying28 ⟨rfl, sz24, rfl, sz26, rfl, sz26, rfl, sz24, rfl, sz24, rfl, sz24, trivial⟩ hA rfl (by kernel_rfl)) rfl fun a hA => 
      stp hA (r_bldA (cs := [av .u8 32 ([0, 0, 0, 0, 0, 0, 0, 0, 0, 0, 0, 0, 0, 0, 0, 0, 0, 0, 0, 0, 0, 0, 0, 0, 0, 0, 0, 0, 0, 0, 0, 0])].flatten.toArray) zr26 Tryd.underlying26 sz5 hA rfl (by kernel_rfl)) rfl fun a hA => ?_
    obtain ⟨r4, hr4, H⟩ := bB H
    refine o_call _ cf6 hA rfl (sargassoref1_First.c μ _ hI.agr 3 (in_lit .i64 3 rfl) 5 (in_lit .u64 5 rfl) ([0, 0, 0, 0, 0, 0, 0, 0, 0, 0, 0, 0, 0, 0, 0, 0, 0, 0, 0, 0, 0, 0, 0, 0, 0, 0, 0, 0, 0, 0, 0, 0]) (arr_lit rfl (by simp only [List.forall_mem_cons]; exact ⟨(in_lit .u8 0 rfl), (in_lit .u8 0 rfl), (in_lit .u8 0 rfl), (in_lit .u8 0 rfl), (in_lit .u8 0 rfl), (in_lit .u8 0 rfl), (in_lit .u8 0 rfl), (in_lit .u8 0 rfl), (in_lit .u8 0 rfl), (in_lit .u8 0 rfl), (in_lit .u8 0 rfl), (in_lit .u8 0 rfl), (in_lit .u8 0 rfl), (in_lit .u8 0 rfl), (in_lit .u8 0 rfl), (in_lit .u8 0 rfl), (in_lit .u8 0 rfl), (in_lit .u8 0 rfl), (in_lit .u8 0 rfl), (in_lit .u8 0 rfl), (in_lit .u8 0 rfl), (in_lit .u8 0 rfl), (in_lit .u8 0 rfl), (in_lit .u8 0 rfl), (in_lit .u8 0 rfl), (in_lit .u8 0 rfl), (in_lit .u8 0 rfl), (in_lit .u8 0 rfl), (in_lit .u8 0 rfl), (in_lit .u8 0 rfl), (in_lit .u8 0 rfl), (in_lit .u8 0 rfl), by simp⟩)) ([]) (.slice none 0 0) (slc_nil _ _ _) r4 hr4) rfl fun v1 a w hz4 hA => ?_
    obtain ⟨v2, v3, μ1, rfl, hw1, hi1⟩ := hz4
    have hI := hI.call hi1
    have hE1 : Els (RTx μ1) 4 ([r4] : List Tx) _ := (Els.cons (c := [[.int .u32 r4.Version], [v2], [v3], [.int .u32 r4.Time]].flatten) ⟨v2, v3, rfl, ⟨hw1.1, hw1.2.1, hw1.2.2.1, hw1.2.2.2⟩⟩ rfl Els.nil)
    refine o_bsl ([[.int .u32 r4.Version], [v2], [v3], [.int .u32 r4.Time]].flatten ++ ([])) te32 zr32 Tryd.underlying35 hI hA rfl rfl rfl rfl (by kernel_rfl) rfl fun g1 a w hA hI => ?_
    generalize hcs : ([[.int .u32 r4.Version], [v2], [v3], [.int .u32 r4.Time]].flatten ++ ([]) : List Value) = cs1 at hE1 hI
    clear hcs
    refine stp hA (r_bldS (cs := [[.int .u32 0], av .u8 32 (List.replicate 32 0), av .u8 32 (List.replicate 32 0), [.int .u32 0], [.int .u32 1], [.int .u32 0], [(.slice (some ⟨g1, 0, none⟩) 1 1)]].flatten.toArray) (pl := [(0, 68), (68, 1)]) zr37 Tryd.underlying37 ⟨rfl, sz28, rfl, sz35, trivial⟩ hA rfl ((fill_seg [] [[.int .u32 0], av .u8 32 (List.replicate 32 0), av .u8 32 (List.replicate 32 0), [.int .u32 0], [.int .u32 0], [.int .u32 0]] [[.int .u32 0], av .u8 32 (List.replicate 32 0), av .u8 32 (List.replicate 32 0), [.int .u32 0], [.int .u32 1], [.int .u32 0]] [[(.slice none 0 0)]] rfl rfl rfl rfl rfl).trans ((fill_seg [[.int .u32 0], av .u8 32 (List.replicate 32 0), av .u8 32 (List.replicate 32 0), [.int .u32 0], [.int .u32 1], [.int .u32 0]] [[(.slice none 0 0)]] [[(.slice (some ⟨g1, 0, none⟩) 1 1)]] [] (own_cell hI (j := 0) rfl) rfl rfl rfl rfl).trans (rfl)))) rfl fun a hA => 
      o_new [[.int .u32 0], av .u8 32 (List.replicate 32 0), av .u8 32 (List.replicate 32 0), [.int .u32 0], [.int .u32 0], [.int .u32 0], [(.slice none 0 0)]] zr37 hI hA rfl fun g2 a w hA hI hg2 => 
      o_st (j := 0) [] [[.int .u32 0], av .u8 32 (List.replicate 32 0), av .u8 32 (List.replicate 32 0), [.int .u32 0], [.int .u32 0], [.int .u32 0], [(.slice none 0 0)]] [[.int .u32 0], av .u8 32 (List.replicate 32 0), av .u8 32 (List.replicate 32 0), [.int .u32 0], [.int .u32 1], [.int .u32 0], [(.slice (some ⟨g1, 0, none⟩) 1 1)]] [] sz37 rfl rfl (fl_cons (oneC rfl) (fl_cons (one_av _ _ _) (fl_cons (one_av _ _ _) (fl_cons (oneC rfl) (fl_cons (oneC rfl) (fl_cons (oneC rfl) (fl_cons (oneC (own_one hI (j := 1) rfl)) fl_nil))))))) hI rfl hA rfl rfl rfl rfl fun w hI => ?_
    refine o_nil <| hN8 _ _ ?_
    obtain ⟨c1, hz5, Hk1⟩ := bB H
    refine w_cut (fun a w => ∃ (μ2 : Store) (vvc1 : Value) (ccc1 : List Value), μ1.le μ2 ∧ Els (RTx μ2) 4 c1 ccc1 ∧ OwnT w0.heap.size μ2 r3.toNat c1 ccc1 ∧ Fr a 146 [(1, .int .i64 r3), (2, .int .i64 x2), (6, .bool false), (7, .bool r1), (8, .pointer (some ⟨g2, 0, none⟩))] ∧ Iv w0 [] μ μ2 [row 32 4 vvc1 c1.length ccc1, cel g2 [[.int .u32 0], av .u8 32 (List.replicate 32 0), av .u8 32 (List.replicate 32 0), [.int .u32 0], [.int .u32 1], [.int .u32 0], [vvc1]] 37] w) ?_ ?_
    · have H := bI hz5
      refine w_seq fun _ hN9 => w_reg <| sta hA rfl rfl fun a hA => ?_
      refine o_nil <| hN9 _ _ <| w_block ?_
      obtain ⟨z1, hz6, Hk2⟩ := bind_some H
      obtain ⟨n1, hn1⟩ := loopO_some hz6
      refine w_loop (fun n a w => ∃ (s1 : Int) (s2 : List Tx) (μ3 : Store) (vvs2 : Value) (ccs2 : List Value), loopN (sargassolaw7_BlockKinds.s0 r2) n (s1, s2) = some z1 ∧ μ1.le μ3 ∧ InR .i64 s1 ∧ Els (RTx μ3) 4 s2 ccs2 ∧ OwnT w0.heap.size μ3 r3.toNat s2 ccs2 ∧ Fr a 146 [(0, .int .i64 (IntKind.i64.wrap (r2 + 2))), (1, .int .i64 r3), (2, .int .i64 x2), (6, .bool false), (7, .bool r1), (8, .pointer (some ⟨g2, 0, none⟩)), (9, .int .i64 s1)] ∧ Iv w0 [] μ μ3 [cel g2 [[.int .u32 0], av .u8 32 (List.replicate 32 0), av .u8 32 (List.replicate 32 0), [.int .u32 0], [.int .u32 1], [.int .u32 0], [vvs2]] 37, row 32 4 vvs2 s2.length ccs2] w) n1 ⟨1, ([r4] : List Tx), μ1, (.slice (some ⟨g1, 0, none⟩) 1 1), cs1, hn1, (Store.le.refl _), (in_lit .i64 1 rfl), hE1, OwnT.start hE1, hA.sub ⟨rfl, rfl, rfl, rfl, rfl, rfl, rfl, trivial⟩, hI⟩ ?_
      clear hA hI
      rintro n a w ⟨s1, s2, μ3, vvs2, ccs2, hn1, hle2, ws1, ws2, hown, hA, hI⟩
      obtain ⟨m1, rfl, H⟩ := loopN_bind hn1
      clear hn1
      refine w_seq fun _ hN10 => w_seq fun _ hN11 => w_reg <| stm hA rfl rfl fun a hA => 
        stm hA rfl rfl fun a hA => 
        stp hA (r_lss hA rfl rfl) rfl fun a hA => ?_
      refine o_nil <| hN11 _ _ <| w_cond hA rfl (fun hc2 => ?_) (fun hc2 => ?_)
      · have hc20 := hc2; obtain ⟨hc2, H⟩ := dT H hc2
        refine w_skip <| hN10 _ _ <| w_seq fun _ hN12 => w_block <| w_reg <| stp hA (r_fd (k := 68) Tryd.underlying37 rfl sz35 hA rfl rfl) rfl fun a hA => 
          stp hA (r_ld1 (j := 0) [[.int .u32 0], av .u8 32 (List.replicate 32 0), av .u8 32 (List.replicate 32 0), [.int .u32 0], [.int .u32 1], [.int .u32 0]] [] Tryd.underlying35 rfl hI rfl hA rfl rfl) rfl fun a hA => 
          stm hA rfl rfl fun a hA => 
          stp hA (r_conv Tryd.underlying3 Tryd.underlying24 hA rfl) rfl fun a hA => 
          stp hA (r_bldA (cs := [av .u8 32 ([1, 0, 0, 0, 0, 0, 0, 0, 0, 0, 0, 0, 0, 0, 0, 0, 0, 0, 0, 0, 0, 0, 0, 0, 0, 0, 0, 0, 0, 0, 0, 0])].flatten.toArray) zr26 Tryd.underlying26 sz5 hA rfl (by kernel_rfl)) rfl fun a hA => 
          stm hA rfl rfl fun a hA => 
          stp hA (r_conv Tryd.underlying3 Tryd.underlying24 hA rfl) rfl fun a hA => 
          stp hA (r_bldS (cs := [av .u8 32 ([1, 0, 0, 0, 0, 0, 0, 0, 0, 0, 0, 0, 0, 0, 0, 0, 0, 0, 0, 0, 0, 0, 0, 0, 0, 0, 0, 0, 0, 0, 0, 0]), [.int .u32 (IntKind.u32.wrap s1)]].flatten.toArray) (pl := [(0, 32), (32, 1)]) zr39 Tryd.underlying39 ⟨rfl, sz26, rfl, sz24, trivial⟩ hA rfl (by kernel_rfl)) rfl fun a hA => 
          stp hA (r_bldS (cs := [av .u8 32 ([1, 0, 0, 0, 0, 0, 0, 0, 0, 0, 0, 0, 0, 0, 0, 0, 0, 0, 0, 0, 0, 0, 0, 0, 0, 0, 0, 0, 0, 0, 0, 0]), [.int .u32 (IntKind.u32.wrap s1)], [(.slice none 0 0)], [.int .u32 0]].flatten.toArray) (pl := [(0, 33), (33, 1), (34, 1)]) zr42 Tryd.underlying42 ⟨rfl, sz39, rfl, sz40, rfl, sz24, trivial⟩ hA rfl (by kernel_rfl)) rfl fun a hA => ?_
        have hE2a : ∀ ν, Els (RIn ν) 35 ([(⟨(⟨[1, 0, 0, 0, 0, 0, 0, 0, 0, 0, 0, 0, 0, 0, 0, 0, 0, 0, 0, 0, 0, 0, 0, 0, 0, 0, 0, 0, 0, 0, 0, 0], IntKind.u32.wrap s1⟩ : Point), ([] : List Int), 0⟩ : In)] : List In) ([av .u8 32 ([1, 0, 0, 0, 0, 0, 0, 0, 0, 0, 0, 0, 0, 0, 0, 0, 0, 0, 0, 0, 0, 0, 0, 0, 0, 0, 0, 0, 0, 0, 0, 0]), [.int .u32 (IntKind.u32.wrap s1)], [(.slice none 0 0)], [.int .u32 0]].flatten ++ ([])) := fun ν => (Els.cons (c := [av .u8 32 ([1, 0, 0, 0, 0, 0, 0, 0, 0, 0, 0, 0, 0, 0, 0, 0, 0, 0, 0, 0, 0, 0, 0, 0, 0, 0, 0, 0, 0, 0, 0, 0]), [.int .u32 (IntKind.u32.wrap s1)], [(.slice none 0 0)], [.int .u32 0]].flatten) ⟨(.slice none 0 0), rfl, ⟨(arr_lit rfl (by simp only [List.forall_mem_cons]; exact ⟨(in_lit .u8 1 rfl), (in_lit .u8 0 rfl), (in_lit .u8 0 rfl), (in_lit .u8 0 rfl), (in_lit .u8 0 rfl), (in_lit .u8 0 rfl), (in_lit .u8 0 rfl), (in_lit .u8 0 rfl), (in_lit .u8 0 rfl), (in_lit .u8 0 rfl), (in_lit .u8 0 rfl), (in_lit .u8 0 rfl), (in_lit .u8 0 rfl), (in_lit .u8 0 rfl), (in_lit .u8 0 rfl), (in_lit .u8 0 rfl), (in_lit .u8 0 rfl), (in_lit .u8 0 rfl), (in_lit .u8 0 rfl), (in_lit .u8 0 rfl), (in_lit .u8 0 rfl), (in_lit .u8 0 rfl), (in_lit .u8 0 rfl), (in_lit .u8 0 rfl), (in_lit .u8 0 rfl), (in_lit .u8 0 rfl), (in_lit .u8 0 rfl), (in_lit .u8 0 rfl), (in_lit .u8 0 rfl), (in_lit .u8 0 rfl), (in_lit .u8 0 rfl), (in_lit .u8 0 rfl), by simp⟩)), (wrap_in _ _), (slc_nil _ _ _), (in_lit .u32 0 rfl)⟩⟩ rfl Els.nil)
        have hE2 := hE2a μ3
        refine o_bsl ([av .u8 32 ([1, 0, 0, 0, 0, 0, 0, 0, 0, 0, 0, 0, 0, 0, 0, 0, 0, 0, 0, 0, 0, 0, 0, 0, 0, 0, 0, 0, 0, 0, 0, 0]), [.int .u32 (IntKind.u32.wrap s1)], [(.slice none 0 0)], [.int .u32 0]].flatten ++ ([])) te42 zr42 Tryd.underlying29 hI hA rfl rfl rfl rfl (by kernel_rfl) rfl fun g3 a w hA hI => ?_
        generalize hcs : ([av .u8 32 ([1, 0, 0, 0, 0, 0, 0, 0, 0, 0, 0, 0, 0, 0, 0, 0, 0, 0, 0, 0, 0, 0, 0, 0, 0, 0, 0, 0, 0, 0, 0, 0]), [.int .u32 (IntKind.u32.wrap s1)], [(.slice none 0 0)], [.int .u32 0]].flatten ++ ([]) : List Value) = cs2 at hE2a hE2 hI
        clear hcs
        refine stp hA (r_bldS (cs := [[.int .u64 0], av .u8 32 (List.replicate 32 0)].flatten.toArray) (pl := [(0, 1), (1, 32)]) zr44 Tryd.underlying44 ⟨rfl, sz34, rfl, sz26, trivial⟩ hA rfl (by kernel_rfl)) rfl fun a hA => ?_
        have hE3 : Els (ROut μ3) 33 ([(⟨0, (List.replicate 32 0)⟩ : Out)] : List Out) _ := (Els.cons (c := [[.int .u64 0], av .u8 32 (List.replicate 32 0)].flatten) ⟨rfl, ⟨(in_lit .u64 0 rfl), (arr_zero _ _)⟩⟩ rfl Els.nil)
        refine o_bsl ([[.int .u64 0], av .u8 32 (List.replicate 32 0)].flatten ++ ([])) te44 zr44 Tryd.underlying30 hI hA rfl rfl rfl rfl (by kernel_rfl) rfl fun g4 a w hA hI => ?_
        generalize hcs : ([[.int .u64 0], av .u8 32 (List.replicate 32 0)].flatten ++ ([]) : List Value) = cs3 at hE3 hI
        clear hcs
        refine stp hA (r_bldS (cs := [[.int .u32 (IntKind.u32.wrap s1)], [(.slice (some ⟨g3, 0, none⟩) 1 1)], [(.slice (some ⟨g4, 0, none⟩) 1 1)], [.int .u32 0]].flatten.toArray) (pl := [(0, 1), (1, 1), (2, 1), (3, 1)]) zr32 Tryd.underlying32 ⟨rfl, sz24, rfl, sz29, rfl, sz30, rfl, sz24, trivial⟩ hA rfl ((fill_one rfl rfl (by kernel_rfl)).trans ((fill_one (own_cell hI (j := 1) rfl) rfl (by kernel_rfl)).trans ((fill_one (own_cell hI (j := 0) rfl) rfl (by kernel_rfl)).trans (by kernel_rfl))))) rfl fun a hA => ?_
        obtain ⟨μ4, hle3, hsv1, hI, hwas, hno⟩ := hI.freezeRowW 1 rfl
        have hS1 : Slc (RIn μ4) 35 μ4 (.slice (some ⟨g3, 0, none⟩) 1 1) ([(⟨(⟨[1, 0, 0, 0, 0, 0, 0, 0, 0, 0, 0, 0, 0, 0, 0, 0, 0, 0, 0, 0, 0, 0, 0, 0, 0, 0, 0, 0, 0, 0, 0, 0], IntKind.u32.wrap s1⟩ : Point), ([] : List Int), 0⟩ : In)] : List In) := ⟨_, (Els.mono hE2 (fun _ _ h => RIn.le hle3 h)), hsv1⟩
        obtain ⟨μ5, hle4, hsv2, hI, -, hno2⟩ := hI.freezeRowW 0 rfl
        have hS2 : Slc (ROut μ5) 33 μ5 (.slice (some ⟨g4, 0, none⟩) 1 1) ([(⟨0, (List.replicate 32 0)⟩ : Out)] : List Out) := ⟨_, hE3, hsv2⟩
        have hE4 : Els (RTx μ5) 4 ([(⟨IntKind.u32.wrap s1, ([(⟨(⟨[1, 0, 0, 0, 0, 0, 0, 0, 0, 0, 0, 0, 0, 0, 0, 0, 0, 0, 0, 0, 0, 0, 0, 0, 0, 0, 0, 0, 0, 0, 0, 0], IntKind.u32.wrap s1⟩ : Point), ([] : List Int), 0⟩ : In)] : List In), ([(⟨0, (List.replicate 32 0)⟩ : Out)] : List Out), 0⟩ : Tx)] : List Tx) _ := (Els.cons (c := [[.int .u32 (IntKind.u32.wrap s1)], [(.slice (some ⟨g3, 0, none⟩) 1 1)], [(.slice (some ⟨g4, 0, none⟩) 1 1)], [.int .u32 0]].flatten) ⟨(.slice (some ⟨g3, 0, none⟩) 1 1), (.slice (some ⟨g4, 0, none⟩) 1 1), rfl, ⟨(wrap_in _ _), (Slc.le hS1 (fun _ _ h => RIn.le hle4 h) hle4), hS2, (in_lit .u32 0 rfl)⟩⟩ rfl Els.nil)
        refine o_bsl ([[.int .u32 (IntKind.u32.wrap s1)], [(.slice (some ⟨g3, 0, none⟩) 1 1)], [(.slice (some ⟨g4, 0, none⟩) 1 1)], [.int .u32 0]].flatten ++ ([])) te32 zr32 Tryd.underlying35 hI hA rfl rfl rfl rfl (by kernel_rfl) rfl fun g5 a w hA hI => ?_
        generalize hcs : ([[.int .u32 (IntKind.u32.wrap s1)], [(.slice (some ⟨g3, 0, none⟩) 1 1)], [(.slice (some ⟨g4, 0, none⟩) 1 1)], [.int .u32 0]].flatten ++ ([]) : List Value) = cs4 at hE4 hI
        have hcs4 := hcs.symm; clear hcs
        obtain ⟨hb1, H⟩ := bG H
        have hE6 := (Els.mono ws2 (fun _ _ h => RTx.le (hle3.trans hle4) h)).app hE4
        refine o_appG (xs := (s2 : List Tx)) (ys := (([(⟨IntKind.u32.wrap s1, ([(⟨(⟨[1, 0, 0, 0, 0, 0, 0, 0, 0, 0, 0, 0, 0, 0, 0, 0, 0, 0, 0, 0, 0, 0, 0, 0, 0, 0, 0, 0, 0, 0, 0, 0], IntKind.u32.wrap s1⟩ : Point), ([] : List Int), 0⟩ : In)] : List In), ([(⟨0, (List.replicate 32 0)⟩ : Out)] : List Out), 0⟩ : Tx)] : List Tx) : List Tx)) (M := 2199023255552) 2 te32 Tryd.underlying35 hI rfl hA rfl rfl (src_row hI (j := 0) rfl) hE4.len (hE4.ones RTx.ones) hb1 rfl fun v4 a w hA hI => 
          stp hA (r_fd (k := 68) Tryd.underlying37 rfl sz35 hA rfl rfl) rfl fun a hA => ?_
        have hone := own_one hI (j := 2) rfl
        have hcel := own_cell hI (j := 2) rfl
        refine o_st (j := 1) [[.int .u32 0], av .u8 32 (List.replicate 32 0), av .u8 32 (List.replicate 32 0), [.int .u32 0], [.int .u32 1], [.int .u32 0]] [[vvs2]] [[v4]] [] sz35 rfl rfl (by intro c hc; simp at hc; subst hc; exact hone) hI rfl hA rfl rfl hcel rfl fun w hI => ?_
        refine o_nil <| hN12 _ _ <| w_reg <| stm hA rfl rfl fun a hA => 
          stp hA (r_add hA rfl rfl) rfl fun a hA => 
          sta hA rfl rfl fun a hA => ?_
        refine o_nil <| ⟨m1, Nat.lt_succ_self _, IntKind.i64.wrap (s1 + 1), s2 ++ ([(⟨IntKind.u32.wrap s1, ([(⟨(⟨[1, 0, 0, 0, 0, 0, 0, 0, 0, 0, 0, 0, 0, 0, 0, 0, 0, 0, 0, 0, 0, 0, 0, 0, 0, 0, 0, 0, 0, 0, 0, 0], IntKind.u32.wrap s1⟩ : Point), ([] : List Int), 0⟩ : In)] : List In), ([(⟨0, (List.replicate 32 0)⟩ : Out)] : List Out), 0⟩ : Tx)] : List Tx), μ5, v4, ccs2 ++ cs4, H, ((hle2.trans hle3).trans hle4), (wrap_in _ _), hE6, hown.step (Y := (⟨IntKind.u32.wrap s1, ([(⟨(⟨[1, 0, 0, 0, 0, 0, 0, 0, 0, 0, 0, 0, 0, 0, 0, 0, 0, 0, 0, 0, 0, 0, 0, 0, 0, 0, 0, 0, 0, 0, 0, 0], IntKind.u32.wrap s1⟩ : Point), ([] : List Int), 0⟩ : In)] : List In), ([(⟨0, (List.replicate 32 0)⟩ : Out)] : List Out), 0⟩ : Tx)) ws2 hle3 hle4 hwas (hno _ rfl) (hno2 _ rfl) (wrap_in _ _) (in_lit .u32 0 rfl) rfl rfl hE2a hE3 hsv1 hsv2 (hcs4.trans (List.append_nil _)), hA.sub ⟨rfl, rfl, rfl, rfl, rfl, rfl, rfl, trivial⟩, (hI.sl [1, 2] rfl)⟩
      · have hc20 := hc2; obtain ⟨hc2, H⟩ := dF H hc2
        refine w_exit rfl ?_
        have H : some s2 = some z1 := H
        obtain rfl := sI H
        have H := Hk2
        cases sJ H
        exact ⟨μ3, vvs2, ccs2, hle2, ws2, hown, hA.sub ⟨rfl, rfl, rfl, rfl, rfl, trivial⟩, (hI.sl [1, 0] rfl)⟩
    · rintro a w ⟨μ2, vvc1, ccc1, hle1, wc1, hown, hA, hI⟩
      have H := Hk1
      refine w_seq fun _ hN13 => w_reg <| sta hA rfl rfl fun a hA => ?_
      refine o_nil <| hN13 _ _ <| w_seq fun _ hN14 => w_reg <| sta hA rfl rfl fun a hA => ?_
      refine o_nil <| hN14 _ _ ?_
      obtain ⟨⟨c2, c3, c4⟩, hz7, Hk3⟩ := bB H
      refine w_cut (fun a w => ∃ (μ6 : Store) (ccc4 : List Value), μ.le μ6 ∧ InR .i64 c2 ∧ Els (RTx μ6) 4 c4 ccc4 ∧ Fr a 146 [(1, .int .i64 r3), (6, .bool false), (7, .bool r1), (8, .pointer (some ⟨g2, 0, none⟩)), (10, .int .i64 c2), (11, .bool c3)] ∧ Iv w0 [] μ μ6 [row 32 4 vvc1 c4.length ccc4, cel g2 [[.int .u32 0], av .u8 32 (List.replicate 32 0), av .u8 32 (List.replicate 32 0), [.int .u32 0], [.int .u32 1], [.int .u32 0], [vvc1]] 37] w) ?_ ?_
      · have H := bI hz7
        refine w_seq fun _ hN15 => w_reg <| stm hA rfl rfl fun a hA => ?_
        obtain ⟨r5, hr5, H⟩ := bB H
        refine o_callp (u := .int .i64 r5) cf5 hA rfl hI (sargassoworld_Number.c μ2 _ hI.agr x2 hx2 4 (in_lit .i64 4 rfl) r5 hr5) rfl fun a w hz8 hI hA => ?_
        refine o_nil <| hN15 _ _ <| w_block <| w_seq fun _ hN16 => w_reg <| stp hA (r_eql hA rfl rfl) rfl fun a hA => 
          sta hA rfl rfl fun a hA => ?_
        refine o_nil <| hN16 _ _ <| w_cond hA rfl (fun hc3 => ?_) (fun hc3 => ?_)
        · obtain ⟨hc3, H⟩ := dT H hc3
          refine w_seq fun _ hN17 => w_reg <| stp hA (r_fd (k := 68) Tryd.underlying37 rfl sz35 hA rfl rfl) rfl fun a hA => 
            stp hA (r_ld1 (j := 1) [[.int .u32 0], av .u8 32 (List.replicate 32 0), av .u8 32 (List.replicate 32 0), [.int .u32 0], [.int .u32 1], [.int .u32 0]] [] Tryd.underlying35 rfl hI rfl hA rfl rfl) rfl fun a hA => 
            stm hA rfl rfl fun a hA => ?_
          obtain ⟨hb2, H⟩ := bG H
          refine stp hA (r_rix (j := 0) Tryd.underlying35 sz32 hI rfl hA rfl rfl hb2.1 hb2.2) rfl fun a hA => 
            stp hA (r_fd (k := so vvc1 + r3.toNat * 4 + 2) Tryd.underlying32 rfl sz30 hA rfl rfl) rfl fun a hA => ?_
          obtain ⟨A1, _, B1, hc4, hl1, hl2, he1⟩ := Els.at_ wc1 (getD_some default hb2.1 hb2.2)
          obtain ⟨v5, v6, rfl, hw2⟩ := he1
          have hE7 := Els.setAt (y := (⟨(c1.getD r3.toNat default).Version, (c1.getD r3.toNat default).Ins, [], (c1.getD r3.toNat default).Time⟩ : Tx)) (d := [[.int .u32 ((c1.getD r3.toNat default).Version)], [v5], [(.slice none 0 0)], [.int .u32 ((c1.getD r3.toNat default).Time)]].flatten) wc1 hc4 (idx_lt hb2.1 hb2.2) hl1 hl2 ⟨v5, (.slice none 0 0), rfl, ⟨hw2.1, hw2.2.1, (slc_nil _ _ _), hw2.2.2.2⟩⟩ rfl
          obtain ⟨_, hsc1⟩ := Slc.sv (slc_nil (ROut μ2) 33 μ2)
          refine o_rstPL (j := 0) (q := r3.toNat * 4) (off := 2) (m' := (c1.set r3.toNat (⟨(c1.getD r3.toNat default).Version, (c1.getD r3.toNat default).Ins, [], (c1.getD r3.toNat default).Time⟩ : Tx)).length) A1 B1 [[.int .u32 ((c1.getD r3.toNat default).Version)], [v5]] [[v6]] [[(.slice none 0 0)]] [[.int .u32 ((c1.getD r3.toNat default).Time)]] hc4 hl1 rfl sz30 rfl rfl (fl_cons (oneC (one_sl hsc1)) fl_nil) hI rfl hA rfl rfl (cells_sl hsc1) (by omega) (by first | exact (List.length_set ..).symm | simp) fun w hI => ?_
          refine o_nil <| hN17 _ _ <| w_reg <| sta hA rfl rfl fun a hA => ?_
          refine o_nil ?_
          cases sJ H
          exact ⟨μ2, A1 ++ ([[.int .u32 ((c1.getD r3.toNat default).Version)], [v5], [(.slice none 0 0)], [.int .u32 ((c1.getD r3.toNat default).Time)]].flatten ++ B1), (hi1.le.trans hle1), (in_lit .i64 104 rfl), hE7, hA.sub ⟨rfl, rfl, rfl, rfl, rfl, rfl, trivial⟩, hI⟩
        · obtain ⟨hc3, H⟩ := dF H hc3
          refine w_seq fun _ hN18 => w_reg <| stp hA (r_eql hA rfl rfl) rfl fun a hA => 
            sta hA rfl rfl fun a hA => ?_
          refine o_nil <| hN18 _ _ <| w_cond hA rfl (fun hc5 => ?_) (fun hc5 => ?_)
          · obtain ⟨hc5, H⟩ := dT H hc5
            obtain ⟨c5, hz9, Hk4⟩ := bB H
            refine w_cut (fun a w => ∃ (μ7 : Store) (ccc5 : List Value), μ2.le μ7 ∧ Els (RTx μ7) 4 c5 ccc5 ∧ Fr a 146 [(1, .int .i64 r3), (6, .bool false), (7, .bool r1), (8, .pointer (some ⟨g2, 0, none⟩)), (10, .int .i64 0), (11, .bool true)] ∧ Iv w0 [] μ μ7 [row 32 4 vvc1 c5.length ccc5, cel g2 [[.int .u32 0], av .u8 32 (List.replicate 32 0), av .u8 32 (List.replicate 32 0), [.int .u32 0], [.int .u32 1], [.int .u32 0], [vvc1]] 37] w) ?_ ?_
            · have H := bI hz9
              refine w_seq fun _ hN19 => w_reg <| stm hA rfl rfl fun a hA => 
                stp hA (r_gtr hA rfl rfl) rfl fun a hA => ?_
              refine o_nil <| hN19 _ _ <| w_cond hA rfl (fun hc6 => ?_) (fun hc6 => ?_)
              · obtain ⟨hc6, H⟩ := dT H hc6
                refine w_any [7] mo hI fun w hI => ?_
                refine gE 0 hA rfl (.inr hI) (fun _ => r_fd (k := 68) Tryd.underlying37 rfl sz35 hA rfl rfl) fun a hA => ?_
                refine gT 1 hA rfl hI (fun w hI => r_ld1 (j := 1) [[.int .u32 0], av .u8 32 (List.replicate 32 0), av .u8 32 (List.replicate 32 0), [.int .u32 0], [.int .u32 1], [.int .u32 0]] [] Tryd.underlying35 rfl hI rfl hA rfl rfl) fun a hA => ?_
                refine gE 2 hA rfl (.inr hI) (fun _ => r_mv hA rfl) fun a hA => ?_
                refine gE 3 hA rfl (.inr hI) (fun _ => r_mv hA rfl) fun a hA => ?_
                refine gF 4 rfl ?_
                refine stp hA (r_bldA (cs := [av .u8 32 ([0, 0, 0, 0, 0, 0, 0, 0, 0, 0, 0, 0, 0, 0, 0, 0, 0, 0, 0, 0, 0, 0, 0, 0, 0, 0, 0, 0, 0, 0, 0, 0])].flatten.toArray) zr26 Tryd.underlying26 sz5 hA rfl (by kernel_rfl)) rfl fun a hA => ?_
                refine o_nil <| ⟨(.inr hI), ?_⟩
                refine gF 5 rfl ?_
                obtain ⟨r6, hr6, H⟩ := bB H
                refine o_call _ cf6 hA rfl (sargassoref1_First.c μ2 _ hI.agr r3 hz3 1 (in_lit .u64 1 rfl) ([0, 0, 0, 0, 0, 0, 0, 0, 0, 0, 0, 0, 0, 0, 0, 0, 0, 0, 0, 0, 0, 0, 0, 0, 0, 0, 0, 0, 0, 0, 0, 0]) (arr_lit rfl (by simp only [List.forall_mem_cons]; exact ⟨(in_lit .u8 0 rfl), (in_lit .u8 0 rfl), (in_lit .u8 0 rfl), (in_lit .u8 0 rfl), (in_lit .u8 0 rfl), (in_lit .u8 0 rfl), (in_lit .u8 0 rfl), (in_lit .u8 0 rfl), (in_lit .u8 0 rfl), (in_lit .u8 0 rfl), (in_lit .u8 0 rfl), (in_lit .u8 0 rfl), (in_lit .u8 0 rfl), (in_lit .u8 0 rfl), (in_lit .u8 0 rfl), (in_lit .u8 0 rfl), (in_lit .u8 0 rfl), (in_lit .u8 0 rfl), (in_lit .u8 0 rfl), (in_lit .u8 0 rfl), (in_lit .u8 0 rfl), (in_lit .u8 0 rfl), (in_lit .u8 0 rfl), (in_lit .u8 0 rfl), (in_lit .u8 0 rfl), (in_lit .u8 0 rfl), (in_lit .u8 0 rfl), (in_lit .u8 0 rfl), (in_lit .u8 0 rfl), (in_lit .u8 0 rfl), (in_lit .u8 0 rfl), (in_lit .u8 0 rfl), by simp⟩)) ([]) (.slice none 0 0) (slc_nil _ _ _) r6 hr6) rfl fun v7 a w hz10 hA => ?_
                obtain ⟨v8, v9, μ8, rfl, hw3, hi2⟩ := hz10
                have hI := hI.call hi2
                refine o_nil <| ⟨(.inr (hI.less (hi1.le.trans hle1) hi2.le)), ?_⟩
                obtain ⟨hb3, H⟩ := bG H
                refine g_mono (I' := fun w => Iv w0 [] μ μ8 [row 32 4 vvc1 c1.length ccc1, cel g2 [[.int .u32 0], av .u8 32 (List.replicate 32 0), av .u8 32 (List.replicate 32 0), [.int .u32 0], [.int .u32 1], [.int .u32 0], [vvc1]] 37] w) (fun w h => (h.less (hi1.le.trans hle1) hi2.le)) _ _ _ _ ?_
                refine gT 6 hA rfl hI (fun w hI => r_rix (j := 0) Tryd.underlying35 sz32 hI rfl hA rfl rfl hb3.1 hb3.2) fun a hA => ?_
                refine gF 7 rfl ?_
                obtain ⟨A2, _, B2, hc7, hl3, hl4, he2⟩ := Els.at_ (Els.mono wc1 (fun _ _ h => RTx.le hi2.le h)) (getD_some default hb3.1 hb3.2)
                obtain ⟨v10, v11, rfl, hw4⟩ := he2
                have hE8 := Els.setAt (y := r6) (d := [[.int .u32 r6.Version], [v8], [v9], [.int .u32 r6.Time]].flatten) (Els.mono wc1 (fun _ _ h => RTx.le hi2.le h)) hc7 (idx_lt hb3.1 hb3.2) hl3 hl4 ⟨v8, v9, rfl, ⟨hw3.1, hw3.2.1, hw3.2.2.1, hw3.2.2.2⟩⟩ rfl
                obtain ⟨_, hsl1⟩ := Slc.sv hw3.2.1
                obtain ⟨_, hsl2⟩ := Slc.sv hw3.2.2.1
                refine o_rstPL (j := 0) (q := r3.toNat * 4) (off := 0) (m' := (c1.set r3.toNat r6).length) A2 B2 [] [[.int .u32 ((c1.getD r3.toNat default).Version)], [v10], [v11], [.int .u32 ((c1.getD r3.toNat default).Time)]] [[.int .u32 r6.Version], [v8], [v9], [.int .u32 r6.Time]] [] hc7 hl3 rfl sz32 rfl rfl (fl_cons (oneC rfl) (fl_cons (oneC (one_sl hsl1)) (fl_cons (oneC (one_sl hsl2)) (fl_cons (oneC rfl) fl_nil)))) hI rfl hA rfl rfl rfl (by omega) (by first | exact (List.length_set ..).symm | simp) fun w hI => ?_
                refine o_nil <| ⟨(.inl (by kernel_rfl)), ?_⟩
                refine gN ?_
                cases sJ H
                exact ⟨μ8, A2 ++ ([[.int .u32 r6.Version], [v8], [v9], [.int .u32 r6.Time]].flatten ++ B2), hi2.le, hE8, hA.sub ⟨rfl, rfl, rfl, rfl, rfl, rfl, trivial⟩, hI⟩
              · obtain ⟨hc6, H⟩ := dF H hc6
                refine w_reg <| stp hA (r_fd (k := 68) Tryd.underlying37 rfl sz35 hA rfl rfl) rfl fun a hA => 
                  stp hA (r_ld1 (j := 1) [[.int .u32 0], av .u8 32 (List.replicate 32 0), av .u8 32 (List.replicate 32 0), [.int .u32 0], [.int .u32 1], [.int .u32 0]] [] Tryd.underlying35 rfl hI rfl hA rfl rfl) rfl fun a hA => 
                  stp hA (r_bldS (cs := [av .u8 32 (List.replicate 32 0), [.int .u32 77]].flatten.toArray) (pl := [(0, 32), (32, 1)]) zr39 Tryd.underlying39 ⟨rfl, sz26, rfl, sz24, trivial⟩ hA rfl (by kernel_rfl)) rfl fun a hA => 
                  stp hA (r_bldS (cs := [av .u8 32 (List.replicate 32 0), [.int .u32 77], [(.slice none 0 0)], [.int .u32 0]].flatten.toArray) (pl := [(0, 33), (33, 1), (34, 1)]) zr42 Tryd.underlying42 ⟨rfl, sz39, rfl, sz40, rfl, sz24, trivial⟩ hA rfl (by kernel_rfl)) rfl fun a hA => ?_
                have hE9 : Els (RIn μ2) 35 ([(⟨(⟨(List.replicate 32 0), 77⟩ : Point), ([] : List Int), 0⟩ : In)] : List In) _ := (Els.cons (c := [av .u8 32 (List.replicate 32 0), [.int .u32 77], [(.slice none 0 0)], [.int .u32 0]].flatten) ⟨(.slice none 0 0), rfl, ⟨(arr_zero _ _), (in_lit .u32 77 rfl), (slc_nil _ _ _), (in_lit .u32 0 rfl)⟩⟩ rfl Els.nil)
                refine o_bsl ([av .u8 32 (List.replicate 32 0), [.int .u32 77], [(.slice none 0 0)], [.int .u32 0]].flatten ++ ([])) te42 zr42 Tryd.underlying29 hI hA rfl rfl rfl rfl (by kernel_rfl) rfl fun g6 a w hA hI => ?_
                generalize hcs : ([av .u8 32 (List.replicate 32 0), [.int .u32 77], [(.slice none 0 0)], [.int .u32 0]].flatten ++ ([]) : List Value) = cs7 at hE9 hI
                clear hcs
                refine stp hA (r_bldS (cs := [[.int .u64 0], av .u8 32 (List.replicate 32 0)].flatten.toArray) (pl := [(0, 1), (1, 32)]) zr44 Tryd.underlying44 ⟨rfl, sz34, rfl, sz26, trivial⟩ hA rfl (by kernel_rfl)) rfl fun a hA => ?_
                have hE10 : Els (ROut μ2) 33 ([(⟨0, (List.replicate 32 0)⟩ : Out)] : List Out) _ := (Els.cons (c := [[.int .u64 0], av .u8 32 (List.replicate 32 0)].flatten) ⟨rfl, ⟨(in_lit .u64 0 rfl), (arr_zero _ _)⟩⟩ rfl Els.nil)
                refine o_bsl ([[.int .u64 0], av .u8 32 (List.replicate 32 0)].flatten ++ ([])) te44 zr44 Tryd.underlying30 hI hA rfl rfl rfl rfl (by kernel_rfl) rfl fun g7 a w hA hI => ?_
                generalize hcs : ([[.int .u64 0], av .u8 32 (List.replicate 32 0)].flatten ++ ([]) : List Value) = cs8 at hE10 hI
                clear hcs
                refine stp hA (r_bldS (cs := [[.int .u32 0], [(.slice (some ⟨g6, 0, none⟩) 1 1)], [(.slice (some ⟨g7, 0, none⟩) 1 1)], [.int .u32 0]].flatten.toArray) (pl := [(0, 1), (1, 1), (2, 1), (3, 1)]) zr32 Tryd.underlying32 ⟨rfl, sz24, rfl, sz29, rfl, sz30, rfl, sz24, trivial⟩ hA rfl ((fill_one (own_cell hI (j := 1) rfl) rfl (by kernel_rfl)).trans ((fill_one (own_cell hI (j := 0) rfl) rfl (by kernel_rfl)).trans (by kernel_rfl)))) rfl fun a hA => ?_
                obtain ⟨hb4, H⟩ := bG H
                refine stp hA (r_rix (j := 2) Tryd.underlying35 sz32 hI rfl hA rfl rfl (by decide) hb4) rfl fun a hA => ?_
                obtain ⟨μ9, hle7, hsv4, hI⟩ := hI.freezeRow 1 rfl
                have hS3 : Slc (RIn μ9) 35 μ9 (.slice (some ⟨g6, 0, none⟩) 1 1) ([(⟨(⟨(List.replicate 32 0), 77⟩ : Point), ([] : List Int), 0⟩ : In)] : List In) := ⟨_, (Els.mono hE9 (fun _ _ h => RIn.le hle7 h)), hsv4⟩
                obtain ⟨μ10, hle8, hsv5, hI⟩ := hI.freezeRow 0 rfl
                have hS4 : Slc (ROut μ10) 33 μ10 (.slice (some ⟨g7, 0, none⟩) 1 1) ([(⟨0, (List.replicate 32 0)⟩ : Out)] : List Out) := ⟨_, hE10, hsv5⟩
                obtain ⟨A3, _, B3, hc8, hl5, hl6, he3⟩ := Els.at_ (Els.mono wc1 (fun _ _ h => RTx.le (hle7.trans hle8) h)) (getD_some default (by decide) hb4)
                obtain ⟨v12, v13, rfl, hw5⟩ := he3
                have hE11 := Els.setAt (y := (⟨0, ([(⟨(⟨(List.replicate 32 0), 77⟩ : Point), ([] : List Int), 0⟩ : In)] : List In), ([(⟨0, (List.replicate 32 0)⟩ : Out)] : List Out), 0⟩ : Tx)) (d := [[.int .u32 0], [(.slice (some ⟨g6, 0, none⟩) 1 1)], [(.slice (some ⟨g7, 0, none⟩) 1 1)], [.int .u32 0]].flatten) (Els.mono wc1 (fun _ _ h => RTx.le (hle7.trans hle8) h)) hc8 (idx_lt (by decide) hb4) hl5 hl6 ⟨(.slice (some ⟨g6, 0, none⟩) 1 1), (.slice (some ⟨g7, 0, none⟩) 1 1), rfl, ⟨(in_lit .u32 0 rfl), (Slc.le hS3 (fun _ _ h => RIn.le hle8 h) hle8), hS4, (in_lit .u32 0 rfl)⟩⟩ rfl
                obtain ⟨_, hsl3⟩ := Slc.sv (Slc.le hS3 (fun _ _ h => RIn.le hle8 h) hle8)
                obtain ⟨_, hsl4⟩ := Slc.sv hS4
                refine o_rstPL (j := 0) (q := (0 : Int).toNat * 4) (off := 0) (m' := (c1.set (0 : Int).toNat (⟨0, ([(⟨(⟨(List.replicate 32 0), 77⟩ : Point), ([] : List Int), 0⟩ : In)] : List In), ([(⟨0, (List.replicate 32 0)⟩ : Out)] : List Out), 0⟩ : Tx)).length) A3 B3 [] [[.int .u32 ((c1.getD (0 : Int).toNat default).Version)], [v12], [v13], [.int .u32 ((c1.getD (0 : Int).toNat default).Time)]] [[.int .u32 0], [(.slice (some ⟨g6, 0, none⟩) 1 1)], [(.slice (some ⟨g7, 0, none⟩) 1 1)], [.int .u32 0]] [] hc8 hl5 rfl sz32 rfl rfl (fl_cons (oneC rfl) (fl_cons (oneC (one_sl hsl3)) (fl_cons (oneC (one_sl hsl4)) (fl_cons (oneC rfl) fl_nil)))) hI rfl hA rfl rfl rfl (by omega) (by first | exact (List.length_set ..).symm | simp) fun w hI => ?_
                refine o_nil ?_
                cases sJ H
                exact ⟨μ10, _, (hle7.trans hle8), hE11, hA.sub ⟨rfl, rfl, rfl, rfl, rfl, rfl, trivial⟩, hI⟩
            · rintro a w ⟨μ7, ccc5, hle6, wc5, hA, hI⟩
              have H := Hk4
              refine w_reg <| sta hA rfl rfl fun a hA => ?_
              refine o_nil ?_
              cases sJ H
              exact ⟨μ7, ccc5, ((hi1.le.trans hle1).trans hle6), (in_lit .i64 107 rfl), wc5, hA.sub ⟨rfl, rfl, rfl, rfl, rfl, rfl, trivial⟩, hI⟩
          · obtain ⟨hc5, H⟩ := dF H hc5
            refine w_seq fun _ hN20 => w_reg <| stp hA (r_eql hA rfl rfl) rfl fun a hA => 
              sta hA rfl rfl fun a hA => ?_
            refine o_nil <| hN20 _ _ <| w_cond hA rfl (fun hc9 => ?_) (fun hc9 => ?_)
            · obtain ⟨hc9, H⟩ := dT H hc9
              refine w_seq fun _ hN21 => w_reg <| stm hA rfl rfl fun a hA => 
                stp hA (r_gtr hA rfl rfl) rfl fun a hA => ?_
              refine o_nil <| hN21 _ _ <| w_cond hA rfl (fun hc10 => ?_) (fun hc10 => ?_)
              · obtain ⟨hc10, H⟩ := dT H hc10
                obtain ⟨hb, H⟩ := bG H
                have hX := getD_some (default : Tx) hb.1 hb.2
                have hfr : ∀ k, w0.heap.size ≤ k → μ k = none := fun k hk => by
                  cases hm : μ k with
                  | none => rfl
                  | some o => have := (Array.getElem?_eq_some_iff.1 (hμ k o hm)).1; omega
                obtain ⟨q, k1, k2, k3, k4, k5⟩ := hown.ex (by omega)
                obtain ⟨g, cI, vO, ho⟩ := k5 _ hX
                obtain ⟨A4, cX, B4, hc11, hl7, hl8, he4⟩ := Els.at_ wc1 hX
                obtain rfl := (show cX = [[.int .u32 (c1.getD r3.toNat default).Version], [(.slice (some ⟨g, 0, none⟩) 1 1)], [vO], [.int .u32 (c1.getD r3.toNat default).Time]].flatten from by
                  have := ho.cells
                  rw [hc11, List.drop_left' hl7, List.take_left' hl8] at this
                  exact this)
                obtain ⟨va, vb', hce, hw6⟩ := he4
                obtain ⟨rfl, rfl⟩ : va = (.slice (some ⟨g, 0, none⟩) 1 1) ∧ vO = vb' := by
                  simp [TxC] at hce
                  exact ⟨hce.1.symm, hce.2⟩
                obtain ⟨cs5, hE5, hsv5⟩ := hw6.2.1
                have h1I : (0 : Int) < ((c1.getD r3.toNat default).Ins.length : Int) := by rw [ho.one]; decide
                obtain ⟨_, he5, _, hat5⟩ := Slc.elem hw6.2.1 (getD_some default (by decide) h1I)
                obtain ⟨vk, rfl, hw7⟩ := he5
                obtain ⟨_, _, _, _, _, _, hat6⟩ := id hsv5
                have hat6 := hat6 (by rw [ho.one]; decide)
                have hlen5 : cs5.length = 1 * 35 := by rw [hE5.len, ho.one]
                have hE13 : Els (RIn μ2) 35 ([((c1.getD r3.toNat default).Ins.getD (0 : Int).toNat default)] : List In) ((InC ((c1.getD r3.toNat default).Ins.getD (0 : Int).toNat default) vk).flatten ++ []) := Els.cons ⟨vk, rfl, hw7⟩ (by simp [InC, av_len]) Els.nil
                refine w_seq fun _ hN33 => ?_
                refine w_any [21] mo hI fun w hI => ?_
                refine gE 0 hA rfl (.inr hI) (fun _ => r_fd (k := 68) Tryd.underlying37 rfl sz35 hA rfl rfl) fun a hA => ?_
                refine gT 1 hA rfl hI (fun w hI => r_ld1 (j := 1) [[.int .u32 0], av .u8 32 (List.replicate 32 0), av .u8 32 (List.replicate 32 0), [.int .u32 0], [.int .u32 1], [.int .u32 0]] [] Tryd.underlying35 rfl hI rfl hA rfl rfl) fun a hA => ?_
                refine gE 2 hA rfl (.inr hI) (fun _ => r_mv hA rfl) fun a hA => ?_
                refine gE 3 hA rfl (.inr hI) (fun _ => r_fd (k := 68) Tryd.underlying37 rfl sz35 hA rfl rfl) fun a hA => ?_
                refine gT 4 hA rfl hI (fun w hI => r_ld1 (j := 1) [[.int .u32 0], av .u8 32 (List.replicate 32 0), av .u8 32 (List.replicate 32 0), [.int .u32 0], [.int .u32 1], [.int .u32 0]] [] Tryd.underlying35 rfl hI rfl hA rfl rfl) fun a hA => ?_
                refine gE 5 hA rfl (.inr hI) (fun _ => r_mv hA rfl) fun a hA => ?_
                refine gT 6 hA rfl hI (fun w hI => r_rix (j := 0) Tryd.underlying35 sz32 hI rfl hA rfl rfl hb.1 hb.2) fun a hA => ?_
                refine gE 7 hA rfl (.inr hI) (fun _ => r_fd (k := so vvc1 + r3.toNat * 4 + 1) Tryd.underlying32 rfl sz29 hA rfl rfl) fun a hA => ?_
                refine gT 8 hA rfl hI (fun w hI => r_rldQ (j := 0) (q := r3.toNat * 4) (off := 1) A4 B4 [[.int .u32 (c1.getD r3.toNat default).Version]] [[vO], [.int .u32 (c1.getD r3.toNat default).Time]] hc11 hl7 rfl Tryd.underlying29 rfl hI rfl hA rfl) fun a hA => ?_
                refine gE 9 hA rfl (.inr hI) (fun _ => r_fd (k := 68) Tryd.underlying37 rfl sz35 hA rfl rfl) fun a hA => ?_
                refine gT 10 hA rfl hI (fun w hI => r_ld1 (j := 1) [[.int .u32 0], av .u8 32 (List.replicate 32 0), av .u8 32 (List.replicate 32 0), [.int .u32 0], [.int .u32 1], [.int .u32 0]] [] Tryd.underlying35 rfl hI rfl hA rfl rfl) fun a hA => ?_
                refine gE 11 hA rfl (.inr hI) (fun _ => r_mv hA rfl) fun a hA => ?_
                refine gT 12 hA rfl hI (fun w hI => r_rix (j := 0) Tryd.underlying35 sz32 hI rfl hA rfl rfl hb.1 hb.2) fun a hA => ?_
                refine gE 13 hA rfl (.inr hI) (fun _ => r_fd (k := so vvc1 + r3.toNat * 4 + 1) Tryd.underlying32 rfl sz29 hA rfl rfl) fun a hA => ?_
                refine gT 14 hA rfl hI (fun w hI => r_rldQ (j := 0) (q := r3.toNat * 4) (off := 1) A4 B4 [[.int .u32 (c1.getD r3.toNat default).Version]] [[vO], [.int .u32 (c1.getD r3.toNat default).Time]] hc11 hl7 rfl Tryd.underlying29 rfl hI rfl hA rfl) fun a hA => ?_
                refine gE 15 hA rfl (.inr hI) (fun _ => r_six Tryd.underlying29 sz42 hsv5 hA rfl rfl (by decide) h1I) fun a hA => ?_
                refine gT 16 hA rfl hI (fun w hI => r_ldmA [] (InC ((c1.getD r3.toNat default).Ins.getD (0 : Int).toNat default) vk) [] Tryd.underlying42 rfl sz42 (by simp [InC, av_len]) hI.agr (by simpa using hat5) hA rfl rfl) fun a hA => ?_
                refine gF 17 rfl ?_
                refine o_bsl ((InC ((c1.getD r3.toNat default).Ins.getD (0 : Int).toNat default) vk).flatten ++ ([])) te42 zr42 Tryd.underlying29 hI hA rfl rfl rfl rfl (by kernel_rfl) rfl fun g8 a w hA hI => ?_
                refine o_nil <| ⟨(.inr (hI.sl [1, 2] rfl)), ?_⟩
                refine gF 18 rfl ?_
                refine o_appN te42 Tryd.underlying29 hI hA rfl hat6 hlen5 rfl (src_row hI (j := 0) rfl) (by decide) hE13.len (by decide) (by decide) rfl fun v30 a w hA hI => ?_
                refine o_nil <| ⟨(.inr (hI.sl [2, 3] rfl)), ?_⟩
                refine gT 19 hA rfl (hI.sl [2, 3] rfl) (fun w hI => r_rix (j := 0) Tryd.underlying35 sz32 hI rfl hA rfl rfl hb.1 hb.2) fun a hA => ?_
                refine gE 20 hA rfl (.inr (hI.sl [2, 3] rfl)) (fun _ => r_fd (k := so vvc1 + r3.toNat * 4 + 1) Tryd.underlying32 rfl sz29 hA rfl rfl) fun a hA => ?_
                refine gF 21 rfl ?_
                have hone := own_one hI (j := 0) rfl
                have hcel := own_cell hI (j := 0) rfl
                refine o_rstPL (j := 2) (q := r3.toNat * 4) (off := 1) (m' := (c1.set r3.toNat (⟨(c1.getD r3.toNat default).Version, (c1.getD r3.toNat default).Ins ++ ([((c1.getD r3.toNat default).Ins.getD (0 : Int).toNat default)] : List In), (c1.getD r3.toNat default).Outs, (c1.getD r3.toNat default).Time⟩ : Tx)).length) A4 B4 [[.int .u32 (c1.getD r3.toNat default).Version]] [[(.slice (some ⟨g, 0, none⟩) 1 1)]] [[v30]] [[vO], [.int .u32 (c1.getD r3.toNat default).Time]] hc11 hl7 rfl sz29 rfl rfl (by intro c hc; simp at hc; subst hc; exact hone) hI rfl hA rfl rfl hcel (by omega) (by simp) fun w hI => ?_
                refine o_nil <| ⟨(.inl (by kernel_rfl)), ?_⟩
                refine gN <| hN33 _ _ <| w_reg <| sta hA rfl rfl fun a hA => ?_
                refine o_nil ?_
                cases sJ H
                obtain ⟨μ8, hle9, hsvN, hI⟩ := hI.freezeRow 0 rfl
                have hE14 := Els.setAt (y := (⟨(c1.getD r3.toNat default).Version, (c1.getD r3.toNat default).Ins ++ ([((c1.getD r3.toNat default).Ins.getD (0 : Int).toNat default)] : List In), (c1.getD r3.toNat default).Outs, (c1.getD r3.toNat default).Time⟩ : Tx)) (d := [[.int .u32 (c1.getD r3.toNat default).Version], [v30], [vO], [.int .u32 (c1.getD r3.toNat default).Time]].flatten) (Els.mono wc1 (fun _ _ h => RTx.le hle9 h)) hc11 (idx_lt hb.1 hb.2) hl7 hl8 ⟨v30, vO, rfl, ⟨hw6.1, ⟨_, (hE5.app hE13).mono (fun _ _ h => RIn.le hle9 h), by rw [List.length_append, ho.one]; exact hsvN⟩, Slc.le hw6.2.2.1 (fun _ _ h => ROut.le hle9 h) hle9, hw6.2.2.2⟩⟩ rfl
                exact ⟨μ8, _, ((hi1.le.trans hle1).trans hle9), (in_lit .i64 106 rfl), hE14, hA.sub ⟨rfl, rfl, rfl, rfl, rfl, rfl, trivial⟩, (hI.sl [1, 2] rfl)⟩
              · obtain ⟨hc10, H⟩ := dF H hc10
                refine w_skip ?_
                cases sJ H
                exact ⟨μ2, ccc1, (hi1.le.trans hle1), (in_lit .i64 0 rfl), wc1, hA.sub ⟨rfl, rfl, rfl, rfl, rfl, rfl, trivial⟩, hI⟩
            · obtain ⟨hc9, H⟩ := dF H hc9
              refine w_seq fun _ hN23 => w_reg <| sta hA rfl rfl fun a hA => ?_
              refine o_nil <| hN23 _ _ <| w_seq fun _ hN24 => w_reg <| stm hA rfl rfl fun a hA => 
                stp hA (r_gtr hA rfl rfl) rfl fun a hA => ?_
              refine o_nil <| hN24 _ _ <| w_cond hA rfl (fun hc13 => ?_) (fun hc13 => ?_)
              · obtain ⟨hc13, H⟩ := dT H hc13
                obtain ⟨hb, H⟩ := bG H
                have hX := getD_some (default : Tx) hb.1 hb.2
                have hfr : ∀ k, w0.heap.size ≤ k → μ k = none := fun k hk => by
                  cases hm : μ k with
                  | none => rfl
                  | some o => have := (Array.getElem?_eq_some_iff.1 (hμ k o hm)).1; omega
                obtain ⟨q, k1, k2, k3, k4, k5⟩ := hown.ex (by omega)
                obtain ⟨g, cI, vO, ho⟩ := k5 _ hX
                obtain ⟨A4, cX, B4, hc11, hl7, hl8, he4⟩ := Els.at_ wc1 hX
                obtain rfl := (show cX = [[.int .u32 (c1.getD r3.toNat default).Version], [(.slice (some ⟨g, 0, none⟩) 1 1)], [vO], [.int .u32 (c1.getD r3.toNat default).Time]].flatten from by
                  have := ho.cells
                  rw [hc11, List.drop_left' hl7, List.take_left' hl8] at this
                  exact this)
                have hI := hI.thawW ho.was hfr (Nat.le_refl _)
                have h1I : (0 : Int) < ((c1.getD r3.toNat default).Ins.length : Int) := by rw [ho.one]; decide
                obtain ⟨A6, _, B6, hc13, hl9, hl10, he6⟩ := Els.at_ ho.ins (getD_some default (by decide) h1I)
                obtain ⟨vk, rfl, hw8⟩ := he6
                have hE15 := Els.setAt (y := (⟨(⟨((c1.getD r3.toNat default).Ins.getD (0 : Int).toNat default).From.Tx, 1⟩ : Point), ((c1.getD r3.toNat default).Ins.getD (0 : Int).toNat default).Key, ((c1.getD r3.toNat default).Ins.getD (0 : Int).toNat default).Seq⟩ : In)) (d := [av .u8 32 ((c1.getD r3.toNat default).Ins.getD (0 : Int).toNat default).From.Tx, [.int .u32 1], [vk], [.int .u32 ((c1.getD r3.toNat default).Ins.getD (0 : Int).toNat default).Seq]].flatten) ho.ins hc13 (idx_lt (by decide) h1I) hl9 hl10 ⟨vk, rfl, ⟨hw8.1, (in_lit .u32 1 rfl), hw8.2.2.1, hw8.2.2.2⟩⟩ (by simp [av_len])
                refine w_seq fun _ hN34 => w_reg <| stp hA (r_fd (k := 68) Tryd.underlying37 rfl sz35 hA rfl rfl) rfl fun a hA => 
                  stp hA (r_ld1 (j := 2) [[.int .u32 0], av .u8 32 (List.replicate 32 0), av .u8 32 (List.replicate 32 0), [.int .u32 0], [.int .u32 1], [.int .u32 0]] [] Tryd.underlying35 rfl hI rfl hA rfl rfl) rfl fun a hA => 
                  stm hA rfl rfl fun a hA => 
                  stp hA (r_rix (j := 1) Tryd.underlying35 sz32 hI rfl hA rfl rfl hb.1 hb.2) rfl fun a hA => 
                  stp hA (r_fd (k := so vvc1 + r3.toNat * 4 + 1) Tryd.underlying32 rfl sz29 hA rfl rfl) rfl fun a hA => 
                  stp hA (r_rldQ (j := 1) (q := r3.toNat * 4) (off := 1) A4 B4 [[.int .u32 (c1.getD r3.toNat default).Version]] [[vO], [.int .u32 (c1.getD r3.toNat default).Time]] hc11 hl7 rfl Tryd.underlying29 rfl hI rfl hA rfl) rfl fun a hA => 
                  stp hA (r_rix (j := 0) Tryd.underlying29 sz42 hI rfl hA rfl rfl (by decide) (by decide)) rfl fun a hA => 
                  stp hA (r_fd (k := so (.slice (some ⟨g, 0, none⟩) 1 1) + (0 : Int).toNat * 35 + 0) Tryd.underlying42 rfl sz39 hA rfl rfl) rfl fun a hA => 
                  stp hA (r_fd (k := so (.slice (some ⟨g, 0, none⟩) 1 1) + (0 : Int).toNat * 35 + 32) Tryd.underlying39 rfl sz24 hA rfl rfl) rfl fun a hA => 
                  o_rstPL (j := 0) (q := (0 : Int).toNat * 35) (off := 32) (m' := 1) A6 B6 [av .u8 32 ((c1.getD r3.toNat default).Ins.getD (0 : Int).toNat default).From.Tx] [[.int .u32 ((c1.getD r3.toNat default).Ins.getD (0 : Int).toNat default).From.N]] [[.int .u32 1]] [[vk], [.int .u32 ((c1.getD r3.toNat default).Ins.getD (0 : Int).toNat default).Seq]] hc13 hl9 rfl sz24 rfl rfl (fl_cons (oneC rfl) fl_nil) hI rfl hA rfl rfl rfl (by decide) rfl fun w hI => ?_
                refine o_nil <| hN34 _ _ <| w_reg <| sta hA rfl rfl fun a hA => ?_
                refine o_nil ?_
                cases sJ H
                have hqe := ho.q_eq
                subst hqe
                obtain ⟨μ8, hle9, hsvN, hI⟩ := hI.freezeRow 0 rfl
                have hE16 : Els (RTx μ8) 4 (c1.set r3.toNat (⟨(c1.getD r3.toNat default).Version, (c1.getD r3.toNat default).Ins.set (0 : Int).toNat (⟨(⟨((c1.getD r3.toNat default).Ins.getD (0 : Int).toNat default).From.Tx, 1⟩ : Point), ((c1.getD r3.toNat default).Ins.getD (0 : Int).toNat default).Key, ((c1.getD r3.toNat default).Ins.getD (0 : Int).toNat default).Seq⟩ : In), (c1.getD r3.toNat default).Outs, (c1.getD r3.toNat default).Time⟩ : Tx)) ccc1 := by
                  have := OwnT.put (X := (⟨(c1.getD r3.toNat default).Version, (c1.getD r3.toNat default).Ins.set (0 : Int).toNat (⟨(⟨((c1.getD r3.toNat default).Ins.getD (0 : Int).toNat default).From.Tx, 1⟩ : Point), ((c1.getD r3.toNat default).Ins.getD (0 : Int).toNat default).Key, ((c1.getD r3.toNat default).Ins.getD (0 : Int).toNat default).Seq⟩ : In), (c1.getD r3.toNat default).Outs, (c1.getD r3.toNat default).Time⟩ : Tx)) k2 k3 hle9 (idx_lt hb.1 hb.2) hc11 hl7 hl8 ⟨(.slice (some ⟨g, 0, none⟩) 1 1), vO, rfl, ⟨ho.ver, ⟨_, hE15.mono (fun _ _ h => RIn.le hle9 h), by rw [List.length_set, ho.one]; exact hsvN⟩, Slc.le ho.outs (fun _ _ h => ROut.le hle9 h) hle9, ho.time⟩⟩ hl8
                  rw [hc11]
                  exact this
                have hlen6 : c1.length = (c1.set r3.toNat (⟨(c1.getD r3.toNat default).Version, (c1.getD r3.toNat default).Ins.set (0 : Int).toNat (⟨(⟨((c1.getD r3.toNat default).Ins.getD (0 : Int).toNat default).From.Tx, 1⟩ : Point), ((c1.getD r3.toNat default).Ins.getD (0 : Int).toNat default).Key, ((c1.getD r3.toNat default).Ins.getD (0 : Int).toNat default).Seq⟩ : In), (c1.getD r3.toNat default).Outs, (c1.getD r3.toNat default).Time⟩ : Tx)).length := by simp
                rw [hlen6] at hI
                exact ⟨μ8, ccc1, hI.le, (in_lit .i64 106 rfl), hE16, hA.sub ⟨rfl, rfl, rfl, rfl, rfl, rfl, trivial⟩, hI⟩
              · obtain ⟨hc13, H⟩ := dF H hc13
                refine w_skip ?_
                cases sJ H
                exact ⟨μ2, ccc1, (hi1.le.trans hle1), (in_lit .i64 0 rfl), wc1, hA.sub ⟨rfl, rfl, rfl, rfl, rfl, rfl, trivial⟩, hI⟩
      · rintro a w ⟨μ6, ccc4, hle5, wc2, wc4, hA, hI⟩
        have H := Hk3
        refine w_seq fun _ hN26 => w_reg <| stp hA (r_ldA (j := 1) [] [[.int .u32 0], av .u8 32 (List.replicate 32 0), av .u8 32 (List.replicate 32 0), [.int .u32 0], [.int .u32 1], [.int .u32 0], [vvc1]] [] Tryd.underlying37 rfl sz37 rfl hI rfl hA rfl rfl) rfl fun a hA => ?_
        obtain ⟨r7, hr7, H⟩ := bB H
        refine o_callp (u := .agg [av .u8 32 r7].flatten.toArray) cf7 hA rfl hI ((by obtain ⟨μ11, hle9, hsv6, hI⟩ := hI.freezeRow 0 rfl; have hS5 : Slc (RTx μ11) 4 μ11 vvc1 c4 := ⟨_, (Els.mono wc4 (fun _ _ h => RTx.le hle9 h)), hsv6⟩; exact low_plain hle9 (block_Root.c μ11 _ hI.agr (⟨(⟨0, (List.replicate 32 0), (List.replicate 32 0), 0, 1, 0⟩ : Head), c4⟩ : Block) vvc1 ⟨(in_lit .u32 0 rfl), (arr_zero _ _), (arr_zero _ _), (in_lit .u32 0 rfl), (in_lit .u32 1 rfl), (in_lit .u32 0 rfl), hS5⟩ r7 hr7))) rfl fun a w hz11 hI hA => 
          stp hA (r_fd (k := 0) Tryd.underlying37 rfl sz28 hA rfl rfl) rfl fun a hA => 
          stp hA (r_fd (k := 33) Tryd.underlying28 rfl sz26 hA rfl rfl) rfl fun a hA => 
          o_st (j := 1) [[.int .u32 0], av .u8 32 (List.replicate 32 0)] [av .u8 32 (List.replicate 32 0)] [av .u8 32 r7] [[.int .u32 0], [.int .u32 1], [.int .u32 0], [vvc1]] sz26 rfl rfl (fl_cons (one_av _ _ _) fl_nil) hI rfl hA rfl rfl rfl rfl fun w hI => ?_
        refine o_nil <| hN26 _ _ <| w_seq fun _ hN27 => w_reg <| stp hA (r_ldA (j := 1) [] [[.int .u32 0], av .u8 32 (List.replicate 32 0), av .u8 32 r7, [.int .u32 0], [.int .u32 1], [.int .u32 0], [vvc1]] [] Tryd.underlying37 rfl sz37 rfl hI rfl hA rfl rfl) rfl fun a hA => ?_
        obtain ⟨μ12, hle10, hsv7, hI⟩ := hI.freezeRow 0 rfl
        have hS6 : Slc (RTx μ12) 4 μ12 vvc1 c4 := ⟨_, (Els.mono wc4 (fun _ _ h => RTx.le hle10 h)), hsv7⟩
        obtain ⟨r8, hr8, H⟩ := bB H
        refine o_call _ cf8 hA rfl (block_Check.c μ12 _ hI.agr (⟨(⟨0, (List.replicate 32 0), r7, 0, 1, 0⟩ : Head), c4⟩ : Block) vvc1 ⟨(in_lit .u32 0 rfl), (arr_zero _ _), hz11, (in_lit .u32 0 rfl), (in_lit .u32 1 rfl), (in_lit .u32 0 rfl), hS6⟩ e0 (ErV.le (fun _ _ h => h) (hle5.trans hle10) he0) e1 (ErV.le (fun _ _ h => h) (hle5.trans hle10) he1) e2 (ErV.le (fun _ _ h => h) (hle5.trans hle10) he2) e3 (ErV.le (fun _ _ h => h) (hle5.trans hle10) he3) e4 (ErV.le (fun _ _ h => h) (hle5.trans hle10) he4) e5 (ErV.le (fun _ _ h => h) (hle5.trans hle10) he5) e6 (ErV.le (fun _ _ h => h) (hle5.trans hle10) he6) e7 (ErV.le (fun _ _ h => h) (hle5.trans hle10) he7) r8 hr8) rfl fun v22 a w hz12 hA => ?_
        obtain ⟨_, μ13, rfl, hS7, hi3⟩ := hz12
        have hI := hI.call hi3
        refine sta hA rfl rfl fun a hA => ?_
        refine o_nil <| hN27 _ _ <| w_seq fun _ hN28 => w_seq fun _ hN29 => w_reg <| stm hA rfl rfl fun a hA => 
          stp hA (r_eql hA rfl rfl) rfl fun a hA => ?_
        refine o_nil <| hN29 _ _ <| w_cond hA rfl (fun hc15 => ?_) (fun hc15 => ?_)
        · obtain ⟨hc15, H⟩ := dT H hc15
          obtain ⟨c6, hz13, Hk5⟩ := bB H
          refine w_cut (fun a w => Fr a 146 [(1, .int .i64 r3), (6, .bool c6), (7, .bool r1), (10, .int .i64 c2), (11, .bool c3), (12, v22)] ∧ Iv w0 [] μ μ13 [cel g2 [[.int .u32 0], av .u8 32 (List.replicate 32 0), av .u8 32 r7, [.int .u32 0], [.int .u32 1], [.int .u32 0], [vvc1]] 37] w) ?_ ?_
          · have H := bI hz13
            refine w_reg <| stm hA rfl rfl fun a hA => 
              stm hA rfl rfl fun a hA => ?_
            rcases Bool.eq_false_or_eq_true r1 with hc16 | hc16
            · have hc160 := hc16; have H := bT H hc16
              refine o_yes hA rfl rfl hc160 <| 
                stm hA rfl rfl fun a hA => 
                o_yes hA rfl rfl hc160 <| 
                stp hA (r_eqE erF hI.agr hS7 erv_nil (.inl ⟨.inr ⟨_, rfl⟩, Er.fitR⟩) hA rfl rfl) rfl fun a hA => 
                stp hA (r_pick_t hA rfl hc160 rfl) rfl fun a hA => 
                sta hA rfl rfl fun a hA => ?_
              refine o_nil ?_
              cases sJ H
              exact ⟨hA.sub ⟨rfl, rfl, rfl, rfl, rfl, rfl, trivial⟩, hI⟩
            · have hc160 := hc16; have hc16 := ft hc16; have H := bF H hc16
              refine o_no hA rfl rfl (by rw [hc160]; simp [vb]) rfl fun a hA => 
                o_no hA rfl rfl (by rw [hc160]; simp [vb]) rfl fun a hA => 
                stp hA (r_pick_f hA rfl hc160 rfl) rfl fun a hA => 
                sta hA rfl rfl fun a hA => ?_
              refine o_nil ?_
              cases sJ H
              exact ⟨hA.sub ⟨rfl, rfl, rfl, rfl, rfl, rfl, trivial⟩, hI⟩
          · rintro a w ⟨hA, hI⟩
            have H := Hk5
            refine w_ret ?_
            obtain rfl := sJ H
            exact ret1 hA Tryd.results3 rfl ⟨_, rfl, rfl, trivial, hI.forget0⟩
        · obtain ⟨hc15, H⟩ := dF H hc15
          refine w_skip <| hN28 _ _ ?_
          obtain ⟨c7, hz14, Hk6⟩ := bB H
          refine w_cut (fun a w => Fr a 146 [(6, .bool c7)] ∧ Iv w0 [] μ μ13 [cel g2 [[.int .u32 0], av .u8 32 (List.replicate 32 0), av .u8 32 r7, [.int .u32 0], [.int .u32 1], [.int .u32 0], [vvc1]] 37] w) ?_ ?_
          · have H := bI hz14
            refine w_reg <| stm hA rfl rfl fun a hA => 
              stm hA rfl rfl fun a hA => ?_
            rcases Bool.eq_false_or_eq_true r1 with hc17 | hc17
            · have hc170 := hc17; have H := bT H hc17
              refine o_yes hA rfl rfl hc170 <| 
                stm hA rfl rfl fun a hA => 
                o_yes hA rfl rfl hc170 <| 
                stm hA rfl rfl fun a hA => ?_
              rcases Bool.eq_false_or_eq_true c3 with hc18 | hc18
              · have hc180 := hc18; have H := bT H hc18
                refine o_yes hA rfl rfl hc180 <| 
                  stm hA rfl rfl fun a hA => 
                  o_yes hA rfl rfl hc180 <| 
                  stm hA rfl rfl fun a hA => 
                  o_yes hA rfl rfl hc180 <| 
                  stm hA rfl rfl fun a hA => 
                  o_yes hA rfl rfl hc180 <| ?_
                obtain ⟨r9, hr9, H⟩ := bB H
                refine o_callp (u := .agg [[.int .i64 r9.Code], [.bool r9.Placed], [.int .i64 r9.Pos], [.bool r9.Outer], [.int .i64 r9.At]].flatten.toArray) cf10 hA rfl hI (sargassoref_Placed.c μ13 _ hI.agr c2 wc2 r3 hz3 r9 hr9) rfl fun a w hz15 hI hA => 
                  o_yes hA rfl rfl hc180 <| ?_
                obtain ⟨r10, hr10, H⟩ := bB H
                refine o_callp (u := .bool r10) cf9 hA rfl hI (sargassosee_Same.c μ13 _ hI.agr r8 v22 hS7 r9 ⟨hz15.1, hz15.2.1, hz15.2.2⟩ (Gl.le ((hle5.trans hle10).trans hi3.le) hG) r10 hr10) rfl fun a w hz16 hI hA => 
                  o_yes hA rfl rfl hc170 <| 
                  stp hA (r_pick_t hA rfl hc180 rfl) rfl fun a hA => 
                  o_yes hA rfl rfl hc170 <| 
                  stm hA rfl rfl fun a hA => ?_
                rcases Bool.eq_false_or_eq_true r10 with hc19 | hc19
                · have hc190 := hc19; have H := bT H hc19
                  refine o_no hA rfl rfl (by rw [hc190]; simp [vb]) rfl fun a hA => 
                    o_no hA rfl rfl (by rw [hc190]; simp [vb]) rfl fun a hA => 
                    o_no hA rfl rfl (by rw [hc190]; simp [vb]) rfl fun a hA => 
                    o_no hA rfl rfl (by simp [vb, undef]) rfl fun a hA => 
                    o_no hA rfl rfl (by simp [vb, undef]) rfl fun a hA => 
                    o_no hA rfl rfl (by simp [vb, undef]) rfl fun a hA => 
                    o_no hA rfl rfl (by rw [hc190]; simp [vb]) rfl fun a hA => 
                    o_yes hA rfl rfl hc170 <| 
                    stp hA (r_pick_t hA rfl hc190 rfl) rfl fun a hA => 
                    stp hA (r_pick_t hA rfl hc170 rfl) rfl fun a hA => 
                    sta hA rfl rfl fun a hA => ?_
                  refine o_nil ?_
                  cases sJ H
                  exact ⟨hA.sub ⟨rfl, trivial⟩, hI⟩
                · have hc190 := hc19; have hc19 := ft hc19; have H := bF H hc19
                  refine o_yes hA rfl rfl hc190 <| 
                    stm hA rfl rfl fun a hA => 
                    o_yes hA rfl rfl hc190 <| 
                    stp hA (r_not hA rfl) rfl fun a hA => 
                    o_yes hA rfl rfl hc190 <| 
                    stm hA rfl rfl fun a hA => ?_
                  rcases Bool.eq_false_or_eq_true (!c3) with hc20 | hc20
                  · have hc200 := hc20; have hc20 := nT hc20; have hc20 := ft hc20; have H := bF H hc20
                    refine o_yes hA rfl rfl hc200 <| 
                      stm hA rfl rfl fun a hA => 
                      o_yes hA rfl rfl hc200 <| 
                      stm hA rfl rfl fun a hA => 
                      o_yes hA rfl rfl hc200 <| ?_
                    obtain ⟨r11, hr11, H⟩ := bB H
                    refine o_callp (u := .bool r11) cf11 hA rfl hI (sargassosee_Is.c μ13 _ hI.agr r8 v22 hS7 c2 wc2 (Gl.le ((hle5.trans hle10).trans hi3.le) hG) r11 hr11) rfl fun a w hz17 hI hA => 
                      o_yes hA rfl rfl hc190 <| 
                      stp hA (r_pick_t hA rfl hc200 rfl) rfl fun a hA => 
                      o_yes hA rfl rfl hc170 <| 
                      stp hA (r_pick_f hA rfl hc190 rfl) rfl fun a hA => 
                      stp hA (r_pick_t hA rfl hc170 rfl) rfl fun a hA => 
                      sta hA rfl rfl fun a hA => ?_
                    refine o_nil ?_
                    cases sJ H
                    exact ⟨hA.sub ⟨rfl, trivial⟩, hI⟩
                  · have hc200 := hc20; have hc20 := nF hc20; have H := bT H hc20
                    refine o_no hA rfl rfl (by rw [hc200]; simp [vb]) rfl fun a hA => 
                      o_no hA rfl rfl (by rw [hc200]; simp [vb]) rfl fun a hA => 
                      o_no hA rfl rfl (by rw [hc200]; simp [vb]) rfl fun a hA => 
                      o_yes hA rfl rfl hc190 <| 
                      stp hA (r_pick_f hA rfl hc200 rfl) rfl fun a hA => 
                      o_yes hA rfl rfl hc170 <| 
                      stp hA (r_pick_f hA rfl hc190 rfl) rfl fun a hA => 
                      stp hA (r_pick_t hA rfl hc170 rfl) rfl fun a hA => 
                      sta hA rfl rfl fun a hA => ?_
                    refine o_nil ?_
                    cases sJ H
                    exact ⟨hA.sub ⟨rfl, trivial⟩, hI⟩
              · have hc180 := hc18; have hc18 := ft hc18; have H := bF H hc18
                refine o_no hA rfl rfl (by rw [hc180]; simp [vb]) rfl fun a hA => 
                  o_no hA rfl rfl (by rw [hc180]; simp [vb]) rfl fun a hA => 
                  o_no hA rfl rfl (by rw [hc180]; simp [vb]) rfl fun a hA => 
                  o_no hA rfl rfl (by rw [hc180]; simp [vb]) rfl fun a hA => 
                  o_no hA rfl rfl (by rw [hc180]; simp [vb]) rfl fun a hA => 
                  o_yes hA rfl rfl hc170 <| 
                  stp hA (r_pick_f hA rfl hc180 rfl) rfl fun a hA => 
                  o_yes hA rfl rfl hc170 <| 
                  stm hA rfl rfl fun a hA => 
                  o_yes hA rfl rfl rfl <| 
                  stm hA rfl rfl fun a hA => 
                  o_yes hA rfl rfl rfl <| 
                  stp hA (r_not hA rfl) rfl fun a hA => 
                  o_yes hA rfl rfl rfl <| 
                  stm hA rfl rfl fun a hA => ?_
                rcases Bool.eq_false_or_eq_true (!c3) with hc21 | hc21
                · have hc210 := hc21; have hc21 := nT hc21; have hc21 := ft hc21; have H := bF H hc21
                  refine o_yes hA rfl rfl hc210 <| 
                    stm hA rfl rfl fun a hA => 
                    o_yes hA rfl rfl hc210 <| 
                    stm hA rfl rfl fun a hA => 
                    o_yes hA rfl rfl hc210 <| ?_
                  obtain ⟨r12, hr12, H⟩ := bB H
                  refine o_callp (u := .bool r12) cf11 hA rfl hI (sargassosee_Is.c μ13 _ hI.agr r8 v22 hS7 c2 wc2 (Gl.le ((hle5.trans hle10).trans hi3.le) hG) r12 hr12) rfl fun a w hz18 hI hA => 
                    o_yes hA rfl rfl rfl <| 
                    stp hA (r_pick_t hA rfl hc210 rfl) rfl fun a hA => 
                    o_yes hA rfl rfl hc170 <| 
                    stp hA (r_pick_f hA rfl rfl rfl) rfl fun a hA => 
                    stp hA (r_pick_t hA rfl hc170 rfl) rfl fun a hA => 
                    sta hA rfl rfl fun a hA => ?_
                  refine o_nil ?_
                  cases sJ H
                  exact ⟨hA.sub ⟨rfl, trivial⟩, hI⟩
                · have hc210 := hc21; have hc21 := nF hc21; have H := bT H hc21
                  refine o_no hA rfl rfl (by rw [hc210]; simp [vb]) rfl fun a hA => 
                    o_no hA rfl rfl (by rw [hc210]; simp [vb]) rfl fun a hA => 
                    o_no hA rfl rfl (by rw [hc210]; simp [vb]) rfl fun a hA => 
                    o_yes hA rfl rfl rfl <| 
                    stp hA (r_pick_f hA rfl hc210 rfl) rfl fun a hA => 
                    o_yes hA rfl rfl hc170 <| 
                    stp hA (r_pick_f hA rfl rfl rfl) rfl fun a hA => 
                    stp hA (r_pick_t hA rfl hc170 rfl) rfl fun a hA => 
                    sta hA rfl rfl fun a hA => ?_
                  refine o_nil ?_
                  cases sJ H
                  exact ⟨hA.sub ⟨rfl, trivial⟩, hI⟩
            · have hc170 := hc17; have hc17 := ft hc17; have H := bF H hc17
              refine o_no hA rfl rfl (by rw [hc170]; simp [vb]) rfl fun a hA => 
                o_no hA rfl rfl (by rw [hc170]; simp [vb]) rfl fun a hA => 
                o_no hA rfl rfl (by simp [vb, undef]) rfl fun a hA => 
                o_no hA rfl rfl (by simp [vb, undef]) rfl fun a hA => 
                o_no hA rfl rfl (by simp [vb, undef]) rfl fun a hA => 
                o_no hA rfl rfl (by simp [vb, undef]) rfl fun a hA => 
                o_no hA rfl rfl (by simp [vb, undef]) rfl fun a hA => 
                o_no hA rfl rfl (by rw [hc170]; simp [vb]) rfl fun a hA => 
                o_no hA rfl rfl (by rw [hc170]; simp [vb]) rfl fun a hA => 
                o_no hA rfl rfl (by simp [vb, undef]) rfl fun a hA => 
                o_no hA rfl rfl (by simp [vb, undef]) rfl fun a hA => 
                o_no hA rfl rfl (by simp [vb, undef]) rfl fun a hA => 
                o_no hA rfl rfl (by simp [vb, undef]) rfl fun a hA => 
                o_no hA rfl rfl (by simp [vb, undef]) rfl fun a hA => 
                o_no hA rfl rfl (by simp [vb, undef]) rfl fun a hA => 
                o_no hA rfl rfl (by simp [vb, undef]) rfl fun a hA => 
                o_no hA rfl rfl (by rw [hc170]; simp [vb]) rfl fun a hA => 
                stp hA (r_pick_f hA rfl hc170 rfl) rfl fun a hA => 
                sta hA rfl rfl fun a hA => ?_
              refine o_nil ?_
              cases sJ H
              exact ⟨hA.sub ⟨rfl, trivial⟩, hI⟩
          · rintro a w ⟨hA, hI⟩
            have H := Hk6
            refine w_ret ?_
            obtain rfl := sJ H
            exact ret1 hA Tryd.results3 rfl ⟨_, rfl, rfl, trivial, hI.forget0⟩
end Go.Proofs.YtkfpmcplfodikaaDoor.T
namespace Go.Proofs.YtkfpmcplfodikaaDoor.T
open Go Go.Proofs Go.Proofs.YtkfpmcplfodikaaDoor.K
set_option linter.unusedVariables false
theorem w64 {x : Int} (h0 : -9223372036854775808 ≤ x) (h1 : x < 9223372036854775808) : IntKind.i64.wrap x = x := wrap_id ⟨h0, h1⟩
theorem wu64 {x : Int} (h0 : 0 ≤ x) (h1 : x < 18446744073709551616) : IntKind.u64.wrap x = x := wrap_id ⟨h0, h1⟩
theorem wu32 {x : Int} (h0 : 0 ≤ x) (h1 : x < 4294967296) : IntKind.u32.wrap x = x := wrap_id ⟨h0, h1⟩
theorem number_eq {x n : Int} (hx : InR .i64 x) (h0 : 0 < n) (h1 : n < 9223372036854775808) : ∃ y, sargassoworld_Number.f x n = some y ∧ 0 ≤ y ∧ y < n := by
  obtain ⟨a, b⟩ := hx
  have hn : n ≠ 0 := by omega
  unfold sargassoworld_Number.f
  rw [if_pos hn]
  have hb : -n < Int.tmod x n ∧ Int.tmod x n < n := by
    rcases Int.le_total 0 x with h | h
    · rw [Int.tmod_eq_emod_of_nonneg h]; have := Int.emod_nonneg x hn; have := Int.emod_lt_of_pos x h0; omega
    · have e : Int.tmod x n = -(Int.tmod (-x) n) := by rw [Int.neg_tmod, Int.neg_neg]
      rw [e, Int.tmod_eq_emod_of_nonneg (by omega)]; have := Int.emod_nonneg (-x) hn; have := Int.emod_lt_of_pos (-x) h0; omega
  by_cases hc : Int.tmod x n < 0
  · rw [if_pos hc]
    exact ⟨_, rfl, by rw [w64 (by omega) (by omega)]; omega, by rw [w64 (by omega) (by omega)]; omega⟩
  · rw [if_neg hc]
    exact ⟨_, rfl, by omega, by omega⟩
end Go.Proofs.YtkfpmcplfodikaaDoor.T
namespace Go.Proofs.YtkfpmcplfodikaaDoor.T
open Go Go.Proofs Go.Proofs.YtkfpmcplfodikaaDoor.K
set_option linter.unusedVariables false
set_option linter.unusedSimpArgs false
theorem loop_idx {τ ρ : Type} {step : τ → Option (τ ⊕ ρ)} (st : Nat → τ) (n : Nat) (h : ∀ i, i < n → step (st i) = some (.inl (st (i + 1)))) : loopO step (st 0) = loopO step (st n) := by
  induction n with
  | zero => rfl
  | succ n ih => rw [ih (fun i hi => h i (by omega)), loopO_inl (h n (by omega))]
theorem loop_run {τ ρ : Type} {step : τ → Option (τ ⊕ ρ)} (st : Nat → τ) (n : Nat) {r : ρ} {s : τ} (h0 : s = st 0) (h : ∀ i, i < n → step (st i) = some (.inl (st (i + 1)))) (hn : step (st n) = some (.inr r)) : loopO step s = some r := by
  rw [h0, loop_idx st n h, loopO_inr hn]
theorem bv_nat (n a : Nat) (h : a < 2 ^ n) : (BitVec.ofInt n (a : Int)).toNat = a := by
  rw [BitVec.toNat_ofInt]
  have : ((a : Int) % ((2 ^ n : Nat) : Int)) = a := Int.emod_eq_of_lt (by omega) (by exact_mod_cast h)
  rw [this]
  rfl
theorem in_u (k : IntKind) (hk : k.signed = false) {a : Nat} (h : a < 2 ^ k.bits) : InR k (a : Int) := by
  cases k <;> simp [IntKind.signed] at hk <;> simp [IntKind.bits] at h <;> simp [InR] <;> omega
theorem bAnd_nat (k : IntKind) (hk : k.signed = false) {a b : Nat} (ha : a < 2 ^ k.bits) (hb : b < 2 ^ k.bits) : bAnd k a b = ((a &&& b : Nat) : Int) := by
  unfold bAnd
  rw [BitVec.toNat_and, bv_nat _ _ ha, bv_nat _ _ hb]
  exact wrap_id (in_u k hk (Nat.lt_of_le_of_lt Nat.and_le_left ha))
theorem bOr_nat (k : IntKind) (hk : k.signed = false) {a b : Nat} (ha : a < 2 ^ k.bits) (hb : b < 2 ^ k.bits) : bOr k a b = ((a ||| b : Nat) : Int) := by
  unfold bOr
  rw [BitVec.toNat_or, bv_nat _ _ ha, bv_nat _ _ hb]
  exact wrap_id (in_u k hk (Nat.or_lt_two_pow ha hb))
theorem bXor_nat (k : IntKind) (hk : k.signed = false) {a b : Nat} (ha : a < 2 ^ k.bits) (hb : b < 2 ^ k.bits) : bXor k a b = ((a ^^^ b : Nat) : Int) := by
  unfold bXor
  rw [BitVec.toNat_xor, bv_nat _ _ ha, bv_nat _ _ hb]
  exact wrap_id (in_u k hk (Nat.xor_lt_two_pow ha hb))
theorem sR_nat (k : IntKind) {a n : Nat} (hn : n ≤ k.bits) : sR k (a : Int) (n : Int) = ((a >>> n : Nat) : Int) := by
  unfold sR
  have e : min (n : Int).toNat k.bits = n := by simp; omega
  rw [e, Nat.shiftRight_eq_div_pow]
  rw [Int.fdiv_eq_ediv_of_nonneg _ (by exact Int.pow_nonneg (by omega))]
  push_cast
  rfl
theorem and_low (n i : Nat) : n &&& (2 ^ i - 1) = n % 2 ^ i := Nat.and_two_pow_sub_one_eq_mod n i
end Go.Proofs.YtkfpmcplfodikaaDoor.T
namespace Go.Proofs.YtkfpmcplfodikaaDoor.T
open Go Go.Proofs Go.Proofs.YtkfpmcplfodikaaDoor.K
set_option linter.unusedVariables false
set_option linter.unusedSimpArgs false
def rotr (x n : Int) : Int := bOr .u32 (sR .u32 x n) (sL .u32 x (32 - n))
def wordAt (b : List Int) (p : Nat) : Int :=
  bOr .u32 (bOr .u32 (bOr .u32 (sL .u32 (IntKind.u32.wrap (b.getD p 0)) 24) (sL .u32 (IntKind.u32.wrap (b.getD (p + 1) 0)) 16)) (sL .u32 (IntKind.u32.wrap (b.getD (p + 2) 0)) 8)) (IntKind.u32.wrap (b.getD (p + 3) 0))
def sg0 (y : Int) : Int := bXor .u32 (bXor .u32 (rotr y 7) (rotr y 18)) (sR .u32 y 3)
def sg1 (x : Int) : Int := bXor .u32 (bXor .u32 (rotr x 17) (rotr x 19)) (sR .u32 x 10)
def schedVal (b : List Int) (p : Nat) (w : List Int) (t : Nat) : Int :=
  if t < 16 then wordAt b (p + 4 * t) else IntKind.u32.wrap (w.getD (t - 16) 0 + sg0 (w.getD (t - 15) 0) + w.getD (t - 7) 0 + sg1 (w.getD (t - 2) 0))
def schedR (b : List Int) (p : Nat) : Nat → List Int
  | 0 => List.replicate 64 0
  | t + 1 => (fun w => w.set t (schedVal b p w t)) (schedR b p t)
def kc : List Int := digest_keys.lit0
def rt1 (x : List Int) (k w : Int) : Int := IntKind.u32.wrap (x.getD 7 0 + bXor .u32 (bXor .u32 (rotr (x.getD 4 0) 6) (rotr (x.getD 4 0) 11)) (rotr (x.getD 4 0) 25) + bXor .u32 (bAnd .u32 (x.getD 4 0) (x.getD 5 0)) (bAnd .u32 (bNot .u32 (x.getD 4 0)) (x.getD 6 0)) + k + w)
def rt2 (x : List Int) : Int := bXor .u32 (bXor .u32 (rotr (x.getD 0 0) 2) (rotr (x.getD 0 0) 13)) (rotr (x.getD 0 0) 22) + bXor .u32 (bXor .u32 (bAnd .u32 (x.getD 0 0) (x.getD 1 0)) (bAnd .u32 (x.getD 0 0) (x.getD 2 0))) (bAnd .u32 (x.getD 1 0) (x.getD 2 0))
def rstep (x : List Int) (k w : Int) : List Int :=
  [IntKind.u32.wrap (rt1 x k w + rt2 x), x.getD 0 0, x.getD 1 0, x.getD 2 0, IntKind.u32.wrap (x.getD 3 0 + rt1 x k w), x.getD 4 0, x.getD 5 0, x.getD 6 0]
def roundR (w s : List Int) : Nat → List Int
  | 0 => s
  | t + 1 => rstep (roundR w s t) (kc.getD t 0) (w.getD t 0)
def addR (x s : List Int) : Nat → List Int
  | 0 => s
  | i + 1 => (fun z => z.set i (IntKind.u32.wrap (z.getD i 0 + x.getD i 0))) (addR x s i)
def mixV (s b : List Int) (p : Nat) : List Int := addR (roundR (schedR b p 64) s 64) s 8
def blocksR (m s : List Int) : Nat → List Int
  | 0 => s
  | n + 1 => mixV (blocksR m s n) m (64 * n)
def iv0 : List Int := [1779033703, 3144134277, 1013904242, 2773480762, 1359893119, 2600822924, 528734635, 1541459225]
def outB (s : List Int) (i : Nat) : Int := IntKind.u8.wrap (sR .u32 (s.getD (i / 4) 0) (24 - 8 * ((i % 4 : Nat) : Int)))
def outL (s : List Int) : List Int := (List.range 32).map (outB s)
def zs (n : Nat) : Nat := (120 - n % 64) % 64
def lenB (n i : Nat) : Int := IntKind.u8.wrap (sR .u64 (IntKind.u64.wrap (8 * (n : Int))) (8 * (7 - (i : Int))))
def padR (m : List Int) : List Int := m ++ ([128] ++ (List.replicate (zs (m.length + 1)) 0 ++ (List.range 8).map (lenB m.length)))
def sha (m : List Int) : List Int := outL (blocksR (padR m) iv0 ((padR m).length / 64))
end Go.Proofs.YtkfpmcplfodikaaDoor.T
namespace Go.Proofs.YtkfpmcplfodikaaDoor.T
open Go Go.Proofs Go.Proofs.YtkfpmcplfodikaaDoor.K
set_option linter.unusedVariables false
set_option linter.unusedSimpArgs false
theorem u32e (x : Int) : IntKind.u32.wrap x = x % 4294967296 := by simp [IntKind.wrap, IntKind.signed, IntKind.bits]
theorem wl (a b : Int) : IntKind.u32.wrap (IntKind.u32.wrap a + b) = IntKind.u32.wrap (a + b) := by simp only [u32e]; omega
theorem wr (a b : Int) : IntKind.u32.wrap (a + IntKind.u32.wrap b) = IntKind.u32.wrap (a + b) := by simp only [u32e]; omega
theorem bOr_comm (k : IntKind) (a b : Int) : bOr k a b = bOr k b a := by unfold bOr; rw [BitVec.or_comm]
theorem turn_f (x n : Int) (h0 : 0 < n) (h1 : n < 32) : digest_turn.f x n = some (rotr x n) := by
  simp only [digest_turn.f, math_bits_RotateLeft32.f, rotr]
  have e1 : IntKind.i64.wrap (0 - n) = -n := by rw [w64 (by omega) (by omega)]; omega
  have e2 : IntKind.u64.wrap (-n) = 18446744073709551616 - n := by
    simp [IntKind.wrap, IntKind.signed, IntKind.bits]
    omega
  obtain ⟨m, rfl⟩ : ∃ m : Nat, n = m := ⟨n.toNat, by omega⟩
  have e3 : bAnd .u64 (18446744073709551616 - (m : Int)) 31 = 32 - (m : Int) := by
    have h := bAnd_nat .u64 rfl (a := 18446744073709551616 - m) (b := 31) (by simp [IntKind.bits]; omega) (by simp [IntKind.bits])
    have e : ((18446744073709551616 - m : Nat) : Int) = 18446744073709551616 - (m : Int) := by omega
    rw [e] at h
    have h' : (18446744073709551616 - m) &&& 31 = (18446744073709551616 - m) % 32 := and_low _ 5
    rw [h'] at h
    rw [show ((31 : Nat) : Int) = 31 from rfl] at h
    rw [h]
    omega
  rw [e1, e2, e3, wu64 (x := 32 - (32 - (m : Int))) (by omega) (by omega), if_pos (by omega), if_pos (by omega)]
  have e4 : 32 - (32 - (m : Int)) = m := by omega
  rw [e4, bOr_comm]
  rfl
theorem schedR_len (b : List Int) (p t : Nat) : (schedR b p t).length = 64 := by
  induction t with
  | zero => simp [schedR]
  | succ t ih => simp [schedR, ih]
theorem getD_drop' (l : List Int) (a i : Nat) : (l.drop a).getD i 0 = l.getD (a + i) 0 := by simp [List.getD]
theorem getD_take' (l : List Int) (a i : Nat) (h : i < a) : (l.take a).getD i 0 = l.getD i 0 := by simp [List.getD, h]
theorem wsub (i c : Nat) (hc : c ≤ i) (hi : i < 1000) : IntKind.i64.wrap ((i : Int) - (c : Nat)) = ((i - c : Nat) : Int) := by
  rw [w64 (by omega) (by omega)]; omega
theorem wadd1 (i : Nat) (hi : i < 9223372036854775807) : IntKind.i64.wrap ((i : Int) + 1) = ((i + 1 : Nat) : Int) := by
  rw [w64 (by omega) (by omega)]; omega
theorem wmul4 (i : Nat) (hi : i < 1000) : IntKind.i64.wrap (4 * (i : Int)) = ((4 * i : Nat) : Int) := by
  rw [w64 (by omega) (by omega)]; omega
theorem spread_step (b : List Int) (h : b.length = 64) (w : List Int) (i : Nat) (hi : i < 64) : digest_spread.s0 b ((i : Int), w) = some (.inl (((i + 1 : Nat) : Int), w.set i (schedVal b 0 w i))) := by
  simp only [digest_spread.s0]
  rw [if_pos (by omega)]
  by_cases h16 : i < 16
  · have hl : (b.take ((b.length : Int)).toNat).drop (IntKind.i64.wrap (4 * (i : Int))).toNat = b.drop (4 * i) := by
      rw [wmul4 i (by omega), Int.toNat_natCast, Int.toNat_natCast, List.take_length]
    have hll : (b.drop (4 * i)).length = 64 - 4 * i := by simp [h]
    rw [if_pos (by omega), hl, hll, wmul4 i (by omega), if_pos (by omega), if_pos (by omega), if_pos (by omega), if_pos (by omega), if_pos (by omega), if_pos (by omega)]
    simp only [Option.bind_some, getD_drop', Int.toNat_natCast]
    rw [wadd1 i (by omega)]
    simp only [schedVal, if_pos h16, wordAt, Nat.zero_add]
    rfl
  · have e2 := wsub i 2 (by omega) (by omega)
    have e7 := wsub i 7 (by omega) (by omega)
    have e15 := wsub i 15 (by omega) (by omega)
    have e16 := wsub i 16 (by omega) (by omega)
    simp only [show ((2 : Nat) : Int) = 2 from rfl, show ((7 : Nat) : Int) = 7 from rfl, show ((15 : Nat) : Int) = 15 from rfl, show ((16 : Nat) : Int) = 16 from rfl] at e2 e7 e15 e16
    rw [if_neg (by omega), e2, e7, e15, e16, if_pos (by omega), if_pos (by omega), if_pos (by omega), if_pos (by omega)]
    simp only [Int.toNat_natCast, turn_f _ 17 (by omega) (by omega), turn_f _ 19 (by omega) (by omega), turn_f _ 7 (by omega) (by omega), turn_f _ 18 (by omega) (by omega), Option.bind_some]
    rw [if_pos (by omega), wadd1 i (by omega)]
    simp only [Option.bind_some, schedVal, if_neg h16, sg0, sg1]
    congr 4
    simp only [wl, wr]
    congr 1
    omega
theorem spread_eq (b : List Int) (h : b.length = 64) : digest_spread.f b = some (schedR b 0 64) := by
  simp only [digest_spread.f]
  have e := loop_run (step := digest_spread.s0 b) (s := (0, List.replicate 64 0)) (fun i => ((i : Int), schedR b 0 i)) 64 (r := schedR b 0 64) rfl (fun i hi => by
    rw [spread_step b h _ i hi]
    rfl) (by simp only [digest_spread.s0]; rw [if_neg (by decide)])
  rw [e]
  rfl
theorem mix0_step (w x : List Int) (i : Nat) (hi : i < 64) : digest_mix.s0 w digest_keys.lit0 ((i : Int), x) = some (.inl (((i + 1 : Nat) : Int), rstep x (kc.getD i 0) (w.getD i 0))) := by
  simp only [digest_mix.s0]
  rw [if_pos (by omega)]
  simp only [turn_f _ 6 (by omega) (by omega), turn_f _ 11 (by omega) (by omega), turn_f _ 25 (by omega) (by omega), turn_f _ 2 (by omega) (by omega), turn_f _ 13 (by omega) (by omega), turn_f _ 22 (by omega) (by omega), Option.bind_some, Int.toNat_natCast]
  rw [if_pos (by omega), wadd1 i (by omega)]
  simp only [rstep, rt1, rt2, kc, wl, wr, show (0 : Int).toNat = 0 from rfl, show (1 : Int).toNat = 1 from rfl, show (2 : Int).toNat = 2 from rfl, show (3 : Int).toNat = 3 from rfl, show (4 : Int).toNat = 4 from rfl, show (5 : Int).toNat = 5 from rfl, show (6 : Int).toNat = 6 from rfl, show (7 : Int).toNat = 7 from rfl]
theorem mix_eq (s b : List Int) (h : b.length = 64) : digest_mix.f s b = some (mixV s b 0) := by
  simp only [digest_mix.f, spread_eq b h, digest_keys.f, Option.bind_some]
  have e := loop_run (step := digest_mix.s0 (schedR b 0 64) digest_keys.lit0) (s := (0, s)) (fun i => ((i : Int), roundR (schedR b 0 64) s i)) 64 (r := roundR (schedR b 0 64) s 64) rfl (fun i hi => by
    rw [mix0_step _ _ i hi]
    rfl) (by simp only [digest_mix.s0]; rw [if_neg (by decide)])
  rw [e]
  simp only [Option.bind_some]
  have e := loop_run (step := digest_mix.s1 (roundR (schedR b 0 64) s 64)) (s := (0, s)) (fun i => ((i : Int), addR (roundR (schedR b 0 64) s 64) s i)) 8 (r := mixV s b 0) rfl (fun i hi => by
    simp only [digest_mix.s1]
    rw [if_pos (by omega), if_pos (by omega), wadd1 i (by omega)]
    simp only [Int.toNat_natCast, addR]) (by simp only [digest_mix.s1]; rw [if_neg (by decide)]; rfl)
  rw [e]
  rfl
theorem wordAt_in (m : List Int) (a n t : Nat) (h : t < 16) : wordAt ((m.take (a + 64)).drop a) (4 * t) = wordAt m (a + 4 * t) := by
  have e : ∀ j, j < 64 → ((m.take (a + 64)).drop a).getD j 0 = m.getD (a + j) 0 := fun j hj => by
    rw [getD_drop', getD_take' _ _ _ (by omega)]
  simp only [wordAt]
  rw [e _ (by omega), e _ (by omega), e _ (by omega), e _ (by omega)]
  simp only [Nat.add_assoc]
theorem schedR_in (m : List Int) (a t : Nat) : schedR ((m.take (a + 64)).drop a) 0 t = schedR m a t := by
  induction t with
  | zero => rfl
  | succ t ih =>
    simp only [schedR, ih]
    congr 1
    simp only [schedVal]
    by_cases h : t < 16
    · simp only [if_pos h, Nat.zero_add]
      exact wordAt_in m a 0 t h
    · simp only [if_neg h]
theorem mixV_in (s m : List Int) (a : Nat) : mixV s ((m.take (a + 64)).drop a) 0 = mixV s m a := by
  simp only [mixV, schedR_in]
theorem wordAt_app (m l : List Int) (p : Nat) (h : p + 3 < m.length) : wordAt (m ++ l) p = wordAt m p := by
  have e : ∀ j, j < m.length → (m ++ l).getD j 0 = m.getD j 0 := fun j hj => by simp [List.getD, List.getElem?_append_left hj]
  simp only [wordAt]
  rw [e _ (by omega), e _ (by omega), e _ (by omega), e _ (by omega)]
theorem schedR_app (m l : List Int) (p t : Nat) (h : p + 64 ≤ m.length) : schedR (m ++ l) p t = schedR m p t := by
  induction t with
  | zero => rfl
  | succ t ih =>
    simp only [schedR, ih]
    congr 1
    simp only [schedVal]
    by_cases h : t < 16
    · simp only [if_pos h]
      exact wordAt_app m l _ (by omega)
    · simp only [if_neg h]
theorem blocksR_app (m l s : List Int) (n : Nat) (h : 64 * n ≤ m.length) : blocksR (m ++ l) s n = blocksR m s n := by
  induction n with
  | zero => rfl
  | succ n ih =>
    simp only [blocksR, ih (by omega), mixV]
    rw [schedR_app _ _ _ _ (by omega)]
theorem mixV_drop (s m : List Int) (q a : Nat) : mixV s (m.drop q) a = mixV s m (q + a) := by
  have hw : ∀ p, wordAt (m.drop q) p = wordAt m (q + p) := fun p => by
    simp only [wordAt, getD_drop', Nat.add_assoc]
  have hs : ∀ t, schedR (m.drop q) a t = schedR m (q + a) t := fun t => by
    induction t with
    | zero => rfl
    | succ t ih =>
      simp only [schedR, ih]
      congr 1
      simp only [schedVal, hw, Nat.add_assoc]
  simp only [mixV, hs]
end Go.Proofs.YtkfpmcplfodikaaDoor.T
namespace Go.Proofs.YtkfpmcplfodikaaDoor.T
open Go Go.Proofs Go.Proofs.YtkfpmcplfodikaaDoor.K
set_option linter.unusedVariables false
set_option linter.unusedSimpArgs false
def WIn (w : digestWriter) (m : List Int) : Prop := w.n = m.length ∧ w.rest = m.drop (64 * (m.length / 64)) ∧ (64 ≤ m.length → w.s = blocksR m iv0 (m.length / 64))
theorem clone_eq (xs : List Int) (h : xs.length ≤ 140737488355328) : bytes_Clone.f xs = some xs := by
  unfold bytes_Clone.f
  rw [if_pos h]
theorem state_eq {w : digestWriter} {m : List Int} (h : WIn w m) : digest_Writer_state.f w = some (blocksR m iv0 (m.length / 64)) := by
  obtain ⟨h1, h2, h3⟩ := h
  simp only [digest_Writer_state.f, digest_begin.f, Option.bind_some, h1]
  by_cases hc : m.length < 64
  · rw [if_pos (by omega), Nat.div_eq_of_lt hc]
    rfl
  · rw [if_neg (by omega), h3 (by omega)]
theorem write_eq {w : digestWriter} {m b : List Int} (h : WIn w m) (hb : m.length + b.length ≤ 1000000) : ∃ w', digest_Writer_Write.f w b = some w' ∧ WIn w' (m ++ b) := by
  have hs := state_eq h
  obtain ⟨h1, h2, h3⟩ := h
  generalize hq : m.length / 64 = q at hs h2
  have hq1 : 64 * q ≤ m.length := by omega
  have hR : w.rest ++ b = (m ++ b).drop (64 * q) := by rw [h2, List.drop_append_of_le_length hq1]
  have hRl : (w.rest ++ b).length = m.length + b.length - 64 * q := by rw [hR]; simp
  generalize hRe : w.rest ++ b = R at hR hRl
  generalize hc : R.length / 64 = c
  have hloop : loopO digest_Writer_Write.s0 (0, blocksR m iv0 q, R) = some (((64 * c : Nat) : Int), blocksR (m ++ b) iv0 (q + c), R) := by
    refine loop_run (fun i => (((64 * i : Nat) : Int), blocksR (m ++ b) iv0 (q + i), R)) c ?_ (fun i hi => ?_) ?_
    · rw [Nat.add_zero, blocksR_app _ _ _ _ hq1]; rfl
    · simp only [digest_Writer_Write.s0]
      have e : IntKind.i64.wrap (((64 * i : Nat) : Int) + 64) = ((64 * i + 64 : Nat) : Int) := by rw [w64 (by omega) (by omega)]; omega
      rw [e, if_pos (by omega), if_pos (by omega), Int.toNat_natCast, Int.toNat_natCast, mix_eq _ _ (by simp; omega)]
      simp only [Option.bind_some]
      rw [mixV_in, hR, mixV_drop, ← Nat.mul_add]
      rfl
    · simp only [digest_Writer_Write.s0]
      rw [w64 (by omega) (by omega), if_neg (by omega)]
  refine ⟨⟨blocksR (m ++ b) iv0 (q + c), R.drop (64 * c), m.length + b.length⟩, ?_, by simp, ?_, fun _ => ?_⟩
  · simp only [digest_Writer_Write.f]
    have hs' : digest_Writer_state.f ⟨w.s, w.rest, w.n⟩ = some (blocksR m iv0 q) := hs
    have hw : w.rest.length + b.length = R.length := by rw [← hRe, List.length_append]
    rw [hs', hRe, hw]
    simp only [Option.bind_some]
    rw [if_pos (by omega), hloop]
    simp only [Option.bind_some]
    rw [if_pos (by omega), Int.toNat_natCast, Int.toNat_natCast, List.take_length, clone_eq _ (by simp; omega)]
    simp only [Option.bind_some]
    rw [h1, w64 (by omega) (by omega)]
  · have : 64 * ((m ++ b).length / 64) = 64 * q + 64 * c := by rw [List.length_append]; omega
    rw [this, hR, List.drop_drop]
  · have : (m ++ b).length / 64 = q + c := by rw [List.length_append]; omega
    rw [this]
theorem set_next {α : Type} (f : Nat → α) (n j : Nat) (z : α) (h : j < n) : ((List.range j).map f ++ List.replicate (n - j) z).set j (f j) = (List.range (j + 1)).map f ++ List.replicate (n - (j + 1)) z := by
  obtain ⟨k, hk⟩ : ∃ k, n - j = k + 1 := ⟨n - j - 1, by omega⟩
  have hk' : n - (j + 1) = k := by omega
  rw [hk, hk', List.set_append_right _ _ (by simp), List.range_succ, List.map_append, List.append_assoc]
  simp [List.replicate_succ]
theorem zeros_loop (step : List Int → Option (List Int ⊕ List Int)) (hs : ∀ l, step l = (if (Int.tmod (l.length : Int) 64) ≠ 56 then (if l.length + 1 ≤ 140737488355328 then some (.inl (l ++ ([0] : List Int))) else none) else some (.inr l)))
    (l : List Int) (h : l.length ≤ 2000000) : loopO step l = some (l ++ List.replicate (zs l.length) 0) := by
  refine loop_run (fun i => l ++ List.replicate i 0) (zs l.length) (by simp) (fun i hi => ?_) ?_
  · rw [hs, if_pos ?_, if_pos (by simp [zs] at hi ⊢; omega)]
    · simp [List.replicate_succ', List.append_assoc]
    · rw [List.length_append, List.length_replicate, Int.tmod_eq_emod_of_nonneg (by omega)]
      simp only [zs] at hi
      omega
  · rw [hs, if_neg ?_]
    rw [List.length_append, List.length_replicate, Int.tmod_eq_emod_of_nonneg (by omega)]
    simp only [zs]
    omega
theorem range_map_succ {α : Type} (f : Nat → α) (i : Nat) : (List.range (i + 1)).map f = (List.range i).map f ++ [f i] := by rw [List.range_succ, List.map_append]; rfl
theorem lenB_digest (n i : Nat) (hn : n ≤ 1000000) (hi : i < 8) : IntKind.u8.wrap (sR .u64 (sL .u64 (IntKind.u64.wrap (n : Int)) 3) (IntKind.i64.wrap (8 * (7 - (i : Int))))) = lenB n i := by
  have e1 : sL .u64 (IntKind.u64.wrap (n : Int)) 3 = IntKind.u64.wrap (8 * (n : Int)) := by
    rw [wu64 (by omega) (by omega)]
    simp only [sL, show (3 : Int).toNat = 3 from rfl]
    rw [show ((2 : Int) ^ (min 3 IntKind.u64.bits)) = 8 from rfl, Int.mul_comm]
  rw [e1, w64 (by omega) (by omega)]
  rfl
theorem padR_len (m : List Int) : (padR m).length = m.length + 1 + zs (m.length + 1) + 8 := by
  simp [padR]; omega
theorem padR_mod (m : List Int) : (padR m).length % 64 = 0 := by
  rw [padR_len]; simp only [zs]; omega
theorem out_eq4 (s : List Int) (i : Nat) (hi : i < 8) : loopO (digest_Writer_Sum.s4 s (i : Int)) (0, (List.range (4 * i)).map (outB s) ++ List.replicate (32 - 4 * i) 0) = some ((List.range (4 * (i + 1))).map (outB s) ++ List.replicate (32 - 4 * (i + 1)) 0) := by
  refine loop_run (fun k => ((k : Int), (List.range (4 * i + k)).map (outB s) ++ List.replicate (32 - (4 * i + k)) 0)) 4 (by simp) (fun k hk => ?_) ?_
  · simp only [digest_Writer_Sum.s4]
    have e1 : IntKind.i64.wrap (24 - IntKind.i64.wrap (8 * (k : Int))) = 24 - 8 * (k : Int) := by
      rw [w64 (x := 8 * (k : Int)) (by omega) (by omega), w64 (by omega) (by omega)]
    have e2 : IntKind.i64.wrap (IntKind.i64.wrap (4 * (i : Int)) + (k : Int)) = ((4 * i + k : Nat) : Int) := by
      rw [w64 (x := 4 * (i : Int)) (by omega) (by omega), w64 (by omega) (by omega)]; omega
    rw [if_pos (by omega), e1, e2, if_pos (by omega), if_pos (by omega), wadd1 k (by omega), Int.toNat_natCast, Int.toNat_natCast]
    have e3 : IntKind.u8.wrap (sR .u32 (s.getD i 0) (24 - 8 * (k : Int))) = outB s (4 * i + k) := by
      have a1 : (4 * i + k) / 4 = i := by omega
      have a2 : (4 * i + k) % 4 = k := by omega
      simp only [outB, a1, a2]
    rw [e3, set_next _ _ _ _ (by omega)]
    rfl
  · simp only [digest_Writer_Sum.s4]
    rw [if_neg (by decide)]
    rfl
theorem out_eq (s : List Int) : loopO (digest_Writer_Sum.s3 s) (0, List.replicate 32 0) = some (outL s) := by
  refine loop_run (fun i => ((i : Int), (List.range (4 * i)).map (outB s) ++ List.replicate (32 - 4 * i) 0)) 8 (by simp) (fun i hi => ?_) ?_
  · simp only [digest_Writer_Sum.s3]
    rw [if_pos (by omega), if_pos (by omega), out_eq4 s i hi]
    simp only [Option.bind_some]
    rw [wadd1 i (by omega)]
  · simp only [digest_Writer_Sum.s3]
    rw [if_neg (by decide)]
    rfl
theorem sum_eq' {w : digestWriter} {m : List Int} (h : WIn w m) (hb : m.length ≤ 1000000) : digest_Writer_Sum.f w = some (sha m) := by
  have hs := state_eq h
  obtain ⟨h1, h2, h3⟩ := h
  generalize hq : m.length / 64 = q at hs h2
  have hq1 : 64 * q ≤ m.length := by omega
  have hrl : w.rest.length = m.length - 64 * q := by rw [h2]; simp
  have hz : zs (w.rest ++ [128]).length = zs (m.length + 1) := by simp only [List.length_append, hrl, zs, List.length_cons, List.length_nil]; omega
  have hz64 : zs (m.length + 1) < 64 := by simp only [zs]; omega
  have hC : w.rest ++ [128] ++ List.replicate (zs (m.length + 1)) 0 ++ (List.range 8).map (lenB m.length) = (padR m).drop (64 * q) := by
    rw [h2, padR, List.drop_append_of_le_length hq1]
    simp only [List.append_assoc]
  have hl1 : loopO (digest_Writer_Sum.s1 w) (w.rest ++ [128] ++ List.replicate (zs (m.length + 1)) 0, 7) = some ((padR m).drop (64 * q)) := by
    refine loop_run (fun i => (w.rest ++ [128] ++ List.replicate (zs (m.length + 1)) 0 ++ (List.range i).map (lenB m.length), 7 - (i : Int))) 8 (by simp) (fun i hi => ?_) ?_
    · simp only [digest_Writer_Sum.s1]
      rw [if_pos (by omega), if_pos (by rw [w64 (by omega) (by omega)]; omega), if_pos (by simp; omega), h1, lenB_digest _ _ hb hi, w64 (by omega) (by omega)]
      congr 2
      rw [range_map_succ, ← List.append_assoc]
      congr 1
      omega
    · simp only [digest_Writer_Sum.s1]
      rw [if_neg (by decide), hC]
  have hpl := padR_len m
  have hpm := padR_mod m
  have hCl : ((padR m).drop (64 * q)).length = (padR m).length - 64 * q := by simp
  generalize hc : ((padR m).drop (64 * q)).length / 64 = c at *
  have hl2 : loopO digest_Writer_Sum.s2 ((padR m).drop (64 * q), 0, blocksR m iv0 q) = some ((padR m).drop (64 * q), blocksR (padR m) iv0 (q + c)) := by
    refine loop_run (fun i => ((padR m).drop (64 * q), ((64 * i : Nat) : Int), blocksR (padR m) iv0 (q + i))) c ?_ (fun i hi => ?_) ?_
    · rw [Nat.add_zero]
      have : blocksR (padR m) iv0 q = blocksR m iv0 q := blocksR_app _ _ _ _ hq1
      rw [this]; rfl
    · simp only [digest_Writer_Sum.s2]
      have e : IntKind.i64.wrap (((64 * i : Nat) : Int) + 64) = ((64 * i + 64 : Nat) : Int) := by rw [w64 (by omega) (by omega)]; omega
      rw [if_pos (by omega), e, if_pos (by omega), Int.toNat_natCast, Int.toNat_natCast, mix_eq _ _ (by simp; omega)]
      simp only [Option.bind_some]
      rw [mixV_in, mixV_drop, ← Nat.mul_add]
      rfl
    · simp only [digest_Writer_Sum.s2]
      rw [if_neg (by omega)]
  simp only [digest_Writer_Sum.f]
  have hs' : digest_Writer_state.f ⟨w.s, w.rest, w.n⟩ = some (blocksR m iv0 q) := hs
  rw [clone_eq _ (by omega)]
  simp only [Option.bind_some]
  rw [if_pos (by omega), zeros_loop digest_Writer_Sum.s0 (fun l => rfl) _ (by simp; omega), hz]
  simp only [Option.bind_some]
  rw [hl1]
  simp only [Option.bind_some]
  rw [hs']
  simp only [Option.bind_some]
  rw [hl2]
  simp only [Option.bind_some]
  rw [out_eq]
  simp only [Option.bind_some, sha]
  congr 3
  omega
theorem wIn0 (s : List Int) : WIn ⟨s, [], 0⟩ [] := ⟨rfl, rfl, fun h => by simp at h⟩
theorem sha_eq (m : List Int) (hb : m.length ≤ 1000000) : digest_Sha.f m = some (sha m) := by
  obtain ⟨w', e, hw⟩ := write_eq (wIn0 (List.replicate 8 0)) (b := m) (by simpa using hb)
  simp only [digest_Sha.f, e, Option.bind_some]
  have : digest_Writer_Sum.f ⟨w'.s, w'.rest, w'.n⟩ = some (sha m) := sum_eq' hw (by simpa using hb)
  rw [this]
  rfl
theorem outL_len (s : List Int) : (outL s).length = 32 := by simp [outL]
theorem sha_len (m : List Int) : (sha m).length = 32 := outL_len _
theorem twice_eq (m : List Int) (hb : m.length ≤ 1000000) : digest_Twice.f m = some (sha (sha m)) := by
  simp only [digest_Twice.f, sha_eq m hb, Option.bind_some, sha_eq (sha m) (by rw [sha_len]; omega)]
theorem sha_arr (m : List Int) : Arr .u8 32 (sha m) := ⟨sha_len m, fun x hx => by
  simp only [sha, outL, List.mem_map] at hx
  obtain ⟨i, _, rfl⟩ := hx
  exact wrap_in _ _⟩
end Go.Proofs.YtkfpmcplfodikaaDoor.T
namespace Go.Proofs.YtkfpmcplfodikaaDoor.T
open Go Go.Proofs Go.Proofs.YtkfpmcplfodikaaDoor.K
set_option linter.unusedVariables false
set_option linter.unusedSimpArgs false
theorem getD_mid {α : Type} (pre r : List α) (x d : α) : (pre ++ x :: r).getD ((pre.length : Int).toNat) d = x := by
  simp [List.getD]
theorem mid_lt {α : Type} (pre r : List α) (x : α) : 0 ≤ (pre.length : Int) ∧ (pre.length : Int) < ((pre ++ x :: r).length : Int) := by
  simp; omega
theorem mid_next {α : Type} (pre r : List α) (x : α) (h : (pre ++ x :: r).length ≤ 140737488355328) : IntKind.i64.wrap ((pre.length : Int) + 1) = ((pre ++ [x]).length : Int) := by
  simp at h
  rw [w64 (by omega) (by omega)]; simp
theorem winc (i : Nat) (hi : i < 9223372036854775807) : IntKind.i64.wrap ((i : Int) + 1) = ((i + 1 : Nat) : Int) := by
  rw [w64 (by omega) (by omega)]; omega
theorem take_next {α : Type} (xs : List α) (i : Nat) (d : α) (h : i < xs.length) : xs.take i ++ [xs.getD i d] = xs.take (i + 1) := by
  rw [List.take_add_one]
  simp [List.getD, h]
end Go.Proofs.YtkfpmcplfodikaaDoor.T
namespace Go.Proofs.YtkfpmcplfodikaaDoor.T
open Go Go.Proofs Go.Proofs.YtkfpmcplfodikaaDoor.K
set_option linter.unusedVariables false
set_option linter.unusedSimpArgs false
theorem kc_len : kc.length = 64 := by kernel_rfl
end Go.Proofs.YtkfpmcplfodikaaDoor.T
namespace Go.Proofs.YtkfpmcplfodikaaDoor.T
open Go Go.Proofs Go.Proofs.YtkfpmcplfodikaaDoor.K
set_option linter.unusedVariables false
set_option linter.unusedSimpArgs false
def Hs (l : List (List Int)) : Prop := ∀ x ∈ l, x.length = 32
theorem Hs.at {l : List (List Int)} (h : Hs l) {i : Nat} (hi : i < l.length) : (l.getD i []).length = 32 := by
  have e : l.getD i [] = l[i] := by simp [List.getD, hi]
  rw [e]; exact h _ (List.getElem_mem hi)
theorem concat_eq (l : List (List Int)) (hn : l.length ≤ 1000) (hl : ∀ x ∈ l, x.length ≤ 1000) : slices_Concat_byte_byte.f l = some l.flatten := by
  have hpre : ∀ i, i ≤ l.length → ((l.take i).flatten.length ≤ 1000 * i) := by
    intro i
    induction i with
    | zero => intro _; simp
    | succ i ih =>
      intro hi
      have h1 := ih (by omega)
      have h2 : (l.getD i []).length ≤ 1000 := by
        have e : l.getD i [] = l[i] := by simp [List.getD, show i < l.length by omega]
        rw [e]; exact hl _ (List.getElem_mem _)
      rw [← take_next l i [] (by omega), List.flatten_append, List.length_append]
      simp only [List.flatten_cons, List.flatten_nil, List.append_nil]
      omega
  have hel : ∀ i, i < l.length → (l.getD i []).length ≤ 1000 := fun i hi => by
    have e : l.getD i [] = l[i] := by simp [List.getD, hi]
    rw [e]; exact hl _ (List.getElem_mem _)
  have hnext : ∀ i, i < l.length → (l.take (i + 1)).flatten = (l.take i).flatten ++ l.getD i [] := fun i hi => by
    rw [← take_next l i [] hi, List.flatten_append]; simp
  have h0 : loopO (slices_Concat_byte_byte.s0 l) (0, 0) = some ((l.flatten.length : Int)) := by
    refine loop_run (fun i => (((l.take i).flatten.length : Int), (i : Int))) l.length (by simp) (fun i hi => ?_) ?_
    · have a := hpre i (by omega)
      have b := hel i hi
      simp only [slices_Concat_byte_byte.s0, Int.toNat_natCast]
      rw [if_pos (by omega), if_pos (by omega), w64 (x := ((l.take i).flatten.length : Int) + ((l.getD i []).length : Int)) (by omega) (by omega), if_neg (by omega), Option.bind_some, winc i (by omega), hnext i hi, List.length_append]
      push_cast
      rfl
    · simp only [slices_Concat_byte_byte.s0]
      rw [if_neg (by omega), List.take_length]
  have h1 : loopO (slices_Concat_byte_byte.s1 l) ([], 0) = some l.flatten := by
    refine loop_run (fun i => ((l.take i).flatten, (i : Int))) l.length (by simp) (fun i hi => ?_) ?_
    · have a := hpre i (by omega)
      have b := hel i hi
      simp only [slices_Concat_byte_byte.s1, Int.toNat_natCast]
      rw [if_pos (by omega), if_pos (by omega), if_pos (by omega), winc i (by omega), hnext i hi]
    · simp only [slices_Concat_byte_byte.s1]
      rw [if_neg (by omega), List.take_length]
  have a := hpre l.length (by omega)
  rw [List.take_length] at a
  simp only [slices_Concat_byte_byte.f, slices_Grow_byte_byte.f, h0, Option.bind_some]
  rw [if_pos (by omega), Option.bind_some, h1, Option.bind_some]
def pr (a b : List Int) : List Int := sha (sha (a ++ b))
theorem pr_len (a b : List Int) : (pr a b).length = 32 := sha_len _
theorem pair_eq (a b : List Int) (ha : a.length = 32) (hb : b.length = 32) : merkle_pair.f a b = some (pr a b) := by
  simp only [merkle_pair.f]
  rw [concat_eq [a, b] (by simp) (by simp [ha, hb]), Option.bind_some]
  simp only [List.flatten_cons, List.flatten_nil, List.append_nil]
  rw [twice_eq _ (by simp [ha, hb])]
  rfl
theorem xor1 (a : Nat) : a ^^^ 1 = if a % 2 = 0 then a + 1 else a - 1 := by
  have h1 : (a ^^^ 1) / 2 = a / 2 := by rw [Nat.xor_div_two]; simp
  have h2 : (a ^^^ 1) % 2 = (a + 1) % 2 := by
    have := Nat.xor_mod_two_pow (a := a) (b := 1) (n := 1)
    rw [show 2 ^ 1 = 2 from rfl] at this
    rw [this]
    have d0 : 0 ^^^ 1 % 2 = 1 := by decide
    have d1 : 1 ^^^ 1 % 2 = 0 := by decide
    rcases Nat.mod_two_eq_zero_or_one a with e | e <;> rw [e] <;> simp only [d0, d1] <;> omega
  split <;> omega
theorem xor64 (a : Nat) (h : a < 1000000) : bXor .i64 (a : Int) 1 = ((a ^^^ 1 : Nat) : Int) := by
  unfold bXor
  have e1 : (BitVec.ofInt IntKind.i64.bits (a : Int)).toNat = a := bv_nat _ _ (by simp [IntKind.bits]; omega)
  have e2 : (BitVec.ofInt IntKind.i64.bits (1 : Int)).toNat = 1 := bv_nat IntKind.i64.bits 1 (by simp [IntKind.bits])
  rw [BitVec.toNat_xor, e1, e2]
  have := xor1 a
  exact w64 (by omega) (by split at this <;> omega)
theorem iMin_nat (a b : Nat) : iMin (a : Int) (b : Int) = ((min a b : Nat) : Int) := by unfold iMin; split <;> omega
def oth (i : Nat) (l : List (List Int)) : List Int := l.getD (min (i ^^^ 1) (l.length - 1)) []
theorem oth_eq (i : Nat) (l : List (List Int)) (h0 : 0 < l.length) (hi : i < 1000000) (hl : l.length < 1000000) : merkle_other.f (i : Int) l = some (oth i l) := by
  simp only [merkle_other.f]
  have e : IntKind.i64.wrap ((l.length : Int) - 1) = ((l.length - 1 : Nat) : Int) := by rw [w64 (by omega) (by omega)]; omega
  rw [xor64 i hi, e, iMin_nat, if_pos (by omega), Int.toNat_natCast]
  rfl
theorem oth_len {i : Nat} {l : List (List Int)} (h : Hs l) (h0 : 0 < l.length) : (oth i l).length = 32 := h.at (by omega)
def upG (l : List (List Int)) (j : Nat) : List Int := pr (l.getD (2 * j) []) (oth (2 * j) l)
def upL (l : List (List Int)) : List (List Int) := (List.range ((l.length + 1) / 2)).map (upG l)
theorem upL_len (l : List (List Int)) : (upL l).length = (l.length + 1) / 2 := by simp [upL]
theorem upL_hs (l : List (List Int)) : Hs (upL l) := fun x hx => by
  simp only [upL, List.mem_map] at hx
  obtain ⟨j, _, rfl⟩ := hx
  exact pr_len _ _
theorem up_eq (l : List (List Int)) (h : Hs l) (hl : l.length < 100000) : merkle_up.f l = some (upL l) := by
  simp only [merkle_up.f]
  have e : loopO (merkle_up.s0 l) ([], 0) = some (upL l) := by
    refine loop_run (fun j => ((List.range j).map (upG l), ((2 * j : Nat) : Int))) ((l.length + 1) / 2) rfl (fun j hj => ?_) ?_
    · simp only [merkle_up.s0, Int.toNat_natCast]
      rw [if_pos (by omega), if_pos (by omega), oth_eq _ _ (by omega) (by omega) (by omega), Option.bind_some, pair_eq _ _ (h.at (by omega)) (oth_len h (by omega)), Option.bind_some, if_pos (by simp; omega), range_map_succ, w64 (by omega) (by omega)]
      congr 3
    · simp only [merkle_up.s0]
      rw [if_neg (by omega)]
      rfl
  rw [e, Option.bind_some]
def topR : Nat → List (List Int) → List (List Int)
  | 0, l => l
  | f + 1, l => if 1 < l.length then topR f (upL l) else l
theorem top_stop {f : Nat} {l : List (List Int)} (h : l.length ≤ 1) : topR f l = l := by
  cases f with
  | zero => rfl
  | succ f => rw [topR, if_neg (by omega)]
def rootL (l : List (List Int)) : List Int := if l.length = 0 then List.replicate 32 0 else (topR l.length l).getD 0 []
theorem top_pos : ∀ (f : Nat) (l : List (List Int)), 0 < l.length → l.length ≤ f → (topR f l).length = 1
  | 0, l, h, h' => by omega
  | f + 1, l, h, h' => by
    by_cases c : 1 < l.length
    · rw [topR, if_pos c]
      exact top_pos f _ (by rw [upL_len]; omega) (by rw [upL_len]; omega)
    · rw [top_stop (by omega)]; omega
theorem top_hs : ∀ (f : Nat) (l : List (List Int)), Hs l → Hs (topR f l)
  | 0, l, h => h
  | f + 1, l, h => by
    by_cases c : 1 < l.length
    · rw [topR, if_pos c]; exact top_hs f _ (upL_hs l)
    · rw [topR, if_neg c]; exact h
theorem root_loop : ∀ (f : Nat) (l : List (List Int)), Hs l → l.length ≤ f → l.length < 100000 → loopO merkle_Root.s0 l = some (topR f l)
  | 0, l, h, hf, hl => loopO_inr (by simp only [merkle_Root.s0]; rw [if_neg (by omega)]; rfl)
  | f + 1, l, h, hf, hl => by
    by_cases c : 1 < l.length
    · rw [loopO_inl (s' := upL l) (by simp only [merkle_Root.s0]; rw [if_pos (by omega), up_eq l h hl]; rfl), topR, if_pos c]
      exact root_loop f _ (upL_hs l) (by rw [upL_len]; omega) (by rw [upL_len]; omega)
    · rw [loopO_inr (r := l) (by simp only [merkle_Root.s0]; rw [if_neg (by omega)]), top_stop (by omega)]
theorem root_eq (l : List (List Int)) (h : Hs l) (hl : l.length < 100000) : merkle_Root.f l = some (rootL l) := by
  simp only [merkle_Root.f, rootL]
  by_cases c : l.length = 0
  · rw [if_pos (by omega), if_pos c]; rfl
  · rw [if_neg (by omega), if_neg c, root_loop _ l h (Nat.le_refl _) hl, Option.bind_some, if_pos (by rw [top_pos _ _ (by omega) (Nat.le_refl _)]; decide)]
    rfl
theorem rootL_len (l : List (List Int)) (h : Hs l) : (rootL l).length = 32 := by
  unfold rootL
  split
  · simp
  · exact (top_hs _ _ h).at (by rw [top_pos _ _ (by omega) (Nat.le_refl _)]; omega)
end Go.Proofs.YtkfpmcplfodikaaDoor.T
namespace Go.Proofs.YtkfpmcplfodikaaDoor.T
open Go Go.Proofs Go.Proofs.YtkfpmcplfodikaaDoor.K
set_option linter.unusedVariables false
set_option linter.unusedSimpArgs false
theorem u8e (x : Int) : IntKind.u8.wrap x = x % 256 := by simp [IntKind.wrap, IntKind.signed, IntKind.bits]
def lb (a m : Nat) : List Int := (List.range m).map fun j => ((a / 2 ^ (8 * j) % 256 : Nat) : Int)
theorem lb_len (a m : Nat) : (lb a m).length = m := by simp [lb]
theorem sR_div (k : IntKind) {a n : Nat} (hn : n ≤ k.bits) : sR k (a : Int) (n : Int) = ((a / 2 ^ n : Nat) : Int) := by
  rw [sR_nat k hn, Nat.shiftRight_eq_div_pow]
theorem number_eq' (r : List Int) (a k : Nat) (hk : k ≤ 100) (hl : r.length + k ≤ 140737488355328) : compact_number.f r (a : Int) (k : Int) = some (r ++ lb a k) := by
  simp only [compact_number.f]
  have h : loopO (compact_number.s0 (k : Int)) (r, (a : Int), 0) = some (r ++ lb a k, ((a / 2 ^ (8 * k) : Nat) : Int)) := by
    refine loop_run (fun j => (r ++ lb a j, ((a / 2 ^ (8 * j) : Nat) : Int), (j : Int))) k (by simp [lb]) (fun j hj => ?_) ?_
    · simp only [compact_number.s0]
      have e1 : IntKind.u8.wrap ((a / 2 ^ (8 * j) : Nat) : Int) = ((a / 2 ^ (8 * j) % 256 : Nat) : Int) := by rw [u8e]; generalize a / 2 ^ (8 * j) = q; omega
      have e2 : sR .u64 ((a / 2 ^ (8 * j) : Nat) : Int) 8 = ((a / 2 ^ (8 * (j + 1)) : Nat) : Int) := by
        have := sR_div .u64 (a := a / 2 ^ (8 * j)) (n := 8) (by decide)
        rw [Nat.div_div_eq_div_mul, ← Nat.pow_add] at this
        exact this
      rw [if_pos (by omega), if_pos (by simp [lb_len]; omega), e1, e2, winc j (by omega), List.append_assoc]
      have : lb a j ++ [((a / 2 ^ (8 * j) % 256 : Nat) : Int)] = lb a (j + 1) := by
        unfold lb; rw [range_map_succ]
      rw [this]
    · simp only [compact_number.s0]
      rw [if_neg (by omega)]
  rw [h, Option.bind_some]
theorem four_eq (b : List Int) (a : Nat) (ha : a < 4294967296) (hl : b.length + 4 ≤ 140737488355328) : compact_Four.f b (a : Int) = some (b ++ lb a 4) := by
  have := number_eq' b a 4 (by omega) hl
  simp only [compact_Four.f, bytes_Clone.f]
  rw [wu64 (by omega) (by omega), if_pos (by omega), Option.bind_some]
  rw [show ((4 : Nat) : Int) = 4 from rfl] at this
  rw [this, Option.bind_some]
structure HN where
  v : Nat
  p : List Int
  r : List Int
  t : Nat
  w : Nat
  n : Nat
deriving DecidableEq
structure HN.Ok (h : HN) : Prop where
  v : h.v < 4294967296
  p : h.p.length = 32
  r : h.r.length = 32
  t : h.t < 4294967296
  w : h.w < 4294967296
  n : h.n < 4294967296
def HN.h (h : HN) : Head := ⟨h.v, h.p, h.r, h.t, h.w, h.n⟩
def hb (h : HN) : List Int := lb h.v 4 ++ (h.p ++ (h.r ++ (lb h.t 4 ++ (lb h.w 4 ++ lb h.n 4))))
theorem hb_len {h : HN} (o : h.Ok) : (hb h).length = 80 := by simp [hb, lb_len, o.p, o.r]
theorem hbytes_eq {h : HN} (o : h.Ok) : head_Bytes.f h.h = some (hb h) := by
  simp only [head_Bytes.f, HN.h]
  have hv := o.v
  have ht := o.t
  have hw := o.w
  have hn := o.n
  rw [four_eq [] h.v hv (by simp), Option.bind_some, concat_eq _ (by simp) (by simp [lb_len, o.p, o.r]), Option.bind_some, four_eq _ h.t ht (by simp [lb_len, o.p, o.r]), Option.bind_some, four_eq _ h.w hw (by simp [lb_len, o.p, o.r]), Option.bind_some, four_eq _ h.n hn (by simp [lb_len, o.p, o.r]), Option.bind_some]
  simp [hb]
end Go.Proofs.YtkfpmcplfodikaaDoor.T
