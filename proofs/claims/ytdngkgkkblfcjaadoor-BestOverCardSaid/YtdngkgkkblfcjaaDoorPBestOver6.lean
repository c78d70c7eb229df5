/- Proved: the statement BestOver, as given (its conditions are those of the given row, and card where there is one; no others): the call ends, with true, and the input reads as it did. This file is one of its parts. -/
import Derived.Test.YtdngkgkkblfcjaaDoorPBestOver5
namespace Go.Proofs.YtdngkgkkblfcjaaDoor.T
open Go Go.Proofs Go.Proofs.YtdngkgkkblfcjaaDoor.K
set_option linter.unusedVariables false
set_option linter.unusedSimpArgs false
set_option maxHeartbeats 4000000 in
set_option maxRecDepth 20000 in
theorem sargassolaw13_BestOver.c (μ : Store) (w0 : World) (hμ : Agr μ w0) (x0 : List Int) (u0 : Value) (hx0 : Slc (RI .i64) 1 μ u0 x0) (x1 : Int) (hx1 : InR .i64 x1) (x2 : Int) (hx2 : InR .i64 x2) (e4 : Value) (he4 : ErS μ e4 (Er.b 5)) (e5 : Value) (he5 : ErS μ e5 (Er.b 6)) (e6 : Value) (he6 : ErS μ e6 (Er.b 7)) (r : Bool) (H : sargassolaw13_BestOver.f x0 x1 x2 = some r) :
    Calls Tryd.prog 5 [u0, .int .i64 x1, .int .i64 x2].toArray w0 (fun e w' => ∃ v, e = .returned v ∧ v = .bool r ∧ True ∧ Iv w0 [] μ μ [] w') := by
  refine enter Tryd.func5 rfl Tryd.ntmps5 rfl fun a hA => ?_
  have hI := Iv.start hμ
  have H := bI H
  refine w_seq fun _ hN1 => w_reg <| sta hA rfl rfl fun a hA => ?_
  refine o_nil <| hN1 _ _ <| w_seq fun _ hN2 => w_reg ?_
  obtain ⟨r1, hr1, H⟩ := bB H
  refine o_callp (u := .bool r1) cf24 hA rfl hI (sargassolaw13_first.c μ _ hI.agr  r1 hr1) rfl fun a w hz1 hI hA => 
    sta hA rfl rfl fun a hA => ?_
  refine o_nil <| hN2 _ _ <| w_seq fun _ hN3 => w_seq fun _ hN4 => w_reg <| stm hA rfl rfl fun a hA => 
    stp hA (r_not hA rfl) rfl fun a hA => ?_
  refine o_nil <| hN4 _ _ <| w_cond hA rfl (fun hc1 => ?_) (fun hc1 => ?_)
  · have hc10 := hc1; have hc1 := nT hc1; have hc1 := ft hc1; have H := bF H hc1
    refine w_seq fun _ hN5 => w_reg <| sta hA rfl rfl fun a hA => ?_
    refine o_nil <| hN5 _ _ <| w_ret ?_
    obtain rfl := sJ H
    exact ret1 hA Tryd.results5 rfl ⟨_, rfl, rfl, trivial, hI.forget0⟩
  · have hc10 := hc1; have hc1 := nF hc1; have H := bT H hc1
    refine w_skip <| hN3 _ _ <| w_seq fun _ hN6 => w_seq fun _ hN7 => w_reg <| stm hA rfl rfl fun a hA => ?_
    obtain ⟨_, hsl1⟩ := Slc.sv hx0
    refine stp hA (r_slen Tryd.underlying55 hsl1 hA rfl) rfl fun a hA => 
      stp hA (r_gtr hA rfl rfl) rfl fun a hA => ?_
    refine o_nil <| hN7 _ _ <| w_cond hA rfl (fun hc2 => ?_) (fun hc2 => ?_)
    · have hc20 := hc2; obtain ⟨hc2, H⟩ := dT H hc2
      refine w_seq fun _ hN8 => w_reg <| stm hA rfl rfl fun a hA => 
        sta hA rfl rfl fun a hA => ?_
      refine o_nil <| hN8 _ _ <| w_ret ?_
      obtain rfl := sJ H
      exact ret1 hA Tryd.results5 rfl ⟨_, rfl, rfl, trivial, hI.forget0⟩
    · have hc20 := hc2; obtain ⟨hc2, H⟩ := dF H hc2
      refine w_skip <| hN6 _ _ <| w_seq fun _ hN9 => w_reg ?_
      obtain ⟨r2, hr2, H⟩ := bB H
      refine o_call _ cf25 hA rfl (sargassoref1_Start.c μ _ hI.agr  r2 hr2) rfl fun v1 a w hz2 hA => ?_
      obtain ⟨v2, μ1, rfl, hw1, hi1⟩ := hz2
      have hI := hI.call hi1
      refine stp hA (r_field Tryd.underlying37 rfl (partA [] [[.int .u32 r2.Head.Version], av .u8 32 r2.Head.Prev, av .u8 32 r2.Head.Root, [.int .u32 r2.Head.Time], [.int .u32 r2.Head.Work], [.int .u32 r2.Head.Nonce]] [[v2]] Tryd.underlying28 rfl sz28 rfl rfl) hA rfl) rfl fun a hA => 
        o_new [[.int .u32 0], av .u8 32 (List.replicate 32 0), av .u8 32 (List.replicate 32 0), [.int .u32 0], [.int .u32 0], [.int .u32 0]] zr28 hI hA rfl fun g1 a w hA hI hg1 => 
        o_st (j := 0) [] [[.int .u32 0], av .u8 32 (List.replicate 32 0), av .u8 32 (List.replicate 32 0), [.int .u32 0], [.int .u32 0], [.int .u32 0]] [[.int .u32 r2.Head.Version], av .u8 32 r2.Head.Prev, av .u8 32 r2.Head.Root, [.int .u32 r2.Head.Time], [.int .u32 r2.Head.Work], [.int .u32 r2.Head.Nonce]] [] sz28 rfl rfl (fl_cons (oneC rfl) (fl_cons (one_av _ _ _) (fl_cons (one_av _ _ _) (fl_cons (oneC rfl) (fl_cons (oneC rfl) (fl_cons (oneC rfl) fl_nil)))))) hI rfl hA rfl rfl rfl rfl fun w hI => ?_
      refine o_nil <| hN9 _ _ <| w_seq fun _ hN10 => w_reg <| stp hA (r_ldA (j := 0) [] [[.int .u32 r2.Head.Version], av .u8 32 r2.Head.Prev, av .u8 32 r2.Head.Root, [.int .u32 r2.Head.Time], [.int .u32 r2.Head.Work], [.int .u32 r2.Head.Nonce]] [] Tryd.underlying28 rfl sz28 rfl hI rfl hA rfl rfl) rfl fun a hA => ?_
      obtain ⟨r3, hr3, H⟩ := bB H
      refine o_call _ cf17 hA rfl (tree_New.c μ1 _ hI.agr r2.Head ⟨hw1.1, hw1.2.1, hw1.2.2.1, hw1.2.2.2.1, hw1.2.2.2.2.1, hw1.2.2.2.2.2.1⟩ r3 hr3) rfl fun v3 a w hz3 hA => ?_
      obtain ⟨g2, gm1, gs1, rfl, hp1, hp2, hi2⟩ := hz3
      have hI := hI.call hi2
      refine sta hA rfl rfl fun a hA => ?_
      refine o_nil <| hN10 _ _ <| w_seq fun _ hN11 => w_seq fun _ hN12 => w_reg <| stm hA rfl rfl fun a hA => 
        stp hA (r_ptrnil_eql Tryd.underlying58 hA rfl rfl) rfl fun a hA => ?_
      refine o_nil <| hN12 _ _ <| w_cF hA rfl rfl ?_
      refine w_skip <| hN11 _ _ <| w_seq fun _ hN13 => w_reg <| stm hA rfl rfl fun a hA => ?_
      obtain ⟨r4, hr4, H⟩ := bB H
      refine o_call _ cf26 hA rfl (best_New.c μ1 _ hI.agr (⟨r3.m, r3.start⟩ : treeTree) gm1 gs1 g2 hp1 hp2 (hI.handN 2) r4 hr4) rfl fun v4 a w hz4 hA => ?_
      obtain ⟨g3, gm2, rfl, hp3, hi3⟩ := hz4
      have hI := hI.backN 2 hi3
      have hI : Iv w0 [] μ μ1 [cel g3 [[.pointer (some ⟨g2, 0, none⟩)], [.map (some gm2)]] 106, mpI gm2 (ent kv104 vv104 r4.bad), cel g2 [[.map (some gm1)], av .u8 32 r3.start] 97, nd95 gm1 r3.m gs1, cel g1 [[.int .u32 r2.Head.Version], av .u8 32 r2.Head.Prev, av .u8 32 r2.Head.Root, [.int .u32 r2.Head.Time], [.int .u32 r2.Head.Work], [.int .u32 r2.Head.Nonce]] 28] w := hI
      refine sta hA rfl rfl fun a hA => ?_
      refine o_nil <| hN13 _ _ <| w_seq fun _ hN14 => w_seq fun _ hN15 => w_reg <| stm hA rfl rfl fun a hA => 
        stp hA (r_ptrnil_eql Tryd.underlying72 hA rfl rfl) rfl fun a hA => ?_
      refine o_nil <| hN15 _ _ <| w_cF hA rfl rfl ?_
      refine w_skip <| hN14 _ _ <| w_seq fun _ hN16 => w_reg <| stm hA rfl rfl fun a hA => ?_
      obtain ⟨r5, hr5, H⟩ := bB H
      have hI := hI.sl [2, 3, 0, 1, 4] rfl
      refine o_call _ cf27 hA rfl (tree_Tree_Start.c μ1 _ hI.agr (⟨r3.m, r3.start⟩ : treeTree) gm1 gs1 g2 hp1 hp2 (hI.handN 2) r5 hr5) rfl fun v5 a w hz5 hA => ?_
      obtain ⟨rfl, hw2, hi4⟩ := hz5
      have hI := hI.back2 hi4
      have hE1 : Els (RA .u8 32) 32 ([r5] : List (List Int)) _ := (Els.cons (c := [av .u8 32 r5].flatten) ⟨rfl, hw2⟩ rfl Els.nil)
      refine o_bsl ([av .u8 32 r5].flatten ++ ([])) te26 zr26 Tryd.underlying62 hI hA rfl rfl rfl rfl (by kernel_rfl) rfl fun g4 a w hA hI => ?_
      generalize hcs : ([av .u8 32 r5].flatten ++ ([]) : List Value) = cs1 at hE1 hI
      clear hcs
      refine sta hA rfl rfl fun a hA => ?_
      refine o_nil <| hN16 _ _ ?_
      obtain ⟨⟨c1, c2, c3, c4⟩, hz6, Hk1⟩ := bB H
      refine w_cut (fun a w => ∃ (μ2 : Store) (vvc1 : Value) (ccc1 : List Value) (ggc2 : Nat) (gsc2 : (List Int) → NG) (ggc4 : Nat), μ1.le μ2 ∧ Els (RA .u8 32) 32 c1 ccc1 ∧ nw95 μ2 c2 gsc2 ∧ Arr .u8 32 c3 ∧ mw104 c4 ∧ Fr a 189 [(1, .int .i64 x1), (2, .int .i64 x2), (6, .bool false), (7, .bool r1), (9, .pointer (some ⟨g2, 0, none⟩)), (10, .pointer (some ⟨g3, 0, none⟩)), (11, vvc1)] ∧ Iv w0 [] μ μ2 [row 26 32 vvc1 c1.length ccc1, nd95 ggc2 c2 gsc2, mpI ggc4 (ent kv104 vv104 c4), cel g2 [[.map (some ggc2)], av .u8 32 c3] 97, cel g3 [[.pointer (some ⟨g2, 0, none⟩)], [.map (some ggc4)]] 106, cel g1 [[.int .u32 r2.Head.Version], av .u8 32 r2.Head.Prev, av .u8 32 r2.Head.Root, [.int .u32 r2.Head.Time], [.int .u32 r2.Head.Work], [.int .u32 r2.Head.Nonce]] 28] w) ?_ ?_
      · have H := bI hz6
        refine w_seq fun _ hN17 => w_reg <| sta hA rfl rfl fun a hA => ?_
        refine o_nil <| hN17 _ _ <| w_block ?_
        obtain ⟨z1, hz7, Hk2⟩ := bind_some H
        obtain ⟨n1, hn1⟩ := loopO_some hz7
        refine w_loop (fun n a w => ∃ (s1 : List (List Int)) (s2 : Int) (s3 : List ((List Int) × treeNode)) (s4 : List Int) (s5 : List ((List Int) × Bool)) (μ3 : Store) (vvs1 : Value) (ccs1 : List Value) (ggs3 : Nat) (gss3 : (List Int) → NG) (ggs5 : Nat), loopN (sargassolaw13_BestOver.s0 x0) n (s1, s2, s3, s4, s5) = some z1 ∧ μ1.le μ3 ∧ Els (RA .u8 32) 32 s1 ccs1 ∧ InR .i64 s2 ∧ nw95 μ3 s3 gss3 ∧ Arr .u8 32 s4 ∧ mw104 s5 ∧ Fr a 189 [(0, u0), (1, .int .i64 x1), (2, .int .i64 x2), (6, .bool false), (7, .bool r1), (9, .pointer (some ⟨g2, 0, none⟩)), (10, .pointer (some ⟨g3, 0, none⟩)), (11, vvs1), (12, .int .i64 s2)] ∧ Iv w0 [] μ μ3 [row 26 32 vvs1 s1.length ccs1, cel g2 [[.map (some ggs3)], av .u8 32 s4] 97, nd95 ggs3 s3 gss3, cel g3 [[.pointer (some ⟨g2, 0, none⟩)], [.map (some ggs5)]] 106, mpI ggs5 (ent kv104 vv104 s5), cel g1 [[.int .u32 r2.Head.Version], av .u8 32 r2.Head.Prev, av .u8 32 r2.Head.Root, [.int .u32 r2.Head.Time], [.int .u32 r2.Head.Work], [.int .u32 r2.Head.Nonce]] 28] w) n1 ⟨([r5] : List (List Int)), 0, r3.m, r3.start, r4.bad, μ1, (.slice (some ⟨g4, 0, none⟩) 1 1), cs1, gm1, gs1, gm2, hn1, (Store.le.refl _), hE1, (in_lit .i64 0 rfl), hp1, hp2, hp3, hA.sub ⟨rfl, rfl, rfl, rfl, rfl, rfl, rfl, rfl, rfl, trivial⟩, hI⟩ ?_
        clear hA hI
        rintro n a w ⟨s1, s2, s3, s4, s5, μ3, vvs1, ccs1, ggs3, gss3, ggs5, hn1, hle2, ws1, ws2, ws3, ws4, ws5, hA, hI⟩
        obtain ⟨m1, rfl, H⟩ := loopN_bind hn1
        clear hn1
        refine w_seq fun _ hN18 => w_seq fun _ hN19 => w_reg <| stm hA rfl rfl fun a hA => 
          stm hA rfl rfl fun a hA => ?_
        obtain ⟨_, hsl2⟩ := Slc.sv (Slc.le hx0 (fun _ _ h => h) (hi1.le.trans hle2))
        refine stp hA (r_slen Tryd.underlying55 hsl2 hA rfl) rfl fun a hA => 
          stp hA (r_lss hA rfl rfl) rfl fun a hA => ?_
        refine o_nil <| hN19 _ _ <| w_cond hA rfl (fun hc3 => ?_) (fun hc3 => ?_)
        · obtain ⟨hc3, H⟩ := dT H hc3
          refine w_skip <| hN18 _ _ ?_
          obtain ⟨⟨c5, c6, c7, c8⟩, hz8, Hk3⟩ := bB H
          refine w_cut (fun a w => ∃ (μ4 : Store) (vvc5 : Value) (ccc5 : List Value) (ggc6 : Nat) (gsc6 : (List Int) → NG) (ggc8 : Nat), μ3.le μ4 ∧ Els (RA .u8 32) 32 c5 ccc5 ∧ nw95 μ4 c6 gsc6 ∧ Arr .u8 32 c7 ∧ mw104 c8 ∧ Fr a 189 [(0, u0), (1, .int .i64 x1), (2, .int .i64 x2), (6, .bool false), (7, .bool r1), (9, .pointer (some ⟨g2, 0, none⟩)), (10, .pointer (some ⟨g3, 0, none⟩)), (11, vvc5), (12, .int .i64 s2), (41, .bool (decide (s2 < (x0.length : Int))))] ∧ Iv w0 [] μ μ4 [row 26 32 vvc5 c5.length ccc5, nd95 ggc6 c6 gsc6, mpI ggc8 (ent kv104 vv104 c8), cel g2 [[.map (some ggc6)], av .u8 32 c7] 97, cel g3 [[.pointer (some ⟨g2, 0, none⟩)], [.map (some ggc8)]] 106, cel g1 [[.int .u32 r2.Head.Version], av .u8 32 r2.Head.Prev, av .u8 32 r2.Head.Root, [.int .u32 r2.Head.Time], [.int .u32 r2.Head.Work], [.int .u32 r2.Head.Nonce]] 28] w) ?_ ?_
          · have H := bI hz8
            refine w_block ?_
            obtain ⟨⟨c9, c10, c11, c12⟩, hz9, Hk4⟩ := bB H
            refine w_cut (fun a w => ∃ (gc1 : Nat), InR .u32 c9 ∧ Arr .u8 32 c10 ∧ Arr .u8 32 c11 ∧ InR .u32 c12 ∧ Fr a 189 [(0, u0), (1, .int .i64 x1), (2, .int .i64 x2), (6, .bool false), (7, .bool r1), (9, .pointer (some ⟨g2, 0, none⟩)), (10, .pointer (some ⟨g3, 0, none⟩)), (11, vvs1), (12, .int .i64 s2), (13, .pointer (some ⟨gc1, 0, none⟩)), (41, .bool (decide (s2 < (x0.length : Int))))] ∧ Iv w0 [] μ μ3 [cel gc1 [[.int .u32 c9], av .u8 32 c10, av .u8 32 c11, [.int .u32 0], [.int .u32 c12], [.int .u32 0]] 28, row 26 32 vvs1 s1.length ccs1, cel g2 [[.map (some ggs3)], av .u8 32 s4] 97, nd95 ggs3 s3 gss3, cel g3 [[.pointer (some ⟨g2, 0, none⟩)], [.map (some ggs5)]] 106, mpI ggs5 (ent kv104 vv104 s5), cel g1 [[.int .u32 r2.Head.Version], av .u8 32 r2.Head.Prev, av .u8 32 r2.Head.Root, [.int .u32 r2.Head.Time], [.int .u32 r2.Head.Work], [.int .u32 r2.Head.Nonce]] 28] w) ?_ ?_
            · have H := bI hz9
              refine w_anyS [] mo (fun w (h : Iv w0 [] μ μ3 [row 26 32 vvs1 s1.length ccs1, cel g2 [[.map (some ggs3)], av .u8 32 s4] 97, nd95 ggs3 s3 gss3, cel g3 [[.pointer (some ⟨g2, 0, none⟩)], [.map (some ggs5)]] 106, mpI ggs5 (ent kv104 vv104 s5), cel g1 [[.int .u32 r2.Head.Version], av .u8 32 r2.Head.Prev, av .u8 32 r2.Head.Root, [.int .u32 r2.Head.Time], [.int .u32 r2.Head.Work], [.int .u32 r2.Head.Nonce]] 28] w) => (h.sl [0, 1, 2, 3, 4, 5] rfl : Iv w0 [] μ μ3 [row 26 32 vvs1 s1.length ccs1, cel g2 [[.map (some ggs3)], av .u8 32 s4] 97, nd95 ggs3 s3 gss3, cel g3 [[.pointer (some ⟨g2, 0, none⟩)], [.map (some ggs5)]] 106, mpI ggs5 (ent kv104 vv104 s5), cel g1 [[.int .u32 r2.Head.Version], av .u8 32 r2.Head.Prev, av .u8 32 r2.Head.Root, [.int .u32 r2.Head.Time], [.int .u32 r2.Head.Work], [.int .u32 r2.Head.Nonce]] 28] w)) hI fun w hI => ?_
              refine gE 0 hA rfl (.inr hI) (fun _ => r_mv hA rfl) fun a hA => ?_
              refine gE 1 hA rfl (.inr hI) (fun _ => r_conv Tryd.underlying3 Tryd.underlying24 hA rfl) fun a hA => ?_
              refine gE 2 hA rfl (.inr hI) (fun _ => r_mv hA rfl) fun a hA => ?_
              refine gE 3 hA rfl (.inr hI) (fun _ => r_mv hA rfl) fun a hA => ?_
              refine gE 4 hA rfl (.inr hI) (fun _ => r_mv hA rfl) fun a hA => ?_
              obtain ⟨hb1, H⟩ := bG H
              obtain ⟨_, he1, _, hat1⟩ := Slc.elem1 (Slc.le hx0 (fun _ _ h => h) (hi1.le.trans hle2)) (getD_some 0 hb1.1 hb1.2)
              obtain ⟨rfl, hw3⟩ := he1
              obtain ⟨_, hsl3⟩ := Slc.sv (Slc.le hx0 (fun _ _ h => h) (hi1.le.trans hle2))
              refine gE 5 hA rfl (.inr hI) (fun _ => r_six1 Tryd.underlying55 sz3 hsl3 hA rfl rfl hb1.1 hb1.2) fun a hA => ?_
              refine gT 6 hA rfl hI (fun w hI => r_ldm1 [] [] Tryd.underlying3 rfl hI.agr hat1 hA rfl rfl) fun a hA => ?_
              refine gE 7 hA rfl (.inr hI) (fun _ => r_mv hA rfl) fun a hA => ?_
              have hlen1 := Iv.row_in hI (j := 0) rfl
              refine gT 8 hA rfl hI (fun w hI => r_rlen (xs := 0) Tryd.underlying62 hI (j := 0) rfl hA rfl) fun a hA => ?_
              refine gE 12 hA rfl (.inr hI) (fun _ => r_mv hA rfl) fun a hA => ?_
              refine gE 13 hA rfl (.inr hI) (fun _ => r_mv hA rfl) fun a hA => ?_
              refine gE 14 hA rfl (.inr hI) (fun _ => r_six1 Tryd.underlying55 sz3 hsl3 hA rfl rfl hb1.1 hb1.2) fun a hA => ?_
              refine gT 15 hA rfl hI (fun w hI => r_ldm1 [] [] Tryd.underlying3 rfl hI.agr hat1 hA rfl rfl) fun a hA => ?_
              refine gE 16 hA rfl (.inr hI) (fun _ => r_quo hA rfl rfl (by decide)) fun a hA => ?_
              refine g_fork (i := 9) (is := [21]) (by kernel_rfl) (List.forall_mem_cons.2 ⟨⟨_, rfl, ?_⟩, (List.forall_mem_cons.2 ⟨⟨_, rfl, ?_⟩, List.forall_mem_nil _⟩)⟩)
              · skip
                obtain ⟨r6, hr6, H⟩ := bB H
                refine o_callp (u := .int .i64 r6) cf8 hA rfl hI (sargassoworld_Number.c μ3 _ hI.agr (x0.getD s2.toNat 0) hw3 (s1.length : Int) hlen1 r6 hr6) rfl fun a w hz10 hI hA => ?_
                refine o_nil <| ⟨(.inr hI), ?_⟩
                obtain ⟨hb2, H⟩ := bG H
                refine gT 10 hA rfl hI (fun w hI => r_rix (j := 0) Tryd.underlying62 sz26 hI rfl hA rfl rfl hb2.1 hb2.2) fun a hA => ?_
                obtain ⟨A1, _, B1, hc4, hl1, _, he2⟩ := Els.at_ ws1 (getD_some [] hb2.1 hb2.2)
                obtain ⟨rfl, hw4⟩ := he2
                refine gT 11 hA rfl hI (fun w hI => r_rldP (j := 0) (q := r6.toNat * 32) (off := 0) A1 B1 [] [av .u8 32 (s1.getD r6.toNat [])] [] hc4 hl1 rfl Tryd.underlying26 rfl sz26 rfl hI rfl hA rfl) fun a hA => ?_
                refine g_fork (i := 17) (is := [21]) (by kernel_rfl) (List.forall_mem_cons.2 ⟨⟨_, rfl, ?_⟩, (List.forall_mem_cons.2 ⟨⟨_, rfl, ?_⟩, List.forall_mem_nil _⟩)⟩)
                · skip
                  obtain ⟨r7, hr7, H⟩ := bB H
                  refine o_callp (u := .int .i64 r7) cf8 hA rfl hI (sargassoworld_Number.c μ3 _ hI.agr (IntKind.i64.wrap (Int.tdiv (x0.getD s2.toNat 0) 64)) (wrap_in _ _) 3 (in_lit .i64 3 rfl) r7 hr7) rfl fun a w hz11 hI hA => ?_
                  refine o_nil <| ⟨(.inr hI), ?_⟩
                  refine gE 18 hA rfl (.inr hI) (fun _ => r_add hA rfl rfl) fun a hA => ?_
                  refine gE 19 hA rfl (.inr hI) (fun _ => r_conv Tryd.underlying3 Tryd.underlying24 hA rfl) fun a hA => ?_
                  refine g_fork (i := 20) (is := [21]) (by kernel_rfl) (List.forall_mem_cons.2 ⟨⟨_, rfl, ?_⟩, (List.forall_mem_cons.2 ⟨⟨_, rfl, ?_⟩, List.forall_mem_nil _⟩)⟩)
                  · skip
                    refine stp hA (r_bldS (cs := [[.int .u32 (IntKind.u32.wrap s2)], av .u8 32 (s1.getD r6.toNat []), av .u8 32 (List.replicate 32 0), [.int .u32 0], [.int .u32 (IntKind.u32.wrap (IntKind.i64.wrap (1 + r7)))], [.int .u32 0]].flatten.toArray) (pl := [(0, 1), (1, 32), (33, 32), (65, 1), (66, 1), (67, 1)]) zr28 Tryd.underlying28 ⟨rfl, sz24, rfl, sz26, rfl, sz26, rfl, sz24, rfl, sz24, rfl, sz24, trivial⟩ hA rfl (by kernel_rfl)) rfl fun a hA => ?_
                    refine o_nil <| ⟨(.inr hI), ?_⟩
                    refine gF 21 rfl ?_
                    refine o_new [[.int .u32 0], av .u8 32 (List.replicate 32 0), av .u8 32 (List.replicate 32 0), [.int .u32 0], [.int .u32 0], [.int .u32 0]] zr28 hI hA rfl fun g5 a w hA hI hg5 => ?_
                    refine o_nil <| ⟨(.inr (hI.sl [1, 2, 3, 4, 5, 6] rfl)), ?_⟩
                    refine gF 22 rfl ?_
                    refine o_st (j := 0) [] [[.int .u32 0], av .u8 32 (List.replicate 32 0), av .u8 32 (List.replicate 32 0), [.int .u32 0], [.int .u32 0], [.int .u32 0]] [[.int .u32 (IntKind.u32.wrap s2)], av .u8 32 (s1.getD r6.toNat []), av .u8 32 (List.replicate 32 0), [.int .u32 0], [.int .u32 (IntKind.u32.wrap (IntKind.i64.wrap (1 + r7)))], [.int .u32 0]] [] sz28 rfl rfl (fl_cons (oneC rfl) (fl_cons (one_av _ _ _) (fl_cons (one_av _ _ _) (fl_cons (oneC rfl) (fl_cons (oneC rfl) (fl_cons (oneC rfl) fl_nil)))))) hI rfl hA rfl rfl rfl rfl fun w hI => ?_
                    refine o_nil <| ⟨(.inr (hI.sl [1, 2, 3, 4, 5, 6] rfl)), ?_⟩
                    refine gN ?_
                    cases sJ H
                    exact ⟨g5, (wrap_in _ _), hw4, (arr_zero _ _), (wrap_in _ _), hA.sub ⟨rfl, rfl, rfl, rfl, rfl, rfl, rfl, rfl, rfl, rfl, rfl, trivial⟩, hI⟩
                  · skip
                    refine o_new [[.int .u32 0], av .u8 32 (List.replicate 32 0), av .u8 32 (List.replicate 32 0), [.int .u32 0], [.int .u32 0], [.int .u32 0]] zr28 hI hA rfl fun g5 a w hA hI hg5 => ?_
                    refine o_nil <| ⟨(.inr (hI.sl [1, 2, 3, 4, 5, 6] rfl)), ?_⟩
                    refine gF 20 rfl ?_
                    refine stp hA (r_bldS (cs := [[.int .u32 (IntKind.u32.wrap s2)], av .u8 32 (s1.getD r6.toNat []), av .u8 32 (List.replicate 32 0), [.int .u32 0], [.int .u32 (IntKind.u32.wrap (IntKind.i64.wrap (1 + r7)))], [.int .u32 0]].flatten.toArray) (pl := [(0, 1), (1, 32), (33, 32), (65, 1), (66, 1), (67, 1)]) zr28 Tryd.underlying28 ⟨rfl, sz24, rfl, sz26, rfl, sz26, rfl, sz24, rfl, sz24, rfl, sz24, trivial⟩ hA rfl (by kernel_rfl)) rfl fun a hA => ?_
                    refine o_nil <| ⟨(.inr (hI.sl [1, 2, 3, 4, 5, 6] rfl)), ?_⟩
                    refine gF 22 rfl ?_
                    refine o_st (j := 0) [] [[.int .u32 0], av .u8 32 (List.replicate 32 0), av .u8 32 (List.replicate 32 0), [.int .u32 0], [.int .u32 0], [.int .u32 0]] [[.int .u32 (IntKind.u32.wrap s2)], av .u8 32 (s1.getD r6.toNat []), av .u8 32 (List.replicate 32 0), [.int .u32 0], [.int .u32 (IntKind.u32.wrap (IntKind.i64.wrap (1 + r7)))], [.int .u32 0]] [] sz28 rfl rfl (fl_cons (oneC rfl) (fl_cons (one_av _ _ _) (fl_cons (one_av _ _ _) (fl_cons (oneC rfl) (fl_cons (oneC rfl) (fl_cons (oneC rfl) fl_nil)))))) hI rfl hA rfl rfl rfl rfl fun w hI => ?_
                    refine o_nil <| ⟨(.inr (hI.sl [1, 2, 3, 4, 5, 6] rfl)), ?_⟩
                    refine gN ?_
                    cases sJ H
                    exact ⟨g5, (wrap_in _ _), hw4, (arr_zero _ _), (wrap_in _ _), hA.sub ⟨rfl, rfl, rfl, rfl, rfl, rfl, rfl, rfl, rfl, rfl, rfl, trivial⟩, hI⟩
                · skip
                  refine o_new [[.int .u32 0], av .u8 32 (List.replicate 32 0), av .u8 32 (List.replicate 32 0), [.int .u32 0], [.int .u32 0], [.int .u32 0]] zr28 hI hA rfl fun g5 a w hA hI hg5 => ?_
                  refine o_nil <| ⟨(.inr (hI.sl [1, 2, 3, 4, 5, 6] rfl)), ?_⟩
                  refine gF 17 rfl ?_
                  obtain ⟨r7, hr7, H⟩ := bB H
                  refine o_callp (u := .int .i64 r7) cf8 hA rfl hI (sargassoworld_Number.c μ3 _ hI.agr (IntKind.i64.wrap (Int.tdiv (x0.getD s2.toNat 0) 64)) (wrap_in _ _) 3 (in_lit .i64 3 rfl) r7 hr7) rfl fun a w hz11 hI hA => ?_
                  refine o_nil <| ⟨(.inr (hI.sl [1, 2, 3, 4, 5, 6] rfl)), ?_⟩
                  refine gE 18 hA rfl (.inr (hI.sl [1, 2, 3, 4, 5, 6] rfl)) (fun _ => r_add hA rfl rfl) fun a hA => ?_
                  refine gE 19 hA rfl (.inr (hI.sl [1, 2, 3, 4, 5, 6] rfl)) (fun _ => r_conv Tryd.underlying3 Tryd.underlying24 hA rfl) fun a hA => ?_
                  refine gF 20 rfl ?_
                  refine stp hA (r_bldS (cs := [[.int .u32 (IntKind.u32.wrap s2)], av .u8 32 (s1.getD r6.toNat []), av .u8 32 (List.replicate 32 0), [.int .u32 0], [.int .u32 (IntKind.u32.wrap (IntKind.i64.wrap (1 + r7)))], [.int .u32 0]].flatten.toArray) (pl := [(0, 1), (1, 32), (33, 32), (65, 1), (66, 1), (67, 1)]) zr28 Tryd.underlying28 ⟨rfl, sz24, rfl, sz26, rfl, sz26, rfl, sz24, rfl, sz24, rfl, sz24, trivial⟩ hA rfl (by kernel_rfl)) rfl fun a hA => ?_
                  refine o_nil <| ⟨(.inr (hI.sl [1, 2, 3, 4, 5, 6] rfl)), ?_⟩
                  refine gF 22 rfl ?_
                  refine o_st (j := 0) [] [[.int .u32 0], av .u8 32 (List.replicate 32 0), av .u8 32 (List.replicate 32 0), [.int .u32 0], [.int .u32 0], [.int .u32 0]] [[.int .u32 (IntKind.u32.wrap s2)], av .u8 32 (s1.getD r6.toNat []), av .u8 32 (List.replicate 32 0), [.int .u32 0], [.int .u32 (IntKind.u32.wrap (IntKind.i64.wrap (1 + r7)))], [.int .u32 0]] [] sz28 rfl rfl (fl_cons (oneC rfl) (fl_cons (one_av _ _ _) (fl_cons (one_av _ _ _) (fl_cons (oneC rfl) (fl_cons (oneC rfl) (fl_cons (oneC rfl) fl_nil)))))) hI rfl hA rfl rfl rfl rfl fun w hI => ?_
                  refine o_nil <| ⟨(.inr (hI.sl [1, 2, 3, 4, 5, 6] rfl)), ?_⟩
                  refine gN ?_
                  cases sJ H
                  exact ⟨g5, (wrap_in _ _), hw4, (arr_zero _ _), (wrap_in _ _), hA.sub ⟨rfl, rfl, rfl, rfl, rfl, rfl, rfl, rfl, rfl, rfl, rfl, trivial⟩, hI⟩
              · skip
                refine o_new [[.int .u32 0], av .u8 32 (List.replicate 32 0), av .u8 32 (List.replicate 32 0), [.int .u32 0], [.int .u32 0], [.int .u32 0]] zr28 hI hA rfl fun g5 a w hA hI hg5 => ?_
                refine o_nil <| ⟨(.inr (hI.sl [1, 2, 3, 4, 5, 6] rfl)), ?_⟩
                refine gF 9 rfl ?_
                obtain ⟨r6, hr6, H⟩ := bB H
                refine o_callp (u := .int .i64 r6) cf8 hA rfl hI (sargassoworld_Number.c μ3 _ hI.agr (x0.getD s2.toNat 0) hw3 (s1.length : Int) hlen1 r6 hr6) rfl fun a w hz10 hI hA => ?_
                refine o_nil <| ⟨(.inr (hI.sl [1, 2, 3, 4, 5, 6] rfl)), ?_⟩
                obtain ⟨hb2, H⟩ := bG H
                refine gT 10 hA rfl (hI.sl [1, 2, 3, 4, 5, 6] rfl) (fun w hI => r_rix (j := 0) Tryd.underlying62 sz26 hI rfl hA rfl rfl hb2.1 hb2.2) fun a hA => ?_
                obtain ⟨A1, _, B1, hc4, hl1, _, he2⟩ := Els.at_ ws1 (getD_some [] hb2.1 hb2.2)
                obtain ⟨rfl, hw4⟩ := he2
                refine gT 11 hA rfl (hI.sl [1, 2, 3, 4, 5, 6] rfl) (fun w hI => r_rldP (j := 0) (q := r6.toNat * 32) (off := 0) A1 B1 [] [av .u8 32 (s1.getD r6.toNat [])] [] hc4 hl1 rfl Tryd.underlying26 rfl sz26 rfl hI rfl hA rfl) fun a hA => ?_
                refine gF 17 rfl ?_
                obtain ⟨r7, hr7, H⟩ := bB H
                refine o_callp (u := .int .i64 r7) cf8 hA rfl hI (sargassoworld_Number.c μ3 _ hI.agr (IntKind.i64.wrap (Int.tdiv (x0.getD s2.toNat 0) 64)) (wrap_in _ _) 3 (in_lit .i64 3 rfl) r7 hr7) rfl fun a w hz11 hI hA => ?_
                refine o_nil <| ⟨(.inr (hI.sl [1, 2, 3, 4, 5, 6] rfl)), ?_⟩
                refine gE 18 hA rfl (.inr (hI.sl [1, 2, 3, 4, 5, 6] rfl)) (fun _ => r_add hA rfl rfl) fun a hA => ?_
                refine gE 19 hA rfl (.inr (hI.sl [1, 2, 3, 4, 5, 6] rfl)) (fun _ => r_conv Tryd.underlying3 Tryd.underlying24 hA rfl) fun a hA => ?_
                refine gF 20 rfl ?_
                refine stp hA (r_bldS (cs := [[.int .u32 (IntKind.u32.wrap s2)], av .u8 32 (s1.getD r6.toNat []), av .u8 32 (List.replicate 32 0), [.int .u32 0], [.int .u32 (IntKind.u32.wrap (IntKind.i64.wrap (1 + r7)))], [.int .u32 0]].flatten.toArray) (pl := [(0, 1), (1, 32), (33, 32), (65, 1), (66, 1), (67, 1)]) zr28 Tryd.underlying28 ⟨rfl, sz24, rfl, sz26, rfl, sz26, rfl, sz24, rfl, sz24, rfl, sz24, trivial⟩ hA rfl (by kernel_rfl)) rfl fun a hA => ?_
                refine o_nil <| ⟨(.inr (hI.sl [1, 2, 3, 4, 5, 6] rfl)), ?_⟩
                refine gF 22 rfl ?_
                refine o_st (j := 0) [] [[.int .u32 0], av .u8 32 (List.replicate 32 0), av .u8 32 (List.replicate 32 0), [.int .u32 0], [.int .u32 0], [.int .u32 0]] [[.int .u32 (IntKind.u32.wrap s2)], av .u8 32 (s1.getD r6.toNat []), av .u8 32 (List.replicate 32 0), [.int .u32 0], [.int .u32 (IntKind.u32.wrap (IntKind.i64.wrap (1 + r7)))], [.int .u32 0]] [] sz28 rfl rfl (fl_cons (oneC rfl) (fl_cons (one_av _ _ _) (fl_cons (one_av _ _ _) (fl_cons (oneC rfl) (fl_cons (oneC rfl) (fl_cons (oneC rfl) fl_nil)))))) hI rfl hA rfl rfl rfl rfl fun w hI => ?_
                refine o_nil <| ⟨(.inr (hI.sl [1, 2, 3, 4, 5, 6] rfl)), ?_⟩
                refine gN ?_
                cases sJ H
                exact ⟨g5, (wrap_in _ _), hw4, (arr_zero _ _), (wrap_in _ _), hA.sub ⟨rfl, rfl, rfl, rfl, rfl, rfl, rfl, rfl, rfl, rfl, rfl, trivial⟩, hI⟩
            · rintro a w ⟨gc1, wc9, wc10, wc11, wc12, hA, hI⟩
              have H := Hk4
              refine w_seq fun _ hN20 => w_reg <| stm hA rfl rfl fun a hA => 
                stp hA (r_ldA (j := 0) [] [[.int .u32 c9], av .u8 32 c10, av .u8 32 c11, [.int .u32 0], [.int .u32 c12], [.int .u32 0]] [] Tryd.underlying28 rfl sz28 rfl hI rfl hA rfl rfl) rfl fun a hA => ?_
              obtain ⟨r8, hr8, H⟩ := bB H
              have hI := hI.sl [2, 3, 0, 1, 4, 5, 6] rfl
              refine o_call _ cf18 hA rfl (tree_Tree_Add.c μ3 _ hI.agr (⟨s3, s4⟩ : treeTree) ggs3 gss3 g2 ws3 ws4 (hI.handN 2) (⟨c9, c10, c11, 0, c12, 0⟩ : Head) ⟨wc9, wc10, wc11, (in_lit .u32 0 rfl), wc12, (in_lit .u32 0 rfl)⟩ e4 (ErV.le (fun _ _ h => h) (hi1.le.trans hle2) he4) e5 (ErV.le (fun _ _ h => h) (hi1.le.trans hle2) he5) e6 (ErV.le (fun _ _ h => h) (hi1.le.trans hle2) he6) r8 hr8) rfl fun v6 a w hz12 hA => ?_
              obtain ⟨_, gm3, gs2, μ5, rfl, hS1, hp4, hp5, hi5⟩ := hz12
              have hI := hI.back2 hi5
              refine o_nil <| hN20 _ _ <| w_seq fun _ hN21 => w_reg <| stm hA rfl rfl fun a hA => 
                stp hA (r_ldA (j := 2) [] [[.int .u32 c9], av .u8 32 c10, av .u8 32 c11, [.int .u32 0], [.int .u32 c12], [.int .u32 0]] [] Tryd.underlying28 rfl sz28 rfl hI rfl hA rfl rfl) rfl fun a hA => ?_
              obtain ⟨r9, hr9, H⟩ := bB H
              refine o_callp (u := .agg [av .u8 32 r9].flatten.toArray) cf19 hA rfl hI (sargassoref1_HeadID.c μ5 _ hI.agr (⟨c9, c10, c11, 0, c12, 0⟩ : Head) ⟨wc9, wc10, wc11, (in_lit .u32 0 rfl), wc12, (in_lit .u32 0 rfl)⟩ r9 hr9) rfl fun a w hz13 hI hA => ?_
              have hE2 : Els (RA .u8 32) 32 ([r9] : List (List Int)) _ := (Els.cons (c := [av .u8 32 r9].flatten) ⟨rfl, hz13⟩ rfl Els.nil)
              refine o_bsl ([av .u8 32 r9].flatten ++ ([])) te26 zr26 Tryd.underlying62 hI hA rfl rfl rfl rfl (by kernel_rfl) rfl fun g6 a w hA hI => ?_
              generalize hcs : ([av .u8 32 r9].flatten ++ ([]) : List Value) = cs2 at hE2 hI
              clear hcs
              obtain ⟨hb3, H⟩ := bG H
              have hE4 := ws1.app hE2
              refine o_appG (xs := (s1 : List (List Int))) (ys := (([r9] : List (List Int)) : List (List Int))) (M := 4398046511104) 4 te26 Tryd.underlying62 hI rfl hA rfl rfl (src_row hI (j := 0) rfl) hE2.len (hE2.ones (one_RA _ _)) hb3 rfl fun v7 a w hA hI => 
                sta hA rfl rfl fun a hA => ?_
              refine o_nil <| hN21 _ _ <| w_seq fun _ hN22 => w_reg <| stm hA rfl rfl fun a hA => 
                stm hA rfl rfl fun a hA => ?_
              obtain ⟨hb4, H⟩ := bG H
              obtain ⟨_, he3, _, hat2⟩ := Slc.elem1 (Slc.le hx0 (fun _ _ h => h) ((hi1.le.trans hle2).trans hi5.le)) (getD_some 0 hb4.1 hb4.2)
              obtain ⟨rfl, hw5⟩ := he3
              obtain ⟨_, hsl4⟩ := Slc.sv (Slc.le hx0 (fun _ _ h => h) ((hi1.le.trans hle2).trans hi5.le))
              refine stp hA (r_six1 Tryd.underlying55 sz3 hsl4 hA rfl rfl hb4.1 hb4.2) rfl fun a hA => 
                stp hA (r_ldm1 [] [] Tryd.underlying3 rfl hI.agr hat2 hA rfl rfl) rfl fun a hA => 
                stp hA (r_rem hA rfl rfl (by decide)) rfl fun a hA => 
                stp hA (r_eql hA rfl rfl) rfl fun a hA => ?_
              refine o_nil <| hN22 _ _ <| w_cond hA rfl (fun hc5 => ?_) (fun hc5 => ?_)
              · obtain ⟨hc5, H⟩ := dT H hc5
                refine w_reg <| stm hA rfl rfl fun a hA => 
                  stm hA rfl rfl fun a hA => 
                  stm hA rfl rfl fun a hA => 
                  stm hA rfl rfl fun a hA => 
                  stp hA (r_six1 Tryd.underlying55 sz3 hsl4 hA rfl rfl hb4.1 hb4.2) rfl fun a hA => 
                  stp hA (r_ldm1 [] [] Tryd.underlying3 rfl hI.agr hat2 hA rfl rfl) rfl fun a hA => 
                  stp hA (r_quo hA rfl rfl (by decide)) rfl fun a hA => 
                  stm hA rfl rfl fun a hA => ?_
                have hlen2 := Iv.row_in hI (j := 4) rfl
                refine stp hA (r_rlen (xs := 0) Tryd.underlying62 hI (j := 4) rfl hA rfl) rfl fun a hA => ?_
                obtain ⟨r10, hr10, H⟩ := bB H
                refine o_callp (u := .int .i64 r10) cf8 hA rfl hI (sargassoworld_Number.c μ5 _ hI.agr (IntKind.i64.wrap (Int.tdiv (x0.getD s2.toNat 0) 3)) (wrap_in _ _) ((s1 ++ ([r9] : List (List Int))).length : Int) hlen2 r10 hr10) rfl fun a w hz14 hI hA => ?_
                obtain ⟨hb5, H⟩ := bG H
                refine stp hA (r_rix (j := 4) Tryd.underlying62 sz26 hI rfl hA rfl rfl hb5.1 hb5.2) rfl fun a hA => ?_
                obtain ⟨A2, _, B2, hc6, hl2, _, he4⟩ := Els.at_ hE4 (getD_some [] hb5.1 hb5.2)
                obtain ⟨rfl, hw6⟩ := he4
                refine stp hA (r_rldP (j := 4) (q := r10.toNat * 32) (off := 0) A2 B2 [] [av .u8 32 ((s1 ++ ([r9] : List (List Int))).getD r10.toNat [])] [] hc6 hl2 rfl Tryd.underlying26 rfl sz26 rfl hI rfl hA rfl) rfl fun a hA => ?_
                obtain ⟨r11, hr11, H⟩ := bB H
                have hI := hI.sl [5, 1, 2, 6, 0, 3, 4, 7] rfl
                refine o_call _ cf28 hA rfl (best_Marks_Bad.c μ5 _ hI.agr (⟨(⟨r8.2.m, r8.2.start⟩ : treeTree), s5⟩ : bestMarks) g2 gm3 gs2 ggs5 g3 hp4 hp5 ws5 (hI.handN 4) ((s1 ++ ([r9] : List (List Int))).getD r10.toNat []) hw6 r11 hr11) rfl fun v8 a w hz15 hA => ?_
                obtain ⟨gm4, gs3, gm5, rfl, hw7, hp6, hp7, hp8, hi6⟩ := hz15
                have hI := hI.backN 4 hi6
                have hI : Iv w0 [] μ μ5 [cel g3 [[.pointer (some ⟨g2, 0, none⟩)], [.map (some gm5)]] 106, cel g2 [[.map (some gm4)], av .u8 32 r11.2.t.start] 97, nd95 gm4 r11.2.t.m gs3, mpI gm5 (ent kv104 vv104 r11.2.bad), row 26 32 (.slice (some ⟨g6, 0, none⟩) 1 1) ([r9] : List (List Int)).length cs2, cel gc1 [[.int .u32 c9], av .u8 32 c10, av .u8 32 c11, [.int .u32 0], [.int .u32 c12], [.int .u32 0]] 28, row 26 32 v7 (s1 ++ ([r9] : List (List Int))).length (ccs1 ++ cs2), cel g1 [[.int .u32 r2.Head.Version], av .u8 32 r2.Head.Prev, av .u8 32 r2.Head.Root, [.int .u32 r2.Head.Time], [.int .u32 r2.Head.Work], [.int .u32 r2.Head.Nonce]] 28] w := hI
                refine o_nil ?_
                cases sJ H
                exact ⟨μ5, v7, ccs1 ++ cs2, gm4, gs3, gm5, hi5.le, hE4, hp6, hp7, hp8, hA.sub ⟨rfl, rfl, rfl, rfl, rfl, rfl, rfl, rfl, rfl, rfl, trivial⟩, (hI.sl [6, 2, 3, 1, 0, 7] rfl)⟩
              · obtain ⟨hc5, H⟩ := dF H hc5
                refine w_skip ?_
                cases sJ H
                exact ⟨μ5, v7, ccs1 ++ cs2, gm3, gs2, ggs5, hi5.le, hE4, hp4, hp5, ws5, hA.sub ⟨rfl, rfl, rfl, rfl, rfl, rfl, rfl, rfl, rfl, rfl, trivial⟩, (hI.sl [4, 2, 6, 1, 5, 7] rfl)⟩
          · rintro a w ⟨μ4, vvc5, ccc5, ggc6, gsc6, ggc8, hle3, wc5, wc6, wc7, wc8, hA, hI⟩
            have H := Hk3
            refine w_reg <| stm hA rfl rfl fun a hA => 
              stp hA (r_add hA rfl rfl) rfl fun a hA => 
              sta hA rfl rfl fun a hA => ?_
            refine o_nil <| ⟨m1, Nat.lt_succ_self _, c5, IntKind.i64.wrap (s2 + 1), c6, c7, c8, μ4, vvc5, ccc5, ggc6, gsc6, ggc8, H, (hle2.trans hle3), wc5, (wrap_in _ _), wc6, wc7, wc8, hA.sub ⟨rfl, rfl, rfl, rfl, rfl, rfl, rfl, rfl, rfl, trivial⟩, (hI.sl [0, 3, 1, 4, 2, 5] rfl)⟩
        · obtain ⟨hc3, H⟩ := dF H hc3
          refine w_exit rfl ?_
          have H : some (s1, s3, s4, s5) = some z1 := H
          obtain rfl := sI H
          have H := Hk2
          cases sJ H
          exact ⟨μ3, vvs1, ccs1, ggs3, gss3, ggs5, hle2, ws1, ws3, ws4, ws5, hA.sub ⟨rfl, rfl, rfl, rfl, rfl, rfl, rfl, trivial⟩, (hI.sl [0, 2, 4, 1, 3, 5] rfl)⟩
      · rintro a w ⟨μ2, vvc1, ccc1, ggc2, gsc2, ggc4, hle1, wc1, wc2, wc3, wc4, hA, hI⟩
        have H := Hk1
        refine w_seq fun _ hN23 => w_reg <| stm hA rfl rfl fun a hA => ?_
        obtain ⟨r12, hr12, H⟩ := bB H
        have hI := hI.sl [4, 3, 1, 2, 0, 5] rfl
        refine o_call _ cf29 hA rfl (best_Marks_Best.c μ2 _ hI.agr (⟨(⟨c2, c3⟩ : treeTree), c4⟩ : bestMarks) g2 ggc2 gsc2 ggc4 g3 wc2 wc3 wc4 (hI.handN 4) r12 hr12) rfl fun v9 a w hz16 hA => ?_
        obtain ⟨gm6, gs4, gm7, rfl, hw8, hp9, hp10, hp11, hi7⟩ := hz16
        have hI := hI.backN 4 hi7
        have hI : Iv w0 [] μ μ2 [cel g3 [[.pointer (some ⟨g2, 0, none⟩)], [.map (some gm7)]] 106, cel g2 [[.map (some gm6)], av .u8 32 r12.2.t.start] 97, nd95 gm6 r12.2.t.m gs4, mpI gm7 (ent kv104 vv104 r12.2.bad), row 26 32 vvc1 c1.length ccc1, cel g1 [[.int .u32 r2.Head.Version], av .u8 32 r2.Head.Prev, av .u8 32 r2.Head.Root, [.int .u32 r2.Head.Time], [.int .u32 r2.Head.Work], [.int .u32 r2.Head.Nonce]] 28] w := hI
        refine o_new [av .u8 32 (List.replicate 32 0)] zr26 hI hA rfl fun g7 a w hA hI hg7 => 
          o_st (j := 0) [] [av .u8 32 (List.replicate 32 0)] [av .u8 32 r12.1] [] sz26 rfl rfl (fl_cons (one_av _ _ _) fl_nil) hI rfl hA rfl rfl rfl rfl fun w hI => ?_
        refine o_nil <| hN23 _ _ <| w_seq fun _ hN24 => w_seq fun _ hN25 => w_reg <| sta hA rfl rfl fun a hA => ?_
        refine o_nil <| hN25 _ _ <| w_block ?_
        obtain ⟨z2, hz17, Hk5⟩ := bind_some H
        obtain ⟨n2, hn2⟩ := loopO_some hz17
        refine w_loop (fun n a w => ∃ (s6 : Int), loopN (sargassolaw13_BestOver.s1 x1 x2 r1 c1 r12) n s6 = some z2 ∧ InR .i64 s6 ∧ Fr a 189 [(1, .int .i64 x1), (2, .int .i64 x2), (6, .bool false), (7, .bool r1), (9, .pointer (some ⟨g2, 0, none⟩)), (10, .pointer (some ⟨g3, 0, none⟩)), (11, vvc1), (14, .pointer (some ⟨g7, 0, none⟩)), (15, .int .i64 s6)] ∧ Iv w0 [] μ μ2 [cel g7 [av .u8 32 r12.1] 26, cel g3 [[.pointer (some ⟨g2, 0, none⟩)], [.map (some gm7)]] 106, cel g2 [[.map (some gm6)], av .u8 32 r12.2.t.start] 97, nd95 gm6 r12.2.t.m gs4, mpI gm7 (ent kv104 vv104 r12.2.bad), row 26 32 vvc1 c1.length ccc1, cel g1 [[.int .u32 r2.Head.Version], av .u8 32 r2.Head.Prev, av .u8 32 r2.Head.Root, [.int .u32 r2.Head.Time], [.int .u32 r2.Head.Work], [.int .u32 r2.Head.Nonce]] 28] w) n2 ⟨0, hn2, (in_lit .i64 0 rfl), hA.sub ⟨rfl, rfl, rfl, rfl, rfl, rfl, rfl, rfl, rfl, trivial⟩, hI⟩ ?_
        clear hA hI
        rintro n a w ⟨s6, hn2, ws6, hA, hI⟩
        obtain ⟨m2, rfl, H⟩ := loopN_bind hn2
        clear hn2
        refine w_seq fun _ hN26 => w_seq fun _ hN27 => w_reg <| stm hA rfl rfl fun a hA => 
          stm hA rfl rfl fun a hA => ?_
        have hlen3 := Iv.row_in hI (j := 5) rfl
        refine stp hA (r_rlen (xs := 0) Tryd.underlying62 hI (j := 5) rfl hA rfl) rfl fun a hA => 
          stp hA (r_lss hA rfl rfl) rfl fun a hA => ?_
        refine o_nil <| hN27 _ _ <| w_cond hA rfl (fun hc7 => ?_) (fun hc7 => ?_)
        · obtain ⟨hc7, H⟩ := dT H hc7
          refine w_skip <| hN26 _ _ <| w_seq fun _ hN28 => w_block ?_
          obtain ⟨c13, hz18, Hk6⟩ := bB H
          refine w_cut (fun a w => Fr a 189 [(1, .int .i64 x1), (2, .int .i64 x2), (6, .bool false), (7, .bool r1), (9, .pointer (some ⟨g2, 0, none⟩)), (10, .pointer (some ⟨g3, 0, none⟩)), (11, vvc1), (14, .pointer (some ⟨g7, 0, none⟩)), (15, .int .i64 s6), (97, .bool (decide (s6 < (c1.length : Int)))), (131, .bool c13)] ∧ Iv w0 [] μ μ2 [cel g7 [av .u8 32 r12.1] 26, cel g3 [[.pointer (some ⟨g2, 0, none⟩)], [.map (some gm7)]] 106, cel g2 [[.map (some gm6)], av .u8 32 r12.2.t.start] 97, nd95 gm6 r12.2.t.m gs4, mpI gm7 (ent kv104 vv104 r12.2.bad), row 26 32 vvc1 c1.length ccc1, cel g1 [[.int .u32 r2.Head.Version], av .u8 32 r2.Head.Prev, av .u8 32 r2.Head.Root, [.int .u32 r2.Head.Time], [.int .u32 r2.Head.Work], [.int .u32 r2.Head.Nonce]] 28] w) ?_ ?_
          · have H := bI hz18
            refine w_any [] mo hI fun w hI => ?_
            refine gE 0 hA rfl (.inr hI) (fun _ => r_mv hA rfl) fun a hA => ?_
            refine gE 1 hA rfl (.inr hI) (fun _ => r_mv hA rfl) fun a hA => ?_
            refine gE 2 hA rfl (.inr hI) (fun _ => r_mv hA rfl) fun a hA => ?_
            obtain ⟨hb6, H⟩ := bG H
            refine gT 3 hA rfl hI (fun w hI => r_rix (j := 5) Tryd.underlying62 sz26 hI rfl hA rfl rfl hb6.1 hb6.2) fun a hA => ?_
            obtain ⟨A3, _, B3, hc8, hl3, _, he5⟩ := Els.at_ wc1 (getD_some [] hb6.1 hb6.2)
            obtain ⟨rfl, hw9⟩ := he5
            refine gT 4 hA rfl hI (fun w hI => r_rldP (j := 5) (q := s6.toNat * 32) (off := 0) A3 B3 [] [av .u8 32 (c1.getD s6.toNat [])] [] hc8 hl3 rfl Tryd.underlying26 rfl sz26 rfl hI rfl hA rfl) fun a hA => ?_
            refine gE 6 hA rfl (.inr hI) (fun _ => r_mv hA rfl) fun a hA => ?_
            refine gT 7 hA rfl hI (fun w hI => r_ldA (j := 0) [] [av .u8 32 r12.1] [] Tryd.underlying26 rfl sz26 rfl hI rfl hA rfl rfl) fun a hA => ?_
            refine gE 8 hA rfl (.inr hI) (fun _ => r_mv hA rfl) fun a hA => ?_
            refine gE 9 hA rfl (.inr hI) (fun _ => r_mv hA rfl) fun a hA => ?_
            refine gT 10 hA rfl hI (fun w hI => r_rix (j := 5) Tryd.underlying62 sz26 hI rfl hA rfl rfl hb6.1 hb6.2) fun a hA => ?_
            obtain ⟨A4, _, B4, hc9, hl4, _, he6⟩ := Els.at_ wc1 (getD_some [] hb6.1 hb6.2)
            obtain ⟨rfl, hw10⟩ := he6
            refine gT 11 hA rfl hI (fun w hI => r_rldP (j := 5) (q := s6.toNat * 32) (off := 0) A4 B4 [] [av .u8 32 (c1.getD s6.toNat [])] [] hc9 hl4 rfl Tryd.underlying26 rfl sz26 rfl hI rfl hA rfl) fun a hA => ?_
            refine gF 5 rfl ?_
            obtain ⟨r13, hr13, H⟩ := bB H
            have hI := hI.sl [1, 2, 3, 4, 0, 5, 6] rfl
            refine o_call _ cf30 hA rfl (best_Marks_Is.c μ2 _ hI.agr (⟨(⟨r12.2.t.m, r12.2.t.start⟩ : treeTree), r12.2.bad⟩ : bestMarks) g2 gm6 gs4 gm7 g3 hp9 hp10 hp11 (hI.handN 4) (c1.getD s6.toNat []) hw9 r13 hr13) rfl fun v10 a w hz19 hA => ?_
            obtain ⟨rfl, hw11, hi8⟩ := hz19
            have hI := hI.backN 4 hi8
            have hI : Iv w0 [] μ μ2 [cel g3 [[.pointer (some ⟨g2, 0, none⟩)], [.map (some gm7)]] 106, cel g2 [[.map (some gm6)], av .u8 32 r12.2.t.start] 97, nd95 gm6 r12.2.t.m gs4, mpI gm7 (ent kv104 vv104 r12.2.bad), cel g7 [av .u8 32 r12.1] 26, row 26 32 vvc1 c1.length ccc1, cel g1 [[.int .u32 r2.Head.Version], av .u8 32 r2.Head.Prev, av .u8 32 r2.Head.Root, [.int .u32 r2.Head.Time], [.int .u32 r2.Head.Work], [.int .u32 r2.Head.Nonce]] 28] w := hI
            refine o_nil <| ⟨(.inr (hI.sl [4, 0, 1, 2, 3, 5, 6] rfl)), ?_⟩
            refine gF 12 rfl ?_
            obtain ⟨r14, hr14, H⟩ := bB H
            refine o_call _ cf31 hA rfl (best_Marks_Over.c μ2 _ hI.agr (⟨(⟨r12.2.t.m, r12.2.t.start⟩ : treeTree), r12.2.bad⟩ : bestMarks) g2 gm6 gs4 gm7 g3 hp9 hp10 hp11 (hI.handN 4) r12.1 hw8 (c1.getD s6.toNat []) hw10 r14 hr14) rfl fun v11 a w hz20 hA => ?_
            obtain ⟨rfl, hw12, hi9⟩ := hz20
            have hI := hI.backN 4 hi9
            have hI : Iv w0 [] μ μ2 [cel g3 [[.pointer (some ⟨g2, 0, none⟩)], [.map (some gm7)]] 106, cel g2 [[.map (some gm6)], av .u8 32 r12.2.t.start] 97, nd95 gm6 r12.2.t.m gs4, mpI gm7 (ent kv104 vv104 r12.2.bad), cel g7 [av .u8 32 r12.1] 26, row 26 32 vvc1 c1.length ccc1, cel g1 [[.int .u32 r2.Head.Version], av .u8 32 r2.Head.Prev, av .u8 32 r2.Head.Root, [.int .u32 r2.Head.Time], [.int .u32 r2.Head.Work], [.int .u32 r2.Head.Nonce]] 28] w := hI
            refine o_nil <| ⟨(.inr (hI.sl [4, 0, 1, 2, 3, 5, 6] rfl)), ?_⟩
            refine gE 13 hA rfl (.inr (hI.sl [4, 0, 1, 2, 3, 5, 6] rfl)) (fun _ => r_eqlb Tryd.underlying4 hA rfl rfl) fun a hA => ?_
            refine gE 14 hA rfl (.inr (hI.sl [4, 0, 1, 2, 3, 5, 6] rfl)) (fun _ => r_mv hA rfl) fun a hA => ?_
            rcases Bool.eq_false_or_eq_true (decide (r13 = r14)) with hc10 | hc10
            · have hc100 := hc10; obtain ⟨hc10, H⟩ := dT H hc10
              refine g_easy (i := 15) hA rfl (wanted_yes hA rfl rfl hc100) (by kernel_rfl) (.inr (hI.sl [4, 0, 1, 2, 3, 5, 6] rfl)) (fun _ => r_mv hA rfl) rfl fun a hA => ?_
              refine g_easy (i := 16) hA rfl (wanted_yes hA rfl rfl hc100) (by kernel_rfl) (.inr (hI.sl [4, 0, 1, 2, 3, 5, 6] rfl)) (fun _ => r_mv hA rfl) rfl fun a hA => ?_
              refine g_easy (i := 17) hA rfl (wanted_yes hA rfl rfl hc100) (by kernel_rfl) (.inr (hI.sl [4, 0, 1, 2, 3, 5, 6] rfl)) (fun _ => r_mv hA rfl) rfl fun a hA => ?_
              refine g_mono (I' := fun w => Iv w0 [] μ μ2 [cel g3 [[.pointer (some ⟨g2, 0, none⟩)], [.map (some gm7)]] 106, cel g2 [[.map (some gm6)], av .u8 32 r12.2.t.start] 97, nd95 gm6 r12.2.t.m gs4, mpI gm7 (ent kv104 vv104 r12.2.bad), cel g7 [av .u8 32 r12.1] 26, row 26 32 vvc1 c1.length ccc1, cel g1 [[.int .u32 r2.Head.Version], av .u8 32 r2.Head.Prev, av .u8 32 r2.Head.Root, [.int .u32 r2.Head.Time], [.int .u32 r2.Head.Work], [.int .u32 r2.Head.Nonce]] 28] w) (fun w h => (h.sl [4, 0, 1, 2, 3, 5, 6] rfl)) _ _ _ _ ?_
              refine g_take (i := 18) hA rfl (wanted_yes hA rfl rfl hc100) (by kernel_rfl) hI (fun w hI => r_rix (j := 5) Tryd.underlying62 sz26 hI rfl hA rfl rfl hb6.1 hb6.2) rfl fun a hA => ?_
              obtain ⟨A5, _, B5, hc11, hl5, _, he7⟩ := Els.at_ wc1 (getD_some [] hb6.1 hb6.2)
              obtain ⟨rfl, hw13⟩ := he7
              refine g_take (i := 19) hA rfl (wanted_yes hA rfl rfl hc100) (by kernel_rfl) hI (fun w hI => r_rldP (j := 5) (q := s6.toNat * 32) (off := 0) A5 B5 [] [av .u8 32 (c1.getD s6.toNat [])] [] hc11 hl5 rfl Tryd.underlying26 rfl sz26 rfl hI rfl hA rfl) rfl fun a hA => ?_
              refine gF 20 rfl ?_
              refine o_yes hA rfl rfl hc100 <| ?_
              obtain ⟨r15, hr15, H⟩ := bB H
              refine o_call _ cf30 hA rfl (best_Marks_Is.c μ2 _ hI.agr (⟨(⟨r12.2.t.m, r12.2.t.start⟩ : treeTree), r12.2.bad⟩ : bestMarks) g2 gm6 gs4 gm7 g3 hp9 hp10 hp11 (hI.handN 4) (c1.getD s6.toNat []) hw13 r15 hr15) rfl fun v12 a w hz21 hA => ?_
              obtain ⟨rfl, hw14, hi10⟩ := hz21
              have hI := hI.backN 4 hi10
              have hI : Iv w0 [] μ μ2 [cel g3 [[.pointer (some ⟨g2, 0, none⟩)], [.map (some gm7)]] 106, cel g2 [[.map (some gm6)], av .u8 32 r12.2.t.start] 97, nd95 gm6 r12.2.t.m gs4, mpI gm7 (ent kv104 vv104 r12.2.bad), cel g7 [av .u8 32 r12.1] 26, row 26 32 vvc1 c1.length ccc1, cel g1 [[.int .u32 r2.Head.Version], av .u8 32 r2.Head.Prev, av .u8 32 r2.Head.Root, [.int .u32 r2.Head.Time], [.int .u32 r2.Head.Work], [.int .u32 r2.Head.Nonce]] 28] w := hI
              refine o_nil <| ⟨(.inr hI), ?_⟩
              refine g_easy (i := 21) hA rfl (wanted_yes hA rfl rfl hc100) (by kernel_rfl) (.inr hI) (fun _ => r_not hA rfl) rfl fun a hA => ?_
              refine gE 22 hA rfl (.inr hI) (fun _ => r_pick_t hA rfl hc100 rfl) fun a hA => ?_
              refine gE 23 hA rfl (.inr hI) (fun _ => r_mv hA rfl) fun a hA => ?_
              rcases Bool.eq_false_or_eq_true (!r15) with hc12 | hc12
              · have hc120 := hc12; have hc12 := nT hc12; have hc12 := ft hc12; have H := bF H hc12
                refine g_take (i := 24) hA rfl (wanted_yes hA rfl rfl hc120) (by kernel_rfl) hI (fun w hI => r_ldA (j := 4) [] [av .u8 32 r12.1] [] Tryd.underlying26 rfl sz26 rfl hI rfl hA rfl rfl) rfl fun a hA => ?_
                refine g_easy (i := 25) hA rfl (wanted_yes hA rfl rfl hc120) (by kernel_rfl) (.inr hI) (fun _ => r_mv hA rfl) rfl fun a hA => ?_
                refine g_easy (i := 26) hA rfl (wanted_yes hA rfl rfl hc120) (by kernel_rfl) (.inr hI) (fun _ => r_mv hA rfl) rfl fun a hA => ?_
                refine g_take (i := 27) hA rfl (wanted_yes hA rfl rfl hc120) (by kernel_rfl) hI (fun w hI => r_rix (j := 5) Tryd.underlying62 sz26 hI rfl hA rfl rfl hb6.1 hb6.2) rfl fun a hA => ?_
                obtain ⟨A6, _, B6, hc13, hl6, _, he8⟩ := Els.at_ wc1 (getD_some [] hb6.1 hb6.2)
                obtain ⟨rfl, hw15⟩ := he8
                refine g_take (i := 28) hA rfl (wanted_yes hA rfl rfl hc120) (by kernel_rfl) hI (fun w hI => r_rldP (j := 5) (q := s6.toNat * 32) (off := 0) A6 B6 [] [av .u8 32 (c1.getD s6.toNat [])] [] hc13 hl6 rfl Tryd.underlying26 rfl sz26 rfl hI rfl hA rfl) rfl fun a hA => ?_
                refine gF 29 rfl ?_
                refine o_yes hA rfl rfl hc120 <| ?_
                obtain ⟨r16, hr16, H⟩ := bB H
                refine o_callp (u := .bool r16) cf23 hA rfl hI (sargassoref_SameHash.c μ2 _ hI.agr r12.1 hw8 (c1.getD s6.toNat []) hw15 r16 hr16) rfl fun a w hz22 hI hA => ?_
                refine o_nil <| ⟨(.inr hI), ?_⟩
                refine g_easy (i := 30) hA rfl (wanted_yes hA rfl rfl hc120) (by kernel_rfl) (.inr hI) (fun _ => r_not hA rfl) rfl fun a hA => ?_
                refine gE 31 hA rfl (.inr hI) (fun _ => r_pick_t hA rfl hc120 rfl) fun a hA => ?_
                refine gN ?_
                cases sJ H
                exact ⟨hA.sub ⟨rfl, rfl, rfl, rfl, rfl, rfl, rfl, rfl, rfl, rfl, rfl, trivial⟩, (hI.sl [4, 0, 1, 2, 3, 5, 6] rfl)⟩
              · have hc120 := hc12; have hc12 := nF hc12; have H := bT H hc12
                refine g_skip (i := 24) hA rfl (wanted_no hA rfl rfl (by rw [hc120]; simp [vb])) (by kernel_rfl) (.inr hI) rfl fun a hA => ?_
                refine g_skip (i := 25) hA rfl (wanted_no hA rfl rfl (by rw [hc120]; simp [vb])) (by kernel_rfl) (.inr hI) rfl fun a hA => ?_
                refine g_skip (i := 26) hA rfl (wanted_no hA rfl rfl (by rw [hc120]; simp [vb])) (by kernel_rfl) (.inr hI) rfl fun a hA => ?_
                refine g_skip (i := 27) hA rfl (wanted_no hA rfl rfl (by rw [hc120]; simp [vb])) (by kernel_rfl) (.inr hI) rfl fun a hA => ?_
                refine g_skip (i := 28) hA rfl (wanted_no hA rfl rfl (by rw [hc120]; simp [vb])) (by kernel_rfl) (.inr hI) rfl fun a hA => ?_
                refine g_skip (i := 29) hA rfl (wanted_no hA rfl rfl (by rw [hc120]; simp [vb])) (by kernel_rfl) (.inr hI) rfl fun a hA => ?_
                refine g_skip (i := 30) hA rfl (wanted_no hA rfl rfl (by rw [hc120]; simp [vb])) (by kernel_rfl) (.inr hI) rfl fun a hA => ?_
                refine gE 31 hA rfl (.inr hI) (fun _ => r_pick_f hA rfl hc120 rfl) fun a hA => ?_
                refine gN ?_
                cases sJ H
                exact ⟨hA.sub ⟨rfl, rfl, rfl, rfl, rfl, rfl, rfl, rfl, rfl, rfl, rfl, trivial⟩, (hI.sl [4, 0, 1, 2, 3, 5, 6] rfl)⟩
            · have hc100 := hc10; obtain ⟨hc10, H⟩ := dF H hc10
              refine g_skip (i := 15) hA rfl (wanted_no hA rfl rfl (by rw [hc100]; simp [vb])) (by kernel_rfl) (.inr (hI.sl [4, 0, 1, 2, 3, 5, 6] rfl)) rfl fun a hA => ?_
              refine g_skip (i := 16) hA rfl (wanted_no hA rfl rfl (by rw [hc100]; simp [vb])) (by kernel_rfl) (.inr (hI.sl [4, 0, 1, 2, 3, 5, 6] rfl)) rfl fun a hA => ?_
              refine g_skip (i := 17) hA rfl (wanted_no hA rfl rfl (by rw [hc100]; simp [vb])) (by kernel_rfl) (.inr (hI.sl [4, 0, 1, 2, 3, 5, 6] rfl)) rfl fun a hA => ?_
              refine g_skip (i := 18) hA rfl (wanted_no hA rfl rfl (by rw [hc100]; simp [vb])) (by kernel_rfl) (.inr (hI.sl [4, 0, 1, 2, 3, 5, 6] rfl)) rfl fun a hA => ?_
              refine g_skip (i := 19) hA rfl (wanted_no hA rfl rfl (by rw [hc100]; simp [vb])) (by kernel_rfl) (.inr (hI.sl [4, 0, 1, 2, 3, 5, 6] rfl)) rfl fun a hA => ?_
              refine g_skip (i := 20) hA rfl (wanted_no hA rfl rfl (by rw [hc100]; simp [vb])) (by kernel_rfl) (.inr (hI.sl [4, 0, 1, 2, 3, 5, 6] rfl)) rfl fun a hA => ?_
              refine g_skip (i := 21) hA rfl (wanted_no hA rfl rfl (by rw [hc100]; simp [vb])) (by kernel_rfl) (.inr (hI.sl [4, 0, 1, 2, 3, 5, 6] rfl)) rfl fun a hA => ?_
              refine gE 22 hA rfl (.inr (hI.sl [4, 0, 1, 2, 3, 5, 6] rfl)) (fun _ => r_pick_f hA rfl hc100 rfl) fun a hA => ?_
              refine gE 23 hA rfl (.inr (hI.sl [4, 0, 1, 2, 3, 5, 6] rfl)) (fun _ => r_mv hA rfl) fun a hA => ?_
              refine g_skip (i := 24) hA rfl (wanted_no hA rfl rfl (by simp [vb])) (by kernel_rfl) (.inr (hI.sl [4, 0, 1, 2, 3, 5, 6] rfl)) rfl fun a hA => ?_
              refine g_skip (i := 25) hA rfl (wanted_no hA rfl rfl (by simp [vb])) (by kernel_rfl) (.inr (hI.sl [4, 0, 1, 2, 3, 5, 6] rfl)) rfl fun a hA => ?_
              refine g_skip (i := 26) hA rfl (wanted_no hA rfl rfl (by simp [vb])) (by kernel_rfl) (.inr (hI.sl [4, 0, 1, 2, 3, 5, 6] rfl)) rfl fun a hA => ?_
              refine g_skip (i := 27) hA rfl (wanted_no hA rfl rfl (by simp [vb])) (by kernel_rfl) (.inr (hI.sl [4, 0, 1, 2, 3, 5, 6] rfl)) rfl fun a hA => ?_
              refine g_skip (i := 28) hA rfl (wanted_no hA rfl rfl (by simp [vb])) (by kernel_rfl) (.inr (hI.sl [4, 0, 1, 2, 3, 5, 6] rfl)) rfl fun a hA => ?_
              refine g_skip (i := 29) hA rfl (wanted_no hA rfl rfl (by simp [vb])) (by kernel_rfl) (.inr (hI.sl [4, 0, 1, 2, 3, 5, 6] rfl)) rfl fun a hA => ?_
              refine g_skip (i := 30) hA rfl (wanted_no hA rfl rfl (by simp [vb])) (by kernel_rfl) (.inr (hI.sl [4, 0, 1, 2, 3, 5, 6] rfl)) rfl fun a hA => ?_
              refine gE 31 hA rfl (.inr (hI.sl [4, 0, 1, 2, 3, 5, 6] rfl)) (fun _ => r_pick_f hA rfl rfl rfl) fun a hA => ?_
              refine gN ?_
              cases sJ H
              exact ⟨hA.sub ⟨rfl, rfl, rfl, rfl, rfl, rfl, rfl, rfl, rfl, rfl, rfl, trivial⟩, (hI.sl [4, 0, 1, 2, 3, 5, 6] rfl)⟩
          · rintro a w ⟨hA, hI⟩
            have H := Hk6
            refine w_cond hA rfl (fun hc14 => ?_) (fun hc14 => ?_)
            · have H := bT H hc14
              refine w_seq fun _ hN29 => w_reg <| sta hA rfl rfl fun a hA => ?_
              refine o_nil <| hN29 _ _ <| w_ret ?_
              have H : some false = some z2 := H
              obtain rfl := sI H
              have H := Hk5
              obtain rfl := sJ H
              exact ret1 hA Tryd.results5 rfl ⟨_, rfl, rfl, trivial, hI.forget0⟩
            · have hc14 := ft hc14; have H := bF H hc14
              refine w_skip <| hN28 _ _ <| w_reg <| stm hA rfl rfl fun a hA => 
                stp hA (r_add hA rfl rfl) rfl fun a hA => 
                sta hA rfl rfl fun a hA => ?_
              refine o_nil <| ⟨m2, Nat.lt_succ_self _, IntKind.i64.wrap (s6 + 1), H, (wrap_in _ _), hA.sub ⟨rfl, rfl, rfl, rfl, rfl, rfl, rfl, rfl, rfl, trivial⟩, hI⟩
        · obtain ⟨hc7, H⟩ := dF H hc7
          refine w_exit rfl <| hN24 _ _ <| w_seq fun _ hN30 => w_reg <| stm hA rfl rfl fun a hA => 
            stm hA rfl rfl fun a hA => 
            stm hA rfl rfl fun a hA => ?_
          have hlen4 := Iv.row_in hI (j := 5) rfl
          refine stp hA (r_rlen (xs := 0) Tryd.underlying62 hI (j := 5) rfl hA rfl) rfl fun a hA => ?_
          obtain ⟨r17, hr17, H⟩ := bB H
          refine o_callp (u := .int .i64 r17) cf8 hA rfl hI (sargassoworld_Number.c μ2 _ hI.agr x1 hx1 (c1.length : Int) hlen4 r17 hr17) rfl fun a w hz23 hI hA => ?_
          obtain ⟨hb7, H⟩ := bG H
          refine stp hA (r_rix (j := 5) Tryd.underlying62 sz26 hI rfl hA rfl rfl hb7.1 hb7.2) rfl fun a hA => ?_
          obtain ⟨A7, _, B7, hc15, hl7, _, he9⟩ := Els.at_ wc1 (getD_some [] hb7.1 hb7.2)
          obtain ⟨rfl, hw16⟩ := he9
          refine stp hA (r_rldP (j := 5) (q := r17.toNat * 32) (off := 0) A7 B7 [] [av .u8 32 (c1.getD r17.toNat [])] [] hc15 hl7 rfl Tryd.underlying26 rfl sz26 rfl hI rfl hA rfl) rfl fun a hA => 
            o_new [av .u8 32 (List.replicate 32 0)] zr26 hI hA rfl fun g8 a w hA hI hg8 => 
            o_st (j := 0) [] [av .u8 32 (List.replicate 32 0)] [av .u8 32 (c1.getD r17.toNat [])] [] sz26 rfl rfl (fl_cons (one_av _ _ _) fl_nil) hI rfl hA rfl rfl rfl rfl fun w hI => ?_
          refine o_nil <| hN30 _ _ <| w_seq fun _ hN31 => w_reg <| stm hA rfl rfl fun a hA => 
            stm hA rfl rfl fun a hA => 
            stm hA rfl rfl fun a hA => ?_
          have hlen5 := Iv.row_in hI (j := 6) rfl
          refine stp hA (r_rlen (xs := 0) Tryd.underlying62 hI (j := 6) rfl hA rfl) rfl fun a hA => ?_
          obtain ⟨r18, hr18, H⟩ := bB H
          refine o_callp (u := .int .i64 r18) cf8 hA rfl hI (sargassoworld_Number.c μ2 _ hI.agr x2 hx2 (c1.length : Int) hlen5 r18 hr18) rfl fun a w hz24 hI hA => ?_
          obtain ⟨hb8, H⟩ := bG H
          refine stp hA (r_rix (j := 6) Tryd.underlying62 sz26 hI rfl hA rfl rfl hb8.1 hb8.2) rfl fun a hA => ?_
          obtain ⟨A8, _, B8, hc16, hl8, _, he10⟩ := Els.at_ wc1 (getD_some [] hb8.1 hb8.2)
          obtain ⟨rfl, hw17⟩ := he10
          refine stp hA (r_rldP (j := 6) (q := r18.toNat * 32) (off := 0) A8 B8 [] [av .u8 32 (c1.getD r18.toNat [])] [] hc16 hl8 rfl Tryd.underlying26 rfl sz26 rfl hI rfl hA rfl) rfl fun a hA => 
            o_new [av .u8 32 (List.replicate 32 0)] zr26 hI hA rfl fun g9 a w hA hI hg9 => 
            o_st (j := 0) [] [av .u8 32 (List.replicate 32 0)] [av .u8 32 (c1.getD r18.toNat [])] [] sz26 rfl rfl (fl_cons (one_av _ _ _) fl_nil) hI rfl hA rfl rfl rfl rfl fun w hI => ?_
          refine o_nil <| hN31 _ _ ?_
          obtain ⟨c14, hz25, Hk7⟩ := bB H
          refine w_cut (fun a w => Fr a 189 [(6, .bool c14)] ∧ Iv w0 [] μ μ2 [cel g9 [av .u8 32 (c1.getD r18.toNat [])] 26, cel g8 [av .u8 32 (c1.getD r17.toNat [])] 26, cel g7 [av .u8 32 r12.1] 26, cel g3 [[.pointer (some ⟨g2, 0, none⟩)], [.map (some gm7)]] 106, cel g2 [[.map (some gm6)], av .u8 32 r12.2.t.start] 97, nd95 gm6 r12.2.t.m gs4, mpI gm7 (ent kv104 vv104 r12.2.bad), row 26 32 vvc1 c1.length ccc1, cel g1 [[.int .u32 r2.Head.Version], av .u8 32 r2.Head.Prev, av .u8 32 r2.Head.Root, [.int .u32 r2.Head.Time], [.int .u32 r2.Head.Work], [.int .u32 r2.Head.Nonce]] 28] w) ?_ ?_
          · have H := bI hz25
            refine w_any [] mo hI fun w hI => ?_
            refine gE 0 hA rfl (.inr hI) (fun _ => r_mv hA rfl) fun a hA => ?_
            refine gE 1 hA rfl (.inr hI) (fun _ => r_mv hA rfl) fun a hA => ?_
            rcases Bool.eq_false_or_eq_true r1 with hc17 | hc17
            · have hc170 := hc17; have H := bT H hc17
              refine g_easy (i := 2) hA rfl (wanted_yes hA rfl rfl hc170) (by kernel_rfl) (.inr hI) (fun _ => r_mv hA rfl) rfl fun a hA => ?_
              refine g_take (i := 3) hA rfl (wanted_yes hA rfl rfl hc170) (by kernel_rfl) hI (fun w hI => r_ldA (j := 2) [] [av .u8 32 r12.1] [] Tryd.underlying26 rfl sz26 rfl hI rfl hA rfl rfl) rfl fun a hA => ?_
              refine gF 4 rfl ?_
              refine o_yes hA rfl rfl hc170 <| ?_
              obtain ⟨r19, hr19, H⟩ := bB H
              have hI := hI.sl [3, 4, 5, 6, 0, 1, 2, 7, 8] rfl
              refine o_call _ cf30 hA rfl (best_Marks_Is.c μ2 _ hI.agr (⟨(⟨r12.2.t.m, r12.2.t.start⟩ : treeTree), r12.2.bad⟩ : bestMarks) g2 gm6 gs4 gm7 g3 hp9 hp10 hp11 (hI.handN 4) r12.1 hw8 r19 hr19) rfl fun v13 a w hz26 hA => ?_
              obtain ⟨rfl, hw18, hi11⟩ := hz26
              have hI := hI.backN 4 hi11
              have hI : Iv w0 [] μ μ2 [cel g3 [[.pointer (some ⟨g2, 0, none⟩)], [.map (some gm7)]] 106, cel g2 [[.map (some gm6)], av .u8 32 r12.2.t.start] 97, nd95 gm6 r12.2.t.m gs4, mpI gm7 (ent kv104 vv104 r12.2.bad), cel g9 [av .u8 32 (c1.getD r18.toNat [])] 26, cel g8 [av .u8 32 (c1.getD r17.toNat [])] 26, cel g7 [av .u8 32 r12.1] 26, row 26 32 vvc1 c1.length ccc1, cel g1 [[.int .u32 r2.Head.Version], av .u8 32 r2.Head.Prev, av .u8 32 r2.Head.Root, [.int .u32 r2.Head.Time], [.int .u32 r2.Head.Work], [.int .u32 r2.Head.Nonce]] 28] w := hI
              refine o_nil <| ⟨(.inr (hI.sl [4, 5, 6, 0, 1, 2, 3, 7, 8] rfl)), ?_⟩
              refine g_easy (i := 5) hA rfl (wanted_yes hA rfl rfl hc170) (by kernel_rfl) (.inr (hI.sl [4, 5, 6, 0, 1, 2, 3, 7, 8] rfl)) (fun _ => r_not hA rfl) rfl fun a hA => ?_
              refine gE 6 hA rfl (.inr (hI.sl [4, 5, 6, 0, 1, 2, 3, 7, 8] rfl)) (fun _ => r_pick_t hA rfl hc170 rfl) fun a hA => ?_
              refine gE 7 hA rfl (.inr (hI.sl [4, 5, 6, 0, 1, 2, 3, 7, 8] rfl)) (fun _ => r_mv hA rfl) fun a hA => ?_
              rcases Bool.eq_false_or_eq_true (!r19) with hc18 | hc18
              · have hc180 := hc18; have hc18 := nT hc18; have hc18 := ft hc18; have H := bF H hc18
                refine g_easy (i := 8) hA rfl (wanted_yes hA rfl rfl hc180) (by kernel_rfl) (.inr (hI.sl [4, 5, 6, 0, 1, 2, 3, 7, 8] rfl)) (fun _ => r_mv hA rfl) rfl fun a hA => ?_
                refine g_easy (i := 9) hA rfl (wanted_yes hA rfl rfl hc180) (by kernel_rfl) (.inr (hI.sl [4, 5, 6, 0, 1, 2, 3, 7, 8] rfl)) (fun _ => r_mv hA rfl) rfl fun a hA => ?_
                refine gF 10 rfl ?_
                refine o_yes hA rfl rfl hc180 <| ?_
                obtain ⟨r20, hr20, H⟩ := bB H
                have hI := hI.sl [1, 2, 0, 3, 4, 5, 6, 7, 8] rfl
                refine o_call _ cf27 hA rfl (tree_Tree_Start.c μ2 _ hI.agr (⟨r12.2.t.m, r12.2.t.start⟩ : treeTree) gm6 gs4 g2 hp9 hp10 (hI.handN 2) r20 hr20) rfl fun v14 a w hz27 hA => ?_
                obtain ⟨rfl, hw19, hi12⟩ := hz27
                have hI := hI.back2 hi12
                refine o_nil <| ⟨(.inr (hI.sl [4, 5, 6, 2, 0, 1, 3, 7, 8] rfl)), ?_⟩
                refine gF 11 rfl ?_
                refine o_yes hA rfl rfl hc180 <| ?_
                obtain ⟨r21, hr21, H⟩ := bB H
                have hI := hI.sl [2, 0, 1, 3, 4, 5, 6, 7, 8] rfl
                refine o_call _ cf30 hA rfl (best_Marks_Is.c μ2 _ hI.agr (⟨(⟨r12.2.t.m, r12.2.t.start⟩ : treeTree), r12.2.bad⟩ : bestMarks) g2 gm6 gs4 gm7 g3 hp9 hp10 hp11 (hI.handN 4) r20 hw19 r21 hr21) rfl fun v15 a w hz28 hA => ?_
                obtain ⟨rfl, hw20, hi13⟩ := hz28
                have hI := hI.backN 4 hi13
                have hI : Iv w0 [] μ μ2 [cel g3 [[.pointer (some ⟨g2, 0, none⟩)], [.map (some gm7)]] 106, cel g2 [[.map (some gm6)], av .u8 32 r12.2.t.start] 97, nd95 gm6 r12.2.t.m gs4, mpI gm7 (ent kv104 vv104 r12.2.bad), cel g9 [av .u8 32 (c1.getD r18.toNat [])] 26, cel g8 [av .u8 32 (c1.getD r17.toNat [])] 26, cel g7 [av .u8 32 r12.1] 26, row 26 32 vvc1 c1.length ccc1, cel g1 [[.int .u32 r2.Head.Version], av .u8 32 r2.Head.Prev, av .u8 32 r2.Head.Root, [.int .u32 r2.Head.Time], [.int .u32 r2.Head.Work], [.int .u32 r2.Head.Nonce]] 28] w := hI
                refine o_nil <| ⟨(.inr (hI.sl [4, 5, 6, 0, 1, 2, 3, 7, 8] rfl)), ?_⟩
                refine g_easy (i := 12) hA rfl (wanted_yes hA rfl rfl hc180) (by kernel_rfl) (.inr (hI.sl [4, 5, 6, 0, 1, 2, 3, 7, 8] rfl)) (fun _ => r_not hA rfl) rfl fun a hA => ?_
                refine gE 13 hA rfl (.inr (hI.sl [4, 5, 6, 0, 1, 2, 3, 7, 8] rfl)) (fun _ => r_pick_t hA rfl hc180 rfl) fun a hA => ?_
                refine gE 14 hA rfl (.inr (hI.sl [4, 5, 6, 0, 1, 2, 3, 7, 8] rfl)) (fun _ => r_mv hA rfl) fun a hA => ?_
                rcases Bool.eq_false_or_eq_true (!r21) with hc19 | hc19
                · have hc190 := hc19; have hc19 := nT hc19; have hc19 := ft hc19; have H := bF H hc19
                  refine g_easy (i := 15) hA rfl (wanted_yes hA rfl rfl hc190) (by kernel_rfl) (.inr (hI.sl [4, 5, 6, 0, 1, 2, 3, 7, 8] rfl)) (fun _ => r_mv hA rfl) rfl fun a hA => ?_
                  refine g_mono (I' := fun w => Iv w0 [] μ μ2 [cel g3 [[.pointer (some ⟨g2, 0, none⟩)], [.map (some gm7)]] 106, cel g2 [[.map (some gm6)], av .u8 32 r12.2.t.start] 97, nd95 gm6 r12.2.t.m gs4, mpI gm7 (ent kv104 vv104 r12.2.bad), cel g9 [av .u8 32 (c1.getD r18.toNat [])] 26, cel g8 [av .u8 32 (c1.getD r17.toNat [])] 26, cel g7 [av .u8 32 r12.1] 26, row 26 32 vvc1 c1.length ccc1, cel g1 [[.int .u32 r2.Head.Version], av .u8 32 r2.Head.Prev, av .u8 32 r2.Head.Root, [.int .u32 r2.Head.Time], [.int .u32 r2.Head.Work], [.int .u32 r2.Head.Nonce]] 28] w) (fun w h => (h.sl [4, 5, 6, 0, 1, 2, 3, 7, 8] rfl)) _ _ _ _ ?_
                  refine g_take (i := 16) hA rfl (wanted_yes hA rfl rfl hc190) (by kernel_rfl) hI (fun w hI => r_ldA (j := 5) [] [av .u8 32 (c1.getD r17.toNat [])] [] Tryd.underlying26 rfl sz26 rfl hI rfl hA rfl rfl) rfl fun a hA => ?_
                  refine g_take (i := 17) hA rfl (wanted_yes hA rfl rfl hc190) (by kernel_rfl) hI (fun w hI => r_ldA (j := 4) [] [av .u8 32 (c1.getD r18.toNat [])] [] Tryd.underlying26 rfl sz26 rfl hI rfl hA rfl rfl) rfl fun a hA => ?_
                  refine g_take (i := 25) hA rfl (wanted_yes hA rfl rfl hc190) (by kernel_rfl) hI (fun w hI => r_ldA (j := 5) [] [av .u8 32 (c1.getD r17.toNat [])] [] Tryd.underlying26 rfl sz26 rfl hI rfl hA rfl rfl) rfl fun a hA => ?_
                  refine g_take (i := 26) hA rfl (wanted_yes hA rfl rfl hc190) (by kernel_rfl) hI (fun w hI => r_ldA (j := 4) [] [av .u8 32 (c1.getD r18.toNat [])] [] Tryd.underlying26 rfl sz26 rfl hI rfl hA rfl rfl) rfl fun a hA => ?_
                  refine gF 18 rfl ?_
                  refine o_yes hA rfl rfl hc190 <| ?_
                  obtain ⟨r22, hr22, H⟩ := bB H
                  refine o_call _ cf31 hA rfl (best_Marks_Over.c μ2 _ hI.agr (⟨(⟨r12.2.t.m, r12.2.t.start⟩ : treeTree), r12.2.bad⟩ : bestMarks) g2 gm6 gs4 gm7 g3 hp9 hp10 hp11 (hI.handN 4) (c1.getD r17.toNat []) hw16 (c1.getD r18.toNat []) hw17 r22 hr22) rfl fun v16 a w hz29 hA => ?_
                  obtain ⟨rfl, hw21, hi14⟩ := hz29
                  have hI := hI.backN 4 hi14
                  have hI : Iv w0 [] μ μ2 [cel g3 [[.pointer (some ⟨g2, 0, none⟩)], [.map (some gm7)]] 106, cel g2 [[.map (some gm6)], av .u8 32 r12.2.t.start] 97, nd95 gm6 r12.2.t.m gs4, mpI gm7 (ent kv104 vv104 r12.2.bad), cel g9 [av .u8 32 (c1.getD r18.toNat [])] 26, cel g8 [av .u8 32 (c1.getD r17.toNat [])] 26, cel g7 [av .u8 32 r12.1] 26, row 26 32 vvc1 c1.length ccc1, cel g1 [[.int .u32 r2.Head.Version], av .u8 32 r2.Head.Prev, av .u8 32 r2.Head.Root, [.int .u32 r2.Head.Time], [.int .u32 r2.Head.Work], [.int .u32 r2.Head.Nonce]] 28] w := hI
                  refine o_nil <| ⟨(.inr hI), ?_⟩
                  refine g_easy (i := 19) hA rfl (wanted_yes hA rfl rfl hc190) (by kernel_rfl) (.inr hI) (fun _ => r_mv hA rfl) rfl fun a hA => ?_
                  rcases Bool.eq_false_or_eq_true r22 with hc20 | hc20
                  · have hc200 := hc20; have H := bT H hc20
                    refine g_skip (i := 20) hA rfl (wanted_no hA rfl rfl (by rw [hc200]; simp [vb])) (by kernel_rfl) (.inr hI) rfl fun a hA => ?_
                    refine g_skip (i := 21) hA rfl (wanted_no hA rfl rfl (by rw [hc200]; simp [vb])) (by kernel_rfl) (.inr hI) rfl fun a hA => ?_
                    refine g_skip (i := 22) hA rfl (wanted_no hA rfl rfl (by rw [hc200]; simp [vb])) (by kernel_rfl) (.inr hI) rfl fun a hA => ?_
                    refine g_skip (i := 23) hA rfl (wanted_no hA rfl rfl (by rw [hc200]; simp [vb])) (by kernel_rfl) (.inr hI) rfl fun a hA => ?_
                    refine g_easy (i := 24) hA rfl (wanted_yes hA rfl rfl hc190) (by kernel_rfl) (.inr hI) (fun _ => r_pick_t hA rfl hc200 rfl) rfl fun a hA => ?_
                    refine gF 27 rfl ?_
                    refine o_yes hA rfl rfl hc190 <| ?_
                    obtain ⟨r23, hr23, H⟩ := bB H
                    refine o_callp (u := .bool r23) cf23 hA rfl hI (sargassoref_SameHash.c μ2 _ hI.agr (c1.getD r17.toNat []) hw16 (c1.getD r18.toNat []) hw17 r23 hr23) rfl fun a w hz30 hI hA => ?_
                    refine o_nil <| ⟨(.inr hI), ?_⟩
                    refine g_easy (i := 28) hA rfl (wanted_yes hA rfl rfl hc190) (by kernel_rfl) (.inr hI) (fun _ => r_neqb Tryd.underlying4 hA rfl rfl) rfl fun a hA => ?_
                    refine gE 29 hA rfl (.inr hI) (fun _ => r_pick_t hA rfl hc190 rfl) fun a hA => ?_
                    refine gE 30 hA rfl (.inr hI) (fun _ => r_mv hA rfl) fun a hA => ?_
                    rcases Bool.eq_false_or_eq_true (decide (true ≠ r23)) with hc21 | hc21
                    · have hc210 := hc21; obtain ⟨hc21, H⟩ := dT H hc21
                      refine g_easy (i := 31) hA rfl (wanted_yes hA rfl rfl hc210) (by kernel_rfl) (.inr hI) (fun _ => r_mv hA rfl) rfl fun a hA => ?_
                      refine g_take (i := 32) hA rfl (wanted_yes hA rfl rfl hc210) (by kernel_rfl) hI (fun w hI => r_ldA (j := 5) [] [av .u8 32 (c1.getD r17.toNat [])] [] Tryd.underlying26 rfl sz26 rfl hI rfl hA rfl rfl) rfl fun a hA => ?_
                      refine g_take (i := 33) hA rfl (wanted_yes hA rfl rfl hc210) (by kernel_rfl) hI (fun w hI => r_ldA (j := 4) [] [av .u8 32 (c1.getD r18.toNat [])] [] Tryd.underlying26 rfl sz26 rfl hI rfl hA rfl rfl) rfl fun a hA => ?_
                      refine gF 34 rfl ?_
                      refine o_yes hA rfl rfl hc210 <| ?_
                      obtain ⟨r24, hr24, H⟩ := bB H
                      refine o_call _ cf31 hA rfl (best_Marks_Over.c μ2 _ hI.agr (⟨(⟨r12.2.t.m, r12.2.t.start⟩ : treeTree), r12.2.bad⟩ : bestMarks) g2 gm6 gs4 gm7 g3 hp9 hp10 hp11 (hI.handN 4) (c1.getD r17.toNat []) hw16 (c1.getD r18.toNat []) hw17 r24 hr24) rfl fun v17 a w hz31 hA => ?_
                      obtain ⟨rfl, hw22, hi15⟩ := hz31
                      have hI := hI.backN 4 hi15
                      have hI : Iv w0 [] μ μ2 [cel g3 [[.pointer (some ⟨g2, 0, none⟩)], [.map (some gm7)]] 106, cel g2 [[.map (some gm6)], av .u8 32 r12.2.t.start] 97, nd95 gm6 r12.2.t.m gs4, mpI gm7 (ent kv104 vv104 r12.2.bad), cel g9 [av .u8 32 (c1.getD r18.toNat [])] 26, cel g8 [av .u8 32 (c1.getD r17.toNat [])] 26, cel g7 [av .u8 32 r12.1] 26, row 26 32 vvc1 c1.length ccc1, cel g1 [[.int .u32 r2.Head.Version], av .u8 32 r2.Head.Prev, av .u8 32 r2.Head.Root, [.int .u32 r2.Head.Time], [.int .u32 r2.Head.Work], [.int .u32 r2.Head.Nonce]] 28] w := hI
                      refine o_nil <| ⟨(.inr hI), ?_⟩
                      refine g_easy (i := 35) hA rfl (wanted_yes hA rfl rfl hc210) (by kernel_rfl) (.inr hI) (fun _ => r_mv hA rfl) rfl fun a hA => ?_
                      rcases Bool.eq_false_or_eq_true r24 with hc22 | hc22
                      · have hc220 := hc22; have H := bT H hc22
                        refine g_easy (i := 36) hA rfl (wanted_yes hA rfl rfl hc220) (by kernel_rfl) (.inr hI) (fun _ => r_mv hA rfl) rfl fun a hA => ?_
                        refine g_take (i := 37) hA rfl (wanted_yes hA rfl rfl hc220) (by kernel_rfl) hI (fun w hI => r_ldA (j := 4) [] [av .u8 32 (c1.getD r18.toNat [])] [] Tryd.underlying26 rfl sz26 rfl hI rfl hA rfl rfl) rfl fun a hA => ?_
                        refine g_take (i := 38) hA rfl (wanted_yes hA rfl rfl hc220) (by kernel_rfl) hI (fun w hI => r_ldA (j := 5) [] [av .u8 32 (c1.getD r17.toNat [])] [] Tryd.underlying26 rfl sz26 rfl hI rfl hA rfl rfl) rfl fun a hA => ?_
                        refine gF 39 rfl ?_
                        refine o_yes hA rfl rfl hc220 <| ?_
                        obtain ⟨r25, hr25, H⟩ := bB H
                        refine o_call _ cf31 hA rfl (best_Marks_Over.c μ2 _ hI.agr (⟨(⟨r12.2.t.m, r12.2.t.start⟩ : treeTree), r12.2.bad⟩ : bestMarks) g2 gm6 gs4 gm7 g3 hp9 hp10 hp11 (hI.handN 4) (c1.getD r18.toNat []) hw17 (c1.getD r17.toNat []) hw16 r25 hr25) rfl fun v18 a w hz32 hA => ?_
                        obtain ⟨rfl, hw23, hi16⟩ := hz32
                        have hI := hI.backN 4 hi16
                        have hI : Iv w0 [] μ μ2 [cel g3 [[.pointer (some ⟨g2, 0, none⟩)], [.map (some gm7)]] 106, cel g2 [[.map (some gm6)], av .u8 32 r12.2.t.start] 97, nd95 gm6 r12.2.t.m gs4, mpI gm7 (ent kv104 vv104 r12.2.bad), cel g9 [av .u8 32 (c1.getD r18.toNat [])] 26, cel g8 [av .u8 32 (c1.getD r17.toNat [])] 26, cel g7 [av .u8 32 r12.1] 26, row 26 32 vvc1 c1.length ccc1, cel g1 [[.int .u32 r2.Head.Version], av .u8 32 r2.Head.Prev, av .u8 32 r2.Head.Root, [.int .u32 r2.Head.Time], [.int .u32 r2.Head.Work], [.int .u32 r2.Head.Nonce]] 28] w := hI
                        refine o_nil <| ⟨(.inr hI), ?_⟩
                        refine g_easy (i := 40) hA rfl (wanted_yes hA rfl rfl hc210) (by kernel_rfl) (.inr hI) (fun _ => r_pick_t hA rfl hc220 rfl) rfl fun a hA => ?_
                        refine g_easy (i := 41) hA rfl (wanted_yes hA rfl rfl hc210) (by kernel_rfl) (.inr hI) (fun _ => r_not hA rfl) rfl fun a hA => ?_
                        refine gE 42 hA rfl (.inr hI) (fun _ => r_pick_t hA rfl hc210 rfl) fun a hA => ?_
                        refine gE 43 hA rfl (.inr hI) (fun _ => r_as hA rfl) fun a hA => ?_
                        refine gN ?_
                        cases sJ H
                        exact ⟨hA.sub ⟨rfl, trivial⟩, (hI.sl [4, 5, 6, 0, 1, 2, 3, 7, 8] rfl)⟩
                      · have hc220 := hc22; have hc22 := ft hc22; have H := bF H hc22
                        refine g_skip (i := 36) hA rfl (wanted_no hA rfl rfl (by rw [hc220]; simp [vb])) (by kernel_rfl) (.inr hI) rfl fun a hA => ?_
                        refine g_skip (i := 37) hA rfl (wanted_no hA rfl rfl (by rw [hc220]; simp [vb])) (by kernel_rfl) (.inr hI) rfl fun a hA => ?_
                        refine g_skip (i := 38) hA rfl (wanted_no hA rfl rfl (by rw [hc220]; simp [vb])) (by kernel_rfl) (.inr hI) rfl fun a hA => ?_
                        refine g_skip (i := 39) hA rfl (wanted_no hA rfl rfl (by rw [hc220]; simp [vb])) (by kernel_rfl) (.inr hI) rfl fun a hA => ?_
                        refine g_easy (i := 40) hA rfl (wanted_yes hA rfl rfl hc210) (by kernel_rfl) (.inr hI) (fun _ => r_pick_f hA rfl hc220 rfl) rfl fun a hA => ?_
                        refine g_easy (i := 41) hA rfl (wanted_yes hA rfl rfl hc210) (by kernel_rfl) (.inr hI) (fun _ => r_not hA rfl) rfl fun a hA => ?_
                        refine gE 42 hA rfl (.inr hI) (fun _ => r_pick_t hA rfl hc210 rfl) fun a hA => ?_
                        refine gE 43 hA rfl (.inr hI) (fun _ => r_as hA rfl) fun a hA => ?_
                        refine gN ?_
                        cases sJ H
                        exact ⟨hA.sub ⟨rfl, trivial⟩, (hI.sl [4, 5, 6, 0, 1, 2, 3, 7, 8] rfl)⟩
                    · have hc210 := hc21; obtain ⟨hc21, H⟩ := dF H hc21
                      refine g_skip (i := 31) hA rfl (wanted_no hA rfl rfl (by rw [hc210]; simp [vb])) (by kernel_rfl) (.inr hI) rfl fun a hA => ?_
                      refine g_skip (i := 32) hA rfl (wanted_no hA rfl rfl (by rw [hc210]; simp [vb])) (by kernel_rfl) (.inr hI) rfl fun a hA => ?_
                      refine g_skip (i := 33) hA rfl (wanted_no hA rfl rfl (by rw [hc210]; simp [vb])) (by kernel_rfl) (.inr hI) rfl fun a hA => ?_
                      refine g_skip (i := 34) hA rfl (wanted_no hA rfl rfl (by rw [hc210]; simp [vb])) (by kernel_rfl) (.inr hI) rfl fun a hA => ?_
                      refine g_skip (i := 35) hA rfl (wanted_no hA rfl rfl (by rw [hc210]; simp [vb])) (by kernel_rfl) (.inr hI) rfl fun a hA => ?_
                      refine g_skip (i := 36) hA rfl (wanted_no hA rfl rfl (by simp [vb, undef])) (by kernel_rfl) (.inr hI) rfl fun a hA => ?_
                      refine g_skip (i := 37) hA rfl (wanted_no hA rfl rfl (by simp [vb, undef])) (by kernel_rfl) (.inr hI) rfl fun a hA => ?_
                      refine g_skip (i := 38) hA rfl (wanted_no hA rfl rfl (by simp [vb, undef])) (by kernel_rfl) (.inr hI) rfl fun a hA => ?_
                      refine g_skip (i := 39) hA rfl (wanted_no hA rfl rfl (by simp [vb, undef])) (by kernel_rfl) (.inr hI) rfl fun a hA => ?_
                      refine g_skip (i := 40) hA rfl (wanted_no hA rfl rfl (by rw [hc210]; simp [vb])) (by kernel_rfl) (.inr hI) rfl fun a hA => ?_
                      refine g_skip (i := 41) hA rfl (wanted_no hA rfl rfl (by rw [hc210]; simp [vb])) (by kernel_rfl) (.inr hI) rfl fun a hA => ?_
                      refine gE 42 hA rfl (.inr hI) (fun _ => r_pick_f hA rfl hc210 rfl) fun a hA => ?_
                      refine gE 43 hA rfl (.inr hI) (fun _ => r_as hA rfl) fun a hA => ?_
                      refine gN ?_
                      cases sJ H
                      exact ⟨hA.sub ⟨rfl, trivial⟩, (hI.sl [4, 5, 6, 0, 1, 2, 3, 7, 8] rfl)⟩
                  · have hc200 := hc20; have hc20 := ft hc20; have H := bF H hc20
                    refine g_easy (i := 20) hA rfl (wanted_yes hA rfl rfl hc200) (by kernel_rfl) (.inr hI) (fun _ => r_mv hA rfl) rfl fun a hA => ?_
                    refine g_take (i := 21) hA rfl (wanted_yes hA rfl rfl hc200) (by kernel_rfl) hI (fun w hI => r_ldA (j := 4) [] [av .u8 32 (c1.getD r18.toNat [])] [] Tryd.underlying26 rfl sz26 rfl hI rfl hA rfl rfl) rfl fun a hA => ?_
                    refine g_take (i := 22) hA rfl (wanted_yes hA rfl rfl hc200) (by kernel_rfl) hI (fun w hI => r_ldA (j := 5) [] [av .u8 32 (c1.getD r17.toNat [])] [] Tryd.underlying26 rfl sz26 rfl hI rfl hA rfl rfl) rfl fun a hA => ?_
                    refine gF 23 rfl ?_
                    refine o_yes hA rfl rfl hc200 <| ?_
                    obtain ⟨r26, hr26, H⟩ := bB H
                    refine o_call _ cf31 hA rfl (best_Marks_Over.c μ2 _ hI.agr (⟨(⟨r12.2.t.m, r12.2.t.start⟩ : treeTree), r12.2.bad⟩ : bestMarks) g2 gm6 gs4 gm7 g3 hp9 hp10 hp11 (hI.handN 4) (c1.getD r18.toNat []) hw17 (c1.getD r17.toNat []) hw16 r26 hr26) rfl fun v19 a w hz33 hA => ?_
                    obtain ⟨rfl, hw24, hi17⟩ := hz33
                    have hI := hI.backN 4 hi17
                    have hI : Iv w0 [] μ μ2 [cel g3 [[.pointer (some ⟨g2, 0, none⟩)], [.map (some gm7)]] 106, cel g2 [[.map (some gm6)], av .u8 32 r12.2.t.start] 97, nd95 gm6 r12.2.t.m gs4, mpI gm7 (ent kv104 vv104 r12.2.bad), cel g9 [av .u8 32 (c1.getD r18.toNat [])] 26, cel g8 [av .u8 32 (c1.getD r17.toNat [])] 26, cel g7 [av .u8 32 r12.1] 26, row 26 32 vvc1 c1.length ccc1, cel g1 [[.int .u32 r2.Head.Version], av .u8 32 r2.Head.Prev, av .u8 32 r2.Head.Root, [.int .u32 r2.Head.Time], [.int .u32 r2.Head.Work], [.int .u32 r2.Head.Nonce]] 28] w := hI
                    refine o_nil <| ⟨(.inr hI), ?_⟩
                    refine g_easy (i := 24) hA rfl (wanted_yes hA rfl rfl hc190) (by kernel_rfl) (.inr hI) (fun _ => r_pick_f hA rfl hc200 rfl) rfl fun a hA => ?_
                    refine gF 27 rfl ?_
                    refine o_yes hA rfl rfl hc190 <| ?_
                    obtain ⟨r27, hr27, H⟩ := bB H
                    refine o_callp (u := .bool r27) cf23 hA rfl hI (sargassoref_SameHash.c μ2 _ hI.agr (c1.getD r17.toNat []) hw16 (c1.getD r18.toNat []) hw17 r27 hr27) rfl fun a w hz34 hI hA => ?_
                    refine o_nil <| ⟨(.inr hI), ?_⟩
                    refine g_easy (i := 28) hA rfl (wanted_yes hA rfl rfl hc190) (by kernel_rfl) (.inr hI) (fun _ => r_neqb Tryd.underlying4 hA rfl rfl) rfl fun a hA => ?_
                    refine gE 29 hA rfl (.inr hI) (fun _ => r_pick_t hA rfl hc190 rfl) fun a hA => ?_
                    refine gE 30 hA rfl (.inr hI) (fun _ => r_mv hA rfl) fun a hA => ?_
                    rcases Bool.eq_false_or_eq_true (decide (r26 ≠ r27)) with hc23 | hc23
                    · have hc230 := hc23; obtain ⟨hc23, H⟩ := dT H hc23
                      refine g_easy (i := 31) hA rfl (wanted_yes hA rfl rfl hc230) (by kernel_rfl) (.inr hI) (fun _ => r_mv hA rfl) rfl fun a hA => ?_
                      refine g_take (i := 32) hA rfl (wanted_yes hA rfl rfl hc230) (by kernel_rfl) hI (fun w hI => r_ldA (j := 5) [] [av .u8 32 (c1.getD r17.toNat [])] [] Tryd.underlying26 rfl sz26 rfl hI rfl hA rfl rfl) rfl fun a hA => ?_
                      refine g_take (i := 33) hA rfl (wanted_yes hA rfl rfl hc230) (by kernel_rfl) hI (fun w hI => r_ldA (j := 4) [] [av .u8 32 (c1.getD r18.toNat [])] [] Tryd.underlying26 rfl sz26 rfl hI rfl hA rfl rfl) rfl fun a hA => ?_
                      refine gF 34 rfl ?_
                      refine o_yes hA rfl rfl hc230 <| ?_
                      obtain ⟨r28, hr28, H⟩ := bB H
                      refine o_call _ cf31 hA rfl (best_Marks_Over.c μ2 _ hI.agr (⟨(⟨r12.2.t.m, r12.2.t.start⟩ : treeTree), r12.2.bad⟩ : bestMarks) g2 gm6 gs4 gm7 g3 hp9 hp10 hp11 (hI.handN 4) (c1.getD r17.toNat []) hw16 (c1.getD r18.toNat []) hw17 r28 hr28) rfl fun v20 a w hz35 hA => ?_
                      obtain ⟨rfl, hw25, hi18⟩ := hz35
                      have hI := hI.backN 4 hi18
                      have hI : Iv w0 [] μ μ2 [cel g3 [[.pointer (some ⟨g2, 0, none⟩)], [.map (some gm7)]] 106, cel g2 [[.map (some gm6)], av .u8 32 r12.2.t.start] 97, nd95 gm6 r12.2.t.m gs4, mpI gm7 (ent kv104 vv104 r12.2.bad), cel g9 [av .u8 32 (c1.getD r18.toNat [])] 26, cel g8 [av .u8 32 (c1.getD r17.toNat [])] 26, cel g7 [av .u8 32 r12.1] 26, row 26 32 vvc1 c1.length ccc1, cel g1 [[.int .u32 r2.Head.Version], av .u8 32 r2.Head.Prev, av .u8 32 r2.Head.Root, [.int .u32 r2.Head.Time], [.int .u32 r2.Head.Work], [.int .u32 r2.Head.Nonce]] 28] w := hI
                      refine o_nil <| ⟨(.inr hI), ?_⟩
                      refine g_easy (i := 35) hA rfl (wanted_yes hA rfl rfl hc230) (by kernel_rfl) (.inr hI) (fun _ => r_mv hA rfl) rfl fun a hA => ?_
                      rcases Bool.eq_false_or_eq_true r28 with hc24 | hc24
                      · have hc240 := hc24; have H := bT H hc24
                        refine g_easy (i := 36) hA rfl (wanted_yes hA rfl rfl hc240) (by kernel_rfl) (.inr hI) (fun _ => r_mv hA rfl) rfl fun a hA => ?_
                        refine g_take (i := 37) hA rfl (wanted_yes hA rfl rfl hc240) (by kernel_rfl) hI (fun w hI => r_ldA (j := 4) [] [av .u8 32 (c1.getD r18.toNat [])] [] Tryd.underlying26 rfl sz26 rfl hI rfl hA rfl rfl) rfl fun a hA => ?_
                        refine g_take (i := 38) hA rfl (wanted_yes hA rfl rfl hc240) (by kernel_rfl) hI (fun w hI => r_ldA (j := 5) [] [av .u8 32 (c1.getD r17.toNat [])] [] Tryd.underlying26 rfl sz26 rfl hI rfl hA rfl rfl) rfl fun a hA => ?_
                        refine gF 39 rfl ?_
                        refine o_yes hA rfl rfl hc240 <| ?_
                        obtain ⟨r29, hr29, H⟩ := bB H
                        refine o_call _ cf31 hA rfl (best_Marks_Over.c μ2 _ hI.agr (⟨(⟨r12.2.t.m, r12.2.t.start⟩ : treeTree), r12.2.bad⟩ : bestMarks) g2 gm6 gs4 gm7 g3 hp9 hp10 hp11 (hI.handN 4) (c1.getD r18.toNat []) hw17 (c1.getD r17.toNat []) hw16 r29 hr29) rfl fun v21 a w hz36 hA => ?_
                        obtain ⟨rfl, hw26, hi19⟩ := hz36
                        have hI := hI.backN 4 hi19
                        have hI : Iv w0 [] μ μ2 [cel g3 [[.pointer (some ⟨g2, 0, none⟩)], [.map (some gm7)]] 106, cel g2 [[.map (some gm6)], av .u8 32 r12.2.t.start] 97, nd95 gm6 r12.2.t.m gs4, mpI gm7 (ent kv104 vv104 r12.2.bad), cel g9 [av .u8 32 (c1.getD r18.toNat [])] 26, cel g8 [av .u8 32 (c1.getD r17.toNat [])] 26, cel g7 [av .u8 32 r12.1] 26, row 26 32 vvc1 c1.length ccc1, cel g1 [[.int .u32 r2.Head.Version], av .u8 32 r2.Head.Prev, av .u8 32 r2.Head.Root, [.int .u32 r2.Head.Time], [.int .u32 r2.Head.Work], [.int .u32 r2.Head.Nonce]] 28] w := hI
                        refine o_nil <| ⟨(.inr hI), ?_⟩
                        refine g_easy (i := 40) hA rfl (wanted_yes hA rfl rfl hc230) (by kernel_rfl) (.inr hI) (fun _ => r_pick_t hA rfl hc240 rfl) rfl fun a hA => ?_
                        refine g_easy (i := 41) hA rfl (wanted_yes hA rfl rfl hc230) (by kernel_rfl) (.inr hI) (fun _ => r_not hA rfl) rfl fun a hA => ?_
                        refine gE 42 hA rfl (.inr hI) (fun _ => r_pick_t hA rfl hc230 rfl) fun a hA => ?_
                        refine gE 43 hA rfl (.inr hI) (fun _ => r_as hA rfl) fun a hA => ?_
                        refine gN ?_
                        cases sJ H
                        exact ⟨hA.sub ⟨rfl, trivial⟩, (hI.sl [4, 5, 6, 0, 1, 2, 3, 7, 8] rfl)⟩
                      · have hc240 := hc24; have hc24 := ft hc24; have H := bF H hc24
                        refine g_skip (i := 36) hA rfl (wanted_no hA rfl rfl (by rw [hc240]; simp [vb])) (by kernel_rfl) (.inr hI) rfl fun a hA => ?_
                        refine g_skip (i := 37) hA rfl (wanted_no hA rfl rfl (by rw [hc240]; simp [vb])) (by kernel_rfl) (.inr hI) rfl fun a hA => ?_
                        refine g_skip (i := 38) hA rfl (wanted_no hA rfl rfl (by rw [hc240]; simp [vb])) (by kernel_rfl) (.inr hI) rfl fun a hA => ?_
                        refine g_skip (i := 39) hA rfl (wanted_no hA rfl rfl (by rw [hc240]; simp [vb])) (by kernel_rfl) (.inr hI) rfl fun a hA => ?_
                        refine g_easy (i := 40) hA rfl (wanted_yes hA rfl rfl hc230) (by kernel_rfl) (.inr hI) (fun _ => r_pick_f hA rfl hc240 rfl) rfl fun a hA => ?_
                        refine g_easy (i := 41) hA rfl (wanted_yes hA rfl rfl hc230) (by kernel_rfl) (.inr hI) (fun _ => r_not hA rfl) rfl fun a hA => ?_
                        refine gE 42 hA rfl (.inr hI) (fun _ => r_pick_t hA rfl hc230 rfl) fun a hA => ?_
                        refine gE 43 hA rfl (.inr hI) (fun _ => r_as hA rfl) fun a hA => ?_
                        refine gN ?_
                        cases sJ H
                        exact ⟨hA.sub ⟨rfl, trivial⟩, (hI.sl [4, 5, 6, 0, 1, 2, 3, 7, 8] rfl)⟩
                    · have hc230 := hc23; obtain ⟨hc23, H⟩ := dF H hc23
                      refine g_skip (i := 31) hA rfl (wanted_no hA rfl rfl (by rw [hc230]; simp [vb])) (by kernel_rfl) (.inr hI) rfl fun a hA => ?_
                      refine g_skip (i := 32) hA rfl (wanted_no hA rfl rfl (by rw [hc230]; simp [vb])) (by kernel_rfl) (.inr hI) rfl fun a hA => ?_
                      refine g_skip (i := 33) hA rfl (wanted_no hA rfl rfl (by rw [hc230]; simp [vb])) (by kernel_rfl) (.inr hI) rfl fun a hA => ?_
                      refine g_skip (i := 34) hA rfl (wanted_no hA rfl rfl (by rw [hc230]; simp [vb])) (by kernel_rfl) (.inr hI) rfl fun a hA => ?_
                      refine g_skip (i := 35) hA rfl (wanted_no hA rfl rfl (by rw [hc230]; simp [vb])) (by kernel_rfl) (.inr hI) rfl fun a hA => ?_
                      refine g_skip (i := 36) hA rfl (wanted_no hA rfl rfl (by simp [vb, undef])) (by kernel_rfl) (.inr hI) rfl fun a hA => ?_
                      refine g_skip (i := 37) hA rfl (wanted_no hA rfl rfl (by simp [vb, undef])) (by kernel_rfl) (.inr hI) rfl fun a hA => ?_
                      refine g_skip (i := 38) hA rfl (wanted_no hA rfl rfl (by simp [vb, undef])) (by kernel_rfl) (.inr hI) rfl fun a hA => ?_
                      refine g_skip (i := 39) hA rfl (wanted_no hA rfl rfl (by simp [vb, undef])) (by kernel_rfl) (.inr hI) rfl fun a hA => ?_
                      refine g_skip (i := 40) hA rfl (wanted_no hA rfl rfl (by rw [hc230]; simp [vb])) (by kernel_rfl) (.inr hI) rfl fun a hA => ?_
                      refine g_skip (i := 41) hA rfl (wanted_no hA rfl rfl (by rw [hc230]; simp [vb])) (by kernel_rfl) (.inr hI) rfl fun a hA => ?_
                      refine gE 42 hA rfl (.inr hI) (fun _ => r_pick_f hA rfl hc230 rfl) fun a hA => ?_
                      refine gE 43 hA rfl (.inr hI) (fun _ => r_as hA rfl) fun a hA => ?_
                      refine gN ?_
                      cases sJ H
                      exact ⟨hA.sub ⟨rfl, trivial⟩, (hI.sl [4, 5, 6, 0, 1, 2, 3, 7, 8] rfl)⟩
                · have hc190 := hc19; have hc19 := nF hc19; have H := bT H hc19
                  refine g_skip (i := 15) hA rfl (wanted_no hA rfl rfl (by rw [hc190]; simp [vb])) (by kernel_rfl) (.inr (hI.sl [4, 5, 6, 0, 1, 2, 3, 7, 8] rfl)) rfl fun a hA => ?_
                  refine g_skip (i := 16) hA rfl (wanted_no hA rfl rfl (by rw [hc190]; simp [vb])) (by kernel_rfl) (.inr (hI.sl [4, 5, 6, 0, 1, 2, 3, 7, 8] rfl)) rfl fun a hA => ?_
                  refine g_skip (i := 17) hA rfl (wanted_no hA rfl rfl (by rw [hc190]; simp [vb])) (by kernel_rfl) (.inr (hI.sl [4, 5, 6, 0, 1, 2, 3, 7, 8] rfl)) rfl fun a hA => ?_
                  refine g_skip (i := 25) hA rfl (wanted_no hA rfl rfl (by rw [hc190]; simp [vb])) (by kernel_rfl) (.inr (hI.sl [4, 5, 6, 0, 1, 2, 3, 7, 8] rfl)) rfl fun a hA => ?_
                  refine g_skip (i := 26) hA rfl (wanted_no hA rfl rfl (by rw [hc190]; simp [vb])) (by kernel_rfl) (.inr (hI.sl [4, 5, 6, 0, 1, 2, 3, 7, 8] rfl)) rfl fun a hA => ?_
                  refine g_skip (i := 18) hA rfl (wanted_no hA rfl rfl (by rw [hc190]; simp [vb])) (by kernel_rfl) (.inr (hI.sl [4, 5, 6, 0, 1, 2, 3, 7, 8] rfl)) rfl fun a hA => ?_
                  refine g_skip (i := 19) hA rfl (wanted_no hA rfl rfl (by rw [hc190]; simp [vb])) (by kernel_rfl) (.inr (hI.sl [4, 5, 6, 0, 1, 2, 3, 7, 8] rfl)) rfl fun a hA => ?_
                  refine g_skip (i := 20) hA rfl (wanted_no hA rfl rfl (by simp [vb, undef])) (by kernel_rfl) (.inr (hI.sl [4, 5, 6, 0, 1, 2, 3, 7, 8] rfl)) rfl fun a hA => ?_
                  refine g_skip (i := 21) hA rfl (wanted_no hA rfl rfl (by simp [vb, undef])) (by kernel_rfl) (.inr (hI.sl [4, 5, 6, 0, 1, 2, 3, 7, 8] rfl)) rfl fun a hA => ?_
                  refine g_skip (i := 22) hA rfl (wanted_no hA rfl rfl (by simp [vb, undef])) (by kernel_rfl) (.inr (hI.sl [4, 5, 6, 0, 1, 2, 3, 7, 8] rfl)) rfl fun a hA => ?_
                  refine g_skip (i := 23) hA rfl (wanted_no hA rfl rfl (by simp [vb, undef])) (by kernel_rfl) (.inr (hI.sl [4, 5, 6, 0, 1, 2, 3, 7, 8] rfl)) rfl fun a hA => ?_
                  refine g_skip (i := 24) hA rfl (wanted_no hA rfl rfl (by rw [hc190]; simp [vb])) (by kernel_rfl) (.inr (hI.sl [4, 5, 6, 0, 1, 2, 3, 7, 8] rfl)) rfl fun a hA => ?_
                  refine g_skip (i := 27) hA rfl (wanted_no hA rfl rfl (by rw [hc190]; simp [vb])) (by kernel_rfl) (.inr (hI.sl [4, 5, 6, 0, 1, 2, 3, 7, 8] rfl)) rfl fun a hA => ?_
                  refine g_skip (i := 28) hA rfl (wanted_no hA rfl rfl (by rw [hc190]; simp [vb])) (by kernel_rfl) (.inr (hI.sl [4, 5, 6, 0, 1, 2, 3, 7, 8] rfl)) rfl fun a hA => ?_
                  refine gE 29 hA rfl (.inr (hI.sl [4, 5, 6, 0, 1, 2, 3, 7, 8] rfl)) (fun _ => r_pick_f hA rfl hc190 rfl) fun a hA => ?_
                  refine gE 30 hA rfl (.inr (hI.sl [4, 5, 6, 0, 1, 2, 3, 7, 8] rfl)) (fun _ => r_mv hA rfl) fun a hA => ?_
                  refine g_skip (i := 31) hA rfl (wanted_no hA rfl rfl (by simp [vb])) (by kernel_rfl) (.inr (hI.sl [4, 5, 6, 0, 1, 2, 3, 7, 8] rfl)) rfl fun a hA => ?_
                  refine g_skip (i := 32) hA rfl (wanted_no hA rfl rfl (by simp [vb])) (by kernel_rfl) (.inr (hI.sl [4, 5, 6, 0, 1, 2, 3, 7, 8] rfl)) rfl fun a hA => ?_
                  refine g_skip (i := 33) hA rfl (wanted_no hA rfl rfl (by simp [vb])) (by kernel_rfl) (.inr (hI.sl [4, 5, 6, 0, 1, 2, 3, 7, 8] rfl)) rfl fun a hA => ?_
                  refine g_skip (i := 34) hA rfl (wanted_no hA rfl rfl (by simp [vb])) (by kernel_rfl) (.inr (hI.sl [4, 5, 6, 0, 1, 2, 3, 7, 8] rfl)) rfl fun a hA => ?_
                  refine g_skip (i := 35) hA rfl (wanted_no hA rfl rfl (by simp [vb])) (by kernel_rfl) (.inr (hI.sl [4, 5, 6, 0, 1, 2, 3, 7, 8] rfl)) rfl fun a hA => ?_
                  refine g_skip (i := 36) hA rfl (wanted_no hA rfl rfl (by simp [vb, undef])) (by kernel_rfl) (.inr (hI.sl [4, 5, 6, 0, 1, 2, 3, 7, 8] rfl)) rfl fun a hA => ?_
                  refine g_skip (i := 37) hA rfl (wanted_no hA rfl rfl (by simp [vb, undef])) (by kernel_rfl) (.inr (hI.sl [4, 5, 6, 0, 1, 2, 3, 7, 8] rfl)) rfl fun a hA => ?_
                  refine g_skip (i := 38) hA rfl (wanted_no hA rfl rfl (by simp [vb, undef])) (by kernel_rfl) (.inr (hI.sl [4, 5, 6, 0, 1, 2, 3, 7, 8] rfl)) rfl fun a hA => ?_
                  refine g_skip (i := 39) hA rfl (wanted_no hA rfl rfl (by simp [vb, undef])) (by kernel_rfl) (.inr (hI.sl [4, 5, 6, 0, 1, 2, 3, 7, 8] rfl)) rfl fun a hA => ?_
                  refine g_skip (i := 40) hA rfl (wanted_no hA rfl rfl (by simp [vb])) (by kernel_rfl) (.inr (hI.sl [4, 5, 6, 0, 1, 2, 3, 7, 8] rfl)) rfl fun a hA => ?_
                  refine g_skip (i := 41) hA rfl (wanted_no hA rfl rfl (by simp [vb])) (by kernel_rfl) (.inr (hI.sl [4, 5, 6, 0, 1, 2, 3, 7, 8] rfl)) rfl fun a hA => ?_
                  refine gE 42 hA rfl (.inr (hI.sl [4, 5, 6, 0, 1, 2, 3, 7, 8] rfl)) (fun _ => r_pick_f hA rfl rfl rfl) fun a hA => ?_
                  refine gE 43 hA rfl (.inr (hI.sl [4, 5, 6, 0, 1, 2, 3, 7, 8] rfl)) (fun _ => r_as hA rfl) fun a hA => ?_
                  refine gN ?_
                  cases sJ H
                  exact ⟨hA.sub ⟨rfl, trivial⟩, (hI.sl [4, 5, 6, 0, 1, 2, 3, 7, 8] rfl)⟩
              · have hc180 := hc18; have hc18 := nF hc18; have H := bT H hc18
                refine g_skip (i := 8) hA rfl (wanted_no hA rfl rfl (by rw [hc180]; simp [vb])) (by kernel_rfl) (.inr (hI.sl [4, 5, 6, 0, 1, 2, 3, 7, 8] rfl)) rfl fun a hA => ?_
                refine g_skip (i := 9) hA rfl (wanted_no hA rfl rfl (by rw [hc180]; simp [vb])) (by kernel_rfl) (.inr (hI.sl [4, 5, 6, 0, 1, 2, 3, 7, 8] rfl)) rfl fun a hA => ?_
                refine g_skip (i := 10) hA rfl (wanted_no hA rfl rfl (by rw [hc180]; simp [vb])) (by kernel_rfl) (.inr (hI.sl [4, 5, 6, 0, 1, 2, 3, 7, 8] rfl)) rfl fun a hA => ?_
                refine g_skip (i := 11) hA rfl (wanted_no hA rfl rfl (by rw [hc180]; simp [vb])) (by kernel_rfl) (.inr (hI.sl [4, 5, 6, 0, 1, 2, 3, 7, 8] rfl)) rfl fun a hA => ?_
                refine g_skip (i := 12) hA rfl (wanted_no hA rfl rfl (by rw [hc180]; simp [vb])) (by kernel_rfl) (.inr (hI.sl [4, 5, 6, 0, 1, 2, 3, 7, 8] rfl)) rfl fun a hA => ?_
                refine gE 13 hA rfl (.inr (hI.sl [4, 5, 6, 0, 1, 2, 3, 7, 8] rfl)) (fun _ => r_pick_f hA rfl hc180 rfl) fun a hA => ?_
                refine gE 14 hA rfl (.inr (hI.sl [4, 5, 6, 0, 1, 2, 3, 7, 8] rfl)) (fun _ => r_mv hA rfl) fun a hA => ?_
                refine g_skip (i := 15) hA rfl (wanted_no hA rfl rfl (by simp [vb])) (by kernel_rfl) (.inr (hI.sl [4, 5, 6, 0, 1, 2, 3, 7, 8] rfl)) rfl fun a hA => ?_
                refine g_skip (i := 16) hA rfl (wanted_no hA rfl rfl (by simp [vb])) (by kernel_rfl) (.inr (hI.sl [4, 5, 6, 0, 1, 2, 3, 7, 8] rfl)) rfl fun a hA => ?_
                refine g_skip (i := 17) hA rfl (wanted_no hA rfl rfl (by simp [vb])) (by kernel_rfl) (.inr (hI.sl [4, 5, 6, 0, 1, 2, 3, 7, 8] rfl)) rfl fun a hA => ?_
                refine g_skip (i := 25) hA rfl (wanted_no hA rfl rfl (by simp [vb])) (by kernel_rfl) (.inr (hI.sl [4, 5, 6, 0, 1, 2, 3, 7, 8] rfl)) rfl fun a hA => ?_
                refine g_skip (i := 26) hA rfl (wanted_no hA rfl rfl (by simp [vb])) (by kernel_rfl) (.inr (hI.sl [4, 5, 6, 0, 1, 2, 3, 7, 8] rfl)) rfl fun a hA => ?_
                refine g_skip (i := 18) hA rfl (wanted_no hA rfl rfl (by simp [vb])) (by kernel_rfl) (.inr (hI.sl [4, 5, 6, 0, 1, 2, 3, 7, 8] rfl)) rfl fun a hA => ?_
                refine g_skip (i := 19) hA rfl (wanted_no hA rfl rfl (by simp [vb])) (by kernel_rfl) (.inr (hI.sl [4, 5, 6, 0, 1, 2, 3, 7, 8] rfl)) rfl fun a hA => ?_
                refine g_skip (i := 20) hA rfl (wanted_no hA rfl rfl (by simp [vb, undef])) (by kernel_rfl) (.inr (hI.sl [4, 5, 6, 0, 1, 2, 3, 7, 8] rfl)) rfl fun a hA => ?_
                refine g_skip (i := 21) hA rfl (wanted_no hA rfl rfl (by simp [vb, undef])) (by kernel_rfl) (.inr (hI.sl [4, 5, 6, 0, 1, 2, 3, 7, 8] rfl)) rfl fun a hA => ?_
                refine g_skip (i := 22) hA rfl (wanted_no hA rfl rfl (by simp [vb, undef])) (by kernel_rfl) (.inr (hI.sl [4, 5, 6, 0, 1, 2, 3, 7, 8] rfl)) rfl fun a hA => ?_
                refine g_skip (i := 23) hA rfl (wanted_no hA rfl rfl (by simp [vb, undef])) (by kernel_rfl) (.inr (hI.sl [4, 5, 6, 0, 1, 2, 3, 7, 8] rfl)) rfl fun a hA => ?_
                refine g_skip (i := 24) hA rfl (wanted_no hA rfl rfl (by simp [vb])) (by kernel_rfl) (.inr (hI.sl [4, 5, 6, 0, 1, 2, 3, 7, 8] rfl)) rfl fun a hA => ?_
                refine g_skip (i := 27) hA rfl (wanted_no hA rfl rfl (by simp [vb])) (by kernel_rfl) (.inr (hI.sl [4, 5, 6, 0, 1, 2, 3, 7, 8] rfl)) rfl fun a hA => ?_
                refine g_skip (i := 28) hA rfl (wanted_no hA rfl rfl (by simp [vb])) (by kernel_rfl) (.inr (hI.sl [4, 5, 6, 0, 1, 2, 3, 7, 8] rfl)) rfl fun a hA => ?_
                refine gE 29 hA rfl (.inr (hI.sl [4, 5, 6, 0, 1, 2, 3, 7, 8] rfl)) (fun _ => r_pick_f hA rfl rfl rfl) fun a hA => ?_
                refine gE 30 hA rfl (.inr (hI.sl [4, 5, 6, 0, 1, 2, 3, 7, 8] rfl)) (fun _ => r_mv hA rfl) fun a hA => ?_
                refine g_skip (i := 31) hA rfl (wanted_no hA rfl rfl (by simp [vb])) (by kernel_rfl) (.inr (hI.sl [4, 5, 6, 0, 1, 2, 3, 7, 8] rfl)) rfl fun a hA => ?_
                refine g_skip (i := 32) hA rfl (wanted_no hA rfl rfl (by simp [vb])) (by kernel_rfl) (.inr (hI.sl [4, 5, 6, 0, 1, 2, 3, 7, 8] rfl)) rfl fun a hA => ?_
                refine g_skip (i := 33) hA rfl (wanted_no hA rfl rfl (by simp [vb])) (by kernel_rfl) (.inr (hI.sl [4, 5, 6, 0, 1, 2, 3, 7, 8] rfl)) rfl fun a hA => ?_
                refine g_skip (i := 34) hA rfl (wanted_no hA rfl rfl (by simp [vb])) (by kernel_rfl) (.inr (hI.sl [4, 5, 6, 0, 1, 2, 3, 7, 8] rfl)) rfl fun a hA => ?_
                refine g_skip (i := 35) hA rfl (wanted_no hA rfl rfl (by simp [vb])) (by kernel_rfl) (.inr (hI.sl [4, 5, 6, 0, 1, 2, 3, 7, 8] rfl)) rfl fun a hA => ?_
                refine g_skip (i := 36) hA rfl (wanted_no hA rfl rfl (by simp [vb, undef])) (by kernel_rfl) (.inr (hI.sl [4, 5, 6, 0, 1, 2, 3, 7, 8] rfl)) rfl fun a hA => ?_
                refine g_skip (i := 37) hA rfl (wanted_no hA rfl rfl (by simp [vb, undef])) (by kernel_rfl) (.inr (hI.sl [4, 5, 6, 0, 1, 2, 3, 7, 8] rfl)) rfl fun a hA => ?_
                refine g_skip (i := 38) hA rfl (wanted_no hA rfl rfl (by simp [vb, undef])) (by kernel_rfl) (.inr (hI.sl [4, 5, 6, 0, 1, 2, 3, 7, 8] rfl)) rfl fun a hA => ?_
                refine g_skip (i := 39) hA rfl (wanted_no hA rfl rfl (by simp [vb, undef])) (by kernel_rfl) (.inr (hI.sl [4, 5, 6, 0, 1, 2, 3, 7, 8] rfl)) rfl fun a hA => ?_
                refine g_skip (i := 40) hA rfl (wanted_no hA rfl rfl (by simp [vb])) (by kernel_rfl) (.inr (hI.sl [4, 5, 6, 0, 1, 2, 3, 7, 8] rfl)) rfl fun a hA => ?_
                refine g_skip (i := 41) hA rfl (wanted_no hA rfl rfl (by simp [vb])) (by kernel_rfl) (.inr (hI.sl [4, 5, 6, 0, 1, 2, 3, 7, 8] rfl)) rfl fun a hA => ?_
                refine gE 42 hA rfl (.inr (hI.sl [4, 5, 6, 0, 1, 2, 3, 7, 8] rfl)) (fun _ => r_pick_f hA rfl rfl rfl) fun a hA => ?_
                refine gE 43 hA rfl (.inr (hI.sl [4, 5, 6, 0, 1, 2, 3, 7, 8] rfl)) (fun _ => r_as hA rfl) fun a hA => ?_
                refine gN ?_
                cases sJ H
                exact ⟨hA.sub ⟨rfl, trivial⟩, (hI.sl [4, 5, 6, 0, 1, 2, 3, 7, 8] rfl)⟩
            · have hc170 := hc17; have hc17 := ft hc17; have H := bF H hc17
              refine g_skip (i := 2) hA rfl (wanted_no hA rfl rfl (by rw [hc170]; simp [vb])) (by kernel_rfl) (.inr hI) rfl fun a hA => ?_
              refine g_skip (i := 3) hA rfl (wanted_no hA rfl rfl (by rw [hc170]; simp [vb])) (by kernel_rfl) (.inr hI) rfl fun a hA => ?_
              refine g_skip (i := 4) hA rfl (wanted_no hA rfl rfl (by rw [hc170]; simp [vb])) (by kernel_rfl) (.inr hI) rfl fun a hA => ?_
              refine g_skip (i := 5) hA rfl (wanted_no hA rfl rfl (by rw [hc170]; simp [vb])) (by kernel_rfl) (.inr hI) rfl fun a hA => ?_
              refine gE 6 hA rfl (.inr hI) (fun _ => r_pick_f hA rfl hc170 rfl) fun a hA => ?_
              refine gE 7 hA rfl (.inr hI) (fun _ => r_mv hA rfl) fun a hA => ?_
              refine g_skip (i := 8) hA rfl (wanted_no hA rfl rfl (by simp [vb])) (by kernel_rfl) (.inr hI) rfl fun a hA => ?_
              refine g_skip (i := 9) hA rfl (wanted_no hA rfl rfl (by simp [vb])) (by kernel_rfl) (.inr hI) rfl fun a hA => ?_
              refine g_skip (i := 10) hA rfl (wanted_no hA rfl rfl (by simp [vb])) (by kernel_rfl) (.inr hI) rfl fun a hA => ?_
              refine g_skip (i := 11) hA rfl (wanted_no hA rfl rfl (by simp [vb])) (by kernel_rfl) (.inr hI) rfl fun a hA => ?_
              refine g_skip (i := 12) hA rfl (wanted_no hA rfl rfl (by simp [vb])) (by kernel_rfl) (.inr hI) rfl fun a hA => ?_
              refine gE 13 hA rfl (.inr hI) (fun _ => r_pick_f hA rfl rfl rfl) fun a hA => ?_
              refine gE 14 hA rfl (.inr hI) (fun _ => r_mv hA rfl) fun a hA => ?_
              refine g_skip (i := 15) hA rfl (wanted_no hA rfl rfl (by simp [vb])) (by kernel_rfl) (.inr hI) rfl fun a hA => ?_
              refine g_skip (i := 16) hA rfl (wanted_no hA rfl rfl (by simp [vb])) (by kernel_rfl) (.inr hI) rfl fun a hA => ?_
              refine g_skip (i := 17) hA rfl (wanted_no hA rfl rfl (by simp [vb])) (by kernel_rfl) (.inr hI) rfl fun a hA => ?_
              refine g_skip (i := 25) hA rfl (wanted_no hA rfl rfl (by simp [vb])) (by kernel_rfl) (.inr hI) rfl fun a hA => ?_
              refine g_skip (i := 26) hA rfl (wanted_no hA rfl rfl (by simp [vb])) (by kernel_rfl) (.inr hI) rfl fun a hA => ?_
              refine g_skip (i := 18) hA rfl (wanted_no hA rfl rfl (by simp [vb])) (by kernel_rfl) (.inr hI) rfl fun a hA => ?_
              refine g_skip (i := 19) hA rfl (wanted_no hA rfl rfl (by simp [vb])) (by kernel_rfl) (.inr hI) rfl fun a hA => ?_
              refine g_skip (i := 20) hA rfl (wanted_no hA rfl rfl (by simp [vb, undef])) (by kernel_rfl) (.inr hI) rfl fun a hA => ?_
              refine g_skip (i := 21) hA rfl (wanted_no hA rfl rfl (by simp [vb, undef])) (by kernel_rfl) (.inr hI) rfl fun a hA => ?_
              refine g_skip (i := 22) hA rfl (wanted_no hA rfl rfl (by simp [vb, undef])) (by kernel_rfl) (.inr hI) rfl fun a hA => ?_
              refine g_skip (i := 23) hA rfl (wanted_no hA rfl rfl (by simp [vb, undef])) (by kernel_rfl) (.inr hI) rfl fun a hA => ?_
              refine g_skip (i := 24) hA rfl (wanted_no hA rfl rfl (by simp [vb])) (by kernel_rfl) (.inr hI) rfl fun a hA => ?_
              refine g_skip (i := 27) hA rfl (wanted_no hA rfl rfl (by simp [vb])) (by kernel_rfl) (.inr hI) rfl fun a hA => ?_
              refine g_skip (i := 28) hA rfl (wanted_no hA rfl rfl (by simp [vb])) (by kernel_rfl) (.inr hI) rfl fun a hA => ?_
              refine gE 29 hA rfl (.inr hI) (fun _ => r_pick_f hA rfl rfl rfl) fun a hA => ?_
              refine gE 30 hA rfl (.inr hI) (fun _ => r_mv hA rfl) fun a hA => ?_
              refine g_skip (i := 31) hA rfl (wanted_no hA rfl rfl (by simp [vb])) (by kernel_rfl) (.inr hI) rfl fun a hA => ?_
              refine g_skip (i := 32) hA rfl (wanted_no hA rfl rfl (by simp [vb])) (by kernel_rfl) (.inr hI) rfl fun a hA => ?_
              refine g_skip (i := 33) hA rfl (wanted_no hA rfl rfl (by simp [vb])) (by kernel_rfl) (.inr hI) rfl fun a hA => ?_
              refine g_skip (i := 34) hA rfl (wanted_no hA rfl rfl (by simp [vb])) (by kernel_rfl) (.inr hI) rfl fun a hA => ?_
              refine g_skip (i := 35) hA rfl (wanted_no hA rfl rfl (by simp [vb])) (by kernel_rfl) (.inr hI) rfl fun a hA => ?_
              refine g_skip (i := 36) hA rfl (wanted_no hA rfl rfl (by simp [vb, undef])) (by kernel_rfl) (.inr hI) rfl fun a hA => ?_
              refine g_skip (i := 37) hA rfl (wanted_no hA rfl rfl (by simp [vb, undef])) (by kernel_rfl) (.inr hI) rfl fun a hA => ?_
              refine g_skip (i := 38) hA rfl (wanted_no hA rfl rfl (by simp [vb, undef])) (by kernel_rfl) (.inr hI) rfl fun a hA => ?_
              refine g_skip (i := 39) hA rfl (wanted_no hA rfl rfl (by simp [vb, undef])) (by kernel_rfl) (.inr hI) rfl fun a hA => ?_
              refine g_skip (i := 40) hA rfl (wanted_no hA rfl rfl (by simp [vb])) (by kernel_rfl) (.inr hI) rfl fun a hA => ?_
              refine g_skip (i := 41) hA rfl (wanted_no hA rfl rfl (by simp [vb])) (by kernel_rfl) (.inr hI) rfl fun a hA => ?_
              refine gE 42 hA rfl (.inr hI) (fun _ => r_pick_f hA rfl rfl rfl) fun a hA => ?_
              refine gE 43 hA rfl (.inr hI) (fun _ => r_as hA rfl) fun a hA => ?_
              refine gN ?_
              cases sJ H
              exact ⟨hA.sub ⟨rfl, trivial⟩, hI⟩
          · rintro a w ⟨hA, hI⟩
            have H := Hk7
            refine w_ret ?_
            have H : some c14 = some z2 := H
            obtain rfl := sI H
            have H := Hk5
            obtain rfl := sJ H
            exact ret1 hA Tryd.results5 rfl ⟨_, rfl, rfl, trivial, hI.forget0⟩
end Go.Proofs.YtdngkgkkblfcjaaDoor.T
namespace Go.Proofs.YtdngkgkkblfcjaaDoor.T
open Go Go.Proofs Go.Proofs.YtdngkgkkblfcjaaDoor.K
set_option linter.unusedVariables false
theorem w64 {x : Int} (h0 : -9223372036854775808 ≤ x) (h1 : x < 9223372036854775808) : IntKind.i64.wrap x = x := wrap_id ⟨h0, h1⟩
theorem wu64 {x : Int} (h0 : 0 ≤ x) (h1 : x < 18446744073709551616) : IntKind.u64.wrap x = x := wrap_id ⟨h0, h1⟩
theorem number_eq {x n : Int} (hx : InR .i64 x) (h0 : 0 < n) (h1 : n < 9223372036854775808) : ∃ y, sargassoworld_Number.f x n = some y ∧ 0 ≤ y ∧ y < n := by
  obtain ⟨a, b⟩ := hx
  have hn : n ≠ 0 := by omega
  unfold sargassoworld_Number.f
  rw [if_pos hn]
  have hb : -n < Int.tmod x n ∧ Int.tmod x n < n := by
    rcases Int.le_total 0 x with h | h
    · rw [Int.tmod_eq_emod_of_nonneg h]; have := Int.emod_nonneg x hn; have := Int.emod_lt_of_pos x h0; omega
    · have e : Int.tmod x n = -(Int.tmod (-x) n) := by rw [Int.neg_tmod, Int.neg_neg]
      rw [e, Int.tmod_eq_emod_of_nonneg (by omega)]; have := Int.emod_nonneg (-x) hn; have := Int.emod_lt_of_pos (-x) h0; omega
  by_cases hc : Int.tmod x n < 0
  · rw [if_pos hc]
    exact ⟨_, rfl, by rw [w64 (by omega) (by omega)]; omega, by rw [w64 (by omega) (by omega)]; omega⟩
  · rw [if_neg hc]
    exact ⟨_, rfl, by omega, by omega⟩
end Go.Proofs.YtdngkgkkblfcjaaDoor.T
namespace Go.Proofs.YtdngkgkkblfcjaaDoor.T
open Go Go.Proofs Go.Proofs.YtdngkgkkblfcjaaDoor.K
set_option linter.unusedVariables false
set_option linter.unusedSimpArgs false
theorem loop_idx {τ ρ : Type} {step : τ → Option (τ ⊕ ρ)} (st : Nat → τ) (n : Nat) (h : ∀ i, i < n → step (st i) = some (.inl (st (i + 1)))) : loopO step (st 0) = loopO step (st n) := by
  induction n with
  | zero => rfl
  | succ n ih => rw [ih (fun i hi => h i (by omega)), loopO_inl (h n (by omega))]
theorem loop_run {τ ρ : Type} {step : τ → Option (τ ⊕ ρ)} (st : Nat → τ) (n : Nat) {r : ρ} {s : τ} (h0 : s = st 0) (h : ∀ i, i < n → step (st i) = some (.inl (st (i + 1)))) (hn : step (st n) = some (.inr r)) : loopO step s = some r := by
  rw [h0, loop_idx st n h, loopO_inr hn]
theorem bv_nat (n a : Nat) (h : a < 2 ^ n) : (BitVec.ofInt n (a : Int)).toNat = a := by
  rw [BitVec.toNat_ofInt]
  have : ((a : Int) % ((2 ^ n : Nat) : Int)) = a := Int.emod_eq_of_lt (by omega) (by exact_mod_cast h)
  rw [this]
  rfl
theorem in_u (k : IntKind) (hk : k.signed = false) {a : Nat} (h : a < 2 ^ k.bits) : InR k (a : Int) := by
  cases k <;> simp [IntKind.signed] at hk <;> simp [IntKind.bits] at h <;> simp [InR] <;> omega
theorem bAnd_nat (k : IntKind) (hk : k.signed = false) {a b : Nat} (ha : a < 2 ^ k.bits) (hb : b < 2 ^ k.bits) : bAnd k a b = ((a &&& b : Nat) : Int) := by
  unfold bAnd
  rw [BitVec.toNat_and, bv_nat _ _ ha, bv_nat _ _ hb]
  exact wrap_id (in_u k hk (Nat.lt_of_le_of_lt Nat.and_le_left ha))
theorem sR_nat (k : IntKind) {a n : Nat} (hn : n ≤ k.bits) : sR k (a : Int) (n : Int) = ((a >>> n : Nat) : Int) := by
  unfold sR
  have e : min (n : Int).toNat k.bits = n := by simp; omega
  rw [e, Nat.shiftRight_eq_div_pow]
  rw [Int.fdiv_eq_ediv_of_nonneg _ (by exact Int.pow_nonneg (by omega))]
  push_cast
  rfl
theorem and_low (n i : Nat) : n &&& (2 ^ i - 1) = n % 2 ^ i := Nat.and_two_pow_sub_one_eq_mod n i
end Go.Proofs.YtdngkgkkblfcjaaDoor.T
namespace Go.Proofs.YtdngkgkkblfcjaaDoor.T
open Go Go.Proofs Go.Proofs.YtdngkgkkblfcjaaDoor.K
set_option linter.unusedVariables false
set_option linter.unusedSimpArgs false
def rotr (x n : Int) : Int := bOr .u32 (sR .u32 x n) (sL .u32 x (32 - n))
def wordAt (b : List Int) (p : Nat) : Int :=
  bOr .u32 (bOr .u32 (bOr .u32 (sL .u32 (IntKind.u32.wrap (b.getD p 0)) 24) (sL .u32 (IntKind.u32.wrap (b.getD (p + 1) 0)) 16)) (sL .u32 (IntKind.u32.wrap (b.getD (p + 2) 0)) 8)) (IntKind.u32.wrap (b.getD (p + 3) 0))
def sg0 (y : Int) : Int := bXor .u32 (bXor .u32 (rotr y 7) (rotr y 18)) (sR .u32 y 3)
def sg1 (x : Int) : Int := bXor .u32 (bXor .u32 (rotr x 17) (rotr x 19)) (sR .u32 x 10)
def schedVal (b : List Int) (p : Nat) (w : List Int) (t : Nat) : Int :=
  if t < 16 then wordAt b (p + 4 * t) else IntKind.u32.wrap (w.getD (t - 16) 0 + sg0 (w.getD (t - 15) 0) + w.getD (t - 7) 0 + sg1 (w.getD (t - 2) 0))
def schedR (b : List Int) (p : Nat) : Nat → List Int
  | 0 => List.replicate 64 0
  | t + 1 => (fun w => w.set t (schedVal b p w t)) (schedR b p t)
def kc : List Int := digest_keys.lit0
def rt1 (x : List Int) (k w : Int) : Int := IntKind.u32.wrap (x.getD 7 0 + bXor .u32 (bXor .u32 (rotr (x.getD 4 0) 6) (rotr (x.getD 4 0) 11)) (rotr (x.getD 4 0) 25) + bXor .u32 (bAnd .u32 (x.getD 4 0) (x.getD 5 0)) (bAnd .u32 (bNot .u32 (x.getD 4 0)) (x.getD 6 0)) + k + w)
def rt2 (x : List Int) : Int := bXor .u32 (bXor .u32 (rotr (x.getD 0 0) 2) (rotr (x.getD 0 0) 13)) (rotr (x.getD 0 0) 22) + bXor .u32 (bXor .u32 (bAnd .u32 (x.getD 0 0) (x.getD 1 0)) (bAnd .u32 (x.getD 0 0) (x.getD 2 0))) (bAnd .u32 (x.getD 1 0) (x.getD 2 0))
def rstep (x : List Int) (k w : Int) : List Int :=
  [IntKind.u32.wrap (rt1 x k w + rt2 x), x.getD 0 0, x.getD 1 0, x.getD 2 0, IntKind.u32.wrap (x.getD 3 0 + rt1 x k w), x.getD 4 0, x.getD 5 0, x.getD 6 0]
def roundR (w s : List Int) : Nat → List Int
  | 0 => s
  | t + 1 => rstep (roundR w s t) (kc.getD t 0) (w.getD t 0)
def addR (x s : List Int) : Nat → List Int
  | 0 => s
  | i + 1 => (fun z => z.set i (IntKind.u32.wrap (z.getD i 0 + x.getD i 0))) (addR x s i)
def mixV (s b : List Int) (p : Nat) : List Int := addR (roundR (schedR b p 64) s 64) s 8
def blocksR (m s : List Int) : Nat → List Int
  | 0 => s
  | n + 1 => mixV (blocksR m s n) m (64 * n)
def iv0 : List Int := [1779033703, 3144134277, 1013904242, 2773480762, 1359893119, 2600822924, 528734635, 1541459225]
def outB (s : List Int) (i : Nat) : Int := IntKind.u8.wrap (sR .u32 (s.getD (i / 4) 0) (24 - 8 * ((i % 4 : Nat) : Int)))
def outL (s : List Int) : List Int := (List.range 32).map (outB s)
def zs (n : Nat) : Nat := (120 - n % 64) % 64
def lenB (n i : Nat) : Int := IntKind.u8.wrap (sR .u64 (IntKind.u64.wrap (8 * (n : Int))) (8 * (7 - (i : Int))))
def padR (m : List Int) : List Int := m ++ ([128] ++ (List.replicate (zs (m.length + 1)) 0 ++ (List.range 8).map (lenB m.length)))
def sha (m : List Int) : List Int := outL (blocksR (padR m) iv0 ((padR m).length / 64))
end Go.Proofs.YtdngkgkkblfcjaaDoor.T
namespace Go.Proofs.YtdngkgkkblfcjaaDoor.T
open Go Go.Proofs Go.Proofs.YtdngkgkkblfcjaaDoor.K
set_option linter.unusedVariables false
set_option linter.unusedSimpArgs false
theorem u32e (x : Int) : IntKind.u32.wrap x = x % 4294967296 := by simp [IntKind.wrap, IntKind.signed, IntKind.bits]
theorem wl (a b : Int) : IntKind.u32.wrap (IntKind.u32.wrap a + b) = IntKind.u32.wrap (a + b) := by simp only [u32e]; omega
theorem wr (a b : Int) : IntKind.u32.wrap (a + IntKind.u32.wrap b) = IntKind.u32.wrap (a + b) := by simp only [u32e]; omega
theorem bOr_comm (k : IntKind) (a b : Int) : bOr k a b = bOr k b a := by unfold bOr; rw [BitVec.or_comm]
theorem right_f (x n : Int) (h0 : 0 ≤ n) (h1 : n ≤ 32) : sargassoref1_right.f x n = some (rotr x n) := by
  simp only [sargassoref1_right.f, rotr]
  rw [wu64 (x := 32 - n) (by omega) (by omega), if_pos h0, if_pos (by omega)]
theorem turn_f (x n : Int) (h0 : 0 < n) (h1 : n < 32) : digest_turn.f x n = some (rotr x n) := by
  simp only [digest_turn.f, math_bits_RotateLeft32.f, rotr]
  have e1 : IntKind.i64.wrap (0 - n) = -n := by rw [w64 (by omega) (by omega)]; omega
  have e2 : IntKind.u64.wrap (-n) = 18446744073709551616 - n := by
    simp [IntKind.wrap, IntKind.signed, IntKind.bits]
    omega
  obtain ⟨m, rfl⟩ : ∃ m : Nat, n = m := ⟨n.toNat, by omega⟩
  have e3 : bAnd .u64 (18446744073709551616 - (m : Int)) 31 = 32 - (m : Int) := by
    have h := bAnd_nat .u64 rfl (a := 18446744073709551616 - m) (b := 31) (by simp [IntKind.bits]; omega) (by simp [IntKind.bits])
    have e : ((18446744073709551616 - m : Nat) : Int) = 18446744073709551616 - (m : Int) := by omega
    rw [e] at h
    have h' : (18446744073709551616 - m) &&& 31 = (18446744073709551616 - m) % 32 := and_low _ 5
    rw [h'] at h
    rw [show ((31 : Nat) : Int) = 31 from rfl] at h
    rw [h]
    omega
  rw [e1, e2, e3, wu64 (x := 32 - (32 - (m : Int))) (by omega) (by omega), if_pos (by omega), if_pos (by omega)]
  have e4 : 32 - (32 - (m : Int)) = m := by omega
  rw [e4, bOr_comm]
  rfl
theorem schedR_len (b : List Int) (p t : Nat) : (schedR b p t).length = 64 := by
  induction t with
  | zero => simp [schedR]
  | succ t ih => simp [schedR, ih]
theorem getD_drop' (l : List Int) (a i : Nat) : (l.drop a).getD i 0 = l.getD (a + i) 0 := by simp [List.getD]
theorem getD_take' (l : List Int) (a i : Nat) (h : i < a) : (l.take a).getD i 0 = l.getD i 0 := by simp [List.getD, h]
theorem wsub (i c : Nat) (hc : c ≤ i) (hi : i < 1000) : IntKind.i64.wrap ((i : Int) - (c : Nat)) = ((i - c : Nat) : Int) := by
  rw [w64 (by omega) (by omega)]; omega
theorem wadd1 (i : Nat) (hi : i < 9223372036854775807) : IntKind.i64.wrap ((i : Int) + 1) = ((i + 1 : Nat) : Int) := by
  rw [w64 (by omega) (by omega)]; omega
theorem wmul4 (i : Nat) (hi : i < 1000) : IntKind.i64.wrap (4 * (i : Int)) = ((4 * i : Nat) : Int) := by
  rw [w64 (by omega) (by omega)]; omega
theorem spread_step (b : List Int) (h : b.length = 64) (w : List Int) (i : Nat) (hi : i < 64) : digest_spread.s0 b ((i : Int), w) = some (.inl (((i + 1 : Nat) : Int), w.set i (schedVal b 0 w i))) := by
  simp only [digest_spread.s0]
  rw [if_pos (by omega)]
  by_cases h16 : i < 16
  · have hl : (b.take ((b.length : Int)).toNat).drop (IntKind.i64.wrap (4 * (i : Int))).toNat = b.drop (4 * i) := by
      rw [wmul4 i (by omega), Int.toNat_natCast, Int.toNat_natCast, List.take_length]
    have hll : (b.drop (4 * i)).length = 64 - 4 * i := by simp [h]
    rw [if_pos (by omega), hl, hll, wmul4 i (by omega), if_pos (by omega), if_pos (by omega), if_pos (by omega), if_pos (by omega), if_pos (by omega), if_pos (by omega)]
    simp only [Option.bind_some, getD_drop', Int.toNat_natCast]
    rw [wadd1 i (by omega)]
    simp only [schedVal, if_pos h16, wordAt, Nat.zero_add]
    rfl
  · have e2 := wsub i 2 (by omega) (by omega)
    have e7 := wsub i 7 (by omega) (by omega)
    have e15 := wsub i 15 (by omega) (by omega)
    have e16 := wsub i 16 (by omega) (by omega)
    simp only [show ((2 : Nat) : Int) = 2 from rfl, show ((7 : Nat) : Int) = 7 from rfl, show ((15 : Nat) : Int) = 15 from rfl, show ((16 : Nat) : Int) = 16 from rfl] at e2 e7 e15 e16
    rw [if_neg (by omega), e2, e7, e15, e16, if_pos (by omega), if_pos (by omega), if_pos (by omega), if_pos (by omega)]
    simp only [Int.toNat_natCast, turn_f _ 17 (by omega) (by omega), turn_f _ 19 (by omega) (by omega), turn_f _ 7 (by omega) (by omega), turn_f _ 18 (by omega) (by omega), Option.bind_some]
    rw [if_pos (by omega), wadd1 i (by omega)]
    simp only [Option.bind_some, schedVal, if_neg h16, sg0, sg1]
    congr 4
    simp only [wl, wr]
    congr 1
    omega
theorem spread_eq (b : List Int) (h : b.length = 64) : digest_spread.f b = some (schedR b 0 64) := by
  simp only [digest_spread.f]
  have e := loop_run (step := digest_spread.s0 b) (s := (0, List.replicate 64 0)) (fun i => ((i : Int), schedR b 0 i)) 64 (r := schedR b 0 64) rfl (fun i hi => by
    rw [spread_step b h _ i hi]
    rfl) (by simp only [digest_spread.s0]; rw [if_neg (by decide)])
  rw [e]
  rfl
theorem mix0_step (w x : List Int) (i : Nat) (hi : i < 64) : digest_mix.s0 w digest_keys.lit0 ((i : Int), x) = some (.inl (((i + 1 : Nat) : Int), rstep x (kc.getD i 0) (w.getD i 0))) := by
  simp only [digest_mix.s0]
  rw [if_pos (by omega)]
  simp only [turn_f _ 6 (by omega) (by omega), turn_f _ 11 (by omega) (by omega), turn_f _ 25 (by omega) (by omega), turn_f _ 2 (by omega) (by omega), turn_f _ 13 (by omega) (by omega), turn_f _ 22 (by omega) (by omega), Option.bind_some, Int.toNat_natCast]
  rw [if_pos (by omega), wadd1 i (by omega)]
  simp only [rstep, rt1, rt2, kc, wl, wr, show (0 : Int).toNat = 0 from rfl, show (1 : Int).toNat = 1 from rfl, show (2 : Int).toNat = 2 from rfl, show (3 : Int).toNat = 3 from rfl, show (4 : Int).toNat = 4 from rfl, show (5 : Int).toNat = 5 from rfl, show (6 : Int).toNat = 6 from rfl, show (7 : Int).toNat = 7 from rfl]
theorem mix_eq (s b : List Int) (h : b.length = 64) : digest_mix.f s b = some (mixV s b 0) := by
  simp only [digest_mix.f, spread_eq b h, digest_keys.f, Option.bind_some]
  have e := loop_run (step := digest_mix.s0 (schedR b 0 64) digest_keys.lit0) (s := (0, s)) (fun i => ((i : Int), roundR (schedR b 0 64) s i)) 64 (r := roundR (schedR b 0 64) s 64) rfl (fun i hi => by
    rw [mix0_step _ _ i hi]
    rfl) (by simp only [digest_mix.s0]; rw [if_neg (by decide)])
  rw [e]
  simp only [Option.bind_some]
  have e := loop_run (step := digest_mix.s1 (roundR (schedR b 0 64) s 64)) (s := (0, s)) (fun i => ((i : Int), addR (roundR (schedR b 0 64) s 64) s i)) 8 (r := mixV s b 0) rfl (fun i hi => by
    simp only [digest_mix.s1]
    rw [if_pos (by omega), if_pos (by omega), wadd1 i (by omega)]
    simp only [Int.toNat_natCast, addR]) (by simp only [digest_mix.s1]; rw [if_neg (by decide)]; rfl)
  rw [e]
  rfl
theorem wordAt_in (m : List Int) (a n t : Nat) (h : t < 16) : wordAt ((m.take (a + 64)).drop a) (4 * t) = wordAt m (a + 4 * t) := by
  have e : ∀ j, j < 64 → ((m.take (a + 64)).drop a).getD j 0 = m.getD (a + j) 0 := fun j hj => by
    rw [getD_drop', getD_take' _ _ _ (by omega)]
  simp only [wordAt]
  rw [e _ (by omega), e _ (by omega), e _ (by omega), e _ (by omega)]
  simp only [Nat.add_assoc]
theorem schedR_in (m : List Int) (a t : Nat) : schedR ((m.take (a + 64)).drop a) 0 t = schedR m a t := by
  induction t with
  | zero => rfl
  | succ t ih =>
    simp only [schedR, ih]
    congr 1
    simp only [schedVal]
    by_cases h : t < 16
    · simp only [if_pos h, Nat.zero_add]
      exact wordAt_in m a 0 t h
    · simp only [if_neg h]
theorem mixV_in (s m : List Int) (a : Nat) : mixV s ((m.take (a + 64)).drop a) 0 = mixV s m a := by
  simp only [mixV, schedR_in]
theorem wordAt_app (m l : List Int) (p : Nat) (h : p + 3 < m.length) : wordAt (m ++ l) p = wordAt m p := by
  have e : ∀ j, j < m.length → (m ++ l).getD j 0 = m.getD j 0 := fun j hj => by simp [List.getD, List.getElem?_append_left hj]
  simp only [wordAt]
  rw [e _ (by omega), e _ (by omega), e _ (by omega), e _ (by omega)]
theorem schedR_app (m l : List Int) (p t : Nat) (h : p + 64 ≤ m.length) : schedR (m ++ l) p t = schedR m p t := by
  induction t with
  | zero => rfl
  | succ t ih =>
    simp only [schedR, ih]
    congr 1
    simp only [schedVal]
    by_cases h : t < 16
    · simp only [if_pos h]
      exact wordAt_app m l _ (by omega)
    · simp only [if_neg h]
theorem blocksR_app (m l s : List Int) (n : Nat) (h : 64 * n ≤ m.length) : blocksR (m ++ l) s n = blocksR m s n := by
  induction n with
  | zero => rfl
  | succ n ih =>
    simp only [blocksR, ih (by omega), mixV]
    rw [schedR_app _ _ _ _ (by omega)]
theorem mixV_drop (s m : List Int) (q a : Nat) : mixV s (m.drop q) a = mixV s m (q + a) := by
  have hw : ∀ p, wordAt (m.drop q) p = wordAt m (q + p) := fun p => by
    simp only [wordAt, getD_drop', Nat.add_assoc]
  have hs : ∀ t, schedR (m.drop q) a t = schedR m (q + a) t := fun t => by
    induction t with
    | zero => rfl
    | succ t ih =>
      simp only [schedR, ih]
      congr 1
      simp only [schedVal, hw, Nat.add_assoc]
  simp only [mixV, hs]
theorem addR_len (x s : List Int) (i : Nat) : (addR x s i).length = s.length := by
  induction i with
  | zero => rfl
  | succ i ih => simp [addR, ih]
theorem mixV_len (s m : List Int) (a : Nat) : (mixV s m a).length = s.length := addR_len _ _ _
theorem blocksR_len (m s : List Int) (n : Nat) : (blocksR m s n).length = s.length := by
  induction n with
  | zero => rfl
  | succ n ih => rw [blocksR, mixV_len, ih]
end Go.Proofs.YtdngkgkkblfcjaaDoor.T
namespace Go.Proofs.YtdngkgkkblfcjaaDoor.T
open Go Go.Proofs Go.Proofs.YtdngkgkkblfcjaaDoor.K
set_option linter.unusedVariables false
set_option linter.unusedSimpArgs false
def WIn (w : digestWriter) (m : List Int) : Prop := w.n = m.length ∧ w.rest = m.drop (64 * (m.length / 64)) ∧ (64 ≤ m.length → w.s = blocksR m iv0 (m.length / 64))
theorem clone_eq (xs : List Int) (h : xs.length ≤ 140737488355328) : bytes_Clone.f xs = some xs := by
  unfold bytes_Clone.f
  rw [if_pos h]
theorem state_eq {w : digestWriter} {m : List Int} (h : WIn w m) : digest_Writer_state.f w = some (blocksR m iv0 (m.length / 64)) := by
  obtain ⟨h1, h2, h3⟩ := h
  simp only [digest_Writer_state.f, digest_begin.f, Option.bind_some, h1]
  by_cases hc : m.length < 64
  · rw [if_pos (by omega), Nat.div_eq_of_lt hc]
    rfl
  · rw [if_neg (by omega), h3 (by omega)]
theorem write_eq {w : digestWriter} {m b : List Int} (h : WIn w m) (hb : m.length + b.length ≤ 1000000) : ∃ w', digest_Writer_Write.f w b = some w' ∧ WIn w' (m ++ b) := by
  have hs := state_eq h
  obtain ⟨h1, h2, h3⟩ := h
  generalize hq : m.length / 64 = q at hs h2
  have hq1 : 64 * q ≤ m.length := by omega
  have hR : w.rest ++ b = (m ++ b).drop (64 * q) := by rw [h2, List.drop_append_of_le_length hq1]
  have hRl : (w.rest ++ b).length = m.length + b.length - 64 * q := by rw [hR]; simp
  generalize hRe : w.rest ++ b = R at hR hRl
  generalize hc : R.length / 64 = c
  have hloop : loopO digest_Writer_Write.s0 (0, blocksR m iv0 q, R) = some (((64 * c : Nat) : Int), blocksR (m ++ b) iv0 (q + c), R) := by
    refine loop_run (fun i => (((64 * i : Nat) : Int), blocksR (m ++ b) iv0 (q + i), R)) c ?_ (fun i hi => ?_) ?_
    · rw [Nat.add_zero, blocksR_app _ _ _ _ hq1]; rfl
    · simp only [digest_Writer_Write.s0]
      have e : IntKind.i64.wrap (((64 * i : Nat) : Int) + 64) = ((64 * i + 64 : Nat) : Int) := by rw [w64 (by omega) (by omega)]; omega
      rw [e, if_pos (by omega), if_pos (by omega), Int.toNat_natCast, Int.toNat_natCast, mix_eq _ _ (by simp; omega)]
      simp only [Option.bind_some]
      rw [mixV_in, hR, mixV_drop, ← Nat.mul_add]
      rfl
    · simp only [digest_Writer_Write.s0]
      rw [w64 (by omega) (by omega), if_neg (by omega)]
  refine ⟨⟨blocksR (m ++ b) iv0 (q + c), R.drop (64 * c), m.length + b.length⟩, ?_, by simp, ?_, fun _ => ?_⟩
  · simp only [digest_Writer_Write.f]
    have hs' : digest_Writer_state.f ⟨w.s, w.rest, w.n⟩ = some (blocksR m iv0 q) := hs
    have hw : w.rest.length + b.length = R.length := by rw [← hRe, List.length_append]
    rw [hs', hRe, hw]
    simp only [Option.bind_some]
    rw [if_pos (by omega), hloop]
    simp only [Option.bind_some]
    rw [if_pos (by omega), Int.toNat_natCast, Int.toNat_natCast, List.take_length, clone_eq _ (by simp; omega)]
    simp only [Option.bind_some]
    rw [h1, w64 (by omega) (by omega)]
  · have : 64 * ((m ++ b).length / 64) = 64 * q + 64 * c := by rw [List.length_append]; omega
    rw [this, hR, List.drop_drop]
  · have : (m ++ b).length / 64 = q + c := by rw [List.length_append]; omega
    rw [this]
theorem set_next {α : Type} (f : Nat → α) (n j : Nat) (z : α) (h : j < n) : ((List.range j).map f ++ List.replicate (n - j) z).set j (f j) = (List.range (j + 1)).map f ++ List.replicate (n - (j + 1)) z := by
  obtain ⟨k, hk⟩ : ∃ k, n - j = k + 1 := ⟨n - j - 1, by omega⟩
  have hk' : n - (j + 1) = k := by omega
  rw [hk, hk', List.set_append_right _ _ (by simp), List.range_succ, List.map_append, List.append_assoc]
  simp [List.replicate_succ]
theorem zeros_loop (step : List Int → Option (List Int ⊕ List Int)) (hs : ∀ l, step l = (if (Int.tmod (l.length : Int) 64) ≠ 56 then (if l.length + 1 ≤ 140737488355328 then some (.inl (l ++ ([0] : List Int))) else none) else some (.inr l)))
    (l : List Int) (h : l.length ≤ 2000000) : loopO step l = some (l ++ List.replicate (zs l.length) 0) := by
  refine loop_run (fun i => l ++ List.replicate i 0) (zs l.length) (by simp) (fun i hi => ?_) ?_
  · rw [hs, if_pos ?_, if_pos (by simp [zs] at hi ⊢; omega)]
    · simp [List.replicate_succ', List.append_assoc]
    · rw [List.length_append, List.length_replicate, Int.tmod_eq_emod_of_nonneg (by omega)]
      simp only [zs] at hi
      omega
  · rw [hs, if_neg ?_]
    rw [List.length_append, List.length_replicate, Int.tmod_eq_emod_of_nonneg (by omega)]
    simp only [zs]
    omega
theorem range_map_succ {α : Type} (f : Nat → α) (i : Nat) : (List.range (i + 1)).map f = (List.range i).map f ++ [f i] := by rw [List.range_succ, List.map_append]; rfl
theorem lenB_digest (n i : Nat) (hn : n ≤ 1000000) (hi : i < 8) : IntKind.u8.wrap (sR .u64 (sL .u64 (IntKind.u64.wrap (n : Int)) 3) (IntKind.i64.wrap (8 * (7 - (i : Int))))) = lenB n i := by
  have e1 : sL .u64 (IntKind.u64.wrap (n : Int)) 3 = IntKind.u64.wrap (8 * (n : Int)) := by
    rw [wu64 (by omega) (by omega)]
    simp only [sL, show (3 : Int).toNat = 3 from rfl]
    rw [show ((2 : Int) ^ (min 3 IntKind.u64.bits)) = 8 from rfl, Int.mul_comm]
  rw [e1, w64 (by omega) (by omega)]
  rfl
theorem padR_len (m : List Int) : (padR m).length = m.length + 1 + zs (m.length + 1) + 8 := by
  simp [padR]; omega
theorem padR_mod (m : List Int) : (padR m).length % 64 = 0 := by
  rw [padR_len]; simp only [zs]; omega
theorem out_eq4 (s : List Int) (i : Nat) (hi : i < 8) : loopO (digest_Writer_Sum.s4 s (i : Int)) (0, (List.range (4 * i)).map (outB s) ++ List.replicate (32 - 4 * i) 0) = some ((List.range (4 * (i + 1))).map (outB s) ++ List.replicate (32 - 4 * (i + 1)) 0) := by
  refine loop_run (fun k => ((k : Int), (List.range (4 * i + k)).map (outB s) ++ List.replicate (32 - (4 * i + k)) 0)) 4 (by simp) (fun k hk => ?_) ?_
  · simp only [digest_Writer_Sum.s4]
    have e1 : IntKind.i64.wrap (24 - IntKind.i64.wrap (8 * (k : Int))) = 24 - 8 * (k : Int) := by
      rw [w64 (x := 8 * (k : Int)) (by omega) (by omega), w64 (by omega) (by omega)]
    have e2 : IntKind.i64.wrap (IntKind.i64.wrap (4 * (i : Int)) + (k : Int)) = ((4 * i + k : Nat) : Int) := by
      rw [w64 (x := 4 * (i : Int)) (by omega) (by omega), w64 (by omega) (by omega)]; omega
    rw [if_pos (by omega), e1, e2, if_pos (by omega), if_pos (by omega), wadd1 k (by omega), Int.toNat_natCast, Int.toNat_natCast]
    have e3 : IntKind.u8.wrap (sR .u32 (s.getD i 0) (24 - 8 * (k : Int))) = outB s (4 * i + k) := by
      have a1 : (4 * i + k) / 4 = i := by omega
      have a2 : (4 * i + k) % 4 = k := by omega
      simp only [outB, a1, a2]
    rw [e3, set_next _ _ _ _ (by omega)]
    rfl
  · simp only [digest_Writer_Sum.s4]
    rw [if_neg (by decide)]
    rfl
theorem out_eq (s : List Int) : loopO (digest_Writer_Sum.s3 s) (0, List.replicate 32 0) = some (outL s) := by
  refine loop_run (fun i => ((i : Int), (List.range (4 * i)).map (outB s) ++ List.replicate (32 - 4 * i) 0)) 8 (by simp) (fun i hi => ?_) ?_
  · simp only [digest_Writer_Sum.s3]
    rw [if_pos (by omega), if_pos (by omega), out_eq4 s i hi]
    simp only [Option.bind_some]
    rw [wadd1 i (by omega)]
  · simp only [digest_Writer_Sum.s3]
    rw [if_neg (by decide)]
    rfl
theorem sum_eq' {w : digestWriter} {m : List Int} (h : WIn w m) (hb : m.length ≤ 1000000) : digest_Writer_Sum.f w = some (sha m) := by
  have hs := state_eq h
  obtain ⟨h1, h2, h3⟩ := h
  generalize hq : m.length / 64 = q at hs h2
  have hq1 : 64 * q ≤ m.length := by omega
  have hrl : w.rest.length = m.length - 64 * q := by rw [h2]; simp
  have hz : zs (w.rest ++ [128]).length = zs (m.length + 1) := by simp only [List.length_append, hrl, zs, List.length_cons, List.length_nil]; omega
  have hz64 : zs (m.length + 1) < 64 := by simp only [zs]; omega
  have hC : w.rest ++ [128] ++ List.replicate (zs (m.length + 1)) 0 ++ (List.range 8).map (lenB m.length) = (padR m).drop (64 * q) := by
    rw [h2, padR, List.drop_append_of_le_length hq1]
    simp only [List.append_assoc]
  have hl1 : loopO (digest_Writer_Sum.s1 w) (w.rest ++ [128] ++ List.replicate (zs (m.length + 1)) 0, 7) = some ((padR m).drop (64 * q)) := by
    refine loop_run (fun i => (w.rest ++ [128] ++ List.replicate (zs (m.length + 1)) 0 ++ (List.range i).map (lenB m.length), 7 - (i : Int))) 8 (by simp) (fun i hi => ?_) ?_
    · simp only [digest_Writer_Sum.s1]
      rw [if_pos (by omega), if_pos (by rw [w64 (by omega) (by omega)]; omega), if_pos (by simp; omega), h1, lenB_digest _ _ hb hi, w64 (by omega) (by omega)]
      congr 2
      rw [range_map_succ, ← List.append_assoc]
      congr 1
      omega
    · simp only [digest_Writer_Sum.s1]
      rw [if_neg (by decide), hC]
  have hpl := padR_len m
  have hpm := padR_mod m
  have hCl : ((padR m).drop (64 * q)).length = (padR m).length - 64 * q := by simp
  generalize hc : ((padR m).drop (64 * q)).length / 64 = c at *
  have hl2 : loopO digest_Writer_Sum.s2 ((padR m).drop (64 * q), 0, blocksR m iv0 q) = some ((padR m).drop (64 * q), blocksR (padR m) iv0 (q + c)) := by
    refine loop_run (fun i => ((padR m).drop (64 * q), ((64 * i : Nat) : Int), blocksR (padR m) iv0 (q + i))) c ?_ (fun i hi => ?_) ?_
    · rw [Nat.add_zero]
      have : blocksR (padR m) iv0 q = blocksR m iv0 q := blocksR_app _ _ _ _ hq1
      rw [this]; rfl
    · simp only [digest_Writer_Sum.s2]
      have e : IntKind.i64.wrap (((64 * i : Nat) : Int) + 64) = ((64 * i + 64 : Nat) : Int) := by rw [w64 (by omega) (by omega)]; omega
      rw [if_pos (by omega), e, if_pos (by omega), Int.toNat_natCast, Int.toNat_natCast, mix_eq _ _ (by simp; omega)]
      simp only [Option.bind_some]
      rw [mixV_in, mixV_drop, ← Nat.mul_add]
      rfl
    · simp only [digest_Writer_Sum.s2]
      rw [if_neg (by omega)]
  simp only [digest_Writer_Sum.f]
  have hs' : digest_Writer_state.f ⟨w.s, w.rest, w.n⟩ = some (blocksR m iv0 q) := hs
  rw [clone_eq _ (by omega)]
  simp only [Option.bind_some]
  rw [if_pos (by omega), zeros_loop digest_Writer_Sum.s0 (fun l => rfl) _ (by simp; omega), hz]
  simp only [Option.bind_some]
  rw [hl1]
  simp only [Option.bind_some]
  rw [hs']
  simp only [Option.bind_some]
  rw [hl2]
  simp only [Option.bind_some]
  rw [out_eq]
  simp only [Option.bind_some, sha]
  congr 3
  omega
theorem wIn0 (s : List Int) : WIn ⟨s, [], 0⟩ [] := ⟨rfl, rfl, fun h => by simp at h⟩
theorem sha_eq (m : List Int) (hb : m.length ≤ 1000000) : digest_Sha.f m = some (sha m) := by
  obtain ⟨w', e, hw⟩ := write_eq (wIn0 (List.replicate 8 0)) (b := m) (by simpa using hb)
  simp only [digest_Sha.f, e, Option.bind_some]
  have : digest_Writer_Sum.f ⟨w'.s, w'.rest, w'.n⟩ = some (sha m) := sum_eq' hw (by simpa using hb)
  rw [this]
  rfl
theorem outL_len (s : List Int) : (outL s).length = 32 := by simp [outL]
theorem sha_len (m : List Int) : (sha m).length = 32 := outL_len _
theorem twice_eq (m : List Int) (hb : m.length ≤ 1000000) : digest_Twice.f m = some (sha (sha m)) := by
  simp only [digest_Twice.f, sha_eq m hb, Option.bind_some, sha_eq (sha m) (by rw [sha_len]; omega)]
theorem sha_arr (m : List Int) : Arr .u8 32 (sha m) := ⟨sha_len m, fun x hx => by
  simp only [sha, outL, List.mem_map] at hx
  obtain ⟨i, _, rfl⟩ := hx
  exact wrap_in _ _⟩
end Go.Proofs.YtdngkgkkblfcjaaDoor.T
namespace Go.Proofs.YtdngkgkkblfcjaaDoor.T
open Go Go.Proofs Go.Proofs.YtdngkgkkblfcjaaDoor.K
set_option linter.unusedVariables false
set_option linter.unusedSimpArgs false
theorem els_all {α : Type} {RE : α → List Value → Prop} {sz : Nat} {xs : List α} {cs : List Value} {Q : α → Prop} (h : Els RE sz xs cs) (f : ∀ x c, RE x c → Q x) : ∀ x ∈ xs, Q x := by
  induction h with
  | nil => simp
  | cons h _ _ ih =>
    intro y hy
    rcases List.mem_cons.1 hy with rfl | hy
    · exact f _ _ h
    · exact ih y hy
theorem slc_ints {k : IntKind} {μ : Store} {v : Value} {xs : List Int} (h : Slc (RI k) 1 μ v xs) : ∀ x ∈ xs, InR k x := by
  obtain ⟨cs, he, _⟩ := h
  exact els_all he fun x c hc => hc.2
theorem winc (i : Nat) (hi : i < 9223372036854775807) : IntKind.i64.wrap ((i : Int) + 1) = ((i + 1 : Nat) : Int) := by
  rw [w64 (by omega) (by omega)]; omega
theorem take_next {α : Type} (xs : List α) (i : Nat) (d : α) (h : i < xs.length) : xs.take i ++ [xs.getD i d] = xs.take (i + 1) := by
  rw [List.take_add_one]
  simp [List.getD, h]
theorem copy_run {α : Type} {step : (List α × Int) → Option ((List α × Int) ⊕ List α)} (xs : List α) (d : α) (h : xs.length < 9223372036854775807)
    (hs : ∀ i, i < xs.length → step (xs.take i, (i : Int)) = some (.inl (xs.take i ++ [xs.getD i d], IntKind.i64.wrap ((i : Int) + 1)))) (hn : step (xs, (xs.length : Int)) = some (.inr xs)) : loopO step ([], 0) = some xs :=
  loop_run (fun i => (xs.take i, (i : Int))) xs.length rfl (fun i hi => by
    rw [hs i hi, take_next _ _ _ hi, winc i (by omega)]) (by simpa using hn)
theorem bytes_eq (xs : List Int) (h : xs.length ≤ 140737488355328) : sargassoref_Bytes.f xs = some xs := by
  unfold sargassoref_Bytes.f
  rw [if_pos ⟨by omega, by omega, by omega⟩]
  simp only [Int.toNat_zero, List.replicate_zero]
  rw [copy_run xs 0 (by omega) (fun i hi => by
    simp only [sargassoref_Bytes.s0]
    rw [if_pos (by omega), if_pos (by omega), if_pos (by simp; omega), Int.toNat_natCast]) (by simp [sargassoref_Bytes.s0])]
  rfl
theorem all_run {step : Int → Option (Int ⊕ Bool)} (n : Nat) (p : Nat → Prop) [DecidablePred p] (hn : n < 9223372036854775807)
    (hs : ∀ i, i < n → step (i : Int) = if p i then some (.inl (IntKind.i64.wrap ((i : Int) + 1))) else some (.inr false)) (he : step (n : Int) = some (.inr true)) : loopO step 0 = some (decide (∀ i, i < n → p i)) := by
  have key : ∀ m k, m + k = n → (∀ i, i < k → p i) → loopO step (k : Int) = some (decide (∀ i, i < n → p i)) := by
    intro m
    induction m with
    | zero =>
      intro k e h
      obtain rfl : k = n := by omega
      rw [loopO_inr he]
      congr 1
      exact (decide_eq_true h).symm
    | succ m ih =>
      intro k e h
      have h1 := hs k (by omega)
      by_cases hp : p k
      · rw [if_pos hp, winc k (by omega)] at h1
        rw [loopO_inl h1]
        refine ih (k + 1) (by omega) fun i hi => ?_
        rcases Nat.lt_or_ge i k with h2 | h2
        · exact h i h2
        · obtain rfl : i = k := by omega
          exact hp
      · rw [if_neg hp] at h1
        rw [loopO_inr h1]
        have : ¬ ∀ i, i < n → p i := fun h2 => hp (h2 k (by omega))
        simp [this]
  exact key n 0 (by omega) (by simp)
theorem ext_iff {α : Type} (xs ys : List α) (d : α) (h : xs.length = ys.length) : (∀ i, i < xs.length → xs.getD i d = ys.getD i d) ↔ xs = ys := by
  constructor
  · intro hh
    apply List.ext_getElem h
    intro i h1 h2
    have := hh i h1
    simpa [List.getD, h1, h2] using this
  · rintro rfl i _
    rfl
theorem samehash_eq (a b : List Int) (ha : a.length = 32) (hb : b.length = 32) : sargassoref_SameHash.f a b = some (decide (a = b)) := by
  unfold sargassoref_SameHash.f
  rw [all_run 32 (fun i => a.getD i 0 = b.getD i 0) (by omega) (fun i hi => by
    simp only [sargassoref_SameHash.s0, Int.toNat_natCast]
    rw [if_pos (by omega), if_pos (by omega)]
    by_cases h : a.getD i 0 = b.getD i 0
    · rw [if_neg (by simpa using h), if_pos h]
    · rw [if_pos h, if_neg h]) (by simp [sargassoref_SameHash.s0])]
  congr 2
  apply propext
  have := ext_iff a b 0 (by rw [ha, hb])
  rw [ha] at this
  exact this
end Go.Proofs.YtdngkgkkblfcjaaDoor.T
namespace Go.Proofs.YtdngkgkkblfcjaaDoor.T
open Go Go.Proofs Go.Proofs.YtdngkgkkblfcjaaDoor.K
set_option linter.unusedVariables false
set_option linter.unusedSimpArgs false
theorem ref_sched_step (m : List Int) (a : Nat) (ha : a + 64 ≤ m.length) (hm : m.length ≤ 3000000) (w : List Int) (hw : w.length = 64) (i : Nat) (hi : i < 64) : sargassoref1_Sha.s3 m (a : Int) ((i : Int), w) = some (.inl (((i + 1 : Nat) : Int), w.set i (schedVal m a w i))) := by
  simp only [sargassoref1_Sha.s3, hw]
  rw [if_pos (by omega)]
  by_cases h16 : i < 16
  · have e0 : IntKind.i64.wrap ((a : Int) + IntKind.i64.wrap (4 * (i : Int))) = ((a + 4 * i : Nat) : Int) := by
      rw [wmul4 i (by omega), w64 (by omega) (by omega)]; omega
    have e1 : IntKind.i64.wrap (((a + 4 * i : Nat) : Int) + 1) = ((a + 4 * i + 1 : Nat) : Int) := by rw [w64 (by omega) (by omega)]; omega
    have e2 : IntKind.i64.wrap (((a + 4 * i : Nat) : Int) + 2) = ((a + 4 * i + 2 : Nat) : Int) := by rw [w64 (by omega) (by omega)]; omega
    have e3 : IntKind.i64.wrap (((a + 4 * i : Nat) : Int) + 3) = ((a + 4 * i + 3 : Nat) : Int) := by rw [w64 (by omega) (by omega)]; omega
    rw [if_pos (by omega), e0, e1, e2, e3, if_pos (by omega), if_pos (by omega), if_pos (by omega), if_pos (by omega), if_pos (by omega)]
    simp only [Option.bind_some, Int.toNat_natCast]
    rw [wadd1 i (by omega)]
    simp only [schedVal, if_pos h16, wordAt]
  · have e2 := wsub i 2 (by omega) (by omega)
    have e7 := wsub i 7 (by omega) (by omega)
    have e15 := wsub i 15 (by omega) (by omega)
    have e16 := wsub i 16 (by omega) (by omega)
    simp only [show ((2 : Nat) : Int) = 2 from rfl, show ((7 : Nat) : Int) = 7 from rfl, show ((15 : Nat) : Int) = 15 from rfl, show ((16 : Nat) : Int) = 16 from rfl] at e2 e7 e15 e16
    rw [if_neg (by omega), e2, e7, e15, e16, if_pos (by omega), if_pos (by omega), if_pos (by omega), if_pos (by omega)]
    simp only [Int.toNat_natCast, right_f _ 17 (by omega) (by omega), right_f _ 19 (by omega) (by omega), right_f _ 7 (by omega) (by omega), right_f _ 18 (by omega) (by omega), Option.bind_some]
    rw [if_pos (by omega), wadd1 i (by omega)]
    simp only [Option.bind_some, schedVal, if_neg h16, sg0, sg1, wl, wr]
theorem ref_sched (m : List Int) (a : Nat) (ha : a + 64 ≤ m.length) (hm : m.length ≤ 3000000) : loopO (sargassoref1_Sha.s3 m (a : Int)) (0, List.replicate ((64 : Int).toNat) 0) = some (schedR m a 64) := by
  refine loop_run (fun i => ((i : Int), schedR m a i)) 64 rfl (fun i hi => ?_) ?_
  · rw [ref_sched_step m a ha hm _ (schedR_len _ _ _) i hi]
    rfl
  · simp only [sargassoref1_Sha.s3]
    rw [if_neg (by decide)]
theorem roundR_len (w s : List Int) (hs : s.length = 8) (i : Nat) : (roundR w s i).length = 8 := by
  cases i with
  | zero => exact hs
  | succ i => rfl
theorem kc_len : kc.length = 64 := by kernel_rfl
theorem k1_eq : sargassoref1_k.lit0 = kc := by kernel_rfl
theorem ref_round (w s : List Int) (hs : s.length = 8) (hw : w.length = 64) : loopO (sargassoref1_Sha.s4 kc w) (([] : List Int) ++ s, 0) = some (roundR w s 64) := by
  refine loop_run (fun i => (roundR w s i, (i : Int))) 64 rfl (fun i hi => ?_) ?_
  · have hl := roundR_len w s hs i
    have hk := kc_len
    simp only [sargassoref1_Sha.s4, hl]
    rw [if_pos (by omega), if_pos (by decide), if_pos (by decide), if_pos (by decide)]
    simp only [right_f _ 6 (by omega) (by omega), right_f _ 11 (by omega) (by omega), right_f _ 25 (by omega) (by omega), right_f _ 2 (by omega) (by omega), right_f _ 13 (by omega) (by omega), right_f _ 22 (by omega) (by omega), Option.bind_some, Int.toNat_natCast]
    rw [if_pos (by decide), if_pos (by decide), if_pos (by omega), if_pos (by omega), if_pos (by decide), if_pos (by decide), if_pos (by decide), wadd1 i (by omega)]
    simp only [roundR, rstep, rt1, rt2, wl, wr, show (0 : Int).toNat = 0 from rfl, show (1 : Int).toNat = 1 from rfl, show (2 : Int).toNat = 2 from rfl, show (3 : Int).toNat = 3 from rfl, show (4 : Int).toNat = 4 from rfl, show (5 : Int).toNat = 5 from rfl, show (6 : Int).toNat = 6 from rfl, show (7 : Int).toNat = 7 from rfl]
  · simp only [sargassoref1_Sha.s4]
    rw [if_neg (by decide)]
theorem ref_add (x s : List Int) (hs : s.length = 8) (hx : x.length = 8) : loopO (sargassoref1_Sha.s5 x) (0, s) = some (addR x s 8) := by
  refine loop_run (fun i => ((i : Int), addR x s i)) 8 rfl (fun i hi => ?_) ?_
  · have hl := addR_len x s i
    simp only [sargassoref1_Sha.s5, hl, hs, hx]
    rw [if_pos (by omega), if_pos (by omega), if_pos (by omega), wadd1 i (by omega)]
    simp only [Int.toNat_natCast, addR]
  · simp only [sargassoref1_Sha.s5]
    rw [if_neg (by decide)]
theorem ref_out (s : List Int) (hs : s.length = 8) : loopO (sargassoref1_Sha.s6 s) (0, List.replicate 32 0) = some (outL s) := by
  refine loop_run (fun i => ((i : Int), (List.range i).map (outB s) ++ List.replicate (32 - i) 0)) 32 (by simp) (fun i hi => ?_) ?_
  · simp only [sargassoref1_Sha.s6, hs]
    have e1 : IntKind.i64.wrap (Int.tdiv (i : Int) 4) = ((i / 4 : Nat) : Int) := by
      rw [Int.tdiv_eq_ediv_of_nonneg (by omega), w64 (by omega) (by omega)]; omega
    have e2 : Int.tmod (i : Int) 4 = ((i % 4 : Nat) : Int) := by rw [Int.tmod_eq_emod_of_nonneg (by omega)]; omega
    have e3 : IntKind.u64.wrap (IntKind.i64.wrap (24 - IntKind.i64.wrap (8 * ((i % 4 : Nat) : Int)))) = 24 - 8 * ((i % 4 : Nat) : Int) := by
      rw [w64 (x := 8 * ((i % 4 : Nat) : Int)) (by omega) (by omega), w64 (by omega) (by omega), wu64 (by omega) (by omega)]
    rw [if_pos (by omega), e1, e2, e3, if_pos (by omega), if_pos (by omega), if_pos (by omega), wadd1 i (by omega), Int.toNat_natCast, Int.toNat_natCast]
    have e4 : IntKind.u8.wrap (sR .u32 (s.getD (i / 4) 0) (24 - 8 * ((i % 4 : Nat) : Int))) = outB s i := rfl
    rw [e4, set_next _ _ _ _ (by omega)]
  · simp only [sargassoref1_Sha.s6]
    rw [if_neg (by decide)]
    rfl
theorem lenB_ref (n i : Nat) (hn : n ≤ 1000000) (hi : i < 8) : IntKind.u8.wrap (sR .u64 (IntKind.u64.wrap (8 * IntKind.u64.wrap (n : Int))) (IntKind.u64.wrap (IntKind.i64.wrap (8 * (7 - (i : Int)))))) = lenB n i := by
  rw [w64 (by omega) (by omega), wu64 (x := (n : Int)) (by omega) (by omega), wu64 (x := 8 * (7 - (i : Int))) (by omega) (by omega)]
  rfl
theorem ref_pad (m : List Int) (hb : m.length ≤ 1000000) : loopO (sargassoref1_Sha.s1 m) (m ++ [128] ++ List.replicate (zs (m.length + 1)) 0, 7) = some (padR m) := by
  have hz64 : zs (m.length + 1) < 64 := by simp only [zs]; omega
  refine loop_run (fun i => (m ++ [128] ++ List.replicate (zs (m.length + 1)) 0 ++ (List.range i).map (lenB m.length), 7 - (i : Int))) 8 (by simp) (fun i hi => ?_) ?_
  · simp only [sargassoref1_Sha.s1]
    rw [if_pos (by omega), if_pos (by rw [w64 (by omega) (by omega), wu64 (by omega) (by omega)]; omega), if_pos (by simp; omega), lenB_ref _ _ hb hi, w64 (by omega) (by omega)]
    congr 2
    rw [range_map_succ, ← List.append_assoc]
    congr 1
    omega
  · simp only [sargassoref1_Sha.s1]
    rw [if_neg (by decide)]
    simp only [padR, List.append_assoc]
theorem ref_block (M s : List Int) (a : Nat) (hs : s.length = 8) (ha : a + 64 ≤ M.length) (hM : M.length ≤ 3000000) : sargassoref1_Sha.s2 M kc ((a : Int), s) = some (.inl (IntKind.i64.wrap ((a : Int) + 64), mixV s M a)) := by
  simp only [sargassoref1_Sha.s2]
  rw [if_pos (by omega), if_pos (by decide), ref_sched M a ha hM]
  simp only [Option.bind_some]
  rw [if_pos (by omega), ref_round _ _ hs (schedR_len _ _ _)]
  simp only [Option.bind_some]
  rw [ref_add _ _ hs (roundR_len _ _ hs _)]
  simp only [Option.bind_some, mixV]
theorem ref_blocks (M : List Int) (hM : M.length ≤ 3000000) (h64 : M.length % 64 = 0) : loopO (sargassoref1_Sha.s2 M kc) (0, iv0) = some (blocksR M iv0 (M.length / 64)) := by
  refine loop_run (fun i => (((64 * i : Nat) : Int), blocksR M iv0 i)) (M.length / 64) (by simp only [Nat.mul_zero, blocksR]; rfl) (fun i hi => ?_) ?_
  · have hbl : (blocksR M iv0 i).length = 8 := blocksR_len _ _ _
    rw [ref_block M _ (64 * i) hbl (by omega) hM]
    have e : IntKind.i64.wrap (((64 * i : Nat) : Int) + 64) = ((64 * (i + 1) : Nat) : Int) := by rw [w64 (by omega) (by omega)]; omega
    rw [e, blocksR]
  · simp only [sargassoref1_Sha.s2]
    rw [if_neg (by omega)]
theorem ref_sha_eq (m : List Int) (hb : m.length ≤ 1000000) : sargassoref1_Sha.f m = some (sha m) := by
  have hz : zs (m ++ [128]).length = zs (m.length + 1) := by simp
  have hz64 : zs (m.length + 1) < 64 := by simp only [zs]; omega
  have hpl := padR_len m
  have hl2 := ref_blocks (padR m) (by omega) (padR_mod m)
  unfold sargassoref1_Sha.f
  rw [bytes_eq m (by omega), Option.bind_some, if_pos (by omega), zeros_loop sargassoref1_Sha.s0 (fun l => rfl) _ (by simp; omega), hz, Option.bind_some, ref_pad m hb, Option.bind_some]
  unfold sargassoref1_k.f
  rw [k1_eq, Option.bind_some]
  unfold iv0 at hl2
  rw [hl2, Option.bind_some, ref_out _ (blocksR_len _ _ _), Option.bind_some]
  rfl
theorem ref_twice_eq (m : List Int) (hb : m.length ≤ 1000000) : sargassoref1_Twice.f m = some (sha (sha m)) := by
  simp only [sargassoref1_Twice.f, ref_sha_eq m hb, Option.bind_some, ref_sha_eq (sha m) (by rw [sha_len]; omega)]
end Go.Proofs.YtdngkgkkblfcjaaDoor.T
namespace Go.Proofs.YtdngkgkkblfcjaaDoor.T
open Go Go.Proofs Go.Proofs.YtdngkgkkblfcjaaDoor.K
set_option linter.unusedVariables false
set_option linter.unusedSimpArgs false
def Hs (l : List (List Int)) : Prop := ∀ x ∈ l, x.length = 32
theorem Hs.at {l : List (List Int)} (h : Hs l) {i : Nat} (hi : i < l.length) : (l.getD i []).length = 32 := by
  have e : l.getD i [] = l[i] := by simp [List.getD, hi]
  rw [e]; exact h _ (List.getElem_mem hi)
theorem concat_eq (l : List (List Int)) (hn : l.length ≤ 1000) (hl : ∀ x ∈ l, x.length ≤ 1000) : slices_Concat_byte_byte.f l = some l.flatten := by
  have hpre : ∀ i, i ≤ l.length → ((l.take i).flatten.length ≤ 1000 * i) := by
    intro i
    induction i with
    | zero => intro _; simp
    | succ i ih =>
      intro hi
      have h1 := ih (by omega)
      have h2 : (l.getD i []).length ≤ 1000 := by
        have e : l.getD i [] = l[i] := by simp [List.getD, show i < l.length by omega]
        rw [e]; exact hl _ (List.getElem_mem _)
      rw [← take_next l i [] (by omega), List.flatten_append, List.length_append]
      simp only [List.flatten_cons, List.flatten_nil, List.append_nil]
      omega
  have hel : ∀ i, i < l.length → (l.getD i []).length ≤ 1000 := fun i hi => by
    have e : l.getD i [] = l[i] := by simp [List.getD, hi]
    rw [e]; exact hl _ (List.getElem_mem _)
  have hnext : ∀ i, i < l.length → (l.take (i + 1)).flatten = (l.take i).flatten ++ l.getD i [] := fun i hi => by
    rw [← take_next l i [] hi, List.flatten_append]; simp
  have h0 : loopO (slices_Concat_byte_byte.s0 l) (0, 0) = some ((l.flatten.length : Int)) := by
    refine loop_run (fun i => (((l.take i).flatten.length : Int), (i : Int))) l.length (by simp) (fun i hi => ?_) ?_
    · have a := hpre i (by omega)
      have b := hel i hi
      simp only [slices_Concat_byte_byte.s0, Int.toNat_natCast]
      rw [if_pos (by omega), if_pos (by omega), w64 (x := ((l.take i).flatten.length : Int) + ((l.getD i []).length : Int)) (by omega) (by omega), if_neg (by omega), Option.bind_some, winc i (by omega), hnext i hi, List.length_append]
      push_cast
      rfl
    · simp only [slices_Concat_byte_byte.s0]
      rw [if_neg (by omega), List.take_length]
  have h1 : loopO (slices_Concat_byte_byte.s1 l) ([], 0) = some l.flatten := by
    refine loop_run (fun i => ((l.take i).flatten, (i : Int))) l.length (by simp) (fun i hi => ?_) ?_
    · have a := hpre i (by omega)
      have b := hel i hi
      simp only [slices_Concat_byte_byte.s1, Int.toNat_natCast]
      rw [if_pos (by omega), if_pos (by omega), if_pos (by omega), winc i (by omega), hnext i hi]
    · simp only [slices_Concat_byte_byte.s1]
      rw [if_neg (by omega), List.take_length]
  have a := hpre l.length (by omega)
  rw [List.take_length] at a
  simp only [slices_Concat_byte_byte.f, slices_Grow_byte_byte.f, h0, Option.bind_some]
  rw [if_pos (by omega), Option.bind_some, h1, Option.bind_some]
def pr (a b : List Int) : List Int := sha (sha (a ++ b))
theorem pr_len (a b : List Int) : (pr a b).length = 32 := sha_len _
theorem pair1_eq (a b : List Int) (ha : a.length = 32) (hb : b.length = 32) : sargassoref1_pair.f a b = some (pr a b) := by
  simp only [sargassoref1_pair.f]
  rw [bytes_eq _ (by omega), Option.bind_some, if_pos (by omega), ref_twice_eq _ (by simp [ha, hb])]
  rfl
theorem xor1 (a : Nat) : a ^^^ 1 = if a % 2 = 0 then a + 1 else a - 1 := by
  have h1 : (a ^^^ 1) / 2 = a / 2 := by rw [Nat.xor_div_two]; simp
  have h2 : (a ^^^ 1) % 2 = (a + 1) % 2 := by
    have := Nat.xor_mod_two_pow (a := a) (b := 1) (n := 1)
    rw [show 2 ^ 1 = 2 from rfl] at this
    rw [this]
    have d0 : 0 ^^^ 1 % 2 = 1 := by decide
    have d1 : 1 ^^^ 1 % 2 = 0 := by decide
    rcases Nat.mod_two_eq_zero_or_one a with e | e <;> rw [e] <;> simp only [d0, d1] <;> omega
  split <;> omega
theorem iMin_nat (a b : Nat) : iMin (a : Int) (b : Int) = ((min a b : Nat) : Int) := by unfold iMin; split <;> omega
def oth (i : Nat) (l : List (List Int)) : List Int := l.getD (min (i ^^^ 1) (l.length - 1)) []
theorem oth_len {i : Nat} {l : List (List Int)} (h : Hs l) (h0 : 0 < l.length) : (oth i l).length = 32 := h.at (by omega)
def upG (l : List (List Int)) (j : Nat) : List Int := pr (l.getD (2 * j) []) (oth (2 * j) l)
def upL (l : List (List Int)) : List (List Int) := (List.range ((l.length + 1) / 2)).map (upG l)
theorem upL_len (l : List (List Int)) : (upL l).length = (l.length + 1) / 2 := by simp [upL]
theorem upL_hs (l : List (List Int)) : Hs (upL l) := fun x hx => by
  simp only [upL, List.mem_map] at hx
  obtain ⟨j, _, rfl⟩ := hx
  exact pr_len _ _
theorem row_eq (l : List (List Int)) (h : Hs l) (hl : l.length < 100000) : sargassoref1_row.f l = some (upL l) := by
  simp only [sargassoref1_row.f]
  have e : loopO (sargassoref1_row.s0 l) ([], 0) = some (upL l) := by
    refine loop_run (fun j => ((List.range j).map (upG l), ((2 * j : Nat) : Int))) ((l.length + 1) / 2) rfl (fun j hj => ?_) ?_
    · simp only [sargassoref1_row.s0, Int.toNat_natCast]
      have e1 : IntKind.i64.wrap ((l.length : Int) - 1) = ((l.length - 1 : Nat) : Int) := by rw [w64 (by omega) (by omega)]; omega
      have e2 : IntKind.i64.wrap (((2 * j : Nat) : Int) + 1) = ((2 * j + 1 : Nat) : Int) := by rw [w64 (by omega) (by omega)]; omega
      have e3 : oth (2 * j) l = l.getD (min (2 * j + 1) (l.length - 1)) [] := by
        unfold oth
        rw [xor1, if_pos (by omega)]
      rw [e1, e2, iMin_nat, if_pos (by omega), if_pos (by omega), if_pos (by omega), Int.toNat_natCast, ← e3, pair1_eq _ _ (h.at (by omega)) (oth_len h (by omega)), Option.bind_some, if_pos (by simp; omega), range_map_succ, w64 (by omega) (by omega)]
      congr 3
    · simp only [sargassoref1_row.s0]
      rw [if_neg (by omega)]
      rfl
  rw [e, Option.bind_some]
def topR : Nat → List (List Int) → List (List Int)
  | 0, l => l
  | f + 1, l => if 1 < l.length then topR f (upL l) else l
theorem top_stop {f : Nat} {l : List (List Int)} (h : l.length ≤ 1) : topR f l = l := by
  cases f with
  | zero => rfl
  | succ f => rw [topR, if_neg (by omega)]
def rootL (l : List (List Int)) : List Int := if l.length = 0 then List.replicate 32 0 else (topR l.length l).getD 0 []
theorem top_pos : ∀ (f : Nat) (l : List (List Int)), 0 < l.length → l.length ≤ f → (topR f l).length = 1
  | 0, l, h, h' => by omega
  | f + 1, l, h, h' => by
    by_cases c : 1 < l.length
    · rw [topR, if_pos c]
      exact top_pos f _ (by rw [upL_len]; omega) (by rw [upL_len]; omega)
    · rw [top_stop (by omega)]; omega
theorem top_hs : ∀ (f : Nat) (l : List (List Int)), Hs l → Hs (topR f l)
  | 0, l, h => h
  | f + 1, l, h => by
    by_cases c : 1 < l.length
    · rw [topR, if_pos c]; exact top_hs f _ (upL_hs l)
    · rw [topR, if_neg c]; exact h
theorem root1_loop : ∀ (f : Nat) (l : List (List Int)), Hs l → l.length ≤ f → l.length < 100000 → loopO sargassoref1_Root.s0 l = some (topR f l)
  | 0, l, h, hf, hl => loopO_inr (by simp only [sargassoref1_Root.s0]; rw [if_neg (by omega)]; rfl)
  | f + 1, l, h, hf, hl => by
    by_cases c : 1 < l.length
    · rw [loopO_inl (s' := upL l) (by simp only [sargassoref1_Root.s0]; rw [if_pos (by omega), row_eq l h hl]; rfl), topR, if_pos c]
      exact root1_loop f _ (upL_hs l) (by rw [upL_len]; omega) (by rw [upL_len]; omega)
    · rw [loopO_inr (r := l) (by simp only [sargassoref1_Root.s0]; rw [if_neg (by omega)]), top_stop (by omega)]
theorem root1_eq (l : List (List Int)) (h : Hs l) (hl : l.length < 100000) : sargassoref1_Root.f l = some (rootL l) := by
  simp only [sargassoref1_Root.f, rootL]
  by_cases c : l.length = 0
  · rw [if_pos (by omega), if_pos c]; rfl
  · rw [if_neg (by omega), if_neg c, root1_loop _ l h (Nat.le_refl _) hl, Option.bind_some, if_pos (by rw [top_pos _ _ (by omega) (Nat.le_refl _)]; decide)]
    rfl
theorem rootL_len (l : List (List Int)) (h : Hs l) : (rootL l).length = 32 := by
  unfold rootL
  split
  · simp
  · exact (top_hs _ _ h).at (by rw [top_pos _ _ (by omega) (Nat.le_refl _)]; omega)
end Go.Proofs.YtdngkgkkblfcjaaDoor.T
namespace Go.Proofs.YtdngkgkkblfcjaaDoor.T
open Go Go.Proofs Go.Proofs.YtdngkgkkblfcjaaDoor.K
set_option linter.unusedVariables false
set_option linter.unusedSimpArgs false
theorem u8e (x : Int) : IntKind.u8.wrap x = x % 256 := by simp [IntKind.wrap, IntKind.signed, IntKind.bits]
def lb (a m : Nat) : List Int := (List.range m).map fun j => ((a / 2 ^ (8 * j) % 256 : Nat) : Int)
theorem lb_len (a m : Nat) : (lb a m).length = m := by simp [lb]
theorem sR_div (k : IntKind) {a n : Nat} (hn : n ≤ k.bits) : sR k (a : Int) (n : Int) = ((a / 2 ^ n : Nat) : Int) := by
  rw [sR_nat k hn, Nat.shiftRight_eq_div_pow]
theorem number_eq' (r : List Int) (a k : Nat) (hk : k ≤ 100) (hl : r.length + k ≤ 140737488355328) : compact_number.f r (a : Int) (k : Int) = some (r ++ lb a k) := by
  simp only [compact_number.f]
  have h : loopO (compact_number.s0 (k : Int)) (r, (a : Int), 0) = some (r ++ lb a k, ((a / 2 ^ (8 * k) : Nat) : Int)) := by
    refine loop_run (fun j => (r ++ lb a j, ((a / 2 ^ (8 * j) : Nat) : Int), (j : Int))) k (by simp [lb]) (fun j hj => ?_) ?_
    · simp only [compact_number.s0]
      have e1 : IntKind.u8.wrap ((a / 2 ^ (8 * j) : Nat) : Int) = ((a / 2 ^ (8 * j) % 256 : Nat) : Int) := by rw [u8e]; generalize a / 2 ^ (8 * j) = q; omega
      have e2 : sR .u64 ((a / 2 ^ (8 * j) : Nat) : Int) 8 = ((a / 2 ^ (8 * (j + 1)) : Nat) : Int) := by
        have := sR_div .u64 (a := a / 2 ^ (8 * j)) (n := 8) (by decide)
        rw [Nat.div_div_eq_div_mul, ← Nat.pow_add] at this
        exact this
      rw [if_pos (by omega), if_pos (by simp [lb_len]; omega), e1, e2, winc j (by omega), List.append_assoc]
      have : lb a j ++ [((a / 2 ^ (8 * j) % 256 : Nat) : Int)] = lb a (j + 1) := by
        unfold lb; rw [range_map_succ]
      rw [this]
    · simp only [compact_number.s0]
      rw [if_neg (by omega)]
  rw [h, Option.bind_some]
theorem four_eq (b : List Int) (a : Nat) (ha : a < 4294967296) (hl : b.length + 4 ≤ 140737488355328) : compact_Four.f b (a : Int) = some (b ++ lb a 4) := by
  have := number_eq' b a 4 (by omega) hl
  simp only [compact_Four.f, bytes_Clone.f]
  rw [wu64 (by omega) (by omega), if_pos (by omega), Option.bind_some]
  rw [show ((4 : Nat) : Int) = 4 from rfl] at this
  rw [this, Option.bind_some]
structure HN where
  v : Nat
  p : List Int
  r : List Int
  t : Nat
  w : Nat
  n : Nat
deriving DecidableEq
structure HN.Ok (h : HN) : Prop where
  v : h.v < 4294967296
  p : h.p.length = 32
  r : h.r.length = 32
  t : h.t < 4294967296
  w : h.w < 4294967296
  n : h.n < 4294967296
def HN.h (h : HN) : Head := ⟨h.v, h.p, h.r, h.t, h.w, h.n⟩
def hb (h : HN) : List Int := lb h.v 4 ++ (h.p ++ (h.r ++ (lb h.t 4 ++ (lb h.w 4 ++ lb h.n 4))))
theorem hb_len {h : HN} (o : h.Ok) : (hb h).length = 80 := by simp [hb, lb_len, o.p, o.r]
theorem hbytes_eq {h : HN} (o : h.Ok) : head_Bytes.f h.h = some (hb h) := by
  simp only [head_Bytes.f, HN.h]
  have hv := o.v
  have ht := o.t
  have hw := o.w
  have hn := o.n
  rw [four_eq [] h.v hv (by simp), Option.bind_some, concat_eq _ (by simp) (by simp [lb_len, o.p, o.r]), Option.bind_some, four_eq _ h.t ht (by simp [lb_len, o.p, o.r]), Option.bind_some, four_eq _ h.w hw (by simp [lb_len, o.p, o.r]), Option.bind_some, four_eq _ h.n hn (by simp [lb_len, o.p, o.r]), Option.bind_some]
  simp [hb]
theorem hid_eq {h : HN} (o : h.Ok) : head_ID.f h.h = some (sha (sha (hb h))) := by
  simp only [head_ID.f]
  rw [hbytes_eq o, Option.bind_some, twice_eq _ (by rw [hb_len o]; decide)]
  rfl
end Go.Proofs.YtdngkgkkblfcjaaDoor.T
namespace Go.Proofs.YtdngkgkkblfcjaaDoor.T
open Go Go.Proofs Go.Proofs.YtdngkgkkblfcjaaDoor.K
set_option linter.unusedVariables false
set_option linter.unusedSimpArgs false
def sl : List Er := [xErrEnd, xErrShape, xErrLong, xErrMany, xErrValue, xErrTwice, xErrBase, xErrRoot, xErrKnown, xErrParent, xErrInvalid, xErrTime, xErrMissing, xErrKey, xErrYoung, xErrEarly, xErrLess, xErrReward, xErrClash, xErrLimit, xErrFull, xErrRange, xErrNone, xErrWord, xErrNumber]
theorem gd {α : Type} (l : List α) (d : α) {i : Nat} (h : i < l.length) : l.getD i d = l[i] := by simp [List.getD, h]
end Go.Proofs.YtdngkgkkblfcjaaDoor.T
namespace Go.Proofs.YtdngkgkkblfcjaaDoor.T
open Go Go.Proofs Go.Proofs.YtdngkgkkblfcjaaDoor.K
set_option linter.unusedVariables false
set_option linter.unusedSimpArgs false
def Bs (l : List Int) : Prop := ∀ x ∈ l, InR .u8 x
theorem Bs.app {l m : List Int} (h : Bs l) (k : Bs m) : Bs (l ++ m) := fun x hx => (List.mem_append.1 hx).elim (h x) (k x)
theorem Bs.take {l : List Int} (h : Bs l) (n : Nat) : Bs (l.take n) := fun x hx => h x (List.mem_of_mem_take hx)
theorem Bs.drop {l : List Int} (h : Bs l) (n : Nat) : Bs (l.drop n) := fun x hx => h x (List.mem_of_mem_drop hx)
theorem bs_lb (a m : Nat) : Bs (lb a m) := fun x hx => by
  obtain ⟨j, _, rfl⟩ := List.mem_map.1 hx
  simp only [InR]
  omega
theorem bs_nil : Bs [] := fun x hx => by cases hx
def vl : List Int → Nat
  | [] => 0
  | b :: l => b.toNat + 256 * vl l
def nx (n : Nat) (s : List Int × Er) : List Int × (List Int × Er) :=
  if s.2 ≠ .b 0 then ([], s) else if s.1.length < n then ([], (s.1, xErrEnd)) else (s.1.take n, (s.1.drop n, s.2))
def wh (n : Nat) (s : List Int × Er) : Nat × (List Int × Er) := (vl (nx n s).1, (nx n s).2)
def ln (n : Nat) : Nat := if n < 253 then 1 else if n < 65536 then 3 else if n < 4294967296 then 5 else 9
theorem len_eq (n : Nat) : compact_Len.f (n : Int) = some (ln n : Int) := by
  simp only [compact_Len.f, ln]
  by_cases h1 : n < 253
  · rw [if_pos (by omega), if_pos h1]; rfl
  · rw [if_neg (by omega), if_neg h1]
    by_cases h2 : n < 65536
    · rw [if_pos (by omega), if_pos h2]; rfl
    · rw [if_neg (by omega), if_neg h2]
      by_cases h3 : n < 4294967296
      · rw [if_pos (by omega), if_pos h3]; rfl
      · rw [if_neg (by omega), if_neg h3]; rfl
theorem len1_eq (n : Nat) : sargassoref1_Len.f (n : Int) = some (ln n : Int) := len_eq n
def my (n : Nat) : Nat := if n = 253 then 2 else if n = 254 then 4 else if n = 255 then 8 else 0
def nm (most : Int) (s : List Int × Er) : Nat × (List Int × Er) :=
  let a := wh 1 s
  let b := if 0 < my a.1 then wh (my a.1) a.2 else a
  if b.2.2 ≠ .b 0 then (0, b.2) else if ln b.1 ≠ 1 + my a.1 then (0, (b.2.1, xErrShape)) else if most < (b.1 : Int) then (0, (b.2.1, xErrMany)) else b
def h32 (s : List Int × Er) : List Int × (List Int × Er) := (if (nx 32 s).1 = [] then List.replicate 32 0 else (nx 32 s).1, (nx 32 s).2)
def by_ (n : Int) (s : List Int × Er) : List Int × (List Int × Er) := if n ≤ 0 then ([], s) else nx n.toNat s
end Go.Proofs.YtdngkgkkblfcjaaDoor.T
namespace Go.Proofs.YtdngkgkkblfcjaaDoor.T
open Go Go.Proofs Go.Proofs.YtdngkgkkblfcjaaDoor.K
set_option linter.unusedVariables false
set_option linter.unusedSimpArgs false
def pt (n : Nat) : List Int := if n < 253 then lb n 1 else if n < 65536 then 253 :: lb n 2 else if n < 4294967296 then 254 :: lb n 4 else 255 :: lb n 8
theorem pt_len (n : Nat) : (pt n).length = ln n := by
  unfold pt ln
  split
  · simp [lb_len]
  · split
    · simp [lb_len]
    · split <;> simp [lb_len]
theorem ln_le (n : Nat) : 1 ≤ ln n ∧ ln n ≤ 9 := by unfold ln; split <;> (try split) <;> (try split) <;> omega
theorem lb_one (n : Nat) : lb n 1 = [((n % 256 : Nat) : Int)] := by simp [lb, List.range_succ]
end Go.Proofs.YtdngkgkkblfcjaaDoor.T
namespace Go.Proofs.YtdngkgkkblfcjaaDoor.T
open Go Go.Proofs Go.Proofs.YtdngkgkkblfcjaaDoor.K
set_option linter.unusedVariables false
set_option linter.unusedSimpArgs false
abbrev Stp (α : Type) := List Int × Er → α × (List Int × Er)
section
variable {α β : Type}
def ret (x : α) : Stp α := fun s => (x, s)
def bnd (f : Stp α) (g : α → Stp β) : Stp β := fun s => g (f s).1 (f s).2
end
end Go.Proofs.YtdngkgkkblfcjaaDoor.T
namespace Go.Proofs.YtdngkgkkblfcjaaDoor.T
open Go Go.Proofs Go.Proofs.YtdngkgkkblfcjaaDoor.K
set_option linter.unusedVariables false
set_option linter.unusedSimpArgs false
structure InOk (i : In) : Prop where
  tx : i.From.Tx.length = 32
  txb : Bs i.From.Tx
  n : InR .u32 i.From.N
  key : Bs i.Key
  seq : InR .u32 i.Seq
structure OutOk (o : Out) : Prop where
  val : InR .u64 o.Value
  lock : o.Lock.length = 32
  lockb : Bs o.Lock
structure TxOk (t : Tx) : Prop where
  v : InR .u32 t.Version
  ins : ∀ i ∈ t.Ins, InOk i
  outs : ∀ o ∈ t.Outs, OutOk o
  t : InR .u32 t.Time
structure Few (a b : Nat) (t : Tx) : Prop where
  ins : t.Ins.length ≤ a
  outs : t.Outs.length ≤ a
  key : ∀ i ∈ t.Ins, i.Key.length ≤ b
theorem Few.mono {a b c d : Nat} {t : Tx} (h : Few a b t) (h1 : a ≤ c) (h2 : b ≤ d) : Few c d t := ⟨Nat.le_trans h.ins h1, Nat.le_trans h.outs h1, fun i hi => Nat.le_trans (h.key i hi) h2⟩
def ib (i : In) : List Int := i.From.Tx ++ (lb i.From.N.toNat 4 ++ (pt i.Key.length ++ (i.Key ++ lb i.Seq.toNat 4)))
def ob (o : Out) : List Int := lb o.Value.toNat 8 ++ o.Lock
def tb (t : Tx) : List Int := lb t.Version.toNat 4 ++ (pt t.Ins.length ++ ((t.Ins.map ib).flatten ++ (pt t.Outs.length ++ ((t.Outs.map ob).flatten ++ lb t.Time.toNat 4))))
theorem ib_len {i : In} (h : InOk i) : (ib i).length = 40 + ln i.Key.length + i.Key.length := by
  simp only [ib, List.length_append, h.tx, lb_len, pt_len]; omega
theorem ob_len {o : Out} (h : OutOk o) : (ob o).length = 40 := by simp only [ob, List.length_append, h.lock, lb_len]
theorem flat_le {α : Type} (f : α → List Int) (b : Nat) : ∀ (l : List α), (∀ x ∈ l, (f x).length ≤ b) → (l.map f).flatten.length ≤ b * l.length
  | [], _ => by simp
  | x :: l, h => by
    have h1 := flat_le f b l fun y hy => h y (by simp [hy])
    have h2 := h x (by simp)
    simp only [List.map_cons, List.flatten_cons, List.length_append, List.length_cons]
    rw [Nat.mul_add, Nat.mul_one]; omega
theorem ins_le {t : Tx} (h : TxOk t) {a : Nat} (hf : Few a 1000 t) : (t.Ins.map ib).flatten.length ≤ 2000 * t.Ins.length := flat_le ib 2000 t.Ins fun i hi => by
  rw [ib_len (h.ins i hi)]
  have := (ln_le i.Key.length).2
  have := hf.key i hi
  omega
theorem outs_le {t : Tx} (h : TxOk t) : (t.Outs.map ob).flatten.length ≤ 40 * t.Outs.length := flat_le ob 40 t.Outs fun o ho => by rw [ob_len (h.outs o ho)]; omega
theorem tb_le {t : Tx} (h : TxOk t) (hf : Few 100 1000 t) : (tb t).length ≤ 210000 := by
  have h1 := ins_le h hf
  have h2 := outs_le h
  have h3 := (ln_le t.Ins.length).2
  have h4 := (ln_le t.Outs.length).2
  have h5 := hf.ins
  have h6 := hf.outs
  simp only [tb, List.length_append, lb_len, pt_len]
  omega
theorem nat4 {x : Int} (h : InR .u32 x) : x = ((x.toNat : Nat) : Int) ∧ x.toNat < 4294967296 := by obtain ⟨a, b⟩ := h; omega
theorem nat8 {x : Int} (h : InR .u64 x) : x = ((x.toNat : Nat) : Int) ∧ x.toNat < 18446744073709551616 := by obtain ⟨a, b⟩ := h; omega
theorem getD_mem {α : Type} {l : List α} {d : α} {i : Nat} (h : i < l.length) : l.getD i d ∈ l := by rw [gd l d h]; exact List.getElem_mem h
theorem flat_next {α : Type} (f : α → List Int) (l : List α) (d : α) (i : Nat) (h : i < l.length) : ((l.take (i + 1)).map f).flatten = ((l.take i).map f).flatten ++ f (l.getD i d) := by
  rw [← take_next l i d h]; simp
theorem take_few {α : Type} (f : α → List Int) (b : Nat) (l : List α) (h : ∀ x ∈ l, (f x).length ≤ b) (i : Nat) (hi : i ≤ l.length) : ((l.take i).map f).flatten.length ≤ b * l.length := by
  have := flat_le f b (l.take i) fun x hx => h x (List.mem_of_mem_take hx)
  rw [List.length_take, Nat.min_eq_left hi] at this
  exact Nat.le_trans this (Nat.mul_le_mul_left b hi)
end Go.Proofs.YtdngkgkkblfcjaaDoor.T
namespace Go.Proofs.YtdngkgkkblfcjaaDoor.T
open Go Go.Proofs Go.Proofs.YtdngkgkkblfcjaaDoor.K
set_option linter.unusedVariables false
set_option linter.unusedSimpArgs false
def nullP : Point := ⟨List.replicate 32 0, 4294967295⟩
end Go.Proofs.YtdngkgkkblfcjaaDoor.T
namespace Go.Proofs.YtdngkgkkblfcjaaDoor.T
open Go Go.Proofs Go.Proofs.YtdngkgkkblfcjaaDoor.K
set_option linter.unusedVariables false
set_option linter.unusedSimpArgs false
def frs (t : Tx) : List Point := t.Ins.map (·.From)
def vs (t : Tx) : List Int := t.Outs.map (·.Value)
def isBase (t : Tx) : Prop := t.Ins.length = 1 ∧ (t.Ins.getD 0 default).From = nullP
instance (t : Tx) : Decidable (isBase t) := inferInstanceAs (Decidable (_ ∧ _))
noncomputable def bs (t : Tx) : Er := if isBase t then (if (t.Ins.getD 0 default).Key.length < 4 then xErrBase else .b 0) else if ∃ i ∈ t.Ins, i.From = nullP then xErrBase else .b 0
def mn (t : Tx) : Prop := t.Ins.length = 0 ∨ 50 < t.Ins.length ∨ t.Outs.length = 0 ∨ 50 < t.Outs.length
instance (t : Tx) : Decidable (mn t) := inferInstanceAs (Decidable (_ ∨ _))
end Go.Proofs.YtdngkgkkblfcjaaDoor.T
namespace Go.Proofs.YtdngkgkkblfcjaaDoor.T
open Go Go.Proofs Go.Proofs.YtdngkgkkblfcjaaDoor.K
set_option linter.unusedVariables false
set_option linter.unusedSimpArgs false
theorem little_eq' (r : List Int) (a k : Nat) (hk : k ≤ 8) (hl : r.length + k ≤ 140737488355328) : sargassoref1_little.f r (a : Int) (k : Int) = some (r ++ lb a k) := by
  simp only [sargassoref1_little.f]
  have h : loopO (sargassoref1_little.s0 (a : Int) (k : Int)) (r, 0) = some (r ++ lb a k) := by
    refine loop_run (fun j => (r ++ lb a j, (j : Int))) k (by simp [lb]) (fun j hj => ?_) ?_
    · simp only [sargassoref1_little.s0]
      have ew : IntKind.u64.wrap (IntKind.i64.wrap (8 * (j : Int))) = ((8 * j : Nat) : Int) := by rw [w64 (by omega) (by omega), wu64 (by omega) (by omega)]; omega
      have e1 : IntKind.u8.wrap (sR .u64 (a : Int) ((8 * j : Nat) : Int)) = ((a / 2 ^ (8 * j) % 256 : Nat) : Int) := by
        rw [sR_div .u64 (n := 8 * j) (by simp only [IntKind.bits]; omega), u8e]
        generalize a / 2 ^ (8 * j) = q
        omega
      rw [if_pos (by omega), ew, e1, if_pos (by omega), if_pos (by simp [lb_len]; omega), winc j (by omega), List.append_assoc]
      have : lb a j ++ [((a / 2 ^ (8 * j) % 256 : Nat) : Int)] = lb a (j + 1) := by
        unfold lb; rw [range_map_succ]
      rw [this]
    · simp only [sargassoref1_little.s0]
      rw [if_neg (by omega)]
  rw [h, Option.bind_some]
theorem four1_eq (b : List Int) (a : Nat) (ha : a < 4294967296) (hl : b.length + 4 ≤ 140737488355328) : sargassoref1_Four.f b (a : Int) = some (b ++ lb a 4) := by
  have := little_eq' b a 4 (by omega) hl
  simp only [sargassoref1_Four.f]
  rw [wu64 (by omega) (by omega)]
  rw [show ((4 : Nat) : Int) = 4 from rfl] at this
  rw [this, Option.bind_some]
theorem put1_eq (b : List Int) (n : Nat) (hn : n < 18446744073709551616) (hl : b.length ≤ 1000000) : sargassoref1_Put.f b (n : Int) = some (b ++ pt n) := by
  simp only [sargassoref1_Put.f]
  rw [len1_eq, Option.bind_some]
  unfold ln pt
  by_cases h1 : n < 253
  · rw [if_pos h1, if_pos h1, if_pos (by rfl), if_pos (by omega), u8e, lb_one]
    congr 3
  · rw [if_neg h1, if_neg h1]
    by_cases h2 : n < 65536
    · have := little_eq' (b ++ [253]) n 2 (by omega) (by simp; omega)
      rw [show ((2 : Nat) : Int) = 2 from rfl] at this
      rw [if_pos h2, if_pos h2, if_neg (by decide), if_pos (by rfl), if_pos (by omega), this, Option.bind_some, List.append_assoc]; rfl
    · rw [if_neg h2, if_neg h2]
      by_cases h3 : n < 4294967296
      · have := little_eq' (b ++ [254]) n 4 (by omega) (by simp; omega)
        rw [show ((4 : Nat) : Int) = 4 from rfl] at this
        rw [if_pos h3, if_pos h3, if_neg (by decide), if_neg (by decide), if_pos (by rfl), if_pos (by omega), this, Option.bind_some, List.append_assoc]; rfl
      · have := little_eq' (b ++ [255]) n 8 (by omega) (by simp; omega)
        rw [show ((8 : Nat) : Int) = 8 from rfl] at this
        rw [if_neg h3, if_neg h3, if_neg (by decide), if_neg (by decide), if_neg (by decide), if_pos (by omega), this, Option.bind_some, List.append_assoc]; rfl
theorem eight1_eq (b : List Int) (a : Nat) (hl : b.length ≤ 1000000) : sargassoref1_Eight.f b (a : Int) = some (b ++ lb a 8) := by
  have := little_eq' b a 8 (by omega) (by omega)
  simp only [sargassoref1_Eight.f]
  rw [show ((8 : Nat) : Int) = 8 from rfl] at this
  rw [this, Option.bind_some]
end Go.Proofs.YtdngkgkkblfcjaaDoor.T
namespace Go.Proofs.YtdngkgkkblfcjaaDoor.T
open Go Go.Proofs Go.Proofs.YtdngkgkkblfcjaaDoor.K
set_option linter.unusedVariables false
set_option linter.unusedSimpArgs false
theorem tbytes1_eq {t : Tx} (h : TxOk t) (hf : Few 100 1000 t) : sargassoref1_TxBytes.f t = some (tb t) := by
  obtain ⟨v1, v2⟩ := nat4 h.v
  obtain ⟨t1, t2⟩ := nat4 h.t
  have hi := hf.ins
  have ho := hf.outs
  have hil : ∀ i ∈ t.Ins, (ib i).length ≤ 2000 := fun i hi => by
    rw [ib_len (h.ins i hi)]
    have := (ln_le i.Key.length).2
    have := hf.key i hi
    omega
  have hol : ∀ o ∈ t.Outs, (ob o).length ≤ 40 := fun o ho => by rw [ob_len (h.outs o ho)]; omega
  have lp := (ln_le t.Ins.length).2
  have lq := (ln_le t.Outs.length).2
  have L1 : ∀ P : List Int, P.length ≤ 100 → loopO (sargassoref1_TxBytes.s0 t) (P, 0) = some (P ++ (t.Ins.map ib).flatten) := fun P hP => by
    refine loop_run (fun i => (P ++ ((t.Ins.take i).map ib).flatten, (i : Int))) t.Ins.length (by simp) (fun i hi => ?_) ?_
    · have hm := getD_mem (l := t.Ins) (d := default) hi
      have ok := h.ins _ hm
      have hk := hf.key _ hm
      have hb := take_few ib 2000 t.Ins hil i (by omega)
      rw [flat_next ib t.Ins default i hi]
      simp only [sargassoref1_TxBytes.s0, Int.toNat_natCast]
      generalize t.Ins.getD i default = x at *
      obtain ⟨n1, n2⟩ := nat4 ok.n
      obtain ⟨s1, s2⟩ := nat4 ok.seq
      have ltx := ok.tx
      have lk := (ln_le x.Key.length).2
      have hf4 := four1_eq (P ++ ((t.Ins.take i).map ib).flatten ++ x.From.Tx) x.From.N.toNat n2 (by simp only [List.length_append]; omega)
      have hp := put1_eq (P ++ ((t.Ins.take i).map ib).flatten ++ x.From.Tx ++ lb x.From.N.toNat 4) x.Key.length (by omega) (by simp only [List.length_append, lb_len]; omega)
      have hf5 := four1_eq (P ++ ((t.Ins.take i).map ib).flatten ++ x.From.Tx ++ lb x.From.N.toNat 4 ++ pt x.Key.length ++ x.Key) x.Seq.toNat s2 (by simp only [List.length_append, lb_len, pt_len]; omega)
      rw [← n1] at hf4
      rw [← s1] at hf5
      rw [if_pos (by omega), if_pos (by omega), if_pos (by simp only [List.length_append]; omega), hf4, Option.bind_some, wu64 (by omega) (by omega), hp, Option.bind_some, if_pos (by simp only [List.length_append, lb_len, pt_len]; omega), hf5, Option.bind_some, winc i (by omega)]
      simp only [ib, List.append_assoc]
    · simp only [sargassoref1_TxBytes.s0]
      rw [if_neg (by omega), List.take_length]
  have L2 : ∀ P : List Int, P.length ≤ 300000 → loopO (sargassoref1_TxBytes.s1 t) (P, 0) = some (P ++ (t.Outs.map ob).flatten) := fun P hP => by
    refine loop_run (fun i => (P ++ ((t.Outs.take i).map ob).flatten, (i : Int))) t.Outs.length (by simp) (fun i hi => ?_) ?_
    · have hm := getD_mem (l := t.Outs) (d := default) hi
      have ok := h.outs _ hm
      have hb := take_few ob 40 t.Outs hol i (by omega)
      rw [flat_next ob t.Outs default i hi]
      simp only [sargassoref1_TxBytes.s1, Int.toNat_natCast]
      generalize t.Outs.getD i default = x at *
      obtain ⟨n1, n2⟩ := nat8 ok.val
      have ltx := ok.lock
      have h8 := eight1_eq (P ++ ((t.Outs.take i).map ob).flatten) x.Value.toNat (by simp only [List.length_append]; omega)
      rw [← n1] at h8
      rw [show Int.toNat 32 = 32 from rfl, show Int.toNat 0 = 0 from rfl, List.take_of_length_le (l := x.Lock) (by omega), List.drop_zero, if_pos (by omega), if_pos (by omega), h8, Option.bind_some, if_pos (by simp only [List.length_append, lb_len]; omega), winc i (by omega)]
      simp only [ob, List.append_assoc]
    · simp only [sargassoref1_TxBytes.s1]
      rw [if_neg (by omega), List.take_length]
  have hI := flat_le ib 2000 t.Ins hil
  have hO := flat_le ob 40 t.Outs hol
  have f1 := four1_eq [] t.Version.toNat v2 (by simp)
  rw [← v1] at f1
  have p1 := put1_eq (lb t.Version.toNat 4) t.Ins.length (by omega) (by rw [lb_len]; omega)
  have p2 := put1_eq (lb t.Version.toNat 4 ++ pt t.Ins.length ++ (t.Ins.map ib).flatten) t.Outs.length (by omega) (by simp only [List.length_append, lb_len, pt_len]; omega)
  have f2 := four1_eq (lb t.Version.toNat 4 ++ pt t.Ins.length ++ (t.Ins.map ib).flatten ++ pt t.Outs.length ++ (t.Outs.map ob).flatten) t.Time.toNat t2 (by simp only [List.length_append, lb_len, pt_len]; omega)
  rw [← t1] at f2
  simp only [sargassoref1_TxBytes.f]
  rw [f1, Option.bind_some, List.nil_append, wu64 (x := (t.Ins.length : Int)) (by omega) (by omega), p1, Option.bind_some, L1 _ (by simp only [List.length_append, lb_len, pt_len]; omega), Option.bind_some, wu64 (x := (t.Outs.length : Int)) (by omega) (by omega), p2, Option.bind_some, L2 _ (by simp only [List.length_append, lb_len, pt_len]; omega), Option.bind_some, f2, Option.bind_some]
  simp only [tb, List.append_assoc]
theorem nodup_iff (t : Tx) : (∀ i, i < t.Ins.length → ∀ j, j < i → (t.Ins.getD i default).From ≠ (t.Ins.getD j default).From) ↔ (frs t).Nodup := by
  have hl : (frs t).length = t.Ins.length := by simp [frs]
  have hg : ∀ i, i < t.Ins.length → (frs t).getD i default = (t.Ins.getD i default).From := fun i hi => by
    rw [gd _ _ (by rw [hl]; exact hi), gd _ _ hi]
    simp [frs]
  unfold List.Nodup
  rw [List.pairwise_iff_getElem]
  constructor
  · intro h i j hi hj hij e
    have h1 := h j (by omega) i hij
    rw [← hg j (by omega), ← hg i (by omega), gd _ _ hj, gd _ _ hi] at h1
    exact h1 e.symm
  · intro h i hi j hj e
    have h1 := h j i (by omega) (by omega) hj
    rw [← gd _ default (by omega), ← gd _ default (by omega), hg j (by omega), hg i hi] at h1
    exact h1 e.symm
end Go.Proofs.YtdngkgkkblfcjaaDoor.T
namespace Go.Proofs.YtdngkgkkblfcjaaDoor.T
open Go Go.Proofs Go.Proofs.YtdngkgkkblfcjaaDoor.K
set_option linter.unusedVariables false
set_option linter.unusedSimpArgs false
def idt (t : Tx) : List Int := sha (sha (tb t))
theorem idt_len (t : Tx) : (idt t).length = 32 := sha_len _
def T1 (h : Nat) (v : Int) (l e : List Int) : Tx := ⟨1, [⟨nullP, lb h 4 ++ e, 4294967295⟩], [⟨v, l⟩], 0⟩
theorem zB : Bs (List.replicate 32 0) := fun x hx => by
  obtain rfl : x = 0 := List.eq_of_mem_replicate hx
  simp [InR]
theorem T1_ok {h : Nat} {v : Int} {l e : List Int} (hv : InR .u64 v) (hl : l.length = 32) (lb_ : Bs l) (he : Bs e) : TxOk (T1 h v l e) := by
  refine ⟨by simp [T1, InR], fun i hi => ?_, fun o ho => ?_, by simp [T1, InR]⟩
  · obtain rfl := List.mem_singleton.1 hi
    exact ⟨by simp [nullP], zB, by simp [nullP, InR], (bs_lb _ _).app he, by simp [InR]⟩
  · obtain rfl := List.mem_singleton.1 ho
    exact ⟨hv, hl, lb_⟩
theorem T1_few {h : Nat} {v : Int} {l e : List Int} (he : e.length ≤ 90) : Few 60 100 (T1 h v l e) := by
  refine ⟨by simp [T1], by simp [T1], fun i hi => ?_⟩
  obtain rfl := List.mem_singleton.1 hi
  simp only [List.length_append, lb_len]; omega
theorem u32_nat (x : Int) : IntKind.u32.wrap x = (((IntKind.u32.wrap x).toNat : Nat) : Int) ∧ (IntKind.u32.wrap x).toNat < 4294967296 := nat4 (wrap_in _ _)
theorem first1_eq (x0 x1 : Int) (x2 x3 : List Int) (h3 : x3.length ≤ 90) : sargassoref1_First.f x0 x1 x2 x3 = some (T1 (IntKind.u32.wrap x0).toNat x1 x2 x3) := by
  obtain ⟨e, hl⟩ := u32_nat x0
  have h := four1_eq [] _ hl (by simp)
  rw [← e] at h
  simp only [sargassoref1_First.f]
  rw [h, Option.bind_some, if_pos (by simp [lb_len]; omega)]
  simp [sargassoref1_Null.f, T1, nullP]
theorem id1_eq {t : Tx} (h : TxOk t) (hf : Few 60 100 t) : sargassoref1_ID.f t = some (idt t) := by
  have n0 := tb_le h (hf.mono (by omega) (by omega))
  simp only [sargassoref1_ID.f]
  rw [tbytes1_eq h (hf.mono (by omega) (by omega)), Option.bind_some, ref_twice_eq _ (by omega), Option.bind_some]
  rfl
structure TsOk (l : List Tx) : Prop where
  n : l.length ≤ 1000
  ok : ∀ t ∈ l, TxOk t
  few : ∀ t ∈ l, Few 60 100 t
theorem ids1_eq {l : List Tx} (h : TsOk l) : sargassoref1_IDs.f l = some (l.map idt) := by
  have hn := h.n
  simp only [sargassoref1_IDs.f]
  rw [show loopO (sargassoref1_IDs.s0 l) ([], 0) = _ from loop_run (step := sargassoref1_IDs.s0 l) (fun i => ((l.take i).map idt, (i : Int))) l.length (r := l.map idt) rfl (fun i hi => by
    have hm := getD_mem (l := l) (d := default) hi
    simp only [sargassoref1_IDs.s0, Int.toNat_natCast]
    rw [if_pos (by omega), if_pos (by omega), id1_eq (h.ok _ hm) (h.few _ hm), Option.bind_some, if_pos (by simp; omega), winc i (by omega), ← take_next l i default hi]
    simp) (by simp only [sargassoref1_IDs.s0]; rw [if_neg (by omega), List.take_length])]
  rfl
theorem ids_hs (l : List Tx) : Hs (l.map idt) := fun x hx => by
  obtain ⟨t, _, rfl⟩ := List.mem_map.1 hx
  exact idt_len t
def rt (l : List Tx) : List Int := rootL (l.map idt)
theorem rt_len (l : List Tx) : (rt l).length = 32 := rootL_len _ (ids_hs l)
def T0 : Tx := T1 0 0 (sha []) []
def H0 : HN := ⟨1, List.replicate 32 0, rt [T0], 1000, 1, 0⟩
theorem sha_bs (m : List Int) : Bs (sha m) := (sha_arr m).2
theorem T0_ok : TxOk T0 := T1_ok (by simp [InR]) (sha_len _) (sha_bs _) bs_nil
theorem T0_few : Few 60 100 T0 := T1_few (by simp)
theorem Ts0 : TsOk [T0] := ⟨by simp, fun t ht => by obtain rfl := List.mem_singleton.1 ht; exact T0_ok, fun t ht => by obtain rfl := List.mem_singleton.1 ht; exact T0_few⟩
theorem H0_ok : H0.Ok := ⟨by decide, by simp [H0], show (rt [T0]).length = 32 from rt_len _, by decide, by decide, by decide⟩
theorem start1_eq : sargassoref1_Start.f = some ⟨H0.h, [T0]⟩ := by
  simp only [sargassoref1_Start.f, sargassoref1_Rooted.f]
  rw [ref_sha_eq _ (by simp), Option.bind_some, first1_eq _ _ _ _ (by simp), Option.bind_some, show T1 (IntKind.u32.wrap 0).toNat 0 (sha []) [] = T0 from rfl, ids1_eq Ts0, Option.bind_some, root1_eq _ (ids_hs _) (by simp), Option.bind_some, Option.bind_some]
  rfl
end Go.Proofs.YtdngkgkkblfcjaaDoor.T
namespace Go.Proofs.YtdngkgkkblfcjaaDoor.T
open Go Go.Proofs Go.Proofs.YtdngkgkkblfcjaaDoor.K
set_option linter.unusedVariables false
def hid (h : HN) : List Int := sha (sha (hb h))
theorem hid_len (h : HN) : (hid h).length = 32 := sha_len _
theorem hidp_eq {h : HN} (o : h.Ok) : head_ID.f h.h = some (hid h) := hid_eq o
theorem hidr_eq {h : HN} (o : h.Ok) : sargassoref1_HeadID.f h.h = some (hid h) := by
  have hh : sargassoref1_HeadBytes.f h.h = some (hb h) := by
    simp only [sargassoref1_HeadBytes.f]
    have hv := o.v
    have ht := o.t
    have hw := o.w
    have hn := o.n
    rw [show h.h.Version = (h.v : Int) from rfl, show h.h.Prev = h.p from rfl, show h.h.Root = h.r from rfl, show h.h.Time = (h.t : Int) from rfl, show h.h.Work = (h.w : Int) from rfl, show h.h.Nonce = (h.n : Int) from rfl]
    rw [four1_eq [] h.v hv (by simp), Option.bind_some, if_pos (by simp [lb_len, o.p]), if_pos (by simp [lb_len, o.p, o.r]), four1_eq _ h.t ht (by simp [lb_len, o.p, o.r]), Option.bind_some, four1_eq _ h.w hw (by simp [lb_len, o.p, o.r]), Option.bind_some, four1_eq _ h.n hn (by simp [lb_len, o.p, o.r]), Option.bind_some]
    simp [hb]
  simp only [sargassoref1_HeadID.f]
  rw [hh, Option.bind_some, ref_twice_eq _ (by rw [hb_len o]; omega), Option.bind_some]
  rfl
end Go.Proofs.YtdngkgkkblfcjaaDoor.T
namespace Go.Proofs.YtdngkgkkblfcjaaDoor.T
open Go Go.Proofs Go.Proofs.YtdngkgkkblfcjaaDoor.K
set_option linter.unusedVariables false
abbrev TM := List (List Int × treeNode)
def Tin (m : TM) : Prop := ∀ k nd, mget m k = some nd → 0 ≤ nd.height ∧ (0 < nd.height → ∃ p, mget m nd.head.Prev = some p ∧ nd.height = p.height + 1)
def Tone (m : TM) (st : List Int) : Prop := ∀ k nd, mget m k = some nd → nd.height = 0 → k = st
theorem lkn_some {m : TM} {k : List Int} {nd : treeNode} (h : mget m k = some nd) : lkn m k = some k := by simp [lkn, h]
theorem thead_eq {t : treeTree} {a : List Int} {x : treeNode} (hx : mget t.m a = some x) : tree_Tree_Head.f t a = some (x.head, true) := by
  simp only [tree_Tree_Head.f]
  rw [if_pos (by rw [hx]; rfl), lkn_some hx]
  simp [nget, hx]
theorem mput_len_new {m : TM} {k : List Int} {n : treeNode} (h : mget m k = none) : (mput m k n).length = m.length + 1 := by
  rw [mput_none (mget_ne h)]; simp
theorem mput_len_old {m : TM} {k : List Int} {n n' : treeNode} (h : mget m k = some n) : (mput m k n').length = m.length := by
  have := congrArg List.length (mput_map1 (n' := n') h)
  simpa using this
structure TOk (t : treeTree) (N : Nat) : Prop where
  tin : Tin t.m
  one : Tone t.m t.start
  len : t.m.length ≤ N
  bnd : ∀ k nd, mget t.m k = some nd → nd.height < N ∧ nd.up.length ≤ N
  k32 : ∀ k nd, mget t.m k = some nd → k.length = 32
def tgrow (t : treeTree) (c : Head) (id : List Int) (p : treeNode) : treeTree := ⟨mput (mput t.m id ⟨c, p.height + 1, IntKind.u64.wrap (p.work + IntKind.u64.wrap c.Work), []⟩) c.Prev ⟨p.head, p.height, p.work, p.up ++ [id]⟩, t.start⟩
theorem tgrow_get {t : treeTree} {c : Head} {id : List Int} {p : treeNode} (hid : mget t.m id = none) (hp : mget t.m c.Prev = some p) (x : List Int) :
    mget (tgrow t c id p).m x = if x = c.Prev then some ⟨p.head, p.height, p.work, p.up ++ [id]⟩ else if x = id then some ⟨c, p.height + 1, IntKind.u64.wrap (p.work + IntKind.u64.wrap c.Work), []⟩ else mget t.m x := by
  unfold tgrow
  by_cases h1 : x = c.Prev
  · rw [if_pos h1, h1, mget_mput_self]
  · rw [if_neg h1, mget_mput_ne h1]
    by_cases h2 : x = id
    · rw [if_pos h2, h2, mget_mput_self]
    · rw [if_neg h2, mget_mput_ne h2]
theorem tgrow_ok {t : treeTree} {c : Head} {id : List Int} {p : treeNode} {N : Nat} (hN : N < 4000) (h : TOk t N) (h32 : id.length = 32) (hid : mget t.m id = none) (hp : mget t.m c.Prev = some p) : TOk (tgrow t c id p) (N + 1) := by
  have hg := tgrow_get hid hp
  have hne : id ≠ c.Prev := fun e => by rw [e, hp] at hid; cases hid
  have hold : ∀ x nd, mget t.m x = some nd → ∃ nd', mget (tgrow t c id p).m x = some nd' ∧ nd'.height = nd.height ∧ nd'.head = nd.head := fun x nd hx => by
    rw [hg]
    by_cases h1 : x = c.Prev
    · rw [if_pos h1]; rw [h1, hp] at hx; cases hx; exact ⟨_, rfl, rfl, rfl⟩
    · have h2 : x ≠ id := fun e => by rw [e, hid] at hx; cases hx
      rw [if_neg h1, if_neg h2]; exact ⟨nd, hx, rfl, rfl⟩
  have hinv : ∀ x nd', mget (tgrow t c id p).m x = some nd' → (x = id ∧ nd' = ⟨c, p.height + 1, IntKind.u64.wrap (p.work + IntKind.u64.wrap c.Work), []⟩) ∨ ∃ nd, mget t.m x = some nd ∧ nd'.height = nd.height ∧ nd'.head = nd.head ∧ nd'.up.length ≤ nd.up.length + 1 := fun x nd' hx => by
    rw [hg] at hx
    by_cases h1 : x = c.Prev
    · rw [if_pos h1] at hx; cases hx; subst h1; exact .inr ⟨p, hp, rfl, rfl, by simp⟩
    · rw [if_neg h1] at hx
      by_cases h2 : x = id
      · rw [if_pos h2] at hx; cases hx; exact .inl ⟨h2, rfl⟩
      · rw [if_neg h2] at hx; exact .inr ⟨nd', hx, rfl, rfl, by omega⟩
  have hp0 := (h.tin _ p hp).1
  refine ⟨fun x nd' hx => ?_, fun x nd' hx h0 => ?_, ?_, fun x nd' hx => ?_, fun x nd' hx => ?_⟩
  · rcases hinv x nd' hx with ⟨rfl, rfl⟩ | ⟨nd, h1, h2, h3, h4⟩
    · refine ⟨by simp only; omega, fun _ => ?_⟩
      obtain ⟨p', e1, e2, e3⟩ := hold _ p hp
      exact ⟨p', e1, by simp only; omega⟩
    · obtain ⟨a, b⟩ := h.tin x nd h1
      refine ⟨by omega, fun hpos => ?_⟩
      obtain ⟨q, e1, e2⟩ := b (by omega)
      obtain ⟨q', f1, f2, f3⟩ := hold _ q e1
      exact ⟨q', by rw [h3]; exact f1, by omega⟩
  · rcases hinv x nd' hx with ⟨rfl, rfl⟩ | ⟨nd, h1, h2, h3, h4⟩
    · simp only at h0; omega
    · exact h.one x nd h1 (by omega)
  · have e1 : (tgrow t c id p).m.length = t.m.length + 1 := by
      unfold tgrow
      rw [mput_len_old (n := p) (by rw [mget_mput_ne hne.symm]; exact hp), mput_len_new hid]
    have := h.len
    omega
  · rcases hinv x nd' hx with ⟨rfl, rfl⟩ | ⟨nd, h1, h2, h3, h4⟩
    · have := (h.bnd _ p hp).1
      exact ⟨by simp only; push_cast; omega, by simp⟩
    · have := h.bnd x nd h1
      exact ⟨by push_cast; omega, by omega⟩
  · rcases hinv x nd' hx with ⟨rfl, rfl⟩ | ⟨nd, h1, h2, h3, h4⟩
    · exact h32
    · exact h.k32 x nd h1
theorem add_known {t : treeTree} {h : HN} (o : h.Ok) (hk : (mget t.m (hid h)).isSome = true) : tree_Tree_Add.f t h.h = some (xErrKnown, t) := by
  simp only [tree_Tree_Add.f]
  rw [hidp_eq o, Option.bind_some, if_pos hk]
theorem add_new {t : treeTree} {h : HN} {p : treeNode} {N : Nat} (hN : N < 4000) (ht : TOk t N) (o : h.Ok) (hk : mget t.m (hid h) = none) (hp : mget t.m h.p = some p) : tree_Tree_Add.f t h.h = some (Er.b 0, tgrow t h.h (hid h) p) := by
  have hl := ht.len
  have hb := ht.bnd _ p hp
  have h0 := (ht.tin _ p hp).1
  have hp' : mget t.m h.h.Prev = some p := hp
  simp only [tree_Tree_Add.f]
  rw [hidp_eq o, Option.bind_some, if_neg (by rw [hk]; simp), if_pos (by rw [hp']; rfl), if_neg (by omega), lkn_some hp']
  simp only [nget, Option.bind_some, hp']
  rw [if_pos (by rw [hk]; rfl), if_pos (by omega), w64 (by omega) (by omega)]
  rfl
end Go.Proofs.YtdngkgkkblfcjaaDoor.T
namespace Go.Proofs.YtdngkgkkblfcjaaDoor.T
open Go Go.Proofs Go.Proofs.YtdngkgkkblfcjaaDoor.K
set_option linter.unusedVariables false
def tnew (h : HN) : treeTree := ⟨[(hid h, ⟨h.h, 0, IntKind.u64.wrap h.h.Work, []⟩)], hid h⟩
theorem tnew_eq {h : HN} (o : h.Ok) : tree_New.f h.h = some (tnew h) := by
  simp only [tree_New.f]
  rw [hidp_eq o, Option.bind_some, if_pos (by simp [mget])]
  rfl
theorem tnew_get {h : HN} {k : List Int} {nd : treeNode} (hk : mget (tnew h).m k = some nd) : k = hid h ∧ nd = ⟨h.h, 0, IntKind.u64.wrap h.h.Work, []⟩ := by
  simp only [tnew, mget] at hk
  split at hk
  · rename_i e
    cases hk
    exact ⟨e.symm, rfl⟩
  · cases hk
theorem tnew_ok (h : HN) : TOk (tnew h) 1 := by
  refine ⟨fun k nd hk => ?_, fun k nd hk _ => (tnew_get hk).1, by simp [tnew], fun k nd hk => ?_, fun k nd hk => by rw [(tnew_get hk).1]; exact hid_len h⟩
  · obtain ⟨_, rfl⟩ := tnew_get hk
    exact ⟨by simp, fun h => absurd h (by simp)⟩
  · obtain ⟨_, rfl⟩ := tnew_get hk
    exact ⟨by simp, by simp⟩
theorem TOk.mono {t : treeTree} {N M : Nat} (h : TOk t N) (hl : N ≤ M) : TOk t M := ⟨h.tin, h.one, by have := h.len; omega, fun k nd hk => by have := h.bnd k nd hk; exact ⟨by omega, by omega⟩, h.k32⟩
theorem mk_head (a t w : Int) (p : List Int) (hp : p.length = 32) : ∃ h : HN, h.Ok ∧ h.p = p ∧ h.h = ⟨IntKind.u32.wrap a, p, List.replicate 32 0, IntKind.u32.wrap t, IntKind.u32.wrap w, 0⟩ := by
  obtain ⟨a1, a2⟩ := u32_nat a
  obtain ⟨t1, t2⟩ := u32_nat t
  obtain ⟨w1, w2⟩ := u32_nat w
  refine ⟨⟨(IntKind.u32.wrap a).toNat, p, List.replicate 32 0, (IntKind.u32.wrap t).toNat, (IntKind.u32.wrap w).toNat, 0⟩, ⟨a2, hp, by simp, t2, w2, by simp⟩, rfl, ?_⟩
  simp only [HN.h]
  rw [← a1, ← t1, ← w1]
  rfl
end Go.Proofs.YtdngkgkkblfcjaaDoor.T
namespace Go.Proofs.YtdngkgkkblfcjaaDoor.T
open Go Go.Proofs Go.Proofs.YtdngkgkkblfcjaaDoor.K
set_option linter.unusedVariables false
structure N8 where
  id : List Int
  h : Head
  parent : Int
  height : Int
  work : Int
  bad : Bool
deriving Inhabited
def gn (l : List N8) (i : Nat) : N8 := l.getD i default
def kidx (l : List N8) (i : Nat) : List Nat := (List.range l.length).filter fun j => decide ((gn l j).parent = (i : Int))
def kids (l : List N8) (i : Nat) : List (List Int) := (kidx l i).map fun j => (gn l j).id
def ndo (l : List N8) (i : Nat) : treeNode := ⟨(gn l i).h, (gn l i).height, (gn l i).work, kids l i⟩
structure TR (t : treeTree) (l : List N8) : Prop where
  pos : 0 < l.length
  small : l.length ≤ 1000
  inj : ∀ i j, i < l.length → j < l.length → (gn l i).id = (gn l j).id → i = j
  st : (gn l 0).id = t.start
  root : (gn l 0).parent = -1 ∧ (gn l 0).height = 0
  par : ∀ i, 0 < i → i < l.length → ∃ p, p < i ∧ (gn l i).parent = (p : Int) ∧ (gn l i).h.Prev = (gn l p).id ∧ (gn l i).height = (gn l p).height + 1
  hok : ∀ i, i < l.length → ∃ h : HN, h.Ok ∧ (gn l i).h = h.h ∧ (gn l i).id = hid h
  known : ∀ i, i < l.length → mget t.m (gn l i).id = some (ndo l i)
  unk : ∀ k, (∀ i, i < l.length → (gn l i).id ≠ k) → mget t.m k = none
  len : t.m.length = l.length
  ok : TOk t l.length
theorem gn_old {l : List N8} {x : N8} {i : Nat} (h : i < l.length) : gn (l ++ [x]) i = gn l i := by simp [gn, List.getD, List.getElem?_append_left h]
theorem gn_new {l : List N8} {x : N8} : gn (l ++ [x]) l.length = x := by simp [gn, List.getD]
theorem TR.id32 {t : treeTree} {l : List N8} (h : TR t l) {i : Nat} (hi : i < l.length) : (gn l i).id.length = 32 := by
  obtain ⟨y, _, _, e⟩ := h.hok i hi
  rw [e]; exact hid_len y
theorem kidx_mem {l : List N8} {i j : Nat} : j ∈ kidx l i ↔ j < l.length ∧ (gn l j).parent = (i : Int) := by simp [kidx]
theorem kidx_snoc (l : List N8) (x : N8) (i : Nat) : kidx (l ++ [x]) i = kidx l i ++ (if x.parent = (i : Int) then [l.length] else []) := by
  unfold kidx
  rw [List.length_append, List.length_singleton, List.range_succ, List.filter_append]
  congr 1
  · apply List.filter_congr
    intro j hj
    rw [gn_old (List.mem_range.1 hj)]
  · rw [List.filter_cons, gn_new]
    by_cases h : x.parent = (i : Int)
    · simp [h]
    · simp [h]
theorem kids_snoc {l : List N8} (x : N8) (i : Nat) : kids (l ++ [x]) i = kids l i ++ (if x.parent = (i : Int) then [x.id] else []) := by
  unfold kids
  rw [kidx_snoc, List.map_append]
  congr 1
  · apply List.map_congr_left
    intro j hj
    rw [gn_old (kidx_mem.1 hj).1]
  · split
    · simp [gn_new]
    · rfl
theorem TR.key {t : treeTree} {l : List N8} (h : TR t l) (k : List Int) : (∃ i, i < l.length ∧ (gn l i).id = k) ∨ (∀ i, i < l.length → (gn l i).id ≠ k) := by
  by_cases c : ∃ i, i < l.length ∧ (gn l i).id = k
  · exact .inl c
  · exact .inr fun i hi e => c ⟨i, hi, e⟩
def n8new (h : HN) : List N8 := [⟨hid h, h.h, -1, 0, IntKind.u64.wrap h.h.Work, false⟩]
theorem tr_new {h : HN} (o : h.Ok) : TR (tnew h) (n8new h) := by
  have e0 : gn (n8new h) 0 = ⟨hid h, h.h, -1, 0, IntKind.u64.wrap h.h.Work, false⟩ := rfl
  have hl : (n8new h).length = 1 := rfl
  have hz : ∀ i, i < (n8new h).length → i = 0 := fun i hi => by rw [hl] at hi; omega
  refine ⟨by rw [hl]; omega, by rw [hl]; omega, fun i j hi hj _ => by rw [hz i hi, hz j hj], by rw [e0]; rfl, by rw [e0]; exact ⟨rfl, rfl⟩, fun i h0 hi => by have := hz i hi; omega, fun i hi => ?_, fun i hi => ?_, fun k hk => ?_, rfl, tnew_ok h⟩
  · rw [hz i hi, e0]; exact ⟨h, o, rfl, rfl⟩
  · rw [hz i hi]
    have hkid : kids (n8new h) 0 = [] := by
      have : kidx (n8new h) 0 = [] := by
        rw [List.eq_nil_iff_forall_not_mem]
        intro j hj
        obtain ⟨h1, h2⟩ := kidx_mem.1 hj
        rw [hz j h1, e0] at h2
        simp at h2
      simp [kids, this]
    unfold ndo
    rw [hkid, e0]
    simp [tnew, mget]
  · have := hk 0 (by rw [hl]; omega)
    rw [e0] at this
    simp only [tnew, mget]
    rw [if_neg this]
theorem addr_new {t : treeTree} {l : List N8} (h : TR t l) (hs : l.length < 1000) {c : HN} (o : c.Ok) (hn : ∀ i, i < l.length → (gn l i).id ≠ hid c) {p : Nat} (hpl : p < l.length) (hp : (gn l p).id = c.p) :
    ∃ t' l', tree_Tree_Add.f t c.h = some (Er.b 0, t') ∧ TR t' l' ∧ l'.length = l.length + 1 ∧ t'.start = t.start ∧ (∀ i, i < l.length → gn l' i = gn l i) ∧ (gn l' l.length).id = hid c := by
  have hx : mget t.m (hid c) = none := h.unk _ hn
  have hpp : mget t.m c.h.Prev = some (ndo l p) := by show mget t.m c.p = _; rw [← hp]; exact h.known p hpl
  have hb := h.ok.bnd _ _ hpp
  have h0 := (h.ok.tin _ _ hpp).1
  have hb1 : (gn l p).height < l.length := hb.1
  have h01 : 0 ≤ (gn l p).height := h0
  let x : N8 := ⟨hid c, c.h, (p : Int), (gn l p).height + 1, IntKind.u64.wrap ((gn l p).work + IntKind.u64.wrap c.h.Work), (gn l p).bad⟩
  refine ⟨tgrow t c.h (hid c) (ndo l p), l ++ [x], add_new (by omega) h.ok o hx hpp, ?_, by simp, rfl, fun i hi => gn_old hi, by rw [gn_new]⟩
  · have hg := tgrow_get hx hpp
    have hlen : (l ++ [x]).length = l.length + 1 := by simp
    have hcase : ∀ i, i < (l ++ [x]).length → (i < l.length ∧ gn (l ++ [x]) i = gn l i) ∨ (i = l.length ∧ gn (l ++ [x]) i = x) := fun i hi => by
      rw [hlen] at hi
      rcases Nat.lt_or_ge i l.length with h1 | h1
      · exact .inl ⟨h1, gn_old h1⟩
      · have : i = l.length := by omega
        exact .inr ⟨this, by rw [this, gn_new]⟩
    have hxid : x.id = hid c := rfl
    refine ⟨by rw [hlen]; omega, by rw [hlen]; omega, fun i j hi hj e => ?_, by rw [gn_old h.pos]; exact h.st, by rw [gn_old h.pos]; exact h.root, fun i hi0 hi => ?_, fun i hi => ?_, fun i hi => ?_, fun k hk => ?_, ?_, ?_⟩
    · rcases hcase i hi with ⟨a1, a2⟩ | ⟨a1, a2⟩ <;> rcases hcase j hj with ⟨b1, b2⟩ | ⟨b1, b2⟩
      · rw [a2, b2] at e; exact h.inj i j a1 b1 e
      · rw [a2, b2, hxid] at e; exact absurd e (hn i a1)
      · rw [a2, b2, hxid] at e; exact absurd e.symm (hn j b1)
      · omega
    · rcases hcase i hi with ⟨a1, a2⟩ | ⟨a1, a2⟩
      · obtain ⟨q, q1, q2, q3, q4⟩ := h.par i hi0 a1
        rw [a2]
        exact ⟨q, q1, q2, by rw [gn_old (show q < l.length by omega)]; exact q3, by rw [gn_old (show q < l.length by omega)]; exact q4⟩
      · rw [a2]
        exact ⟨p, by omega, rfl, by rw [gn_old hpl]; exact hp.symm, by rw [gn_old hpl]⟩
    · rcases hcase i hi with ⟨a1, a2⟩ | ⟨a1, a2⟩
      · rw [a2]; exact h.hok i a1
      · rw [a2]; exact ⟨c, o, rfl, rfl⟩
    · rcases hcase i hi with ⟨a1, a2⟩ | ⟨a1, a2⟩
      · rw [a2, hg]
        unfold ndo
        rw [a2, kids_snoc]
        by_cases c1 : i = p
        · subst c1
          rw [if_pos (show (gn l i).id = c.h.Prev from hp), if_pos rfl]
          first | done | rfl
        · have c2 : (gn l i).id ≠ c.h.Prev := fun e => c1 (h.inj i p a1 hpl (e.trans hp.symm))
          rw [if_neg c2, if_neg (hn i a1), h.known i a1, if_neg (show ¬ x.parent = (i : Int) from fun e => c1 (by have : (p : Int) = (i : Int) := e; omega))]
          simp [ndo]
      · have e2 : kids l l.length = [] := by
          have : kidx l l.length = [] := by
            rw [List.eq_nil_iff_forall_not_mem]
            intro j hj
            obtain ⟨h1, h2⟩ := kidx_mem.1 hj
            rcases Nat.eq_zero_or_pos j with e | e
            · rw [e, h.root.1] at h2; omega
            · obtain ⟨q, q1, q2, _⟩ := h.par j e h1; rw [q2] at h2; omega
          simp [kids, this]
        rw [a2, hxid, hg, if_neg (fun e : hid c = c.h.Prev => hn p hpl (hp.trans e.symm)), if_pos rfl]
        unfold ndo
        rw [a2, kids_snoc, a1, e2, if_neg (show ¬ x.parent = ((l.length : Nat) : Int) from fun e => by have : (p : Int) = (l.length : Int) := e; omega)]
        rfl
    · rw [hg, if_neg (fun e => hk p (by omega) (by rw [gn_old hpl, e]; exact hp)), if_neg (fun e => hk l.length (by omega) (by rw [gn_new, e])), h.unk k (fun i hi => by rw [← gn_old (x := x) hi]; exact hk i (by omega))]
    · unfold tgrow
      rw [mput_len_old (n := ndo l p) (by rw [mget_mput_ne (show c.h.Prev ≠ hid c from fun e => hn p hpl (hp.trans e))]; exact hpp), mput_len_new hx, hlen, h.len]
    · rw [hlen]; exact tgrow_ok (by omega) h.ok (hid_len c) hx hpp
variable {t : treeTree} {l : List N8}
theorem getD_app {α : Type} (T D : List α) (d : α) (i : Nat) (h : i < T.length) : (T ++ D).getD i d = T.getD i d := by simp [List.getD, List.getElem?_append_left h]
def ids (l : List N8) (js : List Nat) : List (List Int) := js.map fun j => (gn l j).id
structure BI (l : List N8) (r : Nat) (js : List Nat) (i : Nat) : Prop where
  ile : i ≤ js.length
  nd : js.Nodup
  lt : ∀ j ∈ js, j < l.length ∧ r ≤ j
  root : r ∈ js
  clos : ∀ m, m < i → ∀ j ∈ kidx l (js.getD m 0), j ∈ js
  par : ∀ j ∈ js, j = r ∨ ∃ m, m < i ∧ (gn l j).parent = (js.getD m 0 : Nat)
theorem TR.parlt (h : TR t l) {j p : Nat} (hj : j < l.length) (hp : (gn l j).parent = (p : Int)) : p < j := by
  rcases Nat.eq_zero_or_pos j with z | z
  · subst z; rw [h.root.1] at hp; omega
  · obtain ⟨q, q1, q2, _⟩ := h.par j z hj
    rw [q2] at hp; omega
theorem kidx_nodup (l : List N8) (i : Nat) : (kidx l i).Nodup := List.Nodup.sublist List.filter_sublist List.nodup_range
theorem BI.len {r i : Nat} {js : List Nat} (h : BI l r js i) : js.length ≤ l.length := by
  have := h.nd.length_le_of_subset (l₂ := List.range l.length) fun j hj => List.mem_range.2 (h.lt j hj).1
  simpa using this
theorem BI.step (ht : TR t l) {r i : Nat} {js : List Nat} (h : BI l r js i) (hi : i < js.length) : BI l r (js ++ kidx l (js.getD i 0)) (i + 1) := by
  have hm : js.getD i 0 ∈ js := getD_mem hi
  have hpar : ∀ j ∈ kidx l (js.getD i 0), js.getD i 0 < j := fun j hj => ht.parlt (kidx_mem.1 hj).1 (kidx_mem.1 hj).2
  refine ⟨by simp; omega, ?_, fun j hj => ?_, List.mem_append_left _ h.root, fun m hmi j hj => ?_, fun j hj => ?_⟩
  · rw [List.nodup_append]
    refine ⟨h.nd, kidx_nodup _ _, fun a ha b hb e => ?_⟩
    subst e
    have hb2 := (kidx_mem.1 hb).2
    rcases h.par a ha with rfl | ⟨m, hmi, hp⟩
    · have := hpar a hb
      have := (h.lt _ hm).2
      omega
    · rw [hp] at hb2
      have hml : m < js.length := by omega
      have e1 : js.getD m 0 = js.getD i 0 := by omega
      rw [show js.getD m 0 = js[m] by simp [List.getD, hml], show js.getD i 0 = js[i] by simp [List.getD, hi]] at e1
      have := (List.getElem_inj h.nd).1 e1
      omega
  · rcases List.mem_append.1 hj with hj | hj
    · exact h.lt j hj
    · have := hpar j hj
      have := (h.lt _ hm).2
      exact ⟨(kidx_mem.1 hj).1, by omega⟩
  · rw [getD_app js _ 0 m (by omega)] at hj
    rcases Nat.lt_or_ge m i with c | c
    · exact List.mem_append_left _ (h.clos m c j hj)
    · have : m = i := by omega
      subst this
      exact List.mem_append_right _ hj
  · rcases List.mem_append.1 hj with hj | hj
    · rcases h.par j hj with e | ⟨m, h1, h2⟩
      · exact .inl e
      · exact .inr ⟨m, by omega, by rw [getD_app js _ 0 m (by omega)]; exact h2⟩
    · exact .inr ⟨i, by omega, by rw [getD_app js _ 0 i hi]; exact (kidx_mem.1 hj).2⟩
theorem bfs (ht : TR t l) {r : Nat} : ∀ (n i : Nat) (js : List Nat), BI l r js i → l.length - i ≤ n → ∃ js', BI l r js' js'.length ∧ loopO (tree_Tree_Under.s0 t) (ids l js, (i : Int)) = some (ids l js') := by
  intro n
  induction n with
  | zero =>
    intro i js h hn
    have h1 := h.ile
    have h2 := h.len
    have e : i = js.length := by omega
    refine ⟨js, e ▸ h, loopO_inr ?_⟩
    simp only [tree_Tree_Under.s0]
    rw [if_neg (by simp [ids]; omega)]
  | succ n ih =>
    intro i js h hn
    by_cases c : i < js.length
    · have hlen := h.len
      have hs := ht.small
      have hm : js.getD i 0 ∈ js := getD_mem c
      have hk := ht.known _ (h.lt _ hm).1
      have e1 : (ids l js).getD i [] = (gn l (js.getD i 0)).id := by simp [ids, List.getD, c]
      have e2 : (kidx l (js.getD i 0)).length ≤ l.length := by
        have := (kidx_nodup l (js.getD i 0)).length_le_of_subset (l₂ := List.range l.length) fun j hj => List.mem_range.2 (kidx_mem.1 hj).1
        simpa using this
      obtain ⟨js', h1, h2⟩ := ih (i + 1) _ (h.step ht c) (by omega)
      refine ⟨js', h1, ?_⟩
      rw [loopO_inl (s' := (ids l (js ++ kidx l (js.getD i 0)), ((i + 1 : Nat) : Int))) (by
        simp only [tree_Tree_Under.s0, Int.toNat_natCast]
        rw [if_pos (by simp [ids]; omega), if_pos (by simp [ids]; omega), e1, lkn_some hk]
        simp only [nget, Option.bind_some, hk]
        rw [if_pos (by simp only [ids, ndo, kids, List.length_map]; omega), winc i (by omega)]
        simp [ids, ndo, kids])]
      exact h2
    · have h1 := h.ile
      have e : i = js.length := by omega
      refine ⟨js, e ▸ h, loopO_inr ?_⟩
      simp only [tree_Tree_Under.s0]
      rw [if_neg (by simp [ids]; omega)]
end Go.Proofs.YtdngkgkkblfcjaaDoor.T
namespace Go.Proofs.YtdngkgkkblfcjaaDoor.T
open Go Go.Proofs Go.Proofs.YtdngkgkkblfcjaaDoor.K
set_option linter.unusedVariables false
variable {t : treeTree} {l : List N8}
inductive Dsc (l : List N8) (r : Nat) : Nat → Prop
  | self : Dsc l r r
  | step {j p : Nat} (hj : j < l.length) (hp : (gn l j).parent = (p : Int)) (h : Dsc l r p) : Dsc l r j
theorem bi_dsc (ht : TR t l) {r : Nat} {js : List Nat} (h : BI l r js js.length) : ∀ (n j : Nat), j ≤ n → j ∈ js → Dsc l r j := by
  intro n
  induction n with
  | zero =>
    intro j hj hm
    rcases h.par j hm with e | ⟨m, h1, h2⟩
    · rw [e]; exact .self
    · have := ht.parlt (h.lt j hm).1 h2; omega
  | succ n ih =>
    intro j hj hm
    rcases h.par j hm with e | ⟨m, h1, h2⟩
    · rw [e]; exact .self
    · have := ht.parlt (h.lt j hm).1 h2
      exact .step (h.lt j hm).1 h2 (ih _ (by omega) (getD_mem h1))
theorem dsc_bi {r : Nat} {js : List Nat} (h : BI l r js js.length) {j : Nat} (hd : Dsc l r j) : j ∈ js := by
  induction hd with
  | self => exact h.root
  | @step j p hj hp _ ih =>
    obtain ⟨m, hm⟩ := List.getElem?_of_mem ih
    have hml := (List.getElem?_eq_some_iff.1 hm).1
    have e : js.getD m 0 = p := by simp [List.getD, hm]
    exact h.clos m hml j (kidx_mem.2 ⟨hj, by rw [e]; exact hp⟩)
theorem dsc_root (ht : TR t l) : ∀ (n j : Nat), j ≤ n → j < l.length → Dsc l 0 j := by
  intro n
  induction n with
  | zero => intro j hj _; have : j = 0 := by omega
            rw [this]; exact .self
  | succ n ih =>
    intro j hj hl
    rcases Nat.eq_zero_or_pos j with z | z
    · rw [z]; exact .self
    · obtain ⟨p, p1, p2, _⟩ := ht.par j z hl
      exact .step hl p2 (ih p (by omega) (by omega))
theorem hs_mem {xs : List (List Int)} {y : List Int} : y ∈ hsort xs ↔ y ∈ xs := (List.mergeSort_perm xs hle).mem_iff
theorem hs_len (xs : List (List Int)) : (hsort xs).length = xs.length := List.length_mergeSort _
theorem ids_mem {js : List Nat} {y : List Int} : y ∈ ids l js ↔ ∃ j ∈ js, (gn l j).id = y := by simp [ids]
theorem under_eq (ht : TR t l) {i : Nat} (hi : i < l.length) : ∃ js, BI l i js js.length ∧ tree_Tree_Under.f t (gn l i).id = some (hsort (ids l js)) := by
  have hs := ht.small
  have h0 : BI l i [i] 0 := ⟨by omega, by simp, fun j hj => by rw [List.mem_singleton.1 hj]; exact ⟨hi, Nat.le_refl _⟩, by simp, fun m hm => by omega, fun j hj => .inl (List.mem_singleton.1 hj)⟩
  obtain ⟨js, h1, h2⟩ := bfs ht l.length 0 [i] h0 (by omega)
  have hjl := h1.len
  refine ⟨js, h1, ?_⟩
  simp only [tree_Tree_Under.f]
  rw [if_pos (by rw [ht.known i hi]; rfl), show ([(gn l i).id] : List (List Int)) = ids l [i] from rfl, show (0 : Int) = ((0 : Nat) : Int) from rfl, h2, Option.bind_some]
  simp only [slices_SortFunc_api_Hash_api_Hash_at_digest_Compare.f]
  rw [if_pos (by simp [ids]; omega), Option.bind_some]
theorem under_mem (ht : TR t l) {i : Nat} (hi : i < l.length) : ∃ u, tree_Tree_Under.f t (gn l i).id = some u ∧ u.Nodup ∧ u.length ≤ l.length ∧ (∀ y ∈ u, ∃ j, j < l.length ∧ (gn l j).id = y) ∧ ∀ j, j < l.length → ((gn l j).id ∈ u ↔ Dsc l i j) := by
  obtain ⟨js, h1, h2⟩ := under_eq ht hi
  refine ⟨_, h2, ?_, by rw [hs_len]; simpa [ids] using h1.len, fun y hy => ?_, fun j hj => ?_⟩
  · refine (List.mergeSort_perm _ hle).nodup_iff.2 ?_
    rw [ids, List.Nodup, List.pairwise_map]
    exact List.Pairwise.imp_of_mem (fun {a b} ha hb hne e => hne (ht.inj a b (h1.lt a ha).1 (h1.lt b hb).1 e)) h1.nd
  · rw [hs_mem, ids_mem] at hy
    obtain ⟨j, hj, e⟩ := hy
    exact ⟨j, (h1.lt j hj).1, e⟩
  · rw [hs_mem, ids_mem]
    constructor
    · rintro ⟨k, hk, e⟩
      have : k = j := ht.inj k j (h1.lt k hk).1 hj e
      rw [← this]
      exact bi_dsc ht h1 k k (Nat.le_refl _) hk
    · intro hd
      exact ⟨j, dsc_bi h1 hd, rfl⟩
structure MB (l : List N8) (bad : List (List Int × Bool)) : Prop where
  tru : ∀ q ∈ bad, q.2 = true
  kn : ∀ k ∈ bad.map (·.1), ∃ i, 0 < i ∧ i < l.length ∧ (gn l i).id = k
def Mkd (l : List N8) (bad : List (List Int × Bool)) (i : Nat) : Prop := ∃ b, b < l.length ∧ (gn l b).id ∈ bad.map (·.1) ∧ Dsc l b i
theorem mb_get {bad : List (List Int × Bool)} (h : ∀ q ∈ bad, q.2 = true) (k : List Int) : (mget bad k).getD false = true ↔ k ∈ bad.map (·.1) := by
  induction bad with
  | nil => simp [mget]
  | cons q l ih =>
    unfold mget
    split
    · rename_i e
      have := h q (by simp)
      simp [this, e]
    · rename_i e
      have h3 : (mget l k).getD false = true ↔ k ∈ l.map (·.1) := ih fun x (hx : x ∈ l) => h x (List.mem_cons_of_mem _ hx)
      rw [h3, List.map_cons, List.mem_cons]
      exact ⟨.inr, fun h => by rcases h with h | h; exact absurd h.symm e; exact h⟩
theorem mb_put (bad : List (List Int × Bool)) (k : List Int) : (∀ y, y ∈ (mput bad k true).map (·.1) ↔ y ∈ bad.map (·.1) ∨ y = k) ∧ ((∀ q ∈ bad, q.2 = true) → ∀ q ∈ mput bad k true, q.2 = true) := by
  induction bad with
  | nil => exact ⟨fun y => by simp [mput], fun _ q hq => by simp [mput] at hq; rw [hq]⟩
  | cons p l ih =>
    unfold mput
    split
    · rename_i e
      refine ⟨fun y => ?_, fun h q hq => ?_⟩
      · simp only [List.map_cons, List.mem_cons]
        constructor
        · rintro (h | h)
          · exact .inr h
          · exact .inl (.inr h)
        · rintro ((h | h) | h)
          · exact .inl (h.trans e)
          · exact .inr h
          · exact .inl h
      · rcases List.mem_cons.1 hq with rfl | hq
        · rfl
        · exact h q (by simp [hq])
    · refine ⟨fun y => ?_, fun h q hq => ?_⟩
      · simp only [List.map_cons, List.mem_cons, ih.1 y]
        constructor
        · rintro (h | h | h)
          · exact .inl (.inl h)
          · exact .inl (.inr h)
          · exact .inr h
        · rintro ((h | h) | h)
          · exact .inl h
          · exact .inr (.inl h)
          · exact .inr (.inr h)
      · rcases List.mem_cons.1 hq with rfl | hq
        · exact h _ (by simp)
        · exact ih.2 (fun q hq => h q (by simp [hq])) q hq
theorem MB.put {bad : List (List Int × Bool)} (h : MB l bad) {i : Nat} (hi0 : 0 < i) (hi : i < l.length) : MB l (mput bad (gn l i).id true) :=
  ⟨(mb_put _ _).2 h.tru, fun k hk => by
    rcases (mb_put _ _).1 k |>.1 hk with hk | rfl
    · exact h.kn k hk
    · exact ⟨i, hi0, hi, rfl⟩⟩
theorem MB.grow {bad : List (List Int × Bool)} (h : MB l bad) {l' : List N8} (hl : l.length ≤ l'.length) (hg : ∀ i, i < l.length → gn l' i = gn l i) : MB l' bad :=
  ⟨h.tru, fun k hk => by obtain ⟨i, h0, h1, h2⟩ := h.kn k hk; exact ⟨i, h0, by omega, by rw [hg i h1]; exact h2⟩⟩
theorem bad_eq (ht : TR t l) {bad : List (List Int × Bool)} {i : Nat} (hi : i < l.length) : best_Marks_Bad.f ⟨t, bad⟩ (gn l i).id = some (if i = 0 then (false, ⟨t, bad⟩) else (true, ⟨t, mput bad (gn l i).id true⟩)) := by
  simp only [best_Marks_Bad.f]
  have h1 : tree_Tree_Head.f ⟨t.m, t.start⟩ (gn l i).id = some ((gn l i).h, true) := thead_eq (t := t) (ht.known i hi)
  rw [h1]
  simp only [Option.bind_some, if_true, tree_Tree_Start.f]
  by_cases c : i = 0
  · subst c
    rw [if_pos rfl, decide_eq_true ht.st, if_pos rfl]
  · have : (gn l i).id ≠ t.start := fun e => c (ht.inj i 0 hi ht.pos (e.trans ht.st.symm))
    rw [if_neg c, decide_eq_false this, if_neg (by decide)]
theorem is_loop (ht : TR t l) {bad : List (List Int × Bool)} (hb : MB l bad) : ∀ (n i : Nat), i ≤ n → i < l.length → ∃ r, loopO (best_Marks_Is.s0 ⟨t, bad⟩) (gn l i).id = some r ∧ (r = true ↔ Mkd l bad i) := by
  intro n
  induction n with
  | zero =>
    intro i hi hl
    have : i = 0 := by omega
    subst this
    refine ⟨false, loopO_inr ?_, by simp, ?_⟩
    · simp only [best_Marks_Is.s0, tree_Tree_Start.f, Option.bind_some]
      rw [if_neg (by rw [ht.st]; simp)]
    · rintro ⟨b, hbl, hbm, hd⟩
      obtain ⟨i, i0, i1, i2⟩ := hb.kn _ hbm
      have e := ht.inj i b i1 hbl i2
      subst e
      cases hd with
      | self => omega
      | step hj hp _ => rw [ht.root.1] at hp; omega
  | succ n ih =>
    intro i hi hl
    rcases Nat.eq_zero_or_pos i with z | z
    · exact ih i (by omega) hl
    · have hne : (gn l i).id ≠ t.start := fun e => by have := ht.inj i 0 hl ht.pos (e.trans ht.st.symm); omega
      have h1 : tree_Tree_Head.f ⟨t.m, t.start⟩ (gn l i).id = some ((gn l i).h, true) := thead_eq (t := t) (ht.known i hl)
      obtain ⟨p, p1, p2, p3, _⟩ := ht.par i z hl
      by_cases c : (mget bad (gn l i).id).getD false = true
      · refine ⟨true, loopO_inr ?_, by simpa using ⟨i, hl, (mb_get hb.tru _).1 c, .self⟩⟩
        simp only [best_Marks_Is.s0, tree_Tree_Start.f, Option.bind_some]
        rw [if_pos hne, h1]
        simp only [Option.bind_some, if_true]
        rw [if_pos c]
      · obtain ⟨r, r1, r2⟩ := ih p (by omega) (by omega)
        refine ⟨r, ?_, ?_⟩
        · rw [loopO_inl (s' := (gn l p).id) (by
            simp only [best_Marks_Is.s0, tree_Tree_Start.f, Option.bind_some]
            rw [if_pos hne, h1]
            simp only [Option.bind_some, if_true]
            rw [if_neg c, p3])]
          exact r1
        · rw [r2]
          constructor
          · rintro ⟨b, b1, b2, b3⟩
            exact ⟨b, b1, b2, .step hl p2 b3⟩
          · rintro ⟨b, b1, b2, b3⟩
            cases b3 with
            | self => exact absurd ((mb_get hb.tru _).2 b2) c
            | step hj hp h =>
              have : (_ : Int) = _ := p2.symm.trans hp
              have e : p = _ := Int.ofNat_inj.1 this
              subst e
              exact ⟨b, b1, b2, h⟩
theorem mis_eq (ht : TR t l) {bad : List (List Int × Bool)} (hb : MB l bad) {i : Nat} (hi : i < l.length) : ∃ r, best_Marks_Is.f ⟨t, bad⟩ (gn l i).id = some r ∧ (r = true ↔ Mkd l bad i) := is_loop ht hb i i (Nat.le_refl _) hi
theorem pkU_eq (ht : TR t l) {bad : List (List Int)} (hb : ∀ k ∈ bad, ∃ i, 0 < i ∧ i < l.length ∧ (gn l i).id = k) : ∃ u, pkU t bad = some u ∧ (∀ y ∈ u, ∃ j, j < l.length ∧ (gn l j).id = y) ∧ ∀ j, j < l.length → ((gn l j).id ∈ u ↔ ∃ b, b < l.length ∧ (gn l b).id ∈ bad ∧ Dsc l b j) := by
  induction bad with
  | nil => exact ⟨[], rfl, by simp, by simp⟩
  | cons k bad ih =>
    obtain ⟨u, h1, h2, h3⟩ := ih fun x hx => hb x (by simp [hx])
    obtain ⟨i, i0, i1, rfl⟩ := hb k (by simp)
    obtain ⟨v, v1, _, _, v2, v3⟩ := under_mem ht i1
    refine ⟨v ++ u, by simp [pkU, h1, v1], fun y hy => ?_, fun j hj => ?_⟩
    · rcases List.mem_append.1 hy with hy | hy
      · exact v2 y hy
      · exact h2 y hy
    · rw [List.mem_append, v3 j hj, h3 j hj]
      constructor
      · rintro (h | ⟨b, b1, b2, b3⟩)
        · exact ⟨i, i1, by simp, h⟩
        · exact ⟨b, b1, by simp [b2], b3⟩
      · rintro ⟨b, b1, b2, b3⟩
        rcases List.mem_cons.1 b2 with e | b2
        · have := ht.inj b i b1 i1 e
          subst this
          exact .inl b3
        · exact .inr ⟨b, b1, b2, b3⟩
theorem bdd_mem : ∀ {l : List (List Int)} {y : List Int}, y ∈ dd l ↔ y ∈ l
  | [], _ => by simp [dd]
  | x :: xs, y => by
    unfold dd
    split
    · rename_i h
      rw [bdd_mem, List.mem_cons]
      exact ⟨.inr, fun h' => by rcases h' with rfl | h'; exact h; exact h'⟩
    · rw [List.mem_cons, List.mem_cons, bdd_mem]
theorem bdd_nodup : ∀ l : List (List Int), (dd l).Nodup
  | [] => by simp [dd]
  | x :: xs => by
    unfold dd
    split
    · exact bdd_nodup xs
    · rename_i h
      exact List.nodup_cons.2 ⟨fun h' => h (bdd_mem.1 h'), bdd_nodup xs⟩
theorem len_ids {xs : List (List Int)} (hn : xs.Nodup) (h : ∀ y ∈ xs, ∃ j, j < l.length ∧ (gn l j).id = y) : xs.length ≤ l.length := by
  have := hn.length_le_of_subset (l₂ := ids l (List.range l.length)) fun y hy => by
    obtain ⟨j, hj, e⟩ := h y hy
    exact ids_mem.2 ⟨j, List.mem_range.2 hj, e⟩
  simpa [ids] using this
theorem parted_eq (ht : TR t l) {bad : List (List Int × Bool)} (hb : MB l bad) : ∃ a g, best_Marks_parted.f ⟨t, bad⟩ = some (a, g) ∧ a.Nodup ∧ g.Nodup ∧ (∀ y ∈ a, ∃ j, j < l.length ∧ (gn l j).id = y) ∧ (∀ y ∈ g, ∃ j, j < l.length ∧ (gn l j).id = y) ∧ (∀ j, j < l.length → ((gn l j).id ∈ a ↔ Mkd l bad j)) ∧ ∀ j, j < l.length → ((gn l j).id ∈ g ↔ ¬ Mkd l bad j) := by
  obtain ⟨u, u1, u2, u3⟩ := pkU_eq ht hb.kn
  obtain ⟨v, v1, v2, v3, v4, v5⟩ := under_mem ht ht.pos
  have hs := ht.small
  have hdl : (dd u).length ≤ l.length := len_ids (bdd_nodup u) fun y hy => u2 y (bdd_mem.1 hy)
  refine ⟨hsort (dd u), v.filter fun y => decide (y ∉ u), ?_, (List.mergeSort_perm _ hle).nodup_iff.2 (bdd_nodup u), List.Nodup.sublist List.filter_sublist v2, fun y hy => u2 y (bdd_mem.1 (hs_mem.1 hy)), fun y hy => v4 y (List.mem_filter.1 hy).1, fun j hj => ?_, fun j hj => ?_⟩
  · simp only [best_Marks_parted.f, tree_Tree_Start.f]
    rw [u1, Option.bind_some, Option.bind_some, ← ht.st, v1, Option.bind_some, if_pos ⟨by omega, by omega⟩]
  · rw [hs_mem, bdd_mem, u3 j hj]
    exact Iff.rfl
  · rw [List.mem_filter]
    have h0 := (v5 j hj).2 (dsc_root ht j j (Nat.le_refl _) hj)
    simp only [decide_eq_true_eq, u3 j hj]
    exact ⟨fun h => h.2, fun h => ⟨h0, h⟩⟩
end Go.Proofs.YtdngkgkkblfcjaaDoor.T
namespace Go.Proofs.YtdngkgkkblfcjaaDoor.T
open Go Go.Proofs Go.Proofs.YtdngkgkkblfcjaaDoor.K
set_option linter.unusedVariables false
structure OvO (K : List Int → Prop) (ov : List Int → List Int → Bool) : Prop where
  irr : ∀ x, ov x x = false
  asy : ∀ x y, K x → K y → ov x y = true → ov y x = false
  tot : ∀ x y, K x → K y → x ≠ y → ov x y = false → ov y x = true
  tra : ∀ x y z, K x → K y → K z → ov x y = true → ov y z = true → ov x z = true
theorem OvO.nt {K : List Int → Prop} {ov : List Int → List Int → Bool} (h : OvO K ov) {x y z : List Int} (hx : K x) (hy : K y) (hz : K z) (h1 : ov x y = false) (h2 : ov y z = false) : ov x z = false := by
  cases c : ov x z with
  | false => rfl
  | true =>
    by_cases e : x = y
    · rw [e, h2] at c; cases c
    · have := h.tra y x z hy hx hz (h.tot x y hx hy e h1) c
      rw [h2] at this; cases this
abbrev gx (xs : List (List Int)) (i : Nat) : List Int := xs.getD i []
def swp (xs : List (List Int)) (i j : Nat) : List (List Int) := (xs.set i (gx xs j)).set j (gx xs i)
theorem swp_len (xs : List (List Int)) (i j : Nat) : (swp xs i j).length = xs.length := by simp [swp]
theorem swp_get (xs : List (List Int)) {i j k : Nat} (hi : i < xs.length) (hj : j < xs.length) : gx (swp xs i j) k = if k = j then gx xs i else if k = i then gx xs j else gx xs k := by
  simp only [gx, swp, List.getD, List.getElem?_set, List.length_set]
  by_cases h1 : k = j
  · subst h1; simp [hj]
  · rw [if_neg (fun e => h1 e.symm), if_neg h1]
    by_cases h2 : k = i
    · subst h2; simp [hi]
    · rw [if_neg (fun e => h2 e.symm), if_neg h2]
theorem swp_perm (xs : List (List Int)) {i j : Nat} (hi : i < xs.length) (hj : j < xs.length) : (swp xs i j).Perm xs := by
  have := List.set_set_perm hi hj
  simpa [swp, gx, List.getD, hi, hj] using this
def HP (ov : List Int → List Int → Bool) (i0 : Nat) (xs : List (List Int)) : Prop := ∀ c, 0 < c → c < xs.length → i0 ≤ (c - 1) / 2 → ov (gx xs c) (gx xs ((c - 1) / 2)) = false
structure DI (ov : List Int → List Int → Bool) (i0 i : Nat) (xs : List (List Int)) : Prop where
  le : i0 ≤ i
  lt : i < xs.length
  hp : ∀ c, 0 < c → c < xs.length → i0 ≤ (c - 1) / 2 → (c - 1) / 2 ≠ i → ov (gx xs c) (gx xs ((c - 1) / 2)) = false
  gr : 0 < i → i0 ≤ (i - 1) / 2 → ∀ c, 0 < c → c < xs.length → (c - 1) / 2 = i → ov (gx xs c) (gx xs ((i - 1) / 2)) = false
section
variable {K : List Int → Prop} {ov : List Int → List Int → Bool} {bad : List (List Int × Bool)} {m : List (List Int × treeNode)} {st : List Int}
def LessOk (K : List Int → Prop) (ov : List Int → List Int → Bool) (bad : List (List Int × Bool)) (m : List (List Int × treeNode)) (st : List Int) : Prop :=
  ∀ (xs : List (List Int)), (∀ y ∈ xs, K y) → ∀ a b : Nat, a < xs.length → b < xs.length → best_ranks_Less.f ⟨xs, ⟨⟨m, st⟩, bad⟩⟩ (a : Int) (b : Int) = some (ov (gx xs a) (gx xs b))
theorem gx_K {xs : List (List Int)} (hK : ∀ y ∈ xs, K y) {i : Nat} (hi : i < xs.length) : K (gx xs i) := hK _ (getD_mem hi)
theorem swap_eq (xs : List (List Int)) {i j : Nat} (hi : i < xs.length) (hj : j < xs.length) : best_ranks_Swap.f ⟨xs, ⟨⟨m, st⟩, bad⟩⟩ (i : Int) (j : Int) = some ⟨swp xs i j, ⟨⟨m, st⟩, bad⟩⟩ := by
  simp only [best_ranks_Swap.f, Int.toNat_natCast]
  rw [if_pos (by omega), if_pos (by omega)]
  rfl
theorem down_leaf {xs : List (List Int)} {i : Nat} (hn : xs.length ≤ 100000) (hi : i < xs.length) (h : xs.length ≤ 2 * i + 1) : container_heap_down_at_bestRanks.s0 (xs.length : Int) ((i : Int), xs, bad, m, st) = some (.inr ((i : Int), xs, bad, m, st)) := by
  have e1 : IntKind.i64.wrap (2 * (i : Int)) = ((2 * i : Nat) : Int) := by rw [w64 (by omega) (by omega)]; omega
  have e2 : IntKind.i64.wrap (((2 * i : Nat) : Int) + 1) = ((2 * i + 1 : Nat) : Int) := winc _ (by omega)
  simp only [container_heap_down_at_bestRanks.s0, e1, e2]
  rw [if_pos (by omega), Option.bind_some, if_pos rfl]
theorem down_step {xs : List (List Int)} {i : Nat} (O : OvO K ov) (hless : LessOk K ov bad m st) (hK : ∀ y ∈ xs, K y) (hn : xs.length ≤ 100000) (hi : i < xs.length) (h : 2 * i + 1 < xs.length) :
    ∃ j, j < xs.length ∧ 0 < j ∧ (j - 1) / 2 = i ∧ (∀ s, 0 < s → s < xs.length → (s - 1) / 2 = i → ov (gx xs s) (gx xs j) = false) ∧
      container_heap_down_at_bestRanks.s0 (xs.length : Int) ((i : Int), xs, bad, m, st) = if ov (gx xs j) (gx xs i) = true then some (.inl ((j : Int), swp xs i j, bad, m, st)) else some (.inr ((i : Int), xs, bad, m, st)) := by
  have e1 : IntKind.i64.wrap (2 * (i : Int)) = ((2 * i : Nat) : Int) := by rw [w64 (by omega) (by omega)]; omega
  have e2 : IntKind.i64.wrap (((2 * i : Nat) : Int) + 1) = ((2 * i + 1 : Nat) : Int) := winc _ (by omega)
  have e3 : IntKind.i64.wrap (((2 * i + 1 : Nat) : Int) + 1) = ((2 * i + 1 + 1 : Nat) : Int) := winc _ (by omega)
  have fin : ∀ j : Nat, j < xs.length → ((best_ranks_Less.f (⟨xs, (⟨(⟨m, st⟩ : treeTree), bad⟩ : bestMarks)⟩ : bestRanks) (j : Int) (i : Int)).bind fun r2 => (if r2 = true then ((best_ranks_Swap.f (⟨xs, (⟨(⟨m, st⟩ : treeTree), bad⟩ : bestMarks)⟩ : bestRanks) (i : Int) (j : Int)).bind fun r3 => some (.inl ((j : Int), r3.l, r3.m.bad, r3.m.t.m, r3.m.t.start))) else some (.inr ((i : Int), xs, bad, m, st)))) = if ov (gx xs j) (gx xs i) = true then some (.inl ((j : Int), swp xs i j, bad, m, st) : (Int × (List (List Int)) × (List ((List Int) × Bool)) × (List ((List Int) × treeNode)) × (List Int)) ⊕ (Int × (List (List Int)) × (List ((List Int) × Bool)) × (List ((List Int) × treeNode)) × (List Int))) else some (.inr ((i : Int), xs, bad, m, st)) := fun j hj => by
    rw [hless xs hK j i hj hi, Option.bind_some, swap_eq xs hi hj, Option.bind_some]
  by_cases c : 2 * i + 2 < xs.length
  · have hl := hless xs hK (2 * i + 1 + 1) (2 * i + 1) (by omega) h
    cases c2 : ov (gx xs (2 * i + 1 + 1)) (gx xs (2 * i + 1)) with
    | true =>
      refine ⟨2 * i + 1 + 1, by omega, by omega, by omega, fun s s0 s1 s2 => ?_, ?_⟩
      · have : s = 2 * i + 1 ∨ s = 2 * i + 1 + 1 := by omega
        rcases this with rfl | rfl
        · exact O.asy _ _ (gx_K hK (by omega)) (gx_K hK h) c2
        · exact O.irr _
      · simp only [container_heap_down_at_bestRanks.s0, e1, e2, e3]
        rw [if_neg (by omega), decide_eq_false (by omega), Option.bind_some, if_neg (by decide), if_pos (by omega), hl, c2]
        simp only [Option.bind_some, if_true]
        exact fin _ (by omega)
    | false =>
      refine ⟨2 * i + 1, h, by omega, by omega, fun s s0 s1 s2 => ?_, ?_⟩
      · have : s = 2 * i + 1 ∨ s = 2 * i + 1 + 1 := by omega
        rcases this with rfl | rfl
        · exact O.irr _
        · exact c2
      · simp only [container_heap_down_at_bestRanks.s0, e1, e2, e3]
        rw [if_neg (by omega), decide_eq_false (by omega), Option.bind_some, if_neg (by decide), if_pos (by omega), hl, c2]
        simp only [Option.bind_some]
        exact fin _ h
  · refine ⟨2 * i + 1, h, by omega, by omega, fun s s0 s1 s2 => ?_, ?_⟩
    · have : s = 2 * i + 1 := by omega
      rw [this]; exact O.irr _
    · simp only [container_heap_down_at_bestRanks.s0, e1, e2, e3]
      rw [if_neg (by omega), decide_eq_false (by omega), Option.bind_some, if_neg (by decide), if_neg (by omega)]
      simp only [Option.bind_some]
      exact fin _ h
theorem down_loop (O : OvO K ov) (hless : LessOk K ov bad m st) : ∀ (k i0 i : Nat) (xs : List (List Int)), (∀ y ∈ xs, K y) → xs.length ≤ 100000 → xs.length - i ≤ k → DI ov i0 i xs →
    ∃ (i' : Int) (ys : List (List Int)), loopO (container_heap_down_at_bestRanks.s0 (xs.length : Int)) ((i : Int), xs, bad, m, st) = some (i', ys, bad, m, st) ∧ ys.Perm xs ∧ HP ov i0 ys := by
  intro k
  induction k with
  | zero => intro i0 i xs _ _ hk hD; have := hD.lt; omega
  | succ k ih =>
    intro i0 i xs hK hn hk hD
    by_cases c : 2 * i + 1 < xs.length
    · obtain ⟨j, j1, j0, j2, j3, j4⟩ := down_step O hless hK hn hD.lt c
      by_cases d : ov (gx xs j) (gx xs i) = true
      · rw [if_pos d] at j4
        have hp := swp_perm xs hD.lt j1
        have hK' : ∀ y ∈ swp xs i j, K y := fun y hy => hK y (hp.mem_iff.1 hy)
        have hg : ∀ q, gx (swp xs i j) q = if q = j then gx xs i else if q = i then gx xs j else gx xs q := fun q => swp_get xs hD.lt j1
        have hij : i < j := by omega
        have hD' : DI ov i0 j (swp xs i j) := by
          refine ⟨by have := hD.le; omega, by rw [swp_len]; exact j1, fun c c0 c1 c2 c3 => ?_, fun _ _ c c0 c1 c2 => ?_⟩
          · rw [swp_len] at c1
            rw [hg, hg, if_neg c3]
            by_cases e1 : c = j
            · rw [if_pos e1, e1, j2, if_pos rfl]
              exact O.asy _ _ (gx_K hK j1) (gx_K hK hD.lt) d
            · rw [if_neg e1]
              by_cases e2 : c = i
              · subst e2
                rw [if_pos rfl, if_neg (by omega)]
                exact hD.gr c0 c2 j j0 j1 j2
              · rw [if_neg e2]
                by_cases e3 : (c - 1) / 2 = i
                · rw [if_pos e3]; exact j3 c c0 c1 e3
                · rw [if_neg e3]; exact hD.hp c c0 c1 c2 e3
          · rw [swp_len] at c1
            rw [hg, hg, j2, if_neg (by omega), if_neg (by omega), if_neg (by omega), if_pos rfl]
            have := hD.hp c c0 c1 (by have := hD.le; omega) (by omega)
            rw [c2] at this
            exact this
        obtain ⟨i', ys, y1, y2, y3⟩ := ih i0 j (swp xs i j) hK' (by rw [swp_len]; exact hn) (by rw [swp_len]; omega) hD'
        rw [swp_len] at y1
        exact ⟨i', ys, (loopO_inl j4).trans y1, y2.trans hp, y3⟩
      · rw [if_neg d] at j4
        refine ⟨_, xs, loopO_inr j4, List.Perm.refl _, fun c c0 c1 c2 => ?_⟩
        by_cases e : (c - 1) / 2 = i
        · rw [e]
          exact O.nt (gx_K hK c1) (gx_K hK j1) (gx_K hK hD.lt) (j3 c c0 c1 e) (by simpa using d)
        · exact hD.hp c c0 c1 c2 e
    · refine ⟨_, xs, loopO_inr (down_leaf hn hD.lt (by omega)), List.Perm.refl _, fun c c0 c1 c2 => hD.hp c c0 c1 c2 (by omega)⟩
theorem down_eq (O : OvO K ov) (hless : LessOk K ov bad m st) {i : Nat} {xs : List (List Int)} (hK : ∀ y ∈ xs, K y) (hn : xs.length ≤ 100000) (hi : i < xs.length) (h : HP ov (i + 1) xs) :
    ∃ (b : Bool) (ys : List (List Int)), container_heap_down_at_bestRanks.f ⟨xs, ⟨⟨m, st⟩, bad⟩⟩ (i : Int) (xs.length : Int) = some (b, ⟨ys, ⟨⟨m, st⟩, bad⟩⟩) ∧ ys.Perm xs ∧ HP ov i ys := by
  obtain ⟨i', ys, h1, h2, h3⟩ := down_loop O hless (xs.length - i) i i xs hK hn (Nat.le_refl _) ⟨Nat.le_refl _, hi, fun c c0 c1 c2 c3 => h c c0 c1 (by omega), fun h0 h1 => by omega⟩
  refine ⟨decide ((i : Int) < i'), ys, ?_, h2, h3⟩
  simp only [container_heap_down_at_bestRanks.f]
  rw [h1]
  rfl
theorem init_loop (O : OvO K ov) (hless : LessOk K ov bad m st) {n : Nat} (hn : n ≤ 100000) : ∀ (i : Nat) (xs : List (List Int)), xs.length = n → (∀ y ∈ xs, K y) → i ≤ n → HP ov i xs →
    ∃ ys : List (List Int), loopO (container_heap_Init_at_bestRanks.s0 (n : Int)) ((i : Int) - 1, xs, bad, m, st) = some ⟨ys, ⟨⟨m, st⟩, bad⟩⟩ ∧ ys.Perm xs ∧ HP ov 0 ys := by
  intro i
  induction i with
  | zero =>
    intro xs hl hK hi h
    refine ⟨xs, loopO_inr ?_, List.Perm.refl _, h⟩
    simp only [container_heap_Init_at_bestRanks.s0]
    rw [if_neg (by omega)]
  | succ i ih =>
    intro xs hl hK hi h
    obtain ⟨b, ys, y1, y2, y3⟩ := down_eq O hless hK (by omega) (by omega) h
    obtain ⟨zs, z1, z2, z3⟩ := ih ys (by rw [y2.length_eq, hl]) (fun y hy => hK y (y2.mem_iff.1 hy)) (by omega) y3
    refine ⟨zs, ?_, z2.trans y2, z3⟩
    rw [loopO_inl (s' := ((i : Int) - 1, ys, bad, m, st)) (by
      simp only [container_heap_Init_at_bestRanks.s0]
      rw [show (((i + 1 : Nat) : Int) - 1) = (i : Int) by omega, if_pos (by omega), ← hl, y1, Option.bind_some, w64 (by omega) (by omega)])]
    exact z1
theorem hp_top (O : OvO K ov) {xs : List (List Int)} (hK : ∀ y ∈ xs, K y) (h : HP ov 0 xs) : ∀ (n c : Nat), c ≤ n → c < xs.length → ov (gx xs c) (gx xs 0) = false := by
  intro n
  induction n with
  | zero => intro c hc _; rw [show c = 0 by omega]; exact O.irr _
  | succ n ih =>
    intro c hc hl
    rcases Nat.eq_zero_or_pos c with z | z
    · rw [z]; exact O.irr _
    · exact O.nt (gx_K hK hl) (gx_K hK (show (c - 1) / 2 < xs.length by omega)) (gx_K hK (show 0 < xs.length by omega)) (h c z hl (by omega)) (ih ((c - 1) / 2) (by omega) (by omega))
theorem init_eq (O : OvO K ov) (hless : LessOk K ov bad m st) {xs : List (List Int)} (hK : ∀ y ∈ xs, K y) (hn : xs.length ≤ 100000) :
    ∃ ys : List (List Int), container_heap_Init_at_bestRanks.f ⟨xs, ⟨⟨m, st⟩, bad⟩⟩ = some ⟨ys, ⟨⟨m, st⟩, bad⟩⟩ ∧ ys.Perm xs ∧ ∀ y ∈ ys, ov y (gx ys 0) = false := by
  have e1 : IntKind.i64.wrap (IntKind.i64.wrap (Int.tdiv (xs.length : Int) 2) - 1) = ((xs.length / 2 : Nat) : Int) - 1 := by
    have : Int.tdiv (xs.length : Int) 2 = ((xs.length / 2 : Nat) : Int) := by rw [Int.tdiv_eq_ediv_of_nonneg (by omega)]; omega
    rw [this, w64 (x := ((xs.length / 2 : Nat) : Int)) (by omega) (by omega), w64 (by omega) (by omega)]
  obtain ⟨ys, y1, y2, y3⟩ := init_loop O hless hn (xs.length / 2) xs rfl hK (by omega) (fun c c0 c1 c2 => by omega)
  refine ⟨ys, ?_, y2, fun y hy => ?_⟩
  · simp only [container_heap_Init_at_bestRanks.f, best_ranks_Len.f]
    rw [Option.bind_some, e1]
    exact y1
  · obtain ⟨c, hc⟩ := List.getElem?_of_mem hy
    have hcl := (List.getElem?_eq_some_iff.1 hc).1
    have e : gx ys c = y := by simp [gx, List.getD, hc]
    rw [← e]
    exact hp_top O (fun y hy => hK y (y2.mem_iff.1 hy)) y3 c c (Nat.le_refl _) hcl
end
end Go.Proofs.YtdngkgkkblfcjaaDoor.T
namespace Go.Proofs.YtdngkgkkblfcjaaDoor.T
open Go Go.Proofs Go.Proofs.YtdngkgkkblfcjaaDoor.K
set_option linter.unusedVariables false
variable {t : treeTree} {l : List N8} {bad : List (List Int × Bool)}
theorem bless_eq (a b : List Int) : digest_Less.f a b = some (decide (cmpI a b < 0)) := by
  simp only [digest_Less.f, digest_Compare.f, bytes_Compare.f, Option.bind_some]
def ovT (m : List (List Int × treeNode)) (a b : List Int) : Bool :=
  match mget m a, mget m b with
  | some x, some y => if x.work ≠ y.work then decide (y.work < x.work) else decide (cmpI a b < 0)
  | _, _ => false
theorem work_eq (t : treeTree) (a : List Int) : tree_Tree_Work.f t a = some (match mget t.m a with | some x => (x.work, true) | none => (0, false)) := by
  simp only [tree_Tree_Work.f]
  cases h : mget t.m a with
  | none => simp
  | some x => simp [nget, lkn_some h, h]
theorem over_eq (t : treeTree) (bad : List (List Int × Bool)) (a b : List Int) : best_Marks_Over.f ⟨t, bad⟩ a b = some (ovT t.m a b) := by
  simp only [best_Marks_Over.f]
  rw [show (⟨t.m, t.start⟩ : treeTree) = t from rfl, work_eq, work_eq]
  unfold ovT
  cases ha : mget t.m a with
  | none => simp
  | some x =>
    cases hb : mget t.m b with
    | none => simp
    | some y =>
      simp only [Option.bind_some, if_true, Bool.not_true, Bool.false_eq_true, if_false]
      by_cases c : x.work ≠ y.work
      · rw [if_pos c, if_pos c]
      · rw [if_neg c, if_neg c, bless_eq, Option.bind_some]
theorem ov_o (m : List (List Int × treeNode)) : OvO (fun y => (mget m y).isSome = true) (ovT m) := by
  have c0 : ∀ x : List Int, cmpI x x = 0 := fun x => by have := ci_neg x x; omega
  refine ⟨fun x => ?_, fun x y hx hy h => ?_, fun x y hx hy hne h => ?_, fun x y z hx hy hz h1 h2 => ?_⟩
  · unfold ovT
    cases hx : mget m x with
    | none => rfl
    | some a => simp [c0]
  · obtain ⟨a, ha⟩ := Option.isSome_iff_exists.1 hx
    obtain ⟨b, hb⟩ := Option.isSome_iff_exists.1 hy
    unfold ovT at *
    simp only [ha, hb] at *
    have cn := ci_neg x y
    by_cases c : a.work = b.work
    · rw [if_neg (by simpa using c)] at h
      rw [if_neg (by simpa using c.symm)]
      simp only [decide_eq_true_eq, decide_eq_false_iff_not] at *
      omega
    · rw [if_pos c] at h
      rw [if_pos (fun e => c e.symm)]
      simp only [decide_eq_true_eq, decide_eq_false_iff_not] at *
      omega
  · obtain ⟨a, ha⟩ := Option.isSome_iff_exists.1 hx
    obtain ⟨b, hb⟩ := Option.isSome_iff_exists.1 hy
    unfold ovT at *
    simp only [ha, hb] at *
    have cn := ci_neg x y
    by_cases c : a.work = b.work
    · rw [if_neg (by simpa using c)] at h
      rw [if_neg (by simpa using c.symm)]
      simp only [decide_eq_true_eq, decide_eq_false_iff_not] at *
      have : cmpI x y ≠ 0 := fun e => hne (ci_zero _ _ e)
      omega
    · rw [if_pos c] at h
      rw [if_pos (fun e => c e.symm)]
      simp only [decide_eq_true_eq, decide_eq_false_iff_not] at *
      omega
  · obtain ⟨a, ha⟩ := Option.isSome_iff_exists.1 hx
    obtain ⟨b, hb⟩ := Option.isSome_iff_exists.1 hy
    obtain ⟨c, hc⟩ := Option.isSome_iff_exists.1 hz
    unfold ovT at *
    simp only [ha, hb, hc] at *
    by_cases d1 : a.work = b.work
    · rw [if_neg (by simpa using d1)] at h1
      by_cases d2 : b.work = c.work
      · rw [if_neg (by simpa using d2)] at h2
        rw [if_neg (by simpa using d1.trans d2)]
        simp only [decide_eq_true_eq] at *
        exact ci_trans _ _ _ h1 h2
      · rw [if_pos d2] at h2
        rw [if_pos (by rw [d1]; exact d2)]
        simp only [decide_eq_true_eq] at *
        omega
    · rw [if_pos d1] at h1
      simp only [decide_eq_true_eq] at h1
      by_cases d2 : b.work = c.work
      · rw [if_pos (by rw [← d2]; exact d1)]
        simp only [decide_eq_true_eq]
        omega
      · rw [if_pos d2] at h2
        simp only [decide_eq_true_eq] at h2
        rw [if_pos (by omega)]
        simp only [decide_eq_true_eq]
        omega
theorem less_ok (t : treeTree) (bad : List (List Int × Bool)) : LessOk (fun y => (mget t.m y).isSome = true) (ovT t.m) bad t.m t.start := fun xs _ a b ha hb => by
  simp only [best_ranks_Less.f, Int.toNat_natCast]
  rw [if_pos (by omega), if_pos (by omega), show (⟨t.m, t.start⟩ : treeTree) = t from rfl, over_eq, Option.bind_some]
theorem mkd_zero (ht : TR t l) (hb : MB l bad) : ¬ Mkd l bad 0 := by
  rintro ⟨b, hbl, hbm, hd⟩
  obtain ⟨i, i0, i1, i2⟩ := hb.kn _ hbm
  have e := ht.inj i b i1 hbl i2
  subst e
  cases hd with
  | self => omega
  | step hj hp _ => rw [ht.root.1] at hp; omega
theorem best_eq (ht : TR t l) (hb : MB l bad) : ∃ i, i < l.length ∧ ¬ Mkd l bad i ∧ best_Marks_Best.f ⟨t, bad⟩ = some ((gn l i).id, ⟨t, bad⟩) ∧ ∀ j, j < l.length → ¬ Mkd l bad j → ovT t.m (gn l j).id (gn l i).id = false := by
  obtain ⟨a, g, e1, _, gnd, _, hg, _, hgm⟩ := parted_eq ht hb
  have hK : ∀ y ∈ g, (mget t.m y).isSome = true := fun y hy => by
    obtain ⟨j, hj, e⟩ := hg y hy
    rw [← e, ht.known j hj]; rfl
  have hs := ht.small
  have hgl := len_ids gnd hg
  obtain ⟨ys, y1, y2, y3⟩ := init_eq (bad := bad) (st := t.start) (ov_o t.m) (less_ok t bad) hK (by omega)
  have hpos : 0 < ys.length := by
    rw [y2.length_eq]
    exact List.length_pos_of_mem ((hgm 0 ht.pos).2 (mkd_zero ht hb))
  have htop : gx ys 0 ∈ g := y2.mem_iff.1 (getD_mem hpos)
  obtain ⟨i, hi, ei⟩ := hg _ htop
  refine ⟨i, hi, (hgm i hi).1 (by rw [ei]; exact htop), ?_, fun j hj hm => ?_⟩
  · simp only [best_Marks_Best.f]
    rw [show (⟨⟨t.m, t.start⟩, bad⟩ : bestMarks) = ⟨t, bad⟩ from rfl, e1, Option.bind_some, show (⟨t, bad⟩ : bestMarks) = ⟨⟨t.m, t.start⟩, bad⟩ from rfl, y1, Option.bind_some, if_pos (show (0 : Int) < (ys.length : Int) by omega), ei]
    rfl
  · rw [ei]
    exact y3 _ (y2.mem_iff.2 ((hgm j hj).2 hm))
theorem mb_nil : MB l [] := ⟨by simp, by simp⟩
theorem first13 : sargassolaw13_first.f = some true := by
  simp only [sargassolaw13_first.f]
  rw [start1_eq, Option.bind_some, tnew_eq H0_ok, Option.bind_some]
  simp only [best_New.f, Option.bind_some]
  have ht := tr_new H0_ok
  obtain ⟨i, hi, _, e, _⟩ := best_eq ht (bad := []) mb_nil
  have h0 : i = 0 := by have : (n8new H0).length = 1 := rfl; omega
  subst h0
  rw [show (⟨⟨(tnew H0).m, (tnew H0).start⟩, []⟩ : bestMarks) = ⟨tnew H0, []⟩ from rfl, e]
  simp only [Option.bind_some, tree_Tree_Start.f]
  rw [← ht.st, samehash_eq _ _ (ht.id32 ht.pos) (ht.id32 ht.pos), decide_eq_true rfl]
  simp only [Option.bind_some, if_true]
  have hbd := bad_eq ht (bad := []) ht.pos
  rw [if_pos rfl] at hbd
  rw [ht.st] at hbd ⊢
  rw [show (⟨⟨(tnew H0).m, (tnew H0).start⟩, []⟩ : bestMarks) = ⟨tnew H0, []⟩ from rfl, hbd]
  rfl
end Go.Proofs.YtdngkgkkblfcjaaDoor.T
