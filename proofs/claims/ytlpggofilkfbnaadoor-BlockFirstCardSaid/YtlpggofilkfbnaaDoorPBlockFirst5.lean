/- Proved: the statement BlockFirst, as given (its conditions are those of the given row, and card where there is one; no others): the call ends, with true, and the input reads as it did. This file is one of its parts. -/
import Derived.Test.YtlpggofilkfbnaaDoorPBlockFirst4
namespace Go.Proofs.YtlpggofilkfbnaaDoor.T
open Go Go.Proofs Go.Proofs.YtlpggofilkfbnaaDoor.K
set_option linter.unusedVariables false
set_option linter.unusedSimpArgs false
set_option maxRecDepth 20000 in
theorem block_First.c (μ : Store) (w0 : World) (hμ : Agr μ w0) (x0 : Int) (hx0 : InR .i64 x0) (x1 : Int) (hx1 : InR .u64 x1) (x2 : List Int) (hx2 : Arr .u8 32 x2) (x3 : List Int) (u3 : Value) (hx3 : Slc (RI .u8) 1 μ u3 x3) (r : Tx) (H : block_First.f x0 x1 x2 x3 = some r) :
    Calls Tryd.prog 9 [.int .i64 x0, .int .u64 x1, .agg [av .u8 32 x2].flatten.toArray, u3].toArray w0 (fun e w' => ∃ v, e = .returned v ∧ ∃ (v0_0 : Value) (v0_1 : Value) (μ' : Store), v = .agg [[.int .u32 r.Version], [v0_0], [v0_1], [.int .u32 r.Time]].flatten.toArray ∧ TxW μ' r v0_0 v0_1 ∧ Iv w0 [] μ μ' [] w') := by
  refine enter Tryd.func9 rfl Tryd.ntmps9 rfl fun a hA => ?_
  have hI := Iv.start hμ
  have H := bI H
  refine w_seq fun _ hN1 => ?_
  refine w_reg ?_
  refine o_box [av .u8 32 x2] hI hA rfl rfl rfl fun g1 a w hA hI hg1 => 
    o_new [[.int .u32 0], [(.slice none 0 0)], [(.slice none 0 0)], [.int .u32 0]] zr32 hI hA rfl fun g2 a w hA hI hg2 => ?_
  refine o_nil ?_
  refine hN1 _ _ ?_
  refine w_seq fun _ hN2 => ?_
  refine w_reg ?_
  refine stp hA (r_mv hA rfl) rfl fun a hA => 
    stp hA (r_conv Tryd.underlying3 Tryd.underlying28 hA rfl) rfl fun a hA => ?_
  obtain ⟨r1, hr1, H⟩ := bB H
  refine o_call _ cf33 hA rfl (compact_Four.c μ _ hI.agr ([]) (.slice none 0 0) (slc_nil _ _ _) (IntKind.u32.wrap x0) (wrap_in _ _) r1 hr1) rfl fun v1 a w hz1 hA => ?_
  obtain ⟨_, cs1, rfl, hE1, hi1⟩ := hz1
  have hI := hI.call hi1
  refine stp hA (r_mv hA rfl) rfl fun a hA => ?_
  obtain ⟨μ1, hle1, hsv1, hI⟩ := hI.freezeRow 0 rfl
  have hS1 : Slc (RI .u8) 1 μ1 v1 r1 := ⟨_, hE1, hsv1⟩
  have hE2 : Els (RS (RI .u8) 1 μ1) 1 ([r1, x3] : List (List Int)) ([[v1]].flatten ++ ([[u3]].flatten ++ ([]))) := (Els.cons (c := [[v1]].flatten) ⟨_, rfl, hS1⟩ rfl (Els.cons (c := [[u3]].flatten) ⟨_, rfl, (Slc.le hx3 (fun _ _ h => h) hle1)⟩ rfl Els.nil))
  refine o_bsl ([[v1]].flatten ++ ([[u3]].flatten ++ ([]))) te25 zr25 Tryd.underlying101 hI hA rfl rfl rfl rfl ((fill_one (cells1 hS1) rfl (by kernel_rfl)).trans ((fill_one (cells1 (Slc.le hx3 (fun _ _ h => h) hle1)) rfl (by kernel_rfl)).trans (by kernel_rfl))) rfl fun g3 a w hA hI => ?_
  generalize hcs : ([[v1]].flatten ++ ([[u3]].flatten ++ ([])) : List Value) = cs2 at hE2 hI
  clear hcs
  obtain ⟨r2, hr2, H⟩ := bB H
  refine o_call (fun v w' => ∃ (v0 : Value) (c0 : List Value), v = v0 ∧ Els (RI .u8) 1 r2 c0 ∧ Iv w [] μ1 μ1 [row 5 1 v0 r2.length c0] w') cf32 hA rfl ((by obtain ⟨μ2, hle2, hsv2, hI⟩ := hI.freezeRow 0 rfl; have hS2 : Slc (RS (RI .u8) 1 μ2) 1 μ2 (.slice (some ⟨g3, 0, none⟩) 2 2) ([r1, x3] : List (List Int)) := ⟨_, (Els.mono hE2 (fun _ _ h => RS.le (fun _ _ h => h) hle2 h)), hsv2⟩; exact (slices_Concat_byte_byte.c μ2 _ hI.agr ([r1, x3] : List (List Int)) (.slice (some ⟨g3, 0, none⟩) 2 2) hS2 r2 hr2).mono fun _ _ ⟨v, he, b0, b1, hv, f0, hi⟩ => ⟨v, he, b0, b1, hv, f0, hi.low hle2⟩)) rfl fun v2 a w hz2 hA => ?_
  obtain ⟨_, cs3, rfl, hE3, hi2⟩ := hz2
  have hI := hI.call hi2
  refine stp hA (r_as hA rfl) rfl fun a hA => ?_
  refine o_nil ?_
  refine hN2 _ _ ?_
  obtain ⟨⟨c1, c2, c3, c4⟩, hz3, Hk1⟩ := bB H
  refine w_cut (fun a w => ∃ (μ3 : Store) (vvc1 : Value) (vvc3 : Value) (ccc3 : List Value) (vvc4 : Value) (ccc4 : List Value), μ1.le μ3 ∧ Slc (RI .u8) 1 μ3 vvc1 c1 ∧ InR .u32 c2 ∧ Els (RIn μ3) 35 c3 ccc3 ∧ Els (ROut μ3) 33 c4 ccc4 ∧ Fr a 25 [(0, .int .i64 x0), (1, .int .u64 x1), (2, .agg [av .u8 32 x2].flatten.toArray), (3, u3), (6, .pointer (some ⟨g1, 0, none⟩)), (8, .pointer (some ⟨g2, 0, none⟩)), (9, vvc1)] ∧ Iv w0 [] μ μ3 [row 46 35 vvc3 c3.length ccc3, row 48 33 vvc4 c4.length ccc4, row 25 1 (.slice (some ⟨g3, 0, none⟩) 2 2) ([r1, x3] : List (List Int)).length cs2, cel g2 [[.int .u32 c2], [vvc3], [vvc4], [.int .u32 0]] 32, cel g1 [av .u8 32 x2] 24] w) ?_ ?_
  · have H := bI hz3
    refine w_anyS [] mo (fun w (h : Iv w0 [] μ μ1 [row 5 1 v2 r2.length cs3, row 25 1 (.slice (some ⟨g3, 0, none⟩) 2 2) ([r1, x3] : List (List Int)).length cs2, cel g2 [[.int .u32 0], [(.slice none 0 0)], [(.slice none 0 0)], [.int .u32 0]] 32, cel g1 [av .u8 32 x2] 24] w) => (h.sel [0, 1, 3] (by decide) rfl : Iv w0 [] μ μ1 [row 5 1 v2 r2.length cs3, row 25 1 (.slice (some ⟨g3, 0, none⟩) 2 2) ([r1, x3] : List (List Int)).length cs2, cel g1 [av .u8 32 x2] 24] w)) hI fun w hI => ?_
    refine g_easy (i := 1) hA rfl rfl (by kernel_rfl) (.inr (hI.sel [0, 1, 3] (by decide) rfl)) (fun _ => r_mv hA rfl) rfl fun a hA => ?_
    refine g_easy (i := 4) hA rfl rfl (by kernel_rfl) (.inr (hI.sel [0, 1, 3] (by decide) rfl)) (fun _ => r_mv hA rfl) rfl fun a hA => ?_
    refine g_take (i := 5) hA rfl rfl (by kernel_rfl) (hI.sel [0, 1, 3] (by decide) rfl) (fun w hI => r_ldA (j := 2) [] [av .u8 32 x2] [] Tryd.underlying24 rfl sz24 rfl hI rfl hA rfl rfl) rfl fun a hA => ?_
    refine g_fork (i := 0) (is := [6]) (by kernel_rfl) (List.forall_mem_cons.2 ⟨⟨_, rfl, ?_⟩, (List.forall_mem_cons.2 ⟨⟨_, rfl, ?_⟩, List.forall_mem_nil _⟩)⟩)
    · skip
      obtain ⟨r3, hr3, H⟩ := bB H
      refine o_callp (u := .agg [av .u8 32 r3.Tx, [.int .u32 r3.N]].flatten.toArray) cf34 hA rfl hI (spend_Null.c μ1 _ hI.agr  r3 hr3) rfl fun a w hz4 hI hA => ?_
      refine o_nil ?_
      refine ⟨(.inr (hI.sel [0, 1, 3] (by decide) rfl)), ?_⟩
      refine g_fork (i := 2) (is := [6]) (by kernel_rfl) (List.forall_mem_cons.2 ⟨⟨_, rfl, ?_⟩, (List.forall_mem_cons.2 ⟨⟨_, rfl, ?_⟩, List.forall_mem_nil _⟩)⟩)
      · skip
        refine stp hA (r_bldS (cs := [av .u8 32 r3.Tx, [.int .u32 r3.N], [v2], [.int .u32 4294967295]].flatten.toArray) (pl := [(0, 33), (33, 1), (34, 1)]) zr46 Tryd.underlying46 ⟨rfl, sz44, rfl, sz25, rfl, sz28, trivial⟩ hA rfl ((fill_seg [] [av .u8 32 (List.replicate 32 0), [.int .u32 0]] [av .u8 32 r3.Tx, [.int .u32 r3.N]] [[(.slice none 0 0)], [.int .u32 0]] rfl rfl rfl rfl rfl).trans ((fill_seg [av .u8 32 r3.Tx, [.int .u32 r3.N]] [[(.slice none 0 0)]] [[v2]] [[.int .u32 0]] (own_cell hI (j := 0) rfl) rfl rfl rfl rfl).trans ((fill_seg [av .u8 32 r3.Tx, [.int .u32 r3.N], [v2]] [[.int .u32 0]] [[.int .u32 4294967295]] [] rfl rfl rfl rfl rfl).trans (rfl))))) rfl fun a hA => ?_
        refine o_nil ?_
        refine ⟨(.inr (hI.sel [0, 1, 3] (by decide) rfl)), ?_⟩
        refine g_fork (i := 3) (is := [6]) (by kernel_rfl) (List.forall_mem_cons.2 ⟨⟨_, rfl, ?_⟩, (List.forall_mem_cons.2 ⟨⟨_, rfl, ?_⟩, List.forall_mem_nil _⟩)⟩)
        · skip
          obtain ⟨μ4, hle4, hsv3, hI, hth1⟩ := hI.freezeRowT 0 rfl
          have hS3 : Slc (RI .u8) 1 μ4 v2 r2 := ⟨_, hE3, hsv3⟩
          have hE4 : Els (RIn μ4) 35 ([(⟨r3, r2, 4294967295⟩ : In)] : List In) ([av .u8 32 r3.Tx, [.int .u32 r3.N], [v2], [.int .u32 4294967295]].flatten ++ ([])) := (Els.cons (c := [av .u8 32 r3.Tx, [.int .u32 r3.N], [v2], [.int .u32 4294967295]].flatten) ⟨v2, rfl, ⟨hz4.1, hz4.2, hS3, (in_lit .u32 4294967295 rfl)⟩⟩ rfl Els.nil)
          refine o_bsl ([av .u8 32 r3.Tx, [.int .u32 r3.N], [v2], [.int .u32 4294967295]].flatten ++ ([])) te46 zr46 Tryd.underlying29 hI hA rfl rfl rfl rfl (by kernel_rfl) rfl fun g4 a w hA hI => ?_
          generalize hcs : ([av .u8 32 r3.Tx, [.int .u32 r3.N], [v2], [.int .u32 4294967295]].flatten ++ ([]) : List Value) = cs4 at hE4 hI
          clear hcs
          refine o_nil ?_
          refine ⟨(.inr ((hth1 _ _ hI).sel [0, 2, 4] (by decide) rfl)), ?_⟩
          refine g_forced (i := 6) rfl (by kernel_rfl) ?_
          refine stp hA (r_bldS (cs := [[.int .u64 x1], av .u8 32 x2].flatten.toArray) (pl := [(0, 1), (1, 32)]) zr48 Tryd.underlying48 ⟨rfl, sz22, rfl, sz24, trivial⟩ hA rfl (by kernel_rfl)) rfl fun a hA => ?_
          refine o_nil ?_
          refine ⟨(.inr ((hth1 _ _ hI).sel [0, 2, 4] (by decide) rfl)), ?_⟩
          refine g_forced (i := 7) rfl (by kernel_rfl) ?_
          have hE5 : Els (ROut μ4) 33 ([(⟨x1, x2⟩ : Out)] : List Out) ([[.int .u64 x1], av .u8 32 x2].flatten ++ ([])) := (Els.cons (c := [[.int .u64 x1], av .u8 32 x2].flatten) ⟨rfl, ⟨hx1, hx2⟩⟩ rfl Els.nil)
          refine o_bsl ([[.int .u64 x1], av .u8 32 x2].flatten ++ ([])) te48 zr48 Tryd.underlying30 hI hA rfl rfl rfl rfl (by kernel_rfl) rfl fun g5 a w hA hI => ?_
          generalize hcs : ([[.int .u64 x1], av .u8 32 x2].flatten ++ ([]) : List Value) = cs5 at hE5 hI
          clear hcs
          refine o_nil ?_
          refine ⟨(.inr ((hth1 _ _ hI).sel [0, 3, 5] (by decide) rfl)), ?_⟩
          refine g_forced (i := 8) rfl (by kernel_rfl) ?_
          refine stp hA (r_bldS (cs := [[.int .u32 1], [(.slice (some ⟨g4, 0, none⟩) 1 1)], [(.slice (some ⟨g5, 0, none⟩) 1 1)], [.int .u32 0]].flatten.toArray) (pl := [(0, 1), (1, 1), (2, 1), (3, 1)]) zr32 Tryd.underlying32 ⟨rfl, sz28, rfl, sz29, rfl, sz30, rfl, sz28, trivial⟩ hA rfl ((fill_one rfl rfl (by kernel_rfl)).trans ((fill_one (own_cell hI (j := 1) rfl) rfl (by kernel_rfl)).trans ((fill_one (own_cell hI (j := 0) rfl) rfl (by kernel_rfl)).trans (by kernel_rfl))))) rfl fun a hA => ?_
          refine o_nil ?_
          refine ⟨(.inr ((hth1 _ _ hI).sel [0, 3, 5] (by decide) rfl)), ?_⟩
          refine g_forced (i := 9) rfl (by kernel_rfl) ?_
          refine o_st (j := 3) [] [[.int .u32 0], [(.slice none 0 0)], [(.slice none 0 0)], [.int .u32 0]] [[.int .u32 1], [(.slice (some ⟨g4, 0, none⟩) 1 1)], [(.slice (some ⟨g5, 0, none⟩) 1 1)], [.int .u32 0]] [] sz32 rfl rfl (fl_cons (one_one rfl) (fl_cons (one_one (own_one hI (j := 1) rfl)) (fl_cons (one_one (own_one hI (j := 0) rfl)) (fl_cons (one_one rfl) fl_nil)))) hI rfl hA rfl rfl rfl rfl fun w hI => ?_
          refine o_nil ?_
          refine ⟨(.inr ((hth1 _ _ hI).sel [0, 3, 5] (by decide) rfl)), ?_⟩
          refine g_nil (by kernel_rfl) ?_
          cases Option.some.inj (bS H)
          exact ⟨μ4, v2, (.slice (some ⟨g4, 0, none⟩) 1 1), cs4, (.slice (some ⟨g5, 0, none⟩) 1 1), cs5, hle4, hS3, (in_lit .u32 1 rfl), hE4, hE5, hA.sub ⟨rfl, rfl, rfl, rfl, rfl, rfl, rfl, trivial⟩, (hI.sel [1, 0, 2, 3, 4] (by decide) rfl)⟩
        · skip
          refine stp hA (r_bldS (cs := [[.int .u64 x1], av .u8 32 x2].flatten.toArray) (pl := [(0, 1), (1, 32)]) zr48 Tryd.underlying48 ⟨rfl, sz22, rfl, sz24, trivial⟩ hA rfl (by kernel_rfl)) rfl fun a hA => ?_
          refine o_nil ?_
          refine ⟨(.inr (hI.sel [0, 1, 3] (by decide) rfl)), ?_⟩
          refine g_fork (i := 3) (is := [7]) (by kernel_rfl) (List.forall_mem_cons.2 ⟨⟨_, rfl, ?_⟩, (List.forall_mem_cons.2 ⟨⟨_, rfl, ?_⟩, List.forall_mem_nil _⟩)⟩)
          · skip
            obtain ⟨μ4, hle4, hsv3, hI, hth1⟩ := hI.freezeRowT 0 rfl
            have hS3 : Slc (RI .u8) 1 μ4 v2 r2 := ⟨_, hE3, hsv3⟩
            have hE4 : Els (RIn μ4) 35 ([(⟨r3, r2, 4294967295⟩ : In)] : List In) ([av .u8 32 r3.Tx, [.int .u32 r3.N], [v2], [.int .u32 4294967295]].flatten ++ ([])) := (Els.cons (c := [av .u8 32 r3.Tx, [.int .u32 r3.N], [v2], [.int .u32 4294967295]].flatten) ⟨v2, rfl, ⟨hz4.1, hz4.2, hS3, (in_lit .u32 4294967295 rfl)⟩⟩ rfl Els.nil)
            refine o_bsl ([av .u8 32 r3.Tx, [.int .u32 r3.N], [v2], [.int .u32 4294967295]].flatten ++ ([])) te46 zr46 Tryd.underlying29 hI hA rfl rfl rfl rfl (by kernel_rfl) rfl fun g4 a w hA hI => ?_
            generalize hcs : ([av .u8 32 r3.Tx, [.int .u32 r3.N], [v2], [.int .u32 4294967295]].flatten ++ ([]) : List Value) = cs4 at hE4 hI
            clear hcs
            refine o_nil ?_
            refine ⟨(.inr ((hth1 _ _ hI).sel [0, 2, 4] (by decide) rfl)), ?_⟩
            refine g_forced (i := 7) rfl (by kernel_rfl) ?_
            have hE5 : Els (ROut μ4) 33 ([(⟨x1, x2⟩ : Out)] : List Out) ([[.int .u64 x1], av .u8 32 x2].flatten ++ ([])) := (Els.cons (c := [[.int .u64 x1], av .u8 32 x2].flatten) ⟨rfl, ⟨hx1, hx2⟩⟩ rfl Els.nil)
            refine o_bsl ([[.int .u64 x1], av .u8 32 x2].flatten ++ ([])) te48 zr48 Tryd.underlying30 hI hA rfl rfl rfl rfl (by kernel_rfl) rfl fun g5 a w hA hI => ?_
            generalize hcs : ([[.int .u64 x1], av .u8 32 x2].flatten ++ ([]) : List Value) = cs5 at hE5 hI
            clear hcs
            refine o_nil ?_
            refine ⟨(.inr ((hth1 _ _ hI).sel [0, 3, 5] (by decide) rfl)), ?_⟩
            refine g_forced (i := 8) rfl (by kernel_rfl) ?_
            refine stp hA (r_bldS (cs := [[.int .u32 1], [(.slice (some ⟨g4, 0, none⟩) 1 1)], [(.slice (some ⟨g5, 0, none⟩) 1 1)], [.int .u32 0]].flatten.toArray) (pl := [(0, 1), (1, 1), (2, 1), (3, 1)]) zr32 Tryd.underlying32 ⟨rfl, sz28, rfl, sz29, rfl, sz30, rfl, sz28, trivial⟩ hA rfl ((fill_one rfl rfl (by kernel_rfl)).trans ((fill_one (own_cell hI (j := 1) rfl) rfl (by kernel_rfl)).trans ((fill_one (own_cell hI (j := 0) rfl) rfl (by kernel_rfl)).trans (by kernel_rfl))))) rfl fun a hA => ?_
            refine o_nil ?_
            refine ⟨(.inr ((hth1 _ _ hI).sel [0, 3, 5] (by decide) rfl)), ?_⟩
            refine g_forced (i := 9) rfl (by kernel_rfl) ?_
            refine o_st (j := 3) [] [[.int .u32 0], [(.slice none 0 0)], [(.slice none 0 0)], [.int .u32 0]] [[.int .u32 1], [(.slice (some ⟨g4, 0, none⟩) 1 1)], [(.slice (some ⟨g5, 0, none⟩) 1 1)], [.int .u32 0]] [] sz32 rfl rfl (fl_cons (one_one rfl) (fl_cons (one_one (own_one hI (j := 1) rfl)) (fl_cons (one_one (own_one hI (j := 0) rfl)) (fl_cons (one_one rfl) fl_nil)))) hI rfl hA rfl rfl rfl rfl fun w hI => ?_
            refine o_nil ?_
            refine ⟨(.inr ((hth1 _ _ hI).sel [0, 3, 5] (by decide) rfl)), ?_⟩
            refine g_nil (by kernel_rfl) ?_
            cases Option.some.inj (bS H)
            exact ⟨μ4, v2, (.slice (some ⟨g4, 0, none⟩) 1 1), cs4, (.slice (some ⟨g5, 0, none⟩) 1 1), cs5, hle4, hS3, (in_lit .u32 1 rfl), hE4, hE5, hA.sub ⟨rfl, rfl, rfl, rfl, rfl, rfl, rfl, trivial⟩, (hI.sel [1, 0, 2, 3, 4] (by decide) rfl)⟩
          · skip
            have hE4 : Els (ROut μ1) 33 ([(⟨x1, x2⟩ : Out)] : List Out) ([[.int .u64 x1], av .u8 32 x2].flatten ++ ([])) := (Els.cons (c := [[.int .u64 x1], av .u8 32 x2].flatten) ⟨rfl, ⟨hx1, hx2⟩⟩ rfl Els.nil)
            refine o_bsl ([[.int .u64 x1], av .u8 32 x2].flatten ++ ([])) te48 zr48 Tryd.underlying30 hI hA rfl rfl rfl rfl (by kernel_rfl) rfl fun g4 a w hA hI => ?_
            generalize hcs : ([[.int .u64 x1], av .u8 32 x2].flatten ++ ([]) : List Value) = cs4 at hE4 hI
            clear hcs
            refine o_nil ?_
            refine ⟨(.inr (hI.sel [1, 2, 4] (by decide) rfl)), ?_⟩
            refine g_forced (i := 3) rfl (by kernel_rfl) ?_
            obtain ⟨μ4, hle4, hsv3, hI, hth1⟩ := hI.freezeRowT 1 rfl
            have hS3 : Slc (RI .u8) 1 μ4 v2 r2 := ⟨_, hE3, hsv3⟩
            have hE5 : Els (RIn μ4) 35 ([(⟨r3, r2, 4294967295⟩ : In)] : List In) ([av .u8 32 r3.Tx, [.int .u32 r3.N], [v2], [.int .u32 4294967295]].flatten ++ ([])) := (Els.cons (c := [av .u8 32 r3.Tx, [.int .u32 r3.N], [v2], [.int .u32 4294967295]].flatten) ⟨v2, rfl, ⟨hz4.1, hz4.2, hS3, (in_lit .u32 4294967295 rfl)⟩⟩ rfl Els.nil)
            refine o_bsl ([av .u8 32 r3.Tx, [.int .u32 r3.N], [v2], [.int .u32 4294967295]].flatten ++ ([])) te46 zr46 Tryd.underlying29 hI hA rfl rfl rfl rfl (by kernel_rfl) rfl fun g5 a w hA hI => ?_
            generalize hcs : ([av .u8 32 r3.Tx, [.int .u32 r3.N], [v2], [.int .u32 4294967295]].flatten ++ ([]) : List Value) = cs5 at hE5 hI
            clear hcs
            refine o_nil ?_
            refine ⟨(.inr ((hth1 _ _ hI).sel [0, 3, 5] (by decide) rfl)), ?_⟩
            refine g_forced (i := 8) rfl (by kernel_rfl) ?_
            refine stp hA (r_bldS (cs := [[.int .u32 1], [(.slice (some ⟨g5, 0, none⟩) 1 1)], [(.slice (some ⟨g4, 0, none⟩) 1 1)], [.int .u32 0]].flatten.toArray) (pl := [(0, 1), (1, 1), (2, 1), (3, 1)]) zr32 Tryd.underlying32 ⟨rfl, sz28, rfl, sz29, rfl, sz30, rfl, sz28, trivial⟩ hA rfl ((fill_one rfl rfl (by kernel_rfl)).trans ((fill_one (own_cell hI (j := 0) rfl) rfl (by kernel_rfl)).trans ((fill_one (own_cell hI (j := 1) rfl) rfl (by kernel_rfl)).trans (by kernel_rfl))))) rfl fun a hA => ?_
            refine o_nil ?_
            refine ⟨(.inr ((hth1 _ _ hI).sel [0, 3, 5] (by decide) rfl)), ?_⟩
            refine g_forced (i := 9) rfl (by kernel_rfl) ?_
            refine o_st (j := 3) [] [[.int .u32 0], [(.slice none 0 0)], [(.slice none 0 0)], [.int .u32 0]] [[.int .u32 1], [(.slice (some ⟨g5, 0, none⟩) 1 1)], [(.slice (some ⟨g4, 0, none⟩) 1 1)], [.int .u32 0]] [] sz32 rfl rfl (fl_cons (one_one rfl) (fl_cons (one_one (own_one hI (j := 0) rfl)) (fl_cons (one_one (own_one hI (j := 1) rfl)) (fl_cons (one_one rfl) fl_nil)))) hI rfl hA rfl rfl rfl rfl fun w hI => ?_
            refine o_nil ?_
            refine ⟨(.inr ((hth1 _ _ hI).sel [0, 3, 5] (by decide) rfl)), ?_⟩
            refine g_nil (by kernel_rfl) ?_
            cases Option.some.inj (bS H)
            exact ⟨μ4, v2, (.slice (some ⟨g5, 0, none⟩) 1 1), cs5, (.slice (some ⟨g4, 0, none⟩) 1 1), cs4, hle4, hS3, (in_lit .u32 1 rfl), hE5, (Els.mono hE4 (fun _ _ h => ROut.le hle4 h)), hA.sub ⟨rfl, rfl, rfl, rfl, rfl, rfl, rfl, trivial⟩, hI⟩
      · skip
        refine stp hA (r_bldS (cs := [[.int .u64 x1], av .u8 32 x2].flatten.toArray) (pl := [(0, 1), (1, 32)]) zr48 Tryd.underlying48 ⟨rfl, sz22, rfl, sz24, trivial⟩ hA rfl (by kernel_rfl)) rfl fun a hA => ?_
        refine o_nil ?_
        refine ⟨(.inr (hI.sel [0, 1, 3] (by decide) rfl)), ?_⟩
        refine g_fork (i := 2) (is := [7]) (by kernel_rfl) (List.forall_mem_cons.2 ⟨⟨_, rfl, ?_⟩, (List.forall_mem_cons.2 ⟨⟨_, rfl, ?_⟩, List.forall_mem_nil _⟩)⟩)
        · skip
          refine stp hA (r_bldS (cs := [av .u8 32 r3.Tx, [.int .u32 r3.N], [v2], [.int .u32 4294967295]].flatten.toArray) (pl := [(0, 33), (33, 1), (34, 1)]) zr46 Tryd.underlying46 ⟨rfl, sz44, rfl, sz25, rfl, sz28, trivial⟩ hA rfl ((fill_seg [] [av .u8 32 (List.replicate 32 0), [.int .u32 0]] [av .u8 32 r3.Tx, [.int .u32 r3.N]] [[(.slice none 0 0)], [.int .u32 0]] rfl rfl rfl rfl rfl).trans ((fill_seg [av .u8 32 r3.Tx, [.int .u32 r3.N]] [[(.slice none 0 0)]] [[v2]] [[.int .u32 0]] (own_cell hI (j := 0) rfl) rfl rfl rfl rfl).trans ((fill_seg [av .u8 32 r3.Tx, [.int .u32 r3.N], [v2]] [[.int .u32 0]] [[.int .u32 4294967295]] [] rfl rfl rfl rfl rfl).trans (rfl))))) rfl fun a hA => ?_
          refine o_nil ?_
          refine ⟨(.inr (hI.sel [0, 1, 3] (by decide) rfl)), ?_⟩
          refine g_fork (i := 3) (is := [7]) (by kernel_rfl) (List.forall_mem_cons.2 ⟨⟨_, rfl, ?_⟩, (List.forall_mem_cons.2 ⟨⟨_, rfl, ?_⟩, List.forall_mem_nil _⟩)⟩)
          · skip
            obtain ⟨μ4, hle4, hsv3, hI, hth1⟩ := hI.freezeRowT 0 rfl
            have hS3 : Slc (RI .u8) 1 μ4 v2 r2 := ⟨_, hE3, hsv3⟩
            have hE4 : Els (RIn μ4) 35 ([(⟨r3, r2, 4294967295⟩ : In)] : List In) ([av .u8 32 r3.Tx, [.int .u32 r3.N], [v2], [.int .u32 4294967295]].flatten ++ ([])) := (Els.cons (c := [av .u8 32 r3.Tx, [.int .u32 r3.N], [v2], [.int .u32 4294967295]].flatten) ⟨v2, rfl, ⟨hz4.1, hz4.2, hS3, (in_lit .u32 4294967295 rfl)⟩⟩ rfl Els.nil)
            refine o_bsl ([av .u8 32 r3.Tx, [.int .u32 r3.N], [v2], [.int .u32 4294967295]].flatten ++ ([])) te46 zr46 Tryd.underlying29 hI hA rfl rfl rfl rfl (by kernel_rfl) rfl fun g4 a w hA hI => ?_
            generalize hcs : ([av .u8 32 r3.Tx, [.int .u32 r3.N], [v2], [.int .u32 4294967295]].flatten ++ ([]) : List Value) = cs4 at hE4 hI
            clear hcs
            refine o_nil ?_
            refine ⟨(.inr ((hth1 _ _ hI).sel [0, 2, 4] (by decide) rfl)), ?_⟩
            refine g_forced (i := 7) rfl (by kernel_rfl) ?_
            have hE5 : Els (ROut μ4) 33 ([(⟨x1, x2⟩ : Out)] : List Out) ([[.int .u64 x1], av .u8 32 x2].flatten ++ ([])) := (Els.cons (c := [[.int .u64 x1], av .u8 32 x2].flatten) ⟨rfl, ⟨hx1, hx2⟩⟩ rfl Els.nil)
            refine o_bsl ([[.int .u64 x1], av .u8 32 x2].flatten ++ ([])) te48 zr48 Tryd.underlying30 hI hA rfl rfl rfl rfl (by kernel_rfl) rfl fun g5 a w hA hI => ?_
            generalize hcs : ([[.int .u64 x1], av .u8 32 x2].flatten ++ ([]) : List Value) = cs5 at hE5 hI
            clear hcs
            refine o_nil ?_
            refine ⟨(.inr ((hth1 _ _ hI).sel [0, 3, 5] (by decide) rfl)), ?_⟩
            refine g_forced (i := 8) rfl (by kernel_rfl) ?_
            refine stp hA (r_bldS (cs := [[.int .u32 1], [(.slice (some ⟨g4, 0, none⟩) 1 1)], [(.slice (some ⟨g5, 0, none⟩) 1 1)], [.int .u32 0]].flatten.toArray) (pl := [(0, 1), (1, 1), (2, 1), (3, 1)]) zr32 Tryd.underlying32 ⟨rfl, sz28, rfl, sz29, rfl, sz30, rfl, sz28, trivial⟩ hA rfl ((fill_one rfl rfl (by kernel_rfl)).trans ((fill_one (own_cell hI (j := 1) rfl) rfl (by kernel_rfl)).trans ((fill_one (own_cell hI (j := 0) rfl) rfl (by kernel_rfl)).trans (by kernel_rfl))))) rfl fun a hA => ?_
            refine o_nil ?_
            refine ⟨(.inr ((hth1 _ _ hI).sel [0, 3, 5] (by decide) rfl)), ?_⟩
            refine g_forced (i := 9) rfl (by kernel_rfl) ?_
            refine o_st (j := 3) [] [[.int .u32 0], [(.slice none 0 0)], [(.slice none 0 0)], [.int .u32 0]] [[.int .u32 1], [(.slice (some ⟨g4, 0, none⟩) 1 1)], [(.slice (some ⟨g5, 0, none⟩) 1 1)], [.int .u32 0]] [] sz32 rfl rfl (fl_cons (one_one rfl) (fl_cons (one_one (own_one hI (j := 1) rfl)) (fl_cons (one_one (own_one hI (j := 0) rfl)) (fl_cons (one_one rfl) fl_nil)))) hI rfl hA rfl rfl rfl rfl fun w hI => ?_
            refine o_nil ?_
            refine ⟨(.inr ((hth1 _ _ hI).sel [0, 3, 5] (by decide) rfl)), ?_⟩
            refine g_nil (by kernel_rfl) ?_
            cases Option.some.inj (bS H)
            exact ⟨μ4, v2, (.slice (some ⟨g4, 0, none⟩) 1 1), cs4, (.slice (some ⟨g5, 0, none⟩) 1 1), cs5, hle4, hS3, (in_lit .u32 1 rfl), hE4, hE5, hA.sub ⟨rfl, rfl, rfl, rfl, rfl, rfl, rfl, trivial⟩, (hI.sel [1, 0, 2, 3, 4] (by decide) rfl)⟩
          · skip
            have hE4 : Els (ROut μ1) 33 ([(⟨x1, x2⟩ : Out)] : List Out) ([[.int .u64 x1], av .u8 32 x2].flatten ++ ([])) := (Els.cons (c := [[.int .u64 x1], av .u8 32 x2].flatten) ⟨rfl, ⟨hx1, hx2⟩⟩ rfl Els.nil)
            refine o_bsl ([[.int .u64 x1], av .u8 32 x2].flatten ++ ([])) te48 zr48 Tryd.underlying30 hI hA rfl rfl rfl rfl (by kernel_rfl) rfl fun g4 a w hA hI => ?_
            generalize hcs : ([[.int .u64 x1], av .u8 32 x2].flatten ++ ([]) : List Value) = cs4 at hE4 hI
            clear hcs
            refine o_nil ?_
            refine ⟨(.inr (hI.sel [1, 2, 4] (by decide) rfl)), ?_⟩
            refine g_forced (i := 3) rfl (by kernel_rfl) ?_
            obtain ⟨μ4, hle4, hsv3, hI, hth1⟩ := hI.freezeRowT 1 rfl
            have hS3 : Slc (RI .u8) 1 μ4 v2 r2 := ⟨_, hE3, hsv3⟩
            have hE5 : Els (RIn μ4) 35 ([(⟨r3, r2, 4294967295⟩ : In)] : List In) ([av .u8 32 r3.Tx, [.int .u32 r3.N], [v2], [.int .u32 4294967295]].flatten ++ ([])) := (Els.cons (c := [av .u8 32 r3.Tx, [.int .u32 r3.N], [v2], [.int .u32 4294967295]].flatten) ⟨v2, rfl, ⟨hz4.1, hz4.2, hS3, (in_lit .u32 4294967295 rfl)⟩⟩ rfl Els.nil)
            refine o_bsl ([av .u8 32 r3.Tx, [.int .u32 r3.N], [v2], [.int .u32 4294967295]].flatten ++ ([])) te46 zr46 Tryd.underlying29 hI hA rfl rfl rfl rfl (by kernel_rfl) rfl fun g5 a w hA hI => ?_
            generalize hcs : ([av .u8 32 r3.Tx, [.int .u32 r3.N], [v2], [.int .u32 4294967295]].flatten ++ ([]) : List Value) = cs5 at hE5 hI
            clear hcs
            refine o_nil ?_
            refine ⟨(.inr ((hth1 _ _ hI).sel [0, 3, 5] (by decide) rfl)), ?_⟩
            refine g_forced (i := 8) rfl (by kernel_rfl) ?_
            refine stp hA (r_bldS (cs := [[.int .u32 1], [(.slice (some ⟨g5, 0, none⟩) 1 1)], [(.slice (some ⟨g4, 0, none⟩) 1 1)], [.int .u32 0]].flatten.toArray) (pl := [(0, 1), (1, 1), (2, 1), (3, 1)]) zr32 Tryd.underlying32 ⟨rfl, sz28, rfl, sz29, rfl, sz30, rfl, sz28, trivial⟩ hA rfl ((fill_one rfl rfl (by kernel_rfl)).trans ((fill_one (own_cell hI (j := 0) rfl) rfl (by kernel_rfl)).trans ((fill_one (own_cell hI (j := 1) rfl) rfl (by kernel_rfl)).trans (by kernel_rfl))))) rfl fun a hA => ?_
            refine o_nil ?_
            refine ⟨(.inr ((hth1 _ _ hI).sel [0, 3, 5] (by decide) rfl)), ?_⟩
            refine g_forced (i := 9) rfl (by kernel_rfl) ?_
            refine o_st (j := 3) [] [[.int .u32 0], [(.slice none 0 0)], [(.slice none 0 0)], [.int .u32 0]] [[.int .u32 1], [(.slice (some ⟨g5, 0, none⟩) 1 1)], [(.slice (some ⟨g4, 0, none⟩) 1 1)], [.int .u32 0]] [] sz32 rfl rfl (fl_cons (one_one rfl) (fl_cons (one_one (own_one hI (j := 0) rfl)) (fl_cons (one_one (own_one hI (j := 1) rfl)) (fl_cons (one_one rfl) fl_nil)))) hI rfl hA rfl rfl rfl rfl fun w hI => ?_
            refine o_nil ?_
            refine ⟨(.inr ((hth1 _ _ hI).sel [0, 3, 5] (by decide) rfl)), ?_⟩
            refine g_nil (by kernel_rfl) ?_
            cases Option.some.inj (bS H)
            exact ⟨μ4, v2, (.slice (some ⟨g5, 0, none⟩) 1 1), cs5, (.slice (some ⟨g4, 0, none⟩) 1 1), cs4, hle4, hS3, (in_lit .u32 1 rfl), hE5, (Els.mono hE4 (fun _ _ h => ROut.le hle4 h)), hA.sub ⟨rfl, rfl, rfl, rfl, rfl, rfl, rfl, trivial⟩, hI⟩
        · skip
          have hE4 : Els (ROut μ1) 33 ([(⟨x1, x2⟩ : Out)] : List Out) ([[.int .u64 x1], av .u8 32 x2].flatten ++ ([])) := (Els.cons (c := [[.int .u64 x1], av .u8 32 x2].flatten) ⟨rfl, ⟨hx1, hx2⟩⟩ rfl Els.nil)
          refine o_bsl ([[.int .u64 x1], av .u8 32 x2].flatten ++ ([])) te48 zr48 Tryd.underlying30 hI hA rfl rfl rfl rfl (by kernel_rfl) rfl fun g4 a w hA hI => ?_
          generalize hcs : ([[.int .u64 x1], av .u8 32 x2].flatten ++ ([]) : List Value) = cs4 at hE4 hI
          clear hcs
          refine o_nil ?_
          refine ⟨(.inr (hI.sel [1, 2, 4] (by decide) rfl)), ?_⟩
          refine g_forced (i := 2) rfl (by kernel_rfl) ?_
          refine stp hA (r_bldS (cs := [av .u8 32 r3.Tx, [.int .u32 r3.N], [v2], [.int .u32 4294967295]].flatten.toArray) (pl := [(0, 33), (33, 1), (34, 1)]) zr46 Tryd.underlying46 ⟨rfl, sz44, rfl, sz25, rfl, sz28, trivial⟩ hA rfl ((fill_seg [] [av .u8 32 (List.replicate 32 0), [.int .u32 0]] [av .u8 32 r3.Tx, [.int .u32 r3.N]] [[(.slice none 0 0)], [.int .u32 0]] rfl rfl rfl rfl rfl).trans ((fill_seg [av .u8 32 r3.Tx, [.int .u32 r3.N]] [[(.slice none 0 0)]] [[v2]] [[.int .u32 0]] (own_cell hI (j := 1) rfl) rfl rfl rfl rfl).trans ((fill_seg [av .u8 32 r3.Tx, [.int .u32 r3.N], [v2]] [[.int .u32 0]] [[.int .u32 4294967295]] [] rfl rfl rfl rfl rfl).trans (rfl))))) rfl fun a hA => ?_
          refine o_nil ?_
          refine ⟨(.inr (hI.sel [1, 2, 4] (by decide) rfl)), ?_⟩
          refine g_forced (i := 3) rfl (by kernel_rfl) ?_
          obtain ⟨μ4, hle4, hsv3, hI, hth1⟩ := hI.freezeRowT 1 rfl
          have hS3 : Slc (RI .u8) 1 μ4 v2 r2 := ⟨_, hE3, hsv3⟩
          have hE5 : Els (RIn μ4) 35 ([(⟨r3, r2, 4294967295⟩ : In)] : List In) ([av .u8 32 r3.Tx, [.int .u32 r3.N], [v2], [.int .u32 4294967295]].flatten ++ ([])) := (Els.cons (c := [av .u8 32 r3.Tx, [.int .u32 r3.N], [v2], [.int .u32 4294967295]].flatten) ⟨v2, rfl, ⟨hz4.1, hz4.2, hS3, (in_lit .u32 4294967295 rfl)⟩⟩ rfl Els.nil)
          refine o_bsl ([av .u8 32 r3.Tx, [.int .u32 r3.N], [v2], [.int .u32 4294967295]].flatten ++ ([])) te46 zr46 Tryd.underlying29 hI hA rfl rfl rfl rfl (by kernel_rfl) rfl fun g5 a w hA hI => ?_
          generalize hcs : ([av .u8 32 r3.Tx, [.int .u32 r3.N], [v2], [.int .u32 4294967295]].flatten ++ ([]) : List Value) = cs5 at hE5 hI
          clear hcs
          refine o_nil ?_
          refine ⟨(.inr ((hth1 _ _ hI).sel [0, 3, 5] (by decide) rfl)), ?_⟩
          refine g_forced (i := 8) rfl (by kernel_rfl) ?_
          refine stp hA (r_bldS (cs := [[.int .u32 1], [(.slice (some ⟨g5, 0, none⟩) 1 1)], [(.slice (some ⟨g4, 0, none⟩) 1 1)], [.int .u32 0]].flatten.toArray) (pl := [(0, 1), (1, 1), (2, 1), (3, 1)]) zr32 Tryd.underlying32 ⟨rfl, sz28, rfl, sz29, rfl, sz30, rfl, sz28, trivial⟩ hA rfl ((fill_one rfl rfl (by kernel_rfl)).trans ((fill_one (own_cell hI (j := 0) rfl) rfl (by kernel_rfl)).trans ((fill_one (own_cell hI (j := 1) rfl) rfl (by kernel_rfl)).trans (by kernel_rfl))))) rfl fun a hA => ?_
          refine o_nil ?_
          refine ⟨(.inr ((hth1 _ _ hI).sel [0, 3, 5] (by decide) rfl)), ?_⟩
          refine g_forced (i := 9) rfl (by kernel_rfl) ?_
          refine o_st (j := 3) [] [[.int .u32 0], [(.slice none 0 0)], [(.slice none 0 0)], [.int .u32 0]] [[.int .u32 1], [(.slice (some ⟨g5, 0, none⟩) 1 1)], [(.slice (some ⟨g4, 0, none⟩) 1 1)], [.int .u32 0]] [] sz32 rfl rfl (fl_cons (one_one rfl) (fl_cons (one_one (own_one hI (j := 0) rfl)) (fl_cons (one_one (own_one hI (j := 1) rfl)) (fl_cons (one_one rfl) fl_nil)))) hI rfl hA rfl rfl rfl rfl fun w hI => ?_
          refine o_nil ?_
          refine ⟨(.inr ((hth1 _ _ hI).sel [0, 3, 5] (by decide) rfl)), ?_⟩
          refine g_nil (by kernel_rfl) ?_
          cases Option.some.inj (bS H)
          exact ⟨μ4, v2, (.slice (some ⟨g5, 0, none⟩) 1 1), cs5, (.slice (some ⟨g4, 0, none⟩) 1 1), cs4, hle4, hS3, (in_lit .u32 1 rfl), hE5, (Els.mono hE4 (fun _ _ h => ROut.le hle4 h)), hA.sub ⟨rfl, rfl, rfl, rfl, rfl, rfl, rfl, trivial⟩, hI⟩
    · skip
      refine stp hA (r_bldS (cs := [[.int .u64 x1], av .u8 32 x2].flatten.toArray) (pl := [(0, 1), (1, 32)]) zr48 Tryd.underlying48 ⟨rfl, sz22, rfl, sz24, trivial⟩ hA rfl (by kernel_rfl)) rfl fun a hA => ?_
      refine o_nil ?_
      refine ⟨(.inr (hI.sel [0, 1, 3] (by decide) rfl)), ?_⟩
      refine g_fork (i := 0) (is := [7]) (by kernel_rfl) (List.forall_mem_cons.2 ⟨⟨_, rfl, ?_⟩, (List.forall_mem_cons.2 ⟨⟨_, rfl, ?_⟩, List.forall_mem_nil _⟩)⟩)
      · skip
        obtain ⟨r3, hr3, H⟩ := bB H
        refine o_callp (u := .agg [av .u8 32 r3.Tx, [.int .u32 r3.N]].flatten.toArray) cf34 hA rfl hI (spend_Null.c μ1 _ hI.agr  r3 hr3) rfl fun a w hz4 hI hA => ?_
        refine o_nil ?_
        refine ⟨(.inr (hI.sel [0, 1, 3] (by decide) rfl)), ?_⟩
        refine g_fork (i := 2) (is := [7]) (by kernel_rfl) (List.forall_mem_cons.2 ⟨⟨_, rfl, ?_⟩, (List.forall_mem_cons.2 ⟨⟨_, rfl, ?_⟩, List.forall_mem_nil _⟩)⟩)
        · skip
          refine stp hA (r_bldS (cs := [av .u8 32 r3.Tx, [.int .u32 r3.N], [v2], [.int .u32 4294967295]].flatten.toArray) (pl := [(0, 33), (33, 1), (34, 1)]) zr46 Tryd.underlying46 ⟨rfl, sz44, rfl, sz25, rfl, sz28, trivial⟩ hA rfl ((fill_seg [] [av .u8 32 (List.replicate 32 0), [.int .u32 0]] [av .u8 32 r3.Tx, [.int .u32 r3.N]] [[(.slice none 0 0)], [.int .u32 0]] rfl rfl rfl rfl rfl).trans ((fill_seg [av .u8 32 r3.Tx, [.int .u32 r3.N]] [[(.slice none 0 0)]] [[v2]] [[.int .u32 0]] (own_cell hI (j := 0) rfl) rfl rfl rfl rfl).trans ((fill_seg [av .u8 32 r3.Tx, [.int .u32 r3.N], [v2]] [[.int .u32 0]] [[.int .u32 4294967295]] [] rfl rfl rfl rfl rfl).trans (rfl))))) rfl fun a hA => ?_
          refine o_nil ?_
          refine ⟨(.inr (hI.sel [0, 1, 3] (by decide) rfl)), ?_⟩
          refine g_fork (i := 3) (is := [7]) (by kernel_rfl) (List.forall_mem_cons.2 ⟨⟨_, rfl, ?_⟩, (List.forall_mem_cons.2 ⟨⟨_, rfl, ?_⟩, List.forall_mem_nil _⟩)⟩)
          · skip
            obtain ⟨μ4, hle4, hsv3, hI, hth1⟩ := hI.freezeRowT 0 rfl
            have hS3 : Slc (RI .u8) 1 μ4 v2 r2 := ⟨_, hE3, hsv3⟩
            have hE4 : Els (RIn μ4) 35 ([(⟨r3, r2, 4294967295⟩ : In)] : List In) ([av .u8 32 r3.Tx, [.int .u32 r3.N], [v2], [.int .u32 4294967295]].flatten ++ ([])) := (Els.cons (c := [av .u8 32 r3.Tx, [.int .u32 r3.N], [v2], [.int .u32 4294967295]].flatten) ⟨v2, rfl, ⟨hz4.1, hz4.2, hS3, (in_lit .u32 4294967295 rfl)⟩⟩ rfl Els.nil)
            refine o_bsl ([av .u8 32 r3.Tx, [.int .u32 r3.N], [v2], [.int .u32 4294967295]].flatten ++ ([])) te46 zr46 Tryd.underlying29 hI hA rfl rfl rfl rfl (by kernel_rfl) rfl fun g4 a w hA hI => ?_
            generalize hcs : ([av .u8 32 r3.Tx, [.int .u32 r3.N], [v2], [.int .u32 4294967295]].flatten ++ ([]) : List Value) = cs4 at hE4 hI
            clear hcs
            refine o_nil ?_
            refine ⟨(.inr ((hth1 _ _ hI).sel [0, 2, 4] (by decide) rfl)), ?_⟩
            refine g_forced (i := 7) rfl (by kernel_rfl) ?_
            have hE5 : Els (ROut μ4) 33 ([(⟨x1, x2⟩ : Out)] : List Out) ([[.int .u64 x1], av .u8 32 x2].flatten ++ ([])) := (Els.cons (c := [[.int .u64 x1], av .u8 32 x2].flatten) ⟨rfl, ⟨hx1, hx2⟩⟩ rfl Els.nil)
            refine o_bsl ([[.int .u64 x1], av .u8 32 x2].flatten ++ ([])) te48 zr48 Tryd.underlying30 hI hA rfl rfl rfl rfl (by kernel_rfl) rfl fun g5 a w hA hI => ?_
            generalize hcs : ([[.int .u64 x1], av .u8 32 x2].flatten ++ ([]) : List Value) = cs5 at hE5 hI
            clear hcs
            refine o_nil ?_
            refine ⟨(.inr ((hth1 _ _ hI).sel [0, 3, 5] (by decide) rfl)), ?_⟩
            refine g_forced (i := 8) rfl (by kernel_rfl) ?_
            refine stp hA (r_bldS (cs := [[.int .u32 1], [(.slice (some ⟨g4, 0, none⟩) 1 1)], [(.slice (some ⟨g5, 0, none⟩) 1 1)], [.int .u32 0]].flatten.toArray) (pl := [(0, 1), (1, 1), (2, 1), (3, 1)]) zr32 Tryd.underlying32 ⟨rfl, sz28, rfl, sz29, rfl, sz30, rfl, sz28, trivial⟩ hA rfl ((fill_one rfl rfl (by kernel_rfl)).trans ((fill_one (own_cell hI (j := 1) rfl) rfl (by kernel_rfl)).trans ((fill_one (own_cell hI (j := 0) rfl) rfl (by kernel_rfl)).trans (by kernel_rfl))))) rfl fun a hA => ?_
            refine o_nil ?_
            refine ⟨(.inr ((hth1 _ _ hI).sel [0, 3, 5] (by decide) rfl)), ?_⟩
            refine g_forced (i := 9) rfl (by kernel_rfl) ?_
            refine o_st (j := 3) [] [[.int .u32 0], [(.slice none 0 0)], [(.slice none 0 0)], [.int .u32 0]] [[.int .u32 1], [(.slice (some ⟨g4, 0, none⟩) 1 1)], [(.slice (some ⟨g5, 0, none⟩) 1 1)], [.int .u32 0]] [] sz32 rfl rfl (fl_cons (one_one rfl) (fl_cons (one_one (own_one hI (j := 1) rfl)) (fl_cons (one_one (own_one hI (j := 0) rfl)) (fl_cons (one_one rfl) fl_nil)))) hI rfl hA rfl rfl rfl rfl fun w hI => ?_
            refine o_nil ?_
            refine ⟨(.inr ((hth1 _ _ hI).sel [0, 3, 5] (by decide) rfl)), ?_⟩
            refine g_nil (by kernel_rfl) ?_
            cases Option.some.inj (bS H)
            exact ⟨μ4, v2, (.slice (some ⟨g4, 0, none⟩) 1 1), cs4, (.slice (some ⟨g5, 0, none⟩) 1 1), cs5, hle4, hS3, (in_lit .u32 1 rfl), hE4, hE5, hA.sub ⟨rfl, rfl, rfl, rfl, rfl, rfl, rfl, trivial⟩, (hI.sel [1, 0, 2, 3, 4] (by decide) rfl)⟩
          · skip
            have hE4 : Els (ROut μ1) 33 ([(⟨x1, x2⟩ : Out)] : List Out) ([[.int .u64 x1], av .u8 32 x2].flatten ++ ([])) := (Els.cons (c := [[.int .u64 x1], av .u8 32 x2].flatten) ⟨rfl, ⟨hx1, hx2⟩⟩ rfl Els.nil)
            refine o_bsl ([[.int .u64 x1], av .u8 32 x2].flatten ++ ([])) te48 zr48 Tryd.underlying30 hI hA rfl rfl rfl rfl (by kernel_rfl) rfl fun g4 a w hA hI => ?_
            generalize hcs : ([[.int .u64 x1], av .u8 32 x2].flatten ++ ([]) : List Value) = cs4 at hE4 hI
            clear hcs
            refine o_nil ?_
            refine ⟨(.inr (hI.sel [1, 2, 4] (by decide) rfl)), ?_⟩
            refine g_forced (i := 3) rfl (by kernel_rfl) ?_
            obtain ⟨μ4, hle4, hsv3, hI, hth1⟩ := hI.freezeRowT 1 rfl
            have hS3 : Slc (RI .u8) 1 μ4 v2 r2 := ⟨_, hE3, hsv3⟩
            have hE5 : Els (RIn μ4) 35 ([(⟨r3, r2, 4294967295⟩ : In)] : List In) ([av .u8 32 r3.Tx, [.int .u32 r3.N], [v2], [.int .u32 4294967295]].flatten ++ ([])) := (Els.cons (c := [av .u8 32 r3.Tx, [.int .u32 r3.N], [v2], [.int .u32 4294967295]].flatten) ⟨v2, rfl, ⟨hz4.1, hz4.2, hS3, (in_lit .u32 4294967295 rfl)⟩⟩ rfl Els.nil)
            refine o_bsl ([av .u8 32 r3.Tx, [.int .u32 r3.N], [v2], [.int .u32 4294967295]].flatten ++ ([])) te46 zr46 Tryd.underlying29 hI hA rfl rfl rfl rfl (by kernel_rfl) rfl fun g5 a w hA hI => ?_
            generalize hcs : ([av .u8 32 r3.Tx, [.int .u32 r3.N], [v2], [.int .u32 4294967295]].flatten ++ ([]) : List Value) = cs5 at hE5 hI
            clear hcs
            refine o_nil ?_
            refine ⟨(.inr ((hth1 _ _ hI).sel [0, 3, 5] (by decide) rfl)), ?_⟩
            refine g_forced (i := 8) rfl (by kernel_rfl) ?_
            refine stp hA (r_bldS (cs := [[.int .u32 1], [(.slice (some ⟨g5, 0, none⟩) 1 1)], [(.slice (some ⟨g4, 0, none⟩) 1 1)], [.int .u32 0]].flatten.toArray) (pl := [(0, 1), (1, 1), (2, 1), (3, 1)]) zr32 Tryd.underlying32 ⟨rfl, sz28, rfl, sz29, rfl, sz30, rfl, sz28, trivial⟩ hA rfl ((fill_one rfl rfl (by kernel_rfl)).trans ((fill_one (own_cell hI (j := 0) rfl) rfl (by kernel_rfl)).trans ((fill_one (own_cell hI (j := 1) rfl) rfl (by kernel_rfl)).trans (by kernel_rfl))))) rfl fun a hA => ?_
            refine o_nil ?_
            refine ⟨(.inr ((hth1 _ _ hI).sel [0, 3, 5] (by decide) rfl)), ?_⟩
            refine g_forced (i := 9) rfl (by kernel_rfl) ?_
            refine o_st (j := 3) [] [[.int .u32 0], [(.slice none 0 0)], [(.slice none 0 0)], [.int .u32 0]] [[.int .u32 1], [(.slice (some ⟨g5, 0, none⟩) 1 1)], [(.slice (some ⟨g4, 0, none⟩) 1 1)], [.int .u32 0]] [] sz32 rfl rfl (fl_cons (one_one rfl) (fl_cons (one_one (own_one hI (j := 0) rfl)) (fl_cons (one_one (own_one hI (j := 1) rfl)) (fl_cons (one_one rfl) fl_nil)))) hI rfl hA rfl rfl rfl rfl fun w hI => ?_
            refine o_nil ?_
            refine ⟨(.inr ((hth1 _ _ hI).sel [0, 3, 5] (by decide) rfl)), ?_⟩
            refine g_nil (by kernel_rfl) ?_
            cases Option.some.inj (bS H)
            exact ⟨μ4, v2, (.slice (some ⟨g5, 0, none⟩) 1 1), cs5, (.slice (some ⟨g4, 0, none⟩) 1 1), cs4, hle4, hS3, (in_lit .u32 1 rfl), hE5, (Els.mono hE4 (fun _ _ h => ROut.le hle4 h)), hA.sub ⟨rfl, rfl, rfl, rfl, rfl, rfl, rfl, trivial⟩, hI⟩
        · skip
          have hE4 : Els (ROut μ1) 33 ([(⟨x1, x2⟩ : Out)] : List Out) ([[.int .u64 x1], av .u8 32 x2].flatten ++ ([])) := (Els.cons (c := [[.int .u64 x1], av .u8 32 x2].flatten) ⟨rfl, ⟨hx1, hx2⟩⟩ rfl Els.nil)
          refine o_bsl ([[.int .u64 x1], av .u8 32 x2].flatten ++ ([])) te48 zr48 Tryd.underlying30 hI hA rfl rfl rfl rfl (by kernel_rfl) rfl fun g4 a w hA hI => ?_
          generalize hcs : ([[.int .u64 x1], av .u8 32 x2].flatten ++ ([]) : List Value) = cs4 at hE4 hI
          clear hcs
          refine o_nil ?_
          refine ⟨(.inr (hI.sel [1, 2, 4] (by decide) rfl)), ?_⟩
          refine g_forced (i := 2) rfl (by kernel_rfl) ?_
          refine stp hA (r_bldS (cs := [av .u8 32 r3.Tx, [.int .u32 r3.N], [v2], [.int .u32 4294967295]].flatten.toArray) (pl := [(0, 33), (33, 1), (34, 1)]) zr46 Tryd.underlying46 ⟨rfl, sz44, rfl, sz25, rfl, sz28, trivial⟩ hA rfl ((fill_seg [] [av .u8 32 (List.replicate 32 0), [.int .u32 0]] [av .u8 32 r3.Tx, [.int .u32 r3.N]] [[(.slice none 0 0)], [.int .u32 0]] rfl rfl rfl rfl rfl).trans ((fill_seg [av .u8 32 r3.Tx, [.int .u32 r3.N]] [[(.slice none 0 0)]] [[v2]] [[.int .u32 0]] (own_cell hI (j := 1) rfl) rfl rfl rfl rfl).trans ((fill_seg [av .u8 32 r3.Tx, [.int .u32 r3.N], [v2]] [[.int .u32 0]] [[.int .u32 4294967295]] [] rfl rfl rfl rfl rfl).trans (rfl))))) rfl fun a hA => ?_
          refine o_nil ?_
          refine ⟨(.inr (hI.sel [1, 2, 4] (by decide) rfl)), ?_⟩
          refine g_forced (i := 3) rfl (by kernel_rfl) ?_
          obtain ⟨μ4, hle4, hsv3, hI, hth1⟩ := hI.freezeRowT 1 rfl
          have hS3 : Slc (RI .u8) 1 μ4 v2 r2 := ⟨_, hE3, hsv3⟩
          have hE5 : Els (RIn μ4) 35 ([(⟨r3, r2, 4294967295⟩ : In)] : List In) ([av .u8 32 r3.Tx, [.int .u32 r3.N], [v2], [.int .u32 4294967295]].flatten ++ ([])) := (Els.cons (c := [av .u8 32 r3.Tx, [.int .u32 r3.N], [v2], [.int .u32 4294967295]].flatten) ⟨v2, rfl, ⟨hz4.1, hz4.2, hS3, (in_lit .u32 4294967295 rfl)⟩⟩ rfl Els.nil)
          refine o_bsl ([av .u8 32 r3.Tx, [.int .u32 r3.N], [v2], [.int .u32 4294967295]].flatten ++ ([])) te46 zr46 Tryd.underlying29 hI hA rfl rfl rfl rfl (by kernel_rfl) rfl fun g5 a w hA hI => ?_
          generalize hcs : ([av .u8 32 r3.Tx, [.int .u32 r3.N], [v2], [.int .u32 4294967295]].flatten ++ ([]) : List Value) = cs5 at hE5 hI
          clear hcs
          refine o_nil ?_
          refine ⟨(.inr ((hth1 _ _ hI).sel [0, 3, 5] (by decide) rfl)), ?_⟩
          refine g_forced (i := 8) rfl (by kernel_rfl) ?_
          refine stp hA (r_bldS (cs := [[.int .u32 1], [(.slice (some ⟨g5, 0, none⟩) 1 1)], [(.slice (some ⟨g4, 0, none⟩) 1 1)], [.int .u32 0]].flatten.toArray) (pl := [(0, 1), (1, 1), (2, 1), (3, 1)]) zr32 Tryd.underlying32 ⟨rfl, sz28, rfl, sz29, rfl, sz30, rfl, sz28, trivial⟩ hA rfl ((fill_one rfl rfl (by kernel_rfl)).trans ((fill_one (own_cell hI (j := 0) rfl) rfl (by kernel_rfl)).trans ((fill_one (own_cell hI (j := 1) rfl) rfl (by kernel_rfl)).trans (by kernel_rfl))))) rfl fun a hA => ?_
          refine o_nil ?_
          refine ⟨(.inr ((hth1 _ _ hI).sel [0, 3, 5] (by decide) rfl)), ?_⟩
          refine g_forced (i := 9) rfl (by kernel_rfl) ?_
          refine o_st (j := 3) [] [[.int .u32 0], [(.slice none 0 0)], [(.slice none 0 0)], [.int .u32 0]] [[.int .u32 1], [(.slice (some ⟨g5, 0, none⟩) 1 1)], [(.slice (some ⟨g4, 0, none⟩) 1 1)], [.int .u32 0]] [] sz32 rfl rfl (fl_cons (one_one rfl) (fl_cons (one_one (own_one hI (j := 0) rfl)) (fl_cons (one_one (own_one hI (j := 1) rfl)) (fl_cons (one_one rfl) fl_nil)))) hI rfl hA rfl rfl rfl rfl fun w hI => ?_
          refine o_nil ?_
          refine ⟨(.inr ((hth1 _ _ hI).sel [0, 3, 5] (by decide) rfl)), ?_⟩
          refine g_nil (by kernel_rfl) ?_
          cases Option.some.inj (bS H)
          exact ⟨μ4, v2, (.slice (some ⟨g5, 0, none⟩) 1 1), cs5, (.slice (some ⟨g4, 0, none⟩) 1 1), cs4, hle4, hS3, (in_lit .u32 1 rfl), hE5, (Els.mono hE4 (fun _ _ h => ROut.le hle4 h)), hA.sub ⟨rfl, rfl, rfl, rfl, rfl, rfl, rfl, trivial⟩, hI⟩
      · skip
        have hE4 : Els (ROut μ1) 33 ([(⟨x1, x2⟩ : Out)] : List Out) ([[.int .u64 x1], av .u8 32 x2].flatten ++ ([])) := (Els.cons (c := [[.int .u64 x1], av .u8 32 x2].flatten) ⟨rfl, ⟨hx1, hx2⟩⟩ rfl Els.nil)
        refine o_bsl ([[.int .u64 x1], av .u8 32 x2].flatten ++ ([])) te48 zr48 Tryd.underlying30 hI hA rfl rfl rfl rfl (by kernel_rfl) rfl fun g4 a w hA hI => ?_
        generalize hcs : ([[.int .u64 x1], av .u8 32 x2].flatten ++ ([]) : List Value) = cs4 at hE4 hI
        clear hcs
        refine o_nil ?_
        refine ⟨(.inr (hI.sel [1, 2, 4] (by decide) rfl)), ?_⟩
        refine g_forced (i := 0) rfl (by kernel_rfl) ?_
        obtain ⟨r3, hr3, H⟩ := bB H
        refine o_callp (u := .agg [av .u8 32 r3.Tx, [.int .u32 r3.N]].flatten.toArray) cf34 hA rfl hI (spend_Null.c μ1 _ hI.agr  r3 hr3) rfl fun a w hz4 hI hA => ?_
        refine o_nil ?_
        refine ⟨(.inr (hI.sel [1, 2, 4] (by decide) rfl)), ?_⟩
        refine g_forced (i := 2) rfl (by kernel_rfl) ?_
        refine stp hA (r_bldS (cs := [av .u8 32 r3.Tx, [.int .u32 r3.N], [v2], [.int .u32 4294967295]].flatten.toArray) (pl := [(0, 33), (33, 1), (34, 1)]) zr46 Tryd.underlying46 ⟨rfl, sz44, rfl, sz25, rfl, sz28, trivial⟩ hA rfl ((fill_seg [] [av .u8 32 (List.replicate 32 0), [.int .u32 0]] [av .u8 32 r3.Tx, [.int .u32 r3.N]] [[(.slice none 0 0)], [.int .u32 0]] rfl rfl rfl rfl rfl).trans ((fill_seg [av .u8 32 r3.Tx, [.int .u32 r3.N]] [[(.slice none 0 0)]] [[v2]] [[.int .u32 0]] (own_cell hI (j := 1) rfl) rfl rfl rfl rfl).trans ((fill_seg [av .u8 32 r3.Tx, [.int .u32 r3.N], [v2]] [[.int .u32 0]] [[.int .u32 4294967295]] [] rfl rfl rfl rfl rfl).trans (rfl))))) rfl fun a hA => ?_
        refine o_nil ?_
        refine ⟨(.inr (hI.sel [1, 2, 4] (by decide) rfl)), ?_⟩
        refine g_forced (i := 3) rfl (by kernel_rfl) ?_
        obtain ⟨μ4, hle4, hsv3, hI, hth1⟩ := hI.freezeRowT 1 rfl
        have hS3 : Slc (RI .u8) 1 μ4 v2 r2 := ⟨_, hE3, hsv3⟩
        have hE5 : Els (RIn μ4) 35 ([(⟨r3, r2, 4294967295⟩ : In)] : List In) ([av .u8 32 r3.Tx, [.int .u32 r3.N], [v2], [.int .u32 4294967295]].flatten ++ ([])) := (Els.cons (c := [av .u8 32 r3.Tx, [.int .u32 r3.N], [v2], [.int .u32 4294967295]].flatten) ⟨v2, rfl, ⟨hz4.1, hz4.2, hS3, (in_lit .u32 4294967295 rfl)⟩⟩ rfl Els.nil)
        refine o_bsl ([av .u8 32 r3.Tx, [.int .u32 r3.N], [v2], [.int .u32 4294967295]].flatten ++ ([])) te46 zr46 Tryd.underlying29 hI hA rfl rfl rfl rfl (by kernel_rfl) rfl fun g5 a w hA hI => ?_
        generalize hcs : ([av .u8 32 r3.Tx, [.int .u32 r3.N], [v2], [.int .u32 4294967295]].flatten ++ ([]) : List Value) = cs5 at hE5 hI
        clear hcs
        refine o_nil ?_
        refine ⟨(.inr ((hth1 _ _ hI).sel [0, 3, 5] (by decide) rfl)), ?_⟩
        refine g_forced (i := 8) rfl (by kernel_rfl) ?_
        refine stp hA (r_bldS (cs := [[.int .u32 1], [(.slice (some ⟨g5, 0, none⟩) 1 1)], [(.slice (some ⟨g4, 0, none⟩) 1 1)], [.int .u32 0]].flatten.toArray) (pl := [(0, 1), (1, 1), (2, 1), (3, 1)]) zr32 Tryd.underlying32 ⟨rfl, sz28, rfl, sz29, rfl, sz30, rfl, sz28, trivial⟩ hA rfl ((fill_one rfl rfl (by kernel_rfl)).trans ((fill_one (own_cell hI (j := 0) rfl) rfl (by kernel_rfl)).trans ((fill_one (own_cell hI (j := 1) rfl) rfl (by kernel_rfl)).trans (by kernel_rfl))))) rfl fun a hA => ?_
        refine o_nil ?_
        refine ⟨(.inr ((hth1 _ _ hI).sel [0, 3, 5] (by decide) rfl)), ?_⟩
        refine g_forced (i := 9) rfl (by kernel_rfl) ?_
        refine o_st (j := 3) [] [[.int .u32 0], [(.slice none 0 0)], [(.slice none 0 0)], [.int .u32 0]] [[.int .u32 1], [(.slice (some ⟨g5, 0, none⟩) 1 1)], [(.slice (some ⟨g4, 0, none⟩) 1 1)], [.int .u32 0]] [] sz32 rfl rfl (fl_cons (one_one rfl) (fl_cons (one_one (own_one hI (j := 0) rfl)) (fl_cons (one_one (own_one hI (j := 1) rfl)) (fl_cons (one_one rfl) fl_nil)))) hI rfl hA rfl rfl rfl rfl fun w hI => ?_
        refine o_nil ?_
        refine ⟨(.inr ((hth1 _ _ hI).sel [0, 3, 5] (by decide) rfl)), ?_⟩
        refine g_nil (by kernel_rfl) ?_
        cases Option.some.inj (bS H)
        exact ⟨μ4, v2, (.slice (some ⟨g5, 0, none⟩) 1 1), cs5, (.slice (some ⟨g4, 0, none⟩) 1 1), cs4, hle4, hS3, (in_lit .u32 1 rfl), hE5, (Els.mono hE4 (fun _ _ h => ROut.le hle4 h)), hA.sub ⟨rfl, rfl, rfl, rfl, rfl, rfl, rfl, trivial⟩, hI⟩
  · rintro a w ⟨μ3, vvc1, vvc3, ccc3, vvc4, ccc4, hle3, wc1, wc2, wc3, wc4, hA, hI⟩
    have H := Hk1
    refine w_ret ?_
    obtain ⟨μ5, hle5, hsv4, hI⟩ := hI.freezeRow 0 rfl
    have hS4 : Slc (RIn μ5) 35 μ5 vvc3 c3 := ⟨_, (Els.mono wc3 (fun _ _ h => RIn.le hle5 h)), hsv4⟩
    obtain ⟨μ6, hle6, hsv5, hI⟩ := hI.freezeRow 0 rfl
    have hS5 : Slc (ROut μ6) 33 μ6 vvc4 c4 := ⟨_, (Els.mono wc4 (fun _ _ h => ROut.le (hle5.trans hle6) h)), hsv5⟩
    obtain rfl := Option.some.inj (bS H)
    exact retc Tryd.underlying32 rfl sz32 rfl hI (j := 1) rfl hA Tryd.results9 rfl ⟨_, rfl, vvc3, vvc4, μ6, rfl, ⟨wc2, (Slc.le hS4 (fun _ _ h => RIn.le hle6 h) hle6), hS5, (in_lit .u32 0 rfl)⟩, (hI.sel [] (by decide) rfl)⟩
set_option maxRecDepth 20000 in
theorem block_IDs.c (μ : Store) (w0 : World) (hμ : Agr μ w0) (x0 : Block) (u0_0 : Value) (hx0 : BlockW μ x0 u0_0) (r : List (List Int)) (H : block_IDs.f x0 = some r) :
    Calls Tryd.prog 29 [.agg [[.int .u32 x0.Head.Version], av .u8 32 x0.Head.Prev, av .u8 32 x0.Head.Root, [.int .u32 x0.Head.Time], [.int .u32 x0.Head.Work], [.int .u32 x0.Head.Nonce], [u0_0]].flatten.toArray].toArray w0 (fun e w' => ∃ v, e = .returned v ∧ ∃ (v0 : Value) (c0 : List Value), v = v0 ∧ Els (RA .u8 32) 32 r c0 ∧ Iv w0 [] μ μ [row 24 32 v0 r.length c0] w') := by
  refine enter Tryd.func29 rfl Tryd.ntmps29 rfl fun a hA => ?_
  have hI := Iv.start hμ
  have H := bI H
  refine w_seq fun _ hN1 => ?_
  refine w_reg ?_
  refine o_box [[.int .u32 x0.Head.Version], av .u8 32 x0.Head.Prev, av .u8 32 x0.Head.Root, [.int .u32 x0.Head.Time], [.int .u32 x0.Head.Work], [.int .u32 x0.Head.Nonce], [u0_0]] hI hA rfl rfl rfl fun g1 a w hA hI hg1 => 
    stp hA (r_as hA rfl) rfl fun a hA => ?_
  refine o_nil ?_
  refine hN1 _ _ ?_
  refine w_seq fun _ hN2 => ?_
  refine w_reg ?_
  refine stp hA (r_as hA rfl) rfl fun a hA => ?_
  refine o_nil ?_
  refine hN2 _ _ ?_
  obtain ⟨c1, hz1, Hk1⟩ := bB H
  refine w_cut (fun a w => ∃ (vvc1 : Value) (ccc1 : List Value), Els (RA .u8 32) 32 c1 ccc1 ∧ Fr a 20 [(0, .agg [[.int .u32 x0.Head.Version], av .u8 32 x0.Head.Prev, av .u8 32 x0.Head.Root, [.int .u32 x0.Head.Time], [.int .u32 x0.Head.Work], [.int .u32 x0.Head.Nonce], [u0_0]].flatten.toArray), (1, .pointer (some ⟨g1, 0, none⟩)), (2, (.slice none 0 0)), (3, vvc1)] ∧ Iv w0 [] μ μ [row 24 32 vvc1 c1.length ccc1, cel g1 [[.int .u32 x0.Head.Version], av .u8 32 x0.Head.Prev, av .u8 32 x0.Head.Root, [.int .u32 x0.Head.Time], [.int .u32 x0.Head.Work], [.int .u32 x0.Head.Nonce], [u0_0]] 39] w) ?_ ?_
  · have H := bI hz1
    refine w_seq fun _ hN3 => ?_
    refine w_reg ?_
    refine stp hA (r_fd (k := 68) Tryd.underlying39 rfl sz37 hA rfl rfl) rfl fun a hA => 
      stp hA (r_ld1 (j := 0) [[.int .u32 x0.Head.Version], av .u8 32 x0.Head.Prev, av .u8 32 x0.Head.Root, [.int .u32 x0.Head.Time], [.int .u32 x0.Head.Work], [.int .u32 x0.Head.Nonce]] [] Tryd.underlying37 rfl hI rfl hA rfl rfl) rfl fun a hA => ?_
    obtain ⟨_, hsl1⟩ := Slc.sv hx0.2.2.2.2.2.2
    refine stp hA (r_slen Tryd.underlying37 hsl1 hA rfl) rfl fun a hA => 
      stp hA (r_mv hA rfl) rfl fun a hA => ?_
    refine o_nil ?_
    refine hN3 _ _ ?_
    refine w_block ?_
    have hI := hI.nilRow 24 32
    obtain ⟨z1, hz2, Hk2⟩ := bind_some H
    obtain ⟨n1, hn1⟩ := loopO_some hz2
    refine w_loop (fun n a w => ∃ (s1 : List (List Int)) (s2 : Int) (vvs1 : Value) (ccs1 : List Value), loopN (block_IDs.s0 x0) n (s1, s2) = some z1 ∧ Els (RA .u8 32) 32 s1 ccs1 ∧ InR .i64 s2 ∧ Fr a 20 [(0, .agg [[.int .u32 x0.Head.Version], av .u8 32 x0.Head.Prev, av .u8 32 x0.Head.Root, [.int .u32 x0.Head.Time], [.int .u32 x0.Head.Work], [.int .u32 x0.Head.Nonce], [u0_0]].flatten.toArray), (1, .pointer (some ⟨g1, 0, none⟩)), (2, (.slice none 0 0)), (3, vvs1), (7, u0_0), (8, .int .i64 (x0.Txs.length : Int)), (9, .int .i64 s2)] ∧ Iv w0 [] μ μ [row 24 32 vvs1 s1.length ccs1, cel g1 [[.int .u32 x0.Head.Version], av .u8 32 x0.Head.Prev, av .u8 32 x0.Head.Root, [.int .u32 x0.Head.Time], [.int .u32 x0.Head.Work], [.int .u32 x0.Head.Nonce], [u0_0]] 39] w) n1 ⟨[], 0, (.slice none 0 0), [], hn1, (Els.nil (RE := (RA .u8 32)) (sz := 32)), (in_lit .i64 0 rfl), hA.sub ⟨rfl, rfl, rfl, rfl, rfl, rfl, rfl, trivial⟩, hI⟩ ?_
    clear hA hI
    rintro n a w ⟨s1, s2, vvs1, ccs1, hn1, ws1, ws2, hA, hI⟩
    obtain ⟨m1, rfl, H⟩ := loopN_bind hn1
    clear hn1
    refine w_seq fun _ hN4 => ?_
    refine w_reg ?_
    refine stp hA (r_lss hA rfl rfl) rfl fun a hA => ?_
    refine o_nil ?_
    refine hN4 _ _ ?_
    refine w_seq fun _ hN5 => ?_
    refine w_cond hA rfl (fun hc1 => ?_) (fun hc1 => ?_)
    · have hc10 := hc1; have hc1 := of_decide_eq_true hc1; have H := bT H hc1
      refine w_skip ?_
      refine hN5 _ _ ?_
      refine w_seq fun _ hN6 => ?_
      refine w_block ?_
      refine w_seq fun _ hN7 => ?_
      refine w_reg ?_
      obtain ⟨hb1, H⟩ := bG H
      obtain ⟨_, he1, _, hat1⟩ := Slc.elem hx0.2.2.2.2.2.2 (getD_some default hb1.1 hb1.2)
      obtain ⟨v1, v2, rfl, hw1⟩ := he1
      obtain ⟨_, hsl2⟩ := Slc.sv hx0.2.2.2.2.2.2
      refine stp hA (r_six Tryd.underlying37 sz32 hsl2 hA rfl rfl hb1.1 hb1.2) rfl fun a hA => 
        stp hA (r_ldmA [] [[.int .u32 ((x0.Txs.getD s2.toNat default).Version)], [v1], [v2], [.int .u32 ((x0.Txs.getD s2.toNat default).Time)]] [] Tryd.underlying32 rfl sz32 rfl hI.agr hat1 hA rfl rfl) rfl fun a hA => 
        o_new [[.int .u32 0], [(.slice none 0 0)], [(.slice none 0 0)], [.int .u32 0]] zr32 hI hA rfl fun g2 a w hA hI hg2 => ?_
      obtain ⟨_, hsl3⟩ := Slc.sv hw1.2.1
      obtain ⟨_, hsl4⟩ := Slc.sv hw1.2.2.1
      refine o_st (j := 0) [] [[.int .u32 0], [(.slice none 0 0)], [(.slice none 0 0)], [.int .u32 0]] [[.int .u32 ((x0.Txs.getD s2.toNat default).Version)], [v1], [v2], [.int .u32 ((x0.Txs.getD s2.toNat default).Time)]] [] sz32 rfl rfl (fl_cons (one_one rfl) (fl_cons (one_one (one_sl hsl3)) (fl_cons (one_one (one_sl hsl4)) (fl_cons (one_one rfl) fl_nil)))) hI rfl hA rfl rfl rfl rfl fun w hI => ?_
      refine o_nil ?_
      refine hN7 _ _ ?_
      refine w_reg ?_
      refine stp hA (r_mv hA rfl) rfl fun a hA => 
        stp hA (r_ldA (j := 0) [] [[.int .u32 ((x0.Txs.getD s2.toNat default).Version)], [v1], [v2], [.int .u32 ((x0.Txs.getD s2.toNat default).Time)]] [] Tryd.underlying32 rfl sz32 rfl hI rfl hA rfl rfl) rfl fun a hA => ?_
      obtain ⟨r1, hr1, H⟩ := bB H
      refine o_callp (u := .agg [av .u8 32 r1].flatten.toArray) cf61 hA rfl hI (tx_ID.c μ _ hI.agr (x0.Txs.getD s2.toNat default) v1 v2 ⟨hw1.1, hw1.2.1, hw1.2.2.1, hw1.2.2.2⟩ r1 hr1) rfl fun a w hz3 hI hA => ?_
      have hE1 : Els (RA .u8 32) 32 ([r1] : List (List Int)) ([av .u8 32 r1].flatten ++ ([])) := (Els.cons (c := [av .u8 32 r1].flatten) ⟨rfl, hz3⟩ rfl Els.nil)
      refine o_bsl ([av .u8 32 r1].flatten ++ ([])) te24 zr24 Tryd.underlying71 hI hA rfl rfl rfl rfl (by kernel_rfl) rfl fun g3 a w hA hI => ?_
      generalize hcs : ([av .u8 32 r1].flatten ++ ([]) : List Value) = cs1 at hE1 hI
      clear hcs
      obtain ⟨hb2, H⟩ := bG H
      have hE3 := ws1.app hE1
      refine o_appL (xs := (s1 : List (List Int))) (ys := (([r1] : List (List Int)) : List (List Int))) (j := 2) te24 Tryd.underlying71 hI rfl hA rfl rfl (src_row hI (j := 0) rfl) hE1.len (hE1.ones (one_RA _ _)) (by first | decide | (have hq := hb2; (try simp only [List.length_cons, List.length_nil] at hq); (try simp only [List.length_cons, List.length_nil]); (try simp only [maxLen]); omega)) (by first | decide | (have hq := hb2; (try simp only [List.length_cons, List.length_nil] at hq); (try simp only [List.length_cons, List.length_nil]); (try simp only [maxLen]); omega)) rfl fun v3 a w hA hI => 
        stp hA (r_as hA rfl) rfl fun a hA => ?_
      refine o_nil ?_
      refine hN6 _ _ ?_
      refine w_reg ?_
      refine stp hA (r_add hA rfl rfl) rfl fun a hA => 
        stp hA (r_mv hA rfl) rfl fun a hA => ?_
      refine o_nil ?_
      exact ⟨m1, Nat.lt_succ_self _, s1 ++ ([r1] : List (List Int)), IntKind.i64.wrap (s2 + 1), v3, ccs1 ++ cs1, H, hE3, (wrap_in _ _), hA.sub ⟨rfl, rfl, rfl, rfl, rfl, rfl, rfl, trivial⟩, (hI.sel [2, 3] (by decide) rfl)⟩
    · have hc10 := hc1; have hc1 := of_decide_eq_false hc1; have H := bF H hc1
      refine w_exit rfl ?_
      have H : some s1 = some z1 := H
      obtain rfl := Option.some.inj H
      have H := Hk2
      cases Option.some.inj (bS H)
      exact ⟨vvs1, ccs1, ws1, hA.sub ⟨rfl, rfl, rfl, rfl, trivial⟩, hI⟩
  · rintro a w ⟨vvc1, ccc1, wc1, hA, hI⟩
    have H := Hk1
    refine w_seq fun _ hN8 => ?_
    refine w_reg ?_
    refine stp hA (r_mv hA rfl) rfl fun a hA => 
      stp hA (r_as hA rfl) rfl fun a hA => ?_
    refine o_nil ?_
    refine hN8 _ _ ?_
    refine w_ret ?_
    obtain rfl := Option.some.inj (bS H)
    exact ret1 hA Tryd.results29 rfl ⟨_, rfl, vvc1, ccc1, rfl, wc1, ((hI.sel [0] (by decide) rfl).less (Store.le.refl _) hI.le)⟩
set_option maxRecDepth 20000 in
theorem block_Root.c (μ : Store) (w0 : World) (hμ : Agr μ w0) (x0 : Block) (u0_0 : Value) (hx0 : BlockW μ x0 u0_0) (r : List Int) (H : block_Root.f x0 = some r) :
    Calls Tryd.prog 15 [.agg [[.int .u32 x0.Head.Version], av .u8 32 x0.Head.Prev, av .u8 32 x0.Head.Root, [.int .u32 x0.Head.Time], [.int .u32 x0.Head.Work], [.int .u32 x0.Head.Nonce], [u0_0]].flatten.toArray].toArray w0 (fun e w' => ∃ v, e = .returned v ∧ v = .agg [av .u8 32 r].flatten.toArray ∧ Arr .u8 32 r ∧ Iv w0 [] μ μ [] w') := by
  refine enter Tryd.func15 rfl Tryd.ntmps15 rfl fun a hA => ?_
  have hI := Iv.start hμ
  have H := bI H
  refine w_seq fun _ hN1 => ?_
  refine w_reg ?_
  refine o_box [[.int .u32 x0.Head.Version], av .u8 32 x0.Head.Prev, av .u8 32 x0.Head.Root, [.int .u32 x0.Head.Time], [.int .u32 x0.Head.Work], [.int .u32 x0.Head.Nonce], [u0_0]] hI hA rfl rfl rfl fun g1 a w hA hI hg1 => 
    o_new [av .u8 32 (List.replicate 32 0)] zr24 hI hA rfl fun g2 a w hA hI hg2 => ?_
  refine o_nil ?_
  refine hN1 _ _ ?_
  refine w_seq fun _ hN2 => ?_
  refine w_reg ?_
  refine stp hA (r_ldA (j := 1) [] [[.int .u32 x0.Head.Version], av .u8 32 x0.Head.Prev, av .u8 32 x0.Head.Root, [.int .u32 x0.Head.Time], [.int .u32 x0.Head.Work], [.int .u32 x0.Head.Nonce], [u0_0]] [] Tryd.underlying39 rfl sz39 rfl hI rfl hA rfl rfl) rfl fun a hA => ?_
  obtain ⟨r1, hr1, H⟩ := bB H
  refine o_call _ cf29 hA rfl (block_IDs.c μ _ hI.agr x0 u0_0 ⟨hx0.1, hx0.2.1, hx0.2.2.1, hx0.2.2.2.1, hx0.2.2.2.2.1, hx0.2.2.2.2.2.1, hx0.2.2.2.2.2.2⟩ r1 hr1) rfl fun v1 a w hz1 hA => ?_
  obtain ⟨_, cs1, rfl, hE1, hi1⟩ := hz1
  have hI := hI.call hi1
  obtain ⟨r2, hr2, H⟩ := bB H
  refine o_callp (u := .agg [av .u8 32 r2].flatten.toArray) cf42 hA rfl hI ((by obtain ⟨μ1, hle1, hsv1, hI⟩ := hI.freezeRow 0 rfl; have hS1 : Slc (RA .u8 32) 32 μ1 v1 r1 := ⟨_, hE1, hsv1⟩; exact low_plain hle1 (merkle_Root.c μ1 _ hI.agr r1 v1 hS1 r2 hr2))) rfl fun a w hz2 hI hA => 
    o_st (j := 1) [] [av .u8 32 (List.replicate 32 0)] [av .u8 32 r2] [] sz24 rfl rfl (fl_cons (one_av _ _ _) fl_nil) hI rfl hA rfl rfl rfl rfl fun w hI => ?_
  refine o_nil ?_
  refine hN2 _ _ ?_
  refine w_ret ?_
  obtain rfl := Option.some.inj (bS H)
  exact retc Tryd.underlying24 rfl sz24 rfl hI (j := 1) rfl hA Tryd.results15 rfl ⟨_, rfl, rfl, hz2, hI.forget0⟩
set_option maxRecDepth 20000 in
theorem block_Start.c (μ : Store) (w0 : World) (hμ : Agr μ w0) (r : Block) (H : block_Start.f = some r) :
    Calls Tryd.prog 12 [].toArray w0 (fun e w' => ∃ v, e = .returned v ∧ ∃ (v0_0 : Value) (μ' : Store), v = .agg [[.int .u32 r.Head.Version], av .u8 32 r.Head.Prev, av .u8 32 r.Head.Root, [.int .u32 r.Head.Time], [.int .u32 r.Head.Work], [.int .u32 r.Head.Nonce], [v0_0]].flatten.toArray ∧ BlockW μ' r v0_0 ∧ Iv w0 [] μ μ' [] w') := by
  refine enter Tryd.func12 rfl Tryd.ntmps12 rfl fun a hA => ?_
  have hI := Iv.start hμ
  have H := bI H
  refine w_seq fun _ hN1 => ?_
  refine w_reg ?_
  refine o_new [[.int .u32 0], av .u8 32 (List.replicate 32 0), av .u8 32 (List.replicate 32 0), [.int .u32 0], [.int .u32 0], [.int .u32 0], [(.slice none 0 0)]] zr39 hI hA rfl fun g1 a w hA hI hg1 => ?_
  refine o_nil ?_
  refine hN1 _ _ ?_
  refine w_seq fun _ hN2 => ?_
  refine w_reg ?_
  refine stp hA (r_bldS (cs := [[.int .u32 1], av .u8 32 (List.replicate 32 0), av .u8 32 (List.replicate 32 0), [.int .u32 1000], [.int .u32 1], [.int .u32 0]].flatten.toArray) (pl := [(0, 1), (1, 32), (33, 32), (65, 1), (66, 1), (67, 1)]) zr36 Tryd.underlying36 ⟨rfl, sz28, rfl, sz24, rfl, sz24, rfl, sz28, rfl, sz28, rfl, sz28, trivial⟩ hA rfl (by kernel_rfl)) rfl fun a hA => ?_
  obtain ⟨r1, hr1, H⟩ := bB H
  refine o_callp (u := .agg [av .u8 32 r1].flatten.toArray) cf39 hA rfl hI (spend_Lock.c μ _ hI.agr ([]) (.slice none 0 0) (slc_nil _ _ _) r1 hr1) rfl fun a w hz1 hI hA => ?_
  obtain ⟨r2, hr2, H⟩ := bB H
  refine o_call _ cf9 hA rfl (block_First.c μ _ hI.agr 0 (in_lit .i64 0 rfl) 0 (in_lit .u64 0 rfl) r1 hz1 ([]) (.slice none 0 0) (slc_nil _ _ _) r2 hr2) rfl fun v1 a w hz2 hA => ?_
  obtain ⟨v2, v3, μ1, rfl, hw1, hi1⟩ := hz2
  have hI := hI.call hi1
  have hE1 : Els (RTx μ1) 4 ([r2] : List Tx) ([[.int .u32 r2.Version], [v2], [v3], [.int .u32 r2.Time]].flatten ++ ([])) := (Els.cons (c := [[.int .u32 r2.Version], [v2], [v3], [.int .u32 r2.Time]].flatten) ⟨v2, v3, rfl, ⟨hw1.1, hw1.2.1, hw1.2.2.1, hw1.2.2.2⟩⟩ rfl Els.nil)
  refine o_bsl ([[.int .u32 r2.Version], [v2], [v3], [.int .u32 r2.Time]].flatten ++ ([])) te32 zr32 Tryd.underlying37 hI hA rfl rfl rfl rfl (by kernel_rfl) rfl fun g2 a w hA hI => ?_
  generalize hcs : ([[.int .u32 r2.Version], [v2], [v3], [.int .u32 r2.Time]].flatten ++ ([]) : List Value) = cs1 at hE1 hI
  clear hcs
  refine stp hA (r_bldS (cs := [[.int .u32 1], av .u8 32 (List.replicate 32 0), av .u8 32 (List.replicate 32 0), [.int .u32 1000], [.int .u32 1], [.int .u32 0], [(.slice (some ⟨g2, 0, none⟩) 1 1)]].flatten.toArray) (pl := [(0, 68), (68, 1)]) zr39 Tryd.underlying39 ⟨rfl, sz36, rfl, sz37, trivial⟩ hA rfl ((fill_seg [] [[.int .u32 0], av .u8 32 (List.replicate 32 0), av .u8 32 (List.replicate 32 0), [.int .u32 0], [.int .u32 0], [.int .u32 0]] [[.int .u32 1], av .u8 32 (List.replicate 32 0), av .u8 32 (List.replicate 32 0), [.int .u32 1000], [.int .u32 1], [.int .u32 0]] [[(.slice none 0 0)]] rfl rfl rfl rfl rfl).trans ((fill_seg [[.int .u32 1], av .u8 32 (List.replicate 32 0), av .u8 32 (List.replicate 32 0), [.int .u32 1000], [.int .u32 1], [.int .u32 0]] [[(.slice none 0 0)]] [[(.slice (some ⟨g2, 0, none⟩) 1 1)]] [] (own_cell hI (j := 0) rfl) rfl rfl rfl rfl).trans (rfl)))) rfl fun a hA => 
    o_new [[.int .u32 0], av .u8 32 (List.replicate 32 0), av .u8 32 (List.replicate 32 0), [.int .u32 0], [.int .u32 0], [.int .u32 0], [(.slice none 0 0)]] zr39 hI hA rfl fun g3 a w hA hI hg3 => 
    o_st (j := 0) [] [[.int .u32 0], av .u8 32 (List.replicate 32 0), av .u8 32 (List.replicate 32 0), [.int .u32 0], [.int .u32 0], [.int .u32 0], [(.slice none 0 0)]] [[.int .u32 1], av .u8 32 (List.replicate 32 0), av .u8 32 (List.replicate 32 0), [.int .u32 1000], [.int .u32 1], [.int .u32 0], [(.slice (some ⟨g2, 0, none⟩) 1 1)]] [] sz39 rfl rfl (fl_cons (one_one rfl) (fl_cons (one_av _ _ _) (fl_cons (one_av _ _ _) (fl_cons (one_one rfl) (fl_cons (one_one rfl) (fl_cons (one_one rfl) (fl_cons (one_one (own_one hI (j := 1) rfl)) fl_nil))))))) hI rfl hA rfl rfl rfl rfl fun w hI => ?_
  refine o_nil ?_
  refine hN2 _ _ ?_
  refine w_seq fun _ hN3 => ?_
  refine w_reg ?_
  refine stp hA (r_ldA (j := 0) [] [[.int .u32 1], av .u8 32 (List.replicate 32 0), av .u8 32 (List.replicate 32 0), [.int .u32 1000], [.int .u32 1], [.int .u32 0], [(.slice (some ⟨g2, 0, none⟩) 1 1)]] [] Tryd.underlying39 rfl sz39 rfl hI rfl hA rfl rfl) rfl fun a hA => ?_
  obtain ⟨r3, hr3, H⟩ := bB H
  refine o_callp (u := .agg [av .u8 32 r3].flatten.toArray) cf15 hA rfl hI ((by obtain ⟨μ2, hle1, hsv1, hI⟩ := hI.freezeRow 1 rfl; have hS1 : Slc (RTx μ2) 4 μ2 (.slice (some ⟨g2, 0, none⟩) 1 1) ([r2] : List Tx) := ⟨_, (Els.mono hE1 (fun _ _ h => RTx.le hle1 h)), hsv1⟩; exact low_plain hle1 (block_Root.c μ2 _ hI.agr (⟨(⟨1, (List.replicate 32 0), (List.replicate 32 0), 1000, 1, 0⟩ : Head), ([r2] : List Tx)⟩ : Block) (.slice (some ⟨g2, 0, none⟩) 1 1) ⟨(in_lit .u32 1 rfl), (arr_zero _ _), (arr_zero _ _), (in_lit .u32 1000 rfl), (in_lit .u32 1 rfl), (in_lit .u32 0 rfl), hS1⟩ r3 hr3))) rfl fun a w hz3 hI hA => 
    stp hA (r_fd (k := 0) Tryd.underlying39 rfl sz36 hA rfl rfl) rfl fun a hA => 
    stp hA (r_fd (k := 33) Tryd.underlying36 rfl sz24 hA rfl rfl) rfl fun a hA => 
    o_st (j := 0) [[.int .u32 1], av .u8 32 (List.replicate 32 0)] [av .u8 32 (List.replicate 32 0)] [av .u8 32 r3] [[.int .u32 1000], [.int .u32 1], [.int .u32 0], [(.slice (some ⟨g2, 0, none⟩) 1 1)]] sz24 rfl rfl (fl_cons (one_av _ _ _) fl_nil) hI rfl hA rfl rfl rfl rfl fun w hI => ?_
  refine o_nil ?_
  refine hN3 _ _ ?_
  refine w_seq fun _ hN4 => ?_
  refine w_reg ?_
  refine stp hA (r_ldA (j := 0) [] [[.int .u32 1], av .u8 32 (List.replicate 32 0), av .u8 32 r3, [.int .u32 1000], [.int .u32 1], [.int .u32 0], [(.slice (some ⟨g2, 0, none⟩) 1 1)]] [] Tryd.underlying39 rfl sz39 rfl hI rfl hA rfl rfl) rfl fun a hA => 
    o_st (j := 2) [] [[.int .u32 0], av .u8 32 (List.replicate 32 0), av .u8 32 (List.replicate 32 0), [.int .u32 0], [.int .u32 0], [.int .u32 0], [(.slice none 0 0)]] [[.int .u32 1], av .u8 32 (List.replicate 32 0), av .u8 32 r3, [.int .u32 1000], [.int .u32 1], [.int .u32 0], [(.slice (some ⟨g2, 0, none⟩) 1 1)]] [] sz39 rfl rfl (fl_cons (one_one rfl) (fl_cons (one_av _ _ _) (fl_cons (one_av _ _ _) (fl_cons (one_one rfl) (fl_cons (one_one rfl) (fl_cons (one_one rfl) (fl_cons (one_one (own_one hI (j := 1) rfl)) fl_nil))))))) hI rfl hA rfl rfl rfl rfl fun w hI => ?_
  refine o_nil ?_
  refine hN4 _ _ ?_
  refine w_ret ?_
  obtain ⟨μ3, hle2, hsv2, hI⟩ := hI.freezeRow 1 rfl
  have hS2 : Slc (RTx μ3) 4 μ3 (.slice (some ⟨g2, 0, none⟩) 1 1) ([r2] : List Tx) := ⟨_, (Els.mono hE1 (fun _ _ h => RTx.le hle2 h)), hsv2⟩
  obtain rfl := Option.some.inj (bS H)
  exact retc Tryd.underlying39 rfl sz39 rfl hI (j := 1) rfl hA Tryd.results12 rfl ⟨_, rfl, (.slice (some ⟨g2, 0, none⟩) 1 1), μ3, rfl, ⟨(in_lit .u32 1 rfl), (arr_zero _ _), hz3, (in_lit .u32 1000 rfl), (in_lit .u32 1 rfl), (in_lit .u32 0 rfl), hS2⟩, (hI.sel [] (by decide) rfl)⟩
set_option maxRecDepth 20000 in
theorem block_Bytes.c (μ : Store) (w0 : World) (hμ : Agr μ w0) (x0 : Block) (u0_0 : Value) (hx0 : BlockW μ x0 u0_0) (r : List Int) (H : block_Bytes.f x0 = some r) :
    Calls Tryd.prog 25 [.agg [[.int .u32 x0.Head.Version], av .u8 32 x0.Head.Prev, av .u8 32 x0.Head.Root, [.int .u32 x0.Head.Time], [.int .u32 x0.Head.Work], [.int .u32 x0.Head.Nonce], [u0_0]].flatten.toArray].toArray w0 (fun e w' => ∃ v, e = .returned v ∧ ∃ (v0 : Value) (c0 : List Value), v = v0 ∧ Els (RI .u8) 1 r c0 ∧ Iv w0 [] μ μ [row 5 1 v0 r.length c0] w') := by
  refine enter Tryd.func25 rfl Tryd.ntmps25 rfl fun a hA => ?_
  have hI := Iv.start hμ
  have H := bI H
  refine w_seq fun _ hN1 => ?_
  refine w_reg ?_
  refine o_box [[.int .u32 x0.Head.Version], av .u8 32 x0.Head.Prev, av .u8 32 x0.Head.Root, [.int .u32 x0.Head.Time], [.int .u32 x0.Head.Work], [.int .u32 x0.Head.Nonce], [u0_0]] hI hA rfl rfl rfl fun g1 a w hA hI hg1 => 
    stp hA (r_as hA rfl) rfl fun a hA => ?_
  refine o_nil ?_
  refine hN1 _ _ ?_
  refine w_seq fun _ hN2 => ?_
  refine w_any [] mo hI fun w hI => ?_
  refine g_easy (i := 0) hA rfl rfl (by kernel_rfl) (.inr hI) (fun _ => r_fd (k := 0) Tryd.underlying39 rfl sz36 hA rfl rfl) rfl fun a hA => ?_
  refine g_take (i := 1) hA rfl rfl (by kernel_rfl) hI (fun w hI => r_ldA (j := 0) [] [[.int .u32 x0.Head.Version], av .u8 32 x0.Head.Prev, av .u8 32 x0.Head.Root, [.int .u32 x0.Head.Time], [.int .u32 x0.Head.Work], [.int .u32 x0.Head.Nonce]] [[u0_0]] Tryd.underlying36 rfl sz36 rfl hI rfl hA rfl rfl) rfl fun a hA => ?_
  refine g_easy (i := 3) hA rfl rfl (by kernel_rfl) (.inr hI) (fun _ => r_fd (k := 68) Tryd.underlying39 rfl sz37 hA rfl rfl) rfl fun a hA => ?_
  refine g_take (i := 4) hA rfl rfl (by kernel_rfl) hI (fun w hI => r_ld1 (j := 0) [[.int .u32 x0.Head.Version], av .u8 32 x0.Head.Prev, av .u8 32 x0.Head.Root, [.int .u32 x0.Head.Time], [.int .u32 x0.Head.Work], [.int .u32 x0.Head.Nonce]] [] Tryd.underlying37 rfl hI rfl hA rfl rfl) rfl fun a hA => ?_
  obtain ⟨_, hsl1⟩ := Slc.sv hx0.2.2.2.2.2.2
  refine g_easy (i := 5) hA rfl rfl (by kernel_rfl) (.inr hI) (fun _ => r_slen Tryd.underlying37 hsl1 hA rfl) rfl fun a hA => ?_
  refine g_easy (i := 6) hA rfl rfl (by kernel_rfl) (.inr hI) (fun _ => r_conv Tryd.underlying3 Tryd.underlying22 hA rfl) rfl fun a hA => ?_
  refine g_forced (i := 2) rfl (by kernel_rfl) ?_
  obtain ⟨r1, hr1, H⟩ := bB H
  refine o_call _ cf53 hA rfl (head_Bytes.c μ _ hI.agr x0.Head ⟨hx0.1, hx0.2.1, hx0.2.2.1, hx0.2.2.2.1, hx0.2.2.2.2.1, hx0.2.2.2.2.2.1⟩ r1 hr1) rfl fun v1 a w hz1 hA => ?_
  obtain ⟨_, cs1, rfl, hE1, hi1⟩ := hz1
  have hI := hI.call hi1
  refine o_nil ?_
  refine ⟨(.inr (hI.sel [1] (by decide) rfl)), ?_⟩
  refine g_forced (i := 7) rfl (by kernel_rfl) ?_
  obtain ⟨r2, hr2, H⟩ := bB H
  refine o_call (fun v w' => ∃ (v0 : Value) (c0 : List Value), v = v0 ∧ Els (RI .u8) 1 r2 c0 ∧ Iv w [] μ μ [row 5 1 v0 r2.length c0] w') cf52 hA rfl ((by obtain ⟨μ1, hle1, hsv1, hI⟩ := hI.freezeRow 0 rfl; have hS1 : Slc (RI .u8) 1 μ1 v1 r1 := ⟨_, hE1, hsv1⟩; exact (compact_Put.c μ1 _ hI.agr r1 v1 hS1 (IntKind.u64.wrap (x0.Txs.length : Int)) (wrap_in _ _) r2 hr2).mono fun _ _ ⟨v, he, b0, b1, hv, f0, hi⟩ => ⟨v, he, b0, b1, hv, f0, hi.low hle1⟩)) rfl fun v2 a w hz2 hA => ?_
  obtain ⟨_, cs2, rfl, hE2, hi2⟩ := hz2
  have hI := hI.call hi2
  refine o_nil ?_
  refine ⟨(.inr (hI.sel [2] (by decide) rfl)), ?_⟩
  refine g_easy (i := 8) hA rfl rfl (by kernel_rfl) (.inr (hI.sel [2] (by decide) rfl)) (fun _ => r_as hA rfl) rfl fun a hA => ?_
  refine g_nil (by kernel_rfl) ?_
  refine hN2 _ _ ?_
  obtain ⟨c1, hz3, Hk1⟩ := bB H
  refine w_cut (fun a w => ∃ (vvc1 : Value) (ccc1 : List Value), Els (RI .u8) 1 c1 ccc1 ∧ Fr a 27 [(0, .agg [[.int .u32 x0.Head.Version], av .u8 32 x0.Head.Prev, av .u8 32 x0.Head.Root, [.int .u32 x0.Head.Time], [.int .u32 x0.Head.Work], [.int .u32 x0.Head.Nonce], [u0_0]].flatten.toArray), (1, .pointer (some ⟨g1, 0, none⟩)), (2, (.slice none 0 0)), (3, vvc1)] ∧ Iv w0 [] μ μ [row 5 1 vvc1 c1.length ccc1, row 5 1 v1 r1.length cs1, cel g1 [[.int .u32 x0.Head.Version], av .u8 32 x0.Head.Prev, av .u8 32 x0.Head.Root, [.int .u32 x0.Head.Time], [.int .u32 x0.Head.Work], [.int .u32 x0.Head.Nonce], [u0_0]] 39] w) ?_ ?_
  · have H := bI hz3
    refine w_seq fun _ hN3 => ?_
    refine w_reg ?_
    refine stp hA (r_fd (k := 68) Tryd.underlying39 rfl sz37 hA rfl rfl) rfl fun a hA => 
      stp hA (r_ld1 (j := 2) [[.int .u32 x0.Head.Version], av .u8 32 x0.Head.Prev, av .u8 32 x0.Head.Root, [.int .u32 x0.Head.Time], [.int .u32 x0.Head.Work], [.int .u32 x0.Head.Nonce]] [] Tryd.underlying37 rfl hI rfl hA rfl rfl) rfl fun a hA => ?_
    obtain ⟨_, hsl2⟩ := Slc.sv hx0.2.2.2.2.2.2
    refine stp hA (r_slen Tryd.underlying37 hsl2 hA rfl) rfl fun a hA => 
      stp hA (r_mv hA rfl) rfl fun a hA => ?_
    refine o_nil ?_
    refine hN3 _ _ ?_
    refine w_block ?_
    obtain ⟨z1, hz4, Hk2⟩ := bind_some H
    obtain ⟨n1, hn1⟩ := loopO_some hz4
    refine w_loop (fun n a w => ∃ (s1 : List Int) (s2 : Int) (vvs1 : Value) (ccs1 : List Value), loopN (block_Bytes.s0 x0) n (s1, s2) = some z1 ∧ Els (RI .u8) 1 s1 ccs1 ∧ InR .i64 s2 ∧ Fr a 27 [(0, .agg [[.int .u32 x0.Head.Version], av .u8 32 x0.Head.Prev, av .u8 32 x0.Head.Root, [.int .u32 x0.Head.Time], [.int .u32 x0.Head.Work], [.int .u32 x0.Head.Nonce], [u0_0]].flatten.toArray), (1, .pointer (some ⟨g1, 0, none⟩)), (2, (.slice none 0 0)), (3, vvs1), (15, u0_0), (16, .int .i64 (x0.Txs.length : Int)), (17, .int .i64 s2)] ∧ Iv w0 [] μ μ [row 5 1 vvs1 s1.length ccs1, row 5 1 v1 r1.length cs1, cel g1 [[.int .u32 x0.Head.Version], av .u8 32 x0.Head.Prev, av .u8 32 x0.Head.Root, [.int .u32 x0.Head.Time], [.int .u32 x0.Head.Work], [.int .u32 x0.Head.Nonce], [u0_0]] 39] w) n1 ⟨r2, 0, v2, cs2, hn1, hE2, (in_lit .i64 0 rfl), hA.sub ⟨rfl, rfl, rfl, rfl, rfl, rfl, rfl, trivial⟩, hI⟩ ?_
    clear hA hI
    rintro n a w ⟨s1, s2, vvs1, ccs1, hn1, ws1, ws2, hA, hI⟩
    obtain ⟨m1, rfl, H⟩ := loopN_bind hn1
    clear hn1
    refine w_seq fun _ hN4 => ?_
    refine w_reg ?_
    refine stp hA (r_lss hA rfl rfl) rfl fun a hA => ?_
    refine o_nil ?_
    refine hN4 _ _ ?_
    refine w_seq fun _ hN5 => ?_
    refine w_cond hA rfl (fun hc1 => ?_) (fun hc1 => ?_)
    · have hc10 := hc1; have hc1 := of_decide_eq_true hc1; have H := bT H hc1
      refine w_skip ?_
      refine hN5 _ _ ?_
      refine w_seq fun _ hN6 => ?_
      refine w_block ?_
      refine w_seq fun _ hN7 => ?_
      refine w_reg ?_
      obtain ⟨hb1, H⟩ := bG H
      obtain ⟨_, he1, _, hat1⟩ := Slc.elem hx0.2.2.2.2.2.2 (getD_some default hb1.1 hb1.2)
      obtain ⟨v3, v4, rfl, hw1⟩ := he1
      obtain ⟨_, hsl3⟩ := Slc.sv hx0.2.2.2.2.2.2
      refine stp hA (r_six Tryd.underlying37 sz32 hsl3 hA rfl rfl hb1.1 hb1.2) rfl fun a hA => 
        stp hA (r_ldmA [] [[.int .u32 ((x0.Txs.getD s2.toNat default).Version)], [v3], [v4], [.int .u32 ((x0.Txs.getD s2.toNat default).Time)]] [] Tryd.underlying32 rfl sz32 rfl hI.agr hat1 hA rfl rfl) rfl fun a hA => 
        o_new [[.int .u32 0], [(.slice none 0 0)], [(.slice none 0 0)], [.int .u32 0]] zr32 hI hA rfl fun g2 a w hA hI hg2 => ?_
      obtain ⟨_, hsl4⟩ := Slc.sv hw1.2.1
      obtain ⟨_, hsl5⟩ := Slc.sv hw1.2.2.1
      refine o_st (j := 0) [] [[.int .u32 0], [(.slice none 0 0)], [(.slice none 0 0)], [.int .u32 0]] [[.int .u32 ((x0.Txs.getD s2.toNat default).Version)], [v3], [v4], [.int .u32 ((x0.Txs.getD s2.toNat default).Time)]] [] sz32 rfl rfl (fl_cons (one_one rfl) (fl_cons (one_one (one_sl hsl4)) (fl_cons (one_one (one_sl hsl5)) (fl_cons (one_one rfl) fl_nil)))) hI rfl hA rfl rfl rfl rfl fun w hI => ?_
      refine o_nil ?_
      refine hN7 _ _ ?_
      refine w_reg ?_
      refine stp hA (r_mv hA rfl) rfl fun a hA => 
        stp hA (r_ldA (j := 0) [] [[.int .u32 ((x0.Txs.getD s2.toNat default).Version)], [v3], [v4], [.int .u32 ((x0.Txs.getD s2.toNat default).Time)]] [] Tryd.underlying32 rfl sz32 rfl hI rfl hA rfl rfl) rfl fun a hA => ?_
      obtain ⟨r3, hr3, H⟩ := bB H
      refine o_call _ cf54 hA rfl (tx_Bytes.c μ _ hI.agr (x0.Txs.getD s2.toNat default) v3 v4 ⟨hw1.1, hw1.2.1, hw1.2.2.1, hw1.2.2.2⟩ r3 hr3) rfl fun v5 a w hz5 hA => ?_
      obtain ⟨_, cs3, rfl, hE3, hi3⟩ := hz5
      have hI := hI.call hi3
      obtain ⟨hb2, H⟩ := bG H
      have hE5 := ws1.app hE3
      refine o_appL (xs := (s1 : List Int)) (ys := (r3 : List Int)) (j := 2) te5 Tryd.underlying25 hI rfl hA rfl rfl (src_row hI (j := 0) rfl) hE3.len (hE3.ones (one_RI _)) (by first | decide | (have hq := hb2; (try simp only [List.length_cons, List.length_nil] at hq); (try simp only [List.length_cons, List.length_nil]); (try simp only [maxLen]); omega)) (by first | decide | (have hq := hb2; (try simp only [List.length_cons, List.length_nil] at hq); (try simp only [List.length_cons, List.length_nil]); (try simp only [maxLen]); omega)) rfl fun v6 a w hA hI => 
        stp hA (r_as hA rfl) rfl fun a hA => ?_
      refine o_nil ?_
      refine hN6 _ _ ?_
      refine w_reg ?_
      refine stp hA (r_add hA rfl rfl) rfl fun a hA => 
        stp hA (r_mv hA rfl) rfl fun a hA => ?_
      refine o_nil ?_
      exact ⟨m1, Nat.lt_succ_self _, s1 ++ r3, IntKind.i64.wrap (s2 + 1), v6, ccs1 ++ cs3, H, hE5, (wrap_in _ _), hA.sub ⟨rfl, rfl, rfl, rfl, rfl, rfl, rfl, trivial⟩, (hI.sel [2, 3, 4] (by decide) rfl)⟩
    · have hc10 := hc1; have hc1 := of_decide_eq_false hc1; have H := bF H hc1
      refine w_exit rfl ?_
      have H : some s1 = some z1 := H
      obtain rfl := Option.some.inj H
      have H := Hk2
      cases Option.some.inj (bS H)
      exact ⟨vvs1, ccs1, ws1, hA.sub ⟨rfl, rfl, rfl, rfl, trivial⟩, hI⟩
  · rintro a w ⟨vvc1, ccc1, wc1, hA, hI⟩
    have H := Hk1
    refine w_seq fun _ hN8 => ?_
    refine w_reg ?_
    refine stp hA (r_mv hA rfl) rfl fun a hA => 
      stp hA (r_as hA rfl) rfl fun a hA => ?_
    refine o_nil ?_
    refine hN8 _ _ ?_
    refine w_ret ?_
    obtain rfl := Option.some.inj (bS H)
    exact ret1 hA Tryd.results25 rfl ⟨_, rfl, vvc1, ccc1, rfl, wc1, ((hI.sel [0] (by decide) rfl).less (Store.le.refl _) hI.le)⟩
set_option maxRecDepth 20000 in
theorem block_Size.c (μ : Store) (w0 : World) (hμ : Agr μ w0) (x0 : Block) (u0_0 : Value) (hx0 : BlockW μ x0 u0_0) (r : Int) (H : block_Size.f x0 = some r) :
    Calls Tryd.prog 24 [.agg [[.int .u32 x0.Head.Version], av .u8 32 x0.Head.Prev, av .u8 32 x0.Head.Root, [.int .u32 x0.Head.Time], [.int .u32 x0.Head.Work], [.int .u32 x0.Head.Nonce], [u0_0]].flatten.toArray].toArray w0 (fun e w' => ∃ v, e = .returned v ∧ v = .int .i64 r ∧ InR .i64 r ∧ Iv w0 [] μ μ [] w') := by
  refine enter Tryd.func24 rfl Tryd.ntmps24 rfl fun a hA => ?_
  have hI := Iv.start hμ
  have H := bI H
  refine w_seq fun _ hN1 => ?_
  refine w_reg ?_
  refine o_box [[.int .u32 x0.Head.Version], av .u8 32 x0.Head.Prev, av .u8 32 x0.Head.Root, [.int .u32 x0.Head.Time], [.int .u32 x0.Head.Work], [.int .u32 x0.Head.Nonce], [u0_0]] hI hA rfl rfl rfl fun g1 a w hA hI hg1 => 
    stp hA (r_as hA rfl) rfl fun a hA => ?_
  refine o_nil ?_
  refine hN1 _ _ ?_
  refine w_seq fun _ hN2 => ?_
  refine w_reg ?_
  refine stp hA (r_ldA (j := 0) [] [[.int .u32 x0.Head.Version], av .u8 32 x0.Head.Prev, av .u8 32 x0.Head.Root, [.int .u32 x0.Head.Time], [.int .u32 x0.Head.Work], [.int .u32 x0.Head.Nonce], [u0_0]] [] Tryd.underlying39 rfl sz39 rfl hI rfl hA rfl rfl) rfl fun a hA => ?_
  obtain ⟨r1, hr1, H⟩ := bB H
  refine o_call _ cf25 hA rfl (block_Bytes.c μ _ hI.agr x0 u0_0 ⟨hx0.1, hx0.2.1, hx0.2.2.1, hx0.2.2.2.1, hx0.2.2.2.2.1, hx0.2.2.2.2.2.1, hx0.2.2.2.2.2.2⟩ r1 hr1) rfl fun v1 a w hz1 hA => ?_
  obtain ⟨_, cs1, rfl, hE1, hi1⟩ := hz1
  have hI := hI.call hi1
  have hlen1 := Iv.row_in hI (j := 0) rfl
  refine stp hA (r_rlen (xs := 0) Tryd.underlying25 hI (j := 0) rfl hA rfl) rfl fun a hA => 
    stp hA (r_as hA rfl) rfl fun a hA => ?_
  refine o_nil ?_
  refine hN2 _ _ ?_
  refine w_ret ?_
  obtain rfl := Option.some.inj (bS H)
  exact ret1 hA Tryd.results24 rfl ⟨_, rfl, rfl, hlen1, hI.forget0⟩
set_option maxRecDepth 20000 in
theorem block_parts.c (μ : Store) (w0 : World) (hμ : Agr μ w0) (x0 : Block) (u0_0 : Value) (hx0 : BlockW μ x0 u0_0) (e0 : Value) (he0 : ErS μ e0 (Er.b 1)) (e1 : Value) (he1 : ErS μ e1 (Er.b 2)) (e2 : Value) (he2 : ErS μ e2 (Er.b 3)) (e6 : Value) (he6 : ErS μ e6 (Er.b 7)) (e7 : Value) (he7 : ErS μ e7 (Er.b 8)) (e8 : Value) (he8 : ErS μ e8 (Er.b 9)) (r : Er) (H : block_parts.f x0 = some r) :
    Calls Tryd.prog 44 [.agg [[.int .u32 x0.Head.Version], av .u8 32 x0.Head.Prev, av .u8 32 x0.Head.Root, [.int .u32 x0.Head.Time], [.int .u32 x0.Head.Work], [.int .u32 x0.Head.Nonce], [u0_0]].flatten.toArray].toArray w0 (fun e w' => ∃ v, e = .returned v ∧ ∃ (v0 : Value) (μ' : Store), v = v0 ∧ ErS μ' v0 r ∧ Iv w0 [] μ μ' [] w') := by
  refine enter Tryd.func44 rfl Tryd.ntmps44 rfl fun a hA => ?_
  have hI := Iv.start hμ
  have H := bI H
  refine w_seq fun _ hN1 => ?_
  refine w_reg ?_
  refine o_box [[.int .u32 x0.Head.Version], av .u8 32 x0.Head.Prev, av .u8 32 x0.Head.Root, [.int .u32 x0.Head.Time], [.int .u32 x0.Head.Work], [.int .u32 x0.Head.Nonce], [u0_0]] hI hA rfl rfl rfl fun g1 a w hA hI hg1 => 
    stp hA (r_as hA rfl) rfl fun a hA => ?_
  refine o_nil ?_
  refine hN1 _ _ ?_
  refine w_seq fun _ hN2 => ?_
  refine w_seq fun _ hN3 => ?_
  refine w_reg ?_
  refine stp hA (r_fd (k := 68) Tryd.underlying39 rfl sz37 hA rfl rfl) rfl fun a hA => 
    stp hA (r_ld1 (j := 0) [[.int .u32 x0.Head.Version], av .u8 32 x0.Head.Prev, av .u8 32 x0.Head.Root, [.int .u32 x0.Head.Time], [.int .u32 x0.Head.Work], [.int .u32 x0.Head.Nonce]] [] Tryd.underlying37 rfl hI rfl hA rfl rfl) rfl fun a hA => ?_
  obtain ⟨_, hsl1⟩ := Slc.sv hx0.2.2.2.2.2.2
  refine stp hA (r_slen Tryd.underlying37 hsl1 hA rfl) rfl fun a hA => 
    stp hA (r_mv hA rfl) rfl fun a hA => ?_
  refine o_nil ?_
  refine hN3 _ _ ?_
  refine w_block ?_
  obtain ⟨z1, hz1, Hk1⟩ := bind_some H
  obtain ⟨n1, hn1⟩ := loopO_some hz1
  refine w_loop (fun n a w => ∃ (s1 : Int) (μ1 : Store), loopN (block_parts.s0 x0) n s1 = some z1 ∧ μ.le μ1 ∧ InR .i64 s1 ∧ Fr a 45 [(0, .agg [[.int .u32 x0.Head.Version], av .u8 32 x0.Head.Prev, av .u8 32 x0.Head.Root, [.int .u32 x0.Head.Time], [.int .u32 x0.Head.Work], [.int .u32 x0.Head.Nonce], [u0_0]].flatten.toArray), (1, .pointer (some ⟨g1, 0, none⟩)), (2, .nilIface), (9, u0_0), (10, .int .i64 (x0.Txs.length : Int)), (11, .int .i64 s1)] ∧ Iv w0 [] μ μ1 [cel g1 [[.int .u32 x0.Head.Version], av .u8 32 x0.Head.Prev, av .u8 32 x0.Head.Root, [.int .u32 x0.Head.Time], [.int .u32 x0.Head.Work], [.int .u32 x0.Head.Nonce], [u0_0]] 39] w) n1 ⟨0, μ, hn1, (Store.le.refl _), (in_lit .i64 0 rfl), hA.sub ⟨rfl, rfl, rfl, rfl, rfl, rfl, trivial⟩, hI⟩ ?_
  clear hA hI
  rintro n a w ⟨s1, μ1, hn1, hle1, ws1, hA, hI⟩
  obtain ⟨m1, rfl, H⟩ := loopN_bind hn1
  clear hn1
  refine w_seq fun _ hN4 => ?_
  refine w_reg ?_
  refine stp hA (r_lss hA rfl rfl) rfl fun a hA => ?_
  refine o_nil ?_
  refine hN4 _ _ ?_
  refine w_seq fun _ hN5 => ?_
  refine w_cond hA rfl (fun hc1 => ?_) (fun hc1 => ?_)
  · have hc10 := hc1; have hc1 := of_decide_eq_true hc1; have H := bT H hc1
    refine w_skip ?_
    refine hN5 _ _ ?_
    refine w_seq fun _ hN6 => ?_
    refine w_block ?_
    refine w_seq fun _ hN7 => ?_
    refine w_reg ?_
    refine stp hA (r_mv hA rfl) rfl fun a hA => ?_
    obtain ⟨hb1, H⟩ := bG H
    obtain ⟨_, he1, _, hat1⟩ := Slc.elem (Slc.le hx0.2.2.2.2.2.2 (fun _ _ h => RTx.le hle1 h) hle1) (getD_some default hb1.1 hb1.2)
    obtain ⟨v1, v2, rfl, hw1⟩ := he1
    obtain ⟨_, hsl2⟩ := Slc.sv (Slc.le hx0.2.2.2.2.2.2 (fun _ _ h => RTx.le hle1 h) hle1)
    refine stp hA (r_six Tryd.underlying37 sz32 hsl2 hA rfl rfl hb1.1 hb1.2) rfl fun a hA => 
      stp hA (r_ldmA [] [[.int .u32 ((x0.Txs.getD s1.toNat default).Version)], [v1], [v2], [.int .u32 ((x0.Txs.getD s1.toNat default).Time)]] [] Tryd.underlying32 rfl sz32 rfl hI.agr hat1 hA rfl rfl) rfl fun a hA => 
      o_new [[.int .u32 0], [(.slice none 0 0)], [(.slice none 0 0)], [.int .u32 0]] zr32 hI hA rfl fun g2 a w hA hI hg2 => 
      stp hA (r_as hA rfl) rfl fun a hA => ?_
    obtain ⟨_, hsl3⟩ := Slc.sv hw1.2.1
    obtain ⟨_, hsl4⟩ := Slc.sv hw1.2.2.1
    refine o_st (j := 0) [] [[.int .u32 0], [(.slice none 0 0)], [(.slice none 0 0)], [.int .u32 0]] [[.int .u32 ((x0.Txs.getD s1.toNat default).Version)], [v1], [v2], [.int .u32 ((x0.Txs.getD s1.toNat default).Time)]] [] sz32 rfl rfl (fl_cons (one_one rfl) (fl_cons (one_one (one_sl hsl3)) (fl_cons (one_one (one_sl hsl4)) (fl_cons (one_one rfl) fl_nil)))) hI rfl hA rfl rfl rfl rfl fun w hI => ?_
    refine o_nil ?_
    refine hN7 _ _ ?_
    refine w_seq fun _ hN8 => ?_
    refine w_reg ?_
    refine stp hA (r_ldA (j := 0) [] [[.int .u32 ((x0.Txs.getD s1.toNat default).Version)], [v1], [v2], [.int .u32 ((x0.Txs.getD s1.toNat default).Time)]] [] Tryd.underlying32 rfl sz32 rfl hI rfl hA rfl rfl) rfl fun a hA => ?_
    obtain ⟨r1, hr1, H⟩ := bB H
    refine o_call _ cf72 hA rfl (tx_Check.c μ1 _ hI.agr (x0.Txs.getD s1.toNat default) v1 v2 ⟨hw1.1, hw1.2.1, hw1.2.2.1, hw1.2.2.2⟩ e0 (ErV.le (fun _ _ h => h) hle1 he0) e1 (ErV.le (fun _ _ h => h) hle1 he1) e2 (ErV.le (fun _ _ h => h) hle1 he2) e6 (ErV.le (fun _ _ h => h) hle1 he6) e7 (ErV.le (fun _ _ h => h) hle1 he7) e8 (ErV.le (fun _ _ h => h) hle1 he8) r1 hr1) rfl fun v3 a w hz2 hA => ?_
    obtain ⟨_, μ2, rfl, hS1, hi1⟩ := hz2
    have hI := hI.call hi1
    refine stp hA (r_as hA rfl) rfl fun a hA => ?_
    refine o_nil ?_
    refine hN8 _ _ ?_
    refine w_seq fun _ hN9 => ?_
    refine w_reg ?_
    refine stp hA (r_mv hA rfl) rfl fun a hA => 
      stp hA (r_neE erF hI.agr hS1 erv_nil (.inl ⟨.inr ⟨_, rfl⟩, Er.fitR⟩) hA rfl rfl) rfl fun a hA => ?_
    refine o_nil ?_
    refine hN9 _ _ ?_
    refine w_cond hA rfl (fun hc2 => ?_) (fun hc2 => ?_)
    · have hc20 := hc2; have hc2 := of_decide_eq_true hc2; have H := bT H hc2
      refine w_seq fun _ hN10 => ?_
      refine w_reg ?_
      refine stp hA (r_mv hA rfl) rfl fun a hA => 
        stp hA (r_mv hA rfl) rfl fun a hA => 
        stp hA (r_bldS (cs := [[.int .i64 s1], [v3]].flatten.toArray) (pl := [(0, 1), (1, 1)]) zr113 Tryd.underlying113 ⟨rfl, sz3, rfl, sz51, trivial⟩ hA rfl ((fill_one rfl rfl (by kernel_rfl)).trans ((fill_one (cells_err hS1) rfl (by kernel_rfl)).trans (by kernel_rfl)))) rfl fun a hA => 
        o_box [[.int .i64 s1], [v3]] hI hA rfl rfl rfl fun g3 a w hA hI hg3 => ?_
      obtain ⟨μ3, hle2, hat2, hI⟩ := hI.freezeCel 0 rfl
      have he2 : ErS μ3 (.iface 111 (.pointer (some ⟨g3, 0, none⟩))) (Er.pl s1 r1) := ⟨g3, v3, rfl, hat2, ws1, (ErV.le (fun _ _ h => h) hle2 hS1)⟩
      refine stp hA (r_mkI Tryd.underlying111 hA rfl) rfl fun a hA => 
        stp hA (r_as hA rfl) rfl fun a hA => ?_
      refine o_nil ?_
      refine hN10 _ _ ?_
      refine w_ret ?_
      have H : some (Er.pl s1 r1) = some z1 := H
      obtain rfl := Option.some.inj H
      have H := Hk1
      obtain rfl := Option.some.inj (bS H)
      exact ret1 hA Tryd.results44 rfl ⟨_, rfl, (.iface 111 (.pointer (some ⟨g3, 0, none⟩))), μ3, rfl, he2, (hI.sel [] (by decide) rfl)⟩
    · have hc20 := hc2; have hc2 := of_decide_eq_false hc2; have H := bF H hc2
      refine w_skip ?_
      refine hN6 _ _ ?_
      refine w_reg ?_
      refine stp hA (r_add hA rfl rfl) rfl fun a hA => 
        stp hA (r_mv hA rfl) rfl fun a hA => ?_
      refine o_nil ?_
      exact ⟨m1, Nat.lt_succ_self _, IntKind.i64.wrap (s1 + 1), μ2, H, (hle1.trans hi1.le), (wrap_in _ _), hA.sub ⟨rfl, rfl, rfl, rfl, rfl, rfl, trivial⟩, (hI.sel [1] (by decide) rfl)⟩
  · have hc10 := hc1; have hc1 := of_decide_eq_false hc1; have H := bF H hc1
    refine w_exit rfl ?_
    refine hN2 _ _ ?_
    refine w_seq fun _ hN11 => ?_
    refine w_seq fun _ hN12 => ?_
    refine w_reg ?_
    refine stp hA (r_fd (k := 68) Tryd.underlying39 rfl sz37 hA rfl rfl) rfl fun a hA => 
      stp hA (r_ld1 (j := 0) [[.int .u32 x0.Head.Version], av .u8 32 x0.Head.Prev, av .u8 32 x0.Head.Root, [.int .u32 x0.Head.Time], [.int .u32 x0.Head.Work], [.int .u32 x0.Head.Nonce]] [] Tryd.underlying37 rfl hI rfl hA rfl rfl) rfl fun a hA => ?_
    obtain ⟨_, hsl5⟩ := Slc.sv (Slc.le hx0.2.2.2.2.2.2 (fun _ _ h => RTx.le hle1 h) hle1)
    refine stp hA (r_slen Tryd.underlying37 hsl5 hA rfl) rfl fun a hA => 
      stp hA (r_mv hA rfl) rfl fun a hA => ?_
    refine o_nil ?_
    refine hN12 _ _ ?_
    refine w_block ?_
    obtain ⟨z2, hz3, Hk2⟩ := bind_some H
    obtain ⟨n2, hn2⟩ := loopO_some hz3
    refine w_loop (fun n a w => ∃ (s2 : Int), loopN (block_parts.s1 x0) n s2 = some z2 ∧ InR .i64 s2 ∧ Fr a 45 [(0, .agg [[.int .u32 x0.Head.Version], av .u8 32 x0.Head.Prev, av .u8 32 x0.Head.Root, [.int .u32 x0.Head.Time], [.int .u32 x0.Head.Work], [.int .u32 x0.Head.Nonce], [u0_0]].flatten.toArray), (1, .pointer (some ⟨g1, 0, none⟩)), (2, .nilIface), (9, u0_0), (10, .int .i64 (x0.Txs.length : Int)), (11, .int .i64 s1), (12, .bool (decide (s1 < (x0.Txs.length : Int)))), (27, u0_0), (28, .int .i64 (x0.Txs.length : Int)), (29, .int .i64 s2)] ∧ Iv w0 [] μ μ1 [cel g1 [[.int .u32 x0.Head.Version], av .u8 32 x0.Head.Prev, av .u8 32 x0.Head.Root, [.int .u32 x0.Head.Time], [.int .u32 x0.Head.Work], [.int .u32 x0.Head.Nonce], [u0_0]] 39] w) n2 ⟨0, hn2, (in_lit .i64 0 rfl), hA.sub ⟨rfl, rfl, rfl, rfl, rfl, rfl, rfl, rfl, rfl, rfl, trivial⟩, hI⟩ ?_
    clear hA hI
    rintro n a w ⟨s2, hn2, ws2, hA, hI⟩
    obtain ⟨m2, rfl, H⟩ := loopN_bind hn2
    clear hn2
    refine w_seq fun _ hN13 => ?_
    refine w_reg ?_
    refine stp hA (r_lss hA rfl rfl) rfl fun a hA => ?_
    refine o_nil ?_
    refine hN13 _ _ ?_
    refine w_seq fun _ hN14 => ?_
    refine w_cond hA rfl (fun hc3 => ?_) (fun hc3 => ?_)
    · have hc30 := hc3; have hc3 := of_decide_eq_true hc3; have H := bT H hc3
      refine w_skip ?_
      refine hN14 _ _ ?_
      refine w_seq fun _ hN15 => ?_
      refine w_block ?_
      refine w_seq fun _ hN16 => ?_
      refine w_reg ?_
      refine stp hA (r_mv hA rfl) rfl fun a hA => ?_
      obtain ⟨hb2, H⟩ := bG H
      obtain ⟨_, he3, _, hat3⟩ := Slc.elem (Slc.le hx0.2.2.2.2.2.2 (fun _ _ h => RTx.le hle1 h) hle1) (getD_some default hb2.1 hb2.2)
      obtain ⟨v4, v5, rfl, hw2⟩ := he3
      obtain ⟨_, hsl6⟩ := Slc.sv (Slc.le hx0.2.2.2.2.2.2 (fun _ _ h => RTx.le hle1 h) hle1)
      refine stp hA (r_six Tryd.underlying37 sz32 hsl6 hA rfl rfl hb2.1 hb2.2) rfl fun a hA => 
        stp hA (r_ldmA [] [[.int .u32 ((x0.Txs.getD s2.toNat default).Version)], [v4], [v5], [.int .u32 ((x0.Txs.getD s2.toNat default).Time)]] [] Tryd.underlying32 rfl sz32 rfl hI.agr hat3 hA rfl rfl) rfl fun a hA => 
        o_new [[.int .u32 0], [(.slice none 0 0)], [(.slice none 0 0)], [.int .u32 0]] zr32 hI hA rfl fun g4 a w hA hI hg4 => 
        stp hA (r_as hA rfl) rfl fun a hA => ?_
      obtain ⟨_, hsl7⟩ := Slc.sv hw2.2.1
      obtain ⟨_, hsl8⟩ := Slc.sv hw2.2.2.1
      refine o_st (j := 0) [] [[.int .u32 0], [(.slice none 0 0)], [(.slice none 0 0)], [.int .u32 0]] [[.int .u32 ((x0.Txs.getD s2.toNat default).Version)], [v4], [v5], [.int .u32 ((x0.Txs.getD s2.toNat default).Time)]] [] sz32 rfl rfl (fl_cons (one_one rfl) (fl_cons (one_one (one_sl hsl7)) (fl_cons (one_one (one_sl hsl8)) (fl_cons (one_one rfl) fl_nil)))) hI rfl hA rfl rfl rfl rfl fun w hI => ?_
      refine o_nil ?_
      refine hN16 _ _ ?_
      refine w_seq fun _ hN17 => ?_
      refine w_reg ?_
      refine stp hA (r_ldA (j := 0) [] [[.int .u32 ((x0.Txs.getD s2.toNat default).Version)], [v4], [v5], [.int .u32 ((x0.Txs.getD s2.toNat default).Time)]] [] Tryd.underlying32 rfl sz32 rfl hI rfl hA rfl rfl) rfl fun a hA => ?_
      obtain ⟨r2, hr2, H⟩ := bB H
      refine o_callp (u := .bool r2) cf73 hA rfl hI (tx_Base.c μ1 _ hI.agr (x0.Txs.getD s2.toNat default) v4 v5 ⟨hw2.1, hw2.2.1, hw2.2.2.1, hw2.2.2.2⟩ r2 hr2) rfl fun a w hz4 hI hA => 
        stp hA (r_mv hA rfl) rfl fun a hA => 
        stp hA (r_eql hA rfl rfl) rfl fun a hA => 
        stp hA (r_neqb Tryd.underlying4 hA rfl rfl) rfl fun a hA => ?_
      refine o_nil ?_
      refine hN17 _ _ ?_
      refine w_cond hA rfl (fun hc4 => ?_) (fun hc4 => ?_)
      · have hc40 := hc4; have hc4 := of_decide_eq_true hc4; have H := bT H hc4
        refine w_seq fun _ hN18 => ?_
        refine w_reg ?_
        refine stp hA (r_mv hA rfl) rfl fun a hA => 
          stp hA (r_ldG Tryd.underlying51 rfl hI.agr (ErV.le (fun _ _ h => h) hle1 he6) hA) rfl fun a hA => 
          stp hA (r_bldS (cs := [[.int .i64 s2], [e6]].flatten.toArray) (pl := [(0, 1), (1, 1)]) zr113 Tryd.underlying113 ⟨rfl, sz3, rfl, sz51, trivial⟩ hA rfl ((fill_one rfl rfl (by kernel_rfl)).trans ((fill_one (cells_err (ErV.le (fun _ _ h => h) hle1 he6)) rfl (by kernel_rfl)).trans (by kernel_rfl)))) rfl fun a hA => 
          o_box [[.int .i64 s2], [e6]] hI hA rfl rfl rfl fun g5 a w hA hI hg5 => ?_
        obtain ⟨μ4, hle3, hat4, hI⟩ := hI.freezeCel 0 rfl
        have he4 : ErS μ4 (.iface 111 (.pointer (some ⟨g5, 0, none⟩))) (Er.pl s2 xErrBase) := ⟨g5, e6, rfl, hat4, ws2, (ErV.le (fun _ _ h => h) (hle1.trans hle3) he6)⟩
        refine stp hA (r_mkI Tryd.underlying111 hA rfl) rfl fun a hA => 
          stp hA (r_as hA rfl) rfl fun a hA => ?_
        refine o_nil ?_
        refine hN18 _ _ ?_
        refine w_ret ?_
        have H : some (.inr (Er.pl s2 xErrBase)) = some z2 := H
        obtain rfl := Option.some.inj H
        have H := Hk2
        have H : some (Er.pl s2 xErrBase) = some z1 := H
        obtain rfl := Option.some.inj H
        have H := Hk1
        obtain rfl := Option.some.inj (bS H)
        exact ret1 hA Tryd.results44 rfl ⟨_, rfl, (.iface 111 (.pointer (some ⟨g5, 0, none⟩))), μ4, rfl, he4, (hI.sel [] (by decide) rfl)⟩
      · have hc40 := hc4; have hc4 := of_decide_eq_false hc4; have H := bF H hc4
        refine w_skip ?_
        refine hN15 _ _ ?_
        refine w_reg ?_
        refine stp hA (r_add hA rfl rfl) rfl fun a hA => 
          stp hA (r_mv hA rfl) rfl fun a hA => ?_
        refine o_nil ?_
        exact ⟨m2, Nat.lt_succ_self _, IntKind.i64.wrap (s2 + 1), H, (wrap_in _ _), hA.sub ⟨rfl, rfl, rfl, rfl, rfl, rfl, rfl, rfl, rfl, rfl, trivial⟩, (hI.sel [1] (by decide) rfl)⟩
    · have hc30 := hc3; have hc3 := of_decide_eq_false hc3; have H := bF H hc3
      refine w_exit rfl ?_
      refine hN11 _ _ ?_
      refine w_seq fun _ hN19 => ?_
      refine w_reg ?_
      refine stp hA (r_as hA rfl) rfl fun a hA => ?_
      refine o_nil ?_
      refine hN19 _ _ ?_
      refine w_ret ?_
      have H : some (.inr (Er.b 0)) = some z2 := H
      obtain rfl := Option.some.inj H
      have H := Hk2
      have H : some (Er.b 0) = some z1 := H
      obtain rfl := Option.some.inj H
      have H := Hk1
      obtain rfl := Option.some.inj (bS H)
      exact ret1 hA Tryd.results44 rfl ⟨_, rfl, .nilIface, μ1, rfl, erv_nil, (hI.sel [] (by decide) rfl)⟩
set_option maxRecDepth 20000 in
theorem block_twice.c (μ : Store) (w0 : World) (hμ : Agr μ w0) (x0 : Block) (u0_0 : Value) (hx0 : BlockW μ x0 u0_0) (r : Bool) (H : block_twice.f x0 = some r) :
    Calls Tryd.prog 45 [.agg [[.int .u32 x0.Head.Version], av .u8 32 x0.Head.Prev, av .u8 32 x0.Head.Root, [.int .u32 x0.Head.Time], [.int .u32 x0.Head.Work], [.int .u32 x0.Head.Nonce], [u0_0]].flatten.toArray].toArray w0 (fun e w' => ∃ v, e = .returned v ∧ v = .bool r ∧ True ∧ Iv w0 [] μ μ [] w') := by
  refine enter Tryd.func45 rfl Tryd.ntmps45 rfl fun a hA => ?_
  have hI := Iv.start hμ
  have H := bI H
  refine w_seq fun _ hN1 => ?_
  refine w_reg ?_
  refine o_box [[.int .u32 x0.Head.Version], av .u8 32 x0.Head.Prev, av .u8 32 x0.Head.Root, [.int .u32 x0.Head.Time], [.int .u32 x0.Head.Work], [.int .u32 x0.Head.Nonce], [u0_0]] hI hA rfl rfl rfl fun g1 a w hA hI hg1 => 
    stp hA (r_as hA rfl) rfl fun a hA => ?_
  refine o_nil ?_
  refine hN1 _ _ ?_
  refine w_seq fun _ hN2 => ?_
  refine w_reg ?_
  refine o_mkmap kv114 vv114 hI hA rfl fun g2 a w hI hA => 
    o_mkmap kv115 vv115 hI hA rfl fun g3 a w hI hA => 
    stp hA (r_as hA rfl) rfl fun a hA => 
    stp hA (r_as hA rfl) rfl fun a hA => ?_
  refine o_nil ?_
  refine hN2 _ _ ?_
  refine w_seq fun _ hN3 => ?_
  refine w_seq fun _ hN4 => ?_
  refine w_reg ?_
  refine stp hA (r_ldA (j := 2) [] [[.int .u32 x0.Head.Version], av .u8 32 x0.Head.Prev, av .u8 32 x0.Head.Root, [.int .u32 x0.Head.Time], [.int .u32 x0.Head.Work], [.int .u32 x0.Head.Nonce], [u0_0]] [] Tryd.underlying39 rfl sz39 rfl hI rfl hA rfl rfl) rfl fun a hA => ?_
  obtain ⟨r1, hr1, H⟩ := bB H
  refine o_call _ cf29 hA rfl (block_IDs.c μ _ hI.agr x0 u0_0 ⟨hx0.1, hx0.2.1, hx0.2.2.1, hx0.2.2.2.1, hx0.2.2.2.2.1, hx0.2.2.2.2.2.1, hx0.2.2.2.2.2.2⟩ r1 hr1) rfl fun v1 a w hz1 hA => ?_
  obtain ⟨_, cs1, rfl, hE1, hi1⟩ := hz1
  have hI := hI.call hi1
  have hlen1 := Iv.row_in hI (j := 0) rfl
  refine stp hA (r_rlen (xs := 0) Tryd.underlying71 hI (j := 0) rfl hA rfl) rfl fun a hA => 
    stp hA (r_mv hA rfl) rfl fun a hA => ?_
  refine o_nil ?_
  refine hN4 _ _ ?_
  refine w_block ?_
  obtain ⟨z1, hz2, Hk1⟩ := bind_some H
  obtain ⟨n1, hn1⟩ := loopO_some hz2
  refine w_loop (fun n a w => ∃ (s1 : Int) (s2 : List (Point × Bool)) (s3 : List ((List Int) × Bool)), loopN (block_twice.s0 x0 r1) n (s1, s2, s3) = some z1 ∧ InR .i64 s1 ∧ mw115 s2 ∧ mw114 s3 ∧ Fr a 44 [(0, .agg [[.int .u32 x0.Head.Version], av .u8 32 x0.Head.Prev, av .u8 32 x0.Head.Root, [.int .u32 x0.Head.Time], [.int .u32 x0.Head.Work], [.int .u32 x0.Head.Nonce], [u0_0]].flatten.toArray), (1, .pointer (some ⟨g1, 0, none⟩)), (2, .bool false), (3, .map (some g2)), (4, .map (some g3)), (12, v1), (13, .int .i64 (r1.length : Int)), (14, .int .i64 s1)] ∧ Iv w0 [] μ μ [row 24 32 v1 r1.length cs1, mpI g3 (ent kv115 vv115 s2), mpI g2 (ent kv114 vv114 s3), cel g1 [[.int .u32 x0.Head.Version], av .u8 32 x0.Head.Prev, av .u8 32 x0.Head.Root, [.int .u32 x0.Head.Time], [.int .u32 x0.Head.Work], [.int .u32 x0.Head.Nonce], [u0_0]] 39] w) n1 ⟨0, ([] : List (Point × Bool)), ([] : List ((List Int) × Bool)), hn1, (in_lit .i64 0 rfl), mw_nil, mw_nil, hA.sub ⟨rfl, rfl, rfl, rfl, rfl, rfl, rfl, rfl, trivial⟩, hI⟩ ?_
  clear hA hI
  rintro n a w ⟨s1, s2, s3, hn1, ws1, ws2, ws3, hA, hI⟩
  obtain ⟨m1, rfl, H⟩ := loopN_bind hn1
  clear hn1
  refine w_seq fun _ hN5 => ?_
  refine w_reg ?_
  refine stp hA (r_lss hA rfl rfl) rfl fun a hA => ?_
  refine o_nil ?_
  refine hN5 _ _ ?_
  refine w_seq fun _ hN6 => ?_
  refine w_cond hA rfl (fun hc1 => ?_) (fun hc1 => ?_)
  · have hc10 := hc1; have hc1 := of_decide_eq_true hc1; have H := bT H hc1
    refine w_skip ?_
    refine hN6 _ _ ?_
    refine w_seq fun _ hN7 => ?_
    refine w_block ?_
    refine w_seq fun _ hN8 => ?_
    refine w_reg ?_
    refine stp hA (r_mv hA rfl) rfl fun a hA => ?_
    obtain ⟨hb1, H⟩ := bG H
    refine stp hA (r_rix (j := 0) Tryd.underlying71 sz24 hI rfl hA rfl rfl hb1.1 hb1.2) rfl fun a hA => ?_
    obtain ⟨A1, _, B1, hc2, hl1, _, he1⟩ := Els.at_ hE1 (getD_some [] hb1.1 hb1.2)
    obtain ⟨rfl, hw1⟩ := he1
    refine stp hA (r_rldP (j := 0) (q := s1.toNat * 32) (off := 0) A1 B1 [] [av .u8 32 (r1.getD s1.toNat [])] [] hc2 hl1 rfl Tryd.underlying24 rfl sz24 rfl hI rfl hA rfl) rfl fun a hA => 
      o_new [av .u8 32 (List.replicate 32 0)] zr24 hI hA rfl fun g4 a w hA hI hg4 => 
      stp hA (r_as hA rfl) rfl fun a hA => 
      o_st (j := 0) [] [av .u8 32 (List.replicate 32 0)] [av .u8 32 (r1.getD s1.toNat [])] [] sz24 rfl rfl (fl_cons (one_av _ _ _) fl_nil) hI rfl hA rfl rfl rfl rfl fun w hI => ?_
    refine o_nil ?_
    refine hN8 _ _ ?_
    refine w_seq fun _ hN9 => ?_
    refine w_seq fun _ hN10 => ?_
    refine w_reg ?_
    refine stp hA (r_mv hA rfl) rfl fun a hA => 
      stp hA (r_ldA (j := 0) [] [av .u8 32 (r1.getD s1.toNat [])] [] Tryd.underlying24 rfl sz24 rfl hI rfl hA rfl rfl) rfl fun a hA => 
      stp hA (r_look (j := 3) kn114 Tryd.underlying114 mz114 ws3 hw1 hI rfl hA rfl rfl) rfl fun a hA => ?_
    refine o_nil ?_
    refine hN10 _ _ ?_
    refine w_cond hA rfl (fun hc3 => ?_) (fun hc3 => ?_)
    · have hc30 := hc3; have H := bT H hc3
      refine w_seq fun _ hN11 => ?_
      refine w_reg ?_
      refine stp hA (r_as hA rfl) rfl fun a hA => ?_
      refine o_nil ?_
      refine hN11 _ _ ?_
      refine w_ret ?_
      have H : some true = some z1 := H
      obtain rfl := Option.some.inj H
      have H := Hk1
      obtain rfl := Option.some.inj (bS H)
      exact ret1 hA Tryd.results45 rfl ⟨_, rfl, rfl, trivial, hI.forget0⟩
    · have hc30 := hc3; have hc3 := ft hc3; have H := bF H hc3
      refine w_skip ?_
      refine hN9 _ _ ?_
      refine w_seq fun _ hN12 => ?_
      refine w_reg ?_
      refine stp hA (r_mv hA rfl) rfl fun a hA => 
        stp hA (r_ldA (j := 0) [] [av .u8 32 (r1.getD s1.toNat [])] [] Tryd.underlying24 rfl sz24 rfl hI rfl hA rfl rfl) rfl fun a hA => 
        o_mput (j := 3) (k := (r1.getD s1.toNat [])) true kn114 Tryd.underlying114 ws3 hw1 hI rfl hA rfl rfl rfl fun w hI => ?_
      refine o_nil ?_
      refine hN12 _ _ ?_
      refine w_seq fun _ hN13 => ?_
      refine w_reg ?_
      refine stp hA (r_fd (k := 68) Tryd.underlying39 rfl sz37 hA rfl rfl) rfl fun a hA => 
        stp hA (r_ld1 (j := 4) [[.int .u32 x0.Head.Version], av .u8 32 x0.Head.Prev, av .u8 32 x0.Head.Root, [.int .u32 x0.Head.Time], [.int .u32 x0.Head.Work], [.int .u32 x0.Head.Nonce]] [] Tryd.underlying37 rfl hI rfl hA rfl rfl) rfl fun a hA => 
        stp hA (r_mv hA rfl) rfl fun a hA => ?_
      obtain ⟨hb2, H⟩ := bG H
      obtain ⟨_, he2, _, hat1⟩ := Slc.elem hx0.2.2.2.2.2.2 (getD_some default hb2.1 hb2.2)
      obtain ⟨v2, v3, rfl, hw2⟩ := he2
      obtain ⟨_, hsl1⟩ := Slc.sv hx0.2.2.2.2.2.2
      refine stp hA (r_six Tryd.underlying37 sz32 hsl1 hA rfl rfl hb2.1 hb2.2) rfl fun a hA => 
        stp hA (r_fd (k := so u0_0 + s1.toNat * 4 + 1) Tryd.underlying32 rfl sz29 hA rfl rfl) rfl fun a hA => 
        stp hA (r_ldm1 [[.int .u32 ((x0.Txs.getD s1.toNat default).Version)]] [[v3], [.int .u32 ((x0.Txs.getD s1.toNat default).Time)]] Tryd.underlying29 rfl hI.agr hat1 hA rfl rfl) rfl fun a hA => ?_
      obtain ⟨_, hsl2⟩ := Slc.sv hw2.2.1
      refine stp hA (r_slen Tryd.underlying29 hsl2 hA rfl) rfl fun a hA => 
        stp hA (r_mv hA rfl) rfl fun a hA => ?_
      refine o_nil ?_
      refine hN13 _ _ ?_
      refine w_block ?_
      obtain ⟨z2, hz3, Hk2⟩ := bind_some H
      obtain ⟨n2, hn2⟩ := loopO_some hz3
      refine w_loop (fun n a w => ∃ (s4 : Int) (s5 : List (Point × Bool)), loopN (block_twice.s1 x0 r1 s1 s3) n (s4, s5) = some z2 ∧ InR .i64 s4 ∧ mw115 s5 ∧ Fr a 44 [(0, .agg [[.int .u32 x0.Head.Version], av .u8 32 x0.Head.Prev, av .u8 32 x0.Head.Root, [.int .u32 x0.Head.Time], [.int .u32 x0.Head.Work], [.int .u32 x0.Head.Nonce], [u0_0]].flatten.toArray), (1, .pointer (some ⟨g1, 0, none⟩)), (2, .bool false), (3, .map (some g2)), (4, .map (some g3)), (5, .int .i64 s1), (6, .pointer (some ⟨g4, 0, none⟩)), (12, v1), (13, .int .i64 (r1.length : Int)), (14, .int .i64 s1), (15, .bool (decide (s1 < (r1.length : Int)))), (21, .bool ((mget s3 (r1.getD s1.toNat [])).getD false)), (29, v2), (30, .int .i64 (((x0.Txs.getD s1.toNat default).Ins).length : Int)), (31, .int .i64 s4)] ∧ Iv w0 [] μ μ [cel g4 [av .u8 32 (r1.getD s1.toNat [])] 24, row 24 32 v1 r1.length cs1, mpI g3 (ent kv115 vv115 s5), mpI g2 (ent kv114 vv114 (mput s3 (r1.getD s1.toNat []) true)), cel g1 [[.int .u32 x0.Head.Version], av .u8 32 x0.Head.Prev, av .u8 32 x0.Head.Root, [.int .u32 x0.Head.Time], [.int .u32 x0.Head.Work], [.int .u32 x0.Head.Nonce], [u0_0]] 39] w) n2 ⟨0, s2, hn2, (in_lit .i64 0 rfl), ws2, hA.sub ⟨rfl, rfl, rfl, rfl, rfl, rfl, rfl, rfl, rfl, rfl, rfl, rfl, rfl, rfl, rfl, trivial⟩, hI⟩ ?_
      clear hA hI
      rintro n a w ⟨s4, s5, hn2, ws4, ws5, hA, hI⟩
      obtain ⟨m2, rfl, H⟩ := loopN_bind hn2
      clear hn2
      refine w_seq fun _ hN14 => ?_
      refine w_reg ?_
      refine stp hA (r_lss hA rfl rfl) rfl fun a hA => ?_
      refine o_nil ?_
      refine hN14 _ _ ?_
      refine w_seq fun _ hN15 => ?_
      refine w_cond hA rfl (fun hc4 => ?_) (fun hc4 => ?_)
      · have hc40 := hc4; have hc4 := of_decide_eq_true hc4; have H := bT H hc4
        refine w_skip ?_
        refine hN15 _ _ ?_
        refine w_seq fun _ hN16 => ?_
        refine w_block ?_
        refine w_seq fun _ hN17 => ?_
        refine w_reg ?_
        obtain ⟨hb3, H⟩ := bG H
        obtain ⟨_, he3, _, hat2⟩ := Slc.elem hw2.2.1 (getD_some default hb3.1 hb3.2)
        obtain ⟨v4, rfl, hw3⟩ := he3
        obtain ⟨_, hsl3⟩ := Slc.sv hw2.2.1
        refine stp hA (r_six Tryd.underlying29 sz46 hsl3 hA rfl rfl hb3.1 hb3.2) rfl fun a hA => 
          stp hA (r_ldmA [] [av .u8 32 ((((x0.Txs.getD s1.toNat default).Ins).getD s4.toNat default).From.Tx), [.int .u32 ((((x0.Txs.getD s1.toNat default).Ins).getD s4.toNat default).From.N)], [v4], [.int .u32 ((((x0.Txs.getD s1.toNat default).Ins).getD s4.toNat default).Seq)]] [] Tryd.underlying46 rfl sz46 rfl hI.agr hat2 hA rfl rfl) rfl fun a hA => 
          o_new [av .u8 32 (List.replicate 32 0), [.int .u32 0], [(.slice none 0 0)], [.int .u32 0]] zr46 hI hA rfl fun g5 a w hA hI hg5 => ?_
        obtain ⟨_, hsl4⟩ := Slc.sv hw3.2.2.1
        refine o_st (j := 0) [] [av .u8 32 (List.replicate 32 0), [.int .u32 0], [(.slice none 0 0)], [.int .u32 0]] [av .u8 32 ((((x0.Txs.getD s1.toNat default).Ins).getD s4.toNat default).From.Tx), [.int .u32 ((((x0.Txs.getD s1.toNat default).Ins).getD s4.toNat default).From.N)], [v4], [.int .u32 ((((x0.Txs.getD s1.toNat default).Ins).getD s4.toNat default).Seq)]] [] sz46 rfl rfl (fl_cons (one_av _ _ _) (fl_cons (one_one rfl) (fl_cons (one_one (one_sl hsl4)) (fl_cons (one_one rfl) fl_nil)))) hI rfl hA rfl rfl rfl rfl fun w hI => ?_
        refine o_nil ?_
        refine hN17 _ _ ?_
        refine w_seq fun _ hN18 => ?_
        refine w_seq fun _ hN19 => ?_
        refine w_reg ?_
        refine stp hA (r_mv hA rfl) rfl fun a hA => 
          stp hA (r_fd (k := 0) Tryd.underlying46 rfl sz44 hA rfl rfl) rfl fun a hA => 
          stp hA (r_ldA (j := 0) [] [av .u8 32 ((((x0.Txs.getD s1.toNat default).Ins).getD s4.toNat default).From.Tx), [.int .u32 ((((x0.Txs.getD s1.toNat default).Ins).getD s4.toNat default).From.N)]] [[v4], [.int .u32 ((((x0.Txs.getD s1.toNat default).Ins).getD s4.toNat default).Seq)]] Tryd.underlying44 rfl sz44 rfl hI rfl hA rfl rfl) rfl fun a hA => 
          stp hA (r_look (j := 3) kn115 Tryd.underlying115 mz115 ws5 ⟨hw3.1, hw3.2.1⟩ hI rfl hA rfl rfl) rfl fun a hA => ?_
        refine o_nil ?_
        refine hN19 _ _ ?_
        refine w_cond hA rfl (fun hc5 => ?_) (fun hc5 => ?_)
        · have hc50 := hc5; have H := bT H hc5
          refine w_seq fun _ hN20 => ?_
          refine w_reg ?_
          refine stp hA (r_as hA rfl) rfl fun a hA => ?_
          refine o_nil ?_
          refine hN20 _ _ ?_
          refine w_ret ?_
          have H : some (.inr true) = some z2 := H
          obtain rfl := Option.some.inj H
          have H := Hk2
          have H : some true = some z1 := H
          obtain rfl := Option.some.inj H
          have H := Hk1
          obtain rfl := Option.some.inj (bS H)
          exact ret1 hA Tryd.results45 rfl ⟨_, rfl, rfl, trivial, hI.forget0⟩
        · have hc50 := hc5; have hc5 := ft hc5; have H := bF H hc5
          refine w_skip ?_
          refine hN18 _ _ ?_
          refine w_reg ?_
          refine stp hA (r_mv hA rfl) rfl fun a hA => 
            stp hA (r_fd (k := 0) Tryd.underlying46 rfl sz44 hA rfl rfl) rfl fun a hA => 
            stp hA (r_ldA (j := 0) [] [av .u8 32 ((((x0.Txs.getD s1.toNat default).Ins).getD s4.toNat default).From.Tx), [.int .u32 ((((x0.Txs.getD s1.toNat default).Ins).getD s4.toNat default).From.N)]] [[v4], [.int .u32 ((((x0.Txs.getD s1.toNat default).Ins).getD s4.toNat default).Seq)]] Tryd.underlying44 rfl sz44 rfl hI rfl hA rfl rfl) rfl fun a hA => 
            o_mput (j := 3) (k := ((((x0.Txs.getD s1.toNat default).Ins).getD s4.toNat default).From)) true kn115 Tryd.underlying115 ws5 ⟨hw3.1, hw3.2.1⟩ hI rfl hA rfl rfl rfl fun w hI => ?_
          refine o_nil ?_
          refine hN16 _ _ ?_
          refine w_reg ?_
          refine stp hA (r_add hA rfl rfl) rfl fun a hA => 
            stp hA (r_mv hA rfl) rfl fun a hA => ?_
          refine o_nil ?_
          exact ⟨m2, Nat.lt_succ_self _, IntKind.i64.wrap (s4 + 1), mput s5 ((((x0.Txs.getD s1.toNat default).Ins).getD s4.toNat default).From) true, H, (wrap_in _ _), (MW.put ws5 ⟨hw3.1, hw3.2.1⟩ trivial), hA.sub ⟨rfl, rfl, rfl, rfl, rfl, rfl, rfl, rfl, rfl, rfl, rfl, rfl, rfl, rfl, rfl, trivial⟩, (hI.sel [1, 2, 3, 4, 5] (by decide) rfl)⟩
      · have hc40 := hc4; have hc4 := of_decide_eq_false hc4; have H := bF H hc4
        refine w_exit rfl ?_
        refine hN7 _ _ ?_
        refine w_reg ?_
        refine stp hA (r_add hA rfl rfl) rfl fun a hA => 
          stp hA (r_mv hA rfl) rfl fun a hA => ?_
        refine o_nil ?_
        have H : some (.inl (IntKind.i64.wrap (s1 + 1), s5, mput s3 (r1.getD s1.toNat []) true)) = some z2 := H
        obtain rfl := Option.some.inj H
        have H := Hk2
        exact ⟨m1, Nat.lt_succ_self _, IntKind.i64.wrap (s1 + 1), s5, mput s3 (r1.getD s1.toNat []) true, H, (wrap_in _ _), ws5, (MW.put ws3 hw1 trivial), hA.sub ⟨rfl, rfl, rfl, rfl, rfl, rfl, rfl, rfl, trivial⟩, (hI.sel [1, 2, 3, 4] (by decide) rfl)⟩
  · have hc10 := hc1; have hc1 := of_decide_eq_false hc1; have H := bF H hc1
    refine w_exit rfl ?_
    refine hN3 _ _ ?_
    refine w_seq fun _ hN21 => ?_
    refine w_reg ?_
    refine stp hA (r_as hA rfl) rfl fun a hA => ?_
    refine o_nil ?_
    refine hN21 _ _ ?_
    refine w_ret ?_
    have H : some false = some z1 := H
    obtain rfl := Option.some.inj H
    have H := Hk1
    obtain rfl := Option.some.inj (bS H)
    exact ret1 hA Tryd.results45 rfl ⟨_, rfl, rfl, trivial, hI.forget0⟩
set_option maxRecDepth 20000 in
theorem block_Check.c (μ : Store) (w0 : World) (hμ : Agr μ w0) (x0 : Block) (u0_0 : Value) (hx0 : BlockW μ x0 u0_0) (e0 : Value) (he0 : ErS μ e0 (Er.b 1)) (e1 : Value) (he1 : ErS μ e1 (Er.b 2)) (e2 : Value) (he2 : ErS μ e2 (Er.b 3)) (e3 : Value) (he3 : ErS μ e3 (Er.b 4)) (e5 : Value) (he5 : ErS μ e5 (Er.b 6)) (e6 : Value) (he6 : ErS μ e6 (Er.b 7)) (e7 : Value) (he7 : ErS μ e7 (Er.b 8)) (e8 : Value) (he8 : ErS μ e8 (Er.b 9)) (r : Er) (H : block_Check.f x0 = some r) :
    Calls Tryd.prog 16 [.agg [[.int .u32 x0.Head.Version], av .u8 32 x0.Head.Prev, av .u8 32 x0.Head.Root, [.int .u32 x0.Head.Time], [.int .u32 x0.Head.Work], [.int .u32 x0.Head.Nonce], [u0_0]].flatten.toArray].toArray w0 (fun e w' => ∃ v, e = .returned v ∧ ∃ (v0 : Value) (μ' : Store), v = v0 ∧ ErS μ' v0 r ∧ Iv w0 [] μ μ' [] w') := by
  refine enter Tryd.func16 rfl Tryd.ntmps16 rfl fun a hA => ?_
  have hI := Iv.start hμ
  have H := bI H
  refine w_seq fun _ hN1 => ?_
  refine w_reg ?_
  refine o_box [[.int .u32 x0.Head.Version], av .u8 32 x0.Head.Prev, av .u8 32 x0.Head.Root, [.int .u32 x0.Head.Time], [.int .u32 x0.Head.Work], [.int .u32 x0.Head.Nonce], [u0_0]] hI hA rfl rfl rfl fun g1 a w hA hI hg1 => 
    stp hA (r_as hA rfl) rfl fun a hA => ?_
  refine o_nil ?_
  refine hN1 _ _ ?_
  refine w_seq fun _ hN2 => ?_
  refine w_seq fun _ hN3 => ?_
  refine w_reg ?_
  refine stp hA (r_fd (k := 0) Tryd.underlying39 rfl sz36 hA rfl rfl) rfl fun a hA => 
    stp hA (r_ldA (j := 0) [] [[.int .u32 x0.Head.Version], av .u8 32 x0.Head.Prev, av .u8 32 x0.Head.Root, [.int .u32 x0.Head.Time], [.int .u32 x0.Head.Work], [.int .u32 x0.Head.Nonce]] [[u0_0]] Tryd.underlying36 rfl sz36 rfl hI rfl hA rfl rfl) rfl fun a hA => ?_
  obtain ⟨r1, hr1, H⟩ := bB H
  refine o_call _ cf43 hA rfl (head_Check.c μ _ hI.agr x0.Head ⟨hx0.1, hx0.2.1, hx0.2.2.1, hx0.2.2.2.1, hx0.2.2.2.2.1, hx0.2.2.2.2.2.1⟩ e5 he5 r1 hr1) rfl fun v1 a w hz1 hA => ?_
  obtain ⟨_, μ1, rfl, hS1, hi1⟩ := hz1
  have hI := hI.call hi1
  refine stp hA (r_as hA rfl) rfl fun a hA => ?_
  refine o_nil ?_
  refine hN3 _ _ ?_
  refine w_seq fun _ hN4 => ?_
  refine w_reg ?_
  refine stp hA (r_mv hA rfl) rfl fun a hA => 
    stp hA (r_neE erF hI.agr hS1 erv_nil (.inl ⟨.inr ⟨_, rfl⟩, Er.fitR⟩) hA rfl rfl) rfl fun a hA => ?_
  refine o_nil ?_
  refine hN4 _ _ ?_
  refine w_cond hA rfl (fun hc1 => ?_) (fun hc1 => ?_)
  · have hc10 := hc1; have hc1 := of_decide_eq_true hc1; have H := bT H hc1
    refine w_seq fun _ hN5 => ?_
    refine w_reg ?_
    refine stp hA (r_mv hA rfl) rfl fun a hA => 
      stp hA (r_as hA rfl) rfl fun a hA => ?_
    refine o_nil ?_
    refine hN5 _ _ ?_
    refine w_ret ?_
    obtain rfl := Option.some.inj (bS H)
    exact ret1 hA Tryd.results16 rfl ⟨_, rfl, v1, μ1, rfl, hS1, (hI.sel [] (by decide) rfl)⟩
  · have hc10 := hc1; have hc1 := of_decide_eq_false hc1; have H := bF H hc1
    refine w_skip ?_
    refine hN2 _ _ ?_
    refine w_seq fun _ hN6 => ?_
    refine w_block ?_
    obtain ⟨c1, hz2, Hk1⟩ := bB H
    refine w_cut (fun a w => Fr a 45 [(0, .agg [[.int .u32 x0.Head.Version], av .u8 32 x0.Head.Prev, av .u8 32 x0.Head.Root, [.int .u32 x0.Head.Time], [.int .u32 x0.Head.Work], [.int .u32 x0.Head.Nonce], [u0_0]].flatten.toArray), (1, .pointer (some ⟨g1, 0, none⟩)), (2, .nilIface), (3, v1), (9, .bool (decide (r1 ≠ (Er.b 0)))), (11, .bool c1)] ∧ Iv w0 [] μ μ1 [cel g1 [[.int .u32 x0.Head.Version], av .u8 32 x0.Head.Prev, av .u8 32 x0.Head.Root, [.int .u32 x0.Head.Time], [.int .u32 x0.Head.Work], [.int .u32 x0.Head.Nonce], [u0_0]] 39] w) ?_ ?_
    · have H := bI hz2
      refine w_reg ?_
      refine stp hA (r_fd (k := 68) Tryd.underlying39 rfl sz37 hA rfl rfl) rfl fun a hA => 
        stp hA (r_ld1 (j := 0) [[.int .u32 x0.Head.Version], av .u8 32 x0.Head.Prev, av .u8 32 x0.Head.Root, [.int .u32 x0.Head.Time], [.int .u32 x0.Head.Work], [.int .u32 x0.Head.Nonce]] [] Tryd.underlying37 rfl hI rfl hA rfl rfl) rfl fun a hA => ?_
      obtain ⟨_, hsl1⟩ := Slc.sv (Slc.le hx0.2.2.2.2.2.2 (fun _ _ h => RTx.le hi1.le h) hi1.le)
      refine stp hA (r_slen Tryd.underlying37 hsl1 hA rfl) rfl fun a hA => 
        stp hA (r_eql hA rfl rfl) rfl fun a hA => 
        stp hA (r_mv hA rfl) rfl fun a hA => ?_
      rcases Bool.eq_false_or_eq_true (decide ((x0.Txs.length : Int) = 0)) with hc2 | hc2
      · have hc20 := hc2; have hc2 := of_decide_eq_true hc2; have H := bT H hc2
        refine o_no hA rfl rfl (by rw [hc20]; simp [vb]) rfl fun a hA => 
          o_no hA rfl rfl (by rw [hc20]; simp [vb]) rfl fun a hA => 
          o_no hA rfl rfl (by rw [hc20]; simp [vb]) rfl fun a hA => 
          o_no hA rfl rfl (by rw [hc20]; simp [vb]) rfl fun a hA => 
          stp hA (r_pick_t hA rfl hc20 rfl) rfl fun a hA => 
          stp hA (r_as hA rfl) rfl fun a hA => ?_
        refine o_nil ?_
        cases Option.some.inj (bS H)
        exact ⟨hA.sub ⟨rfl, rfl, rfl, rfl, rfl, rfl, trivial⟩, hI⟩
      · have hc20 := hc2; have hc2 := of_decide_eq_false hc2; have H := bF H hc2
        refine o_yes hA rfl rfl hc20 <| 
          stp hA (r_fd (k := 68) Tryd.underlying39 rfl sz37 hA rfl rfl) rfl fun a hA => 
          o_yes hA rfl rfl hc20 <| 
          stp hA (r_ld1 (j := 0) [[.int .u32 x0.Head.Version], av .u8 32 x0.Head.Prev, av .u8 32 x0.Head.Root, [.int .u32 x0.Head.Time], [.int .u32 x0.Head.Work], [.int .u32 x0.Head.Nonce]] [] Tryd.underlying37 rfl hI rfl hA rfl rfl) rfl fun a hA => 
          o_yes hA rfl rfl hc20 <| ?_
        obtain ⟨_, hsl2⟩ := Slc.sv (Slc.le hx0.2.2.2.2.2.2 (fun _ _ h => RTx.le hi1.le h) hi1.le)
        refine stp hA (r_slen Tryd.underlying37 hsl2 hA rfl) rfl fun a hA => 
          o_yes hA rfl rfl hc20 <| 
          stp hA (r_gtr hA rfl rfl) rfl fun a hA => 
          stp hA (r_pick_f hA rfl hc20 rfl) rfl fun a hA => 
          stp hA (r_as hA rfl) rfl fun a hA => ?_
        refine o_nil ?_
        cases Option.some.inj (bS H)
        exact ⟨hA.sub ⟨rfl, rfl, rfl, rfl, rfl, rfl, trivial⟩, hI⟩
    · rintro a w ⟨hA, hI⟩
      have H := Hk1
      refine w_cond hA rfl (fun hc3 => ?_) (fun hc3 => ?_)
      · have hc30 := hc3; have H := bT H hc3
        refine w_seq fun _ hN7 => ?_
        refine w_reg ?_
        refine stp hA (r_ldG Tryd.underlying51 rfl hI.agr (ErV.le (fun _ _ h => h) hi1.le he0) hA) rfl fun a hA => 
          stp hA (r_as hA rfl) rfl fun a hA => ?_
        refine o_nil ?_
        refine hN7 _ _ ?_
        refine w_ret ?_
        obtain rfl := Option.some.inj (bS H)
        exact ret1 hA Tryd.results16 rfl ⟨_, rfl, e0, μ1, rfl, (ErV.le (fun _ _ h => h) hi1.le he0), (hI.sel [] (by decide) rfl)⟩
      · have hc30 := hc3; have hc3 := ft hc3; have H := bF H hc3
        refine w_seq fun _ hN8 => ?_
        refine w_reg ?_
        refine stp hA (r_ldA (j := 0) [] [[.int .u32 x0.Head.Version], av .u8 32 x0.Head.Prev, av .u8 32 x0.Head.Root, [.int .u32 x0.Head.Time], [.int .u32 x0.Head.Work], [.int .u32 x0.Head.Nonce], [u0_0]] [] Tryd.underlying39 rfl sz39 rfl hI rfl hA rfl rfl) rfl fun a hA => ?_
        obtain ⟨r2, hr2, H⟩ := bB H
        refine o_callp (u := .int .i64 r2) cf24 hA rfl hI (block_Size.c μ1 _ hI.agr x0 u0_0 ⟨hx0.1, hx0.2.1, hx0.2.2.1, hx0.2.2.2.1, hx0.2.2.2.2.1, hx0.2.2.2.2.2.1, (Slc.le hx0.2.2.2.2.2.2 (fun _ _ h => RTx.le hi1.le h) hi1.le)⟩ r2 hr2) rfl fun a w hz3 hI hA => 
          stp hA (r_gtr hA rfl rfl) rfl fun a hA => 
          stp hA (r_as hA rfl) rfl fun a hA => ?_
        refine o_nil ?_
        refine hN8 _ _ ?_
        refine w_cond hA rfl (fun hc4 => ?_) (fun hc4 => ?_)
        · have hc40 := hc4; have hc4 := of_decide_eq_true hc4; have H := bT H hc4
          refine w_seq fun _ hN9 => ?_
          refine w_reg ?_
          refine stp hA (r_ldG Tryd.underlying51 rfl hI.agr (ErV.le (fun _ _ h => h) hi1.le he1) hA) rfl fun a hA => 
            stp hA (r_as hA rfl) rfl fun a hA => ?_
          refine o_nil ?_
          refine hN9 _ _ ?_
          refine w_ret ?_
          obtain rfl := Option.some.inj (bS H)
          exact ret1 hA Tryd.results16 rfl ⟨_, rfl, e1, μ1, rfl, (ErV.le (fun _ _ h => h) hi1.le he1), (hI.sel [] (by decide) rfl)⟩
        · have hc40 := hc4; have hc4 := of_decide_eq_false hc4; have H := bF H hc4
          refine w_skip ?_
          refine hN6 _ _ ?_
          refine w_seq fun _ hN10 => ?_
          refine w_seq fun _ hN11 => ?_
          refine w_reg ?_
          refine stp hA (r_ldA (j := 0) [] [[.int .u32 x0.Head.Version], av .u8 32 x0.Head.Prev, av .u8 32 x0.Head.Root, [.int .u32 x0.Head.Time], [.int .u32 x0.Head.Work], [.int .u32 x0.Head.Nonce], [u0_0]] [] Tryd.underlying39 rfl sz39 rfl hI rfl hA rfl rfl) rfl fun a hA => ?_
          obtain ⟨r3, hr3, H⟩ := bB H
          refine o_call _ cf44 hA rfl (block_parts.c μ1 _ hI.agr x0 u0_0 ⟨hx0.1, hx0.2.1, hx0.2.2.1, hx0.2.2.2.1, hx0.2.2.2.2.1, hx0.2.2.2.2.2.1, (Slc.le hx0.2.2.2.2.2.2 (fun _ _ h => RTx.le hi1.le h) hi1.le)⟩ e0 (ErV.le (fun _ _ h => h) hi1.le he0) e1 (ErV.le (fun _ _ h => h) hi1.le he1) e2 (ErV.le (fun _ _ h => h) hi1.le he2) e6 (ErV.le (fun _ _ h => h) hi1.le he6) e7 (ErV.le (fun _ _ h => h) hi1.le he7) e8 (ErV.le (fun _ _ h => h) hi1.le he8) r3 hr3) rfl fun v2 a w hz4 hA => ?_
          obtain ⟨_, μ2, rfl, hS2, hi2⟩ := hz4
          have hI := hI.call hi2
          refine stp hA (r_as hA rfl) rfl fun a hA => ?_
          refine o_nil ?_
          refine hN11 _ _ ?_
          refine w_seq fun _ hN12 => ?_
          refine w_reg ?_
          refine stp hA (r_mv hA rfl) rfl fun a hA => 
            stp hA (r_neE erF hI.agr hS2 erv_nil (.inl ⟨.inr ⟨_, rfl⟩, Er.fitR⟩) hA rfl rfl) rfl fun a hA => ?_
          refine o_nil ?_
          refine hN12 _ _ ?_
          refine w_cond hA rfl (fun hc5 => ?_) (fun hc5 => ?_)
          · have hc50 := hc5; have hc5 := of_decide_eq_true hc5; have H := bT H hc5
            refine w_seq fun _ hN13 => ?_
            refine w_reg ?_
            refine stp hA (r_mv hA rfl) rfl fun a hA => 
              stp hA (r_as hA rfl) rfl fun a hA => ?_
            refine o_nil ?_
            refine hN13 _ _ ?_
            refine w_ret ?_
            obtain rfl := Option.some.inj (bS H)
            exact ret1 hA Tryd.results16 rfl ⟨_, rfl, v2, μ2, rfl, hS2, (hI.sel [] (by decide) rfl)⟩
          · have hc50 := hc5; have hc5 := of_decide_eq_false hc5; have H := bF H hc5
            refine w_skip ?_
            refine hN10 _ _ ?_
            refine w_seq fun _ hN14 => ?_
            refine w_block ?_
            refine w_seq fun _ hN15 => ?_
            refine w_reg ?_
            refine stp hA (r_ldA (j := 0) [] [[.int .u32 x0.Head.Version], av .u8 32 x0.Head.Prev, av .u8 32 x0.Head.Root, [.int .u32 x0.Head.Time], [.int .u32 x0.Head.Work], [.int .u32 x0.Head.Nonce], [u0_0]] [] Tryd.underlying39 rfl sz39 rfl hI rfl hA rfl rfl) rfl fun a hA => ?_
            obtain ⟨r4, hr4, H⟩ := bB H
            refine o_callp (u := .bool r4) cf45 hA rfl hI (block_twice.c μ2 _ hI.agr x0 u0_0 ⟨hx0.1, hx0.2.1, hx0.2.2.1, hx0.2.2.2.1, hx0.2.2.2.2.1, hx0.2.2.2.2.2.1, (Slc.le hx0.2.2.2.2.2.2 (fun _ _ h => RTx.le (hi1.le.trans hi2.le) h) (hi1.le.trans hi2.le))⟩ r4 hr4) rfl fun a w hz5 hI hA => 
              stp hA (r_as hA rfl) rfl fun a hA => ?_
            refine o_nil ?_
            refine hN15 _ _ ?_
            refine w_cond hA rfl (fun hc6 => ?_) (fun hc6 => ?_)
            · have hc60 := hc6; have H := bT H hc6
              refine w_seq fun _ hN16 => ?_
              refine w_reg ?_
              refine stp hA (r_ldG Tryd.underlying51 rfl hI.agr (ErV.le (fun _ _ h => h) (hi1.le.trans hi2.le) he2) hA) rfl fun a hA => 
                stp hA (r_as hA rfl) rfl fun a hA => ?_
              refine o_nil ?_
              refine hN16 _ _ ?_
              refine w_ret ?_
              obtain rfl := Option.some.inj (bS H)
              exact ret1 hA Tryd.results16 rfl ⟨_, rfl, e2, μ2, rfl, (ErV.le (fun _ _ h => h) (hi1.le.trans hi2.le) he2), (hI.sel [] (by decide) rfl)⟩
            · have hc60 := hc6; have hc6 := ft hc6; have H := bF H hc6
              refine w_seq fun _ hN17 => ?_
              refine w_any [] mo hI fun w hI => ?_
              refine g_take (i := 0) hA rfl rfl (by kernel_rfl) hI (fun w hI => r_ldA (j := 0) [] [[.int .u32 x0.Head.Version], av .u8 32 x0.Head.Prev, av .u8 32 x0.Head.Root, [.int .u32 x0.Head.Time], [.int .u32 x0.Head.Work], [.int .u32 x0.Head.Nonce], [u0_0]] [] Tryd.underlying39 rfl sz39 rfl hI rfl hA rfl rfl) rfl fun a hA => ?_
              refine g_easy (i := 2) hA rfl rfl (by kernel_rfl) (.inr hI) (fun _ => r_fd (k := 0) Tryd.underlying39 rfl sz36 hA rfl rfl) rfl fun a hA => ?_
              refine g_easy (i := 3) hA rfl rfl (by kernel_rfl) (.inr hI) (fun _ => r_fd (k := 33) Tryd.underlying36 rfl sz24 hA rfl rfl) rfl fun a hA => ?_
              refine g_take (i := 4) hA rfl rfl (by kernel_rfl) hI (fun w hI => r_ldA (j := 0) [[.int .u32 x0.Head.Version], av .u8 32 x0.Head.Prev] [av .u8 32 x0.Head.Root] [[.int .u32 x0.Head.Time], [.int .u32 x0.Head.Work], [.int .u32 x0.Head.Nonce], [u0_0]] Tryd.underlying24 rfl sz24 rfl hI rfl hA rfl rfl) rfl fun a hA => ?_
              refine g_forced (i := 1) rfl (by kernel_rfl) ?_
              obtain ⟨r5, hr5, H⟩ := bB H
              refine o_callp (u := .agg [av .u8 32 r5].flatten.toArray) cf15 hA rfl hI (block_Root.c μ2 _ hI.agr x0 u0_0 ⟨hx0.1, hx0.2.1, hx0.2.2.1, hx0.2.2.2.1, hx0.2.2.2.2.1, hx0.2.2.2.2.2.1, (Slc.le hx0.2.2.2.2.2.2 (fun _ _ h => RTx.le (hi1.le.trans hi2.le) h) (hi1.le.trans hi2.le))⟩ r5 hr5) rfl fun a w hz6 hI hA => ?_
              refine o_nil ?_
              refine ⟨(.inr hI), ?_⟩
              refine g_easy (i := 5) hA rfl rfl (by kernel_rfl) (.inr hI) (fun _ => r_neS hA rfl rfl eg24 (eqv_arr Tryd.underlying24 Tryd.underlying5 sz5 hz6 hx0.2.2.1)) rfl fun a hA => ?_
              refine g_easy (i := 6) hA rfl rfl (by kernel_rfl) (.inr hI) (fun _ => r_as hA rfl) rfl fun a hA => ?_
              refine g_nil (by kernel_rfl) ?_
              refine hN17 _ _ ?_
              refine w_cond hA rfl (fun hc7 => ?_) (fun hc7 => ?_)
              · have hc70 := hc7; have hc7 := of_decide_eq_true hc7; have H := bT H hc7
                refine w_seq fun _ hN18 => ?_
                refine w_reg ?_
                refine stp hA (r_ldG Tryd.underlying51 rfl hI.agr (ErV.le (fun _ _ h => h) (hi1.le.trans hi2.le) he3) hA) rfl fun a hA => 
                  stp hA (r_as hA rfl) rfl fun a hA => ?_
                refine o_nil ?_
                refine hN18 _ _ ?_
                refine w_ret ?_
                obtain rfl := Option.some.inj (bS H)
                exact ret1 hA Tryd.results16 rfl ⟨_, rfl, e3, μ2, rfl, (ErV.le (fun _ _ h => h) (hi1.le.trans hi2.le) he3), (hI.sel [] (by decide) rfl)⟩
              · have hc70 := hc7; have hc7 := of_decide_eq_false hc7; have H := bF H hc7
                refine w_skip ?_
                refine hN14 _ _ ?_
                refine w_seq fun _ hN19 => ?_
                refine w_reg ?_
                refine stp hA (r_as hA rfl) rfl fun a hA => ?_
                refine o_nil ?_
                refine hN19 _ _ ?_
                refine w_ret ?_
                obtain rfl := Option.some.inj (bS H)
                exact ret1 hA Tryd.results16 rfl ⟨_, rfl, .nilIface, μ2, rfl, erv_nil, (hI.sel [] (by decide) rfl)⟩
end Go.Proofs.YtlpggofilkfbnaaDoor.T
namespace Go.Proofs.YtlpggofilkfbnaaDoor.T
open Go Go.Proofs Go.Proofs.YtlpggofilkfbnaaDoor.K
set_option linter.unusedVariables false
set_option linter.unusedSimpArgs false
noncomputable def sargassolaw7_first.f : Option Bool := ((((block_Start.f).bind fun r1 => ((block_Check.f r1).bind fun r2 => (if r2 = (Er.b 0) then ((block_Start.f).bind fun r3 => ((block_IDs.f r3).bind fun r4 => some (decide ((r4.length : Int) = 1)))) else some false)))).bind fun c1 => some c1)
end Go.Proofs.YtlpggofilkfbnaaDoor.T
namespace Go.Proofs.YtlpggofilkfbnaaDoor.T
open Go Go.Proofs Go.Proofs.YtlpggofilkfbnaaDoor.K
set_option linter.unusedVariables false
set_option linter.unusedSimpArgs false
set_option maxRecDepth 20000 in
theorem sargassolaw7_first.c (μ : Store) (w0 : World) (hμ : Agr μ w0) (e0 : Value) (he0 : ErS μ e0 (Er.b 1)) (e1 : Value) (he1 : ErS μ e1 (Er.b 2)) (e2 : Value) (he2 : ErS μ e2 (Er.b 3)) (e3 : Value) (he3 : ErS μ e3 (Er.b 4)) (e5 : Value) (he5 : ErS μ e5 (Er.b 6)) (e6 : Value) (he6 : ErS μ e6 (Er.b 7)) (e7 : Value) (he7 : ErS μ e7 (Er.b 8)) (e8 : Value) (he8 : ErS μ e8 (Er.b 9)) (r : Bool) (H : sargassolaw7_first.f = some r) :
    Calls Tryd.prog 7 [].toArray w0 (fun e w' => ∃ v, e = .returned v ∧ v = .bool r ∧ True ∧ Iv w0 [] μ μ [] w') := by
  refine enter Tryd.func7 rfl Tryd.ntmps7 rfl fun a hA => ?_
  have hI := Iv.start hμ
  have H := bI H
  refine w_seq fun _ hN1 => ?_
  refine w_reg ?_
  refine stp hA (r_as hA rfl) rfl fun a hA => ?_
  refine o_nil ?_
  refine hN1 _ _ ?_
  obtain ⟨c1, hz1, Hk1⟩ := bB H
  refine w_cut (fun a w => ∃ (μ1 : Store), μ.le μ1 ∧ Fr a 10 [(0, .bool c1)] ∧ Iv w0 [] μ μ1 [] w) ?_ ?_
  · have H := bI hz1
    refine w_reg ?_
    obtain ⟨r1, hr1, H⟩ := bB H
    refine o_call _ cf12 hA rfl (block_Start.c μ _ hI.agr  r1 hr1) rfl fun v1 a w hz2 hA => ?_
    obtain ⟨v2, μ2, rfl, hw1, hi1⟩ := hz2
    have hI := hI.call hi1
    obtain ⟨r2, hr2, H⟩ := bB H
    refine o_call _ cf16 hA rfl (block_Check.c μ2 _ hI.agr r1 v2 ⟨hw1.1, hw1.2.1, hw1.2.2.1, hw1.2.2.2.1, hw1.2.2.2.2.1, hw1.2.2.2.2.2.1, hw1.2.2.2.2.2.2⟩ e0 (ErV.le (fun _ _ h => h) hi1.le he0) e1 (ErV.le (fun _ _ h => h) hi1.le he1) e2 (ErV.le (fun _ _ h => h) hi1.le he2) e3 (ErV.le (fun _ _ h => h) hi1.le he3) e5 (ErV.le (fun _ _ h => h) hi1.le he5) e6 (ErV.le (fun _ _ h => h) hi1.le he6) e7 (ErV.le (fun _ _ h => h) hi1.le he7) e8 (ErV.le (fun _ _ h => h) hi1.le he8) r2 hr2) rfl fun v3 a w hz3 hA => ?_
    obtain ⟨_, μ3, rfl, hS1, hi2⟩ := hz3
    have hI := hI.call hi2
    refine stp hA (r_eqE erF hI.agr hS1 erv_nil (.inl ⟨.inr ⟨_, rfl⟩, Er.fitR⟩) hA rfl rfl) rfl fun a hA => 
      stp hA (r_mv hA rfl) rfl fun a hA => ?_
    rcases Bool.eq_false_or_eq_true (decide (r2 = (Er.b 0))) with hc1 | hc1
    · have hc10 := hc1; have hc1 := of_decide_eq_true hc1; have H := bT H hc1
      refine o_yes hA rfl rfl hc10 <| ?_
      obtain ⟨r3, hr3, H⟩ := bB H
      refine o_call _ cf12 hA rfl (block_Start.c μ3 _ hI.agr  r3 hr3) rfl fun v4 a w hz4 hA => ?_
      obtain ⟨v5, μ4, rfl, hw2, hi3⟩ := hz4
      have hI := hI.call hi3
      refine o_yes hA rfl rfl hc10 <| ?_
      obtain ⟨r4, hr4, H⟩ := bB H
      refine o_call _ cf29 hA rfl (block_IDs.c μ4 _ hI.agr r3 v5 ⟨hw2.1, hw2.2.1, hw2.2.2.1, hw2.2.2.2.1, hw2.2.2.2.2.1, hw2.2.2.2.2.2.1, hw2.2.2.2.2.2.2⟩ r4 hr4) rfl fun v6 a w hz5 hA => ?_
      obtain ⟨_, cs1, rfl, hE1, hi4⟩ := hz5
      have hI := hI.call hi4
      refine o_yes hA rfl rfl hc10 <| ?_
      have hlen1 := Iv.row_in hI (j := 0) rfl
      refine stp hA (r_rlen (xs := 0) Tryd.underlying71 hI (j := 0) rfl hA rfl) rfl fun a hA => 
        o_yes hA rfl rfl hc10 <| 
        stp hA (r_eql hA rfl rfl) rfl fun a hA => 
        stp hA (r_pick_t hA rfl hc10 rfl) rfl fun a hA => 
        stp hA (r_as hA rfl) rfl fun a hA => ?_
      refine o_nil ?_
      cases Option.some.inj (bS H)
      exact ⟨μ4, ((hi1.le.trans hi2.le).trans hi3.le), hA.sub ⟨rfl, trivial⟩, (hI.sel [] (by decide) rfl)⟩
    · have hc10 := hc1; have hc1 := of_decide_eq_false hc1; have H := bF H hc1
      refine o_no hA rfl rfl (by rw [hc10]; simp [vb]) rfl fun a hA => 
        o_no hA rfl rfl (by rw [hc10]; simp [vb]) rfl fun a hA => 
        o_no hA rfl rfl (by rw [hc10]; simp [vb]) rfl fun a hA => 
        o_no hA rfl rfl (by rw [hc10]; simp [vb]) rfl fun a hA => 
        stp hA (r_pick_f hA rfl hc10 rfl) rfl fun a hA => 
        stp hA (r_as hA rfl) rfl fun a hA => ?_
      refine o_nil ?_
      cases Option.some.inj (bS H)
      exact ⟨μ3, (hi1.le.trans hi2.le), hA.sub ⟨rfl, trivial⟩, hI⟩
  · rintro a w ⟨μ1, hle1, hA, hI⟩
    have H := Hk1
    refine w_ret ?_
    obtain rfl := Option.some.inj (bS H)
    exact ret1 hA Tryd.results7 rfl ⟨_, rfl, rfl, trivial, hI.forget0⟩
end Go.Proofs.YtlpggofilkfbnaaDoor.T
namespace Go.Proofs.YtlpggofilkfbnaaDoor.T
open Go Go.Proofs Go.Proofs.YtlpggofilkfbnaaDoor.K
set_option linter.unusedVariables false
set_option linter.unusedSimpArgs false
noncomputable def sargassolaw7_BlockFirst.f (x0 : Int) (x1 : Int) (x2 : List Int) (x3 : List Int) : Option Bool := ((sargassolaw7_first.f).bind fun r1 => (if r1 = true then (if 60 < (x3.length : Int) then some r1 else (((if r1 = true then ((block_First.f x0 x1 x2 x3).bind fun r2 => ((sargassoref1_First.f x0 x1 x2 x3).bind fun r3 => ((sargassoref_SameTx.f r2 r3).bind fun r4 => (if r4 = true then ((block_Start.f).bind fun r5 => ((sargassoref1_Start.f).bind fun r6 => ((sargassoref_SameBlock.f r5 r6).bind fun r7 => some r7))) else some false)))) else some false)).bind fun c1 => some c1)) else some false))
end Go.Proofs.YtlpggofilkfbnaaDoor.T
namespace Go.Proofs.YtlpggofilkfbnaaDoor.T
open Go Go.Proofs Go.Proofs.YtlpggofilkfbnaaDoor.K
set_option linter.unusedVariables false
set_option linter.unusedSimpArgs false
set_option maxRecDepth 20000 in
theorem sargassolaw7_BlockFirst.c (μ : Store) (w0 : World) (hμ : Agr μ w0) (x0 : Int) (hx0 : InR .i64 x0) (x1 : Int) (hx1 : InR .u64 x1) (x2 : List Int) (hx2 : Arr .u8 32 x2) (x3 : List Int) (u3 : Value) (hx3 : Slc (RI .u8) 1 μ u3 x3) (e0 : Value) (he0 : ErS μ e0 (Er.b 1)) (e1 : Value) (he1 : ErS μ e1 (Er.b 2)) (e2 : Value) (he2 : ErS μ e2 (Er.b 3)) (e3 : Value) (he3 : ErS μ e3 (Er.b 4)) (e5 : Value) (he5 : ErS μ e5 (Er.b 6)) (e6 : Value) (he6 : ErS μ e6 (Er.b 7)) (e7 : Value) (he7 : ErS μ e7 (Er.b 8)) (e8 : Value) (he8 : ErS μ e8 (Er.b 9)) (r : Bool) (H : sargassolaw7_BlockFirst.f x0 x1 x2 x3 = some r) :
    Calls Tryd.prog 3 [.int .i64 x0, .int .u64 x1, .agg [av .u8 32 x2].flatten.toArray, u3].toArray w0 (fun e w' => ∃ v, e = .returned v ∧ v = .bool r ∧ True ∧ Iv w0 [] μ μ [] w') := by
  refine enter Tryd.func3 rfl Tryd.ntmps3 rfl fun a hA => ?_
  have hI := Iv.start hμ
  have H := bI H
  refine w_seq fun _ hN1 => ?_
  refine w_reg ?_
  refine o_box [av .u8 32 x2] hI hA rfl rfl rfl fun g1 a w hA hI hg1 => 
    stp hA (r_as hA rfl) rfl fun a hA => ?_
  refine o_nil ?_
  refine hN1 _ _ ?_
  refine w_seq fun _ hN2 => ?_
  refine w_reg ?_
  obtain ⟨r1, hr1, H⟩ := bB H
  refine o_callp (u := .bool r1) cf7 hA rfl hI (sargassolaw7_first.c μ _ hI.agr e0 he0 e1 he1 e2 he2 e3 he3 e5 he5 e6 he6 e7 he7 e8 he8 r1 hr1) rfl fun a w hz1 hI hA => 
    stp hA (r_as hA rfl) rfl fun a hA => ?_
  refine o_nil ?_
  refine hN2 _ _ ?_
  refine w_seq fun _ hN3 => ?_
  refine w_seq fun _ hN4 => ?_
  refine w_reg ?_
  refine stp hA (r_mv hA rfl) rfl fun a hA => 
    stp hA (r_not hA rfl) rfl fun a hA => ?_
  refine o_nil ?_
  refine hN4 _ _ ?_
  refine w_cond hA rfl (fun hc1 => ?_) (fun hc1 => ?_)
  · have hc10 := hc1; have hc1 := nT hc1; have hc1 := ft hc1; have H := bF H hc1
    refine w_seq fun _ hN5 => ?_
    refine w_reg ?_
    refine stp hA (r_as hA rfl) rfl fun a hA => ?_
    refine o_nil ?_
    refine hN5 _ _ ?_
    refine w_ret ?_
    obtain rfl := Option.some.inj (bS H)
    exact ret1 hA Tryd.results3 rfl ⟨_, rfl, rfl, trivial, hI.forget0⟩
  · have hc10 := hc1; have hc1 := nF hc1; have H := bT H hc1
    refine w_skip ?_
    refine hN3 _ _ ?_
    refine w_seq fun _ hN6 => ?_
    refine w_seq fun _ hN7 => ?_
    refine w_reg ?_
    refine stp hA (r_mv hA rfl) rfl fun a hA => ?_
    obtain ⟨_, hsl1⟩ := Slc.sv hx3
    refine stp hA (r_slen Tryd.underlying25 hsl1 hA rfl) rfl fun a hA => 
      stp hA (r_gtr hA rfl rfl) rfl fun a hA => ?_
    refine o_nil ?_
    refine hN7 _ _ ?_
    refine w_cond hA rfl (fun hc2 => ?_) (fun hc2 => ?_)
    · have hc20 := hc2; have hc2 := of_decide_eq_true hc2; have H := bT H hc2
      refine w_seq fun _ hN8 => ?_
      refine w_reg ?_
      refine stp hA (r_mv hA rfl) rfl fun a hA => 
        stp hA (r_as hA rfl) rfl fun a hA => ?_
      refine o_nil ?_
      refine hN8 _ _ ?_
      refine w_ret ?_
      obtain rfl := Option.some.inj (bS H)
      exact ret1 hA Tryd.results3 rfl ⟨_, rfl, rfl, trivial, hI.forget0⟩
    · have hc20 := hc2; have hc2 := of_decide_eq_false hc2; have H := bF H hc2
      refine w_skip ?_
      refine hN6 _ _ ?_
      obtain ⟨c1, hz2, Hk1⟩ := bB H
      refine w_cut (fun a w => ∃ (μ1 : Store), μ.le μ1 ∧ Fr a 36 [(0, .int .i64 x0), (1, .int .u64 x1), (2, .agg [av .u8 32 x2].flatten.toArray), (3, u3), (6, .pointer (some ⟨g1, 0, none⟩)), (8, .bool c1), (9, .bool r1), (12, .bool (!r1)), (15, .bool (decide (60 < (x3.length : Int))))] ∧ Iv w0 [] μ μ1 [cel g1 [av .u8 32 x2] 24] w) ?_ ?_
      · have H := bI hz2
        refine w_any [] mo hI fun w hI => ?_
        refine g_easy (i := 0) hA rfl rfl (by kernel_rfl) (.inr hI) (fun _ => r_mv hA rfl) rfl fun a hA => ?_
        refine g_easy (i := 1) hA rfl rfl (by kernel_rfl) (.inr hI) (fun _ => r_mv hA rfl) rfl fun a hA => ?_
        rcases Bool.eq_false_or_eq_true r1 with hc3 | hc3
        · have hc30 := hc3; have H := bT H hc3
          refine g_easy (i := 2) hA rfl (wanted_yes hA rfl rfl hc30) (by kernel_rfl) (.inr hI) (fun _ => r_mv hA rfl) rfl fun a hA => ?_
          refine g_easy (i := 3) hA rfl (wanted_yes hA rfl rfl hc30) (by kernel_rfl) (.inr hI) (fun _ => r_mv hA rfl) rfl fun a hA => ?_
          refine g_take (i := 4) hA rfl (wanted_yes hA rfl rfl hc30) (by kernel_rfl) hI (fun w hI => r_ldA (j := 0) [] [av .u8 32 x2] [] Tryd.underlying24 rfl sz24 rfl hI rfl hA rfl rfl) rfl fun a hA => ?_
          refine g_easy (i := 5) hA rfl (wanted_yes hA rfl rfl hc30) (by kernel_rfl) (.inr hI) (fun _ => r_mv hA rfl) rfl fun a hA => ?_
          refine g_easy (i := 7) hA rfl (wanted_yes hA rfl rfl hc30) (by kernel_rfl) (.inr hI) (fun _ => r_mv hA rfl) rfl fun a hA => ?_
          refine g_easy (i := 8) hA rfl (wanted_yes hA rfl rfl hc30) (by kernel_rfl) (.inr hI) (fun _ => r_mv hA rfl) rfl fun a hA => ?_
          refine g_take (i := 9) hA rfl (wanted_yes hA rfl rfl hc30) (by kernel_rfl) hI (fun w hI => r_ldA (j := 0) [] [av .u8 32 x2] [] Tryd.underlying24 rfl sz24 rfl hI rfl hA rfl rfl) rfl fun a hA => ?_
          refine g_easy (i := 10) hA rfl (wanted_yes hA rfl rfl hc30) (by kernel_rfl) (.inr hI) (fun _ => r_mv hA rfl) rfl fun a hA => ?_
          refine g_forced (i := 6) rfl (by kernel_rfl) ?_
          refine o_yes hA rfl rfl hc30 <| ?_
          obtain ⟨r2, hr2, H⟩ := bB H
          refine o_call _ cf9 hA rfl (block_First.c μ _ hI.agr x0 hx0 x1 hx1 x2 hx2 x3 u3 hx3 r2 hr2) rfl fun v1 a w hz3 hA => ?_
          obtain ⟨v2, v3, μ2, rfl, hw1, hi1⟩ := hz3
          have hI := hI.call hi1
          refine o_nil ?_
          refine ⟨(.inr (hI.less (Store.le.refl _) hi1.le)), ?_⟩
          refine g_forced (i := 11) rfl (by kernel_rfl) ?_
          refine o_yes hA rfl rfl hc30 <| ?_
          obtain ⟨r3, hr3, H⟩ := bB H
          refine o_call _ cf10 hA rfl (sargassoref1_First.c μ2 _ hI.agr x0 hx0 x1 hx1 x2 hx2 x3 u3 (Slc.le hx3 (fun _ _ h => h) hi1.le) r3 hr3) rfl fun v4 a w hz4 hA => ?_
          obtain ⟨v5, v6, μ3, rfl, hw2, hi2⟩ := hz4
          have hI := hI.call hi2
          refine o_nil ?_
          refine ⟨(.inr (hI.less (Store.le.refl _) (hi1.le.trans hi2.le))), ?_⟩
          refine g_forced (i := 12) rfl (by kernel_rfl) ?_
          refine o_yes hA rfl rfl hc30 <| ?_
          obtain ⟨r4, hr4, H⟩ := bB H
          refine o_callp (u := .bool r4) cf8 hA rfl hI (sargassoref_SameTx.c μ3 _ hI.agr r2 v2 v3 ⟨hw1.1, (Slc.le hw1.2.1 (fun _ _ h => RIn.le hi2.le h) hi2.le), (Slc.le hw1.2.2.1 (fun _ _ h => ROut.le hi2.le h) hi2.le), hw1.2.2.2⟩ r3 v5 v6 ⟨hw2.1, hw2.2.1, hw2.2.2.1, hw2.2.2.2⟩ r4 hr4) rfl fun a w hz5 hI hA => ?_
          refine o_nil ?_
          refine ⟨(.inr (hI.less (Store.le.refl _) (hi1.le.trans hi2.le))), ?_⟩
          refine g_easy (i := 13) hA rfl rfl (by kernel_rfl) (.inr (hI.less (Store.le.refl _) (hi1.le.trans hi2.le))) (fun _ => r_pick_t hA rfl hc30 rfl) rfl fun a hA => ?_
          refine g_easy (i := 14) hA rfl rfl (by kernel_rfl) (.inr (hI.less (Store.le.refl _) (hi1.le.trans hi2.le))) (fun _ => r_mv hA rfl) rfl fun a hA => ?_
          rcases Bool.eq_false_or_eq_true r4 with hc4 | hc4
          · have hc40 := hc4; have H := bT H hc4
            refine g_forced (i := 15) rfl (by kernel_rfl) ?_
            refine o_yes hA rfl rfl hc40 <| ?_
            obtain ⟨r5, hr5, H⟩ := bB H
            refine o_call _ cf12 hA rfl (block_Start.c μ3 _ hI.agr  r5 hr5) rfl fun v7 a w hz6 hA => ?_
            obtain ⟨v8, μ4, rfl, hw3, hi3⟩ := hz6
            have hI := hI.call hi3
            refine o_nil ?_
            refine ⟨(.inr (hI.less (Store.le.refl _) ((hi1.le.trans hi2.le).trans hi3.le))), ?_⟩
            refine g_forced (i := 16) rfl (by kernel_rfl) ?_
            refine o_yes hA rfl rfl hc40 <| ?_
            obtain ⟨r6, hr6, H⟩ := bB H
            refine o_call _ cf13 hA rfl (sargassoref1_Start.c μ4 _ hI.agr  r6 hr6) rfl fun v9 a w hz7 hA => ?_
            obtain ⟨v10, μ5, rfl, hw4, hi4⟩ := hz7
            have hI := hI.call hi4
            refine o_nil ?_
            refine ⟨(.inr (hI.less (Store.le.refl _) (((hi1.le.trans hi2.le).trans hi3.le).trans hi4.le))), ?_⟩
            refine g_forced (i := 17) rfl (by kernel_rfl) ?_
            refine o_yes hA rfl rfl hc40 <| ?_
            obtain ⟨r7, hr7, H⟩ := bB H
            refine o_callp (u := .bool r7) cf11 hA rfl hI (sargassoref_SameBlock.c μ5 _ hI.agr r5 v8 ⟨hw3.1, hw3.2.1, hw3.2.2.1, hw3.2.2.2.1, hw3.2.2.2.2.1, hw3.2.2.2.2.2.1, (Slc.le hw3.2.2.2.2.2.2 (fun _ _ h => RTx.le hi4.le h) hi4.le)⟩ r6 v10 ⟨hw4.1, hw4.2.1, hw4.2.2.1, hw4.2.2.2.1, hw4.2.2.2.2.1, hw4.2.2.2.2.2.1, hw4.2.2.2.2.2.2⟩ r7 hr7) rfl fun a w hz8 hI hA => ?_
            refine o_nil ?_
            refine ⟨(.inr (hI.less (Store.le.refl _) (((hi1.le.trans hi2.le).trans hi3.le).trans hi4.le))), ?_⟩
            refine g_easy (i := 18) hA rfl rfl (by kernel_rfl) (.inr (hI.less (Store.le.refl _) (((hi1.le.trans hi2.le).trans hi3.le).trans hi4.le))) (fun _ => r_pick_t hA rfl hc40 rfl) rfl fun a hA => ?_
            refine g_easy (i := 19) hA rfl rfl (by kernel_rfl) (.inr (hI.less (Store.le.refl _) (((hi1.le.trans hi2.le).trans hi3.le).trans hi4.le))) (fun _ => r_as hA rfl) rfl fun a hA => ?_
            refine g_nil (by kernel_rfl) ?_
            cases Option.some.inj (bS H)
            exact ⟨μ5, (((hi1.le.trans hi2.le).trans hi3.le).trans hi4.le), hA.sub ⟨rfl, rfl, rfl, rfl, rfl, rfl, rfl, rfl, rfl, trivial⟩, hI⟩
          · have hc40 := hc4; have hc4 := ft hc4; have H := bF H hc4
            refine g_skip (i := 15) hA rfl (wanted_no hA rfl rfl (by rw [hc40]; simp [vb])) (by kernel_rfl) (.inr (hI.less (Store.le.refl _) (hi1.le.trans hi2.le))) rfl fun a hA => ?_
            refine g_skip (i := 16) hA rfl (wanted_no hA rfl rfl (by rw [hc40]; simp [vb])) (by kernel_rfl) (.inr (hI.less (Store.le.refl _) (hi1.le.trans hi2.le))) rfl fun a hA => ?_
            refine g_skip (i := 17) hA rfl (wanted_no hA rfl rfl (by rw [hc40]; simp [vb])) (by kernel_rfl) (.inr (hI.less (Store.le.refl _) (hi1.le.trans hi2.le))) rfl fun a hA => ?_
            refine g_easy (i := 18) hA rfl rfl (by kernel_rfl) (.inr (hI.less (Store.le.refl _) (hi1.le.trans hi2.le))) (fun _ => r_pick_f hA rfl hc40 rfl) rfl fun a hA => ?_
            refine g_easy (i := 19) hA rfl rfl (by kernel_rfl) (.inr (hI.less (Store.le.refl _) (hi1.le.trans hi2.le))) (fun _ => r_as hA rfl) rfl fun a hA => ?_
            refine g_nil (by kernel_rfl) ?_
            cases Option.some.inj (bS H)
            exact ⟨μ3, (hi1.le.trans hi2.le), hA.sub ⟨rfl, rfl, rfl, rfl, rfl, rfl, rfl, rfl, rfl, trivial⟩, hI⟩
        · have hc30 := hc3; have hc3 := ft hc3; have H := bF H hc3
          refine g_skip (i := 2) hA rfl (wanted_no hA rfl rfl (by rw [hc30]; simp [vb])) (by kernel_rfl) (.inr hI) rfl fun a hA => ?_
          refine g_skip (i := 3) hA rfl (wanted_no hA rfl rfl (by rw [hc30]; simp [vb])) (by kernel_rfl) (.inr hI) rfl fun a hA => ?_
          refine g_skip (i := 4) hA rfl (wanted_no hA rfl rfl (by rw [hc30]; simp [vb])) (by kernel_rfl) (.inr hI) rfl fun a hA => ?_
          refine g_skip (i := 5) hA rfl (wanted_no hA rfl rfl (by rw [hc30]; simp [vb])) (by kernel_rfl) (.inr hI) rfl fun a hA => ?_
          refine g_skip (i := 7) hA rfl (wanted_no hA rfl rfl (by rw [hc30]; simp [vb])) (by kernel_rfl) (.inr hI) rfl fun a hA => ?_
          refine g_skip (i := 8) hA rfl (wanted_no hA rfl rfl (by rw [hc30]; simp [vb])) (by kernel_rfl) (.inr hI) rfl fun a hA => ?_
          refine g_skip (i := 9) hA rfl (wanted_no hA rfl rfl (by rw [hc30]; simp [vb])) (by kernel_rfl) (.inr hI) rfl fun a hA => ?_
          refine g_skip (i := 10) hA rfl (wanted_no hA rfl rfl (by rw [hc30]; simp [vb])) (by kernel_rfl) (.inr hI) rfl fun a hA => ?_
          refine g_skip (i := 6) hA rfl (wanted_no hA rfl rfl (by rw [hc30]; simp [vb])) (by kernel_rfl) (.inr hI) rfl fun a hA => ?_
          refine g_skip (i := 11) hA rfl (wanted_no hA rfl rfl (by rw [hc30]; simp [vb])) (by kernel_rfl) (.inr hI) rfl fun a hA => ?_
          refine g_skip (i := 12) hA rfl (wanted_no hA rfl rfl (by rw [hc30]; simp [vb])) (by kernel_rfl) (.inr hI) rfl fun a hA => ?_
          refine g_easy (i := 13) hA rfl rfl (by kernel_rfl) (.inr hI) (fun _ => r_pick_f hA rfl hc30 rfl) rfl fun a hA => ?_
          refine g_easy (i := 14) hA rfl rfl (by kernel_rfl) (.inr hI) (fun _ => r_mv hA rfl) rfl fun a hA => ?_
          refine g_skip (i := 15) hA rfl (wanted_no hA rfl rfl (by simp [vb])) (by kernel_rfl) (.inr hI) rfl fun a hA => ?_
          refine g_skip (i := 16) hA rfl (wanted_no hA rfl rfl (by simp [vb])) (by kernel_rfl) (.inr hI) rfl fun a hA => ?_
          refine g_skip (i := 17) hA rfl (wanted_no hA rfl rfl (by simp [vb])) (by kernel_rfl) (.inr hI) rfl fun a hA => ?_
          refine g_easy (i := 18) hA rfl rfl (by kernel_rfl) (.inr hI) (fun _ => r_pick_f hA rfl rfl rfl) rfl fun a hA => ?_
          refine g_easy (i := 19) hA rfl rfl (by kernel_rfl) (.inr hI) (fun _ => r_as hA rfl) rfl fun a hA => ?_
          refine g_nil (by kernel_rfl) ?_
          cases Option.some.inj (bS H)
          exact ⟨μ, (Store.le.refl _), hA.sub ⟨rfl, rfl, rfl, rfl, rfl, rfl, rfl, rfl, rfl, trivial⟩, hI⟩
      · rintro a w ⟨μ1, hle1, hA, hI⟩
        have H := Hk1
        refine w_ret ?_
        obtain rfl := Option.some.inj (bS H)
        exact ret1 hA Tryd.results3 rfl ⟨_, rfl, rfl, trivial, hI.forget0⟩
end Go.Proofs.YtlpggofilkfbnaaDoor.T
namespace Go.Proofs.YtlpggofilkfbnaaDoor.T
open Go Go.Proofs Go.Proofs.YtlpggofilkfbnaaDoor.K
set_option linter.unusedVariables false
theorem w64 {x : Int} (h0 : -9223372036854775808 ≤ x) (h1 : x < 9223372036854775808) : IntKind.i64.wrap x = x := wrap_id ⟨h0, h1⟩
theorem wu64 {x : Int} (h0 : 0 ≤ x) (h1 : x < 18446744073709551616) : IntKind.u64.wrap x = x := wrap_id ⟨h0, h1⟩
end Go.Proofs.YtlpggofilkfbnaaDoor.T
namespace Go.Proofs.YtlpggofilkfbnaaDoor.T
open Go Go.Proofs Go.Proofs.YtlpggofilkfbnaaDoor.K
set_option linter.unusedVariables false
set_option linter.unusedSimpArgs false
theorem loop_idx {τ ρ : Type} {step : τ → Option (τ ⊕ ρ)} (st : Nat → τ) (n : Nat) (h : ∀ i, i < n → step (st i) = some (.inl (st (i + 1)))) : loopO step (st 0) = loopO step (st n) := by
  induction n with
  | zero => rfl
  | succ n ih => rw [ih (fun i hi => h i (by omega)), loopO_inl (h n (by omega))]
theorem loop_run {τ ρ : Type} {step : τ → Option (τ ⊕ ρ)} (st : Nat → τ) (n : Nat) {r : ρ} {s : τ} (h0 : s = st 0) (h : ∀ i, i < n → step (st i) = some (.inl (st (i + 1)))) (hn : step (st n) = some (.inr r)) : loopO step s = some r := by
  rw [h0, loop_idx st n h, loopO_inr hn]
theorem bv_nat (n a : Nat) (h : a < 2 ^ n) : (BitVec.ofInt n (a : Int)).toNat = a := by
  rw [BitVec.toNat_ofInt]
  have : ((a : Int) % ((2 ^ n : Nat) : Int)) = a := Int.emod_eq_of_lt (by omega) (by exact_mod_cast h)
  rw [this]
  rfl
theorem in_u (k : IntKind) (hk : k.signed = false) {a : Nat} (h : a < 2 ^ k.bits) : InR k (a : Int) := by
  cases k <;> simp [IntKind.signed] at hk <;> simp [IntKind.bits] at h <;> simp [InR] <;> omega
theorem bAnd_nat (k : IntKind) (hk : k.signed = false) {a b : Nat} (ha : a < 2 ^ k.bits) (hb : b < 2 ^ k.bits) : bAnd k a b = ((a &&& b : Nat) : Int) := by
  unfold bAnd
  rw [BitVec.toNat_and, bv_nat _ _ ha, bv_nat _ _ hb]
  exact wrap_id (in_u k hk (Nat.lt_of_le_of_lt Nat.and_le_left ha))
theorem sR_nat (k : IntKind) {a n : Nat} (hn : n ≤ k.bits) : sR k (a : Int) (n : Int) = ((a >>> n : Nat) : Int) := by
  unfold sR
  have e : min (n : Int).toNat k.bits = n := by simp; omega
  rw [e, Nat.shiftRight_eq_div_pow]
  rw [Int.fdiv_eq_ediv_of_nonneg _ (by exact Int.pow_nonneg (by omega))]
  push_cast
  rfl
theorem and_low (n i : Nat) : n &&& (2 ^ i - 1) = n % 2 ^ i := Nat.and_two_pow_sub_one_eq_mod n i
end Go.Proofs.YtlpggofilkfbnaaDoor.T
namespace Go.Proofs.YtlpggofilkfbnaaDoor.T
open Go Go.Proofs Go.Proofs.YtlpggofilkfbnaaDoor.K
set_option linter.unusedVariables false
set_option linter.unusedSimpArgs false
def rotr (x n : Int) : Int := bOr .u32 (sR .u32 x n) (sL .u32 x (32 - n))
def wordAt (b : List Int) (p : Nat) : Int :=
  bOr .u32 (bOr .u32 (bOr .u32 (sL .u32 (IntKind.u32.wrap (b.getD p 0)) 24) (sL .u32 (IntKind.u32.wrap (b.getD (p + 1) 0)) 16)) (sL .u32 (IntKind.u32.wrap (b.getD (p + 2) 0)) 8)) (IntKind.u32.wrap (b.getD (p + 3) 0))
def sg0 (y : Int) : Int := bXor .u32 (bXor .u32 (rotr y 7) (rotr y 18)) (sR .u32 y 3)
def sg1 (x : Int) : Int := bXor .u32 (bXor .u32 (rotr x 17) (rotr x 19)) (sR .u32 x 10)
def schedVal (b : List Int) (p : Nat) (w : List Int) (t : Nat) : Int :=
  if t < 16 then wordAt b (p + 4 * t) else IntKind.u32.wrap (w.getD (t - 16) 0 + sg0 (w.getD (t - 15) 0) + w.getD (t - 7) 0 + sg1 (w.getD (t - 2) 0))
def schedR (b : List Int) (p : Nat) : Nat → List Int
  | 0 => List.replicate 64 0
  | t + 1 => (fun w => w.set t (schedVal b p w t)) (schedR b p t)
def kc : List Int := digest_keys.lit0
def rt1 (x : List Int) (k w : Int) : Int := IntKind.u32.wrap (x.getD 7 0 + bXor .u32 (bXor .u32 (rotr (x.getD 4 0) 6) (rotr (x.getD 4 0) 11)) (rotr (x.getD 4 0) 25) + bXor .u32 (bAnd .u32 (x.getD 4 0) (x.getD 5 0)) (bAnd .u32 (bNot .u32 (x.getD 4 0)) (x.getD 6 0)) + k + w)
def rt2 (x : List Int) : Int := bXor .u32 (bXor .u32 (rotr (x.getD 0 0) 2) (rotr (x.getD 0 0) 13)) (rotr (x.getD 0 0) 22) + bXor .u32 (bXor .u32 (bAnd .u32 (x.getD 0 0) (x.getD 1 0)) (bAnd .u32 (x.getD 0 0) (x.getD 2 0))) (bAnd .u32 (x.getD 1 0) (x.getD 2 0))
def rstep (x : List Int) (k w : Int) : List Int :=
  [IntKind.u32.wrap (rt1 x k w + rt2 x), x.getD 0 0, x.getD 1 0, x.getD 2 0, IntKind.u32.wrap (x.getD 3 0 + rt1 x k w), x.getD 4 0, x.getD 5 0, x.getD 6 0]
def roundR (w s : List Int) : Nat → List Int
  | 0 => s
  | t + 1 => rstep (roundR w s t) (kc.getD t 0) (w.getD t 0)
def addR (x s : List Int) : Nat → List Int
  | 0 => s
  | i + 1 => (fun z => z.set i (IntKind.u32.wrap (z.getD i 0 + x.getD i 0))) (addR x s i)
def mixV (s b : List Int) (p : Nat) : List Int := addR (roundR (schedR b p 64) s 64) s 8
def blocksR (m s : List Int) : Nat → List Int
  | 0 => s
  | n + 1 => mixV (blocksR m s n) m (64 * n)
def iv0 : List Int := [1779033703, 3144134277, 1013904242, 2773480762, 1359893119, 2600822924, 528734635, 1541459225]
def outB (s : List Int) (i : Nat) : Int := IntKind.u8.wrap (sR .u32 (s.getD (i / 4) 0) (24 - 8 * ((i % 4 : Nat) : Int)))
def outL (s : List Int) : List Int := (List.range 32).map (outB s)
def zs (n : Nat) : Nat := (120 - n % 64) % 64
def lenB (n i : Nat) : Int := IntKind.u8.wrap (sR .u64 (IntKind.u64.wrap (8 * (n : Int))) (8 * (7 - (i : Int))))
def padR (m : List Int) : List Int := m ++ ([128] ++ (List.replicate (zs (m.length + 1)) 0 ++ (List.range 8).map (lenB m.length)))
def sha (m : List Int) : List Int := outL (blocksR (padR m) iv0 ((padR m).length / 64))
end Go.Proofs.YtlpggofilkfbnaaDoor.T
namespace Go.Proofs.YtlpggofilkfbnaaDoor.T
open Go Go.Proofs Go.Proofs.YtlpggofilkfbnaaDoor.K
set_option linter.unusedVariables false
set_option linter.unusedSimpArgs false
theorem u32e (x : Int) : IntKind.u32.wrap x = x % 4294967296 := by simp [IntKind.wrap, IntKind.signed, IntKind.bits]
theorem wl (a b : Int) : IntKind.u32.wrap (IntKind.u32.wrap a + b) = IntKind.u32.wrap (a + b) := by simp only [u32e]; omega
theorem wr (a b : Int) : IntKind.u32.wrap (a + IntKind.u32.wrap b) = IntKind.u32.wrap (a + b) := by simp only [u32e]; omega
theorem bOr_comm (k : IntKind) (a b : Int) : bOr k a b = bOr k b a := by unfold bOr; rw [BitVec.or_comm]
theorem right_f (x n : Int) (h0 : 0 ≤ n) (h1 : n ≤ 32) : sargassoref1_right.f x n = some (rotr x n) := by
  simp only [sargassoref1_right.f, rotr]
  rw [wu64 (x := 32 - n) (by omega) (by omega), if_pos h0, if_pos (by omega)]
theorem turn_f (x n : Int) (h0 : 0 < n) (h1 : n < 32) : digest_turn.f x n = some (rotr x n) := by
  simp only [digest_turn.f, math_bits_RotateLeft32.f, rotr]
  have e1 : IntKind.i64.wrap (0 - n) = -n := by rw [w64 (by omega) (by omega)]; omega
  have e2 : IntKind.u64.wrap (-n) = 18446744073709551616 - n := by
    simp [IntKind.wrap, IntKind.signed, IntKind.bits]
    omega
  obtain ⟨m, rfl⟩ : ∃ m : Nat, n = m := ⟨n.toNat, by omega⟩
  have e3 : bAnd .u64 (18446744073709551616 - (m : Int)) 31 = 32 - (m : Int) := by
    have h := bAnd_nat .u64 rfl (a := 18446744073709551616 - m) (b := 31) (by simp [IntKind.bits]; omega) (by simp [IntKind.bits])
    have e : ((18446744073709551616 - m : Nat) : Int) = 18446744073709551616 - (m : Int) := by omega
    rw [e] at h
    have h' : (18446744073709551616 - m) &&& 31 = (18446744073709551616 - m) % 32 := and_low _ 5
    rw [h'] at h
    rw [show ((31 : Nat) : Int) = 31 from rfl] at h
    rw [h]
    omega
  rw [e1, e2, e3, wu64 (x := 32 - (32 - (m : Int))) (by omega) (by omega), if_pos (by omega), if_pos (by omega)]
  have e4 : 32 - (32 - (m : Int)) = m := by omega
  rw [e4, bOr_comm]
  rfl
theorem schedR_len (b : List Int) (p t : Nat) : (schedR b p t).length = 64 := by
  induction t with
  | zero => simp [schedR]
  | succ t ih => simp [schedR, ih]
theorem getD_drop' (l : List Int) (a i : Nat) : (l.drop a).getD i 0 = l.getD (a + i) 0 := by simp [List.getD]
theorem getD_take' (l : List Int) (a i : Nat) (h : i < a) : (l.take a).getD i 0 = l.getD i 0 := by simp [List.getD, h]
theorem wsub (i c : Nat) (hc : c ≤ i) (hi : i < 1000) : IntKind.i64.wrap ((i : Int) - (c : Nat)) = ((i - c : Nat) : Int) := by
  rw [w64 (by omega) (by omega)]; omega
theorem wadd1 (i : Nat) (hi : i < 9223372036854775807) : IntKind.i64.wrap ((i : Int) + 1) = ((i + 1 : Nat) : Int) := by
  rw [w64 (by omega) (by omega)]; omega
theorem wmul4 (i : Nat) (hi : i < 1000) : IntKind.i64.wrap (4 * (i : Int)) = ((4 * i : Nat) : Int) := by
  rw [w64 (by omega) (by omega)]; omega
theorem spread_step (b : List Int) (h : b.length = 64) (w : List Int) (i : Nat) (hi : i < 64) : digest_spread.s0 b ((i : Int), w) = some (.inl (((i + 1 : Nat) : Int), w.set i (schedVal b 0 w i))) := by
  simp only [digest_spread.s0]
  rw [if_pos (by omega)]
  by_cases h16 : i < 16
  · have hl : (b.take ((b.length : Int)).toNat).drop (IntKind.i64.wrap (4 * (i : Int))).toNat = b.drop (4 * i) := by
      rw [wmul4 i (by omega), Int.toNat_natCast, Int.toNat_natCast, List.take_length]
    have hll : (b.drop (4 * i)).length = 64 - 4 * i := by simp [h]
    rw [if_pos (by omega), hl, hll, wmul4 i (by omega), if_pos (by omega), if_pos (by omega), if_pos (by omega), if_pos (by omega), if_pos (by omega), if_pos (by omega)]
    simp only [Option.bind_some, getD_drop', Int.toNat_natCast]
    rw [wadd1 i (by omega)]
    simp only [schedVal, if_pos h16, wordAt, Nat.zero_add]
    rfl
  · have e2 := wsub i 2 (by omega) (by omega)
    have e7 := wsub i 7 (by omega) (by omega)
    have e15 := wsub i 15 (by omega) (by omega)
    have e16 := wsub i 16 (by omega) (by omega)
    simp only [show ((2 : Nat) : Int) = 2 from rfl, show ((7 : Nat) : Int) = 7 from rfl, show ((15 : Nat) : Int) = 15 from rfl, show ((16 : Nat) : Int) = 16 from rfl] at e2 e7 e15 e16
    rw [if_neg (by omega), e2, e7, e15, e16, if_pos (by omega), if_pos (by omega), if_pos (by omega), if_pos (by omega)]
    simp only [Int.toNat_natCast, turn_f _ 17 (by omega) (by omega), turn_f _ 19 (by omega) (by omega), turn_f _ 7 (by omega) (by omega), turn_f _ 18 (by omega) (by omega), Option.bind_some]
    rw [if_pos (by omega), wadd1 i (by omega)]
    simp only [Option.bind_some, schedVal, if_neg h16, sg0, sg1]
    congr 4
    simp only [wl, wr]
    congr 1
    omega
theorem spread_eq (b : List Int) (h : b.length = 64) : digest_spread.f b = some (schedR b 0 64) := by
  simp only [digest_spread.f]
  have e := loop_run (step := digest_spread.s0 b) (s := (0, List.replicate 64 0)) (fun i => ((i : Int), schedR b 0 i)) 64 (r := schedR b 0 64) rfl (fun i hi => by
    rw [spread_step b h _ i hi]
    rfl) (by simp only [digest_spread.s0]; rw [if_neg (by decide)])
  rw [e]
  rfl
theorem mix0_step (w x : List Int) (i : Nat) (hi : i < 64) : digest_mix.s0 w digest_keys.lit0 ((i : Int), x) = some (.inl (((i + 1 : Nat) : Int), rstep x (kc.getD i 0) (w.getD i 0))) := by
  simp only [digest_mix.s0]
  rw [if_pos (by omega)]
  simp only [turn_f _ 6 (by omega) (by omega), turn_f _ 11 (by omega) (by omega), turn_f _ 25 (by omega) (by omega), turn_f _ 2 (by omega) (by omega), turn_f _ 13 (by omega) (by omega), turn_f _ 22 (by omega) (by omega), Option.bind_some, Int.toNat_natCast]
  rw [if_pos (by omega), wadd1 i (by omega)]
  simp only [rstep, rt1, rt2, kc, wl, wr, show (0 : Int).toNat = 0 from rfl, show (1 : Int).toNat = 1 from rfl, show (2 : Int).toNat = 2 from rfl, show (3 : Int).toNat = 3 from rfl, show (4 : Int).toNat = 4 from rfl, show (5 : Int).toNat = 5 from rfl, show (6 : Int).toNat = 6 from rfl, show (7 : Int).toNat = 7 from rfl]
theorem mix_eq (s b : List Int) (h : b.length = 64) : digest_mix.f s b = some (mixV s b 0) := by
  simp only [digest_mix.f, spread_eq b h, digest_keys.f, Option.bind_some]
  have e := loop_run (step := digest_mix.s0 (schedR b 0 64) digest_keys.lit0) (s := (0, s)) (fun i => ((i : Int), roundR (schedR b 0 64) s i)) 64 (r := roundR (schedR b 0 64) s 64) rfl (fun i hi => by
    rw [mix0_step _ _ i hi]
    rfl) (by simp only [digest_mix.s0]; rw [if_neg (by decide)])
  rw [e]
  simp only [Option.bind_some]
  have e := loop_run (step := digest_mix.s1 (roundR (schedR b 0 64) s 64)) (s := (0, s)) (fun i => ((i : Int), addR (roundR (schedR b 0 64) s 64) s i)) 8 (r := mixV s b 0) rfl (fun i hi => by
    simp only [digest_mix.s1]
    rw [if_pos (by omega), if_pos (by omega), wadd1 i (by omega)]
    simp only [Int.toNat_natCast, addR]) (by simp only [digest_mix.s1]; rw [if_neg (by decide)]; rfl)
  rw [e]
  rfl
theorem wordAt_in (m : List Int) (a n t : Nat) (h : t < 16) : wordAt ((m.take (a + 64)).drop a) (4 * t) = wordAt m (a + 4 * t) := by
  have e : ∀ j, j < 64 → ((m.take (a + 64)).drop a).getD j 0 = m.getD (a + j) 0 := fun j hj => by
    rw [getD_drop', getD_take' _ _ _ (by omega)]
  simp only [wordAt]
  rw [e _ (by omega), e _ (by omega), e _ (by omega), e _ (by omega)]
  simp only [Nat.add_assoc]
theorem schedR_in (m : List Int) (a t : Nat) : schedR ((m.take (a + 64)).drop a) 0 t = schedR m a t := by
  induction t with
  | zero => rfl
  | succ t ih =>
    simp only [schedR, ih]
    congr 1
    simp only [schedVal]
    by_cases h : t < 16
    · simp only [if_pos h, Nat.zero_add]
      exact wordAt_in m a 0 t h
    · simp only [if_neg h]
theorem mixV_in (s m : List Int) (a : Nat) : mixV s ((m.take (a + 64)).drop a) 0 = mixV s m a := by
  simp only [mixV, schedR_in]
theorem wordAt_app (m l : List Int) (p : Nat) (h : p + 3 < m.length) : wordAt (m ++ l) p = wordAt m p := by
  have e : ∀ j, j < m.length → (m ++ l).getD j 0 = m.getD j 0 := fun j hj => by simp [List.getD, List.getElem?_append_left hj]
  simp only [wordAt]
  rw [e _ (by omega), e _ (by omega), e _ (by omega), e _ (by omega)]
theorem schedR_app (m l : List Int) (p t : Nat) (h : p + 64 ≤ m.length) : schedR (m ++ l) p t = schedR m p t := by
  induction t with
  | zero => rfl
  | succ t ih =>
    simp only [schedR, ih]
    congr 1
    simp only [schedVal]
    by_cases h : t < 16
    · simp only [if_pos h]
      exact wordAt_app m l _ (by omega)
    · simp only [if_neg h]
theorem blocksR_app (m l s : List Int) (n : Nat) (h : 64 * n ≤ m.length) : blocksR (m ++ l) s n = blocksR m s n := by
  induction n with
  | zero => rfl
  | succ n ih =>
    simp only [blocksR, ih (by omega), mixV]
    rw [schedR_app _ _ _ _ (by omega)]
theorem mixV_drop (s m : List Int) (q a : Nat) : mixV s (m.drop q) a = mixV s m (q + a) := by
  have hw : ∀ p, wordAt (m.drop q) p = wordAt m (q + p) := fun p => by
    simp only [wordAt, getD_drop', Nat.add_assoc]
  have hs : ∀ t, schedR (m.drop q) a t = schedR m (q + a) t := fun t => by
    induction t with
    | zero => rfl
    | succ t ih =>
      simp only [schedR, ih]
      congr 1
      simp only [schedVal, hw, Nat.add_assoc]
  simp only [mixV, hs]
theorem addR_len (x s : List Int) (i : Nat) : (addR x s i).length = s.length := by
  induction i with
  | zero => rfl
  | succ i ih => simp [addR, ih]
theorem mixV_len (s m : List Int) (a : Nat) : (mixV s m a).length = s.length := addR_len _ _ _
theorem blocksR_len (m s : List Int) (n : Nat) : (blocksR m s n).length = s.length := by
  induction n with
  | zero => rfl
  | succ n ih => rw [blocksR, mixV_len, ih]
end Go.Proofs.YtlpggofilkfbnaaDoor.T
namespace Go.Proofs.YtlpggofilkfbnaaDoor.T
open Go Go.Proofs Go.Proofs.YtlpggofilkfbnaaDoor.K
set_option linter.unusedVariables false
set_option linter.unusedSimpArgs false
def WIn (w : digestWriter) (m : List Int) : Prop := w.n = m.length ∧ w.rest = m.drop (64 * (m.length / 64)) ∧ (64 ≤ m.length → w.s = blocksR m iv0 (m.length / 64))
theorem clone_eq (xs : List Int) (h : xs.length ≤ 140737488355328) : bytes_Clone.f xs = some xs := by
  unfold bytes_Clone.f
  rw [if_pos h]
theorem state_eq {w : digestWriter} {m : List Int} (h : WIn w m) : digest_Writer_state.f w = some (blocksR m iv0 (m.length / 64)) := by
  obtain ⟨h1, h2, h3⟩ := h
  simp only [digest_Writer_state.f, digest_begin.f, Option.bind_some, h1]
  by_cases hc : m.length < 64
  · rw [if_pos (by omega), Nat.div_eq_of_lt hc]
    rfl
  · rw [if_neg (by omega), h3 (by omega)]
theorem write_eq {w : digestWriter} {m b : List Int} (h : WIn w m) (hb : m.length + b.length ≤ 1000000) : ∃ w', digest_Writer_Write.f w b = some w' ∧ WIn w' (m ++ b) := by
  have hs := state_eq h
  obtain ⟨h1, h2, h3⟩ := h
  generalize hq : m.length / 64 = q at hs h2
  have hq1 : 64 * q ≤ m.length := by omega
  have hR : w.rest ++ b = (m ++ b).drop (64 * q) := by rw [h2, List.drop_append_of_le_length hq1]
  have hRl : (w.rest ++ b).length = m.length + b.length - 64 * q := by rw [hR]; simp
  generalize hRe : w.rest ++ b = R at hR hRl
  generalize hc : R.length / 64 = c
  have hloop : loopO digest_Writer_Write.s0 (0, blocksR m iv0 q, R) = some (((64 * c : Nat) : Int), blocksR (m ++ b) iv0 (q + c), R) := by
    refine loop_run (fun i => (((64 * i : Nat) : Int), blocksR (m ++ b) iv0 (q + i), R)) c ?_ (fun i hi => ?_) ?_
    · rw [Nat.add_zero, blocksR_app _ _ _ _ hq1]; rfl
    · simp only [digest_Writer_Write.s0]
      have e : IntKind.i64.wrap (((64 * i : Nat) : Int) + 64) = ((64 * i + 64 : Nat) : Int) := by rw [w64 (by omega) (by omega)]; omega
      rw [e, if_pos (by omega), if_pos (by omega), Int.toNat_natCast, Int.toNat_natCast, mix_eq _ _ (by simp; omega)]
      simp only [Option.bind_some]
      rw [mixV_in, hR, mixV_drop, ← Nat.mul_add]
      rfl
    · simp only [digest_Writer_Write.s0]
      rw [w64 (by omega) (by omega), if_neg (by omega)]
  refine ⟨⟨blocksR (m ++ b) iv0 (q + c), R.drop (64 * c), m.length + b.length⟩, ?_, by simp, ?_, fun _ => ?_⟩
  · simp only [digest_Writer_Write.f]
    have hs' : digest_Writer_state.f ⟨w.s, w.rest, w.n⟩ = some (blocksR m iv0 q) := hs
    have hw : w.rest.length + b.length = R.length := by rw [← hRe, List.length_append]
    rw [hs', hRe, hw]
    simp only [Option.bind_some]
    rw [if_pos (by omega), hloop]
    simp only [Option.bind_some]
    rw [if_pos (by omega), Int.toNat_natCast, Int.toNat_natCast, List.take_length, clone_eq _ (by simp; omega)]
    simp only [Option.bind_some]
    rw [h1, w64 (by omega) (by omega)]
  · have : 64 * ((m ++ b).length / 64) = 64 * q + 64 * c := by rw [List.length_append]; omega
    rw [this, hR, List.drop_drop]
  · have : (m ++ b).length / 64 = q + c := by rw [List.length_append]; omega
    rw [this]
theorem set_next {α : Type} (f : Nat → α) (n j : Nat) (z : α) (h : j < n) : ((List.range j).map f ++ List.replicate (n - j) z).set j (f j) = (List.range (j + 1)).map f ++ List.replicate (n - (j + 1)) z := by
  obtain ⟨k, hk⟩ : ∃ k, n - j = k + 1 := ⟨n - j - 1, by omega⟩
  have hk' : n - (j + 1) = k := by omega
  rw [hk, hk', List.set_append_right _ _ (by simp), List.range_succ, List.map_append, List.append_assoc]
  simp [List.replicate_succ]
theorem zeros_loop (step : List Int → Option (List Int ⊕ List Int)) (hs : ∀ l, step l = (if (Int.tmod (l.length : Int) 64) ≠ 56 then (if l.length + 1 ≤ 140737488355328 then some (.inl (l ++ ([0] : List Int))) else none) else some (.inr l)))
    (l : List Int) (h : l.length ≤ 2000000) : loopO step l = some (l ++ List.replicate (zs l.length) 0) := by
  refine loop_run (fun i => l ++ List.replicate i 0) (zs l.length) (by simp) (fun i hi => ?_) ?_
  · rw [hs, if_pos ?_, if_pos (by simp [zs] at hi ⊢; omega)]
    · simp [List.replicate_succ', List.append_assoc]
    · rw [List.length_append, List.length_replicate, Int.tmod_eq_emod_of_nonneg (by omega)]
      simp only [zs] at hi
      omega
  · rw [hs, if_neg ?_]
    rw [List.length_append, List.length_replicate, Int.tmod_eq_emod_of_nonneg (by omega)]
    simp only [zs]
    omega
theorem range_map_succ {α : Type} (f : Nat → α) (i : Nat) : (List.range (i + 1)).map f = (List.range i).map f ++ [f i] := by rw [List.range_succ, List.map_append]; rfl
theorem lenB_digest (n i : Nat) (hn : n ≤ 1000000) (hi : i < 8) : IntKind.u8.wrap (sR .u64 (sL .u64 (IntKind.u64.wrap (n : Int)) 3) (IntKind.i64.wrap (8 * (7 - (i : Int))))) = lenB n i := by
  have e1 : sL .u64 (IntKind.u64.wrap (n : Int)) 3 = IntKind.u64.wrap (8 * (n : Int)) := by
    rw [wu64 (by omega) (by omega)]
    simp only [sL, show (3 : Int).toNat = 3 from rfl]
    rw [show ((2 : Int) ^ (min 3 IntKind.u64.bits)) = 8 from rfl, Int.mul_comm]
  rw [e1, w64 (by omega) (by omega)]
  rfl
theorem padR_len (m : List Int) : (padR m).length = m.length + 1 + zs (m.length + 1) + 8 := by
  simp [padR]; omega
theorem padR_mod (m : List Int) : (padR m).length % 64 = 0 := by
  rw [padR_len]; simp only [zs]; omega
theorem out_eq4 (s : List Int) (i : Nat) (hi : i < 8) : loopO (digest_Writer_Sum.s4 s (i : Int)) (0, (List.range (4 * i)).map (outB s) ++ List.replicate (32 - 4 * i) 0) = some ((List.range (4 * (i + 1))).map (outB s) ++ List.replicate (32 - 4 * (i + 1)) 0) := by
  refine loop_run (fun k => ((k : Int), (List.range (4 * i + k)).map (outB s) ++ List.replicate (32 - (4 * i + k)) 0)) 4 (by simp) (fun k hk => ?_) ?_
  · simp only [digest_Writer_Sum.s4]
    have e1 : IntKind.i64.wrap (24 - IntKind.i64.wrap (8 * (k : Int))) = 24 - 8 * (k : Int) := by
      rw [w64 (x := 8 * (k : Int)) (by omega) (by omega), w64 (by omega) (by omega)]
    have e2 : IntKind.i64.wrap (IntKind.i64.wrap (4 * (i : Int)) + (k : Int)) = ((4 * i + k : Nat) : Int) := by
      rw [w64 (x := 4 * (i : Int)) (by omega) (by omega), w64 (by omega) (by omega)]; omega
    rw [if_pos (by omega), e1, e2, if_pos (by omega), if_pos (by omega), wadd1 k (by omega), Int.toNat_natCast, Int.toNat_natCast]
    have e3 : IntKind.u8.wrap (sR .u32 (s.getD i 0) (24 - 8 * (k : Int))) = outB s (4 * i + k) := by
      have a1 : (4 * i + k) / 4 = i := by omega
      have a2 : (4 * i + k) % 4 = k := by omega
      simp only [outB, a1, a2]
    rw [e3, set_next _ _ _ _ (by omega)]
    rfl
  · simp only [digest_Writer_Sum.s4]
    rw [if_neg (by decide)]
    rfl
theorem out_eq (s : List Int) : loopO (digest_Writer_Sum.s3 s) (0, List.replicate 32 0) = some (outL s) := by
  refine loop_run (fun i => ((i : Int), (List.range (4 * i)).map (outB s) ++ List.replicate (32 - 4 * i) 0)) 8 (by simp) (fun i hi => ?_) ?_
  · simp only [digest_Writer_Sum.s3]
    rw [if_pos (by omega), if_pos (by omega), out_eq4 s i hi]
    simp only [Option.bind_some]
    rw [wadd1 i (by omega)]
  · simp only [digest_Writer_Sum.s3]
    rw [if_neg (by decide)]
    rfl
theorem sum_eq' {w : digestWriter} {m : List Int} (h : WIn w m) (hb : m.length ≤ 1000000) : digest_Writer_Sum.f w = some (sha m) := by
  have hs := state_eq h
  obtain ⟨h1, h2, h3⟩ := h
  generalize hq : m.length / 64 = q at hs h2
  have hq1 : 64 * q ≤ m.length := by omega
  have hrl : w.rest.length = m.length - 64 * q := by rw [h2]; simp
  have hz : zs (w.rest ++ [128]).length = zs (m.length + 1) := by simp only [List.length_append, hrl, zs, List.length_cons, List.length_nil]; omega
  have hz64 : zs (m.length + 1) < 64 := by simp only [zs]; omega
  have hC : w.rest ++ [128] ++ List.replicate (zs (m.length + 1)) 0 ++ (List.range 8).map (lenB m.length) = (padR m).drop (64 * q) := by
    rw [h2, padR, List.drop_append_of_le_length hq1]
    simp only [List.append_assoc]
  have hl1 : loopO (digest_Writer_Sum.s1 w) (w.rest ++ [128] ++ List.replicate (zs (m.length + 1)) 0, 7) = some ((padR m).drop (64 * q)) := by
    refine loop_run (fun i => (w.rest ++ [128] ++ List.replicate (zs (m.length + 1)) 0 ++ (List.range i).map (lenB m.length), 7 - (i : Int))) 8 (by simp) (fun i hi => ?_) ?_
    · simp only [digest_Writer_Sum.s1]
      rw [if_pos (by omega), if_pos (by rw [w64 (by omega) (by omega)]; omega), if_pos (by simp; omega), h1, lenB_digest _ _ hb hi, w64 (by omega) (by omega)]
      congr 2
      rw [range_map_succ, ← List.append_assoc]
      congr 1
      omega
    · simp only [digest_Writer_Sum.s1]
      rw [if_neg (by decide), hC]
  have hpl := padR_len m
  have hpm := padR_mod m
  have hCl : ((padR m).drop (64 * q)).length = (padR m).length - 64 * q := by simp
  generalize hc : ((padR m).drop (64 * q)).length / 64 = c at *
  have hl2 : loopO digest_Writer_Sum.s2 ((padR m).drop (64 * q), 0, blocksR m iv0 q) = some ((padR m).drop (64 * q), blocksR (padR m) iv0 (q + c)) := by
    refine loop_run (fun i => ((padR m).drop (64 * q), ((64 * i : Nat) : Int), blocksR (padR m) iv0 (q + i))) c ?_ (fun i hi => ?_) ?_
    · rw [Nat.add_zero]
      have : blocksR (padR m) iv0 q = blocksR m iv0 q := blocksR_app _ _ _ _ hq1
      rw [this]; rfl
    · simp only [digest_Writer_Sum.s2]
      have e : IntKind.i64.wrap (((64 * i : Nat) : Int) + 64) = ((64 * i + 64 : Nat) : Int) := by rw [w64 (by omega) (by omega)]; omega
      rw [if_pos (by omega), e, if_pos (by omega), Int.toNat_natCast, Int.toNat_natCast, mix_eq _ _ (by simp; omega)]
      simp only [Option.bind_some]
      rw [mixV_in, mixV_drop, ← Nat.mul_add]
      rfl
    · simp only [digest_Writer_Sum.s2]
      rw [if_neg (by omega)]
  simp only [digest_Writer_Sum.f]
  have hs' : digest_Writer_state.f ⟨w.s, w.rest, w.n⟩ = some (blocksR m iv0 q) := hs
  rw [clone_eq _ (by omega)]
  simp only [Option.bind_some]
  rw [if_pos (by omega), zeros_loop digest_Writer_Sum.s0 (fun l => rfl) _ (by simp; omega), hz]
  simp only [Option.bind_some]
  rw [hl1]
  simp only [Option.bind_some]
  rw [hs']
  simp only [Option.bind_some]
  rw [hl2]
  simp only [Option.bind_some]
  rw [out_eq]
  simp only [Option.bind_some, sha]
  congr 3
  omega
theorem wIn0 (s : List Int) : WIn ⟨s, [], 0⟩ [] := ⟨rfl, rfl, fun h => by simp at h⟩
theorem sha_eq (m : List Int) (hb : m.length ≤ 1000000) : digest_Sha.f m = some (sha m) := by
  obtain ⟨w', e, hw⟩ := write_eq (wIn0 (List.replicate 8 0)) (b := m) (by simpa using hb)
  simp only [digest_Sha.f, e, Option.bind_some]
  have : digest_Writer_Sum.f ⟨w'.s, w'.rest, w'.n⟩ = some (sha m) := sum_eq' hw (by simpa using hb)
  rw [this]
  rfl
theorem outL_len (s : List Int) : (outL s).length = 32 := by simp [outL]
theorem sha_len (m : List Int) : (sha m).length = 32 := outL_len _
theorem twice_eq (m : List Int) (hb : m.length ≤ 1000000) : digest_Twice.f m = some (sha (sha m)) := by
  simp only [digest_Twice.f, sha_eq m hb, Option.bind_some, sha_eq (sha m) (by rw [sha_len]; omega)]
theorem sha_arr (m : List Int) : Arr .u8 32 (sha m) := ⟨sha_len m, fun x hx => by
  simp only [sha, outL, List.mem_map] at hx
  obtain ⟨i, _, rfl⟩ := hx
  exact wrap_in _ _⟩
end Go.Proofs.YtlpggofilkfbnaaDoor.T
namespace Go.Proofs.YtlpggofilkfbnaaDoor.T
open Go Go.Proofs Go.Proofs.YtlpggofilkfbnaaDoor.K
set_option linter.unusedVariables false
set_option linter.unusedSimpArgs false
theorem els_all {α : Type} {RE : α → List Value → Prop} {sz : Nat} {xs : List α} {cs : List Value} {Q : α → Prop} (h : Els RE sz xs cs) (f : ∀ x c, RE x c → Q x) : ∀ x ∈ xs, Q x := by
  induction h with
  | nil => simp
  | cons h _ _ ih =>
    intro y hy
    rcases List.mem_cons.1 hy with rfl | hy
    · exact f _ _ h
    · exact ih y hy
theorem slc_ints {k : IntKind} {μ : Store} {v : Value} {xs : List Int} (h : Slc (RI k) 1 μ v xs) : ∀ x ∈ xs, InR k x := by
  obtain ⟨cs, he, _⟩ := h
  exact els_all he fun x c hc => hc.2
theorem getD_mid {α : Type} (pre r : List α) (x d : α) : (pre ++ x :: r).getD ((pre.length : Int).toNat) d = x := by
  simp [List.getD]
theorem mid_lt {α : Type} (pre r : List α) (x : α) : 0 ≤ (pre.length : Int) ∧ (pre.length : Int) < ((pre ++ x :: r).length : Int) := by
  simp; omega
theorem mid_next {α : Type} (pre r : List α) (x : α) (h : (pre ++ x :: r).length ≤ 140737488355328) : IntKind.i64.wrap ((pre.length : Int) + 1) = ((pre ++ [x]).length : Int) := by
  simp at h
  rw [w64 (by omega) (by omega)]; simp
theorem winc (i : Nat) (hi : i < 9223372036854775807) : IntKind.i64.wrap ((i : Int) + 1) = ((i + 1 : Nat) : Int) := by
  rw [w64 (by omega) (by omega)]; omega
theorem take_next {α : Type} (xs : List α) (i : Nat) (d : α) (h : i < xs.length) : xs.take i ++ [xs.getD i d] = xs.take (i + 1) := by
  rw [List.take_add_one]
  simp [List.getD, h]
theorem copy_run {α : Type} {step : (List α × Int) → Option ((List α × Int) ⊕ List α)} (xs : List α) (d : α) (h : xs.length < 9223372036854775807)
    (hs : ∀ i, i < xs.length → step (xs.take i, (i : Int)) = some (.inl (xs.take i ++ [xs.getD i d], IntKind.i64.wrap ((i : Int) + 1)))) (hn : step (xs, (xs.length : Int)) = some (.inr xs)) : loopO step ([], 0) = some xs :=
  loop_run (fun i => (xs.take i, (i : Int))) xs.length rfl (fun i hi => by
    rw [hs i hi, take_next _ _ _ hi, winc i (by omega)]) (by simpa using hn)
theorem bytes_eq (xs : List Int) (h : xs.length ≤ 140737488355328) : sargassoref_Bytes.f xs = some xs := by
  unfold sargassoref_Bytes.f
  rw [if_pos ⟨by omega, by omega, by omega⟩]
  simp only [Int.toNat_zero, List.replicate_zero]
  rw [copy_run xs 0 (by omega) (fun i hi => by
    simp only [sargassoref_Bytes.s0]
    rw [if_pos (by omega), if_pos (by omega), if_pos (by simp; omega), Int.toNat_natCast]) (by simp [sargassoref_Bytes.s0])]
  rfl
theorem all_run {step : Int → Option (Int ⊕ Bool)} (n : Nat) (p : Nat → Prop) [DecidablePred p] (hn : n < 9223372036854775807)
    (hs : ∀ i, i < n → step (i : Int) = if p i then some (.inl (IntKind.i64.wrap ((i : Int) + 1))) else some (.inr false)) (he : step (n : Int) = some (.inr true)) : loopO step 0 = some (decide (∀ i, i < n → p i)) := by
  have key : ∀ m k, m + k = n → (∀ i, i < k → p i) → loopO step (k : Int) = some (decide (∀ i, i < n → p i)) := by
    intro m
    induction m with
    | zero =>
      intro k e h
      obtain rfl : k = n := by omega
      rw [loopO_inr he]
      congr 1
      exact (decide_eq_true h).symm
    | succ m ih =>
      intro k e h
      have h1 := hs k (by omega)
      by_cases hp : p k
      · rw [if_pos hp, winc k (by omega)] at h1
        rw [loopO_inl h1]
        refine ih (k + 1) (by omega) fun i hi => ?_
        rcases Nat.lt_or_ge i k with h2 | h2
        · exact h i h2
        · obtain rfl : i = k := by omega
          exact hp
      · rw [if_neg hp] at h1
        rw [loopO_inr h1]
        have : ¬ ∀ i, i < n → p i := fun h2 => hp (h2 k (by omega))
        simp [this]
  exact key n 0 (by omega) (by simp)
theorem ext_iff {α : Type} (xs ys : List α) (d : α) (h : xs.length = ys.length) : (∀ i, i < xs.length → xs.getD i d = ys.getD i d) ↔ xs = ys := by
  constructor
  · intro hh
    apply List.ext_getElem h
    intro i h1 h2
    have := hh i h1
    simpa [List.getD, h1, h2] using this
  · rintro rfl i _
    rfl
theorem samehash_eq (a b : List Int) (ha : a.length = 32) (hb : b.length = 32) : sargassoref_SameHash.f a b = some (decide (a = b)) := by
  unfold sargassoref_SameHash.f
  rw [all_run 32 (fun i => a.getD i 0 = b.getD i 0) (by omega) (fun i hi => by
    simp only [sargassoref_SameHash.s0, Int.toNat_natCast]
    rw [if_pos (by omega), if_pos (by omega)]
    by_cases h : a.getD i 0 = b.getD i 0
    · rw [if_neg (by simpa using h), if_pos h]
    · rw [if_pos h, if_neg h]) (by simp [sargassoref_SameHash.s0])]
  congr 2
  apply propext
  have := ext_iff a b 0 (by rw [ha, hb])
  rw [ha] at this
  exact this
theorem samebytes_eq' (xs ys : List Int) (h : xs.length ≤ 140737488355328) : sargassoref_SameBytes.f xs ys = some (decide (xs = ys)) := by
  unfold sargassoref_SameBytes.f
  by_cases hl : xs.length = ys.length
  · rw [if_neg (by omega), all_run xs.length (fun i => xs.getD i 0 = ys.getD i 0) (by omega) (fun i hi => by
      simp only [sargassoref_SameBytes.s0, Int.toNat_natCast]
      rw [if_pos (by omega), if_pos (by omega), if_pos (by omega)]) (by simp [sargassoref_SameBytes.s0])]
    congr 2
    exact propext (ext_iff xs ys 0 hl)
  · rw [if_pos (by omega)]
    have : xs ≠ ys := fun e => hl (by rw [e])
    simp [this]
end Go.Proofs.YtlpggofilkfbnaaDoor.T
namespace Go.Proofs.YtlpggofilkfbnaaDoor.T
open Go Go.Proofs Go.Proofs.YtlpggofilkfbnaaDoor.K
set_option linter.unusedVariables false
set_option linter.unusedSimpArgs false
theorem ref_sched_step (m : List Int) (a : Nat) (ha : a + 64 ≤ m.length) (hm : m.length ≤ 3000000) (w : List Int) (hw : w.length = 64) (i : Nat) (hi : i < 64) : sargassoref1_Sha.s3 m (a : Int) ((i : Int), w) = some (.inl (((i + 1 : Nat) : Int), w.set i (schedVal m a w i))) := by
  simp only [sargassoref1_Sha.s3, hw]
  rw [if_pos (by omega)]
  by_cases h16 : i < 16
  · have e0 : IntKind.i64.wrap ((a : Int) + IntKind.i64.wrap (4 * (i : Int))) = ((a + 4 * i : Nat) : Int) := by
      rw [wmul4 i (by omega), w64 (by omega) (by omega)]; omega
    have e1 : IntKind.i64.wrap (((a + 4 * i : Nat) : Int) + 1) = ((a + 4 * i + 1 : Nat) : Int) := by rw [w64 (by omega) (by omega)]; omega
    have e2 : IntKind.i64.wrap (((a + 4 * i : Nat) : Int) + 2) = ((a + 4 * i + 2 : Nat) : Int) := by rw [w64 (by omega) (by omega)]; omega
    have e3 : IntKind.i64.wrap (((a + 4 * i : Nat) : Int) + 3) = ((a + 4 * i + 3 : Nat) : Int) := by rw [w64 (by omega) (by omega)]; omega
    rw [if_pos (by omega), e0, e1, e2, e3, if_pos (by omega), if_pos (by omega), if_pos (by omega), if_pos (by omega), if_pos (by omega)]
    simp only [Option.bind_some, Int.toNat_natCast]
    rw [wadd1 i (by omega)]
    simp only [schedVal, if_pos h16, wordAt]
  · have e2 := wsub i 2 (by omega) (by omega)
    have e7 := wsub i 7 (by omega) (by omega)
    have e15 := wsub i 15 (by omega) (by omega)
    have e16 := wsub i 16 (by omega) (by omega)
    simp only [show ((2 : Nat) : Int) = 2 from rfl, show ((7 : Nat) : Int) = 7 from rfl, show ((15 : Nat) : Int) = 15 from rfl, show ((16 : Nat) : Int) = 16 from rfl] at e2 e7 e15 e16
    rw [if_neg (by omega), e2, e7, e15, e16, if_pos (by omega), if_pos (by omega), if_pos (by omega), if_pos (by omega)]
    simp only [Int.toNat_natCast, right_f _ 17 (by omega) (by omega), right_f _ 19 (by omega) (by omega), right_f _ 7 (by omega) (by omega), right_f _ 18 (by omega) (by omega), Option.bind_some]
    rw [if_pos (by omega), wadd1 i (by omega)]
    simp only [Option.bind_some, schedVal, if_neg h16, sg0, sg1, wl, wr]
theorem ref_sched (m : List Int) (a : Nat) (ha : a + 64 ≤ m.length) (hm : m.length ≤ 3000000) : loopO (sargassoref1_Sha.s3 m (a : Int)) (0, List.replicate ((64 : Int).toNat) 0) = some (schedR m a 64) := by
  refine loop_run (fun i => ((i : Int), schedR m a i)) 64 rfl (fun i hi => ?_) ?_
  · rw [ref_sched_step m a ha hm _ (schedR_len _ _ _) i hi]
    rfl
  · simp only [sargassoref1_Sha.s3]
    rw [if_neg (by decide)]
theorem roundR_len (w s : List Int) (hs : s.length = 8) (i : Nat) : (roundR w s i).length = 8 := by
  cases i with
  | zero => exact hs
  | succ i => rfl
theorem kc_len : kc.length = 64 := by kernel_rfl
theorem k1_eq : sargassoref1_k.lit0 = kc := by kernel_rfl
theorem ref_round (w s : List Int) (hs : s.length = 8) (hw : w.length = 64) : loopO (sargassoref1_Sha.s4 kc w) (([] : List Int) ++ s, 0) = some (roundR w s 64) := by
  refine loop_run (fun i => (roundR w s i, (i : Int))) 64 rfl (fun i hi => ?_) ?_
  · have hl := roundR_len w s hs i
    have hk := kc_len
    simp only [sargassoref1_Sha.s4, hl]
    rw [if_pos (by omega), if_pos (by decide), if_pos (by decide), if_pos (by decide)]
    simp only [right_f _ 6 (by omega) (by omega), right_f _ 11 (by omega) (by omega), right_f _ 25 (by omega) (by omega), right_f _ 2 (by omega) (by omega), right_f _ 13 (by omega) (by omega), right_f _ 22 (by omega) (by omega), Option.bind_some, Int.toNat_natCast]
    rw [if_pos (by decide), if_pos (by decide), if_pos (by omega), if_pos (by omega), if_pos (by decide), if_pos (by decide), if_pos (by decide), wadd1 i (by omega)]
    simp only [roundR, rstep, rt1, rt2, wl, wr, show (0 : Int).toNat = 0 from rfl, show (1 : Int).toNat = 1 from rfl, show (2 : Int).toNat = 2 from rfl, show (3 : Int).toNat = 3 from rfl, show (4 : Int).toNat = 4 from rfl, show (5 : Int).toNat = 5 from rfl, show (6 : Int).toNat = 6 from rfl, show (7 : Int).toNat = 7 from rfl]
  · simp only [sargassoref1_Sha.s4]
    rw [if_neg (by decide)]
theorem ref_add (x s : List Int) (hs : s.length = 8) (hx : x.length = 8) : loopO (sargassoref1_Sha.s5 x) (0, s) = some (addR x s 8) := by
  refine loop_run (fun i => ((i : Int), addR x s i)) 8 rfl (fun i hi => ?_) ?_
  · have hl := addR_len x s i
    simp only [sargassoref1_Sha.s5, hl, hs, hx]
    rw [if_pos (by omega), if_pos (by omega), if_pos (by omega), wadd1 i (by omega)]
    simp only [Int.toNat_natCast, addR]
  · simp only [sargassoref1_Sha.s5]
    rw [if_neg (by decide)]
theorem ref_out (s : List Int) (hs : s.length = 8) : loopO (sargassoref1_Sha.s6 s) (0, List.replicate 32 0) = some (outL s) := by
  refine loop_run (fun i => ((i : Int), (List.range i).map (outB s) ++ List.replicate (32 - i) 0)) 32 (by simp) (fun i hi => ?_) ?_
  · simp only [sargassoref1_Sha.s6, hs]
    have e1 : IntKind.i64.wrap (Int.tdiv (i : Int) 4) = ((i / 4 : Nat) : Int) := by
      rw [Int.tdiv_eq_ediv_of_nonneg (by omega), w64 (by omega) (by omega)]; omega
    have e2 : Int.tmod (i : Int) 4 = ((i % 4 : Nat) : Int) := by rw [Int.tmod_eq_emod_of_nonneg (by omega)]; omega
    have e3 : IntKind.u64.wrap (IntKind.i64.wrap (24 - IntKind.i64.wrap (8 * ((i % 4 : Nat) : Int)))) = 24 - 8 * ((i % 4 : Nat) : Int) := by
      rw [w64 (x := 8 * ((i % 4 : Nat) : Int)) (by omega) (by omega), w64 (by omega) (by omega), wu64 (by omega) (by omega)]
    rw [if_pos (by omega), e1, e2, e3, if_pos (by omega), if_pos (by omega), if_pos (by omega), wadd1 i (by omega), Int.toNat_natCast, Int.toNat_natCast]
    have e4 : IntKind.u8.wrap (sR .u32 (s.getD (i / 4) 0) (24 - 8 * ((i % 4 : Nat) : Int))) = outB s i := rfl
    rw [e4, set_next _ _ _ _ (by omega)]
  · simp only [sargassoref1_Sha.s6]
    rw [if_neg (by decide)]
    rfl
theorem lenB_ref (n i : Nat) (hn : n ≤ 1000000) (hi : i < 8) : IntKind.u8.wrap (sR .u64 (IntKind.u64.wrap (8 * IntKind.u64.wrap (n : Int))) (IntKind.u64.wrap (IntKind.i64.wrap (8 * (7 - (i : Int)))))) = lenB n i := by
  rw [w64 (by omega) (by omega), wu64 (x := (n : Int)) (by omega) (by omega), wu64 (x := 8 * (7 - (i : Int))) (by omega) (by omega)]
  rfl
theorem ref_pad (m : List Int) (hb : m.length ≤ 1000000) : loopO (sargassoref1_Sha.s1 m) (m ++ [128] ++ List.replicate (zs (m.length + 1)) 0, 7) = some (padR m) := by
  have hz64 : zs (m.length + 1) < 64 := by simp only [zs]; omega
  refine loop_run (fun i => (m ++ [128] ++ List.replicate (zs (m.length + 1)) 0 ++ (List.range i).map (lenB m.length), 7 - (i : Int))) 8 (by simp) (fun i hi => ?_) ?_
  · simp only [sargassoref1_Sha.s1]
    rw [if_pos (by omega), if_pos (by rw [w64 (by omega) (by omega), wu64 (by omega) (by omega)]; omega), if_pos (by simp; omega), lenB_ref _ _ hb hi, w64 (by omega) (by omega)]
    congr 2
    rw [range_map_succ, ← List.append_assoc]
    congr 1
    omega
  · simp only [sargassoref1_Sha.s1]
    rw [if_neg (by decide)]
    simp only [padR, List.append_assoc]
theorem ref_block (M s : List Int) (a : Nat) (hs : s.length = 8) (ha : a + 64 ≤ M.length) (hM : M.length ≤ 3000000) : sargassoref1_Sha.s2 M kc ((a : Int), s) = some (.inl (IntKind.i64.wrap ((a : Int) + 64), mixV s M a)) := by
  simp only [sargassoref1_Sha.s2]
  rw [if_pos (by omega), if_pos (by decide), ref_sched M a ha hM]
  simp only [Option.bind_some]
  rw [if_pos (by omega), ref_round _ _ hs (schedR_len _ _ _)]
  simp only [Option.bind_some]
  rw [ref_add _ _ hs (roundR_len _ _ hs _)]
  simp only [Option.bind_some, mixV]
theorem ref_blocks (M : List Int) (hM : M.length ≤ 3000000) (h64 : M.length % 64 = 0) : loopO (sargassoref1_Sha.s2 M kc) (0, iv0) = some (blocksR M iv0 (M.length / 64)) := by
  refine loop_run (fun i => (((64 * i : Nat) : Int), blocksR M iv0 i)) (M.length / 64) (by simp only [Nat.mul_zero, blocksR]; rfl) (fun i hi => ?_) ?_
  · have hbl : (blocksR M iv0 i).length = 8 := blocksR_len _ _ _
    rw [ref_block M _ (64 * i) hbl (by omega) hM]
    have e : IntKind.i64.wrap (((64 * i : Nat) : Int) + 64) = ((64 * (i + 1) : Nat) : Int) := by rw [w64 (by omega) (by omega)]; omega
    rw [e, blocksR]
  · simp only [sargassoref1_Sha.s2]
    rw [if_neg (by omega)]
theorem ref_sha_eq (m : List Int) (hb : m.length ≤ 1000000) : sargassoref1_Sha.f m = some (sha m) := by
  have hz : zs (m ++ [128]).length = zs (m.length + 1) := by simp
  have hz64 : zs (m.length + 1) < 64 := by simp only [zs]; omega
  have hpl := padR_len m
  have hl2 := ref_blocks (padR m) (by omega) (padR_mod m)
  unfold sargassoref1_Sha.f
  rw [bytes_eq m (by omega), Option.bind_some, if_pos (by omega), zeros_loop sargassoref1_Sha.s0 (fun l => rfl) _ (by simp; omega), hz, Option.bind_some, ref_pad m hb, Option.bind_some]
  unfold sargassoref1_k.f
  rw [k1_eq, Option.bind_some]
  unfold iv0 at hl2
  rw [hl2, Option.bind_some, ref_out _ (blocksR_len _ _ _), Option.bind_some]
  rfl
theorem ref_twice_eq (m : List Int) (hb : m.length ≤ 1000000) : sargassoref1_Twice.f m = some (sha (sha m)) := by
  simp only [sargassoref1_Twice.f, ref_sha_eq m hb, Option.bind_some, ref_sha_eq (sha m) (by rw [sha_len]; omega)]
end Go.Proofs.YtlpggofilkfbnaaDoor.T
namespace Go.Proofs.YtlpggofilkfbnaaDoor.T
open Go Go.Proofs Go.Proofs.YtlpggofilkfbnaaDoor.K
set_option linter.unusedVariables false
set_option linter.unusedSimpArgs false
def Hs (l : List (List Int)) : Prop := ∀ x ∈ l, x.length = 32
theorem Hs.at {l : List (List Int)} (h : Hs l) {i : Nat} (hi : i < l.length) : (l.getD i []).length = 32 := by
  have e : l.getD i [] = l[i] := by simp [List.getD, hi]
  rw [e]; exact h _ (List.getElem_mem hi)
theorem concat_eq (l : List (List Int)) (hn : l.length ≤ 1000) (hl : ∀ x ∈ l, x.length ≤ 1000) : slices_Concat_byte_byte.f l = some l.flatten := by
  have hpre : ∀ i, i ≤ l.length → ((l.take i).flatten.length ≤ 1000 * i) := by
    intro i
    induction i with
    | zero => intro _; simp
    | succ i ih =>
      intro hi
      have h1 := ih (by omega)
      have h2 : (l.getD i []).length ≤ 1000 := by
        have e : l.getD i [] = l[i] := by simp [List.getD, show i < l.length by omega]
        rw [e]; exact hl _ (List.getElem_mem _)
      rw [← take_next l i [] (by omega), List.flatten_append, List.length_append]
      simp only [List.flatten_cons, List.flatten_nil, List.append_nil]
      omega
  have hel : ∀ i, i < l.length → (l.getD i []).length ≤ 1000 := fun i hi => by
    have e : l.getD i [] = l[i] := by simp [List.getD, hi]
    rw [e]; exact hl _ (List.getElem_mem _)
  have hnext : ∀ i, i < l.length → (l.take (i + 1)).flatten = (l.take i).flatten ++ l.getD i [] := fun i hi => by
    rw [← take_next l i [] hi, List.flatten_append]; simp
  have h0 : loopO (slices_Concat_byte_byte.s0 l) (0, 0) = some ((l.flatten.length : Int)) := by
    refine loop_run (fun i => (((l.take i).flatten.length : Int), (i : Int))) l.length (by simp) (fun i hi => ?_) ?_
    · have a := hpre i (by omega)
      have b := hel i hi
      simp only [slices_Concat_byte_byte.s0, Int.toNat_natCast]
      rw [if_pos (by omega), if_pos (by omega), w64 (x := ((l.take i).flatten.length : Int) + ((l.getD i []).length : Int)) (by omega) (by omega), if_neg (by omega), Option.bind_some, winc i (by omega), hnext i hi, List.length_append]
      push_cast
      rfl
    · simp only [slices_Concat_byte_byte.s0]
      rw [if_neg (by omega), List.take_length]
  have h1 : loopO (slices_Concat_byte_byte.s1 l) ([], 0) = some l.flatten := by
    refine loop_run (fun i => ((l.take i).flatten, (i : Int))) l.length (by simp) (fun i hi => ?_) ?_
    · have a := hpre i (by omega)
      have b := hel i hi
      simp only [slices_Concat_byte_byte.s1, Int.toNat_natCast]
      rw [if_pos (by omega), if_pos (by omega), if_pos (by omega), winc i (by omega), hnext i hi]
    · simp only [slices_Concat_byte_byte.s1]
      rw [if_neg (by omega), List.take_length]
  have a := hpre l.length (by omega)
  rw [List.take_length] at a
  simp only [slices_Concat_byte_byte.f, slices_Grow_byte_byte.f, h0, Option.bind_some]
  rw [if_pos (by omega), Option.bind_some, h1, Option.bind_some]
def pr (a b : List Int) : List Int := sha (sha (a ++ b))
theorem pr_len (a b : List Int) : (pr a b).length = 32 := sha_len _
theorem pair_eq (a b : List Int) (ha : a.length = 32) (hb : b.length = 32) : merkle_pair.f a b = some (pr a b) := by
  simp only [merkle_pair.f]
  rw [concat_eq [a, b] (by simp) (by simp [ha, hb]), Option.bind_some]
  simp only [List.flatten_cons, List.flatten_nil, List.append_nil]
  rw [twice_eq _ (by simp [ha, hb])]
  rfl
theorem pair1_eq (a b : List Int) (ha : a.length = 32) (hb : b.length = 32) : sargassoref1_pair.f a b = some (pr a b) := by
  simp only [sargassoref1_pair.f]
  rw [bytes_eq _ (by omega), Option.bind_some, if_pos (by omega), ref_twice_eq _ (by simp [ha, hb])]
  rfl
theorem xor1 (a : Nat) : a ^^^ 1 = if a % 2 = 0 then a + 1 else a - 1 := by
  have h1 : (a ^^^ 1) / 2 = a / 2 := by rw [Nat.xor_div_two]; simp
  have h2 : (a ^^^ 1) % 2 = (a + 1) % 2 := by
    have := Nat.xor_mod_two_pow (a := a) (b := 1) (n := 1)
    rw [show 2 ^ 1 = 2 from rfl] at this
    rw [this]
    have d0 : 0 ^^^ 1 % 2 = 1 := by decide
    have d1 : 1 ^^^ 1 % 2 = 0 := by decide
    rcases Nat.mod_two_eq_zero_or_one a with e | e <;> rw [e] <;> simp only [d0, d1] <;> omega
  split <;> omega
theorem xor64 (a : Nat) (h : a < 1000000) : bXor .i64 (a : Int) 1 = ((a ^^^ 1 : Nat) : Int) := by
  unfold bXor
  have e1 : (BitVec.ofInt IntKind.i64.bits (a : Int)).toNat = a := bv_nat _ _ (by simp [IntKind.bits]; omega)
  have e2 : (BitVec.ofInt IntKind.i64.bits (1 : Int)).toNat = 1 := bv_nat IntKind.i64.bits 1 (by simp [IntKind.bits])
  rw [BitVec.toNat_xor, e1, e2]
  have := xor1 a
  exact w64 (by omega) (by split at this <;> omega)
theorem iMin_nat (a b : Nat) : iMin (a : Int) (b : Int) = ((min a b : Nat) : Int) := by unfold iMin; split <;> omega
def oth (i : Nat) (l : List (List Int)) : List Int := l.getD (min (i ^^^ 1) (l.length - 1)) []
theorem oth_eq (i : Nat) (l : List (List Int)) (h0 : 0 < l.length) (hi : i < 1000000) (hl : l.length < 1000000) : merkle_other.f (i : Int) l = some (oth i l) := by
  simp only [merkle_other.f]
  have e : IntKind.i64.wrap ((l.length : Int) - 1) = ((l.length - 1 : Nat) : Int) := by rw [w64 (by omega) (by omega)]; omega
  rw [xor64 i hi, e, iMin_nat, if_pos (by omega), Int.toNat_natCast]
  rfl
theorem oth_len {i : Nat} {l : List (List Int)} (h : Hs l) (h0 : 0 < l.length) : (oth i l).length = 32 := h.at (by omega)
def upG (l : List (List Int)) (j : Nat) : List Int := pr (l.getD (2 * j) []) (oth (2 * j) l)
def upL (l : List (List Int)) : List (List Int) := (List.range ((l.length + 1) / 2)).map (upG l)
theorem upL_len (l : List (List Int)) : (upL l).length = (l.length + 1) / 2 := by simp [upL]
theorem upL_hs (l : List (List Int)) : Hs (upL l) := fun x hx => by
  simp only [upL, List.mem_map] at hx
  obtain ⟨j, _, rfl⟩ := hx
  exact pr_len _ _
theorem up_eq (l : List (List Int)) (h : Hs l) (hl : l.length < 100000) : merkle_up.f l = some (upL l) := by
  simp only [merkle_up.f]
  have e : loopO (merkle_up.s0 l) ([], 0) = some (upL l) := by
    refine loop_run (fun j => ((List.range j).map (upG l), ((2 * j : Nat) : Int))) ((l.length + 1) / 2) rfl (fun j hj => ?_) ?_
    · simp only [merkle_up.s0, Int.toNat_natCast]
      rw [if_pos (by omega), if_pos (by omega), oth_eq _ _ (by omega) (by omega) (by omega), Option.bind_some, pair_eq _ _ (h.at (by omega)) (oth_len h (by omega)), Option.bind_some, if_pos (by simp; omega), range_map_succ, w64 (by omega) (by omega)]
      congr 3
    · simp only [merkle_up.s0]
      rw [if_neg (by omega)]
      rfl
  rw [e, Option.bind_some]
theorem row_eq (l : List (List Int)) (h : Hs l) (hl : l.length < 100000) : sargassoref1_row.f l = some (upL l) := by
  simp only [sargassoref1_row.f]
  have e : loopO (sargassoref1_row.s0 l) ([], 0) = some (upL l) := by
    refine loop_run (fun j => ((List.range j).map (upG l), ((2 * j : Nat) : Int))) ((l.length + 1) / 2) rfl (fun j hj => ?_) ?_
    · simp only [sargassoref1_row.s0, Int.toNat_natCast]
      have e1 : IntKind.i64.wrap ((l.length : Int) - 1) = ((l.length - 1 : Nat) : Int) := by rw [w64 (by omega) (by omega)]; omega
      have e2 : IntKind.i64.wrap (((2 * j : Nat) : Int) + 1) = ((2 * j + 1 : Nat) : Int) := by rw [w64 (by omega) (by omega)]; omega
      have e3 : oth (2 * j) l = l.getD (min (2 * j + 1) (l.length - 1)) [] := by
        unfold oth
        rw [xor1, if_pos (by omega)]
      rw [e1, e2, iMin_nat, if_pos (by omega), if_pos (by omega), if_pos (by omega), Int.toNat_natCast, ← e3, pair1_eq _ _ (h.at (by omega)) (oth_len h (by omega)), Option.bind_some, if_pos (by simp; omega), range_map_succ, w64 (by omega) (by omega)]
      congr 3
    · simp only [sargassoref1_row.s0]
      rw [if_neg (by omega)]
      rfl
  rw [e, Option.bind_some]
def topR : Nat → List (List Int) → List (List Int)
  | 0, l => l
  | f + 1, l => if 1 < l.length then topR f (upL l) else l
theorem top_stop {f : Nat} {l : List (List Int)} (h : l.length ≤ 1) : topR f l = l := by
  cases f with
  | zero => rfl
  | succ f => rw [topR, if_neg (by omega)]
def rootL (l : List (List Int)) : List Int := if l.length = 0 then List.replicate 32 0 else (topR l.length l).getD 0 []
theorem top_pos : ∀ (f : Nat) (l : List (List Int)), 0 < l.length → l.length ≤ f → (topR f l).length = 1
  | 0, l, h, h' => by omega
  | f + 1, l, h, h' => by
    by_cases c : 1 < l.length
    · rw [topR, if_pos c]
      exact top_pos f _ (by rw [upL_len]; omega) (by rw [upL_len]; omega)
    · rw [top_stop (by omega)]; omega
theorem top_hs : ∀ (f : Nat) (l : List (List Int)), Hs l → Hs (topR f l)
  | 0, l, h => h
  | f + 1, l, h => by
    by_cases c : 1 < l.length
    · rw [topR, if_pos c]; exact top_hs f _ (upL_hs l)
    · rw [topR, if_neg c]; exact h
theorem root_loop : ∀ (f : Nat) (l : List (List Int)), Hs l → l.length ≤ f → l.length < 100000 → loopO merkle_Root.s0 l = some (topR f l)
  | 0, l, h, hf, hl => loopO_inr (by simp only [merkle_Root.s0]; rw [if_neg (by omega)]; rfl)
  | f + 1, l, h, hf, hl => by
    by_cases c : 1 < l.length
    · rw [loopO_inl (s' := upL l) (by simp only [merkle_Root.s0]; rw [if_pos (by omega), up_eq l h hl]; rfl), topR, if_pos c]
      exact root_loop f _ (upL_hs l) (by rw [upL_len]; omega) (by rw [upL_len]; omega)
    · rw [loopO_inr (r := l) (by simp only [merkle_Root.s0]; rw [if_neg (by omega)]), top_stop (by omega)]
theorem root1_loop : ∀ (f : Nat) (l : List (List Int)), Hs l → l.length ≤ f → l.length < 100000 → loopO sargassoref1_Root.s0 l = some (topR f l)
  | 0, l, h, hf, hl => loopO_inr (by simp only [sargassoref1_Root.s0]; rw [if_neg (by omega)]; rfl)
  | f + 1, l, h, hf, hl => by
    by_cases c : 1 < l.length
    · rw [loopO_inl (s' := upL l) (by simp only [sargassoref1_Root.s0]; rw [if_pos (by omega), row_eq l h hl]; rfl), topR, if_pos c]
      exact root1_loop f _ (upL_hs l) (by rw [upL_len]; omega) (by rw [upL_len]; omega)
    · rw [loopO_inr (r := l) (by simp only [sargassoref1_Root.s0]; rw [if_neg (by omega)]), top_stop (by omega)]
theorem root_eq (l : List (List Int)) (h : Hs l) (hl : l.length < 100000) : merkle_Root.f l = some (rootL l) := by
  simp only [merkle_Root.f, rootL]
  by_cases c : l.length = 0
  · rw [if_pos (by omega), if_pos c]; rfl
  · rw [if_neg (by omega), if_neg c, root_loop _ l h (Nat.le_refl _) hl, Option.bind_some, if_pos (by rw [top_pos _ _ (by omega) (Nat.le_refl _)]; decide)]
    rfl
theorem root1_eq (l : List (List Int)) (h : Hs l) (hl : l.length < 100000) : sargassoref1_Root.f l = some (rootL l) := by
  simp only [sargassoref1_Root.f, rootL]
  by_cases c : l.length = 0
  · rw [if_pos (by omega), if_pos c]; rfl
  · rw [if_neg (by omega), if_neg c, root1_loop _ l h (Nat.le_refl _) hl, Option.bind_some, if_pos (by rw [top_pos _ _ (by omega) (Nat.le_refl _)]; decide)]
    rfl
theorem rootL_len (l : List (List Int)) (h : Hs l) : (rootL l).length = 32 := by
  unfold rootL
  split
  · simp
  · exact (top_hs _ _ h).at (by rw [top_pos _ _ (by omega) (Nat.le_refl _)]; omega)
end Go.Proofs.YtlpggofilkfbnaaDoor.T
namespace Go.Proofs.YtlpggofilkfbnaaDoor.T
open Go Go.Proofs Go.Proofs.YtlpggofilkfbnaaDoor.K
set_option linter.unusedVariables false
set_option linter.unusedSimpArgs false
theorem u8e (x : Int) : IntKind.u8.wrap x = x % 256 := by simp [IntKind.wrap, IntKind.signed, IntKind.bits]
def lb (a m : Nat) : List Int := (List.range m).map fun j => ((a / 2 ^ (8 * j) % 256 : Nat) : Int)
theorem lb_len (a m : Nat) : (lb a m).length = m := by simp [lb]
theorem sR_div (k : IntKind) {a n : Nat} (hn : n ≤ k.bits) : sR k (a : Int) (n : Int) = ((a / 2 ^ n : Nat) : Int) := by
  rw [sR_nat k hn, Nat.shiftRight_eq_div_pow]
theorem number_eq' (r : List Int) (a k : Nat) (hk : k ≤ 100) (hl : r.length + k ≤ 140737488355328) : compact_number.f r (a : Int) (k : Int) = some (r ++ lb a k) := by
  simp only [compact_number.f]
  have h : loopO (compact_number.s0 (k : Int)) (r, (a : Int), 0) = some (r ++ lb a k, ((a / 2 ^ (8 * k) : Nat) : Int)) := by
    refine loop_run (fun j => (r ++ lb a j, ((a / 2 ^ (8 * j) : Nat) : Int), (j : Int))) k (by simp [lb]) (fun j hj => ?_) ?_
    · simp only [compact_number.s0]
      have e1 : IntKind.u8.wrap ((a / 2 ^ (8 * j) : Nat) : Int) = ((a / 2 ^ (8 * j) % 256 : Nat) : Int) := by rw [u8e]; generalize a / 2 ^ (8 * j) = q; omega
      have e2 : sR .u64 ((a / 2 ^ (8 * j) : Nat) : Int) 8 = ((a / 2 ^ (8 * (j + 1)) : Nat) : Int) := by
        have := sR_div .u64 (a := a / 2 ^ (8 * j)) (n := 8) (by decide)
        rw [Nat.div_div_eq_div_mul, ← Nat.pow_add] at this
        exact this
      rw [if_pos (by omega), if_pos (by simp [lb_len]; omega), e1, e2, winc j (by omega), List.append_assoc]
      have : lb a j ++ [((a / 2 ^ (8 * j) % 256 : Nat) : Int)] = lb a (j + 1) := by
        unfold lb; rw [range_map_succ]
      rw [this]
    · simp only [compact_number.s0]
      rw [if_neg (by omega)]
  rw [h, Option.bind_some]
theorem four_eq (b : List Int) (a : Nat) (ha : a < 4294967296) (hl : b.length + 4 ≤ 140737488355328) : compact_Four.f b (a : Int) = some (b ++ lb a 4) := by
  have := number_eq' b a 4 (by omega) hl
  simp only [compact_Four.f, bytes_Clone.f]
  rw [wu64 (by omega) (by omega), if_pos (by omega), Option.bind_some]
  rw [show ((4 : Nat) : Int) = 4 from rfl] at this
  rw [this, Option.bind_some]
theorem lb4_inj {a b : Nat} (ha : a < 4294967296) (hb : b < 4294967296) : lb a 4 = lb b 4 ↔ a = b := by
  constructor
  · intro h
    simp [lb, List.range_succ] at h
    omega
  · rintro rfl; rfl
structure HN where
  v : Nat
  p : List Int
  r : List Int
  t : Nat
  w : Nat
  n : Nat
deriving DecidableEq
structure HN.Ok (h : HN) : Prop where
  v : h.v < 4294967296
  p : h.p.length = 32
  r : h.r.length = 32
  t : h.t < 4294967296
  w : h.w < 4294967296
  n : h.n < 4294967296
def HN.h (h : HN) : Head := ⟨h.v, h.p, h.r, h.t, h.w, h.n⟩
def hb (h : HN) : List Int := lb h.v 4 ++ (h.p ++ (h.r ++ (lb h.t 4 ++ (lb h.w 4 ++ lb h.n 4))))
theorem hb_len {h : HN} (o : h.Ok) : (hb h).length = 80 := by simp [hb, lb_len, o.p, o.r]
theorem hbytes_eq {h : HN} (o : h.Ok) : head_Bytes.f h.h = some (hb h) := by
  simp only [head_Bytes.f, HN.h]
  have hv := o.v
  have ht := o.t
  have hw := o.w
  have hn := o.n
  rw [four_eq [] h.v hv (by simp), Option.bind_some, concat_eq _ (by simp) (by simp [lb_len, o.p, o.r]), Option.bind_some, four_eq _ h.t ht (by simp [lb_len, o.p, o.r]), Option.bind_some, four_eq _ h.w hw (by simp [lb_len, o.p, o.r]), Option.bind_some, four_eq _ h.n hn (by simp [lb_len, o.p, o.r]), Option.bind_some]
  simp [hb]
theorem hb_inj {a b : HN} (oa : a.Ok) (ob : b.Ok) : hb a = hb b ↔ a = b := by
  constructor
  · intro h
    unfold hb at h
    obtain ⟨e1, h⟩ := List.append_inj h (by rw [lb_len, lb_len])
    obtain ⟨e2, h⟩ := List.append_inj h (by rw [oa.p, ob.p])
    obtain ⟨e3, h⟩ := List.append_inj h (by rw [oa.r, ob.r])
    obtain ⟨e4, h⟩ := List.append_inj h (by rw [lb_len, lb_len])
    obtain ⟨e5, h⟩ := List.append_inj h (by rw [lb_len, lb_len])
    have f1 := (lb4_inj oa.v ob.v).1 e1
    have f4 := (lb4_inj oa.t ob.t).1 e4
    have f5 := (lb4_inj oa.w ob.w).1 e5
    have f6 := (lb4_inj oa.n ob.n).1 h
    clear e1 e4 e5 h oa ob
    obtain ⟨a1, a2, a3, a4, a5, a6⟩ := a
    obtain ⟨b1, b2, b3, b4, b5, b6⟩ := b
    simp only at f1 e2 e3 f4 f5 f6
    rw [f1, e2, e3, f4, f5, f6]
  · rintro rfl; rfl
theorem same_eq {a b : HN} (oa : a.Ok) (ob : b.Ok) : sargassoref_SameHead.f a.h b.h = some (decide (hb a = hb b)) := by
  have e : decide (hb a = hb b) = decide (a = b) := decide_eq_decide.2 (hb_inj oa ob)
  rw [e]
  simp only [sargassoref_SameHead.f, HN.h]
  rw [samehash_eq _ _ oa.p ob.p, samehash_eq _ _ oa.r ob.r]
  obtain ⟨a1, a2, a3, a4, a5, a6⟩ := a
  obtain ⟨b1, b2, b3, b4, b5, b6⟩ := b
  simp only [Option.bind_some, HN.mk.injEq, decide_eq_true_eq, Int.natCast_inj]
  by_cases c1 : a1 = b1
  · by_cases c2 : a2 = b2
    · by_cases c3 : a3 = b3
      · by_cases c4 : a4 = b4
        · by_cases c5 : a5 = b5
          · simp [c1, c2, c3, c4, c5]
          · simp [c1, c2, c3, c4, c5]
        · simp [c1, c2, c3, c4]
      · simp [c1, c2, c3]
    · simp [c1, c2]
  · simp [c1]
end Go.Proofs.YtlpggofilkfbnaaDoor.T
namespace Go.Proofs.YtlpggofilkfbnaaDoor.T
open Go Go.Proofs Go.Proofs.YtlpggofilkfbnaaDoor.K
set_option linter.unusedVariables false
set_option linter.unusedSimpArgs false
theorem gd {α : Type} (l : List α) (d : α) {i : Nat} (h : i < l.length) : l.getD i d = l[i] := by simp [List.getD, h]
end Go.Proofs.YtlpggofilkfbnaaDoor.T
namespace Go.Proofs.YtlpggofilkfbnaaDoor.T
open Go Go.Proofs Go.Proofs.YtlpggofilkfbnaaDoor.K
set_option linter.unusedVariables false
set_option linter.unusedSimpArgs false
def Bs (l : List Int) : Prop := ∀ x ∈ l, InR .u8 x
theorem Bs.app {l m : List Int} (h : Bs l) (k : Bs m) : Bs (l ++ m) := fun x hx => (List.mem_append.1 hx).elim (h x) (k x)
theorem Bs.take {l : List Int} (h : Bs l) (n : Nat) : Bs (l.take n) := fun x hx => h x (List.mem_of_mem_take hx)
theorem Bs.drop {l : List Int} (h : Bs l) (n : Nat) : Bs (l.drop n) := fun x hx => h x (List.mem_of_mem_drop hx)
theorem bs_lb (a m : Nat) : Bs (lb a m) := fun x hx => by
  obtain ⟨j, _, rfl⟩ := List.mem_map.1 hx
  simp only [InR]
  omega
theorem bs_nil : Bs [] := fun x hx => by cases hx
def vl : List Int → Nat
  | [] => 0
  | b :: l => b.toNat + 256 * vl l
def nx (n : Nat) (s : List Int × Er) : List Int × (List Int × Er) :=
  if s.2 ≠ .b 0 then ([], s) else if s.1.length < n then ([], (s.1, xErrEnd)) else (s.1.take n, (s.1.drop n, s.2))
def wh (n : Nat) (s : List Int × Er) : Nat × (List Int × Er) := (vl (nx n s).1, (nx n s).2)
def ln (n : Nat) : Nat := if n < 253 then 1 else if n < 65536 then 3 else if n < 4294967296 then 5 else 9
theorem len_eq (n : Nat) : compact_Len.f (n : Int) = some (ln n : Int) := by
  simp only [compact_Len.f, ln]
  by_cases h1 : n < 253
  · rw [if_pos (by omega), if_pos h1]; rfl
  · rw [if_neg (by omega), if_neg h1]
    by_cases h2 : n < 65536
    · rw [if_pos (by omega), if_pos h2]; rfl
    · rw [if_neg (by omega), if_neg h2]
      by_cases h3 : n < 4294967296
      · rw [if_pos (by omega), if_pos h3]; rfl
      · rw [if_neg (by omega), if_neg h3]; rfl
theorem len1_eq (n : Nat) : sargassoref1_Len.f (n : Int) = some (ln n : Int) := len_eq n
def my (n : Nat) : Nat := if n = 253 then 2 else if n = 254 then 4 else if n = 255 then 8 else 0
def nm (most : Int) (s : List Int × Er) : Nat × (List Int × Er) :=
  let a := wh 1 s
  let b := if 0 < my a.1 then wh (my a.1) a.2 else a
  if b.2.2 ≠ .b 0 then (0, b.2) else if ln b.1 ≠ 1 + my a.1 then (0, (b.2.1, xErrShape)) else if most < (b.1 : Int) then (0, (b.2.1, xErrMany)) else b
def by_ (n : Int) (s : List Int × Er) : List Int × (List Int × Er) := if n ≤ 0 then ([], s) else nx n.toNat s
end Go.Proofs.YtlpggofilkfbnaaDoor.T
namespace Go.Proofs.YtlpggofilkfbnaaDoor.T
open Go Go.Proofs Go.Proofs.YtlpggofilkfbnaaDoor.K
set_option linter.unusedVariables false
set_option linter.unusedSimpArgs false
def pt (n : Nat) : List Int := if n < 253 then lb n 1 else if n < 65536 then 253 :: lb n 2 else if n < 4294967296 then 254 :: lb n 4 else 255 :: lb n 8
theorem pt_len (n : Nat) : (pt n).length = ln n := by
  unfold pt ln
  split
  · simp [lb_len]
  · split
    · simp [lb_len]
    · split <;> simp [lb_len]
theorem ln_le (n : Nat) : 1 ≤ ln n ∧ ln n ≤ 9 := by unfold ln; split <;> (try split) <;> (try split) <;> omega
theorem lb_one (n : Nat) : lb n 1 = [((n % 256 : Nat) : Int)] := by simp [lb, List.range_succ]
theorem put_eq (b : List Int) (n : Nat) (hn : n < 18446744073709551616) (hl : b.length ≤ 1000000) : compact_Put.f b (n : Int) = some (b ++ pt n) := by
  simp only [compact_Put.f, bytes_Clone.f]
  rw [if_pos (by omega), Option.bind_some, len_eq, Option.bind_some]
  unfold ln pt
  by_cases h1 : n < 253
  · rw [if_pos h1, if_pos h1, if_pos (by rfl), if_pos (by omega), u8e, lb_one]
    congr 3
  · rw [if_neg h1, if_neg h1]
    by_cases h2 : n < 65536
    · have := number_eq' (b ++ [253]) n 2 (by omega) (by simp; omega)
      rw [show ((2 : Nat) : Int) = 2 from rfl] at this
      rw [if_pos h2, if_pos h2, if_neg (by decide), if_pos (by rfl), if_pos (by omega), this, Option.bind_some, List.append_assoc]; rfl
    · rw [if_neg h2, if_neg h2]
      by_cases h3 : n < 4294967296
      · have := number_eq' (b ++ [254]) n 4 (by omega) (by simp; omega)
        rw [show ((4 : Nat) : Int) = 4 from rfl] at this
        rw [if_pos h3, if_pos h3, if_neg (by decide), if_neg (by decide), if_pos (by rfl), if_pos (by omega), this, Option.bind_some, List.append_assoc]; rfl
      · have := number_eq' (b ++ [255]) n 8 (by omega) (by simp; omega)
        rw [show ((8 : Nat) : Int) = 8 from rfl] at this
        rw [if_neg h3, if_neg h3, if_neg (by decide), if_neg (by decide), if_neg (by decide), if_pos (by omega), this, Option.bind_some, List.append_assoc]; rfl
theorem eight_eq (b : List Int) (a : Nat) (hl : b.length ≤ 1000000) : compact_Eight.f b (a : Int) = some (b ++ lb a 8) := by
  have := number_eq' b a 8 (by omega) (by omega)
  simp only [compact_Eight.f, bytes_Clone.f]
  rw [if_pos (by omega), Option.bind_some]
  rw [show ((8 : Nat) : Int) = 8 from rfl] at this
  rw [this, Option.bind_some]
end Go.Proofs.YtlpggofilkfbnaaDoor.T
namespace Go.Proofs.YtlpggofilkfbnaaDoor.T
open Go Go.Proofs Go.Proofs.YtlpggofilkfbnaaDoor.K
set_option linter.unusedVariables false
set_option linter.unusedSimpArgs false
abbrev Stp (α : Type) := List Int × Er → α × (List Int × Er)
section
variable {α β : Type}
def ret (x : α) : Stp α := fun s => (x, s)
end
end Go.Proofs.YtlpggofilkfbnaaDoor.T
namespace Go.Proofs.YtlpggofilkfbnaaDoor.T
open Go Go.Proofs Go.Proofs.YtlpggofilkfbnaaDoor.K
set_option linter.unusedVariables false
set_option linter.unusedSimpArgs false
structure InOk (i : In) : Prop where
  tx : i.From.Tx.length = 32
  txb : Bs i.From.Tx
  n : InR .u32 i.From.N
  key : Bs i.Key
  seq : InR .u32 i.Seq
structure OutOk (o : Out) : Prop where
  val : InR .u64 o.Value
  lock : o.Lock.length = 32
  lockb : Bs o.Lock
structure TxOk (t : Tx) : Prop where
  v : InR .u32 t.Version
  ins : ∀ i ∈ t.Ins, InOk i
  outs : ∀ o ∈ t.Outs, OutOk o
  t : InR .u32 t.Time
structure Few (a b : Nat) (t : Tx) : Prop where
  ins : t.Ins.length ≤ a
  outs : t.Outs.length ≤ a
  key : ∀ i ∈ t.Ins, i.Key.length ≤ b
theorem Few.mono {a b c d : Nat} {t : Tx} (h : Few a b t) (h1 : a ≤ c) (h2 : b ≤ d) : Few c d t := ⟨Nat.le_trans h.ins h1, Nat.le_trans h.outs h1, fun i hi => Nat.le_trans (h.key i hi) h2⟩
def ib (i : In) : List Int := i.From.Tx ++ (lb i.From.N.toNat 4 ++ (pt i.Key.length ++ (i.Key ++ lb i.Seq.toNat 4)))
def ob (o : Out) : List Int := lb o.Value.toNat 8 ++ o.Lock
def tb (t : Tx) : List Int := lb t.Version.toNat 4 ++ (pt t.Ins.length ++ ((t.Ins.map ib).flatten ++ (pt t.Outs.length ++ ((t.Outs.map ob).flatten ++ lb t.Time.toNat 4))))
theorem ib_len {i : In} (h : InOk i) : (ib i).length = 40 + ln i.Key.length + i.Key.length := by
  simp only [ib, List.length_append, h.tx, lb_len, pt_len]; omega
theorem ob_len {o : Out} (h : OutOk o) : (ob o).length = 40 := by simp only [ob, List.length_append, h.lock, lb_len]
theorem flat_le {α : Type} (f : α → List Int) (b : Nat) : ∀ (l : List α), (∀ x ∈ l, (f x).length ≤ b) → (l.map f).flatten.length ≤ b * l.length
  | [], _ => by simp
  | x :: l, h => by
    have h1 := flat_le f b l fun y hy => h y (by simp [hy])
    have h2 := h x (by simp)
    simp only [List.map_cons, List.flatten_cons, List.length_append, List.length_cons]
    rw [Nat.mul_add, Nat.mul_one]; omega
theorem ins_le {t : Tx} (h : TxOk t) {a : Nat} (hf : Few a 1000 t) : (t.Ins.map ib).flatten.length ≤ 2000 * t.Ins.length := flat_le ib 2000 t.Ins fun i hi => by
  rw [ib_len (h.ins i hi)]
  have := (ln_le i.Key.length).2
  have := hf.key i hi
  omega
theorem outs_le {t : Tx} (h : TxOk t) : (t.Outs.map ob).flatten.length ≤ 40 * t.Outs.length := flat_le ob 40 t.Outs fun o ho => by rw [ob_len (h.outs o ho)]; omega
theorem tb_le {t : Tx} (h : TxOk t) (hf : Few 100 1000 t) : (tb t).length ≤ 210000 := by
  have h1 := ins_le h hf
  have h2 := outs_le h
  have h3 := (ln_le t.Ins.length).2
  have h4 := (ln_le t.Outs.length).2
  have h5 := hf.ins
  have h6 := hf.outs
  simp only [tb, List.length_append, lb_len, pt_len]
  omega
theorem nat4 {x : Int} (h : InR .u32 x) : x = ((x.toNat : Nat) : Int) ∧ x.toNat < 4294967296 := by obtain ⟨a, b⟩ := h; omega
theorem nat8 {x : Int} (h : InR .u64 x) : x = ((x.toNat : Nat) : Int) ∧ x.toNat < 18446744073709551616 := by obtain ⟨a, b⟩ := h; omega
theorem getD_mem {α : Type} {l : List α} {d : α} {i : Nat} (h : i < l.length) : l.getD i d ∈ l := by rw [gd l d h]; exact List.getElem_mem h
theorem flat_next {α : Type} (f : α → List Int) (l : List α) (d : α) (i : Nat) (h : i < l.length) : ((l.take (i + 1)).map f).flatten = ((l.take i).map f).flatten ++ f (l.getD i d) := by
  rw [← take_next l i d h]; simp
theorem take_few {α : Type} (f : α → List Int) (b : Nat) (l : List α) (h : ∀ x ∈ l, (f x).length ≤ b) (i : Nat) (hi : i ≤ l.length) : ((l.take i).map f).flatten.length ≤ b * l.length := by
  have := flat_le f b (l.take i) fun x hx => h x (List.mem_of_mem_take hx)
  rw [List.length_take, Nat.min_eq_left hi] at this
  exact Nat.le_trans this (Nat.mul_le_mul_left b hi)
theorem tbytes_eq {t : Tx} (h : TxOk t) (hf : Few 100 1000 t) : tx_Bytes.f t = some (tb t) := by
  obtain ⟨v1, v2⟩ := nat4 h.v
  obtain ⟨t1, t2⟩ := nat4 h.t
  have hi := hf.ins
  have ho := hf.outs
  have hil : ∀ i ∈ t.Ins, (ib i).length ≤ 2000 := fun i hi => by
    rw [ib_len (h.ins i hi)]
    have := (ln_le i.Key.length).2
    have := hf.key i hi
    omega
  have hol : ∀ o ∈ t.Outs, (ob o).length ≤ 40 := fun o ho => by rw [ob_len (h.outs o ho)]; omega
  have lp := (ln_le t.Ins.length).2
  have lq := (ln_le t.Outs.length).2
  have L1 : ∀ P : List Int, P.length ≤ 100 → loopO (tx_Bytes.s0 t) (P, 0) = some (P ++ (t.Ins.map ib).flatten) := fun P hP => by
    refine loop_run (fun i => (P ++ ((t.Ins.take i).map ib).flatten, (i : Int))) t.Ins.length (by simp) (fun i hi => ?_) ?_
    · have hm := getD_mem (l := t.Ins) (d := default) hi
      have ok := h.ins _ hm
      have hk := hf.key _ hm
      have hb := take_few ib 2000 t.Ins hil i (by omega)
      rw [flat_next ib t.Ins default i hi]
      simp only [tx_Bytes.s0, Int.toNat_natCast]
      generalize t.Ins.getD i default = x at *
      obtain ⟨n1, n2⟩ := nat4 ok.n
      obtain ⟨s1, s2⟩ := nat4 ok.seq
      have ltx := ok.tx
      have lk := (ln_le x.Key.length).2
      have hf4 := four_eq (P ++ ((t.Ins.take i).map ib).flatten ++ x.From.Tx) x.From.N.toNat n2 (by simp only [List.length_append]; omega)
      have hp := put_eq (P ++ ((t.Ins.take i).map ib).flatten ++ x.From.Tx ++ lb x.From.N.toNat 4) x.Key.length (by omega) (by simp only [List.length_append, lb_len]; omega)
      have hf5 := four_eq (P ++ ((t.Ins.take i).map ib).flatten ++ x.From.Tx ++ lb x.From.N.toNat 4 ++ pt x.Key.length ++ x.Key) x.Seq.toNat s2 (by simp only [List.length_append, lb_len, pt_len]; omega)
      rw [← n1] at hf4
      rw [← s1] at hf5
      rw [if_pos (by omega), if_pos (by omega), if_pos (by simp only [List.length_append]; omega), hf4, Option.bind_some, wu64 (by omega) (by omega), hp, Option.bind_some, if_pos (by simp only [List.length_append, lb_len, pt_len]; omega), hf5, Option.bind_some, winc i (by omega)]
      simp only [ib, List.append_assoc]
    · simp only [tx_Bytes.s0]
      rw [if_neg (by omega), List.take_length]
  have L2 : ∀ P : List Int, P.length ≤ 300000 → loopO (tx_Bytes.s1 t) (P, 0) = some (P ++ (t.Outs.map ob).flatten) := fun P hP => by
    refine loop_run (fun i => (P ++ ((t.Outs.take i).map ob).flatten, (i : Int))) t.Outs.length (by simp) (fun i hi => ?_) ?_
    · have hm := getD_mem (l := t.Outs) (d := default) hi
      have ok := h.outs _ hm
      have hb := take_few ob 40 t.Outs hol i (by omega)
      rw [flat_next ob t.Outs default i hi]
      simp only [tx_Bytes.s1, Int.toNat_natCast]
      generalize t.Outs.getD i default = x at *
      obtain ⟨n1, n2⟩ := nat8 ok.val
      have ltx := ok.lock
      have h8 := eight_eq (P ++ ((t.Outs.take i).map ob).flatten) x.Value.toNat (by simp only [List.length_append]; omega)
      rw [← n1] at h8
      rw [if_pos (by omega), if_pos (by omega), h8, Option.bind_some, if_pos (by simp only [List.length_append, lb_len]; omega), winc i (by omega)]
      simp only [ob, List.append_assoc]
    · simp only [tx_Bytes.s1]
      rw [if_neg (by omega), List.take_length]
  have hI := flat_le ib 2000 t.Ins hil
  have hO := flat_le ob 40 t.Outs hol
  have f1 := four_eq [] t.Version.toNat v2 (by simp)
  rw [← v1] at f1
  have p1 := put_eq (lb t.Version.toNat 4) t.Ins.length (by omega) (by rw [lb_len]; omega)
  have p2 := put_eq (lb t.Version.toNat 4 ++ pt t.Ins.length ++ (t.Ins.map ib).flatten) t.Outs.length (by omega) (by simp only [List.length_append, lb_len, pt_len]; omega)
  have f2 := four_eq (lb t.Version.toNat 4 ++ pt t.Ins.length ++ (t.Ins.map ib).flatten ++ pt t.Outs.length ++ (t.Outs.map ob).flatten) t.Time.toNat t2 (by simp only [List.length_append, lb_len, pt_len]; omega)
  rw [← t1] at f2
  simp only [tx_Bytes.f]
  rw [f1, Option.bind_some, List.nil_append, wu64 (x := (t.Ins.length : Int)) (by omega) (by omega), p1, Option.bind_some, L1 _ (by simp only [List.length_append, lb_len, pt_len]; omega), Option.bind_some, wu64 (x := (t.Outs.length : Int)) (by omega) (by omega), p2, Option.bind_some, L2 _ (by simp only [List.length_append, lb_len, pt_len]; omega), Option.bind_some, f2, Option.bind_some]
  simp only [tb, List.append_assoc]
end Go.Proofs.YtlpggofilkfbnaaDoor.T
namespace Go.Proofs.YtlpggofilkfbnaaDoor.T
open Go Go.Proofs Go.Proofs.YtlpggofilkfbnaaDoor.K
set_option linter.unusedVariables false
set_option linter.unusedSimpArgs false
theorem look_run {ρ : Type} {step : Int → Option (Int ⊕ ρ)} (n : Nat) (p : Nat → Prop) [DecidablePred p] (yes no : ρ) (hn : n < 9223372036854775807)
    (hs : ∀ i, i < n → step (i : Int) = if p i then some (.inl (IntKind.i64.wrap ((i : Int) + 1))) else some (.inr no)) (he : step (n : Int) = some (.inr yes)) : loopO step 0 = some (if ∀ i, i < n → p i then yes else no) := by
  have key : ∀ m k, m + k = n → (∀ i, i < k → p i) → loopO step (k : Int) = some (if ∀ i, i < n → p i then yes else no) := by
    intro m
    induction m with
    | zero =>
      intro k e h
      obtain rfl : k = n := by omega
      rw [loopO_inr he, if_pos h]
    | succ m ih =>
      intro k e h
      have h1 := hs k (by omega)
      by_cases hp : p k
      · rw [if_pos hp, winc k (by omega)] at h1
        rw [loopO_inl h1]
        refine ih (k + 1) (by omega) fun i hi => ?_
        rcases Nat.lt_or_ge i k with h2 | h2
        · exact h i h2
        · obtain rfl : i = k := by omega
          exact hp
      · rw [if_neg hp] at h1
        rw [loopO_inr h1, if_neg (fun h2 => hp (h2 k (by omega)))]
  exact key n 0 (by omega) (by simp)
theorem samepoint_eq (a b : Point) (ha : a.Tx.length = 32) (hb : b.Tx.length = 32) : sargassoref_SamePoint.f a b = some (decide (a = b)) := by
  simp only [sargassoref_SamePoint.f]
  rw [samehash_eq _ _ ha hb]
  obtain ⟨a1, a2⟩ := a
  obtain ⟨b1, b2⟩ := b
  simp only [Option.bind_some, Point.mk.injEq, decide_eq_true_eq]
  by_cases h1 : a1 = b1 <;> by_cases h2 : a2 = b2 <;> simp [h1, h2]
noncomputable instance (a b : Nat) (t : Tx) : Decidable (Few a b t) := Classical.propDecidable _
def nullP : Point := ⟨List.replicate 32 0, 4294967295⟩
theorem point_iff (a b : Point) : a = b ↔ (a.Tx = b.Tx ∧ a.N = b.N) := by
  obtain ⟨a1, a2⟩ := a
  obtain ⟨b1, b2⟩ := b
  simp
theorem out_iff (x y : Out) : x = y ↔ (x.Value = y.Value ∧ x.Lock = y.Lock) := by
  obtain ⟨x1, x2⟩ := x
  obtain ⟨y1, y2⟩ := y
  simp
theorem in_iff (x y : In) : x = y ↔ ((x.From.Tx = y.From.Tx ∧ x.From.N = y.From.N) ∧ x.Seq = y.Seq ∧ x.Key = y.Key) := by
  obtain ⟨⟨x1, x2⟩, x3, x4⟩ := x
  obtain ⟨⟨y1, y2⟩, y3, y4⟩ := y
  simp only [In.mk.injEq, Point.mk.injEq]
  constructor
  · rintro ⟨a, b, c⟩; exact ⟨a, c, b⟩
  · rintro ⟨a, b, c⟩; exact ⟨a, c, b⟩
theorem tx_iff (t u : Tx) : t = u ↔ (t.Version = u.Version ∧ t.Time = u.Time ∧ t.Outs = u.Outs ∧ t.Ins = u.Ins) := by
  obtain ⟨a, b, c, d⟩ := t
  obtain ⟨e, f, g, h⟩ := u
  simp only [Tx.mk.injEq]
  constructor
  · rintro ⟨a, b, c, d⟩; exact ⟨a, d, c, b⟩
  · rintro ⟨a, b, c, d⟩; exact ⟨a, d, c, b⟩
theorem sameout_eq {x y : Out} (h : OutOk x) (k : OutOk y) : sargassoref_SameOut.f x y = some (decide (x = y)) := by
  simp only [sargassoref_SameOut.f]
  have hi := out_iff x y
  by_cases c1 : x.Value = y.Value
  · rw [if_pos c1, samehash_eq _ _ h.lock k.lock, Option.bind_some, Option.bind_some]
    exact congrArg some (decide_eq_decide.2 ⟨fun h => hi.2 ⟨c1, h⟩, fun h => (hi.1 h).2⟩)
  · rw [if_neg c1, Option.bind_some, decide_eq_false (fun h => c1 (hi.1 h).1)]
theorem samein_eq {x y : In} (h : InOk x) (k : InOk y) (hl : x.Key.length ≤ 1000000) : sargassoref_SameIn.f x y = some (decide (x = y)) := by
  simp only [sargassoref_SameIn.f]
  have hi := in_iff x y
  rw [samepoint_eq _ _ h.tx k.tx, Option.bind_some]
  have hp := point_iff x.From y.From
  by_cases c1 : x.From = y.From
  · rw [if_pos (decide_eq_true c1), samebytes_eq' _ _ (by omega), Option.bind_some]
    by_cases c2 : x.Key = y.Key
    · rw [if_pos (decide_eq_true c2), Option.bind_some]
      exact congrArg some (decide_eq_decide.2 ⟨fun h => hi.2 ⟨hp.1 c1, h, c2⟩, fun h => (hi.1 h).2.1⟩)
    · rw [if_neg (by simp only [decide_eq_true_eq]; exact c2), Option.bind_some, decide_eq_false (fun h => c2 (hi.1 h).2.2)]
  · rw [if_neg (by simp only [decide_eq_true_eq]; exact c1), Option.bind_some, decide_eq_false (fun h => c1 (hp.2 (hi.1 h).1))]
theorem sametx_eq {t u : Tx} (h : TxOk t) (k : TxOk u) (h1 : t.Ins.length ≤ 1000000) (h2 : t.Outs.length ≤ 1000000) (h3 : ∀ i ∈ t.Ins, i.Key.length ≤ 1000000) : sargassoref_SameTx.f t u = some (decide (t = u)) := by
  simp only [sargassoref_SameTx.f]
  have hi := tx_iff t u
  by_cases c1 : t.Version = u.Version
  · rw [if_neg (fun h => h c1)]
    by_cases c2 : t.Time = u.Time
    · rw [if_neg (fun h => h c2)]
      by_cases c3 : t.Ins.length = u.Ins.length
      · rw [if_neg (by omega), Option.bind_some]
        by_cases c4 : t.Outs.length = u.Outs.length
        · rw [if_neg (by simp only [decide_eq_true_eq]; omega)]
          have e1 : loopO (sargassoref_SameTx.s1 t u) 0 = some (if ∀ i, i < t.Outs.length → t.Outs.getD i default = u.Outs.getD i default then (Sum.inr true : Int ⊕ Bool) else Sum.inr false) := look_run t.Outs.length (fun i => t.Outs.getD i default = u.Outs.getD i default) (Sum.inr true) (Sum.inr false) (by omega) (fun i hi => by
            simp only [sargassoref_SameTx.s1, Int.toNat_natCast]
            rw [if_pos (by omega), if_pos (by omega), if_pos (by omega), sameout_eq (h.outs _ (getD_mem hi)) (k.outs _ (getD_mem (show i < u.Outs.length by omega))), Option.bind_some]
            by_cases c : t.Outs.getD i default = u.Outs.getD i default
            · rw [if_pos c, if_pos (decide_eq_true c)]
            · rw [if_neg c, if_neg (by simp only [decide_eq_true_eq]; exact c)]) (by simp [sargassoref_SameTx.s1])
          have e2 : loopO (sargassoref_SameTx.s1 t u) 0 = some (.inr (decide (t.Outs = u.Outs))) := by
            rw [e1]
            have e := ext_iff t.Outs u.Outs default c4
            by_cases c : t.Outs = u.Outs
            · rw [if_pos (e.2 c), decide_eq_true c]
            · rw [if_neg (fun h => c (e.1 h)), decide_eq_false c]
          rw [look_run t.Ins.length (fun i => t.Ins.getD i default = u.Ins.getD i default) (decide (t.Outs = u.Outs)) false (by omega) (fun i hi => by
            simp only [sargassoref_SameTx.s0, Int.toNat_natCast]
            rw [if_pos (by omega), if_pos (by omega), if_pos (by omega), samein_eq (h.ins _ (getD_mem hi)) (k.ins _ (getD_mem (show i < u.Ins.length by omega))) (h3 _ (getD_mem hi)), Option.bind_some]
            by_cases c : t.Ins.getD i default = u.Ins.getD i default
            · rw [if_pos c, if_pos (decide_eq_true c)]
            · rw [if_neg c, if_neg (by simp only [decide_eq_true_eq]; exact c)]) (by
            simp only [sargassoref_SameTx.s0]
            rw [if_neg (by omega), e2])]
          have e := ext_iff t.Ins u.Ins default c3
          by_cases c : t.Ins = u.Ins
          · rw [if_pos (e.2 c)]
            exact congrArg some (decide_eq_decide.2 ⟨fun h => hi.2 ⟨c1, c2, h, c⟩, fun h => (hi.1 h).2.2.1⟩)
          · rw [if_neg (fun h => c (e.1 h)), decide_eq_false (fun h => c (hi.1 h).2.2.2)]
        · rw [if_pos (by simp only [decide_eq_true_eq]; omega), decide_eq_false (fun h => c4 (by rw [h]))]
      · rw [if_pos (by omega), Option.bind_some, if_pos rfl, decide_eq_false (fun h => c3 (by rw [h]))]
    · rw [if_pos c2, Option.bind_some, if_pos rfl, decide_eq_false (fun h => c2 (hi.1 h).2.1)]
  · rw [if_pos c1, Option.bind_some, if_pos rfl, decide_eq_false (fun h => c1 (hi.1 h).1)]
end Go.Proofs.YtlpggofilkfbnaaDoor.T
namespace Go.Proofs.YtlpggofilkfbnaaDoor.T
open Go Go.Proofs Go.Proofs.YtlpggofilkfbnaaDoor.K
set_option linter.unusedVariables false
def goSum : Int → List Int → Int × Bool
  | s, [] => (s, true)
  | s, x :: r => if 2100000000000000 < s + x then (0, false) else goSum (s + x) r
theorem sum_loop (xs : List Int) (h : xs.length ≤ 140737488355328) (hx : ∀ x ∈ xs, InR .u64 x) : ∀ (r pre : List Int) (s : Int), xs = pre ++ r → 0 ≤ s → s ≤ 2100000000000000 →
    loopO (compact_Sum.s0 xs) (s, (pre.length : Int)) = some (goSum s r)
  | [], pre, s, e, _, _ => by
    obtain rfl : xs = pre := by simpa using e
    exact loopO_inr (by simp [compact_Sum.s0, goSum])
  | x :: r, pre, s, e, h0, h1 => by
    have hr : InR .u64 x := hx x (by simp [e])
    obtain ⟨a, b⟩ := hr
    have h3 := mid_lt pre r x
    have ih := sum_loop xs h hx r (pre ++ [x]) (s + x) (by simp [e]) (by omega)
    subst e
    unfold goSum
    by_cases hc : 2100000000000000 < s + x
    · rw [if_pos hc]
      refine loopO_inr ?_
      simp only [compact_Sum.s0, if_pos h3.2, if_pos h3, getD_mid]
      rw [if_pos (by rw [wu64 (by omega) (by omega)]; omega)]
    · rw [if_neg hc, loopO_inl (s' := (s + x, ((pre ++ [x]).length : Int)))]
      · exact ih (by omega)
      · simp only [compact_Sum.s0, if_pos h3.2, if_pos h3, getD_mid]
        rw [if_neg (by rw [wu64 (by omega) (by omega)]; omega), wu64 (by omega) (by omega), mid_next pre r x h]
theorem sum_eq (xs : List Int) (h : xs.length ≤ 140737488355328) (hx : ∀ x ∈ xs, InR .u64 x) : compact_Sum.f xs = some (goSum 0 xs) :=
  sum_loop xs h hx xs [] 0 rfl (by omega) (by omega)
end Go.Proofs.YtlpggofilkfbnaaDoor.T
namespace Go.Proofs.YtlpggofilkfbnaaDoor.T
open Go Go.Proofs Go.Proofs.YtlpggofilkfbnaaDoor.K
set_option linter.unusedVariables false
set_option linter.unusedSimpArgs false
theorem find_run {step : Int → Option (Int ⊕ Int)} (n : Nat) (p : Nat → Prop) [DecidablePred p] (hn : n < 9223372036854775807)
    (hs : ∀ i, i < n → step (i : Int) = if p i then some (.inr (i : Int)) else some (.inl (IntKind.i64.wrap ((i : Int) + 1)))) (he : step (n : Int) = some (.inr (-1))) : ∃ r, loopO step 0 = some r ∧ (0 ≤ r ↔ ∃ i, i < n ∧ p i) := by
  have key : ∀ m k, m + k = n → (∀ i, i < k → ¬ p i) → ∃ r, loopO step (k : Int) = some r ∧ (0 ≤ r ↔ ∃ i, i < n ∧ p i) := by
    intro m
    induction m with
    | zero =>
      intro k e h
      obtain rfl : k = n := by omega
      exact ⟨-1, loopO_inr he, ⟨fun h => by omega, fun ⟨i, h1, h2⟩ => absurd h2 (h i h1)⟩⟩
    | succ m ih =>
      intro k e h
      have h1 := hs k (by omega)
      by_cases hp : p k
      · rw [if_pos hp] at h1
        exact ⟨k, loopO_inr h1, ⟨fun _ => ⟨k, by omega, hp⟩, fun _ => by omega⟩⟩
      · rw [if_neg hp, winc k (by omega)] at h1
        rw [loopO_inl h1]
        refine ih (k + 1) (by omega) fun i hi => ?_
        rcases Nat.lt_or_ge i k with h2 | h2
        · exact h i h2
        · obtain rfl : i = k := by omega
          exact hp
  exact key n 0 (by omega) (by simp)
theorem ex_getD {α : Type} (l : List α) (d : α) (p : α → Prop) : (∃ i, i < l.length ∧ p (l.getD i d)) ↔ ∃ x ∈ l, p x := by
  constructor
  · rintro ⟨i, hi, h⟩
    exact ⟨_, getD_mem hi, h⟩
  · rintro ⟨x, hx, h⟩
    obtain ⟨i, hi, rfl⟩ := List.getElem_of_mem hx
    exact ⟨i, hi, by rw [gd l d hi]; exact h⟩
theorem contains_key (l : List In) (hl : l.length ≤ 1000000) : slices_ContainsFunc_api_In_api_In_at_tx_Check_1.f l = some (decide (∃ i ∈ l, 80 < i.Key.length)) := by
  obtain ⟨r, h1, h2⟩ := find_run (step := slices_IndexFunc_api_In_api_In_at_tx_Check_1.s0 l) l.length (fun i => 80 < (l.getD i default).Key.length) (by omega) (fun i hi => by
    simp only [slices_IndexFunc_api_In_api_In_at_tx_Check_1.s0, tx_Check_1.f, Int.toNat_natCast]
    rw [if_pos (by omega), if_pos (by omega), Option.bind_some]
    by_cases c : 80 < (l.getD i default).Key.length
    · rw [if_pos c, if_pos (by simp only [decide_eq_true_eq]; omega)]
    · rw [if_neg c, if_neg (by simp only [decide_eq_true_eq]; omega)]) (by simp [slices_IndexFunc_api_In_api_In_at_tx_Check_1.s0])
  simp only [slices_ContainsFunc_api_In_api_In_at_tx_Check_1.f, slices_IndexFunc_api_In_api_In_at_tx_Check_1.f]
  rw [h1, Option.bind_some]
  exact congrArg some (decide_eq_decide.2 (h2.trans (ex_getD l default fun i => 80 < i.Key.length)))
theorem isnull_eq (p : Point) : spend_IsNull.f p = some (decide (p = nullP)) := by
  simp only [spend_IsNull.f, spend_Null.f, Option.bind_some]
  exact congrArg some (decide_eq_decide.2 (point_iff p nullP).symm)
theorem contains_null (l : List In) (hl : l.length ≤ 1000000) : slices_ContainsFunc_api_In_api_In_at_tx_base_1.f l = some (decide (∃ i ∈ l, i.From = nullP)) := by
  obtain ⟨r, h1, h2⟩ := find_run (step := slices_IndexFunc_api_In_api_In_at_tx_base_1.s0 l) l.length (fun i => (l.getD i default).From = nullP) (by omega) (fun i hi => by
    simp only [slices_IndexFunc_api_In_api_In_at_tx_base_1.s0, tx_base_1.f, Int.toNat_natCast]
    rw [if_pos (by omega), if_pos (by omega), isnull_eq, Option.bind_some, Option.bind_some]
    by_cases c : (l.getD i default).From = nullP
    · rw [if_pos c, if_pos (decide_eq_true c)]
    · rw [if_neg c, if_neg (by simp only [decide_eq_true_eq]; exact c)]) (by simp [slices_IndexFunc_api_In_api_In_at_tx_base_1.s0])
  simp only [slices_ContainsFunc_api_In_api_In_at_tx_base_1.f, slices_IndexFunc_api_In_api_In_at_tx_base_1.f]
  rw [h1, Option.bind_some]
  exact congrArg some (decide_eq_decide.2 (h2.trans (ex_getD l default fun i => i.From = nullP)))
theorem mget_put {K V : Type} [DecidableEq K] (l : List (K × V)) (k k' : K) (v : V) : mget (mput l k v) k' = if k = k' then some v else mget l k' := by
  induction l with
  | nil => simp [mput, mget]
  | cons p l ih =>
    unfold mput
    by_cases h : p.1 = k
    · rw [if_pos h]
      subst h
      by_cases c : p.1 = k'
      · simp [mget, c]
      · simp [mget, c]
    · rw [if_neg h]
      simp only [mget]
      by_cases c : p.1 = k'
      · rw [if_pos c, if_pos c, if_neg (fun e => h (c.trans e.symm))]
      · rw [if_neg c, if_neg c, ih]
def frs (t : Tx) : List Point := t.Ins.map (·.From)
theorem frs_next (t : Tx) (i : Nat) (h : i < t.Ins.length) : (t.Ins.take (i + 1)).map (·.From) = (t.Ins.take i).map (·.From) ++ [(t.Ins.getD i default).From] := by
  rw [← take_next t.Ins i default h]; simp
theorem twice_loop (t : Tx) (hl : t.Ins.length ≤ 1000000) : ∀ (m i : Nat) (s : List (Point × Bool)), m + i = t.Ins.length → (∀ k, ((mget s k).getD false = true ↔ k ∈ (t.Ins.take i).map (·.From))) → ((t.Ins.take i).map (·.From)).Nodup →
    loopO (tx_twice.s0 t) ((i : Int), s) = some (decide (¬ (frs t).Nodup)) := by
  intro m
  induction m with
  | zero =>
    intro i s e h hn
    obtain rfl : i = t.Ins.length := by omega
    rw [List.take_length] at hn
    rw [loopO_inr (by simp only [tx_twice.s0]; rw [if_neg (by omega)]), decide_eq_false (fun h => h hn)]
  | succ m ih =>
    intro i s e h hn
    by_cases c : (t.Ins.getD i default).From ∈ (t.Ins.take i).map (·.From)
    · rw [loopO_inr (by
        simp only [tx_twice.s0, Int.toNat_natCast]
        rw [if_pos (by omega), if_pos (by omega), if_pos ((h _).2 c)])]
      have h2 : ¬ (frs t).Nodup := fun hd => by
        have h3 : ((t.Ins.take (i + 1)).map (·.From)).Nodup := hd.sublist ((List.take_sublist _ _).map _)
        rw [frs_next t i (by omega)] at h3
        exact (List.nodup_append.1 h3).2.2 _ c _ (by simp) rfl
      rw [decide_eq_true h2]
    · rw [loopO_inl (by
        simp only [tx_twice.s0, Int.toNat_natCast]
        rw [if_pos (by omega), if_pos (by omega), if_neg (fun h2 => c ((h _).1 h2)), winc i (by omega)])]
      refine ih (i + 1) _ (by omega) (fun k => ?_) ?_
      · rw [mget_put, frs_next t i (by omega)]
        by_cases ck : (t.Ins.getD i default).From = k
        · rw [if_pos ck, ← ck]; simp
        · rw [if_neg ck, h k, List.mem_append]
          refine ⟨.inl, fun h => ?_⟩
          rcases h with h | h
          · exact h
          · exact absurd (by simpa using h) (fun e => ck (Eq.symm e))
      · rw [frs_next t i (by omega)]
        refine List.nodup_append.2 ⟨hn, by simp, fun a ha b hb => ?_⟩
        have hb' : b = (t.Ins.getD i default).From := by simpa using hb
        intro e
        exact c (by rw [← hb', ← e]; exact ha)
theorem twice_eq' (t : Tx) (hl : t.Ins.length ≤ 1000000) : tx_twice.f t = some (decide (¬ (frs t).Nodup)) := by
  have := twice_loop t hl t.Ins.length 0 [] (by omega) (fun k => by simp [mget]) (by simp)
  exact this
theorem values_eq (t : Tx) (hl : t.Outs.length ≤ 1000000) : tx_values.f t = some (t.Outs.map (·.Value)) := by
  simp only [tx_values.f]
  rw [show loopO (tx_values.s0 t) ([], 0) = _ from loop_run (step := tx_values.s0 t) (fun i => ((t.Outs.take i).map (·.Value), (i : Int))) t.Outs.length (r := t.Outs.map (·.Value)) rfl (fun i hi => by
    simp only [tx_values.s0, Int.toNat_natCast]
    rw [if_pos (by omega), if_pos (by omega), if_pos (by simp; omega), winc i (by omega), ← take_next t.Outs i default hi]
    simp) (by simp only [tx_values.s0]; rw [if_neg (by omega), List.take_length])]
  rfl
def vs (t : Tx) : List Int := t.Outs.map (·.Value)
theorem vs_in {t : Tx} (h : TxOk t) : ∀ x ∈ vs t, InR .u64 x := fun x hx => by
  obtain ⟨o, ho, rfl⟩ := List.mem_map.1 hx
  exact (h.outs o ho).val
theorem txsum_eq {t : Tx} (h : TxOk t) (hl : t.Outs.length ≤ 1000000) : tx_Sum.f t = some (goSum 0 (vs t)) := by
  simp only [tx_Sum.f]
  rw [values_eq t hl, Option.bind_some, show t.Outs.map (·.Value) = vs t from rfl, sum_eq _ (by simp [vs]; omega) (vs_in h)]
  rfl
def isBase (t : Tx) : Prop := t.Ins.length = 1 ∧ (t.Ins.getD 0 default).From = nullP
instance (t : Tx) : Decidable (isBase t) := inferInstanceAs (Decidable (_ ∧ _))
theorem base_eq (t : Tx) : tx_Base.f t = some (decide (isBase t)) := by
  simp only [tx_Base.f]
  by_cases c : t.Ins.length = 1
  · rw [if_pos (by omega), if_pos (by omega), isnull_eq]
    simp only [Option.bind_some]
    exact congrArg some (decide_eq_decide.2 ⟨fun h => ⟨c, h⟩, fun h => h.2⟩)
  · rw [if_neg (by omega), Option.bind_some, decide_eq_false (fun h => c h.1)]
noncomputable def bs (t : Tx) : Er := if isBase t then (if (t.Ins.getD 0 default).Key.length < 4 then xErrBase else .b 0) else if ∃ i ∈ t.Ins, i.From = nullP then xErrBase else .b 0
theorem base1_eq (t : Tx) (hl : t.Ins.length ≤ 1000000) : tx_base.f t = some (bs t) := by
  simp only [tx_base.f]
  rw [base_eq, Option.bind_some]
  unfold bs
  by_cases c : isBase t
  · rw [if_pos (decide_eq_true c), if_pos c, if_pos (by have := c.1; omega)]
    by_cases k : (t.Ins.getD 0 default).Key.length < 4
    · rw [if_pos k, if_pos (show (((t.Ins.getD (0 : Int).toNat default).Key).length : Int) < 4 by rw [show (0 : Int).toNat = 0 from rfl]; omega)]
    · rw [if_neg k, if_neg (show ¬ (((t.Ins.getD (0 : Int).toNat default).Key).length : Int) < 4 by rw [show (0 : Int).toNat = 0 from rfl]; omega)]
  · rw [if_neg (by simp only [decide_eq_true_eq]; exact c), if_neg c, contains_null _ hl, Option.bind_some]
    by_cases k : ∃ i ∈ t.Ins, i.From = nullP
    · rw [if_pos (decide_eq_true k), if_pos k]
    · rw [if_neg (by simp only [decide_eq_true_eq]; exact k), if_neg k]
def mn (t : Tx) : Prop := t.Ins.length = 0 ∨ 50 < t.Ins.length ∨ t.Outs.length = 0 ∨ 50 < t.Outs.length
instance (t : Tx) : Decidable (mn t) := inferInstanceAs (Decidable (_ ∨ _))
noncomputable def ck (t : Tx) : Er := if mn t then xErrMany else if 4000 < (tb t).length then xErrLong else if ∃ i ∈ t.Ins, 80 < i.Key.length then xErrKey else if (goSum 0 (vs t)).2 = false then xErrValue else if ¬ (frs t).Nodup then xErrTwice else bs t
theorem many_eq (t : Tx) : (if (t.Ins.length : Int) = 0 then some true else (if 50 < (t.Ins.length : Int) then some true else (if (t.Outs.length : Int) = 0 then some true else some (decide (50 < (t.Outs.length : Int)))))) = some (decide (mn t)) := by
  have hm : mn t ↔ (t.Ins.length = 0 ∨ 50 < t.Ins.length ∨ t.Outs.length = 0 ∨ 50 < t.Outs.length) := Iff.rfl
  by_cases c1 : t.Ins.length = 0
  · rw [if_pos (by omega), decide_eq_true (hm.2 (.inl c1))]
  · by_cases c2 : 50 < t.Ins.length
    · rw [if_neg (by omega), if_pos (by omega), decide_eq_true (hm.2 (.inr (.inl c2)))]
    · by_cases c3 : t.Outs.length = 0
      · rw [if_neg (by omega), if_neg (by omega), if_pos (by omega), decide_eq_true (hm.2 (.inr (.inr (.inl c3))))]
      · rw [if_neg (by omega), if_neg (by omega), if_neg (by omega)]
        exact congrArg some (decide_eq_decide.2 ⟨fun h => hm.2 (by omega), fun h => by have := hm.1 h; omega⟩)
theorem size_eq {t : Tx} (h : TxOk t) (hf : Few 60 100 t) : tx_Size.f t = some ((tb t).length : Int) := by
  simp only [tx_Size.f]
  rw [tbytes_eq h (hf.mono (by omega) (by omega)), Option.bind_some]
theorem check_eq {t : Tx} (h : TxOk t) (hf : Few 60 100 t) : tx_Check.f t = some (ck t) := by
  have h1 := hf.ins
  have h2 := hf.outs
  simp only [tx_Check.f]
  rw [many_eq, Option.bind_some]
  unfold ck
  by_cases c1 : mn t
  · rw [if_pos (decide_eq_true c1), if_pos c1]
  · rw [if_neg (by simp only [decide_eq_true_eq]; exact c1), if_neg c1, size_eq h hf, Option.bind_some]
    by_cases c2 : 4000 < (tb t).length
    · rw [if_pos (by omega), if_pos c2]
    · rw [if_neg (by omega), if_neg c2, contains_key _ (by omega), Option.bind_some]
      by_cases c3 : ∃ i ∈ t.Ins, 80 < i.Key.length
      · rw [if_pos (decide_eq_true c3), if_pos c3]
      · rw [if_neg (by simp only [decide_eq_true_eq]; exact c3), if_neg c3, txsum_eq h (by omega), Option.bind_some]
        by_cases c4 : (goSum 0 (vs t)).2 = false
        · rw [if_neg (by rw [c4]; decide), if_pos c4]
        · rw [if_pos (by simpa using c4), if_neg c4, twice_eq' t (by omega), Option.bind_some]
          by_cases c5 : ¬ (frs t).Nodup
          · rw [if_pos (decide_eq_true c5), if_pos c5]
          · rw [if_neg (by simp only [decide_eq_true_eq]; exact c5), if_neg c5, base1_eq t (by omega), Option.bind_some]
theorem ck_of {t : Tx} (h1 : ¬ mn t) (h2 : (tb t).length ≤ 4000) (h3 : ∀ i ∈ t.Ins, i.Key.length ≤ 80) (h4 : (goSum 0 (vs t)).2 = true) (h5 : (frs t).Nodup) : ck t = bs t := by
  unfold ck
  rw [if_neg h1, if_neg (by omega), if_neg (fun ⟨i, hi, h⟩ => by have := h3 i hi; omega), if_neg (by rw [h4]; decide), if_neg (fun h => h h5)]
theorem tb_small {t : Tx} (h : TxOk t) (h1 : t.Ins.length ≤ 10) (h2 : t.Outs.length ≤ 10) (h3 : ∀ i ∈ t.Ins, i.Key.length ≤ 80) : (tb t).length ≤ 4000 := by
  have k1 := flat_le ib 130 t.Ins fun i hi => by
    rw [ib_len (h.ins i hi)]
    have := (ln_le i.Key.length).2
    have := h3 i hi
    omega
  have k2 := outs_le h
  have k3 := (ln_le t.Ins.length).2
  have k4 := (ln_le t.Outs.length).2
  simp only [tb, List.length_append, lb_len, pt_len]
  omega
end Go.Proofs.YtlpggofilkfbnaaDoor.T
namespace Go.Proofs.YtlpggofilkfbnaaDoor.T
open Go Go.Proofs Go.Proofs.YtlpggofilkfbnaaDoor.K
set_option linter.unusedVariables false
set_option linter.unusedSimpArgs false
theorem little_eq' (r : List Int) (a k : Nat) (hk : k ≤ 8) (hl : r.length + k ≤ 140737488355328) : sargassoref1_little.f r (a : Int) (k : Int) = some (r ++ lb a k) := by
  simp only [sargassoref1_little.f]
  have h : loopO (sargassoref1_little.s0 (a : Int) (k : Int)) (r, 0) = some (r ++ lb a k) := by
    refine loop_run (fun j => (r ++ lb a j, (j : Int))) k (by simp [lb]) (fun j hj => ?_) ?_
    · simp only [sargassoref1_little.s0]
      have ew : IntKind.u64.wrap (IntKind.i64.wrap (8 * (j : Int))) = ((8 * j : Nat) : Int) := by rw [w64 (by omega) (by omega), wu64 (by omega) (by omega)]; omega
      have e1 : IntKind.u8.wrap (sR .u64 (a : Int) ((8 * j : Nat) : Int)) = ((a / 2 ^ (8 * j) % 256 : Nat) : Int) := by
        rw [sR_div .u64 (n := 8 * j) (by simp only [IntKind.bits]; omega), u8e]
        generalize a / 2 ^ (8 * j) = q
        omega
      rw [if_pos (by omega), ew, e1, if_pos (by omega), if_pos (by simp [lb_len]; omega), winc j (by omega), List.append_assoc]
      have : lb a j ++ [((a / 2 ^ (8 * j) % 256 : Nat) : Int)] = lb a (j + 1) := by
        unfold lb; rw [range_map_succ]
      rw [this]
    · simp only [sargassoref1_little.s0]
      rw [if_neg (by omega)]
  rw [h, Option.bind_some]
theorem four1_eq (b : List Int) (a : Nat) (ha : a < 4294967296) (hl : b.length + 4 ≤ 140737488355328) : sargassoref1_Four.f b (a : Int) = some (b ++ lb a 4) := by
  have := little_eq' b a 4 (by omega) hl
  simp only [sargassoref1_Four.f]
  rw [wu64 (by omega) (by omega)]
  rw [show ((4 : Nat) : Int) = 4 from rfl] at this
  rw [this, Option.bind_some]
theorem put1_eq (b : List Int) (n : Nat) (hn : n < 18446744073709551616) (hl : b.length ≤ 1000000) : sargassoref1_Put.f b (n : Int) = some (b ++ pt n) := by
  simp only [sargassoref1_Put.f]
  rw [len1_eq, Option.bind_some]
  unfold ln pt
  by_cases h1 : n < 253
  · rw [if_pos h1, if_pos h1, if_pos (by rfl), if_pos (by omega), u8e, lb_one]
    congr 3
  · rw [if_neg h1, if_neg h1]
    by_cases h2 : n < 65536
    · have := little_eq' (b ++ [253]) n 2 (by omega) (by simp; omega)
      rw [show ((2 : Nat) : Int) = 2 from rfl] at this
      rw [if_pos h2, if_pos h2, if_neg (by decide), if_pos (by rfl), if_pos (by omega), this, Option.bind_some, List.append_assoc]; rfl
    · rw [if_neg h2, if_neg h2]
      by_cases h3 : n < 4294967296
      · have := little_eq' (b ++ [254]) n 4 (by omega) (by simp; omega)
        rw [show ((4 : Nat) : Int) = 4 from rfl] at this
        rw [if_pos h3, if_pos h3, if_neg (by decide), if_neg (by decide), if_pos (by rfl), if_pos (by omega), this, Option.bind_some, List.append_assoc]; rfl
      · have := little_eq' (b ++ [255]) n 8 (by omega) (by simp; omega)
        rw [show ((8 : Nat) : Int) = 8 from rfl] at this
        rw [if_neg h3, if_neg h3, if_neg (by decide), if_neg (by decide), if_neg (by decide), if_pos (by omega), this, Option.bind_some, List.append_assoc]; rfl
theorem eight1_eq (b : List Int) (a : Nat) (hl : b.length ≤ 1000000) : sargassoref1_Eight.f b (a : Int) = some (b ++ lb a 8) := by
  have := little_eq' b a 8 (by omega) (by omega)
  simp only [sargassoref1_Eight.f]
  rw [show ((8 : Nat) : Int) = 8 from rfl] at this
  rw [this, Option.bind_some]
end Go.Proofs.YtlpggofilkfbnaaDoor.T
