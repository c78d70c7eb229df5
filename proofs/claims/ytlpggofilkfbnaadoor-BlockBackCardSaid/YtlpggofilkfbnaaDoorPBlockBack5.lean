/- Proved: the statement BlockBack, as given (its conditions are those of the given row, and card where there is one; no others): the call ends, with true, and the input reads as it did. This file is one of its parts. -/
import Derived.Test.YtlpggofilkfbnaaDoorPBlockBack4
namespace Go.Proofs.YtlpggofilkfbnaaDoor.T
open Go Go.Proofs Go.Proofs.YtlpggofilkfbnaaDoor.K
set_option linter.unusedVariables false
set_option linter.unusedSimpArgs false
set_option maxRecDepth 20000 in
theorem block_First.c (μ : Store) (w0 : World) (hμ : Agr μ w0) (x0 : Int) (hx0 : InR .i64 x0) (x1 : Int) (hx1 : InR .u64 x1) (x2 : List Int) (hx2 : Arr .u8 32 x2) (x3 : List Int) (u3 : Value) (hx3 : Slc (RI .u8) 1 μ u3 x3) (r : Tx) (H : block_First.f x0 x1 x2 x3 = some r) :
    Calls Tryd.prog 9 [.int .i64 x0, .int .u64 x1, .agg [av .u8 32 x2].flatten.toArray, u3].toArray w0 (fun e w' => ∃ v, e = .returned v ∧ ∃ (v0_0 : Value) (v0_1 : Value) (μ' : Store), v = .agg [[.int .u32 r.Version], [v0_0], [v0_1], [.int .u32 r.Time]].flatten.toArray ∧ TxW μ' r v0_0 v0_1 ∧ Iv w0 [] μ μ' [] w') := by
  refine enter Tryd.func9 rfl Tryd.ntmps9 rfl fun a hA => ?_
  have hI := Iv.start hμ
  have H := bI H
  refine w_seq fun _ hN1 => ?_
  refine w_reg ?_
  refine o_box [av .u8 32 x2] hI hA rfl rfl rfl fun g1 a w hA hI hg1 => 
    o_new [[.int .u32 0], [(.slice none 0 0)], [(.slice none 0 0)], [.int .u32 0]] zr32 hI hA rfl fun g2 a w hA hI hg2 => ?_
  refine o_nil ?_
  refine hN1 _ _ ?_
  refine w_seq fun _ hN2 => ?_
  refine w_reg ?_
  refine stp hA (r_mv hA rfl) rfl fun a hA => 
    stp hA (r_conv Tryd.underlying3 Tryd.underlying28 hA rfl) rfl fun a hA => ?_
  obtain ⟨r1, hr1, H⟩ := bB H
  refine o_call _ cf33 hA rfl (compact_Four.c μ _ hI.agr ([]) (.slice none 0 0) (slc_nil _ _ _) (IntKind.u32.wrap x0) (wrap_in _ _) r1 hr1) rfl fun v1 a w hz1 hA => ?_
  obtain ⟨_, cs1, rfl, hE1, hi1⟩ := hz1
  have hI := hI.call hi1
  refine stp hA (r_mv hA rfl) rfl fun a hA => ?_
  obtain ⟨μ1, hle1, hsv1, hI⟩ := hI.freezeRow 0 rfl
  have hS1 : Slc (RI .u8) 1 μ1 v1 r1 := ⟨_, hE1, hsv1⟩
  have hE2 : Els (RS (RI .u8) 1 μ1) 1 ([r1, x3] : List (List Int)) ([[v1]].flatten ++ ([[u3]].flatten ++ ([]))) := (Els.cons (c := [[v1]].flatten) ⟨_, rfl, hS1⟩ rfl (Els.cons (c := [[u3]].flatten) ⟨_, rfl, (Slc.le hx3 (fun _ _ h => h) hle1)⟩ rfl Els.nil))
  refine o_bsl ([[v1]].flatten ++ ([[u3]].flatten ++ ([]))) te25 zr25 Tryd.underlying101 hI hA rfl rfl rfl rfl ((fill_one (cells1 hS1) rfl (by kernel_rfl)).trans ((fill_one (cells1 (Slc.le hx3 (fun _ _ h => h) hle1)) rfl (by kernel_rfl)).trans (by kernel_rfl))) rfl fun g3 a w hA hI => ?_
  generalize hcs : ([[v1]].flatten ++ ([[u3]].flatten ++ ([])) : List Value) = cs2 at hE2 hI
  clear hcs
  obtain ⟨r2, hr2, H⟩ := bB H
  refine o_call (fun v w' => ∃ (v0 : Value) (c0 : List Value), v = v0 ∧ Els (RI .u8) 1 r2 c0 ∧ Iv w [] μ1 μ1 [row 5 1 v0 r2.length c0] w') cf32 hA rfl ((by obtain ⟨μ2, hle2, hsv2, hI⟩ := hI.freezeRow 0 rfl; have hS2 : Slc (RS (RI .u8) 1 μ2) 1 μ2 (.slice (some ⟨g3, 0, none⟩) 2 2) ([r1, x3] : List (List Int)) := ⟨_, (Els.mono hE2 (fun _ _ h => RS.le (fun _ _ h => h) hle2 h)), hsv2⟩; exact (slices_Concat_byte_byte.c μ2 _ hI.agr ([r1, x3] : List (List Int)) (.slice (some ⟨g3, 0, none⟩) 2 2) hS2 r2 hr2).mono fun _ _ ⟨v, he, b0, b1, hv, f0, hi⟩ => ⟨v, he, b0, b1, hv, f0, hi.low hle2⟩)) rfl fun v2 a w hz2 hA => ?_
  obtain ⟨_, cs3, rfl, hE3, hi2⟩ := hz2
  have hI := hI.call hi2
  refine stp hA (r_as hA rfl) rfl fun a hA => ?_
  refine o_nil ?_
  refine hN2 _ _ ?_
  obtain ⟨⟨c1, c2, c3, c4⟩, hz3, Hk1⟩ := bB H
  refine w_cut (fun a w => ∃ (μ3 : Store) (vvc1 : Value) (vvc3 : Value) (ccc3 : List Value) (vvc4 : Value) (ccc4 : List Value), μ1.le μ3 ∧ Slc (RI .u8) 1 μ3 vvc1 c1 ∧ InR .u32 c2 ∧ Els (RIn μ3) 35 c3 ccc3 ∧ Els (ROut μ3) 33 c4 ccc4 ∧ Fr a 25 [(0, .int .i64 x0), (1, .int .u64 x1), (2, .agg [av .u8 32 x2].flatten.toArray), (3, u3), (6, .pointer (some ⟨g1, 0, none⟩)), (8, .pointer (some ⟨g2, 0, none⟩)), (9, vvc1)] ∧ Iv w0 [] μ μ3 [row 46 35 vvc3 c3.length ccc3, row 48 33 vvc4 c4.length ccc4, row 25 1 (.slice (some ⟨g3, 0, none⟩) 2 2) ([r1, x3] : List (List Int)).length cs2, cel g2 [[.int .u32 c2], [vvc3], [vvc4], [.int .u32 0]] 32, cel g1 [av .u8 32 x2] 24] w) ?_ ?_
  · have H := bI hz3
    refine w_anyS [] mo (fun w (h : Iv w0 [] μ μ1 [row 5 1 v2 r2.length cs3, row 25 1 (.slice (some ⟨g3, 0, none⟩) 2 2) ([r1, x3] : List (List Int)).length cs2, cel g2 [[.int .u32 0], [(.slice none 0 0)], [(.slice none 0 0)], [.int .u32 0]] 32, cel g1 [av .u8 32 x2] 24] w) => (h.sel [0, 1, 3] (by decide) rfl : Iv w0 [] μ μ1 [row 5 1 v2 r2.length cs3, row 25 1 (.slice (some ⟨g3, 0, none⟩) 2 2) ([r1, x3] : List (List Int)).length cs2, cel g1 [av .u8 32 x2] 24] w)) hI fun w hI => ?_
    refine g_easy (i := 1) hA rfl rfl (by kernel_rfl) (.inr (hI.sel [0, 1, 3] (by decide) rfl)) (fun _ => r_mv hA rfl) rfl fun a hA => ?_
    refine g_easy (i := 4) hA rfl rfl (by kernel_rfl) (.inr (hI.sel [0, 1, 3] (by decide) rfl)) (fun _ => r_mv hA rfl) rfl fun a hA => ?_
    refine g_take (i := 5) hA rfl rfl (by kernel_rfl) (hI.sel [0, 1, 3] (by decide) rfl) (fun w hI => r_ldA (j := 2) [] [av .u8 32 x2] [] Tryd.underlying24 rfl sz24 rfl hI rfl hA rfl rfl) rfl fun a hA => ?_
    refine g_fork (i := 0) (is := [6]) (by kernel_rfl) (List.forall_mem_cons.2 ⟨⟨_, rfl, ?_⟩, (List.forall_mem_cons.2 ⟨⟨_, rfl, ?_⟩, List.forall_mem_nil _⟩)⟩)
    · skip
      obtain ⟨r3, hr3, H⟩ := bB H
      refine o_callp (u := .agg [av .u8 32 r3.Tx, [.int .u32 r3.N]].flatten.toArray) cf34 hA rfl hI (spend_Null.c μ1 _ hI.agr  r3 hr3) rfl fun a w hz4 hI hA => ?_
      refine o_nil ?_
      refine ⟨(.inr (hI.sel [0, 1, 3] (by decide) rfl)), ?_⟩
      refine g_fork (i := 2) (is := [6]) (by kernel_rfl) (List.forall_mem_cons.2 ⟨⟨_, rfl, ?_⟩, (List.forall_mem_cons.2 ⟨⟨_, rfl, ?_⟩, List.forall_mem_nil _⟩)⟩)
      · skip
        refine stp hA (r_bldS (cs := [av .u8 32 r3.Tx, [.int .u32 r3.N], [v2], [.int .u32 4294967295]].flatten.toArray) (pl := [(0, 33), (33, 1), (34, 1)]) zr46 Tryd.underlying46 ⟨rfl, sz44, rfl, sz25, rfl, sz28, trivial⟩ hA rfl ((fill_seg [] [av .u8 32 (List.replicate 32 0), [.int .u32 0]] [av .u8 32 r3.Tx, [.int .u32 r3.N]] [[(.slice none 0 0)], [.int .u32 0]] rfl rfl rfl rfl rfl).trans ((fill_seg [av .u8 32 r3.Tx, [.int .u32 r3.N]] [[(.slice none 0 0)]] [[v2]] [[.int .u32 0]] (own_cell hI (j := 0) rfl) rfl rfl rfl rfl).trans ((fill_seg [av .u8 32 r3.Tx, [.int .u32 r3.N], [v2]] [[.int .u32 0]] [[.int .u32 4294967295]] [] rfl rfl rfl rfl rfl).trans (rfl))))) rfl fun a hA => ?_
        refine o_nil ?_
        refine ⟨(.inr (hI.sel [0, 1, 3] (by decide) rfl)), ?_⟩
        refine g_fork (i := 3) (is := [6]) (by kernel_rfl) (List.forall_mem_cons.2 ⟨⟨_, rfl, ?_⟩, (List.forall_mem_cons.2 ⟨⟨_, rfl, ?_⟩, List.forall_mem_nil _⟩)⟩)
        · skip
          obtain ⟨μ4, hle4, hsv3, hI, hth1⟩ := hI.freezeRowT 0 rfl
          have hS3 : Slc (RI .u8) 1 μ4 v2 r2 := ⟨_, hE3, hsv3⟩
          have hE4 : Els (RIn μ4) 35 ([(⟨r3, r2, 4294967295⟩ : In)] : List In) ([av .u8 32 r3.Tx, [.int .u32 r3.N], [v2], [.int .u32 4294967295]].flatten ++ ([])) := (Els.cons (c := [av .u8 32 r3.Tx, [.int .u32 r3.N], [v2], [.int .u32 4294967295]].flatten) ⟨v2, rfl, ⟨hz4.1, hz4.2, hS3, (in_lit .u32 4294967295 rfl)⟩⟩ rfl Els.nil)
          refine o_bsl ([av .u8 32 r3.Tx, [.int .u32 r3.N], [v2], [.int .u32 4294967295]].flatten ++ ([])) te46 zr46 Tryd.underlying29 hI hA rfl rfl rfl rfl (by kernel_rfl) rfl fun g4 a w hA hI => ?_
          generalize hcs : ([av .u8 32 r3.Tx, [.int .u32 r3.N], [v2], [.int .u32 4294967295]].flatten ++ ([]) : List Value) = cs4 at hE4 hI
          clear hcs
          refine o_nil ?_
          refine ⟨(.inr ((hth1 _ _ hI).sel [0, 2, 4] (by decide) rfl)), ?_⟩
          refine g_forced (i := 6) rfl (by kernel_rfl) ?_
          refine stp hA (r_bldS (cs := [[.int .u64 x1], av .u8 32 x2].flatten.toArray) (pl := [(0, 1), (1, 32)]) zr48 Tryd.underlying48 ⟨rfl, sz22, rfl, sz24, trivial⟩ hA rfl (by kernel_rfl)) rfl fun a hA => ?_
          refine o_nil ?_
          refine ⟨(.inr ((hth1 _ _ hI).sel [0, 2, 4] (by decide) rfl)), ?_⟩
          refine g_forced (i := 7) rfl (by kernel_rfl) ?_
          have hE5 : Els (ROut μ4) 33 ([(⟨x1, x2⟩ : Out)] : List Out) ([[.int .u64 x1], av .u8 32 x2].flatten ++ ([])) := (Els.cons (c := [[.int .u64 x1], av .u8 32 x2].flatten) ⟨rfl, ⟨hx1, hx2⟩⟩ rfl Els.nil)
          refine o_bsl ([[.int .u64 x1], av .u8 32 x2].flatten ++ ([])) te48 zr48 Tryd.underlying30 hI hA rfl rfl rfl rfl (by kernel_rfl) rfl fun g5 a w hA hI => ?_
          generalize hcs : ([[.int .u64 x1], av .u8 32 x2].flatten ++ ([]) : List Value) = cs5 at hE5 hI
          clear hcs
          refine o_nil ?_
          refine ⟨(.inr ((hth1 _ _ hI).sel [0, 3, 5] (by decide) rfl)), ?_⟩
          refine g_forced (i := 8) rfl (by kernel_rfl) ?_
          refine stp hA (r_bldS (cs := [[.int .u32 1], [(.slice (some ⟨g4, 0, none⟩) 1 1)], [(.slice (some ⟨g5, 0, none⟩) 1 1)], [.int .u32 0]].flatten.toArray) (pl := [(0, 1), (1, 1), (2, 1), (3, 1)]) zr32 Tryd.underlying32 ⟨rfl, sz28, rfl, sz29, rfl, sz30, rfl, sz28, trivial⟩ hA rfl ((fill_one rfl rfl (by kernel_rfl)).trans ((fill_one (own_cell hI (j := 1) rfl) rfl (by kernel_rfl)).trans ((fill_one (own_cell hI (j := 0) rfl) rfl (by kernel_rfl)).trans (by kernel_rfl))))) rfl fun a hA => ?_
          refine o_nil ?_
          refine ⟨(.inr ((hth1 _ _ hI).sel [0, 3, 5] (by decide) rfl)), ?_⟩
          refine g_forced (i := 9) rfl (by kernel_rfl) ?_
          refine o_st (j := 3) [] [[.int .u32 0], [(.slice none 0 0)], [(.slice none 0 0)], [.int .u32 0]] [[.int .u32 1], [(.slice (some ⟨g4, 0, none⟩) 1 1)], [(.slice (some ⟨g5, 0, none⟩) 1 1)], [.int .u32 0]] [] sz32 rfl rfl (fl_cons (one_one rfl) (fl_cons (one_one (own_one hI (j := 1) rfl)) (fl_cons (one_one (own_one hI (j := 0) rfl)) (fl_cons (one_one rfl) fl_nil)))) hI rfl hA rfl rfl rfl rfl fun w hI => ?_
          refine o_nil ?_
          refine ⟨(.inr ((hth1 _ _ hI).sel [0, 3, 5] (by decide) rfl)), ?_⟩
          refine g_nil (by kernel_rfl) ?_
          cases Option.some.inj (bS H)
          exact ⟨μ4, v2, (.slice (some ⟨g4, 0, none⟩) 1 1), cs4, (.slice (some ⟨g5, 0, none⟩) 1 1), cs5, hle4, hS3, (in_lit .u32 1 rfl), hE4, hE5, hA.sub ⟨rfl, rfl, rfl, rfl, rfl, rfl, rfl, trivial⟩, (hI.sel [1, 0, 2, 3, 4] (by decide) rfl)⟩
        · skip
          refine stp hA (r_bldS (cs := [[.int .u64 x1], av .u8 32 x2].flatten.toArray) (pl := [(0, 1), (1, 32)]) zr48 Tryd.underlying48 ⟨rfl, sz22, rfl, sz24, trivial⟩ hA rfl (by kernel_rfl)) rfl fun a hA => ?_
          refine o_nil ?_
          refine ⟨(.inr (hI.sel [0, 1, 3] (by decide) rfl)), ?_⟩
          refine g_fork (i := 3) (is := [7]) (by kernel_rfl) (List.forall_mem_cons.2 ⟨⟨_, rfl, ?_⟩, (List.forall_mem_cons.2 ⟨⟨_, rfl, ?_⟩, List.forall_mem_nil _⟩)⟩)
          · skip
            obtain ⟨μ4, hle4, hsv3, hI, hth1⟩ := hI.freezeRowT 0 rfl
            have hS3 : Slc (RI .u8) 1 μ4 v2 r2 := ⟨_, hE3, hsv3⟩
            have hE4 : Els (RIn μ4) 35 ([(⟨r3, r2, 4294967295⟩ : In)] : List In) ([av .u8 32 r3.Tx, [.int .u32 r3.N], [v2], [.int .u32 4294967295]].flatten ++ ([])) := (Els.cons (c := [av .u8 32 r3.Tx, [.int .u32 r3.N], [v2], [.int .u32 4294967295]].flatten) ⟨v2, rfl, ⟨hz4.1, hz4.2, hS3, (in_lit .u32 4294967295 rfl)⟩⟩ rfl Els.nil)
            refine o_bsl ([av .u8 32 r3.Tx, [.int .u32 r3.N], [v2], [.int .u32 4294967295]].flatten ++ ([])) te46 zr46 Tryd.underlying29 hI hA rfl rfl rfl rfl (by kernel_rfl) rfl fun g4 a w hA hI => ?_
            generalize hcs : ([av .u8 32 r3.Tx, [.int .u32 r3.N], [v2], [.int .u32 4294967295]].flatten ++ ([]) : List Value) = cs4 at hE4 hI
            clear hcs
            refine o_nil ?_
            refine ⟨(.inr ((hth1 _ _ hI).sel [0, 2, 4] (by decide) rfl)), ?_⟩
            refine g_forced (i := 7) rfl (by kernel_rfl) ?_
            have hE5 : Els (ROut μ4) 33 ([(⟨x1, x2⟩ : Out)] : List Out) ([[.int .u64 x1], av .u8 32 x2].flatten ++ ([])) := (Els.cons (c := [[.int .u64 x1], av .u8 32 x2].flatten) ⟨rfl, ⟨hx1, hx2⟩⟩ rfl Els.nil)
            refine o_bsl ([[.int .u64 x1], av .u8 32 x2].flatten ++ ([])) te48 zr48 Tryd.underlying30 hI hA rfl rfl rfl rfl (by kernel_rfl) rfl fun g5 a w hA hI => ?_
            generalize hcs : ([[.int .u64 x1], av .u8 32 x2].flatten ++ ([]) : List Value) = cs5 at hE5 hI
            clear hcs
            refine o_nil ?_
            refine ⟨(.inr ((hth1 _ _ hI).sel [0, 3, 5] (by decide) rfl)), ?_⟩
            refine g_forced (i := 8) rfl (by kernel_rfl) ?_
            refine stp hA (r_bldS (cs := [[.int .u32 1], [(.slice (some ⟨g4, 0, none⟩) 1 1)], [(.slice (some ⟨g5, 0, none⟩) 1 1)], [.int .u32 0]].flatten.toArray) (pl := [(0, 1), (1, 1), (2, 1), (3, 1)]) zr32 Tryd.underlying32 ⟨rfl, sz28, rfl, sz29, rfl, sz30, rfl, sz28, trivial⟩ hA rfl ((fill_one rfl rfl (by kernel_rfl)).trans ((fill_one (own_cell hI (j := 1) rfl) rfl (by kernel_rfl)).trans ((fill_one (own_cell hI (j := 0) rfl) rfl (by kernel_rfl)).trans (by kernel_rfl))))) rfl fun a hA => ?_
            refine o_nil ?_
            refine ⟨(.inr ((hth1 _ _ hI).sel [0, 3, 5] (by decide) rfl)), ?_⟩
            refine g_forced (i := 9) rfl (by kernel_rfl) ?_
            refine o_st (j := 3) [] [[.int .u32 0], [(.slice none 0 0)], [(.slice none 0 0)], [.int .u32 0]] [[.int .u32 1], [(.slice (some ⟨g4, 0, none⟩) 1 1)], [(.slice (some ⟨g5, 0, none⟩) 1 1)], [.int .u32 0]] [] sz32 rfl rfl (fl_cons (one_one rfl) (fl_cons (one_one (own_one hI (j := 1) rfl)) (fl_cons (one_one (own_one hI (j := 0) rfl)) (fl_cons (one_one rfl) fl_nil)))) hI rfl hA rfl rfl rfl rfl fun w hI => ?_
            refine o_nil ?_
            refine ⟨(.inr ((hth1 _ _ hI).sel [0, 3, 5] (by decide) rfl)), ?_⟩
            refine g_nil (by kernel_rfl) ?_
            cases Option.some.inj (bS H)
            exact ⟨μ4, v2, (.slice (some ⟨g4, 0, none⟩) 1 1), cs4, (.slice (some ⟨g5, 0, none⟩) 1 1), cs5, hle4, hS3, (in_lit .u32 1 rfl), hE4, hE5, hA.sub ⟨rfl, rfl, rfl, rfl, rfl, rfl, rfl, trivial⟩, (hI.sel [1, 0, 2, 3, 4] (by decide) rfl)⟩
          · skip
            have hE4 : Els (ROut μ1) 33 ([(⟨x1, x2⟩ : Out)] : List Out) ([[.int .u64 x1], av .u8 32 x2].flatten ++ ([])) := (Els.cons (c := [[.int .u64 x1], av .u8 32 x2].flatten) ⟨rfl, ⟨hx1, hx2⟩⟩ rfl Els.nil)
            refine o_bsl ([[.int .u64 x1], av .u8 32 x2].flatten ++ ([])) te48 zr48 Tryd.underlying30 hI hA rfl rfl rfl rfl (by kernel_rfl) rfl fun g4 a w hA hI => ?_
            generalize hcs : ([[.int .u64 x1], av .u8 32 x2].flatten ++ ([]) : List Value) = cs4 at hE4 hI
            clear hcs
            refine o_nil ?_
            refine ⟨(.inr (hI.sel [1, 2, 4] (by decide) rfl)), ?_⟩
            refine g_forced (i := 3) rfl (by kernel_rfl) ?_
            obtain ⟨μ4, hle4, hsv3, hI, hth1⟩ := hI.freezeRowT 1 rfl
            have hS3 : Slc (RI .u8) 1 μ4 v2 r2 := ⟨_, hE3, hsv3⟩
            have hE5 : Els (RIn μ4) 35 ([(⟨r3, r2, 4294967295⟩ : In)] : List In) ([av .u8 32 r3.Tx, [.int .u32 r3.N], [v2], [.int .u32 4294967295]].flatten ++ ([])) := (Els.cons (c := [av .u8 32 r3.Tx, [.int .u32 r3.N], [v2], [.int .u32 4294967295]].flatten) ⟨v2, rfl, ⟨hz4.1, hz4.2, hS3, (in_lit .u32 4294967295 rfl)⟩⟩ rfl Els.nil)
            refine o_bsl ([av .u8 32 r3.Tx, [.int .u32 r3.N], [v2], [.int .u32 4294967295]].flatten ++ ([])) te46 zr46 Tryd.underlying29 hI hA rfl rfl rfl rfl (by kernel_rfl) rfl fun g5 a w hA hI => ?_
            generalize hcs : ([av .u8 32 r3.Tx, [.int .u32 r3.N], [v2], [.int .u32 4294967295]].flatten ++ ([]) : List Value) = cs5 at hE5 hI
            clear hcs
            refine o_nil ?_
            refine ⟨(.inr ((hth1 _ _ hI).sel [0, 3, 5] (by decide) rfl)), ?_⟩
            refine g_forced (i := 8) rfl (by kernel_rfl) ?_
            refine stp hA (r_bldS (cs := [[.int .u32 1], [(.slice (some ⟨g5, 0, none⟩) 1 1)], [(.slice (some ⟨g4, 0, none⟩) 1 1)], [.int .u32 0]].flatten.toArray) (pl := [(0, 1), (1, 1), (2, 1), (3, 1)]) zr32 Tryd.underlying32 ⟨rfl, sz28, rfl, sz29, rfl, sz30, rfl, sz28, trivial⟩ hA rfl ((fill_one rfl rfl (by kernel_rfl)).trans ((fill_one (own_cell hI (j := 0) rfl) rfl (by kernel_rfl)).trans ((fill_one (own_cell hI (j := 1) rfl) rfl (by kernel_rfl)).trans (by kernel_rfl))))) rfl fun a hA => ?_
            refine o_nil ?_
            refine ⟨(.inr ((hth1 _ _ hI).sel [0, 3, 5] (by decide) rfl)), ?_⟩
            refine g_forced (i := 9) rfl (by kernel_rfl) ?_
            refine o_st (j := 3) [] [[.int .u32 0], [(.slice none 0 0)], [(.slice none 0 0)], [.int .u32 0]] [[.int .u32 1], [(.slice (some ⟨g5, 0, none⟩) 1 1)], [(.slice (some ⟨g4, 0, none⟩) 1 1)], [.int .u32 0]] [] sz32 rfl rfl (fl_cons (one_one rfl) (fl_cons (one_one (own_one hI (j := 0) rfl)) (fl_cons (one_one (own_one hI (j := 1) rfl)) (fl_cons (one_one rfl) fl_nil)))) hI rfl hA rfl rfl rfl rfl fun w hI => ?_
            refine o_nil ?_
            refine ⟨(.inr ((hth1 _ _ hI).sel [0, 3, 5] (by decide) rfl)), ?_⟩
            refine g_nil (by kernel_rfl) ?_
            cases Option.some.inj (bS H)
            exact ⟨μ4, v2, (.slice (some ⟨g5, 0, none⟩) 1 1), cs5, (.slice (some ⟨g4, 0, none⟩) 1 1), cs4, hle4, hS3, (in_lit .u32 1 rfl), hE5, (Els.mono hE4 (fun _ _ h => ROut.le hle4 h)), hA.sub ⟨rfl, rfl, rfl, rfl, rfl, rfl, rfl, trivial⟩, hI⟩
      · skip
        refine stp hA (r_bldS (cs := [[.int .u64 x1], av .u8 32 x2].flatten.toArray) (pl := [(0, 1), (1, 32)]) zr48 Tryd.underlying48 ⟨rfl, sz22, rfl, sz24, trivial⟩ hA rfl (by kernel_rfl)) rfl fun a hA => ?_
        refine o_nil ?_
        refine ⟨(.inr (hI.sel [0, 1, 3] (by decide) rfl)), ?_⟩
        refine g_fork (i := 2) (is := [7]) (by kernel_rfl) (List.forall_mem_cons.2 ⟨⟨_, rfl, ?_⟩, (List.forall_mem_cons.2 ⟨⟨_, rfl, ?_⟩, List.forall_mem_nil _⟩)⟩)
        · skip
          refine stp hA (r_bldS (cs := [av .u8 32 r3.Tx, [.int .u32 r3.N], [v2], [.int .u32 4294967295]].flatten.toArray) (pl := [(0, 33), (33, 1), (34, 1)]) zr46 Tryd.underlying46 ⟨rfl, sz44, rfl, sz25, rfl, sz28, trivial⟩ hA rfl ((fill_seg [] [av .u8 32 (List.replicate 32 0), [.int .u32 0]] [av .u8 32 r3.Tx, [.int .u32 r3.N]] [[(.slice none 0 0)], [.int .u32 0]] rfl rfl rfl rfl rfl).trans ((fill_seg [av .u8 32 r3.Tx, [.int .u32 r3.N]] [[(.slice none 0 0)]] [[v2]] [[.int .u32 0]] (own_cell hI (j := 0) rfl) rfl rfl rfl rfl).trans ((fill_seg [av .u8 32 r3.Tx, [.int .u32 r3.N], [v2]] [[.int .u32 0]] [[.int .u32 4294967295]] [] rfl rfl rfl rfl rfl).trans (rfl))))) rfl fun a hA => ?_
          refine o_nil ?_
          refine ⟨(.inr (hI.sel [0, 1, 3] (by decide) rfl)), ?_⟩
          refine g_fork (i := 3) (is := [7]) (by kernel_rfl) (List.forall_mem_cons.2 ⟨⟨_, rfl, ?_⟩, (List.forall_mem_cons.2 ⟨⟨_, rfl, ?_⟩, List.forall_mem_nil _⟩)⟩)
          · skip
            obtain ⟨μ4, hle4, hsv3, hI, hth1⟩ := hI.freezeRowT 0 rfl
            have hS3 : Slc (RI .u8) 1 μ4 v2 r2 := ⟨_, hE3, hsv3⟩
            have hE4 : Els (RIn μ4) 35 ([(⟨r3, r2, 4294967295⟩ : In)] : List In) ([av .u8 32 r3.Tx, [.int .u32 r3.N], [v2], [.int .u32 4294967295]].flatten ++ ([])) := (Els.cons (c := [av .u8 32 r3.Tx, [.int .u32 r3.N], [v2], [.int .u32 4294967295]].flatten) ⟨v2, rfl, ⟨hz4.1, hz4.2, hS3, (in_lit .u32 4294967295 rfl)⟩⟩ rfl Els.nil)
            refine o_bsl ([av .u8 32 r3.Tx, [.int .u32 r3.N], [v2], [.int .u32 4294967295]].flatten ++ ([])) te46 zr46 Tryd.underlying29 hI hA rfl rfl rfl rfl (by kernel_rfl) rfl fun g4 a w hA hI => ?_
            generalize hcs : ([av .u8 32 r3.Tx, [.int .u32 r3.N], [v2], [.int .u32 4294967295]].flatten ++ ([]) : List Value) = cs4 at hE4 hI
            clear hcs
            refine o_nil ?_
            refine ⟨(.inr ((hth1 _ _ hI).sel [0, 2, 4] (by decide) rfl)), ?_⟩
            refine g_forced (i := 7) rfl (by kernel_rfl) ?_
            have hE5 : Els (ROut μ4) 33 ([(⟨x1, x2⟩ : Out)] : List Out) ([[.int .u64 x1], av .u8 32 x2].flatten ++ ([])) := (Els.cons (c := [[.int .u64 x1], av .u8 32 x2].flatten) ⟨rfl, ⟨hx1, hx2⟩⟩ rfl Els.nil)
            refine o_bsl ([[.int .u64 x1], av .u8 32 x2].flatten ++ ([])) te48 zr48 Tryd.underlying30 hI hA rfl rfl rfl rfl (by kernel_rfl) rfl fun g5 a w hA hI => ?_
            generalize hcs : ([[.int .u64 x1], av .u8 32 x2].flatten ++ ([]) : List Value) = cs5 at hE5 hI
            clear hcs
            refine o_nil ?_
            refine ⟨(.inr ((hth1 _ _ hI).sel [0, 3, 5] (by decide) rfl)), ?_⟩
            refine g_forced (i := 8) rfl (by kernel_rfl) ?_
            refine stp hA (r_bldS (cs := [[.int .u32 1], [(.slice (some ⟨g4, 0, none⟩) 1 1)], [(.slice (some ⟨g5, 0, none⟩) 1 1)], [.int .u32 0]].flatten.toArray) (pl := [(0, 1), (1, 1), (2, 1), (3, 1)]) zr32 Tryd.underlying32 ⟨rfl, sz28, rfl, sz29, rfl, sz30, rfl, sz28, trivial⟩ hA rfl ((fill_one rfl rfl (by kernel_rfl)).trans ((fill_one (own_cell hI (j := 1) rfl) rfl (by kernel_rfl)).trans ((fill_one (own_cell hI (j := 0) rfl) rfl (by kernel_rfl)).trans (by kernel_rfl))))) rfl fun a hA => ?_
            refine o_nil ?_
            refine ⟨(.inr ((hth1 _ _ hI).sel [0, 3, 5] (by decide) rfl)), ?_⟩
            refine g_forced (i := 9) rfl (by kernel_rfl) ?_
            refine o_st (j := 3) [] [[.int .u32 0], [(.slice none 0 0)], [(.slice none 0 0)], [.int .u32 0]] [[.int .u32 1], [(.slice (some ⟨g4, 0, none⟩) 1 1)], [(.slice (some ⟨g5, 0, none⟩) 1 1)], [.int .u32 0]] [] sz32 rfl rfl (fl_cons (one_one rfl) (fl_cons (one_one (own_one hI (j := 1) rfl)) (fl_cons (one_one (own_one hI (j := 0) rfl)) (fl_cons (one_one rfl) fl_nil)))) hI rfl hA rfl rfl rfl rfl fun w hI => ?_
            refine o_nil ?_
            refine ⟨(.inr ((hth1 _ _ hI).sel [0, 3, 5] (by decide) rfl)), ?_⟩
            refine g_nil (by kernel_rfl) ?_
            cases Option.some.inj (bS H)
            exact ⟨μ4, v2, (.slice (some ⟨g4, 0, none⟩) 1 1), cs4, (.slice (some ⟨g5, 0, none⟩) 1 1), cs5, hle4, hS3, (in_lit .u32 1 rfl), hE4, hE5, hA.sub ⟨rfl, rfl, rfl, rfl, rfl, rfl, rfl, trivial⟩, (hI.sel [1, 0, 2, 3, 4] (by decide) rfl)⟩
          · skip
            have hE4 : Els (ROut μ1) 33 ([(⟨x1, x2⟩ : Out)] : List Out) ([[.int .u64 x1], av .u8 32 x2].flatten ++ ([])) := (Els.cons (c := [[.int .u64 x1], av .u8 32 x2].flatten) ⟨rfl, ⟨hx1, hx2⟩⟩ rfl Els.nil)
            refine o_bsl ([[.int .u64 x1], av .u8 32 x2].flatten ++ ([])) te48 zr48 Tryd.underlying30 hI hA rfl rfl rfl rfl (by kernel_rfl) rfl fun g4 a w hA hI => ?_
            generalize hcs : ([[.int .u64 x1], av .u8 32 x2].flatten ++ ([]) : List Value) = cs4 at hE4 hI
            clear hcs
            refine o_nil ?_
            refine ⟨(.inr (hI.sel [1, 2, 4] (by decide) rfl)), ?_⟩
            refine g_forced (i := 3) rfl (by kernel_rfl) ?_
            obtain ⟨μ4, hle4, hsv3, hI, hth1⟩ := hI.freezeRowT 1 rfl
            have hS3 : Slc (RI .u8) 1 μ4 v2 r2 := ⟨_, hE3, hsv3⟩
            have hE5 : Els (RIn μ4) 35 ([(⟨r3, r2, 4294967295⟩ : In)] : List In) ([av .u8 32 r3.Tx, [.int .u32 r3.N], [v2], [.int .u32 4294967295]].flatten ++ ([])) := (Els.cons (c := [av .u8 32 r3.Tx, [.int .u32 r3.N], [v2], [.int .u32 4294967295]].flatten) ⟨v2, rfl, ⟨hz4.1, hz4.2, hS3, (in_lit .u32 4294967295 rfl)⟩⟩ rfl Els.nil)
            refine o_bsl ([av .u8 32 r3.Tx, [.int .u32 r3.N], [v2], [.int .u32 4294967295]].flatten ++ ([])) te46 zr46 Tryd.underlying29 hI hA rfl rfl rfl rfl (by kernel_rfl) rfl fun g5 a w hA hI => ?_
            generalize hcs : ([av .u8 32 r3.Tx, [.int .u32 r3.N], [v2], [.int .u32 4294967295]].flatten ++ ([]) : List Value) = cs5 at hE5 hI
            clear hcs
            refine o_nil ?_
            refine ⟨(.inr ((hth1 _ _ hI).sel [0, 3, 5] (by decide) rfl)), ?_⟩
            refine g_forced (i := 8) rfl (by kernel_rfl) ?_
            refine stp hA (r_bldS (cs := [[.int .u32 1], [(.slice (some ⟨g5, 0, none⟩) 1 1)], [(.slice (some ⟨g4, 0, none⟩) 1 1)], [.int .u32 0]].flatten.toArray) (pl := [(0, 1), (1, 1), (2, 1), (3, 1)]) zr32 Tryd.underlying32 ⟨rfl, sz28, rfl, sz29, rfl, sz30, rfl, sz28, trivial⟩ hA rfl ((fill_one rfl rfl (by kernel_rfl)).trans ((fill_one (own_cell hI (j := 0) rfl) rfl (by kernel_rfl)).trans ((fill_one (own_cell hI (j := 1) rfl) rfl (by kernel_rfl)).trans (by kernel_rfl))))) rfl fun a hA => ?_
            refine o_nil ?_
            refine ⟨(.inr ((hth1 _ _ hI).sel [0, 3, 5] (by decide) rfl)), ?_⟩
            refine g_forced (i := 9) rfl (by kernel_rfl) ?_
            refine o_st (j := 3) [] [[.int .u32 0], [(.slice none 0 0)], [(.slice none 0 0)], [.int .u32 0]] [[.int .u32 1], [(.slice (some ⟨g5, 0, none⟩) 1 1)], [(.slice (some ⟨g4, 0, none⟩) 1 1)], [.int .u32 0]] [] sz32 rfl rfl (fl_cons (one_one rfl) (fl_cons (one_one (own_one hI (j := 0) rfl)) (fl_cons (one_one (own_one hI (j := 1) rfl)) (fl_cons (one_one rfl) fl_nil)))) hI rfl hA rfl rfl rfl rfl fun w hI => ?_
            refine o_nil ?_
            refine ⟨(.inr ((hth1 _ _ hI).sel [0, 3, 5] (by decide) rfl)), ?_⟩
            refine g_nil (by kernel_rfl) ?_
            cases Option.some.inj (bS H)
            exact ⟨μ4, v2, (.slice (some ⟨g5, 0, none⟩) 1 1), cs5, (.slice (some ⟨g4, 0, none⟩) 1 1), cs4, hle4, hS3, (in_lit .u32 1 rfl), hE5, (Els.mono hE4 (fun _ _ h => ROut.le hle4 h)), hA.sub ⟨rfl, rfl, rfl, rfl, rfl, rfl, rfl, trivial⟩, hI⟩
        · skip
          have hE4 : Els (ROut μ1) 33 ([(⟨x1, x2⟩ : Out)] : List Out) ([[.int .u64 x1], av .u8 32 x2].flatten ++ ([])) := (Els.cons (c := [[.int .u64 x1], av .u8 32 x2].flatten) ⟨rfl, ⟨hx1, hx2⟩⟩ rfl Els.nil)
          refine o_bsl ([[.int .u64 x1], av .u8 32 x2].flatten ++ ([])) te48 zr48 Tryd.underlying30 hI hA rfl rfl rfl rfl (by kernel_rfl) rfl fun g4 a w hA hI => ?_
          generalize hcs : ([[.int .u64 x1], av .u8 32 x2].flatten ++ ([]) : List Value) = cs4 at hE4 hI
          clear hcs
          refine o_nil ?_
          refine ⟨(.inr (hI.sel [1, 2, 4] (by decide) rfl)), ?_⟩
          refine g_forced (i := 2) rfl (by kernel_rfl) ?_
          refine stp hA (r_bldS (cs := [av .u8 32 r3.Tx, [.int .u32 r3.N], [v2], [.int .u32 4294967295]].flatten.toArray) (pl := [(0, 33), (33, 1), (34, 1)]) zr46 Tryd.underlying46 ⟨rfl, sz44, rfl, sz25, rfl, sz28, trivial⟩ hA rfl ((fill_seg [] [av .u8 32 (List.replicate 32 0), [.int .u32 0]] [av .u8 32 r3.Tx, [.int .u32 r3.N]] [[(.slice none 0 0)], [.int .u32 0]] rfl rfl rfl rfl rfl).trans ((fill_seg [av .u8 32 r3.Tx, [.int .u32 r3.N]] [[(.slice none 0 0)]] [[v2]] [[.int .u32 0]] (own_cell hI (j := 1) rfl) rfl rfl rfl rfl).trans ((fill_seg [av .u8 32 r3.Tx, [.int .u32 r3.N], [v2]] [[.int .u32 0]] [[.int .u32 4294967295]] [] rfl rfl rfl rfl rfl).trans (rfl))))) rfl fun a hA => ?_
          refine o_nil ?_
          refine ⟨(.inr (hI.sel [1, 2, 4] (by decide) rfl)), ?_⟩
          refine g_forced (i := 3) rfl (by kernel_rfl) ?_
          obtain ⟨μ4, hle4, hsv3, hI, hth1⟩ := hI.freezeRowT 1 rfl
          have hS3 : Slc (RI .u8) 1 μ4 v2 r2 := ⟨_, hE3, hsv3⟩
          have hE5 : Els (RIn μ4) 35 ([(⟨r3, r2, 4294967295⟩ : In)] : List In) ([av .u8 32 r3.Tx, [.int .u32 r3.N], [v2], [.int .u32 4294967295]].flatten ++ ([])) := (Els.cons (c := [av .u8 32 r3.Tx, [.int .u32 r3.N], [v2], [.int .u32 4294967295]].flatten) ⟨v2, rfl, ⟨hz4.1, hz4.2, hS3, (in_lit .u32 4294967295 rfl)⟩⟩ rfl Els.nil)
          refine o_bsl ([av .u8 32 r3.Tx, [.int .u32 r3.N], [v2], [.int .u32 4294967295]].flatten ++ ([])) te46 zr46 Tryd.underlying29 hI hA rfl rfl rfl rfl (by kernel_rfl) rfl fun g5 a w hA hI => ?_
          generalize hcs : ([av .u8 32 r3.Tx, [.int .u32 r3.N], [v2], [.int .u32 4294967295]].flatten ++ ([]) : List Value) = cs5 at hE5 hI
          clear hcs
          refine o_nil ?_
          refine ⟨(.inr ((hth1 _ _ hI).sel [0, 3, 5] (by decide) rfl)), ?_⟩
          refine g_forced (i := 8) rfl (by kernel_rfl) ?_
          refine stp hA (r_bldS (cs := [[.int .u32 1], [(.slice (some ⟨g5, 0, none⟩) 1 1)], [(.slice (some ⟨g4, 0, none⟩) 1 1)], [.int .u32 0]].flatten.toArray) (pl := [(0, 1), (1, 1), (2, 1), (3, 1)]) zr32 Tryd.underlying32 ⟨rfl, sz28, rfl, sz29, rfl, sz30, rfl, sz28, trivial⟩ hA rfl ((fill_one rfl rfl (by kernel_rfl)).trans ((fill_one (own_cell hI (j := 0) rfl) rfl (by kernel_rfl)).trans ((fill_one (own_cell hI (j := 1) rfl) rfl (by kernel_rfl)).trans (by kernel_rfl))))) rfl fun a hA => ?_
          refine o_nil ?_
          refine ⟨(.inr ((hth1 _ _ hI).sel [0, 3, 5] (by decide) rfl)), ?_⟩
          refine g_forced (i := 9) rfl (by kernel_rfl) ?_
          refine o_st (j := 3) [] [[.int .u32 0], [(.slice none 0 0)], [(.slice none 0 0)], [.int .u32 0]] [[.int .u32 1], [(.slice (some ⟨g5, 0, none⟩) 1 1)], [(.slice (some ⟨g4, 0, none⟩) 1 1)], [.int .u32 0]] [] sz32 rfl rfl (fl_cons (one_one rfl) (fl_cons (one_one (own_one hI (j := 0) rfl)) (fl_cons (one_one (own_one hI (j := 1) rfl)) (fl_cons (one_one rfl) fl_nil)))) hI rfl hA rfl rfl rfl rfl fun w hI => ?_
          refine o_nil ?_
          refine ⟨(.inr ((hth1 _ _ hI).sel [0, 3, 5] (by decide) rfl)), ?_⟩
          refine g_nil (by kernel_rfl) ?_
          cases Option.some.inj (bS H)
          exact ⟨μ4, v2, (.slice (some ⟨g5, 0, none⟩) 1 1), cs5, (.slice (some ⟨g4, 0, none⟩) 1 1), cs4, hle4, hS3, (in_lit .u32 1 rfl), hE5, (Els.mono hE4 (fun _ _ h => ROut.le hle4 h)), hA.sub ⟨rfl, rfl, rfl, rfl, rfl, rfl, rfl, trivial⟩, hI⟩
    · skip
      refine stp hA (r_bldS (cs := [[.int .u64 x1], av .u8 32 x2].flatten.toArray) (pl := [(0, 1), (1, 32)]) zr48 Tryd.underlying48 ⟨rfl, sz22, rfl, sz24, trivial⟩ hA rfl (by kernel_rfl)) rfl fun a hA => ?_
      refine o_nil ?_
      refine ⟨(.inr (hI.sel [0, 1, 3] (by decide) rfl)), ?_⟩
      refine g_fork (i := 0) (is := [7]) (by kernel_rfl) (List.forall_mem_cons.2 ⟨⟨_, rfl, ?_⟩, (List.forall_mem_cons.2 ⟨⟨_, rfl, ?_⟩, List.forall_mem_nil _⟩)⟩)
      · skip
        obtain ⟨r3, hr3, H⟩ := bB H
        refine o_callp (u := .agg [av .u8 32 r3.Tx, [.int .u32 r3.N]].flatten.toArray) cf34 hA rfl hI (spend_Null.c μ1 _ hI.agr  r3 hr3) rfl fun a w hz4 hI hA => ?_
        refine o_nil ?_
        refine ⟨(.inr (hI.sel [0, 1, 3] (by decide) rfl)), ?_⟩
        refine g_fork (i := 2) (is := [7]) (by kernel_rfl) (List.forall_mem_cons.2 ⟨⟨_, rfl, ?_⟩, (List.forall_mem_cons.2 ⟨⟨_, rfl, ?_⟩, List.forall_mem_nil _⟩)⟩)
        · skip
          refine stp hA (r_bldS (cs := [av .u8 32 r3.Tx, [.int .u32 r3.N], [v2], [.int .u32 4294967295]].flatten.toArray) (pl := [(0, 33), (33, 1), (34, 1)]) zr46 Tryd.underlying46 ⟨rfl, sz44, rfl, sz25, rfl, sz28, trivial⟩ hA rfl ((fill_seg [] [av .u8 32 (List.replicate 32 0), [.int .u32 0]] [av .u8 32 r3.Tx, [.int .u32 r3.N]] [[(.slice none 0 0)], [.int .u32 0]] rfl rfl rfl rfl rfl).trans ((fill_seg [av .u8 32 r3.Tx, [.int .u32 r3.N]] [[(.slice none 0 0)]] [[v2]] [[.int .u32 0]] (own_cell hI (j := 0) rfl) rfl rfl rfl rfl).trans ((fill_seg [av .u8 32 r3.Tx, [.int .u32 r3.N], [v2]] [[.int .u32 0]] [[.int .u32 4294967295]] [] rfl rfl rfl rfl rfl).trans (rfl))))) rfl fun a hA => ?_
          refine o_nil ?_
          refine ⟨(.inr (hI.sel [0, 1, 3] (by decide) rfl)), ?_⟩
          refine g_fork (i := 3) (is := [7]) (by kernel_rfl) (List.forall_mem_cons.2 ⟨⟨_, rfl, ?_⟩, (List.forall_mem_cons.2 ⟨⟨_, rfl, ?_⟩, List.forall_mem_nil _⟩)⟩)
          · skip
            obtain ⟨μ4, hle4, hsv3, hI, hth1⟩ := hI.freezeRowT 0 rfl
            have hS3 : Slc (RI .u8) 1 μ4 v2 r2 := ⟨_, hE3, hsv3⟩
            have hE4 : Els (RIn μ4) 35 ([(⟨r3, r2, 4294967295⟩ : In)] : List In) ([av .u8 32 r3.Tx, [.int .u32 r3.N], [v2], [.int .u32 4294967295]].flatten ++ ([])) := (Els.cons (c := [av .u8 32 r3.Tx, [.int .u32 r3.N], [v2], [.int .u32 4294967295]].flatten) ⟨v2, rfl, ⟨hz4.1, hz4.2, hS3, (in_lit .u32 4294967295 rfl)⟩⟩ rfl Els.nil)
            refine o_bsl ([av .u8 32 r3.Tx, [.int .u32 r3.N], [v2], [.int .u32 4294967295]].flatten ++ ([])) te46 zr46 Tryd.underlying29 hI hA rfl rfl rfl rfl (by kernel_rfl) rfl fun g4 a w hA hI => ?_
            generalize hcs : ([av .u8 32 r3.Tx, [.int .u32 r3.N], [v2], [.int .u32 4294967295]].flatten ++ ([]) : List Value) = cs4 at hE4 hI
            clear hcs
            refine o_nil ?_
            refine ⟨(.inr ((hth1 _ _ hI).sel [0, 2, 4] (by decide) rfl)), ?_⟩
            refine g_forced (i := 7) rfl (by kernel_rfl) ?_
            have hE5 : Els (ROut μ4) 33 ([(⟨x1, x2⟩ : Out)] : List Out) ([[.int .u64 x1], av .u8 32 x2].flatten ++ ([])) := (Els.cons (c := [[.int .u64 x1], av .u8 32 x2].flatten) ⟨rfl, ⟨hx1, hx2⟩⟩ rfl Els.nil)
            refine o_bsl ([[.int .u64 x1], av .u8 32 x2].flatten ++ ([])) te48 zr48 Tryd.underlying30 hI hA rfl rfl rfl rfl (by kernel_rfl) rfl fun g5 a w hA hI => ?_
            generalize hcs : ([[.int .u64 x1], av .u8 32 x2].flatten ++ ([]) : List Value) = cs5 at hE5 hI
            clear hcs
            refine o_nil ?_
            refine ⟨(.inr ((hth1 _ _ hI).sel [0, 3, 5] (by decide) rfl)), ?_⟩
            refine g_forced (i := 8) rfl (by kernel_rfl) ?_
            refine stp hA (r_bldS (cs := [[.int .u32 1], [(.slice (some ⟨g4, 0, none⟩) 1 1)], [(.slice (some ⟨g5, 0, none⟩) 1 1)], [.int .u32 0]].flatten.toArray) (pl := [(0, 1), (1, 1), (2, 1), (3, 1)]) zr32 Tryd.underlying32 ⟨rfl, sz28, rfl, sz29, rfl, sz30, rfl, sz28, trivial⟩ hA rfl ((fill_one rfl rfl (by kernel_rfl)).trans ((fill_one (own_cell hI (j := 1) rfl) rfl (by kernel_rfl)).trans ((fill_one (own_cell hI (j := 0) rfl) rfl (by kernel_rfl)).trans (by kernel_rfl))))) rfl fun a hA => ?_
            refine o_nil ?_
            refine ⟨(.inr ((hth1 _ _ hI).sel [0, 3, 5] (by decide) rfl)), ?_⟩
            refine g_forced (i := 9) rfl (by kernel_rfl) ?_
            refine o_st (j := 3) [] [[.int .u32 0], [(.slice none 0 0)], [(.slice none 0 0)], [.int .u32 0]] [[.int .u32 1], [(.slice (some ⟨g4, 0, none⟩) 1 1)], [(.slice (some ⟨g5, 0, none⟩) 1 1)], [.int .u32 0]] [] sz32 rfl rfl (fl_cons (one_one rfl) (fl_cons (one_one (own_one hI (j := 1) rfl)) (fl_cons (one_one (own_one hI (j := 0) rfl)) (fl_cons (one_one rfl) fl_nil)))) hI rfl hA rfl rfl rfl rfl fun w hI => ?_
            refine o_nil ?_
            refine ⟨(.inr ((hth1 _ _ hI).sel [0, 3, 5] (by decide) rfl)), ?_⟩
            refine g_nil (by kernel_rfl) ?_
            cases Option.some.inj (bS H)
            exact ⟨μ4, v2, (.slice (some ⟨g4, 0, none⟩) 1 1), cs4, (.slice (some ⟨g5, 0, none⟩) 1 1), cs5, hle4, hS3, (in_lit .u32 1 rfl), hE4, hE5, hA.sub ⟨rfl, rfl, rfl, rfl, rfl, rfl, rfl, trivial⟩, (hI.sel [1, 0, 2, 3, 4] (by decide) rfl)⟩
          · skip
            have hE4 : Els (ROut μ1) 33 ([(⟨x1, x2⟩ : Out)] : List Out) ([[.int .u64 x1], av .u8 32 x2].flatten ++ ([])) := (Els.cons (c := [[.int .u64 x1], av .u8 32 x2].flatten) ⟨rfl, ⟨hx1, hx2⟩⟩ rfl Els.nil)
            refine o_bsl ([[.int .u64 x1], av .u8 32 x2].flatten ++ ([])) te48 zr48 Tryd.underlying30 hI hA rfl rfl rfl rfl (by kernel_rfl) rfl fun g4 a w hA hI => ?_
            generalize hcs : ([[.int .u64 x1], av .u8 32 x2].flatten ++ ([]) : List Value) = cs4 at hE4 hI
            clear hcs
            refine o_nil ?_
            refine ⟨(.inr (hI.sel [1, 2, 4] (by decide) rfl)), ?_⟩
            refine g_forced (i := 3) rfl (by kernel_rfl) ?_
            obtain ⟨μ4, hle4, hsv3, hI, hth1⟩ := hI.freezeRowT 1 rfl
            have hS3 : Slc (RI .u8) 1 μ4 v2 r2 := ⟨_, hE3, hsv3⟩
            have hE5 : Els (RIn μ4) 35 ([(⟨r3, r2, 4294967295⟩ : In)] : List In) ([av .u8 32 r3.Tx, [.int .u32 r3.N], [v2], [.int .u32 4294967295]].flatten ++ ([])) := (Els.cons (c := [av .u8 32 r3.Tx, [.int .u32 r3.N], [v2], [.int .u32 4294967295]].flatten) ⟨v2, rfl, ⟨hz4.1, hz4.2, hS3, (in_lit .u32 4294967295 rfl)⟩⟩ rfl Els.nil)
            refine o_bsl ([av .u8 32 r3.Tx, [.int .u32 r3.N], [v2], [.int .u32 4294967295]].flatten ++ ([])) te46 zr46 Tryd.underlying29 hI hA rfl rfl rfl rfl (by kernel_rfl) rfl fun g5 a w hA hI => ?_
            generalize hcs : ([av .u8 32 r3.Tx, [.int .u32 r3.N], [v2], [.int .u32 4294967295]].flatten ++ ([]) : List Value) = cs5 at hE5 hI
            clear hcs
            refine o_nil ?_
            refine ⟨(.inr ((hth1 _ _ hI).sel [0, 3, 5] (by decide) rfl)), ?_⟩
            refine g_forced (i := 8) rfl (by kernel_rfl) ?_
            refine stp hA (r_bldS (cs := [[.int .u32 1], [(.slice (some ⟨g5, 0, none⟩) 1 1)], [(.slice (some ⟨g4, 0, none⟩) 1 1)], [.int .u32 0]].flatten.toArray) (pl := [(0, 1), (1, 1), (2, 1), (3, 1)]) zr32 Tryd.underlying32 ⟨rfl, sz28, rfl, sz29, rfl, sz30, rfl, sz28, trivial⟩ hA rfl ((fill_one rfl rfl (by kernel_rfl)).trans ((fill_one (own_cell hI (j := 0) rfl) rfl (by kernel_rfl)).trans ((fill_one (own_cell hI (j := 1) rfl) rfl (by kernel_rfl)).trans (by kernel_rfl))))) rfl fun a hA => ?_
            refine o_nil ?_
            refine ⟨(.inr ((hth1 _ _ hI).sel [0, 3, 5] (by decide) rfl)), ?_⟩
            refine g_forced (i := 9) rfl (by kernel_rfl) ?_
            refine o_st (j := 3) [] [[.int .u32 0], [(.slice none 0 0)], [(.slice none 0 0)], [.int .u32 0]] [[.int .u32 1], [(.slice (some ⟨g5, 0, none⟩) 1 1)], [(.slice (some ⟨g4, 0, none⟩) 1 1)], [.int .u32 0]] [] sz32 rfl rfl (fl_cons (one_one rfl) (fl_cons (one_one (own_one hI (j := 0) rfl)) (fl_cons (one_one (own_one hI (j := 1) rfl)) (fl_cons (one_one rfl) fl_nil)))) hI rfl hA rfl rfl rfl rfl fun w hI => ?_
            refine o_nil ?_
            refine ⟨(.inr ((hth1 _ _ hI).sel [0, 3, 5] (by decide) rfl)), ?_⟩
            refine g_nil (by kernel_rfl) ?_
            cases Option.some.inj (bS H)
            exact ⟨μ4, v2, (.slice (some ⟨g5, 0, none⟩) 1 1), cs5, (.slice (some ⟨g4, 0, none⟩) 1 1), cs4, hle4, hS3, (in_lit .u32 1 rfl), hE5, (Els.mono hE4 (fun _ _ h => ROut.le hle4 h)), hA.sub ⟨rfl, rfl, rfl, rfl, rfl, rfl, rfl, trivial⟩, hI⟩
        · skip
          have hE4 : Els (ROut μ1) 33 ([(⟨x1, x2⟩ : Out)] : List Out) ([[.int .u64 x1], av .u8 32 x2].flatten ++ ([])) := (Els.cons (c := [[.int .u64 x1], av .u8 32 x2].flatten) ⟨rfl, ⟨hx1, hx2⟩⟩ rfl Els.nil)
          refine o_bsl ([[.int .u64 x1], av .u8 32 x2].flatten ++ ([])) te48 zr48 Tryd.underlying30 hI hA rfl rfl rfl rfl (by kernel_rfl) rfl fun g4 a w hA hI => ?_
          generalize hcs : ([[.int .u64 x1], av .u8 32 x2].flatten ++ ([]) : List Value) = cs4 at hE4 hI
          clear hcs
          refine o_nil ?_
          refine ⟨(.inr (hI.sel [1, 2, 4] (by decide) rfl)), ?_⟩
          refine g_forced (i := 2) rfl (by kernel_rfl) ?_
          refine stp hA (r_bldS (cs := [av .u8 32 r3.Tx, [.int .u32 r3.N], [v2], [.int .u32 4294967295]].flatten.toArray) (pl := [(0, 33), (33, 1), (34, 1)]) zr46 Tryd.underlying46 ⟨rfl, sz44, rfl, sz25, rfl, sz28, trivial⟩ hA rfl ((fill_seg [] [av .u8 32 (List.replicate 32 0), [.int .u32 0]] [av .u8 32 r3.Tx, [.int .u32 r3.N]] [[(.slice none 0 0)], [.int .u32 0]] rfl rfl rfl rfl rfl).trans ((fill_seg [av .u8 32 r3.Tx, [.int .u32 r3.N]] [[(.slice none 0 0)]] [[v2]] [[.int .u32 0]] (own_cell hI (j := 1) rfl) rfl rfl rfl rfl).trans ((fill_seg [av .u8 32 r3.Tx, [.int .u32 r3.N], [v2]] [[.int .u32 0]] [[.int .u32 4294967295]] [] rfl rfl rfl rfl rfl).trans (rfl))))) rfl fun a hA => ?_
          refine o_nil ?_
          refine ⟨(.inr (hI.sel [1, 2, 4] (by decide) rfl)), ?_⟩
          refine g_forced (i := 3) rfl (by kernel_rfl) ?_
          obtain ⟨μ4, hle4, hsv3, hI, hth1⟩ := hI.freezeRowT 1 rfl
          have hS3 : Slc (RI .u8) 1 μ4 v2 r2 := ⟨_, hE3, hsv3⟩
          have hE5 : Els (RIn μ4) 35 ([(⟨r3, r2, 4294967295⟩ : In)] : List In) ([av .u8 32 r3.Tx, [.int .u32 r3.N], [v2], [.int .u32 4294967295]].flatten ++ ([])) := (Els.cons (c := [av .u8 32 r3.Tx, [.int .u32 r3.N], [v2], [.int .u32 4294967295]].flatten) ⟨v2, rfl, ⟨hz4.1, hz4.2, hS3, (in_lit .u32 4294967295 rfl)⟩⟩ rfl Els.nil)
          refine o_bsl ([av .u8 32 r3.Tx, [.int .u32 r3.N], [v2], [.int .u32 4294967295]].flatten ++ ([])) te46 zr46 Tryd.underlying29 hI hA rfl rfl rfl rfl (by kernel_rfl) rfl fun g5 a w hA hI => ?_
          generalize hcs : ([av .u8 32 r3.Tx, [.int .u32 r3.N], [v2], [.int .u32 4294967295]].flatten ++ ([]) : List Value) = cs5 at hE5 hI
          clear hcs
          refine o_nil ?_
          refine ⟨(.inr ((hth1 _ _ hI).sel [0, 3, 5] (by decide) rfl)), ?_⟩
          refine g_forced (i := 8) rfl (by kernel_rfl) ?_
          refine stp hA (r_bldS (cs := [[.int .u32 1], [(.slice (some ⟨g5, 0, none⟩) 1 1)], [(.slice (some ⟨g4, 0, none⟩) 1 1)], [.int .u32 0]].flatten.toArray) (pl := [(0, 1), (1, 1), (2, 1), (3, 1)]) zr32 Tryd.underlying32 ⟨rfl, sz28, rfl, sz29, rfl, sz30, rfl, sz28, trivial⟩ hA rfl ((fill_one rfl rfl (by kernel_rfl)).trans ((fill_one (own_cell hI (j := 0) rfl) rfl (by kernel_rfl)).trans ((fill_one (own_cell hI (j := 1) rfl) rfl (by kernel_rfl)).trans (by kernel_rfl))))) rfl fun a hA => ?_
          refine o_nil ?_
          refine ⟨(.inr ((hth1 _ _ hI).sel [0, 3, 5] (by decide) rfl)), ?_⟩
          refine g_forced (i := 9) rfl (by kernel_rfl) ?_
          refine o_st (j := 3) [] [[.int .u32 0], [(.slice none 0 0)], [(.slice none 0 0)], [.int .u32 0]] [[.int .u32 1], [(.slice (some ⟨g5, 0, none⟩) 1 1)], [(.slice (some ⟨g4, 0, none⟩) 1 1)], [.int .u32 0]] [] sz32 rfl rfl (fl_cons (one_one rfl) (fl_cons (one_one (own_one hI (j := 0) rfl)) (fl_cons (one_one (own_one hI (j := 1) rfl)) (fl_cons (one_one rfl) fl_nil)))) hI rfl hA rfl rfl rfl rfl fun w hI => ?_
          refine o_nil ?_
          refine ⟨(.inr ((hth1 _ _ hI).sel [0, 3, 5] (by decide) rfl)), ?_⟩
          refine g_nil (by kernel_rfl) ?_
          cases Option.some.inj (bS H)
          exact ⟨μ4, v2, (.slice (some ⟨g5, 0, none⟩) 1 1), cs5, (.slice (some ⟨g4, 0, none⟩) 1 1), cs4, hle4, hS3, (in_lit .u32 1 rfl), hE5, (Els.mono hE4 (fun _ _ h => ROut.le hle4 h)), hA.sub ⟨rfl, rfl, rfl, rfl, rfl, rfl, rfl, trivial⟩, hI⟩
      · skip
        have hE4 : Els (ROut μ1) 33 ([(⟨x1, x2⟩ : Out)] : List Out) ([[.int .u64 x1], av .u8 32 x2].flatten ++ ([])) := (Els.cons (c := [[.int .u64 x1], av .u8 32 x2].flatten) ⟨rfl, ⟨hx1, hx2⟩⟩ rfl Els.nil)
        refine o_bsl ([[.int .u64 x1], av .u8 32 x2].flatten ++ ([])) te48 zr48 Tryd.underlying30 hI hA rfl rfl rfl rfl (by kernel_rfl) rfl fun g4 a w hA hI => ?_
        generalize hcs : ([[.int .u64 x1], av .u8 32 x2].flatten ++ ([]) : List Value) = cs4 at hE4 hI
        clear hcs
        refine o_nil ?_
        refine ⟨(.inr (hI.sel [1, 2, 4] (by decide) rfl)), ?_⟩
        refine g_forced (i := 0) rfl (by kernel_rfl) ?_
        obtain ⟨r3, hr3, H⟩ := bB H
        refine o_callp (u := .agg [av .u8 32 r3.Tx, [.int .u32 r3.N]].flatten.toArray) cf34 hA rfl hI (spend_Null.c μ1 _ hI.agr  r3 hr3) rfl fun a w hz4 hI hA => ?_
        refine o_nil ?_
        refine ⟨(.inr (hI.sel [1, 2, 4] (by decide) rfl)), ?_⟩
        refine g_forced (i := 2) rfl (by kernel_rfl) ?_
        refine stp hA (r_bldS (cs := [av .u8 32 r3.Tx, [.int .u32 r3.N], [v2], [.int .u32 4294967295]].flatten.toArray) (pl := [(0, 33), (33, 1), (34, 1)]) zr46 Tryd.underlying46 ⟨rfl, sz44, rfl, sz25, rfl, sz28, trivial⟩ hA rfl ((fill_seg [] [av .u8 32 (List.replicate 32 0), [.int .u32 0]] [av .u8 32 r3.Tx, [.int .u32 r3.N]] [[(.slice none 0 0)], [.int .u32 0]] rfl rfl rfl rfl rfl).trans ((fill_seg [av .u8 32 r3.Tx, [.int .u32 r3.N]] [[(.slice none 0 0)]] [[v2]] [[.int .u32 0]] (own_cell hI (j := 1) rfl) rfl rfl rfl rfl).trans ((fill_seg [av .u8 32 r3.Tx, [.int .u32 r3.N], [v2]] [[.int .u32 0]] [[.int .u32 4294967295]] [] rfl rfl rfl rfl rfl).trans (rfl))))) rfl fun a hA => ?_
        refine o_nil ?_
        refine ⟨(.inr (hI.sel [1, 2, 4] (by decide) rfl)), ?_⟩
        refine g_forced (i := 3) rfl (by kernel_rfl) ?_
        obtain ⟨μ4, hle4, hsv3, hI, hth1⟩ := hI.freezeRowT 1 rfl
        have hS3 : Slc (RI .u8) 1 μ4 v2 r2 := ⟨_, hE3, hsv3⟩
        have hE5 : Els (RIn μ4) 35 ([(⟨r3, r2, 4294967295⟩ : In)] : List In) ([av .u8 32 r3.Tx, [.int .u32 r3.N], [v2], [.int .u32 4294967295]].flatten ++ ([])) := (Els.cons (c := [av .u8 32 r3.Tx, [.int .u32 r3.N], [v2], [.int .u32 4294967295]].flatten) ⟨v2, rfl, ⟨hz4.1, hz4.2, hS3, (in_lit .u32 4294967295 rfl)⟩⟩ rfl Els.nil)
        refine o_bsl ([av .u8 32 r3.Tx, [.int .u32 r3.N], [v2], [.int .u32 4294967295]].flatten ++ ([])) te46 zr46 Tryd.underlying29 hI hA rfl rfl rfl rfl (by kernel_rfl) rfl fun g5 a w hA hI => ?_
        generalize hcs : ([av .u8 32 r3.Tx, [.int .u32 r3.N], [v2], [.int .u32 4294967295]].flatten ++ ([]) : List Value) = cs5 at hE5 hI
        clear hcs
        refine o_nil ?_
        refine ⟨(.inr ((hth1 _ _ hI).sel [0, 3, 5] (by decide) rfl)), ?_⟩
        refine g_forced (i := 8) rfl (by kernel_rfl) ?_
        refine stp hA (r_bldS (cs := [[.int .u32 1], [(.slice (some ⟨g5, 0, none⟩) 1 1)], [(.slice (some ⟨g4, 0, none⟩) 1 1)], [.int .u32 0]].flatten.toArray) (pl := [(0, 1), (1, 1), (2, 1), (3, 1)]) zr32 Tryd.underlying32 ⟨rfl, sz28, rfl, sz29, rfl, sz30, rfl, sz28, trivial⟩ hA rfl ((fill_one rfl rfl (by kernel_rfl)).trans ((fill_one (own_cell hI (j := 0) rfl) rfl (by kernel_rfl)).trans ((fill_one (own_cell hI (j := 1) rfl) rfl (by kernel_rfl)).trans (by kernel_rfl))))) rfl fun a hA => ?_
        refine o_nil ?_
        refine ⟨(.inr ((hth1 _ _ hI).sel [0, 3, 5] (by decide) rfl)), ?_⟩
        refine g_forced (i := 9) rfl (by kernel_rfl) ?_
        refine o_st (j := 3) [] [[.int .u32 0], [(.slice none 0 0)], [(.slice none 0 0)], [.int .u32 0]] [[.int .u32 1], [(.slice (some ⟨g5, 0, none⟩) 1 1)], [(.slice (some ⟨g4, 0, none⟩) 1 1)], [.int .u32 0]] [] sz32 rfl rfl (fl_cons (one_one rfl) (fl_cons (one_one (own_one hI (j := 0) rfl)) (fl_cons (one_one (own_one hI (j := 1) rfl)) (fl_cons (one_one rfl) fl_nil)))) hI rfl hA rfl rfl rfl rfl fun w hI => ?_
        refine o_nil ?_
        refine ⟨(.inr ((hth1 _ _ hI).sel [0, 3, 5] (by decide) rfl)), ?_⟩
        refine g_nil (by kernel_rfl) ?_
        cases Option.some.inj (bS H)
        exact ⟨μ4, v2, (.slice (some ⟨g5, 0, none⟩) 1 1), cs5, (.slice (some ⟨g4, 0, none⟩) 1 1), cs4, hle4, hS3, (in_lit .u32 1 rfl), hE5, (Els.mono hE4 (fun _ _ h => ROut.le hle4 h)), hA.sub ⟨rfl, rfl, rfl, rfl, rfl, rfl, rfl, trivial⟩, hI⟩
  · rintro a w ⟨μ3, vvc1, vvc3, ccc3, vvc4, ccc4, hle3, wc1, wc2, wc3, wc4, hA, hI⟩
    have H := Hk1
    refine w_ret ?_
    obtain ⟨μ5, hle5, hsv4, hI⟩ := hI.freezeRow 0 rfl
    have hS4 : Slc (RIn μ5) 35 μ5 vvc3 c3 := ⟨_, (Els.mono wc3 (fun _ _ h => RIn.le hle5 h)), hsv4⟩
    obtain ⟨μ6, hle6, hsv5, hI⟩ := hI.freezeRow 0 rfl
    have hS5 : Slc (ROut μ6) 33 μ6 vvc4 c4 := ⟨_, (Els.mono wc4 (fun _ _ h => ROut.le (hle5.trans hle6) h)), hsv5⟩
    obtain rfl := Option.some.inj (bS H)
    exact retc Tryd.underlying32 rfl sz32 rfl hI (j := 1) rfl hA Tryd.results9 rfl ⟨_, rfl, vvc3, vvc4, μ6, rfl, ⟨wc2, (Slc.le hS4 (fun _ _ h => RIn.le hle6 h) hle6), hS5, (in_lit .u32 0 rfl)⟩, (hI.sel [] (by decide) rfl)⟩
set_option maxRecDepth 20000 in
theorem block_IDs.c (μ : Store) (w0 : World) (hμ : Agr μ w0) (x0 : Block) (u0_0 : Value) (hx0 : BlockW μ x0 u0_0) (r : List (List Int)) (H : block_IDs.f x0 = some r) :
    Calls Tryd.prog 29 [.agg [[.int .u32 x0.Head.Version], av .u8 32 x0.Head.Prev, av .u8 32 x0.Head.Root, [.int .u32 x0.Head.Time], [.int .u32 x0.Head.Work], [.int .u32 x0.Head.Nonce], [u0_0]].flatten.toArray].toArray w0 (fun e w' => ∃ v, e = .returned v ∧ ∃ (v0 : Value) (c0 : List Value), v = v0 ∧ Els (RA .u8 32) 32 r c0 ∧ Iv w0 [] μ μ [row 24 32 v0 r.length c0] w') := by
  refine enter Tryd.func29 rfl Tryd.ntmps29 rfl fun a hA => ?_
  have hI := Iv.start hμ
  have H := bI H
  refine w_seq fun _ hN1 => ?_
  refine w_reg ?_
  refine o_box [[.int .u32 x0.Head.Version], av .u8 32 x0.Head.Prev, av .u8 32 x0.Head.Root, [.int .u32 x0.Head.Time], [.int .u32 x0.Head.Work], [.int .u32 x0.Head.Nonce], [u0_0]] hI hA rfl rfl rfl fun g1 a w hA hI hg1 => 
    stp hA (r_as hA rfl) rfl fun a hA => ?_
  refine o_nil ?_
  refine hN1 _ _ ?_
  refine w_seq fun _ hN2 => ?_
  refine w_reg ?_
  refine stp hA (r_as hA rfl) rfl fun a hA => ?_
  refine o_nil ?_
  refine hN2 _ _ ?_
  obtain ⟨c1, hz1, Hk1⟩ := bB H
  refine w_cut (fun a w => ∃ (vvc1 : Value) (ccc1 : List Value), Els (RA .u8 32) 32 c1 ccc1 ∧ Fr a 20 [(0, .agg [[.int .u32 x0.Head.Version], av .u8 32 x0.Head.Prev, av .u8 32 x0.Head.Root, [.int .u32 x0.Head.Time], [.int .u32 x0.Head.Work], [.int .u32 x0.Head.Nonce], [u0_0]].flatten.toArray), (1, .pointer (some ⟨g1, 0, none⟩)), (2, (.slice none 0 0)), (3, vvc1)] ∧ Iv w0 [] μ μ [row 24 32 vvc1 c1.length ccc1, cel g1 [[.int .u32 x0.Head.Version], av .u8 32 x0.Head.Prev, av .u8 32 x0.Head.Root, [.int .u32 x0.Head.Time], [.int .u32 x0.Head.Work], [.int .u32 x0.Head.Nonce], [u0_0]] 39] w) ?_ ?_
  · have H := bI hz1
    refine w_seq fun _ hN3 => ?_
    refine w_reg ?_
    refine stp hA (r_fd (k := 68) Tryd.underlying39 rfl sz37 hA rfl rfl) rfl fun a hA => 
      stp hA (r_ld1 (j := 0) [[.int .u32 x0.Head.Version], av .u8 32 x0.Head.Prev, av .u8 32 x0.Head.Root, [.int .u32 x0.Head.Time], [.int .u32 x0.Head.Work], [.int .u32 x0.Head.Nonce]] [] Tryd.underlying37 rfl hI rfl hA rfl rfl) rfl fun a hA => ?_
    obtain ⟨_, hsl1⟩ := Slc.sv hx0.2.2.2.2.2.2
    refine stp hA (r_slen Tryd.underlying37 hsl1 hA rfl) rfl fun a hA => 
      stp hA (r_mv hA rfl) rfl fun a hA => ?_
    refine o_nil ?_
    refine hN3 _ _ ?_
    refine w_block ?_
    have hI := hI.nilRow 24 32
    obtain ⟨z1, hz2, Hk2⟩ := bind_some H
    obtain ⟨n1, hn1⟩ := loopO_some hz2
    refine w_loop (fun n a w => ∃ (s1 : List (List Int)) (s2 : Int) (vvs1 : Value) (ccs1 : List Value), loopN (block_IDs.s0 x0) n (s1, s2) = some z1 ∧ Els (RA .u8 32) 32 s1 ccs1 ∧ InR .i64 s2 ∧ Fr a 20 [(0, .agg [[.int .u32 x0.Head.Version], av .u8 32 x0.Head.Prev, av .u8 32 x0.Head.Root, [.int .u32 x0.Head.Time], [.int .u32 x0.Head.Work], [.int .u32 x0.Head.Nonce], [u0_0]].flatten.toArray), (1, .pointer (some ⟨g1, 0, none⟩)), (2, (.slice none 0 0)), (3, vvs1), (7, u0_0), (8, .int .i64 (x0.Txs.length : Int)), (9, .int .i64 s2)] ∧ Iv w0 [] μ μ [row 24 32 vvs1 s1.length ccs1, cel g1 [[.int .u32 x0.Head.Version], av .u8 32 x0.Head.Prev, av .u8 32 x0.Head.Root, [.int .u32 x0.Head.Time], [.int .u32 x0.Head.Work], [.int .u32 x0.Head.Nonce], [u0_0]] 39] w) n1 ⟨[], 0, (.slice none 0 0), [], hn1, (Els.nil (RE := (RA .u8 32)) (sz := 32)), (in_lit .i64 0 rfl), hA.sub ⟨rfl, rfl, rfl, rfl, rfl, rfl, rfl, trivial⟩, hI⟩ ?_
    clear hA hI
    rintro n a w ⟨s1, s2, vvs1, ccs1, hn1, ws1, ws2, hA, hI⟩
    obtain ⟨m1, rfl, H⟩ := loopN_bind hn1
    clear hn1
    refine w_seq fun _ hN4 => ?_
    refine w_reg ?_
    refine stp hA (r_lss hA rfl rfl) rfl fun a hA => ?_
    refine o_nil ?_
    refine hN4 _ _ ?_
    refine w_seq fun _ hN5 => ?_
    refine w_cond hA rfl (fun hc1 => ?_) (fun hc1 => ?_)
    · have hc10 := hc1; have hc1 := of_decide_eq_true hc1; have H := bT H hc1
      refine w_skip ?_
      refine hN5 _ _ ?_
      refine w_seq fun _ hN6 => ?_
      refine w_block ?_
      refine w_seq fun _ hN7 => ?_
      refine w_reg ?_
      obtain ⟨hb1, H⟩ := bG H
      obtain ⟨_, he1, _, hat1⟩ := Slc.elem hx0.2.2.2.2.2.2 (getD_some default hb1.1 hb1.2)
      obtain ⟨v1, v2, rfl, hw1⟩ := he1
      obtain ⟨_, hsl2⟩ := Slc.sv hx0.2.2.2.2.2.2
      refine stp hA (r_six Tryd.underlying37 sz32 hsl2 hA rfl rfl hb1.1 hb1.2) rfl fun a hA => 
        stp hA (r_ldmA [] [[.int .u32 ((x0.Txs.getD s2.toNat default).Version)], [v1], [v2], [.int .u32 ((x0.Txs.getD s2.toNat default).Time)]] [] Tryd.underlying32 rfl sz32 rfl hI.agr hat1 hA rfl rfl) rfl fun a hA => 
        o_new [[.int .u32 0], [(.slice none 0 0)], [(.slice none 0 0)], [.int .u32 0]] zr32 hI hA rfl fun g2 a w hA hI hg2 => ?_
      obtain ⟨_, hsl3⟩ := Slc.sv hw1.2.1
      obtain ⟨_, hsl4⟩ := Slc.sv hw1.2.2.1
      refine o_st (j := 0) [] [[.int .u32 0], [(.slice none 0 0)], [(.slice none 0 0)], [.int .u32 0]] [[.int .u32 ((x0.Txs.getD s2.toNat default).Version)], [v1], [v2], [.int .u32 ((x0.Txs.getD s2.toNat default).Time)]] [] sz32 rfl rfl (fl_cons (one_one rfl) (fl_cons (one_one (one_sl hsl3)) (fl_cons (one_one (one_sl hsl4)) (fl_cons (one_one rfl) fl_nil)))) hI rfl hA rfl rfl rfl rfl fun w hI => ?_
      refine o_nil ?_
      refine hN7 _ _ ?_
      refine w_reg ?_
      refine stp hA (r_mv hA rfl) rfl fun a hA => 
        stp hA (r_ldA (j := 0) [] [[.int .u32 ((x0.Txs.getD s2.toNat default).Version)], [v1], [v2], [.int .u32 ((x0.Txs.getD s2.toNat default).Time)]] [] Tryd.underlying32 rfl sz32 rfl hI rfl hA rfl rfl) rfl fun a hA => ?_
      obtain ⟨r1, hr1, H⟩ := bB H
      refine o_callp (u := .agg [av .u8 32 r1].flatten.toArray) cf61 hA rfl hI (tx_ID.c μ _ hI.agr (x0.Txs.getD s2.toNat default) v1 v2 ⟨hw1.1, hw1.2.1, hw1.2.2.1, hw1.2.2.2⟩ r1 hr1) rfl fun a w hz3 hI hA => ?_
      have hE1 : Els (RA .u8 32) 32 ([r1] : List (List Int)) ([av .u8 32 r1].flatten ++ ([])) := (Els.cons (c := [av .u8 32 r1].flatten) ⟨rfl, hz3⟩ rfl Els.nil)
      refine o_bsl ([av .u8 32 r1].flatten ++ ([])) te24 zr24 Tryd.underlying71 hI hA rfl rfl rfl rfl (by kernel_rfl) rfl fun g3 a w hA hI => ?_
      generalize hcs : ([av .u8 32 r1].flatten ++ ([]) : List Value) = cs1 at hE1 hI
      clear hcs
      obtain ⟨hb2, H⟩ := bG H
      have hE3 := ws1.app hE1
      refine o_appL (xs := (s1 : List (List Int))) (ys := (([r1] : List (List Int)) : List (List Int))) (j := 2) te24 Tryd.underlying71 hI rfl hA rfl rfl (src_row hI (j := 0) rfl) hE1.len (hE1.ones (one_RA _ _)) (by first | decide | (have hq := hb2; (try simp only [List.length_cons, List.length_nil] at hq); (try simp only [List.length_cons, List.length_nil]); (try simp only [maxLen]); omega)) (by first | decide | (have hq := hb2; (try simp only [List.length_cons, List.length_nil] at hq); (try simp only [List.length_cons, List.length_nil]); (try simp only [maxLen]); omega)) rfl fun v3 a w hA hI => 
        stp hA (r_as hA rfl) rfl fun a hA => ?_
      refine o_nil ?_
      refine hN6 _ _ ?_
      refine w_reg ?_
      refine stp hA (r_add hA rfl rfl) rfl fun a hA => 
        stp hA (r_mv hA rfl) rfl fun a hA => ?_
      refine o_nil ?_
      exact ⟨m1, Nat.lt_succ_self _, s1 ++ ([r1] : List (List Int)), IntKind.i64.wrap (s2 + 1), v3, ccs1 ++ cs1, H, hE3, (wrap_in _ _), hA.sub ⟨rfl, rfl, rfl, rfl, rfl, rfl, rfl, trivial⟩, (hI.sel [2, 3] (by decide) rfl)⟩
    · have hc10 := hc1; have hc1 := of_decide_eq_false hc1; have H := bF H hc1
      refine w_exit rfl ?_
      have H : some s1 = some z1 := H
      obtain rfl := Option.some.inj H
      have H := Hk2
      cases Option.some.inj (bS H)
      exact ⟨vvs1, ccs1, ws1, hA.sub ⟨rfl, rfl, rfl, rfl, trivial⟩, hI⟩
  · rintro a w ⟨vvc1, ccc1, wc1, hA, hI⟩
    have H := Hk1
    refine w_seq fun _ hN8 => ?_
    refine w_reg ?_
    refine stp hA (r_mv hA rfl) rfl fun a hA => 
      stp hA (r_as hA rfl) rfl fun a hA => ?_
    refine o_nil ?_
    refine hN8 _ _ ?_
    refine w_ret ?_
    obtain rfl := Option.some.inj (bS H)
    exact ret1 hA Tryd.results29 rfl ⟨_, rfl, vvc1, ccc1, rfl, wc1, ((hI.sel [0] (by decide) rfl).less (Store.le.refl _) hI.le)⟩
set_option maxRecDepth 20000 in
theorem block_Root.c (μ : Store) (w0 : World) (hμ : Agr μ w0) (x0 : Block) (u0_0 : Value) (hx0 : BlockW μ x0 u0_0) (r : List Int) (H : block_Root.f x0 = some r) :
    Calls Tryd.prog 15 [.agg [[.int .u32 x0.Head.Version], av .u8 32 x0.Head.Prev, av .u8 32 x0.Head.Root, [.int .u32 x0.Head.Time], [.int .u32 x0.Head.Work], [.int .u32 x0.Head.Nonce], [u0_0]].flatten.toArray].toArray w0 (fun e w' => ∃ v, e = .returned v ∧ v = .agg [av .u8 32 r].flatten.toArray ∧ Arr .u8 32 r ∧ Iv w0 [] μ μ [] w') := by
  refine enter Tryd.func15 rfl Tryd.ntmps15 rfl fun a hA => ?_
  have hI := Iv.start hμ
  have H := bI H
  refine w_seq fun _ hN1 => ?_
  refine w_reg ?_
  refine o_box [[.int .u32 x0.Head.Version], av .u8 32 x0.Head.Prev, av .u8 32 x0.Head.Root, [.int .u32 x0.Head.Time], [.int .u32 x0.Head.Work], [.int .u32 x0.Head.Nonce], [u0_0]] hI hA rfl rfl rfl fun g1 a w hA hI hg1 => 
    o_new [av .u8 32 (List.replicate 32 0)] zr24 hI hA rfl fun g2 a w hA hI hg2 => ?_
  refine o_nil ?_
  refine hN1 _ _ ?_
  refine w_seq fun _ hN2 => ?_
  refine w_reg ?_
  refine stp hA (r_ldA (j := 1) [] [[.int .u32 x0.Head.Version], av .u8 32 x0.Head.Prev, av .u8 32 x0.Head.Root, [.int .u32 x0.Head.Time], [.int .u32 x0.Head.Work], [.int .u32 x0.Head.Nonce], [u0_0]] [] Tryd.underlying39 rfl sz39 rfl hI rfl hA rfl rfl) rfl fun a hA => ?_
  obtain ⟨r1, hr1, H⟩ := bB H
  refine o_call _ cf29 hA rfl (block_IDs.c μ _ hI.agr x0 u0_0 ⟨hx0.1, hx0.2.1, hx0.2.2.1, hx0.2.2.2.1, hx0.2.2.2.2.1, hx0.2.2.2.2.2.1, hx0.2.2.2.2.2.2⟩ r1 hr1) rfl fun v1 a w hz1 hA => ?_
  obtain ⟨_, cs1, rfl, hE1, hi1⟩ := hz1
  have hI := hI.call hi1
  obtain ⟨r2, hr2, H⟩ := bB H
  refine o_callp (u := .agg [av .u8 32 r2].flatten.toArray) cf42 hA rfl hI ((by obtain ⟨μ1, hle1, hsv1, hI⟩ := hI.freezeRow 0 rfl; have hS1 : Slc (RA .u8 32) 32 μ1 v1 r1 := ⟨_, hE1, hsv1⟩; exact low_plain hle1 (merkle_Root.c μ1 _ hI.agr r1 v1 hS1 r2 hr2))) rfl fun a w hz2 hI hA => 
    o_st (j := 1) [] [av .u8 32 (List.replicate 32 0)] [av .u8 32 r2] [] sz24 rfl rfl (fl_cons (one_av _ _ _) fl_nil) hI rfl hA rfl rfl rfl rfl fun w hI => ?_
  refine o_nil ?_
  refine hN2 _ _ ?_
  refine w_ret ?_
  obtain rfl := Option.some.inj (bS H)
  exact retc Tryd.underlying24 rfl sz24 rfl hI (j := 1) rfl hA Tryd.results15 rfl ⟨_, rfl, rfl, hz2, hI.forget0⟩
set_option maxRecDepth 20000 in
theorem block_Start.c (μ : Store) (w0 : World) (hμ : Agr μ w0) (r : Block) (H : block_Start.f = some r) :
    Calls Tryd.prog 12 [].toArray w0 (fun e w' => ∃ v, e = .returned v ∧ ∃ (v0_0 : Value) (μ' : Store), v = .agg [[.int .u32 r.Head.Version], av .u8 32 r.Head.Prev, av .u8 32 r.Head.Root, [.int .u32 r.Head.Time], [.int .u32 r.Head.Work], [.int .u32 r.Head.Nonce], [v0_0]].flatten.toArray ∧ BlockW μ' r v0_0 ∧ Iv w0 [] μ μ' [] w') := by
  refine enter Tryd.func12 rfl Tryd.ntmps12 rfl fun a hA => ?_
  have hI := Iv.start hμ
  have H := bI H
  refine w_seq fun _ hN1 => ?_
  refine w_reg ?_
  refine o_new [[.int .u32 0], av .u8 32 (List.replicate 32 0), av .u8 32 (List.replicate 32 0), [.int .u32 0], [.int .u32 0], [.int .u32 0], [(.slice none 0 0)]] zr39 hI hA rfl fun g1 a w hA hI hg1 => ?_
  refine o_nil ?_
  refine hN1 _ _ ?_
  refine w_seq fun _ hN2 => ?_
  refine w_reg ?_
  refine stp hA (r_bldS (cs := [[.int .u32 1], av .u8 32 (List.replicate 32 0), av .u8 32 (List.replicate 32 0), [.int .u32 1000], [.int .u32 1], [.int .u32 0]].flatten.toArray) (pl := [(0, 1), (1, 32), (33, 32), (65, 1), (66, 1), (67, 1)]) zr36 Tryd.underlying36 ⟨rfl, sz28, rfl, sz24, rfl, sz24, rfl, sz28, rfl, sz28, rfl, sz28, trivial⟩ hA rfl (by kernel_rfl)) rfl fun a hA => ?_
  obtain ⟨r1, hr1, H⟩ := bB H
  refine o_callp (u := .agg [av .u8 32 r1].flatten.toArray) cf39 hA rfl hI (spend_Lock.c μ _ hI.agr ([]) (.slice none 0 0) (slc_nil _ _ _) r1 hr1) rfl fun a w hz1 hI hA => ?_
  obtain ⟨r2, hr2, H⟩ := bB H
  refine o_call _ cf9 hA rfl (block_First.c μ _ hI.agr 0 (in_lit .i64 0 rfl) 0 (in_lit .u64 0 rfl) r1 hz1 ([]) (.slice none 0 0) (slc_nil _ _ _) r2 hr2) rfl fun v1 a w hz2 hA => ?_
  obtain ⟨v2, v3, μ1, rfl, hw1, hi1⟩ := hz2
  have hI := hI.call hi1
  have hE1 : Els (RTx μ1) 4 ([r2] : List Tx) ([[.int .u32 r2.Version], [v2], [v3], [.int .u32 r2.Time]].flatten ++ ([])) := (Els.cons (c := [[.int .u32 r2.Version], [v2], [v3], [.int .u32 r2.Time]].flatten) ⟨v2, v3, rfl, ⟨hw1.1, hw1.2.1, hw1.2.2.1, hw1.2.2.2⟩⟩ rfl Els.nil)
  refine o_bsl ([[.int .u32 r2.Version], [v2], [v3], [.int .u32 r2.Time]].flatten ++ ([])) te32 zr32 Tryd.underlying37 hI hA rfl rfl rfl rfl (by kernel_rfl) rfl fun g2 a w hA hI => ?_
  generalize hcs : ([[.int .u32 r2.Version], [v2], [v3], [.int .u32 r2.Time]].flatten ++ ([]) : List Value) = cs1 at hE1 hI
  clear hcs
  refine stp hA (r_bldS (cs := [[.int .u32 1], av .u8 32 (List.replicate 32 0), av .u8 32 (List.replicate 32 0), [.int .u32 1000], [.int .u32 1], [.int .u32 0], [(.slice (some ⟨g2, 0, none⟩) 1 1)]].flatten.toArray) (pl := [(0, 68), (68, 1)]) zr39 Tryd.underlying39 ⟨rfl, sz36, rfl, sz37, trivial⟩ hA rfl ((fill_seg [] [[.int .u32 0], av .u8 32 (List.replicate 32 0), av .u8 32 (List.replicate 32 0), [.int .u32 0], [.int .u32 0], [.int .u32 0]] [[.int .u32 1], av .u8 32 (List.replicate 32 0), av .u8 32 (List.replicate 32 0), [.int .u32 1000], [.int .u32 1], [.int .u32 0]] [[(.slice none 0 0)]] rfl rfl rfl rfl rfl).trans ((fill_seg [[.int .u32 1], av .u8 32 (List.replicate 32 0), av .u8 32 (List.replicate 32 0), [.int .u32 1000], [.int .u32 1], [.int .u32 0]] [[(.slice none 0 0)]] [[(.slice (some ⟨g2, 0, none⟩) 1 1)]] [] (own_cell hI (j := 0) rfl) rfl rfl rfl rfl).trans (rfl)))) rfl fun a hA => 
    o_new [[.int .u32 0], av .u8 32 (List.replicate 32 0), av .u8 32 (List.replicate 32 0), [.int .u32 0], [.int .u32 0], [.int .u32 0], [(.slice none 0 0)]] zr39 hI hA rfl fun g3 a w hA hI hg3 => 
    o_st (j := 0) [] [[.int .u32 0], av .u8 32 (List.replicate 32 0), av .u8 32 (List.replicate 32 0), [.int .u32 0], [.int .u32 0], [.int .u32 0], [(.slice none 0 0)]] [[.int .u32 1], av .u8 32 (List.replicate 32 0), av .u8 32 (List.replicate 32 0), [.int .u32 1000], [.int .u32 1], [.int .u32 0], [(.slice (some ⟨g2, 0, none⟩) 1 1)]] [] sz39 rfl rfl (fl_cons (one_one rfl) (fl_cons (one_av _ _ _) (fl_cons (one_av _ _ _) (fl_cons (one_one rfl) (fl_cons (one_one rfl) (fl_cons (one_one rfl) (fl_cons (one_one (own_one hI (j := 1) rfl)) fl_nil))))))) hI rfl hA rfl rfl rfl rfl fun w hI => ?_
  refine o_nil ?_
  refine hN2 _ _ ?_
  refine w_seq fun _ hN3 => ?_
  refine w_reg ?_
  refine stp hA (r_ldA (j := 0) [] [[.int .u32 1], av .u8 32 (List.replicate 32 0), av .u8 32 (List.replicate 32 0), [.int .u32 1000], [.int .u32 1], [.int .u32 0], [(.slice (some ⟨g2, 0, none⟩) 1 1)]] [] Tryd.underlying39 rfl sz39 rfl hI rfl hA rfl rfl) rfl fun a hA => ?_
  obtain ⟨r3, hr3, H⟩ := bB H
  refine o_callp (u := .agg [av .u8 32 r3].flatten.toArray) cf15 hA rfl hI ((by obtain ⟨μ2, hle1, hsv1, hI⟩ := hI.freezeRow 1 rfl; have hS1 : Slc (RTx μ2) 4 μ2 (.slice (some ⟨g2, 0, none⟩) 1 1) ([r2] : List Tx) := ⟨_, (Els.mono hE1 (fun _ _ h => RTx.le hle1 h)), hsv1⟩; exact low_plain hle1 (block_Root.c μ2 _ hI.agr (⟨(⟨1, (List.replicate 32 0), (List.replicate 32 0), 1000, 1, 0⟩ : Head), ([r2] : List Tx)⟩ : Block) (.slice (some ⟨g2, 0, none⟩) 1 1) ⟨(in_lit .u32 1 rfl), (arr_zero _ _), (arr_zero _ _), (in_lit .u32 1000 rfl), (in_lit .u32 1 rfl), (in_lit .u32 0 rfl), hS1⟩ r3 hr3))) rfl fun a w hz3 hI hA => 
    stp hA (r_fd (k := 0) Tryd.underlying39 rfl sz36 hA rfl rfl) rfl fun a hA => 
    stp hA (r_fd (k := 33) Tryd.underlying36 rfl sz24 hA rfl rfl) rfl fun a hA => 
    o_st (j := 0) [[.int .u32 1], av .u8 32 (List.replicate 32 0)] [av .u8 32 (List.replicate 32 0)] [av .u8 32 r3] [[.int .u32 1000], [.int .u32 1], [.int .u32 0], [(.slice (some ⟨g2, 0, none⟩) 1 1)]] sz24 rfl rfl (fl_cons (one_av _ _ _) fl_nil) hI rfl hA rfl rfl rfl rfl fun w hI => ?_
  refine o_nil ?_
  refine hN3 _ _ ?_
  refine w_seq fun _ hN4 => ?_
  refine w_reg ?_
  refine stp hA (r_ldA (j := 0) [] [[.int .u32 1], av .u8 32 (List.replicate 32 0), av .u8 32 r3, [.int .u32 1000], [.int .u32 1], [.int .u32 0], [(.slice (some ⟨g2, 0, none⟩) 1 1)]] [] Tryd.underlying39 rfl sz39 rfl hI rfl hA rfl rfl) rfl fun a hA => 
    o_st (j := 2) [] [[.int .u32 0], av .u8 32 (List.replicate 32 0), av .u8 32 (List.replicate 32 0), [.int .u32 0], [.int .u32 0], [.int .u32 0], [(.slice none 0 0)]] [[.int .u32 1], av .u8 32 (List.replicate 32 0), av .u8 32 r3, [.int .u32 1000], [.int .u32 1], [.int .u32 0], [(.slice (some ⟨g2, 0, none⟩) 1 1)]] [] sz39 rfl rfl (fl_cons (one_one rfl) (fl_cons (one_av _ _ _) (fl_cons (one_av _ _ _) (fl_cons (one_one rfl) (fl_cons (one_one rfl) (fl_cons (one_one rfl) (fl_cons (one_one (own_one hI (j := 1) rfl)) fl_nil))))))) hI rfl hA rfl rfl rfl rfl fun w hI => ?_
  refine o_nil ?_
  refine hN4 _ _ ?_
  refine w_ret ?_
  obtain ⟨μ3, hle2, hsv2, hI⟩ := hI.freezeRow 1 rfl
  have hS2 : Slc (RTx μ3) 4 μ3 (.slice (some ⟨g2, 0, none⟩) 1 1) ([r2] : List Tx) := ⟨_, (Els.mono hE1 (fun _ _ h => RTx.le hle2 h)), hsv2⟩
  obtain rfl := Option.some.inj (bS H)
  exact retc Tryd.underlying39 rfl sz39 rfl hI (j := 1) rfl hA Tryd.results12 rfl ⟨_, rfl, (.slice (some ⟨g2, 0, none⟩) 1 1), μ3, rfl, ⟨(in_lit .u32 1 rfl), (arr_zero _ _), hz3, (in_lit .u32 1000 rfl), (in_lit .u32 1 rfl), (in_lit .u32 0 rfl), hS2⟩, (hI.sel [] (by decide) rfl)⟩
set_option maxRecDepth 20000 in
theorem block_Bytes.c (μ : Store) (w0 : World) (hμ : Agr μ w0) (x0 : Block) (u0_0 : Value) (hx0 : BlockW μ x0 u0_0) (r : List Int) (H : block_Bytes.f x0 = some r) :
    Calls Tryd.prog 25 [.agg [[.int .u32 x0.Head.Version], av .u8 32 x0.Head.Prev, av .u8 32 x0.Head.Root, [.int .u32 x0.Head.Time], [.int .u32 x0.Head.Work], [.int .u32 x0.Head.Nonce], [u0_0]].flatten.toArray].toArray w0 (fun e w' => ∃ v, e = .returned v ∧ ∃ (v0 : Value) (c0 : List Value), v = v0 ∧ Els (RI .u8) 1 r c0 ∧ Iv w0 [] μ μ [row 5 1 v0 r.length c0] w') := by
  refine enter Tryd.func25 rfl Tryd.ntmps25 rfl fun a hA => ?_
  have hI := Iv.start hμ
  have H := bI H
  refine w_seq fun _ hN1 => ?_
  refine w_reg ?_
  refine o_box [[.int .u32 x0.Head.Version], av .u8 32 x0.Head.Prev, av .u8 32 x0.Head.Root, [.int .u32 x0.Head.Time], [.int .u32 x0.Head.Work], [.int .u32 x0.Head.Nonce], [u0_0]] hI hA rfl rfl rfl fun g1 a w hA hI hg1 => 
    stp hA (r_as hA rfl) rfl fun a hA => ?_
  refine o_nil ?_
  refine hN1 _ _ ?_
  refine w_seq fun _ hN2 => ?_
  refine w_any [] mo hI fun w hI => ?_
  refine g_easy (i := 0) hA rfl rfl (by kernel_rfl) (.inr hI) (fun _ => r_fd (k := 0) Tryd.underlying39 rfl sz36 hA rfl rfl) rfl fun a hA => ?_
  refine g_take (i := 1) hA rfl rfl (by kernel_rfl) hI (fun w hI => r_ldA (j := 0) [] [[.int .u32 x0.Head.Version], av .u8 32 x0.Head.Prev, av .u8 32 x0.Head.Root, [.int .u32 x0.Head.Time], [.int .u32 x0.Head.Work], [.int .u32 x0.Head.Nonce]] [[u0_0]] Tryd.underlying36 rfl sz36 rfl hI rfl hA rfl rfl) rfl fun a hA => ?_
  refine g_easy (i := 3) hA rfl rfl (by kernel_rfl) (.inr hI) (fun _ => r_fd (k := 68) Tryd.underlying39 rfl sz37 hA rfl rfl) rfl fun a hA => ?_
  refine g_take (i := 4) hA rfl rfl (by kernel_rfl) hI (fun w hI => r_ld1 (j := 0) [[.int .u32 x0.Head.Version], av .u8 32 x0.Head.Prev, av .u8 32 x0.Head.Root, [.int .u32 x0.Head.Time], [.int .u32 x0.Head.Work], [.int .u32 x0.Head.Nonce]] [] Tryd.underlying37 rfl hI rfl hA rfl rfl) rfl fun a hA => ?_
  obtain ⟨_, hsl1⟩ := Slc.sv hx0.2.2.2.2.2.2
  refine g_easy (i := 5) hA rfl rfl (by kernel_rfl) (.inr hI) (fun _ => r_slen Tryd.underlying37 hsl1 hA rfl) rfl fun a hA => ?_
  refine g_easy (i := 6) hA rfl rfl (by kernel_rfl) (.inr hI) (fun _ => r_conv Tryd.underlying3 Tryd.underlying22 hA rfl) rfl fun a hA => ?_
  refine g_forced (i := 2) rfl (by kernel_rfl) ?_
  obtain ⟨r1, hr1, H⟩ := bB H
  refine o_call _ cf53 hA rfl (head_Bytes.c μ _ hI.agr x0.Head ⟨hx0.1, hx0.2.1, hx0.2.2.1, hx0.2.2.2.1, hx0.2.2.2.2.1, hx0.2.2.2.2.2.1⟩ r1 hr1) rfl fun v1 a w hz1 hA => ?_
  obtain ⟨_, cs1, rfl, hE1, hi1⟩ := hz1
  have hI := hI.call hi1
  refine o_nil ?_
  refine ⟨(.inr (hI.sel [1] (by decide) rfl)), ?_⟩
  refine g_forced (i := 7) rfl (by kernel_rfl) ?_
  obtain ⟨r2, hr2, H⟩ := bB H
  refine o_call (fun v w' => ∃ (v0 : Value) (c0 : List Value), v = v0 ∧ Els (RI .u8) 1 r2 c0 ∧ Iv w [] μ μ [row 5 1 v0 r2.length c0] w') cf52 hA rfl ((by obtain ⟨μ1, hle1, hsv1, hI⟩ := hI.freezeRow 0 rfl; have hS1 : Slc (RI .u8) 1 μ1 v1 r1 := ⟨_, hE1, hsv1⟩; exact (compact_Put.c μ1 _ hI.agr r1 v1 hS1 (IntKind.u64.wrap (x0.Txs.length : Int)) (wrap_in _ _) r2 hr2).mono fun _ _ ⟨v, he, b0, b1, hv, f0, hi⟩ => ⟨v, he, b0, b1, hv, f0, hi.low hle1⟩)) rfl fun v2 a w hz2 hA => ?_
  obtain ⟨_, cs2, rfl, hE2, hi2⟩ := hz2
  have hI := hI.call hi2
  refine o_nil ?_
  refine ⟨(.inr (hI.sel [2] (by decide) rfl)), ?_⟩
  refine g_easy (i := 8) hA rfl rfl (by kernel_rfl) (.inr (hI.sel [2] (by decide) rfl)) (fun _ => r_as hA rfl) rfl fun a hA => ?_
  refine g_nil (by kernel_rfl) ?_
  refine hN2 _ _ ?_
  obtain ⟨c1, hz3, Hk1⟩ := bB H
  refine w_cut (fun a w => ∃ (vvc1 : Value) (ccc1 : List Value), Els (RI .u8) 1 c1 ccc1 ∧ Fr a 27 [(0, .agg [[.int .u32 x0.Head.Version], av .u8 32 x0.Head.Prev, av .u8 32 x0.Head.Root, [.int .u32 x0.Head.Time], [.int .u32 x0.Head.Work], [.int .u32 x0.Head.Nonce], [u0_0]].flatten.toArray), (1, .pointer (some ⟨g1, 0, none⟩)), (2, (.slice none 0 0)), (3, vvc1)] ∧ Iv w0 [] μ μ [row 5 1 vvc1 c1.length ccc1, row 5 1 v1 r1.length cs1, cel g1 [[.int .u32 x0.Head.Version], av .u8 32 x0.Head.Prev, av .u8 32 x0.Head.Root, [.int .u32 x0.Head.Time], [.int .u32 x0.Head.Work], [.int .u32 x0.Head.Nonce], [u0_0]] 39] w) ?_ ?_
  · have H := bI hz3
    refine w_seq fun _ hN3 => ?_
    refine w_reg ?_
    refine stp hA (r_fd (k := 68) Tryd.underlying39 rfl sz37 hA rfl rfl) rfl fun a hA => 
      stp hA (r_ld1 (j := 2) [[.int .u32 x0.Head.Version], av .u8 32 x0.Head.Prev, av .u8 32 x0.Head.Root, [.int .u32 x0.Head.Time], [.int .u32 x0.Head.Work], [.int .u32 x0.Head.Nonce]] [] Tryd.underlying37 rfl hI rfl hA rfl rfl) rfl fun a hA => ?_
    obtain ⟨_, hsl2⟩ := Slc.sv hx0.2.2.2.2.2.2
    refine stp hA (r_slen Tryd.underlying37 hsl2 hA rfl) rfl fun a hA => 
      stp hA (r_mv hA rfl) rfl fun a hA => ?_
    refine o_nil ?_
    refine hN3 _ _ ?_
    refine w_block ?_
    obtain ⟨z1, hz4, Hk2⟩ := bind_some H
    obtain ⟨n1, hn1⟩ := loopO_some hz4
    refine w_loop (fun n a w => ∃ (s1 : List Int) (s2 : Int) (vvs1 : Value) (ccs1 : List Value), loopN (block_Bytes.s0 x0) n (s1, s2) = some z1 ∧ Els (RI .u8) 1 s1 ccs1 ∧ InR .i64 s2 ∧ Fr a 27 [(0, .agg [[.int .u32 x0.Head.Version], av .u8 32 x0.Head.Prev, av .u8 32 x0.Head.Root, [.int .u32 x0.Head.Time], [.int .u32 x0.Head.Work], [.int .u32 x0.Head.Nonce], [u0_0]].flatten.toArray), (1, .pointer (some ⟨g1, 0, none⟩)), (2, (.slice none 0 0)), (3, vvs1), (15, u0_0), (16, .int .i64 (x0.Txs.length : Int)), (17, .int .i64 s2)] ∧ Iv w0 [] μ μ [row 5 1 vvs1 s1.length ccs1, row 5 1 v1 r1.length cs1, cel g1 [[.int .u32 x0.Head.Version], av .u8 32 x0.Head.Prev, av .u8 32 x0.Head.Root, [.int .u32 x0.Head.Time], [.int .u32 x0.Head.Work], [.int .u32 x0.Head.Nonce], [u0_0]] 39] w) n1 ⟨r2, 0, v2, cs2, hn1, hE2, (in_lit .i64 0 rfl), hA.sub ⟨rfl, rfl, rfl, rfl, rfl, rfl, rfl, trivial⟩, hI⟩ ?_
    clear hA hI
    rintro n a w ⟨s1, s2, vvs1, ccs1, hn1, ws1, ws2, hA, hI⟩
    obtain ⟨m1, rfl, H⟩ := loopN_bind hn1
    clear hn1
    refine w_seq fun _ hN4 => ?_
    refine w_reg ?_
    refine stp hA (r_lss hA rfl rfl) rfl fun a hA => ?_
    refine o_nil ?_
    refine hN4 _ _ ?_
    refine w_seq fun _ hN5 => ?_
    refine w_cond hA rfl (fun hc1 => ?_) (fun hc1 => ?_)
    · have hc10 := hc1; have hc1 := of_decide_eq_true hc1; have H := bT H hc1
      refine w_skip ?_
      refine hN5 _ _ ?_
      refine w_seq fun _ hN6 => ?_
      refine w_block ?_
      refine w_seq fun _ hN7 => ?_
      refine w_reg ?_
      obtain ⟨hb1, H⟩ := bG H
      obtain ⟨_, he1, _, hat1⟩ := Slc.elem hx0.2.2.2.2.2.2 (getD_some default hb1.1 hb1.2)
      obtain ⟨v3, v4, rfl, hw1⟩ := he1
      obtain ⟨_, hsl3⟩ := Slc.sv hx0.2.2.2.2.2.2
      refine stp hA (r_six Tryd.underlying37 sz32 hsl3 hA rfl rfl hb1.1 hb1.2) rfl fun a hA => 
        stp hA (r_ldmA [] [[.int .u32 ((x0.Txs.getD s2.toNat default).Version)], [v3], [v4], [.int .u32 ((x0.Txs.getD s2.toNat default).Time)]] [] Tryd.underlying32 rfl sz32 rfl hI.agr hat1 hA rfl rfl) rfl fun a hA => 
        o_new [[.int .u32 0], [(.slice none 0 0)], [(.slice none 0 0)], [.int .u32 0]] zr32 hI hA rfl fun g2 a w hA hI hg2 => ?_
      obtain ⟨_, hsl4⟩ := Slc.sv hw1.2.1
      obtain ⟨_, hsl5⟩ := Slc.sv hw1.2.2.1
      refine o_st (j := 0) [] [[.int .u32 0], [(.slice none 0 0)], [(.slice none 0 0)], [.int .u32 0]] [[.int .u32 ((x0.Txs.getD s2.toNat default).Version)], [v3], [v4], [.int .u32 ((x0.Txs.getD s2.toNat default).Time)]] [] sz32 rfl rfl (fl_cons (one_one rfl) (fl_cons (one_one (one_sl hsl4)) (fl_cons (one_one (one_sl hsl5)) (fl_cons (one_one rfl) fl_nil)))) hI rfl hA rfl rfl rfl rfl fun w hI => ?_
      refine o_nil ?_
      refine hN7 _ _ ?_
      refine w_reg ?_
      refine stp hA (r_mv hA rfl) rfl fun a hA => 
        stp hA (r_ldA (j := 0) [] [[.int .u32 ((x0.Txs.getD s2.toNat default).Version)], [v3], [v4], [.int .u32 ((x0.Txs.getD s2.toNat default).Time)]] [] Tryd.underlying32 rfl sz32 rfl hI rfl hA rfl rfl) rfl fun a hA => ?_
      obtain ⟨r3, hr3, H⟩ := bB H
      refine o_call _ cf54 hA rfl (tx_Bytes.c μ _ hI.agr (x0.Txs.getD s2.toNat default) v3 v4 ⟨hw1.1, hw1.2.1, hw1.2.2.1, hw1.2.2.2⟩ r3 hr3) rfl fun v5 a w hz5 hA => ?_
      obtain ⟨_, cs3, rfl, hE3, hi3⟩ := hz5
      have hI := hI.call hi3
      obtain ⟨hb2, H⟩ := bG H
      have hE5 := ws1.app hE3
      refine o_appL (xs := (s1 : List Int)) (ys := (r3 : List Int)) (j := 2) te5 Tryd.underlying25 hI rfl hA rfl rfl (src_row hI (j := 0) rfl) hE3.len (hE3.ones (one_RI _)) (by first | decide | (have hq := hb2; (try simp only [List.length_cons, List.length_nil] at hq); (try simp only [List.length_cons, List.length_nil]); (try simp only [maxLen]); omega)) (by first | decide | (have hq := hb2; (try simp only [List.length_cons, List.length_nil] at hq); (try simp only [List.length_cons, List.length_nil]); (try simp only [maxLen]); omega)) rfl fun v6 a w hA hI => 
        stp hA (r_as hA rfl) rfl fun a hA => ?_
      refine o_nil ?_
      refine hN6 _ _ ?_
      refine w_reg ?_
      refine stp hA (r_add hA rfl rfl) rfl fun a hA => 
        stp hA (r_mv hA rfl) rfl fun a hA => ?_
      refine o_nil ?_
      exact ⟨m1, Nat.lt_succ_self _, s1 ++ r3, IntKind.i64.wrap (s2 + 1), v6, ccs1 ++ cs3, H, hE5, (wrap_in _ _), hA.sub ⟨rfl, rfl, rfl, rfl, rfl, rfl, rfl, trivial⟩, (hI.sel [2, 3, 4] (by decide) rfl)⟩
    · have hc10 := hc1; have hc1 := of_decide_eq_false hc1; have H := bF H hc1
      refine w_exit rfl ?_
      have H : some s1 = some z1 := H
      obtain rfl := Option.some.inj H
      have H := Hk2
      cases Option.some.inj (bS H)
      exact ⟨vvs1, ccs1, ws1, hA.sub ⟨rfl, rfl, rfl, rfl, trivial⟩, hI⟩
  · rintro a w ⟨vvc1, ccc1, wc1, hA, hI⟩
    have H := Hk1
    refine w_seq fun _ hN8 => ?_
    refine w_reg ?_
    refine stp hA (r_mv hA rfl) rfl fun a hA => 
      stp hA (r_as hA rfl) rfl fun a hA => ?_
    refine o_nil ?_
    refine hN8 _ _ ?_
    refine w_ret ?_
    obtain rfl := Option.some.inj (bS H)
    exact ret1 hA Tryd.results25 rfl ⟨_, rfl, vvc1, ccc1, rfl, wc1, ((hI.sel [0] (by decide) rfl).less (Store.le.refl _) hI.le)⟩
set_option maxRecDepth 20000 in
theorem block_Size.c (μ : Store) (w0 : World) (hμ : Agr μ w0) (x0 : Block) (u0_0 : Value) (hx0 : BlockW μ x0 u0_0) (r : Int) (H : block_Size.f x0 = some r) :
    Calls Tryd.prog 24 [.agg [[.int .u32 x0.Head.Version], av .u8 32 x0.Head.Prev, av .u8 32 x0.Head.Root, [.int .u32 x0.Head.Time], [.int .u32 x0.Head.Work], [.int .u32 x0.Head.Nonce], [u0_0]].flatten.toArray].toArray w0 (fun e w' => ∃ v, e = .returned v ∧ v = .int .i64 r ∧ InR .i64 r ∧ Iv w0 [] μ μ [] w') := by
  refine enter Tryd.func24 rfl Tryd.ntmps24 rfl fun a hA => ?_
  have hI := Iv.start hμ
  have H := bI H
  refine w_seq fun _ hN1 => ?_
  refine w_reg ?_
  refine o_box [[.int .u32 x0.Head.Version], av .u8 32 x0.Head.Prev, av .u8 32 x0.Head.Root, [.int .u32 x0.Head.Time], [.int .u32 x0.Head.Work], [.int .u32 x0.Head.Nonce], [u0_0]] hI hA rfl rfl rfl fun g1 a w hA hI hg1 => 
    stp hA (r_as hA rfl) rfl fun a hA => ?_
  refine o_nil ?_
  refine hN1 _ _ ?_
  refine w_seq fun _ hN2 => ?_
  refine w_reg ?_
  refine stp hA (r_ldA (j := 0) [] [[.int .u32 x0.Head.Version], av .u8 32 x0.Head.Prev, av .u8 32 x0.Head.Root, [.int .u32 x0.Head.Time], [.int .u32 x0.Head.Work], [.int .u32 x0.Head.Nonce], [u0_0]] [] Tryd.underlying39 rfl sz39 rfl hI rfl hA rfl rfl) rfl fun a hA => ?_
  obtain ⟨r1, hr1, H⟩ := bB H
  refine o_call _ cf25 hA rfl (block_Bytes.c μ _ hI.agr x0 u0_0 ⟨hx0.1, hx0.2.1, hx0.2.2.1, hx0.2.2.2.1, hx0.2.2.2.2.1, hx0.2.2.2.2.2.1, hx0.2.2.2.2.2.2⟩ r1 hr1) rfl fun v1 a w hz1 hA => ?_
  obtain ⟨_, cs1, rfl, hE1, hi1⟩ := hz1
  have hI := hI.call hi1
  have hlen1 := Iv.row_in hI (j := 0) rfl
  refine stp hA (r_rlen (xs := 0) Tryd.underlying25 hI (j := 0) rfl hA rfl) rfl fun a hA => 
    stp hA (r_as hA rfl) rfl fun a hA => ?_
  refine o_nil ?_
  refine hN2 _ _ ?_
  refine w_ret ?_
  obtain rfl := Option.some.inj (bS H)
  exact ret1 hA Tryd.results24 rfl ⟨_, rfl, rfl, hlen1, hI.forget0⟩
set_option maxRecDepth 20000 in
theorem block_parts.c (μ : Store) (w0 : World) (hμ : Agr μ w0) (x0 : Block) (u0_0 : Value) (hx0 : BlockW μ x0 u0_0) (e0 : Value) (he0 : ErS μ e0 (Er.b 1)) (e1 : Value) (he1 : ErS μ e1 (Er.b 2)) (e2 : Value) (he2 : ErS μ e2 (Er.b 3)) (e6 : Value) (he6 : ErS μ e6 (Er.b 7)) (e7 : Value) (he7 : ErS μ e7 (Er.b 8)) (e8 : Value) (he8 : ErS μ e8 (Er.b 9)) (r : Er) (H : block_parts.f x0 = some r) :
    Calls Tryd.prog 44 [.agg [[.int .u32 x0.Head.Version], av .u8 32 x0.Head.Prev, av .u8 32 x0.Head.Root, [.int .u32 x0.Head.Time], [.int .u32 x0.Head.Work], [.int .u32 x0.Head.Nonce], [u0_0]].flatten.toArray].toArray w0 (fun e w' => ∃ v, e = .returned v ∧ ∃ (v0 : Value) (μ' : Store), v = v0 ∧ ErS μ' v0 r ∧ Iv w0 [] μ μ' [] w') := by
  refine enter Tryd.func44 rfl Tryd.ntmps44 rfl fun a hA => ?_
  have hI := Iv.start hμ
  have H := bI H
  refine w_seq fun _ hN1 => ?_
  refine w_reg ?_
  refine o_box [[.int .u32 x0.Head.Version], av .u8 32 x0.Head.Prev, av .u8 32 x0.Head.Root, [.int .u32 x0.Head.Time], [.int .u32 x0.Head.Work], [.int .u32 x0.Head.Nonce], [u0_0]] hI hA rfl rfl rfl fun g1 a w hA hI hg1 => 
    stp hA (r_as hA rfl) rfl fun a hA => ?_
  refine o_nil ?_
  refine hN1 _ _ ?_
  refine w_seq fun _ hN2 => ?_
  refine w_seq fun _ hN3 => ?_
  refine w_reg ?_
  refine stp hA (r_fd (k := 68) Tryd.underlying39 rfl sz37 hA rfl rfl) rfl fun a hA => 
    stp hA (r_ld1 (j := 0) [[.int .u32 x0.Head.Version], av .u8 32 x0.Head.Prev, av .u8 32 x0.Head.Root, [.int .u32 x0.Head.Time], [.int .u32 x0.Head.Work], [.int .u32 x0.Head.Nonce]] [] Tryd.underlying37 rfl hI rfl hA rfl rfl) rfl fun a hA => ?_
  obtain ⟨_, hsl1⟩ := Slc.sv hx0.2.2.2.2.2.2
  refine stp hA (r_slen Tryd.underlying37 hsl1 hA rfl) rfl fun a hA => 
    stp hA (r_mv hA rfl) rfl fun a hA => ?_
  refine o_nil ?_
  refine hN3 _ _ ?_
  refine w_block ?_
  obtain ⟨z1, hz1, Hk1⟩ := bind_some H
  obtain ⟨n1, hn1⟩ := loopO_some hz1
  refine w_loop (fun n a w => ∃ (s1 : Int) (μ1 : Store), loopN (block_parts.s0 x0) n s1 = some z1 ∧ μ.le μ1 ∧ InR .i64 s1 ∧ Fr a 45 [(0, .agg [[.int .u32 x0.Head.Version], av .u8 32 x0.Head.Prev, av .u8 32 x0.Head.Root, [.int .u32 x0.Head.Time], [.int .u32 x0.Head.Work], [.int .u32 x0.Head.Nonce], [u0_0]].flatten.toArray), (1, .pointer (some ⟨g1, 0, none⟩)), (2, .nilIface), (9, u0_0), (10, .int .i64 (x0.Txs.length : Int)), (11, .int .i64 s1)] ∧ Iv w0 [] μ μ1 [cel g1 [[.int .u32 x0.Head.Version], av .u8 32 x0.Head.Prev, av .u8 32 x0.Head.Root, [.int .u32 x0.Head.Time], [.int .u32 x0.Head.Work], [.int .u32 x0.Head.Nonce], [u0_0]] 39] w) n1 ⟨0, μ, hn1, (Store.le.refl _), (in_lit .i64 0 rfl), hA.sub ⟨rfl, rfl, rfl, rfl, rfl, rfl, trivial⟩, hI⟩ ?_
  clear hA hI
  rintro n a w ⟨s1, μ1, hn1, hle1, ws1, hA, hI⟩
  obtain ⟨m1, rfl, H⟩ := loopN_bind hn1
  clear hn1
  refine w_seq fun _ hN4 => ?_
  refine w_reg ?_
  refine stp hA (r_lss hA rfl rfl) rfl fun a hA => ?_
  refine o_nil ?_
  refine hN4 _ _ ?_
  refine w_seq fun _ hN5 => ?_
  refine w_cond hA rfl (fun hc1 => ?_) (fun hc1 => ?_)
  · have hc10 := hc1; have hc1 := of_decide_eq_true hc1; have H := bT H hc1
    refine w_skip ?_
    refine hN5 _ _ ?_
    refine w_seq fun _ hN6 => ?_
    refine w_block ?_
    refine w_seq fun _ hN7 => ?_
    refine w_reg ?_
    refine stp hA (r_mv hA rfl) rfl fun a hA => ?_
    obtain ⟨hb1, H⟩ := bG H
    obtain ⟨_, he1, _, hat1⟩ := Slc.elem (Slc.le hx0.2.2.2.2.2.2 (fun _ _ h => RTx.le hle1 h) hle1) (getD_some default hb1.1 hb1.2)
    obtain ⟨v1, v2, rfl, hw1⟩ := he1
    obtain ⟨_, hsl2⟩ := Slc.sv (Slc.le hx0.2.2.2.2.2.2 (fun _ _ h => RTx.le hle1 h) hle1)
    refine stp hA (r_six Tryd.underlying37 sz32 hsl2 hA rfl rfl hb1.1 hb1.2) rfl fun a hA => 
      stp hA (r_ldmA [] [[.int .u32 ((x0.Txs.getD s1.toNat default).Version)], [v1], [v2], [.int .u32 ((x0.Txs.getD s1.toNat default).Time)]] [] Tryd.underlying32 rfl sz32 rfl hI.agr hat1 hA rfl rfl) rfl fun a hA => 
      o_new [[.int .u32 0], [(.slice none 0 0)], [(.slice none 0 0)], [.int .u32 0]] zr32 hI hA rfl fun g2 a w hA hI hg2 => 
      stp hA (r_as hA rfl) rfl fun a hA => ?_
    obtain ⟨_, hsl3⟩ := Slc.sv hw1.2.1
    obtain ⟨_, hsl4⟩ := Slc.sv hw1.2.2.1
    refine o_st (j := 0) [] [[.int .u32 0], [(.slice none 0 0)], [(.slice none 0 0)], [.int .u32 0]] [[.int .u32 ((x0.Txs.getD s1.toNat default).Version)], [v1], [v2], [.int .u32 ((x0.Txs.getD s1.toNat default).Time)]] [] sz32 rfl rfl (fl_cons (one_one rfl) (fl_cons (one_one (one_sl hsl3)) (fl_cons (one_one (one_sl hsl4)) (fl_cons (one_one rfl) fl_nil)))) hI rfl hA rfl rfl rfl rfl fun w hI => ?_
    refine o_nil ?_
    refine hN7 _ _ ?_
    refine w_seq fun _ hN8 => ?_
    refine w_reg ?_
    refine stp hA (r_ldA (j := 0) [] [[.int .u32 ((x0.Txs.getD s1.toNat default).Version)], [v1], [v2], [.int .u32 ((x0.Txs.getD s1.toNat default).Time)]] [] Tryd.underlying32 rfl sz32 rfl hI rfl hA rfl rfl) rfl fun a hA => ?_
    obtain ⟨r1, hr1, H⟩ := bB H
    refine o_call _ cf72 hA rfl (tx_Check.c μ1 _ hI.agr (x0.Txs.getD s1.toNat default) v1 v2 ⟨hw1.1, hw1.2.1, hw1.2.2.1, hw1.2.2.2⟩ e0 (ErV.le (fun _ _ h => h) hle1 he0) e1 (ErV.le (fun _ _ h => h) hle1 he1) e2 (ErV.le (fun _ _ h => h) hle1 he2) e6 (ErV.le (fun _ _ h => h) hle1 he6) e7 (ErV.le (fun _ _ h => h) hle1 he7) e8 (ErV.le (fun _ _ h => h) hle1 he8) r1 hr1) rfl fun v3 a w hz2 hA => ?_
    obtain ⟨_, μ2, rfl, hS1, hi1⟩ := hz2
    have hI := hI.call hi1
    refine stp hA (r_as hA rfl) rfl fun a hA => ?_
    refine o_nil ?_
    refine hN8 _ _ ?_
    refine w_seq fun _ hN9 => ?_
    refine w_reg ?_
    refine stp hA (r_mv hA rfl) rfl fun a hA => 
      stp hA (r_neE erF hI.agr hS1 erv_nil (.inl ⟨.inr ⟨_, rfl⟩, Er.fitR⟩) hA rfl rfl) rfl fun a hA => ?_
    refine o_nil ?_
    refine hN9 _ _ ?_
    refine w_cond hA rfl (fun hc2 => ?_) (fun hc2 => ?_)
    · have hc20 := hc2; have hc2 := of_decide_eq_true hc2; have H := bT H hc2
      refine w_seq fun _ hN10 => ?_
      refine w_reg ?_
      refine stp hA (r_mv hA rfl) rfl fun a hA => 
        stp hA (r_mv hA rfl) rfl fun a hA => 
        stp hA (r_bldS (cs := [[.int .i64 s1], [v3]].flatten.toArray) (pl := [(0, 1), (1, 1)]) zr113 Tryd.underlying113 ⟨rfl, sz3, rfl, sz51, trivial⟩ hA rfl ((fill_one rfl rfl (by kernel_rfl)).trans ((fill_one (cells_err hS1) rfl (by kernel_rfl)).trans (by kernel_rfl)))) rfl fun a hA => 
        o_box [[.int .i64 s1], [v3]] hI hA rfl rfl rfl fun g3 a w hA hI hg3 => ?_
      obtain ⟨μ3, hle2, hat2, hI⟩ := hI.freezeCel 0 rfl
      have he2 : ErS μ3 (.iface 111 (.pointer (some ⟨g3, 0, none⟩))) (Er.pl s1 r1) := ⟨g3, v3, rfl, hat2, ws1, (ErV.le (fun _ _ h => h) hle2 hS1)⟩
      refine stp hA (r_mkI Tryd.underlying111 hA rfl) rfl fun a hA => 
        stp hA (r_as hA rfl) rfl fun a hA => ?_
      refine o_nil ?_
      refine hN10 _ _ ?_
      refine w_ret ?_
      have H : some (Er.pl s1 r1) = some z1 := H
      obtain rfl := Option.some.inj H
      have H := Hk1
      obtain rfl := Option.some.inj (bS H)
      exact ret1 hA Tryd.results44 rfl ⟨_, rfl, (.iface 111 (.pointer (some ⟨g3, 0, none⟩))), μ3, rfl, he2, (hI.sel [] (by decide) rfl)⟩
    · have hc20 := hc2; have hc2 := of_decide_eq_false hc2; have H := bF H hc2
      refine w_skip ?_
      refine hN6 _ _ ?_
      refine w_reg ?_
      refine stp hA (r_add hA rfl rfl) rfl fun a hA => 
        stp hA (r_mv hA rfl) rfl fun a hA => ?_
      refine o_nil ?_
      exact ⟨m1, Nat.lt_succ_self _, IntKind.i64.wrap (s1 + 1), μ2, H, (hle1.trans hi1.le), (wrap_in _ _), hA.sub ⟨rfl, rfl, rfl, rfl, rfl, rfl, trivial⟩, (hI.sel [1] (by decide) rfl)⟩
  · have hc10 := hc1; have hc1 := of_decide_eq_false hc1; have H := bF H hc1
    refine w_exit rfl ?_
    refine hN2 _ _ ?_
    refine w_seq fun _ hN11 => ?_
    refine w_seq fun _ hN12 => ?_
    refine w_reg ?_
    refine stp hA (r_fd (k := 68) Tryd.underlying39 rfl sz37 hA rfl rfl) rfl fun a hA => 
      stp hA (r_ld1 (j := 0) [[.int .u32 x0.Head.Version], av .u8 32 x0.Head.Prev, av .u8 32 x0.Head.Root, [.int .u32 x0.Head.Time], [.int .u32 x0.Head.Work], [.int .u32 x0.Head.Nonce]] [] Tryd.underlying37 rfl hI rfl hA rfl rfl) rfl fun a hA => ?_
    obtain ⟨_, hsl5⟩ := Slc.sv (Slc.le hx0.2.2.2.2.2.2 (fun _ _ h => RTx.le hle1 h) hle1)
    refine stp hA (r_slen Tryd.underlying37 hsl5 hA rfl) rfl fun a hA => 
      stp hA (r_mv hA rfl) rfl fun a hA => ?_
    refine o_nil ?_
    refine hN12 _ _ ?_
    refine w_block ?_
    obtain ⟨z2, hz3, Hk2⟩ := bind_some H
    obtain ⟨n2, hn2⟩ := loopO_some hz3
    refine w_loop (fun n a w => ∃ (s2 : Int), loopN (block_parts.s1 x0) n s2 = some z2 ∧ InR .i64 s2 ∧ Fr a 45 [(0, .agg [[.int .u32 x0.Head.Version], av .u8 32 x0.Head.Prev, av .u8 32 x0.Head.Root, [.int .u32 x0.Head.Time], [.int .u32 x0.Head.Work], [.int .u32 x0.Head.Nonce], [u0_0]].flatten.toArray), (1, .pointer (some ⟨g1, 0, none⟩)), (2, .nilIface), (9, u0_0), (10, .int .i64 (x0.Txs.length : Int)), (11, .int .i64 s1), (12, .bool (decide (s1 < (x0.Txs.length : Int)))), (27, u0_0), (28, .int .i64 (x0.Txs.length : Int)), (29, .int .i64 s2)] ∧ Iv w0 [] μ μ1 [cel g1 [[.int .u32 x0.Head.Version], av .u8 32 x0.Head.Prev, av .u8 32 x0.Head.Root, [.int .u32 x0.Head.Time], [.int .u32 x0.Head.Work], [.int .u32 x0.Head.Nonce], [u0_0]] 39] w) n2 ⟨0, hn2, (in_lit .i64 0 rfl), hA.sub ⟨rfl, rfl, rfl, rfl, rfl, rfl, rfl, rfl, rfl, rfl, trivial⟩, hI⟩ ?_
    clear hA hI
    rintro n a w ⟨s2, hn2, ws2, hA, hI⟩
    obtain ⟨m2, rfl, H⟩ := loopN_bind hn2
    clear hn2
    refine w_seq fun _ hN13 => ?_
    refine w_reg ?_
    refine stp hA (r_lss hA rfl rfl) rfl fun a hA => ?_
    refine o_nil ?_
    refine hN13 _ _ ?_
    refine w_seq fun _ hN14 => ?_
    refine w_cond hA rfl (fun hc3 => ?_) (fun hc3 => ?_)
    · have hc30 := hc3; have hc3 := of_decide_eq_true hc3; have H := bT H hc3
      refine w_skip ?_
      refine hN14 _ _ ?_
      refine w_seq fun _ hN15 => ?_
      refine w_block ?_
      refine w_seq fun _ hN16 => ?_
      refine w_reg ?_
      refine stp hA (r_mv hA rfl) rfl fun a hA => ?_
      obtain ⟨hb2, H⟩ := bG H
      obtain ⟨_, he3, _, hat3⟩ := Slc.elem (Slc.le hx0.2.2.2.2.2.2 (fun _ _ h => RTx.le hle1 h) hle1) (getD_some default hb2.1 hb2.2)
      obtain ⟨v4, v5, rfl, hw2⟩ := he3
      obtain ⟨_, hsl6⟩ := Slc.sv (Slc.le hx0.2.2.2.2.2.2 (fun _ _ h => RTx.le hle1 h) hle1)
      refine stp hA (r_six Tryd.underlying37 sz32 hsl6 hA rfl rfl hb2.1 hb2.2) rfl fun a hA => 
        stp hA (r_ldmA [] [[.int .u32 ((x0.Txs.getD s2.toNat default).Version)], [v4], [v5], [.int .u32 ((x0.Txs.getD s2.toNat default).Time)]] [] Tryd.underlying32 rfl sz32 rfl hI.agr hat3 hA rfl rfl) rfl fun a hA => 
        o_new [[.int .u32 0], [(.slice none 0 0)], [(.slice none 0 0)], [.int .u32 0]] zr32 hI hA rfl fun g4 a w hA hI hg4 => 
        stp hA (r_as hA rfl) rfl fun a hA => ?_
      obtain ⟨_, hsl7⟩ := Slc.sv hw2.2.1
      obtain ⟨_, hsl8⟩ := Slc.sv hw2.2.2.1
      refine o_st (j := 0) [] [[.int .u32 0], [(.slice none 0 0)], [(.slice none 0 0)], [.int .u32 0]] [[.int .u32 ((x0.Txs.getD s2.toNat default).Version)], [v4], [v5], [.int .u32 ((x0.Txs.getD s2.toNat default).Time)]] [] sz32 rfl rfl (fl_cons (one_one rfl) (fl_cons (one_one (one_sl hsl7)) (fl_cons (one_one (one_sl hsl8)) (fl_cons (one_one rfl) fl_nil)))) hI rfl hA rfl rfl rfl rfl fun w hI => ?_
      refine o_nil ?_
      refine hN16 _ _ ?_
      refine w_seq fun _ hN17 => ?_
      refine w_reg ?_
      refine stp hA (r_ldA (j := 0) [] [[.int .u32 ((x0.Txs.getD s2.toNat default).Version)], [v4], [v5], [.int .u32 ((x0.Txs.getD s2.toNat default).Time)]] [] Tryd.underlying32 rfl sz32 rfl hI rfl hA rfl rfl) rfl fun a hA => ?_
      obtain ⟨r2, hr2, H⟩ := bB H
      refine o_callp (u := .bool r2) cf73 hA rfl hI (tx_Base.c μ1 _ hI.agr (x0.Txs.getD s2.toNat default) v4 v5 ⟨hw2.1, hw2.2.1, hw2.2.2.1, hw2.2.2.2⟩ r2 hr2) rfl fun a w hz4 hI hA => 
        stp hA (r_mv hA rfl) rfl fun a hA => 
        stp hA (r_eql hA rfl rfl) rfl fun a hA => 
        stp hA (r_neqb Tryd.underlying4 hA rfl rfl) rfl fun a hA => ?_
      refine o_nil ?_
      refine hN17 _ _ ?_
      refine w_cond hA rfl (fun hc4 => ?_) (fun hc4 => ?_)
      · have hc40 := hc4; have hc4 := of_decide_eq_true hc4; have H := bT H hc4
        refine w_seq fun _ hN18 => ?_
        refine w_reg ?_
        refine stp hA (r_mv hA rfl) rfl fun a hA => 
          stp hA (r_ldG Tryd.underlying51 rfl hI.agr (ErV.le (fun _ _ h => h) hle1 he6) hA) rfl fun a hA => 
          stp hA (r_bldS (cs := [[.int .i64 s2], [e6]].flatten.toArray) (pl := [(0, 1), (1, 1)]) zr113 Tryd.underlying113 ⟨rfl, sz3, rfl, sz51, trivial⟩ hA rfl ((fill_one rfl rfl (by kernel_rfl)).trans ((fill_one (cells_err (ErV.le (fun _ _ h => h) hle1 he6)) rfl (by kernel_rfl)).trans (by kernel_rfl)))) rfl fun a hA => 
          o_box [[.int .i64 s2], [e6]] hI hA rfl rfl rfl fun g5 a w hA hI hg5 => ?_
        obtain ⟨μ4, hle3, hat4, hI⟩ := hI.freezeCel 0 rfl
        have he4 : ErS μ4 (.iface 111 (.pointer (some ⟨g5, 0, none⟩))) (Er.pl s2 xErrBase) := ⟨g5, e6, rfl, hat4, ws2, (ErV.le (fun _ _ h => h) (hle1.trans hle3) he6)⟩
        refine stp hA (r_mkI Tryd.underlying111 hA rfl) rfl fun a hA => 
          stp hA (r_as hA rfl) rfl fun a hA => ?_
        refine o_nil ?_
        refine hN18 _ _ ?_
        refine w_ret ?_
        have H : some (.inr (Er.pl s2 xErrBase)) = some z2 := H
        obtain rfl := Option.some.inj H
        have H := Hk2
        have H : some (Er.pl s2 xErrBase) = some z1 := H
        obtain rfl := Option.some.inj H
        have H := Hk1
        obtain rfl := Option.some.inj (bS H)
        exact ret1 hA Tryd.results44 rfl ⟨_, rfl, (.iface 111 (.pointer (some ⟨g5, 0, none⟩))), μ4, rfl, he4, (hI.sel [] (by decide) rfl)⟩
      · have hc40 := hc4; have hc4 := of_decide_eq_false hc4; have H := bF H hc4
        refine w_skip ?_
        refine hN15 _ _ ?_
        refine w_reg ?_
        refine stp hA (r_add hA rfl rfl) rfl fun a hA => 
          stp hA (r_mv hA rfl) rfl fun a hA => ?_
        refine o_nil ?_
        exact ⟨m2, Nat.lt_succ_self _, IntKind.i64.wrap (s2 + 1), H, (wrap_in _ _), hA.sub ⟨rfl, rfl, rfl, rfl, rfl, rfl, rfl, rfl, rfl, rfl, trivial⟩, (hI.sel [1] (by decide) rfl)⟩
    · have hc30 := hc3; have hc3 := of_decide_eq_false hc3; have H := bF H hc3
      refine w_exit rfl ?_
      refine hN11 _ _ ?_
      refine w_seq fun _ hN19 => ?_
      refine w_reg ?_
      refine stp hA (r_as hA rfl) rfl fun a hA => ?_
      refine o_nil ?_
      refine hN19 _ _ ?_
      refine w_ret ?_
      have H : some (.inr (Er.b 0)) = some z2 := H
      obtain rfl := Option.some.inj H
      have H := Hk2
      have H : some (Er.b 0) = some z1 := H
      obtain rfl := Option.some.inj H
      have H := Hk1
      obtain rfl := Option.some.inj (bS H)
      exact ret1 hA Tryd.results44 rfl ⟨_, rfl, .nilIface, μ1, rfl, erv_nil, (hI.sel [] (by decide) rfl)⟩
set_option maxRecDepth 20000 in
theorem block_twice.c (μ : Store) (w0 : World) (hμ : Agr μ w0) (x0 : Block) (u0_0 : Value) (hx0 : BlockW μ x0 u0_0) (r : Bool) (H : block_twice.f x0 = some r) :
    Calls Tryd.prog 45 [.agg [[.int .u32 x0.Head.Version], av .u8 32 x0.Head.Prev, av .u8 32 x0.Head.Root, [.int .u32 x0.Head.Time], [.int .u32 x0.Head.Work], [.int .u32 x0.Head.Nonce], [u0_0]].flatten.toArray].toArray w0 (fun e w' => ∃ v, e = .returned v ∧ v = .bool r ∧ True ∧ Iv w0 [] μ μ [] w') := by
  refine enter Tryd.func45 rfl Tryd.ntmps45 rfl fun a hA => ?_
  have hI := Iv.start hμ
  have H := bI H
  refine w_seq fun _ hN1 => ?_
  refine w_reg ?_
  refine o_box [[.int .u32 x0.Head.Version], av .u8 32 x0.Head.Prev, av .u8 32 x0.Head.Root, [.int .u32 x0.Head.Time], [.int .u32 x0.Head.Work], [.int .u32 x0.Head.Nonce], [u0_0]] hI hA rfl rfl rfl fun g1 a w hA hI hg1 => 
    stp hA (r_as hA rfl) rfl fun a hA => ?_
  refine o_nil ?_
  refine hN1 _ _ ?_
  refine w_seq fun _ hN2 => ?_
  refine w_reg ?_
  refine o_mkmap kv114 vv114 hI hA rfl fun g2 a w hI hA => 
    o_mkmap kv115 vv115 hI hA rfl fun g3 a w hI hA => 
    stp hA (r_as hA rfl) rfl fun a hA => 
    stp hA (r_as hA rfl) rfl fun a hA => ?_
  refine o_nil ?_
  refine hN2 _ _ ?_
  refine w_seq fun _ hN3 => ?_
  refine w_seq fun _ hN4 => ?_
  refine w_reg ?_
  refine stp hA (r_ldA (j := 2) [] [[.int .u32 x0.Head.Version], av .u8 32 x0.Head.Prev, av .u8 32 x0.Head.Root, [.int .u32 x0.Head.Time], [.int .u32 x0.Head.Work], [.int .u32 x0.Head.Nonce], [u0_0]] [] Tryd.underlying39 rfl sz39 rfl hI rfl hA rfl rfl) rfl fun a hA => ?_
  obtain ⟨r1, hr1, H⟩ := bB H
  refine o_call _ cf29 hA rfl (block_IDs.c μ _ hI.agr x0 u0_0 ⟨hx0.1, hx0.2.1, hx0.2.2.1, hx0.2.2.2.1, hx0.2.2.2.2.1, hx0.2.2.2.2.2.1, hx0.2.2.2.2.2.2⟩ r1 hr1) rfl fun v1 a w hz1 hA => ?_
  obtain ⟨_, cs1, rfl, hE1, hi1⟩ := hz1
  have hI := hI.call hi1
  have hlen1 := Iv.row_in hI (j := 0) rfl
  refine stp hA (r_rlen (xs := 0) Tryd.underlying71 hI (j := 0) rfl hA rfl) rfl fun a hA => 
    stp hA (r_mv hA rfl) rfl fun a hA => ?_
  refine o_nil ?_
  refine hN4 _ _ ?_
  refine w_block ?_
  obtain ⟨z1, hz2, Hk1⟩ := bind_some H
  obtain ⟨n1, hn1⟩ := loopO_some hz2
  refine w_loop (fun n a w => ∃ (s1 : Int) (s2 : List (Point × Bool)) (s3 : List ((List Int) × Bool)), loopN (block_twice.s0 x0 r1) n (s1, s2, s3) = some z1 ∧ InR .i64 s1 ∧ mw115 s2 ∧ mw114 s3 ∧ Fr a 44 [(0, .agg [[.int .u32 x0.Head.Version], av .u8 32 x0.Head.Prev, av .u8 32 x0.Head.Root, [.int .u32 x0.Head.Time], [.int .u32 x0.Head.Work], [.int .u32 x0.Head.Nonce], [u0_0]].flatten.toArray), (1, .pointer (some ⟨g1, 0, none⟩)), (2, .bool false), (3, .map (some g2)), (4, .map (some g3)), (12, v1), (13, .int .i64 (r1.length : Int)), (14, .int .i64 s1)] ∧ Iv w0 [] μ μ [row 24 32 v1 r1.length cs1, mpI g3 (ent kv115 vv115 s2), mpI g2 (ent kv114 vv114 s3), cel g1 [[.int .u32 x0.Head.Version], av .u8 32 x0.Head.Prev, av .u8 32 x0.Head.Root, [.int .u32 x0.Head.Time], [.int .u32 x0.Head.Work], [.int .u32 x0.Head.Nonce], [u0_0]] 39] w) n1 ⟨0, ([] : List (Point × Bool)), ([] : List ((List Int) × Bool)), hn1, (in_lit .i64 0 rfl), mw_nil, mw_nil, hA.sub ⟨rfl, rfl, rfl, rfl, rfl, rfl, rfl, rfl, trivial⟩, hI⟩ ?_
  clear hA hI
  rintro n a w ⟨s1, s2, s3, hn1, ws1, ws2, ws3, hA, hI⟩
  obtain ⟨m1, rfl, H⟩ := loopN_bind hn1
  clear hn1
  refine w_seq fun _ hN5 => ?_
  refine w_reg ?_
  refine stp hA (r_lss hA rfl rfl) rfl fun a hA => ?_
  refine o_nil ?_
  refine hN5 _ _ ?_
  refine w_seq fun _ hN6 => ?_
  refine w_cond hA rfl (fun hc1 => ?_) (fun hc1 => ?_)
  · have hc10 := hc1; have hc1 := of_decide_eq_true hc1; have H := bT H hc1
    refine w_skip ?_
    refine hN6 _ _ ?_
    refine w_seq fun _ hN7 => ?_
    refine w_block ?_
    refine w_seq fun _ hN8 => ?_
    refine w_reg ?_
    refine stp hA (r_mv hA rfl) rfl fun a hA => ?_
    obtain ⟨hb1, H⟩ := bG H
    refine stp hA (r_rix (j := 0) Tryd.underlying71 sz24 hI rfl hA rfl rfl hb1.1 hb1.2) rfl fun a hA => ?_
    obtain ⟨A1, _, B1, hc2, hl1, _, he1⟩ := Els.at_ hE1 (getD_some [] hb1.1 hb1.2)
    obtain ⟨rfl, hw1⟩ := he1
    refine stp hA (r_rldP (j := 0) (q := s1.toNat * 32) (off := 0) A1 B1 [] [av .u8 32 (r1.getD s1.toNat [])] [] hc2 hl1 rfl Tryd.underlying24 rfl sz24 rfl hI rfl hA rfl) rfl fun a hA => 
      o_new [av .u8 32 (List.replicate 32 0)] zr24 hI hA rfl fun g4 a w hA hI hg4 => 
      stp hA (r_as hA rfl) rfl fun a hA => 
      o_st (j := 0) [] [av .u8 32 (List.replicate 32 0)] [av .u8 32 (r1.getD s1.toNat [])] [] sz24 rfl rfl (fl_cons (one_av _ _ _) fl_nil) hI rfl hA rfl rfl rfl rfl fun w hI => ?_
    refine o_nil ?_
    refine hN8 _ _ ?_
    refine w_seq fun _ hN9 => ?_
    refine w_seq fun _ hN10 => ?_
    refine w_reg ?_
    refine stp hA (r_mv hA rfl) rfl fun a hA => 
      stp hA (r_ldA (j := 0) [] [av .u8 32 (r1.getD s1.toNat [])] [] Tryd.underlying24 rfl sz24 rfl hI rfl hA rfl rfl) rfl fun a hA => 
      stp hA (r_look (j := 3) kn114 Tryd.underlying114 mz114 ws3 hw1 hI rfl hA rfl rfl) rfl fun a hA => ?_
    refine o_nil ?_
    refine hN10 _ _ ?_
    refine w_cond hA rfl (fun hc3 => ?_) (fun hc3 => ?_)
    · have hc30 := hc3; have H := bT H hc3
      refine w_seq fun _ hN11 => ?_
      refine w_reg ?_
      refine stp hA (r_as hA rfl) rfl fun a hA => ?_
      refine o_nil ?_
      refine hN11 _ _ ?_
      refine w_ret ?_
      have H : some true = some z1 := H
      obtain rfl := Option.some.inj H
      have H := Hk1
      obtain rfl := Option.some.inj (bS H)
      exact ret1 hA Tryd.results45 rfl ⟨_, rfl, rfl, trivial, hI.forget0⟩
    · have hc30 := hc3; have hc3 := ft hc3; have H := bF H hc3
      refine w_skip ?_
      refine hN9 _ _ ?_
      refine w_seq fun _ hN12 => ?_
      refine w_reg ?_
      refine stp hA (r_mv hA rfl) rfl fun a hA => 
        stp hA (r_ldA (j := 0) [] [av .u8 32 (r1.getD s1.toNat [])] [] Tryd.underlying24 rfl sz24 rfl hI rfl hA rfl rfl) rfl fun a hA => 
        o_mput (j := 3) (k := (r1.getD s1.toNat [])) true kn114 Tryd.underlying114 ws3 hw1 hI rfl hA rfl rfl rfl fun w hI => ?_
      refine o_nil ?_
      refine hN12 _ _ ?_
      refine w_seq fun _ hN13 => ?_
      refine w_reg ?_
      refine stp hA (r_fd (k := 68) Tryd.underlying39 rfl sz37 hA rfl rfl) rfl fun a hA => 
        stp hA (r_ld1 (j := 4) [[.int .u32 x0.Head.Version], av .u8 32 x0.Head.Prev, av .u8 32 x0.Head.Root, [.int .u32 x0.Head.Time], [.int .u32 x0.Head.Work], [.int .u32 x0.Head.Nonce]] [] Tryd.underlying37 rfl hI rfl hA rfl rfl) rfl fun a hA => 
        stp hA (r_mv hA rfl) rfl fun a hA => ?_
      obtain ⟨hb2, H⟩ := bG H
      obtain ⟨_, he2, _, hat1⟩ := Slc.elem hx0.2.2.2.2.2.2 (getD_some default hb2.1 hb2.2)
      obtain ⟨v2, v3, rfl, hw2⟩ := he2
      obtain ⟨_, hsl1⟩ := Slc.sv hx0.2.2.2.2.2.2
      refine stp hA (r_six Tryd.underlying37 sz32 hsl1 hA rfl rfl hb2.1 hb2.2) rfl fun a hA => 
        stp hA (r_fd (k := so u0_0 + s1.toNat * 4 + 1) Tryd.underlying32 rfl sz29 hA rfl rfl) rfl fun a hA => 
        stp hA (r_ldm1 [[.int .u32 ((x0.Txs.getD s1.toNat default).Version)]] [[v3], [.int .u32 ((x0.Txs.getD s1.toNat default).Time)]] Tryd.underlying29 rfl hI.agr hat1 hA rfl rfl) rfl fun a hA => ?_
      obtain ⟨_, hsl2⟩ := Slc.sv hw2.2.1
      refine stp hA (r_slen Tryd.underlying29 hsl2 hA rfl) rfl fun a hA => 
        stp hA (r_mv hA rfl) rfl fun a hA => ?_
      refine o_nil ?_
      refine hN13 _ _ ?_
      refine w_block ?_
      obtain ⟨z2, hz3, Hk2⟩ := bind_some H
      obtain ⟨n2, hn2⟩ := loopO_some hz3
      refine w_loop (fun n a w => ∃ (s4 : Int) (s5 : List (Point × Bool)), loopN (block_twice.s1 x0 r1 s1 s3) n (s4, s5) = some z2 ∧ InR .i64 s4 ∧ mw115 s5 ∧ Fr a 44 [(0, .agg [[.int .u32 x0.Head.Version], av .u8 32 x0.Head.Prev, av .u8 32 x0.Head.Root, [.int .u32 x0.Head.Time], [.int .u32 x0.Head.Work], [.int .u32 x0.Head.Nonce], [u0_0]].flatten.toArray), (1, .pointer (some ⟨g1, 0, none⟩)), (2, .bool false), (3, .map (some g2)), (4, .map (some g3)), (5, .int .i64 s1), (6, .pointer (some ⟨g4, 0, none⟩)), (12, v1), (13, .int .i64 (r1.length : Int)), (14, .int .i64 s1), (15, .bool (decide (s1 < (r1.length : Int)))), (21, .bool ((mget s3 (r1.getD s1.toNat [])).getD false)), (29, v2), (30, .int .i64 (((x0.Txs.getD s1.toNat default).Ins).length : Int)), (31, .int .i64 s4)] ∧ Iv w0 [] μ μ [cel g4 [av .u8 32 (r1.getD s1.toNat [])] 24, row 24 32 v1 r1.length cs1, mpI g3 (ent kv115 vv115 s5), mpI g2 (ent kv114 vv114 (mput s3 (r1.getD s1.toNat []) true)), cel g1 [[.int .u32 x0.Head.Version], av .u8 32 x0.Head.Prev, av .u8 32 x0.Head.Root, [.int .u32 x0.Head.Time], [.int .u32 x0.Head.Work], [.int .u32 x0.Head.Nonce], [u0_0]] 39] w) n2 ⟨0, s2, hn2, (in_lit .i64 0 rfl), ws2, hA.sub ⟨rfl, rfl, rfl, rfl, rfl, rfl, rfl, rfl, rfl, rfl, rfl, rfl, rfl, rfl, rfl, trivial⟩, hI⟩ ?_
      clear hA hI
      rintro n a w ⟨s4, s5, hn2, ws4, ws5, hA, hI⟩
      obtain ⟨m2, rfl, H⟩ := loopN_bind hn2
      clear hn2
      refine w_seq fun _ hN14 => ?_
      refine w_reg ?_
      refine stp hA (r_lss hA rfl rfl) rfl fun a hA => ?_
      refine o_nil ?_
      refine hN14 _ _ ?_
      refine w_seq fun _ hN15 => ?_
      refine w_cond hA rfl (fun hc4 => ?_) (fun hc4 => ?_)
      · have hc40 := hc4; have hc4 := of_decide_eq_true hc4; have H := bT H hc4
        refine w_skip ?_
        refine hN15 _ _ ?_
        refine w_seq fun _ hN16 => ?_
        refine w_block ?_
        refine w_seq fun _ hN17 => ?_
        refine w_reg ?_
        obtain ⟨hb3, H⟩ := bG H
        obtain ⟨_, he3, _, hat2⟩ := Slc.elem hw2.2.1 (getD_some default hb3.1 hb3.2)
        obtain ⟨v4, rfl, hw3⟩ := he3
        obtain ⟨_, hsl3⟩ := Slc.sv hw2.2.1
        refine stp hA (r_six Tryd.underlying29 sz46 hsl3 hA rfl rfl hb3.1 hb3.2) rfl fun a hA => 
          stp hA (r_ldmA [] [av .u8 32 ((((x0.Txs.getD s1.toNat default).Ins).getD s4.toNat default).From.Tx), [.int .u32 ((((x0.Txs.getD s1.toNat default).Ins).getD s4.toNat default).From.N)], [v4], [.int .u32 ((((x0.Txs.getD s1.toNat default).Ins).getD s4.toNat default).Seq)]] [] Tryd.underlying46 rfl sz46 rfl hI.agr hat2 hA rfl rfl) rfl fun a hA => 
          o_new [av .u8 32 (List.replicate 32 0), [.int .u32 0], [(.slice none 0 0)], [.int .u32 0]] zr46 hI hA rfl fun g5 a w hA hI hg5 => ?_
        obtain ⟨_, hsl4⟩ := Slc.sv hw3.2.2.1
        refine o_st (j := 0) [] [av .u8 32 (List.replicate 32 0), [.int .u32 0], [(.slice none 0 0)], [.int .u32 0]] [av .u8 32 ((((x0.Txs.getD s1.toNat default).Ins).getD s4.toNat default).From.Tx), [.int .u32 ((((x0.Txs.getD s1.toNat default).Ins).getD s4.toNat default).From.N)], [v4], [.int .u32 ((((x0.Txs.getD s1.toNat default).Ins).getD s4.toNat default).Seq)]] [] sz46 rfl rfl (fl_cons (one_av _ _ _) (fl_cons (one_one rfl) (fl_cons (one_one (one_sl hsl4)) (fl_cons (one_one rfl) fl_nil)))) hI rfl hA rfl rfl rfl rfl fun w hI => ?_
        refine o_nil ?_
        refine hN17 _ _ ?_
        refine w_seq fun _ hN18 => ?_
        refine w_seq fun _ hN19 => ?_
        refine w_reg ?_
        refine stp hA (r_mv hA rfl) rfl fun a hA => 
          stp hA (r_fd (k := 0) Tryd.underlying46 rfl sz44 hA rfl rfl) rfl fun a hA => 
          stp hA (r_ldA (j := 0) [] [av .u8 32 ((((x0.Txs.getD s1.toNat default).Ins).getD s4.toNat default).From.Tx), [.int .u32 ((((x0.Txs.getD s1.toNat default).Ins).getD s4.toNat default).From.N)]] [[v4], [.int .u32 ((((x0.Txs.getD s1.toNat default).Ins).getD s4.toNat default).Seq)]] Tryd.underlying44 rfl sz44 rfl hI rfl hA rfl rfl) rfl fun a hA => 
          stp hA (r_look (j := 3) kn115 Tryd.underlying115 mz115 ws5 ⟨hw3.1, hw3.2.1⟩ hI rfl hA rfl rfl) rfl fun a hA => ?_
        refine o_nil ?_
        refine hN19 _ _ ?_
        refine w_cond hA rfl (fun hc5 => ?_) (fun hc5 => ?_)
        · have hc50 := hc5; have H := bT H hc5
          refine w_seq fun _ hN20 => ?_
          refine w_reg ?_
          refine stp hA (r_as hA rfl) rfl fun a hA => ?_
          refine o_nil ?_
          refine hN20 _ _ ?_
          refine w_ret ?_
          have H : some (.inr true) = some z2 := H
          obtain rfl := Option.some.inj H
          have H := Hk2
          have H : some true = some z1 := H
          obtain rfl := Option.some.inj H
          have H := Hk1
          obtain rfl := Option.some.inj (bS H)
          exact ret1 hA Tryd.results45 rfl ⟨_, rfl, rfl, trivial, hI.forget0⟩
        · have hc50 := hc5; have hc5 := ft hc5; have H := bF H hc5
          refine w_skip ?_
          refine hN18 _ _ ?_
          refine w_reg ?_
          refine stp hA (r_mv hA rfl) rfl fun a hA => 
            stp hA (r_fd (k := 0) Tryd.underlying46 rfl sz44 hA rfl rfl) rfl fun a hA => 
            stp hA (r_ldA (j := 0) [] [av .u8 32 ((((x0.Txs.getD s1.toNat default).Ins).getD s4.toNat default).From.Tx), [.int .u32 ((((x0.Txs.getD s1.toNat default).Ins).getD s4.toNat default).From.N)]] [[v4], [.int .u32 ((((x0.Txs.getD s1.toNat default).Ins).getD s4.toNat default).Seq)]] Tryd.underlying44 rfl sz44 rfl hI rfl hA rfl rfl) rfl fun a hA => 
            o_mput (j := 3) (k := ((((x0.Txs.getD s1.toNat default).Ins).getD s4.toNat default).From)) true kn115 Tryd.underlying115 ws5 ⟨hw3.1, hw3.2.1⟩ hI rfl hA rfl rfl rfl fun w hI => ?_
          refine o_nil ?_
          refine hN16 _ _ ?_
          refine w_reg ?_
          refine stp hA (r_add hA rfl rfl) rfl fun a hA => 
            stp hA (r_mv hA rfl) rfl fun a hA => ?_
          refine o_nil ?_
          exact ⟨m2, Nat.lt_succ_self _, IntKind.i64.wrap (s4 + 1), mput s5 ((((x0.Txs.getD s1.toNat default).Ins).getD s4.toNat default).From) true, H, (wrap_in _ _), (MW.put ws5 ⟨hw3.1, hw3.2.1⟩ trivial), hA.sub ⟨rfl, rfl, rfl, rfl, rfl, rfl, rfl, rfl, rfl, rfl, rfl, rfl, rfl, rfl, rfl, trivial⟩, (hI.sel [1, 2, 3, 4, 5] (by decide) rfl)⟩
      · have hc40 := hc4; have hc4 := of_decide_eq_false hc4; have H := bF H hc4
        refine w_exit rfl ?_
        refine hN7 _ _ ?_
        refine w_reg ?_
        refine stp hA (r_add hA rfl rfl) rfl fun a hA => 
          stp hA (r_mv hA rfl) rfl fun a hA => ?_
        refine o_nil ?_
        have H : some (.inl (IntKind.i64.wrap (s1 + 1), s5, mput s3 (r1.getD s1.toNat []) true)) = some z2 := H
        obtain rfl := Option.some.inj H
        have H := Hk2
        exact ⟨m1, Nat.lt_succ_self _, IntKind.i64.wrap (s1 + 1), s5, mput s3 (r1.getD s1.toNat []) true, H, (wrap_in _ _), ws5, (MW.put ws3 hw1 trivial), hA.sub ⟨rfl, rfl, rfl, rfl, rfl, rfl, rfl, rfl, trivial⟩, (hI.sel [1, 2, 3, 4] (by decide) rfl)⟩
  · have hc10 := hc1; have hc1 := of_decide_eq_false hc1; have H := bF H hc1
    refine w_exit rfl ?_
    refine hN3 _ _ ?_
    refine w_seq fun _ hN21 => ?_
    refine w_reg ?_
    refine stp hA (r_as hA rfl) rfl fun a hA => ?_
    refine o_nil ?_
    refine hN21 _ _ ?_
    refine w_ret ?_
    have H : some false = some z1 := H
    obtain rfl := Option.some.inj H
    have H := Hk1
    obtain rfl := Option.some.inj (bS H)
    exact ret1 hA Tryd.results45 rfl ⟨_, rfl, rfl, trivial, hI.forget0⟩
set_option maxRecDepth 20000 in
theorem block_Check.c (μ : Store) (w0 : World) (hμ : Agr μ w0) (x0 : Block) (u0_0 : Value) (hx0 : BlockW μ x0 u0_0) (e0 : Value) (he0 : ErS μ e0 (Er.b 1)) (e1 : Value) (he1 : ErS μ e1 (Er.b 2)) (e2 : Value) (he2 : ErS μ e2 (Er.b 3)) (e3 : Value) (he3 : ErS μ e3 (Er.b 4)) (e5 : Value) (he5 : ErS μ e5 (Er.b 6)) (e6 : Value) (he6 : ErS μ e6 (Er.b 7)) (e7 : Value) (he7 : ErS μ e7 (Er.b 8)) (e8 : Value) (he8 : ErS μ e8 (Er.b 9)) (r : Er) (H : block_Check.f x0 = some r) :
    Calls Tryd.prog 16 [.agg [[.int .u32 x0.Head.Version], av .u8 32 x0.Head.Prev, av .u8 32 x0.Head.Root, [.int .u32 x0.Head.Time], [.int .u32 x0.Head.Work], [.int .u32 x0.Head.Nonce], [u0_0]].flatten.toArray].toArray w0 (fun e w' => ∃ v, e = .returned v ∧ ∃ (v0 : Value) (μ' : Store), v = v0 ∧ ErS μ' v0 r ∧ Iv w0 [] μ μ' [] w') := by
  refine enter Tryd.func16 rfl Tryd.ntmps16 rfl fun a hA => ?_
  have hI := Iv.start hμ
  have H := bI H
  refine w_seq fun _ hN1 => ?_
  refine w_reg ?_
  refine o_box [[.int .u32 x0.Head.Version], av .u8 32 x0.Head.Prev, av .u8 32 x0.Head.Root, [.int .u32 x0.Head.Time], [.int .u32 x0.Head.Work], [.int .u32 x0.Head.Nonce], [u0_0]] hI hA rfl rfl rfl fun g1 a w hA hI hg1 => 
    stp hA (r_as hA rfl) rfl fun a hA => ?_
  refine o_nil ?_
  refine hN1 _ _ ?_
  refine w_seq fun _ hN2 => ?_
  refine w_seq fun _ hN3 => ?_
  refine w_reg ?_
  refine stp hA (r_fd (k := 0) Tryd.underlying39 rfl sz36 hA rfl rfl) rfl fun a hA => 
    stp hA (r_ldA (j := 0) [] [[.int .u32 x0.Head.Version], av .u8 32 x0.Head.Prev, av .u8 32 x0.Head.Root, [.int .u32 x0.Head.Time], [.int .u32 x0.Head.Work], [.int .u32 x0.Head.Nonce]] [[u0_0]] Tryd.underlying36 rfl sz36 rfl hI rfl hA rfl rfl) rfl fun a hA => ?_
  obtain ⟨r1, hr1, H⟩ := bB H
  refine o_call _ cf43 hA rfl (head_Check.c μ _ hI.agr x0.Head ⟨hx0.1, hx0.2.1, hx0.2.2.1, hx0.2.2.2.1, hx0.2.2.2.2.1, hx0.2.2.2.2.2.1⟩ e5 he5 r1 hr1) rfl fun v1 a w hz1 hA => ?_
  obtain ⟨_, μ1, rfl, hS1, hi1⟩ := hz1
  have hI := hI.call hi1
  refine stp hA (r_as hA rfl) rfl fun a hA => ?_
  refine o_nil ?_
  refine hN3 _ _ ?_
  refine w_seq fun _ hN4 => ?_
  refine w_reg ?_
  refine stp hA (r_mv hA rfl) rfl fun a hA => 
    stp hA (r_neE erF hI.agr hS1 erv_nil (.inl ⟨.inr ⟨_, rfl⟩, Er.fitR⟩) hA rfl rfl) rfl fun a hA => ?_
  refine o_nil ?_
  refine hN4 _ _ ?_
  refine w_cond hA rfl (fun hc1 => ?_) (fun hc1 => ?_)
  · have hc10 := hc1; have hc1 := of_decide_eq_true hc1; have H := bT H hc1
    refine w_seq fun _ hN5 => ?_
    refine w_reg ?_
    refine stp hA (r_mv hA rfl) rfl fun a hA => 
      stp hA (r_as hA rfl) rfl fun a hA => ?_
    refine o_nil ?_
    refine hN5 _ _ ?_
    refine w_ret ?_
    obtain rfl := Option.some.inj (bS H)
    exact ret1 hA Tryd.results16 rfl ⟨_, rfl, v1, μ1, rfl, hS1, (hI.sel [] (by decide) rfl)⟩
  · have hc10 := hc1; have hc1 := of_decide_eq_false hc1; have H := bF H hc1
    refine w_skip ?_
    refine hN2 _ _ ?_
    refine w_seq fun _ hN6 => ?_
    refine w_block ?_
    obtain ⟨c1, hz2, Hk1⟩ := bB H
    refine w_cut (fun a w => Fr a 45 [(0, .agg [[.int .u32 x0.Head.Version], av .u8 32 x0.Head.Prev, av .u8 32 x0.Head.Root, [.int .u32 x0.Head.Time], [.int .u32 x0.Head.Work], [.int .u32 x0.Head.Nonce], [u0_0]].flatten.toArray), (1, .pointer (some ⟨g1, 0, none⟩)), (2, .nilIface), (3, v1), (9, .bool (decide (r1 ≠ (Er.b 0)))), (11, .bool c1)] ∧ Iv w0 [] μ μ1 [cel g1 [[.int .u32 x0.Head.Version], av .u8 32 x0.Head.Prev, av .u8 32 x0.Head.Root, [.int .u32 x0.Head.Time], [.int .u32 x0.Head.Work], [.int .u32 x0.Head.Nonce], [u0_0]] 39] w) ?_ ?_
    · have H := bI hz2
      refine w_reg ?_
      refine stp hA (r_fd (k := 68) Tryd.underlying39 rfl sz37 hA rfl rfl) rfl fun a hA => 
        stp hA (r_ld1 (j := 0) [[.int .u32 x0.Head.Version], av .u8 32 x0.Head.Prev, av .u8 32 x0.Head.Root, [.int .u32 x0.Head.Time], [.int .u32 x0.Head.Work], [.int .u32 x0.Head.Nonce]] [] Tryd.underlying37 rfl hI rfl hA rfl rfl) rfl fun a hA => ?_
      obtain ⟨_, hsl1⟩ := Slc.sv (Slc.le hx0.2.2.2.2.2.2 (fun _ _ h => RTx.le hi1.le h) hi1.le)
      refine stp hA (r_slen Tryd.underlying37 hsl1 hA rfl) rfl fun a hA => 
        stp hA (r_eql hA rfl rfl) rfl fun a hA => 
        stp hA (r_mv hA rfl) rfl fun a hA => ?_
      rcases Bool.eq_false_or_eq_true (decide ((x0.Txs.length : Int) = 0)) with hc2 | hc2
      · have hc20 := hc2; have hc2 := of_decide_eq_true hc2; have H := bT H hc2
        refine o_no hA rfl rfl (by rw [hc20]; simp [vb]) rfl fun a hA => 
          o_no hA rfl rfl (by rw [hc20]; simp [vb]) rfl fun a hA => 
          o_no hA rfl rfl (by rw [hc20]; simp [vb]) rfl fun a hA => 
          o_no hA rfl rfl (by rw [hc20]; simp [vb]) rfl fun a hA => 
          stp hA (r_pick_t hA rfl hc20 rfl) rfl fun a hA => 
          stp hA (r_as hA rfl) rfl fun a hA => ?_
        refine o_nil ?_
        cases Option.some.inj (bS H)
        exact ⟨hA.sub ⟨rfl, rfl, rfl, rfl, rfl, rfl, trivial⟩, hI⟩
      · have hc20 := hc2; have hc2 := of_decide_eq_false hc2; have H := bF H hc2
        refine o_yes hA rfl rfl hc20 <| 
          stp hA (r_fd (k := 68) Tryd.underlying39 rfl sz37 hA rfl rfl) rfl fun a hA => 
          o_yes hA rfl rfl hc20 <| 
          stp hA (r_ld1 (j := 0) [[.int .u32 x0.Head.Version], av .u8 32 x0.Head.Prev, av .u8 32 x0.Head.Root, [.int .u32 x0.Head.Time], [.int .u32 x0.Head.Work], [.int .u32 x0.Head.Nonce]] [] Tryd.underlying37 rfl hI rfl hA rfl rfl) rfl fun a hA => 
          o_yes hA rfl rfl hc20 <| ?_
        obtain ⟨_, hsl2⟩ := Slc.sv (Slc.le hx0.2.2.2.2.2.2 (fun _ _ h => RTx.le hi1.le h) hi1.le)
        refine stp hA (r_slen Tryd.underlying37 hsl2 hA rfl) rfl fun a hA => 
          o_yes hA rfl rfl hc20 <| 
          stp hA (r_gtr hA rfl rfl) rfl fun a hA => 
          stp hA (r_pick_f hA rfl hc20 rfl) rfl fun a hA => 
          stp hA (r_as hA rfl) rfl fun a hA => ?_
        refine o_nil ?_
        cases Option.some.inj (bS H)
        exact ⟨hA.sub ⟨rfl, rfl, rfl, rfl, rfl, rfl, trivial⟩, hI⟩
    · rintro a w ⟨hA, hI⟩
      have H := Hk1
      refine w_cond hA rfl (fun hc3 => ?_) (fun hc3 => ?_)
      · have hc30 := hc3; have H := bT H hc3
        refine w_seq fun _ hN7 => ?_
        refine w_reg ?_
        refine stp hA (r_ldG Tryd.underlying51 rfl hI.agr (ErV.le (fun _ _ h => h) hi1.le he0) hA) rfl fun a hA => 
          stp hA (r_as hA rfl) rfl fun a hA => ?_
        refine o_nil ?_
        refine hN7 _ _ ?_
        refine w_ret ?_
        obtain rfl := Option.some.inj (bS H)
        exact ret1 hA Tryd.results16 rfl ⟨_, rfl, e0, μ1, rfl, (ErV.le (fun _ _ h => h) hi1.le he0), (hI.sel [] (by decide) rfl)⟩
      · have hc30 := hc3; have hc3 := ft hc3; have H := bF H hc3
        refine w_seq fun _ hN8 => ?_
        refine w_reg ?_
        refine stp hA (r_ldA (j := 0) [] [[.int .u32 x0.Head.Version], av .u8 32 x0.Head.Prev, av .u8 32 x0.Head.Root, [.int .u32 x0.Head.Time], [.int .u32 x0.Head.Work], [.int .u32 x0.Head.Nonce], [u0_0]] [] Tryd.underlying39 rfl sz39 rfl hI rfl hA rfl rfl) rfl fun a hA => ?_
        obtain ⟨r2, hr2, H⟩ := bB H
        refine o_callp (u := .int .i64 r2) cf24 hA rfl hI (block_Size.c μ1 _ hI.agr x0 u0_0 ⟨hx0.1, hx0.2.1, hx0.2.2.1, hx0.2.2.2.1, hx0.2.2.2.2.1, hx0.2.2.2.2.2.1, (Slc.le hx0.2.2.2.2.2.2 (fun _ _ h => RTx.le hi1.le h) hi1.le)⟩ r2 hr2) rfl fun a w hz3 hI hA => 
          stp hA (r_gtr hA rfl rfl) rfl fun a hA => 
          stp hA (r_as hA rfl) rfl fun a hA => ?_
        refine o_nil ?_
        refine hN8 _ _ ?_
        refine w_cond hA rfl (fun hc4 => ?_) (fun hc4 => ?_)
        · have hc40 := hc4; have hc4 := of_decide_eq_true hc4; have H := bT H hc4
          refine w_seq fun _ hN9 => ?_
          refine w_reg ?_
          refine stp hA (r_ldG Tryd.underlying51 rfl hI.agr (ErV.le (fun _ _ h => h) hi1.le he1) hA) rfl fun a hA => 
            stp hA (r_as hA rfl) rfl fun a hA => ?_
          refine o_nil ?_
          refine hN9 _ _ ?_
          refine w_ret ?_
          obtain rfl := Option.some.inj (bS H)
          exact ret1 hA Tryd.results16 rfl ⟨_, rfl, e1, μ1, rfl, (ErV.le (fun _ _ h => h) hi1.le he1), (hI.sel [] (by decide) rfl)⟩
        · have hc40 := hc4; have hc4 := of_decide_eq_false hc4; have H := bF H hc4
          refine w_skip ?_
          refine hN6 _ _ ?_
          refine w_seq fun _ hN10 => ?_
          refine w_seq fun _ hN11 => ?_
          refine w_reg ?_
          refine stp hA (r_ldA (j := 0) [] [[.int .u32 x0.Head.Version], av .u8 32 x0.Head.Prev, av .u8 32 x0.Head.Root, [.int .u32 x0.Head.Time], [.int .u32 x0.Head.Work], [.int .u32 x0.Head.Nonce], [u0_0]] [] Tryd.underlying39 rfl sz39 rfl hI rfl hA rfl rfl) rfl fun a hA => ?_
          obtain ⟨r3, hr3, H⟩ := bB H
          refine o_call _ cf44 hA rfl (block_parts.c μ1 _ hI.agr x0 u0_0 ⟨hx0.1, hx0.2.1, hx0.2.2.1, hx0.2.2.2.1, hx0.2.2.2.2.1, hx0.2.2.2.2.2.1, (Slc.le hx0.2.2.2.2.2.2 (fun _ _ h => RTx.le hi1.le h) hi1.le)⟩ e0 (ErV.le (fun _ _ h => h) hi1.le he0) e1 (ErV.le (fun _ _ h => h) hi1.le he1) e2 (ErV.le (fun _ _ h => h) hi1.le he2) e6 (ErV.le (fun _ _ h => h) hi1.le he6) e7 (ErV.le (fun _ _ h => h) hi1.le he7) e8 (ErV.le (fun _ _ h => h) hi1.le he8) r3 hr3) rfl fun v2 a w hz4 hA => ?_
          obtain ⟨_, μ2, rfl, hS2, hi2⟩ := hz4
          have hI := hI.call hi2
          refine stp hA (r_as hA rfl) rfl fun a hA => ?_
          refine o_nil ?_
          refine hN11 _ _ ?_
          refine w_seq fun _ hN12 => ?_
          refine w_reg ?_
          refine stp hA (r_mv hA rfl) rfl fun a hA => 
            stp hA (r_neE erF hI.agr hS2 erv_nil (.inl ⟨.inr ⟨_, rfl⟩, Er.fitR⟩) hA rfl rfl) rfl fun a hA => ?_
          refine o_nil ?_
          refine hN12 _ _ ?_
          refine w_cond hA rfl (fun hc5 => ?_) (fun hc5 => ?_)
          · have hc50 := hc5; have hc5 := of_decide_eq_true hc5; have H := bT H hc5
            refine w_seq fun _ hN13 => ?_
            refine w_reg ?_
            refine stp hA (r_mv hA rfl) rfl fun a hA => 
              stp hA (r_as hA rfl) rfl fun a hA => ?_
            refine o_nil ?_
            refine hN13 _ _ ?_
            refine w_ret ?_
            obtain rfl := Option.some.inj (bS H)
            exact ret1 hA Tryd.results16 rfl ⟨_, rfl, v2, μ2, rfl, hS2, (hI.sel [] (by decide) rfl)⟩
          · have hc50 := hc5; have hc5 := of_decide_eq_false hc5; have H := bF H hc5
            refine w_skip ?_
            refine hN10 _ _ ?_
            refine w_seq fun _ hN14 => ?_
            refine w_block ?_
            refine w_seq fun _ hN15 => ?_
            refine w_reg ?_
            refine stp hA (r_ldA (j := 0) [] [[.int .u32 x0.Head.Version], av .u8 32 x0.Head.Prev, av .u8 32 x0.Head.Root, [.int .u32 x0.Head.Time], [.int .u32 x0.Head.Work], [.int .u32 x0.Head.Nonce], [u0_0]] [] Tryd.underlying39 rfl sz39 rfl hI rfl hA rfl rfl) rfl fun a hA => ?_
            obtain ⟨r4, hr4, H⟩ := bB H
            refine o_callp (u := .bool r4) cf45 hA rfl hI (block_twice.c μ2 _ hI.agr x0 u0_0 ⟨hx0.1, hx0.2.1, hx0.2.2.1, hx0.2.2.2.1, hx0.2.2.2.2.1, hx0.2.2.2.2.2.1, (Slc.le hx0.2.2.2.2.2.2 (fun _ _ h => RTx.le (hi1.le.trans hi2.le) h) (hi1.le.trans hi2.le))⟩ r4 hr4) rfl fun a w hz5 hI hA => 
              stp hA (r_as hA rfl) rfl fun a hA => ?_
            refine o_nil ?_
            refine hN15 _ _ ?_
            refine w_cond hA rfl (fun hc6 => ?_) (fun hc6 => ?_)
            · have hc60 := hc6; have H := bT H hc6
              refine w_seq fun _ hN16 => ?_
              refine w_reg ?_
              refine stp hA (r_ldG Tryd.underlying51 rfl hI.agr (ErV.le (fun _ _ h => h) (hi1.le.trans hi2.le) he2) hA) rfl fun a hA => 
                stp hA (r_as hA rfl) rfl fun a hA => ?_
              refine o_nil ?_
              refine hN16 _ _ ?_
              refine w_ret ?_
              obtain rfl := Option.some.inj (bS H)
              exact ret1 hA Tryd.results16 rfl ⟨_, rfl, e2, μ2, rfl, (ErV.le (fun _ _ h => h) (hi1.le.trans hi2.le) he2), (hI.sel [] (by decide) rfl)⟩
            · have hc60 := hc6; have hc6 := ft hc6; have H := bF H hc6
              refine w_seq fun _ hN17 => ?_
              refine w_any [] mo hI fun w hI => ?_
              refine g_take (i := 0) hA rfl rfl (by kernel_rfl) hI (fun w hI => r_ldA (j := 0) [] [[.int .u32 x0.Head.Version], av .u8 32 x0.Head.Prev, av .u8 32 x0.Head.Root, [.int .u32 x0.Head.Time], [.int .u32 x0.Head.Work], [.int .u32 x0.Head.Nonce], [u0_0]] [] Tryd.underlying39 rfl sz39 rfl hI rfl hA rfl rfl) rfl fun a hA => ?_
              refine g_easy (i := 2) hA rfl rfl (by kernel_rfl) (.inr hI) (fun _ => r_fd (k := 0) Tryd.underlying39 rfl sz36 hA rfl rfl) rfl fun a hA => ?_
              refine g_easy (i := 3) hA rfl rfl (by kernel_rfl) (.inr hI) (fun _ => r_fd (k := 33) Tryd.underlying36 rfl sz24 hA rfl rfl) rfl fun a hA => ?_
              refine g_take (i := 4) hA rfl rfl (by kernel_rfl) hI (fun w hI => r_ldA (j := 0) [[.int .u32 x0.Head.Version], av .u8 32 x0.Head.Prev] [av .u8 32 x0.Head.Root] [[.int .u32 x0.Head.Time], [.int .u32 x0.Head.Work], [.int .u32 x0.Head.Nonce], [u0_0]] Tryd.underlying24 rfl sz24 rfl hI rfl hA rfl rfl) rfl fun a hA => ?_
              refine g_forced (i := 1) rfl (by kernel_rfl) ?_
              obtain ⟨r5, hr5, H⟩ := bB H
              refine o_callp (u := .agg [av .u8 32 r5].flatten.toArray) cf15 hA rfl hI (block_Root.c μ2 _ hI.agr x0 u0_0 ⟨hx0.1, hx0.2.1, hx0.2.2.1, hx0.2.2.2.1, hx0.2.2.2.2.1, hx0.2.2.2.2.2.1, (Slc.le hx0.2.2.2.2.2.2 (fun _ _ h => RTx.le (hi1.le.trans hi2.le) h) (hi1.le.trans hi2.le))⟩ r5 hr5) rfl fun a w hz6 hI hA => ?_
              refine o_nil ?_
              refine ⟨(.inr hI), ?_⟩
              refine g_easy (i := 5) hA rfl rfl (by kernel_rfl) (.inr hI) (fun _ => r_neS hA rfl rfl eg24 (eqv_arr Tryd.underlying24 Tryd.underlying5 sz5 hz6 hx0.2.2.1)) rfl fun a hA => ?_
              refine g_easy (i := 6) hA rfl rfl (by kernel_rfl) (.inr hI) (fun _ => r_as hA rfl) rfl fun a hA => ?_
              refine g_nil (by kernel_rfl) ?_
              refine hN17 _ _ ?_
              refine w_cond hA rfl (fun hc7 => ?_) (fun hc7 => ?_)
              · have hc70 := hc7; have hc7 := of_decide_eq_true hc7; have H := bT H hc7
                refine w_seq fun _ hN18 => ?_
                refine w_reg ?_
                refine stp hA (r_ldG Tryd.underlying51 rfl hI.agr (ErV.le (fun _ _ h => h) (hi1.le.trans hi2.le) he3) hA) rfl fun a hA => 
                  stp hA (r_as hA rfl) rfl fun a hA => ?_
                refine o_nil ?_
                refine hN18 _ _ ?_
                refine w_ret ?_
                obtain rfl := Option.some.inj (bS H)
                exact ret1 hA Tryd.results16 rfl ⟨_, rfl, e3, μ2, rfl, (ErV.le (fun _ _ h => h) (hi1.le.trans hi2.le) he3), (hI.sel [] (by decide) rfl)⟩
              · have hc70 := hc7; have hc7 := of_decide_eq_false hc7; have H := bF H hc7
                refine w_skip ?_
                refine hN14 _ _ ?_
                refine w_seq fun _ hN19 => ?_
                refine w_reg ?_
                refine stp hA (r_as hA rfl) rfl fun a hA => ?_
                refine o_nil ?_
                refine hN19 _ _ ?_
                refine w_ret ?_
                obtain rfl := Option.some.inj (bS H)
                exact ret1 hA Tryd.results16 rfl ⟨_, rfl, .nilIface, μ2, rfl, erv_nil, (hI.sel [] (by decide) rfl)⟩
set_option maxRecDepth 20000 in
theorem block_Read.c (μ : Store) (w0 : World) (hμ : Agr μ w0) (x0 : List Int) (u0 : Value) (hx0 : Slc (RI .u8) 1 μ u0 x0) (e0 : Value) (he0 : ErS μ e0 (Er.b 1)) (e4 : Value) (he4 : ErS μ e4 (Er.b 5)) (e9 : Value) (he9 : ErS μ e9 (Er.b 10)) (r : Block × Er) (H : block_Read.f x0 = some r) :
    Calls Tryd.prog 27 [u0].toArray w0 (fun e w' => ∃ v, e = .returned v ∧ ∃ (v0_0 : Value) (v1 : Value) (μ' : Store), v = .tuple #[.agg [[.int .u32 ((r.1).Head.Version)], av .u8 32 ((r.1).Head.Prev), av .u8 32 ((r.1).Head.Root), [.int .u32 ((r.1).Head.Time)], [.int .u32 ((r.1).Head.Work)], [.int .u32 ((r.1).Head.Nonce)], [v0_0]].flatten.toArray, v1] ∧ BlockW μ' (r.1) v0_0 ∧ ErS μ' v1 (r.2) ∧ Iv w0 [] μ μ' [] w') := by
  refine enter Tryd.func27 rfl Tryd.ntmps27 rfl fun a hA => ?_
  have hI := Iv.start hμ
  have H := bI H
  refine w_seq fun _ hN1 => ?_
  refine w_reg ?_
  refine o_new [[.int .u32 0], av .u8 32 (List.replicate 32 0), av .u8 32 (List.replicate 32 0), [.int .u32 0], [.int .u32 0], [.int .u32 0], [(.slice none 0 0)]] zr39 hI hA rfl fun g1 a w hA hI hg1 => 
    stp hA (r_as hA rfl) rfl fun a hA => ?_
  refine o_nil ?_
  refine hN1 _ _ ?_
  refine w_seq fun _ hN2 => ?_
  refine w_reg ?_
  refine stp hA (r_mv hA rfl) rfl fun a hA => ?_
  obtain ⟨r1, hr1, H⟩ := bB H
  refine o_call _ cf55 hA rfl (compact_Read.c μ _ hI.agr x0 u0 hx0 r1 hr1) rfl fun v1 a w hz1 hA => ?_
  obtain ⟨g2, vp1, vp2, μ1, rfl, hp1, hp2, hp3, hi1⟩ := hz1
  have hI := hI.call hi1
  refine stp hA (r_as hA rfl) rfl fun a hA => ?_
  refine o_nil ?_
  refine hN2 _ _ ?_
  refine w_seq fun _ hN3 => ?_
  refine w_reg ?_
  refine stp hA (r_mv hA rfl) rfl fun a hA => ?_
  obtain ⟨r2, hr2, H⟩ := bB H
  refine o_call _ cf56 hA rfl (head_Take.c μ1 _ hI.agr r1 vp1 vp2 g2 hp1 hp2 hp3 (hI.handN 1) e9 (ErV.le (fun _ _ h => h) hi1.le he9) r2 hr2) rfl fun v2 a w hz2 hA => ?_
  obtain ⟨vp3, vp4, μ2, rfl, hw1, hp4, hp5, hp6, hi2⟩ := hz2
  have hI := hI.backN 1 hi2
  have hI : Iv w0 [] μ μ2 [cel g2 [[vp3], [.int .i64 r2.2.at_], [vp4]] 121, cel g1 [[.int .u32 0], av .u8 32 (List.replicate 32 0), av .u8 32 (List.replicate 32 0), [.int .u32 0], [.int .u32 0], [.int .u32 0], [(.slice none 0 0)]] 39] w := hI
  refine stp hA (r_bldS (cs := [[.int .u32 r2.1.Version], av .u8 32 r2.1.Prev, av .u8 32 r2.1.Root, [.int .u32 r2.1.Time], [.int .u32 r2.1.Work], [.int .u32 r2.1.Nonce], [(.slice none 0 0)]].flatten.toArray) (pl := [(0, 68), (68, 1)]) zr39 Tryd.underlying39 ⟨rfl, sz36, rfl, sz37, trivial⟩ hA rfl (by kernel_rfl)) rfl fun a hA => 
    o_new [[.int .u32 0], av .u8 32 (List.replicate 32 0), av .u8 32 (List.replicate 32 0), [.int .u32 0], [.int .u32 0], [.int .u32 0], [(.slice none 0 0)]] zr39 hI hA rfl fun g3 a w hA hI hg3 => 
    o_st (j := 0) [] [[.int .u32 0], av .u8 32 (List.replicate 32 0), av .u8 32 (List.replicate 32 0), [.int .u32 0], [.int .u32 0], [.int .u32 0], [(.slice none 0 0)]] [[.int .u32 r2.1.Version], av .u8 32 r2.1.Prev, av .u8 32 r2.1.Root, [.int .u32 r2.1.Time], [.int .u32 r2.1.Work], [.int .u32 r2.1.Nonce], [(.slice none 0 0)]] [] sz39 rfl rfl (fl_cons (one_one rfl) (fl_cons (one_av _ _ _) (fl_cons (one_av _ _ _) (fl_cons (one_one rfl) (fl_cons (one_one rfl) (fl_cons (one_one rfl) (fl_cons (one_one rfl) fl_nil))))))) hI rfl hA rfl rfl rfl rfl fun w hI => ?_
  refine o_nil ?_
  refine hN3 _ _ ?_
  obtain ⟨⟨c1, c2, c3, c4⟩, hz3, Hk1⟩ := bB H
  refine w_cut (fun a w => ∃ (μ3 : Store) (vvc1 : Value) (ccc1 : List Value) (vvc2 : Value) (vvc4 : Value), μ2.le μ3 ∧ Els (RTx μ3) 4 c1 ccc1 ∧ Slc (RI .u8) 1 μ3 vvc2 c2 ∧ InR .i64 c3 ∧ ErS μ3 vvc4 c4 ∧ Fr a 37 [(0, u0), (2, .pointer (some ⟨g1, 0, none⟩)), (3, .nilIface), (4, .pointer (some ⟨g2, 0, none⟩)), (5, .pointer (some ⟨g3, 0, none⟩))] ∧ Iv w0 [] μ μ3 [row 32 4 vvc1 c1.length ccc1, cel g3 [[.int .u32 r2.1.Version], av .u8 32 r2.1.Prev, av .u8 32 r2.1.Root, [.int .u32 r2.1.Time], [.int .u32 r2.1.Work], [.int .u32 r2.1.Nonce], [vvc1]] 39, cel g2 [[vvc2], [.int .i64 c3], [vvc4]] 121, cel g1 [[.int .u32 0], av .u8 32 (List.replicate 32 0), av .u8 32 (List.replicate 32 0), [.int .u32 0], [.int .u32 0], [.int .u32 0], [(.slice none 0 0)]] 39] w) ?_ ?_
  · have H := bI hz3
    refine w_seq fun _ hN4 => ?_
    refine w_reg ?_
    refine stp hA (r_mv hA rfl) rfl fun a hA => ?_
    obtain ⟨r3, hr3, H⟩ := bB H
    have hI := hI.sel [1, 0, 2] (by decide) rfl
    refine o_call _ cf57 hA rfl (compact_Reader_Num.c μ2 _ hI.agr r2.2 vp3 vp4 g2 hp4 hp5 hp6 (hI.handN 1) 200 (in_lit .u64 200 rfl) e0 (ErV.le (fun _ _ h => h) (hi1.le.trans hi2.le) he0) e4 (ErV.le (fun _ _ h => h) (hi1.le.trans hi2.le) he4) e9 (ErV.le (fun _ _ h => h) (hi1.le.trans hi2.le) he9) r3 hr3) rfl fun v3 a w hz4 hA => ?_
    obtain ⟨vp5, vp6, μ4, rfl, hw2, hp7, hp8, hp9, hi3⟩ := hz4
    have hI := hI.backN 1 hi3
    have hI : Iv w0 [] μ μ4 [cel g2 [[vp5], [.int .i64 r3.2.at_], [vp6]] 121, cel g3 [[.int .u32 r2.1.Version], av .u8 32 r2.1.Prev, av .u8 32 r2.1.Root, [.int .u32 r2.1.Time], [.int .u32 r2.1.Work], [.int .u32 r2.1.Nonce], [(.slice none 0 0)]] 39, cel g1 [[.int .u32 0], av .u8 32 (List.replicate 32 0), av .u8 32 (List.replicate 32 0), [.int .u32 0], [.int .u32 0], [.int .u32 0], [(.slice none 0 0)]] 39] w := hI
    refine stp hA (r_mv hA rfl) rfl fun a hA => ?_
    refine o_nil ?_
    refine hN4 _ _ ?_
    refine w_block ?_
    have hI := hI.nilRow 32 4
    obtain ⟨z1, hz5, Hk2⟩ := bind_some H
    obtain ⟨n1, hn1⟩ := loopO_some hz5
    refine w_loop (fun n a w => ∃ (s1 : Int) (s2 : List Int) (s3 : Int) (s4 : Er) (s5 : List Tx) (μ5 : Store) (vvs2 : Value) (vvs4 : Value) (vvs5 : Value) (ccs5 : List Value), loopN (block_Read.s0 r3) n (s1, s2, s3, s4, s5) = some z1 ∧ μ4.le μ5 ∧ InR .u64 s1 ∧ Slc (RI .u8) 1 μ5 vvs2 s2 ∧ InR .i64 s3 ∧ ErS μ5 vvs4 s4 ∧ Els (RTx μ5) 4 s5 ccs5 ∧ Fr a 37 [(0, u0), (2, .pointer (some ⟨g1, 0, none⟩)), (3, .nilIface), (4, .pointer (some ⟨g2, 0, none⟩)), (5, .pointer (some ⟨g3, 0, none⟩)), (12, .int .u64 r3.1), (13, .int .u64 s1)] ∧ Iv w0 [] μ μ5 [row 32 4 vvs5 s5.length ccs5, cel g2 [[vvs2], [.int .i64 s3], [vvs4]] 121, cel g3 [[.int .u32 r2.1.Version], av .u8 32 r2.1.Prev, av .u8 32 r2.1.Root, [.int .u32 r2.1.Time], [.int .u32 r2.1.Work], [.int .u32 r2.1.Nonce], [vvs5]] 39, cel g1 [[.int .u32 0], av .u8 32 (List.replicate 32 0), av .u8 32 (List.replicate 32 0), [.int .u32 0], [.int .u32 0], [.int .u32 0], [(.slice none 0 0)]] 39] w) n1 ⟨0, r3.2.b, r3.2.at_, r3.2.err, [], μ4, vp5, vp6, (.slice none 0 0), [], hn1, (Store.le.refl _), (in_lit .u64 0 rfl), hp7, hp8, hp9, (Els.nil (RE := (RTx μ4)) (sz := 4)), hA.sub ⟨rfl, rfl, rfl, rfl, rfl, rfl, rfl, trivial⟩, hI⟩ ?_
    clear hA hI
    rintro n a w ⟨s1, s2, s3, s4, s5, μ5, vvs2, vvs4, vvs5, ccs5, hn1, hle2, ws1, ws2, ws3, ws4, ws5, hA, hI⟩
    obtain ⟨m1, rfl, H⟩ := loopN_bind hn1
    clear hn1
    refine w_seq fun _ hN5 => ?_
    refine w_reg ?_
    refine stp hA (r_lss hA rfl rfl) rfl fun a hA => ?_
    refine o_nil ?_
    refine hN5 _ _ ?_
    refine w_seq fun _ hN6 => ?_
    refine w_cond hA rfl (fun hc1 => ?_) (fun hc1 => ?_)
    · have hc10 := hc1; have hc1 := of_decide_eq_true hc1; have H := bT H hc1
      refine w_skip ?_
      refine hN6 _ _ ?_
      refine w_seq fun _ hN7 => ?_
      refine w_block ?_
      refine w_any [3, 5, 7] mo hI fun w hI => ?_
      refine g_easy (i := 0) hA rfl rfl (by kernel_rfl) (.inr hI) (fun _ => r_fd (k := 68) Tryd.underlying39 rfl sz37 hA rfl rfl) rfl fun a hA => ?_
      refine g_easy (i := 2) hA rfl rfl (by kernel_rfl) (.inr hI) (fun _ => r_mv hA rfl) rfl fun a hA => ?_
      refine g_fork (i := 1) (is := [3]) (by kernel_rfl) (List.forall_mem_cons.2 ⟨⟨_, rfl, ?_⟩, (List.forall_mem_cons.2 ⟨⟨_, rfl, ?_⟩, List.forall_mem_nil _⟩)⟩)
      · skip
        refine stp hA (r_ld1 (j := 2) [[.int .u32 r2.1.Version], av .u8 32 r2.1.Prev, av .u8 32 r2.1.Root, [.int .u32 r2.1.Time], [.int .u32 r2.1.Work], [.int .u32 r2.1.Nonce]] [] Tryd.underlying37 rfl hI rfl hA rfl rfl) rfl fun a hA => ?_
        refine o_nil ?_
        refine ⟨(.inr hI), ?_⟩
        refine g_forced (i := 3) rfl (by kernel_rfl) ?_
        obtain ⟨r4, hr4, H⟩ := bB H
        have hI := hI.sel [1, 0, 2, 3] (by decide) rfl
        refine o_call _ cf58 hA rfl (tx_Take.c μ5 _ hI.agr (⟨s2, s3, s4⟩ : compactReader) vvs2 vvs4 g2 ws2 ws3 ws4 (hI.handN 1) e0 (ErV.le (fun _ _ h => h) (((hi1.le.trans hi2.le).trans hi3.le).trans hle2) he0) e4 (ErV.le (fun _ _ h => h) (((hi1.le.trans hi2.le).trans hi3.le).trans hle2) he4) e9 (ErV.le (fun _ _ h => h) (((hi1.le.trans hi2.le).trans hi3.le).trans hle2) he9) r4 hr4) rfl fun v4 a w hz6 hA => ?_
        obtain ⟨v5, v6, vp7, vp8, μ6, rfl, hw3, hp10, hp11, hp12, hi4⟩ := hz6
        have hI := hI.backN 1 hi4
        have hI : Iv w0 [] μ μ6 [cel g2 [[vp7], [.int .i64 r4.2.at_], [vp8]] 121, row 32 4 vvs5 s5.length ccs5, cel g3 [[.int .u32 r2.1.Version], av .u8 32 r2.1.Prev, av .u8 32 r2.1.Root, [.int .u32 r2.1.Time], [.int .u32 r2.1.Work], [.int .u32 r2.1.Nonce], [vvs5]] 39, cel g1 [[.int .u32 0], av .u8 32 (List.replicate 32 0), av .u8 32 (List.replicate 32 0), [.int .u32 0], [.int .u32 0], [.int .u32 0], [(.slice none 0 0)]] 39] w := hI
        refine o_nil ?_
        refine ⟨(.inl (by kernel_rfl)), ?_⟩
        refine g_forced (i := 4) rfl (by kernel_rfl) ?_
        have hE1 : Els (RTx μ6) 4 ([r4.1] : List Tx) ([[.int .u32 r4.1.Version], [v5], [v6], [.int .u32 r4.1.Time]].flatten ++ ([])) := (Els.cons (c := [[.int .u32 r4.1.Version], [v5], [v6], [.int .u32 r4.1.Time]].flatten) ⟨v5, v6, rfl, ⟨hw3.1, hw3.2.1, hw3.2.2.1, hw3.2.2.2⟩⟩ rfl Els.nil)
        refine o_bsl ([[.int .u32 r4.1.Version], [v5], [v6], [.int .u32 r4.1.Time]].flatten ++ ([])) te32 zr32 Tryd.underlying37 hI hA rfl rfl rfl rfl (by kernel_rfl) rfl fun g4 a w hA hI => ?_
        generalize hcs : ([[.int .u32 r4.1.Version], [v5], [v6], [.int .u32 r4.1.Time]].flatten ++ ([]) : List Value) = cs1 at hE1 hI
        clear hcs
        refine o_nil ?_
        refine ⟨(.inl (by kernel_rfl)), ?_⟩
        refine g_forced (i := 5) rfl (by kernel_rfl) ?_
        obtain ⟨hb1, H⟩ := bG H
        have hE3 := (Els.mono ws5 (fun _ _ h => RTx.le hi4.le h)).app hE1
        refine o_appL (xs := (s5 : List Tx)) (ys := (([r4.1] : List Tx) : List Tx)) (j := 2) te32 Tryd.underlying37 hI rfl hA rfl rfl (src_row hI (j := 0) rfl) hE1.len (hE1.ones RTx.ones) (by first | decide | (have hq := hb1; (try simp only [List.length_cons, List.length_nil] at hq); (try simp only [List.length_cons, List.length_nil]); (try simp only [maxLen]); omega)) (by first | decide | (have hq := hb1; (try simp only [List.length_cons, List.length_nil] at hq); (try simp only [List.length_cons, List.length_nil]); (try simp only [maxLen]); omega)) rfl fun v7 a w hA hI => ?_
        refine o_nil ?_
        refine ⟨(.inl (by kernel_rfl)), ?_⟩
        refine g_easy (i := 6) hA rfl rfl (by kernel_rfl) (.inl (by kernel_rfl)) (fun _ => r_fd (k := 68) Tryd.underlying39 rfl sz37 hA rfl rfl) rfl fun a hA => ?_
        refine g_forced (i := 7) rfl (by kernel_rfl) ?_
        have hone := own_one hI (j := 2) rfl
        have hcel := own_cell hI (j := 2) rfl
        refine o_st (j := 3) [[.int .u32 r2.1.Version], av .u8 32 r2.1.Prev, av .u8 32 r2.1.Root, [.int .u32 r2.1.Time], [.int .u32 r2.1.Work], [.int .u32 r2.1.Nonce]] [[vvs5]] [[v7]] [] sz37 rfl rfl (by intro c hc; simp at hc; subst hc; exact hone) hI rfl hA rfl rfl hcel rfl fun w hI => ?_
        refine o_nil ?_
        refine ⟨(.inl (by kernel_rfl)), ?_⟩
        refine g_nil (by kernel_rfl) ?_
        refine hN7 _ _ ?_
        refine w_reg ?_
        refine stp hA (r_add hA rfl rfl) rfl fun a hA => 
          stp hA (r_mv hA rfl) rfl fun a hA => ?_
        refine o_nil ?_
        exact ⟨m1, Nat.lt_succ_self _, IntKind.u64.wrap (s1 + 1), r4.2.b, r4.2.at_, r4.2.err, s5 ++ ([r4.1] : List Tx), μ6, vp7, vp8, v7, ccs5 ++ cs1, H, (hle2.trans hi4.le), (wrap_in _ _), hp10, hp11, hp12, hE3, hA.sub ⟨rfl, rfl, rfl, rfl, rfl, rfl, rfl, trivial⟩, (hI.sel [2, 1, 3, 4] (by decide) rfl)⟩
      · skip
        obtain ⟨r4, hr4, H⟩ := bB H
        have hI := hI.sel [1, 0, 2, 3] (by decide) rfl
        refine o_call _ cf58 hA rfl (tx_Take.c μ5 _ hI.agr (⟨s2, s3, s4⟩ : compactReader) vvs2 vvs4 g2 ws2 ws3 ws4 (hI.handN 1) e0 (ErV.le (fun _ _ h => h) (((hi1.le.trans hi2.le).trans hi3.le).trans hle2) he0) e4 (ErV.le (fun _ _ h => h) (((hi1.le.trans hi2.le).trans hi3.le).trans hle2) he4) e9 (ErV.le (fun _ _ h => h) (((hi1.le.trans hi2.le).trans hi3.le).trans hle2) he9) r4 hr4) rfl fun v4 a w hz6 hA => ?_
        obtain ⟨v5, v6, vp7, vp8, μ6, rfl, hw3, hp10, hp11, hp12, hi4⟩ := hz6
        have hI := hI.backN 1 hi4
        have hI : Iv w0 [] μ μ6 [cel g2 [[vp7], [.int .i64 r4.2.at_], [vp8]] 121, row 32 4 vvs5 s5.length ccs5, cel g3 [[.int .u32 r2.1.Version], av .u8 32 r2.1.Prev, av .u8 32 r2.1.Root, [.int .u32 r2.1.Time], [.int .u32 r2.1.Work], [.int .u32 r2.1.Nonce], [vvs5]] 39, cel g1 [[.int .u32 0], av .u8 32 (List.replicate 32 0), av .u8 32 (List.replicate 32 0), [.int .u32 0], [.int .u32 0], [.int .u32 0], [(.slice none 0 0)]] 39] w := hI
        refine o_nil ?_
        refine ⟨(.inl (by kernel_rfl)), ?_⟩
        refine g_fork (i := 1) (is := [4]) (by kernel_rfl) (List.forall_mem_cons.2 ⟨⟨_, rfl, ?_⟩, (List.forall_mem_cons.2 ⟨⟨_, rfl, ?_⟩, List.forall_mem_nil _⟩)⟩)
        · skip
          refine stp hA (r_ld1 (j := 2) [[.int .u32 r2.1.Version], av .u8 32 r2.1.Prev, av .u8 32 r2.1.Root, [.int .u32 r2.1.Time], [.int .u32 r2.1.Work], [.int .u32 r2.1.Nonce]] [] Tryd.underlying37 rfl hI rfl hA rfl rfl) rfl fun a hA => ?_
          refine o_nil ?_
          refine ⟨(.inl (by kernel_rfl)), ?_⟩
          refine g_forced (i := 4) rfl (by kernel_rfl) ?_
          have hE1 : Els (RTx μ6) 4 ([r4.1] : List Tx) ([[.int .u32 r4.1.Version], [v5], [v6], [.int .u32 r4.1.Time]].flatten ++ ([])) := (Els.cons (c := [[.int .u32 r4.1.Version], [v5], [v6], [.int .u32 r4.1.Time]].flatten) ⟨v5, v6, rfl, ⟨hw3.1, hw3.2.1, hw3.2.2.1, hw3.2.2.2⟩⟩ rfl Els.nil)
          refine o_bsl ([[.int .u32 r4.1.Version], [v5], [v6], [.int .u32 r4.1.Time]].flatten ++ ([])) te32 zr32 Tryd.underlying37 hI hA rfl rfl rfl rfl (by kernel_rfl) rfl fun g4 a w hA hI => ?_
          generalize hcs : ([[.int .u32 r4.1.Version], [v5], [v6], [.int .u32 r4.1.Time]].flatten ++ ([]) : List Value) = cs1 at hE1 hI
          clear hcs
          refine o_nil ?_
          refine ⟨(.inl (by kernel_rfl)), ?_⟩
          refine g_forced (i := 5) rfl (by kernel_rfl) ?_
          obtain ⟨hb1, H⟩ := bG H
          have hE3 := (Els.mono ws5 (fun _ _ h => RTx.le hi4.le h)).app hE1
          refine o_appL (xs := (s5 : List Tx)) (ys := (([r4.1] : List Tx) : List Tx)) (j := 2) te32 Tryd.underlying37 hI rfl hA rfl rfl (src_row hI (j := 0) rfl) hE1.len (hE1.ones RTx.ones) (by first | decide | (have hq := hb1; (try simp only [List.length_cons, List.length_nil] at hq); (try simp only [List.length_cons, List.length_nil]); (try simp only [maxLen]); omega)) (by first | decide | (have hq := hb1; (try simp only [List.length_cons, List.length_nil] at hq); (try simp only [List.length_cons, List.length_nil]); (try simp only [maxLen]); omega)) rfl fun v7 a w hA hI => ?_
          refine o_nil ?_
          refine ⟨(.inl (by kernel_rfl)), ?_⟩
          refine g_easy (i := 6) hA rfl rfl (by kernel_rfl) (.inl (by kernel_rfl)) (fun _ => r_fd (k := 68) Tryd.underlying39 rfl sz37 hA rfl rfl) rfl fun a hA => ?_
          refine g_forced (i := 7) rfl (by kernel_rfl) ?_
          have hone := own_one hI (j := 2) rfl
          have hcel := own_cell hI (j := 2) rfl
          refine o_st (j := 3) [[.int .u32 r2.1.Version], av .u8 32 r2.1.Prev, av .u8 32 r2.1.Root, [.int .u32 r2.1.Time], [.int .u32 r2.1.Work], [.int .u32 r2.1.Nonce]] [[vvs5]] [[v7]] [] sz37 rfl rfl (by intro c hc; simp at hc; subst hc; exact hone) hI rfl hA rfl rfl hcel rfl fun w hI => ?_
          refine o_nil ?_
          refine ⟨(.inl (by kernel_rfl)), ?_⟩
          refine g_nil (by kernel_rfl) ?_
          refine hN7 _ _ ?_
          refine w_reg ?_
          refine stp hA (r_add hA rfl rfl) rfl fun a hA => 
            stp hA (r_mv hA rfl) rfl fun a hA => ?_
          refine o_nil ?_
          exact ⟨m1, Nat.lt_succ_self _, IntKind.u64.wrap (s1 + 1), r4.2.b, r4.2.at_, r4.2.err, s5 ++ ([r4.1] : List Tx), μ6, vp7, vp8, v7, ccs5 ++ cs1, H, (hle2.trans hi4.le), (wrap_in _ _), hp10, hp11, hp12, hE3, hA.sub ⟨rfl, rfl, rfl, rfl, rfl, rfl, rfl, trivial⟩, (hI.sel [2, 1, 3, 4] (by decide) rfl)⟩
        · skip
          have hE1 : Els (RTx μ6) 4 ([r4.1] : List Tx) ([[.int .u32 r4.1.Version], [v5], [v6], [.int .u32 r4.1.Time]].flatten ++ ([])) := (Els.cons (c := [[.int .u32 r4.1.Version], [v5], [v6], [.int .u32 r4.1.Time]].flatten) ⟨v5, v6, rfl, ⟨hw3.1, hw3.2.1, hw3.2.2.1, hw3.2.2.2⟩⟩ rfl Els.nil)
          refine o_bsl ([[.int .u32 r4.1.Version], [v5], [v6], [.int .u32 r4.1.Time]].flatten ++ ([])) te32 zr32 Tryd.underlying37 hI hA rfl rfl rfl rfl (by kernel_rfl) rfl fun g4 a w hA hI => ?_
          generalize hcs : ([[.int .u32 r4.1.Version], [v5], [v6], [.int .u32 r4.1.Time]].flatten ++ ([]) : List Value) = cs1 at hE1 hI
          clear hcs
          refine o_nil ?_
          refine ⟨(.inl (by kernel_rfl)), ?_⟩
          refine g_forced (i := 1) rfl (by kernel_rfl) ?_
          refine stp hA (r_ld1 (j := 3) [[.int .u32 r2.1.Version], av .u8 32 r2.1.Prev, av .u8 32 r2.1.Root, [.int .u32 r2.1.Time], [.int .u32 r2.1.Work], [.int .u32 r2.1.Nonce]] [] Tryd.underlying37 rfl hI rfl hA rfl rfl) rfl fun a hA => ?_
          refine o_nil ?_
          refine ⟨(.inl (by kernel_rfl)), ?_⟩
          refine g_forced (i := 5) rfl (by kernel_rfl) ?_
          obtain ⟨hb1, H⟩ := bG H
          have hE3 := (Els.mono ws5 (fun _ _ h => RTx.le hi4.le h)).app hE1
          refine o_appL (xs := (s5 : List Tx)) (ys := (([r4.1] : List Tx) : List Tx)) (j := 2) te32 Tryd.underlying37 hI rfl hA rfl rfl (src_row hI (j := 0) rfl) hE1.len (hE1.ones RTx.ones) (by first | decide | (have hq := hb1; (try simp only [List.length_cons, List.length_nil] at hq); (try simp only [List.length_cons, List.length_nil]); (try simp only [maxLen]); omega)) (by first | decide | (have hq := hb1; (try simp only [List.length_cons, List.length_nil] at hq); (try simp only [List.length_cons, List.length_nil]); (try simp only [maxLen]); omega)) rfl fun v7 a w hA hI => ?_
          refine o_nil ?_
          refine ⟨(.inl (by kernel_rfl)), ?_⟩
          refine g_easy (i := 6) hA rfl rfl (by kernel_rfl) (.inl (by kernel_rfl)) (fun _ => r_fd (k := 68) Tryd.underlying39 rfl sz37 hA rfl rfl) rfl fun a hA => ?_
          refine g_forced (i := 7) rfl (by kernel_rfl) ?_
          have hone := own_one hI (j := 2) rfl
          have hcel := own_cell hI (j := 2) rfl
          refine o_st (j := 3) [[.int .u32 r2.1.Version], av .u8 32 r2.1.Prev, av .u8 32 r2.1.Root, [.int .u32 r2.1.Time], [.int .u32 r2.1.Work], [.int .u32 r2.1.Nonce]] [[vvs5]] [[v7]] [] sz37 rfl rfl (by intro c hc; simp at hc; subst hc; exact hone) hI rfl hA rfl rfl hcel rfl fun w hI => ?_
          refine o_nil ?_
          refine ⟨(.inl (by kernel_rfl)), ?_⟩
          refine g_nil (by kernel_rfl) ?_
          refine hN7 _ _ ?_
          refine w_reg ?_
          refine stp hA (r_add hA rfl rfl) rfl fun a hA => 
            stp hA (r_mv hA rfl) rfl fun a hA => ?_
          refine o_nil ?_
          exact ⟨m1, Nat.lt_succ_self _, IntKind.u64.wrap (s1 + 1), r4.2.b, r4.2.at_, r4.2.err, s5 ++ ([r4.1] : List Tx), μ6, vp7, vp8, v7, ccs5 ++ cs1, H, (hle2.trans hi4.le), (wrap_in _ _), hp10, hp11, hp12, hE3, hA.sub ⟨rfl, rfl, rfl, rfl, rfl, rfl, rfl, trivial⟩, (hI.sel [2, 1, 3, 4] (by decide) rfl)⟩
    · have hc10 := hc1; have hc1 := of_decide_eq_false hc1; have H := bF H hc1
      refine w_exit rfl ?_
      have H : some (s5, s2, s3, s4) = some z1 := H
      obtain rfl := Option.some.inj H
      have H := Hk2
      cases Option.some.inj (bS H)
      exact ⟨μ5, vvs5, ccs5, vvs2, vvs4, (hi3.le.trans hle2), ws5, ws2, ws3, ws4, hA.sub ⟨rfl, rfl, rfl, rfl, rfl, trivial⟩, (hI.sel [0, 2, 1, 3] (by decide) rfl)⟩
  · rintro a w ⟨μ3, vvc1, ccc1, vvc2, vvc4, hle1, wc1, wc2, wc3, wc4, hA, hI⟩
    have H := Hk1
    refine w_seq fun _ hN8 => ?_
    refine w_block ?_
    refine w_seq fun _ hN9 => ?_
    refine w_reg ?_
    refine stp hA (r_mv hA rfl) rfl fun a hA => ?_
    obtain ⟨r5, hr5, H⟩ := bB H
    have hI := hI.sel [2, 0, 1, 3] (by decide) rfl
    refine o_call _ cf59 hA rfl (compact_Reader_Err.c μ3 _ hI.agr (⟨c2, c3, c4⟩ : compactReader) vvc2 vvc4 g2 wc2 wc3 wc4 (hI.handN 1) r5 hr5) rfl fun v8 a w hz7 hA => ?_
    obtain ⟨_, μ7, rfl, hS1, hi5⟩ := hz7
    have hI := hI.backN 1 hi5
    have hI : Iv w0 [] μ μ7 [cel g2 [[vvc2], [.int .i64 c3], [vvc4]] 121, row 32 4 vvc1 c1.length ccc1, cel g3 [[.int .u32 r2.1.Version], av .u8 32 r2.1.Prev, av .u8 32 r2.1.Root, [.int .u32 r2.1.Time], [.int .u32 r2.1.Work], [.int .u32 r2.1.Nonce], [vvc1]] 39, cel g1 [[.int .u32 0], av .u8 32 (List.replicate 32 0), av .u8 32 (List.replicate 32 0), [.int .u32 0], [.int .u32 0], [.int .u32 0], [(.slice none 0 0)]] 39] w := hI
    refine stp hA (r_neE erF hI.agr hS1 erv_nil (.inl ⟨.inr ⟨_, rfl⟩, Er.fitR⟩) hA rfl rfl) rfl fun a hA => 
      stp hA (r_as hA rfl) rfl fun a hA => ?_
    refine o_nil ?_
    refine hN9 _ _ ?_
    refine w_cond hA rfl (fun hc2 => ?_) (fun hc2 => ?_)
    · have hc20 := hc2; have hc2 := of_decide_eq_true hc2; have H := bT H hc2
      refine w_seq fun _ hN10 => ?_
      refine w_reg ?_
      refine stp hA (r_bldS (cs := [[.int .u32 0], av .u8 32 (List.replicate 32 0), av .u8 32 (List.replicate 32 0), [.int .u32 0], [.int .u32 0], [.int .u32 0], [(.slice none 0 0)]].flatten.toArray) (pl := [(0, 68), (68, 1)]) zr39 Tryd.underlying39 ⟨rfl, sz36, rfl, sz37, trivial⟩ hA rfl (by kernel_rfl)) rfl fun a hA => 
        stp hA (r_mv hA rfl) rfl fun a hA => ?_
      obtain ⟨r6, hr6, H⟩ := bB H
      refine o_call _ cf59 hA rfl (compact_Reader_Err.c μ7 _ hI.agr (⟨c2, c3, c4⟩ : compactReader) vvc2 vvc4 g2 (Slc.le wc2 (fun _ _ h => h) hi5.le) wc3 (ErV.le (fun _ _ h => h) hi5.le wc4) (hI.handN 1) r6 hr6) rfl fun v9 a w hz8 hA => ?_
      obtain ⟨_, μ8, rfl, hS2, hi6⟩ := hz8
      have hI := hI.backN 1 hi6
      have hI : Iv w0 [] μ μ8 [cel g2 [[vvc2], [.int .i64 c3], [vvc4]] 121, row 32 4 vvc1 c1.length ccc1, cel g3 [[.int .u32 r2.1.Version], av .u8 32 r2.1.Prev, av .u8 32 r2.1.Root, [.int .u32 r2.1.Time], [.int .u32 r2.1.Work], [.int .u32 r2.1.Nonce], [vvc1]] 39, cel g1 [[.int .u32 0], av .u8 32 (List.replicate 32 0), av .u8 32 (List.replicate 32 0), [.int .u32 0], [.int .u32 0], [.int .u32 0], [(.slice none 0 0)]] 39] w := hI
      refine o_st (j := 3) [] [[.int .u32 0], av .u8 32 (List.replicate 32 0), av .u8 32 (List.replicate 32 0), [.int .u32 0], [.int .u32 0], [.int .u32 0], [(.slice none 0 0)]] [[.int .u32 0], av .u8 32 (List.replicate 32 0), av .u8 32 (List.replicate 32 0), [.int .u32 0], [.int .u32 0], [.int .u32 0], [(.slice none 0 0)]] [] sz39 rfl rfl (fl_cons (one_one rfl) (fl_cons (one_av _ _ _) (fl_cons (one_av _ _ _) (fl_cons (one_one rfl) (fl_cons (one_one rfl) (fl_cons (one_one rfl) (fl_cons (one_one rfl) fl_nil))))))) hI rfl hA rfl rfl rfl rfl fun w hI => 
        stp hA (r_as hA rfl) rfl fun a hA => ?_
      refine o_nil ?_
      refine hN10 _ _ ?_
      refine w_ret ?_
      obtain rfl := Option.some.inj (bS H)
      exact retN hA Tryd.results27 (.cell rfl (cell_ld Tryd.underlying39 rfl sz39 rfl hI (j := 3) rfl) (.tmp rfl .nil)) ⟨_, rfl, (.slice none 0 0), v9, μ8, rfl, ⟨(in_lit .u32 0 rfl), (arr_zero _ _), (arr_zero _ _), (in_lit .u32 0 rfl), (in_lit .u32 0 rfl), (in_lit .u32 0 rfl), (slc_nil _ _ _)⟩, hS2, (hI.sel [] (by decide) rfl)⟩
    · have hc20 := hc2; have hc2 := of_decide_eq_false hc2; have H := bF H hc2
      refine w_seq fun _ hN11 => ?_
      refine w_reg ?_
      refine stp hA (r_mv hA rfl) rfl fun a hA => ?_
      obtain ⟨r7, hr7, H⟩ := bB H
      refine o_call _ cf60 hA rfl (compact_Reader_Left.c μ7 _ hI.agr (⟨c2, c3, c4⟩ : compactReader) vvc2 vvc4 g2 (Slc.le wc2 (fun _ _ h => h) hi5.le) wc3 (ErV.le (fun _ _ h => h) hi5.le wc4) (hI.handN 1) r7 hr7) rfl fun v10 a w hz9 hA => ?_
      obtain ⟨rfl, hw4, hi7⟩ := hz9
      have hI := hI.backN 1 hi7
      have hI : Iv w0 [] μ μ7 [cel g2 [[vvc2], [.int .i64 c3], [vvc4]] 121, row 32 4 vvc1 c1.length ccc1, cel g3 [[.int .u32 r2.1.Version], av .u8 32 r2.1.Prev, av .u8 32 r2.1.Root, [.int .u32 r2.1.Time], [.int .u32 r2.1.Work], [.int .u32 r2.1.Nonce], [vvc1]] 39, cel g1 [[.int .u32 0], av .u8 32 (List.replicate 32 0), av .u8 32 (List.replicate 32 0), [.int .u32 0], [.int .u32 0], [.int .u32 0], [(.slice none 0 0)]] 39] w := hI
      refine stp hA (r_gtr hA rfl rfl) rfl fun a hA => 
        stp hA (r_as hA rfl) rfl fun a hA => ?_
      refine o_nil ?_
      refine hN11 _ _ ?_
      refine w_cond hA rfl (fun hc3 => ?_) (fun hc3 => ?_)
      · have hc30 := hc3; have hc3 := of_decide_eq_true hc3; have H := bT H hc3
        obtain ⟨c5, hz10, Hk3⟩ := bB H
        refine w_cut (fun a w => ∃ (vvc5 : Value), ErS μ7 vvc5 c5 ∧ Fr a 37 [(0, u0), (2, .pointer (some ⟨g1, 0, none⟩)), (3, vvc5), (4, .pointer (some ⟨g2, 0, none⟩)), (5, .pointer (some ⟨g3, 0, none⟩)), (23, .bool (decide (r5 ≠ (Er.b 0)))), (30, .bool (decide (0 < r7)))] ∧ Iv w0 [] μ μ7 [cel g2 [[vvc2], [.int .i64 c3], [vvc4]] 121, row 32 4 vvc1 c1.length ccc1, cel g3 [[.int .u32 r2.1.Version], av .u8 32 r2.1.Prev, av .u8 32 r2.1.Root, [.int .u32 r2.1.Time], [.int .u32 r2.1.Work], [.int .u32 r2.1.Nonce], [vvc1]] 39, cel g1 [[.int .u32 0], av .u8 32 (List.replicate 32 0), av .u8 32 (List.replicate 32 0), [.int .u32 0], [.int .u32 0], [.int .u32 0], [(.slice none 0 0)]] 39] w) ?_ ?_
        · have H := bI hz10
          refine w_anyS [] mo (fun w (h : Iv w0 [] μ μ7 [cel g2 [[vvc2], [.int .i64 c3], [vvc4]] 121, row 32 4 vvc1 c1.length ccc1, cel g3 [[.int .u32 r2.1.Version], av .u8 32 r2.1.Prev, av .u8 32 r2.1.Root, [.int .u32 r2.1.Time], [.int .u32 r2.1.Work], [.int .u32 r2.1.Nonce], [vvc1]] 39, cel g1 [[.int .u32 0], av .u8 32 (List.replicate 32 0), av .u8 32 (List.replicate 32 0), [.int .u32 0], [.int .u32 0], [.int .u32 0], [(.slice none 0 0)]] 39] w) => (h.sel [0, 1, 2, 3] (by decide) rfl : Iv w0 [] μ μ7 [cel g2 [[vvc2], [.int .i64 c3], [vvc4]] 121, row 32 4 vvc1 c1.length ccc1, cel g3 [[.int .u32 r2.1.Version], av .u8 32 r2.1.Prev, av .u8 32 r2.1.Root, [.int .u32 r2.1.Time], [.int .u32 r2.1.Work], [.int .u32 r2.1.Nonce], [vvc1]] 39, cel g1 [[.int .u32 0], av .u8 32 (List.replicate 32 0), av .u8 32 (List.replicate 32 0), [.int .u32 0], [.int .u32 0], [.int .u32 0], [(.slice none 0 0)]] 39] w)) hI fun w hI => ?_
          refine g_take (i := 1) hA rfl rfl (by kernel_rfl) hI (fun w hI => r_ldG Tryd.underlying51 rfl hI.agr (ErV.le (fun _ _ h => h) (((hi1.le.trans hi2.le).trans hle1).trans hi5.le) he4) hA) rfl fun a hA => ?_
          refine g_forced (i := 0) rfl (by kernel_rfl) ?_
          refine stp hA (r_bldS (cs := [[.int .u32 0], av .u8 32 (List.replicate 32 0), av .u8 32 (List.replicate 32 0), [.int .u32 0], [.int .u32 0], [.int .u32 0], [(.slice none 0 0)]].flatten.toArray) (pl := [(0, 68), (68, 1)]) zr39 Tryd.underlying39 ⟨rfl, sz36, rfl, sz37, trivial⟩ hA rfl (by kernel_rfl)) rfl fun a hA => ?_
          refine o_nil ?_
          refine ⟨(.inr hI), ?_⟩
          refine g_forced (i := 2) rfl (by kernel_rfl) ?_
          refine o_st (j := 3) [] [[.int .u32 0], av .u8 32 (List.replicate 32 0), av .u8 32 (List.replicate 32 0), [.int .u32 0], [.int .u32 0], [.int .u32 0], [(.slice none 0 0)]] [[.int .u32 0], av .u8 32 (List.replicate 32 0), av .u8 32 (List.replicate 32 0), [.int .u32 0], [.int .u32 0], [.int .u32 0], [(.slice none 0 0)]] [] sz39 rfl rfl (fl_cons (one_one rfl) (fl_cons (one_av _ _ _) (fl_cons (one_av _ _ _) (fl_cons (one_one rfl) (fl_cons (one_one rfl) (fl_cons (one_one rfl) (fl_cons (one_one rfl) fl_nil))))))) hI rfl hA rfl rfl rfl rfl fun w hI => ?_
          refine o_nil ?_
          refine ⟨(.inr hI), ?_⟩
          refine g_easy (i := 3) hA rfl rfl (by kernel_rfl) (.inr hI) (fun _ => r_as hA rfl) rfl fun a hA => ?_
          refine g_nil (by kernel_rfl) ?_
          cases Option.some.inj (bS H)
          exact ⟨e4, (ErV.le (fun _ _ h => h) (((hi1.le.trans hi2.le).trans hle1).trans hi5.le) he4), hA.sub ⟨rfl, rfl, rfl, rfl, rfl, rfl, rfl, trivial⟩, hI⟩
        · rintro a w ⟨vvc5, wc5, hA, hI⟩
          have H := Hk3
          refine w_ret ?_
          obtain rfl := Option.some.inj (bS H)
          exact retN hA Tryd.results27 (.cell rfl (cell_ld Tryd.underlying39 rfl sz39 rfl hI (j := 3) rfl) (.tmp rfl .nil)) ⟨_, rfl, (.slice none 0 0), vvc5, μ7, rfl, ⟨(in_lit .u32 0 rfl), (arr_zero _ _), (arr_zero _ _), (in_lit .u32 0 rfl), (in_lit .u32 0 rfl), (in_lit .u32 0 rfl), (slc_nil _ _ _)⟩, wc5, (hI.sel [] (by decide) rfl)⟩
      · have hc30 := hc3; have hc3 := of_decide_eq_false hc3; have H := bF H hc3
        refine w_skip ?_
        refine hN8 _ _ ?_
        refine w_seq fun _ hN12 => ?_
        refine w_reg ?_
        refine stp hA (r_ldA (j := 2) [] [[.int .u32 r2.1.Version], av .u8 32 r2.1.Prev, av .u8 32 r2.1.Root, [.int .u32 r2.1.Time], [.int .u32 r2.1.Work], [.int .u32 r2.1.Nonce], [vvc1]] [] Tryd.underlying39 rfl sz39 rfl hI rfl hA rfl rfl) rfl fun a hA => 
          o_st (j := 3) [] [[.int .u32 0], av .u8 32 (List.replicate 32 0), av .u8 32 (List.replicate 32 0), [.int .u32 0], [.int .u32 0], [.int .u32 0], [(.slice none 0 0)]] [[.int .u32 r2.1.Version], av .u8 32 r2.1.Prev, av .u8 32 r2.1.Root, [.int .u32 r2.1.Time], [.int .u32 r2.1.Work], [.int .u32 r2.1.Nonce], [vvc1]] [] sz39 rfl rfl (fl_cons (one_one rfl) (fl_cons (one_av _ _ _) (fl_cons (one_av _ _ _) (fl_cons (one_one rfl) (fl_cons (one_one rfl) (fl_cons (one_one rfl) (fl_cons (one_one (own_one hI (j := 1) rfl)) fl_nil))))))) hI rfl hA rfl rfl rfl rfl fun w hI => 
          stp hA (r_as hA rfl) rfl fun a hA => ?_
        refine o_nil ?_
        refine hN12 _ _ ?_
        refine w_ret ?_
        obtain ⟨μ9, hle3, hsv2, hI⟩ := hI.freezeRow 1 rfl
        have hS3 : Slc (RTx μ9) 4 μ9 vvc1 c1 := ⟨_, (Els.mono wc1 (fun _ _ h => RTx.le (hi5.le.trans hle3) h)), hsv2⟩
        obtain rfl := Option.some.inj (bS H)
        exact retN hA Tryd.results27 (.cell rfl (cell_ld Tryd.underlying39 rfl sz39 rfl hI (j := 2) rfl) (.tmp rfl .nil)) ⟨_, rfl, vvc1, .nilIface, μ9, rfl, ⟨hw1.1, hw1.2.1, hw1.2.2.1, hw1.2.2.2.1, hw1.2.2.2.2.1, hw1.2.2.2.2.2, hS3⟩, erv_nil, (hI.sel [] (by decide) rfl)⟩
end Go.Proofs.YtlpggofilkfbnaaDoor.T
namespace Go.Proofs.YtlpggofilkfbnaaDoor.T
open Go Go.Proofs Go.Proofs.YtlpggofilkfbnaaDoor.K
set_option linter.unusedVariables false
set_option linter.unusedSimpArgs false
noncomputable def sargassolaw7_first.f : Option Bool := ((((block_Start.f).bind fun r1 => ((block_Check.f r1).bind fun r2 => (if r2 = (Er.b 0) then ((block_Start.f).bind fun r3 => ((block_IDs.f r3).bind fun r4 => some (decide ((r4.length : Int) = 1)))) else some false)))).bind fun c1 => some c1)
noncomputable def sargassolaw7_light.s1 (x0 : Block) (s1 : Int) (s2 : Int) : Int → Option (Int ⊕ ((Int × Int) ⊕ Bool)) := fun s3 => (if s3 < (((x0.Txs.getD s2.toNat default).Ins).length : Int) then (if 0 ≤ s3 ∧ s3 < (((x0.Txs.getD s2.toNat default).Ins).length : Int) then (if 100 < (((((x0.Txs.getD s2.toNat default).Ins).getD s3.toNat default).Key).length : Int) then some (.inr (.inr false)) else some (.inl (IntKind.i64.wrap (s3 + 1)))) else none) else some (.inr (.inl (IntKind.i64.wrap ((IntKind.i64.wrap (s1 + (((x0.Txs.getD s2.toNat default).Ins).length : Int))) + (((x0.Txs.getD s2.toNat default).Outs).length : Int)), IntKind.i64.wrap (s2 + 1)))))
noncomputable def sargassolaw7_light.s0 (x0 : Block) : (Int × Int) → Option ((Int × Int) ⊕ Bool) := fun (s1, s2) => (if s2 < (x0.Txs.length : Int) then (if 0 ≤ s2 ∧ s2 < (x0.Txs.length : Int) then (((if 60 < (((x0.Txs.getD s2.toNat default).Ins).length : Int) then some true else some (decide (60 < (((x0.Txs.getD s2.toNat default).Outs).length : Int))))).bind fun c1 => (if c1 = true then some (.inr false) else loopO (sargassolaw7_light.s1 x0 s1 s2) 0)) else none) else some (.inr (decide (s1 ≤ 500))))
noncomputable def sargassolaw7_light.f (x0 : Block) : Option Bool := (if 210 < (x0.Txs.length : Int) then some false else loopO (sargassolaw7_light.s0 x0) (0, 0))
end Go.Proofs.YtlpggofilkfbnaaDoor.T
namespace Go.Proofs.YtlpggofilkfbnaaDoor.T
open Go Go.Proofs Go.Proofs.YtlpggofilkfbnaaDoor.K
set_option linter.unusedVariables false
set_option linter.unusedSimpArgs false
set_option maxRecDepth 20000 in
theorem sargassolaw7_first.c (μ : Store) (w0 : World) (hμ : Agr μ w0) (e0 : Value) (he0 : ErS μ e0 (Er.b 1)) (e1 : Value) (he1 : ErS μ e1 (Er.b 2)) (e2 : Value) (he2 : ErS μ e2 (Er.b 3)) (e3 : Value) (he3 : ErS μ e3 (Er.b 4)) (e5 : Value) (he5 : ErS μ e5 (Er.b 6)) (e6 : Value) (he6 : ErS μ e6 (Er.b 7)) (e7 : Value) (he7 : ErS μ e7 (Er.b 8)) (e8 : Value) (he8 : ErS μ e8 (Er.b 9)) (r : Bool) (H : sargassolaw7_first.f = some r) :
    Calls Tryd.prog 7 [].toArray w0 (fun e w' => ∃ v, e = .returned v ∧ v = .bool r ∧ True ∧ Iv w0 [] μ μ [] w') := by
  refine enter Tryd.func7 rfl Tryd.ntmps7 rfl fun a hA => ?_
  have hI := Iv.start hμ
  have H := bI H
  refine w_seq fun _ hN1 => ?_
  refine w_reg ?_
  refine stp hA (r_as hA rfl) rfl fun a hA => ?_
  refine o_nil ?_
  refine hN1 _ _ ?_
  obtain ⟨c1, hz1, Hk1⟩ := bB H
  refine w_cut (fun a w => ∃ (μ1 : Store), μ.le μ1 ∧ Fr a 10 [(0, .bool c1)] ∧ Iv w0 [] μ μ1 [] w) ?_ ?_
  · have H := bI hz1
    refine w_reg ?_
    obtain ⟨r1, hr1, H⟩ := bB H
    refine o_call _ cf12 hA rfl (block_Start.c μ _ hI.agr  r1 hr1) rfl fun v1 a w hz2 hA => ?_
    obtain ⟨v2, μ2, rfl, hw1, hi1⟩ := hz2
    have hI := hI.call hi1
    obtain ⟨r2, hr2, H⟩ := bB H
    refine o_call _ cf16 hA rfl (block_Check.c μ2 _ hI.agr r1 v2 ⟨hw1.1, hw1.2.1, hw1.2.2.1, hw1.2.2.2.1, hw1.2.2.2.2.1, hw1.2.2.2.2.2.1, hw1.2.2.2.2.2.2⟩ e0 (ErV.le (fun _ _ h => h) hi1.le he0) e1 (ErV.le (fun _ _ h => h) hi1.le he1) e2 (ErV.le (fun _ _ h => h) hi1.le he2) e3 (ErV.le (fun _ _ h => h) hi1.le he3) e5 (ErV.le (fun _ _ h => h) hi1.le he5) e6 (ErV.le (fun _ _ h => h) hi1.le he6) e7 (ErV.le (fun _ _ h => h) hi1.le he7) e8 (ErV.le (fun _ _ h => h) hi1.le he8) r2 hr2) rfl fun v3 a w hz3 hA => ?_
    obtain ⟨_, μ3, rfl, hS1, hi2⟩ := hz3
    have hI := hI.call hi2
    refine stp hA (r_eqE erF hI.agr hS1 erv_nil (.inl ⟨.inr ⟨_, rfl⟩, Er.fitR⟩) hA rfl rfl) rfl fun a hA => 
      stp hA (r_mv hA rfl) rfl fun a hA => ?_
    rcases Bool.eq_false_or_eq_true (decide (r2 = (Er.b 0))) with hc1 | hc1
    · have hc10 := hc1; have hc1 := of_decide_eq_true hc1; have H := bT H hc1
      refine o_yes hA rfl rfl hc10 <| ?_
      obtain ⟨r3, hr3, H⟩ := bB H
      refine o_call _ cf12 hA rfl (block_Start.c μ3 _ hI.agr  r3 hr3) rfl fun v4 a w hz4 hA => ?_
      obtain ⟨v5, μ4, rfl, hw2, hi3⟩ := hz4
      have hI := hI.call hi3
      refine o_yes hA rfl rfl hc10 <| ?_
      obtain ⟨r4, hr4, H⟩ := bB H
      refine o_call _ cf29 hA rfl (block_IDs.c μ4 _ hI.agr r3 v5 ⟨hw2.1, hw2.2.1, hw2.2.2.1, hw2.2.2.2.1, hw2.2.2.2.2.1, hw2.2.2.2.2.2.1, hw2.2.2.2.2.2.2⟩ r4 hr4) rfl fun v6 a w hz5 hA => ?_
      obtain ⟨_, cs1, rfl, hE1, hi4⟩ := hz5
      have hI := hI.call hi4
      refine o_yes hA rfl rfl hc10 <| ?_
      have hlen1 := Iv.row_in hI (j := 0) rfl
      refine stp hA (r_rlen (xs := 0) Tryd.underlying71 hI (j := 0) rfl hA rfl) rfl fun a hA => 
        o_yes hA rfl rfl hc10 <| 
        stp hA (r_eql hA rfl rfl) rfl fun a hA => 
        stp hA (r_pick_t hA rfl hc10 rfl) rfl fun a hA => 
        stp hA (r_as hA rfl) rfl fun a hA => ?_
      refine o_nil ?_
      cases Option.some.inj (bS H)
      exact ⟨μ4, ((hi1.le.trans hi2.le).trans hi3.le), hA.sub ⟨rfl, trivial⟩, (hI.sel [] (by decide) rfl)⟩
    · have hc10 := hc1; have hc1 := of_decide_eq_false hc1; have H := bF H hc1
      refine o_no hA rfl rfl (by rw [hc10]; simp [vb]) rfl fun a hA => 
        o_no hA rfl rfl (by rw [hc10]; simp [vb]) rfl fun a hA => 
        o_no hA rfl rfl (by rw [hc10]; simp [vb]) rfl fun a hA => 
        o_no hA rfl rfl (by rw [hc10]; simp [vb]) rfl fun a hA => 
        stp hA (r_pick_f hA rfl hc10 rfl) rfl fun a hA => 
        stp hA (r_as hA rfl) rfl fun a hA => ?_
      refine o_nil ?_
      cases Option.some.inj (bS H)
      exact ⟨μ3, (hi1.le.trans hi2.le), hA.sub ⟨rfl, trivial⟩, hI⟩
  · rintro a w ⟨μ1, hle1, hA, hI⟩
    have H := Hk1
    refine w_ret ?_
    obtain rfl := Option.some.inj (bS H)
    exact ret1 hA Tryd.results7 rfl ⟨_, rfl, rfl, trivial, hI.forget0⟩
set_option maxRecDepth 20000 in
theorem sargassolaw7_light.c (μ : Store) (w0 : World) (hμ : Agr μ w0) (x0 : Block) (u0_0 : Value) (hx0 : BlockW μ x0 u0_0) (r : Bool) (H : sargassolaw7_light.f x0 = some r) :
    Calls Tryd.prog 26 [.agg [[.int .u32 x0.Head.Version], av .u8 32 x0.Head.Prev, av .u8 32 x0.Head.Root, [.int .u32 x0.Head.Time], [.int .u32 x0.Head.Work], [.int .u32 x0.Head.Nonce], [u0_0]].flatten.toArray].toArray w0 (fun e w' => ∃ v, e = .returned v ∧ v = .bool r ∧ True ∧ Iv w0 [] μ μ [] w') := by
  refine enter Tryd.func26 rfl Tryd.ntmps26 rfl fun a hA => ?_
  have hI := Iv.start hμ
  have H := bI H
  refine w_seq fun _ hN1 => ?_
  refine w_reg ?_
  refine o_box [[.int .u32 x0.Head.Version], av .u8 32 x0.Head.Prev, av .u8 32 x0.Head.Root, [.int .u32 x0.Head.Time], [.int .u32 x0.Head.Work], [.int .u32 x0.Head.Nonce], [u0_0]] hI hA rfl rfl rfl fun g1 a w hA hI hg1 => 
    stp hA (r_as hA rfl) rfl fun a hA => ?_
  refine o_nil ?_
  refine hN1 _ _ ?_
  refine w_seq fun _ hN2 => ?_
  refine w_seq fun _ hN3 => ?_
  refine w_reg ?_
  refine stp hA (r_fd (k := 68) Tryd.underlying39 rfl sz37 hA rfl rfl) rfl fun a hA => 
    stp hA (r_ld1 (j := 0) [[.int .u32 x0.Head.Version], av .u8 32 x0.Head.Prev, av .u8 32 x0.Head.Root, [.int .u32 x0.Head.Time], [.int .u32 x0.Head.Work], [.int .u32 x0.Head.Nonce]] [] Tryd.underlying37 rfl hI rfl hA rfl rfl) rfl fun a hA => ?_
  obtain ⟨_, hsl1⟩ := Slc.sv hx0.2.2.2.2.2.2
  refine stp hA (r_slen Tryd.underlying37 hsl1 hA rfl) rfl fun a hA => 
    stp hA (r_gtr hA rfl rfl) rfl fun a hA => ?_
  refine o_nil ?_
  refine hN3 _ _ ?_
  refine w_cond hA rfl (fun hc1 => ?_) (fun hc1 => ?_)
  · have hc10 := hc1; have hc1 := of_decide_eq_true hc1; have H := bT H hc1
    refine w_seq fun _ hN4 => ?_
    refine w_reg ?_
    refine stp hA (r_as hA rfl) rfl fun a hA => ?_
    refine o_nil ?_
    refine hN4 _ _ ?_
    refine w_ret ?_
    obtain rfl := Option.some.inj (bS H)
    exact ret1 hA Tryd.results26 rfl ⟨_, rfl, rfl, trivial, hI.forget0⟩
  · have hc10 := hc1; have hc1 := of_decide_eq_false hc1; have H := bF H hc1
    refine w_skip ?_
    refine hN2 _ _ ?_
    refine w_seq fun _ hN5 => ?_
    refine w_reg ?_
    refine stp hA (r_as hA rfl) rfl fun a hA => ?_
    refine o_nil ?_
    refine hN5 _ _ ?_
    refine w_seq fun _ hN6 => ?_
    refine w_seq fun _ hN7 => ?_
    refine w_reg ?_
    refine stp hA (r_as hA rfl) rfl fun a hA => ?_
    refine o_nil ?_
    refine hN7 _ _ ?_
    refine w_block ?_
    obtain ⟨z1, hz1, Hk1⟩ := bind_some H
    obtain ⟨n1, hn1⟩ := loopO_some hz1
    refine w_loop (fun n a w => ∃ (s1 : Int) (s2 : Int), loopN (sargassolaw7_light.s0 x0) n (s1, s2) = some z1 ∧ InR .i64 s1 ∧ InR .i64 s2 ∧ Fr a 59 [(0, .agg [[.int .u32 x0.Head.Version], av .u8 32 x0.Head.Prev, av .u8 32 x0.Head.Root, [.int .u32 x0.Head.Time], [.int .u32 x0.Head.Work], [.int .u32 x0.Head.Nonce], [u0_0]].flatten.toArray), (1, .pointer (some ⟨g1, 0, none⟩)), (2, .bool false), (3, .int .i64 s1), (4, .int .i64 s2), (10, .bool (decide (210 < (x0.Txs.length : Int))))] ∧ Iv w0 [] μ μ [cel g1 [[.int .u32 x0.Head.Version], av .u8 32 x0.Head.Prev, av .u8 32 x0.Head.Root, [.int .u32 x0.Head.Time], [.int .u32 x0.Head.Work], [.int .u32 x0.Head.Nonce], [u0_0]] 39] w) n1 ⟨0, 0, hn1, (in_lit .i64 0 rfl), (in_lit .i64 0 rfl), hA.sub ⟨rfl, rfl, rfl, rfl, rfl, rfl, trivial⟩, hI⟩ ?_
    clear hA hI
    rintro n a w ⟨s1, s2, hn1, ws1, ws2, hA, hI⟩
    obtain ⟨m1, rfl, H⟩ := loopN_bind hn1
    clear hn1
    refine w_seq fun _ hN8 => ?_
    refine w_seq fun _ hN9 => ?_
    refine w_reg ?_
    refine stp hA (r_mv hA rfl) rfl fun a hA => 
      stp hA (r_fd (k := 68) Tryd.underlying39 rfl sz37 hA rfl rfl) rfl fun a hA => 
      stp hA (r_ld1 (j := 0) [[.int .u32 x0.Head.Version], av .u8 32 x0.Head.Prev, av .u8 32 x0.Head.Root, [.int .u32 x0.Head.Time], [.int .u32 x0.Head.Work], [.int .u32 x0.Head.Nonce]] [] Tryd.underlying37 rfl hI rfl hA rfl rfl) rfl fun a hA => ?_
    obtain ⟨_, hsl2⟩ := Slc.sv hx0.2.2.2.2.2.2
    refine stp hA (r_slen Tryd.underlying37 hsl2 hA rfl) rfl fun a hA => 
      stp hA (r_lss hA rfl rfl) rfl fun a hA => ?_
    refine o_nil ?_
    refine hN9 _ _ ?_
    refine w_cond hA rfl (fun hc2 => ?_) (fun hc2 => ?_)
    · have hc20 := hc2; have hc2 := of_decide_eq_true hc2; have H := bT H hc2
      refine w_skip ?_
      refine hN8 _ _ ?_
      refine w_seq fun _ hN10 => ?_
      refine w_block ?_
      refine w_seq fun _ hN11 => ?_
      refine w_reg ?_
      refine stp hA (r_fd (k := 68) Tryd.underlying39 rfl sz37 hA rfl rfl) rfl fun a hA => 
        stp hA (r_ld1 (j := 0) [[.int .u32 x0.Head.Version], av .u8 32 x0.Head.Prev, av .u8 32 x0.Head.Root, [.int .u32 x0.Head.Time], [.int .u32 x0.Head.Work], [.int .u32 x0.Head.Nonce]] [] Tryd.underlying37 rfl hI rfl hA rfl rfl) rfl fun a hA => 
        stp hA (r_mv hA rfl) rfl fun a hA => ?_
      obtain ⟨hb1, H⟩ := bG H
      obtain ⟨_, he1, _, hat1⟩ := Slc.elem hx0.2.2.2.2.2.2 (getD_some default hb1.1 hb1.2)
      obtain ⟨v1, v2, rfl, hw1⟩ := he1
      obtain ⟨_, hsl3⟩ := Slc.sv hx0.2.2.2.2.2.2
      refine stp hA (r_six Tryd.underlying37 sz32 hsl3 hA rfl rfl hb1.1 hb1.2) rfl fun a hA => 
        stp hA (r_ldmA [] [[.int .u32 ((x0.Txs.getD s2.toNat default).Version)], [v1], [v2], [.int .u32 ((x0.Txs.getD s2.toNat default).Time)]] [] Tryd.underlying32 rfl sz32 rfl hI.agr hat1 hA rfl rfl) rfl fun a hA => 
        o_new [[.int .u32 0], [(.slice none 0 0)], [(.slice none 0 0)], [.int .u32 0]] zr32 hI hA rfl fun g2 a w hA hI hg2 => ?_
      obtain ⟨_, hsl4⟩ := Slc.sv hw1.2.1
      obtain ⟨_, hsl5⟩ := Slc.sv hw1.2.2.1
      refine o_st (j := 0) [] [[.int .u32 0], [(.slice none 0 0)], [(.slice none 0 0)], [.int .u32 0]] [[.int .u32 ((x0.Txs.getD s2.toNat default).Version)], [v1], [v2], [.int .u32 ((x0.Txs.getD s2.toNat default).Time)]] [] sz32 rfl rfl (fl_cons (one_one rfl) (fl_cons (one_one (one_sl hsl4)) (fl_cons (one_one (one_sl hsl5)) (fl_cons (one_one rfl) fl_nil)))) hI rfl hA rfl rfl rfl rfl fun w hI => ?_
      refine o_nil ?_
      refine hN11 _ _ ?_
      refine w_seq fun _ hN12 => ?_
      obtain ⟨c1, hz2, Hk2⟩ := bB H
      refine w_cut (fun a w => Fr a 59 [(0, .agg [[.int .u32 x0.Head.Version], av .u8 32 x0.Head.Prev, av .u8 32 x0.Head.Root, [.int .u32 x0.Head.Time], [.int .u32 x0.Head.Work], [.int .u32 x0.Head.Nonce], [u0_0]].flatten.toArray), (1, .pointer (some ⟨g1, 0, none⟩)), (2, .bool false), (3, .int .i64 s1), (4, .int .i64 s2), (5, .pointer (some ⟨g2, 0, none⟩)), (10, .bool (decide (210 < (x0.Txs.length : Int)))), (15, .bool (decide (s2 < (x0.Txs.length : Int)))), (32, .bool c1)] ∧ Iv w0 [] μ μ [cel g2 [[.int .u32 ((x0.Txs.getD s2.toNat default).Version)], [v1], [v2], [.int .u32 ((x0.Txs.getD s2.toNat default).Time)]] 32, cel g1 [[.int .u32 x0.Head.Version], av .u8 32 x0.Head.Prev, av .u8 32 x0.Head.Root, [.int .u32 x0.Head.Time], [.int .u32 x0.Head.Work], [.int .u32 x0.Head.Nonce], [u0_0]] 39] w) ?_ ?_
      · have H := bI hz2
        refine w_reg ?_
        refine stp hA (r_fd (k := 1) Tryd.underlying32 rfl sz29 hA rfl rfl) rfl fun a hA => 
          stp hA (r_ld1 (j := 0) [[.int .u32 ((x0.Txs.getD s2.toNat default).Version)]] [[v2], [.int .u32 ((x0.Txs.getD s2.toNat default).Time)]] Tryd.underlying29 rfl hI rfl hA rfl rfl) rfl fun a hA => ?_
        obtain ⟨_, hsl6⟩ := Slc.sv hw1.2.1
        refine stp hA (r_slen Tryd.underlying29 hsl6 hA rfl) rfl fun a hA => 
          stp hA (r_gtr hA rfl rfl) rfl fun a hA => 
          stp hA (r_mv hA rfl) rfl fun a hA => ?_
        rcases Bool.eq_false_or_eq_true (decide (60 < (((x0.Txs.getD s2.toNat default).Ins).length : Int))) with hc3 | hc3
        · have hc30 := hc3; have hc3 := of_decide_eq_true hc3; have H := bT H hc3
          refine o_no hA rfl rfl (by rw [hc30]; simp [vb]) rfl fun a hA => 
            o_no hA rfl rfl (by rw [hc30]; simp [vb]) rfl fun a hA => 
            o_no hA rfl rfl (by rw [hc30]; simp [vb]) rfl fun a hA => 
            o_no hA rfl rfl (by rw [hc30]; simp [vb]) rfl fun a hA => 
            stp hA (r_pick_t hA rfl hc30 rfl) rfl fun a hA => ?_
          refine o_nil ?_
          cases Option.some.inj (bS H)
          exact ⟨hA.sub ⟨rfl, rfl, rfl, rfl, rfl, rfl, rfl, rfl, rfl, trivial⟩, hI⟩
        · have hc30 := hc3; have hc3 := of_decide_eq_false hc3; have H := bF H hc3
          refine o_yes hA rfl rfl hc30 <| 
            stp hA (r_fd (k := 2) Tryd.underlying32 rfl sz30 hA rfl rfl) rfl fun a hA => 
            o_yes hA rfl rfl hc30 <| 
            stp hA (r_ld1 (j := 0) [[.int .u32 ((x0.Txs.getD s2.toNat default).Version)], [v1]] [[.int .u32 ((x0.Txs.getD s2.toNat default).Time)]] Tryd.underlying30 rfl hI rfl hA rfl rfl) rfl fun a hA => 
            o_yes hA rfl rfl hc30 <| ?_
          obtain ⟨_, hsl7⟩ := Slc.sv hw1.2.2.1
          refine stp hA (r_slen Tryd.underlying30 hsl7 hA rfl) rfl fun a hA => 
            o_yes hA rfl rfl hc30 <| 
            stp hA (r_gtr hA rfl rfl) rfl fun a hA => 
            stp hA (r_pick_f hA rfl hc30 rfl) rfl fun a hA => ?_
          refine o_nil ?_
          cases Option.some.inj (bS H)
          exact ⟨hA.sub ⟨rfl, rfl, rfl, rfl, rfl, rfl, rfl, rfl, rfl, trivial⟩, hI⟩
      · rintro a w ⟨hA, hI⟩
        have H := Hk2
        refine w_cond hA rfl (fun hc4 => ?_) (fun hc4 => ?_)
        · have hc40 := hc4; have H := bT H hc4
          refine w_seq fun _ hN13 => ?_
          refine w_reg ?_
          refine stp hA (r_as hA rfl) rfl fun a hA => ?_
          refine o_nil ?_
          refine hN13 _ _ ?_
          refine w_ret ?_
          have H : some false = some z1 := H
          obtain rfl := Option.some.inj H
          have H := Hk1
          obtain rfl := Option.some.inj (bS H)
          exact ret1 hA Tryd.results26 rfl ⟨_, rfl, rfl, trivial, hI.forget0⟩
        · have hc40 := hc4; have hc4 := ft hc4; have H := bF H hc4
          refine w_skip ?_
          refine hN12 _ _ ?_
          refine w_seq fun _ hN14 => ?_
          refine w_reg ?_
          refine stp hA (r_mv hA rfl) rfl fun a hA => 
            stp hA (r_fd (k := 1) Tryd.underlying32 rfl sz29 hA rfl rfl) rfl fun a hA => 
            stp hA (r_ld1 (j := 0) [[.int .u32 ((x0.Txs.getD s2.toNat default).Version)]] [[v2], [.int .u32 ((x0.Txs.getD s2.toNat default).Time)]] Tryd.underlying29 rfl hI rfl hA rfl rfl) rfl fun a hA => ?_
          obtain ⟨_, hsl8⟩ := Slc.sv hw1.2.1
          refine stp hA (r_slen Tryd.underlying29 hsl8 hA rfl) rfl fun a hA => 
            stp hA (r_add hA rfl rfl) rfl fun a hA => 
            stp hA (r_fd (k := 2) Tryd.underlying32 rfl sz30 hA rfl rfl) rfl fun a hA => 
            stp hA (r_ld1 (j := 0) [[.int .u32 ((x0.Txs.getD s2.toNat default).Version)], [v1]] [[.int .u32 ((x0.Txs.getD s2.toNat default).Time)]] Tryd.underlying30 rfl hI rfl hA rfl rfl) rfl fun a hA => ?_
          obtain ⟨_, hsl9⟩ := Slc.sv hw1.2.2.1
          refine stp hA (r_slen Tryd.underlying30 hsl9 hA rfl) rfl fun a hA => 
            stp hA (r_add hA rfl rfl) rfl fun a hA => 
            stp hA (r_as hA rfl) rfl fun a hA => ?_
          refine o_nil ?_
          refine hN14 _ _ ?_
          refine w_seq fun _ hN15 => ?_
          refine w_reg ?_
          refine stp hA (r_as hA rfl) rfl fun a hA => ?_
          refine o_nil ?_
          refine hN15 _ _ ?_
          refine w_block ?_
          obtain ⟨z2, hz3, Hk3⟩ := bind_some H
          obtain ⟨n2, hn2⟩ := loopO_some hz3
          refine w_loop (fun n a w => ∃ (s3 : Int), loopN (sargassolaw7_light.s1 x0 s1 s2) n s3 = some z2 ∧ InR .i64 s3 ∧ Fr a 59 [(0, .agg [[.int .u32 x0.Head.Version], av .u8 32 x0.Head.Prev, av .u8 32 x0.Head.Root, [.int .u32 x0.Head.Time], [.int .u32 x0.Head.Work], [.int .u32 x0.Head.Nonce], [u0_0]].flatten.toArray), (1, .pointer (some ⟨g1, 0, none⟩)), (2, .bool false), (3, .int .i64 (IntKind.i64.wrap ((IntKind.i64.wrap (s1 + (((x0.Txs.getD s2.toNat default).Ins).length : Int))) + (((x0.Txs.getD s2.toNat default).Outs).length : Int)))), (4, .int .i64 s2), (5, .pointer (some ⟨g2, 0, none⟩)), (6, .int .i64 s3), (10, .bool (decide (210 < (x0.Txs.length : Int)))), (15, .bool (decide (s2 < (x0.Txs.length : Int)))), (32, .bool c1)] ∧ Iv w0 [] μ μ [cel g2 [[.int .u32 ((x0.Txs.getD s2.toNat default).Version)], [v1], [v2], [.int .u32 ((x0.Txs.getD s2.toNat default).Time)]] 32, cel g1 [[.int .u32 x0.Head.Version], av .u8 32 x0.Head.Prev, av .u8 32 x0.Head.Root, [.int .u32 x0.Head.Time], [.int .u32 x0.Head.Work], [.int .u32 x0.Head.Nonce], [u0_0]] 39] w) n2 ⟨0, hn2, (in_lit .i64 0 rfl), hA.sub ⟨rfl, rfl, rfl, rfl, rfl, rfl, rfl, rfl, rfl, rfl, trivial⟩, hI⟩ ?_
          clear hA hI
          rintro n a w ⟨s3, hn2, ws3, hA, hI⟩
          obtain ⟨m2, rfl, H⟩ := loopN_bind hn2
          clear hn2
          refine w_seq fun _ hN16 => ?_
          refine w_seq fun _ hN17 => ?_
          refine w_reg ?_
          refine stp hA (r_mv hA rfl) rfl fun a hA => 
            stp hA (r_fd (k := 1) Tryd.underlying32 rfl sz29 hA rfl rfl) rfl fun a hA => 
            stp hA (r_ld1 (j := 0) [[.int .u32 ((x0.Txs.getD s2.toNat default).Version)]] [[v2], [.int .u32 ((x0.Txs.getD s2.toNat default).Time)]] Tryd.underlying29 rfl hI rfl hA rfl rfl) rfl fun a hA => ?_
          obtain ⟨_, hsl10⟩ := Slc.sv hw1.2.1
          refine stp hA (r_slen Tryd.underlying29 hsl10 hA rfl) rfl fun a hA => 
            stp hA (r_lss hA rfl rfl) rfl fun a hA => ?_
          refine o_nil ?_
          refine hN17 _ _ ?_
          refine w_cond hA rfl (fun hc5 => ?_) (fun hc5 => ?_)
          · have hc50 := hc5; have hc5 := of_decide_eq_true hc5; have H := bT H hc5
            refine w_skip ?_
            refine hN16 _ _ ?_
            refine w_seq fun _ hN18 => ?_
            refine w_block ?_
            refine w_seq fun _ hN19 => ?_
            refine w_reg ?_
            refine stp hA (r_fd (k := 1) Tryd.underlying32 rfl sz29 hA rfl rfl) rfl fun a hA => 
              stp hA (r_ld1 (j := 0) [[.int .u32 ((x0.Txs.getD s2.toNat default).Version)]] [[v2], [.int .u32 ((x0.Txs.getD s2.toNat default).Time)]] Tryd.underlying29 rfl hI rfl hA rfl rfl) rfl fun a hA => 
              stp hA (r_mv hA rfl) rfl fun a hA => ?_
            obtain ⟨hb2, H⟩ := bG H
            obtain ⟨_, he2, _, hat2⟩ := Slc.elem hw1.2.1 (getD_some default hb2.1 hb2.2)
            obtain ⟨v3, rfl, hw2⟩ := he2
            obtain ⟨_, hsl11⟩ := Slc.sv hw1.2.1
            refine stp hA (r_six Tryd.underlying29 sz46 hsl11 hA rfl rfl hb2.1 hb2.2) rfl fun a hA => 
              stp hA (r_fd (k := so v1 + s3.toNat * 35 + 33) Tryd.underlying46 rfl sz25 hA rfl rfl) rfl fun a hA => 
              stp hA (r_ldm1 [av .u8 32 ((((x0.Txs.getD s2.toNat default).Ins).getD s3.toNat default).From.Tx), [.int .u32 ((((x0.Txs.getD s2.toNat default).Ins).getD s3.toNat default).From.N)]] [[.int .u32 ((((x0.Txs.getD s2.toNat default).Ins).getD s3.toNat default).Seq)]] Tryd.underlying25 rfl hI.agr hat2 hA rfl rfl) rfl fun a hA => ?_
            obtain ⟨_, hsl12⟩ := Slc.sv hw2.2.2.1
            refine stp hA (r_slen Tryd.underlying25 hsl12 hA rfl) rfl fun a hA => 
              stp hA (r_gtr hA rfl rfl) rfl fun a hA => ?_
            refine o_nil ?_
            refine hN19 _ _ ?_
            refine w_cond hA rfl (fun hc6 => ?_) (fun hc6 => ?_)
            · have hc60 := hc6; have hc6 := of_decide_eq_true hc6; have H := bT H hc6
              refine w_seq fun _ hN20 => ?_
              refine w_reg ?_
              refine stp hA (r_as hA rfl) rfl fun a hA => ?_
              refine o_nil ?_
              refine hN20 _ _ ?_
              refine w_ret ?_
              have H : some (.inr false) = some z2 := H
              obtain rfl := Option.some.inj H
              have H := Hk3
              have H : some false = some z1 := H
              obtain rfl := Option.some.inj H
              have H := Hk1
              obtain rfl := Option.some.inj (bS H)
              exact ret1 hA Tryd.results26 rfl ⟨_, rfl, rfl, trivial, hI.forget0⟩
            · have hc60 := hc6; have hc6 := of_decide_eq_false hc6; have H := bF H hc6
              refine w_skip ?_
              refine hN18 _ _ ?_
              refine w_reg ?_
              refine stp hA (r_mv hA rfl) rfl fun a hA => 
                stp hA (r_add hA rfl rfl) rfl fun a hA => 
                stp hA (r_as hA rfl) rfl fun a hA => ?_
              refine o_nil ?_
              exact ⟨m2, Nat.lt_succ_self _, IntKind.i64.wrap (s3 + 1), H, (wrap_in _ _), hA.sub ⟨rfl, rfl, rfl, rfl, rfl, rfl, rfl, rfl, rfl, rfl, trivial⟩, hI⟩
          · have hc50 := hc5; have hc5 := of_decide_eq_false hc5; have H := bF H hc5
            refine w_exit rfl ?_
            refine hN10 _ _ ?_
            refine w_reg ?_
            refine stp hA (r_mv hA rfl) rfl fun a hA => 
              stp hA (r_add hA rfl rfl) rfl fun a hA => 
              stp hA (r_as hA rfl) rfl fun a hA => ?_
            refine o_nil ?_
            have H : some (.inl (IntKind.i64.wrap ((IntKind.i64.wrap (s1 + (((x0.Txs.getD s2.toNat default).Ins).length : Int))) + (((x0.Txs.getD s2.toNat default).Outs).length : Int)), IntKind.i64.wrap (s2 + 1))) = some z2 := H
            obtain rfl := Option.some.inj H
            have H := Hk3
            exact ⟨m1, Nat.lt_succ_self _, IntKind.i64.wrap ((IntKind.i64.wrap (s1 + (((x0.Txs.getD s2.toNat default).Ins).length : Int))) + (((x0.Txs.getD s2.toNat default).Outs).length : Int)), IntKind.i64.wrap (s2 + 1), H, (wrap_in _ _), (wrap_in _ _), hA.sub ⟨rfl, rfl, rfl, rfl, rfl, rfl, trivial⟩, (hI.sel [1] (by decide) rfl)⟩
    · have hc20 := hc2; have hc2 := of_decide_eq_false hc2; have H := bF H hc2
      refine w_exit rfl ?_
      refine hN6 _ _ ?_
      refine w_seq fun _ hN21 => ?_
      refine w_reg ?_
      refine stp hA (r_mv hA rfl) rfl fun a hA => 
        stp hA (r_leq hA rfl rfl) rfl fun a hA => 
        stp hA (r_as hA rfl) rfl fun a hA => ?_
      refine o_nil ?_
      refine hN21 _ _ ?_
      refine w_ret ?_
      have H : some (decide (s1 ≤ 500)) = some z1 := H
      obtain rfl := Option.some.inj H
      have H := Hk1
      obtain rfl := Option.some.inj (bS H)
      exact ret1 hA Tryd.results26 rfl ⟨_, rfl, rfl, trivial, hI.forget0⟩
end Go.Proofs.YtlpggofilkfbnaaDoor.T
namespace Go.Proofs.YtlpggofilkfbnaaDoor.T
open Go Go.Proofs Go.Proofs.YtlpggofilkfbnaaDoor.K
set_option linter.unusedVariables false
set_option linter.unusedSimpArgs false
noncomputable def sargassolaw7_BlockBack.f (x0 : Block) (x1 : List Int) (x2 : Int) : Option Bool := ((sargassolaw7_first.f).bind fun r1 => (if r1 = true then ((((sargassolaw7_light.f x0).bind fun r2 => (if r2 = true then some (decide (8000 < (x1.length : Int))) else some true))).bind fun c1 => (if c1 = true then some r1 else ((block_Read.f x1).bind fun r3 => (((if r3.2 = (Er.b 0) then ((block_Bytes.f r3.1).bind fun r4 => ((sargassoref_SameBytes.f r4 x1).bind fun r5 => some (!r5))) else some false)).bind fun c2 => (if c2 = true then some false else ((block_Bytes.f x0).bind fun r6 => (if (r6.length : Int) < 81 then some false else ((block_Check.f x0).bind fun r7 => (if r7 ≠ (Er.b 0) then some r1 else ((block_Read.f r6).bind fun r8 => ((sargassoworld_Number.f x2 (r6.length : Int)).bind fun r9 => (if 0 ≤ r9 ∧ r9 ≤ (r6.length : Int) then ((block_Read.f ((r6.take (r9).toNat).drop (0 : Int).toNat)).bind fun r10 => ((sargassoref_Bytes.f r6).bind fun r11 => (if r11.length + 1 ≤ 140737488355328 then ((block_Read.f (r11 ++ ([0] : List Int))).bind fun r12 => (((if r1 = true then (if r8.2 = (Er.b 0) then ((sargassoref_SameBlock.f r8.1 x0).bind fun r13 => (if r13 = true then ((sargassosee_Is.f r10.2 101).bind fun r14 => (if r14 = true then ((sargassosee_Is.f r12.2 102).bind fun r15 => some r15) else some false)) else some false)) else some false) else some false)).bind fun c3 => some c3)) else none))) else none)))))))))))) else some false))
end Go.Proofs.YtlpggofilkfbnaaDoor.T
namespace Go.Proofs.YtlpggofilkfbnaaDoor.T
open Go Go.Proofs Go.Proofs.YtlpggofilkfbnaaDoor.K
set_option linter.unusedVariables false
set_option linter.unusedSimpArgs false
set_option maxRecDepth 20000 in
theorem sargassolaw7_BlockBack.c (μ : Store) (w0 : World) (hμ : Agr μ w0) (x0 : Block) (u0_0 : Value) (hx0 : BlockW μ x0 u0_0) (x1 : List Int) (u1 : Value) (hx1 : Slc (RI .u8) 1 μ u1 x1) (x2 : Int) (hx2 : InR .i64 x2) (hG : Gl μ) (r : Bool) (H : sargassolaw7_BlockBack.f x0 x1 x2 = some r) :
    Calls Tryd.prog 6 [.agg [[.int .u32 x0.Head.Version], av .u8 32 x0.Head.Prev, av .u8 32 x0.Head.Root, [.int .u32 x0.Head.Time], [.int .u32 x0.Head.Work], [.int .u32 x0.Head.Nonce], [u0_0]].flatten.toArray, u1, .int .i64 x2].toArray w0 (fun e w' => ∃ v, e = .returned v ∧ v = .bool r ∧ True ∧ Iv w0 [] μ μ [] w') := by
  refine enter Tryd.func6 rfl Tryd.ntmps6 rfl fun a hA => ?_
  have hI := Iv.start hμ
  have H := bI H
  obtain ⟨e0, he0⟩ := hG.g0
  obtain ⟨e1, he1⟩ := hG.g1
  obtain ⟨e2, he2⟩ := hG.g2
  obtain ⟨e3, he3⟩ := hG.g3
  obtain ⟨e4, he4⟩ := hG.g4
  obtain ⟨e5, he5⟩ := hG.g5
  obtain ⟨e6, he6⟩ := hG.g6
  obtain ⟨e7, he7⟩ := hG.g7
  obtain ⟨e8, he8⟩ := hG.g8
  obtain ⟨e9, he9⟩ := hG.g9
  refine w_seq fun _ hN1 => ?_
  refine w_reg ?_
  refine o_box [[.int .u32 x0.Head.Version], av .u8 32 x0.Head.Prev, av .u8 32 x0.Head.Root, [.int .u32 x0.Head.Time], [.int .u32 x0.Head.Work], [.int .u32 x0.Head.Nonce], [u0_0]] hI hA rfl rfl rfl fun g1 a w hA hI hg1 => 
    stp hA (r_as hA rfl) rfl fun a hA => ?_
  refine o_nil ?_
  refine hN1 _ _ ?_
  refine w_seq fun _ hN2 => ?_
  refine w_reg ?_
  obtain ⟨r1, hr1, H⟩ := bB H
  refine o_callp (u := .bool r1) cf7 hA rfl hI (sargassolaw7_first.c μ _ hI.agr e0 he0 e1 he1 e2 he2 e3 he3 e5 he5 e6 he6 e7 he7 e8 he8 r1 hr1) rfl fun a w hz1 hI hA => 
    stp hA (r_as hA rfl) rfl fun a hA => ?_
  refine o_nil ?_
  refine hN2 _ _ ?_
  refine w_seq fun _ hN3 => ?_
  refine w_seq fun _ hN4 => ?_
  refine w_reg ?_
  refine stp hA (r_mv hA rfl) rfl fun a hA => 
    stp hA (r_not hA rfl) rfl fun a hA => ?_
  refine o_nil ?_
  refine hN4 _ _ ?_
  refine w_cond hA rfl (fun hc1 => ?_) (fun hc1 => ?_)
  · have hc10 := hc1; have hc1 := nT hc1; have hc1 := ft hc1; have H := bF H hc1
    refine w_seq fun _ hN5 => ?_
    refine w_reg ?_
    refine stp hA (r_as hA rfl) rfl fun a hA => ?_
    refine o_nil ?_
    refine hN5 _ _ ?_
    refine w_ret ?_
    obtain rfl := Option.some.inj (bS H)
    exact ret1 hA Tryd.results6 rfl ⟨_, rfl, rfl, trivial, hI.forget0⟩
  · have hc10 := hc1; have hc1 := nF hc1; have H := bT H hc1
    refine w_skip ?_
    refine hN3 _ _ ?_
    refine w_seq fun _ hN6 => ?_
    obtain ⟨c1, hz2, Hk1⟩ := bB H
    refine w_cut (fun a w => Fr a 93 [(0, .agg [[.int .u32 x0.Head.Version], av .u8 32 x0.Head.Prev, av .u8 32 x0.Head.Root, [.int .u32 x0.Head.Time], [.int .u32 x0.Head.Work], [.int .u32 x0.Head.Nonce], [u0_0]].flatten.toArray), (1, u1), (2, .int .i64 x2), (3, .pointer (some ⟨g1, 0, none⟩)), (6, .bool false), (7, .bool r1), (19, .bool (!r1)), (27, .bool c1)] ∧ Iv w0 [] μ μ [cel g1 [[.int .u32 x0.Head.Version], av .u8 32 x0.Head.Prev, av .u8 32 x0.Head.Root, [.int .u32 x0.Head.Time], [.int .u32 x0.Head.Work], [.int .u32 x0.Head.Nonce], [u0_0]] 39] w) ?_ ?_
    · have H := bI hz2
      refine w_reg ?_
      refine stp hA (r_ldA (j := 0) [] [[.int .u32 x0.Head.Version], av .u8 32 x0.Head.Prev, av .u8 32 x0.Head.Root, [.int .u32 x0.Head.Time], [.int .u32 x0.Head.Work], [.int .u32 x0.Head.Nonce], [u0_0]] [] Tryd.underlying39 rfl sz39 rfl hI rfl hA rfl rfl) rfl fun a hA => ?_
      obtain ⟨r2, hr2, H⟩ := bB H
      refine o_callp (u := .bool r2) cf26 hA rfl hI (sargassolaw7_light.c μ _ hI.agr x0 u0_0 ⟨hx0.1, hx0.2.1, hx0.2.2.1, hx0.2.2.2.1, hx0.2.2.2.2.1, hx0.2.2.2.2.2.1, hx0.2.2.2.2.2.2⟩ r2 hr2) rfl fun a w hz3 hI hA => 
        stp hA (r_not hA rfl) rfl fun a hA => 
        stp hA (r_mv hA rfl) rfl fun a hA => ?_
      rcases Bool.eq_false_or_eq_true (!r2) with hc2 | hc2
      · have hc20 := hc2; have hc2 := nT hc2; have hc2 := ft hc2; have H := bF H hc2
        refine o_no hA rfl rfl (by rw [hc20]; simp [vb]) rfl fun a hA => 
          o_no hA rfl rfl (by rw [hc20]; simp [vb]) rfl fun a hA => 
          o_no hA rfl rfl (by rw [hc20]; simp [vb]) rfl fun a hA => 
          stp hA (r_pick_t hA rfl hc20 rfl) rfl fun a hA => ?_
        refine o_nil ?_
        cases Option.some.inj (bS H)
        exact ⟨hA.sub ⟨rfl, rfl, rfl, rfl, rfl, rfl, rfl, rfl, trivial⟩, hI⟩
      · have hc20 := hc2; have hc2 := nF hc2; have H := bT H hc2
        refine o_yes hA rfl rfl hc20 <| 
          stp hA (r_mv hA rfl) rfl fun a hA => 
          o_yes hA rfl rfl hc20 <| ?_
        obtain ⟨_, hsl1⟩ := Slc.sv hx1
        refine stp hA (r_slen Tryd.underlying25 hsl1 hA rfl) rfl fun a hA => 
          o_yes hA rfl rfl hc20 <| 
          stp hA (r_gtr hA rfl rfl) rfl fun a hA => 
          stp hA (r_pick_f hA rfl hc20 rfl) rfl fun a hA => ?_
        refine o_nil ?_
        cases Option.some.inj (bS H)
        exact ⟨hA.sub ⟨rfl, rfl, rfl, rfl, rfl, rfl, rfl, rfl, trivial⟩, hI⟩
    · rintro a w ⟨hA, hI⟩
      have H := Hk1
      refine w_cond hA rfl (fun hc3 => ?_) (fun hc3 => ?_)
      · have hc30 := hc3; have H := bT H hc3
        refine w_seq fun _ hN7 => ?_
        refine w_reg ?_
        refine stp hA (r_mv hA rfl) rfl fun a hA => 
          stp hA (r_as hA rfl) rfl fun a hA => ?_
        refine o_nil ?_
        refine hN7 _ _ ?_
        refine w_ret ?_
        obtain rfl := Option.some.inj (bS H)
        exact ret1 hA Tryd.results6 rfl ⟨_, rfl, rfl, trivial, hI.forget0⟩
      · have hc30 := hc3; have hc3 := ft hc3; have H := bF H hc3
        refine w_skip ?_
        refine hN6 _ _ ?_
        refine w_seq fun _ hN8 => ?_
        refine w_seq fun _ hN9 => ?_
        refine w_reg ?_
        refine stp hA (r_mv hA rfl) rfl fun a hA => ?_
        obtain ⟨r3, hr3, H⟩ := bB H
        refine o_call _ cf27 hA rfl (block_Read.c μ _ hI.agr x1 u1 hx1 e0 he0 e4 he4 e9 he9 r3 hr3) rfl fun v1 a w hz4 hA => ?_
        obtain ⟨v2, v3, μ1, rfl, hw1, hS1, hi1⟩ := hz4
        have hI := hI.call hi1
        refine stp hA (r_mv hA rfl) rfl fun a hA => 
          stp hA (r_extr (vs := [.agg [[.int .u32 r3.1.Head.Version], av .u8 32 r3.1.Head.Prev, av .u8 32 r3.1.Head.Root, [.int .u32 r3.1.Head.Time], [.int .u32 r3.1.Head.Work], [.int .u32 r3.1.Head.Nonce], [v2]].flatten.toArray, v3]) hA rfl rfl) rfl fun a hA => 
          stp hA (r_extr (vs := [.agg [[.int .u32 r3.1.Head.Version], av .u8 32 r3.1.Head.Prev, av .u8 32 r3.1.Head.Root, [.int .u32 r3.1.Head.Time], [.int .u32 r3.1.Head.Work], [.int .u32 r3.1.Head.Nonce], [v2]].flatten.toArray, v3]) hA rfl rfl) rfl fun a hA => 
          o_new [[.int .u32 0], av .u8 32 (List.replicate 32 0), av .u8 32 (List.replicate 32 0), [.int .u32 0], [.int .u32 0], [.int .u32 0], [(.slice none 0 0)]] zr39 hI hA rfl fun g2 a w hA hI hg2 => ?_
        obtain ⟨_, hsl2⟩ := Slc.sv hw1.2.2.2.2.2.2
        refine o_st (j := 0) [] [[.int .u32 0], av .u8 32 (List.replicate 32 0), av .u8 32 (List.replicate 32 0), [.int .u32 0], [.int .u32 0], [.int .u32 0], [(.slice none 0 0)]] [[.int .u32 r3.1.Head.Version], av .u8 32 r3.1.Head.Prev, av .u8 32 r3.1.Head.Root, [.int .u32 r3.1.Head.Time], [.int .u32 r3.1.Head.Work], [.int .u32 r3.1.Head.Nonce], [v2]] [] sz39 rfl rfl (fl_cons (one_one rfl) (fl_cons (one_av _ _ _) (fl_cons (one_av _ _ _) (fl_cons (one_one rfl) (fl_cons (one_one rfl) (fl_cons (one_one rfl) (fl_cons (one_one (one_sl hsl2)) fl_nil))))))) hI rfl hA rfl rfl rfl rfl fun w hI => 
          stp hA (r_as hA rfl) rfl fun a hA => ?_
        refine o_nil ?_
        refine hN9 _ _ ?_
        obtain ⟨c2, hz5, Hk2⟩ := bB H
        refine w_cut (fun a w => Fr a 93 [(0, .agg [[.int .u32 x0.Head.Version], av .u8 32 x0.Head.Prev, av .u8 32 x0.Head.Root, [.int .u32 x0.Head.Time], [.int .u32 x0.Head.Work], [.int .u32 x0.Head.Nonce], [u0_0]].flatten.toArray), (1, u1), (2, .int .i64 x2), (3, .pointer (some ⟨g1, 0, none⟩)), (6, .bool false), (7, .bool r1), (8, .pointer (some ⟨g2, 0, none⟩)), (9, v3), (19, .bool (!r1)), (27, .bool c1), (42, .bool c2)] ∧ Iv w0 [] μ μ1 [cel g2 [[.int .u32 r3.1.Head.Version], av .u8 32 r3.1.Head.Prev, av .u8 32 r3.1.Head.Root, [.int .u32 r3.1.Head.Time], [.int .u32 r3.1.Head.Work], [.int .u32 r3.1.Head.Nonce], [v2]] 39, cel g1 [[.int .u32 x0.Head.Version], av .u8 32 x0.Head.Prev, av .u8 32 x0.Head.Root, [.int .u32 x0.Head.Time], [.int .u32 x0.Head.Work], [.int .u32 x0.Head.Nonce], [u0_0]] 39] w) ?_ ?_
        · have H := bI hz5
          refine w_reg ?_
          refine stp hA (r_mv hA rfl) rfl fun a hA => 
            stp hA (r_eqE erF hI.agr hS1 erv_nil (.inl ⟨.inr ⟨_, rfl⟩, Er.fitR⟩) hA rfl rfl) rfl fun a hA => 
            stp hA (r_mv hA rfl) rfl fun a hA => ?_
          rcases Bool.eq_false_or_eq_true (decide (r3.2 = (Er.b 0))) with hc4 | hc4
          · have hc40 := hc4; have hc4 := of_decide_eq_true hc4; have H := bT H hc4
            refine o_yes hA rfl rfl hc40 <| 
              stp hA (r_ldA (j := 0) [] [[.int .u32 r3.1.Head.Version], av .u8 32 r3.1.Head.Prev, av .u8 32 r3.1.Head.Root, [.int .u32 r3.1.Head.Time], [.int .u32 r3.1.Head.Work], [.int .u32 r3.1.Head.Nonce], [v2]] [] Tryd.underlying39 rfl sz39 rfl hI rfl hA rfl rfl) rfl fun a hA => 
              o_yes hA rfl rfl hc40 <| ?_
            obtain ⟨r4, hr4, H⟩ := bB H
            refine o_call _ cf25 hA rfl (block_Bytes.c μ1 _ hI.agr r3.1 v2 ⟨hw1.1, hw1.2.1, hw1.2.2.1, hw1.2.2.2.1, hw1.2.2.2.2.1, hw1.2.2.2.2.2.1, hw1.2.2.2.2.2.2⟩ r4 hr4) rfl fun v4 a w hz6 hA => ?_
            obtain ⟨_, cs1, rfl, hE1, hi2⟩ := hz6
            have hI := hI.call hi2
            refine o_yes hA rfl rfl hc40 <| 
              stp hA (r_mv hA rfl) rfl fun a hA => 
              o_yes hA rfl rfl hc40 <| ?_
            obtain ⟨r5, hr5, H⟩ := bB H
            refine o_callp (u := .bool r5) cf20 hA rfl hI ((by obtain ⟨μ2, hle1, hsv1, hI⟩ := hI.freezeRow 0 rfl; have hS2 : Slc (RI .u8) 1 μ2 v4 r4 := ⟨_, hE1, hsv1⟩; exact low_plain hle1 (sargassoref_SameBytes.c μ2 _ hI.agr r4 v4 hS2 x1 u1 (Slc.le hx1 (fun _ _ h => h) (hi1.le.trans hle1)) r5 hr5))) rfl fun a w hz7 hI hA => 
              o_yes hA rfl rfl hc40 <| 
              stp hA (r_not hA rfl) rfl fun a hA => 
              stp hA (r_pick_t hA rfl hc40 rfl) rfl fun a hA => ?_
            refine o_nil ?_
            cases Option.some.inj (bS H)
            exact ⟨hA.sub ⟨rfl, rfl, rfl, rfl, rfl, rfl, rfl, rfl, rfl, rfl, rfl, trivial⟩, (hI.sel [1, 2] (by decide) rfl)⟩
          · have hc40 := hc4; have hc4 := of_decide_eq_false hc4; have H := bF H hc4
            refine o_no hA rfl rfl (by rw [hc40]; simp [vb]) rfl fun a hA => 
              o_no hA rfl rfl (by rw [hc40]; simp [vb]) rfl fun a hA => 
              o_no hA rfl rfl (by rw [hc40]; simp [vb]) rfl fun a hA => 
              o_no hA rfl rfl (by rw [hc40]; simp [vb]) rfl fun a hA => 
              o_no hA rfl rfl (by rw [hc40]; simp [vb]) rfl fun a hA => 
              stp hA (r_pick_f hA rfl hc40 rfl) rfl fun a hA => ?_
            refine o_nil ?_
            cases Option.some.inj (bS H)
            exact ⟨hA.sub ⟨rfl, rfl, rfl, rfl, rfl, rfl, rfl, rfl, rfl, rfl, rfl, trivial⟩, hI⟩
        · rintro a w ⟨hA, hI⟩
          have H := Hk2
          refine w_cond hA rfl (fun hc5 => ?_) (fun hc5 => ?_)
          · have hc50 := hc5; have H := bT H hc5
            refine w_seq fun _ hN10 => ?_
            refine w_reg ?_
            refine stp hA (r_as hA rfl) rfl fun a hA => ?_
            refine o_nil ?_
            refine hN10 _ _ ?_
            refine w_ret ?_
            obtain rfl := Option.some.inj (bS H)
            exact ret1 hA Tryd.results6 rfl ⟨_, rfl, rfl, trivial, hI.forget0⟩
          · have hc50 := hc5; have hc5 := ft hc5; have H := bF H hc5
            refine w_skip ?_
            refine hN8 _ _ ?_
            refine w_seq fun _ hN11 => ?_
            refine w_reg ?_
            refine stp hA (r_ldA (j := 1) [] [[.int .u32 x0.Head.Version], av .u8 32 x0.Head.Prev, av .u8 32 x0.Head.Root, [.int .u32 x0.Head.Time], [.int .u32 x0.Head.Work], [.int .u32 x0.Head.Nonce], [u0_0]] [] Tryd.underlying39 rfl sz39 rfl hI rfl hA rfl rfl) rfl fun a hA => ?_
            obtain ⟨r6, hr6, H⟩ := bB H
            refine o_call _ cf25 hA rfl (block_Bytes.c μ1 _ hI.agr x0 u0_0 ⟨hx0.1, hx0.2.1, hx0.2.2.1, hx0.2.2.2.1, hx0.2.2.2.2.1, hx0.2.2.2.2.2.1, (Slc.le hx0.2.2.2.2.2.2 (fun _ _ h => RTx.le hi1.le h) hi1.le)⟩ r6 hr6) rfl fun v5 a w hz8 hA => ?_
            obtain ⟨_, cs2, rfl, hE2, hi3⟩ := hz8
            have hI := hI.call hi3
            refine stp hA (r_as hA rfl) rfl fun a hA => ?_
            refine o_nil ?_
            refine hN11 _ _ ?_
            refine w_seq fun _ hN12 => ?_
            refine w_seq fun _ hN13 => ?_
            refine w_reg ?_
            refine stp hA (r_mv hA rfl) rfl fun a hA => ?_
            have hlen1 := Iv.row_in hI (j := 0) rfl
            refine stp hA (r_rlen (xs := 0) Tryd.underlying25 hI (j := 0) rfl hA rfl) rfl fun a hA => 
              stp hA (r_lss hA rfl rfl) rfl fun a hA => ?_
            refine o_nil ?_
            refine hN13 _ _ ?_
            refine w_cond hA rfl (fun hc6 => ?_) (fun hc6 => ?_)
            · have hc60 := hc6; have hc6 := of_decide_eq_true hc6; have H := bT H hc6
              refine w_seq fun _ hN14 => ?_
              refine w_reg ?_
              refine stp hA (r_as hA rfl) rfl fun a hA => ?_
              refine o_nil ?_
              refine hN14 _ _ ?_
              refine w_ret ?_
              obtain rfl := Option.some.inj (bS H)
              exact ret1 hA Tryd.results6 rfl ⟨_, rfl, rfl, trivial, hI.forget0⟩
            · have hc60 := hc6; have hc6 := of_decide_eq_false hc6; have H := bF H hc6
              refine w_skip ?_
              refine hN12 _ _ ?_
              refine w_seq fun _ hN15 => ?_
              refine w_seq fun _ hN16 => ?_
              refine w_reg ?_
              refine stp hA (r_ldA (j := 2) [] [[.int .u32 x0.Head.Version], av .u8 32 x0.Head.Prev, av .u8 32 x0.Head.Root, [.int .u32 x0.Head.Time], [.int .u32 x0.Head.Work], [.int .u32 x0.Head.Nonce], [u0_0]] [] Tryd.underlying39 rfl sz39 rfl hI rfl hA rfl rfl) rfl fun a hA => ?_
              obtain ⟨r7, hr7, H⟩ := bB H
              refine o_call _ cf16 hA rfl (block_Check.c μ1 _ hI.agr x0 u0_0 ⟨hx0.1, hx0.2.1, hx0.2.2.1, hx0.2.2.2.1, hx0.2.2.2.2.1, hx0.2.2.2.2.2.1, (Slc.le hx0.2.2.2.2.2.2 (fun _ _ h => RTx.le hi1.le h) hi1.le)⟩ e0 (ErV.le (fun _ _ h => h) hi1.le he0) e1 (ErV.le (fun _ _ h => h) hi1.le he1) e2 (ErV.le (fun _ _ h => h) hi1.le he2) e3 (ErV.le (fun _ _ h => h) hi1.le he3) e5 (ErV.le (fun _ _ h => h) hi1.le he5) e6 (ErV.le (fun _ _ h => h) hi1.le he6) e7 (ErV.le (fun _ _ h => h) hi1.le he7) e8 (ErV.le (fun _ _ h => h) hi1.le he8) r7 hr7) rfl fun v6 a w hz9 hA => ?_
              obtain ⟨_, μ3, rfl, hS3, hi4⟩ := hz9
              have hI := hI.call hi4
              refine stp hA (r_neE erF hI.agr hS3 erv_nil (.inl ⟨.inr ⟨_, rfl⟩, Er.fitR⟩) hA rfl rfl) rfl fun a hA => ?_
              refine o_nil ?_
              refine hN16 _ _ ?_
              refine w_cond hA rfl (fun hc7 => ?_) (fun hc7 => ?_)
              · have hc70 := hc7; have hc7 := of_decide_eq_true hc7; have H := bT H hc7
                refine w_seq fun _ hN17 => ?_
                refine w_reg ?_
                refine stp hA (r_mv hA rfl) rfl fun a hA => 
                  stp hA (r_as hA rfl) rfl fun a hA => ?_
                refine o_nil ?_
                refine hN17 _ _ ?_
                refine w_ret ?_
                obtain rfl := Option.some.inj (bS H)
                exact ret1 hA Tryd.results6 rfl ⟨_, rfl, rfl, trivial, hI.forget0⟩
              · have hc70 := hc7; have hc7 := of_decide_eq_false hc7; have H := bF H hc7
                refine w_skip ?_
                refine hN15 _ _ ?_
                refine w_seq fun _ hN18 => ?_
                refine w_reg ?_
                refine stp hA (r_mv hA rfl) rfl fun a hA => ?_
                obtain ⟨μ4, hle2, hsv2, hI⟩ := hI.freezeRow 0 rfl
                have hS4 : Slc (RI .u8) 1 μ4 v5 r6 := ⟨_, hE2, hsv2⟩
                obtain ⟨r8, hr8, H⟩ := bB H
                refine o_call _ cf27 hA rfl (block_Read.c μ4 _ hI.agr r6 v5 hS4 e0 (ErV.le (fun _ _ h => h) ((hi1.le.trans hi4.le).trans hle2) he0) e4 (ErV.le (fun _ _ h => h) ((hi1.le.trans hi4.le).trans hle2) he4) e9 (ErV.le (fun _ _ h => h) ((hi1.le.trans hi4.le).trans hle2) he9) r8 hr8) rfl fun v7 a w hz10 hA => ?_
                obtain ⟨v8, v9, μ5, rfl, hw2, hS5, hi5⟩ := hz10
                have hI := hI.call hi5
                refine stp hA (r_mv hA rfl) rfl fun a hA => 
                  stp hA (r_extr (vs := [.agg [[.int .u32 r8.1.Head.Version], av .u8 32 r8.1.Head.Prev, av .u8 32 r8.1.Head.Root, [.int .u32 r8.1.Head.Time], [.int .u32 r8.1.Head.Work], [.int .u32 r8.1.Head.Nonce], [v8]].flatten.toArray, v9]) hA rfl rfl) rfl fun a hA => 
                  stp hA (r_extr (vs := [.agg [[.int .u32 r8.1.Head.Version], av .u8 32 r8.1.Head.Prev, av .u8 32 r8.1.Head.Root, [.int .u32 r8.1.Head.Time], [.int .u32 r8.1.Head.Work], [.int .u32 r8.1.Head.Nonce], [v8]].flatten.toArray, v9]) hA rfl rfl) rfl fun a hA => 
                  o_new [[.int .u32 0], av .u8 32 (List.replicate 32 0), av .u8 32 (List.replicate 32 0), [.int .u32 0], [.int .u32 0], [.int .u32 0], [(.slice none 0 0)]] zr39 hI hA rfl fun g3 a w hA hI hg3 => ?_
                obtain ⟨_, hsl3⟩ := Slc.sv hw2.2.2.2.2.2.2
                refine o_st (j := 0) [] [[.int .u32 0], av .u8 32 (List.replicate 32 0), av .u8 32 (List.replicate 32 0), [.int .u32 0], [.int .u32 0], [.int .u32 0], [(.slice none 0 0)]] [[.int .u32 r8.1.Head.Version], av .u8 32 r8.1.Head.Prev, av .u8 32 r8.1.Head.Root, [.int .u32 r8.1.Head.Time], [.int .u32 r8.1.Head.Work], [.int .u32 r8.1.Head.Nonce], [v8]] [] sz39 rfl rfl (fl_cons (one_one rfl) (fl_cons (one_av _ _ _) (fl_cons (one_av _ _ _) (fl_cons (one_one rfl) (fl_cons (one_one rfl) (fl_cons (one_one rfl) (fl_cons (one_one (one_sl hsl3)) fl_nil))))))) hI rfl hA rfl rfl rfl rfl fun w hI => 
                  stp hA (r_as hA rfl) rfl fun a hA => ?_
                refine o_nil ?_
                refine hN18 _ _ ?_
                refine w_seq fun _ hN19 => ?_
                refine w_reg ?_
                refine stp hA (r_mv hA rfl) rfl fun a hA => 
                  stp hA (r_mv hA rfl) rfl fun a hA => 
                  stp hA (r_mv hA rfl) rfl fun a hA => ?_
                obtain ⟨_, hsl4⟩ := Slc.sv (Slc.le hS4 (fun _ _ h => h) hi5.le)
                refine stp hA (r_slen Tryd.underlying25 hsl4 hA rfl) rfl fun a hA => ?_
                obtain ⟨r9, hr9, H⟩ := bB H
                refine o_callp (u := .int .i64 r9) cf14 hA rfl hI (sargassoworld_Number.c μ5 _ hI.agr x2 hx2 (r6.length : Int) (len_in (Slc.le hS4 (fun _ _ h => h) hi5.le)) r9 hr9) rfl fun a w hz11 hI hA => ?_
                obtain ⟨hb1, H⟩ := bG H
                obtain ⟨v10, hS6, hr10⟩ := r_sl (P := Tryd.prog) (t := 25) (x := .tmp 58) (l := none) (h := (some (.tmp 62))) (i := 0) (j := r9) Tryd.underlying25 sz5 (Slc.le hS4 (fun _ _ h => h) hi5.le) hA rfl rfl rfl (by have hq := hb1; omega) (by have hq := hb1; omega) (by have hq := hb1; omega)
                refine stp hA (hr10 _ _ _ _ _ _) rfl fun a hA => ?_
                obtain ⟨r10, hr11, H⟩ := bB H
                refine o_call _ cf27 hA rfl (block_Read.c μ5 _ hI.agr ((r6.take (r9).toNat).drop (0 : Int).toNat) v10 hS6 e0 (ErV.le (fun _ _ h => h) (((hi1.le.trans hi4.le).trans hle2).trans hi5.le) he0) e4 (ErV.le (fun _ _ h => h) (((hi1.le.trans hi4.le).trans hle2).trans hi5.le) he4) e9 (ErV.le (fun _ _ h => h) (((hi1.le.trans hi4.le).trans hle2).trans hi5.le) he9) r10 hr11) rfl fun v11 a w hz12 hA => ?_
                obtain ⟨v12, v13, μ6, rfl, hw3, hS7, hi6⟩ := hz12
                have hI := hI.call hi6
                refine stp hA (r_mv hA rfl) rfl fun a hA => 
                  stp hA (r_extr (vs := [.agg [[.int .u32 r10.1.Head.Version], av .u8 32 r10.1.Head.Prev, av .u8 32 r10.1.Head.Root, [.int .u32 r10.1.Head.Time], [.int .u32 r10.1.Head.Work], [.int .u32 r10.1.Head.Nonce], [v12]].flatten.toArray, v13]) hA rfl rfl) rfl fun a hA => 
                  stp hA (r_extr (vs := [.agg [[.int .u32 r10.1.Head.Version], av .u8 32 r10.1.Head.Prev, av .u8 32 r10.1.Head.Root, [.int .u32 r10.1.Head.Time], [.int .u32 r10.1.Head.Work], [.int .u32 r10.1.Head.Nonce], [v12]].flatten.toArray, v13]) hA rfl rfl) rfl fun a hA => 
                  o_new [[.int .u32 0], av .u8 32 (List.replicate 32 0), av .u8 32 (List.replicate 32 0), [.int .u32 0], [.int .u32 0], [.int .u32 0], [(.slice none 0 0)]] zr39 hI hA rfl fun g4 a w hA hI hg4 => ?_
                obtain ⟨_, hsl5⟩ := Slc.sv hw3.2.2.2.2.2.2
                refine o_st (j := 0) [] [[.int .u32 0], av .u8 32 (List.replicate 32 0), av .u8 32 (List.replicate 32 0), [.int .u32 0], [.int .u32 0], [.int .u32 0], [(.slice none 0 0)]] [[.int .u32 r10.1.Head.Version], av .u8 32 r10.1.Head.Prev, av .u8 32 r10.1.Head.Root, [.int .u32 r10.1.Head.Time], [.int .u32 r10.1.Head.Work], [.int .u32 r10.1.Head.Nonce], [v12]] [] sz39 rfl rfl (fl_cons (one_one rfl) (fl_cons (one_av _ _ _) (fl_cons (one_av _ _ _) (fl_cons (one_one rfl) (fl_cons (one_one rfl) (fl_cons (one_one rfl) (fl_cons (one_one (one_sl hsl5)) fl_nil))))))) hI rfl hA rfl rfl rfl rfl fun w hI => 
                  stp hA (r_as hA rfl) rfl fun a hA => ?_
                refine o_nil ?_
                refine hN19 _ _ ?_
                refine w_seq fun _ hN20 => ?_
                refine w_reg ?_
                refine stp hA (r_mv hA rfl) rfl fun a hA => ?_
                obtain ⟨r11, hr12, H⟩ := bB H
                refine o_call _ cf28 hA rfl (sargassoref_Bytes.c μ6 _ hI.agr r6 v5 (Slc.le hS4 (fun _ _ h => h) (hi5.le.trans hi6.le)) r11 hr12) rfl fun v14 a w hz13 hA => ?_
                obtain ⟨_, cs3, rfl, hE3, hi7⟩ := hz13
                have hI := hI.call hi7
                have hE4 : Els (RI .u8) 1 ([0] : List Int) ([[.int .u8 0]].flatten ++ ([])) := (Els.cons (c := [[.int .u8 0]].flatten) ⟨rfl, (in_lit .u8 0 rfl)⟩ rfl Els.nil)
                refine o_bsl ([[.int .u8 0]].flatten ++ ([])) te5 zr5 Tryd.underlying25 hI hA rfl rfl rfl rfl (by kernel_rfl) rfl fun g5 a w hA hI => ?_
                generalize hcs : ([[.int .u8 0]].flatten ++ ([]) : List Value) = cs4 at hE4 hI
                clear hcs
                obtain ⟨hb2, H⟩ := bG H
                have hE6 := hE3.app hE4
                refine o_appL (xs := (r11 : List Int)) (ys := (([0] : List Int) : List Int)) (j := 1) te5 Tryd.underlying25 hI rfl hA rfl rfl (src_row hI (j := 0) rfl) hE4.len (hE4.ones (one_RI _)) (by first | decide | (have hq := hb2; (try simp only [List.length_cons, List.length_nil] at hq); (try simp only [List.length_cons, List.length_nil]); (try simp only [maxLen]); omega)) (by first | decide | (have hq := hb2; (try simp only [List.length_cons, List.length_nil] at hq); (try simp only [List.length_cons, List.length_nil]); (try simp only [maxLen]); omega)) rfl fun v15 a w hA hI => ?_
                obtain ⟨μ7, hle3, hsv4, hI⟩ := hI.freezeRow 1 rfl
                have hS8 : Slc (RI .u8) 1 μ7 v15 (r11 ++ ([0] : List Int)) := ⟨_, hE6, hsv4⟩
                obtain ⟨r12, hr13, H⟩ := bB H
                refine o_call _ cf27 hA rfl (block_Read.c μ7 _ hI.agr (r11 ++ ([0] : List Int)) v15 hS8 e0 (ErV.le (fun _ _ h => h) (((((hi1.le.trans hi4.le).trans hle2).trans hi5.le).trans hi6.le).trans hle3) he0) e4 (ErV.le (fun _ _ h => h) (((((hi1.le.trans hi4.le).trans hle2).trans hi5.le).trans hi6.le).trans hle3) he4) e9 (ErV.le (fun _ _ h => h) (((((hi1.le.trans hi4.le).trans hle2).trans hi5.le).trans hi6.le).trans hle3) he9) r12 hr13) rfl fun v16 a w hz14 hA => ?_
                obtain ⟨v17, v18, μ8, rfl, hw4, hS9, hi8⟩ := hz14
                have hI := hI.call hi8
                refine stp hA (r_mv hA rfl) rfl fun a hA => 
                  stp hA (r_extr (vs := [.agg [[.int .u32 r12.1.Head.Version], av .u8 32 r12.1.Head.Prev, av .u8 32 r12.1.Head.Root, [.int .u32 r12.1.Head.Time], [.int .u32 r12.1.Head.Work], [.int .u32 r12.1.Head.Nonce], [v17]].flatten.toArray, v18]) hA rfl rfl) rfl fun a hA => 
                  stp hA (r_extr (vs := [.agg [[.int .u32 r12.1.Head.Version], av .u8 32 r12.1.Head.Prev, av .u8 32 r12.1.Head.Root, [.int .u32 r12.1.Head.Time], [.int .u32 r12.1.Head.Work], [.int .u32 r12.1.Head.Nonce], [v17]].flatten.toArray, v18]) hA rfl rfl) rfl fun a hA => 
                  o_new [[.int .u32 0], av .u8 32 (List.replicate 32 0), av .u8 32 (List.replicate 32 0), [.int .u32 0], [.int .u32 0], [.int .u32 0], [(.slice none 0 0)]] zr39 hI hA rfl fun g6 a w hA hI hg6 => ?_
                obtain ⟨_, hsl6⟩ := Slc.sv hw4.2.2.2.2.2.2
                refine o_st (j := 0) [] [[.int .u32 0], av .u8 32 (List.replicate 32 0), av .u8 32 (List.replicate 32 0), [.int .u32 0], [.int .u32 0], [.int .u32 0], [(.slice none 0 0)]] [[.int .u32 r12.1.Head.Version], av .u8 32 r12.1.Head.Prev, av .u8 32 r12.1.Head.Root, [.int .u32 r12.1.Head.Time], [.int .u32 r12.1.Head.Work], [.int .u32 r12.1.Head.Nonce], [v17]] [] sz39 rfl rfl (fl_cons (one_one rfl) (fl_cons (one_av _ _ _) (fl_cons (one_av _ _ _) (fl_cons (one_one rfl) (fl_cons (one_one rfl) (fl_cons (one_one rfl) (fl_cons (one_one (one_sl hsl6)) fl_nil))))))) hI rfl hA rfl rfl rfl rfl fun w hI => 
                  stp hA (r_as hA rfl) rfl fun a hA => ?_
                refine o_nil ?_
                refine hN20 _ _ ?_
                obtain ⟨c3, hz15, Hk3⟩ := bB H
                refine w_cut (fun a w => Fr a 93 [(0, .agg [[.int .u32 x0.Head.Version], av .u8 32 x0.Head.Prev, av .u8 32 x0.Head.Root, [.int .u32 x0.Head.Time], [.int .u32 x0.Head.Work], [.int .u32 x0.Head.Nonce], [u0_0]].flatten.toArray), (1, u1), (2, .int .i64 x2), (3, .pointer (some ⟨g1, 0, none⟩)), (6, .bool c3), (7, .bool r1), (8, .pointer (some ⟨g2, 0, none⟩)), (9, v3), (10, v5), (11, .pointer (some ⟨g3, 0, none⟩)), (12, v9), (14, v13), (16, v18), (19, .bool (!r1)), (27, .bool c1), (42, .bool c2), (47, .bool (decide ((r6.length : Int) < 81))), (50, .bool (decide (r7 ≠ (Er.b 0))))] ∧ Iv w0 [] μ μ8 [cel g6 [[.int .u32 r12.1.Head.Version], av .u8 32 r12.1.Head.Prev, av .u8 32 r12.1.Head.Root, [.int .u32 r12.1.Head.Time], [.int .u32 r12.1.Head.Work], [.int .u32 r12.1.Head.Nonce], [v17]] 39, row 5 1 (.slice (some ⟨g5, 0, none⟩) 1 1) ([0] : List Int).length cs4, cel g4 [[.int .u32 r10.1.Head.Version], av .u8 32 r10.1.Head.Prev, av .u8 32 r10.1.Head.Root, [.int .u32 r10.1.Head.Time], [.int .u32 r10.1.Head.Work], [.int .u32 r10.1.Head.Nonce], [v12]] 39, cel g3 [[.int .u32 r8.1.Head.Version], av .u8 32 r8.1.Head.Prev, av .u8 32 r8.1.Head.Root, [.int .u32 r8.1.Head.Time], [.int .u32 r8.1.Head.Work], [.int .u32 r8.1.Head.Nonce], [v8]] 39, cel g2 [[.int .u32 r3.1.Head.Version], av .u8 32 r3.1.Head.Prev, av .u8 32 r3.1.Head.Root, [.int .u32 r3.1.Head.Time], [.int .u32 r3.1.Head.Work], [.int .u32 r3.1.Head.Nonce], [v2]] 39, cel g1 [[.int .u32 x0.Head.Version], av .u8 32 x0.Head.Prev, av .u8 32 x0.Head.Root, [.int .u32 x0.Head.Time], [.int .u32 x0.Head.Work], [.int .u32 x0.Head.Nonce], [u0_0]] 39] w) ?_ ?_
                · have H := bI hz15
                  refine w_reg ?_
                  refine stp hA (r_mv hA rfl) rfl fun a hA => 
                    stp hA (r_mv hA rfl) rfl fun a hA => ?_
                  rcases Bool.eq_false_or_eq_true r1 with hc8 | hc8
                  · have hc80 := hc8; have H := bT H hc8
                    refine o_yes hA rfl rfl hc80 <| 
                      stp hA (r_mv hA rfl) rfl fun a hA => 
                      o_yes hA rfl rfl hc80 <| 
                      stp hA (r_eqE erF hI.agr (ErV.le (fun _ _ h => h) ((hi6.le.trans hle3).trans hi8.le) hS5) erv_nil (.inl ⟨.inr ⟨_, rfl⟩, Er.fitR⟩) hA rfl rfl) rfl fun a hA => 
                      stp hA (r_pick_t hA rfl hc80 rfl) rfl fun a hA => 
                      stp hA (r_mv hA rfl) rfl fun a hA => ?_
                    rcases Bool.eq_false_or_eq_true (decide (r8.2 = (Er.b 0))) with hc9 | hc9
                    · have hc90 := hc9; have hc9 := of_decide_eq_true hc9; have H := bT H hc9
                      refine o_yes hA rfl rfl hc90 <| 
                        stp hA (r_ldA (j := 3) [] [[.int .u32 r8.1.Head.Version], av .u8 32 r8.1.Head.Prev, av .u8 32 r8.1.Head.Root, [.int .u32 r8.1.Head.Time], [.int .u32 r8.1.Head.Work], [.int .u32 r8.1.Head.Nonce], [v8]] [] Tryd.underlying39 rfl sz39 rfl hI rfl hA rfl rfl) rfl fun a hA => 
                        o_yes hA rfl rfl hc90 <| 
                        stp hA (r_ldA (j := 5) [] [[.int .u32 x0.Head.Version], av .u8 32 x0.Head.Prev, av .u8 32 x0.Head.Root, [.int .u32 x0.Head.Time], [.int .u32 x0.Head.Work], [.int .u32 x0.Head.Nonce], [u0_0]] [] Tryd.underlying39 rfl sz39 rfl hI rfl hA rfl rfl) rfl fun a hA => 
                        o_yes hA rfl rfl hc90 <| ?_
                      obtain ⟨r13, hr14, H⟩ := bB H
                      refine o_callp (u := .bool r13) cf11 hA rfl hI (sargassoref_SameBlock.c μ8 _ hI.agr r8.1 v8 ⟨hw2.1, hw2.2.1, hw2.2.2.1, hw2.2.2.2.1, hw2.2.2.2.2.1, hw2.2.2.2.2.2.1, (Slc.le hw2.2.2.2.2.2.2 (fun _ _ h => RTx.le ((hi6.le.trans hle3).trans hi8.le) h) ((hi6.le.trans hle3).trans hi8.le))⟩ x0 u0_0 ⟨hx0.1, hx0.2.1, hx0.2.2.1, hx0.2.2.2.1, hx0.2.2.2.2.1, hx0.2.2.2.2.2.1, (Slc.le hx0.2.2.2.2.2.2 (fun _ _ h => RTx.le ((((((hi1.le.trans hi4.le).trans hle2).trans hi5.le).trans hi6.le).trans hle3).trans hi8.le) h) ((((((hi1.le.trans hi4.le).trans hle2).trans hi5.le).trans hi6.le).trans hle3).trans hi8.le))⟩ r13 hr14) rfl fun a w hz16 hI hA => 
                        stp hA (r_pick_t hA rfl hc90 rfl) rfl fun a hA => 
                        stp hA (r_mv hA rfl) rfl fun a hA => ?_
                      rcases Bool.eq_false_or_eq_true r13 with hc10 | hc10
                      · have hc100 := hc10; have H := bT H hc10
                        refine o_yes hA rfl rfl hc100 <| 
                          stp hA (r_mv hA rfl) rfl fun a hA => 
                          o_yes hA rfl rfl hc100 <| ?_
                        obtain ⟨r14, hr15, H⟩ := bB H
                        refine o_callp (u := .bool r14) cf19 hA rfl hI (sargassosee_Is.c μ8 _ hI.agr r10.2 v13 (ErV.le (fun _ _ h => h) (hle3.trans hi8.le) hS7) 101 (in_lit .i64 101 rfl) (Gl.le ((((((hi1.le.trans hi4.le).trans hle2).trans hi5.le).trans hi6.le).trans hle3).trans hi8.le) hG) r14 hr15) rfl fun a w hz17 hI hA => 
                          stp hA (r_pick_t hA rfl hc100 rfl) rfl fun a hA => 
                          stp hA (r_mv hA rfl) rfl fun a hA => ?_
                        rcases Bool.eq_false_or_eq_true r14 with hc11 | hc11
                        · have hc110 := hc11; have H := bT H hc11
                          refine o_yes hA rfl rfl hc110 <| 
                            stp hA (r_mv hA rfl) rfl fun a hA => 
                            o_yes hA rfl rfl hc110 <| ?_
                          obtain ⟨r15, hr16, H⟩ := bB H
                          refine o_callp (u := .bool r15) cf19 hA rfl hI (sargassosee_Is.c μ8 _ hI.agr r12.2 v18 hS9 102 (in_lit .i64 102 rfl) (Gl.le ((((((hi1.le.trans hi4.le).trans hle2).trans hi5.le).trans hi6.le).trans hle3).trans hi8.le) hG) r15 hr16) rfl fun a w hz18 hI hA => 
                            stp hA (r_pick_t hA rfl hc110 rfl) rfl fun a hA => 
                            stp hA (r_as hA rfl) rfl fun a hA => ?_
                          refine o_nil ?_
                          cases Option.some.inj (bS H)
                          exact ⟨hA.sub ⟨rfl, rfl, rfl, rfl, rfl, rfl, rfl, rfl, rfl, rfl, rfl, rfl, rfl, rfl, rfl, rfl, rfl, rfl, trivial⟩, hI⟩
                        · have hc110 := hc11; have hc11 := ft hc11; have H := bF H hc11
                          refine o_no hA rfl rfl (by rw [hc110]; simp [vb]) rfl fun a hA => 
                            o_no hA rfl rfl (by rw [hc110]; simp [vb]) rfl fun a hA => 
                            stp hA (r_pick_f hA rfl hc110 rfl) rfl fun a hA => 
                            stp hA (r_as hA rfl) rfl fun a hA => ?_
                          refine o_nil ?_
                          cases Option.some.inj (bS H)
                          exact ⟨hA.sub ⟨rfl, rfl, rfl, rfl, rfl, rfl, rfl, rfl, rfl, rfl, rfl, rfl, rfl, rfl, rfl, rfl, rfl, rfl, trivial⟩, hI⟩
                      · have hc100 := hc10; have hc10 := ft hc10; have H := bF H hc10
                        refine o_no hA rfl rfl (by rw [hc100]; simp [vb]) rfl fun a hA => 
                          o_no hA rfl rfl (by rw [hc100]; simp [vb]) rfl fun a hA => 
                          stp hA (r_pick_f hA rfl hc100 rfl) rfl fun a hA => 
                          stp hA (r_mv hA rfl) rfl fun a hA => 
                          o_no hA rfl rfl (by simp [vb]) rfl fun a hA => 
                          o_no hA rfl rfl (by simp [vb]) rfl fun a hA => 
                          stp hA (r_pick_f hA rfl rfl rfl) rfl fun a hA => 
                          stp hA (r_as hA rfl) rfl fun a hA => ?_
                        refine o_nil ?_
                        cases Option.some.inj (bS H)
                        exact ⟨hA.sub ⟨rfl, rfl, rfl, rfl, rfl, rfl, rfl, rfl, rfl, rfl, rfl, rfl, rfl, rfl, rfl, rfl, rfl, rfl, trivial⟩, hI⟩
                    · have hc90 := hc9; have hc9 := of_decide_eq_false hc9; have H := bF H hc9
                      refine o_no hA rfl rfl (by rw [hc90]; simp [vb]) rfl fun a hA => 
                        o_no hA rfl rfl (by rw [hc90]; simp [vb]) rfl fun a hA => 
                        o_no hA rfl rfl (by rw [hc90]; simp [vb]) rfl fun a hA => 
                        stp hA (r_pick_f hA rfl hc90 rfl) rfl fun a hA => 
                        stp hA (r_mv hA rfl) rfl fun a hA => 
                        o_no hA rfl rfl (by simp [vb]) rfl fun a hA => 
                        o_no hA rfl rfl (by simp [vb]) rfl fun a hA => 
                        stp hA (r_pick_f hA rfl rfl rfl) rfl fun a hA => 
                        stp hA (r_mv hA rfl) rfl fun a hA => 
                        o_no hA rfl rfl (by simp [vb]) rfl fun a hA => 
                        o_no hA rfl rfl (by simp [vb]) rfl fun a hA => 
                        stp hA (r_pick_f hA rfl rfl rfl) rfl fun a hA => 
                        stp hA (r_as hA rfl) rfl fun a hA => ?_
                      refine o_nil ?_
                      cases Option.some.inj (bS H)
                      exact ⟨hA.sub ⟨rfl, rfl, rfl, rfl, rfl, rfl, rfl, rfl, rfl, rfl, rfl, rfl, rfl, rfl, rfl, rfl, rfl, rfl, trivial⟩, hI⟩
                  · have hc80 := hc8; have hc8 := ft hc8; have H := bF H hc8
                    refine o_no hA rfl rfl (by rw [hc80]; simp [vb]) rfl fun a hA => 
                      o_no hA rfl rfl (by rw [hc80]; simp [vb]) rfl fun a hA => 
                      stp hA (r_pick_f hA rfl hc80 rfl) rfl fun a hA => 
                      stp hA (r_mv hA rfl) rfl fun a hA => 
                      o_no hA rfl rfl (by simp [vb]) rfl fun a hA => 
                      o_no hA rfl rfl (by simp [vb]) rfl fun a hA => 
                      o_no hA rfl rfl (by simp [vb]) rfl fun a hA => 
                      stp hA (r_pick_f hA rfl rfl rfl) rfl fun a hA => 
                      stp hA (r_mv hA rfl) rfl fun a hA => 
                      o_no hA rfl rfl (by simp [vb]) rfl fun a hA => 
                      o_no hA rfl rfl (by simp [vb]) rfl fun a hA => 
                      stp hA (r_pick_f hA rfl rfl rfl) rfl fun a hA => 
                      stp hA (r_mv hA rfl) rfl fun a hA => 
                      o_no hA rfl rfl (by simp [vb]) rfl fun a hA => 
                      o_no hA rfl rfl (by simp [vb]) rfl fun a hA => 
                      stp hA (r_pick_f hA rfl rfl rfl) rfl fun a hA => 
                      stp hA (r_as hA rfl) rfl fun a hA => ?_
                    refine o_nil ?_
                    cases Option.some.inj (bS H)
                    exact ⟨hA.sub ⟨rfl, rfl, rfl, rfl, rfl, rfl, rfl, rfl, rfl, rfl, rfl, rfl, rfl, rfl, rfl, rfl, rfl, rfl, trivial⟩, hI⟩
                · rintro a w ⟨hA, hI⟩
                  have H := Hk3
                  refine w_ret ?_
                  obtain rfl := Option.some.inj (bS H)
                  exact ret1 hA Tryd.results6 rfl ⟨_, rfl, rfl, trivial, hI.forget0⟩
end Go.Proofs.YtlpggofilkfbnaaDoor.T
namespace Go.Proofs.YtlpggofilkfbnaaDoor.T
open Go Go.Proofs Go.Proofs.YtlpggofilkfbnaaDoor.K
set_option linter.unusedVariables false
theorem w64 {x : Int} (h0 : -9223372036854775808 ≤ x) (h1 : x < 9223372036854775808) : IntKind.i64.wrap x = x := wrap_id ⟨h0, h1⟩
theorem wu64 {x : Int} (h0 : 0 ≤ x) (h1 : x < 18446744073709551616) : IntKind.u64.wrap x = x := wrap_id ⟨h0, h1⟩
theorem wu32 {x : Int} (h0 : 0 ≤ x) (h1 : x < 4294967296) : IntKind.u32.wrap x = x := wrap_id ⟨h0, h1⟩
theorem number_eq {x n : Int} (hx : InR .i64 x) (h0 : 0 < n) (h1 : n < 9223372036854775808) : ∃ y, sargassoworld_Number.f x n = some y ∧ 0 ≤ y ∧ y < n := by
  obtain ⟨a, b⟩ := hx
  have hn : n ≠ 0 := by omega
  unfold sargassoworld_Number.f
  rw [if_pos hn]
  have hb : -n < Int.tmod x n ∧ Int.tmod x n < n := by
    rcases Int.le_total 0 x with h | h
    · rw [Int.tmod_eq_emod_of_nonneg h]; have := Int.emod_nonneg x hn; have := Int.emod_lt_of_pos x h0; omega
    · have e : Int.tmod x n = -(Int.tmod (-x) n) := by rw [Int.neg_tmod, Int.neg_neg]
      rw [e, Int.tmod_eq_emod_of_nonneg (by omega)]; have := Int.emod_nonneg (-x) hn; have := Int.emod_lt_of_pos (-x) h0; omega
  by_cases hc : Int.tmod x n < 0
  · rw [if_pos hc]
    exact ⟨_, rfl, by rw [w64 (by omega) (by omega)]; omega, by rw [w64 (by omega) (by omega)]; omega⟩
  · rw [if_neg hc]
    exact ⟨_, rfl, by omega, by omega⟩
end Go.Proofs.YtlpggofilkfbnaaDoor.T
namespace Go.Proofs.YtlpggofilkfbnaaDoor.T
open Go Go.Proofs Go.Proofs.YtlpggofilkfbnaaDoor.K
set_option linter.unusedVariables false
set_option linter.unusedSimpArgs false
theorem loop_idx {τ ρ : Type} {step : τ → Option (τ ⊕ ρ)} (st : Nat → τ) (n : Nat) (h : ∀ i, i < n → step (st i) = some (.inl (st (i + 1)))) : loopO step (st 0) = loopO step (st n) := by
  induction n with
  | zero => rfl
  | succ n ih => rw [ih (fun i hi => h i (by omega)), loopO_inl (h n (by omega))]
theorem loop_run {τ ρ : Type} {step : τ → Option (τ ⊕ ρ)} (st : Nat → τ) (n : Nat) {r : ρ} {s : τ} (h0 : s = st 0) (h : ∀ i, i < n → step (st i) = some (.inl (st (i + 1)))) (hn : step (st n) = some (.inr r)) : loopO step s = some r := by
  rw [h0, loop_idx st n h, loopO_inr hn]
theorem loop_exists2 {τ ρ : Type} {step : τ → Option (τ ⊕ ρ)} (I : Nat → τ → Prop) (Post : ρ → Prop) (n : Nat) {s : τ} (h0 : I 0 s) (h : ∀ i, i < n → ∀ s, I i s → ∃ s', step s = some (.inl s') ∧ I (i + 1) s') (hn : ∀ s, I n s → ∃ r, step s = some (.inr r) ∧ Post r) : ∃ r, loopO step s = some r ∧ Post r := by
  have key : ∀ m k s, k + m = n → I k s → ∃ r, loopO step s = some r ∧ Post r := by
    intro m
    induction m with
    | zero =>
      intro k s e hI
      obtain ⟨r, h1, h2⟩ := hn s (by rw [← e]; exact hI)
      exact ⟨r, loopO_inr h1, h2⟩
    | succ m ih =>
      intro k s e hI
      obtain ⟨s', h1, h2⟩ := h k (by omega) s hI
      rw [loopO_inl h1]
      exact ih (k + 1) s' (by omega) h2
  exact key n 0 s (by omega) h0
theorem bv_nat (n a : Nat) (h : a < 2 ^ n) : (BitVec.ofInt n (a : Int)).toNat = a := by
  rw [BitVec.toNat_ofInt]
  have : ((a : Int) % ((2 ^ n : Nat) : Int)) = a := Int.emod_eq_of_lt (by omega) (by exact_mod_cast h)
  rw [this]
  rfl
theorem in_u (k : IntKind) (hk : k.signed = false) {a : Nat} (h : a < 2 ^ k.bits) : InR k (a : Int) := by
  cases k <;> simp [IntKind.signed] at hk <;> simp [IntKind.bits] at h <;> simp [InR] <;> omega
theorem bAnd_nat (k : IntKind) (hk : k.signed = false) {a b : Nat} (ha : a < 2 ^ k.bits) (hb : b < 2 ^ k.bits) : bAnd k a b = ((a &&& b : Nat) : Int) := by
  unfold bAnd
  rw [BitVec.toNat_and, bv_nat _ _ ha, bv_nat _ _ hb]
  exact wrap_id (in_u k hk (Nat.lt_of_le_of_lt Nat.and_le_left ha))
theorem bOr_nat (k : IntKind) (hk : k.signed = false) {a b : Nat} (ha : a < 2 ^ k.bits) (hb : b < 2 ^ k.bits) : bOr k a b = ((a ||| b : Nat) : Int) := by
  unfold bOr
  rw [BitVec.toNat_or, bv_nat _ _ ha, bv_nat _ _ hb]
  exact wrap_id (in_u k hk (Nat.or_lt_two_pow ha hb))
theorem sR_nat (k : IntKind) {a n : Nat} (hn : n ≤ k.bits) : sR k (a : Int) (n : Int) = ((a >>> n : Nat) : Int) := by
  unfold sR
  have e : min (n : Int).toNat k.bits = n := by simp; omega
  rw [e, Nat.shiftRight_eq_div_pow]
  rw [Int.fdiv_eq_ediv_of_nonneg _ (by exact Int.pow_nonneg (by omega))]
  push_cast
  rfl
theorem nat_of {k : IntKind} (hk : k.signed = false) {x : Int} (h : InR k x) : ∃ a : Nat, x = a ∧ a < 2 ^ k.bits := by
  refine ⟨x.toNat, ?_, ?_⟩
  · cases k <;> simp [IntKind.signed] at hk <;> simp [InR] at h <;> omega
  · cases k <;> simp [IntKind.signed] at hk <;> simp [InR] at h <;> simp [IntKind.bits] <;> omega
theorem and_low (n i : Nat) : n &&& (2 ^ i - 1) = n % 2 ^ i := Nat.and_two_pow_sub_one_eq_mod n i
end Go.Proofs.YtlpggofilkfbnaaDoor.T
namespace Go.Proofs.YtlpggofilkfbnaaDoor.T
open Go Go.Proofs Go.Proofs.YtlpggofilkfbnaaDoor.K
set_option linter.unusedVariables false
set_option linter.unusedSimpArgs false
def rotr (x n : Int) : Int := bOr .u32 (sR .u32 x n) (sL .u32 x (32 - n))
def wordAt (b : List Int) (p : Nat) : Int :=
  bOr .u32 (bOr .u32 (bOr .u32 (sL .u32 (IntKind.u32.wrap (b.getD p 0)) 24) (sL .u32 (IntKind.u32.wrap (b.getD (p + 1) 0)) 16)) (sL .u32 (IntKind.u32.wrap (b.getD (p + 2) 0)) 8)) (IntKind.u32.wrap (b.getD (p + 3) 0))
def sg0 (y : Int) : Int := bXor .u32 (bXor .u32 (rotr y 7) (rotr y 18)) (sR .u32 y 3)
def sg1 (x : Int) : Int := bXor .u32 (bXor .u32 (rotr x 17) (rotr x 19)) (sR .u32 x 10)
def schedVal (b : List Int) (p : Nat) (w : List Int) (t : Nat) : Int :=
  if t < 16 then wordAt b (p + 4 * t) else IntKind.u32.wrap (w.getD (t - 16) 0 + sg0 (w.getD (t - 15) 0) + w.getD (t - 7) 0 + sg1 (w.getD (t - 2) 0))
def schedR (b : List Int) (p : Nat) : Nat → List Int
  | 0 => List.replicate 64 0
  | t + 1 => (fun w => w.set t (schedVal b p w t)) (schedR b p t)
def kc : List Int := digest_keys.lit0
def rt1 (x : List Int) (k w : Int) : Int := IntKind.u32.wrap (x.getD 7 0 + bXor .u32 (bXor .u32 (rotr (x.getD 4 0) 6) (rotr (x.getD 4 0) 11)) (rotr (x.getD 4 0) 25) + bXor .u32 (bAnd .u32 (x.getD 4 0) (x.getD 5 0)) (bAnd .u32 (bNot .u32 (x.getD 4 0)) (x.getD 6 0)) + k + w)
def rt2 (x : List Int) : Int := bXor .u32 (bXor .u32 (rotr (x.getD 0 0) 2) (rotr (x.getD 0 0) 13)) (rotr (x.getD 0 0) 22) + bXor .u32 (bXor .u32 (bAnd .u32 (x.getD 0 0) (x.getD 1 0)) (bAnd .u32 (x.getD 0 0) (x.getD 2 0))) (bAnd .u32 (x.getD 1 0) (x.getD 2 0))
def rstep (x : List Int) (k w : Int) : List Int :=
  [IntKind.u32.wrap (rt1 x k w + rt2 x), x.getD 0 0, x.getD 1 0, x.getD 2 0, IntKind.u32.wrap (x.getD 3 0 + rt1 x k w), x.getD 4 0, x.getD 5 0, x.getD 6 0]
def roundR (w s : List Int) : Nat → List Int
  | 0 => s
  | t + 1 => rstep (roundR w s t) (kc.getD t 0) (w.getD t 0)
def addR (x s : List Int) : Nat → List Int
  | 0 => s
  | i + 1 => (fun z => z.set i (IntKind.u32.wrap (z.getD i 0 + x.getD i 0))) (addR x s i)
def mixV (s b : List Int) (p : Nat) : List Int := addR (roundR (schedR b p 64) s 64) s 8
def blocksR (m s : List Int) : Nat → List Int
  | 0 => s
  | n + 1 => mixV (blocksR m s n) m (64 * n)
def iv0 : List Int := [1779033703, 3144134277, 1013904242, 2773480762, 1359893119, 2600822924, 528734635, 1541459225]
def outB (s : List Int) (i : Nat) : Int := IntKind.u8.wrap (sR .u32 (s.getD (i / 4) 0) (24 - 8 * ((i % 4 : Nat) : Int)))
def outL (s : List Int) : List Int := (List.range 32).map (outB s)
def zs (n : Nat) : Nat := (120 - n % 64) % 64
def lenB (n i : Nat) : Int := IntKind.u8.wrap (sR .u64 (IntKind.u64.wrap (8 * (n : Int))) (8 * (7 - (i : Int))))
def padR (m : List Int) : List Int := m ++ ([128] ++ (List.replicate (zs (m.length + 1)) 0 ++ (List.range 8).map (lenB m.length)))
def sha (m : List Int) : List Int := outL (blocksR (padR m) iv0 ((padR m).length / 64))
end Go.Proofs.YtlpggofilkfbnaaDoor.T
namespace Go.Proofs.YtlpggofilkfbnaaDoor.T
open Go Go.Proofs Go.Proofs.YtlpggofilkfbnaaDoor.K
set_option linter.unusedVariables false
set_option linter.unusedSimpArgs false
theorem u32e (x : Int) : IntKind.u32.wrap x = x % 4294967296 := by simp [IntKind.wrap, IntKind.signed, IntKind.bits]
theorem wl (a b : Int) : IntKind.u32.wrap (IntKind.u32.wrap a + b) = IntKind.u32.wrap (a + b) := by simp only [u32e]; omega
theorem wr (a b : Int) : IntKind.u32.wrap (a + IntKind.u32.wrap b) = IntKind.u32.wrap (a + b) := by simp only [u32e]; omega
theorem bOr_comm (k : IntKind) (a b : Int) : bOr k a b = bOr k b a := by unfold bOr; rw [BitVec.or_comm]
theorem turn_f (x n : Int) (h0 : 0 < n) (h1 : n < 32) : digest_turn.f x n = some (rotr x n) := by
  simp only [digest_turn.f, math_bits_RotateLeft32.f, rotr]
  have e1 : IntKind.i64.wrap (0 - n) = -n := by rw [w64 (by omega) (by omega)]; omega
  have e2 : IntKind.u64.wrap (-n) = 18446744073709551616 - n := by
    simp [IntKind.wrap, IntKind.signed, IntKind.bits]
    omega
  obtain ⟨m, rfl⟩ : ∃ m : Nat, n = m := ⟨n.toNat, by omega⟩
  have e3 : bAnd .u64 (18446744073709551616 - (m : Int)) 31 = 32 - (m : Int) := by
    have h := bAnd_nat .u64 rfl (a := 18446744073709551616 - m) (b := 31) (by simp [IntKind.bits]; omega) (by simp [IntKind.bits])
    have e : ((18446744073709551616 - m : Nat) : Int) = 18446744073709551616 - (m : Int) := by omega
    rw [e] at h
    have h' : (18446744073709551616 - m) &&& 31 = (18446744073709551616 - m) % 32 := and_low _ 5
    rw [h'] at h
    rw [show ((31 : Nat) : Int) = 31 from rfl] at h
    rw [h]
    omega
  rw [e1, e2, e3, wu64 (x := 32 - (32 - (m : Int))) (by omega) (by omega), if_pos (by omega), if_pos (by omega)]
  have e4 : 32 - (32 - (m : Int)) = m := by omega
  rw [e4, bOr_comm]
  rfl
theorem getD_drop' (l : List Int) (a i : Nat) : (l.drop a).getD i 0 = l.getD (a + i) 0 := by simp [List.getD]
theorem getD_take' (l : List Int) (a i : Nat) (h : i < a) : (l.take a).getD i 0 = l.getD i 0 := by simp [List.getD, h]
theorem wsub (i c : Nat) (hc : c ≤ i) (hi : i < 1000) : IntKind.i64.wrap ((i : Int) - (c : Nat)) = ((i - c : Nat) : Int) := by
  rw [w64 (by omega) (by omega)]; omega
theorem wadd1 (i : Nat) (hi : i < 9223372036854775807) : IntKind.i64.wrap ((i : Int) + 1) = ((i + 1 : Nat) : Int) := by
  rw [w64 (by omega) (by omega)]; omega
theorem wmul4 (i : Nat) (hi : i < 1000) : IntKind.i64.wrap (4 * (i : Int)) = ((4 * i : Nat) : Int) := by
  rw [w64 (by omega) (by omega)]; omega
theorem spread_step (b : List Int) (h : b.length = 64) (w : List Int) (i : Nat) (hi : i < 64) : digest_spread.s0 b ((i : Int), w) = some (.inl (((i + 1 : Nat) : Int), w.set i (schedVal b 0 w i))) := by
  simp only [digest_spread.s0]
  rw [if_pos (by omega)]
  by_cases h16 : i < 16
  · have hl : (b.take ((b.length : Int)).toNat).drop (IntKind.i64.wrap (4 * (i : Int))).toNat = b.drop (4 * i) := by
      rw [wmul4 i (by omega), Int.toNat_natCast, Int.toNat_natCast, List.take_length]
    have hll : (b.drop (4 * i)).length = 64 - 4 * i := by simp [h]
    rw [if_pos (by omega), hl, hll, wmul4 i (by omega), if_pos (by omega), if_pos (by omega), if_pos (by omega), if_pos (by omega), if_pos (by omega), if_pos (by omega)]
    simp only [Option.bind_some, getD_drop', Int.toNat_natCast]
    rw [wadd1 i (by omega)]
    simp only [schedVal, if_pos h16, wordAt, Nat.zero_add]
    rfl
  · have e2 := wsub i 2 (by omega) (by omega)
    have e7 := wsub i 7 (by omega) (by omega)
    have e15 := wsub i 15 (by omega) (by omega)
    have e16 := wsub i 16 (by omega) (by omega)
    simp only [show ((2 : Nat) : Int) = 2 from rfl, show ((7 : Nat) : Int) = 7 from rfl, show ((15 : Nat) : Int) = 15 from rfl, show ((16 : Nat) : Int) = 16 from rfl] at e2 e7 e15 e16
    rw [if_neg (by omega), e2, e7, e15, e16, if_pos (by omega), if_pos (by omega), if_pos (by omega), if_pos (by omega)]
    simp only [Int.toNat_natCast, turn_f _ 17 (by omega) (by omega), turn_f _ 19 (by omega) (by omega), turn_f _ 7 (by omega) (by omega), turn_f _ 18 (by omega) (by omega), Option.bind_some]
    rw [if_pos (by omega), wadd1 i (by omega)]
    simp only [Option.bind_some, schedVal, if_neg h16, sg0, sg1]
    congr 4
    simp only [wl, wr]
    congr 1
    omega
theorem spread_eq (b : List Int) (h : b.length = 64) : digest_spread.f b = some (schedR b 0 64) := by
  simp only [digest_spread.f]
  have e := loop_run (step := digest_spread.s0 b) (s := (0, List.replicate 64 0)) (fun i => ((i : Int), schedR b 0 i)) 64 (r := schedR b 0 64) rfl (fun i hi => by
    rw [spread_step b h _ i hi]
    rfl) (by simp only [digest_spread.s0]; rw [if_neg (by decide)])
  rw [e]
  rfl
theorem mix0_step (w x : List Int) (i : Nat) (hi : i < 64) : digest_mix.s0 w digest_keys.lit0 ((i : Int), x) = some (.inl (((i + 1 : Nat) : Int), rstep x (kc.getD i 0) (w.getD i 0))) := by
  simp only [digest_mix.s0]
  rw [if_pos (by omega)]
  simp only [turn_f _ 6 (by omega) (by omega), turn_f _ 11 (by omega) (by omega), turn_f _ 25 (by omega) (by omega), turn_f _ 2 (by omega) (by omega), turn_f _ 13 (by omega) (by omega), turn_f _ 22 (by omega) (by omega), Option.bind_some, Int.toNat_natCast]
  rw [if_pos (by omega), wadd1 i (by omega)]
  simp only [rstep, rt1, rt2, kc, wl, wr, show (0 : Int).toNat = 0 from rfl, show (1 : Int).toNat = 1 from rfl, show (2 : Int).toNat = 2 from rfl, show (3 : Int).toNat = 3 from rfl, show (4 : Int).toNat = 4 from rfl, show (5 : Int).toNat = 5 from rfl, show (6 : Int).toNat = 6 from rfl, show (7 : Int).toNat = 7 from rfl]
theorem mix_eq (s b : List Int) (h : b.length = 64) : digest_mix.f s b = some (mixV s b 0) := by
  simp only [digest_mix.f, spread_eq b h, digest_keys.f, Option.bind_some]
  have e := loop_run (step := digest_mix.s0 (schedR b 0 64) digest_keys.lit0) (s := (0, s)) (fun i => ((i : Int), roundR (schedR b 0 64) s i)) 64 (r := roundR (schedR b 0 64) s 64) rfl (fun i hi => by
    rw [mix0_step _ _ i hi]
    rfl) (by simp only [digest_mix.s0]; rw [if_neg (by decide)])
  rw [e]
  simp only [Option.bind_some]
  have e := loop_run (step := digest_mix.s1 (roundR (schedR b 0 64) s 64)) (s := (0, s)) (fun i => ((i : Int), addR (roundR (schedR b 0 64) s 64) s i)) 8 (r := mixV s b 0) rfl (fun i hi => by
    simp only [digest_mix.s1]
    rw [if_pos (by omega), if_pos (by omega), wadd1 i (by omega)]
    simp only [Int.toNat_natCast, addR]) (by simp only [digest_mix.s1]; rw [if_neg (by decide)]; rfl)
  rw [e]
  rfl
theorem wordAt_in (m : List Int) (a n t : Nat) (h : t < 16) : wordAt ((m.take (a + 64)).drop a) (4 * t) = wordAt m (a + 4 * t) := by
  have e : ∀ j, j < 64 → ((m.take (a + 64)).drop a).getD j 0 = m.getD (a + j) 0 := fun j hj => by
    rw [getD_drop', getD_take' _ _ _ (by omega)]
  simp only [wordAt]
  rw [e _ (by omega), e _ (by omega), e _ (by omega), e _ (by omega)]
  simp only [Nat.add_assoc]
theorem schedR_in (m : List Int) (a t : Nat) : schedR ((m.take (a + 64)).drop a) 0 t = schedR m a t := by
  induction t with
  | zero => rfl
  | succ t ih =>
    simp only [schedR, ih]
    congr 1
    simp only [schedVal]
    by_cases h : t < 16
    · simp only [if_pos h, Nat.zero_add]
      exact wordAt_in m a 0 t h
    · simp only [if_neg h]
theorem mixV_in (s m : List Int) (a : Nat) : mixV s ((m.take (a + 64)).drop a) 0 = mixV s m a := by
  simp only [mixV, schedR_in]
theorem wordAt_app (m l : List Int) (p : Nat) (h : p + 3 < m.length) : wordAt (m ++ l) p = wordAt m p := by
  have e : ∀ j, j < m.length → (m ++ l).getD j 0 = m.getD j 0 := fun j hj => by simp [List.getD, List.getElem?_append_left hj]
  simp only [wordAt]
  rw [e _ (by omega), e _ (by omega), e _ (by omega), e _ (by omega)]
theorem schedR_app (m l : List Int) (p t : Nat) (h : p + 64 ≤ m.length) : schedR (m ++ l) p t = schedR m p t := by
  induction t with
  | zero => rfl
  | succ t ih =>
    simp only [schedR, ih]
    congr 1
    simp only [schedVal]
    by_cases h : t < 16
    · simp only [if_pos h]
      exact wordAt_app m l _ (by omega)
    · simp only [if_neg h]
theorem blocksR_app (m l s : List Int) (n : Nat) (h : 64 * n ≤ m.length) : blocksR (m ++ l) s n = blocksR m s n := by
  induction n with
  | zero => rfl
  | succ n ih =>
    simp only [blocksR, ih (by omega), mixV]
    rw [schedR_app _ _ _ _ (by omega)]
theorem mixV_drop (s m : List Int) (q a : Nat) : mixV s (m.drop q) a = mixV s m (q + a) := by
  have hw : ∀ p, wordAt (m.drop q) p = wordAt m (q + p) := fun p => by
    simp only [wordAt, getD_drop', Nat.add_assoc]
  have hs : ∀ t, schedR (m.drop q) a t = schedR m (q + a) t := fun t => by
    induction t with
    | zero => rfl
    | succ t ih =>
      simp only [schedR, ih]
      congr 1
      simp only [schedVal, hw, Nat.add_assoc]
  simp only [mixV, hs]
end Go.Proofs.YtlpggofilkfbnaaDoor.T
