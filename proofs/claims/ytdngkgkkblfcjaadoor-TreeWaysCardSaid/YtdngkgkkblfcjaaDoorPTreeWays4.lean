/- Proved: the statement TreeWays, as given (its conditions are those of the given row, and card where there is one; no others): the call ends, with true, and the input reads as it did. This file is one of its parts. -/
import Derived.Test.YtdngkgkkblfcjaaDoorPTreeWays3
namespace Go.Proofs.YtdngkgkkblfcjaaDoor.T
open Go Go.Proofs Go.Proofs.YtdngkgkkblfcjaaDoor.K
set_option linter.unusedVariables false
set_option linter.unusedSimpArgs false
set_option maxRecDepth 20000 in
theorem sargassoref1_First.c (μ : Store) (w0 : World) (hμ : Agr μ w0) (x0 : Int) (hx0 : InR .i64 x0) (x1 : Int) (hx1 : InR .u64 x1) (x2 : List Int) (hx2 : Arr .u8 32 x2) (x3 : List Int) (u3 : Value) (hx3 : Slc (RI .u8) 1 μ u3 x3) (r : Tx) (H : sargassoref1_First.f x0 x1 x2 x3 = some r) :
    Calls Tryd.prog 9 [.int .i64 x0, .int .u64 x1, .agg [av .u8 32 x2].flatten.toArray, u3].toArray w0 (fun e w' => ∃ v, e = .returned v ∧ ∃ (v0_0 : Value) (v0_1 : Value) (μ' : Store), v = .agg [[.int .u32 r.Version], [v0_0], [v0_1], [.int .u32 r.Time]].flatten.toArray ∧ TxW μ' r v0_0 v0_1 ∧ Iv w0 [] μ μ' [] w') := by
  refine enter Tryd.func9 rfl Tryd.ntmps9 rfl fun a hA => ?_
  have hI := Iv.start hμ
  have H := bI H
  refine w_seq fun _ hN1 => w_reg <| o_box [av .u8 32 x2] hI hA rfl rfl rfl fun g1 a w hA hI hg1 => 
    o_new [[.int .u32 0], [(.slice none 0 0)], [(.slice none 0 0)], [.int .u32 0]] zr32 hI hA rfl fun g2 a w hA hI hg2 => ?_
  refine o_nil <| hN1 _ _ <| w_seq fun _ hN2 => w_reg <| stm hA rfl rfl fun a hA => 
    stp hA (r_conv Tryd.underlying3 Tryd.underlying24 hA rfl) rfl fun a hA => ?_
  have hI := hI.nilRow 5 1
  obtain ⟨r1, hr1, H⟩ := bB H
  refine o_call _ cf36 hA rfl (sargassoref1_Four.c μ _ hI.agr ([]) (.slice none 0 0) ([]) (Els.nil (RE := (RI .u8)) (sz := 1)) (hI.item (j := 0) rfl) (IntKind.u32.wrap x0) (wrap_in _ _) r1 hr1) rfl fun v1 a w hz1 hA => ?_
  obtain ⟨_, cs1, rfl, hE1, hi1⟩ := hz1
  have hI := hI.call1 0 rfl hi1
  refine stm hA rfl rfl fun a hA => ?_
  obtain ⟨cs2, hE2, hsv1⟩ : Slc (RI .u8) 1 μ u3 x3 := id (hx3)
  obtain ⟨hb1, H⟩ := bG H
  have hE3 := hE1.app hE2
  refine o_appG (xs := (r1 : List Int)) (ys := (x3 : List Int)) (M := 140737488355328) 0 te5 Tryd.underlying40 hI rfl hA rfl rfl (src_sl hI.agr hsv1 hE2.len) hE2.len (hE2.ones (one_RI _)) hb1 rfl fun v2 a w hA hI => 
    sta hA rfl rfl fun a hA => ?_
  refine o_nil <| hN2 _ _ ?_
  obtain ⟨⟨c1, c2, c3, c4⟩, hz2, Hk1⟩ := bB H
  refine w_cut (fun a w => ∃ (μ1 : Store) (vvc1 : Value) (vvc3 : Value) (ccc3 : List Value) (vvc4 : Value) (ccc4 : List Value), μ.le μ1 ∧ Slc (RI .u8) 1 μ1 vvc1 c1 ∧ InR .u32 c2 ∧ Els (RIn μ1) 35 c3 ccc3 ∧ Els (ROut μ1) 33 c4 ccc4 ∧ Fr a 24 [(8, .pointer (some ⟨g2, 0, none⟩)), (9, vvc1)] ∧ Iv w0 [] μ μ1 [row 42 35 vvc3 c3.length ccc3, row 44 33 vvc4 c4.length ccc4, cel g2 [[.int .u32 c2], [vvc3], [vvc4], [.int .u32 0]] 32, cel g1 [av .u8 32 x2] 26] w) ?_ ?_
  · have H := bI hz2
    refine w_anyS [] mo (fun w (h : Iv w0 [] μ μ [row 5 1 v2 (r1 ++ x3).length (cs1 ++ cs2), cel g2 [[.int .u32 0], [(.slice none 0 0)], [(.slice none 0 0)], [.int .u32 0]] 32, cel g1 [av .u8 32 x2] 26] w) => (h.sl [0, 2] rfl : Iv w0 [] μ μ [row 5 1 v2 (r1 ++ x3).length (cs1 ++ cs2), cel g1 [av .u8 32 x2] 26] w)) hI fun w hI => ?_
    refine gE 1 hA rfl (.inr (hI.sl [0, 2] rfl)) (fun _ => r_mv hA rfl) fun a hA => ?_
    refine gE 4 hA rfl (.inr (hI.sl [0, 2] rfl)) (fun _ => r_mv hA rfl) fun a hA => ?_
    refine gT 5 hA rfl (hI.sl [0, 2] rfl) (fun w hI => r_ldA (j := 1) [] [av .u8 32 x2] [] Tryd.underlying26 rfl sz26 rfl hI rfl hA rfl rfl) fun a hA => ?_
    refine g_fork (i := 0) (is := [6]) (by kernel_rfl) (List.forall_mem_cons.2 ⟨⟨_, rfl, ?_⟩, (List.forall_mem_cons.2 ⟨⟨_, rfl, ?_⟩, List.forall_mem_nil _⟩)⟩)
    · skip
      obtain ⟨r2, hr2, H⟩ := bB H
      refine o_callp (u := .agg [av .u8 32 r2.Tx, [.int .u32 r2.N]].flatten.toArray) cf37 hA rfl hI (sargassoref1_Null.c μ _ hI.agr  r2 hr2) rfl fun a w hz3 hI hA => ?_
      refine o_nil <| ⟨(.inr (hI.sl [0, 2] rfl)), ?_⟩
      refine g_fork (i := 2) (is := [6]) (by kernel_rfl) (List.forall_mem_cons.2 ⟨⟨_, rfl, ?_⟩, (List.forall_mem_cons.2 ⟨⟨_, rfl, ?_⟩, List.forall_mem_nil _⟩)⟩)
      · skip
        refine stp hA (r_bldS (cs := [av .u8 32 r2.Tx, [.int .u32 r2.N], [v2], [.int .u32 4294967295]].flatten.toArray) (pl := [(0, 33), (33, 1), (34, 1)]) zr42 Tryd.underlying42 ⟨rfl, sz39, rfl, sz40, rfl, sz24, trivial⟩ hA rfl ((fill_seg [] [av .u8 32 (List.replicate 32 0), [.int .u32 0]] [av .u8 32 r2.Tx, [.int .u32 r2.N]] [[(.slice none 0 0)], [.int .u32 0]] rfl rfl rfl rfl rfl).trans ((fill_seg [av .u8 32 r2.Tx, [.int .u32 r2.N]] [[(.slice none 0 0)]] [[v2]] [[.int .u32 0]] (own_cell hI (j := 0) rfl) rfl rfl rfl rfl).trans ((fill_seg [av .u8 32 r2.Tx, [.int .u32 r2.N], [v2]] [[.int .u32 0]] [[.int .u32 4294967295]] [] rfl rfl rfl rfl rfl).trans (rfl))))) rfl fun a hA => ?_
        refine o_nil <| ⟨(.inr (hI.sl [0, 2] rfl)), ?_⟩
        refine g_fork (i := 3) (is := [6]) (by kernel_rfl) (List.forall_mem_cons.2 ⟨⟨_, rfl, ?_⟩, (List.forall_mem_cons.2 ⟨⟨_, rfl, ?_⟩, List.forall_mem_nil _⟩)⟩)
        · skip
          obtain ⟨μ2, hle2, hsv2, hI, hth1⟩ := hI.freezeRowT 0 rfl
          have hS1 : Slc (RI .u8) 1 μ2 v2 (r1 ++ x3) := ⟨_, hE3, hsv2⟩
          have hE4 : Els (RIn μ2) 35 ([(⟨r2, r1 ++ x3, 4294967295⟩ : In)] : List In) _ := (Els.cons (c := [av .u8 32 r2.Tx, [.int .u32 r2.N], [v2], [.int .u32 4294967295]].flatten) ⟨v2, rfl, ⟨hz3.1, hz3.2, hS1, (in_lit .u32 4294967295 rfl)⟩⟩ rfl Els.nil)
          refine o_bsl ([av .u8 32 r2.Tx, [.int .u32 r2.N], [v2], [.int .u32 4294967295]].flatten ++ ([])) te42 zr42 Tryd.underlying29 hI hA rfl rfl rfl rfl (by kernel_rfl) rfl fun g3 a w hA hI => ?_
          generalize hcs : ([av .u8 32 r2.Tx, [.int .u32 r2.N], [v2], [.int .u32 4294967295]].flatten ++ ([]) : List Value) = cs4 at hE4 hI
          clear hcs
          refine o_nil <| ⟨(.inr ((hth1 _ _ hI).sl [0, 3] rfl)), ?_⟩
          refine gF 6 rfl ?_
          refine stp hA (r_bldS (cs := [[.int .u64 x1], av .u8 32 x2].flatten.toArray) (pl := [(0, 1), (1, 32)]) zr44 Tryd.underlying44 ⟨rfl, sz34, rfl, sz26, trivial⟩ hA rfl (by kernel_rfl)) rfl fun a hA => ?_
          refine o_nil <| ⟨(.inr ((hth1 _ _ hI).sl [0, 3] rfl)), ?_⟩
          refine gF 7 rfl ?_
          have hE5 : Els (ROut μ2) 33 ([(⟨x1, x2⟩ : Out)] : List Out) _ := (Els.cons (c := [[.int .u64 x1], av .u8 32 x2].flatten) ⟨rfl, ⟨hx1, hx2⟩⟩ rfl Els.nil)
          refine o_bsl ([[.int .u64 x1], av .u8 32 x2].flatten ++ ([])) te44 zr44 Tryd.underlying30 hI hA rfl rfl rfl rfl (by kernel_rfl) rfl fun g4 a w hA hI => ?_
          generalize hcs : ([[.int .u64 x1], av .u8 32 x2].flatten ++ ([]) : List Value) = cs5 at hE5 hI
          clear hcs
          refine o_nil <| ⟨(.inr ((hth1 _ _ hI).sl [0, 4] rfl)), ?_⟩
          refine gF 8 rfl ?_
          refine stp hA (r_bldS (cs := [[.int .u32 1], [(.slice (some ⟨g3, 0, none⟩) 1 1)], [(.slice (some ⟨g4, 0, none⟩) 1 1)], [.int .u32 0]].flatten.toArray) (pl := [(0, 1), (1, 1), (2, 1), (3, 1)]) zr32 Tryd.underlying32 ⟨rfl, sz24, rfl, sz29, rfl, sz30, rfl, sz24, trivial⟩ hA rfl ((fill_one rfl rfl (by kernel_rfl)).trans ((fill_one (own_cell hI (j := 1) rfl) rfl (by kernel_rfl)).trans ((fill_one (own_cell hI (j := 0) rfl) rfl (by kernel_rfl)).trans (by kernel_rfl))))) rfl fun a hA => ?_
          refine o_nil <| ⟨(.inr ((hth1 _ _ hI).sl [0, 4] rfl)), ?_⟩
          refine gF 9 rfl ?_
          refine o_st (j := 2) [] [[.int .u32 0], [(.slice none 0 0)], [(.slice none 0 0)], [.int .u32 0]] [[.int .u32 1], [(.slice (some ⟨g3, 0, none⟩) 1 1)], [(.slice (some ⟨g4, 0, none⟩) 1 1)], [.int .u32 0]] [] sz32 rfl rfl (fl_cons (one_one rfl) (fl_cons (one_one (own_one hI (j := 1) rfl)) (fl_cons (one_one (own_one hI (j := 0) rfl)) (fl_cons (one_one rfl) fl_nil)))) hI rfl hA rfl rfl rfl rfl fun w hI => ?_
          refine o_nil <| ⟨(.inr ((hth1 _ _ hI).sl [0, 4] rfl)), ?_⟩
          refine gN ?_
          cases sJ H
          exact ⟨μ2, v2, (.slice (some ⟨g3, 0, none⟩) 1 1), cs4, (.slice (some ⟨g4, 0, none⟩) 1 1), cs5, hle2, hS1, (in_lit .u32 1 rfl), hE4, hE5, hA.sub ⟨rfl, rfl, trivial⟩, (hI.sl [1, 0, 2, 3] rfl)⟩
        · skip
          refine stp hA (r_bldS (cs := [[.int .u64 x1], av .u8 32 x2].flatten.toArray) (pl := [(0, 1), (1, 32)]) zr44 Tryd.underlying44 ⟨rfl, sz34, rfl, sz26, trivial⟩ hA rfl (by kernel_rfl)) rfl fun a hA => ?_
          refine o_nil <| ⟨(.inr (hI.sl [0, 2] rfl)), ?_⟩
          refine g_fork (i := 3) (is := [7]) (by kernel_rfl) (List.forall_mem_cons.2 ⟨⟨_, rfl, ?_⟩, (List.forall_mem_cons.2 ⟨⟨_, rfl, ?_⟩, List.forall_mem_nil _⟩)⟩)
          · skip
            obtain ⟨μ2, hle2, hsv2, hI, hth1⟩ := hI.freezeRowT 0 rfl
            have hS1 : Slc (RI .u8) 1 μ2 v2 (r1 ++ x3) := ⟨_, hE3, hsv2⟩
            have hE4 : Els (RIn μ2) 35 ([(⟨r2, r1 ++ x3, 4294967295⟩ : In)] : List In) _ := (Els.cons (c := [av .u8 32 r2.Tx, [.int .u32 r2.N], [v2], [.int .u32 4294967295]].flatten) ⟨v2, rfl, ⟨hz3.1, hz3.2, hS1, (in_lit .u32 4294967295 rfl)⟩⟩ rfl Els.nil)
            refine o_bsl ([av .u8 32 r2.Tx, [.int .u32 r2.N], [v2], [.int .u32 4294967295]].flatten ++ ([])) te42 zr42 Tryd.underlying29 hI hA rfl rfl rfl rfl (by kernel_rfl) rfl fun g3 a w hA hI => ?_
            generalize hcs : ([av .u8 32 r2.Tx, [.int .u32 r2.N], [v2], [.int .u32 4294967295]].flatten ++ ([]) : List Value) = cs4 at hE4 hI
            clear hcs
            refine o_nil <| ⟨(.inr ((hth1 _ _ hI).sl [0, 3] rfl)), ?_⟩
            refine gF 7 rfl ?_
            have hE5 : Els (ROut μ2) 33 ([(⟨x1, x2⟩ : Out)] : List Out) _ := (Els.cons (c := [[.int .u64 x1], av .u8 32 x2].flatten) ⟨rfl, ⟨hx1, hx2⟩⟩ rfl Els.nil)
            refine o_bsl ([[.int .u64 x1], av .u8 32 x2].flatten ++ ([])) te44 zr44 Tryd.underlying30 hI hA rfl rfl rfl rfl (by kernel_rfl) rfl fun g4 a w hA hI => ?_
            generalize hcs : ([[.int .u64 x1], av .u8 32 x2].flatten ++ ([]) : List Value) = cs5 at hE5 hI
            clear hcs
            refine o_nil <| ⟨(.inr ((hth1 _ _ hI).sl [0, 4] rfl)), ?_⟩
            refine gF 8 rfl ?_
            refine stp hA (r_bldS (cs := [[.int .u32 1], [(.slice (some ⟨g3, 0, none⟩) 1 1)], [(.slice (some ⟨g4, 0, none⟩) 1 1)], [.int .u32 0]].flatten.toArray) (pl := [(0, 1), (1, 1), (2, 1), (3, 1)]) zr32 Tryd.underlying32 ⟨rfl, sz24, rfl, sz29, rfl, sz30, rfl, sz24, trivial⟩ hA rfl ((fill_one rfl rfl (by kernel_rfl)).trans ((fill_one (own_cell hI (j := 1) rfl) rfl (by kernel_rfl)).trans ((fill_one (own_cell hI (j := 0) rfl) rfl (by kernel_rfl)).trans (by kernel_rfl))))) rfl fun a hA => ?_
            refine o_nil <| ⟨(.inr ((hth1 _ _ hI).sl [0, 4] rfl)), ?_⟩
            refine gF 9 rfl ?_
            refine o_st (j := 2) [] [[.int .u32 0], [(.slice none 0 0)], [(.slice none 0 0)], [.int .u32 0]] [[.int .u32 1], [(.slice (some ⟨g3, 0, none⟩) 1 1)], [(.slice (some ⟨g4, 0, none⟩) 1 1)], [.int .u32 0]] [] sz32 rfl rfl (fl_cons (one_one rfl) (fl_cons (one_one (own_one hI (j := 1) rfl)) (fl_cons (one_one (own_one hI (j := 0) rfl)) (fl_cons (one_one rfl) fl_nil)))) hI rfl hA rfl rfl rfl rfl fun w hI => ?_
            refine o_nil <| ⟨(.inr ((hth1 _ _ hI).sl [0, 4] rfl)), ?_⟩
            refine gN ?_
            cases sJ H
            exact ⟨μ2, v2, (.slice (some ⟨g3, 0, none⟩) 1 1), cs4, (.slice (some ⟨g4, 0, none⟩) 1 1), cs5, hle2, hS1, (in_lit .u32 1 rfl), hE4, hE5, hA.sub ⟨rfl, rfl, trivial⟩, (hI.sl [1, 0, 2, 3] rfl)⟩
          · skip
            have hE4 : Els (ROut μ) 33 ([(⟨x1, x2⟩ : Out)] : List Out) _ := (Els.cons (c := [[.int .u64 x1], av .u8 32 x2].flatten) ⟨rfl, ⟨hx1, hx2⟩⟩ rfl Els.nil)
            refine o_bsl ([[.int .u64 x1], av .u8 32 x2].flatten ++ ([])) te44 zr44 Tryd.underlying30 hI hA rfl rfl rfl rfl (by kernel_rfl) rfl fun g3 a w hA hI => ?_
            generalize hcs : ([[.int .u64 x1], av .u8 32 x2].flatten ++ ([]) : List Value) = cs4 at hE4 hI
            clear hcs
            refine o_nil <| ⟨(.inr (hI.sl [1, 3] rfl)), ?_⟩
            refine gF 3 rfl ?_
            obtain ⟨μ2, hle2, hsv2, hI, hth1⟩ := hI.freezeRowT 1 rfl
            have hS1 : Slc (RI .u8) 1 μ2 v2 (r1 ++ x3) := ⟨_, hE3, hsv2⟩
            have hE5 : Els (RIn μ2) 35 ([(⟨r2, r1 ++ x3, 4294967295⟩ : In)] : List In) _ := (Els.cons (c := [av .u8 32 r2.Tx, [.int .u32 r2.N], [v2], [.int .u32 4294967295]].flatten) ⟨v2, rfl, ⟨hz3.1, hz3.2, hS1, (in_lit .u32 4294967295 rfl)⟩⟩ rfl Els.nil)
            refine o_bsl ([av .u8 32 r2.Tx, [.int .u32 r2.N], [v2], [.int .u32 4294967295]].flatten ++ ([])) te42 zr42 Tryd.underlying29 hI hA rfl rfl rfl rfl (by kernel_rfl) rfl fun g4 a w hA hI => ?_
            generalize hcs : ([av .u8 32 r2.Tx, [.int .u32 r2.N], [v2], [.int .u32 4294967295]].flatten ++ ([]) : List Value) = cs5 at hE5 hI
            clear hcs
            refine o_nil <| ⟨(.inr ((hth1 _ _ hI).sl [0, 4] rfl)), ?_⟩
            refine gF 8 rfl ?_
            refine stp hA (r_bldS (cs := [[.int .u32 1], [(.slice (some ⟨g4, 0, none⟩) 1 1)], [(.slice (some ⟨g3, 0, none⟩) 1 1)], [.int .u32 0]].flatten.toArray) (pl := [(0, 1), (1, 1), (2, 1), (3, 1)]) zr32 Tryd.underlying32 ⟨rfl, sz24, rfl, sz29, rfl, sz30, rfl, sz24, trivial⟩ hA rfl ((fill_one rfl rfl (by kernel_rfl)).trans ((fill_one (own_cell hI (j := 0) rfl) rfl (by kernel_rfl)).trans ((fill_one (own_cell hI (j := 1) rfl) rfl (by kernel_rfl)).trans (by kernel_rfl))))) rfl fun a hA => ?_
            refine o_nil <| ⟨(.inr ((hth1 _ _ hI).sl [0, 4] rfl)), ?_⟩
            refine gF 9 rfl ?_
            refine o_st (j := 2) [] [[.int .u32 0], [(.slice none 0 0)], [(.slice none 0 0)], [.int .u32 0]] [[.int .u32 1], [(.slice (some ⟨g4, 0, none⟩) 1 1)], [(.slice (some ⟨g3, 0, none⟩) 1 1)], [.int .u32 0]] [] sz32 rfl rfl (fl_cons (one_one rfl) (fl_cons (one_one (own_one hI (j := 0) rfl)) (fl_cons (one_one (own_one hI (j := 1) rfl)) (fl_cons (one_one rfl) fl_nil)))) hI rfl hA rfl rfl rfl rfl fun w hI => ?_
            refine o_nil <| ⟨(.inr ((hth1 _ _ hI).sl [0, 4] rfl)), ?_⟩
            refine gN ?_
            cases sJ H
            exact ⟨μ2, v2, (.slice (some ⟨g4, 0, none⟩) 1 1), cs5, (.slice (some ⟨g3, 0, none⟩) 1 1), cs4, hle2, hS1, (in_lit .u32 1 rfl), hE5, hE4, hA.sub ⟨rfl, rfl, trivial⟩, hI⟩
      · skip
        refine stp hA (r_bldS (cs := [[.int .u64 x1], av .u8 32 x2].flatten.toArray) (pl := [(0, 1), (1, 32)]) zr44 Tryd.underlying44 ⟨rfl, sz34, rfl, sz26, trivial⟩ hA rfl (by kernel_rfl)) rfl fun a hA => ?_
        refine o_nil <| ⟨(.inr (hI.sl [0, 2] rfl)), ?_⟩
        refine g_fork (i := 2) (is := [7]) (by kernel_rfl) (List.forall_mem_cons.2 ⟨⟨_, rfl, ?_⟩, (List.forall_mem_cons.2 ⟨⟨_, rfl, ?_⟩, List.forall_mem_nil _⟩)⟩)
        · skip
          refine stp hA (r_bldS (cs := [av .u8 32 r2.Tx, [.int .u32 r2.N], [v2], [.int .u32 4294967295]].flatten.toArray) (pl := [(0, 33), (33, 1), (34, 1)]) zr42 Tryd.underlying42 ⟨rfl, sz39, rfl, sz40, rfl, sz24, trivial⟩ hA rfl ((fill_seg [] [av .u8 32 (List.replicate 32 0), [.int .u32 0]] [av .u8 32 r2.Tx, [.int .u32 r2.N]] [[(.slice none 0 0)], [.int .u32 0]] rfl rfl rfl rfl rfl).trans ((fill_seg [av .u8 32 r2.Tx, [.int .u32 r2.N]] [[(.slice none 0 0)]] [[v2]] [[.int .u32 0]] (own_cell hI (j := 0) rfl) rfl rfl rfl rfl).trans ((fill_seg [av .u8 32 r2.Tx, [.int .u32 r2.N], [v2]] [[.int .u32 0]] [[.int .u32 4294967295]] [] rfl rfl rfl rfl rfl).trans (rfl))))) rfl fun a hA => ?_
          refine o_nil <| ⟨(.inr (hI.sl [0, 2] rfl)), ?_⟩
          refine g_fork (i := 3) (is := [7]) (by kernel_rfl) (List.forall_mem_cons.2 ⟨⟨_, rfl, ?_⟩, (List.forall_mem_cons.2 ⟨⟨_, rfl, ?_⟩, List.forall_mem_nil _⟩)⟩)
          · skip
            obtain ⟨μ2, hle2, hsv2, hI, hth1⟩ := hI.freezeRowT 0 rfl
            have hS1 : Slc (RI .u8) 1 μ2 v2 (r1 ++ x3) := ⟨_, hE3, hsv2⟩
            have hE4 : Els (RIn μ2) 35 ([(⟨r2, r1 ++ x3, 4294967295⟩ : In)] : List In) _ := (Els.cons (c := [av .u8 32 r2.Tx, [.int .u32 r2.N], [v2], [.int .u32 4294967295]].flatten) ⟨v2, rfl, ⟨hz3.1, hz3.2, hS1, (in_lit .u32 4294967295 rfl)⟩⟩ rfl Els.nil)
            refine o_bsl ([av .u8 32 r2.Tx, [.int .u32 r2.N], [v2], [.int .u32 4294967295]].flatten ++ ([])) te42 zr42 Tryd.underlying29 hI hA rfl rfl rfl rfl (by kernel_rfl) rfl fun g3 a w hA hI => ?_
            generalize hcs : ([av .u8 32 r2.Tx, [.int .u32 r2.N], [v2], [.int .u32 4294967295]].flatten ++ ([]) : List Value) = cs4 at hE4 hI
            clear hcs
            refine o_nil <| ⟨(.inr ((hth1 _ _ hI).sl [0, 3] rfl)), ?_⟩
            refine gF 7 rfl ?_
            have hE5 : Els (ROut μ2) 33 ([(⟨x1, x2⟩ : Out)] : List Out) _ := (Els.cons (c := [[.int .u64 x1], av .u8 32 x2].flatten) ⟨rfl, ⟨hx1, hx2⟩⟩ rfl Els.nil)
            refine o_bsl ([[.int .u64 x1], av .u8 32 x2].flatten ++ ([])) te44 zr44 Tryd.underlying30 hI hA rfl rfl rfl rfl (by kernel_rfl) rfl fun g4 a w hA hI => ?_
            generalize hcs : ([[.int .u64 x1], av .u8 32 x2].flatten ++ ([]) : List Value) = cs5 at hE5 hI
            clear hcs
            refine o_nil <| ⟨(.inr ((hth1 _ _ hI).sl [0, 4] rfl)), ?_⟩
            refine gF 8 rfl ?_
            refine stp hA (r_bldS (cs := [[.int .u32 1], [(.slice (some ⟨g3, 0, none⟩) 1 1)], [(.slice (some ⟨g4, 0, none⟩) 1 1)], [.int .u32 0]].flatten.toArray) (pl := [(0, 1), (1, 1), (2, 1), (3, 1)]) zr32 Tryd.underlying32 ⟨rfl, sz24, rfl, sz29, rfl, sz30, rfl, sz24, trivial⟩ hA rfl ((fill_one rfl rfl (by kernel_rfl)).trans ((fill_one (own_cell hI (j := 1) rfl) rfl (by kernel_rfl)).trans ((fill_one (own_cell hI (j := 0) rfl) rfl (by kernel_rfl)).trans (by kernel_rfl))))) rfl fun a hA => ?_
            refine o_nil <| ⟨(.inr ((hth1 _ _ hI).sl [0, 4] rfl)), ?_⟩
            refine gF 9 rfl ?_
            refine o_st (j := 2) [] [[.int .u32 0], [(.slice none 0 0)], [(.slice none 0 0)], [.int .u32 0]] [[.int .u32 1], [(.slice (some ⟨g3, 0, none⟩) 1 1)], [(.slice (some ⟨g4, 0, none⟩) 1 1)], [.int .u32 0]] [] sz32 rfl rfl (fl_cons (one_one rfl) (fl_cons (one_one (own_one hI (j := 1) rfl)) (fl_cons (one_one (own_one hI (j := 0) rfl)) (fl_cons (one_one rfl) fl_nil)))) hI rfl hA rfl rfl rfl rfl fun w hI => ?_
            refine o_nil <| ⟨(.inr ((hth1 _ _ hI).sl [0, 4] rfl)), ?_⟩
            refine gN ?_
            cases sJ H
            exact ⟨μ2, v2, (.slice (some ⟨g3, 0, none⟩) 1 1), cs4, (.slice (some ⟨g4, 0, none⟩) 1 1), cs5, hle2, hS1, (in_lit .u32 1 rfl), hE4, hE5, hA.sub ⟨rfl, rfl, trivial⟩, (hI.sl [1, 0, 2, 3] rfl)⟩
          · skip
            have hE4 : Els (ROut μ) 33 ([(⟨x1, x2⟩ : Out)] : List Out) _ := (Els.cons (c := [[.int .u64 x1], av .u8 32 x2].flatten) ⟨rfl, ⟨hx1, hx2⟩⟩ rfl Els.nil)
            refine o_bsl ([[.int .u64 x1], av .u8 32 x2].flatten ++ ([])) te44 zr44 Tryd.underlying30 hI hA rfl rfl rfl rfl (by kernel_rfl) rfl fun g3 a w hA hI => ?_
            generalize hcs : ([[.int .u64 x1], av .u8 32 x2].flatten ++ ([]) : List Value) = cs4 at hE4 hI
            clear hcs
            refine o_nil <| ⟨(.inr (hI.sl [1, 3] rfl)), ?_⟩
            refine gF 3 rfl ?_
            obtain ⟨μ2, hle2, hsv2, hI, hth1⟩ := hI.freezeRowT 1 rfl
            have hS1 : Slc (RI .u8) 1 μ2 v2 (r1 ++ x3) := ⟨_, hE3, hsv2⟩
            have hE5 : Els (RIn μ2) 35 ([(⟨r2, r1 ++ x3, 4294967295⟩ : In)] : List In) _ := (Els.cons (c := [av .u8 32 r2.Tx, [.int .u32 r2.N], [v2], [.int .u32 4294967295]].flatten) ⟨v2, rfl, ⟨hz3.1, hz3.2, hS1, (in_lit .u32 4294967295 rfl)⟩⟩ rfl Els.nil)
            refine o_bsl ([av .u8 32 r2.Tx, [.int .u32 r2.N], [v2], [.int .u32 4294967295]].flatten ++ ([])) te42 zr42 Tryd.underlying29 hI hA rfl rfl rfl rfl (by kernel_rfl) rfl fun g4 a w hA hI => ?_
            generalize hcs : ([av .u8 32 r2.Tx, [.int .u32 r2.N], [v2], [.int .u32 4294967295]].flatten ++ ([]) : List Value) = cs5 at hE5 hI
            clear hcs
            refine o_nil <| ⟨(.inr ((hth1 _ _ hI).sl [0, 4] rfl)), ?_⟩
            refine gF 8 rfl ?_
            refine stp hA (r_bldS (cs := [[.int .u32 1], [(.slice (some ⟨g4, 0, none⟩) 1 1)], [(.slice (some ⟨g3, 0, none⟩) 1 1)], [.int .u32 0]].flatten.toArray) (pl := [(0, 1), (1, 1), (2, 1), (3, 1)]) zr32 Tryd.underlying32 ⟨rfl, sz24, rfl, sz29, rfl, sz30, rfl, sz24, trivial⟩ hA rfl ((fill_one rfl rfl (by kernel_rfl)).trans ((fill_one (own_cell hI (j := 0) rfl) rfl (by kernel_rfl)).trans ((fill_one (own_cell hI (j := 1) rfl) rfl (by kernel_rfl)).trans (by kernel_rfl))))) rfl fun a hA => ?_
            refine o_nil <| ⟨(.inr ((hth1 _ _ hI).sl [0, 4] rfl)), ?_⟩
            refine gF 9 rfl ?_
            refine o_st (j := 2) [] [[.int .u32 0], [(.slice none 0 0)], [(.slice none 0 0)], [.int .u32 0]] [[.int .u32 1], [(.slice (some ⟨g4, 0, none⟩) 1 1)], [(.slice (some ⟨g3, 0, none⟩) 1 1)], [.int .u32 0]] [] sz32 rfl rfl (fl_cons (one_one rfl) (fl_cons (one_one (own_one hI (j := 0) rfl)) (fl_cons (one_one (own_one hI (j := 1) rfl)) (fl_cons (one_one rfl) fl_nil)))) hI rfl hA rfl rfl rfl rfl fun w hI => ?_
            refine o_nil <| ⟨(.inr ((hth1 _ _ hI).sl [0, 4] rfl)), ?_⟩
            refine gN ?_
            cases sJ H
            exact ⟨μ2, v2, (.slice (some ⟨g4, 0, none⟩) 1 1), cs5, (.slice (some ⟨g3, 0, none⟩) 1 1), cs4, hle2, hS1, (in_lit .u32 1 rfl), hE5, hE4, hA.sub ⟨rfl, rfl, trivial⟩, hI⟩
        · skip
          have hE4 : Els (ROut μ) 33 ([(⟨x1, x2⟩ : Out)] : List Out) _ := (Els.cons (c := [[.int .u64 x1], av .u8 32 x2].flatten) ⟨rfl, ⟨hx1, hx2⟩⟩ rfl Els.nil)
          refine o_bsl ([[.int .u64 x1], av .u8 32 x2].flatten ++ ([])) te44 zr44 Tryd.underlying30 hI hA rfl rfl rfl rfl (by kernel_rfl) rfl fun g3 a w hA hI => ?_
          generalize hcs : ([[.int .u64 x1], av .u8 32 x2].flatten ++ ([]) : List Value) = cs4 at hE4 hI
          clear hcs
          refine o_nil <| ⟨(.inr (hI.sl [1, 3] rfl)), ?_⟩
          refine gF 2 rfl ?_
          refine stp hA (r_bldS (cs := [av .u8 32 r2.Tx, [.int .u32 r2.N], [v2], [.int .u32 4294967295]].flatten.toArray) (pl := [(0, 33), (33, 1), (34, 1)]) zr42 Tryd.underlying42 ⟨rfl, sz39, rfl, sz40, rfl, sz24, trivial⟩ hA rfl ((fill_seg [] [av .u8 32 (List.replicate 32 0), [.int .u32 0]] [av .u8 32 r2.Tx, [.int .u32 r2.N]] [[(.slice none 0 0)], [.int .u32 0]] rfl rfl rfl rfl rfl).trans ((fill_seg [av .u8 32 r2.Tx, [.int .u32 r2.N]] [[(.slice none 0 0)]] [[v2]] [[.int .u32 0]] (own_cell hI (j := 1) rfl) rfl rfl rfl rfl).trans ((fill_seg [av .u8 32 r2.Tx, [.int .u32 r2.N], [v2]] [[.int .u32 0]] [[.int .u32 4294967295]] [] rfl rfl rfl rfl rfl).trans (rfl))))) rfl fun a hA => ?_
          refine o_nil <| ⟨(.inr (hI.sl [1, 3] rfl)), ?_⟩
          refine gF 3 rfl ?_
          obtain ⟨μ2, hle2, hsv2, hI, hth1⟩ := hI.freezeRowT 1 rfl
          have hS1 : Slc (RI .u8) 1 μ2 v2 (r1 ++ x3) := ⟨_, hE3, hsv2⟩
          have hE5 : Els (RIn μ2) 35 ([(⟨r2, r1 ++ x3, 4294967295⟩ : In)] : List In) _ := (Els.cons (c := [av .u8 32 r2.Tx, [.int .u32 r2.N], [v2], [.int .u32 4294967295]].flatten) ⟨v2, rfl, ⟨hz3.1, hz3.2, hS1, (in_lit .u32 4294967295 rfl)⟩⟩ rfl Els.nil)
          refine o_bsl ([av .u8 32 r2.Tx, [.int .u32 r2.N], [v2], [.int .u32 4294967295]].flatten ++ ([])) te42 zr42 Tryd.underlying29 hI hA rfl rfl rfl rfl (by kernel_rfl) rfl fun g4 a w hA hI => ?_
          generalize hcs : ([av .u8 32 r2.Tx, [.int .u32 r2.N], [v2], [.int .u32 4294967295]].flatten ++ ([]) : List Value) = cs5 at hE5 hI
          clear hcs
          refine o_nil <| ⟨(.inr ((hth1 _ _ hI).sl [0, 4] rfl)), ?_⟩
          refine gF 8 rfl ?_
          refine stp hA (r_bldS (cs := [[.int .u32 1], [(.slice (some ⟨g4, 0, none⟩) 1 1)], [(.slice (some ⟨g3, 0, none⟩) 1 1)], [.int .u32 0]].flatten.toArray) (pl := [(0, 1), (1, 1), (2, 1), (3, 1)]) zr32 Tryd.underlying32 ⟨rfl, sz24, rfl, sz29, rfl, sz30, rfl, sz24, trivial⟩ hA rfl ((fill_one rfl rfl (by kernel_rfl)).trans ((fill_one (own_cell hI (j := 0) rfl) rfl (by kernel_rfl)).trans ((fill_one (own_cell hI (j := 1) rfl) rfl (by kernel_rfl)).trans (by kernel_rfl))))) rfl fun a hA => ?_
          refine o_nil <| ⟨(.inr ((hth1 _ _ hI).sl [0, 4] rfl)), ?_⟩
          refine gF 9 rfl ?_
          refine o_st (j := 2) [] [[.int .u32 0], [(.slice none 0 0)], [(.slice none 0 0)], [.int .u32 0]] [[.int .u32 1], [(.slice (some ⟨g4, 0, none⟩) 1 1)], [(.slice (some ⟨g3, 0, none⟩) 1 1)], [.int .u32 0]] [] sz32 rfl rfl (fl_cons (one_one rfl) (fl_cons (one_one (own_one hI (j := 0) rfl)) (fl_cons (one_one (own_one hI (j := 1) rfl)) (fl_cons (one_one rfl) fl_nil)))) hI rfl hA rfl rfl rfl rfl fun w hI => ?_
          refine o_nil <| ⟨(.inr ((hth1 _ _ hI).sl [0, 4] rfl)), ?_⟩
          refine gN ?_
          cases sJ H
          exact ⟨μ2, v2, (.slice (some ⟨g4, 0, none⟩) 1 1), cs5, (.slice (some ⟨g3, 0, none⟩) 1 1), cs4, hle2, hS1, (in_lit .u32 1 rfl), hE5, hE4, hA.sub ⟨rfl, rfl, trivial⟩, hI⟩
    · skip
      refine stp hA (r_bldS (cs := [[.int .u64 x1], av .u8 32 x2].flatten.toArray) (pl := [(0, 1), (1, 32)]) zr44 Tryd.underlying44 ⟨rfl, sz34, rfl, sz26, trivial⟩ hA rfl (by kernel_rfl)) rfl fun a hA => ?_
      refine o_nil <| ⟨(.inr (hI.sl [0, 2] rfl)), ?_⟩
      refine g_fork (i := 0) (is := [7]) (by kernel_rfl) (List.forall_mem_cons.2 ⟨⟨_, rfl, ?_⟩, (List.forall_mem_cons.2 ⟨⟨_, rfl, ?_⟩, List.forall_mem_nil _⟩)⟩)
      · skip
        obtain ⟨r2, hr2, H⟩ := bB H
        refine o_callp (u := .agg [av .u8 32 r2.Tx, [.int .u32 r2.N]].flatten.toArray) cf37 hA rfl hI (sargassoref1_Null.c μ _ hI.agr  r2 hr2) rfl fun a w hz3 hI hA => ?_
        refine o_nil <| ⟨(.inr (hI.sl [0, 2] rfl)), ?_⟩
        refine g_fork (i := 2) (is := [7]) (by kernel_rfl) (List.forall_mem_cons.2 ⟨⟨_, rfl, ?_⟩, (List.forall_mem_cons.2 ⟨⟨_, rfl, ?_⟩, List.forall_mem_nil _⟩)⟩)
        · skip
          refine stp hA (r_bldS (cs := [av .u8 32 r2.Tx, [.int .u32 r2.N], [v2], [.int .u32 4294967295]].flatten.toArray) (pl := [(0, 33), (33, 1), (34, 1)]) zr42 Tryd.underlying42 ⟨rfl, sz39, rfl, sz40, rfl, sz24, trivial⟩ hA rfl ((fill_seg [] [av .u8 32 (List.replicate 32 0), [.int .u32 0]] [av .u8 32 r2.Tx, [.int .u32 r2.N]] [[(.slice none 0 0)], [.int .u32 0]] rfl rfl rfl rfl rfl).trans ((fill_seg [av .u8 32 r2.Tx, [.int .u32 r2.N]] [[(.slice none 0 0)]] [[v2]] [[.int .u32 0]] (own_cell hI (j := 0) rfl) rfl rfl rfl rfl).trans ((fill_seg [av .u8 32 r2.Tx, [.int .u32 r2.N], [v2]] [[.int .u32 0]] [[.int .u32 4294967295]] [] rfl rfl rfl rfl rfl).trans (rfl))))) rfl fun a hA => ?_
          refine o_nil <| ⟨(.inr (hI.sl [0, 2] rfl)), ?_⟩
          refine g_fork (i := 3) (is := [7]) (by kernel_rfl) (List.forall_mem_cons.2 ⟨⟨_, rfl, ?_⟩, (List.forall_mem_cons.2 ⟨⟨_, rfl, ?_⟩, List.forall_mem_nil _⟩)⟩)
          · skip
            obtain ⟨μ2, hle2, hsv2, hI, hth1⟩ := hI.freezeRowT 0 rfl
            have hS1 : Slc (RI .u8) 1 μ2 v2 (r1 ++ x3) := ⟨_, hE3, hsv2⟩
            have hE4 : Els (RIn μ2) 35 ([(⟨r2, r1 ++ x3, 4294967295⟩ : In)] : List In) _ := (Els.cons (c := [av .u8 32 r2.Tx, [.int .u32 r2.N], [v2], [.int .u32 4294967295]].flatten) ⟨v2, rfl, ⟨hz3.1, hz3.2, hS1, (in_lit .u32 4294967295 rfl)⟩⟩ rfl Els.nil)
            refine o_bsl ([av .u8 32 r2.Tx, [.int .u32 r2.N], [v2], [.int .u32 4294967295]].flatten ++ ([])) te42 zr42 Tryd.underlying29 hI hA rfl rfl rfl rfl (by kernel_rfl) rfl fun g3 a w hA hI => ?_
            generalize hcs : ([av .u8 32 r2.Tx, [.int .u32 r2.N], [v2], [.int .u32 4294967295]].flatten ++ ([]) : List Value) = cs4 at hE4 hI
            clear hcs
            refine o_nil <| ⟨(.inr ((hth1 _ _ hI).sl [0, 3] rfl)), ?_⟩
            refine gF 7 rfl ?_
            have hE5 : Els (ROut μ2) 33 ([(⟨x1, x2⟩ : Out)] : List Out) _ := (Els.cons (c := [[.int .u64 x1], av .u8 32 x2].flatten) ⟨rfl, ⟨hx1, hx2⟩⟩ rfl Els.nil)
            refine o_bsl ([[.int .u64 x1], av .u8 32 x2].flatten ++ ([])) te44 zr44 Tryd.underlying30 hI hA rfl rfl rfl rfl (by kernel_rfl) rfl fun g4 a w hA hI => ?_
            generalize hcs : ([[.int .u64 x1], av .u8 32 x2].flatten ++ ([]) : List Value) = cs5 at hE5 hI
            clear hcs
            refine o_nil <| ⟨(.inr ((hth1 _ _ hI).sl [0, 4] rfl)), ?_⟩
            refine gF 8 rfl ?_
            refine stp hA (r_bldS (cs := [[.int .u32 1], [(.slice (some ⟨g3, 0, none⟩) 1 1)], [(.slice (some ⟨g4, 0, none⟩) 1 1)], [.int .u32 0]].flatten.toArray) (pl := [(0, 1), (1, 1), (2, 1), (3, 1)]) zr32 Tryd.underlying32 ⟨rfl, sz24, rfl, sz29, rfl, sz30, rfl, sz24, trivial⟩ hA rfl ((fill_one rfl rfl (by kernel_rfl)).trans ((fill_one (own_cell hI (j := 1) rfl) rfl (by kernel_rfl)).trans ((fill_one (own_cell hI (j := 0) rfl) rfl (by kernel_rfl)).trans (by kernel_rfl))))) rfl fun a hA => ?_
            refine o_nil <| ⟨(.inr ((hth1 _ _ hI).sl [0, 4] rfl)), ?_⟩
            refine gF 9 rfl ?_
            refine o_st (j := 2) [] [[.int .u32 0], [(.slice none 0 0)], [(.slice none 0 0)], [.int .u32 0]] [[.int .u32 1], [(.slice (some ⟨g3, 0, none⟩) 1 1)], [(.slice (some ⟨g4, 0, none⟩) 1 1)], [.int .u32 0]] [] sz32 rfl rfl (fl_cons (one_one rfl) (fl_cons (one_one (own_one hI (j := 1) rfl)) (fl_cons (one_one (own_one hI (j := 0) rfl)) (fl_cons (one_one rfl) fl_nil)))) hI rfl hA rfl rfl rfl rfl fun w hI => ?_
            refine o_nil <| ⟨(.inr ((hth1 _ _ hI).sl [0, 4] rfl)), ?_⟩
            refine gN ?_
            cases sJ H
            exact ⟨μ2, v2, (.slice (some ⟨g3, 0, none⟩) 1 1), cs4, (.slice (some ⟨g4, 0, none⟩) 1 1), cs5, hle2, hS1, (in_lit .u32 1 rfl), hE4, hE5, hA.sub ⟨rfl, rfl, trivial⟩, (hI.sl [1, 0, 2, 3] rfl)⟩
          · skip
            have hE4 : Els (ROut μ) 33 ([(⟨x1, x2⟩ : Out)] : List Out) _ := (Els.cons (c := [[.int .u64 x1], av .u8 32 x2].flatten) ⟨rfl, ⟨hx1, hx2⟩⟩ rfl Els.nil)
            refine o_bsl ([[.int .u64 x1], av .u8 32 x2].flatten ++ ([])) te44 zr44 Tryd.underlying30 hI hA rfl rfl rfl rfl (by kernel_rfl) rfl fun g3 a w hA hI => ?_
            generalize hcs : ([[.int .u64 x1], av .u8 32 x2].flatten ++ ([]) : List Value) = cs4 at hE4 hI
            clear hcs
            refine o_nil <| ⟨(.inr (hI.sl [1, 3] rfl)), ?_⟩
            refine gF 3 rfl ?_
            obtain ⟨μ2, hle2, hsv2, hI, hth1⟩ := hI.freezeRowT 1 rfl
            have hS1 : Slc (RI .u8) 1 μ2 v2 (r1 ++ x3) := ⟨_, hE3, hsv2⟩
            have hE5 : Els (RIn μ2) 35 ([(⟨r2, r1 ++ x3, 4294967295⟩ : In)] : List In) _ := (Els.cons (c := [av .u8 32 r2.Tx, [.int .u32 r2.N], [v2], [.int .u32 4294967295]].flatten) ⟨v2, rfl, ⟨hz3.1, hz3.2, hS1, (in_lit .u32 4294967295 rfl)⟩⟩ rfl Els.nil)
            refine o_bsl ([av .u8 32 r2.Tx, [.int .u32 r2.N], [v2], [.int .u32 4294967295]].flatten ++ ([])) te42 zr42 Tryd.underlying29 hI hA rfl rfl rfl rfl (by kernel_rfl) rfl fun g4 a w hA hI => ?_
            generalize hcs : ([av .u8 32 r2.Tx, [.int .u32 r2.N], [v2], [.int .u32 4294967295]].flatten ++ ([]) : List Value) = cs5 at hE5 hI
            clear hcs
            refine o_nil <| ⟨(.inr ((hth1 _ _ hI).sl [0, 4] rfl)), ?_⟩
            refine gF 8 rfl ?_
            refine stp hA (r_bldS (cs := [[.int .u32 1], [(.slice (some ⟨g4, 0, none⟩) 1 1)], [(.slice (some ⟨g3, 0, none⟩) 1 1)], [.int .u32 0]].flatten.toArray) (pl := [(0, 1), (1, 1), (2, 1), (3, 1)]) zr32 Tryd.underlying32 ⟨rfl, sz24, rfl, sz29, rfl, sz30, rfl, sz24, trivial⟩ hA rfl ((fill_one rfl rfl (by kernel_rfl)).trans ((fill_one (own_cell hI (j := 0) rfl) rfl (by kernel_rfl)).trans ((fill_one (own_cell hI (j := 1) rfl) rfl (by kernel_rfl)).trans (by kernel_rfl))))) rfl fun a hA => ?_
            refine o_nil <| ⟨(.inr ((hth1 _ _ hI).sl [0, 4] rfl)), ?_⟩
            refine gF 9 rfl ?_
            refine o_st (j := 2) [] [[.int .u32 0], [(.slice none 0 0)], [(.slice none 0 0)], [.int .u32 0]] [[.int .u32 1], [(.slice (some ⟨g4, 0, none⟩) 1 1)], [(.slice (some ⟨g3, 0, none⟩) 1 1)], [.int .u32 0]] [] sz32 rfl rfl (fl_cons (one_one rfl) (fl_cons (one_one (own_one hI (j := 0) rfl)) (fl_cons (one_one (own_one hI (j := 1) rfl)) (fl_cons (one_one rfl) fl_nil)))) hI rfl hA rfl rfl rfl rfl fun w hI => ?_
            refine o_nil <| ⟨(.inr ((hth1 _ _ hI).sl [0, 4] rfl)), ?_⟩
            refine gN ?_
            cases sJ H
            exact ⟨μ2, v2, (.slice (some ⟨g4, 0, none⟩) 1 1), cs5, (.slice (some ⟨g3, 0, none⟩) 1 1), cs4, hle2, hS1, (in_lit .u32 1 rfl), hE5, hE4, hA.sub ⟨rfl, rfl, trivial⟩, hI⟩
        · skip
          have hE4 : Els (ROut μ) 33 ([(⟨x1, x2⟩ : Out)] : List Out) _ := (Els.cons (c := [[.int .u64 x1], av .u8 32 x2].flatten) ⟨rfl, ⟨hx1, hx2⟩⟩ rfl Els.nil)
          refine o_bsl ([[.int .u64 x1], av .u8 32 x2].flatten ++ ([])) te44 zr44 Tryd.underlying30 hI hA rfl rfl rfl rfl (by kernel_rfl) rfl fun g3 a w hA hI => ?_
          generalize hcs : ([[.int .u64 x1], av .u8 32 x2].flatten ++ ([]) : List Value) = cs4 at hE4 hI
          clear hcs
          refine o_nil <| ⟨(.inr (hI.sl [1, 3] rfl)), ?_⟩
          refine gF 2 rfl ?_
          refine stp hA (r_bldS (cs := [av .u8 32 r2.Tx, [.int .u32 r2.N], [v2], [.int .u32 4294967295]].flatten.toArray) (pl := [(0, 33), (33, 1), (34, 1)]) zr42 Tryd.underlying42 ⟨rfl, sz39, rfl, sz40, rfl, sz24, trivial⟩ hA rfl ((fill_seg [] [av .u8 32 (List.replicate 32 0), [.int .u32 0]] [av .u8 32 r2.Tx, [.int .u32 r2.N]] [[(.slice none 0 0)], [.int .u32 0]] rfl rfl rfl rfl rfl).trans ((fill_seg [av .u8 32 r2.Tx, [.int .u32 r2.N]] [[(.slice none 0 0)]] [[v2]] [[.int .u32 0]] (own_cell hI (j := 1) rfl) rfl rfl rfl rfl).trans ((fill_seg [av .u8 32 r2.Tx, [.int .u32 r2.N], [v2]] [[.int .u32 0]] [[.int .u32 4294967295]] [] rfl rfl rfl rfl rfl).trans (rfl))))) rfl fun a hA => ?_
          refine o_nil <| ⟨(.inr (hI.sl [1, 3] rfl)), ?_⟩
          refine gF 3 rfl ?_
          obtain ⟨μ2, hle2, hsv2, hI, hth1⟩ := hI.freezeRowT 1 rfl
          have hS1 : Slc (RI .u8) 1 μ2 v2 (r1 ++ x3) := ⟨_, hE3, hsv2⟩
          have hE5 : Els (RIn μ2) 35 ([(⟨r2, r1 ++ x3, 4294967295⟩ : In)] : List In) _ := (Els.cons (c := [av .u8 32 r2.Tx, [.int .u32 r2.N], [v2], [.int .u32 4294967295]].flatten) ⟨v2, rfl, ⟨hz3.1, hz3.2, hS1, (in_lit .u32 4294967295 rfl)⟩⟩ rfl Els.nil)
          refine o_bsl ([av .u8 32 r2.Tx, [.int .u32 r2.N], [v2], [.int .u32 4294967295]].flatten ++ ([])) te42 zr42 Tryd.underlying29 hI hA rfl rfl rfl rfl (by kernel_rfl) rfl fun g4 a w hA hI => ?_
          generalize hcs : ([av .u8 32 r2.Tx, [.int .u32 r2.N], [v2], [.int .u32 4294967295]].flatten ++ ([]) : List Value) = cs5 at hE5 hI
          clear hcs
          refine o_nil <| ⟨(.inr ((hth1 _ _ hI).sl [0, 4] rfl)), ?_⟩
          refine gF 8 rfl ?_
          refine stp hA (r_bldS (cs := [[.int .u32 1], [(.slice (some ⟨g4, 0, none⟩) 1 1)], [(.slice (some ⟨g3, 0, none⟩) 1 1)], [.int .u32 0]].flatten.toArray) (pl := [(0, 1), (1, 1), (2, 1), (3, 1)]) zr32 Tryd.underlying32 ⟨rfl, sz24, rfl, sz29, rfl, sz30, rfl, sz24, trivial⟩ hA rfl ((fill_one rfl rfl (by kernel_rfl)).trans ((fill_one (own_cell hI (j := 0) rfl) rfl (by kernel_rfl)).trans ((fill_one (own_cell hI (j := 1) rfl) rfl (by kernel_rfl)).trans (by kernel_rfl))))) rfl fun a hA => ?_
          refine o_nil <| ⟨(.inr ((hth1 _ _ hI).sl [0, 4] rfl)), ?_⟩
          refine gF 9 rfl ?_
          refine o_st (j := 2) [] [[.int .u32 0], [(.slice none 0 0)], [(.slice none 0 0)], [.int .u32 0]] [[.int .u32 1], [(.slice (some ⟨g4, 0, none⟩) 1 1)], [(.slice (some ⟨g3, 0, none⟩) 1 1)], [.int .u32 0]] [] sz32 rfl rfl (fl_cons (one_one rfl) (fl_cons (one_one (own_one hI (j := 0) rfl)) (fl_cons (one_one (own_one hI (j := 1) rfl)) (fl_cons (one_one rfl) fl_nil)))) hI rfl hA rfl rfl rfl rfl fun w hI => ?_
          refine o_nil <| ⟨(.inr ((hth1 _ _ hI).sl [0, 4] rfl)), ?_⟩
          refine gN ?_
          cases sJ H
          exact ⟨μ2, v2, (.slice (some ⟨g4, 0, none⟩) 1 1), cs5, (.slice (some ⟨g3, 0, none⟩) 1 1), cs4, hle2, hS1, (in_lit .u32 1 rfl), hE5, hE4, hA.sub ⟨rfl, rfl, trivial⟩, hI⟩
      · skip
        have hE4 : Els (ROut μ) 33 ([(⟨x1, x2⟩ : Out)] : List Out) _ := (Els.cons (c := [[.int .u64 x1], av .u8 32 x2].flatten) ⟨rfl, ⟨hx1, hx2⟩⟩ rfl Els.nil)
        refine o_bsl ([[.int .u64 x1], av .u8 32 x2].flatten ++ ([])) te44 zr44 Tryd.underlying30 hI hA rfl rfl rfl rfl (by kernel_rfl) rfl fun g3 a w hA hI => ?_
        generalize hcs : ([[.int .u64 x1], av .u8 32 x2].flatten ++ ([]) : List Value) = cs4 at hE4 hI
        clear hcs
        refine o_nil <| ⟨(.inr (hI.sl [1, 3] rfl)), ?_⟩
        refine gF 0 rfl ?_
        obtain ⟨r2, hr2, H⟩ := bB H
        refine o_callp (u := .agg [av .u8 32 r2.Tx, [.int .u32 r2.N]].flatten.toArray) cf37 hA rfl hI (sargassoref1_Null.c μ _ hI.agr  r2 hr2) rfl fun a w hz3 hI hA => ?_
        refine o_nil <| ⟨(.inr (hI.sl [1, 3] rfl)), ?_⟩
        refine gF 2 rfl ?_
        refine stp hA (r_bldS (cs := [av .u8 32 r2.Tx, [.int .u32 r2.N], [v2], [.int .u32 4294967295]].flatten.toArray) (pl := [(0, 33), (33, 1), (34, 1)]) zr42 Tryd.underlying42 ⟨rfl, sz39, rfl, sz40, rfl, sz24, trivial⟩ hA rfl ((fill_seg [] [av .u8 32 (List.replicate 32 0), [.int .u32 0]] [av .u8 32 r2.Tx, [.int .u32 r2.N]] [[(.slice none 0 0)], [.int .u32 0]] rfl rfl rfl rfl rfl).trans ((fill_seg [av .u8 32 r2.Tx, [.int .u32 r2.N]] [[(.slice none 0 0)]] [[v2]] [[.int .u32 0]] (own_cell hI (j := 1) rfl) rfl rfl rfl rfl).trans ((fill_seg [av .u8 32 r2.Tx, [.int .u32 r2.N], [v2]] [[.int .u32 0]] [[.int .u32 4294967295]] [] rfl rfl rfl rfl rfl).trans (rfl))))) rfl fun a hA => ?_
        refine o_nil <| ⟨(.inr (hI.sl [1, 3] rfl)), ?_⟩
        refine gF 3 rfl ?_
        obtain ⟨μ2, hle2, hsv2, hI, hth1⟩ := hI.freezeRowT 1 rfl
        have hS1 : Slc (RI .u8) 1 μ2 v2 (r1 ++ x3) := ⟨_, hE3, hsv2⟩
        have hE5 : Els (RIn μ2) 35 ([(⟨r2, r1 ++ x3, 4294967295⟩ : In)] : List In) _ := (Els.cons (c := [av .u8 32 r2.Tx, [.int .u32 r2.N], [v2], [.int .u32 4294967295]].flatten) ⟨v2, rfl, ⟨hz3.1, hz3.2, hS1, (in_lit .u32 4294967295 rfl)⟩⟩ rfl Els.nil)
        refine o_bsl ([av .u8 32 r2.Tx, [.int .u32 r2.N], [v2], [.int .u32 4294967295]].flatten ++ ([])) te42 zr42 Tryd.underlying29 hI hA rfl rfl rfl rfl (by kernel_rfl) rfl fun g4 a w hA hI => ?_
        generalize hcs : ([av .u8 32 r2.Tx, [.int .u32 r2.N], [v2], [.int .u32 4294967295]].flatten ++ ([]) : List Value) = cs5 at hE5 hI
        clear hcs
        refine o_nil <| ⟨(.inr ((hth1 _ _ hI).sl [0, 4] rfl)), ?_⟩
        refine gF 8 rfl ?_
        refine stp hA (r_bldS (cs := [[.int .u32 1], [(.slice (some ⟨g4, 0, none⟩) 1 1)], [(.slice (some ⟨g3, 0, none⟩) 1 1)], [.int .u32 0]].flatten.toArray) (pl := [(0, 1), (1, 1), (2, 1), (3, 1)]) zr32 Tryd.underlying32 ⟨rfl, sz24, rfl, sz29, rfl, sz30, rfl, sz24, trivial⟩ hA rfl ((fill_one rfl rfl (by kernel_rfl)).trans ((fill_one (own_cell hI (j := 0) rfl) rfl (by kernel_rfl)).trans ((fill_one (own_cell hI (j := 1) rfl) rfl (by kernel_rfl)).trans (by kernel_rfl))))) rfl fun a hA => ?_
        refine o_nil <| ⟨(.inr ((hth1 _ _ hI).sl [0, 4] rfl)), ?_⟩
        refine gF 9 rfl ?_
        refine o_st (j := 2) [] [[.int .u32 0], [(.slice none 0 0)], [(.slice none 0 0)], [.int .u32 0]] [[.int .u32 1], [(.slice (some ⟨g4, 0, none⟩) 1 1)], [(.slice (some ⟨g3, 0, none⟩) 1 1)], [.int .u32 0]] [] sz32 rfl rfl (fl_cons (one_one rfl) (fl_cons (one_one (own_one hI (j := 0) rfl)) (fl_cons (one_one (own_one hI (j := 1) rfl)) (fl_cons (one_one rfl) fl_nil)))) hI rfl hA rfl rfl rfl rfl fun w hI => ?_
        refine o_nil <| ⟨(.inr ((hth1 _ _ hI).sl [0, 4] rfl)), ?_⟩
        refine gN ?_
        cases sJ H
        exact ⟨μ2, v2, (.slice (some ⟨g4, 0, none⟩) 1 1), cs5, (.slice (some ⟨g3, 0, none⟩) 1 1), cs4, hle2, hS1, (in_lit .u32 1 rfl), hE5, hE4, hA.sub ⟨rfl, rfl, trivial⟩, hI⟩
  · rintro a w ⟨μ1, vvc1, vvc3, ccc3, vvc4, ccc4, hle1, wc1, wc2, wc3, wc4, hA, hI⟩
    have H := Hk1
    refine w_ret ?_
    obtain ⟨μ3, hle3, hsv3, hI⟩ := hI.freezeRow 0 rfl
    have hS2 : Slc (RIn μ3) 35 μ3 vvc3 c3 := ⟨_, (Els.mono wc3 (fun _ _ h => RIn.le hle3 h)), hsv3⟩
    obtain ⟨μ4, hle4, hsv4, hI⟩ := hI.freezeRow 0 rfl
    have hS3 : Slc (ROut μ4) 33 μ4 vvc4 c4 := ⟨_, wc4, hsv4⟩
    obtain rfl := sJ H
    exact retc Tryd.underlying32 rfl sz32 rfl hI (j := 0) rfl hA Tryd.results9 rfl ⟨_, rfl, vvc3, vvc4, μ4, rfl, ⟨wc2, (Slc.le hS2 (fun _ _ h => RIn.le hle4 h) hle4), hS3, (in_lit .u32 0 rfl)⟩, (hI.sl [] rfl)⟩
set_option maxRecDepth 20000 in
theorem sargassoref1_TxBytes.c (μ : Store) (w0 : World) (hμ : Agr μ w0) (x0 : Tx) (u0_0 : Value) (u0_1 : Value) (hx0 : TxW μ x0 u0_0 u0_1) (r : List Int) (H : sargassoref1_TxBytes.f x0 = some r) :
    Calls Tryd.prog 117 [.agg [[.int .u32 x0.Version], [u0_0], [u0_1], [.int .u32 x0.Time]].flatten.toArray].toArray w0 (fun e w' => ∃ v, e = .returned v ∧ ∃ (v0 : Value) (c0 : List Value), v = v0 ∧ Els (RI .u8) 1 r c0 ∧ Iv w0 [] μ μ [row 5 1 v0 r.length c0] w') := by
  refine enter Tryd.func117 rfl Tryd.ntmps117 rfl fun a hA => ?_
  have hI := Iv.start hμ
  have H := bI H
  refine w_seq fun _ hN1 => w_reg <| o_box [[.int .u32 x0.Version], [u0_0], [u0_1], [.int .u32 x0.Time]] hI hA rfl rfl rfl fun g1 a w hA hI hg1 => 
    sta hA rfl rfl fun a hA => ?_
  refine o_nil <| hN1 _ _ <| w_seq fun _ hN2 => ?_
  refine w_anyS [] mo (fun w (h : Iv w0 [] μ μ [cel g1 [[.int .u32 x0.Version], [u0_0], [u0_1], [.int .u32 x0.Time]] 32] w) => (h.sl [0] rfl : Iv w0 [] μ μ [cel g1 [[.int .u32 x0.Version], [u0_0], [u0_1], [.int .u32 x0.Time]] 32] w)) hI fun w hI => ?_
  refine gE 0 hA rfl (.inr hI) (fun _ => r_fd (k := 0) Tryd.underlying32 rfl sz24 hA rfl rfl) fun a hA => ?_
  refine gT 1 hA rfl hI (fun w hI => r_ld1 (j := 0) [] [[u0_0], [u0_1], [.int .u32 x0.Time]] Tryd.underlying24 rfl hI rfl hA rfl rfl) fun a hA => ?_
  refine gE 3 hA rfl (.inr hI) (fun _ => r_fd (k := 1) Tryd.underlying32 rfl sz29 hA rfl rfl) fun a hA => ?_
  refine gT 4 hA rfl hI (fun w hI => r_ld1 (j := 0) [[.int .u32 x0.Version]] [[u0_1], [.int .u32 x0.Time]] Tryd.underlying29 rfl hI rfl hA rfl rfl) fun a hA => ?_
  obtain ⟨_, hsl1⟩ := Slc.sv hx0.2.1
  refine gE 5 hA rfl (.inr hI) (fun _ => r_slen Tryd.underlying29 hsl1 hA rfl) fun a hA => ?_
  refine gE 6 hA rfl (.inr hI) (fun _ => r_conv Tryd.underlying3 Tryd.underlying34 hA rfl) fun a hA => ?_
  refine gF 2 rfl ?_
  have hI := hI.nilRow 5 1
  obtain ⟨r1, hr1, H⟩ := bB H
  refine o_call _ cf36 hA rfl (sargassoref1_Four.c μ _ hI.agr ([]) (.slice none 0 0) ([]) (Els.nil (RE := (RI .u8)) (sz := 1)) (hI.item (j := 0) rfl) x0.Version hx0.1 r1 hr1) rfl fun v1 a w hz1 hA => ?_
  obtain ⟨_, cs1, rfl, hE1, hi1⟩ := hz1
  have hI := hI.call1 0 rfl hi1
  refine o_nil <| ⟨(.inr (hI.sl [1] rfl)), ?_⟩
  refine gF 7 rfl ?_
  obtain ⟨r2, hr2, H⟩ := bB H
  refine o_call _ cf124 hA rfl (sargassoref1_Put.c μ _ hI.agr r1 v1 cs1 hE1 (hI.item (j := 0) rfl) (IntKind.u64.wrap (x0.Ins.length : Int)) (wrap_in _ _) r2 hr2) rfl fun v2 a w hz2 hA => ?_
  obtain ⟨_, cs2, rfl, hE2, hi2⟩ := hz2
  have hI := hI.call1 0 rfl hi2
  refine o_nil <| ⟨(.inr (hI.sl [1] rfl)), ?_⟩
  refine gE 8 hA rfl (.inr (hI.sl [1] rfl)) (fun _ => r_as hA rfl) fun a hA => ?_
  refine gN <| hN2 _ _ ?_
  obtain ⟨c1, hz3, Hk1⟩ := bB H
  refine w_cut (fun a w => ∃ (vvc1 : Value) (ccc1 : List Value), Els (RI .u8) 1 c1 ccc1 ∧ Fr a 81 [(1, .pointer (some ⟨g1, 0, none⟩)), (2, (.slice none 0 0)), (3, vvc1)] ∧ Iv w0 [] μ μ [row 5 1 vvc1 c1.length ccc1, cel g1 [[.int .u32 x0.Version], [u0_0], [u0_1], [.int .u32 x0.Time]] 32] w) ?_ ?_
  · have H := bI hz3
    refine w_seq fun _ hN3 => w_reg <| sta hA rfl rfl fun a hA => ?_
    refine o_nil <| hN3 _ _ <| w_block ?_
    obtain ⟨z1, hz4, Hk2⟩ := bind_some H
    obtain ⟨n1, hn1⟩ := loopO_some hz4
    refine w_loop (fun n a w => ∃ (s1 : List Int) (s2 : Int) (vvs1 : Value) (ccs1 : List Value), loopN (sargassoref1_TxBytes.s0 x0) n (s1, s2) = some z1 ∧ Els (RI .u8) 1 s1 ccs1 ∧ InR .i64 s2 ∧ Fr a 81 [(1, .pointer (some ⟨g1, 0, none⟩)), (2, (.slice none 0 0)), (3, vvs1), (4, .int .i64 s2)] ∧ Iv w0 [] μ μ [row 5 1 vvs1 s1.length ccs1, cel g1 [[.int .u32 x0.Version], [u0_0], [u0_1], [.int .u32 x0.Time]] 32] w) n1 ⟨r2, 0, v2, cs2, hn1, hE2, (in_lit .i64 0 rfl), hA.sub ⟨rfl, rfl, rfl, rfl, trivial⟩, hI⟩ ?_
    clear hA hI
    rintro n a w ⟨s1, s2, vvs1, ccs1, hn1, ws1, ws2, hA, hI⟩
    obtain ⟨m1, rfl, H⟩ := loopN_bind hn1
    clear hn1
    refine w_seq fun _ hN4 => w_seq fun _ hN5 => w_reg <| stm hA rfl rfl fun a hA => 
      stp hA (r_fd (k := 1) Tryd.underlying32 rfl sz29 hA rfl rfl) rfl fun a hA => 
      stp hA (r_ld1 (j := 1) [[.int .u32 x0.Version]] [[u0_1], [.int .u32 x0.Time]] Tryd.underlying29 rfl hI rfl hA rfl rfl) rfl fun a hA => ?_
    obtain ⟨_, hsl2⟩ := Slc.sv hx0.2.1
    refine stp hA (r_slen Tryd.underlying29 hsl2 hA rfl) rfl fun a hA => 
      stp hA (r_lss hA rfl rfl) rfl fun a hA => ?_
    refine o_nil <| hN5 _ _ <| w_cond hA rfl (fun hc1 => ?_) (fun hc1 => ?_)
    · obtain ⟨hc1, H⟩ := dT H hc1
      refine w_skip <| hN4 _ _ <| w_seq fun _ hN6 => w_block <| w_seq fun _ hN7 => w_reg <| stp hA (r_fd (k := 1) Tryd.underlying32 rfl sz29 hA rfl rfl) rfl fun a hA => 
        stp hA (r_ld1 (j := 1) [[.int .u32 x0.Version]] [[u0_1], [.int .u32 x0.Time]] Tryd.underlying29 rfl hI rfl hA rfl rfl) rfl fun a hA => 
        stm hA rfl rfl fun a hA => ?_
      obtain ⟨hb1, H⟩ := bG H
      obtain ⟨_, he1, _, hat1⟩ := Slc.elem hx0.2.1 (getD_some default hb1.1 hb1.2)
      obtain ⟨v3, rfl, hw1⟩ := he1
      obtain ⟨_, hsl3⟩ := Slc.sv hx0.2.1
      refine stp hA (r_six Tryd.underlying29 sz42 hsl3 hA rfl rfl hb1.1 hb1.2) rfl fun a hA => 
        stp hA (r_ldmA [] [av .u8 32 ((x0.Ins.getD s2.toNat default).From.Tx), [.int .u32 ((x0.Ins.getD s2.toNat default).From.N)], [v3], [.int .u32 ((x0.Ins.getD s2.toNat default).Seq)]] [] Tryd.underlying42 rfl sz42 rfl hI.agr hat1 hA rfl rfl) rfl fun a hA => 
        o_new [av .u8 32 (List.replicate 32 0), [.int .u32 0], [(.slice none 0 0)], [.int .u32 0]] zr42 hI hA rfl fun g2 a w hA hI hg2 => ?_
      obtain ⟨_, hsl4⟩ := Slc.sv hw1.2.2.1
      refine o_st (j := 0) [] [av .u8 32 (List.replicate 32 0), [.int .u32 0], [(.slice none 0 0)], [.int .u32 0]] [av .u8 32 ((x0.Ins.getD s2.toNat default).From.Tx), [.int .u32 ((x0.Ins.getD s2.toNat default).From.N)], [v3], [.int .u32 ((x0.Ins.getD s2.toNat default).Seq)]] [] sz42 rfl rfl (fl_cons (one_av _ _ _) (fl_cons (one_one rfl) (fl_cons (one_one (one_sl hsl4)) (fl_cons (one_one rfl) fl_nil)))) hI rfl hA rfl rfl rfl rfl fun w hI => ?_
      refine o_nil <| hN7 _ _ <| w_seq fun _ hN8 => w_reg <| stm hA rfl rfl fun a hA => 
        stp hA (r_fd (k := 0) Tryd.underlying42 rfl sz39 hA rfl rfl) rfl fun a hA => 
        stp hA (r_fd (k := 0) Tryd.underlying39 rfl sz26 hA rfl rfl) rfl fun a hA => 
        stp hA (r_slv (i := 0) (j := 32) Tryd.underlying26 sz5 hA rfl rfl rfl (by decide) (by decide) (by decide) (by decide) rfl) rfl fun a hA => ?_
      have hE3 := els_av hw1.1
      obtain ⟨hb2, H⟩ := bG H
      have hE4 := ws1.app hE3
      refine o_appG (xs := (s1 : List Int)) (ys := ((x0.Ins.getD s2.toNat default).From.Tx : List Int)) (M := 140737488355328) 1 te5 Tryd.underlying40 hI rfl hA rfl rfl (by simpa using src_cel [] [[.int .u32 ((x0.Ins.getD s2.toNat default).From.N)], [v3], [.int .u32 ((x0.Ins.getD s2.toNat default).Seq)]] hI (j := 0) rfl hw1.1 rfl) hE3.len (hE3.ones (one_RI _)) hb2 rfl fun v4 a w hA hI => 
        sta hA rfl rfl fun a hA => ?_
      refine o_nil <| hN8 _ _ <| w_seq fun _ hN9 => ?_
      refine w_anyS [] mo (fun w (h : Iv w0 [] μ μ [cel g2 [av .u8 32 ((x0.Ins.getD s2.toNat default).From.Tx), [.int .u32 ((x0.Ins.getD s2.toNat default).From.N)], [v3], [.int .u32 ((x0.Ins.getD s2.toNat default).Seq)]] 42, row 5 1 v4 (s1 ++ ((x0.Ins.getD s2.toNat default).From.Tx)).length (ccs1 ++ ([av .u8 32 ((x0.Ins.getD s2.toNat default).From.Tx)].flatten)), cel g1 [[.int .u32 x0.Version], [u0_0], [u0_1], [.int .u32 x0.Time]] 32] w) => (h.sl [0, 2] rfl : Iv w0 [] μ μ [cel g2 [av .u8 32 ((x0.Ins.getD s2.toNat default).From.Tx), [.int .u32 ((x0.Ins.getD s2.toNat default).From.N)], [v3], [.int .u32 ((x0.Ins.getD s2.toNat default).Seq)]] 42, cel g1 [[.int .u32 x0.Version], [u0_0], [u0_1], [.int .u32 x0.Time]] 32] w)) hI fun w hI => ?_
      refine gE 0 hA rfl (.inr (hI.sl [0, 2] rfl)) (fun _ => r_mv hA rfl) fun a hA => ?_
      refine gE 1 hA rfl (.inr (hI.sl [0, 2] rfl)) (fun _ => r_fd (k := 0) Tryd.underlying42 rfl sz39 hA rfl rfl) fun a hA => ?_
      refine gE 2 hA rfl (.inr (hI.sl [0, 2] rfl)) (fun _ => r_fd (k := 32) Tryd.underlying39 rfl sz24 hA rfl rfl) fun a hA => ?_
      refine gT 3 hA rfl (hI.sl [0, 2] rfl) (fun w hI => r_ld1 (j := 0) [av .u8 32 ((x0.Ins.getD s2.toNat default).From.Tx)] [[v3], [.int .u32 ((x0.Ins.getD s2.toNat default).Seq)]] Tryd.underlying24 rfl hI rfl hA rfl rfl) fun a hA => ?_
      refine gE 5 hA rfl (.inr (hI.sl [0, 2] rfl)) (fun _ => r_fd (k := 33) Tryd.underlying42 rfl sz40 hA rfl rfl) fun a hA => ?_
      refine gT 6 hA rfl (hI.sl [0, 2] rfl) (fun w hI => r_ld1 (j := 0) [av .u8 32 ((x0.Ins.getD s2.toNat default).From.Tx), [.int .u32 ((x0.Ins.getD s2.toNat default).From.N)]] [[.int .u32 ((x0.Ins.getD s2.toNat default).Seq)]] Tryd.underlying40 rfl hI rfl hA rfl rfl) fun a hA => ?_
      obtain ⟨_, hsl5⟩ := Slc.sv hw1.2.2.1
      refine gE 7 hA rfl (.inr (hI.sl [0, 2] rfl)) (fun _ => r_slen Tryd.underlying40 hsl5 hA rfl) fun a hA => ?_
      refine gE 8 hA rfl (.inr (hI.sl [0, 2] rfl)) (fun _ => r_conv Tryd.underlying3 Tryd.underlying34 hA rfl) fun a hA => ?_
      refine gF 4 rfl ?_
      obtain ⟨r3, hr3, H⟩ := bB H
      refine o_call _ cf36 hA rfl (sargassoref1_Four.c μ _ hI.agr (s1 ++ ((x0.Ins.getD s2.toNat default).From.Tx)) v4 (ccs1 ++ ([av .u8 32 ((x0.Ins.getD s2.toNat default).From.Tx)].flatten)) hE4 (hI.item (j := 1) rfl) ((x0.Ins.getD s2.toNat default).From.N) hw1.2.1 r3 hr3) rfl fun v5 a w hz5 hA => ?_
      obtain ⟨_, cs5, rfl, hE5, hi3⟩ := hz5
      have hI := hI.call1 1 rfl hi3
      refine o_nil <| ⟨(.inr (hI.sl [1, 2] rfl)), ?_⟩
      refine gF 9 rfl ?_
      obtain ⟨r4, hr4, H⟩ := bB H
      refine o_call _ cf124 hA rfl (sargassoref1_Put.c μ _ hI.agr r3 v5 cs5 hE5 (hI.item (j := 0) rfl) (IntKind.u64.wrap (((x0.Ins.getD s2.toNat default).Key).length : Int)) (wrap_in _ _) r4 hr4) rfl fun v6 a w hz6 hA => ?_
      obtain ⟨_, cs6, rfl, hE6, hi4⟩ := hz6
      have hI := hI.call1 0 rfl hi4
      refine o_nil <| ⟨(.inr (hI.sl [1, 2] rfl)), ?_⟩
      refine gE 10 hA rfl (.inr (hI.sl [1, 2] rfl)) (fun _ => r_as hA rfl) fun a hA => ?_
      refine gN <| hN9 _ _ ?_
      refine w_anyS [] mo (fun w (h : Iv w0 [] μ μ [row 5 1 v6 r4.length cs6, cel g2 [av .u8 32 ((x0.Ins.getD s2.toNat default).From.Tx), [.int .u32 ((x0.Ins.getD s2.toNat default).From.N)], [v3], [.int .u32 ((x0.Ins.getD s2.toNat default).Seq)]] 42, cel g1 [[.int .u32 x0.Version], [u0_0], [u0_1], [.int .u32 x0.Time]] 32] w) => (h.sl [1, 2] rfl : Iv w0 [] μ μ [cel g2 [av .u8 32 ((x0.Ins.getD s2.toNat default).From.Tx), [.int .u32 ((x0.Ins.getD s2.toNat default).From.N)], [v3], [.int .u32 ((x0.Ins.getD s2.toNat default).Seq)]] 42, cel g1 [[.int .u32 x0.Version], [u0_0], [u0_1], [.int .u32 x0.Time]] 32] w)) hI fun w hI => ?_
      refine gE 0 hA rfl (.inr (hI.sl [1, 2] rfl)) (fun _ => r_mv hA rfl) fun a hA => ?_
      refine gE 1 hA rfl (.inr (hI.sl [1, 2] rfl)) (fun _ => r_fd (k := 33) Tryd.underlying42 rfl sz40 hA rfl rfl) fun a hA => ?_
      refine gT 2 hA rfl (hI.sl [1, 2] rfl) (fun w hI => r_ld1 (j := 0) [av .u8 32 ((x0.Ins.getD s2.toNat default).From.Tx), [.int .u32 ((x0.Ins.getD s2.toNat default).From.N)]] [[.int .u32 ((x0.Ins.getD s2.toNat default).Seq)]] Tryd.underlying40 rfl hI rfl hA rfl rfl) fun a hA => ?_
      refine gE 4 hA rfl (.inr (hI.sl [1, 2] rfl)) (fun _ => r_fd (k := 34) Tryd.underlying42 rfl sz24 hA rfl rfl) fun a hA => ?_
      refine gT 5 hA rfl (hI.sl [1, 2] rfl) (fun w hI => r_ld1 (j := 0) [av .u8 32 ((x0.Ins.getD s2.toNat default).From.Tx), [.int .u32 ((x0.Ins.getD s2.toNat default).From.N)], [v3]] [] Tryd.underlying24 rfl hI rfl hA rfl rfl) fun a hA => ?_
      refine gF 3 rfl ?_
      obtain ⟨cs7, hE7, hsv2⟩ : Slc (RI .u8) 1 μ v3 ((x0.Ins.getD s2.toNat default).Key) := id (hw1.2.2.1)
      obtain ⟨hb3, H⟩ := bG H
      have hE8 := hE6.app hE7
      refine o_appG (xs := (r4 : List Int)) (ys := ((x0.Ins.getD s2.toNat default).Key : List Int)) (M := 140737488355328) 0 te5 Tryd.underlying40 hI rfl hA rfl rfl (src_sl hI.agr hsv2 hE7.len) hE7.len (hE7.ones (one_RI _)) hb3 rfl fun v7 a w hA hI => ?_
      refine o_nil <| ⟨(.inr (hI.sl [1, 2] rfl)), ?_⟩
      refine gF 6 rfl ?_
      obtain ⟨r5, hr5, H⟩ := bB H
      refine o_call _ cf36 hA rfl (sargassoref1_Four.c μ _ hI.agr (r4 ++ ((x0.Ins.getD s2.toNat default).Key)) v7 (cs6 ++ cs7) hE8 (hI.item (j := 0) rfl) ((x0.Ins.getD s2.toNat default).Seq) hw1.2.2.2 r5 hr5) rfl fun v8 a w hz7 hA => ?_
      obtain ⟨_, cs9, rfl, hE9, hi5⟩ := hz7
      have hI := hI.call1 0 rfl hi5
      refine o_nil <| ⟨(.inr (hI.sl [1, 2] rfl)), ?_⟩
      refine gE 7 hA rfl (.inr (hI.sl [1, 2] rfl)) (fun _ => r_as hA rfl) fun a hA => ?_
      refine gN <| hN6 _ _ <| w_reg <| stm hA rfl rfl fun a hA => 
        stp hA (r_add hA rfl rfl) rfl fun a hA => 
        sta hA rfl rfl fun a hA => ?_
      refine o_nil <| ⟨m1, Nat.lt_succ_self _, r5, IntKind.i64.wrap (s2 + 1), v8, cs9, H, hE9, (wrap_in _ _), hA.sub ⟨rfl, rfl, rfl, rfl, trivial⟩, (hI.sl [0, 2] rfl)⟩
    · obtain ⟨hc1, H⟩ := dF H hc1
      refine w_exit rfl ?_
      have H : some s1 = some z1 := H
      obtain rfl := sI H
      have H := Hk2
      cases sJ H
      exact ⟨vvs1, ccs1, ws1, hA.sub ⟨rfl, rfl, rfl, trivial⟩, hI⟩
  · rintro a w ⟨vvc1, ccc1, wc1, hA, hI⟩
    have H := Hk1
    refine w_seq fun _ hN10 => w_reg <| stm hA rfl rfl fun a hA => 
      stp hA (r_fd (k := 2) Tryd.underlying32 rfl sz30 hA rfl rfl) rfl fun a hA => 
      stp hA (r_ld1 (j := 1) [[.int .u32 x0.Version], [u0_0]] [[.int .u32 x0.Time]] Tryd.underlying30 rfl hI rfl hA rfl rfl) rfl fun a hA => ?_
    obtain ⟨_, hsl6⟩ := Slc.sv hx0.2.2.1
    refine stp hA (r_slen Tryd.underlying30 hsl6 hA rfl) rfl fun a hA => 
      stp hA (r_conv Tryd.underlying3 Tryd.underlying34 hA rfl) rfl fun a hA => ?_
    obtain ⟨r6, hr6, H⟩ := bB H
    refine o_call _ cf124 hA rfl (sargassoref1_Put.c μ _ hI.agr c1 vvc1 ccc1 wc1 (hI.item (j := 0) rfl) (IntKind.u64.wrap (x0.Outs.length : Int)) (wrap_in _ _) r6 hr6) rfl fun v9 a w hz8 hA => ?_
    obtain ⟨_, cs10, rfl, hE10, hi6⟩ := hz8
    have hI := hI.call1 0 rfl hi6
    refine sta hA rfl rfl fun a hA => ?_
    refine o_nil <| hN10 _ _ ?_
    obtain ⟨c2, hz9, Hk3⟩ := bB H
    refine w_cut (fun a w => ∃ (vvc2 : Value) (ccc2 : List Value), Els (RI .u8) 1 c2 ccc2 ∧ Fr a 81 [(1, .pointer (some ⟨g1, 0, none⟩)), (2, (.slice none 0 0)), (3, vvc2)] ∧ Iv w0 [] μ μ [row 5 1 vvc2 c2.length ccc2, cel g1 [[.int .u32 x0.Version], [u0_0], [u0_1], [.int .u32 x0.Time]] 32] w) ?_ ?_
    · have H := bI hz9
      refine w_seq fun _ hN11 => w_reg <| sta hA rfl rfl fun a hA => ?_
      refine o_nil <| hN11 _ _ <| w_block ?_
      obtain ⟨z2, hz10, Hk4⟩ := bind_some H
      obtain ⟨n2, hn2⟩ := loopO_some hz10
      refine w_loop (fun n a w => ∃ (s3 : List Int) (s4 : Int) (vvs3 : Value) (ccs3 : List Value), loopN (sargassoref1_TxBytes.s1 x0) n (s3, s4) = some z2 ∧ Els (RI .u8) 1 s3 ccs3 ∧ InR .i64 s4 ∧ Fr a 81 [(1, .pointer (some ⟨g1, 0, none⟩)), (2, (.slice none 0 0)), (3, vvs3), (6, .int .i64 s4)] ∧ Iv w0 [] μ μ [row 5 1 vvs3 s3.length ccs3, cel g1 [[.int .u32 x0.Version], [u0_0], [u0_1], [.int .u32 x0.Time]] 32] w) n2 ⟨r6, 0, v9, cs10, hn2, hE10, (in_lit .i64 0 rfl), hA.sub ⟨rfl, rfl, rfl, rfl, trivial⟩, hI⟩ ?_
      clear hA hI
      rintro n a w ⟨s3, s4, vvs3, ccs3, hn2, ws3, ws4, hA, hI⟩
      obtain ⟨m2, rfl, H⟩ := loopN_bind hn2
      clear hn2
      refine w_seq fun _ hN12 => w_seq fun _ hN13 => w_reg <| stm hA rfl rfl fun a hA => 
        stp hA (r_fd (k := 2) Tryd.underlying32 rfl sz30 hA rfl rfl) rfl fun a hA => 
        stp hA (r_ld1 (j := 1) [[.int .u32 x0.Version], [u0_0]] [[.int .u32 x0.Time]] Tryd.underlying30 rfl hI rfl hA rfl rfl) rfl fun a hA => ?_
      obtain ⟨_, hsl7⟩ := Slc.sv hx0.2.2.1
      refine stp hA (r_slen Tryd.underlying30 hsl7 hA rfl) rfl fun a hA => 
        stp hA (r_lss hA rfl rfl) rfl fun a hA => ?_
      refine o_nil <| hN13 _ _ <| w_cond hA rfl (fun hc2 => ?_) (fun hc2 => ?_)
      · obtain ⟨hc2, H⟩ := dT H hc2
        refine w_skip <| hN12 _ _ <| w_seq fun _ hN14 => w_block ?_
        refine w_anyS [] mo (fun w (h : Iv w0 [] μ μ [row 5 1 vvs3 s3.length ccs3, cel g1 [[.int .u32 x0.Version], [u0_0], [u0_1], [.int .u32 x0.Time]] 32] w) => (h.sl [1] rfl : Iv w0 [] μ μ [cel g1 [[.int .u32 x0.Version], [u0_0], [u0_1], [.int .u32 x0.Time]] 32] w)) hI fun w hI => ?_
        refine gE 0 hA rfl (.inr (hI.sl [1] rfl)) (fun _ => r_mv hA rfl) fun a hA => ?_
        refine gE 1 hA rfl (.inr (hI.sl [1] rfl)) (fun _ => r_fd (k := 2) Tryd.underlying32 rfl sz30 hA rfl rfl) fun a hA => ?_
        refine gT 2 hA rfl (hI.sl [1] rfl) (fun w hI => r_ld1 (j := 0) [[.int .u32 x0.Version], [u0_0]] [[.int .u32 x0.Time]] Tryd.underlying30 rfl hI rfl hA rfl rfl) fun a hA => ?_
        refine gE 3 hA rfl (.inr (hI.sl [1] rfl)) (fun _ => r_mv hA rfl) fun a hA => ?_
        obtain ⟨hb4, H⟩ := bG H
        obtain ⟨_, he2, _, hat2⟩ := Slc.elem hx0.2.2.1 (getD_some default hb4.1 hb4.2)
        obtain ⟨rfl, hw2⟩ := he2
        obtain ⟨_, hsl8⟩ := Slc.sv hx0.2.2.1
        refine gE 4 hA rfl (.inr (hI.sl [1] rfl)) (fun _ => r_six Tryd.underlying30 sz44 hsl8 hA rfl rfl hb4.1 hb4.2) fun a hA => ?_
        refine gE 5 hA rfl (.inr (hI.sl [1] rfl)) (fun _ => r_fd (k := so u0_1 + s4.toNat * 33) Tryd.underlying44 rfl sz34 hA rfl rfl) fun a hA => ?_
        refine gT 6 hA rfl (hI.sl [1] rfl) (fun w hI => r_ldm1 [] [av .u8 32 ((x0.Outs.getD s4.toNat default).Lock)] Tryd.underlying34 rfl hI.agr hat2 hA rfl rfl) fun a hA => ?_
        refine gE 8 hA rfl (.inr (hI.sl [1] rfl)) (fun _ => r_fd (k := 2) Tryd.underlying32 rfl sz30 hA rfl rfl) fun a hA => ?_
        refine gT 9 hA rfl (hI.sl [1] rfl) (fun w hI => r_ld1 (j := 0) [[.int .u32 x0.Version], [u0_0]] [[.int .u32 x0.Time]] Tryd.underlying30 rfl hI rfl hA rfl rfl) fun a hA => ?_
        refine gE 10 hA rfl (.inr (hI.sl [1] rfl)) (fun _ => r_mv hA rfl) fun a hA => ?_
        refine gE 11 hA rfl (.inr (hI.sl [1] rfl)) (fun _ => r_six Tryd.underlying30 sz44 hsl8 hA rfl rfl hb4.1 hb4.2) fun a hA => ?_
        refine gE 12 hA rfl (.inr (hI.sl [1] rfl)) (fun _ => r_fd (k := so u0_1 + s4.toNat * 33 + 1) Tryd.underlying44 rfl sz26 hA rfl rfl) fun a hA => ?_
        obtain ⟨v10, hS1, hr7⟩ := r_sla (b := 0) (P := Tryd.prog) (t := 26) (x := .tmp 74) (l := none) (h := none) (i := 0) (j := 32) Tryd.underlying26 sz5 (at_in [[.int .u64 ((x0.Outs.getD s4.toNat default).Value)]] [av .u8 32 ((x0.Outs.getD s4.toNat default).Lock)] [] hat2 rfl) hw2.2 (by decide) hA rfl rfl rfl (by omega) (by omega) (by omega)
        refine gE 13 hA rfl (.inr (hI.sl [1] rfl)) (fun _ => hr7 _ _ _ _ _ _) fun a hA => ?_
        refine gF 7 rfl ?_
        obtain ⟨r7, hr8, H⟩ := bB H
        refine o_call _ cf125 hA rfl (sargassoref1_Eight.c μ _ hI.agr s3 vvs3 ccs3 ws3 (hI.item (j := 0) rfl) ((x0.Outs.getD s4.toNat default).Value) hw2.1 r7 hr8) rfl fun v11 a w hz11 hA => ?_
        obtain ⟨_, cs11, rfl, hE11, hi7⟩ := hz11
        have hI := hI.call1 0 rfl hi7
        refine o_nil <| ⟨(.inr (hI.sl [1] rfl)), ?_⟩
        refine gF 14 rfl ?_
        obtain ⟨cs12, hE12, hsv3⟩ : Slc (RI .u8) 1 μ v10 ((((x0.Outs.getD s4.toNat default).Lock).take (32 : Int).toNat).drop (0 : Int).toNat) := id (hS1)
        obtain ⟨hb5, H⟩ := bG H
        have hE13 := hE11.app hE12
        refine o_appG (xs := (r7 : List Int)) (ys := ((((x0.Outs.getD s4.toNat default).Lock).take (32 : Int).toNat).drop (0 : Int).toNat : List Int)) (M := 140737488355328) 0 te5 Tryd.underlying40 hI rfl hA rfl rfl (src_sl hI.agr hsv3 hE12.len) hE12.len (hE12.ones (one_RI _)) hb5 rfl fun v12 a w hA hI => ?_
        refine o_nil <| ⟨(.inr (hI.sl [1] rfl)), ?_⟩
        refine gE 15 hA rfl (.inr (hI.sl [1] rfl)) (fun _ => r_as hA rfl) fun a hA => ?_
        refine gN <| hN14 _ _ <| w_reg <| stm hA rfl rfl fun a hA => 
          stp hA (r_add hA rfl rfl) rfl fun a hA => 
          sta hA rfl rfl fun a hA => ?_
        refine o_nil <| ⟨m2, Nat.lt_succ_self _, r7 ++ ((((x0.Outs.getD s4.toNat default).Lock).take (32 : Int).toNat).drop (0 : Int).toNat), IntKind.i64.wrap (s4 + 1), v12, cs11 ++ cs12, H, hE13, (wrap_in _ _), hA.sub ⟨rfl, rfl, rfl, rfl, trivial⟩, hI⟩
      · obtain ⟨hc2, H⟩ := dF H hc2
        refine w_exit rfl ?_
        have H : some s3 = some z2 := H
        obtain rfl := sI H
        have H := Hk4
        cases sJ H
        exact ⟨vvs3, ccs3, ws3, hA.sub ⟨rfl, rfl, rfl, trivial⟩, hI⟩
    · rintro a w ⟨vvc2, ccc2, wc2, hA, hI⟩
      have H := Hk3
      refine w_seq fun _ hN15 => w_reg <| stm hA rfl rfl fun a hA => 
        stp hA (r_fd (k := 3) Tryd.underlying32 rfl sz24 hA rfl rfl) rfl fun a hA => 
        stp hA (r_ld1 (j := 1) [[.int .u32 x0.Version], [u0_0], [u0_1]] [] Tryd.underlying24 rfl hI rfl hA rfl rfl) rfl fun a hA => ?_
      obtain ⟨r8, hr9, H⟩ := bB H
      refine o_call _ cf36 hA rfl (sargassoref1_Four.c μ _ hI.agr c2 vvc2 ccc2 wc2 (hI.item (j := 0) rfl) x0.Time hx0.2.2.2 r8 hr9) rfl fun v13 a w hz12 hA => ?_
      obtain ⟨_, cs14, rfl, hE14, hi8⟩ := hz12
      have hI := hI.call1 0 rfl hi8
      refine sta hA rfl rfl fun a hA => ?_
      refine o_nil <| hN15 _ _ <| w_ret ?_
      obtain rfl := sJ H
      exact ret1 hA Tryd.results117 rfl ⟨_, rfl, v13, cs14, rfl, hE14, ((hI.sl [0] rfl).less (Store.le.refl _) hI.le)⟩
set_option maxRecDepth 20000 in
theorem sargassoref1_ID.c (μ : Store) (w0 : World) (hμ : Agr μ w0) (x0 : Tx) (u0_0 : Value) (u0_1 : Value) (hx0 : TxW μ x0 u0_0 u0_1) (r : List Int) (H : sargassoref1_ID.f x0 = some r) :
    Calls Tryd.prog 100 [.agg [[.int .u32 x0.Version], [u0_0], [u0_1], [.int .u32 x0.Time]].flatten.toArray].toArray w0 (fun e w' => ∃ v, e = .returned v ∧ v = .agg [av .u8 32 r].flatten.toArray ∧ Arr .u8 32 r ∧ Iv w0 [] μ μ [] w') := by
  refine enter Tryd.func100 rfl Tryd.ntmps100 rfl fun a hA => ?_
  have hI := Iv.start hμ
  have H := bI H
  refine w_seq fun _ hN1 => w_reg <| o_box [[.int .u32 x0.Version], [u0_0], [u0_1], [.int .u32 x0.Time]] hI hA rfl rfl rfl fun g1 a w hA hI hg1 => 
    o_new [av .u8 32 (List.replicate 32 0)] zr26 hI hA rfl fun g2 a w hA hI hg2 => ?_
  refine o_nil <| hN1 _ _ <| w_seq fun _ hN2 => w_reg <| stp hA (r_ldA (j := 1) [] [[.int .u32 x0.Version], [u0_0], [u0_1], [.int .u32 x0.Time]] [] Tryd.underlying32 rfl sz32 rfl hI rfl hA rfl rfl) rfl fun a hA => ?_
  obtain ⟨r1, hr1, H⟩ := bB H
  refine o_call _ cf117 hA rfl (sargassoref1_TxBytes.c μ _ hI.agr x0 u0_0 u0_1 ⟨hx0.1, hx0.2.1, hx0.2.2.1, hx0.2.2.2⟩ r1 hr1) rfl fun v1 a w hz1 hA => ?_
  obtain ⟨_, cs1, rfl, hE1, hi1⟩ := hz1
  have hI := hI.call hi1
  obtain ⟨r2, hr2, H⟩ := bB H
  refine o_callp (u := .agg [av .u8 32 r2].flatten.toArray) cf50 hA rfl hI ((by obtain ⟨μ1, hle1, hsv1, hI⟩ := hI.freezeRow 0 rfl; have hS1 : Slc (RI .u8) 1 μ1 v1 r1 := ⟨_, hE1, hsv1⟩; exact low_plain hle1 (sargassoref1_Twice.c μ1 _ hI.agr r1 v1 hS1 r2 hr2))) rfl fun a w hz2 hI hA => 
    o_st (j := 1) [] [av .u8 32 (List.replicate 32 0)] [av .u8 32 r2] [] sz26 rfl rfl (fl_cons (one_av _ _ _) fl_nil) hI rfl hA rfl rfl rfl rfl fun w hI => ?_
  refine o_nil <| hN2 _ _ <| w_ret ?_
  obtain rfl := sJ H
  exact retc Tryd.underlying26 rfl sz26 rfl hI (j := 1) rfl hA Tryd.results100 rfl ⟨_, rfl, rfl, hz2, hI.forget0⟩
set_option maxRecDepth 20000 in
theorem sargassoref1_IDs.c (μ : Store) (w0 : World) (hμ : Agr μ w0) (x0 : List Tx) (u0 : Value) (hx0 : Slc (RTx μ) 4 μ u0 x0) (r : List (List Int)) (H : sargassoref1_IDs.f x0 = some r) :
    Calls Tryd.prog 73 [u0].toArray w0 (fun e w' => ∃ v, e = .returned v ∧ ∃ (v0 : Value) (c0 : List Value), v = v0 ∧ Els (RA .u8 32) 32 r c0 ∧ Iv w0 [] μ μ [row 26 32 v0 r.length c0] w') := by
  refine enter Tryd.func73 rfl Tryd.ntmps73 rfl fun a hA => ?_
  have hI := Iv.start hμ
  have H := bI H
  refine w_seq fun _ hN1 => w_reg <| sta hA rfl rfl fun a hA => ?_
  refine o_nil <| hN1 _ _ <| w_seq fun _ hN2 => w_reg <| sta hA rfl rfl fun a hA => ?_
  refine o_nil <| hN2 _ _ ?_
  obtain ⟨c1, hz1, Hk1⟩ := bB H
  refine w_cut (fun a w => ∃ (vvc1 : Value) (ccc1 : List Value), Els (RA .u8 32) 32 c1 ccc1 ∧ Fr a 20 [(2, (.slice none 0 0)), (3, vvc1)] ∧ Iv w0 [] μ μ [row 26 32 vvc1 c1.length ccc1] w) ?_ ?_
  · have H := bI hz1
    refine w_seq fun _ hN3 => w_reg <| sta hA rfl rfl fun a hA => ?_
    refine o_nil <| hN3 _ _ <| w_block ?_
    have hI := hI.nilRow 26 32
    obtain ⟨z1, hz2, Hk2⟩ := bind_some H
    obtain ⟨n1, hn1⟩ := loopO_some hz2
    refine w_loop (fun n a w => ∃ (s1 : List (List Int)) (s2 : Int) (vvs1 : Value) (ccs1 : List Value), loopN (sargassoref1_IDs.s0 x0) n (s1, s2) = some z1 ∧ Els (RA .u8 32) 32 s1 ccs1 ∧ InR .i64 s2 ∧ Fr a 20 [(0, u0), (2, (.slice none 0 0)), (3, vvs1), (4, .int .i64 s2)] ∧ Iv w0 [] μ μ [row 26 32 vvs1 s1.length ccs1] w) n1 ⟨[], 0, (.slice none 0 0), [], hn1, (Els.nil (RE := (RA .u8 32)) (sz := 32)), (in_lit .i64 0 rfl), hA.sub ⟨rfl, rfl, rfl, rfl, trivial⟩, hI⟩ ?_
    clear hA hI
    rintro n a w ⟨s1, s2, vvs1, ccs1, hn1, ws1, ws2, hA, hI⟩
    obtain ⟨m1, rfl, H⟩ := loopN_bind hn1
    clear hn1
    refine w_seq fun _ hN4 => w_seq fun _ hN5 => w_reg <| stm hA rfl rfl fun a hA => 
      stm hA rfl rfl fun a hA => ?_
    obtain ⟨_, hsl1⟩ := Slc.sv hx0
    refine stp hA (r_slen Tryd.underlying35 hsl1 hA rfl) rfl fun a hA => 
      stp hA (r_lss hA rfl rfl) rfl fun a hA => ?_
    refine o_nil <| hN5 _ _ <| w_cond hA rfl (fun hc1 => ?_) (fun hc1 => ?_)
    · obtain ⟨hc1, H⟩ := dT H hc1
      refine w_skip <| hN4 _ _ <| w_seq fun _ hN6 => w_block <| w_reg <| stm hA rfl rfl fun a hA => 
        stm hA rfl rfl fun a hA => 
        stm hA rfl rfl fun a hA => ?_
      obtain ⟨hb1, H⟩ := bG H
      obtain ⟨_, he1, _, hat1⟩ := Slc.elem hx0 (getD_some default hb1.1 hb1.2)
      obtain ⟨v1, v2, rfl, hw1⟩ := he1
      obtain ⟨_, hsl2⟩ := Slc.sv hx0
      refine stp hA (r_six Tryd.underlying35 sz32 hsl2 hA rfl rfl hb1.1 hb1.2) rfl fun a hA => 
        stp hA (r_ldmA [] [[.int .u32 ((x0.getD s2.toNat default).Version)], [v1], [v2], [.int .u32 ((x0.getD s2.toNat default).Time)]] [] Tryd.underlying32 rfl sz32 rfl hI.agr hat1 hA rfl rfl) rfl fun a hA => ?_
      obtain ⟨r1, hr1, H⟩ := bB H
      refine o_callp (u := .agg [av .u8 32 r1].flatten.toArray) cf100 hA rfl hI (sargassoref1_ID.c μ _ hI.agr (x0.getD s2.toNat default) v1 v2 ⟨hw1.1, hw1.2.1, hw1.2.2.1, hw1.2.2.2⟩ r1 hr1) rfl fun a w hz3 hI hA => ?_
      have hE1 : Els (RA .u8 32) 32 ([r1] : List (List Int)) _ := (Els.cons (c := [av .u8 32 r1].flatten) ⟨rfl, hz3⟩ rfl Els.nil)
      refine o_bsl ([av .u8 32 r1].flatten ++ ([])) te26 zr26 Tryd.underlying62 hI hA rfl rfl rfl rfl (by kernel_rfl) rfl fun g1 a w hA hI => ?_
      generalize hcs : ([av .u8 32 r1].flatten ++ ([]) : List Value) = cs1 at hE1 hI
      clear hcs
      obtain ⟨hb2, H⟩ := bG H
      have hE3 := ws1.app hE1
      refine o_appG (xs := (s1 : List (List Int))) (ys := (([r1] : List (List Int)) : List (List Int))) (M := 4398046511104) 1 te26 Tryd.underlying62 hI rfl hA rfl rfl (src_row hI (j := 0) rfl) hE1.len (hE1.ones (one_RA _ _)) hb2 rfl fun v3 a w hA hI => 
        sta hA rfl rfl fun a hA => ?_
      refine o_nil <| hN6 _ _ <| w_reg <| stm hA rfl rfl fun a hA => 
        stp hA (r_add hA rfl rfl) rfl fun a hA => 
        sta hA rfl rfl fun a hA => ?_
      refine o_nil <| ⟨m1, Nat.lt_succ_self _, s1 ++ ([r1] : List (List Int)), IntKind.i64.wrap (s2 + 1), v3, ccs1 ++ cs1, H, hE3, (wrap_in _ _), hA.sub ⟨rfl, rfl, rfl, rfl, trivial⟩, (hI.sl [1] rfl)⟩
    · obtain ⟨hc1, H⟩ := dF H hc1
      refine w_exit rfl ?_
      have H : some s1 = some z1 := H
      obtain rfl := sI H
      have H := Hk2
      cases sJ H
      exact ⟨vvs1, ccs1, ws1, hA.sub ⟨rfl, rfl, trivial⟩, hI⟩
  · rintro a w ⟨vvc1, ccc1, wc1, hA, hI⟩
    have H := Hk1
    refine w_seq fun _ hN7 => w_reg <| stm hA rfl rfl fun a hA => 
      sta hA rfl rfl fun a hA => ?_
    refine o_nil <| hN7 _ _ <| w_ret ?_
    obtain rfl := sJ H
    exact ret1 hA Tryd.results73 rfl ⟨_, rfl, vvc1, ccc1, rfl, wc1, (hI.less (Store.le.refl _) hI.le)⟩
set_option maxRecDepth 20000 in
theorem sargassoref1_Rooted.c (μ : Store) (w0 : World) (hμ : Agr μ w0) (x0 : Block) (u0_0 : Value) (hx0 : BlockW μ x0 u0_0) (r : Block) (H : sargassoref1_Rooted.f x0 = some r) :
    Calls Tryd.prog 54 [.agg [[.int .u32 x0.Head.Version], av .u8 32 x0.Head.Prev, av .u8 32 x0.Head.Root, [.int .u32 x0.Head.Time], [.int .u32 x0.Head.Work], [.int .u32 x0.Head.Nonce], [u0_0]].flatten.toArray].toArray w0 (fun e w' => ∃ v, e = .returned v ∧ ∃ (v0_0 : Value) (μ' : Store), v = .agg [[.int .u32 r.Head.Version], av .u8 32 r.Head.Prev, av .u8 32 r.Head.Root, [.int .u32 r.Head.Time], [.int .u32 r.Head.Work], [.int .u32 r.Head.Nonce], [v0_0]].flatten.toArray ∧ BlockW μ' r v0_0 ∧ Iv w0 [] μ μ' [] w') := by
  refine enter Tryd.func54 rfl Tryd.ntmps54 rfl fun a hA => ?_
  have hI := Iv.start hμ
  have H := bI H
  refine w_seq fun _ hN1 => w_reg <| o_box [[.int .u32 x0.Head.Version], av .u8 32 x0.Head.Prev, av .u8 32 x0.Head.Root, [.int .u32 x0.Head.Time], [.int .u32 x0.Head.Work], [.int .u32 x0.Head.Nonce], [u0_0]] hI hA rfl rfl rfl fun g1 a w hA hI hg1 => 
    o_new [[.int .u32 0], av .u8 32 (List.replicate 32 0), av .u8 32 (List.replicate 32 0), [.int .u32 0], [.int .u32 0], [.int .u32 0], [(.slice none 0 0)]] zr37 hI hA rfl fun g2 a w hA hI hg2 => ?_
  refine o_nil <| hN1 _ _ <| w_seq fun _ hN2 => w_reg <| stp hA (r_fd (k := 68) Tryd.underlying37 rfl sz35 hA rfl rfl) rfl fun a hA => 
    stp hA (r_ld1 (j := 1) [[.int .u32 x0.Head.Version], av .u8 32 x0.Head.Prev, av .u8 32 x0.Head.Root, [.int .u32 x0.Head.Time], [.int .u32 x0.Head.Work], [.int .u32 x0.Head.Nonce]] [] Tryd.underlying35 rfl hI rfl hA rfl rfl) rfl fun a hA => ?_
  obtain ⟨r1, hr1, H⟩ := bB H
  refine o_call _ cf73 hA rfl (sargassoref1_IDs.c μ _ hI.agr x0.Txs u0_0 hx0.2.2.2.2.2.2 r1 hr1) rfl fun v1 a w hz1 hA => ?_
  obtain ⟨_, cs1, rfl, hE1, hi1⟩ := hz1
  have hI := hI.call hi1
  obtain ⟨r2, hr2, H⟩ := bB H
  refine o_callp (u := .agg [av .u8 32 r2].flatten.toArray) cf72 hA rfl hI ((by obtain ⟨μ1, hle1, hsv1, hI⟩ := hI.freezeRow 0 rfl; have hS1 : Slc (RA .u8 32) 32 μ1 v1 r1 := ⟨_, hE1, hsv1⟩; exact low_plain hle1 (sargassoref1_Root.c μ1 _ hI.agr r1 v1 hS1 r2 hr2))) rfl fun a w hz2 hI hA => 
    stp hA (r_fd (k := 0) Tryd.underlying37 rfl sz28 hA rfl rfl) rfl fun a hA => 
    stp hA (r_fd (k := 33) Tryd.underlying28 rfl sz26 hA rfl rfl) rfl fun a hA => 
    o_st (j := 2) [[.int .u32 x0.Head.Version], av .u8 32 x0.Head.Prev] [av .u8 32 x0.Head.Root] [av .u8 32 r2] [[.int .u32 x0.Head.Time], [.int .u32 x0.Head.Work], [.int .u32 x0.Head.Nonce], [u0_0]] sz26 rfl rfl (fl_cons (one_av _ _ _) fl_nil) hI rfl hA rfl rfl rfl rfl fun w hI => ?_
  refine o_nil <| hN2 _ _ <| w_seq fun _ hN3 => w_reg <| stp hA (r_ldA (j := 2) [] [[.int .u32 x0.Head.Version], av .u8 32 x0.Head.Prev, av .u8 32 r2, [.int .u32 x0.Head.Time], [.int .u32 x0.Head.Work], [.int .u32 x0.Head.Nonce], [u0_0]] [] Tryd.underlying37 rfl sz37 rfl hI rfl hA rfl rfl) rfl fun a hA => ?_
  obtain ⟨_, hsl1⟩ := Slc.sv hx0.2.2.2.2.2.2
  refine o_st (j := 1) [] [[.int .u32 0], av .u8 32 (List.replicate 32 0), av .u8 32 (List.replicate 32 0), [.int .u32 0], [.int .u32 0], [.int .u32 0], [(.slice none 0 0)]] [[.int .u32 x0.Head.Version], av .u8 32 x0.Head.Prev, av .u8 32 r2, [.int .u32 x0.Head.Time], [.int .u32 x0.Head.Work], [.int .u32 x0.Head.Nonce], [u0_0]] [] sz37 rfl rfl (fl_cons (one_one rfl) (fl_cons (one_av _ _ _) (fl_cons (one_av _ _ _) (fl_cons (one_one rfl) (fl_cons (one_one rfl) (fl_cons (one_one rfl) (fl_cons (one_one (one_sl hsl1)) fl_nil))))))) hI rfl hA rfl rfl rfl rfl fun w hI => ?_
  refine o_nil <| hN3 _ _ <| w_ret ?_
  obtain rfl := sJ H
  exact retc Tryd.underlying37 rfl sz37 rfl hI (j := 1) rfl hA Tryd.results54 rfl ⟨_, rfl, u0_0, μ, rfl, ⟨hx0.1, hx0.2.1, hz2, hx0.2.2.2.1, hx0.2.2.2.2.1, hx0.2.2.2.2.2.1, hx0.2.2.2.2.2.2⟩, (hI.sl [] rfl)⟩
set_option maxRecDepth 20000 in
theorem sargassoref1_Start.c (μ : Store) (w0 : World) (hμ : Agr μ w0) (r : Block) (H : sargassoref1_Start.f = some r) :
    Calls Tryd.prog 25 [].toArray w0 (fun e w' => ∃ v, e = .returned v ∧ ∃ (v0_0 : Value) (μ' : Store), v = .agg [[.int .u32 r.Head.Version], av .u8 32 r.Head.Prev, av .u8 32 r.Head.Root, [.int .u32 r.Head.Time], [.int .u32 r.Head.Work], [.int .u32 r.Head.Nonce], [v0_0]].flatten.toArray ∧ BlockW μ' r v0_0 ∧ Iv w0 [] μ μ' [] w') := by
  refine enter Tryd.func25 rfl Tryd.ntmps25 rfl fun a hA => ?_
  have hI := Iv.start hμ
  have H := bI H
  refine w_seq fun _ hN1 => w_reg <| o_new [[.int .u32 0], av .u8 32 (List.replicate 32 0), av .u8 32 (List.replicate 32 0), [.int .u32 0], [.int .u32 0], [.int .u32 0], [(.slice none 0 0)]] zr37 hI hA rfl fun g1 a w hA hI hg1 => ?_
  refine o_nil <| hN1 _ _ <| w_seq fun _ hN2 => w_reg <| stp hA (r_bldS (cs := [[.int .u32 1], av .u8 32 (List.replicate 32 0), av .u8 32 (List.replicate 32 0), [.int .u32 1000], [.int .u32 1], [.int .u32 0]].flatten.toArray) (pl := [(0, 1), (1, 32), (33, 32), (65, 1), (66, 1), (67, 1)]) zr28 Tryd.underlying28 ⟨rfl, sz24, rfl, sz26, rfl, sz26, rfl, sz24, rfl, sz24, rfl, sz24, trivial⟩ hA rfl (by kernel_rfl)) rfl fun a hA => ?_
  obtain ⟨r1, hr1, H⟩ := bB H
  refine o_callp (u := .agg [av .u8 32 r1].flatten.toArray) cf55 hA rfl hI (sargassoref1_Sha.c μ _ hI.agr ([]) (.slice none 0 0) (slc_nil _ _ _) r1 hr1) rfl fun a w hz1 hI hA => ?_
  obtain ⟨r2, hr2, H⟩ := bB H
  refine o_call _ cf9 hA rfl (sargassoref1_First.c μ _ hI.agr 0 (in_lit .i64 0 rfl) 0 (in_lit .u64 0 rfl) r1 hz1 ([]) (.slice none 0 0) (slc_nil _ _ _) r2 hr2) rfl fun v1 a w hz2 hA => ?_
  obtain ⟨v2, v3, μ1, rfl, hw1, hi1⟩ := hz2
  have hI := hI.call hi1
  have hE1 : Els (RTx μ1) 4 ([r2] : List Tx) _ := (Els.cons (c := [[.int .u32 r2.Version], [v2], [v3], [.int .u32 r2.Time]].flatten) ⟨v2, v3, rfl, ⟨hw1.1, hw1.2.1, hw1.2.2.1, hw1.2.2.2⟩⟩ rfl Els.nil)
  refine o_bsl ([[.int .u32 r2.Version], [v2], [v3], [.int .u32 r2.Time]].flatten ++ ([])) te32 zr32 Tryd.underlying35 hI hA rfl rfl rfl rfl (by kernel_rfl) rfl fun g2 a w hA hI => ?_
  generalize hcs : ([[.int .u32 r2.Version], [v2], [v3], [.int .u32 r2.Time]].flatten ++ ([]) : List Value) = cs1 at hE1 hI
  clear hcs
  refine stp hA (r_bldS (cs := [[.int .u32 1], av .u8 32 (List.replicate 32 0), av .u8 32 (List.replicate 32 0), [.int .u32 1000], [.int .u32 1], [.int .u32 0], [(.slice (some ⟨g2, 0, none⟩) 1 1)]].flatten.toArray) (pl := [(0, 68), (68, 1)]) zr37 Tryd.underlying37 ⟨rfl, sz28, rfl, sz35, trivial⟩ hA rfl ((fill_seg [] [[.int .u32 0], av .u8 32 (List.replicate 32 0), av .u8 32 (List.replicate 32 0), [.int .u32 0], [.int .u32 0], [.int .u32 0]] [[.int .u32 1], av .u8 32 (List.replicate 32 0), av .u8 32 (List.replicate 32 0), [.int .u32 1000], [.int .u32 1], [.int .u32 0]] [[(.slice none 0 0)]] rfl rfl rfl rfl rfl).trans ((fill_seg [[.int .u32 1], av .u8 32 (List.replicate 32 0), av .u8 32 (List.replicate 32 0), [.int .u32 1000], [.int .u32 1], [.int .u32 0]] [[(.slice none 0 0)]] [[(.slice (some ⟨g2, 0, none⟩) 1 1)]] [] (own_cell hI (j := 0) rfl) rfl rfl rfl rfl).trans (rfl)))) rfl fun a hA => ?_
  obtain ⟨μ2, hle1, hsv1, hI⟩ := hI.freezeRow 0 rfl
  have hS1 : Slc (RTx μ2) 4 μ2 (.slice (some ⟨g2, 0, none⟩) 1 1) ([r2] : List Tx) := ⟨_, (Els.mono hE1 (fun _ _ h => RTx.le hle1 h)), hsv1⟩
  obtain ⟨r3, hr3, H⟩ := bB H
  refine o_call _ cf54 hA rfl (sargassoref1_Rooted.c μ2 _ hI.agr (⟨(⟨1, (List.replicate 32 0), (List.replicate 32 0), 1000, 1, 0⟩ : Head), ([r2] : List Tx)⟩ : Block) (.slice (some ⟨g2, 0, none⟩) 1 1) ⟨(in_lit .u32 1 rfl), (arr_zero _ _), (arr_zero _ _), (in_lit .u32 1000 rfl), (in_lit .u32 1 rfl), (in_lit .u32 0 rfl), hS1⟩ r3 hr3) rfl fun v4 a w hz3 hA => ?_
  obtain ⟨v5, μ3, rfl, hw2, hi2⟩ := hz3
  have hI := hI.call hi2
  obtain ⟨_, hsl1⟩ := Slc.sv hw2.2.2.2.2.2.2
  refine o_st (j := 0) [] [[.int .u32 0], av .u8 32 (List.replicate 32 0), av .u8 32 (List.replicate 32 0), [.int .u32 0], [.int .u32 0], [.int .u32 0], [(.slice none 0 0)]] [[.int .u32 r3.Head.Version], av .u8 32 r3.Head.Prev, av .u8 32 r3.Head.Root, [.int .u32 r3.Head.Time], [.int .u32 r3.Head.Work], [.int .u32 r3.Head.Nonce], [v5]] [] sz37 rfl rfl (fl_cons (one_one rfl) (fl_cons (one_av _ _ _) (fl_cons (one_av _ _ _) (fl_cons (one_one rfl) (fl_cons (one_one rfl) (fl_cons (one_one rfl) (fl_cons (one_one (one_sl hsl1)) fl_nil))))))) hI rfl hA rfl rfl rfl rfl fun w hI => ?_
  refine o_nil <| hN2 _ _ <| w_ret ?_
  obtain rfl := sJ H
  exact retc Tryd.underlying37 rfl sz37 rfl hI (j := 0) rfl hA Tryd.results25 rfl ⟨_, rfl, v5, μ3, rfl, ⟨hw2.1, hw2.2.1, hw2.2.2.1, hw2.2.2.2.1, hw2.2.2.2.2.1, hw2.2.2.2.2.2.1, hw2.2.2.2.2.2.2⟩, (hI.sl [] rfl)⟩
set_option maxRecDepth 20000 in
theorem sargassoref1_HeadBytes.c (μ : Store) (w0 : World) (hμ : Agr μ w0) (x0 : Head) (hx0 : HeadW μ x0) (r : List Int) (H : sargassoref1_HeadBytes.f x0 = some r) :
    Calls Tryd.prog 51 [.agg [[.int .u32 x0.Version], av .u8 32 x0.Prev, av .u8 32 x0.Root, [.int .u32 x0.Time], [.int .u32 x0.Work], [.int .u32 x0.Nonce]].flatten.toArray].toArray w0 (fun e w' => ∃ v, e = .returned v ∧ ∃ (v0 : Value) (c0 : List Value), v = v0 ∧ Els (RI .u8) 1 r c0 ∧ Iv w0 [] μ μ [row 5 1 v0 r.length c0] w') := by
  refine enter Tryd.func51 rfl Tryd.ntmps51 rfl fun a hA => ?_
  have hI := Iv.start hμ
  have H := bI H
  refine w_seq fun _ hN1 => w_reg <| o_box [[.int .u32 x0.Version], av .u8 32 x0.Prev, av .u8 32 x0.Root, [.int .u32 x0.Time], [.int .u32 x0.Work], [.int .u32 x0.Nonce]] hI hA rfl rfl rfl fun g1 a w hA hI hg1 => 
    sta hA rfl rfl fun a hA => ?_
  refine o_nil <| hN1 _ _ <| w_seq fun _ hN2 => ?_
  refine w_anyS [] mo (fun w (h : Iv w0 [] μ μ [cel g1 [[.int .u32 x0.Version], av .u8 32 x0.Prev, av .u8 32 x0.Root, [.int .u32 x0.Time], [.int .u32 x0.Work], [.int .u32 x0.Nonce]] 28] w) => (h.sl [0] rfl : Iv w0 [] μ μ [cel g1 [[.int .u32 x0.Version], av .u8 32 x0.Prev, av .u8 32 x0.Root, [.int .u32 x0.Time], [.int .u32 x0.Work], [.int .u32 x0.Nonce]] 28] w)) hI fun w hI => ?_
  refine gE 0 hA rfl (.inr hI) (fun _ => r_fd (k := 0) Tryd.underlying28 rfl sz24 hA rfl rfl) fun a hA => ?_
  refine gT 1 hA rfl hI (fun w hI => r_ld1 (j := 0) [] [av .u8 32 x0.Prev, av .u8 32 x0.Root, [.int .u32 x0.Time], [.int .u32 x0.Work], [.int .u32 x0.Nonce]] Tryd.underlying24 rfl hI rfl hA rfl rfl) fun a hA => ?_
  refine gE 3 hA rfl (.inr hI) (fun _ => r_fd (k := 1) Tryd.underlying28 rfl sz26 hA rfl rfl) fun a hA => ?_
  refine gE 4 hA rfl (.inr hI) (fun _ => r_slv (i := 0) (j := 32) Tryd.underlying26 sz5 hA rfl rfl rfl (by decide) (by decide) (by decide) (by decide) rfl) fun a hA => ?_
  refine gF 2 rfl ?_
  have hI := hI.nilRow 5 1
  obtain ⟨r1, hr1, H⟩ := bB H
  refine o_call _ cf36 hA rfl (sargassoref1_Four.c μ _ hI.agr ([]) (.slice none 0 0) ([]) (Els.nil (RE := (RI .u8)) (sz := 1)) (hI.item (j := 0) rfl) x0.Version hx0.1 r1 hr1) rfl fun v1 a w hz1 hA => ?_
  obtain ⟨_, cs1, rfl, hE1, hi1⟩ := hz1
  have hI := hI.call1 0 rfl hi1
  refine o_nil <| ⟨(.inr (hI.sl [1] rfl)), ?_⟩
  refine gF 5 rfl ?_
  have hE2 := els_av hx0.2.1
  obtain ⟨hb1, H⟩ := bG H
  have hE3 := hE1.app hE2
  refine o_appG (xs := (r1 : List Int)) (ys := (x0.Prev : List Int)) (M := 140737488355328) 0 te5 Tryd.underlying40 hI rfl hA rfl rfl (by simpa using src_cel [[.int .u32 x0.Version]] [av .u8 32 x0.Root, [.int .u32 x0.Time], [.int .u32 x0.Work], [.int .u32 x0.Nonce]] hI (j := 1) rfl hx0.2.1 rfl) hE2.len (hE2.ones (one_RI _)) hb1 rfl fun v2 a w hA hI => ?_
  refine o_nil <| ⟨(.inr (hI.sl [1] rfl)), ?_⟩
  refine gE 6 hA rfl (.inr (hI.sl [1] rfl)) (fun _ => r_as hA rfl) fun a hA => ?_
  refine gN <| hN2 _ _ <| w_seq fun _ hN3 => w_reg <| stm hA rfl rfl fun a hA => 
    stp hA (r_fd (k := 33) Tryd.underlying28 rfl sz26 hA rfl rfl) rfl fun a hA => 
    stp hA (r_slv (i := 0) (j := 32) Tryd.underlying26 sz5 hA rfl rfl rfl (by decide) (by decide) (by decide) (by decide) rfl) rfl fun a hA => ?_
  have hE4 := els_av hx0.2.2.1
  obtain ⟨hb2, H⟩ := bG H
  have hE5 := hE3.app hE4
  refine o_appG (xs := (r1 ++ x0.Prev : List Int)) (ys := (x0.Root : List Int)) (M := 140737488355328) 0 te5 Tryd.underlying40 hI rfl hA rfl rfl (by simpa [av_len] using src_cel [[.int .u32 x0.Version], av .u8 32 x0.Prev] [[.int .u32 x0.Time], [.int .u32 x0.Work], [.int .u32 x0.Nonce]] hI (j := 1) rfl hx0.2.2.1 rfl) hE4.len (hE4.ones (one_RI _)) hb2 rfl fun v3 a w hA hI => 
    sta hA rfl rfl fun a hA => ?_
  refine o_nil <| hN3 _ _ <| w_seq fun _ hN4 => ?_
  refine w_anyS [] mo (fun w (h : Iv w0 [] μ μ [row 5 1 v3 ((r1 ++ x0.Prev) ++ x0.Root).length ((cs1 ++ ([av .u8 32 x0.Prev].flatten)) ++ ([av .u8 32 x0.Root].flatten)), cel g1 [[.int .u32 x0.Version], av .u8 32 x0.Prev, av .u8 32 x0.Root, [.int .u32 x0.Time], [.int .u32 x0.Work], [.int .u32 x0.Nonce]] 28] w) => (h.sl [1] rfl : Iv w0 [] μ μ [cel g1 [[.int .u32 x0.Version], av .u8 32 x0.Prev, av .u8 32 x0.Root, [.int .u32 x0.Time], [.int .u32 x0.Work], [.int .u32 x0.Nonce]] 28] w)) hI fun w hI => ?_
  refine gE 0 hA rfl (.inr (hI.sl [1] rfl)) (fun _ => r_mv hA rfl) fun a hA => ?_
  refine gE 1 hA rfl (.inr (hI.sl [1] rfl)) (fun _ => r_fd (k := 65) Tryd.underlying28 rfl sz24 hA rfl rfl) fun a hA => ?_
  refine gT 2 hA rfl (hI.sl [1] rfl) (fun w hI => r_ld1 (j := 0) [[.int .u32 x0.Version], av .u8 32 x0.Prev, av .u8 32 x0.Root] [[.int .u32 x0.Work], [.int .u32 x0.Nonce]] Tryd.underlying24 rfl hI rfl hA rfl rfl) fun a hA => ?_
  refine gE 4 hA rfl (.inr (hI.sl [1] rfl)) (fun _ => r_fd (k := 66) Tryd.underlying28 rfl sz24 hA rfl rfl) fun a hA => ?_
  refine gT 5 hA rfl (hI.sl [1] rfl) (fun w hI => r_ld1 (j := 0) [[.int .u32 x0.Version], av .u8 32 x0.Prev, av .u8 32 x0.Root, [.int .u32 x0.Time]] [[.int .u32 x0.Nonce]] Tryd.underlying24 rfl hI rfl hA rfl rfl) fun a hA => ?_
  refine gE 7 hA rfl (.inr (hI.sl [1] rfl)) (fun _ => r_fd (k := 67) Tryd.underlying28 rfl sz24 hA rfl rfl) fun a hA => ?_
  refine gT 8 hA rfl (hI.sl [1] rfl) (fun w hI => r_ld1 (j := 0) [[.int .u32 x0.Version], av .u8 32 x0.Prev, av .u8 32 x0.Root, [.int .u32 x0.Time], [.int .u32 x0.Work]] [] Tryd.underlying24 rfl hI rfl hA rfl rfl) fun a hA => ?_
  refine gF 3 rfl ?_
  obtain ⟨r2, hr2, H⟩ := bB H
  refine o_call _ cf36 hA rfl (sargassoref1_Four.c μ _ hI.agr ((r1 ++ x0.Prev) ++ x0.Root) v3 ((cs1 ++ ([av .u8 32 x0.Prev].flatten)) ++ ([av .u8 32 x0.Root].flatten)) hE5 (hI.item (j := 0) rfl) x0.Time hx0.2.2.2.1 r2 hr2) rfl fun v4 a w hz2 hA => ?_
  obtain ⟨_, cs6, rfl, hE6, hi2⟩ := hz2
  have hI := hI.call1 0 rfl hi2
  refine o_nil <| ⟨(.inr (hI.sl [1] rfl)), ?_⟩
  refine gF 6 rfl ?_
  obtain ⟨r3, hr3, H⟩ := bB H
  refine o_call _ cf36 hA rfl (sargassoref1_Four.c μ _ hI.agr r2 v4 cs6 hE6 (hI.item (j := 0) rfl) x0.Work hx0.2.2.2.2.1 r3 hr3) rfl fun v5 a w hz3 hA => ?_
  obtain ⟨_, cs7, rfl, hE7, hi3⟩ := hz3
  have hI := hI.call1 0 rfl hi3
  refine o_nil <| ⟨(.inr (hI.sl [1] rfl)), ?_⟩
  refine gF 9 rfl ?_
  obtain ⟨r4, hr4, H⟩ := bB H
  refine o_call _ cf36 hA rfl (sargassoref1_Four.c μ _ hI.agr r3 v5 cs7 hE7 (hI.item (j := 0) rfl) x0.Nonce hx0.2.2.2.2.2 r4 hr4) rfl fun v6 a w hz4 hA => ?_
  obtain ⟨_, cs8, rfl, hE8, hi4⟩ := hz4
  have hI := hI.call1 0 rfl hi4
  refine o_nil <| ⟨(.inr (hI.sl [1] rfl)), ?_⟩
  refine gE 10 hA rfl (.inr (hI.sl [1] rfl)) (fun _ => r_as hA rfl) fun a hA => ?_
  refine gN <| hN4 _ _ <| w_ret ?_
  obtain rfl := sJ H
  exact ret1 hA Tryd.results51 rfl ⟨_, rfl, v6, cs8, rfl, hE8, ((hI.sl [0] rfl).less (Store.le.refl _) hI.le)⟩
set_option maxRecDepth 20000 in
theorem sargassoref1_HeadID.c (μ : Store) (w0 : World) (hμ : Agr μ w0) (x0 : Head) (hx0 : HeadW μ x0) (r : List Int) (H : sargassoref1_HeadID.f x0 = some r) :
    Calls Tryd.prog 19 [.agg [[.int .u32 x0.Version], av .u8 32 x0.Prev, av .u8 32 x0.Root, [.int .u32 x0.Time], [.int .u32 x0.Work], [.int .u32 x0.Nonce]].flatten.toArray].toArray w0 (fun e w' => ∃ v, e = .returned v ∧ v = .agg [av .u8 32 r].flatten.toArray ∧ Arr .u8 32 r ∧ Iv w0 [] μ μ [] w') := by
  refine enter Tryd.func19 rfl Tryd.ntmps19 rfl fun a hA => ?_
  have hI := Iv.start hμ
  have H := bI H
  refine w_seq fun _ hN1 => w_reg <| o_box [[.int .u32 x0.Version], av .u8 32 x0.Prev, av .u8 32 x0.Root, [.int .u32 x0.Time], [.int .u32 x0.Work], [.int .u32 x0.Nonce]] hI hA rfl rfl rfl fun g1 a w hA hI hg1 => 
    o_new [av .u8 32 (List.replicate 32 0)] zr26 hI hA rfl fun g2 a w hA hI hg2 => ?_
  refine o_nil <| hN1 _ _ <| w_seq fun _ hN2 => w_reg <| stp hA (r_ldA (j := 1) [] [[.int .u32 x0.Version], av .u8 32 x0.Prev, av .u8 32 x0.Root, [.int .u32 x0.Time], [.int .u32 x0.Work], [.int .u32 x0.Nonce]] [] Tryd.underlying28 rfl sz28 rfl hI rfl hA rfl rfl) rfl fun a hA => ?_
  obtain ⟨r1, hr1, H⟩ := bB H
  refine o_call _ cf51 hA rfl (sargassoref1_HeadBytes.c μ _ hI.agr x0 ⟨hx0.1, hx0.2.1, hx0.2.2.1, hx0.2.2.2.1, hx0.2.2.2.2.1, hx0.2.2.2.2.2⟩ r1 hr1) rfl fun v1 a w hz1 hA => ?_
  obtain ⟨_, cs1, rfl, hE1, hi1⟩ := hz1
  have hI := hI.call hi1
  obtain ⟨r2, hr2, H⟩ := bB H
  refine o_callp (u := .agg [av .u8 32 r2].flatten.toArray) cf50 hA rfl hI ((by obtain ⟨μ1, hle1, hsv1, hI⟩ := hI.freezeRow 0 rfl; have hS1 : Slc (RI .u8) 1 μ1 v1 r1 := ⟨_, hE1, hsv1⟩; exact low_plain hle1 (sargassoref1_Twice.c μ1 _ hI.agr r1 v1 hS1 r2 hr2))) rfl fun a w hz2 hI hA => 
    o_st (j := 1) [] [av .u8 32 (List.replicate 32 0)] [av .u8 32 r2] [] sz26 rfl rfl (fl_cons (one_av _ _ _) fl_nil) hI rfl hA rfl rfl rfl rfl fun w hI => ?_
  refine o_nil <| hN2 _ _ <| w_ret ?_
  obtain rfl := sJ H
  exact retc Tryd.underlying26 rfl sz26 rfl hI (j := 1) rfl hA Tryd.results19 rfl ⟨_, rfl, rfl, hz2, hI.forget0⟩
end Go.Proofs.YtdngkgkkblfcjaaDoor.T
namespace Go.Proofs.YtdngkgkkblfcjaaDoor.T
open Go Go.Proofs Go.Proofs.YtdngkgkkblfcjaaDoor.K
set_option linter.unusedVariables false
set_option linter.unusedSimpArgs false
noncomputable def tree_New.f (x0 : Head) : Option treeTree := ((head_ID.f x0).bind fun r1 => (if (mget ([] : List ((List Int) × treeNode)) r1).isNone = true then some (⟨mput ([] : List ((List Int) × treeNode)) r1 ((⟨x0, 0, IntKind.u64.wrap x0.Work, []⟩ : treeNode) : treeNode), r1⟩ : treeTree) else none))
noncomputable def tree_Tree_Start.f (x0 : treeTree) : Option (List Int) := some x0.start
noncomputable def tree_Tree_Height.f (x0 : treeTree) (x1 : List Int) : Option (Int × Bool) := (if ((mget x0.m x1).isSome) = true then ((nget x0.m (lkn x0.m x1)).bind fun nd1 => some (nd1.height, true)) else some (0, false))
noncomputable def tree_Tree_Len.f (x0 : treeTree) : Option Int := some (x0.m.length : Int)
noncomputable def tree_Tree_Add.f (x0 : treeTree) (x1 : Head) : Option (Er × treeTree) := ((head_ID.f x1).bind fun r1 => (if ((mget x0.m r1).isSome) = true then some (xErrKnown, (⟨x0.m, x0.start⟩ : treeTree)) else (if ((mget x0.m x1.Prev).isSome) = true then (if 4096 ≤ (x0.m.length : Int) then some (xErrFull, (⟨x0.m, x0.start⟩ : treeTree)) else ((nget x0.m (lkn x0.m x1.Prev)).bind fun nd1 => (if (mget x0.m r1).isNone = true then (if nd1.up.length + 1 ≤ 4398046511104 then some ((Er.b 0), (⟨nput (mput x0.m r1 ((⟨x1, IntKind.i64.wrap (nd1.height + 1), IntKind.u64.wrap (nd1.work + (IntKind.u64.wrap x1.Work)), []⟩ : treeNode) : treeNode)) (lkn x0.m x1.Prev) ((⟨nd1.head, nd1.height, nd1.work, nd1.up ++ ([r1] : List (List Int))⟩ : treeNode) : treeNode), x0.start⟩ : treeTree)) else none) else none))) else some (xErrParent, (⟨x0.m, x0.start⟩ : treeTree)))))
noncomputable def tree_Tree_Common.s0 (x0 : treeTree) : ((Option (List Int)) × (Option (List Int)) × (List Int) × (List Int)) → Option (((Option (List Int)) × (Option (List Int)) × (List Int) × (List Int)) ⊕ ((Option (List Int)) × (Option (List Int)) × (List Int) × (List Int))) := fun (s1, s2, s3, s4) => (if ¬ (s4 = s3) then ((nget x0.m s1).bind fun nd1 => ((nget x0.m s2).bind fun nd2 => (if nd2.height ≤ nd1.height then some (.inl (lkn x0.m nd1.head.Prev, s2, s3, nd1.head.Prev)) else some (.inl (s1, lkn x0.m nd2.head.Prev, nd2.head.Prev, s4))))) else some (.inr (s1, s2, s3, s4)))
noncomputable def tree_Tree_Common.f (x0 : treeTree) (x1 : List Int) (x2 : List Int) : Option ((List Int) × Bool) := (((if ((mget x0.m x1).isSome) = true then some (!((mget x0.m x2).isSome)) else some true)).bind fun c1 => (if c1 = true then some ([0, 0, 0, 0, 0, 0, 0, 0, 0, 0, 0, 0, 0, 0, 0, 0, 0, 0, 0, 0, 0, 0, 0, 0, 0, 0, 0, 0, 0, 0, 0, 0], false) else ((loopO (tree_Tree_Common.s0 x0) (lkn x0.m x1, lkn x0.m x2, x2, x1)).bind fun (c2, c3, c4, c5) => some (c5, true))))
noncomputable def tree_Tree_down.s0 (x0 : treeTree) (x2 : List Int) : ((List (List Int)) × (List Int)) → Option (((List (List Int)) × (List Int)) ⊕ ((List (List Int)) × (List Int))) := fun (s1, s2) => (if ¬ (s2 = x2) then (if s1.length + 1 ≤ 4398046511104 then ((nget x0.m (lkn x0.m s2)).bind fun nd1 => some (.inl (s1 ++ ([s2] : List (List Int)), nd1.head.Prev))) else none) else some (.inr (s1, s2)))
noncomputable def tree_Tree_down.f (x0 : treeTree) (x1 : List Int) (x2 : List Int) : Option (List (List Int)) := ((loopO (tree_Tree_down.s0 x0 x2) ([], x1)).bind fun (c1, c2) => some c1)
noncomputable def tree_Tree_Path.f (x0 : treeTree) (x1 : List Int) (x2 : List Int) : Option ((List (List Int)) × (List (List Int)) × Bool) := ((tree_Tree_Common.f (⟨x0.m, x0.start⟩ : treeTree) x1 x2).bind fun r1 => (if r1.2 = true then ((tree_Tree_down.f (⟨x0.m, x0.start⟩ : treeTree) x2 r1.1).bind fun r2 => ((slices_Reverse_api_Hash_api_Hash.f r2).bind fun r3 => ((tree_Tree_down.f (⟨x0.m, x0.start⟩ : treeTree) x1 r1.1).bind fun r4 => some (r4, r3, true)))) else some ([], [], false)))
noncomputable def tree_Tree_Head.f (x0 : treeTree) (x1 : List Int) : Option (Head × Bool) := (if ((mget x0.m x1).isSome) = true then ((nget x0.m (lkn x0.m x1)).bind fun nd1 => some (nd1.head, true)) else some ((⟨0, (List.replicate 32 0), (List.replicate 32 0), 0, 0, 0⟩ : Head), false))
end Go.Proofs.YtdngkgkkblfcjaaDoor.T
namespace Go.Proofs.YtdngkgkkblfcjaaDoor.T
open Go Go.Proofs Go.Proofs.YtdngkgkkblfcjaaDoor.K
set_option linter.unusedVariables false
set_option linter.unusedSimpArgs false
set_option maxRecDepth 20000 in
theorem tree_New.c (μ : Store) (w0 : World) (hμ : Agr μ w0) (x0 : Head) (hx0 : HeadW μ x0) (r : treeTree) (H : tree_New.f x0 = some r) :
    Calls Tryd.prog 17 [.agg [[.int .u32 x0.Version], av .u8 32 x0.Prev, av .u8 32 x0.Root, [.int .u32 x0.Time], [.int .u32 x0.Work], [.int .u32 x0.Nonce]].flatten.toArray].toArray w0 (fun e w' => ∃ v, e = .returned v ∧ ∃ (gq_1 : Nat) (gm_1 : Nat) (gs_1 : (List Int) → NG), v = .pointer (some ⟨gq_1, 0, none⟩) ∧ nw95 μ r.m gs_1 ∧ Arr .u8 32 r.start ∧ Iv w0 [] μ μ [cel gq_1 [[.map (some gm_1)], av .u8 32 r.start] 97, nd95 gm_1 r.m gs_1] w') := by
  refine enter Tryd.func17 rfl Tryd.ntmps17 rfl fun a hA => ?_
  have hI := Iv.start hμ
  have H := bI H
  refine w_seq fun _ hN1 => w_reg <| o_box [[.int .u32 x0.Version], av .u8 32 x0.Prev, av .u8 32 x0.Root, [.int .u32 x0.Time], [.int .u32 x0.Work], [.int .u32 x0.Nonce]] hI hA rfl rfl rfl fun g1 a w hA hI hg1 => 
    sta hA rfl rfl fun a hA => ?_
  refine o_nil <| hN1 _ _ <| w_seq fun _ hN2 => w_reg <| stp hA (r_ldA (j := 0) [] [[.int .u32 x0.Version], av .u8 32 x0.Prev, av .u8 32 x0.Root, [.int .u32 x0.Time], [.int .u32 x0.Work], [.int .u32 x0.Nonce]] [] Tryd.underlying28 rfl sz28 rfl hI rfl hA rfl rfl) rfl fun a hA => ?_
  obtain ⟨r1, hr1, H⟩ := bB H
  refine o_callp (u := .agg [av .u8 32 r1].flatten.toArray) cf49 hA rfl hI (head_ID.c μ _ hI.agr x0 ⟨hx0.1, hx0.2.1, hx0.2.2.1, hx0.2.2.2.1, hx0.2.2.2.2.1, hx0.2.2.2.2.2⟩ r1 hr1) rfl fun a w hz1 hI hA => 
    o_new [av .u8 32 (List.replicate 32 0)] zr26 hI hA rfl fun g2 a w hA hI hg2 => 
    o_st (j := 0) [] [av .u8 32 (List.replicate 32 0)] [av .u8 32 r1] [] sz26 rfl rfl (fl_cons (one_av _ _ _) fl_nil) hI rfl hA rfl rfl rfl rfl fun w hI => ?_
  refine o_nil <| hN2 _ _ <| w_seq fun _ hN3 => ?_
  refine w_anyS [] mo (fun w (h : Iv w0 [] μ μ [cel g2 [av .u8 32 r1] 26, cel g1 [[.int .u32 x0.Version], av .u8 32 x0.Prev, av .u8 32 x0.Root, [.int .u32 x0.Time], [.int .u32 x0.Work], [.int .u32 x0.Nonce]] 28] w) => (h.sl [0, 1] rfl : Iv w0 [] μ μ [cel g2 [av .u8 32 r1] 26, cel g1 [[.int .u32 x0.Version], av .u8 32 x0.Prev, av .u8 32 x0.Root, [.int .u32 x0.Time], [.int .u32 x0.Work], [.int .u32 x0.Nonce]] 28] w)) hI fun w hI => ?_
  refine gT 1 hA rfl hI (fun w hI => r_ldA (j := 0) [] [av .u8 32 r1] [] Tryd.underlying26 rfl sz26 rfl hI rfl hA rfl rfl) fun a hA => ?_
  refine gT 2 hA rfl hI (fun w hI => r_ldA (j := 1) [] [[.int .u32 x0.Version], av .u8 32 x0.Prev, av .u8 32 x0.Root, [.int .u32 x0.Time], [.int .u32 x0.Work], [.int .u32 x0.Nonce]] [] Tryd.underlying28 rfl sz28 rfl hI rfl hA rfl rfl) fun a hA => ?_
  refine gE 3 hA rfl (.inr hI) (fun _ => r_fd (k := 66) Tryd.underlying28 rfl sz24 hA rfl rfl) fun a hA => ?_
  refine gT 4 hA rfl hI (fun w hI => r_ld1 (j := 1) [[.int .u32 x0.Version], av .u8 32 x0.Prev, av .u8 32 x0.Root, [.int .u32 x0.Time]] [[.int .u32 x0.Nonce]] Tryd.underlying24 rfl hI rfl hA rfl rfl) fun a hA => ?_
  refine gE 5 hA rfl (.inr hI) (fun _ => r_conv Tryd.underlying24 Tryd.underlying34 hA rfl) fun a hA => ?_
  refine gT 10 hA rfl hI (fun w hI => r_ldA (j := 0) [] [av .u8 32 r1] [] Tryd.underlying26 rfl sz26 rfl hI rfl hA rfl rfl) fun a hA => ?_
  refine g_fork (i := 0) (is := [6]) (by kernel_rfl) (List.forall_mem_cons.2 ⟨⟨_, rfl, ?_⟩, (List.forall_mem_cons.2 ⟨⟨_, rfl, ?_⟩, List.forall_mem_nil _⟩)⟩)
  · skip
    refine o_mknd kv95 treeNodeC 94 26 32 (fun x => x.up.length) hI hA rfl fun g3 a w hI hA => ?_
    refine o_nil <| ⟨(.inr (hI.sl [1, 2] rfl)), ?_⟩
    refine gF 6 rfl ?_
    refine stp hA (r_bldS (cs := [[.int .u32 x0.Version], av .u8 32 x0.Prev, av .u8 32 x0.Root, [.int .u32 x0.Time], [.int .u32 x0.Work], [.int .u32 x0.Nonce], [.int .i64 0], [.int .u64 (IntKind.u64.wrap x0.Work)], [(.slice none 0 0)]].flatten.toArray) (pl := [(0, 68), (68, 1), (69, 1), (70, 1)]) zr94 Tryd.underlying94 ⟨rfl, sz28, rfl, sz3, rfl, sz34, rfl, sz62, trivial⟩ hA rfl (by kernel_rfl)) rfl fun a hA => ?_
    refine o_nil <| ⟨(.inr (hI.sl [1, 2] rfl)), ?_⟩
    refine gF 7 rfl ?_
    refine o_box [[.int .u32 x0.Version], av .u8 32 x0.Prev, av .u8 32 x0.Root, [.int .u32 x0.Time], [.int .u32 x0.Work], [.int .u32 x0.Nonce], [.int .i64 0], [.int .u64 (IntKind.u64.wrap x0.Work)], [(.slice none 0 0)]] hI hA rfl rfl rfl fun g4 a w hA hI hg4 => ?_
    refine o_nil <| ⟨(.inr (hI.sl [2, 3] rfl)), ?_⟩
    refine gF 8 rfl ?_
    have hI := hI.nilRow 26 32
    obtain ⟨hb1, H⟩ := bG H
    have hno1 := Option.isNone_iff_eq_none.1 hb1
    have hI : Iv w0 [] μ μ [cel g4 (treeNodeC ((⟨x0, 0, IntKind.u64.wrap x0.Work, []⟩ : treeNode) : treeNode) (.slice none 0 0)) 94, row 26 32 (.slice none 0 0) ((⟨x0, 0, IntKind.u64.wrap x0.Work, []⟩ : treeNode) : treeNode).up.length ([]), nd95 g3 ([] : List ((List Int) × treeNode)) (fun _ => (0, .pointer none, [])), cel g2 [av .u8 32 r1] 26, cel g1 [[.int .u32 x0.Version], av .u8 32 x0.Prev, av .u8 32 x0.Root, [.int .u32 x0.Time], [.int .u32 x0.Work], [.int .u32 x0.Nonce]] 28] w := hI.sl [1, 0, 2, 3, 4] rfl
    refine o_nins (NC := treeNodeC) (ln := fun x => x.up.length) (kv := kv95) g4 ((⟨x0, 0, IntKind.u64.wrap x0.Work, []⟩ : treeNode) : treeNode) kn95 Tryd.underlying95 (NdW.nil : nw95 μ [] (fun _ => (0, .pointer none, []))).1 hz1 hno1 hI hA rfl rfl rfl fun w hI => ?_
    refine o_nil <| ⟨(.inr (hI.sl [1, 2] rfl)), ?_⟩
    refine gE 9 hA rfl (.inr (hI.sl [1, 2] rfl)) (fun _ => r_mv hA rfl) fun a hA => ?_
    refine gF 11 rfl ?_
    refine stp hA (r_bldS (cs := [[.map (some g3)], av .u8 32 r1].flatten.toArray) (pl := [(0, 1), (1, 32)]) zr97 Tryd.underlying97 ⟨rfl, sz95, rfl, sz26, trivial⟩ hA rfl ((fill_seg [] [[.map none]] [[.map (some g3)]] [av .u8 32 (List.replicate 32 0)] rfl rfl rfl rfl rfl).trans ((fill_seg [[.map (some g3)]] [av .u8 32 (List.replicate 32 0)] [av .u8 32 r1] [] rfl rfl rfl rfl rfl).trans (rfl)))) rfl fun a hA => ?_
    refine o_nil <| ⟨(.inr (hI.sl [1, 2] rfl)), ?_⟩
    refine gF 12 rfl ?_
    refine o_box [[.map (some g3)], av .u8 32 r1] hI hA rfl rfl rfl fun g5 a w hA hI hg5 => ?_
    refine o_nil <| ⟨(.inr (hI.sl [2, 3] rfl)), ?_⟩
    refine gE 13 hA rfl (.inr (hI.sl [2, 3] rfl)) (fun _ => r_as hA rfl) fun a hA => ?_
    refine gN <| hN3 _ _ <| w_ret ?_
    obtain rfl := sJ H
    exact ret1 hA Tryd.results17 rfl ⟨_, rfl, g5, g3, (gup (fun _ => (0, .pointer none, [])) r1 (g4, (.slice none 0 0), [])), rfl, (NdW.put (u := (g4, (.slice none 0 0), [])) (NdW.nil : nw95 μ [] (fun _ => (0, .pointer none, []))) hz1 ⟨⟨hx0.1, hx0.2.1, hx0.2.2.1, hx0.2.2.2.1, hx0.2.2.2.2.1, hx0.2.2.2.2.2⟩, (in_lit .i64 0 rfl), (wrap_in _ _), (Els.nil (RE := (RA .u8 32)) (sz := 32))⟩), hz1, ((hI.sl [0, 1] rfl).less (Store.le.refl _) hI.le)⟩
  · skip
    refine stp hA (r_bldS (cs := [[.int .u32 x0.Version], av .u8 32 x0.Prev, av .u8 32 x0.Root, [.int .u32 x0.Time], [.int .u32 x0.Work], [.int .u32 x0.Nonce], [.int .i64 0], [.int .u64 (IntKind.u64.wrap x0.Work)], [(.slice none 0 0)]].flatten.toArray) (pl := [(0, 68), (68, 1), (69, 1), (70, 1)]) zr94 Tryd.underlying94 ⟨rfl, sz28, rfl, sz3, rfl, sz34, rfl, sz62, trivial⟩ hA rfl (by kernel_rfl)) rfl fun a hA => ?_
    refine o_nil <| ⟨(.inr hI), ?_⟩
    refine g_fork (i := 0) (is := [7]) (by kernel_rfl) (List.forall_mem_cons.2 ⟨⟨_, rfl, ?_⟩, (List.forall_mem_cons.2 ⟨⟨_, rfl, ?_⟩, List.forall_mem_nil _⟩)⟩)
    · skip
      refine o_mknd kv95 treeNodeC 94 26 32 (fun x => x.up.length) hI hA rfl fun g3 a w hI hA => ?_
      refine o_nil <| ⟨(.inr (hI.sl [1, 2] rfl)), ?_⟩
      refine gF 7 rfl ?_
      refine o_box [[.int .u32 x0.Version], av .u8 32 x0.Prev, av .u8 32 x0.Root, [.int .u32 x0.Time], [.int .u32 x0.Work], [.int .u32 x0.Nonce], [.int .i64 0], [.int .u64 (IntKind.u64.wrap x0.Work)], [(.slice none 0 0)]] hI hA rfl rfl rfl fun g4 a w hA hI hg4 => ?_
      refine o_nil <| ⟨(.inr (hI.sl [2, 3] rfl)), ?_⟩
      refine gF 8 rfl ?_
      have hI := hI.nilRow 26 32
      obtain ⟨hb1, H⟩ := bG H
      have hno1 := Option.isNone_iff_eq_none.1 hb1
      have hI : Iv w0 [] μ μ [cel g4 (treeNodeC ((⟨x0, 0, IntKind.u64.wrap x0.Work, []⟩ : treeNode) : treeNode) (.slice none 0 0)) 94, row 26 32 (.slice none 0 0) ((⟨x0, 0, IntKind.u64.wrap x0.Work, []⟩ : treeNode) : treeNode).up.length ([]), nd95 g3 ([] : List ((List Int) × treeNode)) (fun _ => (0, .pointer none, [])), cel g2 [av .u8 32 r1] 26, cel g1 [[.int .u32 x0.Version], av .u8 32 x0.Prev, av .u8 32 x0.Root, [.int .u32 x0.Time], [.int .u32 x0.Work], [.int .u32 x0.Nonce]] 28] w := hI.sl [1, 0, 2, 3, 4] rfl
      refine o_nins (NC := treeNodeC) (ln := fun x => x.up.length) (kv := kv95) g4 ((⟨x0, 0, IntKind.u64.wrap x0.Work, []⟩ : treeNode) : treeNode) kn95 Tryd.underlying95 (NdW.nil : nw95 μ [] (fun _ => (0, .pointer none, []))).1 hz1 hno1 hI hA rfl rfl rfl fun w hI => ?_
      refine o_nil <| ⟨(.inr (hI.sl [1, 2] rfl)), ?_⟩
      refine gE 9 hA rfl (.inr (hI.sl [1, 2] rfl)) (fun _ => r_mv hA rfl) fun a hA => ?_
      refine gF 11 rfl ?_
      refine stp hA (r_bldS (cs := [[.map (some g3)], av .u8 32 r1].flatten.toArray) (pl := [(0, 1), (1, 32)]) zr97 Tryd.underlying97 ⟨rfl, sz95, rfl, sz26, trivial⟩ hA rfl ((fill_seg [] [[.map none]] [[.map (some g3)]] [av .u8 32 (List.replicate 32 0)] rfl rfl rfl rfl rfl).trans ((fill_seg [[.map (some g3)]] [av .u8 32 (List.replicate 32 0)] [av .u8 32 r1] [] rfl rfl rfl rfl rfl).trans (rfl)))) rfl fun a hA => ?_
      refine o_nil <| ⟨(.inr (hI.sl [1, 2] rfl)), ?_⟩
      refine gF 12 rfl ?_
      refine o_box [[.map (some g3)], av .u8 32 r1] hI hA rfl rfl rfl fun g5 a w hA hI hg5 => ?_
      refine o_nil <| ⟨(.inr (hI.sl [2, 3] rfl)), ?_⟩
      refine gE 13 hA rfl (.inr (hI.sl [2, 3] rfl)) (fun _ => r_as hA rfl) fun a hA => ?_
      refine gN <| hN3 _ _ <| w_ret ?_
      obtain rfl := sJ H
      exact ret1 hA Tryd.results17 rfl ⟨_, rfl, g5, g3, (gup (fun _ => (0, .pointer none, [])) r1 (g4, (.slice none 0 0), [])), rfl, (NdW.put (u := (g4, (.slice none 0 0), [])) (NdW.nil : nw95 μ [] (fun _ => (0, .pointer none, []))) hz1 ⟨⟨hx0.1, hx0.2.1, hx0.2.2.1, hx0.2.2.2.1, hx0.2.2.2.2.1, hx0.2.2.2.2.2⟩, (in_lit .i64 0 rfl), (wrap_in _ _), (Els.nil (RE := (RA .u8 32)) (sz := 32))⟩), hz1, ((hI.sl [0, 1] rfl).less (Store.le.refl _) hI.le)⟩
    · skip
      refine o_box [[.int .u32 x0.Version], av .u8 32 x0.Prev, av .u8 32 x0.Root, [.int .u32 x0.Time], [.int .u32 x0.Work], [.int .u32 x0.Nonce], [.int .i64 0], [.int .u64 (IntKind.u64.wrap x0.Work)], [(.slice none 0 0)]] hI hA rfl rfl rfl fun g3 a w hA hI hg3 => ?_
      refine o_nil <| ⟨(.inr (hI.sl [1, 2] rfl)), ?_⟩
      refine gF 0 rfl ?_
      refine o_mknd kv95 treeNodeC 94 26 32 (fun x => x.up.length) hI hA rfl fun g4 a w hI hA => ?_
      refine o_nil <| ⟨(.inr (hI.sl [2, 3] rfl)), ?_⟩
      refine gF 8 rfl ?_
      have hI := hI.nilRow 26 32
      obtain ⟨hb1, H⟩ := bG H
      have hno1 := Option.isNone_iff_eq_none.1 hb1
      have hI : Iv w0 [] μ μ [cel g3 (treeNodeC ((⟨x0, 0, IntKind.u64.wrap x0.Work, []⟩ : treeNode) : treeNode) (.slice none 0 0)) 94, row 26 32 (.slice none 0 0) ((⟨x0, 0, IntKind.u64.wrap x0.Work, []⟩ : treeNode) : treeNode).up.length ([]), nd95 g4 ([] : List ((List Int) × treeNode)) (fun _ => (0, .pointer none, [])), cel g2 [av .u8 32 r1] 26, cel g1 [[.int .u32 x0.Version], av .u8 32 x0.Prev, av .u8 32 x0.Root, [.int .u32 x0.Time], [.int .u32 x0.Work], [.int .u32 x0.Nonce]] 28] w := hI.sl [2, 0, 1, 3, 4] rfl
      refine o_nins (NC := treeNodeC) (ln := fun x => x.up.length) (kv := kv95) g3 ((⟨x0, 0, IntKind.u64.wrap x0.Work, []⟩ : treeNode) : treeNode) kn95 Tryd.underlying95 (NdW.nil : nw95 μ [] (fun _ => (0, .pointer none, []))).1 hz1 hno1 hI hA rfl rfl rfl fun w hI => ?_
      refine o_nil <| ⟨(.inr (hI.sl [1, 2] rfl)), ?_⟩
      refine gE 9 hA rfl (.inr (hI.sl [1, 2] rfl)) (fun _ => r_mv hA rfl) fun a hA => ?_
      refine gF 11 rfl ?_
      refine stp hA (r_bldS (cs := [[.map (some g4)], av .u8 32 r1].flatten.toArray) (pl := [(0, 1), (1, 32)]) zr97 Tryd.underlying97 ⟨rfl, sz95, rfl, sz26, trivial⟩ hA rfl ((fill_seg [] [[.map none]] [[.map (some g4)]] [av .u8 32 (List.replicate 32 0)] rfl rfl rfl rfl rfl).trans ((fill_seg [[.map (some g4)]] [av .u8 32 (List.replicate 32 0)] [av .u8 32 r1] [] rfl rfl rfl rfl rfl).trans (rfl)))) rfl fun a hA => ?_
      refine o_nil <| ⟨(.inr (hI.sl [1, 2] rfl)), ?_⟩
      refine gF 12 rfl ?_
      refine o_box [[.map (some g4)], av .u8 32 r1] hI hA rfl rfl rfl fun g5 a w hA hI hg5 => ?_
      refine o_nil <| ⟨(.inr (hI.sl [2, 3] rfl)), ?_⟩
      refine gE 13 hA rfl (.inr (hI.sl [2, 3] rfl)) (fun _ => r_as hA rfl) fun a hA => ?_
      refine gN <| hN3 _ _ <| w_ret ?_
      obtain rfl := sJ H
      exact ret1 hA Tryd.results17 rfl ⟨_, rfl, g5, g4, (gup (fun _ => (0, .pointer none, [])) r1 (g3, (.slice none 0 0), [])), rfl, (NdW.put (u := (g3, (.slice none 0 0), [])) (NdW.nil : nw95 μ [] (fun _ => (0, .pointer none, []))) hz1 ⟨⟨hx0.1, hx0.2.1, hx0.2.2.1, hx0.2.2.2.1, hx0.2.2.2.2.1, hx0.2.2.2.2.2⟩, (in_lit .i64 0 rfl), (wrap_in _ _), (Els.nil (RE := (RA .u8 32)) (sz := 32))⟩), hz1, ((hI.sl [0, 1] rfl).less (Store.le.refl _) hI.le)⟩
set_option maxRecDepth 20000 in
theorem tree_Tree_Start.c (μ : Store) (w0 : World) (hμ : Agr μ w0) (x0 : treeTree) (gm1 : Nat) (gs1 : (List Int) → NG) (g0 : Nat) (hp1 : nw95 μ x0.m gs1) (hp2 : Arr .u8 32 x0.start) (ho0 : Its μ w0 [cel g0 [[.map (some gm1)], av .u8 32 x0.start] 97, nd95 gm1 x0.m gs1]) (r : List Int) (H : tree_Tree_Start.f x0 = some r) :
    Calls Tryd.prog 27 [.pointer (some ⟨g0, 0, none⟩)].toArray w0 (fun e w' => ∃ v, e = .returned v ∧ v = .agg [av .u8 32 r].flatten.toArray ∧ Arr .u8 32 r ∧ Iv w0 (many [cel g0 [[.map (some gm1)], av .u8 32 x0.start] 97, nd95 gm1 x0.m gs1]).foot μ μ [cel g0 [[.map (some gm1)], av .u8 32 x0.start] 97, nd95 gm1 x0.m gs1] w') := by
  refine enter Tryd.func27 rfl Tryd.ntmps27 rfl fun a hA => ?_
  have hI := Iv.startN hμ ho0
  have H := bI H
  refine w_seq fun _ hN1 => w_reg <| o_new [av .u8 32 (List.replicate 32 0)] zr26 hI hA rfl fun g1 a w hA hI hg1 => ?_
  refine o_nil <| hN1 _ _ <| w_seq fun _ hN2 => w_reg <| stm hA rfl rfl fun a hA => 
    stp hA (r_nilc hA rfl) rfl fun a hA => 
    stp hA (r_fd (k := 1) Tryd.underlying97 rfl sz26 hA rfl rfl) rfl fun a hA => 
    stp hA (r_ldA (j := 1) [[.map (some gm1)]] [av .u8 32 x0.start] [] Tryd.underlying26 rfl sz26 rfl hI rfl hA rfl rfl) rfl fun a hA => 
    o_st (j := 0) [] [av .u8 32 (List.replicate 32 0)] [av .u8 32 x0.start] [] sz26 rfl rfl (fl_cons (one_av _ _ _) fl_nil) hI rfl hA rfl rfl rfl rfl fun w hI => ?_
  refine o_nil <| hN2 _ _ <| w_ret ?_
  obtain rfl := sJ H
  exact retc Tryd.underlying26 rfl sz26 rfl hI (j := 0) rfl hA Tryd.results27 rfl ⟨_, rfl, rfl, hp2, ((hI.sl [1, 2] rfl).less (Store.le.refl _) hI.le)⟩
set_option maxRecDepth 20000 in
theorem tree_Tree_Height.c (μ : Store) (w0 : World) (hμ : Agr μ w0) (x0 : treeTree) (gm1 : Nat) (gs1 : (List Int) → NG) (g0 : Nat) (hp1 : nw95 μ x0.m gs1) (hp2 : Arr .u8 32 x0.start) (ho0 : Its μ w0 [cel g0 [[.map (some gm1)], av .u8 32 x0.start] 97, nd95 gm1 x0.m gs1]) (x1 : List Int) (hx1 : Arr .u8 32 x1) (r : Int × Bool) (H : tree_Tree_Height.f x0 x1 = some r) :
    Calls Tryd.prog 47 [.pointer (some ⟨g0, 0, none⟩), .agg [av .u8 32 x1].flatten.toArray].toArray w0 (fun e w' => ∃ v, e = .returned v ∧ v = .tuple #[.int .i64 (r.1), .bool (r.2)] ∧ InR .i64 (r.1) ∧ True ∧ Iv w0 (many [cel g0 [[.map (some gm1)], av .u8 32 x0.start] 97, nd95 gm1 x0.m gs1]).foot μ μ [cel g0 [[.map (some gm1)], av .u8 32 x0.start] 97, nd95 gm1 x0.m gs1] w') := by
  refine enter Tryd.func47 rfl Tryd.ntmps47 rfl fun a hA => ?_
  have hI := Iv.startN hμ ho0
  have H := bI H
  refine w_seq fun _ hN1 => w_reg <| o_box [av .u8 32 x1] hI hA rfl rfl rfl fun g1 a w hA hI hg1 => 
    sta hA rfl rfl fun a hA => 
    sta hA rfl rfl fun a hA => ?_
  refine o_nil <| hN1 _ _ <| w_seq fun _ hN2 => w_seq fun _ hN3 => ?_
  refine w_draw mo (by kernel_rfl) hI ?_
  refine qtp hA (fun _ hI => r_mv hA rfl) rfl fun a hA => 
    qtp hA (fun _ hI => r_nilc hA rfl) rfl fun a hA => 
    qtp hA (fun _ hI => r_fd (k := 0) Tryd.underlying97 rfl sz95 hA rfl rfl) rfl fun a hA => 
    qtp hA (fun _ hI => r_ld1 (j := 1) [] [av .u8 32 x0.start] Tryd.underlying95 rfl hI rfl hA rfl rfl) rfl fun a hA => 
    qtp hA (fun _ hI => r_ldA (j := 0) [] [av .u8 32 x1] [] Tryd.underlying26 rfl sz26 rfl hI rfl hA rfl rfl) rfl fun a hA => 
    qtp hA (fun _ hI => r_nlook2 (j := 2) kn95 Tryd.underlying95 mz95 hp1.1 hx1 hI rfl hA rfl rfl) rfl fun a hA => 
    qtp hA (fun _ hI => r_mv hA rfl) rfl fun a hA => 
    qtp hA (fun _ hI => r_extr (vs := [pvn gs1 (lkn x0.m x1), .bool ((mget x0.m x1).isSome)]) hA rfl rfl) rfl fun a hA => 
    qtp hA (fun _ hI => r_extr (vs := [pvn gs1 (lkn x0.m x1), .bool ((mget x0.m x1).isSome)]) hA rfl rfl) rfl fun a hA => 
    qtp hA (fun _ hI => r_as hA rfl) rfl fun a hA => 
    qtp hA (fun _ hI => r_as hA rfl) rfl fun a hA => ?_
  refine q_nil fun w hI => ?_
  refine hN3 _ _ <| w_seq fun _ hN4 => w_reg <| stm hA rfl rfl fun a hA => ?_
  refine o_nil <| hN4 _ _ <| w_cond hA rfl (fun hc1 => ?_) (fun hc1 => ?_)
  · have H := bT H hc1
    refine w_seq fun _ hN5 => w_reg <| stm hA rfl rfl fun a hA => ?_
    obtain ⟨nd1, hn1, H⟩ := bB H
    obtain ⟨kk1, ho1, hk1⟩ := nget_some hn1
    have hw1 : HeadW μ nd1.head := (NdW.at hp1 hk1).1
    refine stp hA (r_nilcN ho1 hA rfl) rfl fun a hA => 
      stp hA (r_fd (k := 68) Tryd.underlying94 rfl sz3 hA rfl rfl) rfl fun a hA => 
      stp hA (r_ld1 (j := 0) [[.int .u32 nd1.head.Version], av .u8 32 nd1.head.Prev, av .u8 32 nd1.head.Root, [.int .u32 nd1.head.Time], [.int .u32 nd1.head.Work], [.int .u32 nd1.head.Nonce]] [[.int .u64 nd1.work], [(gs1 kk1).2.1]] Tryd.underlying3 rfl ((hI.sl [2] rfl).focus hp1.1.2 hk1) rfl hA rfl rfl) rfl fun a hA => 
      sta hA rfl rfl fun a hA => 
      sta hA rfl rfl fun a hA => ?_
    refine o_nil <| hN5 _ _ <| w_ret ?_
    obtain rfl := sJ H
    exact ret2 hA Tryd.results47 rfl rfl ⟨_, rfl, rfl, (NdW.at hp1 hk1).2.1, trivial, ((hI.sl [1, 2] rfl).less (Store.le.refl _) hI.le)⟩
  · have hc1 := ft hc1; have H := bF H hc1
    refine w_skip <| hN2 _ _ <| w_seq fun _ hN6 => w_reg <| sta hA rfl rfl fun a hA => 
      sta hA rfl rfl fun a hA => ?_
    refine o_nil <| hN6 _ _ <| w_ret ?_
    obtain rfl := sJ H
    exact ret2 hA Tryd.results47 rfl rfl ⟨_, rfl, rfl, (in_lit .i64 0 rfl), trivial, ((hI.sl [1, 2] rfl).less (Store.le.refl _) hI.le)⟩
set_option maxRecDepth 20000 in
theorem tree_Tree_Len.c (μ : Store) (w0 : World) (hμ : Agr μ w0) (x0 : treeTree) (gm1 : Nat) (gs1 : (List Int) → NG) (g0 : Nat) (hp1 : nw95 μ x0.m gs1) (hp2 : Arr .u8 32 x0.start) (ho0 : Its μ w0 [cel g0 [[.map (some gm1)], av .u8 32 x0.start] 97, nd95 gm1 x0.m gs1]) (r : Int) (H : tree_Tree_Len.f x0 = some r) :
    Calls Tryd.prog 48 [.pointer (some ⟨g0, 0, none⟩)].toArray w0 (fun e w' => ∃ v, e = .returned v ∧ v = .int .i64 r ∧ True ∧ Iv w0 (many [cel g0 [[.map (some gm1)], av .u8 32 x0.start] 97, nd95 gm1 x0.m gs1]).foot μ μ [cel g0 [[.map (some gm1)], av .u8 32 x0.start] 97, nd95 gm1 x0.m gs1] w') := by
  refine enter Tryd.func48 rfl Tryd.ntmps48 rfl fun a hA => ?_
  have hI := Iv.startN hμ ho0
  have H := bI H
  refine w_seq fun _ hN1 => w_reg <| sta hA rfl rfl fun a hA => ?_
  refine o_nil <| hN1 _ _ <| w_seq fun _ hN2 => w_reg <| stm hA rfl rfl fun a hA => 
    stp hA (r_nilc hA rfl) rfl fun a hA => 
    stp hA (r_fd (k := 0) Tryd.underlying97 rfl sz95 hA rfl rfl) rfl fun a hA => 
    stp hA (r_ld1 (j := 0) [] [av .u8 32 x0.start] Tryd.underlying95 rfl hI rfl hA rfl rfl) rfl fun a hA => 
    stp hA (r_nlen (j := 1) Tryd.underlying95 hI rfl hA rfl) rfl fun a hA => 
    sta hA rfl rfl fun a hA => ?_
  refine o_nil <| hN2 _ _ <| w_ret ?_
  obtain rfl := sJ H
  exact ret1 hA Tryd.results48 rfl ⟨_, rfl, rfl, trivial, (hI.less (Store.le.refl _) hI.le)⟩
set_option maxRecDepth 20000 in
theorem tree_Tree_Add.c (μ : Store) (w0 : World) (hμ : Agr μ w0) (x0 : treeTree) (gm1 : Nat) (gs1 : (List Int) → NG) (g0 : Nat) (hp1 : nw95 μ x0.m gs1) (hp2 : Arr .u8 32 x0.start) (ho0 : Its μ w0 [cel g0 [[.map (some gm1)], av .u8 32 x0.start] 97, nd95 gm1 x0.m gs1]) (x1 : Head) (hx1 : HeadW μ x1) (e4 : Value) (he4 : ErS μ e4 (Er.b 5)) (e5 : Value) (he5 : ErS μ e5 (Er.b 6)) (e6 : Value) (he6 : ErS μ e6 (Er.b 7)) (r : Er × treeTree) (H : tree_Tree_Add.f x0 x1 = some r) :
    Calls Tryd.prog 18 [.pointer (some ⟨g0, 0, none⟩), .agg [[.int .u32 x1.Version], av .u8 32 x1.Prev, av .u8 32 x1.Root, [.int .u32 x1.Time], [.int .u32 x1.Work], [.int .u32 x1.Nonce]].flatten.toArray].toArray w0 (fun e w' => ∃ v, e = .returned v ∧ ∃ (v0 : Value) (gm_1 : Nat) (gs_1 : (List Int) → NG) (μ' : Store), v = v0 ∧ ErS μ' v0 (r.1) ∧ nw95 μ' (r.2).m gs_1 ∧ Arr .u8 32 (r.2).start ∧ Iv w0 (many [cel g0 [[.map (some gm1)], av .u8 32 x0.start] 97, nd95 gm1 x0.m gs1]).foot μ μ' [cel g0 [[.map (some gm_1)], av .u8 32 ((r.2).start)] 97, nd95 gm_1 ((r.2).m) gs_1] w') := by
  refine enter Tryd.func18 rfl Tryd.ntmps18 rfl fun a hA => ?_
  have hI := Iv.startN hμ ho0
  have H := bI H
  refine w_seq fun _ hN1 => w_reg <| o_box [[.int .u32 x1.Version], av .u8 32 x1.Prev, av .u8 32 x1.Root, [.int .u32 x1.Time], [.int .u32 x1.Work], [.int .u32 x1.Nonce]] hI hA rfl rfl rfl fun g1 a w hA hI hg1 => 
    sta hA rfl rfl fun a hA => ?_
  refine o_nil <| hN1 _ _ <| w_seq fun _ hN2 => w_reg <| stp hA (r_ldA (j := 0) [] [[.int .u32 x1.Version], av .u8 32 x1.Prev, av .u8 32 x1.Root, [.int .u32 x1.Time], [.int .u32 x1.Work], [.int .u32 x1.Nonce]] [] Tryd.underlying28 rfl sz28 rfl hI rfl hA rfl rfl) rfl fun a hA => ?_
  obtain ⟨r1, hr1, H⟩ := bB H
  refine o_callp (u := .agg [av .u8 32 r1].flatten.toArray) cf49 hA rfl hI (head_ID.c μ _ hI.agr x1 ⟨hx1.1, hx1.2.1, hx1.2.2.1, hx1.2.2.2.1, hx1.2.2.2.2.1, hx1.2.2.2.2.2⟩ r1 hr1) rfl fun a w hz1 hI hA => 
    o_new [av .u8 32 (List.replicate 32 0)] zr26 hI hA rfl fun g2 a w hA hI hg2 => 
    o_st (j := 0) [] [av .u8 32 (List.replicate 32 0)] [av .u8 32 r1] [] sz26 rfl rfl (fl_cons (one_av _ _ _) fl_nil) hI rfl hA rfl rfl rfl rfl fun w hI => ?_
  refine o_nil <| hN2 _ _ <| w_seq fun _ hN3 => w_seq fun _ hN4 => ?_
  refine w_draw mo (by kernel_rfl) hI ?_
  refine qtp hA (fun _ hI => r_mv hA rfl) rfl fun a hA => 
    qtp hA (fun _ hI => r_nilc hA rfl) rfl fun a hA => 
    qtp hA (fun _ hI => r_fd (k := 0) Tryd.underlying97 rfl sz95 hA rfl rfl) rfl fun a hA => 
    qtp hA (fun _ hI => r_ld1 (j := 2) [] [av .u8 32 x0.start] Tryd.underlying95 rfl hI rfl hA rfl rfl) rfl fun a hA => 
    qtp hA (fun _ hI => r_ldA (j := 0) [] [av .u8 32 r1] [] Tryd.underlying26 rfl sz26 rfl hI rfl hA rfl rfl) rfl fun a hA => 
    qtp hA (fun _ hI => r_nlook2 (j := 3) kn95 Tryd.underlying95 mz95 hp1.1 hz1 hI rfl hA rfl rfl) rfl fun a hA => 
    qtp hA (fun _ hI => r_mv hA rfl) rfl fun a hA => 
    qtp hA (fun _ hI => r_extr (vs := [pvn gs1 (lkn x0.m r1), .bool ((mget x0.m r1).isSome)]) hA rfl rfl) rfl fun a hA => 
    qtp hA (fun _ hI => r_extr (vs := [pvn gs1 (lkn x0.m r1), .bool ((mget x0.m r1).isSome)]) hA rfl rfl) rfl fun a hA => 
    qtp hA (fun _ hI => r_as hA rfl) rfl fun a hA => 
    qtp hA (fun _ hI => r_as hA rfl) rfl fun a hA => ?_
  refine q_nil fun w hI => ?_
  refine hN4 _ _ <| w_seq fun _ hN5 => w_reg <| stm hA rfl rfl fun a hA => ?_
  refine o_nil <| hN5 _ _ <| w_cond hA rfl (fun hc1 => ?_) (fun hc1 => ?_)
  · have H := bT H hc1
    refine w_seq fun _ hN6 => w_reg <| stp hA (r_ldG Tryd.underlying47 rfl hI.agr he4 hA) rfl fun a hA => 
      sta hA rfl rfl fun a hA => ?_
    refine o_nil <| hN6 _ _ <| w_ret ?_
    obtain rfl := sJ H
    exact ret1 hA Tryd.results18 rfl ⟨_, rfl, e4, gm1, gs1, μ, rfl, he4, hp1, hp2, (hI.sl [2, 3] rfl)⟩
  · have hc1 := ft hc1; have H := bF H hc1
    refine w_skip <| hN3 _ _ <| w_seq fun _ hN7 => ?_
    refine w_draw mo (by kernel_rfl) hI ?_
    refine qtp hA (fun _ hI => r_mv hA rfl) rfl fun a hA => 
      qtp hA (fun _ hI => r_nilc hA rfl) rfl fun a hA => 
      qtp hA (fun _ hI => r_fd (k := 0) Tryd.underlying97 rfl sz95 hA rfl rfl) rfl fun a hA => 
      qtp hA (fun _ hI => r_ld1 (j := 2) [] [av .u8 32 x0.start] Tryd.underlying95 rfl hI rfl hA rfl rfl) rfl fun a hA => 
      qtp hA (fun _ hI => r_fd (k := 1) Tryd.underlying28 rfl sz26 hA rfl rfl) rfl fun a hA => 
      qtp hA (fun _ hI => r_ldA (j := 1) [[.int .u32 x1.Version]] [av .u8 32 x1.Prev] [av .u8 32 x1.Root, [.int .u32 x1.Time], [.int .u32 x1.Work], [.int .u32 x1.Nonce]] Tryd.underlying26 rfl sz26 rfl hI rfl hA rfl rfl) rfl fun a hA => 
      qtp hA (fun _ hI => r_nlook2 (j := 3) kn95 Tryd.underlying95 mz95 hp1.1 hx1.2.1 hI rfl hA rfl rfl) rfl fun a hA => 
      qtp hA (fun _ hI => r_mv hA rfl) rfl fun a hA => 
      qtp hA (fun _ hI => r_extr (vs := [pvn gs1 (lkn x0.m x1.Prev), .bool ((mget x0.m x1.Prev).isSome)]) hA rfl rfl) rfl fun a hA => 
      qtp hA (fun _ hI => r_extr (vs := [pvn gs1 (lkn x0.m x1.Prev), .bool ((mget x0.m x1.Prev).isSome)]) hA rfl rfl) rfl fun a hA => 
      qtp hA (fun _ hI => r_as hA rfl) rfl fun a hA => 
      qtp hA (fun _ hI => r_as hA rfl) rfl fun a hA => ?_
    refine q_nil fun w hI => ?_
    refine hN7 _ _ <| w_seq fun _ hN8 => w_block <| w_seq fun _ hN9 => w_reg <| stm hA rfl rfl fun a hA => 
      stp hA (r_not hA rfl) rfl fun a hA => 
      sta hA rfl rfl fun a hA => ?_
    refine o_nil <| hN9 _ _ <| w_cond hA rfl (fun hc2 => ?_) (fun hc2 => ?_)
    · have hc2 := nT hc2; have hc2 := ft hc2; have H := bF H hc2
      refine w_seq fun _ hN10 => w_reg <| stp hA (r_ldG Tryd.underlying47 rfl hI.agr he5 hA) rfl fun a hA => 
        sta hA rfl rfl fun a hA => ?_
      refine o_nil <| hN10 _ _ <| w_ret ?_
      obtain rfl := sJ H
      exact ret1 hA Tryd.results18 rfl ⟨_, rfl, e5, gm1, gs1, μ, rfl, he5, hp1, hp2, (hI.sl [2, 3] rfl)⟩
    · have hc2 := nF hc2; have H := bT H hc2
      refine w_seq fun _ hN11 => w_reg <| stm hA rfl rfl fun a hA => 
        stp hA (r_nilc hA rfl) rfl fun a hA => 
        stp hA (r_fd (k := 0) Tryd.underlying97 rfl sz95 hA rfl rfl) rfl fun a hA => 
        stp hA (r_ld1 (j := 2) [] [av .u8 32 x0.start] Tryd.underlying95 rfl hI rfl hA rfl rfl) rfl fun a hA => 
        stp hA (r_nlen (j := 3) Tryd.underlying95 hI rfl hA rfl) rfl fun a hA => 
        stp hA (r_geq hA rfl rfl) rfl fun a hA => 
        sta hA rfl rfl fun a hA => ?_
      refine o_nil <| hN11 _ _ <| w_cond hA rfl (fun hc3 => ?_) (fun hc3 => ?_)
      · obtain ⟨hc3, H⟩ := dT H hc3
        refine w_seq fun _ hN12 => w_reg <| stp hA (r_ldG Tryd.underlying47 rfl hI.agr he6 hA) rfl fun a hA => 
          sta hA rfl rfl fun a hA => ?_
        refine o_nil <| hN12 _ _ <| w_ret ?_
        obtain rfl := sJ H
        exact ret1 hA Tryd.results18 rfl ⟨_, rfl, e6, gm1, gs1, μ, rfl, he6, hp1, hp2, (hI.sl [2, 3] rfl)⟩
      · obtain ⟨hc3, H⟩ := dF H hc3
        refine w_skip <| hN8 _ _ <| w_seq fun _ hN13 => ?_
        refine w_any [21] mo hI fun w hI => ?_
        refine gE 0 hA rfl (.inr hI) (fun _ => r_mv hA rfl) fun a hA => ?_
        refine gE 1 hA rfl (.inr hI) (fun _ => r_nilc hA rfl) fun a hA => ?_
        refine gE 2 hA rfl (.inr hI) (fun _ => r_fd (k := 0) Tryd.underlying97 rfl sz95 hA rfl rfl) fun a hA => ?_
        refine gT 3 hA rfl hI (fun w hI => r_ld1 (j := 2) [] [av .u8 32 x0.start] Tryd.underlying95 rfl hI rfl hA rfl rfl) fun a hA => ?_
        refine gT 4 hA rfl hI (fun w hI => r_ldA (j := 0) [] [av .u8 32 r1] [] Tryd.underlying26 rfl sz26 rfl hI rfl hA rfl rfl) fun a hA => ?_
        refine gT 5 hA rfl hI (fun w hI => r_ldA (j := 1) [] [[.int .u32 x1.Version], av .u8 32 x1.Prev, av .u8 32 x1.Root, [.int .u32 x1.Time], [.int .u32 x1.Work], [.int .u32 x1.Nonce]] [] Tryd.underlying28 rfl sz28 rfl hI rfl hA rfl rfl) fun a hA => ?_
        refine gE 6 hA rfl (.inr hI) (fun _ => r_mv hA rfl) fun a hA => ?_
        obtain ⟨nd1, hn1, H⟩ := bB H
        obtain ⟨kk1, ho1, hk1⟩ := nget_some hn1
        have hw1 : HeadW μ nd1.head := (NdW.at hp1 hk1).1
        refine gE 7 hA rfl (.inr hI) (fun _ => r_nilcN ho1 hA rfl) fun a hA => ?_
        refine gE 8 hA rfl (.inr hI) (fun _ => r_fd (k := 68) Tryd.underlying94 rfl sz3 hA rfl rfl) fun a hA => ?_
        refine gT 9 hA rfl hI (fun w hI => r_ld1 (j := 0) [[.int .u32 nd1.head.Version], av .u8 32 nd1.head.Prev, av .u8 32 nd1.head.Root, [.int .u32 nd1.head.Time], [.int .u32 nd1.head.Work], [.int .u32 nd1.head.Nonce]] [[.int .u64 nd1.work], [(gs1 kk1).2.1]] Tryd.underlying3 rfl ((hI.sl [3] rfl).focus hp1.1.2 hk1) rfl hA rfl rfl) fun a hA => ?_
        refine gE 10 hA rfl (.inr hI) (fun _ => r_add hA rfl rfl) fun a hA => ?_
        refine gE 11 hA rfl (.inr hI) (fun _ => r_mv hA rfl) fun a hA => ?_
        refine gE 12 hA rfl (.inr hI) (fun _ => r_nilcN ho1 hA rfl) fun a hA => ?_
        refine gE 13 hA rfl (.inr hI) (fun _ => r_fd (k := 69) Tryd.underlying94 rfl sz34 hA rfl rfl) fun a hA => ?_
        refine gT 14 hA rfl hI (fun w hI => r_ld1 (j := 0) [[.int .u32 nd1.head.Version], av .u8 32 nd1.head.Prev, av .u8 32 nd1.head.Root, [.int .u32 nd1.head.Time], [.int .u32 nd1.head.Work], [.int .u32 nd1.head.Nonce], [.int .i64 nd1.height]] [[(gs1 kk1).2.1]] Tryd.underlying34 rfl ((hI.sl [3] rfl).focus hp1.1.2 hk1) rfl hA rfl rfl) fun a hA => ?_
        refine gE 15 hA rfl (.inr hI) (fun _ => r_fd (k := 66) Tryd.underlying28 rfl sz24 hA rfl rfl) fun a hA => ?_
        refine gT 16 hA rfl hI (fun w hI => r_ld1 (j := 1) [[.int .u32 x1.Version], av .u8 32 x1.Prev, av .u8 32 x1.Root, [.int .u32 x1.Time]] [[.int .u32 x1.Nonce]] Tryd.underlying24 rfl hI rfl hA rfl rfl) fun a hA => ?_
        refine gE 17 hA rfl (.inr hI) (fun _ => r_conv Tryd.underlying24 Tryd.underlying34 hA rfl) fun a hA => ?_
        refine gE 18 hA rfl (.inr hI) (fun _ => r_add hA rfl rfl) fun a hA => ?_
        refine gF 19 rfl ?_
        refine stp hA (r_bldS (cs := [[.int .u32 x1.Version], av .u8 32 x1.Prev, av .u8 32 x1.Root, [.int .u32 x1.Time], [.int .u32 x1.Work], [.int .u32 x1.Nonce], [.int .i64 (IntKind.i64.wrap (nd1.height + 1))], [.int .u64 (IntKind.u64.wrap (nd1.work + (IntKind.u64.wrap x1.Work)))], [(.slice none 0 0)]].flatten.toArray) (pl := [(0, 68), (68, 1), (69, 1), (70, 1)]) zr94 Tryd.underlying94 ⟨rfl, sz28, rfl, sz3, rfl, sz34, rfl, sz62, trivial⟩ hA rfl (by kernel_rfl)) rfl fun a hA => ?_
        refine o_nil <| ⟨(.inr hI), ?_⟩
        refine gF 20 rfl ?_
        refine o_box [[.int .u32 x1.Version], av .u8 32 x1.Prev, av .u8 32 x1.Root, [.int .u32 x1.Time], [.int .u32 x1.Work], [.int .u32 x1.Nonce], [.int .i64 (IntKind.i64.wrap (nd1.height + 1))], [.int .u64 (IntKind.u64.wrap (nd1.work + (IntKind.u64.wrap x1.Work)))], [(.slice none 0 0)]] hI hA rfl rfl rfl fun g3 a w hA hI hg3 => ?_
        refine o_nil <| ⟨(.inr (hI.sl [1, 2, 3, 4] rfl)), ?_⟩
        refine gF 21 rfl ?_
        have hI := hI.nilRow 26 32
        obtain ⟨hb1, H⟩ := bG H
        have hno1 := Option.isNone_iff_eq_none.1 hb1
        have hI : Iv w0 (many [cel g0 [[.map (some gm1)], av .u8 32 x0.start] 97, nd95 gm1 x0.m gs1]).foot μ μ [cel g3 (treeNodeC ((⟨x1, IntKind.i64.wrap (nd1.height + 1), IntKind.u64.wrap (nd1.work + (IntKind.u64.wrap x1.Work)), []⟩ : treeNode) : treeNode) (.slice none 0 0)) 94, row 26 32 (.slice none 0 0) ((⟨x1, IntKind.i64.wrap (nd1.height + 1), IntKind.u64.wrap (nd1.work + (IntKind.u64.wrap x1.Work)), []⟩ : treeNode) : treeNode).up.length ([]), nd95 gm1 x0.m gs1, cel g2 [av .u8 32 r1] 26, cel g1 [[.int .u32 x1.Version], av .u8 32 x1.Prev, av .u8 32 x1.Root, [.int .u32 x1.Time], [.int .u32 x1.Work], [.int .u32 x1.Nonce]] 28, cel g0 [[.map (some gm1)], av .u8 32 x0.start] 97] w := hI.sl [1, 0, 5, 2, 3, 4] rfl
        refine o_nput (NC := treeNodeC) (ln := fun x => x.up.length) (kv := kv95) g3 ((⟨x1, IntKind.i64.wrap (nd1.height + 1), IntKind.u64.wrap (nd1.work + (IntKind.u64.wrap x1.Work)), []⟩ : treeNode) : treeNode) kn95 Tryd.underlying95 hp1.1 hz1 hno1 hI hA rfl rfl rfl fun w hI => ?_
        have hk2 : mget (mput x0.m r1 ((⟨x1, IntKind.i64.wrap (nd1.height + 1), IntKind.u64.wrap (nd1.work + (IntKind.u64.wrap x1.Work)), []⟩ : treeNode) : treeNode)) kk1 = some nd1 := (mget_mput_ne (mget_ne_of hno1 hk1)).trans hk1
        have hgs1 : (gup gs1 r1 (g3, (.slice none 0 0), [])) kk1 = gs1 kk1 := (gup_ne (mget_ne_of hno1 hk1))
        refine o_nil <| ⟨(.inl (by kernel_rfl)), ?_⟩
        refine gN <| hN13 _ _ <| w_seq fun _ hN14 => ?_
        have hw2 : HeadW μ nd1.head := (NdW.atB hgs1 (NdW.put (u := (g3, (.slice none 0 0), [])) hp1 hz1 ⟨⟨hx1.1, hx1.2.1, hx1.2.2.1, hx1.2.2.2.1, hx1.2.2.2.2.1, hx1.2.2.2.2.2⟩, (wrap_in _ _), (wrap_in _ _), (Els.nil (RE := (RA .u8 32)) (sz := 32))⟩) hk2).1
        have hI : Iv w0 (many [cel g0 [[.map (some gm1)], av .u8 32 x0.start] 97, nd95 gm1 x0.m gs1]).foot μ μ [cel (gs1 kk1).1 [[.int .u32 nd1.head.Version], av .u8 32 nd1.head.Prev, av .u8 32 nd1.head.Root, [.int .u32 nd1.head.Time], [.int .u32 nd1.head.Work], [.int .u32 nd1.head.Nonce], [.int .i64 nd1.height], [.int .u64 nd1.work], [(gs1 kk1).2.1]] 94, row 26 32 ((gs1 kk1).2.1) nd1.up.length ((gs1 kk1).2.2), nr95 gm1 (mput x0.m r1 ((⟨x1, IntKind.i64.wrap (nd1.height + 1), IntKind.u64.wrap (nd1.work + (IntKind.u64.wrap x1.Work)), []⟩ : treeNode) : treeNode)) (gup gs1 r1 (g3, (.slice none 0 0), [])) kk1, cel g2 [av .u8 32 r1] 26, cel g1 [[.int .u32 x1.Version], av .u8 32 x1.Prev, av .u8 32 x1.Root, [.int .u32 x1.Time], [.int .u32 x1.Work], [.int .u32 x1.Nonce]] 28, cel g0 [[.map (some gm1)], av .u8 32 x0.start] 97] w := Iv.focusB hgs1 (hI.sl [0, 1, 2, 3] rfl) (NdW.put (u := (g3, (.slice none 0 0), [])) hp1 hz1 ⟨⟨hx1.1, hx1.2.1, hx1.2.2.1, hx1.2.2.2.1, hx1.2.2.2.2.1, hx1.2.2.2.2.2⟩, (wrap_in _ _), (wrap_in _ _), (Els.nil (RE := (RA .u8 32)) (sz := 32))⟩).1.2 hk2
        refine w_any [7, 10] mo hI fun w hI => ?_
        refine gE 0 hA rfl (.inr hI) (fun _ => r_mv hA rfl) fun a hA => ?_
        refine gE 1 hA rfl (.inr hI) (fun _ => r_mv hA rfl) fun a hA => ?_
        refine gE 2 hA rfl (.inr hI) (fun _ => r_nilcN ho1 hA rfl) fun a hA => ?_
        refine gE 3 hA rfl (.inr hI) (fun _ => r_fd (k := 70) Tryd.underlying94 rfl sz62 hA rfl rfl) fun a hA => ?_
        refine gT 4 hA rfl hI (fun w hI => r_ld1 (j := 0) [[.int .u32 nd1.head.Version], av .u8 32 nd1.head.Prev, av .u8 32 nd1.head.Root, [.int .u32 nd1.head.Time], [.int .u32 nd1.head.Work], [.int .u32 nd1.head.Nonce], [.int .i64 nd1.height], [.int .u64 nd1.work]] [] Tryd.underlying62 rfl hI rfl hA rfl rfl) fun a hA => ?_
        refine gT 5 hA rfl hI (fun w hI => r_ldA (j := 3) [] [av .u8 32 r1] [] Tryd.underlying26 rfl sz26 rfl hI rfl hA rfl rfl) fun a hA => ?_
        refine gF 6 rfl ?_
        have hE1 : Els (RA .u8 32) 32 ([r1] : List (List Int)) _ := (Els.cons (c := [av .u8 32 r1].flatten) ⟨rfl, hz1⟩ rfl Els.nil)
        refine o_bsl ([av .u8 32 r1].flatten ++ ([])) te26 zr26 Tryd.underlying62 hI hA rfl rfl rfl rfl (by kernel_rfl) rfl fun g4 a w hA hI => ?_
        generalize hcs : ([av .u8 32 r1].flatten ++ ([]) : List Value) = cs1 at hE1 hI
        clear hcs
        refine o_nil <| ⟨(.inr (hI.sl [1, 2, 3, 4, 5, 6] rfl)), ?_⟩
        refine gF 7 rfl ?_
        obtain ⟨hb2, H⟩ := bG H
        have hE3 := ((NdW.atB hgs1 (NdW.put (u := (g3, (.slice none 0 0), [])) hp1 hz1 ⟨⟨hx1.1, hx1.2.1, hx1.2.2.1, hx1.2.2.2.1, hx1.2.2.2.2.1, hx1.2.2.2.2.2⟩, (wrap_in _ _), (wrap_in _ _), (Els.nil (RE := (RA .u8 32)) (sz := 32))⟩) hk2).2.2.2).app hE1
        refine o_appG (xs := (nd1.up : List (List Int))) (ys := (([r1] : List (List Int)) : List (List Int))) (M := 4398046511104) 2 te26 Tryd.underlying62 hI rfl hA rfl rfl (src_row hI (j := 0) rfl) hE1.len (hE1.ones (one_RA _ _)) hb2 rfl fun v1 a w hA hI => ?_
        refine o_nil <| ⟨(.inl (by kernel_rfl)), ?_⟩
        refine gE 8 hA rfl (.inl (by kernel_rfl)) (fun _ => r_nilcN ho1 hA rfl) fun a hA => ?_
        refine gE 9 hA rfl (.inl (by kernel_rfl)) (fun _ => r_fd (k := 70) Tryd.underlying94 rfl sz62 hA rfl rfl) fun a hA => ?_
        refine gF 10 rfl ?_
        have hone := own_one hI (j := 2) rfl
        have hcel := own_cell hI (j := 2) rfl
        refine o_st (j := 1) [[.int .u32 nd1.head.Version], av .u8 32 nd1.head.Prev, av .u8 32 nd1.head.Root, [.int .u32 nd1.head.Time], [.int .u32 nd1.head.Work], [.int .u32 nd1.head.Nonce], [.int .i64 nd1.height], [.int .u64 nd1.work]] [[(gs1 kk1).2.1]] [[v1]] [] sz62 rfl rfl (by intro c hc; simp at hc; subst hc; exact hone) hI rfl hA rfl rfl hcel rfl fun w hI => ?_
        refine o_nil <| ⟨(.inl (by kernel_rfl)), ?_⟩
        refine gN ?_
        have hI : Iv w0 (many [cel g0 [[.map (some gm1)], av .u8 32 x0.start] 97, nd95 gm1 x0.m gs1]).foot μ μ [cel (gs1 kk1).1 (treeNodeC ((⟨nd1.head, nd1.height, nd1.work, nd1.up ++ ([r1] : List (List Int))⟩ : treeNode) : treeNode) v1) 94, row 26 32 v1 ((⟨nd1.head, nd1.height, nd1.work, nd1.up ++ ([r1] : List (List Int))⟩ : treeNode) : treeNode).up.length (((gs1 kk1).2.2) ++ cs1), nr95 gm1 (mput x0.m r1 ((⟨x1, IntKind.i64.wrap (nd1.height + 1), IntKind.u64.wrap (nd1.work + (IntKind.u64.wrap x1.Work)), []⟩ : treeNode) : treeNode)) (gup gs1 r1 (g3, (.slice none 0 0), [])) kk1, row 26 32 (.slice (some ⟨g4, 0, none⟩) 1 1) ([r1] : List (List Int)).length cs1, cel g2 [av .u8 32 r1] 26, cel g1 [[.int .u32 x1.Version], av .u8 32 x1.Prev, av .u8 32 x1.Root, [.int .u32 x1.Time], [.int .u32 x1.Work], [.int .u32 x1.Nonce]] 28, cel g0 [[.map (some gm1)], av .u8 32 x0.start] 97] w := hI.sl [1, 2, 3, 0, 4, 5, 6] rfl
        have hI : Iv w0 (many [cel g0 [[.map (some gm1)], av .u8 32 x0.start] 97, nd95 gm1 x0.m gs1]).foot μ μ [nd95 gm1 (nput (mput x0.m r1 ((⟨x1, IntKind.i64.wrap (nd1.height + 1), IntKind.u64.wrap (nd1.work + (IntKind.u64.wrap x1.Work)), []⟩ : treeNode) : treeNode)) (lkn x0.m x1.Prev) ((⟨nd1.head, nd1.height, nd1.work, nd1.up ++ ([r1] : List (List Int))⟩ : treeNode) : treeNode)) (gup (gup gs1 r1 (g3, (.slice none 0 0), [])) kk1 ((gs1 kk1).1, v1, ((gs1 kk1).2.2) ++ cs1)), row 26 32 (.slice (some ⟨g4, 0, none⟩) 1 1) ([r1] : List (List Int)).length cs1, cel g2 [av .u8 32 r1] 26, cel g1 [[.int .u32 x1.Version], av .u8 32 x1.Prev, av .u8 32 x1.Root, [.int .u32 x1.Time], [.int .u32 x1.Work], [.int .u32 x1.Nonce]] 28, cel g0 [[.map (some gm1)], av .u8 32 x0.start] 97] w := Iv.unfocusB (NC := treeNodeC) (ln := fun x => x.up.length) (kv := kv95) (n1 := ((⟨nd1.head, nd1.height, nd1.work, nd1.up ++ ([r1] : List (List Int))⟩ : treeNode) : treeNode)) (congrArg Prod.fst hgs1) ho1 hI (NdW.put (u := (g3, (.slice none 0 0), [])) hp1 hz1 ⟨⟨hx1.1, hx1.2.1, hx1.2.2.1, hx1.2.2.2.1, hx1.2.2.2.2.1, hx1.2.2.2.2.2⟩, (wrap_in _ _), (wrap_in _ _), (Els.nil (RE := (RA .u8 32)) (sz := 32))⟩).1.2 hk2
        refine hN14 _ _ <| w_seq fun _ hN15 => w_reg <| sta hA rfl rfl fun a hA => ?_
        refine o_nil <| hN15 _ _ <| w_ret ?_
        obtain rfl := sJ H
        exact ret1 hA Tryd.results18 rfl ⟨_, rfl, .nilIface, gm1, (gup (gup gs1 r1 (g3, (.slice none 0 0), [])) kk1 ((gs1 kk1).1, v1, ((gs1 kk1).2.2) ++ cs1)), μ, rfl, erv_nil, (NdW.nput (u := ((gs1 kk1).1, v1, ((gs1 kk1).2.2) ++ cs1)) ho1 (NdW.put (u := (g3, (.slice none 0 0), [])) hp1 hz1 ⟨⟨hx1.1, hx1.2.1, hx1.2.2.1, hx1.2.2.2.1, hx1.2.2.2.2.1, hx1.2.2.2.2.2⟩, (wrap_in _ _), (wrap_in _ _), (Els.nil (RE := (RA .u8 32)) (sz := 32))⟩) (NdW.kw (NdW.put (u := (g3, (.slice none 0 0), [])) hp1 hz1 ⟨⟨hx1.1, hx1.2.1, hx1.2.2.1, hx1.2.2.2.1, hx1.2.2.2.2.1, hx1.2.2.2.2.2⟩, (wrap_in _ _), (wrap_in _ _), (Els.nil (RE := (RA .u8 32)) (sz := 32))⟩) hk2) ⟨⟨hw2.1, hw2.2.1, hw2.2.2.1, hw2.2.2.2.1, hw2.2.2.2.2.1, hw2.2.2.2.2.2⟩, (NdW.atB hgs1 (NdW.put (u := (g3, (.slice none 0 0), [])) hp1 hz1 ⟨⟨hx1.1, hx1.2.1, hx1.2.2.1, hx1.2.2.2.1, hx1.2.2.2.2.1, hx1.2.2.2.2.2⟩, (wrap_in _ _), (wrap_in _ _), (Els.nil (RE := (RA .u8 32)) (sz := 32))⟩) hk2).2.1, (NdW.atB hgs1 (NdW.put (u := (g3, (.slice none 0 0), [])) hp1 hz1 ⟨⟨hx1.1, hx1.2.1, hx1.2.2.1, hx1.2.2.2.1, hx1.2.2.2.2.1, hx1.2.2.2.2.2⟩, (wrap_in _ _), (wrap_in _ _), (Els.nil (RE := (RA .u8 32)) (sz := 32))⟩) hk2).2.2.1, hE3⟩), hp2, (hI.sl [4, 0] rfl)⟩
set_option maxRecDepth 20000 in
theorem tree_Tree_Common.c (μ : Store) (w0 : World) (hμ : Agr μ w0) (x0 : treeTree) (gm1 : Nat) (gs1 : (List Int) → NG) (g0 : Nat) (hp1 : nw95 μ x0.m gs1) (hp2 : Arr .u8 32 x0.start) (ho0 : Its μ w0 [cel g0 [[.map (some gm1)], av .u8 32 x0.start] 97, nd95 gm1 x0.m gs1]) (x1 : List Int) (hx1 : Arr .u8 32 x1) (x2 : List Int) (hx2 : Arr .u8 32 x2) (r : (List Int) × Bool) (H : tree_Tree_Common.f x0 x1 x2 = some r) :
    Calls Tryd.prog 21 [.pointer (some ⟨g0, 0, none⟩), .agg [av .u8 32 x1].flatten.toArray, .agg [av .u8 32 x2].flatten.toArray].toArray w0 (fun e w' => ∃ v, e = .returned v ∧ v = .tuple #[.agg [av .u8 32 (r.1)].flatten.toArray, .bool (r.2)] ∧ Arr .u8 32 (r.1) ∧ True ∧ Iv w0 (many [cel g0 [[.map (some gm1)], av .u8 32 x0.start] 97, nd95 gm1 x0.m gs1]).foot μ μ [cel g0 [[.map (some gm1)], av .u8 32 x0.start] 97, nd95 gm1 x0.m gs1] w') := by
  refine enter Tryd.func21 rfl Tryd.ntmps21 rfl fun a hA => ?_
  have hI := Iv.startN hμ ho0
  have H := bI H
  refine w_seq fun _ hN1 => w_reg <| o_box [av .u8 32 x1] hI hA rfl rfl rfl fun g1 a w hA hI hg1 => 
    o_box [av .u8 32 x2] hI hA rfl rfl rfl fun g2 a w hA hI hg2 => 
    o_new [av .u8 32 (List.replicate 32 0)] zr26 hI hA rfl fun g3 a w hA hI hg3 => 
    sta hA rfl rfl fun a hA => ?_
  refine o_nil <| hN1 _ _ <| w_seq fun _ hN2 => ?_
  refine w_draw mo (by kernel_rfl) hI ?_
  refine qtp hA (fun _ hI => r_mv hA rfl) rfl fun a hA => 
    qtp hA (fun _ hI => r_nilc hA rfl) rfl fun a hA => 
    qtp hA (fun _ hI => r_fd (k := 0) Tryd.underlying97 rfl sz95 hA rfl rfl) rfl fun a hA => 
    qtp hA (fun _ hI => r_ld1 (j := 3) [] [av .u8 32 x0.start] Tryd.underlying95 rfl hI rfl hA rfl rfl) rfl fun a hA => 
    qtp hA (fun _ hI => r_ldA (j := 2) [] [av .u8 32 x1] [] Tryd.underlying26 rfl sz26 rfl hI rfl hA rfl rfl) rfl fun a hA => 
    qtp hA (fun _ hI => r_nlook2 (j := 4) kn95 Tryd.underlying95 mz95 hp1.1 hx1 hI rfl hA rfl rfl) rfl fun a hA => 
    qtp hA (fun _ hI => r_mv hA rfl) rfl fun a hA => 
    qtp hA (fun _ hI => r_extr (vs := [pvn gs1 (lkn x0.m x1), .bool ((mget x0.m x1).isSome)]) hA rfl rfl) rfl fun a hA => 
    qtp hA (fun _ hI => r_extr (vs := [pvn gs1 (lkn x0.m x1), .bool ((mget x0.m x1).isSome)]) hA rfl rfl) rfl fun a hA => 
    qtp hA (fun _ hI => r_as hA rfl) rfl fun a hA => 
    qtp hA (fun _ hI => r_as hA rfl) rfl fun a hA => ?_
  refine q_nil fun w hI => ?_
  refine hN2 _ _ <| w_seq fun _ hN3 => ?_
  refine w_draw mo (by kernel_rfl) hI ?_
  refine qtp hA (fun _ hI => r_mv hA rfl) rfl fun a hA => 
    qtp hA (fun _ hI => r_nilc hA rfl) rfl fun a hA => 
    qtp hA (fun _ hI => r_fd (k := 0) Tryd.underlying97 rfl sz95 hA rfl rfl) rfl fun a hA => 
    qtp hA (fun _ hI => r_ld1 (j := 3) [] [av .u8 32 x0.start] Tryd.underlying95 rfl hI rfl hA rfl rfl) rfl fun a hA => 
    qtp hA (fun _ hI => r_ldA (j := 1) [] [av .u8 32 x2] [] Tryd.underlying26 rfl sz26 rfl hI rfl hA rfl rfl) rfl fun a hA => 
    qtp hA (fun _ hI => r_nlook2 (j := 4) kn95 Tryd.underlying95 mz95 hp1.1 hx2 hI rfl hA rfl rfl) rfl fun a hA => 
    qtp hA (fun _ hI => r_mv hA rfl) rfl fun a hA => 
    qtp hA (fun _ hI => r_extr (vs := [pvn gs1 (lkn x0.m x2), .bool ((mget x0.m x2).isSome)]) hA rfl rfl) rfl fun a hA => 
    qtp hA (fun _ hI => r_extr (vs := [pvn gs1 (lkn x0.m x2), .bool ((mget x0.m x2).isSome)]) hA rfl rfl) rfl fun a hA => 
    qtp hA (fun _ hI => r_as hA rfl) rfl fun a hA => 
    qtp hA (fun _ hI => r_as hA rfl) rfl fun a hA => ?_
  refine q_nil fun w hI => ?_
  refine hN3 _ _ <| w_seq fun _ hN4 => ?_
  obtain ⟨c1, hz1, Hk1⟩ := bB H
  refine w_cut (fun a w => Fr a 72 [(0, .pointer (some ⟨g0, 0, none⟩)), (4, .pointer (some ⟨g1, 0, none⟩)), (5, .pointer (some ⟨g2, 0, none⟩)), (6, .pointer (some ⟨g3, 0, none⟩)), (7, .bool false), (8, pvn gs1 (lkn x0.m x1)), (10, pvn gs1 (lkn x0.m x2)), (35, .bool c1)] ∧ Iv w0 (many [cel g0 [[.map (some gm1)], av .u8 32 x0.start] 97, nd95 gm1 x0.m gs1]).foot μ μ [cel g3 [av .u8 32 (List.replicate 32 0)] 26, cel g2 [av .u8 32 x2] 26, cel g1 [av .u8 32 x1] 26, cel g0 [[.map (some gm1)], av .u8 32 x0.start] 97, nd95 gm1 x0.m gs1] w) ?_ ?_
  · have H := bI hz1
    refine w_reg <| stm hA rfl rfl fun a hA => 
      stp hA (r_not hA rfl) rfl fun a hA => 
      stm hA rfl rfl fun a hA => ?_
    rcases Bool.eq_false_or_eq_true (!((mget x0.m x1).isSome)) with hc1 | hc1
    · have hc10 := hc1; have hc1 := nT hc1; have hc1 := ft hc1; have H := bF H hc1
      refine o_no hA rfl rfl (by rw [hc10]; simp [vb]) rfl fun a hA => 
        o_no hA rfl rfl (by rw [hc10]; simp [vb]) rfl fun a hA => 
        stp hA (r_pick_t hA rfl hc10 rfl) rfl fun a hA => ?_
      refine o_nil ?_
      cases sJ H
      exact ⟨hA.sub ⟨rfl, rfl, rfl, rfl, rfl, rfl, rfl, rfl, trivial⟩, hI⟩
    · have hc10 := hc1; have hc1 := nF hc1; have H := bT H hc1
      refine o_yes hA rfl rfl hc10 <| 
        stm hA rfl rfl fun a hA => 
        o_yes hA rfl rfl hc10 <| 
        stp hA (r_not hA rfl) rfl fun a hA => 
        stp hA (r_pick_f hA rfl hc10 rfl) rfl fun a hA => ?_
      refine o_nil ?_
      cases sJ H
      exact ⟨hA.sub ⟨rfl, rfl, rfl, rfl, rfl, rfl, rfl, rfl, trivial⟩, hI⟩
  · rintro a w ⟨hA, hI⟩
    have H := Hk1
    refine w_cond hA rfl (fun hc2 => ?_) (fun hc2 => ?_)
    · have H := bT H hc2
      refine w_seq fun _ hN5 => w_reg <| stp hA (r_bldA (cs := [av .u8 32 ([0, 0, 0, 0, 0, 0, 0, 0, 0, 0, 0, 0, 0, 0, 0, 0, 0, 0, 0, 0, 0, 0, 0, 0, 0, 0, 0, 0, 0, 0, 0, 0])].flatten.toArray) zr26 Tryd.underlying26 sz5 hA rfl (by kernel_rfl)) rfl fun a hA => 
        o_st (j := 0) [] [av .u8 32 (List.replicate 32 0)] [av .u8 32 ([0, 0, 0, 0, 0, 0, 0, 0, 0, 0, 0, 0, 0, 0, 0, 0, 0, 0, 0, 0, 0, 0, 0, 0, 0, 0, 0, 0, 0, 0, 0, 0])] [] sz26 rfl rfl (fl_cons (one_av _ _ _) fl_nil) hI rfl hA rfl rfl rfl rfl fun w hI => 
        sta hA rfl rfl fun a hA => ?_
      refine o_nil <| hN5 _ _ <| w_ret ?_
      obtain rfl := sJ H
      exact retN hA Tryd.results21 (.cell rfl (cell_ld Tryd.underlying26 rfl sz26 rfl hI (j := 0) rfl) (.tmp rfl .nil)) ⟨_, rfl, rfl, (arr_lit rfl (by simp only [List.forall_mem_cons]; exact ⟨(in_lit .u8 0 rfl), (in_lit .u8 0 rfl), (in_lit .u8 0 rfl), (in_lit .u8 0 rfl), (in_lit .u8 0 rfl), (in_lit .u8 0 rfl), (in_lit .u8 0 rfl), (in_lit .u8 0 rfl), (in_lit .u8 0 rfl), (in_lit .u8 0 rfl), (in_lit .u8 0 rfl), (in_lit .u8 0 rfl), (in_lit .u8 0 rfl), (in_lit .u8 0 rfl), (in_lit .u8 0 rfl), (in_lit .u8 0 rfl), (in_lit .u8 0 rfl), (in_lit .u8 0 rfl), (in_lit .u8 0 rfl), (in_lit .u8 0 rfl), (in_lit .u8 0 rfl), (in_lit .u8 0 rfl), (in_lit .u8 0 rfl), (in_lit .u8 0 rfl), (in_lit .u8 0 rfl), (in_lit .u8 0 rfl), (in_lit .u8 0 rfl), (in_lit .u8 0 rfl), (in_lit .u8 0 rfl), (in_lit .u8 0 rfl), (in_lit .u8 0 rfl), (in_lit .u8 0 rfl), by simp⟩)), trivial, ((hI.sl [3, 4] rfl).less (Store.le.refl _) hI.le)⟩
    · have hc2 := ft hc2; have H := bF H hc2
      refine w_skip <| hN4 _ _ ?_
      obtain ⟨⟨c2, c3, c4, c5⟩, hz2, Hk2⟩ := bB H
      refine w_cut (fun a w => Arr .u8 32 c4 ∧ Arr .u8 32 c5 ∧ Fr a 72 [(4, .pointer (some ⟨g1, 0, none⟩)), (6, .pointer (some ⟨g3, 0, none⟩)), (7, .bool false), (8, pvn gs1 c2), (10, pvn gs1 c3)] ∧ Iv w0 (many [cel g0 [[.map (some gm1)], av .u8 32 x0.start] 97, nd95 gm1 x0.m gs1]).foot μ μ [cel g3 [av .u8 32 (List.replicate 32 0)] 26, cel g2 [av .u8 32 c4] 26, cel g1 [av .u8 32 c5] 26, cel g0 [[.map (some gm1)], av .u8 32 x0.start] 97, nd95 gm1 x0.m gs1] w) ?_ ?_
      · have H := bI hz2
        refine w_block ?_
        obtain ⟨z1, hz3, Hk3⟩ := bind_some H
        obtain ⟨n1, hn1⟩ := loopO_some hz3
        refine w_loop (fun n a w => ∃ (s1 : Option (List Int)) (s2 : Option (List Int)) (s3 : List Int) (s4 : List Int), loopN (tree_Tree_Common.s0 x0) n (s1, s2, s3, s4) = some z1 ∧ Arr .u8 32 s3 ∧ Arr .u8 32 s4 ∧ Fr a 72 [(0, .pointer (some ⟨g0, 0, none⟩)), (4, .pointer (some ⟨g1, 0, none⟩)), (5, .pointer (some ⟨g2, 0, none⟩)), (6, .pointer (some ⟨g3, 0, none⟩)), (7, .bool false), (8, pvn gs1 s1), (10, pvn gs1 s2)] ∧ Iv w0 (many [cel g0 [[.map (some gm1)], av .u8 32 x0.start] 97, nd95 gm1 x0.m gs1]).foot μ μ [cel g3 [av .u8 32 (List.replicate 32 0)] 26, cel g2 [av .u8 32 s3] 26, cel g1 [av .u8 32 s4] 26, cel g0 [[.map (some gm1)], av .u8 32 x0.start] 97, nd95 gm1 x0.m gs1] w) n1 ⟨lkn x0.m x1, lkn x0.m x2, x2, x1, hn1, hx2, hx1, hA.sub ⟨rfl, rfl, rfl, rfl, rfl, rfl, rfl, trivial⟩, hI⟩ ?_
        clear hA hI
        rintro n a w ⟨s1, s2, s3, s4, hn1, ws3, ws4, hA, hI⟩
        obtain ⟨m1, rfl, H⟩ := loopN_bind hn1
        clear hn1
        refine w_seq fun _ hN6 => w_seq fun _ hN7 => w_reg <| stp hA (r_ldA (j := 2) [] [av .u8 32 s4] [] Tryd.underlying26 rfl sz26 rfl hI rfl hA rfl rfl) rfl fun a hA => 
          stp hA (r_ldA (j := 1) [] [av .u8 32 s3] [] Tryd.underlying26 rfl sz26 rfl hI rfl hA rfl rfl) rfl fun a hA => 
          stp hA (r_neS hA rfl rfl eg26 (eqv_arr Tryd.underlying26 Tryd.underlying5 sz5 ws4 ws3)) rfl fun a hA => ?_
        refine o_nil <| hN7 _ _ <| w_cond hA rfl (fun hc3 => ?_) (fun hc3 => ?_)
        · obtain ⟨hc3, H⟩ := dT H hc3
          refine w_skip <| hN6 _ _ <| w_block <| w_seq fun _ hN8 => ?_
          refine w_draw mo (by kernel_rfl) hI ?_
          refine qtp hA (fun _ hI => r_mv hA rfl) rfl fun a hA => ?_
          obtain ⟨nd1, hn2, H⟩ := bB H
          obtain ⟨kk1, ho1, hk1⟩ := nget_some hn2
          have hw1 : HeadW μ nd1.head := (NdW.at hp1 hk1).1
          refine qtp hA (fun _ hI => r_nilcN ho1 hA rfl) rfl fun a hA => 
            qtp hA (fun _ hI => r_fd (k := 68) Tryd.underlying94 rfl sz3 hA rfl rfl) rfl fun a hA => 
            qtp hA (fun _ hI => r_ld1 (j := 0) [[.int .u32 nd1.head.Version], av .u8 32 nd1.head.Prev, av .u8 32 nd1.head.Root, [.int .u32 nd1.head.Time], [.int .u32 nd1.head.Work], [.int .u32 nd1.head.Nonce]] [[.int .u64 nd1.work], [(gs1 kk1).2.1]] Tryd.underlying3 rfl ((hI.sl [4] rfl).focus hp1.1.2 hk1) rfl hA rfl rfl) rfl fun a hA => 
            qtp hA (fun _ hI => r_mv hA rfl) rfl fun a hA => ?_
          obtain ⟨nd2, hn3, H⟩ := bB H
          obtain ⟨kk2, ho2, hk2⟩ := nget_some hn3
          have hw2 : HeadW μ nd2.head := (NdW.at hp1 hk2).1
          refine qtp hA (fun _ hI => r_nilcN ho2 hA rfl) rfl fun a hA => 
            qtp hA (fun _ hI => r_fd (k := 68) Tryd.underlying94 rfl sz3 hA rfl rfl) rfl fun a hA => 
            qtp hA (fun _ hI => r_ld1 (j := 0) [[.int .u32 nd2.head.Version], av .u8 32 nd2.head.Prev, av .u8 32 nd2.head.Root, [.int .u32 nd2.head.Time], [.int .u32 nd2.head.Work], [.int .u32 nd2.head.Nonce]] [[.int .u64 nd2.work], [(gs1 kk2).2.1]] Tryd.underlying3 rfl ((hI.sl [4] rfl).focus hp1.1.2 hk2) rfl hA rfl rfl) rfl fun a hA => 
            qtp hA (fun _ hI => r_geq hA rfl rfl) rfl fun a hA => ?_
          refine q_nil fun w hI => ?_
          refine hN8 _ _ <| w_cond hA rfl (fun hc4 => ?_) (fun hc4 => ?_)
          · obtain ⟨hc4, H⟩ := dT H hc4
            refine w_seq fun _ hN9 => w_reg <| stm hA rfl rfl fun a hA => 
              stp hA (r_nilcN ho1 hA rfl) rfl fun a hA => 
              stp hA (r_fd (k := 0) Tryd.underlying94 rfl sz28 hA rfl rfl) rfl fun a hA => 
              stp hA (r_fd (k := 1) Tryd.underlying28 rfl sz26 hA rfl rfl) rfl fun a hA => 
              stp hA (r_ldA (j := 0) [[.int .u32 nd1.head.Version]] [av .u8 32 nd1.head.Prev] [av .u8 32 nd1.head.Root, [.int .u32 nd1.head.Time], [.int .u32 nd1.head.Work], [.int .u32 nd1.head.Nonce], [.int .i64 nd1.height], [.int .u64 nd1.work], [(gs1 kk1).2.1]] Tryd.underlying26 rfl sz26 rfl ((hI.sl [4] rfl).focus hp1.1.2 hk1) rfl hA rfl rfl) rfl fun a hA => 
              o_st (j := 2) [] [av .u8 32 s4] [av .u8 32 nd1.head.Prev] [] sz26 rfl rfl (fl_cons (one_av _ _ _) fl_nil) hI rfl hA rfl rfl rfl rfl fun w hI => ?_
            refine o_nil <| hN9 _ _ ?_
            refine w_draw mo (by kernel_rfl) hI ?_
            refine qtp hA (fun _ hI => r_mv hA rfl) rfl fun a hA => 
              qtp hA (fun _ hI => r_nilc hA rfl) rfl fun a hA => 
              qtp hA (fun _ hI => r_fd (k := 0) Tryd.underlying97 rfl sz95 hA rfl rfl) rfl fun a hA => 
              qtp hA (fun _ hI => r_ld1 (j := 3) [] [av .u8 32 x0.start] Tryd.underlying95 rfl hI rfl hA rfl rfl) rfl fun a hA => 
              qtp hA (fun _ hI => r_ldA (j := 2) [] [av .u8 32 nd1.head.Prev] [] Tryd.underlying26 rfl sz26 rfl hI rfl hA rfl rfl) rfl fun a hA => 
              qtp hA (fun _ hI => r_nlook (j := 4) kn95 Tryd.underlying95 mz95 hp1.1 hw1.2.1 hI rfl hA rfl rfl) rfl fun a hA => 
              qtp hA (fun _ hI => r_as hA rfl) rfl fun a hA => ?_
            refine q_nil fun w hI => ?_
            exact ⟨m1, Nat.lt_succ_self _, lkn x0.m nd1.head.Prev, s2, s3, nd1.head.Prev, H, ws3, hw1.2.1, hA.sub ⟨rfl, rfl, rfl, rfl, rfl, rfl, rfl, trivial⟩, hI⟩
          · obtain ⟨hc4, H⟩ := dF H hc4
            refine w_seq fun _ hN10 => w_reg <| stm hA rfl rfl fun a hA => 
              stp hA (r_nilcN ho2 hA rfl) rfl fun a hA => 
              stp hA (r_fd (k := 0) Tryd.underlying94 rfl sz28 hA rfl rfl) rfl fun a hA => 
              stp hA (r_fd (k := 1) Tryd.underlying28 rfl sz26 hA rfl rfl) rfl fun a hA => 
              stp hA (r_ldA (j := 0) [[.int .u32 nd2.head.Version]] [av .u8 32 nd2.head.Prev] [av .u8 32 nd2.head.Root, [.int .u32 nd2.head.Time], [.int .u32 nd2.head.Work], [.int .u32 nd2.head.Nonce], [.int .i64 nd2.height], [.int .u64 nd2.work], [(gs1 kk2).2.1]] Tryd.underlying26 rfl sz26 rfl ((hI.sl [4] rfl).focus hp1.1.2 hk2) rfl hA rfl rfl) rfl fun a hA => 
              o_st (j := 1) [] [av .u8 32 s3] [av .u8 32 nd2.head.Prev] [] sz26 rfl rfl (fl_cons (one_av _ _ _) fl_nil) hI rfl hA rfl rfl rfl rfl fun w hI => ?_
            refine o_nil <| hN10 _ _ ?_
            refine w_draw mo (by kernel_rfl) hI ?_
            refine qtp hA (fun _ hI => r_mv hA rfl) rfl fun a hA => 
              qtp hA (fun _ hI => r_nilc hA rfl) rfl fun a hA => 
              qtp hA (fun _ hI => r_fd (k := 0) Tryd.underlying97 rfl sz95 hA rfl rfl) rfl fun a hA => 
              qtp hA (fun _ hI => r_ld1 (j := 3) [] [av .u8 32 x0.start] Tryd.underlying95 rfl hI rfl hA rfl rfl) rfl fun a hA => 
              qtp hA (fun _ hI => r_ldA (j := 1) [] [av .u8 32 nd2.head.Prev] [] Tryd.underlying26 rfl sz26 rfl hI rfl hA rfl rfl) rfl fun a hA => 
              qtp hA (fun _ hI => r_nlook (j := 4) kn95 Tryd.underlying95 mz95 hp1.1 hw2.2.1 hI rfl hA rfl rfl) rfl fun a hA => 
              qtp hA (fun _ hI => r_as hA rfl) rfl fun a hA => ?_
            refine q_nil fun w hI => ?_
            exact ⟨m1, Nat.lt_succ_self _, s1, lkn x0.m nd2.head.Prev, nd2.head.Prev, s4, H, hw2.2.1, ws4, hA.sub ⟨rfl, rfl, rfl, rfl, rfl, rfl, rfl, trivial⟩, hI⟩
        · obtain ⟨hc3, H⟩ := dF H hc3
          refine w_exit rfl ?_
          have H : some (s1, s2, s3, s4) = some z1 := H
          obtain rfl := sI H
          have H := Hk3
          cases sJ H
          exact ⟨ws3, ws4, hA.sub ⟨rfl, rfl, rfl, rfl, rfl, trivial⟩, hI⟩
      · rintro a w ⟨wc4, wc5, hA, hI⟩
        have H := Hk2
        refine w_seq fun _ hN11 => w_reg <| stp hA (r_ldA (j := 2) [] [av .u8 32 c5] [] Tryd.underlying26 rfl sz26 rfl hI rfl hA rfl rfl) rfl fun a hA => 
          o_st (j := 0) [] [av .u8 32 (List.replicate 32 0)] [av .u8 32 c5] [] sz26 rfl rfl (fl_cons (one_av _ _ _) fl_nil) hI rfl hA rfl rfl rfl rfl fun w hI => 
          sta hA rfl rfl fun a hA => ?_
        refine o_nil <| hN11 _ _ <| w_ret ?_
        obtain rfl := sJ H
        exact retN hA Tryd.results21 (.cell rfl (cell_ld Tryd.underlying26 rfl sz26 rfl hI (j := 0) rfl) (.tmp rfl .nil)) ⟨_, rfl, rfl, wc5, trivial, ((hI.sl [3, 4] rfl).less (Store.le.refl _) hI.le)⟩
set_option maxRecDepth 20000 in
theorem tree_Tree_down.c (μ : Store) (w0 : World) (hμ : Agr μ w0) (x0 : treeTree) (gm1 : Nat) (gs1 : (List Int) → NG) (g0 : Nat) (hp1 : nw95 μ x0.m gs1) (hp2 : Arr .u8 32 x0.start) (ho0 : Its μ w0 [cel g0 [[.map (some gm1)], av .u8 32 x0.start] 97, nd95 gm1 x0.m gs1]) (x1 : List Int) (hx1 : Arr .u8 32 x1) (x2 : List Int) (hx2 : Arr .u8 32 x2) (r : List (List Int)) (H : tree_Tree_down.f x0 x1 x2 = some r) :
    Calls Tryd.prog 52 [.pointer (some ⟨g0, 0, none⟩), .agg [av .u8 32 x1].flatten.toArray, .agg [av .u8 32 x2].flatten.toArray].toArray w0 (fun e w' => ∃ v, e = .returned v ∧ ∃ (v0 : Value) (c0 : List Value), v = v0 ∧ Els (RA .u8 32) 32 r c0 ∧ Iv w0 (many [cel g0 [[.map (some gm1)], av .u8 32 x0.start] 97, nd95 gm1 x0.m gs1]).foot μ μ [row 26 32 v0 r.length c0, cel g0 [[.map (some gm1)], av .u8 32 x0.start] 97, nd95 gm1 x0.m gs1] w') := by
  refine enter Tryd.func52 rfl Tryd.ntmps52 rfl fun a hA => ?_
  have hI := Iv.startN hμ ho0
  have H := bI H
  refine w_seq fun _ hN1 => w_reg <| o_box [av .u8 32 x1] hI hA rfl rfl rfl fun g1 a w hA hI hg1 => 
    o_box [av .u8 32 x2] hI hA rfl rfl rfl fun g2 a w hA hI hg2 => 
    sta hA rfl rfl fun a hA => ?_
  refine o_nil <| hN1 _ _ <| w_seq fun _ hN2 => w_reg <| sta hA rfl rfl fun a hA => ?_
  refine o_nil <| hN2 _ _ ?_
  obtain ⟨⟨c1, c2⟩, hz1, Hk1⟩ := bB H
  refine w_cut (fun a w => ∃ (vvc1 : Value) (ccc1 : List Value), Els (RA .u8 32) 32 c1 ccc1 ∧ Arr .u8 32 c2 ∧ Fr a 26 [(6, (.slice none 0 0)), (7, vvc1)] ∧ Iv w0 (many [cel g0 [[.map (some gm1)], av .u8 32 x0.start] 97, nd95 gm1 x0.m gs1]).foot μ μ [row 26 32 vvc1 c1.length ccc1, cel g2 [av .u8 32 x2] 26, cel g1 [av .u8 32 c2] 26, cel g0 [[.map (some gm1)], av .u8 32 x0.start] 97, nd95 gm1 x0.m gs1] w) ?_ ?_
  · have H := bI hz1
    refine w_block ?_
    have hI := hI.nilRow 26 32
    obtain ⟨z1, hz2, Hk2⟩ := bind_some H
    obtain ⟨n1, hn1⟩ := loopO_some hz2
    refine w_loop (fun n a w => ∃ (s1 : List (List Int)) (s2 : List Int) (vvs1 : Value) (ccs1 : List Value), loopN (tree_Tree_down.s0 x0 x2) n (s1, s2) = some z1 ∧ Els (RA .u8 32) 32 s1 ccs1 ∧ Arr .u8 32 s2 ∧ Fr a 26 [(0, .pointer (some ⟨g0, 0, none⟩)), (4, .pointer (some ⟨g1, 0, none⟩)), (5, .pointer (some ⟨g2, 0, none⟩)), (6, (.slice none 0 0)), (7, vvs1)] ∧ Iv w0 (many [cel g0 [[.map (some gm1)], av .u8 32 x0.start] 97, nd95 gm1 x0.m gs1]).foot μ μ [row 26 32 vvs1 s1.length ccs1, cel g2 [av .u8 32 x2] 26, cel g1 [av .u8 32 s2] 26, cel g0 [[.map (some gm1)], av .u8 32 x0.start] 97, nd95 gm1 x0.m gs1] w) n1 ⟨[], x1, (.slice none 0 0), [], hn1, (Els.nil (RE := (RA .u8 32)) (sz := 32)), hx1, hA.sub ⟨rfl, rfl, rfl, rfl, rfl, trivial⟩, hI⟩ ?_
    clear hA hI
    rintro n a w ⟨s1, s2, vvs1, ccs1, hn1, ws1, ws2, hA, hI⟩
    obtain ⟨m1, rfl, H⟩ := loopN_bind hn1
    clear hn1
    refine w_seq fun _ hN3 => w_seq fun _ hN4 => w_reg <| stp hA (r_ldA (j := 2) [] [av .u8 32 s2] [] Tryd.underlying26 rfl sz26 rfl hI rfl hA rfl rfl) rfl fun a hA => 
      stp hA (r_ldA (j := 1) [] [av .u8 32 x2] [] Tryd.underlying26 rfl sz26 rfl hI rfl hA rfl rfl) rfl fun a hA => 
      stp hA (r_neS hA rfl rfl eg26 (eqv_arr Tryd.underlying26 Tryd.underlying5 sz5 ws2 hx2)) rfl fun a hA => ?_
    refine o_nil <| hN4 _ _ <| w_cond hA rfl (fun hc1 => ?_) (fun hc1 => ?_)
    · obtain ⟨hc1, H⟩ := dT H hc1
      refine w_skip <| hN3 _ _ <| w_block <| w_seq fun _ hN5 => w_reg <| stm hA rfl rfl fun a hA => 
        stp hA (r_ldA (j := 2) [] [av .u8 32 s2] [] Tryd.underlying26 rfl sz26 rfl hI rfl hA rfl rfl) rfl fun a hA => ?_
      have hE1 : Els (RA .u8 32) 32 ([s2] : List (List Int)) _ := (Els.cons (c := [av .u8 32 s2].flatten) ⟨rfl, ws2⟩ rfl Els.nil)
      refine o_bsl ([av .u8 32 s2].flatten ++ ([])) te26 zr26 Tryd.underlying62 hI hA rfl rfl rfl rfl (by kernel_rfl) rfl fun g3 a w hA hI => ?_
      generalize hcs : ([av .u8 32 s2].flatten ++ ([]) : List Value) = cs1 at hE1 hI
      clear hcs
      obtain ⟨hb1, H⟩ := bG H
      have hE3 := ws1.app hE1
      refine o_appG (xs := (s1 : List (List Int))) (ys := (([s2] : List (List Int)) : List (List Int))) (M := 4398046511104) 1 te26 Tryd.underlying62 hI rfl hA rfl rfl (src_row hI (j := 0) rfl) hE1.len (hE1.ones (one_RA _ _)) hb1 rfl fun v1 a w hA hI => 
        sta hA rfl rfl fun a hA => ?_
      refine o_nil <| hN5 _ _ ?_
      refine w_any [10] mo hI fun w hI => ?_
      refine gE 0 hA rfl (.inr hI) (fun _ => r_mv hA rfl) fun a hA => ?_
      refine gE 1 hA rfl (.inr hI) (fun _ => r_nilc hA rfl) fun a hA => ?_
      refine gE 2 hA rfl (.inr hI) (fun _ => r_fd (k := 0) Tryd.underlying97 rfl sz95 hA rfl rfl) fun a hA => ?_
      refine gT 3 hA rfl hI (fun w hI => r_ld1 (j := 4) [] [av .u8 32 x0.start] Tryd.underlying95 rfl hI rfl hA rfl rfl) fun a hA => ?_
      refine gT 4 hA rfl hI (fun w hI => r_ldA (j := 3) [] [av .u8 32 s2] [] Tryd.underlying26 rfl sz26 rfl hI rfl hA rfl rfl) fun a hA => ?_
      refine gT 5 hA rfl hI (fun w hI => r_nlook (j := 5) kn95 Tryd.underlying95 mz95 hp1.1 ws2 hI rfl hA rfl rfl) fun a hA => ?_
      obtain ⟨nd1, hn2, H⟩ := bB H
      obtain ⟨kk1, ho1, hk1⟩ := nget_some hn2
      have hw1 : HeadW μ nd1.head := (NdW.at hp1 hk1).1
      refine gE 6 hA rfl (.inr hI) (fun _ => r_nilcN ho1 hA rfl) fun a hA => ?_
      refine gE 7 hA rfl (.inr hI) (fun _ => r_fd (k := 0) Tryd.underlying94 rfl sz28 hA rfl rfl) fun a hA => ?_
      refine gE 8 hA rfl (.inr hI) (fun _ => r_fd (k := 1) Tryd.underlying28 rfl sz26 hA rfl rfl) fun a hA => ?_
      refine gT 9 hA rfl hI (fun w hI => r_ldA (j := 0) [[.int .u32 nd1.head.Version]] [av .u8 32 nd1.head.Prev] [av .u8 32 nd1.head.Root, [.int .u32 nd1.head.Time], [.int .u32 nd1.head.Work], [.int .u32 nd1.head.Nonce], [.int .i64 nd1.height], [.int .u64 nd1.work], [(gs1 kk1).2.1]] Tryd.underlying26 rfl sz26 rfl ((hI.sl [5] rfl).focus hp1.1.2 hk1) rfl hA rfl rfl) fun a hA => ?_
      refine gF 10 rfl ?_
      refine o_st (j := 3) [] [av .u8 32 s2] [av .u8 32 nd1.head.Prev] [] sz26 rfl rfl (fl_cons (one_av _ _ _) fl_nil) hI rfl hA rfl rfl rfl rfl fun w hI => ?_
      refine o_nil <| ⟨(.inl (by kernel_rfl)), ?_⟩
      refine gN <| ⟨m1, Nat.lt_succ_self _, s1 ++ ([s2] : List (List Int)), nd1.head.Prev, v1, ccs1 ++ cs1, H, hE3, hw1.2.1, hA.sub ⟨rfl, rfl, rfl, rfl, rfl, trivial⟩, (hI.sl [1, 2, 3, 4, 5] rfl)⟩
    · obtain ⟨hc1, H⟩ := dF H hc1
      refine w_exit rfl ?_
      have H : some (s1, s2) = some z1 := H
      obtain rfl := sI H
      have H := Hk2
      cases sJ H
      exact ⟨vvs1, ccs1, ws1, ws2, hA.sub ⟨rfl, rfl, trivial⟩, hI⟩
  · rintro a w ⟨vvc1, ccc1, wc1, wc2, hA, hI⟩
    have H := Hk1
    refine w_seq fun _ hN6 => w_reg <| stm hA rfl rfl fun a hA => 
      sta hA rfl rfl fun a hA => ?_
    refine o_nil <| hN6 _ _ <| w_ret ?_
    obtain rfl := sJ H
    exact ret1 hA Tryd.results52 rfl ⟨_, rfl, vvc1, ccc1, rfl, wc1, ((hI.sl [0, 3, 4] rfl).less (Store.le.refl _) hI.le)⟩
set_option maxRecDepth 20000 in
theorem tree_Tree_Path.c (μ : Store) (w0 : World) (hμ : Agr μ w0) (x0 : treeTree) (gm1 : Nat) (gs1 : (List Int) → NG) (g0 : Nat) (hp1 : nw95 μ x0.m gs1) (hp2 : Arr .u8 32 x0.start) (ho0 : Its μ w0 [cel g0 [[.map (some gm1)], av .u8 32 x0.start] 97, nd95 gm1 x0.m gs1]) (x1 : List Int) (hx1 : Arr .u8 32 x1) (x2 : List Int) (hx2 : Arr .u8 32 x2) (r : (List (List Int)) × (List (List Int)) × Bool) (H : tree_Tree_Path.f x0 x1 x2 = some r) :
    Calls Tryd.prog 20 [.pointer (some ⟨g0, 0, none⟩), .agg [av .u8 32 x1].flatten.toArray, .agg [av .u8 32 x2].flatten.toArray].toArray w0 (fun e w' => ∃ v, e = .returned v ∧ ∃ (v0 : Value) (c0 : List Value) (v1 : Value) (c1 : List Value), v = .tuple #[v0, v1, .bool (r.2.2)] ∧ Els (RA .u8 32) 32 (r.1) c0 ∧ Els (RA .u8 32) 32 (r.2.1) c1 ∧ True ∧ Iv w0 (many [cel g0 [[.map (some gm1)], av .u8 32 x0.start] 97, nd95 gm1 x0.m gs1]).foot μ μ [row 26 32 v0 (r.1).length c0, row 26 32 v1 (r.2.1).length c1, cel g0 [[.map (some gm1)], av .u8 32 x0.start] 97, nd95 gm1 x0.m gs1] w') := by
  refine enter Tryd.func20 rfl Tryd.ntmps20 rfl fun a hA => ?_
  have hI := Iv.startN hμ ho0
  have H := bI H
  refine w_seq fun _ hN1 => w_reg <| o_box [av .u8 32 x1] hI hA rfl rfl rfl fun g1 a w hA hI hg1 => 
    o_box [av .u8 32 x2] hI hA rfl rfl rfl fun g2 a w hA hI hg2 => 
    sta hA rfl rfl fun a hA => 
    sta hA rfl rfl fun a hA => 
    sta hA rfl rfl fun a hA => ?_
  refine o_nil <| hN1 _ _ <| w_seq fun _ hN2 => w_reg <| stm hA rfl rfl fun a hA => 
    stp hA (r_ldA (j := 1) [] [av .u8 32 x1] [] Tryd.underlying26 rfl sz26 rfl hI rfl hA rfl rfl) rfl fun a hA => 
    stp hA (r_ldA (j := 0) [] [av .u8 32 x2] [] Tryd.underlying26 rfl sz26 rfl hI rfl hA rfl rfl) rfl fun a hA => ?_
  obtain ⟨r1, hr1, H⟩ := bB H
  have hI := hI.sl [2, 3, 0, 1] rfl
  refine o_call _ cf21 hA rfl (tree_Tree_Common.c μ _ hI.agr (⟨x0.m, x0.start⟩ : treeTree) gm1 gs1 g0 hp1 hp2 (hI.handN 2) x1 hx1 x2 hx2 r1 hr1) rfl fun v1 a w hz1 hA => ?_
  obtain ⟨rfl, hw1, hw2, hi1⟩ := hz1
  have hI := hI.back2 hi1
  refine stm hA rfl rfl fun a hA => 
    stp hA (r_extr (vs := [.agg [av .u8 32 r1.1].flatten.toArray, .bool r1.2]) hA rfl rfl) rfl fun a hA => 
    stp hA (r_extr (vs := [.agg [av .u8 32 r1.1].flatten.toArray, .bool r1.2]) hA rfl rfl) rfl fun a hA => 
    o_new [av .u8 32 (List.replicate 32 0)] zr26 hI hA rfl fun g3 a w hA hI hg3 => 
    o_st (j := 0) [] [av .u8 32 (List.replicate 32 0)] [av .u8 32 r1.1] [] sz26 rfl rfl (fl_cons (one_av _ _ _) fl_nil) hI rfl hA rfl rfl rfl rfl fun w hI => 
    sta hA rfl rfl fun a hA => ?_
  refine o_nil <| hN2 _ _ <| w_seq fun _ hN3 => w_seq fun _ hN4 => w_reg <| stm hA rfl rfl fun a hA => 
    stp hA (r_not hA rfl) rfl fun a hA => ?_
  refine o_nil <| hN4 _ _ <| w_cond hA rfl (fun hc1 => ?_) (fun hc1 => ?_)
  · have hc1 := nT hc1; have hc1 := ft hc1; have H := bF H hc1
    refine w_seq fun _ hN5 => w_reg <| sta hA rfl rfl fun a hA => 
      sta hA rfl rfl fun a hA => 
      sta hA rfl rfl fun a hA => ?_
    refine o_nil <| hN5 _ _ <| w_ret ?_
    have hI := hI.nilRow 26 32
    have hI := hI.nilRow 26 32
    obtain rfl := sJ H
    exact ret3 hA Tryd.results20 rfl rfl rfl ⟨_, rfl, (.slice none 0 0), [], (.slice none 0 0), [], rfl, (Els.nil (RE := (RA .u8 32)) (sz := 32)), (Els.nil (RE := (RA .u8 32)) (sz := 32)), trivial, ((hI.sl [1, 0, 3, 4] rfl).less (Store.le.refl _) hI.le)⟩
  · have hc1 := nF hc1; have H := bT H hc1
    refine w_skip <| hN3 _ _ <| w_seq fun _ hN6 => w_reg <| stm hA rfl rfl fun a hA => 
      stp hA (r_ldA (j := 3) [] [av .u8 32 x2] [] Tryd.underlying26 rfl sz26 rfl hI rfl hA rfl rfl) rfl fun a hA => 
      stp hA (r_ldA (j := 0) [] [av .u8 32 r1.1] [] Tryd.underlying26 rfl sz26 rfl hI rfl hA rfl rfl) rfl fun a hA => ?_
    obtain ⟨r2, hr2, H⟩ := bB H
    have hI := hI.sl [1, 2, 0, 3, 4] rfl
    refine o_call _ cf52 hA rfl (tree_Tree_down.c μ _ hI.agr (⟨x0.m, x0.start⟩ : treeTree) gm1 gs1 g0 hp1 hp2 (hI.handN 2) x2 hx2 r1.1 hw1 r2 hr2) rfl fun v2 a w hz2 hA => ?_
    obtain ⟨_, cs1, rfl, hE1, hi2⟩ := hz2
    have hI := hI.backN 2 hi2
    have hI : Iv w0 (many [cel g0 [[.map (some gm1)], av .u8 32 x0.start] 97, nd95 gm1 x0.m gs1]).foot μ μ [row 26 32 v2 r2.length cs1, cel g0 [[.map (some gm1)], av .u8 32 x0.start] 97, nd95 gm1 x0.m gs1, cel g3 [av .u8 32 r1.1] 26, cel g2 [av .u8 32 x2] 26, cel g1 [av .u8 32 x1] 26] w := hI
    refine sta hA rfl rfl fun a hA => ?_
    refine o_nil <| hN6 _ _ <| w_seq fun _ hN7 => w_reg <| stm hA rfl rfl fun a hA => ?_
    obtain ⟨r3, hr3, H⟩ := bB H
    refine o_call _ cf53 hA rfl (slices_Reverse_api_Hash_api_Hash.c μ _ hI.agr r2 v2 cs1 hE1 (hI.item (j := 0) rfl) r3 hr3) rfl fun v3 a w hz3 hA => ?_
    obtain ⟨cs2, rfl, hE2, hi3⟩ := hz3
    have hI := hI.call1 0 rfl hi3
    refine o_nil <| hN7 _ _ <| w_seq fun _ hN8 => w_reg <| stm hA rfl rfl fun a hA => 
      stp hA (r_ldA (j := 5) [] [av .u8 32 x1] [] Tryd.underlying26 rfl sz26 rfl hI rfl hA rfl rfl) rfl fun a hA => 
      stp hA (r_ldA (j := 3) [] [av .u8 32 r1.1] [] Tryd.underlying26 rfl sz26 rfl hI rfl hA rfl rfl) rfl fun a hA => ?_
    obtain ⟨r4, hr4, H⟩ := bB H
    have hI := hI.sl [1, 2, 0, 3, 4, 5] rfl
    refine o_call _ cf52 hA rfl (tree_Tree_down.c μ _ hI.agr (⟨x0.m, x0.start⟩ : treeTree) gm1 gs1 g0 hp1 hp2 (hI.handN 2) x1 hx1 r1.1 hw1 r4 hr4) rfl fun v4 a w hz4 hA => ?_
    obtain ⟨_, cs3, rfl, hE3, hi4⟩ := hz4
    have hI := hI.backN 2 hi4
    have hI : Iv w0 (many [cel g0 [[.map (some gm1)], av .u8 32 x0.start] 97, nd95 gm1 x0.m gs1]).foot μ μ [row 26 32 v4 r4.length cs3, cel g0 [[.map (some gm1)], av .u8 32 x0.start] 97, nd95 gm1 x0.m gs1, row 26 32 v2 r3.length cs2, cel g3 [av .u8 32 r1.1] 26, cel g2 [av .u8 32 x2] 26, cel g1 [av .u8 32 x1] 26] w := hI
    refine stm hA rfl rfl fun a hA => 
      sta hA rfl rfl fun a hA => 
      sta hA rfl rfl fun a hA => 
      sta hA rfl rfl fun a hA => ?_
    refine o_nil <| hN8 _ _ <| w_ret ?_
    obtain rfl := sJ H
    exact ret3 hA Tryd.results20 rfl rfl rfl ⟨_, rfl, v4, cs3, v2, cs2, rfl, hE3, hE2, trivial, ((hI.sl [0, 3, 1, 2] rfl).less (Store.le.refl _) hI.le)⟩
set_option maxRecDepth 20000 in
theorem tree_Tree_Head.c (μ : Store) (w0 : World) (hμ : Agr μ w0) (x0 : treeTree) (gm1 : Nat) (gs1 : (List Int) → NG) (g0 : Nat) (hp1 : nw95 μ x0.m gs1) (hp2 : Arr .u8 32 x0.start) (ho0 : Its μ w0 [cel g0 [[.map (some gm1)], av .u8 32 x0.start] 97, nd95 gm1 x0.m gs1]) (x1 : List Int) (hx1 : Arr .u8 32 x1) (r : Head × Bool) (H : tree_Tree_Head.f x0 x1 = some r) :
    Calls Tryd.prog 22 [.pointer (some ⟨g0, 0, none⟩), .agg [av .u8 32 x1].flatten.toArray].toArray w0 (fun e w' => ∃ v, e = .returned v ∧ v = .tuple #[.agg [[.int .u32 ((r.1).Version)], av .u8 32 ((r.1).Prev), av .u8 32 ((r.1).Root), [.int .u32 ((r.1).Time)], [.int .u32 ((r.1).Work)], [.int .u32 ((r.1).Nonce)]].flatten.toArray, .bool (r.2)] ∧ HeadW μ (r.1) ∧ True ∧ Iv w0 (many [cel g0 [[.map (some gm1)], av .u8 32 x0.start] 97, nd95 gm1 x0.m gs1]).foot μ μ [cel g0 [[.map (some gm1)], av .u8 32 x0.start] 97, nd95 gm1 x0.m gs1] w') := by
  refine enter Tryd.func22 rfl Tryd.ntmps22 rfl fun a hA => ?_
  have hI := Iv.startN hμ ho0
  have H := bI H
  refine w_seq fun _ hN1 => w_reg <| o_box [av .u8 32 x1] hI hA rfl rfl rfl fun g1 a w hA hI hg1 => 
    o_new [[.int .u32 0], av .u8 32 (List.replicate 32 0), av .u8 32 (List.replicate 32 0), [.int .u32 0], [.int .u32 0], [.int .u32 0]] zr28 hI hA rfl fun g2 a w hA hI hg2 => 
    sta hA rfl rfl fun a hA => ?_
  refine o_nil <| hN1 _ _ <| w_seq fun _ hN2 => w_seq fun _ hN3 => ?_
  refine w_draw mo (by kernel_rfl) hI ?_
  refine qtp hA (fun _ hI => r_mv hA rfl) rfl fun a hA => 
    qtp hA (fun _ hI => r_nilc hA rfl) rfl fun a hA => 
    qtp hA (fun _ hI => r_fd (k := 0) Tryd.underlying97 rfl sz95 hA rfl rfl) rfl fun a hA => 
    qtp hA (fun _ hI => r_ld1 (j := 2) [] [av .u8 32 x0.start] Tryd.underlying95 rfl hI rfl hA rfl rfl) rfl fun a hA => 
    qtp hA (fun _ hI => r_ldA (j := 1) [] [av .u8 32 x1] [] Tryd.underlying26 rfl sz26 rfl hI rfl hA rfl rfl) rfl fun a hA => 
    qtp hA (fun _ hI => r_nlook2 (j := 3) kn95 Tryd.underlying95 mz95 hp1.1 hx1 hI rfl hA rfl rfl) rfl fun a hA => 
    qtp hA (fun _ hI => r_mv hA rfl) rfl fun a hA => 
    qtp hA (fun _ hI => r_extr (vs := [pvn gs1 (lkn x0.m x1), .bool ((mget x0.m x1).isSome)]) hA rfl rfl) rfl fun a hA => 
    qtp hA (fun _ hI => r_extr (vs := [pvn gs1 (lkn x0.m x1), .bool ((mget x0.m x1).isSome)]) hA rfl rfl) rfl fun a hA => 
    qtp hA (fun _ hI => r_as hA rfl) rfl fun a hA => 
    qtp hA (fun _ hI => r_as hA rfl) rfl fun a hA => ?_
  refine q_nil fun w hI => ?_
  refine hN3 _ _ <| w_seq fun _ hN4 => w_reg <| stm hA rfl rfl fun a hA => ?_
  refine o_nil <| hN4 _ _ <| w_cond hA rfl (fun hc1 => ?_) (fun hc1 => ?_)
  · have H := bT H hc1
    refine w_seq fun _ hN5 => w_reg <| stm hA rfl rfl fun a hA => ?_
    obtain ⟨nd1, hn1, H⟩ := bB H
    obtain ⟨kk1, ho1, hk1⟩ := nget_some hn1
    have hw1 : HeadW μ nd1.head := (NdW.at hp1 hk1).1
    refine stp hA (r_nilcN ho1 hA rfl) rfl fun a hA => 
      stp hA (r_fd (k := 0) Tryd.underlying94 rfl sz28 hA rfl rfl) rfl fun a hA => 
      stp hA (r_ldA (j := 0) [] [[.int .u32 nd1.head.Version], av .u8 32 nd1.head.Prev, av .u8 32 nd1.head.Root, [.int .u32 nd1.head.Time], [.int .u32 nd1.head.Work], [.int .u32 nd1.head.Nonce]] [[.int .i64 nd1.height], [.int .u64 nd1.work], [(gs1 kk1).2.1]] Tryd.underlying28 rfl sz28 rfl ((hI.sl [3] rfl).focus hp1.1.2 hk1) rfl hA rfl rfl) rfl fun a hA => 
      o_st (j := 0) [] [[.int .u32 0], av .u8 32 (List.replicate 32 0), av .u8 32 (List.replicate 32 0), [.int .u32 0], [.int .u32 0], [.int .u32 0]] [[.int .u32 nd1.head.Version], av .u8 32 nd1.head.Prev, av .u8 32 nd1.head.Root, [.int .u32 nd1.head.Time], [.int .u32 nd1.head.Work], [.int .u32 nd1.head.Nonce]] [] sz28 rfl rfl (fl_cons (one_one rfl) (fl_cons (one_av _ _ _) (fl_cons (one_av _ _ _) (fl_cons (one_one rfl) (fl_cons (one_one rfl) (fl_cons (one_one rfl) fl_nil)))))) hI rfl hA rfl rfl rfl rfl fun w hI => 
      sta hA rfl rfl fun a hA => ?_
    refine o_nil <| hN5 _ _ <| w_ret ?_
    obtain rfl := sJ H
    exact retN hA Tryd.results22 (.cell rfl (cell_ld Tryd.underlying28 rfl sz28 rfl hI (j := 0) rfl) (.tmp rfl .nil)) ⟨_, rfl, rfl, ⟨hw1.1, hw1.2.1, hw1.2.2.1, hw1.2.2.2.1, hw1.2.2.2.2.1, hw1.2.2.2.2.2⟩, trivial, ((hI.sl [2, 3] rfl).less (Store.le.refl _) hI.le)⟩
  · have hc1 := ft hc1; have H := bF H hc1
    refine w_skip <| hN2 _ _ <| w_seq fun _ hN6 => w_reg <| stp hA (r_bldS (cs := [[.int .u32 0], av .u8 32 (List.replicate 32 0), av .u8 32 (List.replicate 32 0), [.int .u32 0], [.int .u32 0], [.int .u32 0]].flatten.toArray) (pl := [(0, 1), (1, 32), (33, 32), (65, 1), (66, 1), (67, 1)]) zr28 Tryd.underlying28 ⟨rfl, sz24, rfl, sz26, rfl, sz26, rfl, sz24, rfl, sz24, rfl, sz24, trivial⟩ hA rfl (by kernel_rfl)) rfl fun a hA => 
      o_st (j := 0) [] [[.int .u32 0], av .u8 32 (List.replicate 32 0), av .u8 32 (List.replicate 32 0), [.int .u32 0], [.int .u32 0], [.int .u32 0]] [[.int .u32 0], av .u8 32 (List.replicate 32 0), av .u8 32 (List.replicate 32 0), [.int .u32 0], [.int .u32 0], [.int .u32 0]] [] sz28 rfl rfl (fl_cons (one_one rfl) (fl_cons (one_av _ _ _) (fl_cons (one_av _ _ _) (fl_cons (one_one rfl) (fl_cons (one_one rfl) (fl_cons (one_one rfl) fl_nil)))))) hI rfl hA rfl rfl rfl rfl fun w hI => 
      sta hA rfl rfl fun a hA => ?_
    refine o_nil <| hN6 _ _ <| w_ret ?_
    obtain rfl := sJ H
    exact retN hA Tryd.results22 (.cell rfl (cell_ld Tryd.underlying28 rfl sz28 rfl hI (j := 0) rfl) (.tmp rfl .nil)) ⟨_, rfl, rfl, ⟨(in_lit .u32 0 rfl), (arr_zero _ _), (arr_zero _ _), (in_lit .u32 0 rfl), (in_lit .u32 0 rfl), (in_lit .u32 0 rfl)⟩, trivial, ((hI.sl [2, 3] rfl).less (Store.le.refl _) hI.le)⟩
end Go.Proofs.YtdngkgkkblfcjaaDoor.T
namespace Go.Proofs.YtdngkgkkblfcjaaDoor.T
open Go Go.Proofs Go.Proofs.YtdngkgkkblfcjaaDoor.K
set_option linter.unusedVariables false
set_option linter.unusedSimpArgs false
noncomputable def sargassolaw11_first.f : Option Bool := ((sargassoref1_Start.f).bind fun r1 => ((tree_New.f r1.Head).bind fun r2 => ((tree_Tree_Start.f (⟨r2.m, r2.start⟩ : treeTree)).bind fun r3 => ((tree_Tree_Height.f (⟨r2.m, r2.start⟩ : treeTree) r3).bind fun r4 => (((if r4.2 = true then (if r4.1 = 0 then ((tree_Tree_Len.f (⟨r2.m, r2.start⟩ : treeTree)).bind fun r5 => some (decide (r5 = 1))) else some false) else some false)).bind fun c1 => some c1)))))
noncomputable def sargassolaw11_grown.s0 (x0 : List Int) : ((List Head) × Int) → Option (((List Head) × Int) ⊕ (List Head)) := fun (s1, s2) => (if s2 < (x0.length : Int) then (if 0 ≤ s2 ∧ s2 < (x0.length : Int) then ((sargassoworld_Number.f (x0.getD s2.toNat 0) (s1.length : Int)).bind fun r2 => (if 0 ≤ r2 ∧ r2 < (s1.length : Int) then ((sargassoref1_HeadID.f (s1.getD r2.toNat default)).bind fun r3 => ((sargassoworld_Number.f (IntKind.i64.wrap (Int.tdiv (x0.getD s2.toNat 0) 64)) 30).bind fun r4 => ((sargassoworld_Number.f (IntKind.i64.wrap (Int.tdiv (x0.getD s2.toNat 0) 2048)) 4).bind fun r5 => (if s1.length + 1 ≤ 1759218604441 then some (.inl (s1 ++ ([(⟨IntKind.u32.wrap s2, r3, (List.replicate 32 0), IntKind.u32.wrap (((s1.getD r2.toNat default).Time) + (IntKind.u32.wrap r4)), IntKind.u32.wrap (IntKind.i64.wrap (1 + r5)), 0⟩ : Head)] : List Head), IntKind.i64.wrap (s2 + 1))) else none)))) else none)) else none) else some (.inr s1))
noncomputable def sargassolaw11_grown.f (x0 : List Int) : Option (List Head) := ((sargassoref1_Start.f).bind fun r1 => ((loopO (sargassolaw11_grown.s0 x0) (([r1.Head] : List Head), 0)).bind fun c1 => some c1))
end Go.Proofs.YtdngkgkkblfcjaaDoor.T
namespace Go.Proofs.YtdngkgkkblfcjaaDoor.T
open Go Go.Proofs Go.Proofs.YtdngkgkkblfcjaaDoor.K
set_option linter.unusedVariables false
set_option linter.unusedSimpArgs false
set_option maxRecDepth 20000 in
theorem sargassolaw11_first.c (μ : Store) (w0 : World) (hμ : Agr μ w0) (r : Bool) (H : sargassolaw11_first.f = some r) :
    Calls Tryd.prog 15 [].toArray w0 (fun e w' => ∃ v, e = .returned v ∧ v = .bool r ∧ True ∧ Iv w0 [] μ μ [] w') := by
  refine enter Tryd.func15 rfl Tryd.ntmps15 rfl fun a hA => ?_
  have hI := Iv.start hμ
  have H := bI H
  refine w_seq fun _ hN1 => w_reg <| sta hA rfl rfl fun a hA => ?_
  refine o_nil <| hN1 _ _ <| w_seq fun _ hN2 => w_reg ?_
  obtain ⟨r1, hr1, H⟩ := bB H
  refine o_call _ cf25 hA rfl (sargassoref1_Start.c μ _ hI.agr  r1 hr1) rfl fun v1 a w hz1 hA => ?_
  obtain ⟨v2, μ1, rfl, hw1, hi1⟩ := hz1
  have hI := hI.call hi1
  refine stp hA (r_field Tryd.underlying37 rfl (partA [] [[.int .u32 r1.Head.Version], av .u8 32 r1.Head.Prev, av .u8 32 r1.Head.Root, [.int .u32 r1.Head.Time], [.int .u32 r1.Head.Work], [.int .u32 r1.Head.Nonce]] [[v2]] Tryd.underlying28 rfl sz28 rfl rfl) hA rfl) rfl fun a hA => ?_
  obtain ⟨r2, hr2, H⟩ := bB H
  refine o_call _ cf17 hA rfl (tree_New.c μ1 _ hI.agr r1.Head ⟨hw1.1, hw1.2.1, hw1.2.2.1, hw1.2.2.2.1, hw1.2.2.2.2.1, hw1.2.2.2.2.2.1⟩ r2 hr2) rfl fun v3 a w hz2 hA => ?_
  obtain ⟨g1, gm1, gs1, rfl, hp1, hp2, hi2⟩ := hz2
  have hI := hI.call hi2
  refine sta hA rfl rfl fun a hA => ?_
  refine o_nil <| hN2 _ _ <| w_seq fun _ hN3 => w_seq fun _ hN4 => w_reg <| stm hA rfl rfl fun a hA => 
    stp hA (r_ptrnil_eql Tryd.underlying58 hA rfl rfl) rfl fun a hA => ?_
  refine o_nil <| hN4 _ _ <| w_cF hA rfl rfl ?_
  refine w_skip <| hN3 _ _ <| w_seq fun _ hN5 => w_reg <| stm hA rfl rfl fun a hA => 
    stm hA rfl rfl fun a hA => ?_
  obtain ⟨r3, hr3, H⟩ := bB H
  refine o_call _ cf27 hA rfl (tree_Tree_Start.c μ1 _ hI.agr (⟨r2.m, r2.start⟩ : treeTree) gm1 gs1 g1 hp1 hp2 (hI.handN 2) r3 hr3) rfl fun v4 a w hz3 hA => ?_
  obtain ⟨rfl, hw2, hi3⟩ := hz3
  have hI := hI.back2 hi3
  obtain ⟨r4, hr4, H⟩ := bB H
  refine o_call _ cf47 hA rfl (tree_Tree_Height.c μ1 _ hI.agr (⟨r2.m, r2.start⟩ : treeTree) gm1 gs1 g1 hp1 hp2 (hI.handN 2) r3 hw2 r4 hr4) rfl fun v5 a w hz4 hA => ?_
  obtain ⟨rfl, hw3, hw4, hi4⟩ := hz4
  have hI := hI.back2 hi4
  refine stm hA rfl rfl fun a hA => 
    stp hA (r_extr (vs := [.int .i64 r4.1, .bool r4.2]) hA rfl rfl) rfl fun a hA => 
    stp hA (r_extr (vs := [.int .i64 r4.1, .bool r4.2]) hA rfl rfl) rfl fun a hA => 
    sta hA rfl rfl fun a hA => 
    sta hA rfl rfl fun a hA => ?_
  refine o_nil <| hN5 _ _ ?_
  obtain ⟨c1, hz5, Hk1⟩ := bB H
  refine w_cut (fun a w => Fr a 26 [(0, .bool c1)] ∧ Iv w0 [] μ μ1 [cel g1 [[.map (some gm1)], av .u8 32 r2.start] 97, nd95 gm1 r2.m gs1] w) ?_ ?_
  · have H := bI hz5
    refine w_reg <| stm hA rfl rfl fun a hA => 
      stm hA rfl rfl fun a hA => ?_
    rcases Bool.eq_false_or_eq_true r4.2 with hc1 | hc1
    · have hc10 := hc1; have H := bT H hc1
      refine o_yes hA rfl rfl hc10 <| 
        stm hA rfl rfl fun a hA => 
        o_yes hA rfl rfl hc10 <| 
        stp hA (r_eql hA rfl rfl) rfl fun a hA => 
        stp hA (r_pick_t hA rfl hc10 rfl) rfl fun a hA => 
        stm hA rfl rfl fun a hA => ?_
      rcases Bool.eq_false_or_eq_true (decide (r4.1 = 0)) with hc2 | hc2
      · have hc20 := hc2; obtain ⟨hc2, H⟩ := dT H hc2
        refine o_yes hA rfl rfl hc20 <| 
          stm hA rfl rfl fun a hA => 
          o_yes hA rfl rfl hc20 <| ?_
        obtain ⟨r5, hr5, H⟩ := bB H
        refine o_call _ cf48 hA rfl (tree_Tree_Len.c μ1 _ hI.agr (⟨r2.m, r2.start⟩ : treeTree) gm1 gs1 g1 hp1 hp2 (hI.handN 2) r5 hr5) rfl fun v6 a w hz6 hA => ?_
        obtain ⟨rfl, hw5, hi5⟩ := hz6
        have hI := hI.back2 hi5
        refine o_yes hA rfl rfl hc20 <| 
          stp hA (r_eql hA rfl rfl) rfl fun a hA => 
          stp hA (r_pick_t hA rfl hc20 rfl) rfl fun a hA => 
          sta hA rfl rfl fun a hA => ?_
        refine o_nil ?_
        cases sJ H
        exact ⟨hA.sub ⟨rfl, trivial⟩, hI⟩
      · have hc20 := hc2; obtain ⟨hc2, H⟩ := dF H hc2
        refine o_no hA rfl rfl (by rw [hc20]; simp [vb]) rfl fun a hA => 
          o_no hA rfl rfl (by rw [hc20]; simp [vb]) rfl fun a hA => 
          o_no hA rfl rfl (by rw [hc20]; simp [vb]) rfl fun a hA => 
          stp hA (r_pick_f hA rfl hc20 rfl) rfl fun a hA => 
          sta hA rfl rfl fun a hA => ?_
        refine o_nil ?_
        cases sJ H
        exact ⟨hA.sub ⟨rfl, trivial⟩, hI⟩
    · have hc10 := hc1; have hc1 := ft hc1; have H := bF H hc1
      refine o_no hA rfl rfl (by rw [hc10]; simp [vb]) rfl fun a hA => 
        o_no hA rfl rfl (by rw [hc10]; simp [vb]) rfl fun a hA => 
        stp hA (r_pick_f hA rfl hc10 rfl) rfl fun a hA => 
        stm hA rfl rfl fun a hA => 
        o_no hA rfl rfl (by simp [vb]) rfl fun a hA => 
        o_no hA rfl rfl (by simp [vb]) rfl fun a hA => 
        o_no hA rfl rfl (by simp [vb]) rfl fun a hA => 
        stp hA (r_pick_f hA rfl rfl rfl) rfl fun a hA => 
        sta hA rfl rfl fun a hA => ?_
      refine o_nil ?_
      cases sJ H
      exact ⟨hA.sub ⟨rfl, trivial⟩, hI⟩
  · rintro a w ⟨hA, hI⟩
    have H := Hk1
    refine w_ret ?_
    obtain rfl := sJ H
    exact ret1 hA Tryd.results15 rfl ⟨_, rfl, rfl, trivial, hI.forget0⟩
set_option maxRecDepth 20000 in
theorem sargassolaw11_grown.c (μ : Store) (w0 : World) (hμ : Agr μ w0) (x0 : List Int) (u0 : Value) (hx0 : Slc (RI .i64) 1 μ u0 x0) (r : List Head) (H : sargassolaw11_grown.f x0 = some r) :
    Calls Tryd.prog 16 [u0].toArray w0 (fun e w' => ∃ v, e = .returned v ∧ ∃ (v0 : Value) (c0 : List Value), v = v0 ∧ Els (RHead μ) 68 r c0 ∧ Iv w0 [] μ μ [row 28 68 v0 r.length c0] w') := by
  refine enter Tryd.func16 rfl Tryd.ntmps16 rfl fun a hA => ?_
  have hI := Iv.start hμ
  have H := bI H
  refine w_seq fun _ hN1 => w_reg <| sta hA rfl rfl fun a hA => ?_
  refine o_nil <| hN1 _ _ <| w_seq fun _ hN2 => w_reg ?_
  obtain ⟨r1, hr1, H⟩ := bB H
  refine o_call _ cf25 hA rfl (sargassoref1_Start.c μ _ hI.agr  r1 hr1) rfl fun v1 a w hz1 hA => ?_
  obtain ⟨v2, μ1, rfl, hw1, hi1⟩ := hz1
  have hI := hI.call hi1
  refine stp hA (r_field Tryd.underlying37 rfl (partA [] [[.int .u32 r1.Head.Version], av .u8 32 r1.Head.Prev, av .u8 32 r1.Head.Root, [.int .u32 r1.Head.Time], [.int .u32 r1.Head.Work], [.int .u32 r1.Head.Nonce]] [[v2]] Tryd.underlying28 rfl sz28 rfl rfl) hA rfl) rfl fun a hA => ?_
  have hE1 : Els (RHead μ1) 68 ([r1.Head] : List Head) _ := (Els.cons (c := [[.int .u32 r1.Head.Version], av .u8 32 r1.Head.Prev, av .u8 32 r1.Head.Root, [.int .u32 r1.Head.Time], [.int .u32 r1.Head.Work], [.int .u32 r1.Head.Nonce]].flatten) ⟨rfl, ⟨hw1.1, hw1.2.1, hw1.2.2.1, hw1.2.2.2.1, hw1.2.2.2.2.1, hw1.2.2.2.2.2.1⟩⟩ rfl Els.nil)
  refine o_bsl ([[.int .u32 r1.Head.Version], av .u8 32 r1.Head.Prev, av .u8 32 r1.Head.Root, [.int .u32 r1.Head.Time], [.int .u32 r1.Head.Work], [.int .u32 r1.Head.Nonce]].flatten ++ ([])) te28 zr28 Tryd.underlying56 hI hA rfl rfl rfl rfl (by kernel_rfl) rfl fun g1 a w hA hI => ?_
  generalize hcs : ([[.int .u32 r1.Head.Version], av .u8 32 r1.Head.Prev, av .u8 32 r1.Head.Root, [.int .u32 r1.Head.Time], [.int .u32 r1.Head.Work], [.int .u32 r1.Head.Nonce]].flatten ++ ([]) : List Value) = cs1 at hE1 hI
  clear hcs
  refine sta hA rfl rfl fun a hA => ?_
  refine o_nil <| hN2 _ _ ?_
  obtain ⟨c1, hz2, Hk1⟩ := bB H
  refine w_cut (fun a w => ∃ (vvc1 : Value) (ccc1 : List Value), Els (RHead μ1) 68 c1 ccc1 ∧ Fr a 52 [(2, (.slice none 0 0)), (3, vvc1)] ∧ Iv w0 [] μ μ1 [row 28 68 vvc1 c1.length ccc1] w) ?_ ?_
  · have H := bI hz2
    refine w_seq fun _ hN3 => w_reg <| sta hA rfl rfl fun a hA => ?_
    refine o_nil <| hN3 _ _ <| w_block ?_
    obtain ⟨z1, hz3, Hk2⟩ := bind_some H
    obtain ⟨n1, hn1⟩ := loopO_some hz3
    refine w_loop (fun n a w => ∃ (s1 : List Head) (s2 : Int) (vvs1 : Value) (ccs1 : List Value), loopN (sargassolaw11_grown.s0 x0) n (s1, s2) = some z1 ∧ Els (RHead μ1) 68 s1 ccs1 ∧ InR .i64 s2 ∧ Fr a 52 [(0, u0), (2, (.slice none 0 0)), (3, vvs1), (4, .int .i64 s2)] ∧ Iv w0 [] μ μ1 [row 28 68 vvs1 s1.length ccs1] w) n1 ⟨([r1.Head] : List Head), 0, (.slice (some ⟨g1, 0, none⟩) 1 1), cs1, hn1, hE1, (in_lit .i64 0 rfl), hA.sub ⟨rfl, rfl, rfl, rfl, trivial⟩, hI⟩ ?_
    clear hA hI
    rintro n a w ⟨s1, s2, vvs1, ccs1, hn1, ws1, ws2, hA, hI⟩
    obtain ⟨m1, rfl, H⟩ := loopN_bind hn1
    clear hn1
    refine w_seq fun _ hN4 => w_seq fun _ hN5 => w_reg <| stm hA rfl rfl fun a hA => 
      stm hA rfl rfl fun a hA => ?_
    obtain ⟨_, hsl1⟩ := Slc.sv (Slc.le hx0 (fun _ _ h => h) hi1.le)
    refine stp hA (r_slen Tryd.underlying55 hsl1 hA rfl) rfl fun a hA => 
      stp hA (r_lss hA rfl rfl) rfl fun a hA => ?_
    refine o_nil <| hN5 _ _ <| w_cond hA rfl (fun hc1 => ?_) (fun hc1 => ?_)
    · obtain ⟨hc1, H⟩ := dT H hc1
      refine w_skip <| hN4 _ _ <| w_seq fun _ hN6 => w_block <| w_seq fun _ hN7 => w_reg <| stm hA rfl rfl fun a hA => 
        stm hA rfl rfl fun a hA => 
        stm hA rfl rfl fun a hA => ?_
      obtain ⟨hb1, H⟩ := bG H
      obtain ⟨_, he1, _, hat1⟩ := Slc.elem1 (Slc.le hx0 (fun _ _ h => h) hi1.le) (getD_some 0 hb1.1 hb1.2)
      obtain ⟨rfl, hw2⟩ := he1
      obtain ⟨_, hsl2⟩ := Slc.sv (Slc.le hx0 (fun _ _ h => h) hi1.le)
      refine stp hA (r_six1 Tryd.underlying55 sz3 hsl2 hA rfl rfl hb1.1 hb1.2) rfl fun a hA => 
        stp hA (r_ldm1 [] [] Tryd.underlying3 rfl hI.agr hat1 hA rfl rfl) rfl fun a hA => 
        stm hA rfl rfl fun a hA => ?_
      have hlen1 := Iv.row_in hI (j := 0) rfl
      refine stp hA (r_rlen (xs := 0) Tryd.underlying56 hI (j := 0) rfl hA rfl) rfl fun a hA => ?_
      obtain ⟨r2, hr2, H⟩ := bB H
      refine o_callp (u := .int .i64 r2) cf8 hA rfl hI (sargassoworld_Number.c μ1 _ hI.agr (x0.getD s2.toNat 0) hw2 (s1.length : Int) hlen1 r2 hr2) rfl fun a w hz4 hI hA => ?_
      obtain ⟨hb2, H⟩ := bG H
      refine stp hA (r_rix (j := 0) Tryd.underlying56 sz28 hI rfl hA rfl rfl hb2.1 hb2.2) rfl fun a hA => ?_
      obtain ⟨A1, _, B1, hc2, hl1, _, he2⟩ := Els.at_ ws1 (getD_some default hb2.1 hb2.2)
      obtain ⟨rfl, hw3⟩ := he2
      refine stp hA (r_rldP (j := 0) (q := r2.toNat * 68) (off := 0) A1 B1 [] [[.int .u32 ((s1.getD r2.toNat default).Version)], av .u8 32 ((s1.getD r2.toNat default).Prev), av .u8 32 ((s1.getD r2.toNat default).Root), [.int .u32 ((s1.getD r2.toNat default).Time)], [.int .u32 ((s1.getD r2.toNat default).Work)], [.int .u32 ((s1.getD r2.toNat default).Nonce)]] [] hc2 hl1 rfl Tryd.underlying28 rfl sz28 rfl hI rfl hA rfl) rfl fun a hA => 
        o_new [[.int .u32 0], av .u8 32 (List.replicate 32 0), av .u8 32 (List.replicate 32 0), [.int .u32 0], [.int .u32 0], [.int .u32 0]] zr28 hI hA rfl fun g2 a w hA hI hg2 => 
        o_st (j := 0) [] [[.int .u32 0], av .u8 32 (List.replicate 32 0), av .u8 32 (List.replicate 32 0), [.int .u32 0], [.int .u32 0], [.int .u32 0]] [[.int .u32 ((s1.getD r2.toNat default).Version)], av .u8 32 ((s1.getD r2.toNat default).Prev), av .u8 32 ((s1.getD r2.toNat default).Root), [.int .u32 ((s1.getD r2.toNat default).Time)], [.int .u32 ((s1.getD r2.toNat default).Work)], [.int .u32 ((s1.getD r2.toNat default).Nonce)]] [] sz28 rfl rfl (fl_cons (one_one rfl) (fl_cons (one_av _ _ _) (fl_cons (one_av _ _ _) (fl_cons (one_one rfl) (fl_cons (one_one rfl) (fl_cons (one_one rfl) fl_nil)))))) hI rfl hA rfl rfl rfl rfl fun w hI => ?_
      refine o_nil <| hN7 _ _ ?_
      refine w_anyS [] mo (fun w (h : Iv w0 [] μ μ1 [cel g2 [[.int .u32 ((s1.getD r2.toNat default).Version)], av .u8 32 ((s1.getD r2.toNat default).Prev), av .u8 32 ((s1.getD r2.toNat default).Root), [.int .u32 ((s1.getD r2.toNat default).Time)], [.int .u32 ((s1.getD r2.toNat default).Work)], [.int .u32 ((s1.getD r2.toNat default).Nonce)]] 28, row 28 68 vvs1 s1.length ccs1] w) => (h.sl [0] rfl : Iv w0 [] μ μ1 [cel g2 [[.int .u32 ((s1.getD r2.toNat default).Version)], av .u8 32 ((s1.getD r2.toNat default).Prev), av .u8 32 ((s1.getD r2.toNat default).Root), [.int .u32 ((s1.getD r2.toNat default).Time)], [.int .u32 ((s1.getD r2.toNat default).Work)], [.int .u32 ((s1.getD r2.toNat default).Nonce)]] 28] w)) hI fun w hI => ?_
      refine gE 0 hA rfl (.inr (hI.sl [0] rfl)) (fun _ => r_mv hA rfl) fun a hA => ?_
      refine gE 1 hA rfl (.inr (hI.sl [0] rfl)) (fun _ => r_mv hA rfl) fun a hA => ?_
      refine gE 2 hA rfl (.inr (hI.sl [0] rfl)) (fun _ => r_conv Tryd.underlying3 Tryd.underlying24 hA rfl) fun a hA => ?_
      refine gT 3 hA rfl (hI.sl [0] rfl) (fun w hI => r_ldA (j := 0) [] [[.int .u32 ((s1.getD r2.toNat default).Version)], av .u8 32 ((s1.getD r2.toNat default).Prev), av .u8 32 ((s1.getD r2.toNat default).Root), [.int .u32 ((s1.getD r2.toNat default).Time)], [.int .u32 ((s1.getD r2.toNat default).Work)], [.int .u32 ((s1.getD r2.toNat default).Nonce)]] [] Tryd.underlying28 rfl sz28 rfl hI rfl hA rfl rfl) fun a hA => ?_
      refine gE 5 hA rfl (.inr (hI.sl [0] rfl)) (fun _ => r_fd (k := 65) Tryd.underlying28 rfl sz24 hA rfl rfl) fun a hA => ?_
      refine gT 6 hA rfl (hI.sl [0] rfl) (fun w hI => r_ld1 (j := 0) [[.int .u32 ((s1.getD r2.toNat default).Version)], av .u8 32 ((s1.getD r2.toNat default).Prev), av .u8 32 ((s1.getD r2.toNat default).Root)] [[.int .u32 ((s1.getD r2.toNat default).Work)], [.int .u32 ((s1.getD r2.toNat default).Nonce)]] Tryd.underlying24 rfl hI rfl hA rfl rfl) fun a hA => ?_
      refine gE 7 hA rfl (.inr (hI.sl [0] rfl)) (fun _ => r_mv hA rfl) fun a hA => ?_
      refine gE 8 hA rfl (.inr (hI.sl [0] rfl)) (fun _ => r_mv hA rfl) fun a hA => ?_
      refine gE 9 hA rfl (.inr (hI.sl [0] rfl)) (fun _ => r_six1 Tryd.underlying55 sz3 hsl2 hA rfl rfl hb1.1 hb1.2) fun a hA => ?_
      refine gT 10 hA rfl (hI.sl [0] rfl) (fun w hI => r_ldm1 [] [] Tryd.underlying3 rfl hI.agr hat1 hA rfl rfl) fun a hA => ?_
      refine gE 11 hA rfl (.inr (hI.sl [0] rfl)) (fun _ => r_quo hA rfl rfl (by decide)) fun a hA => ?_
      refine gE 15 hA rfl (.inr (hI.sl [0] rfl)) (fun _ => r_mv hA rfl) fun a hA => ?_
      refine gE 16 hA rfl (.inr (hI.sl [0] rfl)) (fun _ => r_mv hA rfl) fun a hA => ?_
      refine gE 17 hA rfl (.inr (hI.sl [0] rfl)) (fun _ => r_six1 Tryd.underlying55 sz3 hsl2 hA rfl rfl hb1.1 hb1.2) fun a hA => ?_
      refine gT 18 hA rfl (hI.sl [0] rfl) (fun w hI => r_ldm1 [] [] Tryd.underlying3 rfl hI.agr hat1 hA rfl rfl) fun a hA => ?_
      refine gE 19 hA rfl (.inr (hI.sl [0] rfl)) (fun _ => r_quo hA rfl rfl (by decide)) fun a hA => ?_
      refine gF 4 rfl ?_
      obtain ⟨r3, hr3, H⟩ := bB H
      refine o_callp (u := .agg [av .u8 32 r3].flatten.toArray) cf19 hA rfl hI (sargassoref1_HeadID.c μ1 _ hI.agr (s1.getD r2.toNat default) ⟨hw3.1, hw3.2.1, hw3.2.2.1, hw3.2.2.2.1, hw3.2.2.2.2.1, hw3.2.2.2.2.2⟩ r3 hr3) rfl fun a w hz5 hI hA => ?_
      refine o_nil <| ⟨(.inr (hI.sl [0] rfl)), ?_⟩
      refine gF 12 rfl ?_
      obtain ⟨r4, hr4, H⟩ := bB H
      refine o_callp (u := .int .i64 r4) cf8 hA rfl hI (sargassoworld_Number.c μ1 _ hI.agr (IntKind.i64.wrap (Int.tdiv (x0.getD s2.toNat 0) 64)) (wrap_in _ _) 30 (in_lit .i64 30 rfl) r4 hr4) rfl fun a w hz6 hI hA => ?_
      refine o_nil <| ⟨(.inr (hI.sl [0] rfl)), ?_⟩
      refine gE 13 hA rfl (.inr (hI.sl [0] rfl)) (fun _ => r_conv Tryd.underlying3 Tryd.underlying24 hA rfl) fun a hA => ?_
      refine gE 14 hA rfl (.inr (hI.sl [0] rfl)) (fun _ => r_add hA rfl rfl) fun a hA => ?_
      refine gF 20 rfl ?_
      obtain ⟨r5, hr5, H⟩ := bB H
      refine o_callp (u := .int .i64 r5) cf8 hA rfl hI (sargassoworld_Number.c μ1 _ hI.agr (IntKind.i64.wrap (Int.tdiv (x0.getD s2.toNat 0) 2048)) (wrap_in _ _) 4 (in_lit .i64 4 rfl) r5 hr5) rfl fun a w hz7 hI hA => ?_
      refine o_nil <| ⟨(.inr (hI.sl [0] rfl)), ?_⟩
      refine gE 21 hA rfl (.inr (hI.sl [0] rfl)) (fun _ => r_add hA rfl rfl) fun a hA => ?_
      refine gE 22 hA rfl (.inr (hI.sl [0] rfl)) (fun _ => r_conv Tryd.underlying3 Tryd.underlying24 hA rfl) fun a hA => ?_
      refine gF 23 rfl ?_
      refine stp hA (r_bldS (cs := [[.int .u32 (IntKind.u32.wrap s2)], av .u8 32 r3, av .u8 32 (List.replicate 32 0), [.int .u32 (IntKind.u32.wrap (((s1.getD r2.toNat default).Time) + (IntKind.u32.wrap r4)))], [.int .u32 (IntKind.u32.wrap (IntKind.i64.wrap (1 + r5)))], [.int .u32 0]].flatten.toArray) (pl := [(0, 1), (1, 32), (33, 32), (65, 1), (66, 1), (67, 1)]) zr28 Tryd.underlying28 ⟨rfl, sz24, rfl, sz26, rfl, sz26, rfl, sz24, rfl, sz24, rfl, sz24, trivial⟩ hA rfl (by kernel_rfl)) rfl fun a hA => ?_
      refine o_nil <| ⟨(.inr (hI.sl [0] rfl)), ?_⟩
      refine gF 24 rfl ?_
      have hE2 : Els (RHead μ1) 68 ([(⟨IntKind.u32.wrap s2, r3, (List.replicate 32 0), IntKind.u32.wrap (((s1.getD r2.toNat default).Time) + (IntKind.u32.wrap r4)), IntKind.u32.wrap (IntKind.i64.wrap (1 + r5)), 0⟩ : Head)] : List Head) _ := (Els.cons (c := [[.int .u32 (IntKind.u32.wrap s2)], av .u8 32 r3, av .u8 32 (List.replicate 32 0), [.int .u32 (IntKind.u32.wrap (((s1.getD r2.toNat default).Time) + (IntKind.u32.wrap r4)))], [.int .u32 (IntKind.u32.wrap (IntKind.i64.wrap (1 + r5)))], [.int .u32 0]].flatten) ⟨rfl, ⟨(wrap_in _ _), hz5, (arr_zero _ _), (wrap_in _ _), (wrap_in _ _), (in_lit .u32 0 rfl)⟩⟩ rfl Els.nil)
      refine o_bsl ([[.int .u32 (IntKind.u32.wrap s2)], av .u8 32 r3, av .u8 32 (List.replicate 32 0), [.int .u32 (IntKind.u32.wrap (((s1.getD r2.toNat default).Time) + (IntKind.u32.wrap r4)))], [.int .u32 (IntKind.u32.wrap (IntKind.i64.wrap (1 + r5)))], [.int .u32 0]].flatten ++ ([])) te28 zr28 Tryd.underlying56 hI hA rfl rfl rfl rfl (by kernel_rfl) rfl fun g3 a w hA hI => ?_
      generalize hcs : ([[.int .u32 (IntKind.u32.wrap s2)], av .u8 32 r3, av .u8 32 (List.replicate 32 0), [.int .u32 (IntKind.u32.wrap (((s1.getD r2.toNat default).Time) + (IntKind.u32.wrap r4)))], [.int .u32 (IntKind.u32.wrap (IntKind.i64.wrap (1 + r5)))], [.int .u32 0]].flatten ++ ([]) : List Value) = cs2 at hE2 hI
      clear hcs
      refine o_nil <| ⟨(.inr (hI.sl [1] rfl)), ?_⟩
      refine gF 25 rfl ?_
      obtain ⟨hb3, H⟩ := bG H
      have hE4 := ws1.app hE2
      refine o_appG (xs := (s1 : List Head)) (ys := (([(⟨IntKind.u32.wrap s2, r3, (List.replicate 32 0), IntKind.u32.wrap (((s1.getD r2.toNat default).Time) + (IntKind.u32.wrap r4)), IntKind.u32.wrap (IntKind.i64.wrap (1 + r5)), 0⟩ : Head)] : List Head) : List Head)) (M := 1759218604441) 2 te28 Tryd.underlying56 hI rfl hA rfl rfl (src_row hI (j := 0) rfl) hE2.len (hE2.ones RHead.ones) hb3 rfl fun v3 a w hA hI => ?_
      refine o_nil <| ⟨(.inr (hI.sl [1] rfl)), ?_⟩
      refine gE 26 hA rfl (.inr (hI.sl [1] rfl)) (fun _ => r_as hA rfl) fun a hA => ?_
      refine gN <| hN6 _ _ <| w_reg <| stm hA rfl rfl fun a hA => 
        stp hA (r_add hA rfl rfl) rfl fun a hA => 
        sta hA rfl rfl fun a hA => ?_
      refine o_nil <| ⟨m1, Nat.lt_succ_self _, s1 ++ ([(⟨IntKind.u32.wrap s2, r3, (List.replicate 32 0), IntKind.u32.wrap (((s1.getD r2.toNat default).Time) + (IntKind.u32.wrap r4)), IntKind.u32.wrap (IntKind.i64.wrap (1 + r5)), 0⟩ : Head)] : List Head), IntKind.i64.wrap (s2 + 1), v3, ccs1 ++ cs2, H, hE4, (wrap_in _ _), hA.sub ⟨rfl, rfl, rfl, rfl, trivial⟩, (hI.sl [2] rfl)⟩
    · obtain ⟨hc1, H⟩ := dF H hc1
      refine w_exit rfl ?_
      have H : some s1 = some z1 := H
      obtain rfl := sI H
      have H := Hk2
      cases sJ H
      exact ⟨vvs1, ccs1, ws1, hA.sub ⟨rfl, rfl, trivial⟩, hI⟩
  · rintro a w ⟨vvc1, ccc1, wc1, hA, hI⟩
    have H := Hk1
    refine w_seq fun _ hN8 => w_reg <| stm hA rfl rfl fun a hA => 
      sta hA rfl rfl fun a hA => ?_
    refine o_nil <| hN8 _ _ <| w_ret ?_
    obtain rfl := sJ H
    exact ret1 hA Tryd.results16 rfl ⟨_, rfl, vvc1, ccc1, rfl, wc1, (hI.less (Store.le.refl _) hI.le)⟩
end Go.Proofs.YtdngkgkkblfcjaaDoor.T
namespace Go.Proofs.YtdngkgkkblfcjaaDoor.T
open Go Go.Proofs Go.Proofs.YtdngkgkkblfcjaaDoor.K
set_option linter.unusedVariables false
set_option linter.unusedSimpArgs false
noncomputable def sargassolaw11_TreeWays.s2 (r1 : Bool) (c1 : List ((List Int) × treeNode)) (c2 : List Int) (r8 : List Int) (r9 : (List (List Int)) × (List (List Int)) × Bool) : (Int × (List Int)) → Option ((Int × (List Int)) ⊕ ((Int × (List Int)) ⊕ Bool)) := fun (s6, s7) => (if s6 < (r9.2.1.length : Int) then (if 0 ≤ s6 ∧ s6 < (r9.2.1.length : Int) then ((tree_Tree_Head.f (⟨c1, c2⟩ : treeTree) (r9.2.1.getD s6.toNat [])).bind fun r16 => (((if r16.2 = true then ((sargassoref_SameHash.f r16.1.Prev s7).bind fun r17 => some (!r17)) else some true)).bind fun c5 => (if c5 = true then some (.inr (.inr false)) else some (.inl (IntKind.i64.wrap (s6 + 1), (r9.2.1.getD s6.toNat [])))))) else none) else (((if r1 = true then ((sargassoref_SameHash.f s7 r8).bind fun r18 => some r18) else some false)).bind fun c6 => some (.inr (.inr c6))))
noncomputable def sargassolaw11_TreeWays.s1 (r1 : Bool) (c1 : List ((List Int) × treeNode)) (c2 : List Int) (r8 : List Int) (r9 : (List (List Int)) × (List (List Int)) × Bool) (r10 : (List (List Int)) × (List (List Int)) × Bool) (r11 : (List Int) × Bool) : (Int × (List Int)) → Option ((Int × (List Int)) ⊕ Bool) := fun (s4, s5) => (if s4 < (r9.1.length : Int) then ((tree_Tree_Head.f (⟨c1, c2⟩ : treeTree) s5).bind fun r12 => (((if r12.2 = true then (if 0 ≤ s4 ∧ s4 < (r9.1.length : Int) then ((sargassoref_SameHash.f (r9.1.getD s4.toNat []) s5).bind fun r13 => (if r13 = true then (if 0 ≤ IntKind.i64.wrap ((IntKind.i64.wrap ((r10.2.1.length : Int) - 1)) - s4) ∧ IntKind.i64.wrap ((IntKind.i64.wrap ((r10.2.1.length : Int) - 1)) - s4) < (r10.2.1.length : Int) then ((sargassoref_SameHash.f (r9.1.getD s4.toNat []) (r10.2.1.getD (IntKind.i64.wrap ((IntKind.i64.wrap ((r10.2.1.length : Int) - 1)) - s4)).toNat [])).bind fun r14 => some (!r14)) else none) else some true)) else none) else some true)).bind fun c4 => (if c4 = true then some (.inr false) else some (.inl (IntKind.i64.wrap (s4 + 1), r12.1.Prev))))) else ((sargassoref_SameHash.f s5 r11.1).bind fun r15 => (if r15 = true then loopO (sargassolaw11_TreeWays.s2 r1 c1 c2 r8 r9) (0, s5) else some (.inr false))))
noncomputable def sargassolaw11_TreeWays.s0 (r2 : List Head) : (Int × (List ((List Int) × treeNode)) × (List Int)) → Option ((Int × (List ((List Int) × treeNode)) × (List Int)) ⊕ ((List ((List Int) × treeNode)) × (List Int))) := fun (s1, s2, s3) => (if s1 < (r2.length : Int) then (if 0 ≤ s1 ∧ s1 < (r2.length : Int) then ((tree_Tree_Add.f (⟨s2, s3⟩ : treeTree) (r2.getD s1.toNat default)).bind fun r4 => some (.inl (IntKind.i64.wrap (s1 + 1), r4.2.m, r4.2.start))) else none) else some (.inr (s2, s3)))
noncomputable def sargassolaw11_TreeWays.f (x0 : List Int) (x1 : Int) (x2 : Int) : Option Bool := ((sargassolaw11_first.f).bind fun r1 => (if r1 = true then (if 60 < (x0.length : Int) then some r1 else ((sargassolaw11_grown.f x0).bind fun r2 => (if 0 < (r2.length : Int) then ((tree_New.f (r2.getD (0 : Int).toNat default)).bind fun r3 => ((loopO (sargassolaw11_TreeWays.s0 r2) (1, r3.m, r3.start)).bind fun (c1, c2) => ((sargassoworld_Number.f x1 (r2.length : Int)).bind fun r5 => (if 0 ≤ r5 ∧ r5 < (r2.length : Int) then ((sargassoref1_HeadID.f (r2.getD r5.toNat default)).bind fun r6 => ((sargassoworld_Number.f x2 (r2.length : Int)).bind fun r7 => (if 0 ≤ r7 ∧ r7 < (r2.length : Int) then ((sargassoref1_HeadID.f (r2.getD r7.toNat default)).bind fun r8 => ((tree_Tree_Path.f (⟨c1, c2⟩ : treeTree) r6 r8).bind fun r9 => ((tree_Tree_Path.f (⟨c1, c2⟩ : treeTree) r8 r6).bind fun r10 => ((tree_Tree_Common.f (⟨c1, c2⟩ : treeTree) r6 r8).bind fun r11 => (((if r9.2.2 = true then (if r10.2.2 = true then (if r11.2 = true then (if (r9.1.length : Int) ≠ (r10.2.1.length : Int) then some true else some (decide ((r9.2.1.length : Int) ≠ (r10.1.length : Int)))) else some true) else some true) else some true)).bind fun c3 => (if c3 = true then some false else loopO (sargassolaw11_TreeWays.s1 r1 c1 c2 r8 r9 r10 r11) (0, r6))))))) else none))) else none)))) else none))) else some false))
end Go.Proofs.YtdngkgkkblfcjaaDoor.T
