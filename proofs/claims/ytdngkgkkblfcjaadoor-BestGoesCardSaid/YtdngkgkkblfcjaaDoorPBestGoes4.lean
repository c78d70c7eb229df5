/- Proved: the statement BestGoes, as given (its conditions are those of the given row, and card where there is one; no others): the call ends, with true, and the input reads as it did. This file is one of its parts. -/
import Derived.Test.YtdngkgkkblfcjaaDoorPBestGoes3
import Derived.Shelf.SlLaysF0
import Derived.Test.YtdngkgkkblfcjaaDoorProg
import Derived.RangeFuncIn
import Derived.RangeFuncRecord
import Derived.RangeFuncLeaves
import Derived.RangeFuncSeq
import Derived.Maps.RangeRun
import Derived.Maps.Range
import Derived.OrdersIn
namespace Go.Proofs.YtdngkgkkblfcjaaDoor.T
open Go Go.Proofs Go.Proofs.YtdngkgkkblfcjaaDoor.K
set_option linter.unusedVariables false
set_option linter.unusedSimpArgs false
set_option maxRecDepth 20000 in
theorem sargassoref1_First.c (μ : Store) (w0 : World) (hμ : Agr μ w0) (x0 : Int) (hx0 : InR .i64 x0) (x1 : Int) (hx1 : InR .u64 x1) (x2 : List Int) (hx2 : Arr .u8 32 x2) (x3 : List Int) (u3 : Value) (hx3 : Slc (RI .u8) 1 μ u3 x3) (r : Tx) (H : sargassoref1_First.f x0 x1 x2 x3 = some r) :
    Calls Tryd.prog 9 [.int .i64 x0, .int .u64 x1, .agg [av .u8 32 x2].flatten.toArray, u3].toArray w0 (fun e w' => ∃ v, e = .returned v ∧ ∃ (v0_0 : Value) (v0_1 : Value) (μ' : Store), v = .agg [[.int .u32 r.Version], [v0_0], [v0_1], [.int .u32 r.Time]].flatten.toArray ∧ TxW μ' r v0_0 v0_1 ∧ Iv w0 [] μ μ' [] w') := by
  refine enter Tryd.func9 rfl Tryd.ntmps9 rfl fun a hA => ?_
  have hI := Iv.start hμ
  have H := bI H
  refine w_seq fun _ hN1 => w_reg <| o_box [av .u8 32 x2] hI hA rfl rfl rfl fun g1 a w hA hI hg1 => 
    o_new [[.int .u32 0], [(.slice none 0 0)], [(.slice none 0 0)], [.int .u32 0]] zr32 hI hA rfl fun g2 a w hA hI hg2 => ?_
  refine o_nil <| hN1 _ _ <| w_seq fun _ hN2 => w_reg <| stm hA rfl rfl fun a hA => 
    stp hA (r_conv Tryd.underlying3 Tryd.underlying24 hA rfl) rfl fun a hA => ?_
  have hI := hI.nilRow 5 1
  obtain ⟨r1, hr1, H⟩ := bB H
  refine o_call _ cf36 hA rfl (sargassoref1_Four.c μ _ hI.agr ([] : List Int) (.slice none 0 0) ([]) (Els.nil (RE := (RI .u8)) (sz := 1)) (hI.item (j := 0) rfl) (IntKind.u32.wrap x0) (wrap_in _ _) r1 hr1) rfl fun v1 a w hz1 hA => ?_
  obtain ⟨_, cs1, rfl, hE1, hi1⟩ := hz1
  have hI := hI.call1 0 rfl hi1
  refine stm hA rfl rfl fun a hA => ?_
  obtain ⟨cs2, hE2, hsv1⟩ : Slc (RI .u8) 1 μ u3 x3 := id (hx3)
  obtain ⟨hb1, H⟩ := bG H
  have hE3 := hE1.app hE2
  refine o_appG (xs := (r1 : List Int)) (ys := (x3 : List Int)) (M := 140737488355328) 0 te5 Tryd.underlying40 hI rfl hA rfl rfl (src_sl hI.agr hsv1 hE2.len) hE2.len (hE2.ones (one_RI _)) hb1 rfl fun v2 a w hA hI => 
    sta hA rfl rfl fun a hA => ?_
  refine o_nil <| hN2 _ _ ?_
  obtain ⟨⟨c1, c2, c3, c4⟩, hz2, Hk1⟩ := bB H
  refine w_cut (fun a w => ∃ (μ1 : Store) (vvc1 : Value) (vvc3 : Value) (ccc3 : List Value) (vvc4 : Value) (ccc4 : List Value), μ.le μ1 ∧ Slc (RI .u8) 1 μ1 vvc1 c1 ∧ InR .u32 c2 ∧ Els (RIn μ1) 35 c3 ccc3 ∧ Els (ROut μ1) 33 c4 ccc4 ∧ Fr a 24 [(8, .pointer (some ⟨g2, 0, none⟩)), (9, vvc1)] ∧ Iv w0 [] μ μ1 [row 42 35 vvc3 c3.length ccc3, row 44 33 vvc4 c4.length ccc4, cel g2 [[.int .u32 c2], [vvc3], [vvc4], [.int .u32 0]] 32, cel g1 [av .u8 32 x2] 26] w) ?_ ?_
  · have H := bI hz2
    refine w_anyS [] mo (fun w (h : Iv w0 [] μ μ [row 5 1 v2 (r1 ++ x3).length (cs1 ++ cs2), cel g2 [[.int .u32 0], [(.slice none 0 0)], [(.slice none 0 0)], [.int .u32 0]] 32, cel g1 [av .u8 32 x2] 26] w) => (h.sl [0, 2] rfl : Iv w0 [] μ μ [row 5 1 v2 (r1 ++ x3).length (cs1 ++ cs2), cel g1 [av .u8 32 x2] 26] w)) hI fun w hI => ?_
    refine gE 1 hA rfl (.inr (hI.sl [0, 2] rfl)) (fun _ => r_mv hA rfl) fun a hA => ?_
    refine gE 4 hA rfl (.inr (hI.sl [0, 2] rfl)) (fun _ => r_mv hA rfl) fun a hA => ?_
    refine gT 5 hA rfl (hI.sl [0, 2] rfl) (fun w hI => r_ldA (j := 1) [] [av .u8 32 x2] [] Tryd.underlying26 rfl sz26 rfl hI rfl hA rfl rfl) fun a hA => ?_
    refine g_fork (i := 0) (is := [6]) (by kernel_rfl) (List.forall_mem_cons.2 ⟨⟨_, rfl, ?_⟩, (List.forall_mem_cons.2 ⟨⟨_, rfl, ?_⟩, List.forall_mem_nil _⟩)⟩)
    · skip
      obtain ⟨r2, hr2, H⟩ := bB H
      refine o_callp (u := .agg [av .u8 32 r2.Tx, [.int .u32 r2.N]].flatten.toArray) cf37 hA rfl hI (sargassoref1_Null.c μ _ hI.agr  r2 hr2) rfl fun a w hz3 hI hA => ?_
      refine o_nil <| ⟨(.inr (hI.sl [0, 2] rfl)), ?_⟩
      refine g_fork (i := 2) (is := [6]) (by kernel_rfl) (List.forall_mem_cons.2 ⟨⟨_, rfl, ?_⟩, (List.forall_mem_cons.2 ⟨⟨_, rfl, ?_⟩, List.forall_mem_nil _⟩)⟩)
      · skip
        refine stp hA (r_bldS (cs := [av .u8 32 r2.Tx, [.int .u32 r2.N], [v2], [.int .u32 4294967295]].flatten.toArray) (pl := [(0, 33), (33, 1), (34, 1)]) zr42 Tryd.underlying42 ⟨rfl, sz39, rfl, sz40, rfl, sz24, trivial⟩ hA rfl ((fill_seg [] [av .u8 32 (List.replicate 32 0), [.int .u32 0]] [av .u8 32 r2.Tx, [.int .u32 r2.N]] [[(.slice none 0 0)], [.int .u32 0]] rfl rfl rfl rfl rfl).trans ((fill_seg [av .u8 32 r2.Tx, [.int .u32 r2.N]] [[(.slice none 0 0)]] [[v2]] [[.int .u32 0]] (own_cell hI (j := 0) rfl) rfl rfl rfl rfl).trans ((fill_seg [av .u8 32 r2.Tx, [.int .u32 r2.N], [v2]] [[.int .u32 0]] [[.int .u32 4294967295]] [] rfl rfl rfl rfl rfl).trans (rfl))))) rfl fun a hA => ?_
        refine o_nil <| ⟨(.inr (hI.sl [0, 2] rfl)), ?_⟩
        refine g_fork (i := 3) (is := [6]) (by kernel_rfl) (List.forall_mem_cons.2 ⟨⟨_, rfl, ?_⟩, (List.forall_mem_cons.2 ⟨⟨_, rfl, ?_⟩, List.forall_mem_nil _⟩)⟩)
        · skip
          obtain ⟨μ2, hle2, hsv2, hI, hth1⟩ := hI.freezeRowT 0 rfl
          have hS1 : Slc (RI .u8) 1 μ2 v2 (r1 ++ x3) := ⟨_, hE3, hsv2⟩
          have hE4 : Els (RIn μ2) 35 ([(⟨r2, r1 ++ x3, 4294967295⟩ : In)] : List In) _ := (Els.cons (c := [av .u8 32 r2.Tx, [.int .u32 r2.N], [v2], [.int .u32 4294967295]].flatten) ⟨v2, rfl, ⟨hz3.1, hz3.2, hS1, (in_lit .u32 4294967295 rfl)⟩⟩ rfl Els.nil)
          refine o_bsl ([av .u8 32 r2.Tx, [.int .u32 r2.N], [v2], [.int .u32 4294967295]].flatten ++ ([])) te42 zr42 Tryd.underlying29 hI hA rfl rfl rfl rfl (by kernel_rfl) rfl fun g3 a w hA hI => ?_
          generalize hcs : ([av .u8 32 r2.Tx, [.int .u32 r2.N], [v2], [.int .u32 4294967295]].flatten ++ ([]) : List Value) = cs4 at hE4 hI
          clear hcs
          refine o_nil <| ⟨(.inr ((hth1 _ _ hI).sl [0, 3] rfl)), ?_⟩
          refine gF 6 rfl ?_
          refine stp hA (r_bldS (cs := [[.int .u64 x1], av .u8 32 x2].flatten.toArray) (pl := [(0, 1), (1, 32)]) zr44 Tryd.underlying44 ⟨rfl, sz34, rfl, sz26, trivial⟩ hA rfl (by kernel_rfl)) rfl fun a hA => ?_
          refine o_nil <| ⟨(.inr ((hth1 _ _ hI).sl [0, 3] rfl)), ?_⟩
          refine gF 7 rfl ?_
          have hE5 : Els (ROut μ2) 33 ([(⟨x1, x2⟩ : Out)] : List Out) _ := (Els.cons (c := [[.int .u64 x1], av .u8 32 x2].flatten) ⟨rfl, ⟨hx1, hx2⟩⟩ rfl Els.nil)
          refine o_bsl ([[.int .u64 x1], av .u8 32 x2].flatten ++ ([])) te44 zr44 Tryd.underlying30 hI hA rfl rfl rfl rfl (by kernel_rfl) rfl fun g4 a w hA hI => ?_
          generalize hcs : ([[.int .u64 x1], av .u8 32 x2].flatten ++ ([]) : List Value) = cs5 at hE5 hI
          clear hcs
          refine o_nil <| ⟨(.inr ((hth1 _ _ hI).sl [0, 4] rfl)), ?_⟩
          refine gF 8 rfl ?_
          refine stp hA (r_bldS (cs := [[.int .u32 1], [(.slice (some ⟨g3, 0, none⟩) 1 1)], [(.slice (some ⟨g4, 0, none⟩) 1 1)], [.int .u32 0]].flatten.toArray) (pl := [(0, 1), (1, 1), (2, 1), (3, 1)]) zr32 Tryd.underlying32 ⟨rfl, sz24, rfl, sz29, rfl, sz30, rfl, sz24, trivial⟩ hA rfl ((fill_one rfl rfl (by kernel_rfl)).trans ((fill_one (own_cell hI (j := 1) rfl) rfl (by kernel_rfl)).trans ((fill_one (own_cell hI (j := 0) rfl) rfl (by kernel_rfl)).trans (by kernel_rfl))))) rfl fun a hA => ?_
          refine o_nil <| ⟨(.inr ((hth1 _ _ hI).sl [0, 4] rfl)), ?_⟩
          refine gF 9 rfl ?_
          refine o_st (j := 2) [] [[.int .u32 0], [(.slice none 0 0)], [(.slice none 0 0)], [.int .u32 0]] [[.int .u32 1], [(.slice (some ⟨g3, 0, none⟩) 1 1)], [(.slice (some ⟨g4, 0, none⟩) 1 1)], [.int .u32 0]] [] sz32 rfl rfl (fl_cons (oneC rfl) (fl_cons (oneC (own_one hI (j := 1) rfl)) (fl_cons (oneC (own_one hI (j := 0) rfl)) (fl_cons (oneC rfl) fl_nil)))) hI rfl hA rfl rfl rfl rfl fun w hI => ?_
          refine o_nil <| ⟨(.inr ((hth1 _ _ hI).sl [0, 4] rfl)), ?_⟩
          refine gN ?_
          cases sJ H
          exact ⟨μ2, v2, (.slice (some ⟨g3, 0, none⟩) 1 1), cs4, (.slice (some ⟨g4, 0, none⟩) 1 1), cs5, hle2, hS1, (in_lit .u32 1 rfl), hE4, hE5, hA.sub ⟨rfl, rfl, trivial⟩, (hI.sl [1, 0, 2, 3] rfl)⟩
        · skip
          refine stp hA (r_bldS (cs := [[.int .u64 x1], av .u8 32 x2].flatten.toArray) (pl := [(0, 1), (1, 32)]) zr44 Tryd.underlying44 ⟨rfl, sz34, rfl, sz26, trivial⟩ hA rfl (by kernel_rfl)) rfl fun a hA => ?_
          refine o_nil <| ⟨(.inr (hI.sl [0, 2] rfl)), ?_⟩
          refine g_fork (i := 3) (is := [7]) (by kernel_rfl) (List.forall_mem_cons.2 ⟨⟨_, rfl, ?_⟩, (List.forall_mem_cons.2 ⟨⟨_, rfl, ?_⟩, List.forall_mem_nil _⟩)⟩)
          · skip
            obtain ⟨μ2, hle2, hsv2, hI, hth1⟩ := hI.freezeRowT 0 rfl
            have hS1 : Slc (RI .u8) 1 μ2 v2 (r1 ++ x3) := ⟨_, hE3, hsv2⟩
            have hE4 : Els (RIn μ2) 35 ([(⟨r2, r1 ++ x3, 4294967295⟩ : In)] : List In) _ := (Els.cons (c := [av .u8 32 r2.Tx, [.int .u32 r2.N], [v2], [.int .u32 4294967295]].flatten) ⟨v2, rfl, ⟨hz3.1, hz3.2, hS1, (in_lit .u32 4294967295 rfl)⟩⟩ rfl Els.nil)
            refine o_bsl ([av .u8 32 r2.Tx, [.int .u32 r2.N], [v2], [.int .u32 4294967295]].flatten ++ ([])) te42 zr42 Tryd.underlying29 hI hA rfl rfl rfl rfl (by kernel_rfl) rfl fun g3 a w hA hI => ?_
            generalize hcs : ([av .u8 32 r2.Tx, [.int .u32 r2.N], [v2], [.int .u32 4294967295]].flatten ++ ([]) : List Value) = cs4 at hE4 hI
            clear hcs
            refine o_nil <| ⟨(.inr ((hth1 _ _ hI).sl [0, 3] rfl)), ?_⟩
            refine gF 7 rfl ?_
            have hE5 : Els (ROut μ2) 33 ([(⟨x1, x2⟩ : Out)] : List Out) _ := (Els.cons (c := [[.int .u64 x1], av .u8 32 x2].flatten) ⟨rfl, ⟨hx1, hx2⟩⟩ rfl Els.nil)
            refine o_bsl ([[.int .u64 x1], av .u8 32 x2].flatten ++ ([])) te44 zr44 Tryd.underlying30 hI hA rfl rfl rfl rfl (by kernel_rfl) rfl fun g4 a w hA hI => ?_
            generalize hcs : ([[.int .u64 x1], av .u8 32 x2].flatten ++ ([]) : List Value) = cs5 at hE5 hI
            clear hcs
            refine o_nil <| ⟨(.inr ((hth1 _ _ hI).sl [0, 4] rfl)), ?_⟩
            refine gF 8 rfl ?_
            refine stp hA (r_bldS (cs := [[.int .u32 1], [(.slice (some ⟨g3, 0, none⟩) 1 1)], [(.slice (some ⟨g4, 0, none⟩) 1 1)], [.int .u32 0]].flatten.toArray) (pl := [(0, 1), (1, 1), (2, 1), (3, 1)]) zr32 Tryd.underlying32 ⟨rfl, sz24, rfl, sz29, rfl, sz30, rfl, sz24, trivial⟩ hA rfl ((fill_one rfl rfl (by kernel_rfl)).trans ((fill_one (own_cell hI (j := 1) rfl) rfl (by kernel_rfl)).trans ((fill_one (own_cell hI (j := 0) rfl) rfl (by kernel_rfl)).trans (by kernel_rfl))))) rfl fun a hA => ?_
            refine o_nil <| ⟨(.inr ((hth1 _ _ hI).sl [0, 4] rfl)), ?_⟩
            refine gF 9 rfl ?_
            refine o_st (j := 2) [] [[.int .u32 0], [(.slice none 0 0)], [(.slice none 0 0)], [.int .u32 0]] [[.int .u32 1], [(.slice (some ⟨g3, 0, none⟩) 1 1)], [(.slice (some ⟨g4, 0, none⟩) 1 1)], [.int .u32 0]] [] sz32 rfl rfl (fl_cons (oneC rfl) (fl_cons (oneC (own_one hI (j := 1) rfl)) (fl_cons (oneC (own_one hI (j := 0) rfl)) (fl_cons (oneC rfl) fl_nil)))) hI rfl hA rfl rfl rfl rfl fun w hI => ?_
            refine o_nil <| ⟨(.inr ((hth1 _ _ hI).sl [0, 4] rfl)), ?_⟩
            refine gN ?_
            cases sJ H
            exact ⟨μ2, v2, (.slice (some ⟨g3, 0, none⟩) 1 1), cs4, (.slice (some ⟨g4, 0, none⟩) 1 1), cs5, hle2, hS1, (in_lit .u32 1 rfl), hE4, hE5, hA.sub ⟨rfl, rfl, trivial⟩, (hI.sl [1, 0, 2, 3] rfl)⟩
          · skip
            have hE4 : Els (ROut μ) 33 ([(⟨x1, x2⟩ : Out)] : List Out) _ := (Els.cons (c := [[.int .u64 x1], av .u8 32 x2].flatten) ⟨rfl, ⟨hx1, hx2⟩⟩ rfl Els.nil)
            refine o_bsl ([[.int .u64 x1], av .u8 32 x2].flatten ++ ([])) te44 zr44 Tryd.underlying30 hI hA rfl rfl rfl rfl (by kernel_rfl) rfl fun g3 a w hA hI => ?_
            generalize hcs : ([[.int .u64 x1], av .u8 32 x2].flatten ++ ([]) : List Value) = cs4 at hE4 hI
            clear hcs
            refine o_nil <| ⟨(.inr (hI.sl [1, 3] rfl)), ?_⟩
            refine gF 3 rfl ?_
            obtain ⟨μ2, hle2, hsv2, hI, hth1⟩ := hI.freezeRowT 1 rfl
            have hS1 : Slc (RI .u8) 1 μ2 v2 (r1 ++ x3) := ⟨_, hE3, hsv2⟩
            have hE5 : Els (RIn μ2) 35 ([(⟨r2, r1 ++ x3, 4294967295⟩ : In)] : List In) _ := (Els.cons (c := [av .u8 32 r2.Tx, [.int .u32 r2.N], [v2], [.int .u32 4294967295]].flatten) ⟨v2, rfl, ⟨hz3.1, hz3.2, hS1, (in_lit .u32 4294967295 rfl)⟩⟩ rfl Els.nil)
            refine o_bsl ([av .u8 32 r2.Tx, [.int .u32 r2.N], [v2], [.int .u32 4294967295]].flatten ++ ([])) te42 zr42 Tryd.underlying29 hI hA rfl rfl rfl rfl (by kernel_rfl) rfl fun g4 a w hA hI => ?_
            generalize hcs : ([av .u8 32 r2.Tx, [.int .u32 r2.N], [v2], [.int .u32 4294967295]].flatten ++ ([]) : List Value) = cs5 at hE5 hI
            clear hcs
            refine o_nil <| ⟨(.inr ((hth1 _ _ hI).sl [0, 4] rfl)), ?_⟩
            refine gF 8 rfl ?_
            refine stp hA (r_bldS (cs := [[.int .u32 1], [(.slice (some ⟨g4, 0, none⟩) 1 1)], [(.slice (some ⟨g3, 0, none⟩) 1 1)], [.int .u32 0]].flatten.toArray) (pl := [(0, 1), (1, 1), (2, 1), (3, 1)]) zr32 Tryd.underlying32 ⟨rfl, sz24, rfl, sz29, rfl, sz30, rfl, sz24, trivial⟩ hA rfl ((fill_one rfl rfl (by kernel_rfl)).trans ((fill_one (own_cell hI (j := 0) rfl) rfl (by kernel_rfl)).trans ((fill_one (own_cell hI (j := 1) rfl) rfl (by kernel_rfl)).trans (by kernel_rfl))))) rfl fun a hA => ?_
            refine o_nil <| ⟨(.inr ((hth1 _ _ hI).sl [0, 4] rfl)), ?_⟩
            refine gF 9 rfl ?_
            refine o_st (j := 2) [] [[.int .u32 0], [(.slice none 0 0)], [(.slice none 0 0)], [.int .u32 0]] [[.int .u32 1], [(.slice (some ⟨g4, 0, none⟩) 1 1)], [(.slice (some ⟨g3, 0, none⟩) 1 1)], [.int .u32 0]] [] sz32 rfl rfl (fl_cons (oneC rfl) (fl_cons (oneC (own_one hI (j := 0) rfl)) (fl_cons (oneC (own_one hI (j := 1) rfl)) (fl_cons (oneC rfl) fl_nil)))) hI rfl hA rfl rfl rfl rfl fun w hI => ?_
            refine o_nil <| ⟨(.inr ((hth1 _ _ hI).sl [0, 4] rfl)), ?_⟩
            refine gN ?_
            cases sJ H
            exact ⟨μ2, v2, (.slice (some ⟨g4, 0, none⟩) 1 1), cs5, (.slice (some ⟨g3, 0, none⟩) 1 1), cs4, hle2, hS1, (in_lit .u32 1 rfl), hE5, hE4, hA.sub ⟨rfl, rfl, trivial⟩, hI⟩
      · skip
        refine stp hA (r_bldS (cs := [[.int .u64 x1], av .u8 32 x2].flatten.toArray) (pl := [(0, 1), (1, 32)]) zr44 Tryd.underlying44 ⟨rfl, sz34, rfl, sz26, trivial⟩ hA rfl (by kernel_rfl)) rfl fun a hA => ?_
        refine o_nil <| ⟨(.inr (hI.sl [0, 2] rfl)), ?_⟩
        refine g_fork (i := 2) (is := [7]) (by kernel_rfl) (List.forall_mem_cons.2 ⟨⟨_, rfl, ?_⟩, (List.forall_mem_cons.2 ⟨⟨_, rfl, ?_⟩, List.forall_mem_nil _⟩)⟩)
        · skip
          refine stp hA (r_bldS (cs := [av .u8 32 r2.Tx, [.int .u32 r2.N], [v2], [.int .u32 4294967295]].flatten.toArray) (pl := [(0, 33), (33, 1), (34, 1)]) zr42 Tryd.underlying42 ⟨rfl, sz39, rfl, sz40, rfl, sz24, trivial⟩ hA rfl ((fill_seg [] [av .u8 32 (List.replicate 32 0), [.int .u32 0]] [av .u8 32 r2.Tx, [.int .u32 r2.N]] [[(.slice none 0 0)], [.int .u32 0]] rfl rfl rfl rfl rfl).trans ((fill_seg [av .u8 32 r2.Tx, [.int .u32 r2.N]] [[(.slice none 0 0)]] [[v2]] [[.int .u32 0]] (own_cell hI (j := 0) rfl) rfl rfl rfl rfl).trans ((fill_seg [av .u8 32 r2.Tx, [.int .u32 r2.N], [v2]] [[.int .u32 0]] [[.int .u32 4294967295]] [] rfl rfl rfl rfl rfl).trans (rfl))))) rfl fun a hA => ?_
          refine o_nil <| ⟨(.inr (hI.sl [0, 2] rfl)), ?_⟩
          refine g_fork (i := 3) (is := [7]) (by kernel_rfl) (List.forall_mem_cons.2 ⟨⟨_, rfl, ?_⟩, (List.forall_mem_cons.2 ⟨⟨_, rfl, ?_⟩, List.forall_mem_nil _⟩)⟩)
          · skip
            obtain ⟨μ2, hle2, hsv2, hI, hth1⟩ := hI.freezeRowT 0 rfl
            have hS1 : Slc (RI .u8) 1 μ2 v2 (r1 ++ x3) := ⟨_, hE3, hsv2⟩
            have hE4 : Els (RIn μ2) 35 ([(⟨r2, r1 ++ x3, 4294967295⟩ : In)] : List In) _ := (Els.cons (c := [av .u8 32 r2.Tx, [.int .u32 r2.N], [v2], [.int .u32 4294967295]].flatten) ⟨v2, rfl, ⟨hz3.1, hz3.2, hS1, (in_lit .u32 4294967295 rfl)⟩⟩ rfl Els.nil)
            refine o_bsl ([av .u8 32 r2.Tx, [.int .u32 r2.N], [v2], [.int .u32 4294967295]].flatten ++ ([])) te42 zr42 Tryd.underlying29 hI hA rfl rfl rfl rfl (by kernel_rfl) rfl fun g3 a w hA hI => ?_
            generalize hcs : ([av .u8 32 r2.Tx, [.int .u32 r2.N], [v2], [.int .u32 4294967295]].flatten ++ ([]) : List Value) = cs4 at hE4 hI
            clear hcs
            refine o_nil <| ⟨(.inr ((hth1 _ _ hI).sl [0, 3] rfl)), ?_⟩
            refine gF 7 rfl ?_
            have hE5 : Els (ROut μ2) 33 ([(⟨x1, x2⟩ : Out)] : List Out) _ := (Els.cons (c := [[.int .u64 x1], av .u8 32 x2].flatten) ⟨rfl, ⟨hx1, hx2⟩⟩ rfl Els.nil)
            refine o_bsl ([[.int .u64 x1], av .u8 32 x2].flatten ++ ([])) te44 zr44 Tryd.underlying30 hI hA rfl rfl rfl rfl (by kernel_rfl) rfl fun g4 a w hA hI => ?_
            generalize hcs : ([[.int .u64 x1], av .u8 32 x2].flatten ++ ([]) : List Value) = cs5 at hE5 hI
            clear hcs
            refine o_nil <| ⟨(.inr ((hth1 _ _ hI).sl [0, 4] rfl)), ?_⟩
            refine gF 8 rfl ?_
            refine stp hA (r_bldS (cs := [[.int .u32 1], [(.slice (some ⟨g3, 0, none⟩) 1 1)], [(.slice (some ⟨g4, 0, none⟩) 1 1)], [.int .u32 0]].flatten.toArray) (pl := [(0, 1), (1, 1), (2, 1), (3, 1)]) zr32 Tryd.underlying32 ⟨rfl, sz24, rfl, sz29, rfl, sz30, rfl, sz24, trivial⟩ hA rfl ((fill_one rfl rfl (by kernel_rfl)).trans ((fill_one (own_cell hI (j := 1) rfl) rfl (by kernel_rfl)).trans ((fill_one (own_cell hI (j := 0) rfl) rfl (by kernel_rfl)).trans (by kernel_rfl))))) rfl fun a hA => ?_
            refine o_nil <| ⟨(.inr ((hth1 _ _ hI).sl [0, 4] rfl)), ?_⟩
            refine gF 9 rfl ?_
            refine o_st (j := 2) [] [[.int .u32 0], [(.slice none 0 0)], [(.slice none 0 0)], [.int .u32 0]] [[.int .u32 1], [(.slice (some ⟨g3, 0, none⟩) 1 1)], [(.slice (some ⟨g4, 0, none⟩) 1 1)], [.int .u32 0]] [] sz32 rfl rfl (fl_cons (oneC rfl) (fl_cons (oneC (own_one hI (j := 1) rfl)) (fl_cons (oneC (own_one hI (j := 0) rfl)) (fl_cons (oneC rfl) fl_nil)))) hI rfl hA rfl rfl rfl rfl fun w hI => ?_
            refine o_nil <| ⟨(.inr ((hth1 _ _ hI).sl [0, 4] rfl)), ?_⟩
            refine gN ?_
            cases sJ H
            exact ⟨μ2, v2, (.slice (some ⟨g3, 0, none⟩) 1 1), cs4, (.slice (some ⟨g4, 0, none⟩) 1 1), cs5, hle2, hS1, (in_lit .u32 1 rfl), hE4, hE5, hA.sub ⟨rfl, rfl, trivial⟩, (hI.sl [1, 0, 2, 3] rfl)⟩
          · skip
            have hE4 : Els (ROut μ) 33 ([(⟨x1, x2⟩ : Out)] : List Out) _ := (Els.cons (c := [[.int .u64 x1], av .u8 32 x2].flatten) ⟨rfl, ⟨hx1, hx2⟩⟩ rfl Els.nil)
            refine o_bsl ([[.int .u64 x1], av .u8 32 x2].flatten ++ ([])) te44 zr44 Tryd.underlying30 hI hA rfl rfl rfl rfl (by kernel_rfl) rfl fun g3 a w hA hI => ?_
            generalize hcs : ([[.int .u64 x1], av .u8 32 x2].flatten ++ ([]) : List Value) = cs4 at hE4 hI
            clear hcs
            refine o_nil <| ⟨(.inr (hI.sl [1, 3] rfl)), ?_⟩
            refine gF 3 rfl ?_
            obtain ⟨μ2, hle2, hsv2, hI, hth1⟩ := hI.freezeRowT 1 rfl
            have hS1 : Slc (RI .u8) 1 μ2 v2 (r1 ++ x3) := ⟨_, hE3, hsv2⟩
            have hE5 : Els (RIn μ2) 35 ([(⟨r2, r1 ++ x3, 4294967295⟩ : In)] : List In) _ := (Els.cons (c := [av .u8 32 r2.Tx, [.int .u32 r2.N], [v2], [.int .u32 4294967295]].flatten) ⟨v2, rfl, ⟨hz3.1, hz3.2, hS1, (in_lit .u32 4294967295 rfl)⟩⟩ rfl Els.nil)
            refine o_bsl ([av .u8 32 r2.Tx, [.int .u32 r2.N], [v2], [.int .u32 4294967295]].flatten ++ ([])) te42 zr42 Tryd.underlying29 hI hA rfl rfl rfl rfl (by kernel_rfl) rfl fun g4 a w hA hI => ?_
            generalize hcs : ([av .u8 32 r2.Tx, [.int .u32 r2.N], [v2], [.int .u32 4294967295]].flatten ++ ([]) : List Value) = cs5 at hE5 hI
            clear hcs
            refine o_nil <| ⟨(.inr ((hth1 _ _ hI).sl [0, 4] rfl)), ?_⟩
            refine gF 8 rfl ?_
            refine stp hA (r_bldS (cs := [[.int .u32 1], [(.slice (some ⟨g4, 0, none⟩) 1 1)], [(.slice (some ⟨g3, 0, none⟩) 1 1)], [.int .u32 0]].flatten.toArray) (pl := [(0, 1), (1, 1), (2, 1), (3, 1)]) zr32 Tryd.underlying32 ⟨rfl, sz24, rfl, sz29, rfl, sz30, rfl, sz24, trivial⟩ hA rfl ((fill_one rfl rfl (by kernel_rfl)).trans ((fill_one (own_cell hI (j := 0) rfl) rfl (by kernel_rfl)).trans ((fill_one (own_cell hI (j := 1) rfl) rfl (by kernel_rfl)).trans (by kernel_rfl))))) rfl fun a hA => ?_
            refine o_nil <| ⟨(.inr ((hth1 _ _ hI).sl [0, 4] rfl)), ?_⟩
            refine gF 9 rfl ?_
            refine o_st (j := 2) [] [[.int .u32 0], [(.slice none 0 0)], [(.slice none 0 0)], [.int .u32 0]] [[.int .u32 1], [(.slice (some ⟨g4, 0, none⟩) 1 1)], [(.slice (some ⟨g3, 0, none⟩) 1 1)], [.int .u32 0]] [] sz32 rfl rfl (fl_cons (oneC rfl) (fl_cons (oneC (own_one hI (j := 0) rfl)) (fl_cons (oneC (own_one hI (j := 1) rfl)) (fl_cons (oneC rfl) fl_nil)))) hI rfl hA rfl rfl rfl rfl fun w hI => ?_
            refine o_nil <| ⟨(.inr ((hth1 _ _ hI).sl [0, 4] rfl)), ?_⟩
            refine gN ?_
            cases sJ H
            exact ⟨μ2, v2, (.slice (some ⟨g4, 0, none⟩) 1 1), cs5, (.slice (some ⟨g3, 0, none⟩) 1 1), cs4, hle2, hS1, (in_lit .u32 1 rfl), hE5, hE4, hA.sub ⟨rfl, rfl, trivial⟩, hI⟩
        · skip
          have hE4 : Els (ROut μ) 33 ([(⟨x1, x2⟩ : Out)] : List Out) _ := (Els.cons (c := [[.int .u64 x1], av .u8 32 x2].flatten) ⟨rfl, ⟨hx1, hx2⟩⟩ rfl Els.nil)
          refine o_bsl ([[.int .u64 x1], av .u8 32 x2].flatten ++ ([])) te44 zr44 Tryd.underlying30 hI hA rfl rfl rfl rfl (by kernel_rfl) rfl fun g3 a w hA hI => ?_
          generalize hcs : ([[.int .u64 x1], av .u8 32 x2].flatten ++ ([]) : List Value) = cs4 at hE4 hI
          clear hcs
          refine o_nil <| ⟨(.inr (hI.sl [1, 3] rfl)), ?_⟩
          refine gF 2 rfl ?_
          refine stp hA (r_bldS (cs := [av .u8 32 r2.Tx, [.int .u32 r2.N], [v2], [.int .u32 4294967295]].flatten.toArray) (pl := [(0, 33), (33, 1), (34, 1)]) zr42 Tryd.underlying42 ⟨rfl, sz39, rfl, sz40, rfl, sz24, trivial⟩ hA rfl ((fill_seg [] [av .u8 32 (List.replicate 32 0), [.int .u32 0]] [av .u8 32 r2.Tx, [.int .u32 r2.N]] [[(.slice none 0 0)], [.int .u32 0]] rfl rfl rfl rfl rfl).trans ((fill_seg [av .u8 32 r2.Tx, [.int .u32 r2.N]] [[(.slice none 0 0)]] [[v2]] [[.int .u32 0]] (own_cell hI (j := 1) rfl) rfl rfl rfl rfl).trans ((fill_seg [av .u8 32 r2.Tx, [.int .u32 r2.N], [v2]] [[.int .u32 0]] [[.int .u32 4294967295]] [] rfl rfl rfl rfl rfl).trans (rfl))))) rfl fun a hA => ?_
          refine o_nil <| ⟨(.inr (hI.sl [1, 3] rfl)), ?_⟩
          refine gF 3 rfl ?_
          obtain ⟨μ2, hle2, hsv2, hI, hth1⟩ := hI.freezeRowT 1 rfl
          have hS1 : Slc (RI .u8) 1 μ2 v2 (r1 ++ x3) := ⟨_, hE3, hsv2⟩
          have hE5 : Els (RIn μ2) 35 ([(⟨r2, r1 ++ x3, 4294967295⟩ : In)] : List In) _ := (Els.cons (c := [av .u8 32 r2.Tx, [.int .u32 r2.N], [v2], [.int .u32 4294967295]].flatten) ⟨v2, rfl, ⟨hz3.1, hz3.2, hS1, (in_lit .u32 4294967295 rfl)⟩⟩ rfl Els.nil)
          refine o_bsl ([av .u8 32 r2.Tx, [.int .u32 r2.N], [v2], [.int .u32 4294967295]].flatten ++ ([])) te42 zr42 Tryd.underlying29 hI hA rfl rfl rfl rfl (by kernel_rfl) rfl fun g4 a w hA hI => ?_
          generalize hcs : ([av .u8 32 r2.Tx, [.int .u32 r2.N], [v2], [.int .u32 4294967295]].flatten ++ ([]) : List Value) = cs5 at hE5 hI
          clear hcs
          refine o_nil <| ⟨(.inr ((hth1 _ _ hI).sl [0, 4] rfl)), ?_⟩
          refine gF 8 rfl ?_
          refine stp hA (r_bldS (cs := [[.int .u32 1], [(.slice (some ⟨g4, 0, none⟩) 1 1)], [(.slice (some ⟨g3, 0, none⟩) 1 1)], [.int .u32 0]].flatten.toArray) (pl := [(0, 1), (1, 1), (2, 1), (3, 1)]) zr32 Tryd.underlying32 ⟨rfl, sz24, rfl, sz29, rfl, sz30, rfl, sz24, trivial⟩ hA rfl ((fill_one rfl rfl (by kernel_rfl)).trans ((fill_one (own_cell hI (j := 0) rfl) rfl (by kernel_rfl)).trans ((fill_one (own_cell hI (j := 1) rfl) rfl (by kernel_rfl)).trans (by kernel_rfl))))) rfl fun a hA => ?_
          refine o_nil <| ⟨(.inr ((hth1 _ _ hI).sl [0, 4] rfl)), ?_⟩
          refine gF 9 rfl ?_
          refine o_st (j := 2) [] [[.int .u32 0], [(.slice none 0 0)], [(.slice none 0 0)], [.int .u32 0]] [[.int .u32 1], [(.slice (some ⟨g4, 0, none⟩) 1 1)], [(.slice (some ⟨g3, 0, none⟩) 1 1)], [.int .u32 0]] [] sz32 rfl rfl (fl_cons (oneC rfl) (fl_cons (oneC (own_one hI (j := 0) rfl)) (fl_cons (oneC (own_one hI (j := 1) rfl)) (fl_cons (oneC rfl) fl_nil)))) hI rfl hA rfl rfl rfl rfl fun w hI => ?_
          refine o_nil <| ⟨(.inr ((hth1 _ _ hI).sl [0, 4] rfl)), ?_⟩
          refine gN ?_
          cases sJ H
          exact ⟨μ2, v2, (.slice (some ⟨g4, 0, none⟩) 1 1), cs5, (.slice (some ⟨g3, 0, none⟩) 1 1), cs4, hle2, hS1, (in_lit .u32 1 rfl), hE5, hE4, hA.sub ⟨rfl, rfl, trivial⟩, hI⟩
    · skip
      refine stp hA (r_bldS (cs := [[.int .u64 x1], av .u8 32 x2].flatten.toArray) (pl := [(0, 1), (1, 32)]) zr44 Tryd.underlying44 ⟨rfl, sz34, rfl, sz26, trivial⟩ hA rfl (by kernel_rfl)) rfl fun a hA => ?_
      refine o_nil <| ⟨(.inr (hI.sl [0, 2] rfl)), ?_⟩
      refine g_fork (i := 0) (is := [7]) (by kernel_rfl) (List.forall_mem_cons.2 ⟨⟨_, rfl, ?_⟩, (List.forall_mem_cons.2 ⟨⟨_, rfl, ?_⟩, List.forall_mem_nil _⟩)⟩)
      · skip
        obtain ⟨r2, hr2, H⟩ := bB H
        refine o_callp (u := .agg [av .u8 32 r2.Tx, [.int .u32 r2.N]].flatten.toArray) cf37 hA rfl hI (sargassoref1_Null.c μ _ hI.agr  r2 hr2) rfl fun a w hz3 hI hA => ?_
        refine o_nil <| ⟨(.inr (hI.sl [0, 2] rfl)), ?_⟩
        refine g_fork (i := 2) (is := [7]) (by kernel_rfl) (List.forall_mem_cons.2 ⟨⟨_, rfl, ?_⟩, (List.forall_mem_cons.2 ⟨⟨_, rfl, ?_⟩, List.forall_mem_nil _⟩)⟩)
        · skip
          refine stp hA (r_bldS (cs := [av .u8 32 r2.Tx, [.int .u32 r2.N], [v2], [.int .u32 4294967295]].flatten.toArray) (pl := [(0, 33), (33, 1), (34, 1)]) zr42 Tryd.underlying42 ⟨rfl, sz39, rfl, sz40, rfl, sz24, trivial⟩ hA rfl ((fill_seg [] [av .u8 32 (List.replicate 32 0), [.int .u32 0]] [av .u8 32 r2.Tx, [.int .u32 r2.N]] [[(.slice none 0 0)], [.int .u32 0]] rfl rfl rfl rfl rfl).trans ((fill_seg [av .u8 32 r2.Tx, [.int .u32 r2.N]] [[(.slice none 0 0)]] [[v2]] [[.int .u32 0]] (own_cell hI (j := 0) rfl) rfl rfl rfl rfl).trans ((fill_seg [av .u8 32 r2.Tx, [.int .u32 r2.N], [v2]] [[.int .u32 0]] [[.int .u32 4294967295]] [] rfl rfl rfl rfl rfl).trans (rfl))))) rfl fun a hA => ?_
          refine o_nil <| ⟨(.inr (hI.sl [0, 2] rfl)), ?_⟩
          refine g_fork (i := 3) (is := [7]) (by kernel_rfl) (List.forall_mem_cons.2 ⟨⟨_, rfl, ?_⟩, (List.forall_mem_cons.2 ⟨⟨_, rfl, ?_⟩, List.forall_mem_nil _⟩)⟩)
          · skip
            obtain ⟨μ2, hle2, hsv2, hI, hth1⟩ := hI.freezeRowT 0 rfl
            have hS1 : Slc (RI .u8) 1 μ2 v2 (r1 ++ x3) := ⟨_, hE3, hsv2⟩
            have hE4 : Els (RIn μ2) 35 ([(⟨r2, r1 ++ x3, 4294967295⟩ : In)] : List In) _ := (Els.cons (c := [av .u8 32 r2.Tx, [.int .u32 r2.N], [v2], [.int .u32 4294967295]].flatten) ⟨v2, rfl, ⟨hz3.1, hz3.2, hS1, (in_lit .u32 4294967295 rfl)⟩⟩ rfl Els.nil)
            refine o_bsl ([av .u8 32 r2.Tx, [.int .u32 r2.N], [v2], [.int .u32 4294967295]].flatten ++ ([])) te42 zr42 Tryd.underlying29 hI hA rfl rfl rfl rfl (by kernel_rfl) rfl fun g3 a w hA hI => ?_
            generalize hcs : ([av .u8 32 r2.Tx, [.int .u32 r2.N], [v2], [.int .u32 4294967295]].flatten ++ ([]) : List Value) = cs4 at hE4 hI
            clear hcs
            refine o_nil <| ⟨(.inr ((hth1 _ _ hI).sl [0, 3] rfl)), ?_⟩
            refine gF 7 rfl ?_
            have hE5 : Els (ROut μ2) 33 ([(⟨x1, x2⟩ : Out)] : List Out) _ := (Els.cons (c := [[.int .u64 x1], av .u8 32 x2].flatten) ⟨rfl, ⟨hx1, hx2⟩⟩ rfl Els.nil)
            refine o_bsl ([[.int .u64 x1], av .u8 32 x2].flatten ++ ([])) te44 zr44 Tryd.underlying30 hI hA rfl rfl rfl rfl (by kernel_rfl) rfl fun g4 a w hA hI => ?_
            generalize hcs : ([[.int .u64 x1], av .u8 32 x2].flatten ++ ([]) : List Value) = cs5 at hE5 hI
            clear hcs
            refine o_nil <| ⟨(.inr ((hth1 _ _ hI).sl [0, 4] rfl)), ?_⟩
            refine gF 8 rfl ?_
            refine stp hA (r_bldS (cs := [[.int .u32 1], [(.slice (some ⟨g3, 0, none⟩) 1 1)], [(.slice (some ⟨g4, 0, none⟩) 1 1)], [.int .u32 0]].flatten.toArray) (pl := [(0, 1), (1, 1), (2, 1), (3, 1)]) zr32 Tryd.underlying32 ⟨rfl, sz24, rfl, sz29, rfl, sz30, rfl, sz24, trivial⟩ hA rfl ((fill_one rfl rfl (by kernel_rfl)).trans ((fill_one (own_cell hI (j := 1) rfl) rfl (by kernel_rfl)).trans ((fill_one (own_cell hI (j := 0) rfl) rfl (by kernel_rfl)).trans (by kernel_rfl))))) rfl fun a hA => ?_
            refine o_nil <| ⟨(.inr ((hth1 _ _ hI).sl [0, 4] rfl)), ?_⟩
            refine gF 9 rfl ?_
            refine o_st (j := 2) [] [[.int .u32 0], [(.slice none 0 0)], [(.slice none 0 0)], [.int .u32 0]] [[.int .u32 1], [(.slice (some ⟨g3, 0, none⟩) 1 1)], [(.slice (some ⟨g4, 0, none⟩) 1 1)], [.int .u32 0]] [] sz32 rfl rfl (fl_cons (oneC rfl) (fl_cons (oneC (own_one hI (j := 1) rfl)) (fl_cons (oneC (own_one hI (j := 0) rfl)) (fl_cons (oneC rfl) fl_nil)))) hI rfl hA rfl rfl rfl rfl fun w hI => ?_
            refine o_nil <| ⟨(.inr ((hth1 _ _ hI).sl [0, 4] rfl)), ?_⟩
            refine gN ?_
            cases sJ H
            exact ⟨μ2, v2, (.slice (some ⟨g3, 0, none⟩) 1 1), cs4, (.slice (some ⟨g4, 0, none⟩) 1 1), cs5, hle2, hS1, (in_lit .u32 1 rfl), hE4, hE5, hA.sub ⟨rfl, rfl, trivial⟩, (hI.sl [1, 0, 2, 3] rfl)⟩
          · skip
            have hE4 : Els (ROut μ) 33 ([(⟨x1, x2⟩ : Out)] : List Out) _ := (Els.cons (c := [[.int .u64 x1], av .u8 32 x2].flatten) ⟨rfl, ⟨hx1, hx2⟩⟩ rfl Els.nil)
            refine o_bsl ([[.int .u64 x1], av .u8 32 x2].flatten ++ ([])) te44 zr44 Tryd.underlying30 hI hA rfl rfl rfl rfl (by kernel_rfl) rfl fun g3 a w hA hI => ?_
            generalize hcs : ([[.int .u64 x1], av .u8 32 x2].flatten ++ ([]) : List Value) = cs4 at hE4 hI
            clear hcs
            refine o_nil <| ⟨(.inr (hI.sl [1, 3] rfl)), ?_⟩
            refine gF 3 rfl ?_
            obtain ⟨μ2, hle2, hsv2, hI, hth1⟩ := hI.freezeRowT 1 rfl
            have hS1 : Slc (RI .u8) 1 μ2 v2 (r1 ++ x3) := ⟨_, hE3, hsv2⟩
            have hE5 : Els (RIn μ2) 35 ([(⟨r2, r1 ++ x3, 4294967295⟩ : In)] : List In) _ := (Els.cons (c := [av .u8 32 r2.Tx, [.int .u32 r2.N], [v2], [.int .u32 4294967295]].flatten) ⟨v2, rfl, ⟨hz3.1, hz3.2, hS1, (in_lit .u32 4294967295 rfl)⟩⟩ rfl Els.nil)
            refine o_bsl ([av .u8 32 r2.Tx, [.int .u32 r2.N], [v2], [.int .u32 4294967295]].flatten ++ ([])) te42 zr42 Tryd.underlying29 hI hA rfl rfl rfl rfl (by kernel_rfl) rfl fun g4 a w hA hI => ?_
            generalize hcs : ([av .u8 32 r2.Tx, [.int .u32 r2.N], [v2], [.int .u32 4294967295]].flatten ++ ([]) : List Value) = cs5 at hE5 hI
            clear hcs
            refine o_nil <| ⟨(.inr ((hth1 _ _ hI).sl [0, 4] rfl)), ?_⟩
            refine gF 8 rfl ?_
            refine stp hA (r_bldS (cs := [[.int .u32 1], [(.slice (some ⟨g4, 0, none⟩) 1 1)], [(.slice (some ⟨g3, 0, none⟩) 1 1)], [.int .u32 0]].flatten.toArray) (pl := [(0, 1), (1, 1), (2, 1), (3, 1)]) zr32 Tryd.underlying32 ⟨rfl, sz24, rfl, sz29, rfl, sz30, rfl, sz24, trivial⟩ hA rfl ((fill_one rfl rfl (by kernel_rfl)).trans ((fill_one (own_cell hI (j := 0) rfl) rfl (by kernel_rfl)).trans ((fill_one (own_cell hI (j := 1) rfl) rfl (by kernel_rfl)).trans (by kernel_rfl))))) rfl fun a hA => ?_
            refine o_nil <| ⟨(.inr ((hth1 _ _ hI).sl [0, 4] rfl)), ?_⟩
            refine gF 9 rfl ?_
            refine o_st (j := 2) [] [[.int .u32 0], [(.slice none 0 0)], [(.slice none 0 0)], [.int .u32 0]] [[.int .u32 1], [(.slice (some ⟨g4, 0, none⟩) 1 1)], [(.slice (some ⟨g3, 0, none⟩) 1 1)], [.int .u32 0]] [] sz32 rfl rfl (fl_cons (oneC rfl) (fl_cons (oneC (own_one hI (j := 0) rfl)) (fl_cons (oneC (own_one hI (j := 1) rfl)) (fl_cons (oneC rfl) fl_nil)))) hI rfl hA rfl rfl rfl rfl fun w hI => ?_
            refine o_nil <| ⟨(.inr ((hth1 _ _ hI).sl [0, 4] rfl)), ?_⟩
            refine gN ?_
            cases sJ H
            exact ⟨μ2, v2, (.slice (some ⟨g4, 0, none⟩) 1 1), cs5, (.slice (some ⟨g3, 0, none⟩) 1 1), cs4, hle2, hS1, (in_lit .u32 1 rfl), hE5, hE4, hA.sub ⟨rfl, rfl, trivial⟩, hI⟩
        · skip
          have hE4 : Els (ROut μ) 33 ([(⟨x1, x2⟩ : Out)] : List Out) _ := (Els.cons (c := [[.int .u64 x1], av .u8 32 x2].flatten) ⟨rfl, ⟨hx1, hx2⟩⟩ rfl Els.nil)
          refine o_bsl ([[.int .u64 x1], av .u8 32 x2].flatten ++ ([])) te44 zr44 Tryd.underlying30 hI hA rfl rfl rfl rfl (by kernel_rfl) rfl fun g3 a w hA hI => ?_
          generalize hcs : ([[.int .u64 x1], av .u8 32 x2].flatten ++ ([]) : List Value) = cs4 at hE4 hI
          clear hcs
          refine o_nil <| ⟨(.inr (hI.sl [1, 3] rfl)), ?_⟩
          refine gF 2 rfl ?_
          refine stp hA (r_bldS (cs := [av .u8 32 r2.Tx, [.int .u32 r2.N], [v2], [.int .u32 4294967295]].flatten.toArray) (pl := [(0, 33), (33, 1), (34, 1)]) zr42 Tryd.underlying42 ⟨rfl, sz39, rfl, sz40, rfl, sz24, trivial⟩ hA rfl ((fill_seg [] [av .u8 32 (List.replicate 32 0), [.int .u32 0]] [av .u8 32 r2.Tx, [.int .u32 r2.N]] [[(.slice none 0 0)], [.int .u32 0]] rfl rfl rfl rfl rfl).trans ((fill_seg [av .u8 32 r2.Tx, [.int .u32 r2.N]] [[(.slice none 0 0)]] [[v2]] [[.int .u32 0]] (own_cell hI (j := 1) rfl) rfl rfl rfl rfl).trans ((fill_seg [av .u8 32 r2.Tx, [.int .u32 r2.N], [v2]] [[.int .u32 0]] [[.int .u32 4294967295]] [] rfl rfl rfl rfl rfl).trans (rfl))))) rfl fun a hA => ?_
          refine o_nil <| ⟨(.inr (hI.sl [1, 3] rfl)), ?_⟩
          refine gF 3 rfl ?_
          obtain ⟨μ2, hle2, hsv2, hI, hth1⟩ := hI.freezeRowT 1 rfl
          have hS1 : Slc (RI .u8) 1 μ2 v2 (r1 ++ x3) := ⟨_, hE3, hsv2⟩
          have hE5 : Els (RIn μ2) 35 ([(⟨r2, r1 ++ x3, 4294967295⟩ : In)] : List In) _ := (Els.cons (c := [av .u8 32 r2.Tx, [.int .u32 r2.N], [v2], [.int .u32 4294967295]].flatten) ⟨v2, rfl, ⟨hz3.1, hz3.2, hS1, (in_lit .u32 4294967295 rfl)⟩⟩ rfl Els.nil)
          refine o_bsl ([av .u8 32 r2.Tx, [.int .u32 r2.N], [v2], [.int .u32 4294967295]].flatten ++ ([])) te42 zr42 Tryd.underlying29 hI hA rfl rfl rfl rfl (by kernel_rfl) rfl fun g4 a w hA hI => ?_
          generalize hcs : ([av .u8 32 r2.Tx, [.int .u32 r2.N], [v2], [.int .u32 4294967295]].flatten ++ ([]) : List Value) = cs5 at hE5 hI
          clear hcs
          refine o_nil <| ⟨(.inr ((hth1 _ _ hI).sl [0, 4] rfl)), ?_⟩
          refine gF 8 rfl ?_
          refine stp hA (r_bldS (cs := [[.int .u32 1], [(.slice (some ⟨g4, 0, none⟩) 1 1)], [(.slice (some ⟨g3, 0, none⟩) 1 1)], [.int .u32 0]].flatten.toArray) (pl := [(0, 1), (1, 1), (2, 1), (3, 1)]) zr32 Tryd.underlying32 ⟨rfl, sz24, rfl, sz29, rfl, sz30, rfl, sz24, trivial⟩ hA rfl ((fill_one rfl rfl (by kernel_rfl)).trans ((fill_one (own_cell hI (j := 0) rfl) rfl (by kernel_rfl)).trans ((fill_one (own_cell hI (j := 1) rfl) rfl (by kernel_rfl)).trans (by kernel_rfl))))) rfl fun a hA => ?_
          refine o_nil <| ⟨(.inr ((hth1 _ _ hI).sl [0, 4] rfl)), ?_⟩
          refine gF 9 rfl ?_
          refine o_st (j := 2) [] [[.int .u32 0], [(.slice none 0 0)], [(.slice none 0 0)], [.int .u32 0]] [[.int .u32 1], [(.slice (some ⟨g4, 0, none⟩) 1 1)], [(.slice (some ⟨g3, 0, none⟩) 1 1)], [.int .u32 0]] [] sz32 rfl rfl (fl_cons (oneC rfl) (fl_cons (oneC (own_one hI (j := 0) rfl)) (fl_cons (oneC (own_one hI (j := 1) rfl)) (fl_cons (oneC rfl) fl_nil)))) hI rfl hA rfl rfl rfl rfl fun w hI => ?_
          refine o_nil <| ⟨(.inr ((hth1 _ _ hI).sl [0, 4] rfl)), ?_⟩
          refine gN ?_
          cases sJ H
          exact ⟨μ2, v2, (.slice (some ⟨g4, 0, none⟩) 1 1), cs5, (.slice (some ⟨g3, 0, none⟩) 1 1), cs4, hle2, hS1, (in_lit .u32 1 rfl), hE5, hE4, hA.sub ⟨rfl, rfl, trivial⟩, hI⟩
      · skip
        have hE4 : Els (ROut μ) 33 ([(⟨x1, x2⟩ : Out)] : List Out) _ := (Els.cons (c := [[.int .u64 x1], av .u8 32 x2].flatten) ⟨rfl, ⟨hx1, hx2⟩⟩ rfl Els.nil)
        refine o_bsl ([[.int .u64 x1], av .u8 32 x2].flatten ++ ([])) te44 zr44 Tryd.underlying30 hI hA rfl rfl rfl rfl (by kernel_rfl) rfl fun g3 a w hA hI => ?_
        generalize hcs : ([[.int .u64 x1], av .u8 32 x2].flatten ++ ([]) : List Value) = cs4 at hE4 hI
        clear hcs
        refine o_nil <| ⟨(.inr (hI.sl [1, 3] rfl)), ?_⟩
        refine gF 0 rfl ?_
        obtain ⟨r2, hr2, H⟩ := bB H
        refine o_callp (u := .agg [av .u8 32 r2.Tx, [.int .u32 r2.N]].flatten.toArray) cf37 hA rfl hI (sargassoref1_Null.c μ _ hI.agr  r2 hr2) rfl fun a w hz3 hI hA => ?_
        refine o_nil <| ⟨(.inr (hI.sl [1, 3] rfl)), ?_⟩
        refine gF 2 rfl ?_
        refine stp hA (r_bldS (cs := [av .u8 32 r2.Tx, [.int .u32 r2.N], [v2], [.int .u32 4294967295]].flatten.toArray) (pl := [(0, 33), (33, 1), (34, 1)]) zr42 Tryd.underlying42 ⟨rfl, sz39, rfl, sz40, rfl, sz24, trivial⟩ hA rfl ((fill_seg [] [av .u8 32 (List.replicate 32 0), [.int .u32 0]] [av .u8 32 r2.Tx, [.int .u32 r2.N]] [[(.slice none 0 0)], [.int .u32 0]] rfl rfl rfl rfl rfl).trans ((fill_seg [av .u8 32 r2.Tx, [.int .u32 r2.N]] [[(.slice none 0 0)]] [[v2]] [[.int .u32 0]] (own_cell hI (j := 1) rfl) rfl rfl rfl rfl).trans ((fill_seg [av .u8 32 r2.Tx, [.int .u32 r2.N], [v2]] [[.int .u32 0]] [[.int .u32 4294967295]] [] rfl rfl rfl rfl rfl).trans (rfl))))) rfl fun a hA => ?_
        refine o_nil <| ⟨(.inr (hI.sl [1, 3] rfl)), ?_⟩
        refine gF 3 rfl ?_
        obtain ⟨μ2, hle2, hsv2, hI, hth1⟩ := hI.freezeRowT 1 rfl
        have hS1 : Slc (RI .u8) 1 μ2 v2 (r1 ++ x3) := ⟨_, hE3, hsv2⟩
        have hE5 : Els (RIn μ2) 35 ([(⟨r2, r1 ++ x3, 4294967295⟩ : In)] : List In) _ := (Els.cons (c := [av .u8 32 r2.Tx, [.int .u32 r2.N], [v2], [.int .u32 4294967295]].flatten) ⟨v2, rfl, ⟨hz3.1, hz3.2, hS1, (in_lit .u32 4294967295 rfl)⟩⟩ rfl Els.nil)
        refine o_bsl ([av .u8 32 r2.Tx, [.int .u32 r2.N], [v2], [.int .u32 4294967295]].flatten ++ ([])) te42 zr42 Tryd.underlying29 hI hA rfl rfl rfl rfl (by kernel_rfl) rfl fun g4 a w hA hI => ?_
        generalize hcs : ([av .u8 32 r2.Tx, [.int .u32 r2.N], [v2], [.int .u32 4294967295]].flatten ++ ([]) : List Value) = cs5 at hE5 hI
        clear hcs
        refine o_nil <| ⟨(.inr ((hth1 _ _ hI).sl [0, 4] rfl)), ?_⟩
        refine gF 8 rfl ?_
        refine stp hA (r_bldS (cs := [[.int .u32 1], [(.slice (some ⟨g4, 0, none⟩) 1 1)], [(.slice (some ⟨g3, 0, none⟩) 1 1)], [.int .u32 0]].flatten.toArray) (pl := [(0, 1), (1, 1), (2, 1), (3, 1)]) zr32 Tryd.underlying32 ⟨rfl, sz24, rfl, sz29, rfl, sz30, rfl, sz24, trivial⟩ hA rfl ((fill_one rfl rfl (by kernel_rfl)).trans ((fill_one (own_cell hI (j := 0) rfl) rfl (by kernel_rfl)).trans ((fill_one (own_cell hI (j := 1) rfl) rfl (by kernel_rfl)).trans (by kernel_rfl))))) rfl fun a hA => ?_
        refine o_nil <| ⟨(.inr ((hth1 _ _ hI).sl [0, 4] rfl)), ?_⟩
        refine gF 9 rfl ?_
        refine o_st (j := 2) [] [[.int .u32 0], [(.slice none 0 0)], [(.slice none 0 0)], [.int .u32 0]] [[.int .u32 1], [(.slice (some ⟨g4, 0, none⟩) 1 1)], [(.slice (some ⟨g3, 0, none⟩) 1 1)], [.int .u32 0]] [] sz32 rfl rfl (fl_cons (oneC rfl) (fl_cons (oneC (own_one hI (j := 0) rfl)) (fl_cons (oneC (own_one hI (j := 1) rfl)) (fl_cons (oneC rfl) fl_nil)))) hI rfl hA rfl rfl rfl rfl fun w hI => ?_
        refine o_nil <| ⟨(.inr ((hth1 _ _ hI).sl [0, 4] rfl)), ?_⟩
        refine gN ?_
        cases sJ H
        exact ⟨μ2, v2, (.slice (some ⟨g4, 0, none⟩) 1 1), cs5, (.slice (some ⟨g3, 0, none⟩) 1 1), cs4, hle2, hS1, (in_lit .u32 1 rfl), hE5, hE4, hA.sub ⟨rfl, rfl, trivial⟩, hI⟩
  · rintro a w ⟨μ1, vvc1, vvc3, ccc3, vvc4, ccc4, hle1, wc1, wc2, wc3, wc4, hA, hI⟩
    have H := Hk1
    refine w_ret ?_
    obtain ⟨μ3, hle3, hsv3, hI⟩ := hI.freezeRow 0 rfl
    have hS2 : Slc (RIn μ3) 35 μ3 vvc3 c3 := ⟨_, (Els.mono wc3 (fun _ _ h => RIn.le hle3 h)), hsv3⟩
    obtain ⟨μ4, hle4, hsv4, hI⟩ := hI.freezeRow 0 rfl
    have hS3 : Slc (ROut μ4) 33 μ4 vvc4 c4 := ⟨_, wc4, hsv4⟩
    obtain rfl := sJ H
    exact retc Tryd.underlying32 rfl sz32 rfl hI (j := 0) rfl hA Tryd.results9 rfl ⟨_, rfl, vvc3, vvc4, μ4, rfl, ⟨wc2, (Slc.le hS2 (fun _ _ h => RIn.le hle4 h) hle4), hS3, (in_lit .u32 0 rfl)⟩, (hI.sl [] rfl)⟩
set_option maxRecDepth 20000 in
theorem sargassoref1_TxBytes.c (μ : Store) (w0 : World) (hμ : Agr μ w0) (x0 : Tx) (u0_0 : Value) (u0_1 : Value) (hx0 : TxW μ x0 u0_0 u0_1) (r : List Int) (H : sargassoref1_TxBytes.f x0 = some r) :
    Calls Tryd.prog 117 [.agg [[.int .u32 x0.Version], [u0_0], [u0_1], [.int .u32 x0.Time]].flatten.toArray].toArray w0 (fun e w' => ∃ v, e = .returned v ∧ ∃ (v0 : Value) (c0 : List Value), v = v0 ∧ Els (RI .u8) 1 r c0 ∧ Iv w0 [] μ μ [row 5 1 v0 r.length c0] w') := by
  refine enter Tryd.func117 rfl Tryd.ntmps117 rfl fun a hA => ?_
  have hI := Iv.start hμ
  have H := bI H
  refine w_seq fun _ hN1 => w_reg <| o_box [[.int .u32 x0.Version], [u0_0], [u0_1], [.int .u32 x0.Time]] hI hA rfl rfl rfl fun g1 a w hA hI hg1 => 
    sta hA rfl rfl fun a hA => ?_
  refine o_nil <| hN1 _ _ <| w_seq fun _ hN2 => ?_
  refine w_anyS [] mo (fun w (h : Iv w0 [] μ μ [cel g1 [[.int .u32 x0.Version], [u0_0], [u0_1], [.int .u32 x0.Time]] 32] w) => (h.sl [0] rfl : Iv w0 [] μ μ [cel g1 [[.int .u32 x0.Version], [u0_0], [u0_1], [.int .u32 x0.Time]] 32] w)) hI fun w hI => ?_
  refine gE 0 hA rfl (.inr hI) (fun _ => r_fd (k := 0) Tryd.underlying32 rfl sz24 hA rfl rfl) fun a hA => ?_
  refine gT 1 hA rfl hI (fun w hI => r_ld1 (j := 0) [] [[u0_0], [u0_1], [.int .u32 x0.Time]] Tryd.underlying24 rfl hI rfl hA rfl rfl) fun a hA => ?_
  refine gE 3 hA rfl (.inr hI) (fun _ => r_fd (k := 1) Tryd.underlying32 rfl sz29 hA rfl rfl) fun a hA => ?_
  refine gT 4 hA rfl hI (fun w hI => r_ld1 (j := 0) [[.int .u32 x0.Version]] [[u0_1], [.int .u32 x0.Time]] Tryd.underlying29 rfl hI rfl hA rfl rfl) fun a hA => ?_
  obtain ⟨_, hsl1⟩ := Slc.sv hx0.2.1
  refine gE 5 hA rfl (.inr hI) (fun _ => r_slen Tryd.underlying29 hsl1 hA rfl) fun a hA => ?_
  refine gE 6 hA rfl (.inr hI) (fun _ => r_conv Tryd.underlying3 Tryd.underlying34 hA rfl) fun a hA => ?_
  refine gF 2 rfl ?_
  have hI := hI.nilRow 5 1
  obtain ⟨r1, hr1, H⟩ := bB H
  refine o_call _ cf36 hA rfl (sargassoref1_Four.c μ _ hI.agr ([] : List Int) (.slice none 0 0) ([]) (Els.nil (RE := (RI .u8)) (sz := 1)) (hI.item (j := 0) rfl) x0.Version hx0.1 r1 hr1) rfl fun v1 a w hz1 hA => ?_
  obtain ⟨_, cs1, rfl, hE1, hi1⟩ := hz1
  have hI := hI.call1 0 rfl hi1
  refine o_nil <| ⟨(.inr (hI.sl [1] rfl)), ?_⟩
  refine gF 7 rfl ?_
  obtain ⟨r2, hr2, H⟩ := bB H
  refine o_call _ cf124 hA rfl (sargassoref1_Put.c μ _ hI.agr r1 v1 cs1 hE1 (hI.item (j := 0) rfl) (IntKind.u64.wrap (x0.Ins.length : Int)) (wrap_in _ _) r2 hr2) rfl fun v2 a w hz2 hA => ?_
  obtain ⟨_, cs2, rfl, hE2, hi2⟩ := hz2
  have hI := hI.call1 0 rfl hi2
  refine o_nil <| ⟨(.inr (hI.sl [1] rfl)), ?_⟩
  refine gE 8 hA rfl (.inr (hI.sl [1] rfl)) (fun _ => r_as hA rfl) fun a hA => ?_
  refine gN <| hN2 _ _ ?_
  obtain ⟨c1, hz3, Hk1⟩ := bB H
  refine w_cut (fun a w => ∃ (vvc1 : Value) (ccc1 : List Value), Els (RI .u8) 1 c1 ccc1 ∧ Fr a 81 [(1, .pointer (some ⟨g1, 0, none⟩)), (2, (.slice none 0 0)), (3, vvc1)] ∧ Iv w0 [] μ μ [row 5 1 vvc1 c1.length ccc1, cel g1 [[.int .u32 x0.Version], [u0_0], [u0_1], [.int .u32 x0.Time]] 32] w) ?_ ?_
  · have H := bI hz3
    refine w_seq fun _ hN3 => w_reg <| sta hA rfl rfl fun a hA => ?_
    refine o_nil <| hN3 _ _ <| w_block ?_
    obtain ⟨z1, hz4, Hk2⟩ := bind_some H
    obtain ⟨n1, hn1⟩ := loopO_some hz4
    refine w_loop (fun n a w => ∃ (s1 : List Int) (s2 : Int) (vvs1 : Value) (ccs1 : List Value), loopN (sargassoref1_TxBytes.s0 x0) n (s1, s2) = some z1 ∧ Els (RI .u8) 1 s1 ccs1 ∧ InR .i64 s2 ∧ Fr a 81 [(1, .pointer (some ⟨g1, 0, none⟩)), (2, (.slice none 0 0)), (3, vvs1), (4, .int .i64 s2)] ∧ Iv w0 [] μ μ [row 5 1 vvs1 s1.length ccs1, cel g1 [[.int .u32 x0.Version], [u0_0], [u0_1], [.int .u32 x0.Time]] 32] w) n1 ⟨r2, 0, v2, cs2, hn1, hE2, (in_lit .i64 0 rfl), hA.sub ⟨rfl, rfl, rfl, rfl, trivial⟩, hI⟩ ?_
    clear hA hI
    rintro n a w ⟨s1, s2, vvs1, ccs1, hn1, ws1, ws2, hA, hI⟩
    obtain ⟨m1, rfl, H⟩ := loopN_bind hn1
    clear hn1
    refine w_seq fun _ hN4 => w_seq fun _ hN5 => w_reg <| stm hA rfl rfl fun a hA => 
      stp hA (r_fd (k := 1) Tryd.underlying32 rfl sz29 hA rfl rfl) rfl fun a hA => 
      stp hA (r_ld1 (j := 1) [[.int .u32 x0.Version]] [[u0_1], [.int .u32 x0.Time]] Tryd.underlying29 rfl hI rfl hA rfl rfl) rfl fun a hA => ?_
    obtain ⟨_, hsl2⟩ := Slc.sv hx0.2.1
    refine stp hA (r_slen Tryd.underlying29 hsl2 hA rfl) rfl fun a hA => 
      stp hA (r_lss hA rfl rfl) rfl fun a hA => ?_
    refine o_nil <| hN5 _ _ <| w_cond hA rfl (fun hc1 => ?_) (fun hc1 => ?_)
    · obtain ⟨hc1, H⟩ := dT H hc1
      refine w_skip <| hN4 _ _ <| w_seq fun _ hN6 => w_block <| w_seq fun _ hN7 => w_reg <| stp hA (r_fd (k := 1) Tryd.underlying32 rfl sz29 hA rfl rfl) rfl fun a hA => 
        stp hA (r_ld1 (j := 1) [[.int .u32 x0.Version]] [[u0_1], [.int .u32 x0.Time]] Tryd.underlying29 rfl hI rfl hA rfl rfl) rfl fun a hA => 
        stm hA rfl rfl fun a hA => ?_
      obtain ⟨hb1, H⟩ := bG H
      obtain ⟨_, he1, _, hat1⟩ := Slc.elem hx0.2.1 (getD_some default hb1.1 hb1.2)
      obtain ⟨v3, rfl, hw1⟩ := he1
      obtain ⟨_, hsl3⟩ := Slc.sv hx0.2.1
      refine stp hA (r_six Tryd.underlying29 sz42 hsl3 hA rfl rfl hb1.1 hb1.2) rfl fun a hA => 
        stp hA (r_ldmA [] [av .u8 32 ((x0.Ins.getD s2.toNat default).From.Tx), [.int .u32 ((x0.Ins.getD s2.toNat default).From.N)], [v3], [.int .u32 ((x0.Ins.getD s2.toNat default).Seq)]] [] Tryd.underlying42 rfl sz42 rfl hI.agr hat1 hA rfl rfl) rfl fun a hA => 
        o_new [av .u8 32 (List.replicate 32 0), [.int .u32 0], [(.slice none 0 0)], [.int .u32 0]] zr42 hI hA rfl fun g2 a w hA hI hg2 => ?_
      obtain ⟨_, hsl4⟩ := Slc.sv hw1.2.2.1
      refine o_st (j := 0) [] [av .u8 32 (List.replicate 32 0), [.int .u32 0], [(.slice none 0 0)], [.int .u32 0]] [av .u8 32 ((x0.Ins.getD s2.toNat default).From.Tx), [.int .u32 ((x0.Ins.getD s2.toNat default).From.N)], [v3], [.int .u32 ((x0.Ins.getD s2.toNat default).Seq)]] [] sz42 rfl rfl (fl_cons (one_av _ _ _) (fl_cons (oneC rfl) (fl_cons (oneC (one_sl hsl4)) (fl_cons (oneC rfl) fl_nil)))) hI rfl hA rfl rfl rfl rfl fun w hI => ?_
      refine o_nil <| hN7 _ _ <| w_seq fun _ hN8 => w_reg <| stm hA rfl rfl fun a hA => 
        stp hA (r_fd (k := 0) Tryd.underlying42 rfl sz39 hA rfl rfl) rfl fun a hA => 
        stp hA (r_fd (k := 0) Tryd.underlying39 rfl sz26 hA rfl rfl) rfl fun a hA => 
        stp hA (r_slv (i := 0) (j := 32) Tryd.underlying26 sz5 hA rfl rfl rfl (by decide) (by decide) (by decide) (by decide) rfl) rfl fun a hA => ?_
      have hE3 := els_av hw1.1
      obtain ⟨hb2, H⟩ := bG H
      have hE4 := ws1.app hE3
      refine o_appG (xs := (s1 : List Int)) (ys := ((x0.Ins.getD s2.toNat default).From.Tx : List Int)) (M := 140737488355328) 1 te5 Tryd.underlying40 hI rfl hA rfl rfl (by simpa using src_cel [] [[.int .u32 ((x0.Ins.getD s2.toNat default).From.N)], [v3], [.int .u32 ((x0.Ins.getD s2.toNat default).Seq)]] hI (j := 0) rfl hw1.1 rfl) hE3.len (hE3.ones (one_RI _)) hb2 rfl fun v4 a w hA hI => 
        sta hA rfl rfl fun a hA => ?_
      refine o_nil <| hN8 _ _ <| w_seq fun _ hN9 => ?_
      refine w_anyS [] mo (fun w (h : Iv w0 [] μ μ [cel g2 [av .u8 32 ((x0.Ins.getD s2.toNat default).From.Tx), [.int .u32 ((x0.Ins.getD s2.toNat default).From.N)], [v3], [.int .u32 ((x0.Ins.getD s2.toNat default).Seq)]] 42, row 5 1 v4 (s1 ++ ((x0.Ins.getD s2.toNat default).From.Tx)).length (ccs1 ++ ([av .u8 32 ((x0.Ins.getD s2.toNat default).From.Tx)].flatten)), cel g1 [[.int .u32 x0.Version], [u0_0], [u0_1], [.int .u32 x0.Time]] 32] w) => (h.sl [0, 2] rfl : Iv w0 [] μ μ [cel g2 [av .u8 32 ((x0.Ins.getD s2.toNat default).From.Tx), [.int .u32 ((x0.Ins.getD s2.toNat default).From.N)], [v3], [.int .u32 ((x0.Ins.getD s2.toNat default).Seq)]] 42, cel g1 [[.int .u32 x0.Version], [u0_0], [u0_1], [.int .u32 x0.Time]] 32] w)) hI fun w hI => ?_
      refine gE 0 hA rfl (.inr (hI.sl [0, 2] rfl)) (fun _ => r_mv hA rfl) fun a hA => ?_
      refine gE 1 hA rfl (.inr (hI.sl [0, 2] rfl)) (fun _ => r_fd (k := 0) Tryd.underlying42 rfl sz39 hA rfl rfl) fun a hA => ?_
      refine gE 2 hA rfl (.inr (hI.sl [0, 2] rfl)) (fun _ => r_fd (k := 32) Tryd.underlying39 rfl sz24 hA rfl rfl) fun a hA => ?_
      refine gT 3 hA rfl (hI.sl [0, 2] rfl) (fun w hI => r_ld1 (j := 0) [av .u8 32 ((x0.Ins.getD s2.toNat default).From.Tx)] [[v3], [.int .u32 ((x0.Ins.getD s2.toNat default).Seq)]] Tryd.underlying24 rfl hI rfl hA rfl rfl) fun a hA => ?_
      refine gE 5 hA rfl (.inr (hI.sl [0, 2] rfl)) (fun _ => r_fd (k := 33) Tryd.underlying42 rfl sz40 hA rfl rfl) fun a hA => ?_
      refine gT 6 hA rfl (hI.sl [0, 2] rfl) (fun w hI => r_ld1 (j := 0) [av .u8 32 ((x0.Ins.getD s2.toNat default).From.Tx), [.int .u32 ((x0.Ins.getD s2.toNat default).From.N)]] [[.int .u32 ((x0.Ins.getD s2.toNat default).Seq)]] Tryd.underlying40 rfl hI rfl hA rfl rfl) fun a hA => ?_
      obtain ⟨_, hsl5⟩ := Slc.sv hw1.2.2.1
      refine gE 7 hA rfl (.inr (hI.sl [0, 2] rfl)) (fun _ => r_slen Tryd.underlying40 hsl5 hA rfl) fun a hA => ?_
      refine gE 8 hA rfl (.inr (hI.sl [0, 2] rfl)) (fun _ => r_conv Tryd.underlying3 Tryd.underlying34 hA rfl) fun a hA => ?_
      refine gF 4 rfl ?_
      obtain ⟨r3, hr3, H⟩ := bB H
      refine o_call _ cf36 hA rfl (sargassoref1_Four.c μ _ hI.agr (s1 ++ ((x0.Ins.getD s2.toNat default).From.Tx)) v4 (ccs1 ++ ([av .u8 32 ((x0.Ins.getD s2.toNat default).From.Tx)].flatten)) hE4 (hI.item (j := 1) rfl) ((x0.Ins.getD s2.toNat default).From.N) hw1.2.1 r3 hr3) rfl fun v5 a w hz5 hA => ?_
      obtain ⟨_, cs5, rfl, hE5, hi3⟩ := hz5
      have hI := hI.call1 1 rfl hi3
      refine o_nil <| ⟨(.inr (hI.sl [1, 2] rfl)), ?_⟩
      refine gF 9 rfl ?_
      obtain ⟨r4, hr4, H⟩ := bB H
      refine o_call _ cf124 hA rfl (sargassoref1_Put.c μ _ hI.agr r3 v5 cs5 hE5 (hI.item (j := 0) rfl) (IntKind.u64.wrap (((x0.Ins.getD s2.toNat default).Key).length : Int)) (wrap_in _ _) r4 hr4) rfl fun v6 a w hz6 hA => ?_
      obtain ⟨_, cs6, rfl, hE6, hi4⟩ := hz6
      have hI := hI.call1 0 rfl hi4
      refine o_nil <| ⟨(.inr (hI.sl [1, 2] rfl)), ?_⟩
      refine gE 10 hA rfl (.inr (hI.sl [1, 2] rfl)) (fun _ => r_as hA rfl) fun a hA => ?_
      refine gN <| hN9 _ _ ?_
      refine w_anyS [] mo (fun w (h : Iv w0 [] μ μ [row 5 1 v6 r4.length cs6, cel g2 [av .u8 32 ((x0.Ins.getD s2.toNat default).From.Tx), [.int .u32 ((x0.Ins.getD s2.toNat default).From.N)], [v3], [.int .u32 ((x0.Ins.getD s2.toNat default).Seq)]] 42, cel g1 [[.int .u32 x0.Version], [u0_0], [u0_1], [.int .u32 x0.Time]] 32] w) => (h.sl [1, 2] rfl : Iv w0 [] μ μ [cel g2 [av .u8 32 ((x0.Ins.getD s2.toNat default).From.Tx), [.int .u32 ((x0.Ins.getD s2.toNat default).From.N)], [v3], [.int .u32 ((x0.Ins.getD s2.toNat default).Seq)]] 42, cel g1 [[.int .u32 x0.Version], [u0_0], [u0_1], [.int .u32 x0.Time]] 32] w)) hI fun w hI => ?_
      refine gE 0 hA rfl (.inr (hI.sl [1, 2] rfl)) (fun _ => r_mv hA rfl) fun a hA => ?_
      refine gE 1 hA rfl (.inr (hI.sl [1, 2] rfl)) (fun _ => r_fd (k := 33) Tryd.underlying42 rfl sz40 hA rfl rfl) fun a hA => ?_
      refine gT 2 hA rfl (hI.sl [1, 2] rfl) (fun w hI => r_ld1 (j := 0) [av .u8 32 ((x0.Ins.getD s2.toNat default).From.Tx), [.int .u32 ((x0.Ins.getD s2.toNat default).From.N)]] [[.int .u32 ((x0.Ins.getD s2.toNat default).Seq)]] Tryd.underlying40 rfl hI rfl hA rfl rfl) fun a hA => ?_
      refine gE 4 hA rfl (.inr (hI.sl [1, 2] rfl)) (fun _ => r_fd (k := 34) Tryd.underlying42 rfl sz24 hA rfl rfl) fun a hA => ?_
      refine gT 5 hA rfl (hI.sl [1, 2] rfl) (fun w hI => r_ld1 (j := 0) [av .u8 32 ((x0.Ins.getD s2.toNat default).From.Tx), [.int .u32 ((x0.Ins.getD s2.toNat default).From.N)], [v3]] [] Tryd.underlying24 rfl hI rfl hA rfl rfl) fun a hA => ?_
      refine gF 3 rfl ?_
      obtain ⟨cs7, hE7, hsv2⟩ : Slc (RI .u8) 1 μ v3 ((x0.Ins.getD s2.toNat default).Key) := id (hw1.2.2.1)
      obtain ⟨hb3, H⟩ := bG H
      have hE8 := hE6.app hE7
      refine o_appG (xs := (r4 : List Int)) (ys := ((x0.Ins.getD s2.toNat default).Key : List Int)) (M := 140737488355328) 0 te5 Tryd.underlying40 hI rfl hA rfl rfl (src_sl hI.agr hsv2 hE7.len) hE7.len (hE7.ones (one_RI _)) hb3 rfl fun v7 a w hA hI => ?_
      refine o_nil <| ⟨(.inr (hI.sl [1, 2] rfl)), ?_⟩
      refine gF 6 rfl ?_
      obtain ⟨r5, hr5, H⟩ := bB H
      refine o_call _ cf36 hA rfl (sargassoref1_Four.c μ _ hI.agr (r4 ++ ((x0.Ins.getD s2.toNat default).Key)) v7 (cs6 ++ cs7) hE8 (hI.item (j := 0) rfl) ((x0.Ins.getD s2.toNat default).Seq) hw1.2.2.2 r5 hr5) rfl fun v8 a w hz7 hA => ?_
      obtain ⟨_, cs9, rfl, hE9, hi5⟩ := hz7
      have hI := hI.call1 0 rfl hi5
      refine o_nil <| ⟨(.inr (hI.sl [1, 2] rfl)), ?_⟩
      refine gE 7 hA rfl (.inr (hI.sl [1, 2] rfl)) (fun _ => r_as hA rfl) fun a hA => ?_
      refine gN <| hN6 _ _ <| w_reg <| stm hA rfl rfl fun a hA => 
        stp hA (r_add hA rfl rfl) rfl fun a hA => 
        sta hA rfl rfl fun a hA => ?_
      refine o_nil <| ⟨m1, Nat.lt_succ_self _, r5, IntKind.i64.wrap (s2 + 1), v8, cs9, H, hE9, (wrap_in _ _), hA.sub ⟨rfl, rfl, rfl, rfl, trivial⟩, (hI.sl [0, 2] rfl)⟩
    · obtain ⟨hc1, H⟩ := dF H hc1
      refine w_exit rfl ?_
      have H : some s1 = some z1 := H
      obtain rfl := sI H
      have H := Hk2
      cases sJ H
      exact ⟨vvs1, ccs1, ws1, hA.sub ⟨rfl, rfl, rfl, trivial⟩, hI⟩
  · rintro a w ⟨vvc1, ccc1, wc1, hA, hI⟩
    have H := Hk1
    refine w_seq fun _ hN10 => w_reg <| stm hA rfl rfl fun a hA => 
      stp hA (r_fd (k := 2) Tryd.underlying32 rfl sz30 hA rfl rfl) rfl fun a hA => 
      stp hA (r_ld1 (j := 1) [[.int .u32 x0.Version], [u0_0]] [[.int .u32 x0.Time]] Tryd.underlying30 rfl hI rfl hA rfl rfl) rfl fun a hA => ?_
    obtain ⟨_, hsl6⟩ := Slc.sv hx0.2.2.1
    refine stp hA (r_slen Tryd.underlying30 hsl6 hA rfl) rfl fun a hA => 
      stp hA (r_conv Tryd.underlying3 Tryd.underlying34 hA rfl) rfl fun a hA => ?_
    obtain ⟨r6, hr6, H⟩ := bB H
    refine o_call _ cf124 hA rfl (sargassoref1_Put.c μ _ hI.agr c1 vvc1 ccc1 wc1 (hI.item (j := 0) rfl) (IntKind.u64.wrap (x0.Outs.length : Int)) (wrap_in _ _) r6 hr6) rfl fun v9 a w hz8 hA => ?_
    obtain ⟨_, cs10, rfl, hE10, hi6⟩ := hz8
    have hI := hI.call1 0 rfl hi6
    refine sta hA rfl rfl fun a hA => ?_
    refine o_nil <| hN10 _ _ ?_
    obtain ⟨c2, hz9, Hk3⟩ := bB H
    refine w_cut (fun a w => ∃ (vvc2 : Value) (ccc2 : List Value), Els (RI .u8) 1 c2 ccc2 ∧ Fr a 81 [(1, .pointer (some ⟨g1, 0, none⟩)), (2, (.slice none 0 0)), (3, vvc2)] ∧ Iv w0 [] μ μ [row 5 1 vvc2 c2.length ccc2, cel g1 [[.int .u32 x0.Version], [u0_0], [u0_1], [.int .u32 x0.Time]] 32] w) ?_ ?_
    · have H := bI hz9
      refine w_seq fun _ hN11 => w_reg <| sta hA rfl rfl fun a hA => ?_
      refine o_nil <| hN11 _ _ <| w_block ?_
      obtain ⟨z2, hz10, Hk4⟩ := bind_some H
      obtain ⟨n2, hn2⟩ := loopO_some hz10
      refine w_loop (fun n a w => ∃ (s3 : List Int) (s4 : Int) (vvs3 : Value) (ccs3 : List Value), loopN (sargassoref1_TxBytes.s1 x0) n (s3, s4) = some z2 ∧ Els (RI .u8) 1 s3 ccs3 ∧ InR .i64 s4 ∧ Fr a 81 [(1, .pointer (some ⟨g1, 0, none⟩)), (2, (.slice none 0 0)), (3, vvs3), (6, .int .i64 s4)] ∧ Iv w0 [] μ μ [row 5 1 vvs3 s3.length ccs3, cel g1 [[.int .u32 x0.Version], [u0_0], [u0_1], [.int .u32 x0.Time]] 32] w) n2 ⟨r6, 0, v9, cs10, hn2, hE10, (in_lit .i64 0 rfl), hA.sub ⟨rfl, rfl, rfl, rfl, trivial⟩, hI⟩ ?_
      clear hA hI
      rintro n a w ⟨s3, s4, vvs3, ccs3, hn2, ws3, ws4, hA, hI⟩
      obtain ⟨m2, rfl, H⟩ := loopN_bind hn2
      clear hn2
      refine w_seq fun _ hN12 => w_seq fun _ hN13 => w_reg <| stm hA rfl rfl fun a hA => 
        stp hA (r_fd (k := 2) Tryd.underlying32 rfl sz30 hA rfl rfl) rfl fun a hA => 
        stp hA (r_ld1 (j := 1) [[.int .u32 x0.Version], [u0_0]] [[.int .u32 x0.Time]] Tryd.underlying30 rfl hI rfl hA rfl rfl) rfl fun a hA => ?_
      obtain ⟨_, hsl7⟩ := Slc.sv hx0.2.2.1
      refine stp hA (r_slen Tryd.underlying30 hsl7 hA rfl) rfl fun a hA => 
        stp hA (r_lss hA rfl rfl) rfl fun a hA => ?_
      refine o_nil <| hN13 _ _ <| w_cond hA rfl (fun hc2 => ?_) (fun hc2 => ?_)
      · obtain ⟨hc2, H⟩ := dT H hc2
        refine w_skip <| hN12 _ _ <| w_seq fun _ hN14 => w_block ?_
        refine w_anyS [] mo (fun w (h : Iv w0 [] μ μ [row 5 1 vvs3 s3.length ccs3, cel g1 [[.int .u32 x0.Version], [u0_0], [u0_1], [.int .u32 x0.Time]] 32] w) => (h.sl [1] rfl : Iv w0 [] μ μ [cel g1 [[.int .u32 x0.Version], [u0_0], [u0_1], [.int .u32 x0.Time]] 32] w)) hI fun w hI => ?_
        refine gE 0 hA rfl (.inr (hI.sl [1] rfl)) (fun _ => r_mv hA rfl) fun a hA => ?_
        refine gE 1 hA rfl (.inr (hI.sl [1] rfl)) (fun _ => r_fd (k := 2) Tryd.underlying32 rfl sz30 hA rfl rfl) fun a hA => ?_
        refine gT 2 hA rfl (hI.sl [1] rfl) (fun w hI => r_ld1 (j := 0) [[.int .u32 x0.Version], [u0_0]] [[.int .u32 x0.Time]] Tryd.underlying30 rfl hI rfl hA rfl rfl) fun a hA => ?_
        refine gE 3 hA rfl (.inr (hI.sl [1] rfl)) (fun _ => r_mv hA rfl) fun a hA => ?_
        obtain ⟨hb4, H⟩ := bG H
        obtain ⟨_, he2, _, hat2⟩ := Slc.elem hx0.2.2.1 (getD_some default hb4.1 hb4.2)
        obtain ⟨rfl, hw2⟩ := he2
        obtain ⟨_, hsl8⟩ := Slc.sv hx0.2.2.1
        refine gE 4 hA rfl (.inr (hI.sl [1] rfl)) (fun _ => r_six Tryd.underlying30 sz44 hsl8 hA rfl rfl hb4.1 hb4.2) fun a hA => ?_
        refine gE 5 hA rfl (.inr (hI.sl [1] rfl)) (fun _ => r_fd (k := so u0_1 + s4.toNat * 33) Tryd.underlying44 rfl sz34 hA rfl rfl) fun a hA => ?_
        refine gT 6 hA rfl (hI.sl [1] rfl) (fun w hI => r_ldm1 [] [av .u8 32 ((x0.Outs.getD s4.toNat default).Lock)] Tryd.underlying34 rfl hI.agr hat2 hA rfl rfl) fun a hA => ?_
        refine gE 8 hA rfl (.inr (hI.sl [1] rfl)) (fun _ => r_fd (k := 2) Tryd.underlying32 rfl sz30 hA rfl rfl) fun a hA => ?_
        refine gT 9 hA rfl (hI.sl [1] rfl) (fun w hI => r_ld1 (j := 0) [[.int .u32 x0.Version], [u0_0]] [[.int .u32 x0.Time]] Tryd.underlying30 rfl hI rfl hA rfl rfl) fun a hA => ?_
        refine gE 10 hA rfl (.inr (hI.sl [1] rfl)) (fun _ => r_mv hA rfl) fun a hA => ?_
        refine gE 11 hA rfl (.inr (hI.sl [1] rfl)) (fun _ => r_six Tryd.underlying30 sz44 hsl8 hA rfl rfl hb4.1 hb4.2) fun a hA => ?_
        refine gE 12 hA rfl (.inr (hI.sl [1] rfl)) (fun _ => r_fd (k := so u0_1 + s4.toNat * 33 + 1) Tryd.underlying44 rfl sz26 hA rfl rfl) fun a hA => ?_
        obtain ⟨v10, hS1, hr7⟩ := r_sla (b := 0) (P := Tryd.prog) (t := 26) (x := .tmp 74) (l := none) (h := none) (i := 0) (j := 32) Tryd.underlying26 sz5 (at_in [[.int .u64 ((x0.Outs.getD s4.toNat default).Value)]] [av .u8 32 ((x0.Outs.getD s4.toNat default).Lock)] [] hat2 rfl) hw2.2 (by decide) hA rfl rfl rfl (by omega) (by omega) (by omega)
        refine gE 13 hA rfl (.inr (hI.sl [1] rfl)) (fun _ => hr7 _ _ _ _ _ _) fun a hA => ?_
        refine gF 7 rfl ?_
        obtain ⟨r7, hr8, H⟩ := bB H
        refine o_call _ cf125 hA rfl (sargassoref1_Eight.c μ _ hI.agr s3 vvs3 ccs3 ws3 (hI.item (j := 0) rfl) ((x0.Outs.getD s4.toNat default).Value) hw2.1 r7 hr8) rfl fun v11 a w hz11 hA => ?_
        obtain ⟨_, cs11, rfl, hE11, hi7⟩ := hz11
        have hI := hI.call1 0 rfl hi7
        refine o_nil <| ⟨(.inr (hI.sl [1] rfl)), ?_⟩
        refine gF 14 rfl ?_
        obtain ⟨cs12, hE12, hsv3⟩ : Slc (RI .u8) 1 μ v10 ((((x0.Outs.getD s4.toNat default).Lock).take (32 : Int).toNat).drop (0 : Int).toNat) := id (hS1)
        obtain ⟨hb5, H⟩ := bG H
        have hE13 := hE11.app hE12
        refine o_appG (xs := (r7 : List Int)) (ys := ((((x0.Outs.getD s4.toNat default).Lock).take (32 : Int).toNat).drop (0 : Int).toNat : List Int)) (M := 140737488355328) 0 te5 Tryd.underlying40 hI rfl hA rfl rfl (src_sl hI.agr hsv3 hE12.len) hE12.len (hE12.ones (one_RI _)) hb5 rfl fun v12 a w hA hI => ?_
        refine o_nil <| ⟨(.inr (hI.sl [1] rfl)), ?_⟩
        refine gE 15 hA rfl (.inr (hI.sl [1] rfl)) (fun _ => r_as hA rfl) fun a hA => ?_
        refine gN <| hN14 _ _ <| w_reg <| stm hA rfl rfl fun a hA => 
          stp hA (r_add hA rfl rfl) rfl fun a hA => 
          sta hA rfl rfl fun a hA => ?_
        refine o_nil <| ⟨m2, Nat.lt_succ_self _, r7 ++ ((((x0.Outs.getD s4.toNat default).Lock).take (32 : Int).toNat).drop (0 : Int).toNat), IntKind.i64.wrap (s4 + 1), v12, cs11 ++ cs12, H, hE13, (wrap_in _ _), hA.sub ⟨rfl, rfl, rfl, rfl, trivial⟩, hI⟩
      · obtain ⟨hc2, H⟩ := dF H hc2
        refine w_exit rfl ?_
        have H : some s3 = some z2 := H
        obtain rfl := sI H
        have H := Hk4
        cases sJ H
        exact ⟨vvs3, ccs3, ws3, hA.sub ⟨rfl, rfl, rfl, trivial⟩, hI⟩
    · rintro a w ⟨vvc2, ccc2, wc2, hA, hI⟩
      have H := Hk3
      refine w_seq fun _ hN15 => w_reg <| stm hA rfl rfl fun a hA => 
        stp hA (r_fd (k := 3) Tryd.underlying32 rfl sz24 hA rfl rfl) rfl fun a hA => 
        stp hA (r_ld1 (j := 1) [[.int .u32 x0.Version], [u0_0], [u0_1]] [] Tryd.underlying24 rfl hI rfl hA rfl rfl) rfl fun a hA => ?_
      obtain ⟨r8, hr9, H⟩ := bB H
      refine o_call _ cf36 hA rfl (sargassoref1_Four.c μ _ hI.agr c2 vvc2 ccc2 wc2 (hI.item (j := 0) rfl) x0.Time hx0.2.2.2 r8 hr9) rfl fun v13 a w hz12 hA => ?_
      obtain ⟨_, cs14, rfl, hE14, hi8⟩ := hz12
      have hI := hI.call1 0 rfl hi8
      refine sta hA rfl rfl fun a hA => ?_
      refine o_nil <| hN15 _ _ <| w_ret ?_
      obtain rfl := sJ H
      exact ret1 hA Tryd.results117 rfl ⟨_, rfl, v13, cs14, rfl, hE14, ((hI.sl [0] rfl).less (Store.le.refl _) hI.le)⟩
set_option maxRecDepth 20000 in
theorem sargassoref1_ID.c (μ : Store) (w0 : World) (hμ : Agr μ w0) (x0 : Tx) (u0_0 : Value) (u0_1 : Value) (hx0 : TxW μ x0 u0_0 u0_1) (r : List Int) (H : sargassoref1_ID.f x0 = some r) :
    Calls Tryd.prog 100 [.agg [[.int .u32 x0.Version], [u0_0], [u0_1], [.int .u32 x0.Time]].flatten.toArray].toArray w0 (fun e w' => ∃ v, e = .returned v ∧ v = .agg [av .u8 32 r].flatten.toArray ∧ Arr .u8 32 r ∧ Iv w0 [] μ μ [] w') := by
  refine enter Tryd.func100 rfl Tryd.ntmps100 rfl fun a hA => ?_
  have hI := Iv.start hμ
  have H := bI H
  refine w_seq fun _ hN1 => w_reg <| o_box [[.int .u32 x0.Version], [u0_0], [u0_1], [.int .u32 x0.Time]] hI hA rfl rfl rfl fun g1 a w hA hI hg1 => 
    o_new [av .u8 32 (List.replicate 32 0)] zr26 hI hA rfl fun g2 a w hA hI hg2 => ?_
  refine o_nil <| hN1 _ _ <| w_seq fun _ hN2 => w_reg <| stp hA (r_ldA (j := 1) [] [[.int .u32 x0.Version], [u0_0], [u0_1], [.int .u32 x0.Time]] [] Tryd.underlying32 rfl sz32 rfl hI rfl hA rfl rfl) rfl fun a hA => ?_
  obtain ⟨r1, hr1, H⟩ := bB H
  refine o_call _ cf117 hA rfl (sargassoref1_TxBytes.c μ _ hI.agr x0 u0_0 u0_1 ⟨hx0.1, hx0.2.1, hx0.2.2.1, hx0.2.2.2⟩ r1 hr1) rfl fun v1 a w hz1 hA => ?_
  obtain ⟨_, cs1, rfl, hE1, hi1⟩ := hz1
  have hI := hI.call hi1
  obtain ⟨r2, hr2, H⟩ := bB H
  refine o_callp (u := .agg [av .u8 32 r2].flatten.toArray) cf50 hA rfl hI ((by obtain ⟨μ1, hle1, hsv1, hI⟩ := hI.freezeRow 0 rfl; have hS1 : Slc (RI .u8) 1 μ1 v1 r1 := ⟨_, hE1, hsv1⟩; exact low_plain hle1 (sargassoref1_Twice.c μ1 _ hI.agr r1 v1 hS1 r2 hr2))) rfl fun a w hz2 hI hA => 
    o_st (j := 1) [] [av .u8 32 (List.replicate 32 0)] [av .u8 32 r2] [] sz26 rfl rfl (fl_cons (one_av _ _ _) fl_nil) hI rfl hA rfl rfl rfl rfl fun w hI => ?_
  refine o_nil <| hN2 _ _ <| w_ret ?_
  obtain rfl := sJ H
  exact retc Tryd.underlying26 rfl sz26 rfl hI (j := 1) rfl hA Tryd.results100 rfl ⟨_, rfl, rfl, hz2, hI.forget0⟩
set_option maxRecDepth 20000 in
theorem sargassoref1_IDs.c (μ : Store) (w0 : World) (hμ : Agr μ w0) (x0 : List Tx) (u0 : Value) (hx0 : Slc (RTx μ) 4 μ u0 x0) (r : List (List Int)) (H : sargassoref1_IDs.f x0 = some r) :
    Calls Tryd.prog 73 [u0].toArray w0 (fun e w' => ∃ v, e = .returned v ∧ ∃ (v0 : Value) (c0 : List Value), v = v0 ∧ Els (RA .u8 32) 32 r c0 ∧ Iv w0 [] μ μ [row 26 32 v0 r.length c0] w') := by
  refine enter Tryd.func73 rfl Tryd.ntmps73 rfl fun a hA => ?_
  have hI := Iv.start hμ
  have H := bI H
  refine w_seq fun _ hN1 => w_reg <| sta hA rfl rfl fun a hA => ?_
  refine o_nil <| hN1 _ _ <| w_seq fun _ hN2 => w_reg <| sta hA rfl rfl fun a hA => ?_
  refine o_nil <| hN2 _ _ ?_
  obtain ⟨c1, hz1, Hk1⟩ := bB H
  refine w_cut (fun a w => ∃ (vvc1 : Value) (ccc1 : List Value), Els (RA .u8 32) 32 c1 ccc1 ∧ Fr a 20 [(2, (.slice none 0 0)), (3, vvc1)] ∧ Iv w0 [] μ μ [row 26 32 vvc1 c1.length ccc1] w) ?_ ?_
  · have H := bI hz1
    refine w_seq fun _ hN3 => w_reg <| sta hA rfl rfl fun a hA => ?_
    refine o_nil <| hN3 _ _ <| w_block ?_
    have hI := hI.nilRow 26 32
    obtain ⟨z1, hz2, Hk2⟩ := bind_some H
    obtain ⟨n1, hn1⟩ := loopO_some hz2
    refine w_loop (fun n a w => ∃ (s1 : List (List Int)) (s2 : Int) (vvs1 : Value) (ccs1 : List Value), loopN (sargassoref1_IDs.s0 x0) n (s1, s2) = some z1 ∧ Els (RA .u8 32) 32 s1 ccs1 ∧ InR .i64 s2 ∧ Fr a 20 [(0, u0), (2, (.slice none 0 0)), (3, vvs1), (4, .int .i64 s2)] ∧ Iv w0 [] μ μ [row 26 32 vvs1 s1.length ccs1] w) n1 ⟨([] : List (List Int)), 0, (.slice none 0 0), [], hn1, (Els.nil (RE := (RA .u8 32)) (sz := 32)), (in_lit .i64 0 rfl), hA.sub ⟨rfl, rfl, rfl, rfl, trivial⟩, hI⟩ ?_
    clear hA hI
    rintro n a w ⟨s1, s2, vvs1, ccs1, hn1, ws1, ws2, hA, hI⟩
    obtain ⟨m1, rfl, H⟩ := loopN_bind hn1
    clear hn1
    refine w_seq fun _ hN4 => w_seq fun _ hN5 => w_reg <| stm hA rfl rfl fun a hA => 
      stm hA rfl rfl fun a hA => ?_
    obtain ⟨_, hsl1⟩ := Slc.sv hx0
    refine stp hA (r_slen Tryd.underlying35 hsl1 hA rfl) rfl fun a hA => 
      stp hA (r_lss hA rfl rfl) rfl fun a hA => ?_
    refine o_nil <| hN5 _ _ <| w_cond hA rfl (fun hc1 => ?_) (fun hc1 => ?_)
    · obtain ⟨hc1, H⟩ := dT H hc1
      refine w_skip <| hN4 _ _ <| w_seq fun _ hN6 => w_block <| w_reg <| stm hA rfl rfl fun a hA => 
        stm hA rfl rfl fun a hA => 
        stm hA rfl rfl fun a hA => ?_
      obtain ⟨hb1, H⟩ := bG H
      obtain ⟨_, he1, _, hat1⟩ := Slc.elem hx0 (getD_some default hb1.1 hb1.2)
      obtain ⟨v1, v2, rfl, hw1⟩ := he1
      obtain ⟨_, hsl2⟩ := Slc.sv hx0
      refine stp hA (r_six Tryd.underlying35 sz32 hsl2 hA rfl rfl hb1.1 hb1.2) rfl fun a hA => 
        stp hA (r_ldmA [] [[.int .u32 ((x0.getD s2.toNat default).Version)], [v1], [v2], [.int .u32 ((x0.getD s2.toNat default).Time)]] [] Tryd.underlying32 rfl sz32 rfl hI.agr hat1 hA rfl rfl) rfl fun a hA => ?_
      obtain ⟨r1, hr1, H⟩ := bB H
      refine o_callp (u := .agg [av .u8 32 r1].flatten.toArray) cf100 hA rfl hI (sargassoref1_ID.c μ _ hI.agr (x0.getD s2.toNat default) v1 v2 ⟨hw1.1, hw1.2.1, hw1.2.2.1, hw1.2.2.2⟩ r1 hr1) rfl fun a w hz3 hI hA => ?_
      have hE1 : Els (RA .u8 32) 32 ([r1] : List (List Int)) _ := (Els.cons (c := [av .u8 32 r1].flatten) ⟨rfl, hz3⟩ rfl Els.nil)
      refine o_bsl ([av .u8 32 r1].flatten ++ ([])) te26 zr26 Tryd.underlying62 hI hA rfl rfl rfl rfl (by kernel_rfl) rfl fun g1 a w hA hI => ?_
      generalize hcs : ([av .u8 32 r1].flatten ++ ([]) : List Value) = cs1 at hE1 hI
      clear hcs
      obtain ⟨hb2, H⟩ := bG H
      have hE3 := ws1.app hE1
      refine o_appG (xs := (s1 : List (List Int))) (ys := (([r1] : List (List Int)) : List (List Int))) (M := 4398046511104) 1 te26 Tryd.underlying62 hI rfl hA rfl rfl (src_row hI (j := 0) rfl) hE1.len (hE1.ones (one_RA _ _)) hb2 rfl fun v3 a w hA hI => 
        sta hA rfl rfl fun a hA => ?_
      refine o_nil <| hN6 _ _ <| w_reg <| stm hA rfl rfl fun a hA => 
        stp hA (r_add hA rfl rfl) rfl fun a hA => 
        sta hA rfl rfl fun a hA => ?_
      refine o_nil <| ⟨m1, Nat.lt_succ_self _, s1 ++ ([r1] : List (List Int)), IntKind.i64.wrap (s2 + 1), v3, ccs1 ++ cs1, H, hE3, (wrap_in _ _), hA.sub ⟨rfl, rfl, rfl, rfl, trivial⟩, (hI.sl [1] rfl)⟩
    · obtain ⟨hc1, H⟩ := dF H hc1
      refine w_exit rfl ?_
      have H : some s1 = some z1 := H
      obtain rfl := sI H
      have H := Hk2
      cases sJ H
      exact ⟨vvs1, ccs1, ws1, hA.sub ⟨rfl, rfl, trivial⟩, hI⟩
  · rintro a w ⟨vvc1, ccc1, wc1, hA, hI⟩
    have H := Hk1
    refine w_seq fun _ hN7 => w_reg <| stm hA rfl rfl fun a hA => 
      sta hA rfl rfl fun a hA => ?_
    refine o_nil <| hN7 _ _ <| w_ret ?_
    obtain rfl := sJ H
    exact ret1 hA Tryd.results73 rfl ⟨_, rfl, vvc1, ccc1, rfl, wc1, (hI.less (Store.le.refl _) hI.le)⟩
set_option maxRecDepth 20000 in
theorem sargassoref1_Rooted.c (μ : Store) (w0 : World) (hμ : Agr μ w0) (x0 : Block) (u0_0 : Value) (hx0 : BlockW μ x0 u0_0) (r : Block) (H : sargassoref1_Rooted.f x0 = some r) :
    Calls Tryd.prog 54 [.agg [[.int .u32 x0.Head.Version], av .u8 32 x0.Head.Prev, av .u8 32 x0.Head.Root, [.int .u32 x0.Head.Time], [.int .u32 x0.Head.Work], [.int .u32 x0.Head.Nonce], [u0_0]].flatten.toArray].toArray w0 (fun e w' => ∃ v, e = .returned v ∧ ∃ (v0_0 : Value) (μ' : Store), v = .agg [[.int .u32 r.Head.Version], av .u8 32 r.Head.Prev, av .u8 32 r.Head.Root, [.int .u32 r.Head.Time], [.int .u32 r.Head.Work], [.int .u32 r.Head.Nonce], [v0_0]].flatten.toArray ∧ BlockW μ' r v0_0 ∧ Iv w0 [] μ μ' [] w') := by
  refine enter Tryd.func54 rfl Tryd.ntmps54 rfl fun a hA => ?_
  have hI := Iv.start hμ
  have H := bI H
  refine w_seq fun _ hN1 => w_reg <| o_box [[.int .u32 x0.Head.Version], av .u8 32 x0.Head.Prev, av .u8 32 x0.Head.Root, [.int .u32 x0.Head.Time], [.int .u32 x0.Head.Work], [.int .u32 x0.Head.Nonce], [u0_0]] hI hA rfl rfl rfl fun g1 a w hA hI hg1 => 
    o_new [[.int .u32 0], av .u8 32 (List.replicate 32 0), av .u8 32 (List.replicate 32 0), [.int .u32 0], [.int .u32 0], [.int .u32 0], [(.slice none 0 0)]] zr37 hI hA rfl fun g2 a w hA hI hg2 => ?_
  refine o_nil <| hN1 _ _ <| w_seq fun _ hN2 => w_reg <| stp hA (r_fd (k := 68) Tryd.underlying37 rfl sz35 hA rfl rfl) rfl fun a hA => 
    stp hA (r_ld1 (j := 1) [[.int .u32 x0.Head.Version], av .u8 32 x0.Head.Prev, av .u8 32 x0.Head.Root, [.int .u32 x0.Head.Time], [.int .u32 x0.Head.Work], [.int .u32 x0.Head.Nonce]] [] Tryd.underlying35 rfl hI rfl hA rfl rfl) rfl fun a hA => ?_
  obtain ⟨r1, hr1, H⟩ := bB H
  refine o_call _ cf73 hA rfl (sargassoref1_IDs.c μ _ hI.agr x0.Txs u0_0 hx0.2.2.2.2.2.2 r1 hr1) rfl fun v1 a w hz1 hA => ?_
  obtain ⟨_, cs1, rfl, hE1, hi1⟩ := hz1
  have hI := hI.call hi1
  obtain ⟨r2, hr2, H⟩ := bB H
  refine o_callp (u := .agg [av .u8 32 r2].flatten.toArray) cf72 hA rfl hI ((by obtain ⟨μ1, hle1, hsv1, hI⟩ := hI.freezeRow 0 rfl; have hS1 : Slc (RA .u8 32) 32 μ1 v1 r1 := ⟨_, hE1, hsv1⟩; exact low_plain hle1 (sargassoref1_Root.c μ1 _ hI.agr r1 v1 hS1 r2 hr2))) rfl fun a w hz2 hI hA => 
    stp hA (r_fd (k := 0) Tryd.underlying37 rfl sz28 hA rfl rfl) rfl fun a hA => 
    stp hA (r_fd (k := 33) Tryd.underlying28 rfl sz26 hA rfl rfl) rfl fun a hA => 
    o_st (j := 2) [[.int .u32 x0.Head.Version], av .u8 32 x0.Head.Prev] [av .u8 32 x0.Head.Root] [av .u8 32 r2] [[.int .u32 x0.Head.Time], [.int .u32 x0.Head.Work], [.int .u32 x0.Head.Nonce], [u0_0]] sz26 rfl rfl (fl_cons (one_av _ _ _) fl_nil) hI rfl hA rfl rfl rfl rfl fun w hI => ?_
  refine o_nil <| hN2 _ _ <| w_seq fun _ hN3 => w_reg <| stp hA (r_ldA (j := 2) [] [[.int .u32 x0.Head.Version], av .u8 32 x0.Head.Prev, av .u8 32 r2, [.int .u32 x0.Head.Time], [.int .u32 x0.Head.Work], [.int .u32 x0.Head.Nonce], [u0_0]] [] Tryd.underlying37 rfl sz37 rfl hI rfl hA rfl rfl) rfl fun a hA => ?_
  obtain ⟨_, hsl1⟩ := Slc.sv hx0.2.2.2.2.2.2
  refine o_st (j := 1) [] [[.int .u32 0], av .u8 32 (List.replicate 32 0), av .u8 32 (List.replicate 32 0), [.int .u32 0], [.int .u32 0], [.int .u32 0], [(.slice none 0 0)]] [[.int .u32 x0.Head.Version], av .u8 32 x0.Head.Prev, av .u8 32 r2, [.int .u32 x0.Head.Time], [.int .u32 x0.Head.Work], [.int .u32 x0.Head.Nonce], [u0_0]] [] sz37 rfl rfl (fl_cons (oneC rfl) (fl_cons (one_av _ _ _) (fl_cons (one_av _ _ _) (fl_cons (oneC rfl) (fl_cons (oneC rfl) (fl_cons (oneC rfl) (fl_cons (oneC (one_sl hsl1)) fl_nil))))))) hI rfl hA rfl rfl rfl rfl fun w hI => ?_
  refine o_nil <| hN3 _ _ <| w_ret ?_
  obtain rfl := sJ H
  exact retc Tryd.underlying37 rfl sz37 rfl hI (j := 1) rfl hA Tryd.results54 rfl ⟨_, rfl, u0_0, μ, rfl, ⟨hx0.1, hx0.2.1, hz2, hx0.2.2.2.1, hx0.2.2.2.2.1, hx0.2.2.2.2.2.1, hx0.2.2.2.2.2.2⟩, (hI.sl [] rfl)⟩
set_option maxRecDepth 20000 in
theorem sargassoref1_Start.c (μ : Store) (w0 : World) (hμ : Agr μ w0) (r : Block) (H : sargassoref1_Start.f = some r) :
    Calls Tryd.prog 25 [].toArray w0 (fun e w' => ∃ v, e = .returned v ∧ ∃ (v0_0 : Value) (μ' : Store), v = .agg [[.int .u32 r.Head.Version], av .u8 32 r.Head.Prev, av .u8 32 r.Head.Root, [.int .u32 r.Head.Time], [.int .u32 r.Head.Work], [.int .u32 r.Head.Nonce], [v0_0]].flatten.toArray ∧ BlockW μ' r v0_0 ∧ Iv w0 [] μ μ' [] w') := by
  refine enter Tryd.func25 rfl Tryd.ntmps25 rfl fun a hA => ?_
  have hI := Iv.start hμ
  have H := bI H
  refine w_seq fun _ hN1 => w_reg <| o_new [[.int .u32 0], av .u8 32 (List.replicate 32 0), av .u8 32 (List.replicate 32 0), [.int .u32 0], [.int .u32 0], [.int .u32 0], [(.slice none 0 0)]] zr37 hI hA rfl fun g1 a w hA hI hg1 => ?_
  refine o_nil <| hN1 _ _ <| w_seq fun _ hN2 => w_reg <| stp hA (r_bldS (cs := [[.int .u32 1], av .u8 32 (List.replicate 32 0), av .u8 32 (List.replicate 32 0), [.int .u32 1000], [.int .u32 1], [.int .u32 0]].flatten.toArray) (pl := [(0, 1), (1, 32), (33, 32), (65, 1), (66, 1), (67, 1)]) zr28 Tryd.underlying28 ⟨rfl, sz24, rfl, sz26, rfl, sz26, rfl, sz24, rfl, sz24, rfl, sz24, trivial⟩ hA rfl (by kernel_rfl)) rfl fun a hA => ?_
  obtain ⟨r1, hr1, H⟩ := bB H
  refine o_callp (u := .agg [av .u8 32 r1].flatten.toArray) cf55 hA rfl hI (sargassoref1_Sha.c μ _ hI.agr ([]) (.slice none 0 0) (slc_nil _ _ _) r1 hr1) rfl fun a w hz1 hI hA => ?_
  obtain ⟨r2, hr2, H⟩ := bB H
  refine o_call _ cf9 hA rfl (sargassoref1_First.c μ _ hI.agr 0 (in_lit .i64 0 rfl) 0 (in_lit .u64 0 rfl) r1 hz1 ([]) (.slice none 0 0) (slc_nil _ _ _) r2 hr2) rfl fun v1 a w hz2 hA => ?_
  obtain ⟨v2, v3, μ1, rfl, hw1, hi1⟩ := hz2
  have hI := hI.call hi1
  have hE1 : Els (RTx μ1) 4 ([r2] : List Tx) _ := (Els.cons (c := [[.int .u32 r2.Version], [v2], [v3], [.int .u32 r2.Time]].flatten) ⟨v2, v3, rfl, ⟨hw1.1, hw1.2.1, hw1.2.2.1, hw1.2.2.2⟩⟩ rfl Els.nil)
  refine o_bsl ([[.int .u32 r2.Version], [v2], [v3], [.int .u32 r2.Time]].flatten ++ ([])) te32 zr32 Tryd.underlying35 hI hA rfl rfl rfl rfl (by kernel_rfl) rfl fun g2 a w hA hI => ?_
  generalize hcs : ([[.int .u32 r2.Version], [v2], [v3], [.int .u32 r2.Time]].flatten ++ ([]) : List Value) = cs1 at hE1 hI
  clear hcs
  refine stp hA (r_bldS (cs := [[.int .u32 1], av .u8 32 (List.replicate 32 0), av .u8 32 (List.replicate 32 0), [.int .u32 1000], [.int .u32 1], [.int .u32 0], [(.slice (some ⟨g2, 0, none⟩) 1 1)]].flatten.toArray) (pl := [(0, 68), (68, 1)]) zr37 Tryd.underlying37 ⟨rfl, sz28, rfl, sz35, trivial⟩ hA rfl ((fill_seg [] [[.int .u32 0], av .u8 32 (List.replicate 32 0), av .u8 32 (List.replicate 32 0), [.int .u32 0], [.int .u32 0], [.int .u32 0]] [[.int .u32 1], av .u8 32 (List.replicate 32 0), av .u8 32 (List.replicate 32 0), [.int .u32 1000], [.int .u32 1], [.int .u32 0]] [[(.slice none 0 0)]] rfl rfl rfl rfl rfl).trans ((fill_seg [[.int .u32 1], av .u8 32 (List.replicate 32 0), av .u8 32 (List.replicate 32 0), [.int .u32 1000], [.int .u32 1], [.int .u32 0]] [[(.slice none 0 0)]] [[(.slice (some ⟨g2, 0, none⟩) 1 1)]] [] (own_cell hI (j := 0) rfl) rfl rfl rfl rfl).trans (rfl)))) rfl fun a hA => ?_
  obtain ⟨μ2, hle1, hsv1, hI⟩ := hI.freezeRow 0 rfl
  have hS1 : Slc (RTx μ2) 4 μ2 (.slice (some ⟨g2, 0, none⟩) 1 1) ([r2] : List Tx) := ⟨_, (Els.mono hE1 (fun _ _ h => RTx.le hle1 h)), hsv1⟩
  obtain ⟨r3, hr3, H⟩ := bB H
  refine o_call _ cf54 hA rfl (sargassoref1_Rooted.c μ2 _ hI.agr (⟨(⟨1, (List.replicate 32 0), (List.replicate 32 0), 1000, 1, 0⟩ : Head), ([r2] : List Tx)⟩ : Block) (.slice (some ⟨g2, 0, none⟩) 1 1) ⟨(in_lit .u32 1 rfl), (arr_zero _ _), (arr_zero _ _), (in_lit .u32 1000 rfl), (in_lit .u32 1 rfl), (in_lit .u32 0 rfl), hS1⟩ r3 hr3) rfl fun v4 a w hz3 hA => ?_
  obtain ⟨v5, μ3, rfl, hw2, hi2⟩ := hz3
  have hI := hI.call hi2
  obtain ⟨_, hsl1⟩ := Slc.sv hw2.2.2.2.2.2.2
  refine o_st (j := 0) [] [[.int .u32 0], av .u8 32 (List.replicate 32 0), av .u8 32 (List.replicate 32 0), [.int .u32 0], [.int .u32 0], [.int .u32 0], [(.slice none 0 0)]] [[.int .u32 r3.Head.Version], av .u8 32 r3.Head.Prev, av .u8 32 r3.Head.Root, [.int .u32 r3.Head.Time], [.int .u32 r3.Head.Work], [.int .u32 r3.Head.Nonce], [v5]] [] sz37 rfl rfl (fl_cons (oneC rfl) (fl_cons (one_av _ _ _) (fl_cons (one_av _ _ _) (fl_cons (oneC rfl) (fl_cons (oneC rfl) (fl_cons (oneC rfl) (fl_cons (oneC (one_sl hsl1)) fl_nil))))))) hI rfl hA rfl rfl rfl rfl fun w hI => ?_
  refine o_nil <| hN2 _ _ <| w_ret ?_
  obtain rfl := sJ H
  exact retc Tryd.underlying37 rfl sz37 rfl hI (j := 0) rfl hA Tryd.results25 rfl ⟨_, rfl, v5, μ3, rfl, ⟨hw2.1, hw2.2.1, hw2.2.2.1, hw2.2.2.2.1, hw2.2.2.2.2.1, hw2.2.2.2.2.2.1, hw2.2.2.2.2.2.2⟩, (hI.sl [] rfl)⟩
set_option maxRecDepth 20000 in
theorem sargassoref1_HeadBytes.c (μ : Store) (w0 : World) (hμ : Agr μ w0) (x0 : Head) (hx0 : HeadW μ x0) (r : List Int) (H : sargassoref1_HeadBytes.f x0 = some r) :
    Calls Tryd.prog 51 [.agg [[.int .u32 x0.Version], av .u8 32 x0.Prev, av .u8 32 x0.Root, [.int .u32 x0.Time], [.int .u32 x0.Work], [.int .u32 x0.Nonce]].flatten.toArray].toArray w0 (fun e w' => ∃ v, e = .returned v ∧ ∃ (v0 : Value) (c0 : List Value), v = v0 ∧ Els (RI .u8) 1 r c0 ∧ Iv w0 [] μ μ [row 5 1 v0 r.length c0] w') := by
  refine enter Tryd.func51 rfl Tryd.ntmps51 rfl fun a hA => ?_
  have hI := Iv.start hμ
  have H := bI H
  refine w_seq fun _ hN1 => w_reg <| o_box [[.int .u32 x0.Version], av .u8 32 x0.Prev, av .u8 32 x0.Root, [.int .u32 x0.Time], [.int .u32 x0.Work], [.int .u32 x0.Nonce]] hI hA rfl rfl rfl fun g1 a w hA hI hg1 => 
    sta hA rfl rfl fun a hA => ?_
  refine o_nil <| hN1 _ _ <| w_seq fun _ hN2 => ?_
  refine w_anyS [] mo (fun w (h : Iv w0 [] μ μ [cel g1 [[.int .u32 x0.Version], av .u8 32 x0.Prev, av .u8 32 x0.Root, [.int .u32 x0.Time], [.int .u32 x0.Work], [.int .u32 x0.Nonce]] 28] w) => (h.sl [0] rfl : Iv w0 [] μ μ [cel g1 [[.int .u32 x0.Version], av .u8 32 x0.Prev, av .u8 32 x0.Root, [.int .u32 x0.Time], [.int .u32 x0.Work], [.int .u32 x0.Nonce]] 28] w)) hI fun w hI => ?_
  refine gE 0 hA rfl (.inr hI) (fun _ => r_fd (k := 0) Tryd.underlying28 rfl sz24 hA rfl rfl) fun a hA => ?_
  refine gT 1 hA rfl hI (fun w hI => r_ld1 (j := 0) [] [av .u8 32 x0.Prev, av .u8 32 x0.Root, [.int .u32 x0.Time], [.int .u32 x0.Work], [.int .u32 x0.Nonce]] Tryd.underlying24 rfl hI rfl hA rfl rfl) fun a hA => ?_
  refine gE 3 hA rfl (.inr hI) (fun _ => r_fd (k := 1) Tryd.underlying28 rfl sz26 hA rfl rfl) fun a hA => ?_
  refine gE 4 hA rfl (.inr hI) (fun _ => r_slv (i := 0) (j := 32) Tryd.underlying26 sz5 hA rfl rfl rfl (by decide) (by decide) (by decide) (by decide) rfl) fun a hA => ?_
  refine gF 2 rfl ?_
  have hI := hI.nilRow 5 1
  obtain ⟨r1, hr1, H⟩ := bB H
  refine o_call _ cf36 hA rfl (sargassoref1_Four.c μ _ hI.agr ([] : List Int) (.slice none 0 0) ([]) (Els.nil (RE := (RI .u8)) (sz := 1)) (hI.item (j := 0) rfl) x0.Version hx0.1 r1 hr1) rfl fun v1 a w hz1 hA => ?_
  obtain ⟨_, cs1, rfl, hE1, hi1⟩ := hz1
  have hI := hI.call1 0 rfl hi1
  refine o_nil <| ⟨(.inr (hI.sl [1] rfl)), ?_⟩
  refine gF 5 rfl ?_
  have hE2 := els_av hx0.2.1
  obtain ⟨hb1, H⟩ := bG H
  have hE3 := hE1.app hE2
  refine o_appG (xs := (r1 : List Int)) (ys := (x0.Prev : List Int)) (M := 140737488355328) 0 te5 Tryd.underlying40 hI rfl hA rfl rfl (by simpa using src_cel [[.int .u32 x0.Version]] [av .u8 32 x0.Root, [.int .u32 x0.Time], [.int .u32 x0.Work], [.int .u32 x0.Nonce]] hI (j := 1) rfl hx0.2.1 rfl) hE2.len (hE2.ones (one_RI _)) hb1 rfl fun v2 a w hA hI => ?_
  refine o_nil <| ⟨(.inr (hI.sl [1] rfl)), ?_⟩
  refine gE 6 hA rfl (.inr (hI.sl [1] rfl)) (fun _ => r_as hA rfl) fun a hA => ?_
  refine gN <| hN2 _ _ <| w_seq fun _ hN3 => w_reg <| stm hA rfl rfl fun a hA => 
    stp hA (r_fd (k := 33) Tryd.underlying28 rfl sz26 hA rfl rfl) rfl fun a hA => 
    stp hA (r_slv (i := 0) (j := 32) Tryd.underlying26 sz5 hA rfl rfl rfl (by decide) (by decide) (by decide) (by decide) rfl) rfl fun a hA => ?_
  have hE4 := els_av hx0.2.2.1
  obtain ⟨hb2, H⟩ := bG H
  have hE5 := hE3.app hE4
  refine o_appG (xs := (r1 ++ x0.Prev : List Int)) (ys := (x0.Root : List Int)) (M := 140737488355328) 0 te5 Tryd.underlying40 hI rfl hA rfl rfl (by simpa [av_len] using src_cel [[.int .u32 x0.Version], av .u8 32 x0.Prev] [[.int .u32 x0.Time], [.int .u32 x0.Work], [.int .u32 x0.Nonce]] hI (j := 1) rfl hx0.2.2.1 rfl) hE4.len (hE4.ones (one_RI _)) hb2 rfl fun v3 a w hA hI => 
    sta hA rfl rfl fun a hA => ?_
  refine o_nil <| hN3 _ _ <| w_seq fun _ hN4 => ?_
  refine w_anyS [] mo (fun w (h : Iv w0 [] μ μ [row 5 1 v3 ((r1 ++ x0.Prev) ++ x0.Root).length ((cs1 ++ ([av .u8 32 x0.Prev].flatten)) ++ ([av .u8 32 x0.Root].flatten)), cel g1 [[.int .u32 x0.Version], av .u8 32 x0.Prev, av .u8 32 x0.Root, [.int .u32 x0.Time], [.int .u32 x0.Work], [.int .u32 x0.Nonce]] 28] w) => (h.sl [1] rfl : Iv w0 [] μ μ [cel g1 [[.int .u32 x0.Version], av .u8 32 x0.Prev, av .u8 32 x0.Root, [.int .u32 x0.Time], [.int .u32 x0.Work], [.int .u32 x0.Nonce]] 28] w)) hI fun w hI => ?_
  refine gE 0 hA rfl (.inr (hI.sl [1] rfl)) (fun _ => r_mv hA rfl) fun a hA => ?_
  refine gE 1 hA rfl (.inr (hI.sl [1] rfl)) (fun _ => r_fd (k := 65) Tryd.underlying28 rfl sz24 hA rfl rfl) fun a hA => ?_
  refine gT 2 hA rfl (hI.sl [1] rfl) (fun w hI => r_ld1 (j := 0) [[.int .u32 x0.Version], av .u8 32 x0.Prev, av .u8 32 x0.Root] [[.int .u32 x0.Work], [.int .u32 x0.Nonce]] Tryd.underlying24 rfl hI rfl hA rfl rfl) fun a hA => ?_
  refine gE 4 hA rfl (.inr (hI.sl [1] rfl)) (fun _ => r_fd (k := 66) Tryd.underlying28 rfl sz24 hA rfl rfl) fun a hA => ?_
  refine gT 5 hA rfl (hI.sl [1] rfl) (fun w hI => r_ld1 (j := 0) [[.int .u32 x0.Version], av .u8 32 x0.Prev, av .u8 32 x0.Root, [.int .u32 x0.Time]] [[.int .u32 x0.Nonce]] Tryd.underlying24 rfl hI rfl hA rfl rfl) fun a hA => ?_
  refine gE 7 hA rfl (.inr (hI.sl [1] rfl)) (fun _ => r_fd (k := 67) Tryd.underlying28 rfl sz24 hA rfl rfl) fun a hA => ?_
  refine gT 8 hA rfl (hI.sl [1] rfl) (fun w hI => r_ld1 (j := 0) [[.int .u32 x0.Version], av .u8 32 x0.Prev, av .u8 32 x0.Root, [.int .u32 x0.Time], [.int .u32 x0.Work]] [] Tryd.underlying24 rfl hI rfl hA rfl rfl) fun a hA => ?_
  refine gF 3 rfl ?_
  obtain ⟨r2, hr2, H⟩ := bB H
  refine o_call _ cf36 hA rfl (sargassoref1_Four.c μ _ hI.agr ((r1 ++ x0.Prev) ++ x0.Root) v3 ((cs1 ++ ([av .u8 32 x0.Prev].flatten)) ++ ([av .u8 32 x0.Root].flatten)) hE5 (hI.item (j := 0) rfl) x0.Time hx0.2.2.2.1 r2 hr2) rfl fun v4 a w hz2 hA => ?_
  obtain ⟨_, cs6, rfl, hE6, hi2⟩ := hz2
  have hI := hI.call1 0 rfl hi2
  refine o_nil <| ⟨(.inr (hI.sl [1] rfl)), ?_⟩
  refine gF 6 rfl ?_
  obtain ⟨r3, hr3, H⟩ := bB H
  refine o_call _ cf36 hA rfl (sargassoref1_Four.c μ _ hI.agr r2 v4 cs6 hE6 (hI.item (j := 0) rfl) x0.Work hx0.2.2.2.2.1 r3 hr3) rfl fun v5 a w hz3 hA => ?_
  obtain ⟨_, cs7, rfl, hE7, hi3⟩ := hz3
  have hI := hI.call1 0 rfl hi3
  refine o_nil <| ⟨(.inr (hI.sl [1] rfl)), ?_⟩
  refine gF 9 rfl ?_
  obtain ⟨r4, hr4, H⟩ := bB H
  refine o_call _ cf36 hA rfl (sargassoref1_Four.c μ _ hI.agr r3 v5 cs7 hE7 (hI.item (j := 0) rfl) x0.Nonce hx0.2.2.2.2.2 r4 hr4) rfl fun v6 a w hz4 hA => ?_
  obtain ⟨_, cs8, rfl, hE8, hi4⟩ := hz4
  have hI := hI.call1 0 rfl hi4
  refine o_nil <| ⟨(.inr (hI.sl [1] rfl)), ?_⟩
  refine gE 10 hA rfl (.inr (hI.sl [1] rfl)) (fun _ => r_as hA rfl) fun a hA => ?_
  refine gN <| hN4 _ _ <| w_ret ?_
  obtain rfl := sJ H
  exact ret1 hA Tryd.results51 rfl ⟨_, rfl, v6, cs8, rfl, hE8, ((hI.sl [0] rfl).less (Store.le.refl _) hI.le)⟩
set_option maxRecDepth 20000 in
theorem sargassoref1_HeadID.c (μ : Store) (w0 : World) (hμ : Agr μ w0) (x0 : Head) (hx0 : HeadW μ x0) (r : List Int) (H : sargassoref1_HeadID.f x0 = some r) :
    Calls Tryd.prog 19 [.agg [[.int .u32 x0.Version], av .u8 32 x0.Prev, av .u8 32 x0.Root, [.int .u32 x0.Time], [.int .u32 x0.Work], [.int .u32 x0.Nonce]].flatten.toArray].toArray w0 (fun e w' => ∃ v, e = .returned v ∧ v = .agg [av .u8 32 r].flatten.toArray ∧ Arr .u8 32 r ∧ Iv w0 [] μ μ [] w') := by
  refine enter Tryd.func19 rfl Tryd.ntmps19 rfl fun a hA => ?_
  have hI := Iv.start hμ
  have H := bI H
  refine w_seq fun _ hN1 => w_reg <| o_box [[.int .u32 x0.Version], av .u8 32 x0.Prev, av .u8 32 x0.Root, [.int .u32 x0.Time], [.int .u32 x0.Work], [.int .u32 x0.Nonce]] hI hA rfl rfl rfl fun g1 a w hA hI hg1 => 
    o_new [av .u8 32 (List.replicate 32 0)] zr26 hI hA rfl fun g2 a w hA hI hg2 => ?_
  refine o_nil <| hN1 _ _ <| w_seq fun _ hN2 => w_reg <| stp hA (r_ldA (j := 1) [] [[.int .u32 x0.Version], av .u8 32 x0.Prev, av .u8 32 x0.Root, [.int .u32 x0.Time], [.int .u32 x0.Work], [.int .u32 x0.Nonce]] [] Tryd.underlying28 rfl sz28 rfl hI rfl hA rfl rfl) rfl fun a hA => ?_
  obtain ⟨r1, hr1, H⟩ := bB H
  refine o_call _ cf51 hA rfl (sargassoref1_HeadBytes.c μ _ hI.agr x0 ⟨hx0.1, hx0.2.1, hx0.2.2.1, hx0.2.2.2.1, hx0.2.2.2.2.1, hx0.2.2.2.2.2⟩ r1 hr1) rfl fun v1 a w hz1 hA => ?_
  obtain ⟨_, cs1, rfl, hE1, hi1⟩ := hz1
  have hI := hI.call hi1
  obtain ⟨r2, hr2, H⟩ := bB H
  refine o_callp (u := .agg [av .u8 32 r2].flatten.toArray) cf50 hA rfl hI ((by obtain ⟨μ1, hle1, hsv1, hI⟩ := hI.freezeRow 0 rfl; have hS1 : Slc (RI .u8) 1 μ1 v1 r1 := ⟨_, hE1, hsv1⟩; exact low_plain hle1 (sargassoref1_Twice.c μ1 _ hI.agr r1 v1 hS1 r2 hr2))) rfl fun a w hz2 hI hA => 
    o_st (j := 1) [] [av .u8 32 (List.replicate 32 0)] [av .u8 32 r2] [] sz26 rfl rfl (fl_cons (one_av _ _ _) fl_nil) hI rfl hA rfl rfl rfl rfl fun w hI => ?_
  refine o_nil <| hN2 _ _ <| w_ret ?_
  obtain rfl := sJ H
  exact retc Tryd.underlying26 rfl sz26 rfl hI (j := 1) rfl hA Tryd.results19 rfl ⟨_, rfl, rfl, hz2, hI.forget0⟩
end Go.Proofs.YtdngkgkkblfcjaaDoor.T
namespace Go.Proofs.YtdngkgkkblfcjaaDoor.T
open Go Go.Proofs Go.Proofs.YtdngkgkkblfcjaaDoor.K
set_option linter.unusedVariables false
set_option linter.unusedSimpArgs false
noncomputable def tree_New.f (x0 : Head) : Option treeTree := ((head_ID.f x0).bind fun r1 => (if (mget ([] : List ((List Int) × treeNode)) r1).isNone = true then some (⟨mput ([] : List ((List Int) × treeNode)) r1 ((⟨x0, 0, IntKind.u64.wrap x0.Work, ([] : List (List Int))⟩ : treeNode) : treeNode), r1⟩ : treeTree) else none))
noncomputable def tree_Tree_Start.f (x0 : treeTree) : Option (List Int) := some x0.start
noncomputable def tree_Tree_Add.f (x0 : treeTree) (x1 : Head) : Option (Er × treeTree) := ((head_ID.f x1).bind fun r1 => (if ((mget x0.m r1).isSome) = true then some (xErrKnown, (⟨x0.m, x0.start⟩ : treeTree)) else (if ((mget x0.m x1.Prev).isSome) = true then (if 4096 ≤ (x0.m.length : Int) then some (xErrFull, (⟨x0.m, x0.start⟩ : treeTree)) else ((nget x0.m (lkn x0.m x1.Prev)).bind fun nd1 => (if (mget x0.m r1).isNone = true then (if nd1.up.length + 1 ≤ 4398046511104 then some ((Er.b 0), (⟨nput (mput x0.m r1 ((⟨x1, IntKind.i64.wrap (nd1.height + 1), IntKind.u64.wrap (nd1.work + (IntKind.u64.wrap x1.Work)), ([] : List (List Int))⟩ : treeNode) : treeNode)) (lkn x0.m x1.Prev) ((⟨nd1.head, nd1.height, nd1.work, nd1.up ++ ([r1] : List (List Int))⟩ : treeNode) : treeNode), x0.start⟩ : treeTree)) else none) else none))) else some (xErrParent, (⟨x0.m, x0.start⟩ : treeTree)))))
noncomputable def tree_Tree_Head.f (x0 : treeTree) (x1 : List Int) : Option (Head × Bool) := (if ((mget x0.m x1).isSome) = true then ((nget x0.m (lkn x0.m x1)).bind fun nd1 => some (nd1.head, true)) else some ((⟨0, (List.replicate 32 0), (List.replicate 32 0), 0, 0, 0⟩ : Head), false))
noncomputable def best_New.f (x0 : treeTree) : Option bestMarks := some (⟨(⟨x0.m, x0.start⟩ : treeTree), ([] : List ((List Int) × Bool))⟩ : bestMarks)
noncomputable def best_Marks_Bad.f (x0 : bestMarks) (x1 : List Int) : Option (Bool × bestMarks) := ((((tree_Tree_Head.f (⟨x0.t.m, x0.t.start⟩ : treeTree) x1).bind fun r1 => some r1.2)).bind fun c1 => (((if c1 = true then ((tree_Tree_Start.f (⟨x0.t.m, x0.t.start⟩ : treeTree)).bind fun r2 => some (decide (x1 = r2))) else some true)).bind fun c2 => (if c2 = true then some (false, (⟨(⟨x0.t.m, x0.t.start⟩ : treeTree), x0.bad⟩ : bestMarks)) else some (true, (⟨(⟨x0.t.m, x0.t.start⟩ : treeTree), mput x0.bad x1 true⟩ : bestMarks)))))
noncomputable def tree_Tree_Work.f (x0 : treeTree) (x1 : List Int) : Option (Int × Bool) := (if ((mget x0.m x1).isSome) = true then ((nget x0.m (lkn x0.m x1)).bind fun nd1 => some (nd1.work, true)) else some (0, false))
noncomputable def best_Marks_Over.f (x0 : bestMarks) (x1 : List Int) (x2 : List Int) : Option Bool := ((tree_Tree_Work.f (⟨x0.t.m, x0.t.start⟩ : treeTree) x1).bind fun r1 => ((tree_Tree_Work.f (⟨x0.t.m, x0.t.start⟩ : treeTree) x2).bind fun r2 => (((if r1.2 = true then some (!r2.2) else some true)).bind fun c1 => (if c1 = true then some false else (if r1.1 ≠ r2.1 then some (decide (r2.1 < r1.1)) else ((digest_Less.f x1 x2).bind fun r3 => some r3))))))
noncomputable def slices_SortFunc_api_Hash_api_Hash_at_digest_Compare.f (x0 : List (List Int)) : Option (List (List Int)) := if x0.length ≤ 4398046511104 then some (hsort x0) else none
noncomputable def tree_Tree_Under.s0 (x0 : treeTree) : ((List (List Int)) × Int) → Option (((List (List Int)) × Int) ⊕ (List (List Int))) := fun (s1, s2) => (if s2 < (s1.length : Int) then (if 0 ≤ s2 ∧ s2 < (s1.length : Int) then ((nget x0.m (lkn x0.m (s1.getD s2.toNat []))).bind fun nd1 => (if s1.length + nd1.up.length ≤ 4398046511104 then some (.inl (s1 ++ nd1.up, IntKind.i64.wrap (s2 + 1))) else none)) else none) else some (.inr s1))
noncomputable def tree_Tree_Under.f (x0 : treeTree) (x1 : List Int) : Option (List (List Int)) := (if ((mget x0.m x1).isSome) = true then ((loopO (tree_Tree_Under.s0 x0) (([x1] : List (List Int)), 0)).bind fun c1 => ((slices_SortFunc_api_Hash_api_Hash_at_digest_Compare.f c1).bind fun r1 => some r1)) else some ([] : List (List Int)))
def dd : List (List Int) → List (List Int)
  | [] => []
  | x :: xs => if x ∈ xs then dd xs else x :: dd xs
noncomputable def pkU (t : treeTree) : List (List Int) → Option (List (List Int))
  | [] => some []
  | x :: xs => (tree_Tree_Under.f t x).bind fun l => (pkU t xs).bind fun u => some (l ++ u)
noncomputable def best_Marks_parted.f (x0 : bestMarks) : Option (List (List Int) × List (List Int)) :=
  (pkU x0.t (x0.bad.map (·.1))).bind fun u => (tree_Tree_Start.f x0.t).bind fun st => (tree_Tree_Under.f x0.t st).bind fun g => if (dd u).length ≤ 4398046511104 ∧ g.length ≤ 4398046511104 then some (hsort (dd u), g.filter fun y => decide (y ∉ u)) else none
noncomputable def best_ranks_Len.f (x0 : bestRanks) : Option Int := some (x0.l.length : Int)
noncomputable def best_ranks_Less.f (x0 : bestRanks) (x1 : Int) (x2 : Int) : Option Bool := (if 0 ≤ x1 ∧ x1 < (x0.l.length : Int) then (if 0 ≤ x2 ∧ x2 < (x0.l.length : Int) then ((best_Marks_Over.f (⟨(⟨x0.m.t.m, x0.m.t.start⟩ : treeTree), x0.m.bad⟩ : bestMarks) (x0.l.getD x1.toNat []) (x0.l.getD x2.toNat [])).bind fun r1 => some r1) else none) else none)
noncomputable def best_ranks_Swap.f (x0 : bestRanks) (x1 : Int) (x2 : Int) : Option bestRanks := (if 0 ≤ x2 ∧ x2 < (x0.l.length : Int) then (if 0 ≤ x1 ∧ x1 < (x0.l.length : Int) then some (⟨(x0.l.set x1.toNat (x0.l.getD x2.toNat [])).set x2.toNat (x0.l.getD x1.toNat []), (⟨(⟨x0.m.t.m, x0.m.t.start⟩ : treeTree), x0.m.bad⟩ : bestMarks)⟩ : bestRanks) else none) else none)
noncomputable def container_heap_down_at_bestRanks.s0 (x2 : Int) : (Int × (List (List Int)) × (List ((List Int) × Bool)) × (List ((List Int) × treeNode)) × (List Int)) → Option ((Int × (List (List Int)) × (List ((List Int) × Bool)) × (List ((List Int) × treeNode)) × (List Int)) ⊕ (Int × (List (List Int)) × (List ((List Int) × Bool)) × (List ((List Int) × treeNode)) × (List Int))) := fun (s1, s2, s3, s4, s5) => (((if x2 ≤ (IntKind.i64.wrap ((IntKind.i64.wrap (2 * s1)) + 1)) then some true else some (decide ((IntKind.i64.wrap ((IntKind.i64.wrap (2 * s1)) + 1)) < 0)))).bind fun c6 => (if c6 = true then some (.inr (s1, s2, s3, s4, s5)) else (((((if (IntKind.i64.wrap ((IntKind.i64.wrap ((IntKind.i64.wrap (2 * s1)) + 1)) + 1)) < x2 then ((best_ranks_Less.f (⟨s2, (⟨(⟨s4, s5⟩ : treeTree), s3⟩ : bestMarks)⟩ : bestRanks) (IntKind.i64.wrap ((IntKind.i64.wrap ((IntKind.i64.wrap (2 * s1)) + 1)) + 1)) (IntKind.i64.wrap ((IntKind.i64.wrap (2 * s1)) + 1))).bind fun r1 => some r1) else some false)).bind fun c8 => (if c8 = true then some (IntKind.i64.wrap ((IntKind.i64.wrap ((IntKind.i64.wrap (2 * s1)) + 1)) + 1)) else some (IntKind.i64.wrap ((IntKind.i64.wrap (2 * s1)) + 1))))).bind fun c7 => ((best_ranks_Less.f (⟨s2, (⟨(⟨s4, s5⟩ : treeTree), s3⟩ : bestMarks)⟩ : bestRanks) c7 s1).bind fun r2 => (if r2 = true then ((best_ranks_Swap.f (⟨s2, (⟨(⟨s4, s5⟩ : treeTree), s3⟩ : bestMarks)⟩ : bestRanks) s1 c7).bind fun r3 => some (.inl (c7, r3.l, r3.m.bad, r3.m.t.m, r3.m.t.start))) else some (.inr (s1, s2, s3, s4, s5)))))))
noncomputable def container_heap_down_at_bestRanks.f (x0 : bestRanks) (x1 : Int) (x2 : Int) : Option (Bool × bestRanks) := ((loopO (container_heap_down_at_bestRanks.s0 x2) (x1, x0.l, x0.m.bad, x0.m.t.m, x0.m.t.start)).bind fun (c1, c2, c3, c4, c5) => some (decide (x1 < c1), (⟨c2, (⟨(⟨c4, c5⟩ : treeTree), c3⟩ : bestMarks)⟩ : bestRanks)))
noncomputable def container_heap_Init_at_bestRanks.s0 (r1 : Int) : (Int × (List (List Int)) × (List ((List Int) × Bool)) × (List ((List Int) × treeNode)) × (List Int)) → Option ((Int × (List (List Int)) × (List ((List Int) × Bool)) × (List ((List Int) × treeNode)) × (List Int)) ⊕ bestRanks) := fun (s1, s2, s3, s4, s5) => (if 0 ≤ s1 then ((container_heap_down_at_bestRanks.f (⟨s2, (⟨(⟨s4, s5⟩ : treeTree), s3⟩ : bestMarks)⟩ : bestRanks) s1 r1).bind fun r2 => some (.inl (IntKind.i64.wrap (s1 - 1), r2.2.l, r2.2.m.bad, r2.2.m.t.m, r2.2.m.t.start))) else some (.inr (⟨s2, (⟨(⟨s4, s5⟩ : treeTree), s3⟩ : bestMarks)⟩ : bestRanks)))
noncomputable def container_heap_Init_at_bestRanks.f (x0 : bestRanks) : Option bestRanks := ((best_ranks_Len.f (⟨x0.l, (⟨(⟨x0.m.t.m, x0.m.t.start⟩ : treeTree), x0.m.bad⟩ : bestMarks)⟩ : bestRanks)).bind fun r1 => loopO (container_heap_Init_at_bestRanks.s0 r1) (IntKind.i64.wrap ((IntKind.i64.wrap (Int.tdiv r1 2)) - 1), x0.l, x0.m.bad, x0.m.t.m, x0.m.t.start))
noncomputable def best_Marks_Best.f (x0 : bestMarks) : Option ((List Int) × bestMarks) := ((best_Marks_parted.f (⟨(⟨x0.t.m, x0.t.start⟩ : treeTree), x0.bad⟩ : bestMarks)).bind fun r1 => ((container_heap_Init_at_bestRanks.f (⟨r1.2, (⟨(⟨x0.t.m, x0.t.start⟩ : treeTree), x0.bad⟩ : bestMarks)⟩ : bestRanks)).bind fun r2 => (if 0 < (r2.l.length : Int) then some ((r2.l.getD (0 : Int).toNat []), (⟨(⟨r2.m.t.m, r2.m.t.start⟩ : treeTree), r2.m.bad⟩ : bestMarks)) else none)))
noncomputable def best_Marks_Is.s0 (x0 : bestMarks) : (List Int) → Option ((List Int) ⊕ Bool) := fun s1 => ((tree_Tree_Start.f (⟨x0.t.m, x0.t.start⟩ : treeTree)).bind fun r1 => (if ¬ (s1 = r1) then ((((tree_Tree_Head.f (⟨x0.t.m, x0.t.start⟩ : treeTree) s1).bind fun r2 => some (r2.2, r2.1.Version, r2.1.Prev, r2.1.Root, r2.1.Time, r2.1.Work, r2.1.Nonce))).bind fun (c1, c2, c3, c4, c5, c6, c7) => (if c1 = true then (if ((mget x0.bad s1).getD false) = true then some (.inr true) else some (.inl c3)) else some (.inr false))) else some (.inr false)))
noncomputable def best_Marks_Is.f (x0 : bestMarks) (x1 : List Int) : Option Bool := loopO (best_Marks_Is.s0 x0) x1
noncomputable def best_Marks_All.f (x0 : bestMarks) : Option (List (List Int)) := ((best_Marks_parted.f (⟨(⟨x0.t.m, x0.t.start⟩ : treeTree), x0.bad⟩ : bestMarks)).bind fun r1 => some r1.1)
end Go.Proofs.YtdngkgkkblfcjaaDoor.T
namespace Go.Proofs.YtdngkgkkblfcjaaDoor.T
open Go Go.Proofs
def sortR : Go.Shelf.Ren := ⟨fun | 6 => 102 | 15 => 119 | 14 => 118 | 28 => 134 | 29 => 135 | 20 => 126 | 21 => 127 | 22 => 128 | 23 => 129 | 24 => 130 | 25 => 131 | 26 => 132 | 27 => 133 | 46 => 141 | 47 => 142 | 48 => 143 | 49 => 144 | 50 => 145 | 57 => 147 | n => n, fun | 22 => 62 | 24 => 26 | 25 => 141 | 3 => 3 | 39 => 133 | 0 => 0 | 53 => 24 | 55 => 34 | 4 => 4 | 46 => 182 | 45 => 181 | 50 => 89 | 5 => 5 | 9 => 9 | 66 => 192 | 70 => 196 | 76 => 198 | 77 => 199 | n => n, fun | n => n⟩
theorem sortL : Go.Proofs.SlLaysF0.n6 Tryd.prog sortR := {
  mixed := by kernel_rfl,
  f6 := ⟨Tryd.f102.name, by decide, Tryd.func102.trans (congrArg some (by kernel_rfl))⟩,
  f14 := ⟨Tryd.f118.name, by decide, Tryd.func118.trans (congrArg some (by kernel_rfl))⟩,
  f15 := Tryd.func119.trans (congrArg some (by kernel_rfl)),
  f20 := ⟨Tryd.f126.name, by decide, Tryd.func126.trans (congrArg some (by kernel_rfl))⟩,
  f21 := ⟨Tryd.f127.name, by decide, Tryd.func127.trans (congrArg some (by kernel_rfl))⟩,
  f22 := ⟨Tryd.f128.name, by decide, Tryd.func128.trans (congrArg some (by kernel_rfl))⟩,
  f23 := ⟨Tryd.f129.name, by decide, Tryd.func129.trans (congrArg some (by kernel_rfl))⟩,
  f24 := ⟨Tryd.f130.name, by decide, Tryd.func130.trans (congrArg some (by kernel_rfl))⟩,
  f25 := ⟨Tryd.f131.name, by decide, Tryd.func131.trans (congrArg some (by kernel_rfl))⟩,
  f26 := ⟨Tryd.f132.name, by decide, Tryd.func132.trans (congrArg some (by kernel_rfl))⟩,
  f27 := ⟨Tryd.f133.name, by decide, Tryd.func133.trans (congrArg some (by kernel_rfl))⟩,
  f28 := Tryd.func134.trans (congrArg some (by kernel_rfl)),
  f29 := Tryd.func135.trans (congrArg some (by kernel_rfl)),
  f46 := ⟨Tryd.f141.name, by decide, Tryd.func141.trans (congrArg some (by kernel_rfl))⟩,
  f47 := Tryd.func142.trans (congrArg some (by kernel_rfl)),
  f48 := Tryd.func143.trans (congrArg some (by kernel_rfl)),
  f49 := ⟨Tryd.f144.name, by decide, Tryd.func144.trans (congrArg some (by kernel_rfl))⟩,
  f50 := ⟨Tryd.f145.name, by decide, Tryd.func145.trans (congrArg some (by kernel_rfl))⟩,
  f57 := ⟨Tryd.f147.name, by decide, Tryd.func147.trans (congrArg some (by kernel_rfl))⟩,
  t0 := Tryd.underlying0,
  a0 := Tryd.isAgg0,
  z0 := Tryd.sizeOf0,
  v0 := Tryd.zeroValue0,
  t3 := Tryd.underlying3,
  a3 := Tryd.isAgg3,
  z3 := Tryd.sizeOf3,
  v3 := Tryd.zeroValue3,
  t4 := Tryd.underlying4,
  a4 := Tryd.isAgg4,
  z4 := Tryd.sizeOf4,
  v4 := Tryd.zeroValue4,
  t5 := Tryd.underlying5,
  a5 := Tryd.isAgg5,
  z5 := Tryd.sizeOf5,
  v5 := Tryd.zeroValue5,
  t9 := Tryd.underlying9,
  a9 := Tryd.isAgg9,
  z9 := Tryd.sizeOf9,
  v9 := Tryd.zeroValue9,
  t22 := Tryd.underlying62,
  a22 := Tryd.isAgg62,
  z22 := Tryd.sizeOf62,
  v22 := Tryd.zeroValue62,
  t25 := Tryd.underlying141,
  a25 := Tryd.isAgg141,
  z25 := Tryd.sizeOf141,
  v25 := Tryd.zeroValue141,
  t39 := Tryd.underlying133,
  a39 := Tryd.isAgg133,
  z39 := Tryd.sizeOf133,
  v39 := Tryd.zeroValue133,
  t45 := Tryd.underlying181,
  a45 := Tryd.isAgg181,
  z45 := Tryd.sizeOf181,
  v45 := Tryd.zeroValue181,
  t46 := Tryd.underlying182,
  a46 := Tryd.isAgg182,
  z46 := Tryd.sizeOf182,
  v46 := Tryd.zeroValue182,
  t50 := Tryd.underlying89,
  a50 := Tryd.isAgg89,
  z50 := Tryd.sizeOf89,
  v50 := Tryd.zeroValue89,
  t53 := Tryd.underlying24,
  a53 := Tryd.isAgg24,
  z53 := Tryd.sizeOf24,
  v53 := Tryd.zeroValue24,
  t55 := Tryd.underlying34,
  a55 := Tryd.isAgg34,
  z55 := Tryd.sizeOf34,
  v55 := Tryd.zeroValue34,
  t66 := Tryd.underlying192,
  a66 := Tryd.isAgg192,
  z66 := Tryd.sizeOf192,
  v66 := Tryd.zeroValue192,
  t70 := Tryd.underlying196,
  a70 := Tryd.isAgg196,
  z70 := Tryd.sizeOf196,
  v70 := Tryd.zeroValue196,
  t76 := Tryd.underlying198,
  a76 := Tryd.isAgg198,
  z76 := Tryd.sizeOf198,
  v76 := Tryd.zeroValue198,
  t77 := Tryd.underlying199,
  a77 := Tryd.isAgg199,
  z77 := Tryd.sizeOf199,
  v77 := Tryd.zeroValue199 }
end Go.Proofs.YtdngkgkkblfcjaaDoor.T
namespace Go.Proofs.YtdngkgkkblfcjaaDoor.K
open Go Go.Proofs
set_option linter.unusedVariables false
set_option linter.unusedSimpArgs false
def obj (g : Nat) (o : Obj) : It where
  foot := [g]
  ok w := w.heap[g]? = some o
  loc w w' h hk := by rw [h g (by simp)]; exact hk
section
variable {W0 : World} {md : List Nat} {μ0 μ : Store} {its : List It} {w : World} {g : Nat} {o : Obj}
theorem Iv.obj_ok (hI : Iv W0 md μ0 μ its w) {j : Nat} (hj : its[j]? = some (obj g o)) : w.heap[g]? = some o := (hI.own _ (List.mem_of_getElem? hj)).1
theorem Iv.putObj (hI : Iv W0 md μ0 μ its w) {j : Nat} (hj : its[j]? = some (obj g o)) (o' : Obj) : Iv W0 md μ0 μ (its.set j (obj g o')) (w.putObj g o') := by
  have hg := hI.obj_ok hj
  have hlt := (Array.getElem?_eq_some_iff.1 hg).1
  refine hI.upd j (obj g o) _ hj rfl rfl rfl (by simp) (fun k _ hn => World.putObj_heap_other (fun e => hn (by simp [obj, e]))) (fun g' h => .inl h) (fun g' h => ?_) (by simp [obj]) (World.putObj_heap_same hlt)
  have : g' = g := by simpa [obj] using h
  subst this
  simpa using hlt
theorem Iv.mapX {es : List (Value × Value)} (hI : Iv W0 md μ0 μ (mpI g es :: its) w) : ∃ arr c, arr.toList.map (fun e => (e.key, e.val)) = es ∧ BN arr c ∧ Iv W0 md μ0 μ (obj g (.map arr c) :: its) w := by
  obtain ⟨arr, c, h1, h2, h3⟩ := hI.mp_okB (j := 0) rfl
  refine ⟨arr, c, h2, h3, ?_⟩
  have hlt := (Array.getElem?_eq_some_iff.1 h1).1
  exact hI.upd 0 (mpI g es) (obj g (.map arr c)) rfl rfl rfl rfl (Nat.le_refl _) (fun _ _ _ => rfl) (fun g' h => .inl h) (fun g' h => by
    have : g' = g := by simpa [obj] using h
    subst this
    exact hlt) (by simp [obj]) h1
theorem Iv.mapY {es : List (Value × Value)} {arr : Array MapEntry} {c : Nat} (hI : Iv W0 md μ0 μ (obj g (.map arr c) :: its) w) (he : arr.toList.map (fun e => (e.key, e.val)) = es) (hB : BN arr c) : Iv W0 md μ0 μ (mpI g es :: its) w := by
  have h1 := hI.obj_ok (j := 0) rfl
  have hlt := (Array.getElem?_eq_some_iff.1 h1).1
  exact hI.upd 0 (obj g (.map arr c)) (mpI g es) rfl rfl rfl rfl (Nat.le_refl _) (fun _ _ _ => rfl) (fun g' h => .inl h) (fun g' h => by
    have : g' = g := by simpa [mpI] using h
    subst this
    exact hlt) (by simp [mpI]) ⟨arr, c, h1, he, hB⟩
end
abbrev rnd (r : Nat) : Fence := Fence.wide.inRound r
def nd (o : Oper) : Bool := match o.op with
  | .defer _ => false
  | _ => true
section
variable {P : Program} {r m : Nat} {N R : AW} {E : List (Nat × AW)} {a : Act} {w : World}
theorem upon_round {o : Oper} {next next' : AW} {Q : Exit → AW} (hn : ∀ a w, next a w → next' a w) (hQ : ¬ LetsOut Q) {res : Result Next} (h : o.upon P a next Q res) : o.uponIn (rnd r) m P a next' Q res := by
  cases res with
  | ok nx w' =>
    cases nx with
    | value v => exact hn _ _ h
    | skip => exact hn _ _ h
    | defer d => exact hn _ _ h
    | enter f args =>
      have h : Calls P f args w' _ := h
      refine ⟨fun hd => by simp [Fence.inRound, Fence.wide] at hd, ?_⟩
      have h2 := (callsIn_wide (n := m - 1)).2 h
      refine CallsIn.mono (F := Fence.wide) h2 fun e w'' he => ?_
      cases e with
      | returned v => exact hn _ _ he
      | panicked c => exact he
      | outgrown => exact he
    | row rw args =>
      have h : Rows P rw args w' _ := h
      refine ⟨fun hd => by simp [Fence.inRound, Fence.wide] at hd, fun c cs _ => ?_⟩
      obtain ⟨v, w'', h1, h2⟩ := h c cs
      exact ⟨v, w'', hn _ _ h1, stepsIn_wide.2 h2⟩
    | round l f tmps asg bd => exact h.elim
    | _ => exact h.elim
  | halt x w' =>
    cases x with
    | panic v => exact h
    | _ => exact h.elim
theorem toRound {ops : Array Oper} {Q : Exit → AW} (hQ : ¬ LetsOut Q) : ∀ (l : List Oper), l.all nd = true → ∀ a w, wpList P ops Q l a w → wpListIn (rnd r) m P ops Q l a w
  | [], _, _, _, h => h
  | o :: l, hd, a, w, h => by
    rw [List.all_cons, Bool.and_eq_true] at hd
    have ih := toRound (ops := ops) hQ l hd.2
    unfold wpList at h
    unfold wpListIn
    split
    · rename_i hw
      rw [if_pos hw] at h
      rcases h with h | ⟨_, h⟩
      · refine ⟨fun f _ => trivial, ?_⟩
        have hs : o.semAt (rnd r).round a.eval = execOp a.eval o := Oper.semAt_some r _ _ (fun c e => by simp [nd, e] at hd)
        rw [hs]
        exact upon_round (fun a w h => ih a w h) hQ h
      · exact absurd h hQ
    · rename_i hw
      rw [if_neg hw] at h
      exact ⟨fun f _ => trivial, ih _ _ h⟩
theorem pq_out : ¬ LetsOut (PQ N E R) := fun h => by obtain ⟨_, _, h⟩ := h; exact h
theorem rw_reg {id : Nat} {l : List Oper} (hd : l.all nd = true) (h : wpList P l.toArray (PQ N E R) l a w) : (Code.region id l.toArray false).wpIn (rnd r) m P (PQ N E R) a w :=
  wpIn_region_lit (toRound pq_out l hd a w h)
theorem rw_seq {x y : Code} (h : ∀ N' : AW, (∀ a w, y.wpIn (rnd r) m P (PQ N E R) a w → N' a w) → x.wpIn (rnd r) m P (PQ N' E R) a w) : (Code.seq x y).wpIn (rnd r) m P (PQ N E R) a w := by
  refine wpIn_seq (wpIn_mono (h _ fun _ _ h => h) fun e a w hq => ?_)
  cases e <;> exact hq
theorem rw_block {id : Nat} {c : Code} (h : c.wpIn (rnd r) m P (PQ N ((id, N) :: E) R) a w) : (Code.block id c).wpIn (rnd r) m P (PQ N E R) a w := by
  refine wpIn_block (wpIn_mono h fun e a w hq => ?_)
  cases e with
  | exit i =>
    obtain ⟨M, hM, hm⟩ := hq
    simp only [List.lookup] at hM
    simp only [Exit.inBlock]
    by_cases e : i = id
    · subst e
      simp only [beq_self_eq_true, Option.some.injEq] at hM
      subst hM
      rw [if_pos rfl]
      exact hm
    · rw [if_neg e]
      have : (i == id) = false := by simpa using e
      rw [this] at hM
      exact ⟨M, hM, hm⟩
  | _ => exact hq
theorem rw_exit {i : Nat} {M : AW} (hM : E.lookup i = some M) (h : M a w) : (Code.exit i).wpIn (rnd r) m P (PQ N E R) a w := wpIn_exit ⟨M, hM, h⟩
theorem rw_skip (h : N a w) : Code.skip.wpIn (rnd r) m P (PQ N E R) a w := wpIn_skip h
theorem rw_cond {ds : List Deferred} {n : Nat} {L : List (Nat × Value)} {c : Operand} {x y : Code} {t : Bool} (hA : FrG ds a n L) (hc : ov L c = some (.bool t))
    (ht : t = true → x.wpIn (rnd r) m P (PQ N E R) a w) (hf : t = false → y.wpIn (rnd r) m P (PQ N E R) a w) : (Code.cond c x y).wpIn (rnd r) m P (PQ N E R) a w :=
  wpIn_cond_split (hA.ev hc) ht hf
theorem rw_loop {c : Code} (I : Nat → AW) (k : Nat) (h0 : I k a w)
    (round : ∀ k a w, I k a w → c.wpIn (rnd r) m P (PQ (fun a' w' => ∃ m, m < k ∧ I m a' w') E R) a w) : (Code.loop c).wpIn (rnd r) m P (PQ N E R) a w := by
  intro b kk cs hro hb hr
  have key : ∀ n a w, I n a w →
      ∃ e a' w', PQ N E R e a' w' ∧ ArrivesIn (Machine.fenced P (rnd r)) P (lone (b.atR a (.code c :: .inLoop c :: kk)) cs w) b kk cs e a' w' := by
    intro n
    induction n using Nat.strongRecOn with
    | _ n ih =>
      intro a w hI
      obtain ⟨e, a₁, w₁, hq, harr⟩ := round n a w hI b (.inLoop c :: kk) cs hro hb hr
      cases e with
      | normal =>
        obtain ⟨m, hlt, hI₁⟩ := hq
        obtain ⟨e₂, a₂, w₂, hq₂, harr₂⟩ := ih m hlt a₁ w₁ hI₁
        exact ⟨e₂, a₂, w₂, hq₂, .of_steps (StepsIn.trans harr (.one (fenced_calm hb hr rfl) stepR_inLoop)) harr₂⟩
      | exit id => exact ⟨.exit id, a₁, w₁, hq, .pass (x := .inLoop c) rfl (fun _ _ => .inl (by simp)) harr⟩
      | ret => exact ⟨.ret, a₁, w₁, hq, .pass (x := .inLoop c) rfl (fun _ _ => .inl (by simp)) harr⟩
      | goto l => exact hq.elim
      | panic ch => exact hq.elim
      | outgrown => exact hq.elim
  obtain ⟨e, a', w', hq, harr⟩ := key k a w h0
  exact ⟨e, a', w', hq, .of_steps (.one (fenced_calm hb hr rfl) stepR_loop) harr⟩
end
abbrev dmark (D : Nat) : List Deferred := [{ target := .collected D, args := #[] }]
section
variable {P : Program} {a : Act} {w : World} {n : Nat} {L : List (Nat × Value)} {v : Value} {fn : Func} {Post : Ending → World → Prop}
def RetM (P : Program) (fn : Func) (Post : Ending → World → Prop) : AW := fun a w => ∃ D w', a.defers = dmark D ∧ (Instr.takeDeferred D).run P w = .ok [] w' ∧ ∃ v, (results fn a.tmps).run P w' = .ok v w' ∧ Post (.returned v) w'
theorem enterM {f : FuncId} {c : Code} {args : List Value} {m : Nat} (hf : P.funcs[f]? = some fn) (hb : fn.body = some c) (hm : fn.ntmps = m) (hn : Nat.ble args.length m = true)
    (h : ∀ a, FrG [] a m (fr0 0 args) → c.wp P (PQ (RetM P fn Post) [] (RetM P fn Post)) a w) : Calls P f args.toArray w Post := by
  have key : ∀ a w, RetM P fn Post a w → LeavesInM Fence.wide 0 P fn a.tmps Post a.defers .returning w := by
    rintro a w ⟨D, w', h1, h2, h3⟩
    rw [h1]
    exact ⟨by simp, .inl ⟨D, w', rfl, h2, h3⟩⟩
  refine (callsIn_wide (n := 0)).1 (callsIn_of_wp_marks hf hb trivial (wpIn_wide.2 (wp_mono (h _ ?_) fun e a w hq => ?_)))
  · subst hm
    have := FrG.start args.toArray fn.ntmps (by simpa using hn)
    simpa using this
  · cases e with
    | normal => exact key _ _ hq
    | ret => exact key _ _ hq
    | exit i => obtain ⟨M, hM, _⟩ := hq; simp at hM
    | _ => exact hq.elim
variable {W0 : World} {md : List Nat} {μ0 μ : Store} {its : List It} {D : Nat}
theorem takeD (hI : Iv W0 md μ0 μ (obj D (.deferred (some [])) :: its) w) : ∃ w', (Instr.takeDeferred D).run P w = .ok [] w' ∧ Iv W0 md μ0 μ its w' :=
  ⟨_, run_takeDeferred (hI.obj_ok (j := 0) rfl), ((hI.putObj (j := 0) rfl (.deferred none)).drop (List.sublist_cons_self _ _))⟩
theorem retM1 {t : Nat} (hA : FrG (dmark D) a n L) (hI : Iv W0 md μ0 μ (obj D (.deferred (some [])) :: its) w) (hr : fn.results = #[.tmp t]) (hv : lk L t = some v) (h : ∀ w, Iv W0 md μ0 μ its w → Post (.returned v) w) : RetM P fn Post a w := by
  obtain ⟨w', h1, h2⟩ := takeD (P := P) hI
  refine ⟨D, w', hA.d, h1, v, ?_, h w' h2⟩
  have := hA.g t v hv
  rw [results_tmp hr]
  simp [this]
theorem retM2 {t u : Nat} {v' : Value} (hA : FrG (dmark D) a n L) (hI : Iv W0 md μ0 μ (obj D (.deferred (some [])) :: its) w) (hr : fn.results = #[.tmp t, .tmp u]) (hv : lk L t = some v) (hv' : lk L u = some v') (h : ∀ w, Iv W0 md μ0 μ its w → Post (.returned (.tuple #[v, v'])) w) : RetM P fn Post a w := by
  obtain ⟨w', h1, h2⟩ := takeD (P := P) hI
  refine ⟨D, w', hA.d, h1, _, ?_, h w' h2⟩
  have h1 := hA.g t v hv
  have h2 := hA.g u v' hv'
  rw [results_tmp2 hr]
  simp [h1, h2]
end
section
variable {P : Program} {Q : Exit → AW} {ops : Array Oper} {rest : List Oper} {W0 : World} {md : List Nat} {μ0 μ : Store} {its : List It} {w : World} {ds : List Deferred} {a : Act} {n : Nat} {L : List (Nat × Value)} {ty t kt et : TypeId} {pos : String} {aft : Array Edge} {x y : Operand} {g r d since c0 c : Nat} {seen : Array Nat} {arr : Array MapEntry}
theorem o_range (ht : P.underlying t = some (.map kt et)) {j : Nat} (hI : Iv W0 md μ0 μ its w) (hj : its[j]? = some (obj g (.map arr c))) (hA : FrG ds a n L) (hx : ov L x = some (.map (some g))) (hd : Nat.ble (d + 1) n = true)
    (k : ∀ r a w, Iv W0 md μ0 μ (obj r (.mapIter (some g) c #[] c) :: its) w → FrG ds a n ((d, .pointer (some ⟨r, 0, none⟩)) :: L) → wpList P ops Q rest a w) :
    wpList P ops Q (⟨some d, .range t x, ty, pos, aft, none⟩ :: rest) a w :=
  wpl_val (v := .pointer (some ⟨w.heap.size, 0, none⟩)) (w' := w.alloc (.mapIter (some g) c #[] c)) (by simp [execOp, hA.ev hx, run_range_map w t kt et g arr c ht (hI.obj_ok hj)])
    (k _ _ _ (hI.alloc _ (obj w.heap.size (.mapIter (some g) c #[] c)) rfl (World.alloc_heap_new w _)) (hA.put hd _))
theorem o_next {j1 j2 : Nat} (hI : Iv W0 md μ0 μ its w) (hj1 : its[j1]? = some (obj r (.mapIter (some g) since seen c0))) (hj2 : its[j2]? = some (obj g (.map arr c))) (hold : ∀ e ∈ arr.toList, e.born < since) (hsc : since ≤ c0)
    (hA : FrG ds a n L) (hx : ov L x = some (.pointer (some ⟨r, 0, none⟩))) (hd : Nat.ble (d + 1) n = true)
    (k0 : (leftOf arr seen).size = 0 → ∀ a w, Iv W0 md μ0 μ its w → FrG ds a n ((d, .tuple [.bool false].toArray) :: L) → wpList P ops Q rest a w)
    (k1 : ∀ e ∈ (leftOf arr seen).toList, ∀ a w, Iv W0 md μ0 μ (its.set j1 (obj r (.mapIter (some g) since (seen.push e.born) c))) w → FrG ds a n ((d, .tuple [.bool true, e.key, e.val].toArray) :: L) → wpList P ops Q rest a w) :
    wpList P ops Q (⟨some d, .next x false, ty, pos, aft, none⟩ :: rest) a w := by
  have h1 := hI.obj_ok hj1
  rcases run_next_at (P := P) w ty r g since c0 seen arr c h1 (hI.obj_ok hj2) hold hsc with ⟨h0, hrun⟩ | ⟨e, he, w1, hal, hrun⟩
  · exact wpl_val (v := .tuple #[.bool false]) (w' := w) (by simp [execOp, hA.ev hx, hrun, Result.andThen]) (k0 h0 _ _ hI (hA.put hd _))
  · have hI1 : Iv W0 md μ0 μ its w1 := by
      rcases hal with rfl | rfl
      · exact hI
      · exact hI.drew1
    exact wpl_val (v := .tuple #[.bool true, e.key, e.val]) (by simp [execOp, hA.ev hx, hrun, Result.andThen]; rfl) (k1 e he _ _ (hI1.putObj hj1 _) (hA.put hd _))
theorem r_entry {dst : Option Nat} {gd : Option (Nat × Bool)} {j1 j2 : Nat} {e : MapEntry} (hI : Iv W0 md μ0 μ its w) (hj1 : its[j1]? = some (obj r (.mapIter (some g) since (seen.push e.born) c))) (hj2 : its[j2]? = some (obj g (.map arr c))) (he : e ∈ arr.toList) (hB : BN arr c)
    (hA : FrG ds a n L) (hx : ov L x = some (.pointer (some ⟨r, 0, none⟩))) :
    (execOp a.eval ⟨dst, .entry x, ty, pos, aft, gd⟩).run P w = .ok (.value (.tuple [e.key, e.val].toArray)) w := by
  simp [execOp, hA.ev hx, run_entry_at w r g since seen arr c e (hI.obj_ok hj1) (hI.obj_ok hj2) he hB.2, Result.andThen]
theorem y_st {F : Fence} {m : Nat} {op : Op} {v : Value} (hF : ∀ f, F.fn f) (hA : FrG ds a n L) (hnd : nd ⟨some d, op, ty, pos, aft, none⟩ = true) (h : (execOp a.eval ⟨some d, op, ty, pos, aft, none⟩).run P w = .ok (.value v) w) (hd : Nat.ble (d + 1) n = true)
    (k : ∀ a, FrG ds a n ((d, v) :: L) → wpListIn F m P ops Q rest a w) : wpListIn F m P ops Q (⟨some d, op, ty, pos, aft, none⟩ :: rest) a w :=
  wpListIn_plain rfl fun K hK => by
    refine ⟨fun f _ => hF f, ?_⟩
    have hs : Oper.semAt F.round a.eval ⟨some d, op, ty, pos, aft, none⟩ = execOp a.eval ⟨some d, op, ty, pos, aft, none⟩ := by
      refine Oper.semAt_eq _ _ _ fun c e => ?_
      have e : op = .defer c := e
      subst e
      simp [nd] at hnd
    rw [hs, h]
    exact hK _ _ (k _ (hA.put hd v))
theorem y_call {m l : Nat} {v : Value} {Z : Value → World → Prop} {ats : Array TypeId} (hA : FrG ds a n L) (hx : ov L x = some (.func (.yield l) #[] #[])) (hy : ov L y = some v) (hY : YieldAt Fence.wide (m - 1) P l #[v] w fun e w' => ∃ u, e = .returned u ∧ Z u w') (hd : Nat.ble (d + 1) n = true)
    (k : ∀ u a w, Z u w → FrG ds a n ((d, u) :: L) → wpListIn Fence.wide m P ops Q rest a w) :
    wpListIn Fence.wide m P ops Q (⟨some d, .call { callee := .value x, args := #[y], argTypes := ats }, ty, pos, aft, none⟩ :: rest) a w :=
  wpListIn_plain rfl fun K hK => by
    obtain ⟨fn, tmps, asg, bd, hy1, hR⟩ := hY
    refine ⟨fun f _ => trivial, ?_⟩
    have hrun : (execOp a.eval ⟨some d, .call { callee := .value x, args := #[y], argTypes := ats }, ty, pos, aft, none⟩).run P w = .ok (.round l fn tmps asg bd) w := by
      have h4 := hA.ev hx
      have h5 := hA.ev hy
      have e : execOp a.eval ⟨some d, .call { callee := .value x, args := #[y], argTypes := ats }, ty, pos, aft, none⟩ = Instr.yield l (#[] ++ (#[y] : Array Operand).map a.eval ++ #[]) := by
        simp only [execOp, resolve, h4]
        rfl
      rw [e]
      simp [h5, hy1]
    have hs : Oper.semAt Fence.wide.round a.eval ⟨some d, .call { callee := .value x, args := #[y], argTypes := ats }, ty, pos, aft, none⟩ = execOp a.eval ⟨some d, .call { callee := .value x, args := #[y], argTypes := ats }, ty, pos, aft, none⟩ := rfl
    rw [hs, hrun]
    refine ⟨fun hd => by simp [Fence.wide] at hd, hR.mono fun e w' he => ?_⟩
    obtain ⟨u, rfl, hz⟩ := he
    exact hK _ _ (k u _ _ hz (hA.put hd u))
end
end Go.Proofs.YtdngkgkkblfcjaaDoor.K
namespace Go.Proofs.YtdngkgkkblfcjaaDoor.K
open Go Go.Proofs
set_option linter.unusedVariables false
set_option linter.unusedSimpArgs false
section
variable {K : Type} {kv : K → Value} {arr : Array MapEntry} {c : Nat} {ks pre : List K} {seen : Array Nat}
def PC (arr : Array MapEntry) (ks : List K) (seen : Array Nat) (pre : List K) : Prop :=
  ∃ idx : List Nat, idx.Nodup ∧ (∀ i ∈ idx, i < ks.length) ∧ pre.map some = idx.map (ks[·]?) ∧ seen.toList.map some = idx.map fun i => (arr.toList[i]?).map (·.born)
theorem PC.nil : PC arr ks #[] [] := ⟨[], by simp, by simp, rfl, rfl⟩
theorem PC.mem (h : PC arr ks seen pre) : ∀ y ∈ pre, y ∈ ks := by
  obtain ⟨idx, _, _, h3, _⟩ := h
  intro y hy
  have : some y ∈ idx.map (ks[·]?) := by rw [← h3]; exact List.mem_map.2 ⟨y, hy, rfl⟩
  obtain ⟨i, _, hi⟩ := List.mem_map.1 this
  exact List.mem_of_getElem? hi
theorem nodup_idx (hn : ks.Nodup) {i j : Nat} {x : K} (hi : ks[i]? = some x) (hj : ks[j]? = some x) : i = j := by
  exact (List.getElem?_inj (List.getElem?_eq_some_iff.1 hi).1 hn).1 (hi.trans hj.symm)
theorem PC.nodup (hn : ks.Nodup) (h : PC arr ks seen pre) : pre.Nodup := by
  obtain ⟨idx, h1, h2, h3, _⟩ := h
  have : (idx.map (ks[·]?)).Nodup := by
    rw [List.Nodup, List.pairwise_map]
    refine List.Pairwise.imp_of_mem ?_ h1
    intro i j hi hj hne e
    have e1 := List.getElem?_eq_getElem (h2 i hi)
    exact hne (nodup_idx hn e1 (e ▸ e1))
  rw [← h3, List.Nodup, List.pairwise_map] at this
  exact this.imp fun h e => h (congrArg some e)
theorem PC.step (hk : arr.toList.map (·.key) = ks.map kv) (hB : BN arr c) (hn : ks.Nodup) (h : PC arr ks seen pre) {e : MapEntry} (he : e ∈ (leftOf arr seen).toList) :
    ∃ x, e.key = kv x ∧ x ∈ ks ∧ x ∉ pre ∧ PC arr ks (seen.push e.born) (pre ++ [x]) ∧ e ∈ arr.toList ∧ (leftOf arr (seen.push e.born)).size < (leftOf arr seen).size := by
  obtain ⟨hem, hes⟩ := mem_left he
  obtain ⟨i, hi⟩ := List.getElem?_of_mem hem
  have hlen : arr.toList.length = ks.length := by simpa using congrArg List.length hk
  have hil : i < ks.length := hlen ▸ (List.getElem?_eq_some_iff.1 hi).1
  have hx := List.getElem?_eq_getElem hil
  have hkey : e.key = kv ks[i] := by
    have := congrArg (·[i]?) hk
    simpa [hi, hx] using this
  obtain ⟨idx, h1, h2, h3, h4⟩ := h
  have hni : i ∉ idx := fun hm => by
    have : some e.born ∈ seen.toList.map some := by
      rw [h4]
      exact List.mem_map.2 ⟨i, hm, by rw [hi]; rfl⟩
    obtain ⟨b, hb, hbe⟩ := List.mem_map.1 this
    cases hbe
    have : seen.contains e.born = true := by simpa using hb
    rw [hes] at this
    cases this
  have hnp : ks[i] ∉ pre := fun hm => by
    have : some ks[i] ∈ idx.map (ks[·]?) := by rw [← h3]; exact List.mem_map.2 ⟨_, hm, rfl⟩
    obtain ⟨j, hj, hje⟩ := List.mem_map.1 this
    exact hni (nodup_idx hn hje hx ▸ hj)
  refine ⟨ks[i], hkey, List.getElem_mem hil, hnp, ⟨idx ++ [i], ?_, ?_, ?_, ?_⟩, hem, left_shrinks arr seen e he⟩
  · rw [List.nodup_append]
    exact ⟨h1, by simp, fun a ha b hb e => hni (by have : b = i := by simpa using hb
                                                   rw [← this, ← e]; exact ha)⟩
  · intro j hj
    rcases List.mem_append.1 hj with hj | hj
    · exact h2 j hj
    · have : j = i := by simpa using hj
      rw [this]; exact hil
  · rw [List.map_append, List.map_append, h3]
    simp [hx]
  · rw [Array.toList_push, List.map_append, List.map_append, h4]
    simp only [List.map_cons, List.map_nil, hi, Option.map_some]
theorem PC.done (hk : arr.toList.map (·.key) = ks.map kv) (hB : BN arr c) (h : PC arr ks seen pre) (h0 : (leftOf arr seen).size = 0) : pre.Perm ks := by
  have hlen : arr.toList.length = ks.length := by simpa using congrArg List.length hk
  obtain ⟨idx, h1, h2, h3, h4⟩ := h
  have hall : ∀ i, i < ks.length → i ∈ idx := fun i hil => by
    have hi := List.getElem?_eq_getElem (l := arr.toList) (i := i) (by omega)
    have hc : seen.contains (arr.toList[i]'(by omega)).born = true := all_seen arr seen h0 _ (List.getElem_mem _)
    have : some (arr.toList[i]'(by omega)).born ∈ seen.toList.map some := List.mem_map.2 ⟨_, by simpa using hc, rfl⟩
    rw [h4] at this
    obtain ⟨j, hj, hje⟩ := List.mem_map.1 this
    have hjl := h2 j hj
    have hj2 := List.getElem?_eq_getElem (l := arr.toList) (i := j) (by omega)
    rw [hj2] at hje
    have hbn := hB.2
    have : (arr.toList.map (·.born))[j]? = (arr.toList.map (·.born))[i]? := by
      rw [List.getElem?_map, List.getElem?_map, hj2, hi]
      simpa using hje
    have hji : j = i := by
      have a1 : (arr.toList.map (·.born))[i]? = some (arr.toList[i]'(by omega)).born := by rw [List.getElem?_map, hi]; rfl
      exact nodup_idx hbn (this.trans a1) a1
    exact hji ▸ hj
  have hp : idx.Perm (List.range ks.length) := by
    rw [List.perm_ext_iff_of_nodup h1 List.nodup_range]
    intro i
    rw [List.mem_range]
    exact ⟨h2 i, hall i⟩
  have h5 : (List.range ks.length).map (ks[·]?) = ks.map some := by
    apply List.ext_getElem?
    intro i
    by_cases hi : i < ks.length
    · simp [hi]
    · rw [List.getElem?_eq_none (by simp; omega), List.getElem?_eq_none (by simp; omega)]
  have h6 := (hp.map (ks[·]?)).filterMap id
  rw [← h3, h5] at h6
  simpa [List.filterMap_map] using h6
end
section
variable {P : Program} {r m : Nat} {N R : AW} {E : List (Nat × AW)} {a : Act} {w : World}
theorem opRound {ops : Array Oper} {Q : Exit → AW} (hQ : ¬ LetsOut Q) (hd : ∀ o ∈ ops.toList, nd o = true) {i : Nat} {K K' : AW} (hK : ∀ a w, K a w → K' a w) (h : wpOp P ops Q i K a w) : wpOpIn (rnd r) m P ops Q i K' a w := by
  unfold wpOp at h
  unfold wpOpIn
  split
  · rename_i ho
    simp only [ho] at h
    exact hK _ _ h
  · rename_i o ho
    simp only [ho] at h
    have hm : o ∈ ops.toList := by
      have : ops.toList[i]? = some o := by simpa using ho
      exact List.mem_of_getElem? this
    split
    · rename_i hw
      rw [if_pos hw] at h
      rcases h with h | ⟨_, h⟩
      · refine ⟨fun f _ => trivial, ?_⟩
        have hs : o.semAt (rnd r).round a.eval = execOp a.eval o := Oper.semAt_some r _ _ (fun c e => by have := hd o hm; simp [nd, e] at this)
        rw [hs]
        exact upon_round hK hQ h
      · exact absurd h hQ
    · rename_i hw
      rw [if_neg hw] at h
      exact ⟨fun f _ => trivial, hK _ _ h⟩
theorem anyRound {ops : Array Oper} {Q : Exit → AW} {md : Region.Mode} (hQ : ¬ LetsOut Q) (hd : ∀ o ∈ ops.toList, nd o = true) : ∀ (f : Nat) (l : Array Bool) (a : Act) (w : World), wpAny P md ops Q f l a w → wpAnyIn (rnd r) m P md ops Q f l a w
  | 0, _, _, _, h => h
  | f + 1, _, _, _, h => ⟨h.1, fun i hi => opRound hQ hd (fun a w h => anyRound hQ hd f _ a w h) (h.2 i hi)⟩
theorem rw_any {id : Nat} {l : List Oper} {W0 : World} {md : List Nat} {μ0 μ : Store} {its : List It} (hd : l.all nd = true) (T : List Nat) (hm : P.follows .mixedOrders = true) (hI : Iv W0 md μ0 μ its w)
    (h : ∀ w, Iv W0 md μ0 μ its w → wpG P l.toArray (PQ N E R) T (fun w => Iv W0 md μ0 μ its w) l.toArray.size (Array.replicate l.toArray.size false) a w) : (Code.region id l.toArray true).wpIn (rnd r) m P (PQ N E R) a w :=
  wpIn_region_any hm (anyRound pq_out (fun o ho => List.all_eq_true.1 hd o ho) _ _ _ _ (wpAny_of_G _ _ _ _ (h _ hI.drew1)))
end
def KC {K : Type} (P : Program) (fk : Nat) (T : TypeId) (kv : K → Value) (KW : K → Prop) : Prop :=
  ∀ {W0 : World} {md : List Nat} {μ0 μ : Store} (l gb gm : Nat) (arr : Array MapEntry) (cl : Nat) (ks : List K) (S : List K → List It → Prop) (w : World) (its0 : List It),
    S [] its0 → arr.toList.map (·.key) = ks.map kv → ks.Nodup → BN arr cl → (∀ x ∈ ks, KW x) →
    Iv W0 md μ0 μ (cel gb [[.map (some gm)]] T :: obj gm (.map arr cl) :: its0) w →
    (∀ pre x its1 z1 z2 z3 z4 w1, S pre its1 → x ∈ ks → x ∉ pre → (∀ y ∈ pre, y ∈ ks) → pre.Nodup → Iv W0 md μ0 μ (z1 :: z2 :: z3 :: z4 :: its1) w1 →
      YieldAt Fence.wide 0 P l #[kv x] w1 fun e w' => ∃ u, e = .returned u ∧ u = .bool true ∧ ∃ its2, S (pre ++ [x]) its2 ∧ Iv W0 md μ0 μ (z1 :: z2 :: z3 :: z4 :: its2) w') →
    Calls P fk [.func (.yield l) #[] #[], .pointer (some ⟨gb, 0, none⟩)].toArray w fun e w' => (∃ v, e = .returned v) ∧ ∃ xs its', xs.Perm ks ∧ S xs its' ∧ Iv W0 md μ0 μ (cel gb [[.map (some gm)]] T :: obj gm (.map arr cl) :: its') w'
def lrec (fn : FuncId) (tmps : Array Value) (t : Nat) (assign body : Code) (D : Nat) (st : LoopState) (pe : Option Code) : Loop := { state := st, pending := pe, fn, tmps, params := #[t], assign, body, defers := D }
section
variable {K V : Type} {P : Program} {N R : AW} {E : List (Nat × AW)} {W0 : World} {md : List Nat} {μ0 μ : Store} {its : List It} {w : World} {a : Act} {n : Nat} {L : List (Nat × Value)} {gb gm fk t : Nat} {T : TypeId} {kv : K → Value} {vv : V → Value} {KW : K → Prop} {m : List (K × V)} {g : Operand} {assign body : Code}
theorem w_range (hC : KC P fk T kv KW) (hf : CalleeF P fk) (I : List K → List It → Prop) (A : List K → K → Act → List It → Prop)
    (hA : FrG [] a n L) (hg : ov L g = some (.func (.func fk) #[] #[.pointer (some ⟨gb, 0, none⟩)])) (ht : Nat.ble (t + 1) n = true)
    (h0 : I [] its) (hkw : ∀ p ∈ m, KW p.1) (hnd : (m.map (·.1)).Nodup)
    (hI : Iv W0 md μ0 μ (cel gb [[.map (some gm)]] T :: mpI gm (ent kv vv m) :: its) w)
    (hassign : ∀ pre x its1 z1 z2 z3 z4 z5 z6 w1 a1 r, I pre its1 → x ∈ m.map (·.1) → x ∉ pre → (∀ y ∈ pre, y ∈ m.map (·.1)) → pre.Nodup → FrG [] a1 n ((t, kv x) :: L) → Iv W0 md μ0 μ (z1 :: z2 :: z3 :: z4 :: z5 :: z6 :: its1) w1 →
      assign.wpIn (rnd r) 0 P (PQ (fun a2 w2 => ∃ its2, A pre x a2 its2 ∧ Iv W0 md μ0 μ (z1 :: z2 :: z3 :: z4 :: z5 :: z6 :: its2) w2) [] (fun _ _ => False)) a1 w1)
    (hbody : ∀ pre x its2 z1 z2 z3 z4 z5 z6 w2 a2 r, x ∈ m.map (·.1) → x ∉ pre → (∀ y ∈ pre, y ∈ m.map (·.1)) → pre.Nodup → A pre x a2 its2 → Iv W0 md μ0 μ (z1 :: z2 :: z3 :: z4 :: z5 :: z6 :: its2) w2 →
      body.wpIn (rnd r) 0 P (PQ (fun _ w3 => ∃ its3, I (pre ++ [x]) its3 ∧ Iv W0 md μ0 μ (z1 :: z2 :: z3 :: z4 :: z5 :: z6 :: its3) w3) [] (fun _ _ => False)) a2 w2)
    (hend : ∀ xs its' D a' w', xs.Perm (m.map (·.1)) → I xs its' → FrG (dmark D) a' n L → Iv W0 md μ0 μ (obj D (.deferred (some [])) :: cel gb [[.map (some gm)]] T :: mpI gm (ent kv vv m) :: its') w' → N a' w') :
    (Code.rangeFunc g #[t] assign body).wp P (PQ N E R) a w := by
  refine (wpIn_wide (n := 0)).1 (wpIn_rangeFunc fun fn hfn => ?_)
  have hI1 := (hI.alloc _ (obj w.heap.size (.deferred (some []))) rfl (World.alloc_heap_new w _))
  have hI2 := (hI1.alloc _ (obj (w.alloc (.deferred (some []))).heap.size (.loop (lrec fn a.tmps t assign body w.heap.size .ready none))) rfl (World.alloc_heap_new _ _))
  have hsz : (w.alloc (.deferred (some []))).heap.size = w.heap.size + 1 := by simp
  rw [hsz] at hI2
  have h1 := run_enterLoop_outer (P := P) (w := w) fn a.tmps #[t] assign body
  generalize hD : w.heap.size = D at hI2 h1
  have hI2 : Iv W0 md μ0 μ (obj (D + 1) (.loop (lrec fn a.tmps t assign body D .ready none)) :: obj D (.deferred (some [])) :: cel gb [[.map (some gm)]] T :: mpI gm (ent kv vv m) :: its) _ := hI2
  generalize hw2 : (w.alloc (.deferred (some []))).alloc (.loop (lrec fn a.tmps t assign body D .ready none)) = w2 at hI2
  have h1 : (Instr.enterLoop fn a.tmps #[t] assign body none).run P w = .ok (D + 1, dmark D) w2 := by rw [← hw2]; exact h1
  obtain ⟨fn', hf1, hf2, hf3⟩ := hf
  refine ⟨D + 1, dmark D, w2, { target := .fn (.func fk) #[.pointer (some ⟨gb, 0, none⟩)], args := #[.func (.yield (D + 1)) #[] #[]] }, w2, fk,
    [.func (.yield (D + 1)) #[] #[], .pointer (some ⟨gb, 0, none⟩)].toArray, w2, h1, ?_, fun _ _ => trivial, ?_, fun hd => by simp [Fence.wide] at hd, (callsIn_wide (n := 0 - 1)).2 ?_⟩
  · have h4 := hA.ev hg
    simp only [resolve, h4]
    simp [go_sem]
  · have h2' : fn'.name ≠ "runtime.NumGoroutine" := by simpa using hf2
    have h3' : fn'.body ≠ none := fun e => by rw [e] at hf3; cases hf3
    show (callFunc fk (#[.func (.yield (D + 1)) #[] #[]] ++ #[.pointer (some ⟨gb, 0, none⟩)])).run P w2 = _
    simp [callFunc, hf1, h2', h3', program, Sem.run]
  · have hI3 := hI2.perm (List.perm_append_comm_assoc [_, _, _] [_] its)
    obtain ⟨arr, cl, he, hB, hI4⟩ := Iv.mapX hI3
    have hI5 := hI4.perm (List.perm_append_comm_assoc [_, _, _] [_] its)
    have hk : arr.toList.map (·.key) = (m.map (·.1)).map kv := by
      have := congrArg (List.map Prod.fst) he
      simpa [ent, List.map_map, Function.comp_def] using this
    refine (hC (D + 1) gb gm arr cl (m.map (·.1)) (fun pre its' => ∃ its1, its' = obj (D + 1) (.loop (lrec fn a.tmps t assign body D .ready none)) :: obj D (.deferred (some [])) :: its1 ∧ I pre its1) w2 _ ⟨its, rfl, h0⟩ hk hnd hB (fun x hx => by
      obtain ⟨p, hp, rfl⟩ := List.mem_map.1 hx
      exact hkw p hp) hI5 ?_).mono ?_
    · rintro pre x _ z1 z2 z3 z4 w1 ⟨its1, rfl, hpre⟩ hx hxn hpm hpn hJ
      have hy := run_yield (P := P) (args := #[kv x]) (hJ.obj_ok (j := 4) rfl) rfl
      refine ⟨_, _, _, _, hy, roundIn_of_wpIn trivial (wpIn_mono (hassign pre x its1 z1 z2 z3 z4 _ _ w1 _ (D + 1) hpre hx hxn hpm hpn ?_ hJ) fun e a2 w2 hq => ?_)⟩
      · have := hA.put ht (kv x)
        have e : Array.foldl (fun (tmps : Array Value) (x : Nat × Value) => match x with | (t, a) => tmps.setIfInBounds t a) (lrec fn a.tmps t assign body D .ready none).tmps ((lrec fn a.tmps t assign body D .ready none).params.zip #[kv x]) = (a.put (some t) (kv x)).tmps := by simp [lrec, Act.put]
        exact ⟨rfl, by rw [e]; exact this.s, by rw [e]; exact this.g⟩
      · cases e with
        | normal =>
          obtain ⟨its2, hA2, hJ2⟩ := hq
          refine ⟨_, run_beginRound (hJ2.obj_ok (j := 4) rfl) rfl, wpIn_mono (hbody pre x its2 z1 z2 z3 z4 _ _ _ a2 (D + 1) hx hxn hpm hpn hA2 (hJ2.putObj (j := 4) rfl _)) fun e a3 w3 hq3 => ?_⟩
          cases e with
          | normal =>
            obtain ⟨its3, hI3', hJ3⟩ := hq3
            exact ⟨_, _, run_endRound none (hJ3.obj_ok (j := 4) rfl), _, rfl, rfl, _, ⟨its3, rfl, hI3'⟩, hJ3.putObj (j := 4) rfl _⟩
          | exit i => obtain ⟨M, hM, _⟩ := hq3; simp at hM
          | ret => exact hq3.elim
          | goto l => exact hq3.elim
          | panic l => exact hq3.elim
          | outgrown => exact hq3.elim
        | exit i => obtain ⟨M, hM, _⟩ := hq; simp at hM
        | ret => exact hq.elim
        | goto l => exact hq.elim
        | panic l => exact hq.elim
        | outgrown => exact hq.elim
    · rintro e w' ⟨⟨v, rfl⟩, xs, _, hp, ⟨its1, rfl, hIx⟩, hJ⟩
      have hend' := run_endLoop (P := P) (hJ.obj_ok (j := 2) rfl) (by simp [lrec])
      refine ⟨none, _, hend', ?_⟩
      have hJ2 : Iv W0 md μ0 μ (cel gb [[.map (some gm)]] T :: obj gm (.map arr cl) :: obj (D + 1) (.loop { lrec fn a.tmps t assign body D .ready none with state := .exhausted }) :: obj D (.deferred (some [])) :: its1) _ := hJ.putObj (j := 2) rfl _
      have hJ3 := hJ2.perm (List.perm_append_comm_assoc [_, _, _] [_] its1)
      have hJ4 : Iv W0 md μ0 μ (obj D (.deferred (some [])) :: cel gb [[.map (some gm)]] T :: obj gm (.map arr cl) :: its1) _ := hJ3.drop (by
        refine List.Sublist.cons_cons _ (List.Sublist.cons_cons _ (List.Sublist.cons_cons _ ?_))
        exact List.sublist_cons_self _ _)
      have hJ5 := hJ4.perm (List.perm_append_comm_assoc [_, _] [_] its1)
      have hJ6 := Iv.mapY hJ5 he hB
      have hJ7 := hJ6.perm (List.perm_append_comm_assoc [_] [_, _] its1)
      exact hend xs its1 D _ _ hp hIx ⟨by show dmark D ++ a.defers = _; rw [hA.d]; rfl, hA.s, hA.g⟩ hJ7
end
end Go.Proofs.YtdngkgkkblfcjaaDoor.K
