/- Proved: the statement RedoOrder, as given (its conditions are those of the given row, and card where there is one; no others): the call ends, with true, and the input reads as it did. This file is one of its parts. -/
import Derived.Test.YtcpdnoochieecaaDoorPRedoOrder3
import Derived.OpenShut
import Derived.ChangeArms
import Derived.DataReads
import Derived.WideShapes
import Derived.Below
import Derived.Carry
import Derived.ChangeOld
import Derived.LaidLaws
import Derived.Stop.ErrReads
import Derived.ChangeVars
import Derived.Test.YtcpdnoochieecaaDoorRows
import Derived.Test.YtcpdnoochieecaaDoorProg
import Derived.JoinedOf
import Derived.ProofKit
namespace Go.Proofs.YtcpdnoochieecaaDoor.T
open Go Go.Proofs Go.Proofs.YtcpdnoochieecaaDoor.K
set_option linter.unusedVariables false
set_option linter.unusedSimpArgs false
set_option maxHeartbeats 4000000 in
set_option maxRecDepth 20000 in
theorem sargassolaw24_RedoOrder.c (μ : Store) (w0 : World) (hμ : Agr μ w0) (x0 : List Int) (u0 : Value) (hx0 : Slc (RI .i64) 1 μ u0 x0) (x1 : Int) (hx1 : InR .i64 x1) (e7 : Value) (he7 : ErS μ e7 (Er.b 8)) (r : Bool) (H : sargassolaw24_RedoOrder.f x0 x1 = some r) :
    Calls Tryd.prog 8 [u0, .int .i64 x1].toArray w0 (fun e w' => ∃ v, e = .returned v ∧ v = .bool r ∧ True ∧ Iv w0 [] μ μ [] w') := by
  refine enter Tryd.func8 rfl Tryd.ntmps8 rfl fun a hA => ?_
  have hI := Iv.start hμ
  have H := bI H
  refine w_seq fun _ hN1 => w_reg <| sta hA rfl rfl fun a hA => ?_
  refine o_nil <| hN1 _ _ <| w_seq fun _ hN2 => w_reg ?_
  obtain ⟨r1, hr1, H⟩ := bB H
  refine o_callp (u := .bool r1) cf39 hA rfl hI (sargassolaw24_first.c μ _ hI.agr e7 he7 r1 hr1) rfl fun a w hz1 hI hA => 
    sta hA rfl rfl fun a hA => ?_
  refine o_nil <| hN2 _ _ <| w_seq fun _ hN3 => w_seq fun _ hN4 => w_reg <| stm hA rfl rfl fun a hA => 
    stp hA (r_not hA rfl) rfl fun a hA => ?_
  refine o_nil <| hN4 _ _ <| w_cond hA rfl (fun hc1 => ?_) (fun hc1 => ?_)
  · have hc1 := nT hc1; have hc1 := ft hc1; have H := bF H hc1
    refine w_seq fun _ hN5 => w_reg <| sta hA rfl rfl fun a hA => ?_
    refine o_nil <| hN5 _ _ <| w_ret ?_
    obtain rfl := sJ H
    exact ret1 hA Tryd.results8 rfl ⟨_, rfl, rfl, trivial, hI.forget0⟩
  · have hc1 := nF hc1; have H := bT H hc1
    refine w_skip <| hN3 _ _ <| w_seq fun _ hN6 => w_seq fun _ hN7 => w_reg <| stm hA rfl rfl fun a hA => ?_
    obtain ⟨_, hsl1⟩ := Slc.sv hx0
    refine stp hA (r_slen Tryd.underlying55 hsl1 hA rfl) rfl fun a hA => 
      stp hA (r_gtr hA rfl rfl) rfl fun a hA => ?_
    refine o_nil <| hN7 _ _ <| w_cond hA rfl (fun hc2 => ?_) (fun hc2 => ?_)
    · have hc20 := hc2; obtain ⟨hc2, H⟩ := dT H hc2
      refine w_seq fun _ hN8 => w_reg <| stm hA rfl rfl fun a hA => 
        sta hA rfl rfl fun a hA => ?_
      refine o_nil <| hN8 _ _ <| w_ret ?_
      obtain rfl := sJ H
      exact ret1 hA Tryd.results8 rfl ⟨_, rfl, rfl, trivial, hI.forget0⟩
    · have hc20 := hc2; obtain ⟨hc2, H⟩ := dF H hc2
      refine w_skip <| hN6 _ _ <| w_seq fun _ hN9 => w_reg <| sta hA rfl rfl fun a hA => ?_
      refine o_nil <| hN9 _ _ <| w_seq fun _ hN10 => w_reg <| sta hA rfl rfl fun a hA => ?_
      refine o_nil <| hN10 _ _ ?_
      obtain ⟨⟨c1, c2⟩, hz2, Hk1⟩ := bB H
      refine w_cut (fun a w => ∃ (μ1 : Store) (vvc1 : Value) (ccc1 : List Value) (vvc2 : Value) (ccc2 : List Value), μ.le μ1 ∧ Els (RBlock μ1) 69 c1 ccc1 ∧ Els (RTx μ1) 4 c2 ccc2 ∧ Fr a 167 [(1, .int .i64 x1), (4, .bool false), (5, .bool r1), (6, vvc1), (7, vvc2)] ∧ Iv w0 [] μ μ1 [row 37 69 vvc1 c1.length ccc1, row 32 4 vvc2 c2.length ccc2] w) ?_ ?_
      · have H := bI hz2
        refine w_seq fun _ hN11 => w_reg <| sta hA rfl rfl fun a hA => ?_
        refine o_nil <| hN11 _ _ <| w_block ?_
        have hI := hI.nilRow 37 69
        have hI := hI.nilRow 32 4
        obtain ⟨z1, hz3, Hk2⟩ := bind_some H
        obtain ⟨n1, hn1⟩ := loopO_some hz3
        refine w_loop (fun n a w => ∃ (s1 : List Block) (s2 : List Tx) (s3 : Int) (μ2 : Store) (vvs1 : Value) (ccs1 : List Value) (vvs2 : Value) (ccs2 : List Value), loopN (sargassolaw24_RedoOrder.s0 x0) n (s1, s2, s3) = some z1 ∧ μ.le μ2 ∧ Els (RBlock μ2) 69 s1 ccs1 ∧ Els (RTx μ2) 4 s2 ccs2 ∧ InR .i64 s3 ∧ Fr a 167 [(0, u0), (1, .int .i64 x1), (4, .bool false), (5, .bool r1), (6, vvs1), (7, vvs2), (8, .int .i64 s3)] ∧ Iv w0 [] μ μ2 [row 32 4 vvs2 s2.length ccs2, row 37 69 vvs1 s1.length ccs1] w) n1 ⟨[], [], 0, μ, (.slice none 0 0), [], (.slice none 0 0), [], hn1, (Store.le.refl _), (Els.nil (RE := (RBlock μ)) (sz := 69)), (Els.nil (RE := (RTx μ)) (sz := 4)), (in_lit .i64 0 rfl), hA.sub ⟨rfl, rfl, rfl, rfl, rfl, rfl, rfl, trivial⟩, hI⟩ ?_
        clear hA hI
        rintro n a w ⟨s1, s2, s3, μ2, vvs1, ccs1, vvs2, ccs2, hn1, hle2, ws1, ws2, ws3, hA, hI⟩
        obtain ⟨m1, rfl, H⟩ := loopN_bind hn1
        clear hn1
        refine w_seq fun _ hN12 => w_seq fun _ hN13 => w_reg <| stm hA rfl rfl fun a hA => 
          stm hA rfl rfl fun a hA => ?_
        obtain ⟨_, hsl2⟩ := Slc.sv (Slc.le hx0 (fun _ _ h => h) hle2)
        refine stp hA (r_slen Tryd.underlying55 hsl2 hA rfl) rfl fun a hA => 
          stp hA (r_lss hA rfl rfl) rfl fun a hA => ?_
        refine o_nil <| hN13 _ _ <| w_cond hA rfl (fun hc3 => ?_) (fun hc3 => ?_)
        · obtain ⟨hc3, H⟩ := dT H hc3
          refine w_skip <| hN12 _ _ ?_
          obtain ⟨⟨c3, c4⟩, hz4, Hk3⟩ := bB H
          refine w_cut (fun a w => ∃ (μ3 : Store) (vvc3 : Value) (ccc3 : List Value) (vvc4 : Value) (ccc4 : List Value), μ2.le μ3 ∧ Els (RBlock μ3) 69 c3 ccc3 ∧ Els (RTx μ3) 4 c4 ccc4 ∧ Fr a 167 [(0, u0), (1, .int .i64 x1), (4, .bool false), (5, .bool r1), (6, vvc3), (7, vvc4), (8, .int .i64 s3), (30, .bool (decide (s3 < (x0.length : Int))))] ∧ Iv w0 [] μ μ3 [row 37 69 vvc3 c3.length ccc3, row 32 4 vvc4 c4.length ccc4] w) ?_ ?_
          · have H := bI hz4
            refine w_block <| w_seq fun _ hN14 => w_reg <| stm hA rfl rfl fun a hA => 
              stp hA (r_bldA (cs := [av .u8 32 ([0, 0, 0, 0, 0, 0, 0, 0, 0, 0, 0, 0, 0, 0, 0, 0, 0, 0, 0, 0, 0, 0, 0, 0, 0, 0, 0, 0, 0, 0, 0, 0])].flatten.toArray) zr26 Tryd.underlying26 sz5 hA rfl (by kernel_rfl)) rfl fun a hA => ?_
            obtain ⟨r2, hr2, H⟩ := bB H
            refine o_call _ cf12 hA rfl (sargassoref1_First.c μ2 _ hI.agr s3 ws3 1 (in_lit .u64 1 rfl) ([0, 0, 0, 0, 0, 0, 0, 0, 0, 0, 0, 0, 0, 0, 0, 0, 0, 0, 0, 0, 0, 0, 0, 0, 0, 0, 0, 0, 0, 0, 0, 0]) (arr_lit rfl (by simp only [List.forall_mem_cons]; exact ⟨(in_lit .u8 0 rfl), (in_lit .u8 0 rfl), (in_lit .u8 0 rfl), (in_lit .u8 0 rfl), (in_lit .u8 0 rfl), (in_lit .u8 0 rfl), (in_lit .u8 0 rfl), (in_lit .u8 0 rfl), (in_lit .u8 0 rfl), (in_lit .u8 0 rfl), (in_lit .u8 0 rfl), (in_lit .u8 0 rfl), (in_lit .u8 0 rfl), (in_lit .u8 0 rfl), (in_lit .u8 0 rfl), (in_lit .u8 0 rfl), (in_lit .u8 0 rfl), (in_lit .u8 0 rfl), (in_lit .u8 0 rfl), (in_lit .u8 0 rfl), (in_lit .u8 0 rfl), (in_lit .u8 0 rfl), (in_lit .u8 0 rfl), (in_lit .u8 0 rfl), (in_lit .u8 0 rfl), (in_lit .u8 0 rfl), (in_lit .u8 0 rfl), (in_lit .u8 0 rfl), (in_lit .u8 0 rfl), (in_lit .u8 0 rfl), (in_lit .u8 0 rfl), (in_lit .u8 0 rfl), by simp⟩)) ([]) (.slice none 0 0) (slc_nil _ _ _) r2 hr2) rfl fun v1 a w hz5 hA => ?_
            obtain ⟨v2, v3, μ4, rfl, hw1, hi1⟩ := hz5
            have hI := hI.call hi1
            have hE1 : Els (RTx μ4) 4 ([r2] : List Tx) _ := (Els.cons (c := [[.int .u32 r2.Version], [v2], [v3], [.int .u32 r2.Time]].flatten) ⟨v2, v3, rfl, ⟨hw1.1, hw1.2.1, hw1.2.2.1, hw1.2.2.2⟩⟩ rfl Els.nil)
            refine o_bsl ([[.int .u32 r2.Version], [v2], [v3], [.int .u32 r2.Time]].flatten ++ ([])) te32 zr32 Tryd.underlying35 hI hA rfl rfl rfl rfl (by kernel_rfl) rfl fun g1 a w hA hI => ?_
            generalize hcs : ([[.int .u32 r2.Version], [v2], [v3], [.int .u32 r2.Time]].flatten ++ ([]) : List Value) = cs1 at hE1 hI
            clear hcs
            refine stp hA (r_bldS (cs := [[.int .u32 0], av .u8 32 (List.replicate 32 0), av .u8 32 (List.replicate 32 0), [.int .u32 0], [.int .u32 0], [.int .u32 0], [(.slice (some ⟨g1, 0, none⟩) 1 1)]].flatten.toArray) (pl := [(0, 68), (68, 1)]) zr37 Tryd.underlying37 ⟨rfl, sz28, rfl, sz35, trivial⟩ hA rfl ((fill_one (own_cell hI (j := 0) rfl) rfl (by kernel_rfl)).trans (by kernel_rfl))) rfl fun a hA => 
              o_new [[.int .u32 0], av .u8 32 (List.replicate 32 0), av .u8 32 (List.replicate 32 0), [.int .u32 0], [.int .u32 0], [.int .u32 0], [(.slice none 0 0)]] zr37 hI hA rfl fun g2 a w hA hI hg2 => 
              o_st (j := 0) [] [[.int .u32 0], av .u8 32 (List.replicate 32 0), av .u8 32 (List.replicate 32 0), [.int .u32 0], [.int .u32 0], [.int .u32 0], [(.slice none 0 0)]] [[.int .u32 0], av .u8 32 (List.replicate 32 0), av .u8 32 (List.replicate 32 0), [.int .u32 0], [.int .u32 0], [.int .u32 0], [(.slice (some ⟨g1, 0, none⟩) 1 1)]] [] sz37 rfl rfl (fl_cons (one_one rfl) (fl_cons (one_av _ _ _) (fl_cons (one_av _ _ _) (fl_cons (one_one rfl) (fl_cons (one_one rfl) (fl_cons (one_one rfl) (fl_cons (one_one (own_one hI (j := 1) rfl)) fl_nil))))))) hI rfl hA rfl rfl rfl rfl fun w hI => ?_
            refine o_nil <| hN14 _ _ ?_
            obtain ⟨⟨c5, c6⟩, hz6, Hk4⟩ := bB H
            refine w_cut (fun a w => ∃ (μ5 : Store) (vvc5 : Value) (ccc5 : List Value) (vvc6 : Value) (ccc6 : List Value), μ4.le μ5 ∧ Els (RTx μ5) 4 c5 ccc5 ∧ Els (RTx μ5) 4 c6 ccc6 ∧ Fr a 167 [(0, u0), (1, .int .i64 x1), (4, .bool false), (5, .bool r1), (6, vvs1), (7, vvc5), (8, .int .i64 s3), (9, .pointer (some ⟨g2, 0, none⟩)), (30, .bool (decide (s3 < (x0.length : Int))))] ∧ Iv w0 [] μ μ5 [row 32 4 vvc5 c5.length ccc5, row 32 4 vvc6 c6.length ccc6, cel g2 [[.int .u32 0], av .u8 32 (List.replicate 32 0), av .u8 32 (List.replicate 32 0), [.int .u32 0], [.int .u32 0], [.int .u32 0], [vvc6]] 37, row 37 69 vvs1 s1.length ccs1] w) ?_ ?_
            · have H := bI hz6
              refine w_seq fun _ hN15 => w_reg <| sta hA rfl rfl fun a hA => ?_
              refine o_nil <| hN15 _ _ <| w_block ?_
              obtain ⟨z2, hz7, Hk5⟩ := bind_some H
              obtain ⟨n2, hn2⟩ := loopO_some hz7
              refine w_loop (fun n a w => ∃ (s4 : List Tx) (s5 : Int) (s6 : List Tx) (μ6 : Store) (vvs4 : Value) (ccs4 : List Value) (vvs6 : Value) (ccs6 : List Value), loopN (sargassolaw24_RedoOrder.s1 x0 s3) n (s4, s5, s6) = some z2 ∧ μ4.le μ6 ∧ Els (RTx μ6) 4 s4 ccs4 ∧ InR .i64 s5 ∧ Els (RTx μ6) 4 s6 ccs6 ∧ Fr a 167 [(0, u0), (1, .int .i64 x1), (4, .bool false), (5, .bool r1), (6, vvs1), (7, vvs4), (8, .int .i64 s3), (9, .pointer (some ⟨g2, 0, none⟩)), (10, .int .i64 s5), (30, .bool (decide (s3 < (x0.length : Int))))] ∧ Iv w0 [] μ μ6 [cel g2 [[.int .u32 0], av .u8 32 (List.replicate 32 0), av .u8 32 (List.replicate 32 0), [.int .u32 0], [.int .u32 0], [.int .u32 0], [vvs6]] 37, row 32 4 vvs6 s6.length ccs6, row 32 4 vvs4 s4.length ccs4, row 37 69 vvs1 s1.length ccs1] w) n2 ⟨s2, 0, ([r2] : List Tx), μ4, vvs2, ccs2, (.slice (some ⟨g1, 0, none⟩) 1 1), cs1, hn2, (Store.le.refl _), (Els.mono ws2 (fun _ _ h => RTx.le hi1.le h)), (in_lit .i64 0 rfl), hE1, hA.sub ⟨rfl, rfl, rfl, rfl, rfl, rfl, rfl, rfl, rfl, rfl, trivial⟩, hI⟩ ?_
              clear hA hI
              rintro n a w ⟨s4, s5, s6, μ6, vvs4, ccs4, vvs6, ccs6, hn2, hle5, ws4, ws5, ws6, hA, hI⟩
              obtain ⟨m2, rfl, H⟩ := loopN_bind hn2
              clear hn2
              refine w_seq fun _ hN16 => w_seq fun _ hN17 => w_reg <| stm hA rfl rfl fun a hA => 
                stm hA rfl rfl fun a hA => 
                stm hA rfl rfl fun a hA => ?_
              obtain ⟨hb1, H⟩ := bG H
              obtain ⟨_, he1, _, hat1⟩ := Slc.elem1 (Slc.le hx0 (fun _ _ h => h) ((hle2.trans hi1.le).trans hle5)) (getD_some 0 hb1.1 hb1.2)
              obtain ⟨rfl, hw2⟩ := he1
              obtain ⟨_, hsl3⟩ := Slc.sv (Slc.le hx0 (fun _ _ h => h) ((hle2.trans hi1.le).trans hle5))
              refine stp hA (r_six1 Tryd.underlying55 sz3 hsl3 hA rfl rfl hb1.1 hb1.2) rfl fun a hA => 
                stp hA (r_ldm1 [] [] Tryd.underlying3 rfl hI.agr hat1 hA rfl rfl) rfl fun a hA => ?_
              obtain ⟨r3, hr3, H⟩ := bB H
              refine o_callp (u := .int .i64 r3) cf11 hA rfl hI (sargassoworld_Number.c μ6 _ hI.agr (x0.getD s3.toNat 0) hw2 4 (in_lit .i64 4 rfl) r3 hr3) rfl fun a w hz8 hI hA => 
                stp hA (r_lss hA rfl rfl) rfl fun a hA => ?_
              refine o_nil <| hN17 _ _ <| w_cond hA rfl (fun hc4 => ?_) (fun hc4 => ?_)
              · obtain ⟨hc4, H⟩ := dT H hc4
                refine w_skip <| hN16 _ _ <| w_seq fun _ hN18 => w_block <| w_seq fun _ hN19 => w_reg <| stm hA rfl rfl fun a hA => 
                  stp hA (r_mul hA rfl rfl) rfl fun a hA => 
                  stm hA rfl rfl fun a hA => 
                  stp hA (r_add hA rfl rfl) rfl fun a hA => 
                  stp hA (r_conv Tryd.underlying3 Tryd.underlying24 hA rfl) rfl fun a hA => 
                  stp hA (r_bldS (cs := [av .u8 32 (List.replicate 32 0), [.int .u32 0], [(.slice none 0 0)], [.int .u32 0]].flatten.toArray) (pl := [(0, 33), (33, 1), (34, 1)]) zr42 Tryd.underlying42 ⟨rfl, sz39, rfl, sz40, rfl, sz24, trivial⟩ hA rfl (by kernel_rfl)) rfl fun a hA => ?_
                have hE2 : Els (RIn μ6) 35 ([(⟨(⟨(List.replicate 32 0), 0⟩ : Point), [], 0⟩ : In)] : List In) _ := (Els.cons (c := [av .u8 32 (List.replicate 32 0), [.int .u32 0], [(.slice none 0 0)], [.int .u32 0]].flatten) ⟨(.slice none 0 0), rfl, ⟨(arr_zero _ _), (in_lit .u32 0 rfl), (slc_nil _ _ _), (in_lit .u32 0 rfl)⟩⟩ rfl Els.nil)
                refine o_bsl ([av .u8 32 (List.replicate 32 0), [.int .u32 0], [(.slice none 0 0)], [.int .u32 0]].flatten ++ ([])) te42 zr42 Tryd.underlying29 hI hA rfl rfl rfl rfl (by kernel_rfl) rfl fun g3 a w hA hI => ?_
                generalize hcs : ([av .u8 32 (List.replicate 32 0), [.int .u32 0], [(.slice none 0 0)], [.int .u32 0]].flatten ++ ([]) : List Value) = cs2 at hE2 hI
                clear hcs
                refine stp hA (r_bldS (cs := [[.int .u64 0], av .u8 32 (List.replicate 32 0)].flatten.toArray) (pl := [(0, 1), (1, 32)]) zr44 Tryd.underlying44 ⟨rfl, sz34, rfl, sz26, trivial⟩ hA rfl (by kernel_rfl)) rfl fun a hA => ?_
                have hE3 : Els (ROut μ6) 33 ([(⟨0, (List.replicate 32 0)⟩ : Out)] : List Out) _ := (Els.cons (c := [[.int .u64 0], av .u8 32 (List.replicate 32 0)].flatten) ⟨rfl, ⟨(in_lit .u64 0 rfl), (arr_zero _ _)⟩⟩ rfl Els.nil)
                refine o_bsl ([[.int .u64 0], av .u8 32 (List.replicate 32 0)].flatten ++ ([])) te44 zr44 Tryd.underlying30 hI hA rfl rfl rfl rfl (by kernel_rfl) rfl fun g4 a w hA hI => ?_
                generalize hcs : ([[.int .u64 0], av .u8 32 (List.replicate 32 0)].flatten ++ ([]) : List Value) = cs3 at hE3 hI
                clear hcs
                refine stp hA (r_bldS (cs := [[.int .u32 (IntKind.u32.wrap (IntKind.i64.wrap ((IntKind.i64.wrap (100 * s3)) + s5)))], [(.slice (some ⟨g3, 0, none⟩) 1 1)], [(.slice (some ⟨g4, 0, none⟩) 1 1)], [.int .u32 0]].flatten.toArray) (pl := [(0, 1), (1, 1), (2, 1), (3, 1)]) zr32 Tryd.underlying32 ⟨rfl, sz24, rfl, sz29, rfl, sz30, rfl, sz24, trivial⟩ hA rfl ((fill_one rfl rfl (by kernel_rfl)).trans ((fill_one (own_cell hI (j := 1) rfl) rfl (by kernel_rfl)).trans ((fill_one (own_cell hI (j := 0) rfl) rfl (by kernel_rfl)).trans (by kernel_rfl))))) rfl fun a hA => 
                  o_new [[.int .u32 0], [(.slice none 0 0)], [(.slice none 0 0)], [.int .u32 0]] zr32 hI hA rfl fun g5 a w hA hI hg5 => 
                  o_st (j := 0) [] [[.int .u32 0], [(.slice none 0 0)], [(.slice none 0 0)], [.int .u32 0]] [[.int .u32 (IntKind.u32.wrap (IntKind.i64.wrap ((IntKind.i64.wrap (100 * s3)) + s5)))], [(.slice (some ⟨g3, 0, none⟩) 1 1)], [(.slice (some ⟨g4, 0, none⟩) 1 1)], [.int .u32 0]] [] sz32 rfl rfl (fl_cons (one_one rfl) (fl_cons (one_one (own_one hI (j := 2) rfl)) (fl_cons (one_one (own_one hI (j := 1) rfl)) (fl_cons (one_one rfl) fl_nil)))) hI rfl hA rfl rfl rfl rfl fun w hI => ?_
                refine o_nil <| hN19 _ _ <| w_seq fun _ hN20 => w_reg <| stp hA (r_fd (k := 68) Tryd.underlying37 rfl sz35 hA rfl rfl) rfl fun a hA => 
                  stp hA (r_ld1 (j := 3) [[.int .u32 0], av .u8 32 (List.replicate 32 0), av .u8 32 (List.replicate 32 0), [.int .u32 0], [.int .u32 0], [.int .u32 0]] [] Tryd.underlying35 rfl hI rfl hA rfl rfl) rfl fun a hA => 
                  stp hA (r_ldA (j := 0) [] [[.int .u32 (IntKind.u32.wrap (IntKind.i64.wrap ((IntKind.i64.wrap (100 * s3)) + s5)))], [(.slice (some ⟨g3, 0, none⟩) 1 1)], [(.slice (some ⟨g4, 0, none⟩) 1 1)], [.int .u32 0]] [] Tryd.underlying32 rfl sz32 rfl hI rfl hA rfl rfl) rfl fun a hA => ?_
                obtain ⟨μ7, hle6, hsv1, hI⟩ := hI.freezeRow 2 rfl
                have hS1 : Slc (RIn μ7) 35 μ7 (.slice (some ⟨g3, 0, none⟩) 1 1) ([(⟨(⟨(List.replicate 32 0), 0⟩ : Point), [], 0⟩ : In)] : List In) := ⟨_, (Els.mono hE2 (fun _ _ h => RIn.le hle6 h)), hsv1⟩
                obtain ⟨μ8, hle7, hsv2, hI⟩ := hI.freezeRow 1 rfl
                have hS2 : Slc (ROut μ8) 33 μ8 (.slice (some ⟨g4, 0, none⟩) 1 1) ([(⟨0, (List.replicate 32 0)⟩ : Out)] : List Out) := ⟨_, hE3, hsv2⟩
                have hE4 : Els (RTx μ8) 4 ([(⟨IntKind.u32.wrap (IntKind.i64.wrap ((IntKind.i64.wrap (100 * s3)) + s5)), ([(⟨(⟨(List.replicate 32 0), 0⟩ : Point), [], 0⟩ : In)] : List In), ([(⟨0, (List.replicate 32 0)⟩ : Out)] : List Out), 0⟩ : Tx)] : List Tx) _ := (Els.cons (c := [[.int .u32 (IntKind.u32.wrap (IntKind.i64.wrap ((IntKind.i64.wrap (100 * s3)) + s5)))], [(.slice (some ⟨g3, 0, none⟩) 1 1)], [(.slice (some ⟨g4, 0, none⟩) 1 1)], [.int .u32 0]].flatten) ⟨(.slice (some ⟨g3, 0, none⟩) 1 1), (.slice (some ⟨g4, 0, none⟩) 1 1), rfl, ⟨(wrap_in _ _), (Slc.le hS1 (fun _ _ h => RIn.le hle7 h) hle7), hS2, (in_lit .u32 0 rfl)⟩⟩ rfl Els.nil)
                refine o_bsl ([[.int .u32 (IntKind.u32.wrap (IntKind.i64.wrap ((IntKind.i64.wrap (100 * s3)) + s5)))], [(.slice (some ⟨g3, 0, none⟩) 1 1)], [(.slice (some ⟨g4, 0, none⟩) 1 1)], [.int .u32 0]].flatten ++ ([])) te32 zr32 Tryd.underlying35 hI hA rfl rfl rfl rfl (by kernel_rfl) rfl fun g6 a w hA hI => ?_
                generalize hcs : ([[.int .u32 (IntKind.u32.wrap (IntKind.i64.wrap ((IntKind.i64.wrap (100 * s3)) + s5)))], [(.slice (some ⟨g3, 0, none⟩) 1 1)], [(.slice (some ⟨g4, 0, none⟩) 1 1)], [.int .u32 0]].flatten ++ ([]) : List Value) = cs4 at hE4 hI
                clear hcs
                obtain ⟨hb2, H⟩ := bG H
                have hE6 := (Els.mono ws6 (fun _ _ h => RTx.le (hle6.trans hle7) h)).app hE4
                refine o_appG (xs := (s6 : List Tx)) (ys := (([(⟨IntKind.u32.wrap (IntKind.i64.wrap ((IntKind.i64.wrap (100 * s3)) + s5)), ([(⟨(⟨(List.replicate 32 0), 0⟩ : Point), [], 0⟩ : In)] : List In), ([(⟨0, (List.replicate 32 0)⟩ : Out)] : List Out), 0⟩ : Tx)] : List Tx) : List Tx)) (M := 2199023255552) 3 te32 Tryd.underlying35 hI rfl hA rfl rfl (src_row hI (j := 0) rfl) hE4.len (hE4.ones RTx.ones) hb2 rfl fun v4 a w hA hI => 
                  stp hA (r_fd (k := 68) Tryd.underlying37 rfl sz35 hA rfl rfl) rfl fun a hA => ?_
                have hone := own_one hI (j := 3) rfl
                have hcel := own_cell hI (j := 3) rfl
                refine o_st (j := 2) [[.int .u32 0], av .u8 32 (List.replicate 32 0), av .u8 32 (List.replicate 32 0), [.int .u32 0], [.int .u32 0], [.int .u32 0]] [[vvs6]] [[v4]] [] sz35 rfl rfl (by intro c hc; simp at hc; subst hc; exact hone) hI rfl hA rfl rfl hcel rfl fun w hI => ?_
                refine o_nil <| hN20 _ _ <| w_reg <| stm hA rfl rfl fun a hA => 
                  stp hA (r_ldA (j := 1) [] [[.int .u32 (IntKind.u32.wrap (IntKind.i64.wrap ((IntKind.i64.wrap (100 * s3)) + s5)))], [(.slice (some ⟨g3, 0, none⟩) 1 1)], [(.slice (some ⟨g4, 0, none⟩) 1 1)], [.int .u32 0]] [] Tryd.underlying32 rfl sz32 rfl hI rfl hA rfl rfl) rfl fun a hA => ?_
                have hE7 : Els (RTx μ8) 4 ([(⟨IntKind.u32.wrap (IntKind.i64.wrap ((IntKind.i64.wrap (100 * s3)) + s5)), ([(⟨(⟨(List.replicate 32 0), 0⟩ : Point), [], 0⟩ : In)] : List In), ([(⟨0, (List.replicate 32 0)⟩ : Out)] : List Out), 0⟩ : Tx)] : List Tx) _ := (Els.cons (c := [[.int .u32 (IntKind.u32.wrap (IntKind.i64.wrap ((IntKind.i64.wrap (100 * s3)) + s5)))], [(.slice (some ⟨g3, 0, none⟩) 1 1)], [(.slice (some ⟨g4, 0, none⟩) 1 1)], [.int .u32 0]].flatten) ⟨(.slice (some ⟨g3, 0, none⟩) 1 1), (.slice (some ⟨g4, 0, none⟩) 1 1), rfl, ⟨(wrap_in _ _), (Slc.le hS1 (fun _ _ h => RIn.le hle7 h) hle7), hS2, (in_lit .u32 0 rfl)⟩⟩ rfl Els.nil)
                refine o_bsl ([[.int .u32 (IntKind.u32.wrap (IntKind.i64.wrap ((IntKind.i64.wrap (100 * s3)) + s5)))], [(.slice (some ⟨g3, 0, none⟩) 1 1)], [(.slice (some ⟨g4, 0, none⟩) 1 1)], [.int .u32 0]].flatten ++ ([])) te32 zr32 Tryd.underlying35 hI hA rfl rfl rfl rfl (by kernel_rfl) rfl fun g7 a w hA hI => ?_
                generalize hcs : ([[.int .u32 (IntKind.u32.wrap (IntKind.i64.wrap ((IntKind.i64.wrap (100 * s3)) + s5)))], [(.slice (some ⟨g3, 0, none⟩) 1 1)], [(.slice (some ⟨g4, 0, none⟩) 1 1)], [.int .u32 0]].flatten ++ ([]) : List Value) = cs7 at hE7 hI
                clear hcs
                obtain ⟨hb3, H⟩ := bG H
                have hE9 := (Els.mono ws4 (fun _ _ h => RTx.le (hle6.trans hle7) h)).app hE7
                refine o_appG (xs := (s4 : List Tx)) (ys := (([(⟨IntKind.u32.wrap (IntKind.i64.wrap ((IntKind.i64.wrap (100 * s3)) + s5)), ([(⟨(⟨(List.replicate 32 0), 0⟩ : Point), [], 0⟩ : In)] : List In), ([(⟨0, (List.replicate 32 0)⟩ : Out)] : List Out), 0⟩ : Tx)] : List Tx) : List Tx)) (M := 2199023255552) 5 te32 Tryd.underlying35 hI rfl hA rfl rfl (src_row hI (j := 0) rfl) hE7.len (hE7.ones RTx.ones) hb3 rfl fun v5 a w hA hI => 
                  sta hA rfl rfl fun a hA => ?_
                refine o_nil <| hN18 _ _ <| w_reg <| stm hA rfl rfl fun a hA => 
                  stp hA (r_add hA rfl rfl) rfl fun a hA => 
                  sta hA rfl rfl fun a hA => ?_
                refine o_nil <| ⟨m2, Nat.lt_succ_self _, s4 ++ ([(⟨IntKind.u32.wrap (IntKind.i64.wrap ((IntKind.i64.wrap (100 * s3)) + s5)), ([(⟨(⟨(List.replicate 32 0), 0⟩ : Point), [], 0⟩ : In)] : List In), ([(⟨0, (List.replicate 32 0)⟩ : Out)] : List Out), 0⟩ : Tx)] : List Tx), IntKind.i64.wrap (s5 + 1), s6 ++ ([(⟨IntKind.u32.wrap (IntKind.i64.wrap ((IntKind.i64.wrap (100 * s3)) + s5)), ([(⟨(⟨(List.replicate 32 0), 0⟩ : Point), [], 0⟩ : In)] : List In), ([(⟨0, (List.replicate 32 0)⟩ : Out)] : List Out), 0⟩ : Tx)] : List Tx), μ8, v5, ccs4 ++ cs7, v4, ccs6 ++ cs4, H, ((hle5.trans hle6).trans hle7), hE9, (wrap_in _ _), hE6, hA.sub ⟨rfl, rfl, rfl, rfl, rfl, rfl, rfl, rfl, rfl, rfl, trivial⟩, (hI.sl [3, 4, 5, 6] rfl)⟩
              · obtain ⟨hc4, H⟩ := dF H hc4
                refine w_exit rfl ?_
                have H : some (s4, s6) = some z2 := H
                obtain rfl := sI H
                have H := Hk5
                cases sJ H
                exact ⟨μ6, vvs4, ccs4, vvs6, ccs6, hle5, ws4, ws6, hA.sub ⟨rfl, rfl, rfl, rfl, rfl, rfl, rfl, rfl, rfl, trivial⟩, (hI.sl [2, 1, 0, 3] rfl)⟩
            · rintro a w ⟨μ5, vvc5, ccc5, vvc6, ccc6, hle4, wc5, wc6, hA, hI⟩
              have H := Hk4
              refine w_reg <| stm hA rfl rfl fun a hA => 
                stp hA (r_ldA (j := 2) [] [[.int .u32 0], av .u8 32 (List.replicate 32 0), av .u8 32 (List.replicate 32 0), [.int .u32 0], [.int .u32 0], [.int .u32 0], [vvc6]] [] Tryd.underlying37 rfl sz37 rfl hI rfl hA rfl rfl) rfl fun a hA => ?_
              obtain ⟨μ9, hle8, hsv5, hI⟩ := hI.freezeRow 1 rfl
              have hS3 : Slc (RTx μ9) 4 μ9 vvc6 c6 := ⟨_, (Els.mono wc6 (fun _ _ h => RTx.le hle8 h)), hsv5⟩
              have hE10 : Els (RBlock μ9) 69 ([(⟨(⟨0, (List.replicate 32 0), (List.replicate 32 0), 0, 0, 0⟩ : Head), c6⟩ : Block)] : List Block) _ := (Els.cons (c := [[.int .u32 0], av .u8 32 (List.replicate 32 0), av .u8 32 (List.replicate 32 0), [.int .u32 0], [.int .u32 0], [.int .u32 0], [vvc6]].flatten) ⟨vvc6, rfl, ⟨(in_lit .u32 0 rfl), (arr_zero _ _), (arr_zero _ _), (in_lit .u32 0 rfl), (in_lit .u32 0 rfl), (in_lit .u32 0 rfl), hS3⟩⟩ rfl Els.nil)
              refine o_bsl ([[.int .u32 0], av .u8 32 (List.replicate 32 0), av .u8 32 (List.replicate 32 0), [.int .u32 0], [.int .u32 0], [.int .u32 0], [vvc6]].flatten ++ ([])) te37 zr37 Tryd.underlying94 hI hA rfl rfl rfl rfl (by kernel_rfl) rfl fun g8 a w hA hI => ?_
              generalize hcs : ([[.int .u32 0], av .u8 32 (List.replicate 32 0), av .u8 32 (List.replicate 32 0), [.int .u32 0], [.int .u32 0], [.int .u32 0], [vvc6]].flatten ++ ([]) : List Value) = cs10 at hE10 hI
              clear hcs
              obtain ⟨hb4, H⟩ := bG H
              have hE12 := (Els.mono ws1 (fun _ _ h => RBlock.le ((hi1.le.trans hle4).trans hle8) h)).app hE10
              refine o_appG (xs := (s1 : List Block)) (ys := (([(⟨(⟨0, (List.replicate 32 0), (List.replicate 32 0), 0, 0, 0⟩ : Head), c6⟩ : Block)] : List Block) : List Block)) (M := 1353245080339) 3 te37 Tryd.underlying94 hI rfl hA rfl rfl (src_row hI (j := 0) rfl) hE10.len (hE10.ones RBlock.ones) hb4 rfl fun v6 a w hA hI => 
                sta hA rfl rfl fun a hA => ?_
              refine o_nil ?_
              cases sJ H
              exact ⟨μ9, v6, ccs1 ++ cs10, vvc5, ccc5, ((hi1.le.trans hle4).trans hle8), hE12, (Els.mono wc5 (fun _ _ h => RTx.le hle8 h)), hA.sub ⟨rfl, rfl, rfl, rfl, rfl, rfl, rfl, rfl, trivial⟩, (hI.sl [3, 1] rfl)⟩
          · rintro a w ⟨μ3, vvc3, ccc3, vvc4, ccc4, hle3, wc3, wc4, hA, hI⟩
            have H := Hk3
            refine w_reg <| stm hA rfl rfl fun a hA => 
              stp hA (r_add hA rfl rfl) rfl fun a hA => 
              sta hA rfl rfl fun a hA => ?_
            refine o_nil <| ⟨m1, Nat.lt_succ_self _, c3, c4, IntKind.i64.wrap (s3 + 1), μ3, vvc3, ccc3, vvc4, ccc4, H, (hle2.trans hle3), wc3, wc4, (wrap_in _ _), hA.sub ⟨rfl, rfl, rfl, rfl, rfl, rfl, rfl, trivial⟩, (hI.sl [1, 0] rfl)⟩
        · obtain ⟨hc3, H⟩ := dF H hc3
          refine w_exit rfl ?_
          have H : some (s1, s2) = some z1 := H
          obtain rfl := sI H
          have H := Hk2
          cases sJ H
          exact ⟨μ2, vvs1, ccs1, vvs2, ccs2, hle2, ws1, ws2, hA.sub ⟨rfl, rfl, rfl, rfl, rfl, trivial⟩, (hI.sl [1, 0] rfl)⟩
      · rintro a w ⟨μ1, vvc1, ccc1, vvc2, ccc2, hle1, wc1, wc2, hA, hI⟩
        have H := Hk1
        refine w_seq fun _ hN21 => w_reg <| stp hA (r_bldS (cs := [av .u8 32 (List.replicate 32 0), [.int .u32 0], [(.slice none 0 0)], [.int .u32 0]].flatten.toArray) (pl := [(0, 33), (33, 1), (34, 1)]) zr42 Tryd.underlying42 ⟨rfl, sz39, rfl, sz40, rfl, sz24, trivial⟩ hA rfl (by kernel_rfl)) rfl fun a hA => ?_
        have hE13 : Els (RIn μ1) 35 ([(⟨(⟨(List.replicate 32 0), 0⟩ : Point), [], 0⟩ : In)] : List In) _ := (Els.cons (c := [av .u8 32 (List.replicate 32 0), [.int .u32 0], [(.slice none 0 0)], [.int .u32 0]].flatten) ⟨(.slice none 0 0), rfl, ⟨(arr_zero _ _), (in_lit .u32 0 rfl), (slc_nil _ _ _), (in_lit .u32 0 rfl)⟩⟩ rfl Els.nil)
        refine o_bsl ([av .u8 32 (List.replicate 32 0), [.int .u32 0], [(.slice none 0 0)], [.int .u32 0]].flatten ++ ([])) te42 zr42 Tryd.underlying29 hI hA rfl rfl rfl rfl (by kernel_rfl) rfl fun g9 a w hA hI => ?_
        generalize hcs : ([av .u8 32 (List.replicate 32 0), [.int .u32 0], [(.slice none 0 0)], [.int .u32 0]].flatten ++ ([]) : List Value) = cs13 at hE13 hI
        clear hcs
        refine stp hA (r_bldS (cs := [[.int .u64 0], av .u8 32 (List.replicate 32 0)].flatten.toArray) (pl := [(0, 1), (1, 32)]) zr44 Tryd.underlying44 ⟨rfl, sz34, rfl, sz26, trivial⟩ hA rfl (by kernel_rfl)) rfl fun a hA => ?_
        have hE14 : Els (ROut μ1) 33 ([(⟨0, (List.replicate 32 0)⟩ : Out)] : List Out) _ := (Els.cons (c := [[.int .u64 0], av .u8 32 (List.replicate 32 0)].flatten) ⟨rfl, ⟨(in_lit .u64 0 rfl), (arr_zero _ _)⟩⟩ rfl Els.nil)
        refine o_bsl ([[.int .u64 0], av .u8 32 (List.replicate 32 0)].flatten ++ ([])) te44 zr44 Tryd.underlying30 hI hA rfl rfl rfl rfl (by kernel_rfl) rfl fun g10 a w hA hI => ?_
        generalize hcs : ([[.int .u64 0], av .u8 32 (List.replicate 32 0)].flatten ++ ([]) : List Value) = cs14 at hE14 hI
        clear hcs
        refine stp hA (r_bldS (cs := [[.int .u32 0], [(.slice (some ⟨g9, 0, none⟩) 1 1)], [(.slice (some ⟨g10, 0, none⟩) 1 1)], [.int .u32 0]].flatten.toArray) (pl := [(0, 1), (1, 1), (2, 1), (3, 1)]) zr32 Tryd.underlying32 ⟨rfl, sz24, rfl, sz29, rfl, sz30, rfl, sz24, trivial⟩ hA rfl ((fill_one (own_cell hI (j := 1) rfl) rfl (by kernel_rfl)).trans ((fill_one (own_cell hI (j := 0) rfl) rfl (by kernel_rfl)).trans (by kernel_rfl)))) rfl fun a hA => ?_
        obtain ⟨r4, hr4, H⟩ := bB H
        refine o_callp (u := .int .i64 r4) cf40 hA rfl hI ((by obtain ⟨μ10, hle9, hsv7, hI⟩ := hI.freezeRow 1 rfl; have hS4 : Slc (RIn μ10) 35 μ10 (.slice (some ⟨g9, 0, none⟩) 1 1) ([(⟨(⟨(List.replicate 32 0), 0⟩ : Point), [], 0⟩ : In)] : List In) := ⟨_, (Els.mono hE13 (fun _ _ h => RIn.le hle9 h)), hsv7⟩; obtain ⟨μ11, hle10, hsv8, hI⟩ := hI.freezeRow 0 rfl; have hS5 : Slc (ROut μ11) 33 μ11 (.slice (some ⟨g10, 0, none⟩) 1 1) ([(⟨0, (List.replicate 32 0)⟩ : Out)] : List Out) := ⟨_, hE14, hsv8⟩; exact low_plain (hle9.trans hle10) (sargassoref1_Size.c μ11 _ hI.agr (⟨0, ([(⟨(⟨(List.replicate 32 0), 0⟩ : Point), [], 0⟩ : In)] : List In), ([(⟨0, (List.replicate 32 0)⟩ : Out)] : List Out), 0⟩ : Tx) (.slice (some ⟨g9, 0, none⟩) 1 1) (.slice (some ⟨g10, 0, none⟩) 1 1) ⟨(in_lit .u32 0 rfl), (Slc.le hS4 (fun _ _ h => RIn.le hle10 h) hle10), hS5, (in_lit .u32 0 rfl)⟩ r4 hr4))) rfl fun a w hz9 hI hA => 
          sta hA rfl rfl fun a hA => ?_
        refine o_nil <| hN21 _ _ <| w_seq fun _ hN22 => w_reg <| stm hA rfl rfl fun a hA => ?_
        obtain ⟨r5, hr5, H⟩ := bB H
        refine o_callp (u := .int .i64 r5) cf11 hA rfl hI (sargassoworld_Number.c μ1 _ hI.agr x1 hx1 40 (in_lit .i64 40 rfl) r5 hr5) rfl fun a w hz10 hI hA => 
          sta hA rfl rfl fun a hA => ?_
        refine o_nil <| hN22 _ _ <| w_seq fun _ hN23 => w_reg <| stm hA rfl rfl fun a hA => 
          stm hA rfl rfl fun a hA => 
          stp hA (r_mul hA rfl rfl) rfl fun a hA => 
          stp hA (r_add hA rfl rfl) rfl fun a hA => ?_
        obtain ⟨r6, hr6, H⟩ := bB H
        refine o_call _ cf41 hA rfl (redo_New.c μ1 _ hI.agr (IntKind.i64.wrap ((IntKind.i64.wrap (r4 * r5)) + 1)) (wrap_in _ _) e7 (ErV.le (fun _ _ h => h) hle1 he7) r6 hr6) rfl fun v7 a w hz11 hA => ?_
        rcases hz11 with ⟨ho1, hz12⟩ | ⟨p1, ho1, hz12⟩
        · skip
          have H := bON H ho1
          obtain ⟨v8, μ12, rfl, hS6, hi2⟩ := hz12
          have hI := hI.call hi2
          refine stm hA rfl rfl fun a hA => 
            stp hA (r_extr (vs := [.pointer none, v8]) hA rfl rfl) rfl fun a hA => 
            stp hA (r_extr (vs := [.pointer none, v8]) hA rfl rfl) rfl fun a hA => 
            sta hA rfl rfl fun a hA => 
            sta hA rfl rfl fun a hA => ?_
          refine o_nil <| hN23 _ _ <| w_seq fun _ hN24 => w_reg ?_
          obtain ⟨r7, hr7, H⟩ := bB H
          refine o_call _ cf28 hA rfl (notes_New.c μ12 _ hI.agr 100 (in_lit .i64 100 rfl) e7 (ErV.le (fun _ _ h => h) (hle1.trans hi2.le) he7) r7 hr7) rfl fun v9 a w hz13 hA => ?_
          rcases hz13 with ⟨ho2, hz14⟩ | ⟨p2, ho2, hz14⟩
          · skip
            have H := bON H ho2
            obtain ⟨v10, μ13, rfl, hS7, hi3⟩ := hz14
            have hI := hI.call hi3
            refine stm hA rfl rfl fun a hA => 
              stp hA (r_extr (vs := [.pointer none, v10]) hA rfl rfl) rfl fun a hA => 
              stp hA (r_extr (vs := [.pointer none, v10]) hA rfl rfl) rfl fun a hA => 
              sta hA rfl rfl fun a hA => 
              sta hA rfl rfl fun a hA => ?_
            refine o_nil <| hN24 _ _ <| w_seq fun _ hN25 => ?_
            obtain ⟨c7, hz15, Hk6⟩ := bB H
            refine w_cut (fun a w => Fr a 167 [(1, .int .i64 r5), (4, .bool false), (5, .bool r1), (6, vvc1), (7, vvc2), (12, .int .i64 r4), (13, .pointer none), (15, .pointer none), (104, .bool c7)] ∧ Iv w0 [] μ μ13 [row 44 33 (.slice (some ⟨g10, 0, none⟩) 1 1) ([(⟨0, (List.replicate 32 0)⟩ : Out)] : List Out).length cs14, row 42 35 (.slice (some ⟨g9, 0, none⟩) 1 1) ([(⟨(⟨(List.replicate 32 0), 0⟩ : Point), [], 0⟩ : In)] : List In).length cs13, row 37 69 vvc1 c1.length ccc1, row 32 4 vvc2 c2.length ccc2] w) ?_ ?_
            · have H := bI hz15
              refine w_reg <| stm hA rfl rfl fun a hA => 
                stp hA (r_nilnil_eql Tryd.underlying96 hA rfl rfl) rfl fun a hA => 
                stm hA rfl rfl fun a hA => 
                o_no hA rfl rfl (by simp [vb]) rfl fun a hA => 
                o_no hA rfl rfl (by simp [vb]) rfl fun a hA => 
                stp hA (r_pick_t hA rfl rfl rfl) rfl fun a hA => 
                stm hA rfl rfl fun a hA => 
                o_no hA rfl rfl (by simp [vb]) rfl fun a hA => 
                o_no hA rfl rfl (by simp [vb]) rfl fun a hA => 
                stp hA (r_pick_t hA rfl rfl rfl) rfl fun a hA => 
                stm hA rfl rfl fun a hA => 
                o_no hA rfl rfl (by simp [vb]) rfl fun a hA => 
                o_no hA rfl rfl (by simp [vb]) rfl fun a hA => 
                stp hA (r_pick_t hA rfl rfl rfl) rfl fun a hA => ?_
              refine o_nil ?_
              cases sJ H
              exact ⟨hA.sub ⟨rfl, rfl, rfl, rfl, rfl, rfl, rfl, rfl, rfl, trivial⟩, hI⟩
            · rintro a w ⟨hA, hI⟩
              have H := Hk6
              refine w_cond hA rfl (fun hc5 => ?_) (fun hc5 => ?_)
              · have H := bT H hc5
                refine w_seq fun _ hN26 => w_reg <| sta hA rfl rfl fun a hA => ?_
                refine o_nil <| hN26 _ _ <| w_ret ?_
                obtain rfl := sJ H
                exact ret1 hA Tryd.results8 rfl ⟨_, rfl, rfl, trivial, hI.forget0⟩
              · have hc5 := ft hc5; have H := bF H hc5
                exact (bN H).elim
          · skip
            have H := bOS H ho2
            obtain ⟨g11, vp1, cp1, gm1, v13, μ15, rfl, hp1, hp2, hp3, hp4, hS10, hi4⟩ := hz14
            have hI := hI.call hi4
            refine stm hA rfl rfl fun a hA => 
              stp hA (r_extr (vs := [.pointer (some ⟨g11, 0, none⟩), v13]) hA rfl rfl) rfl fun a hA => 
              stp hA (r_extr (vs := [.pointer (some ⟨g11, 0, none⟩), v13]) hA rfl rfl) rfl fun a hA => 
              sta hA rfl rfl fun a hA => 
              sta hA rfl rfl fun a hA => ?_
            refine o_nil <| hN24 _ _ <| w_seq fun _ hN33 => ?_
            obtain ⟨c8, hz18, Hk9⟩ := bB H
            refine w_cut (fun a w => Fr a 167 [(1, .int .i64 r5), (4, .bool false), (5, .bool r1), (6, vvc1), (7, vvc2), (12, .int .i64 r4), (13, .pointer none), (15, .pointer (some ⟨g11, 0, none⟩)), (104, .bool c8)] ∧ Iv w0 [] μ μ15 [cel g11 [[.int .i64 p2.most], [.int .i64 p2.op], [vp1], [.map (some gm1)]] 133, row 79 34 vp1 p2.l.length cp1, mpI gm1 (ent kv131 vv131 p2.lost), row 44 33 (.slice (some ⟨g10, 0, none⟩) 1 1) ([(⟨0, (List.replicate 32 0)⟩ : Out)] : List Out).length cs14, row 42 35 (.slice (some ⟨g9, 0, none⟩) 1 1) ([(⟨(⟨(List.replicate 32 0), 0⟩ : Point), [], 0⟩ : In)] : List In).length cs13, row 37 69 vvc1 c1.length ccc1, row 32 4 vvc2 c2.length ccc2] w) ?_ ?_
            · have H := bI hz18
              refine w_reg <| stm hA rfl rfl fun a hA => 
                stp hA (r_nilnil_eql Tryd.underlying96 hA rfl rfl) rfl fun a hA => 
                stm hA rfl rfl fun a hA => 
                o_no hA rfl rfl (by simp [vb]) rfl fun a hA => 
                o_no hA rfl rfl (by simp [vb]) rfl fun a hA => 
                stp hA (r_pick_t hA rfl rfl rfl) rfl fun a hA => 
                stm hA rfl rfl fun a hA => 
                o_no hA rfl rfl (by simp [vb]) rfl fun a hA => 
                o_no hA rfl rfl (by simp [vb]) rfl fun a hA => 
                stp hA (r_pick_t hA rfl rfl rfl) rfl fun a hA => 
                stm hA rfl rfl fun a hA => 
                o_no hA rfl rfl (by simp [vb]) rfl fun a hA => 
                o_no hA rfl rfl (by simp [vb]) rfl fun a hA => 
                stp hA (r_pick_t hA rfl rfl rfl) rfl fun a hA => ?_
              refine o_nil ?_
              cases sJ H
              exact ⟨hA.sub ⟨rfl, rfl, rfl, rfl, rfl, rfl, rfl, rfl, rfl, trivial⟩, hI⟩
            · rintro a w ⟨hA, hI⟩
              have H := Hk9
              refine w_cond hA rfl (fun hc8 => ?_) (fun hc8 => ?_)
              · have H := bT H hc8
                refine w_seq fun _ hN34 => w_reg <| sta hA rfl rfl fun a hA => ?_
                refine o_nil <| hN34 _ _ <| w_ret ?_
                obtain rfl := sJ H
                exact ret1 hA Tryd.results8 rfl ⟨_, rfl, rfl, trivial, hI.forget0⟩
              · have hc8 := ft hc8; have H := bF H hc8
                exact (bN H).elim
        · skip
          have H := bOS H ho1
          obtain ⟨g12, vp2, v16, μ17, rfl, hp5, hp6, hp7, hS13, hi5⟩ := hz12
          have hI := hI.call hi5
          refine stm hA rfl rfl fun a hA => 
            stp hA (r_extr (vs := [.pointer (some ⟨g12, 0, none⟩), v16]) hA rfl rfl) rfl fun a hA => 
            stp hA (r_extr (vs := [.pointer (some ⟨g12, 0, none⟩), v16]) hA rfl rfl) rfl fun a hA => 
            sta hA rfl rfl fun a hA => 
            sta hA rfl rfl fun a hA => ?_
          refine o_nil <| hN23 _ _ <| w_seq fun _ hN41 => w_reg ?_
          obtain ⟨r8, hr10, H⟩ := bB H
          refine o_call _ cf28 hA rfl (notes_New.c μ17 _ hI.agr 100 (in_lit .i64 100 rfl) e7 (ErV.le (fun _ _ h => h) (hle1.trans hi5.le) he7) r8 hr10) rfl fun v17 a w hz21 hA => ?_
          rcases hz21 with ⟨ho3, hz22⟩ | ⟨p3, ho3, hz22⟩
          · skip
            have H := bON H ho3
            obtain ⟨v18, μ18, rfl, hS14, hi6⟩ := hz22
            have hI := hI.call hi6
            refine stm hA rfl rfl fun a hA => 
              stp hA (r_extr (vs := [.pointer none, v18]) hA rfl rfl) rfl fun a hA => 
              stp hA (r_extr (vs := [.pointer none, v18]) hA rfl rfl) rfl fun a hA => 
              sta hA rfl rfl fun a hA => 
              sta hA rfl rfl fun a hA => ?_
            refine o_nil <| hN41 _ _ <| w_seq fun _ hN42 => ?_
            obtain ⟨c9, hz23, Hk12⟩ := bB H
            refine w_cut (fun a w => Fr a 167 [(1, .int .i64 r5), (4, .bool false), (5, .bool r1), (6, vvc1), (7, vvc2), (12, .int .i64 r4), (13, .pointer (some ⟨g12, 0, none⟩)), (15, .pointer none), (104, .bool c9)] ∧ Iv w0 [] μ μ18 [cel g12 [[.int .i64 p1.most], [.int .i64 p1.bytes], [vp2]] 141, row 44 33 (.slice (some ⟨g10, 0, none⟩) 1 1) ([(⟨0, (List.replicate 32 0)⟩ : Out)] : List Out).length cs14, row 42 35 (.slice (some ⟨g9, 0, none⟩) 1 1) ([(⟨(⟨(List.replicate 32 0), 0⟩ : Point), [], 0⟩ : In)] : List In).length cs13, row 37 69 vvc1 c1.length ccc1, row 32 4 vvc2 c2.length ccc2] w) ?_ ?_
            · have H := bI hz23
              refine w_reg <| stm hA rfl rfl fun a hA => 
                stp hA (r_ptrnil_eql Tryd.underlying96 hA rfl rfl) rfl fun a hA => 
                stm hA rfl rfl fun a hA => 
                o_yes hA rfl rfl rfl <| 
                stm hA rfl rfl fun a hA => 
                o_yes hA rfl rfl rfl <| 
                stp hA (r_nilnil_eql Tryd.underlying71 hA rfl rfl) rfl fun a hA => 
                stp hA (r_pick_f hA rfl rfl rfl) rfl fun a hA => 
                stm hA rfl rfl fun a hA => 
                o_no hA rfl rfl (by simp [vb]) rfl fun a hA => 
                o_no hA rfl rfl (by simp [vb]) rfl fun a hA => 
                stp hA (r_pick_t hA rfl rfl rfl) rfl fun a hA => 
                stm hA rfl rfl fun a hA => 
                o_no hA rfl rfl (by simp [vb]) rfl fun a hA => 
                o_no hA rfl rfl (by simp [vb]) rfl fun a hA => 
                stp hA (r_pick_t hA rfl rfl rfl) rfl fun a hA => ?_
              refine o_nil ?_
              cases sJ H
              exact ⟨hA.sub ⟨rfl, rfl, rfl, rfl, rfl, rfl, rfl, rfl, rfl, trivial⟩, hI⟩
            · rintro a w ⟨hA, hI⟩
              have H := Hk12
              refine w_cond hA rfl (fun hc11 => ?_) (fun hc11 => ?_)
              · have H := bT H hc11
                refine w_seq fun _ hN43 => w_reg <| sta hA rfl rfl fun a hA => ?_
                refine o_nil <| hN43 _ _ <| w_ret ?_
                obtain rfl := sJ H
                exact ret1 hA Tryd.results8 rfl ⟨_, rfl, rfl, trivial, hI.forget0⟩
              · have hc11 := ft hc11; have H := bF H hc11
                refine w_skip <| hN42 _ _ ?_
                obtain ⟨⟨⟩, hz24, Hk13⟩ := bB H
                refine w_cut (fun a w => Fr a 167 [(1, .int .i64 r5), (4, .bool false), (5, .bool r1), (6, vvc1), (7, vvc2), (12, .int .i64 r4), (13, .pointer (some ⟨g12, 0, none⟩)), (15, .pointer none)] ∧ Iv w0 [] μ μ18 [cel g12 [[.int .i64 p1.most], [.int .i64 p1.bytes], [vp2]] 141, row 44 33 (.slice (some ⟨g10, 0, none⟩) 1 1) ([(⟨0, (List.replicate 32 0)⟩ : Out)] : List Out).length cs14, row 42 35 (.slice (some ⟨g9, 0, none⟩) 1 1) ([(⟨(⟨(List.replicate 32 0), 0⟩ : Point), [], 0⟩ : In)] : List In).length cs13, row 37 69 vvc1 c1.length ccc1, row 32 4 vvc2 c2.length ccc2] w) ?_ ?_
                · have H := bI hz24
                  refine w_seq fun _ hN44 => w_reg <| stm hA rfl rfl fun a hA => ?_
                  have hlen5 := Iv.row_in hI (j := 3) rfl
                  refine stp hA (r_rlen (xs := 0) Tryd.underlying94 hI (j := 3) rfl hA rfl) rfl fun a hA => 
                    stp hA (r_sub hA rfl rfl) rfl fun a hA => 
                    sta hA rfl rfl fun a hA => ?_
                  refine o_nil <| hN44 _ _ <| w_block ?_
                  obtain ⟨z5, hz25, Hk14⟩ := bind_some H
                  obtain ⟨n5, hn5⟩ := loopO_some hz25
                  refine w_loop (fun n a w => loopN (sargassolaw24_RedoOrder.s2 c1) n () = some z5 ∧ Fr a 167 [(1, .int .i64 r5), (4, .bool false), (5, .bool r1), (6, vvc1), (7, vvc2), (12, .int .i64 r4), (13, .pointer (some ⟨g12, 0, none⟩)), (15, .pointer none), (17, .int .i64 (IntKind.i64.wrap ((c1.length : Int) - 1)))] ∧ Iv w0 [] μ μ18 [cel g12 [[.int .i64 p1.most], [.int .i64 p1.bytes], [vp2]] 141, row 44 33 (.slice (some ⟨g10, 0, none⟩) 1 1) ([(⟨0, (List.replicate 32 0)⟩ : Out)] : List Out).length cs14, row 42 35 (.slice (some ⟨g9, 0, none⟩) 1 1) ([(⟨(⟨(List.replicate 32 0), 0⟩ : Point), [], 0⟩ : In)] : List In).length cs13, row 37 69 vvc1 c1.length ccc1, row 32 4 vvc2 c2.length ccc2] w) n5 ⟨hn5, hA.sub ⟨rfl, rfl, rfl, rfl, rfl, rfl, rfl, rfl, rfl, trivial⟩, hI⟩ ?_
                  clear hA hI
                  rintro n a w ⟨hn5, hA, hI⟩
                  obtain ⟨m5, rfl, H⟩ := loopN_bind hn5
                  clear hn5
                  refine w_seq fun _ hN45 => w_seq fun _ hN46 => w_reg <| stm hA rfl rfl fun a hA => 
                    stp hA (r_geq hA rfl rfl) rfl fun a hA => ?_
                  refine o_nil <| hN46 _ _ <| w_cond hA rfl (fun hc12 => ?_) (fun hc12 => ?_)
                  · obtain ⟨hc12, H⟩ := dT H hc12
                    exact (bN H).elim
                  · obtain ⟨hc12, H⟩ := dF H hc12
                    refine w_exit rfl ?_
                    have H : some () = some z5 := H
                    obtain rfl := sI H
                    have H := Hk14
                    cases sJ H
                    exact ⟨hA.sub ⟨rfl, rfl, rfl, rfl, rfl, rfl, rfl, rfl, trivial⟩, hI⟩
                · rintro a w ⟨hA, hI⟩
                  have H := Hk13
                  refine w_seq fun _ hN48 => w_reg <| stm hA rfl rfl fun a hA => ?_
                  have hlen6 := Iv.row_in hI (j := 4) rfl
                  refine stp hA (r_rlen (xs := 0) Tryd.underlying35 hI (j := 4) rfl hA rfl) rfl fun a hA => 
                    stm hA rfl rfl fun a hA => 
                    stp hA (r_min hA rfl rfl) rfl fun a hA => 
                    sta hA rfl rfl fun a hA => ?_
                  refine o_nil <| hN48 _ _ <| w_seq fun _ hN49 => ?_
                  obtain ⟨⟨c10, c11⟩, hz26, Hk15⟩ := bB H
                  refine w_cut (fun a w => ∃ (μ19 : Store) (vvc10 : Value), μ18.le μ19 ∧ Slc (RTx μ19) 4 μ19 vvc10 c10 ∧ Fr a 167 [(4, .bool false), (5, .bool r1), (6, vvc1), (7, vvc10), (13, .pointer (some ⟨g12, 0, none⟩)), (147, .bool c11)] ∧ Iv w0 [] μ μ19 [cel g12 [[.int .i64 p1.most], [.int .i64 p1.bytes], [vp2]] 141, row 44 33 (.slice (some ⟨g10, 0, none⟩) 1 1) ([(⟨0, (List.replicate 32 0)⟩ : Out)] : List Out).length cs14, row 42 35 (.slice (some ⟨g9, 0, none⟩) 1 1) ([(⟨(⟨(List.replicate 32 0), 0⟩ : Point), [], 0⟩ : In)] : List In).length cs13, row 37 69 vvc1 c1.length ccc1] w) ?_ ?_
                  · have H := bI hz26
                    obtain ⟨μ20, hle14, hsv11, hI⟩ := hI.freezeRow 4 rfl
                    have hS15 : Slc (RTx μ20) 4 μ20 vvc2 c2 := ⟨_, (Els.mono wc2 (fun _ _ h => RTx.le ((hi5.le.trans hi6.le).trans hle14) h)), hsv11⟩
                    refine w_any [] mo hI fun w hI => ?_
                    refine gE 0 hA rfl (.inr hI) (fun _ => r_mv hA rfl) fun a hA => ?_
                    refine gE 2 hA rfl (.inr hI) (fun _ => r_mv hA rfl) fun a hA => ?_
                    refine gE 3 hA rfl (.inr hI) (fun _ => r_mv hA rfl) fun a hA => ?_
                    obtain ⟨hb10, H⟩ := bG H
                    obtain ⟨v20, hS16, hr11⟩ := r_sl (P := Tryd.prog) (t := 35) (x := .tmp 125) (l := none) (h := (some (.tmp 126))) (i := 0) (j := iMin (c2.length : Int) r5) Tryd.underlying35 sz32 hS15 hA rfl rfl rfl (by have hq := hb10; omega) (by have hq := hb10; omega) (by have hq := hb10; omega)
                    refine gE 4 hA rfl (.inr hI) (fun _ => hr11 _ _ _ _ _ _) fun a hA => ?_
                    refine gF 1 rfl ?_
                    obtain ⟨r9, hr12, H⟩ := bB H
                    refine o_call _ cf44 hA rfl (redo_Redo_All.c μ20 _ hI.agr p1 vp2 g12 hp5 hp6 (Slc.le hp7 (fun _ _ h => RTx.le (hi6.le.trans hle14) h) (hi6.le.trans hle14)) (hI.handN 1) r9 hr12) rfl fun v21 a w hz27 hA => ?_
                    obtain ⟨_, cs15, μ21, rfl, hE15, hi7⟩ := hz27
                    have hI := hI.backN 1 hi7
                    have hI : Iv w0 [] μ μ21 [row 32 4 v21 r9.length cs15, cel g12 [[.int .i64 p1.most], [.int .i64 p1.bytes], [vp2]] 141, row 44 33 (.slice (some ⟨g10, 0, none⟩) 1 1) ([(⟨0, (List.replicate 32 0)⟩ : Out)] : List Out).length cs14, row 42 35 (.slice (some ⟨g9, 0, none⟩) 1 1) ([(⟨(⟨(List.replicate 32 0), 0⟩ : Point), [], 0⟩ : In)] : List In).length cs13, row 37 69 vvc1 c1.length ccc1] w := hI
                    refine o_nil <| ⟨(.inr ((hI.sl [1, 2, 3, 4] rfl).less (((hle1.trans hi5.le).trans hi6.le).trans hle14) hi7.le)), ?_⟩
                    refine gF 5 rfl ?_
                    obtain ⟨r10, hr13, H⟩ := bB H
                    refine o_callp (u := .bool r10) cf43 hA rfl hI ((by obtain ⟨μ22, hle15, hsv12, hI⟩ := hI.freezeRow 0 rfl; have hS17 : Slc (RTx μ22) 4 μ22 v21 r9 := ⟨_, (Els.mono hE15 (fun _ _ h => RTx.le hle15 h)), hsv12⟩; exact low_plain hle15 (sargassoref_SameTxs.c μ22 _ hI.agr r9 v21 hS17 ((c2.take (iMin (c2.length : Int) r5).toNat).drop (0 : Int).toNat) v20 (Slc.le hS16 (fun _ _ h => RTx.le (hi7.le.trans hle15) h) (hi7.le.trans hle15)) r10 hr13))) rfl fun a w hz28 hI hA => ?_
                    refine o_nil <| ⟨(.inr ((hI.sl [1, 2, 3, 4] rfl).less (((hle1.trans hi5.le).trans hi6.le).trans hle14) hi7.le)), ?_⟩
                    refine gE 6 hA rfl (.inr ((hI.sl [1, 2, 3, 4] rfl).less (((hle1.trans hi5.le).trans hi6.le).trans hle14) hi7.le)) (fun _ => r_not hA rfl) fun a hA => ?_
                    refine gE 7 hA rfl (.inr ((hI.sl [1, 2, 3, 4] rfl).less (((hle1.trans hi5.le).trans hi6.le).trans hle14) hi7.le)) (fun _ => r_mv hA rfl) fun a hA => ?_
                    rcases Bool.eq_false_or_eq_true (!r10) with hc14 | hc14
                    · have hc140 := hc14; have hc14 := nT hc14; have hc14 := ft hc14; have H := bF H hc14
                      refine g_skip (i := 8) hA rfl (wanted_no hA rfl rfl (by rw [hc140]; simp [vb])) (by kernel_rfl) (.inr ((hI.sl [1, 2, 3, 4] rfl).less (((hle1.trans hi5.le).trans hi6.le).trans hle14) hi7.le)) rfl fun a hA => ?_
                      refine g_skip (i := 10) hA rfl (wanted_no hA rfl rfl (by rw [hc140]; simp [vb])) (by kernel_rfl) (.inr ((hI.sl [1, 2, 3, 4] rfl).less (((hle1.trans hi5.le).trans hi6.le).trans hle14) hi7.le)) rfl fun a hA => ?_
                      refine g_skip (i := 11) hA rfl (wanted_no hA rfl rfl (by rw [hc140]; simp [vb])) (by kernel_rfl) (.inr ((hI.sl [1, 2, 3, 4] rfl).less (((hle1.trans hi5.le).trans hi6.le).trans hle14) hi7.le)) rfl fun a hA => ?_
                      refine g_skip (i := 12) hA rfl (wanted_no hA rfl rfl (by rw [hc140]; simp [vb])) (by kernel_rfl) (.inr ((hI.sl [1, 2, 3, 4] rfl).less (((hle1.trans hi5.le).trans hi6.le).trans hle14) hi7.le)) rfl fun a hA => ?_
                      refine g_skip (i := 9) hA rfl (wanted_no hA rfl rfl (by rw [hc140]; simp [vb])) (by kernel_rfl) (.inr ((hI.sl [1, 2, 3, 4] rfl).less (((hle1.trans hi5.le).trans hi6.le).trans hle14) hi7.le)) rfl fun a hA => ?_
                      refine g_skip (i := 13) hA rfl (wanted_no hA rfl rfl (by rw [hc140]; simp [vb])) (by kernel_rfl) (.inr ((hI.sl [1, 2, 3, 4] rfl).less (((hle1.trans hi5.le).trans hi6.le).trans hle14) hi7.le)) rfl fun a hA => ?_
                      refine gE 14 hA rfl (.inr ((hI.sl [1, 2, 3, 4] rfl).less (((hle1.trans hi5.le).trans hi6.le).trans hle14) hi7.le)) (fun _ => r_pick_t hA rfl hc140 rfl) fun a hA => ?_
                      refine gE 15 hA rfl (.inr ((hI.sl [1, 2, 3, 4] rfl).less (((hle1.trans hi5.le).trans hi6.le).trans hle14) hi7.le)) (fun _ => r_mv hA rfl) fun a hA => ?_
                      refine g_skip (i := 16) hA rfl (wanted_no hA rfl rfl (by simp [vb])) (by kernel_rfl) (.inr ((hI.sl [1, 2, 3, 4] rfl).less (((hle1.trans hi5.le).trans hi6.le).trans hle14) hi7.le)) rfl fun a hA => ?_
                      refine g_skip (i := 19) hA rfl (wanted_no hA rfl rfl (by simp [vb])) (by kernel_rfl) (.inr ((hI.sl [1, 2, 3, 4] rfl).less (((hle1.trans hi5.le).trans hi6.le).trans hle14) hi7.le)) rfl fun a hA => ?_
                      refine g_skip (i := 20) hA rfl (wanted_no hA rfl rfl (by simp [vb])) (by kernel_rfl) (.inr ((hI.sl [1, 2, 3, 4] rfl).less (((hle1.trans hi5.le).trans hi6.le).trans hle14) hi7.le)) rfl fun a hA => ?_
                      refine g_skip (i := 21) hA rfl (wanted_no hA rfl rfl (by simp [vb])) (by kernel_rfl) (.inr ((hI.sl [1, 2, 3, 4] rfl).less (((hle1.trans hi5.le).trans hi6.le).trans hle14) hi7.le)) rfl fun a hA => ?_
                      refine g_skip (i := 22) hA rfl (wanted_no hA rfl rfl (by simp [vb])) (by kernel_rfl) (.inr ((hI.sl [1, 2, 3, 4] rfl).less (((hle1.trans hi5.le).trans hi6.le).trans hle14) hi7.le)) rfl fun a hA => ?_
                      refine g_skip (i := 17) hA rfl (wanted_no hA rfl rfl (by simp [vb])) (by kernel_rfl) (.inr ((hI.sl [1, 2, 3, 4] rfl).less (((hle1.trans hi5.le).trans hi6.le).trans hle14) hi7.le)) rfl fun a hA => ?_
                      refine g_skip (i := 18) hA rfl (wanted_no hA rfl rfl (by simp [vb])) (by kernel_rfl) (.inr ((hI.sl [1, 2, 3, 4] rfl).less (((hle1.trans hi5.le).trans hi6.le).trans hle14) hi7.le)) rfl fun a hA => ?_
                      refine g_skip (i := 23) hA rfl (wanted_no hA rfl rfl (by simp [vb])) (by kernel_rfl) (.inr ((hI.sl [1, 2, 3, 4] rfl).less (((hle1.trans hi5.le).trans hi6.le).trans hle14) hi7.le)) rfl fun a hA => ?_
                      refine gE 24 hA rfl (.inr ((hI.sl [1, 2, 3, 4] rfl).less (((hle1.trans hi5.le).trans hi6.le).trans hle14) hi7.le)) (fun _ => r_pick_t hA rfl rfl rfl) fun a hA => ?_
                      refine gN ?_
                      cases sJ H
                      exact ⟨μ21, vvc2, (hle14.trans hi7.le), (Slc.le hS15 (fun _ _ h => RTx.le hi7.le h) hi7.le), hA.sub ⟨rfl, rfl, rfl, rfl, rfl, rfl, trivial⟩, (hI.sl [1, 2, 3, 4] rfl)⟩
                    · have hc140 := hc14; have hc14 := nF hc14; have H := bT H hc14
                      refine g_easy (i := 8) hA rfl (wanted_yes hA rfl rfl hc140) (by kernel_rfl) (.inr ((hI.sl [1, 2, 3, 4] rfl).less (((hle1.trans hi5.le).trans hi6.le).trans hle14) hi7.le)) (fun _ => r_mv hA rfl) rfl fun a hA => ?_
                      refine g_easy (i := 10) hA rfl (wanted_yes hA rfl rfl hc140) (by kernel_rfl) (.inr ((hI.sl [1, 2, 3, 4] rfl).less (((hle1.trans hi5.le).trans hi6.le).trans hle14) hi7.le)) (fun _ => r_mv hA rfl) rfl fun a hA => ?_
                      refine g_easy (i := 11) hA rfl (wanted_yes hA rfl rfl hc140) (by kernel_rfl) (.inr ((hI.sl [1, 2, 3, 4] rfl).less (((hle1.trans hi5.le).trans hi6.le).trans hle14) hi7.le)) (fun _ => r_mv hA rfl) rfl fun a hA => ?_
                      refine g_easy (i := 12) hA rfl (wanted_yes hA rfl rfl hc140) (by kernel_rfl) (.inr ((hI.sl [1, 2, 3, 4] rfl).less (((hle1.trans hi5.le).trans hi6.le).trans hle14) hi7.le)) (fun _ => r_mul hA rfl rfl) rfl fun a hA => ?_
                      refine gF 9 rfl ?_
                      refine o_yes hA rfl rfl hc140 <| ?_
                      obtain ⟨r11, hr14, H⟩ := bB H
                      have hI := hI.sl [1, 0, 2, 3, 4] rfl
                      refine o_call _ cf45 hA rfl (redo_Redo_Bytes.c μ21 _ hI.agr p1 vp2 g12 hp5 hp6 (Slc.le hp7 (fun _ _ h => RTx.le ((hi6.le.trans hle14).trans hi7.le) h) ((hi6.le.trans hle14).trans hi7.le)) (hI.handN 1) r11 hr14) rfl fun v22 a w hz29 hA => ?_
                      obtain ⟨rfl, hw6, hi8⟩ := hz29
                      have hI := hI.back1 hi8
                      refine o_nil <| ⟨(.inr ((hI.sl [0, 2, 3, 4] rfl).less (((hle1.trans hi5.le).trans hi6.le).trans hle14) hi7.le)), ?_⟩
                      refine g_easy (i := 13) hA rfl (wanted_yes hA rfl rfl hc140) (by kernel_rfl) (.inr ((hI.sl [0, 2, 3, 4] rfl).less (((hle1.trans hi5.le).trans hi6.le).trans hle14) hi7.le)) (fun _ => r_neq hA rfl rfl) rfl fun a hA => ?_
                      refine gE 14 hA rfl (.inr ((hI.sl [0, 2, 3, 4] rfl).less (((hle1.trans hi5.le).trans hi6.le).trans hle14) hi7.le)) (fun _ => r_pick_f hA rfl hc140 rfl) fun a hA => ?_
                      refine gE 15 hA rfl (.inr ((hI.sl [0, 2, 3, 4] rfl).less (((hle1.trans hi5.le).trans hi6.le).trans hle14) hi7.le)) (fun _ => r_mv hA rfl) fun a hA => ?_
                      rcases Bool.eq_false_or_eq_true (decide (r11 ≠ (IntKind.i64.wrap ((iMin (c2.length : Int) r5) * r4)))) with hc15 | hc15
                      · have hc150 := hc15; obtain ⟨hc15, H⟩ := dT H hc15
                        refine g_skip (i := 16) hA rfl (wanted_no hA rfl rfl (by rw [hc150]; simp [vb])) (by kernel_rfl) (.inr ((hI.sl [0, 2, 3, 4] rfl).less (((hle1.trans hi5.le).trans hi6.le).trans hle14) hi7.le)) rfl fun a hA => ?_
                        refine g_skip (i := 19) hA rfl (wanted_no hA rfl rfl (by rw [hc150]; simp [vb])) (by kernel_rfl) (.inr ((hI.sl [0, 2, 3, 4] rfl).less (((hle1.trans hi5.le).trans hi6.le).trans hle14) hi7.le)) rfl fun a hA => ?_
                        refine g_skip (i := 20) hA rfl (wanted_no hA rfl rfl (by rw [hc150]; simp [vb])) (by kernel_rfl) (.inr ((hI.sl [0, 2, 3, 4] rfl).less (((hle1.trans hi5.le).trans hi6.le).trans hle14) hi7.le)) rfl fun a hA => ?_
                        refine g_skip (i := 21) hA rfl (wanted_no hA rfl rfl (by rw [hc150]; simp [vb])) (by kernel_rfl) (.inr ((hI.sl [0, 2, 3, 4] rfl).less (((hle1.trans hi5.le).trans hi6.le).trans hle14) hi7.le)) rfl fun a hA => ?_
                        refine g_skip (i := 22) hA rfl (wanted_no hA rfl rfl (by rw [hc150]; simp [vb])) (by kernel_rfl) (.inr ((hI.sl [0, 2, 3, 4] rfl).less (((hle1.trans hi5.le).trans hi6.le).trans hle14) hi7.le)) rfl fun a hA => ?_
                        refine g_skip (i := 17) hA rfl (wanted_no hA rfl rfl (by rw [hc150]; simp [vb])) (by kernel_rfl) (.inr ((hI.sl [0, 2, 3, 4] rfl).less (((hle1.trans hi5.le).trans hi6.le).trans hle14) hi7.le)) rfl fun a hA => ?_
                        refine g_skip (i := 18) hA rfl (wanted_no hA rfl rfl (by rw [hc150]; simp [vb])) (by kernel_rfl) (.inr ((hI.sl [0, 2, 3, 4] rfl).less (((hle1.trans hi5.le).trans hi6.le).trans hle14) hi7.le)) rfl fun a hA => ?_
                        refine g_skip (i := 23) hA rfl (wanted_no hA rfl rfl (by rw [hc150]; simp [vb])) (by kernel_rfl) (.inr ((hI.sl [0, 2, 3, 4] rfl).less (((hle1.trans hi5.le).trans hi6.le).trans hle14) hi7.le)) rfl fun a hA => ?_
                        refine gE 24 hA rfl (.inr ((hI.sl [0, 2, 3, 4] rfl).less (((hle1.trans hi5.le).trans hi6.le).trans hle14) hi7.le)) (fun _ => r_pick_t hA rfl hc150 rfl) fun a hA => ?_
                        refine gN ?_
                        cases sJ H
                        exact ⟨μ21, vvc2, (hle14.trans hi7.le), (Slc.le hS15 (fun _ _ h => RTx.le hi7.le h) hi7.le), hA.sub ⟨rfl, rfl, rfl, rfl, rfl, rfl, trivial⟩, (hI.sl [0, 2, 3, 4] rfl)⟩
                      · have hc150 := hc15; obtain ⟨hc15, H⟩ := dF H hc15
                        exact (bN H).elim
                  · rintro a w ⟨μ19, vvc10, hle13, wc10, hA, hI⟩
                    have H := Hk15
                    refine w_cond hA rfl (fun hc16 => ?_) (fun hc16 => ?_)
                    · have H := bT H hc16
                      refine w_seq fun _ hN50 => w_reg <| sta hA rfl rfl fun a hA => ?_
                      refine o_nil <| hN50 _ _ <| w_ret ?_
                      obtain rfl := sJ H
                      exact ret1 hA Tryd.results8 rfl ⟨_, rfl, rfl, trivial, hI.forget0⟩
                    · have hc16 := ft hc16; have H := bF H hc16
                      refine w_skip <| hN49 _ _ ?_
                      obtain ⟨⟨c12, c13, c14⟩, hz30, Hk16⟩ := bB H
                      refine w_cut (fun a w => ∃ (μ23 : Store) (vvc14 : Value), μ19.le μ23 ∧ InR .i64 c12 ∧ InR .i64 c13 ∧ Slc (RTx μ23) 4 μ23 vvc14 c14 ∧ Fr a 167 [(4, .bool false), (5, .bool r1), (13, .pointer (some ⟨g12, 0, none⟩))] ∧ Iv w0 [] μ μ23 [cel g12 [[.int .i64 c12], [.int .i64 c13], [vvc14]] 141, row 44 33 (.slice (some ⟨g10, 0, none⟩) 1 1) ([(⟨0, (List.replicate 32 0)⟩ : Out)] : List Out).length cs14, row 42 35 (.slice (some ⟨g9, 0, none⟩) 1 1) ([(⟨(⟨(List.replicate 32 0), 0⟩ : Point), [], 0⟩ : In)] : List In).length cs13, row 37 69 vvc1 c1.length ccc1] w) ?_ ?_
                      · have H := bI hz30
                        refine w_seq fun _ hN51 => w_reg <| sta hA rfl rfl fun a hA => ?_
                        refine o_nil <| hN51 _ _ <| w_block ?_
                        obtain ⟨z6, hz31, Hk17⟩ := bind_some H
                        obtain ⟨n6, hn6⟩ := loopO_some hz31
                        refine w_loop (fun n a w => ∃ (s7 : Int) (s8 : Int) (s9 : Int) (s10 : List Tx) (μ24 : Store) (vvs10 : Value), loopN (sargassolaw24_RedoOrder.s3 c1) n (s7, s8, s9, s10) = some z6 ∧ μ19.le μ24 ∧ InR .i64 s7 ∧ InR .i64 s8 ∧ InR .i64 s9 ∧ Slc (RTx μ24) 4 μ24 vvs10 s10 ∧ Fr a 167 [(4, .bool false), (5, .bool r1), (6, vvc1), (13, .pointer (some ⟨g12, 0, none⟩)), (19, .int .i64 s7)] ∧ Iv w0 [] μ μ24 [cel g12 [[.int .i64 s8], [.int .i64 s9], [vvs10]] 141, row 44 33 (.slice (some ⟨g10, 0, none⟩) 1 1) ([(⟨0, (List.replicate 32 0)⟩ : Out)] : List Out).length cs14, row 42 35 (.slice (some ⟨g9, 0, none⟩) 1 1) ([(⟨(⟨(List.replicate 32 0), 0⟩ : Point), [], 0⟩ : In)] : List In).length cs13, row 37 69 vvc1 c1.length ccc1] w) n6 ⟨0, p1.most, p1.bytes, p1.l, μ19, vp2, hn6, (Store.le.refl _), (in_lit .i64 0 rfl), hp5, hp6, (Slc.le hp7 (fun _ _ h => RTx.le (hi6.le.trans hle13) h) (hi6.le.trans hle13)), hA.sub ⟨rfl, rfl, rfl, rfl, rfl, trivial⟩, hI⟩ ?_
                        clear hA hI
                        rintro n a w ⟨s7, s8, s9, s10, μ24, vvs10, hn6, hle17, ws7, ws8, ws9, ws10, hA, hI⟩
                        obtain ⟨m6, rfl, H⟩ := loopN_bind hn6
                        clear hn6
                        refine w_seq fun _ hN52 => w_seq fun _ hN53 => w_reg <| stm hA rfl rfl fun a hA => 
                          stm hA rfl rfl fun a hA => ?_
                        have hlen7 := Iv.row_in hI (j := 3) rfl
                        refine stp hA (r_rlen (xs := 0) Tryd.underlying94 hI (j := 3) rfl hA rfl) rfl fun a hA => 
                          stp hA (r_lss hA rfl rfl) rfl fun a hA => ?_
                        refine o_nil <| hN53 _ _ <| w_cond hA rfl (fun hc17 => ?_) (fun hc17 => ?_)
                        · obtain ⟨hc17, H⟩ := dT H hc17
                          refine w_skip <| hN52 _ _ <| w_seq fun _ hN54 => w_block <| w_reg <| stm hA rfl rfl fun a hA => 
                            stm hA rfl rfl fun a hA => 
                            stm hA rfl rfl fun a hA => ?_
                          obtain ⟨hb11, H⟩ := bG H
                          refine stp hA (r_rix (j := 3) Tryd.underlying94 sz37 hI rfl hA rfl rfl hb11.1 hb11.2) rfl fun a hA => ?_
                          obtain ⟨A4, _, B4, hc18, hl4, _, he5⟩ := Els.at_ (Els.mono wc1 (fun _ _ h => RBlock.le (((hi5.le.trans hi6.le).trans hle13).trans hle17) h)) (getD_some default hb11.1 hb11.2)
                          obtain ⟨v23, rfl, hw7⟩ := he5
                          refine stp hA (r_rldP (j := 3) (q := s7.toNat * 69) (off := 0) A4 B4 [] [[.int .u32 ((c1.getD s7.toNat default).Head.Version)], av .u8 32 ((c1.getD s7.toNat default).Head.Prev), av .u8 32 ((c1.getD s7.toNat default).Head.Root), [.int .u32 ((c1.getD s7.toNat default).Head.Time)], [.int .u32 ((c1.getD s7.toNat default).Head.Work)], [.int .u32 ((c1.getD s7.toNat default).Head.Nonce)], [v23]] [] hc18 hl4 rfl Tryd.underlying37 rfl sz37 rfl hI rfl hA rfl) rfl fun a hA => ?_
                          obtain ⟨r12, hr15, H⟩ := bB H
                          refine o_call _ cf46 hA rfl (redo_Redo_On.c μ24 _ hI.agr (⟨s8, s9, s10⟩ : redoRedo) vvs10 g12 ws8 ws9 ws10 (hI.handN 1) (c1.getD s7.toNat default) v23 ⟨hw7.1, hw7.2.1, hw7.2.2.1, hw7.2.2.2.1, hw7.2.2.2.2.1, hw7.2.2.2.2.2.1, hw7.2.2.2.2.2.2⟩ r12 hr15) rfl fun v24 a w hz32 hA => ?_
                          obtain ⟨vp3, μ25, rfl, hp8, hp9, hp10, hi9⟩ := hz32
                          have hI := hI.back1 hi9
                          refine o_nil <| hN54 _ _ <| w_reg <| stm hA rfl rfl fun a hA => 
                            stp hA (r_add hA rfl rfl) rfl fun a hA => 
                            sta hA rfl rfl fun a hA => ?_
                          refine o_nil <| ⟨m6, Nat.lt_succ_self _, IntKind.i64.wrap (s7 + 1), r12.most, r12.bytes, r12.l, μ25, vp3, H, (hle17.trans hi9.le), (wrap_in _ _), hp8, hp9, hp10, hA.sub ⟨rfl, rfl, rfl, rfl, rfl, trivial⟩, hI⟩
                        · obtain ⟨hc17, H⟩ := dF H hc17
                          refine w_exit rfl ?_
                          have H : some (s8, s9, s10) = some z6 := H
                          obtain rfl := sI H
                          have H := Hk17
                          cases sJ H
                          exact ⟨μ24, vvs10, hle17, ws8, ws9, ws10, hA.sub ⟨rfl, rfl, rfl, trivial⟩, hI⟩
                      · rintro a w ⟨μ23, vvc14, hle16, wc12, wc13, wc14, hA, hI⟩
                        have H := Hk16
                        obtain ⟨c15, hz33, Hk18⟩ := bB H
                        refine w_cut (fun a w => ∃ (μ26 : Store), μ23.le μ26 ∧ Fr a 167 [(4, .bool c15)] ∧ Iv w0 [] μ μ26 [cel g12 [[.int .i64 c12], [.int .i64 c13], [vvc14]] 141, row 44 33 (.slice (some ⟨g10, 0, none⟩) 1 1) ([(⟨0, (List.replicate 32 0)⟩ : Out)] : List Out).length cs14, row 42 35 (.slice (some ⟨g9, 0, none⟩) 1 1) ([(⟨(⟨(List.replicate 32 0), 0⟩ : Point), [], 0⟩ : In)] : List In).length cs13, row 37 69 vvc1 c1.length ccc1] w) ?_ ?_
                        · have H := bI hz33
                          refine w_reg <| stm hA rfl rfl fun a hA => 
                            stm hA rfl rfl fun a hA => ?_
                          rcases Bool.eq_false_or_eq_true r1 with hc19 | hc19
                          · have hc190 := hc19; have H := bT H hc19
                            refine o_yes hA rfl rfl hc190 <| 
                              stm hA rfl rfl fun a hA => 
                              o_yes hA rfl rfl hc190 <| ?_
                            obtain ⟨r13, hr16, H⟩ := bB H
                            refine o_call _ cf44 hA rfl (redo_Redo_All.c μ23 _ hI.agr (⟨c12, c13, c14⟩ : redoRedo) vvc14 g12 wc12 wc13 wc14 (hI.handN 1) r13 hr16) rfl fun v25 a w hz34 hA => ?_
                            obtain ⟨_, cs16, μ27, rfl, hE16, hi10⟩ := hz34
                            have hI := hI.backN 1 hi10
                            have hI : Iv w0 [] μ μ27 [row 32 4 v25 r13.length cs16, cel g12 [[.int .i64 c12], [.int .i64 c13], [vvc14]] 141, row 44 33 (.slice (some ⟨g10, 0, none⟩) 1 1) ([(⟨0, (List.replicate 32 0)⟩ : Out)] : List Out).length cs14, row 42 35 (.slice (some ⟨g9, 0, none⟩) 1 1) ([(⟨(⟨(List.replicate 32 0), 0⟩ : Point), [], 0⟩ : In)] : List In).length cs13, row 37 69 vvc1 c1.length ccc1] w := hI
                            refine o_yes hA rfl rfl hc190 <| ?_
                            have hlen8 := Iv.row_in hI (j := 0) rfl
                            refine stp hA (r_rlen (xs := 0) Tryd.underlying35 hI (j := 0) rfl hA rfl) rfl fun a hA => 
                              o_yes hA rfl rfl hc190 <| 
                              stp hA (r_eql hA rfl rfl) rfl fun a hA => 
                              stp hA (r_pick_t hA rfl hc190 rfl) rfl fun a hA => 
                              sta hA rfl rfl fun a hA => ?_
                            refine o_nil ?_
                            cases sJ H
                            exact ⟨μ27, hi10.le, hA.sub ⟨rfl, trivial⟩, (hI.sl [1, 2, 3, 4] rfl)⟩
                          · have hc190 := hc19; have hc19 := ft hc19; have H := bF H hc19
                            refine o_no hA rfl rfl (by rw [hc190]; simp [vb]) rfl fun a hA => 
                              o_no hA rfl rfl (by rw [hc190]; simp [vb]) rfl fun a hA => 
                              o_no hA rfl rfl (by rw [hc190]; simp [vb]) rfl fun a hA => 
                              o_no hA rfl rfl (by rw [hc190]; simp [vb]) rfl fun a hA => 
                              stp hA (r_pick_f hA rfl hc190 rfl) rfl fun a hA => 
                              sta hA rfl rfl fun a hA => ?_
                            refine o_nil ?_
                            cases sJ H
                            exact ⟨μ23, (Store.le.refl _), hA.sub ⟨rfl, trivial⟩, hI⟩
                        · rintro a w ⟨μ26, hle18, hA, hI⟩
                          have H := Hk18
                          refine w_ret ?_
                          obtain rfl := sJ H
                          exact ret1 hA Tryd.results8 rfl ⟨_, rfl, rfl, trivial, hI.forget0⟩
          · skip
            have H := bOS H ho3
            obtain ⟨g13, vp4, cp2, gm2, v26, μ28, rfl, hp11, hp12, hp13, hp14, hS18, hi11⟩ := hz22
            have hI := hI.call hi11
            refine stm hA rfl rfl fun a hA => 
              stp hA (r_extr (vs := [.pointer (some ⟨g13, 0, none⟩), v26]) hA rfl rfl) rfl fun a hA => 
              stp hA (r_extr (vs := [.pointer (some ⟨g13, 0, none⟩), v26]) hA rfl rfl) rfl fun a hA => 
              sta hA rfl rfl fun a hA => 
              sta hA rfl rfl fun a hA => ?_
            refine o_nil <| hN41 _ _ <| w_seq fun _ hN55 => ?_
            obtain ⟨c16, hz35, Hk19⟩ := bB H
            refine w_cut (fun a w => Fr a 167 [(1, .int .i64 r5), (4, .bool false), (5, .bool r1), (6, vvc1), (7, vvc2), (12, .int .i64 r4), (13, .pointer (some ⟨g12, 0, none⟩)), (15, .pointer (some ⟨g13, 0, none⟩)), (104, .bool c16)] ∧ Iv w0 [] μ μ28 [cel g13 [[.int .i64 p3.most], [.int .i64 p3.op], [vp4], [.map (some gm2)]] 133, row 79 34 vp4 p3.l.length cp2, mpI gm2 (ent kv131 vv131 p3.lost), cel g12 [[.int .i64 p1.most], [.int .i64 p1.bytes], [vp2]] 141, row 44 33 (.slice (some ⟨g10, 0, none⟩) 1 1) ([(⟨0, (List.replicate 32 0)⟩ : Out)] : List Out).length cs14, row 42 35 (.slice (some ⟨g9, 0, none⟩) 1 1) ([(⟨(⟨(List.replicate 32 0), 0⟩ : Point), [], 0⟩ : In)] : List In).length cs13, row 37 69 vvc1 c1.length ccc1, row 32 4 vvc2 c2.length ccc2] w) ?_ ?_
            · have H := bI hz35
              refine w_reg <| stm hA rfl rfl fun a hA => 
                stp hA (r_ptrnil_eql Tryd.underlying96 hA rfl rfl) rfl fun a hA => 
                stm hA rfl rfl fun a hA => 
                o_yes hA rfl rfl rfl <| 
                stm hA rfl rfl fun a hA => 
                o_yes hA rfl rfl rfl <| 
                stp hA (r_ptrnil_eql Tryd.underlying71 hA rfl rfl) rfl fun a hA => 
                stp hA (r_pick_f hA rfl rfl rfl) rfl fun a hA => 
                stm hA rfl rfl fun a hA => 
                o_yes hA rfl rfl rfl <| 
                stm hA rfl rfl fun a hA => 
                o_yes hA rfl rfl rfl <| 
                stp hA (r_neE erF hI.agr (ErV.le (fun _ _ h => h) hi11.le hS13) erv_nil (.inl ⟨.inr ⟨_, rfl⟩, Er.fitR⟩) hA rfl rfl) rfl fun a hA => 
                stp hA (r_pick_f hA rfl rfl rfl) rfl fun a hA => 
                stm hA rfl rfl fun a hA => ?_
              rcases Bool.eq_false_or_eq_true (decide (r6.2 ≠ (Er.b 0))) with hc20 | hc20
              · have hc200 := hc20; obtain ⟨hc20, H⟩ := dT H hc20
                refine o_no hA rfl rfl (by rw [hc200]; simp [vb]) rfl fun a hA => 
                  o_no hA rfl rfl (by rw [hc200]; simp [vb]) rfl fun a hA => 
                  stp hA (r_pick_t hA rfl hc200 rfl) rfl fun a hA => ?_
                refine o_nil ?_
                cases sJ H
                exact ⟨hA.sub ⟨rfl, rfl, rfl, rfl, rfl, rfl, rfl, rfl, rfl, trivial⟩, hI⟩
              · have hc200 := hc20; obtain ⟨hc20, H⟩ := dF H hc20
                refine o_yes hA rfl rfl hc200 <| 
                  stm hA rfl rfl fun a hA => 
                  o_yes hA rfl rfl hc200 <| 
                  stp hA (r_neE erF hI.agr hS18 erv_nil (.inl ⟨.inr ⟨_, rfl⟩, Er.fitR⟩) hA rfl rfl) rfl fun a hA => 
                  stp hA (r_pick_f hA rfl hc200 rfl) rfl fun a hA => ?_
                refine o_nil ?_
                cases sJ H
                exact ⟨hA.sub ⟨rfl, rfl, rfl, rfl, rfl, rfl, rfl, rfl, rfl, trivial⟩, hI⟩
            · rintro a w ⟨hA, hI⟩
              have H := Hk19
              refine w_cond hA rfl (fun hc21 => ?_) (fun hc21 => ?_)
              · have H := bT H hc21
                refine w_seq fun _ hN56 => w_reg <| sta hA rfl rfl fun a hA => ?_
                refine o_nil <| hN56 _ _ <| w_ret ?_
                obtain rfl := sJ H
                exact ret1 hA Tryd.results8 rfl ⟨_, rfl, rfl, trivial, hI.forget0⟩
              · have hc21 := ft hc21; have H := bF H hc21
                refine w_skip <| hN55 _ _ ?_
                obtain ⟨⟨c17, c18, c19, c20, c21, c22, c23⟩, hz36, Hk20⟩ := bB H
                refine w_cut (fun a w => ∃ (μ29 : Store) (vvc19 : Value) (ccc19 : List Value) (ggc20 : Nat) (vvc23 : Value), μ28.le μ29 ∧ InR .i64 c17 ∧ InR .i64 c18 ∧ Els (RNote μ29) 34 c19 ccc19 ∧ mw131 c20 ∧ InR .i64 c21 ∧ InR .i64 c22 ∧ Slc (RTx μ29) 4 μ29 vvc23 c23 ∧ Fr a 167 [(1, .int .i64 r5), (4, .bool false), (5, .bool r1), (6, vvc1), (7, vvc2), (12, .int .i64 r4), (13, .pointer (some ⟨g12, 0, none⟩)), (15, .pointer (some ⟨g13, 0, none⟩))] ∧ Iv w0 [] μ μ29 [row 79 34 vvc19 c19.length ccc19, mpI ggc20 (ent kv131 vv131 c20), cel g13 [[.int .i64 c17], [.int .i64 c18], [vvc19], [.map (some ggc20)]] 133, cel g12 [[.int .i64 c21], [.int .i64 c22], [vvc23]] 141, row 44 33 (.slice (some ⟨g10, 0, none⟩) 1 1) ([(⟨0, (List.replicate 32 0)⟩ : Out)] : List Out).length cs14, row 42 35 (.slice (some ⟨g9, 0, none⟩) 1 1) ([(⟨(⟨(List.replicate 32 0), 0⟩ : Point), [], 0⟩ : In)] : List In).length cs13, row 37 69 vvc1 c1.length ccc1, row 32 4 vvc2 c2.length ccc2] w) ?_ ?_
                · have H := bI hz36
                  refine w_seq fun _ hN57 => w_reg <| stm hA rfl rfl fun a hA => ?_
                  have hlen9 := Iv.row_in hI (j := 6) rfl
                  refine stp hA (r_rlen (xs := 0) Tryd.underlying94 hI (j := 6) rfl hA rfl) rfl fun a hA => 
                    stp hA (r_sub hA rfl rfl) rfl fun a hA => 
                    sta hA rfl rfl fun a hA => ?_
                  refine o_nil <| hN57 _ _ <| w_block ?_
                  obtain ⟨z7, hz37, Hk21⟩ := bind_some H
                  obtain ⟨n7, hn7⟩ := loopO_some hz37
                  refine w_loop (fun n a w => ∃ (s11 : Int) (s12 : Int) (s13 : Int) (s14 : List Note) (s15 : List (Int × Int)) (s16 : Int) (s17 : Int) (s18 : List Tx) (μ30 : Store) (vvs14 : Value) (ccs14 : List Value) (ggs15 : Nat) (vvs18 : Value), loopN (sargassolaw24_RedoOrder.s4 c1) n (s11, s12, s13, s14, s15, s16, s17, s18) = some z7 ∧ μ28.le μ30 ∧ InR .i64 s11 ∧ InR .i64 s12 ∧ InR .i64 s13 ∧ Els (RNote μ30) 34 s14 ccs14 ∧ mw131 s15 ∧ InR .i64 s16 ∧ InR .i64 s17 ∧ Slc (RTx μ30) 4 μ30 vvs18 s18 ∧ Fr a 167 [(1, .int .i64 r5), (4, .bool false), (5, .bool r1), (6, vvc1), (7, vvc2), (12, .int .i64 r4), (13, .pointer (some ⟨g12, 0, none⟩)), (15, .pointer (some ⟨g13, 0, none⟩)), (17, .int .i64 s11)] ∧ Iv w0 [] μ μ30 [cel g13 [[.int .i64 s12], [.int .i64 s13], [vvs14], [.map (some ggs15)]] 133, row 79 34 vvs14 s14.length ccs14, mpI ggs15 (ent kv131 vv131 s15), cel g12 [[.int .i64 s16], [.int .i64 s17], [vvs18]] 141, row 44 33 (.slice (some ⟨g10, 0, none⟩) 1 1) ([(⟨0, (List.replicate 32 0)⟩ : Out)] : List Out).length cs14, row 42 35 (.slice (some ⟨g9, 0, none⟩) 1 1) ([(⟨(⟨(List.replicate 32 0), 0⟩ : Point), [], 0⟩ : In)] : List In).length cs13, row 37 69 vvc1 c1.length ccc1, row 32 4 vvc2 c2.length ccc2] w) n7 ⟨IntKind.i64.wrap ((c1.length : Int) - 1), p3.most, p3.op, p3.l, p3.lost, p1.most, p1.bytes, p1.l, μ28, vp4, cp2, gm2, vp2, hn7, (Store.le.refl _), (wrap_in _ _), hp11, hp12, hp13, hp14, hp5, hp6, (Slc.le hp7 (fun _ _ h => RTx.le hi11.le h) hi11.le), hA.sub ⟨rfl, rfl, rfl, rfl, rfl, rfl, rfl, rfl, rfl, trivial⟩, hI⟩ ?_
                  clear hA hI
                  rintro n a w ⟨s11, s12, s13, s14, s15, s16, s17, s18, μ30, vvs14, ccs14, ggs15, vvs18, hn7, hle20, ws11, ws12, ws13, ws14, ws15, ws16, ws17, ws18, hA, hI⟩
                  obtain ⟨m7, rfl, H⟩ := loopN_bind hn7
                  clear hn7
                  refine w_seq fun _ hN58 => w_seq fun _ hN59 => w_reg <| stm hA rfl rfl fun a hA => 
                    stp hA (r_geq hA rfl rfl) rfl fun a hA => ?_
                  refine o_nil <| hN59 _ _ <| w_cond hA rfl (fun hc22 => ?_) (fun hc22 => ?_)
                  · obtain ⟨hc22, H⟩ := dT H hc22
                    refine w_skip <| hN58 _ _ <| w_seq fun _ hN60 => w_block <| w_reg <| stm hA rfl rfl fun a hA => 
                      stm hA rfl rfl fun a hA => 
                      stm hA rfl rfl fun a hA => ?_
                    obtain ⟨hb12, H⟩ := bG H
                    refine stp hA (r_rix (j := 6) Tryd.underlying94 sz37 hI rfl hA rfl rfl hb12.1 hb12.2) rfl fun a hA => ?_
                    obtain ⟨A5, _, B5, hc23, hl5, _, he6⟩ := Els.at_ (Els.mono wc1 (fun _ _ h => RBlock.le ((hi5.le.trans hi11.le).trans hle20) h)) (getD_some default hb12.1 hb12.2)
                    obtain ⟨v27, rfl, hw8⟩ := he6
                    refine stp hA (r_rldP (j := 6) (q := s11.toNat * 69) (off := 0) A5 B5 [] [[.int .u32 ((c1.getD s11.toNat default).Head.Version)], av .u8 32 ((c1.getD s11.toNat default).Head.Prev), av .u8 32 ((c1.getD s11.toNat default).Head.Root), [.int .u32 ((c1.getD s11.toNat default).Head.Time)], [.int .u32 ((c1.getD s11.toNat default).Head.Work)], [.int .u32 ((c1.getD s11.toNat default).Head.Nonce)], [v27]] [] hc23 hl5 rfl Tryd.underlying37 rfl sz37 rfl hI rfl hA rfl) rfl fun a hA => 
                      stm hA rfl rfl fun a hA => ?_
                    obtain ⟨r14, hr17, H⟩ := bB H
                    have hI := hI.sl [3, 0, 1, 2, 4, 5, 6, 7] rfl
                    refine o_call _ cf42 hA rfl (redo_Redo_Back.c μ30 _ hI.agr (⟨s16, s17, s18⟩ : redoRedo) vvs18 g12 ws16 ws17 ws18 (c1.getD s11.toNat default) v27 ⟨hw8.1, hw8.2.1, hw8.2.2.1, hw8.2.2.2.1, hw8.2.2.2.2.1, hw8.2.2.2.2.2.1, hw8.2.2.2.2.2.2⟩ (⟨s12, s13, s14, s15⟩ : notesLog) vvs14 ccs14 ggs15 g13 ws12 ws13 ws14 ws15 (hI.handN 4) e7 (ErV.le (fun _ _ h => h) (((hle1.trans hi5.le).trans hi11.le).trans hle20) he7) r14 hr17) rfl fun v28 a w hz38 hA => ?_
                    obtain ⟨vp5, vp6, cp3, gm3, μ31, rfl, hp15, hp16, hp17, hp18, hp19, hp20, hp21, hi12⟩ := hz38
                    have hI := hI.backN 4 hi12
                    have hI : Iv w0 [] μ μ31 [cel g12 [[.int .i64 r14.1.most], [.int .i64 r14.1.bytes], [vp5]] 141, cel g13 [[.int .i64 r14.2.most], [.int .i64 r14.2.op], [vp6], [.map (some gm3)]] 133, row 79 34 vp6 r14.2.l.length cp3, mpI gm3 (ent kv131 vv131 r14.2.lost), row 44 33 (.slice (some ⟨g10, 0, none⟩) 1 1) ([(⟨0, (List.replicate 32 0)⟩ : Out)] : List Out).length cs14, row 42 35 (.slice (some ⟨g9, 0, none⟩) 1 1) ([(⟨(⟨(List.replicate 32 0), 0⟩ : Point), [], 0⟩ : In)] : List In).length cs13, row 37 69 vvc1 c1.length ccc1, row 32 4 vvc2 c2.length ccc2] w := hI
                    refine o_nil <| hN60 _ _ <| w_reg <| stm hA rfl rfl fun a hA => 
                      stp hA (r_sub hA rfl rfl) rfl fun a hA => 
                      sta hA rfl rfl fun a hA => ?_
                    refine o_nil <| ⟨m7, Nat.lt_succ_self _, IntKind.i64.wrap (s11 - 1), r14.2.most, r14.2.op, r14.2.l, r14.2.lost, r14.1.most, r14.1.bytes, r14.1.l, μ31, vp6, cp3, gm3, vp5, H, (hle20.trans hi12.le), (wrap_in _ _), hp18, hp19, hp20, hp21, hp15, hp16, hp17, hA.sub ⟨rfl, rfl, rfl, rfl, rfl, rfl, rfl, rfl, rfl, trivial⟩, (hI.sl [1, 2, 3, 0, 4, 5, 6, 7] rfl)⟩
                  · obtain ⟨hc22, H⟩ := dF H hc22
                    refine w_exit rfl ?_
                    have H : some (s12, s13, s14, s15, s16, s17, s18) = some z7 := H
                    obtain rfl := sI H
                    have H := Hk21
                    cases sJ H
                    exact ⟨μ30, vvs14, ccs14, ggs15, vvs18, hle20, ws12, ws13, ws14, ws15, ws16, ws17, ws18, hA.sub ⟨rfl, rfl, rfl, rfl, rfl, rfl, rfl, rfl, trivial⟩, (hI.sl [1, 2, 0, 3, 4, 5, 6, 7] rfl)⟩
                · rintro a w ⟨μ29, vvc19, ccc19, ggc20, vvc23, hle19, wc17, wc18, wc19, wc20, wc21, wc22, wc23, hA, hI⟩
                  have H := Hk20
                  refine w_seq fun _ hN61 => w_reg <| stm hA rfl rfl fun a hA => ?_
                  have hlen10 := Iv.row_in hI (j := 7) rfl
                  refine stp hA (r_rlen (xs := 0) Tryd.underlying35 hI (j := 7) rfl hA rfl) rfl fun a hA => 
                    stm hA rfl rfl fun a hA => 
                    stp hA (r_min hA rfl rfl) rfl fun a hA => 
                    sta hA rfl rfl fun a hA => ?_
                  refine o_nil <| hN61 _ _ <| w_seq fun _ hN62 => ?_
                  obtain ⟨⟨c24, c25⟩, hz39, Hk22⟩ := bB H
                  refine w_cut (fun a w => ∃ (μ32 : Store) (vvc24 : Value), μ29.le μ32 ∧ Slc (RTx μ32) 4 μ32 vvc24 c24 ∧ Fr a 167 [(4, .bool false), (5, .bool r1), (6, vvc1), (7, vvc24), (13, .pointer (some ⟨g12, 0, none⟩)), (147, .bool c25)] ∧ Iv w0 [] μ μ32 [row 79 34 vvc19 c19.length ccc19, mpI ggc20 (ent kv131 vv131 c20), cel g13 [[.int .i64 c17], [.int .i64 c18], [vvc19], [.map (some ggc20)]] 133, cel g12 [[.int .i64 c21], [.int .i64 c22], [vvc23]] 141, row 44 33 (.slice (some ⟨g10, 0, none⟩) 1 1) ([(⟨0, (List.replicate 32 0)⟩ : Out)] : List Out).length cs14, row 42 35 (.slice (some ⟨g9, 0, none⟩) 1 1) ([(⟨(⟨(List.replicate 32 0), 0⟩ : Point), [], 0⟩ : In)] : List In).length cs13, row 37 69 vvc1 c1.length ccc1] w) ?_ ?_
                  · have H := bI hz39
                    obtain ⟨μ33, hle22, hsv13, hI⟩ := hI.freezeRow 7 rfl
                    have hS19 : Slc (RTx μ33) 4 μ33 vvc2 c2 := ⟨_, (Els.mono wc2 (fun _ _ h => RTx.le (((hi5.le.trans hi11.le).trans hle19).trans hle22) h)), hsv13⟩
                    refine w_any [] mo hI fun w hI => ?_
                    refine gE 0 hA rfl (.inr hI) (fun _ => r_mv hA rfl) fun a hA => ?_
                    refine gE 2 hA rfl (.inr hI) (fun _ => r_mv hA rfl) fun a hA => ?_
                    refine gE 3 hA rfl (.inr hI) (fun _ => r_mv hA rfl) fun a hA => ?_
                    obtain ⟨hb13, H⟩ := bG H
                    obtain ⟨v29, hS20, hr18⟩ := r_sl (P := Tryd.prog) (t := 35) (x := .tmp 125) (l := none) (h := (some (.tmp 126))) (i := 0) (j := iMin (c2.length : Int) r5) Tryd.underlying35 sz32 hS19 hA rfl rfl rfl (by have hq := hb13; omega) (by have hq := hb13; omega) (by have hq := hb13; omega)
                    refine gE 4 hA rfl (.inr hI) (fun _ => hr18 _ _ _ _ _ _) fun a hA => ?_
                    refine gF 1 rfl ?_
                    obtain ⟨r15, hr19, H⟩ := bB H
                    have hI := hI.sl [3, 0, 1, 2, 4, 5, 6] rfl
                    refine o_call _ cf44 hA rfl (redo_Redo_All.c μ33 _ hI.agr (⟨c21, c22, c23⟩ : redoRedo) vvc23 g12 wc21 wc22 (Slc.le wc23 (fun _ _ h => RTx.le hle22 h) hle22) (hI.handN 1) r15 hr19) rfl fun v30 a w hz40 hA => ?_
                    obtain ⟨_, cs17, μ34, rfl, hE17, hi13⟩ := hz40
                    have hI := hI.backN 1 hi13
                    have hI : Iv w0 [] μ μ34 [row 32 4 v30 r15.length cs17, cel g12 [[.int .i64 c21], [.int .i64 c22], [vvc23]] 141, row 79 34 vvc19 c19.length ccc19, mpI ggc20 (ent kv131 vv131 c20), cel g13 [[.int .i64 c17], [.int .i64 c18], [vvc19], [.map (some ggc20)]] 133, row 44 33 (.slice (some ⟨g10, 0, none⟩) 1 1) ([(⟨0, (List.replicate 32 0)⟩ : Out)] : List Out).length cs14, row 42 35 (.slice (some ⟨g9, 0, none⟩) 1 1) ([(⟨(⟨(List.replicate 32 0), 0⟩ : Point), [], 0⟩ : In)] : List In).length cs13, row 37 69 vvc1 c1.length ccc1] w := hI
                    refine o_nil <| ⟨(.inr ((hI.sl [2, 3, 4, 1, 5, 6, 7] rfl).less ((((hle1.trans hi5.le).trans hi11.le).trans hle19).trans hle22) hi13.le)), ?_⟩
                    refine gF 5 rfl ?_
                    obtain ⟨r16, hr20, H⟩ := bB H
                    refine o_callp (u := .bool r16) cf43 hA rfl hI ((by obtain ⟨μ35, hle23, hsv14, hI⟩ := hI.freezeRow 0 rfl; have hS21 : Slc (RTx μ35) 4 μ35 v30 r15 := ⟨_, (Els.mono hE17 (fun _ _ h => RTx.le hle23 h)), hsv14⟩; exact low_plain hle23 (sargassoref_SameTxs.c μ35 _ hI.agr r15 v30 hS21 ((c2.take (iMin (c2.length : Int) r5).toNat).drop (0 : Int).toNat) v29 (Slc.le hS20 (fun _ _ h => RTx.le (hi13.le.trans hle23) h) (hi13.le.trans hle23)) r16 hr20))) rfl fun a w hz41 hI hA => ?_
                    refine o_nil <| ⟨(.inr ((hI.sl [2, 3, 4, 1, 5, 6, 7] rfl).less ((((hle1.trans hi5.le).trans hi11.le).trans hle19).trans hle22) hi13.le)), ?_⟩
                    refine gE 6 hA rfl (.inr ((hI.sl [2, 3, 4, 1, 5, 6, 7] rfl).less ((((hle1.trans hi5.le).trans hi11.le).trans hle19).trans hle22) hi13.le)) (fun _ => r_not hA rfl) fun a hA => ?_
                    refine gE 7 hA rfl (.inr ((hI.sl [2, 3, 4, 1, 5, 6, 7] rfl).less ((((hle1.trans hi5.le).trans hi11.le).trans hle19).trans hle22) hi13.le)) (fun _ => r_mv hA rfl) fun a hA => ?_
                    rcases Bool.eq_false_or_eq_true (!r16) with hc24 | hc24
                    · have hc240 := hc24; have hc24 := nT hc24; have hc24 := ft hc24; have H := bF H hc24
                      refine g_skip (i := 8) hA rfl (wanted_no hA rfl rfl (by rw [hc240]; simp [vb])) (by kernel_rfl) (.inr ((hI.sl [2, 3, 4, 1, 5, 6, 7] rfl).less ((((hle1.trans hi5.le).trans hi11.le).trans hle19).trans hle22) hi13.le)) rfl fun a hA => ?_
                      refine g_skip (i := 10) hA rfl (wanted_no hA rfl rfl (by rw [hc240]; simp [vb])) (by kernel_rfl) (.inr ((hI.sl [2, 3, 4, 1, 5, 6, 7] rfl).less ((((hle1.trans hi5.le).trans hi11.le).trans hle19).trans hle22) hi13.le)) rfl fun a hA => ?_
                      refine g_skip (i := 11) hA rfl (wanted_no hA rfl rfl (by rw [hc240]; simp [vb])) (by kernel_rfl) (.inr ((hI.sl [2, 3, 4, 1, 5, 6, 7] rfl).less ((((hle1.trans hi5.le).trans hi11.le).trans hle19).trans hle22) hi13.le)) rfl fun a hA => ?_
                      refine g_skip (i := 12) hA rfl (wanted_no hA rfl rfl (by rw [hc240]; simp [vb])) (by kernel_rfl) (.inr ((hI.sl [2, 3, 4, 1, 5, 6, 7] rfl).less ((((hle1.trans hi5.le).trans hi11.le).trans hle19).trans hle22) hi13.le)) rfl fun a hA => ?_
                      refine g_skip (i := 9) hA rfl (wanted_no hA rfl rfl (by rw [hc240]; simp [vb])) (by kernel_rfl) (.inr ((hI.sl [2, 3, 4, 1, 5, 6, 7] rfl).less ((((hle1.trans hi5.le).trans hi11.le).trans hle19).trans hle22) hi13.le)) rfl fun a hA => ?_
                      refine g_skip (i := 13) hA rfl (wanted_no hA rfl rfl (by rw [hc240]; simp [vb])) (by kernel_rfl) (.inr ((hI.sl [2, 3, 4, 1, 5, 6, 7] rfl).less ((((hle1.trans hi5.le).trans hi11.le).trans hle19).trans hle22) hi13.le)) rfl fun a hA => ?_
                      refine gE 14 hA rfl (.inr ((hI.sl [2, 3, 4, 1, 5, 6, 7] rfl).less ((((hle1.trans hi5.le).trans hi11.le).trans hle19).trans hle22) hi13.le)) (fun _ => r_pick_t hA rfl hc240 rfl) fun a hA => ?_
                      refine gE 15 hA rfl (.inr ((hI.sl [2, 3, 4, 1, 5, 6, 7] rfl).less ((((hle1.trans hi5.le).trans hi11.le).trans hle19).trans hle22) hi13.le)) (fun _ => r_mv hA rfl) fun a hA => ?_
                      refine g_skip (i := 16) hA rfl (wanted_no hA rfl rfl (by simp [vb])) (by kernel_rfl) (.inr ((hI.sl [2, 3, 4, 1, 5, 6, 7] rfl).less ((((hle1.trans hi5.le).trans hi11.le).trans hle19).trans hle22) hi13.le)) rfl fun a hA => ?_
                      refine g_skip (i := 19) hA rfl (wanted_no hA rfl rfl (by simp [vb])) (by kernel_rfl) (.inr ((hI.sl [2, 3, 4, 1, 5, 6, 7] rfl).less ((((hle1.trans hi5.le).trans hi11.le).trans hle19).trans hle22) hi13.le)) rfl fun a hA => ?_
                      refine g_skip (i := 20) hA rfl (wanted_no hA rfl rfl (by simp [vb])) (by kernel_rfl) (.inr ((hI.sl [2, 3, 4, 1, 5, 6, 7] rfl).less ((((hle1.trans hi5.le).trans hi11.le).trans hle19).trans hle22) hi13.le)) rfl fun a hA => ?_
                      refine g_skip (i := 21) hA rfl (wanted_no hA rfl rfl (by simp [vb])) (by kernel_rfl) (.inr ((hI.sl [2, 3, 4, 1, 5, 6, 7] rfl).less ((((hle1.trans hi5.le).trans hi11.le).trans hle19).trans hle22) hi13.le)) rfl fun a hA => ?_
                      refine g_skip (i := 22) hA rfl (wanted_no hA rfl rfl (by simp [vb])) (by kernel_rfl) (.inr ((hI.sl [2, 3, 4, 1, 5, 6, 7] rfl).less ((((hle1.trans hi5.le).trans hi11.le).trans hle19).trans hle22) hi13.le)) rfl fun a hA => ?_
                      refine g_skip (i := 17) hA rfl (wanted_no hA rfl rfl (by simp [vb])) (by kernel_rfl) (.inr ((hI.sl [2, 3, 4, 1, 5, 6, 7] rfl).less ((((hle1.trans hi5.le).trans hi11.le).trans hle19).trans hle22) hi13.le)) rfl fun a hA => ?_
                      refine g_skip (i := 18) hA rfl (wanted_no hA rfl rfl (by simp [vb])) (by kernel_rfl) (.inr ((hI.sl [2, 3, 4, 1, 5, 6, 7] rfl).less ((((hle1.trans hi5.le).trans hi11.le).trans hle19).trans hle22) hi13.le)) rfl fun a hA => ?_
                      refine g_skip (i := 23) hA rfl (wanted_no hA rfl rfl (by simp [vb])) (by kernel_rfl) (.inr ((hI.sl [2, 3, 4, 1, 5, 6, 7] rfl).less ((((hle1.trans hi5.le).trans hi11.le).trans hle19).trans hle22) hi13.le)) rfl fun a hA => ?_
                      refine gE 24 hA rfl (.inr ((hI.sl [2, 3, 4, 1, 5, 6, 7] rfl).less ((((hle1.trans hi5.le).trans hi11.le).trans hle19).trans hle22) hi13.le)) (fun _ => r_pick_t hA rfl rfl rfl) fun a hA => ?_
                      refine gN ?_
                      cases sJ H
                      exact ⟨μ34, vvc2, (hle22.trans hi13.le), (Slc.le hS19 (fun _ _ h => RTx.le hi13.le h) hi13.le), hA.sub ⟨rfl, rfl, rfl, rfl, rfl, rfl, trivial⟩, (hI.sl [2, 3, 4, 1, 5, 6, 7] rfl)⟩
                    · have hc240 := hc24; have hc24 := nF hc24; have H := bT H hc24
                      refine g_easy (i := 8) hA rfl (wanted_yes hA rfl rfl hc240) (by kernel_rfl) (.inr ((hI.sl [2, 3, 4, 1, 5, 6, 7] rfl).less ((((hle1.trans hi5.le).trans hi11.le).trans hle19).trans hle22) hi13.le)) (fun _ => r_mv hA rfl) rfl fun a hA => ?_
                      refine g_easy (i := 10) hA rfl (wanted_yes hA rfl rfl hc240) (by kernel_rfl) (.inr ((hI.sl [2, 3, 4, 1, 5, 6, 7] rfl).less ((((hle1.trans hi5.le).trans hi11.le).trans hle19).trans hle22) hi13.le)) (fun _ => r_mv hA rfl) rfl fun a hA => ?_
                      refine g_easy (i := 11) hA rfl (wanted_yes hA rfl rfl hc240) (by kernel_rfl) (.inr ((hI.sl [2, 3, 4, 1, 5, 6, 7] rfl).less ((((hle1.trans hi5.le).trans hi11.le).trans hle19).trans hle22) hi13.le)) (fun _ => r_mv hA rfl) rfl fun a hA => ?_
                      refine g_easy (i := 12) hA rfl (wanted_yes hA rfl rfl hc240) (by kernel_rfl) (.inr ((hI.sl [2, 3, 4, 1, 5, 6, 7] rfl).less ((((hle1.trans hi5.le).trans hi11.le).trans hle19).trans hle22) hi13.le)) (fun _ => r_mul hA rfl rfl) rfl fun a hA => ?_
                      refine gF 9 rfl ?_
                      refine o_yes hA rfl rfl hc240 <| ?_
                      obtain ⟨r17, hr21, H⟩ := bB H
                      have hI := hI.sl [1, 0, 2, 3, 4, 5, 6, 7] rfl
                      refine o_call _ cf45 hA rfl (redo_Redo_Bytes.c μ34 _ hI.agr (⟨c21, c22, c23⟩ : redoRedo) vvc23 g12 wc21 wc22 (Slc.le wc23 (fun _ _ h => RTx.le (hle22.trans hi13.le) h) (hle22.trans hi13.le)) (hI.handN 1) r17 hr21) rfl fun v31 a w hz42 hA => ?_
                      obtain ⟨rfl, hw9, hi14⟩ := hz42
                      have hI := hI.back1 hi14
                      refine o_nil <| ⟨(.inr ((hI.sl [2, 3, 4, 0, 5, 6, 7] rfl).less ((((hle1.trans hi5.le).trans hi11.le).trans hle19).trans hle22) hi13.le)), ?_⟩
                      refine g_easy (i := 13) hA rfl (wanted_yes hA rfl rfl hc240) (by kernel_rfl) (.inr ((hI.sl [2, 3, 4, 0, 5, 6, 7] rfl).less ((((hle1.trans hi5.le).trans hi11.le).trans hle19).trans hle22) hi13.le)) (fun _ => r_neq hA rfl rfl) rfl fun a hA => ?_
                      refine gE 14 hA rfl (.inr ((hI.sl [2, 3, 4, 0, 5, 6, 7] rfl).less ((((hle1.trans hi5.le).trans hi11.le).trans hle19).trans hle22) hi13.le)) (fun _ => r_pick_f hA rfl hc240 rfl) fun a hA => ?_
                      refine gE 15 hA rfl (.inr ((hI.sl [2, 3, 4, 0, 5, 6, 7] rfl).less ((((hle1.trans hi5.le).trans hi11.le).trans hle19).trans hle22) hi13.le)) (fun _ => r_mv hA rfl) fun a hA => ?_
                      rcases Bool.eq_false_or_eq_true (decide (r17 ≠ (IntKind.i64.wrap ((iMin (c2.length : Int) r5) * r4)))) with hc25 | hc25
                      · have hc250 := hc25; obtain ⟨hc25, H⟩ := dT H hc25
                        refine g_skip (i := 16) hA rfl (wanted_no hA rfl rfl (by rw [hc250]; simp [vb])) (by kernel_rfl) (.inr ((hI.sl [2, 3, 4, 0, 5, 6, 7] rfl).less ((((hle1.trans hi5.le).trans hi11.le).trans hle19).trans hle22) hi13.le)) rfl fun a hA => ?_
                        refine g_skip (i := 19) hA rfl (wanted_no hA rfl rfl (by rw [hc250]; simp [vb])) (by kernel_rfl) (.inr ((hI.sl [2, 3, 4, 0, 5, 6, 7] rfl).less ((((hle1.trans hi5.le).trans hi11.le).trans hle19).trans hle22) hi13.le)) rfl fun a hA => ?_
                        refine g_skip (i := 20) hA rfl (wanted_no hA rfl rfl (by rw [hc250]; simp [vb])) (by kernel_rfl) (.inr ((hI.sl [2, 3, 4, 0, 5, 6, 7] rfl).less ((((hle1.trans hi5.le).trans hi11.le).trans hle19).trans hle22) hi13.le)) rfl fun a hA => ?_
                        refine g_skip (i := 21) hA rfl (wanted_no hA rfl rfl (by rw [hc250]; simp [vb])) (by kernel_rfl) (.inr ((hI.sl [2, 3, 4, 0, 5, 6, 7] rfl).less ((((hle1.trans hi5.le).trans hi11.le).trans hle19).trans hle22) hi13.le)) rfl fun a hA => ?_
                        refine g_skip (i := 22) hA rfl (wanted_no hA rfl rfl (by rw [hc250]; simp [vb])) (by kernel_rfl) (.inr ((hI.sl [2, 3, 4, 0, 5, 6, 7] rfl).less ((((hle1.trans hi5.le).trans hi11.le).trans hle19).trans hle22) hi13.le)) rfl fun a hA => ?_
                        refine g_skip (i := 17) hA rfl (wanted_no hA rfl rfl (by rw [hc250]; simp [vb])) (by kernel_rfl) (.inr ((hI.sl [2, 3, 4, 0, 5, 6, 7] rfl).less ((((hle1.trans hi5.le).trans hi11.le).trans hle19).trans hle22) hi13.le)) rfl fun a hA => ?_
                        refine g_skip (i := 18) hA rfl (wanted_no hA rfl rfl (by rw [hc250]; simp [vb])) (by kernel_rfl) (.inr ((hI.sl [2, 3, 4, 0, 5, 6, 7] rfl).less ((((hle1.trans hi5.le).trans hi11.le).trans hle19).trans hle22) hi13.le)) rfl fun a hA => ?_
                        refine g_skip (i := 23) hA rfl (wanted_no hA rfl rfl (by rw [hc250]; simp [vb])) (by kernel_rfl) (.inr ((hI.sl [2, 3, 4, 0, 5, 6, 7] rfl).less ((((hle1.trans hi5.le).trans hi11.le).trans hle19).trans hle22) hi13.le)) rfl fun a hA => ?_
                        refine gE 24 hA rfl (.inr ((hI.sl [2, 3, 4, 0, 5, 6, 7] rfl).less ((((hle1.trans hi5.le).trans hi11.le).trans hle19).trans hle22) hi13.le)) (fun _ => r_pick_t hA rfl hc250 rfl) fun a hA => ?_
                        refine gN ?_
                        cases sJ H
                        exact ⟨μ34, vvc2, (hle22.trans hi13.le), (Slc.le hS19 (fun _ _ h => RTx.le hi13.le h) hi13.le), hA.sub ⟨rfl, rfl, rfl, rfl, rfl, rfl, trivial⟩, (hI.sl [2, 3, 4, 0, 5, 6, 7] rfl)⟩
                      · have hc250 := hc25; obtain ⟨hc25, H⟩ := dF H hc25
                        refine g_easy (i := 16) hA rfl (wanted_yes hA rfl rfl hc250) (by kernel_rfl) (.inr ((hI.sl [2, 3, 4, 0, 5, 6, 7] rfl).less ((((hle1.trans hi5.le).trans hi11.le).trans hle19).trans hle22) hi13.le)) (fun _ => r_mv hA rfl) rfl fun a hA => ?_
                        refine g_easy (i := 19) hA rfl (wanted_yes hA rfl rfl hc250) (by kernel_rfl) (.inr ((hI.sl [2, 3, 4, 0, 5, 6, 7] rfl).less ((((hle1.trans hi5.le).trans hi11.le).trans hle19).trans hle22) hi13.le)) (fun _ => r_mv hA rfl) rfl fun a hA => ?_
                        obtain ⟨_, hsl5⟩ := Slc.sv (Slc.le hS19 (fun _ _ h => RTx.le hi13.le h) hi13.le)
                        refine g_easy (i := 20) hA rfl (wanted_yes hA rfl rfl hc250) (by kernel_rfl) (.inr ((hI.sl [2, 3, 4, 0, 5, 6, 7] rfl).less ((((hle1.trans hi5.le).trans hi11.le).trans hle19).trans hle22) hi13.le)) (fun _ => r_slen Tryd.underlying35 hsl5 hA rfl) rfl fun a hA => ?_
                        refine g_easy (i := 21) hA rfl (wanted_yes hA rfl rfl hc250) (by kernel_rfl) (.inr ((hI.sl [2, 3, 4, 0, 5, 6, 7] rfl).less ((((hle1.trans hi5.le).trans hi11.le).trans hle19).trans hle22) hi13.le)) (fun _ => r_mv hA rfl) rfl fun a hA => ?_
                        refine g_easy (i := 22) hA rfl (wanted_yes hA rfl rfl hc250) (by kernel_rfl) (.inr ((hI.sl [2, 3, 4, 0, 5, 6, 7] rfl).less ((((hle1.trans hi5.le).trans hi11.le).trans hle19).trans hle22) hi13.le)) (fun _ => r_sub hA rfl rfl) rfl fun a hA => ?_
                        refine gF 17 rfl ?_
                        refine o_yes hA rfl rfl hc250 <| ?_
                        obtain ⟨r18, hr22, H⟩ := bB H
                        have hI := hI.sl [4, 2, 3, 0, 1, 5, 6, 7] rfl
                        refine o_call _ cf31 hA rfl (notes_Log_All.c μ34 _ hI.agr (⟨c17, c18, c19, c20⟩ : notesLog) vvc19 ccc19 ggc20 g13 wc17 wc18 wc19 wc20 (hI.handN 3) r18 hr22) rfl fun v32 a w hz43 hA => ?_
                        obtain ⟨_, cs18, rfl, hE18, hi15⟩ := hz43
                        have hI := hI.backN 3 hi15
                        have hI : Iv w0 [] μ μ34 [row 79 34 v32 r18.length cs18, cel g13 [[.int .i64 c17], [.int .i64 c18], [vvc19], [.map (some ggc20)]] 133, row 79 34 vvc19 c19.length ccc19, mpI ggc20 (ent kv131 vv131 c20), cel g12 [[.int .i64 c21], [.int .i64 c22], [vvc23]] 141, row 32 4 v30 r15.length cs17, row 44 33 (.slice (some ⟨g10, 0, none⟩) 1 1) ([(⟨0, (List.replicate 32 0)⟩ : Out)] : List Out).length cs14, row 42 35 (.slice (some ⟨g9, 0, none⟩) 1 1) ([(⟨(⟨(List.replicate 32 0), 0⟩ : Point), [], 0⟩ : In)] : List In).length cs13, row 37 69 vvc1 c1.length ccc1] w := hI
                        refine o_nil <| ⟨(.inr ((hI.sl [2, 3, 1, 4, 6, 7, 8] rfl).less ((((hle1.trans hi5.le).trans hi11.le).trans hle19).trans hle22) hi13.le)), ?_⟩
                        refine g_mono (I' := fun w => Iv w0 [] μ μ34 [row 79 34 v32 r18.length cs18, cel g13 [[.int .i64 c17], [.int .i64 c18], [vvc19], [.map (some ggc20)]] 133, row 79 34 vvc19 c19.length ccc19, mpI ggc20 (ent kv131 vv131 c20), cel g12 [[.int .i64 c21], [.int .i64 c22], [vvc23]] 141, row 32 4 v30 r15.length cs17, row 44 33 (.slice (some ⟨g10, 0, none⟩) 1 1) ([(⟨0, (List.replicate 32 0)⟩ : Out)] : List Out).length cs14, row 42 35 (.slice (some ⟨g9, 0, none⟩) 1 1) ([(⟨(⟨(List.replicate 32 0), 0⟩ : Point), [], 0⟩ : In)] : List In).length cs13, row 37 69 vvc1 c1.length ccc1] w) (fun w h => ((h.sl [2, 3, 1, 4, 6, 7, 8] rfl).less ((((hle1.trans hi5.le).trans hi11.le).trans hle19).trans hle22) hi13.le)) _ _ _ _ ?_
                        refine g_take (i := 18) hA rfl (wanted_yes hA rfl rfl hc250) (by kernel_rfl) hI (fun w hI => r_rlen (xs := 0) Tryd.underlying76 hI (j := 0) rfl hA rfl) rfl fun a hA => ?_
                        refine g_easy (i := 23) hA rfl (wanted_yes hA rfl rfl hc250) (by kernel_rfl) (.inr hI) (fun _ => r_neq hA rfl rfl) rfl fun a hA => ?_
                        refine gE 24 hA rfl (.inr hI) (fun _ => r_pick_f hA rfl hc250 rfl) fun a hA => ?_
                        refine gN ?_
                        cases sJ H
                        exact ⟨μ34, vvc2, (hle22.trans hi13.le), (Slc.le hS19 (fun _ _ h => RTx.le hi13.le h) hi13.le), hA.sub ⟨rfl, rfl, rfl, rfl, rfl, rfl, trivial⟩, (hI.sl [2, 3, 1, 4, 6, 7, 8] rfl)⟩
                  · rintro a w ⟨μ32, vvc24, hle21, wc24, hA, hI⟩
                    have H := Hk22
                    refine w_cond hA rfl (fun hc26 => ?_) (fun hc26 => ?_)
                    · have H := bT H hc26
                      refine w_seq fun _ hN63 => w_reg <| sta hA rfl rfl fun a hA => ?_
                      refine o_nil <| hN63 _ _ <| w_ret ?_
                      obtain rfl := sJ H
                      exact ret1 hA Tryd.results8 rfl ⟨_, rfl, rfl, trivial, hI.forget0⟩
                    · have hc26 := ft hc26; have H := bF H hc26
                      refine w_skip <| hN62 _ _ ?_
                      obtain ⟨⟨c26, c27, c28⟩, hz44, Hk23⟩ := bB H
                      refine w_cut (fun a w => ∃ (μ36 : Store) (vvc28 : Value), μ32.le μ36 ∧ InR .i64 c26 ∧ InR .i64 c27 ∧ Slc (RTx μ36) 4 μ36 vvc28 c28 ∧ Fr a 167 [(4, .bool false), (5, .bool r1), (13, .pointer (some ⟨g12, 0, none⟩))] ∧ Iv w0 [] μ μ36 [row 79 34 vvc19 c19.length ccc19, mpI ggc20 (ent kv131 vv131 c20), cel g13 [[.int .i64 c17], [.int .i64 c18], [vvc19], [.map (some ggc20)]] 133, cel g12 [[.int .i64 c26], [.int .i64 c27], [vvc28]] 141, row 44 33 (.slice (some ⟨g10, 0, none⟩) 1 1) ([(⟨0, (List.replicate 32 0)⟩ : Out)] : List Out).length cs14, row 42 35 (.slice (some ⟨g9, 0, none⟩) 1 1) ([(⟨(⟨(List.replicate 32 0), 0⟩ : Point), [], 0⟩ : In)] : List In).length cs13, row 37 69 vvc1 c1.length ccc1] w) ?_ ?_
                      · have H := bI hz44
                        refine w_seq fun _ hN64 => w_reg <| sta hA rfl rfl fun a hA => ?_
                        refine o_nil <| hN64 _ _ <| w_block ?_
                        obtain ⟨z8, hz45, Hk24⟩ := bind_some H
                        obtain ⟨n8, hn8⟩ := loopO_some hz45
                        refine w_loop (fun n a w => ∃ (s19 : Int) (s20 : Int) (s21 : Int) (s22 : List Tx) (μ37 : Store) (vvs22 : Value), loopN (sargassolaw24_RedoOrder.s5 c1) n (s19, s20, s21, s22) = some z8 ∧ μ32.le μ37 ∧ InR .i64 s19 ∧ InR .i64 s20 ∧ InR .i64 s21 ∧ Slc (RTx μ37) 4 μ37 vvs22 s22 ∧ Fr a 167 [(4, .bool false), (5, .bool r1), (6, vvc1), (13, .pointer (some ⟨g12, 0, none⟩)), (19, .int .i64 s19)] ∧ Iv w0 [] μ μ37 [row 79 34 vvc19 c19.length ccc19, mpI ggc20 (ent kv131 vv131 c20), cel g13 [[.int .i64 c17], [.int .i64 c18], [vvc19], [.map (some ggc20)]] 133, cel g12 [[.int .i64 s20], [.int .i64 s21], [vvs22]] 141, row 44 33 (.slice (some ⟨g10, 0, none⟩) 1 1) ([(⟨0, (List.replicate 32 0)⟩ : Out)] : List Out).length cs14, row 42 35 (.slice (some ⟨g9, 0, none⟩) 1 1) ([(⟨(⟨(List.replicate 32 0), 0⟩ : Point), [], 0⟩ : In)] : List In).length cs13, row 37 69 vvc1 c1.length ccc1] w) n8 ⟨0, c21, c22, c23, μ32, vvc23, hn8, (Store.le.refl _), (in_lit .i64 0 rfl), wc21, wc22, (Slc.le wc23 (fun _ _ h => RTx.le hle21 h) hle21), hA.sub ⟨rfl, rfl, rfl, rfl, rfl, trivial⟩, hI⟩ ?_
                        clear hA hI
                        rintro n a w ⟨s19, s20, s21, s22, μ37, vvs22, hn8, hle25, ws19, ws20, ws21, ws22, hA, hI⟩
                        obtain ⟨m8, rfl, H⟩ := loopN_bind hn8
                        clear hn8
                        refine w_seq fun _ hN65 => w_seq fun _ hN66 => w_reg <| stm hA rfl rfl fun a hA => 
                          stm hA rfl rfl fun a hA => ?_
                        have hlen12 := Iv.row_in hI (j := 6) rfl
                        refine stp hA (r_rlen (xs := 0) Tryd.underlying94 hI (j := 6) rfl hA rfl) rfl fun a hA => 
                          stp hA (r_lss hA rfl rfl) rfl fun a hA => ?_
                        refine o_nil <| hN66 _ _ <| w_cond hA rfl (fun hc27 => ?_) (fun hc27 => ?_)
                        · obtain ⟨hc27, H⟩ := dT H hc27
                          refine w_skip <| hN65 _ _ <| w_seq fun _ hN67 => w_block <| w_reg <| stm hA rfl rfl fun a hA => 
                            stm hA rfl rfl fun a hA => 
                            stm hA rfl rfl fun a hA => ?_
                          obtain ⟨hb14, H⟩ := bG H
                          refine stp hA (r_rix (j := 6) Tryd.underlying94 sz37 hI rfl hA rfl rfl hb14.1 hb14.2) rfl fun a hA => ?_
                          obtain ⟨A6, _, B6, hc28, hl6, _, he7⟩ := Els.at_ (Els.mono wc1 (fun _ _ h => RBlock.le ((((hi5.le.trans hi11.le).trans hle19).trans hle21).trans hle25) h)) (getD_some default hb14.1 hb14.2)
                          obtain ⟨v33, rfl, hw10⟩ := he7
                          refine stp hA (r_rldP (j := 6) (q := s19.toNat * 69) (off := 0) A6 B6 [] [[.int .u32 ((c1.getD s19.toNat default).Head.Version)], av .u8 32 ((c1.getD s19.toNat default).Head.Prev), av .u8 32 ((c1.getD s19.toNat default).Head.Root), [.int .u32 ((c1.getD s19.toNat default).Head.Time)], [.int .u32 ((c1.getD s19.toNat default).Head.Work)], [.int .u32 ((c1.getD s19.toNat default).Head.Nonce)], [v33]] [] hc28 hl6 rfl Tryd.underlying37 rfl sz37 rfl hI rfl hA rfl) rfl fun a hA => ?_
                          obtain ⟨r19, hr23, H⟩ := bB H
                          have hI := hI.sl [3, 0, 1, 2, 4, 5, 6] rfl
                          refine o_call _ cf46 hA rfl (redo_Redo_On.c μ37 _ hI.agr (⟨s20, s21, s22⟩ : redoRedo) vvs22 g12 ws20 ws21 ws22 (hI.handN 1) (c1.getD s19.toNat default) v33 ⟨hw10.1, hw10.2.1, hw10.2.2.1, hw10.2.2.2.1, hw10.2.2.2.2.1, hw10.2.2.2.2.2.1, hw10.2.2.2.2.2.2⟩ r19 hr23) rfl fun v34 a w hz46 hA => ?_
                          obtain ⟨vp7, μ38, rfl, hp22, hp23, hp24, hi16⟩ := hz46
                          have hI := hI.back1 hi16
                          refine o_nil <| hN67 _ _ <| w_reg <| stm hA rfl rfl fun a hA => 
                            stp hA (r_add hA rfl rfl) rfl fun a hA => 
                            sta hA rfl rfl fun a hA => ?_
                          refine o_nil <| ⟨m8, Nat.lt_succ_self _, IntKind.i64.wrap (s19 + 1), r19.most, r19.bytes, r19.l, μ38, vp7, H, (hle25.trans hi16.le), (wrap_in _ _), hp22, hp23, hp24, hA.sub ⟨rfl, rfl, rfl, rfl, rfl, trivial⟩, (hI.sl [1, 2, 3, 0, 4, 5, 6] rfl)⟩
                        · obtain ⟨hc27, H⟩ := dF H hc27
                          refine w_exit rfl ?_
                          have H : some (s20, s21, s22) = some z8 := H
                          obtain rfl := sI H
                          have H := Hk24
                          cases sJ H
                          exact ⟨μ37, vvs22, hle25, ws20, ws21, ws22, hA.sub ⟨rfl, rfl, rfl, trivial⟩, hI⟩
                      · rintro a w ⟨μ36, vvc28, hle24, wc26, wc27, wc28, hA, hI⟩
                        have H := Hk23
                        obtain ⟨c29, hz47, Hk25⟩ := bB H
                        refine w_cut (fun a w => ∃ (μ39 : Store), μ36.le μ39 ∧ Fr a 167 [(4, .bool c29)] ∧ Iv w0 [] μ μ39 [row 79 34 vvc19 c19.length ccc19, mpI ggc20 (ent kv131 vv131 c20), cel g13 [[.int .i64 c17], [.int .i64 c18], [vvc19], [.map (some ggc20)]] 133, cel g12 [[.int .i64 c26], [.int .i64 c27], [vvc28]] 141, row 44 33 (.slice (some ⟨g10, 0, none⟩) 1 1) ([(⟨0, (List.replicate 32 0)⟩ : Out)] : List Out).length cs14, row 42 35 (.slice (some ⟨g9, 0, none⟩) 1 1) ([(⟨(⟨(List.replicate 32 0), 0⟩ : Point), [], 0⟩ : In)] : List In).length cs13, row 37 69 vvc1 c1.length ccc1] w) ?_ ?_
                        · have H := bI hz47
                          refine w_reg <| stm hA rfl rfl fun a hA => 
                            stm hA rfl rfl fun a hA => ?_
                          rcases Bool.eq_false_or_eq_true r1 with hc29 | hc29
                          · have hc290 := hc29; have H := bT H hc29
                            refine o_yes hA rfl rfl hc290 <| 
                              stm hA rfl rfl fun a hA => 
                              o_yes hA rfl rfl hc290 <| ?_
                            obtain ⟨r20, hr24, H⟩ := bB H
                            have hI := hI.sl [3, 0, 1, 2, 4, 5, 6] rfl
                            refine o_call _ cf44 hA rfl (redo_Redo_All.c μ36 _ hI.agr (⟨c26, c27, c28⟩ : redoRedo) vvc28 g12 wc26 wc27 wc28 (hI.handN 1) r20 hr24) rfl fun v35 a w hz48 hA => ?_
                            obtain ⟨_, cs19, μ40, rfl, hE19, hi17⟩ := hz48
                            have hI := hI.backN 1 hi17
                            have hI : Iv w0 [] μ μ40 [row 32 4 v35 r20.length cs19, cel g12 [[.int .i64 c26], [.int .i64 c27], [vvc28]] 141, row 79 34 vvc19 c19.length ccc19, mpI ggc20 (ent kv131 vv131 c20), cel g13 [[.int .i64 c17], [.int .i64 c18], [vvc19], [.map (some ggc20)]] 133, row 44 33 (.slice (some ⟨g10, 0, none⟩) 1 1) ([(⟨0, (List.replicate 32 0)⟩ : Out)] : List Out).length cs14, row 42 35 (.slice (some ⟨g9, 0, none⟩) 1 1) ([(⟨(⟨(List.replicate 32 0), 0⟩ : Point), [], 0⟩ : In)] : List In).length cs13, row 37 69 vvc1 c1.length ccc1] w := hI
                            refine o_yes hA rfl rfl hc290 <| ?_
                            have hlen13 := Iv.row_in hI (j := 0) rfl
                            refine stp hA (r_rlen (xs := 0) Tryd.underlying35 hI (j := 0) rfl hA rfl) rfl fun a hA => 
                              o_yes hA rfl rfl hc290 <| 
                              stp hA (r_eql hA rfl rfl) rfl fun a hA => 
                              stp hA (r_pick_t hA rfl hc290 rfl) rfl fun a hA => 
                              sta hA rfl rfl fun a hA => ?_
                            refine o_nil ?_
                            cases sJ H
                            exact ⟨μ40, hi17.le, hA.sub ⟨rfl, trivial⟩, (hI.sl [2, 3, 4, 1, 5, 6, 7] rfl)⟩
                          · have hc290 := hc29; have hc29 := ft hc29; have H := bF H hc29
                            refine o_no hA rfl rfl (by rw [hc290]; simp [vb]) rfl fun a hA => 
                              o_no hA rfl rfl (by rw [hc290]; simp [vb]) rfl fun a hA => 
                              o_no hA rfl rfl (by rw [hc290]; simp [vb]) rfl fun a hA => 
                              o_no hA rfl rfl (by rw [hc290]; simp [vb]) rfl fun a hA => 
                              stp hA (r_pick_f hA rfl hc290 rfl) rfl fun a hA => 
                              sta hA rfl rfl fun a hA => ?_
                            refine o_nil ?_
                            cases sJ H
                            exact ⟨μ36, (Store.le.refl _), hA.sub ⟨rfl, trivial⟩, hI⟩
                        · rintro a w ⟨μ39, hle26, hA, hI⟩
                          have H := Hk25
                          refine w_ret ?_
                          obtain rfl := sJ H
                          exact ret1 hA Tryd.results8 rfl ⟨_, rfl, rfl, trivial, hI.forget0⟩
end Go.Proofs.YtcpdnoochieecaaDoor.T
namespace Go.Proofs.YtcpdnoochieecaaDoor.T
open Go Go.Proofs Go.Proofs.YtcpdnoochieecaaDoor.K
set_option linter.unusedVariables false
theorem w64 {x : Int} (h0 : -9223372036854775808 ≤ x) (h1 : x < 9223372036854775808) : IntKind.i64.wrap x = x := wrap_id ⟨h0, h1⟩
theorem wu64 {x : Int} (h0 : 0 ≤ x) (h1 : x < 18446744073709551616) : IntKind.u64.wrap x = x := wrap_id ⟨h0, h1⟩
theorem number_eq {x n : Int} (hx : InR .i64 x) (h0 : 0 < n) (h1 : n < 9223372036854775808) : ∃ y, sargassoworld_Number.f x n = some y ∧ 0 ≤ y ∧ y < n := by
  obtain ⟨a, b⟩ := hx
  have hn : n ≠ 0 := by omega
  unfold sargassoworld_Number.f
  rw [if_pos hn]
  have hb : -n < Int.tmod x n ∧ Int.tmod x n < n := by
    rcases Int.le_total 0 x with h | h
    · rw [Int.tmod_eq_emod_of_nonneg h]; have := Int.emod_nonneg x hn; have := Int.emod_lt_of_pos x h0; omega
    · have e : Int.tmod x n = -(Int.tmod (-x) n) := by rw [Int.neg_tmod, Int.neg_neg]
      rw [e, Int.tmod_eq_emod_of_nonneg (by omega)]; have := Int.emod_nonneg (-x) hn; have := Int.emod_lt_of_pos (-x) h0; omega
  by_cases hc : Int.tmod x n < 0
  · rw [if_pos hc]
    exact ⟨_, rfl, by rw [w64 (by omega) (by omega)]; omega, by rw [w64 (by omega) (by omega)]; omega⟩
  · rw [if_neg hc]
    exact ⟨_, rfl, by omega, by omega⟩
end Go.Proofs.YtcpdnoochieecaaDoor.T
namespace Go.Proofs.YtcpdnoochieecaaDoor.T
open Go Go.Proofs Go.Proofs.YtcpdnoochieecaaDoor.K
set_option linter.unusedVariables false
set_option linter.unusedSimpArgs false
theorem loop_idx {τ ρ : Type} {step : τ → Option (τ ⊕ ρ)} (st : Nat → τ) (n : Nat) (h : ∀ i, i < n → step (st i) = some (.inl (st (i + 1)))) : loopO step (st 0) = loopO step (st n) := by
  induction n with
  | zero => rfl
  | succ n ih => rw [ih (fun i hi => h i (by omega)), loopO_inl (h n (by omega))]
theorem loop_run {τ ρ : Type} {step : τ → Option (τ ⊕ ρ)} (st : Nat → τ) (n : Nat) {r : ρ} {s : τ} (h0 : s = st 0) (h : ∀ i, i < n → step (st i) = some (.inl (st (i + 1)))) (hn : step (st n) = some (.inr r)) : loopO step s = some r := by
  rw [h0, loop_idx st n h, loopO_inr hn]
theorem bv_nat (n a : Nat) (h : a < 2 ^ n) : (BitVec.ofInt n (a : Int)).toNat = a := by
  rw [BitVec.toNat_ofInt]
  have : ((a : Int) % ((2 ^ n : Nat) : Int)) = a := Int.emod_eq_of_lt (by omega) (by exact_mod_cast h)
  rw [this]
  rfl
theorem in_u (k : IntKind) (hk : k.signed = false) {a : Nat} (h : a < 2 ^ k.bits) : InR k (a : Int) := by
  cases k <;> simp [IntKind.signed] at hk <;> simp [IntKind.bits] at h <;> simp [InR] <;> omega
theorem bAnd_nat (k : IntKind) (hk : k.signed = false) {a b : Nat} (ha : a < 2 ^ k.bits) (hb : b < 2 ^ k.bits) : bAnd k a b = ((a &&& b : Nat) : Int) := by
  unfold bAnd
  rw [BitVec.toNat_and, bv_nat _ _ ha, bv_nat _ _ hb]
  exact wrap_id (in_u k hk (Nat.lt_of_le_of_lt Nat.and_le_left ha))
theorem sR_nat (k : IntKind) {a n : Nat} (hn : n ≤ k.bits) : sR k (a : Int) (n : Int) = ((a >>> n : Nat) : Int) := by
  unfold sR
  have e : min (n : Int).toNat k.bits = n := by simp; omega
  rw [e, Nat.shiftRight_eq_div_pow]
  rw [Int.fdiv_eq_ediv_of_nonneg _ (by exact Int.pow_nonneg (by omega))]
  push_cast
  rfl
theorem and_low (n i : Nat) : n &&& (2 ^ i - 1) = n % 2 ^ i := Nat.and_two_pow_sub_one_eq_mod n i
end Go.Proofs.YtcpdnoochieecaaDoor.T
namespace Go.Proofs.YtcpdnoochieecaaDoor.T
open Go Go.Proofs Go.Proofs.YtcpdnoochieecaaDoor.K
set_option linter.unusedVariables false
set_option linter.unusedSimpArgs false
def rotr (x n : Int) : Int := bOr .u32 (sR .u32 x n) (sL .u32 x (32 - n))
def wordAt (b : List Int) (p : Nat) : Int :=
  bOr .u32 (bOr .u32 (bOr .u32 (sL .u32 (IntKind.u32.wrap (b.getD p 0)) 24) (sL .u32 (IntKind.u32.wrap (b.getD (p + 1) 0)) 16)) (sL .u32 (IntKind.u32.wrap (b.getD (p + 2) 0)) 8)) (IntKind.u32.wrap (b.getD (p + 3) 0))
def sg0 (y : Int) : Int := bXor .u32 (bXor .u32 (rotr y 7) (rotr y 18)) (sR .u32 y 3)
def sg1 (x : Int) : Int := bXor .u32 (bXor .u32 (rotr x 17) (rotr x 19)) (sR .u32 x 10)
def schedVal (b : List Int) (p : Nat) (w : List Int) (t : Nat) : Int :=
  if t < 16 then wordAt b (p + 4 * t) else IntKind.u32.wrap (w.getD (t - 16) 0 + sg0 (w.getD (t - 15) 0) + w.getD (t - 7) 0 + sg1 (w.getD (t - 2) 0))
def schedR (b : List Int) (p : Nat) : Nat → List Int
  | 0 => List.replicate 64 0
  | t + 1 => (fun w => w.set t (schedVal b p w t)) (schedR b p t)
def kc : List Int := digest_keys.lit0
def rt1 (x : List Int) (k w : Int) : Int := IntKind.u32.wrap (x.getD 7 0 + bXor .u32 (bXor .u32 (rotr (x.getD 4 0) 6) (rotr (x.getD 4 0) 11)) (rotr (x.getD 4 0) 25) + bXor .u32 (bAnd .u32 (x.getD 4 0) (x.getD 5 0)) (bAnd .u32 (bNot .u32 (x.getD 4 0)) (x.getD 6 0)) + k + w)
def rt2 (x : List Int) : Int := bXor .u32 (bXor .u32 (rotr (x.getD 0 0) 2) (rotr (x.getD 0 0) 13)) (rotr (x.getD 0 0) 22) + bXor .u32 (bXor .u32 (bAnd .u32 (x.getD 0 0) (x.getD 1 0)) (bAnd .u32 (x.getD 0 0) (x.getD 2 0))) (bAnd .u32 (x.getD 1 0) (x.getD 2 0))
def rstep (x : List Int) (k w : Int) : List Int :=
  [IntKind.u32.wrap (rt1 x k w + rt2 x), x.getD 0 0, x.getD 1 0, x.getD 2 0, IntKind.u32.wrap (x.getD 3 0 + rt1 x k w), x.getD 4 0, x.getD 5 0, x.getD 6 0]
def roundR (w s : List Int) : Nat → List Int
  | 0 => s
  | t + 1 => rstep (roundR w s t) (kc.getD t 0) (w.getD t 0)
def addR (x s : List Int) : Nat → List Int
  | 0 => s
  | i + 1 => (fun z => z.set i (IntKind.u32.wrap (z.getD i 0 + x.getD i 0))) (addR x s i)
def mixV (s b : List Int) (p : Nat) : List Int := addR (roundR (schedR b p 64) s 64) s 8
def blocksR (m s : List Int) : Nat → List Int
  | 0 => s
  | n + 1 => mixV (blocksR m s n) m (64 * n)
def iv0 : List Int := [1779033703, 3144134277, 1013904242, 2773480762, 1359893119, 2600822924, 528734635, 1541459225]
def outB (s : List Int) (i : Nat) : Int := IntKind.u8.wrap (sR .u32 (s.getD (i / 4) 0) (24 - 8 * ((i % 4 : Nat) : Int)))
def outL (s : List Int) : List Int := (List.range 32).map (outB s)
def zs (n : Nat) : Nat := (120 - n % 64) % 64
def lenB (n i : Nat) : Int := IntKind.u8.wrap (sR .u64 (IntKind.u64.wrap (8 * (n : Int))) (8 * (7 - (i : Int))))
def padR (m : List Int) : List Int := m ++ ([128] ++ (List.replicate (zs (m.length + 1)) 0 ++ (List.range 8).map (lenB m.length)))
def sha (m : List Int) : List Int := outL (blocksR (padR m) iv0 ((padR m).length / 64))
end Go.Proofs.YtcpdnoochieecaaDoor.T
namespace Go.Proofs.YtcpdnoochieecaaDoor.T
open Go Go.Proofs Go.Proofs.YtcpdnoochieecaaDoor.K
set_option linter.unusedVariables false
set_option linter.unusedSimpArgs false
theorem u32e (x : Int) : IntKind.u32.wrap x = x % 4294967296 := by simp [IntKind.wrap, IntKind.signed, IntKind.bits]
theorem wl (a b : Int) : IntKind.u32.wrap (IntKind.u32.wrap a + b) = IntKind.u32.wrap (a + b) := by simp only [u32e]; omega
theorem wr (a b : Int) : IntKind.u32.wrap (a + IntKind.u32.wrap b) = IntKind.u32.wrap (a + b) := by simp only [u32e]; omega
theorem bOr_comm (k : IntKind) (a b : Int) : bOr k a b = bOr k b a := by unfold bOr; rw [BitVec.or_comm]
theorem turn_f (x n : Int) (h0 : 0 < n) (h1 : n < 32) : digest_turn.f x n = some (rotr x n) := by
  simp only [digest_turn.f, math_bits_RotateLeft32.f, rotr]
  have e1 : IntKind.i64.wrap (0 - n) = -n := by rw [w64 (by omega) (by omega)]; omega
  have e2 : IntKind.u64.wrap (-n) = 18446744073709551616 - n := by
    simp [IntKind.wrap, IntKind.signed, IntKind.bits]
    omega
  obtain ⟨m, rfl⟩ : ∃ m : Nat, n = m := ⟨n.toNat, by omega⟩
  have e3 : bAnd .u64 (18446744073709551616 - (m : Int)) 31 = 32 - (m : Int) := by
    have h := bAnd_nat .u64 rfl (a := 18446744073709551616 - m) (b := 31) (by simp [IntKind.bits]; omega) (by simp [IntKind.bits])
    have e : ((18446744073709551616 - m : Nat) : Int) = 18446744073709551616 - (m : Int) := by omega
    rw [e] at h
    have h' : (18446744073709551616 - m) &&& 31 = (18446744073709551616 - m) % 32 := and_low _ 5
    rw [h'] at h
    rw [show ((31 : Nat) : Int) = 31 from rfl] at h
    rw [h]
    omega
  rw [e1, e2, e3, wu64 (x := 32 - (32 - (m : Int))) (by omega) (by omega), if_pos (by omega), if_pos (by omega)]
  have e4 : 32 - (32 - (m : Int)) = m := by omega
  rw [e4, bOr_comm]
  rfl
theorem getD_drop' (l : List Int) (a i : Nat) : (l.drop a).getD i 0 = l.getD (a + i) 0 := by simp [List.getD]
theorem getD_take' (l : List Int) (a i : Nat) (h : i < a) : (l.take a).getD i 0 = l.getD i 0 := by simp [List.getD, h]
theorem wsub (i c : Nat) (hc : c ≤ i) (hi : i < 1000) : IntKind.i64.wrap ((i : Int) - (c : Nat)) = ((i - c : Nat) : Int) := by
  rw [w64 (by omega) (by omega)]; omega
theorem wadd1 (i : Nat) (hi : i < 9223372036854775807) : IntKind.i64.wrap ((i : Int) + 1) = ((i + 1 : Nat) : Int) := by
  rw [w64 (by omega) (by omega)]; omega
theorem wmul4 (i : Nat) (hi : i < 1000) : IntKind.i64.wrap (4 * (i : Int)) = ((4 * i : Nat) : Int) := by
  rw [w64 (by omega) (by omega)]; omega
theorem spread_step (b : List Int) (h : b.length = 64) (w : List Int) (i : Nat) (hi : i < 64) : digest_spread.s0 b ((i : Int), w) = some (.inl (((i + 1 : Nat) : Int), w.set i (schedVal b 0 w i))) := by
  simp only [digest_spread.s0]
  rw [if_pos (by omega)]
  by_cases h16 : i < 16
  · have hl : (b.take ((b.length : Int)).toNat).drop (IntKind.i64.wrap (4 * (i : Int))).toNat = b.drop (4 * i) := by
      rw [wmul4 i (by omega), Int.toNat_natCast, Int.toNat_natCast, List.take_length]
    have hll : (b.drop (4 * i)).length = 64 - 4 * i := by simp [h]
    rw [if_pos (by omega), hl, hll, wmul4 i (by omega), if_pos (by omega), if_pos (by omega), if_pos (by omega), if_pos (by omega), if_pos (by omega), if_pos (by omega)]
    simp only [Option.bind_some, getD_drop', Int.toNat_natCast]
    rw [wadd1 i (by omega)]
    simp only [schedVal, if_pos h16, wordAt, Nat.zero_add]
    rfl
  · have e2 := wsub i 2 (by omega) (by omega)
    have e7 := wsub i 7 (by omega) (by omega)
    have e15 := wsub i 15 (by omega) (by omega)
    have e16 := wsub i 16 (by omega) (by omega)
    simp only [show ((2 : Nat) : Int) = 2 from rfl, show ((7 : Nat) : Int) = 7 from rfl, show ((15 : Nat) : Int) = 15 from rfl, show ((16 : Nat) : Int) = 16 from rfl] at e2 e7 e15 e16
    rw [if_neg (by omega), e2, e7, e15, e16, if_pos (by omega), if_pos (by omega), if_pos (by omega), if_pos (by omega)]
    simp only [Int.toNat_natCast, turn_f _ 17 (by omega) (by omega), turn_f _ 19 (by omega) (by omega), turn_f _ 7 (by omega) (by omega), turn_f _ 18 (by omega) (by omega), Option.bind_some]
    rw [if_pos (by omega), wadd1 i (by omega)]
    simp only [Option.bind_some, schedVal, if_neg h16, sg0, sg1]
    congr 4
    simp only [wl, wr]
    congr 1
    omega
theorem spread_eq (b : List Int) (h : b.length = 64) : digest_spread.f b = some (schedR b 0 64) := by
  simp only [digest_spread.f]
  have e := loop_run (step := digest_spread.s0 b) (s := (0, List.replicate 64 0)) (fun i => ((i : Int), schedR b 0 i)) 64 (r := schedR b 0 64) rfl (fun i hi => by
    rw [spread_step b h _ i hi]
    rfl) (by simp only [digest_spread.s0]; rw [if_neg (by decide)])
  rw [e]
  rfl
theorem mix0_step (w x : List Int) (i : Nat) (hi : i < 64) : digest_mix.s0 w digest_keys.lit0 ((i : Int), x) = some (.inl (((i + 1 : Nat) : Int), rstep x (kc.getD i 0) (w.getD i 0))) := by
  simp only [digest_mix.s0]
  rw [if_pos (by omega)]
  simp only [turn_f _ 6 (by omega) (by omega), turn_f _ 11 (by omega) (by omega), turn_f _ 25 (by omega) (by omega), turn_f _ 2 (by omega) (by omega), turn_f _ 13 (by omega) (by omega), turn_f _ 22 (by omega) (by omega), Option.bind_some, Int.toNat_natCast]
  rw [if_pos (by omega), wadd1 i (by omega)]
  simp only [rstep, rt1, rt2, kc, wl, wr, show (0 : Int).toNat = 0 from rfl, show (1 : Int).toNat = 1 from rfl, show (2 : Int).toNat = 2 from rfl, show (3 : Int).toNat = 3 from rfl, show (4 : Int).toNat = 4 from rfl, show (5 : Int).toNat = 5 from rfl, show (6 : Int).toNat = 6 from rfl, show (7 : Int).toNat = 7 from rfl]
theorem mix_eq (s b : List Int) (h : b.length = 64) : digest_mix.f s b = some (mixV s b 0) := by
  simp only [digest_mix.f, spread_eq b h, digest_keys.f, Option.bind_some]
  have e := loop_run (step := digest_mix.s0 (schedR b 0 64) digest_keys.lit0) (s := (0, s)) (fun i => ((i : Int), roundR (schedR b 0 64) s i)) 64 (r := roundR (schedR b 0 64) s 64) rfl (fun i hi => by
    rw [mix0_step _ _ i hi]
    rfl) (by simp only [digest_mix.s0]; rw [if_neg (by decide)])
  rw [e]
  simp only [Option.bind_some]
  have e := loop_run (step := digest_mix.s1 (roundR (schedR b 0 64) s 64)) (s := (0, s)) (fun i => ((i : Int), addR (roundR (schedR b 0 64) s 64) s i)) 8 (r := mixV s b 0) rfl (fun i hi => by
    simp only [digest_mix.s1]
    rw [if_pos (by omega), if_pos (by omega), wadd1 i (by omega)]
    simp only [Int.toNat_natCast, addR]) (by simp only [digest_mix.s1]; rw [if_neg (by decide)]; rfl)
  rw [e]
  rfl
theorem wordAt_in (m : List Int) (a n t : Nat) (h : t < 16) : wordAt ((m.take (a + 64)).drop a) (4 * t) = wordAt m (a + 4 * t) := by
  have e : ∀ j, j < 64 → ((m.take (a + 64)).drop a).getD j 0 = m.getD (a + j) 0 := fun j hj => by
    rw [getD_drop', getD_take' _ _ _ (by omega)]
  simp only [wordAt]
  rw [e _ (by omega), e _ (by omega), e _ (by omega), e _ (by omega)]
  simp only [Nat.add_assoc]
theorem schedR_in (m : List Int) (a t : Nat) : schedR ((m.take (a + 64)).drop a) 0 t = schedR m a t := by
  induction t with
  | zero => rfl
  | succ t ih =>
    simp only [schedR, ih]
    congr 1
    simp only [schedVal]
    by_cases h : t < 16
    · simp only [if_pos h, Nat.zero_add]
      exact wordAt_in m a 0 t h
    · simp only [if_neg h]
theorem mixV_in (s m : List Int) (a : Nat) : mixV s ((m.take (a + 64)).drop a) 0 = mixV s m a := by
  simp only [mixV, schedR_in]
theorem wordAt_app (m l : List Int) (p : Nat) (h : p + 3 < m.length) : wordAt (m ++ l) p = wordAt m p := by
  have e : ∀ j, j < m.length → (m ++ l).getD j 0 = m.getD j 0 := fun j hj => by simp [List.getD, List.getElem?_append_left hj]
  simp only [wordAt]
  rw [e _ (by omega), e _ (by omega), e _ (by omega), e _ (by omega)]
theorem schedR_app (m l : List Int) (p t : Nat) (h : p + 64 ≤ m.length) : schedR (m ++ l) p t = schedR m p t := by
  induction t with
  | zero => rfl
  | succ t ih =>
    simp only [schedR, ih]
    congr 1
    simp only [schedVal]
    by_cases h : t < 16
    · simp only [if_pos h]
      exact wordAt_app m l _ (by omega)
    · simp only [if_neg h]
theorem blocksR_app (m l s : List Int) (n : Nat) (h : 64 * n ≤ m.length) : blocksR (m ++ l) s n = blocksR m s n := by
  induction n with
  | zero => rfl
  | succ n ih =>
    simp only [blocksR, ih (by omega), mixV]
    rw [schedR_app _ _ _ _ (by omega)]
theorem mixV_drop (s m : List Int) (q a : Nat) : mixV s (m.drop q) a = mixV s m (q + a) := by
  have hw : ∀ p, wordAt (m.drop q) p = wordAt m (q + p) := fun p => by
    simp only [wordAt, getD_drop', Nat.add_assoc]
  have hs : ∀ t, schedR (m.drop q) a t = schedR m (q + a) t := fun t => by
    induction t with
    | zero => rfl
    | succ t ih =>
      simp only [schedR, ih]
      congr 1
      simp only [schedVal, hw, Nat.add_assoc]
  simp only [mixV, hs]
end Go.Proofs.YtcpdnoochieecaaDoor.T
namespace Go.Proofs.YtcpdnoochieecaaDoor.T
open Go Go.Proofs Go.Proofs.YtcpdnoochieecaaDoor.K
set_option linter.unusedVariables false
set_option linter.unusedSimpArgs false
def WIn (w : digestWriter) (m : List Int) : Prop := w.n = m.length ∧ w.rest = m.drop (64 * (m.length / 64)) ∧ (64 ≤ m.length → w.s = blocksR m iv0 (m.length / 64))
theorem clone_eq (xs : List Int) (h : xs.length ≤ 140737488355328) : bytes_Clone.f xs = some xs := by
  unfold bytes_Clone.f
  rw [if_pos h]
theorem state_eq {w : digestWriter} {m : List Int} (h : WIn w m) : digest_Writer_state.f w = some (blocksR m iv0 (m.length / 64)) := by
  obtain ⟨h1, h2, h3⟩ := h
  simp only [digest_Writer_state.f, digest_begin.f, Option.bind_some, h1]
  by_cases hc : m.length < 64
  · rw [if_pos (by omega), Nat.div_eq_of_lt hc]
    rfl
  · rw [if_neg (by omega), h3 (by omega)]
theorem write_eq {w : digestWriter} {m b : List Int} (h : WIn w m) (hb : m.length + b.length ≤ 1000000) : ∃ w', digest_Writer_Write.f w b = some w' ∧ WIn w' (m ++ b) := by
  have hs := state_eq h
  obtain ⟨h1, h2, h3⟩ := h
  generalize hq : m.length / 64 = q at hs h2
  have hq1 : 64 * q ≤ m.length := by omega
  have hR : w.rest ++ b = (m ++ b).drop (64 * q) := by rw [h2, List.drop_append_of_le_length hq1]
  have hRl : (w.rest ++ b).length = m.length + b.length - 64 * q := by rw [hR]; simp
  generalize hRe : w.rest ++ b = R at hR hRl
  generalize hc : R.length / 64 = c
  have hloop : loopO digest_Writer_Write.s0 (0, blocksR m iv0 q, R) = some (((64 * c : Nat) : Int), blocksR (m ++ b) iv0 (q + c), R) := by
    refine loop_run (fun i => (((64 * i : Nat) : Int), blocksR (m ++ b) iv0 (q + i), R)) c ?_ (fun i hi => ?_) ?_
    · rw [Nat.add_zero, blocksR_app _ _ _ _ hq1]; rfl
    · simp only [digest_Writer_Write.s0]
      have e : IntKind.i64.wrap (((64 * i : Nat) : Int) + 64) = ((64 * i + 64 : Nat) : Int) := by rw [w64 (by omega) (by omega)]; omega
      rw [e, if_pos (by omega), if_pos (by omega), Int.toNat_natCast, Int.toNat_natCast, mix_eq _ _ (by simp; omega)]
      simp only [Option.bind_some]
      rw [mixV_in, hR, mixV_drop, ← Nat.mul_add]
      rfl
    · simp only [digest_Writer_Write.s0]
      rw [w64 (by omega) (by omega), if_neg (by omega)]
  refine ⟨⟨blocksR (m ++ b) iv0 (q + c), R.drop (64 * c), m.length + b.length⟩, ?_, by simp, ?_, fun _ => ?_⟩
  · simp only [digest_Writer_Write.f]
    have hs' : digest_Writer_state.f ⟨w.s, w.rest, w.n⟩ = some (blocksR m iv0 q) := hs
    have hw : w.rest.length + b.length = R.length := by rw [← hRe, List.length_append]
    rw [hs', hRe, hw]
    simp only [Option.bind_some]
    rw [if_pos (by omega), hloop]
    simp only [Option.bind_some]
    rw [if_pos (by omega), Int.toNat_natCast, Int.toNat_natCast, List.take_length, clone_eq _ (by simp; omega)]
    simp only [Option.bind_some]
    rw [h1, w64 (by omega) (by omega)]
  · have : 64 * ((m ++ b).length / 64) = 64 * q + 64 * c := by rw [List.length_append]; omega
    rw [this, hR, List.drop_drop]
  · have : (m ++ b).length / 64 = q + c := by rw [List.length_append]; omega
    rw [this]
theorem set_next {α : Type} (f : Nat → α) (n j : Nat) (z : α) (h : j < n) : ((List.range j).map f ++ List.replicate (n - j) z).set j (f j) = (List.range (j + 1)).map f ++ List.replicate (n - (j + 1)) z := by
  obtain ⟨k, hk⟩ : ∃ k, n - j = k + 1 := ⟨n - j - 1, by omega⟩
  have hk' : n - (j + 1) = k := by omega
  rw [hk, hk', List.set_append_right _ _ (by simp), List.range_succ, List.map_append, List.append_assoc]
  simp [List.replicate_succ]
theorem zeros_loop (step : List Int → Option (List Int ⊕ List Int)) (hs : ∀ l, step l = (if (Int.tmod (l.length : Int) 64) ≠ 56 then (if l.length + 1 ≤ 140737488355328 then some (.inl (l ++ ([0] : List Int))) else none) else some (.inr l)))
    (l : List Int) (h : l.length ≤ 2000000) : loopO step l = some (l ++ List.replicate (zs l.length) 0) := by
  refine loop_run (fun i => l ++ List.replicate i 0) (zs l.length) (by simp) (fun i hi => ?_) ?_
  · rw [hs, if_pos ?_, if_pos (by simp [zs] at hi ⊢; omega)]
    · simp [List.replicate_succ', List.append_assoc]
    · rw [List.length_append, List.length_replicate, Int.tmod_eq_emod_of_nonneg (by omega)]
      simp only [zs] at hi
      omega
  · rw [hs, if_neg ?_]
    rw [List.length_append, List.length_replicate, Int.tmod_eq_emod_of_nonneg (by omega)]
    simp only [zs]
    omega
theorem range_map_succ {α : Type} (f : Nat → α) (i : Nat) : (List.range (i + 1)).map f = (List.range i).map f ++ [f i] := by rw [List.range_succ, List.map_append]; rfl
theorem lenB_digest (n i : Nat) (hn : n ≤ 1000000) (hi : i < 8) : IntKind.u8.wrap (sR .u64 (sL .u64 (IntKind.u64.wrap (n : Int)) 3) (IntKind.i64.wrap (8 * (7 - (i : Int))))) = lenB n i := by
  have e1 : sL .u64 (IntKind.u64.wrap (n : Int)) 3 = IntKind.u64.wrap (8 * (n : Int)) := by
    rw [wu64 (by omega) (by omega)]
    simp only [sL, show (3 : Int).toNat = 3 from rfl]
    rw [show ((2 : Int) ^ (min 3 IntKind.u64.bits)) = 8 from rfl, Int.mul_comm]
  rw [e1, w64 (by omega) (by omega)]
  rfl
theorem padR_len (m : List Int) : (padR m).length = m.length + 1 + zs (m.length + 1) + 8 := by
  simp [padR]; omega
theorem padR_mod (m : List Int) : (padR m).length % 64 = 0 := by
  rw [padR_len]; simp only [zs]; omega
theorem out_eq4 (s : List Int) (i : Nat) (hi : i < 8) : loopO (digest_Writer_Sum.s4 s (i : Int)) (0, (List.range (4 * i)).map (outB s) ++ List.replicate (32 - 4 * i) 0) = some ((List.range (4 * (i + 1))).map (outB s) ++ List.replicate (32 - 4 * (i + 1)) 0) := by
  refine loop_run (fun k => ((k : Int), (List.range (4 * i + k)).map (outB s) ++ List.replicate (32 - (4 * i + k)) 0)) 4 (by simp) (fun k hk => ?_) ?_
  · simp only [digest_Writer_Sum.s4]
    have e1 : IntKind.i64.wrap (24 - IntKind.i64.wrap (8 * (k : Int))) = 24 - 8 * (k : Int) := by
      rw [w64 (x := 8 * (k : Int)) (by omega) (by omega), w64 (by omega) (by omega)]
    have e2 : IntKind.i64.wrap (IntKind.i64.wrap (4 * (i : Int)) + (k : Int)) = ((4 * i + k : Nat) : Int) := by
      rw [w64 (x := 4 * (i : Int)) (by omega) (by omega), w64 (by omega) (by omega)]; omega
    rw [if_pos (by omega), e1, e2, if_pos (by omega), if_pos (by omega), wadd1 k (by omega), Int.toNat_natCast, Int.toNat_natCast]
    have e3 : IntKind.u8.wrap (sR .u32 (s.getD i 0) (24 - 8 * (k : Int))) = outB s (4 * i + k) := by
      have a1 : (4 * i + k) / 4 = i := by omega
      have a2 : (4 * i + k) % 4 = k := by omega
      simp only [outB, a1, a2]
    rw [e3, set_next _ _ _ _ (by omega)]
    rfl
  · simp only [digest_Writer_Sum.s4]
    rw [if_neg (by decide)]
    rfl
theorem out_eq (s : List Int) : loopO (digest_Writer_Sum.s3 s) (0, List.replicate 32 0) = some (outL s) := by
  refine loop_run (fun i => ((i : Int), (List.range (4 * i)).map (outB s) ++ List.replicate (32 - 4 * i) 0)) 8 (by simp) (fun i hi => ?_) ?_
  · simp only [digest_Writer_Sum.s3]
    rw [if_pos (by omega), if_pos (by omega), out_eq4 s i hi]
    simp only [Option.bind_some]
    rw [wadd1 i (by omega)]
  · simp only [digest_Writer_Sum.s3]
    rw [if_neg (by decide)]
    rfl
theorem sum_eq' {w : digestWriter} {m : List Int} (h : WIn w m) (hb : m.length ≤ 1000000) : digest_Writer_Sum.f w = some (sha m) := by
  have hs := state_eq h
  obtain ⟨h1, h2, h3⟩ := h
  generalize hq : m.length / 64 = q at hs h2
  have hq1 : 64 * q ≤ m.length := by omega
  have hrl : w.rest.length = m.length - 64 * q := by rw [h2]; simp
  have hz : zs (w.rest ++ [128]).length = zs (m.length + 1) := by simp only [List.length_append, hrl, zs, List.length_cons, List.length_nil]; omega
  have hz64 : zs (m.length + 1) < 64 := by simp only [zs]; omega
  have hC : w.rest ++ [128] ++ List.replicate (zs (m.length + 1)) 0 ++ (List.range 8).map (lenB m.length) = (padR m).drop (64 * q) := by
    rw [h2, padR, List.drop_append_of_le_length hq1]
    simp only [List.append_assoc]
  have hl1 : loopO (digest_Writer_Sum.s1 w) (w.rest ++ [128] ++ List.replicate (zs (m.length + 1)) 0, 7) = some ((padR m).drop (64 * q)) := by
    refine loop_run (fun i => (w.rest ++ [128] ++ List.replicate (zs (m.length + 1)) 0 ++ (List.range i).map (lenB m.length), 7 - (i : Int))) 8 (by simp) (fun i hi => ?_) ?_
    · simp only [digest_Writer_Sum.s1]
      rw [if_pos (by omega), if_pos (by rw [w64 (by omega) (by omega)]; omega), if_pos (by simp; omega), h1, lenB_digest _ _ hb hi, w64 (by omega) (by omega)]
      congr 2
      rw [range_map_succ, ← List.append_assoc]
      congr 1
      omega
    · simp only [digest_Writer_Sum.s1]
      rw [if_neg (by decide), hC]
  have hpl := padR_len m
  have hpm := padR_mod m
  have hCl : ((padR m).drop (64 * q)).length = (padR m).length - 64 * q := by simp
  generalize hc : ((padR m).drop (64 * q)).length / 64 = c at *
  have hl2 : loopO digest_Writer_Sum.s2 ((padR m).drop (64 * q), 0, blocksR m iv0 q) = some ((padR m).drop (64 * q), blocksR (padR m) iv0 (q + c)) := by
    refine loop_run (fun i => ((padR m).drop (64 * q), ((64 * i : Nat) : Int), blocksR (padR m) iv0 (q + i))) c ?_ (fun i hi => ?_) ?_
    · rw [Nat.add_zero]
      have : blocksR (padR m) iv0 q = blocksR m iv0 q := blocksR_app _ _ _ _ hq1
      rw [this]; rfl
    · simp only [digest_Writer_Sum.s2]
      have e : IntKind.i64.wrap (((64 * i : Nat) : Int) + 64) = ((64 * i + 64 : Nat) : Int) := by rw [w64 (by omega) (by omega)]; omega
      rw [if_pos (by omega), e, if_pos (by omega), Int.toNat_natCast, Int.toNat_natCast, mix_eq _ _ (by simp; omega)]
      simp only [Option.bind_some]
      rw [mixV_in, mixV_drop, ← Nat.mul_add]
      rfl
    · simp only [digest_Writer_Sum.s2]
      rw [if_neg (by omega)]
  simp only [digest_Writer_Sum.f]
  have hs' : digest_Writer_state.f ⟨w.s, w.rest, w.n⟩ = some (blocksR m iv0 q) := hs
  rw [clone_eq _ (by omega)]
  simp only [Option.bind_some]
  rw [if_pos (by omega), zeros_loop digest_Writer_Sum.s0 (fun l => rfl) _ (by simp; omega), hz]
  simp only [Option.bind_some]
  rw [hl1]
  simp only [Option.bind_some]
  rw [hs']
  simp only [Option.bind_some]
  rw [hl2]
  simp only [Option.bind_some]
  rw [out_eq]
  simp only [Option.bind_some, sha]
  congr 3
  omega
theorem wIn0 (s : List Int) : WIn ⟨s, [], 0⟩ [] := ⟨rfl, rfl, fun h => by simp at h⟩
theorem sha_eq (m : List Int) (hb : m.length ≤ 1000000) : digest_Sha.f m = some (sha m) := by
  obtain ⟨w', e, hw⟩ := write_eq (wIn0 (List.replicate 8 0)) (b := m) (by simpa using hb)
  simp only [digest_Sha.f, e, Option.bind_some]
  have : digest_Writer_Sum.f ⟨w'.s, w'.rest, w'.n⟩ = some (sha m) := sum_eq' hw (by simpa using hb)
  rw [this]
  rfl
theorem outL_len (s : List Int) : (outL s).length = 32 := by simp [outL]
theorem sha_len (m : List Int) : (sha m).length = 32 := outL_len _
theorem twice_eq (m : List Int) (hb : m.length ≤ 1000000) : digest_Twice.f m = some (sha (sha m)) := by
  simp only [digest_Twice.f, sha_eq m hb, Option.bind_some, sha_eq (sha m) (by rw [sha_len]; omega)]
end Go.Proofs.YtcpdnoochieecaaDoor.T
namespace Go.Proofs.YtcpdnoochieecaaDoor.T
open Go Go.Proofs Go.Proofs.YtcpdnoochieecaaDoor.K
set_option linter.unusedVariables false
set_option linter.unusedSimpArgs false
theorem els_all {α : Type} {RE : α → List Value → Prop} {sz : Nat} {xs : List α} {cs : List Value} {Q : α → Prop} (h : Els RE sz xs cs) (f : ∀ x c, RE x c → Q x) : ∀ x ∈ xs, Q x := by
  induction h with
  | nil => simp
  | cons h _ _ ih =>
    intro y hy
    rcases List.mem_cons.1 hy with rfl | hy
    · exact f _ _ h
    · exact ih y hy
theorem slc_ints {k : IntKind} {μ : Store} {v : Value} {xs : List Int} (h : Slc (RI k) 1 μ v xs) : ∀ x ∈ xs, InR k x := by
  obtain ⟨cs, he, _⟩ := h
  exact els_all he fun x c hc => hc.2
theorem winc (i : Nat) (hi : i < 9223372036854775807) : IntKind.i64.wrap ((i : Int) + 1) = ((i + 1 : Nat) : Int) := by
  rw [w64 (by omega) (by omega)]; omega
theorem take_next {α : Type} (xs : List α) (i : Nat) (d : α) (h : i < xs.length) : xs.take i ++ [xs.getD i d] = xs.take (i + 1) := by
  rw [List.take_add_one]
  simp [List.getD, h]
theorem all_run {step : Int → Option (Int ⊕ Bool)} (n : Nat) (p : Nat → Prop) [DecidablePred p] (hn : n < 9223372036854775807)
    (hs : ∀ i, i < n → step (i : Int) = if p i then some (.inl (IntKind.i64.wrap ((i : Int) + 1))) else some (.inr false)) (he : step (n : Int) = some (.inr true)) : loopO step 0 = some (decide (∀ i, i < n → p i)) := by
  have key : ∀ m k, m + k = n → (∀ i, i < k → p i) → loopO step (k : Int) = some (decide (∀ i, i < n → p i)) := by
    intro m
    induction m with
    | zero =>
      intro k e h
      obtain rfl : k = n := by omega
      rw [loopO_inr he]
      congr 1
      exact (decide_eq_true h).symm
    | succ m ih =>
      intro k e h
      have h1 := hs k (by omega)
      by_cases hp : p k
      · rw [if_pos hp, winc k (by omega)] at h1
        rw [loopO_inl h1]
        refine ih (k + 1) (by omega) fun i hi => ?_
        rcases Nat.lt_or_ge i k with h2 | h2
        · exact h i h2
        · obtain rfl : i = k := by omega
          exact hp
      · rw [if_neg hp] at h1
        rw [loopO_inr h1]
        have : ¬ ∀ i, i < n → p i := fun h2 => hp (h2 k (by omega))
        simp [this]
  exact key n 0 (by omega) (by simp)
theorem ext_iff {α : Type} (xs ys : List α) (d : α) (h : xs.length = ys.length) : (∀ i, i < xs.length → xs.getD i d = ys.getD i d) ↔ xs = ys := by
  constructor
  · intro hh
    apply List.ext_getElem h
    intro i h1 h2
    have := hh i h1
    simpa [List.getD, h1, h2] using this
  · rintro rfl i _
    rfl
theorem samehash_eq (a b : List Int) (ha : a.length = 32) (hb : b.length = 32) : sargassoref_SameHash.f a b = some (decide (a = b)) := by
  unfold sargassoref_SameHash.f
  rw [all_run 32 (fun i => a.getD i 0 = b.getD i 0) (by omega) (fun i hi => by
    simp only [sargassoref_SameHash.s0, Int.toNat_natCast]
    rw [if_pos (by omega), if_pos (by omega)]
    by_cases h : a.getD i 0 = b.getD i 0
    · rw [if_neg (by simpa using h), if_pos h]
    · rw [if_pos h, if_neg h]) (by simp [sargassoref_SameHash.s0])]
  congr 2
  apply propext
  have := ext_iff a b 0 (by rw [ha, hb])
  rw [ha] at this
  exact this
theorem samebytes_eq' (xs ys : List Int) (h : xs.length ≤ 140737488355328) : sargassoref_SameBytes.f xs ys = some (decide (xs = ys)) := by
  unfold sargassoref_SameBytes.f
  by_cases hl : xs.length = ys.length
  · rw [if_neg (by omega), all_run xs.length (fun i => xs.getD i 0 = ys.getD i 0) (by omega) (fun i hi => by
      simp only [sargassoref_SameBytes.s0, Int.toNat_natCast]
      rw [if_pos (by omega), if_pos (by omega), if_pos (by omega)]) (by simp [sargassoref_SameBytes.s0])]
    congr 2
    exact propext (ext_iff xs ys 0 hl)
  · rw [if_pos (by omega)]
    have : xs ≠ ys := fun e => hl (by rw [e])
    simp [this]
end Go.Proofs.YtcpdnoochieecaaDoor.T
namespace Go.Proofs.YtcpdnoochieecaaDoor.T
open Go Go.Proofs Go.Proofs.YtcpdnoochieecaaDoor.K
set_option linter.unusedVariables false
set_option linter.unusedSimpArgs false
def Hs (l : List (List Int)) : Prop := ∀ x ∈ l, x.length = 32
theorem Hs.at {l : List (List Int)} (h : Hs l) {i : Nat} (hi : i < l.length) : (l.getD i []).length = 32 := by
  have e : l.getD i [] = l[i] := by simp [List.getD, hi]
  rw [e]; exact h _ (List.getElem_mem hi)
end Go.Proofs.YtcpdnoochieecaaDoor.T
namespace Go.Proofs.YtcpdnoochieecaaDoor.T
open Go Go.Proofs Go.Proofs.YtcpdnoochieecaaDoor.K
set_option linter.unusedVariables false
set_option linter.unusedSimpArgs false
theorem u8e (x : Int) : IntKind.u8.wrap x = x % 256 := by simp [IntKind.wrap, IntKind.signed, IntKind.bits]
def lb (a m : Nat) : List Int := (List.range m).map fun j => ((a / 2 ^ (8 * j) % 256 : Nat) : Int)
theorem lb_len (a m : Nat) : (lb a m).length = m := by simp [lb]
theorem sR_div (k : IntKind) {a n : Nat} (hn : n ≤ k.bits) : sR k (a : Int) (n : Int) = ((a / 2 ^ n : Nat) : Int) := by
  rw [sR_nat k hn, Nat.shiftRight_eq_div_pow]
theorem number_eq' (r : List Int) (a k : Nat) (hk : k ≤ 100) (hl : r.length + k ≤ 140737488355328) : compact_number.f r (a : Int) (k : Int) = some (r ++ lb a k) := by
  simp only [compact_number.f]
  have h : loopO (compact_number.s0 (k : Int)) (r, (a : Int), 0) = some (r ++ lb a k, ((a / 2 ^ (8 * k) : Nat) : Int)) := by
    refine loop_run (fun j => (r ++ lb a j, ((a / 2 ^ (8 * j) : Nat) : Int), (j : Int))) k (by simp [lb]) (fun j hj => ?_) ?_
    · simp only [compact_number.s0]
      have e1 : IntKind.u8.wrap ((a / 2 ^ (8 * j) : Nat) : Int) = ((a / 2 ^ (8 * j) % 256 : Nat) : Int) := by rw [u8e]; generalize a / 2 ^ (8 * j) = q; omega
      have e2 : sR .u64 ((a / 2 ^ (8 * j) : Nat) : Int) 8 = ((a / 2 ^ (8 * (j + 1)) : Nat) : Int) := by
        have := sR_div .u64 (a := a / 2 ^ (8 * j)) (n := 8) (by decide)
        rw [Nat.div_div_eq_div_mul, ← Nat.pow_add] at this
        exact this
      rw [if_pos (by omega), if_pos (by simp [lb_len]; omega), e1, e2, winc j (by omega), List.append_assoc]
      have : lb a j ++ [((a / 2 ^ (8 * j) % 256 : Nat) : Int)] = lb a (j + 1) := by
        unfold lb; rw [range_map_succ]
      rw [this]
    · simp only [compact_number.s0]
      rw [if_neg (by omega)]
  rw [h, Option.bind_some]
theorem four_eq (b : List Int) (a : Nat) (ha : a < 4294967296) (hl : b.length + 4 ≤ 140737488355328) : compact_Four.f b (a : Int) = some (b ++ lb a 4) := by
  have := number_eq' b a 4 (by omega) hl
  simp only [compact_Four.f, bytes_Clone.f]
  rw [wu64 (by omega) (by omega), if_pos (by omega), Option.bind_some]
  rw [show ((4 : Nat) : Int) = 4 from rfl] at this
  rw [this, Option.bind_some]
structure HN where
  v : Nat
  p : List Int
  r : List Int
  t : Nat
  w : Nat
  n : Nat
deriving DecidableEq
def HN.h (h : HN) : Head := ⟨h.v, h.p, h.r, h.t, h.w, h.n⟩
def hb (h : HN) : List Int := lb h.v 4 ++ (h.p ++ (h.r ++ (lb h.t 4 ++ (lb h.w 4 ++ lb h.n 4))))
end Go.Proofs.YtcpdnoochieecaaDoor.T
namespace Go.Proofs.YtcpdnoochieecaaDoor.T
open Go Go.Proofs Go.Proofs.YtcpdnoochieecaaDoor.K
set_option linter.unusedVariables false
set_option linter.unusedSimpArgs false
def sl : List Er := [xErrEnd, xErrShape, xErrLong, xErrMany, xErrValue, xErrTwice, xErrBase, xErrRoot, xErrKnown, xErrParent, xErrInvalid, xErrTime, xErrMissing, xErrKey, xErrYoung, xErrEarly, xErrLess, xErrReward, xErrClash, xErrLimit, xErrFull, xErrRange, xErrNone, xErrWord, xErrNumber]
theorem gd {α : Type} (l : List α) (d : α) {i : Nat} (h : i < l.length) : l.getD i d = l[i] := by simp [List.getD, h]
end Go.Proofs.YtcpdnoochieecaaDoor.T
namespace Go.Proofs.YtcpdnoochieecaaDoor.T
open Go Go.Proofs Go.Proofs.YtcpdnoochieecaaDoor.K
set_option linter.unusedVariables false
set_option linter.unusedSimpArgs false
def Bs (l : List Int) : Prop := ∀ x ∈ l, InR .u8 x
theorem Bs.app {l m : List Int} (h : Bs l) (k : Bs m) : Bs (l ++ m) := fun x hx => (List.mem_append.1 hx).elim (h x) (k x)
theorem Bs.take {l : List Int} (h : Bs l) (n : Nat) : Bs (l.take n) := fun x hx => h x (List.mem_of_mem_take hx)
theorem Bs.drop {l : List Int} (h : Bs l) (n : Nat) : Bs (l.drop n) := fun x hx => h x (List.mem_of_mem_drop hx)
theorem bs_lb (a m : Nat) : Bs (lb a m) := fun x hx => by
  obtain ⟨j, _, rfl⟩ := List.mem_map.1 hx
  simp only [InR]
  omega
def vl : List Int → Nat
  | [] => 0
  | b :: l => b.toNat + 256 * vl l
def nx (n : Nat) (s : List Int × Er) : List Int × (List Int × Er) :=
  if s.2 ≠ .b 0 then ([], s) else if s.1.length < n then ([], (s.1, xErrEnd)) else (s.1.take n, (s.1.drop n, s.2))
def wh (n : Nat) (s : List Int × Er) : Nat × (List Int × Er) := (vl (nx n s).1, (nx n s).2)
def ln (n : Nat) : Nat := if n < 253 then 1 else if n < 65536 then 3 else if n < 4294967296 then 5 else 9
theorem len_eq (n : Nat) : compact_Len.f (n : Int) = some (ln n : Int) := by
  simp only [compact_Len.f, ln]
  by_cases h1 : n < 253
  · rw [if_pos (by omega), if_pos h1]; rfl
  · rw [if_neg (by omega), if_neg h1]
    by_cases h2 : n < 65536
    · rw [if_pos (by omega), if_pos h2]; rfl
    · rw [if_neg (by omega), if_neg h2]
      by_cases h3 : n < 4294967296
      · rw [if_pos (by omega), if_pos h3]; rfl
      · rw [if_neg (by omega), if_neg h3]; rfl
theorem len1_eq (n : Nat) : sargassoref1_Len.f (n : Int) = some (ln n : Int) := len_eq n
def my (n : Nat) : Nat := if n = 253 then 2 else if n = 254 then 4 else if n = 255 then 8 else 0
def nm (most : Int) (s : List Int × Er) : Nat × (List Int × Er) :=
  let a := wh 1 s
  let b := if 0 < my a.1 then wh (my a.1) a.2 else a
  if b.2.2 ≠ .b 0 then (0, b.2) else if ln b.1 ≠ 1 + my a.1 then (0, (b.2.1, xErrShape)) else if most < (b.1 : Int) then (0, (b.2.1, xErrMany)) else b
def by_ (n : Int) (s : List Int × Er) : List Int × (List Int × Er) := if n ≤ 0 then ([], s) else nx n.toNat s
end Go.Proofs.YtcpdnoochieecaaDoor.T
namespace Go.Proofs.YtcpdnoochieecaaDoor.T
open Go Go.Proofs Go.Proofs.YtcpdnoochieecaaDoor.K
set_option linter.unusedVariables false
set_option linter.unusedSimpArgs false
def pt (n : Nat) : List Int := if n < 253 then lb n 1 else if n < 65536 then 253 :: lb n 2 else if n < 4294967296 then 254 :: lb n 4 else 255 :: lb n 8
theorem pt_len (n : Nat) : (pt n).length = ln n := by
  unfold pt ln
  split
  · simp [lb_len]
  · split
    · simp [lb_len]
    · split <;> simp [lb_len]
theorem ln_le (n : Nat) : 1 ≤ ln n ∧ ln n ≤ 9 := by unfold ln; split <;> (try split) <;> (try split) <;> omega
theorem lb_one (n : Nat) : lb n 1 = [((n % 256 : Nat) : Int)] := by simp [lb, List.range_succ]
theorem put_eq (b : List Int) (n : Nat) (hn : n < 18446744073709551616) (hl : b.length ≤ 1000000) : compact_Put.f b (n : Int) = some (b ++ pt n) := by
  simp only [compact_Put.f, bytes_Clone.f]
  rw [if_pos (by omega), Option.bind_some, len_eq, Option.bind_some]
  unfold ln pt
  by_cases h1 : n < 253
  · rw [if_pos h1, if_pos h1, if_pos (by rfl), if_pos (by omega), u8e, lb_one]
    congr 3
  · rw [if_neg h1, if_neg h1]
    by_cases h2 : n < 65536
    · have := number_eq' (b ++ [253]) n 2 (by omega) (by simp; omega)
      rw [show ((2 : Nat) : Int) = 2 from rfl] at this
      rw [if_pos h2, if_pos h2, if_neg (by decide), if_pos (by rfl), if_pos (by omega), this, Option.bind_some, List.append_assoc]; rfl
    · rw [if_neg h2, if_neg h2]
      by_cases h3 : n < 4294967296
      · have := number_eq' (b ++ [254]) n 4 (by omega) (by simp; omega)
        rw [show ((4 : Nat) : Int) = 4 from rfl] at this
        rw [if_pos h3, if_pos h3, if_neg (by decide), if_neg (by decide), if_pos (by rfl), if_pos (by omega), this, Option.bind_some, List.append_assoc]; rfl
      · have := number_eq' (b ++ [255]) n 8 (by omega) (by simp; omega)
        rw [show ((8 : Nat) : Int) = 8 from rfl] at this
        rw [if_neg h3, if_neg h3, if_neg (by decide), if_neg (by decide), if_neg (by decide), if_pos (by omega), this, Option.bind_some, List.append_assoc]; rfl
theorem eight_eq (b : List Int) (a : Nat) (hl : b.length ≤ 1000000) : compact_Eight.f b (a : Int) = some (b ++ lb a 8) := by
  have := number_eq' b a 8 (by omega) (by omega)
  simp only [compact_Eight.f, bytes_Clone.f]
  rw [if_pos (by omega), Option.bind_some]
  rw [show ((8 : Nat) : Int) = 8 from rfl] at this
  rw [this, Option.bind_some]
end Go.Proofs.YtcpdnoochieecaaDoor.T
namespace Go.Proofs.YtcpdnoochieecaaDoor.T
open Go Go.Proofs Go.Proofs.YtcpdnoochieecaaDoor.K
set_option linter.unusedVariables false
set_option linter.unusedSimpArgs false
abbrev Stp (α : Type) := List Int × Er → α × (List Int × Er)
section
variable {α β : Type}
def ret (x : α) : Stp α := fun s => (x, s)
end
end Go.Proofs.YtcpdnoochieecaaDoor.T
namespace Go.Proofs.YtcpdnoochieecaaDoor.T
open Go Go.Proofs Go.Proofs.YtcpdnoochieecaaDoor.K
set_option linter.unusedVariables false
set_option linter.unusedSimpArgs false
structure InOk (i : In) : Prop where
  tx : i.From.Tx.length = 32
  txb : Bs i.From.Tx
  n : InR .u32 i.From.N
  key : Bs i.Key
  seq : InR .u32 i.Seq
structure OutOk (o : Out) : Prop where
  val : InR .u64 o.Value
  lock : o.Lock.length = 32
  lockb : Bs o.Lock
structure TxOk (t : Tx) : Prop where
  v : InR .u32 t.Version
  ins : ∀ i ∈ t.Ins, InOk i
  outs : ∀ o ∈ t.Outs, OutOk o
  t : InR .u32 t.Time
structure Few (a b : Nat) (t : Tx) : Prop where
  ins : t.Ins.length ≤ a
  outs : t.Outs.length ≤ a
  key : ∀ i ∈ t.Ins, i.Key.length ≤ b
theorem Few.mono {a b c d : Nat} {t : Tx} (h : Few a b t) (h1 : a ≤ c) (h2 : b ≤ d) : Few c d t := ⟨Nat.le_trans h.ins h1, Nat.le_trans h.outs h1, fun i hi => Nat.le_trans (h.key i hi) h2⟩
def ib (i : In) : List Int := i.From.Tx ++ (lb i.From.N.toNat 4 ++ (pt i.Key.length ++ (i.Key ++ lb i.Seq.toNat 4)))
def ob (o : Out) : List Int := lb o.Value.toNat 8 ++ o.Lock
def tb (t : Tx) : List Int := lb t.Version.toNat 4 ++ (pt t.Ins.length ++ ((t.Ins.map ib).flatten ++ (pt t.Outs.length ++ ((t.Outs.map ob).flatten ++ lb t.Time.toNat 4))))
theorem ib_len {i : In} (h : InOk i) : (ib i).length = 40 + ln i.Key.length + i.Key.length := by
  simp only [ib, List.length_append, h.tx, lb_len, pt_len]; omega
theorem ob_len {o : Out} (h : OutOk o) : (ob o).length = 40 := by simp only [ob, List.length_append, h.lock, lb_len]
theorem flat_le {α : Type} (f : α → List Int) (b : Nat) : ∀ (l : List α), (∀ x ∈ l, (f x).length ≤ b) → (l.map f).flatten.length ≤ b * l.length
  | [], _ => by simp
  | x :: l, h => by
    have h1 := flat_le f b l fun y hy => h y (by simp [hy])
    have h2 := h x (by simp)
    simp only [List.map_cons, List.flatten_cons, List.length_append, List.length_cons]
    rw [Nat.mul_add, Nat.mul_one]; omega
theorem ins_le {t : Tx} (h : TxOk t) {a : Nat} (hf : Few a 1000 t) : (t.Ins.map ib).flatten.length ≤ 2000 * t.Ins.length := flat_le ib 2000 t.Ins fun i hi => by
  rw [ib_len (h.ins i hi)]
  have := (ln_le i.Key.length).2
  have := hf.key i hi
  omega
theorem outs_le {t : Tx} (h : TxOk t) : (t.Outs.map ob).flatten.length ≤ 40 * t.Outs.length := flat_le ob 40 t.Outs fun o ho => by rw [ob_len (h.outs o ho)]; omega
theorem tb_le {t : Tx} (h : TxOk t) (hf : Few 100 1000 t) : (tb t).length ≤ 210000 := by
  have h1 := ins_le h hf
  have h2 := outs_le h
  have h3 := (ln_le t.Ins.length).2
  have h4 := (ln_le t.Outs.length).2
  have h5 := hf.ins
  have h6 := hf.outs
  simp only [tb, List.length_append, lb_len, pt_len]
  omega
theorem nat4 {x : Int} (h : InR .u32 x) : x = ((x.toNat : Nat) : Int) ∧ x.toNat < 4294967296 := by obtain ⟨a, b⟩ := h; omega
theorem nat8 {x : Int} (h : InR .u64 x) : x = ((x.toNat : Nat) : Int) ∧ x.toNat < 18446744073709551616 := by obtain ⟨a, b⟩ := h; omega
theorem getD_mem {α : Type} {l : List α} {d : α} {i : Nat} (h : i < l.length) : l.getD i d ∈ l := by rw [gd l d h]; exact List.getElem_mem h
theorem flat_next {α : Type} (f : α → List Int) (l : List α) (d : α) (i : Nat) (h : i < l.length) : ((l.take (i + 1)).map f).flatten = ((l.take i).map f).flatten ++ f (l.getD i d) := by
  rw [← take_next l i d h]; simp
theorem take_few {α : Type} (f : α → List Int) (b : Nat) (l : List α) (h : ∀ x ∈ l, (f x).length ≤ b) (i : Nat) (hi : i ≤ l.length) : ((l.take i).map f).flatten.length ≤ b * l.length := by
  have := flat_le f b (l.take i) fun x hx => h x (List.mem_of_mem_take hx)
  rw [List.length_take, Nat.min_eq_left hi] at this
  exact Nat.le_trans this (Nat.mul_le_mul_left b hi)
theorem tbytes_eq {t : Tx} (h : TxOk t) (hf : Few 100 1000 t) : tx_Bytes.f t = some (tb t) := by
  obtain ⟨v1, v2⟩ := nat4 h.v
  obtain ⟨t1, t2⟩ := nat4 h.t
  have hi := hf.ins
  have ho := hf.outs
  have hil : ∀ i ∈ t.Ins, (ib i).length ≤ 2000 := fun i hi => by
    rw [ib_len (h.ins i hi)]
    have := (ln_le i.Key.length).2
    have := hf.key i hi
    omega
  have hol : ∀ o ∈ t.Outs, (ob o).length ≤ 40 := fun o ho => by rw [ob_len (h.outs o ho)]; omega
  have lp := (ln_le t.Ins.length).2
  have lq := (ln_le t.Outs.length).2
  have L1 : ∀ P : List Int, P.length ≤ 100 → loopO (tx_Bytes.s0 t) (P, 0) = some (P ++ (t.Ins.map ib).flatten) := fun P hP => by
    refine loop_run (fun i => (P ++ ((t.Ins.take i).map ib).flatten, (i : Int))) t.Ins.length (by simp) (fun i hi => ?_) ?_
    · have hm := getD_mem (l := t.Ins) (d := default) hi
      have ok := h.ins _ hm
      have hk := hf.key _ hm
      have hb := take_few ib 2000 t.Ins hil i (by omega)
      rw [flat_next ib t.Ins default i hi]
      simp only [tx_Bytes.s0, Int.toNat_natCast]
      generalize t.Ins.getD i default = x at *
      obtain ⟨n1, n2⟩ := nat4 ok.n
      obtain ⟨s1, s2⟩ := nat4 ok.seq
      have ltx := ok.tx
      have lk := (ln_le x.Key.length).2
      have hf4 := four_eq (P ++ ((t.Ins.take i).map ib).flatten ++ x.From.Tx) x.From.N.toNat n2 (by simp only [List.length_append]; omega)
      have hp := put_eq (P ++ ((t.Ins.take i).map ib).flatten ++ x.From.Tx ++ lb x.From.N.toNat 4) x.Key.length (by omega) (by simp only [List.length_append, lb_len]; omega)
      have hf5 := four_eq (P ++ ((t.Ins.take i).map ib).flatten ++ x.From.Tx ++ lb x.From.N.toNat 4 ++ pt x.Key.length ++ x.Key) x.Seq.toNat s2 (by simp only [List.length_append, lb_len, pt_len]; omega)
      rw [← n1] at hf4
      rw [← s1] at hf5
      rw [if_pos (by omega), if_pos (by omega), if_pos (by simp only [List.length_append]; omega), hf4, Option.bind_some, wu64 (by omega) (by omega), hp, Option.bind_some, if_pos (by simp only [List.length_append, lb_len, pt_len]; omega), hf5, Option.bind_some, winc i (by omega)]
      simp only [ib, List.append_assoc]
    · simp only [tx_Bytes.s0]
      rw [if_neg (by omega), List.take_length]
  have L2 : ∀ P : List Int, P.length ≤ 300000 → loopO (tx_Bytes.s1 t) (P, 0) = some (P ++ (t.Outs.map ob).flatten) := fun P hP => by
    refine loop_run (fun i => (P ++ ((t.Outs.take i).map ob).flatten, (i : Int))) t.Outs.length (by simp) (fun i hi => ?_) ?_
    · have hm := getD_mem (l := t.Outs) (d := default) hi
      have ok := h.outs _ hm
      have hb := take_few ob 40 t.Outs hol i (by omega)
      rw [flat_next ob t.Outs default i hi]
      simp only [tx_Bytes.s1, Int.toNat_natCast]
      generalize t.Outs.getD i default = x at *
      obtain ⟨n1, n2⟩ := nat8 ok.val
      have ltx := ok.lock
      have h8 := eight_eq (P ++ ((t.Outs.take i).map ob).flatten) x.Value.toNat (by simp only [List.length_append]; omega)
      rw [← n1] at h8
      rw [if_pos (by omega), if_pos (by omega), h8, Option.bind_some, if_pos (by simp only [List.length_append, lb_len]; omega), winc i (by omega)]
      simp only [ob, List.append_assoc]
    · simp only [tx_Bytes.s1]
      rw [if_neg (by omega), List.take_length]
  have hI := flat_le ib 2000 t.Ins hil
  have hO := flat_le ob 40 t.Outs hol
  have f1 := four_eq [] t.Version.toNat v2 (by simp)
  rw [← v1] at f1
  have p1 := put_eq (lb t.Version.toNat 4) t.Ins.length (by omega) (by rw [lb_len]; omega)
  have p2 := put_eq (lb t.Version.toNat 4 ++ pt t.Ins.length ++ (t.Ins.map ib).flatten) t.Outs.length (by omega) (by simp only [List.length_append, lb_len, pt_len]; omega)
  have f2 := four_eq (lb t.Version.toNat 4 ++ pt t.Ins.length ++ (t.Ins.map ib).flatten ++ pt t.Outs.length ++ (t.Outs.map ob).flatten) t.Time.toNat t2 (by simp only [List.length_append, lb_len, pt_len]; omega)
  rw [← t1] at f2
  simp only [tx_Bytes.f]
  rw [f1, Option.bind_some, List.nil_append, wu64 (x := (t.Ins.length : Int)) (by omega) (by omega), p1, Option.bind_some, L1 _ (by simp only [List.length_append, lb_len, pt_len]; omega), Option.bind_some, wu64 (x := (t.Outs.length : Int)) (by omega) (by omega), p2, Option.bind_some, L2 _ (by simp only [List.length_append, lb_len, pt_len]; omega), Option.bind_some, f2, Option.bind_some]
  simp only [tb, List.append_assoc]
end Go.Proofs.YtcpdnoochieecaaDoor.T
namespace Go.Proofs.YtcpdnoochieecaaDoor.T
open Go Go.Proofs Go.Proofs.YtcpdnoochieecaaDoor.K
set_option linter.unusedVariables false
set_option linter.unusedSimpArgs false
theorem look_run {ρ : Type} {step : Int → Option (Int ⊕ ρ)} (n : Nat) (p : Nat → Prop) [DecidablePred p] (yes no : ρ) (hn : n < 9223372036854775807)
    (hs : ∀ i, i < n → step (i : Int) = if p i then some (.inl (IntKind.i64.wrap ((i : Int) + 1))) else some (.inr no)) (he : step (n : Int) = some (.inr yes)) : loopO step 0 = some (if ∀ i, i < n → p i then yes else no) := by
  have key : ∀ m k, m + k = n → (∀ i, i < k → p i) → loopO step (k : Int) = some (if ∀ i, i < n → p i then yes else no) := by
    intro m
    induction m with
    | zero =>
      intro k e h
      obtain rfl : k = n := by omega
      rw [loopO_inr he, if_pos h]
    | succ m ih =>
      intro k e h
      have h1 := hs k (by omega)
      by_cases hp : p k
      · rw [if_pos hp, winc k (by omega)] at h1
        rw [loopO_inl h1]
        refine ih (k + 1) (by omega) fun i hi => ?_
        rcases Nat.lt_or_ge i k with h2 | h2
        · exact h i h2
        · obtain rfl : i = k := by omega
          exact hp
      · rw [if_neg hp] at h1
        rw [loopO_inr h1, if_neg (fun h2 => hp (h2 k (by omega)))]
  exact key n 0 (by omega) (by simp)
theorem samepoint_eq (a b : Point) (ha : a.Tx.length = 32) (hb : b.Tx.length = 32) : sargassoref_SamePoint.f a b = some (decide (a = b)) := by
  simp only [sargassoref_SamePoint.f]
  rw [samehash_eq _ _ ha hb]
  obtain ⟨a1, a2⟩ := a
  obtain ⟨b1, b2⟩ := b
  simp only [Option.bind_some, Point.mk.injEq, decide_eq_true_eq]
  by_cases h1 : a1 = b1 <;> by_cases h2 : a2 = b2 <;> simp [h1, h2]
noncomputable instance (a b : Nat) (t : Tx) : Decidable (Few a b t) := Classical.propDecidable _
def nullP : Point := ⟨List.replicate 32 0, 4294967295⟩
theorem point_iff (a b : Point) : a = b ↔ (a.Tx = b.Tx ∧ a.N = b.N) := by
  obtain ⟨a1, a2⟩ := a
  obtain ⟨b1, b2⟩ := b
  simp
theorem out_iff (x y : Out) : x = y ↔ (x.Value = y.Value ∧ x.Lock = y.Lock) := by
  obtain ⟨x1, x2⟩ := x
  obtain ⟨y1, y2⟩ := y
  simp
theorem in_iff (x y : In) : x = y ↔ ((x.From.Tx = y.From.Tx ∧ x.From.N = y.From.N) ∧ x.Seq = y.Seq ∧ x.Key = y.Key) := by
  obtain ⟨⟨x1, x2⟩, x3, x4⟩ := x
  obtain ⟨⟨y1, y2⟩, y3, y4⟩ := y
  simp only [In.mk.injEq, Point.mk.injEq]
  constructor
  · rintro ⟨a, b, c⟩; exact ⟨a, c, b⟩
  · rintro ⟨a, b, c⟩; exact ⟨a, c, b⟩
theorem tx_iff (t u : Tx) : t = u ↔ (t.Version = u.Version ∧ t.Time = u.Time ∧ t.Outs = u.Outs ∧ t.Ins = u.Ins) := by
  obtain ⟨a, b, c, d⟩ := t
  obtain ⟨e, f, g, h⟩ := u
  simp only [Tx.mk.injEq]
  constructor
  · rintro ⟨a, b, c, d⟩; exact ⟨a, d, c, b⟩
  · rintro ⟨a, b, c, d⟩; exact ⟨a, d, c, b⟩
theorem sameout_eq {x y : Out} (h : OutOk x) (k : OutOk y) : sargassoref_SameOut.f x y = some (decide (x = y)) := by
  simp only [sargassoref_SameOut.f]
  have hi := out_iff x y
  by_cases c1 : x.Value = y.Value
  · rw [if_pos c1, samehash_eq _ _ h.lock k.lock, Option.bind_some, Option.bind_some]
    exact congrArg some (decide_eq_decide.2 ⟨fun h => hi.2 ⟨c1, h⟩, fun h => (hi.1 h).2⟩)
  · rw [if_neg c1, Option.bind_some, decide_eq_false (fun h => c1 (hi.1 h).1)]
theorem samein_eq {x y : In} (h : InOk x) (k : InOk y) (hl : x.Key.length ≤ 1000000) : sargassoref_SameIn.f x y = some (decide (x = y)) := by
  simp only [sargassoref_SameIn.f]
  have hi := in_iff x y
  rw [samepoint_eq _ _ h.tx k.tx, Option.bind_some]
  have hp := point_iff x.From y.From
  by_cases c1 : x.From = y.From
  · rw [if_pos (decide_eq_true c1), samebytes_eq' _ _ (by omega), Option.bind_some]
    by_cases c2 : x.Key = y.Key
    · rw [if_pos (decide_eq_true c2), Option.bind_some]
      exact congrArg some (decide_eq_decide.2 ⟨fun h => hi.2 ⟨hp.1 c1, h, c2⟩, fun h => (hi.1 h).2.1⟩)
    · rw [if_neg (by simp only [decide_eq_true_eq]; exact c2), Option.bind_some, decide_eq_false (fun h => c2 (hi.1 h).2.2)]
  · rw [if_neg (by simp only [decide_eq_true_eq]; exact c1), Option.bind_some, decide_eq_false (fun h => c1 (hp.2 (hi.1 h).1))]
theorem sametx_eq {t u : Tx} (h : TxOk t) (k : TxOk u) (h1 : t.Ins.length ≤ 1000000) (h2 : t.Outs.length ≤ 1000000) (h3 : ∀ i ∈ t.Ins, i.Key.length ≤ 1000000) : sargassoref_SameTx.f t u = some (decide (t = u)) := by
  simp only [sargassoref_SameTx.f]
  have hi := tx_iff t u
  by_cases c1 : t.Version = u.Version
  · rw [if_neg (fun h => h c1)]
    by_cases c2 : t.Time = u.Time
    · rw [if_neg (fun h => h c2)]
      by_cases c3 : t.Ins.length = u.Ins.length
      · rw [if_neg (by omega), Option.bind_some]
        by_cases c4 : t.Outs.length = u.Outs.length
        · rw [if_neg (by simp only [decide_eq_true_eq]; omega)]
          have e1 : loopO (sargassoref_SameTx.s1 t u) 0 = some (if ∀ i, i < t.Outs.length → t.Outs.getD i default = u.Outs.getD i default then (Sum.inr true : Int ⊕ Bool) else Sum.inr false) := look_run t.Outs.length (fun i => t.Outs.getD i default = u.Outs.getD i default) (Sum.inr true) (Sum.inr false) (by omega) (fun i hi => by
            simp only [sargassoref_SameTx.s1, Int.toNat_natCast]
            rw [if_pos (by omega), if_pos (by omega), if_pos (by omega), sameout_eq (h.outs _ (getD_mem hi)) (k.outs _ (getD_mem (show i < u.Outs.length by omega))), Option.bind_some]
            by_cases c : t.Outs.getD i default = u.Outs.getD i default
            · rw [if_pos c, if_pos (decide_eq_true c)]
            · rw [if_neg c, if_neg (by simp only [decide_eq_true_eq]; exact c)]) (by simp [sargassoref_SameTx.s1])
          have e2 : loopO (sargassoref_SameTx.s1 t u) 0 = some (.inr (decide (t.Outs = u.Outs))) := by
            rw [e1]
            have e := ext_iff t.Outs u.Outs default c4
            by_cases c : t.Outs = u.Outs
            · rw [if_pos (e.2 c), decide_eq_true c]
            · rw [if_neg (fun h => c (e.1 h)), decide_eq_false c]
          rw [look_run t.Ins.length (fun i => t.Ins.getD i default = u.Ins.getD i default) (decide (t.Outs = u.Outs)) false (by omega) (fun i hi => by
            simp only [sargassoref_SameTx.s0, Int.toNat_natCast]
            rw [if_pos (by omega), if_pos (by omega), if_pos (by omega), samein_eq (h.ins _ (getD_mem hi)) (k.ins _ (getD_mem (show i < u.Ins.length by omega))) (h3 _ (getD_mem hi)), Option.bind_some]
            by_cases c : t.Ins.getD i default = u.Ins.getD i default
            · rw [if_pos c, if_pos (decide_eq_true c)]
            · rw [if_neg c, if_neg (by simp only [decide_eq_true_eq]; exact c)]) (by
            simp only [sargassoref_SameTx.s0]
            rw [if_neg (by omega), e2])]
          have e := ext_iff t.Ins u.Ins default c3
          by_cases c : t.Ins = u.Ins
          · rw [if_pos (e.2 c)]
            exact congrArg some (decide_eq_decide.2 ⟨fun h => hi.2 ⟨c1, c2, h, c⟩, fun h => (hi.1 h).2.2.1⟩)
          · rw [if_neg (fun h => c (e.1 h)), decide_eq_false (fun h => c (hi.1 h).2.2.2)]
        · rw [if_pos (by simp only [decide_eq_true_eq]; omega), decide_eq_false (fun h => c4 (by rw [h]))]
      · rw [if_pos (by omega), Option.bind_some, if_pos rfl, decide_eq_false (fun h => c3 (by rw [h]))]
    · rw [if_pos c2, Option.bind_some, if_pos rfl, decide_eq_false (fun h => c2 (hi.1 h).2.1)]
  · rw [if_pos c1, Option.bind_some, if_pos rfl, decide_eq_false (fun h => c1 (hi.1 h).1)]
end Go.Proofs.YtcpdnoochieecaaDoor.T
namespace Go.Proofs.YtcpdnoochieecaaDoor.T
open Go Go.Proofs Go.Proofs.YtcpdnoochieecaaDoor.K
set_option linter.unusedVariables false
set_option linter.unusedSimpArgs false
def vs (t : Tx) : List Int := t.Outs.map (·.Value)
def isBase (t : Tx) : Prop := t.Ins.length = 1 ∧ (t.Ins.getD 0 default).From = nullP
instance (t : Tx) : Decidable (isBase t) := inferInstanceAs (Decidable (_ ∧ _))
noncomputable def bs (t : Tx) : Er := if isBase t then (if (t.Ins.getD 0 default).Key.length < 4 then xErrBase else .b 0) else if ∃ i ∈ t.Ins, i.From = nullP then xErrBase else .b 0
def mn (t : Tx) : Prop := t.Ins.length = 0 ∨ 50 < t.Ins.length ∨ t.Outs.length = 0 ∨ 50 < t.Outs.length
instance (t : Tx) : Decidable (mn t) := inferInstanceAs (Decidable (_ ∨ _))
theorem size_eq {t : Tx} (h : TxOk t) (hf : Few 60 100 t) : tx_Size.f t = some ((tb t).length : Int) := by
  simp only [tx_Size.f]
  rw [tbytes_eq h (hf.mono (by omega) (by omega)), Option.bind_some]
end Go.Proofs.YtcpdnoochieecaaDoor.T
namespace Go.Proofs.YtcpdnoochieecaaDoor.T
open Go Go.Proofs Go.Proofs.YtcpdnoochieecaaDoor.K
set_option linter.unusedVariables false
set_option linter.unusedSimpArgs false
theorem little_eq' (r : List Int) (a k : Nat) (hk : k ≤ 8) (hl : r.length + k ≤ 140737488355328) : sargassoref1_little.f r (a : Int) (k : Int) = some (r ++ lb a k) := by
  simp only [sargassoref1_little.f]
  have h : loopO (sargassoref1_little.s0 (a : Int) (k : Int)) (r, 0) = some (r ++ lb a k) := by
    refine loop_run (fun j => (r ++ lb a j, (j : Int))) k (by simp [lb]) (fun j hj => ?_) ?_
    · simp only [sargassoref1_little.s0]
      have ew : IntKind.u64.wrap (IntKind.i64.wrap (8 * (j : Int))) = ((8 * j : Nat) : Int) := by rw [w64 (by omega) (by omega), wu64 (by omega) (by omega)]; omega
      have e1 : IntKind.u8.wrap (sR .u64 (a : Int) ((8 * j : Nat) : Int)) = ((a / 2 ^ (8 * j) % 256 : Nat) : Int) := by
        rw [sR_div .u64 (n := 8 * j) (by simp only [IntKind.bits]; omega), u8e]
        generalize a / 2 ^ (8 * j) = q
        omega
      rw [if_pos (by omega), ew, e1, if_pos (by omega), if_pos (by simp [lb_len]; omega), winc j (by omega), List.append_assoc]
      have : lb a j ++ [((a / 2 ^ (8 * j) % 256 : Nat) : Int)] = lb a (j + 1) := by
        unfold lb; rw [range_map_succ]
      rw [this]
    · simp only [sargassoref1_little.s0]
      rw [if_neg (by omega)]
  rw [h, Option.bind_some]
theorem four1_eq (b : List Int) (a : Nat) (ha : a < 4294967296) (hl : b.length + 4 ≤ 140737488355328) : sargassoref1_Four.f b (a : Int) = some (b ++ lb a 4) := by
  have := little_eq' b a 4 (by omega) hl
  simp only [sargassoref1_Four.f]
  rw [wu64 (by omega) (by omega)]
  rw [show ((4 : Nat) : Int) = 4 from rfl] at this
  rw [this, Option.bind_some]
theorem put1_eq (b : List Int) (n : Nat) (hn : n < 18446744073709551616) (hl : b.length ≤ 1000000) : sargassoref1_Put.f b (n : Int) = some (b ++ pt n) := by
  simp only [sargassoref1_Put.f]
  rw [len1_eq, Option.bind_some]
  unfold ln pt
  by_cases h1 : n < 253
  · rw [if_pos h1, if_pos h1, if_pos (by rfl), if_pos (by omega), u8e, lb_one]
    congr 3
  · rw [if_neg h1, if_neg h1]
    by_cases h2 : n < 65536
    · have := little_eq' (b ++ [253]) n 2 (by omega) (by simp; omega)
      rw [show ((2 : Nat) : Int) = 2 from rfl] at this
      rw [if_pos h2, if_pos h2, if_neg (by decide), if_pos (by rfl), if_pos (by omega), this, Option.bind_some, List.append_assoc]; rfl
    · rw [if_neg h2, if_neg h2]
      by_cases h3 : n < 4294967296
      · have := little_eq' (b ++ [254]) n 4 (by omega) (by simp; omega)
        rw [show ((4 : Nat) : Int) = 4 from rfl] at this
        rw [if_pos h3, if_pos h3, if_neg (by decide), if_neg (by decide), if_pos (by rfl), if_pos (by omega), this, Option.bind_some, List.append_assoc]; rfl
      · have := little_eq' (b ++ [255]) n 8 (by omega) (by simp; omega)
        rw [show ((8 : Nat) : Int) = 8 from rfl] at this
        rw [if_neg h3, if_neg h3, if_neg (by decide), if_neg (by decide), if_neg (by decide), if_pos (by omega), this, Option.bind_some, List.append_assoc]; rfl
theorem eight1_eq (b : List Int) (a : Nat) (hl : b.length ≤ 1000000) : sargassoref1_Eight.f b (a : Int) = some (b ++ lb a 8) := by
  have := little_eq' b a 8 (by omega) (by omega)
  simp only [sargassoref1_Eight.f]
  rw [show ((8 : Nat) : Int) = 8 from rfl] at this
  rw [this, Option.bind_some]
end Go.Proofs.YtcpdnoochieecaaDoor.T
namespace Go.Proofs.YtcpdnoochieecaaDoor.T
open Go Go.Proofs Go.Proofs.YtcpdnoochieecaaDoor.K
set_option linter.unusedVariables false
set_option linter.unusedSimpArgs false
theorem tbytes1_eq {t : Tx} (h : TxOk t) (hf : Few 100 1000 t) : sargassoref1_TxBytes.f t = some (tb t) := by
  obtain ⟨v1, v2⟩ := nat4 h.v
  obtain ⟨t1, t2⟩ := nat4 h.t
  have hi := hf.ins
  have ho := hf.outs
  have hil : ∀ i ∈ t.Ins, (ib i).length ≤ 2000 := fun i hi => by
    rw [ib_len (h.ins i hi)]
    have := (ln_le i.Key.length).2
    have := hf.key i hi
    omega
  have hol : ∀ o ∈ t.Outs, (ob o).length ≤ 40 := fun o ho => by rw [ob_len (h.outs o ho)]; omega
  have lp := (ln_le t.Ins.length).2
  have lq := (ln_le t.Outs.length).2
  have L1 : ∀ P : List Int, P.length ≤ 100 → loopO (sargassoref1_TxBytes.s0 t) (P, 0) = some (P ++ (t.Ins.map ib).flatten) := fun P hP => by
    refine loop_run (fun i => (P ++ ((t.Ins.take i).map ib).flatten, (i : Int))) t.Ins.length (by simp) (fun i hi => ?_) ?_
    · have hm := getD_mem (l := t.Ins) (d := default) hi
      have ok := h.ins _ hm
      have hk := hf.key _ hm
      have hb := take_few ib 2000 t.Ins hil i (by omega)
      rw [flat_next ib t.Ins default i hi]
      simp only [sargassoref1_TxBytes.s0, Int.toNat_natCast]
      generalize t.Ins.getD i default = x at *
      obtain ⟨n1, n2⟩ := nat4 ok.n
      obtain ⟨s1, s2⟩ := nat4 ok.seq
      have ltx := ok.tx
      have lk := (ln_le x.Key.length).2
      have hf4 := four1_eq (P ++ ((t.Ins.take i).map ib).flatten ++ x.From.Tx) x.From.N.toNat n2 (by simp only [List.length_append]; omega)
      have hp := put1_eq (P ++ ((t.Ins.take i).map ib).flatten ++ x.From.Tx ++ lb x.From.N.toNat 4) x.Key.length (by omega) (by simp only [List.length_append, lb_len]; omega)
      have hf5 := four1_eq (P ++ ((t.Ins.take i).map ib).flatten ++ x.From.Tx ++ lb x.From.N.toNat 4 ++ pt x.Key.length ++ x.Key) x.Seq.toNat s2 (by simp only [List.length_append, lb_len, pt_len]; omega)
      rw [← n1] at hf4
      rw [← s1] at hf5
      rw [if_pos (by omega), if_pos (by omega), if_pos (by simp only [List.length_append]; omega), hf4, Option.bind_some, wu64 (by omega) (by omega), hp, Option.bind_some, if_pos (by simp only [List.length_append, lb_len, pt_len]; omega), hf5, Option.bind_some, winc i (by omega)]
      simp only [ib, List.append_assoc]
    · simp only [sargassoref1_TxBytes.s0]
      rw [if_neg (by omega), List.take_length]
  have L2 : ∀ P : List Int, P.length ≤ 300000 → loopO (sargassoref1_TxBytes.s1 t) (P, 0) = some (P ++ (t.Outs.map ob).flatten) := fun P hP => by
    refine loop_run (fun i => (P ++ ((t.Outs.take i).map ob).flatten, (i : Int))) t.Outs.length (by simp) (fun i hi => ?_) ?_
    · have hm := getD_mem (l := t.Outs) (d := default) hi
      have ok := h.outs _ hm
      have hb := take_few ob 40 t.Outs hol i (by omega)
      rw [flat_next ob t.Outs default i hi]
      simp only [sargassoref1_TxBytes.s1, Int.toNat_natCast]
      generalize t.Outs.getD i default = x at *
      obtain ⟨n1, n2⟩ := nat8 ok.val
      have ltx := ok.lock
      have h8 := eight1_eq (P ++ ((t.Outs.take i).map ob).flatten) x.Value.toNat (by simp only [List.length_append]; omega)
      rw [← n1] at h8
      rw [show Int.toNat 32 = 32 from rfl, show Int.toNat 0 = 0 from rfl, List.take_of_length_le (l := x.Lock) (by omega), List.drop_zero, if_pos (by omega), if_pos (by omega), h8, Option.bind_some, if_pos (by simp only [List.length_append, lb_len]; omega), winc i (by omega)]
      simp only [ob, List.append_assoc]
    · simp only [sargassoref1_TxBytes.s1]
      rw [if_neg (by omega), List.take_length]
  have hI := flat_le ib 2000 t.Ins hil
  have hO := flat_le ob 40 t.Outs hol
  have f1 := four1_eq [] t.Version.toNat v2 (by simp)
  rw [← v1] at f1
  have p1 := put1_eq (lb t.Version.toNat 4) t.Ins.length (by omega) (by rw [lb_len]; omega)
  have p2 := put1_eq (lb t.Version.toNat 4 ++ pt t.Ins.length ++ (t.Ins.map ib).flatten) t.Outs.length (by omega) (by simp only [List.length_append, lb_len, pt_len]; omega)
  have f2 := four1_eq (lb t.Version.toNat 4 ++ pt t.Ins.length ++ (t.Ins.map ib).flatten ++ pt t.Outs.length ++ (t.Outs.map ob).flatten) t.Time.toNat t2 (by simp only [List.length_append, lb_len, pt_len]; omega)
  rw [← t1] at f2
  simp only [sargassoref1_TxBytes.f]
  rw [f1, Option.bind_some, List.nil_append, wu64 (x := (t.Ins.length : Int)) (by omega) (by omega), p1, Option.bind_some, L1 _ (by simp only [List.length_append, lb_len, pt_len]; omega), Option.bind_some, wu64 (x := (t.Outs.length : Int)) (by omega) (by omega), p2, Option.bind_some, L2 _ (by simp only [List.length_append, lb_len, pt_len]; omega), Option.bind_some, f2, Option.bind_some]
  simp only [tb, List.append_assoc]
theorem size1_eq {t : Tx} (h : TxOk t) (hf : Few 60 100 t) : sargassoref1_Size.f t = some ((tb t).length : Int) := by
  simp only [sargassoref1_Size.f]
  rw [tbytes1_eq h (hf.mono (by omega) (by omega)), Option.bind_some]
theorem txclone_eq {t : Tx} (h : TxOk t) (hf : Few 60 100 t) : tx_Clone.f t = some t := by
  have h1 := hf.ins
  have h2 := hf.outs
  simp only [tx_Clone.f, slices_Clone_api_In_api_In.f, slices_Clone_api_Out_api_Out.f]
  rw [if_pos (by omega), if_pos (by omega), Option.bind_some, Option.bind_some, show loopO (tx_Clone.s0 t.Ins) (0, t.Ins) = _ from loop_run (step := tx_Clone.s0 t.Ins) (fun i => ((i : Int), t.Ins)) t.Ins.length (r := t.Ins) rfl (fun i hi => by
    have hk := hf.key _ (getD_mem (d := default) hi)
    simp only [tx_Clone.s0, Int.toNat_natCast, bytes_Clone.f]
    rw [if_pos (by omega), if_pos (by omega), if_pos (by omega), Option.bind_some, winc i (by omega)]
    have : t.Ins.set i (⟨(t.Ins.getD i default).From, (t.Ins.getD i default).Key, (t.Ins.getD i default).Seq⟩ : In) = t.Ins := by
      rw [gd _ _ hi]
      exact List.set_getElem_self hi
    rw [this]) (by simp only [tx_Clone.s0]; rw [if_neg (by omega)])]
  rfl
end Go.Proofs.YtcpdnoochieecaaDoor.T
namespace Go.Proofs.YtcpdnoochieecaaDoor.T
open Go Go.Proofs Go.Proofs.YtcpdnoochieecaaDoor.K
set_option linter.unusedVariables false
set_option linter.unusedSimpArgs false
def idt (t : Tx) : List Int := sha (sha (tb t))
def T1 (h : Nat) (v : Int) (l e : List Int) : Tx := ⟨1, [⟨nullP, lb h 4 ++ e, 4294967295⟩], [⟨v, l⟩], 0⟩
theorem zB : Bs (List.replicate 32 0) := fun x hx => by
  obtain rfl : x = 0 := List.eq_of_mem_replicate hx
  simp [InR]
theorem T1_ok {h : Nat} {v : Int} {l e : List Int} (hv : InR .u64 v) (hl : l.length = 32) (lb_ : Bs l) (he : Bs e) : TxOk (T1 h v l e) := by
  refine ⟨by simp [T1, InR], fun i hi => ?_, fun o ho => ?_, by simp [T1, InR]⟩
  · obtain rfl := List.mem_singleton.1 hi
    exact ⟨by simp [nullP], zB, by simp [nullP, InR], (bs_lb _ _).app he, by simp [InR]⟩
  · obtain rfl := List.mem_singleton.1 ho
    exact ⟨hv, hl, lb_⟩
theorem T1_few {h : Nat} {v : Int} {l e : List Int} (he : e.length ≤ 90) : Few 60 100 (T1 h v l e) := by
  refine ⟨by simp [T1], by simp [T1], fun i hi => ?_⟩
  obtain rfl := List.mem_singleton.1 hi
  simp only [List.length_append, lb_len]; omega
theorem u32_nat (x : Int) : IntKind.u32.wrap x = (((IntKind.u32.wrap x).toNat : Nat) : Int) ∧ (IntKind.u32.wrap x).toNat < 4294967296 := nat4 (wrap_in _ _)
theorem first1_eq (x0 x1 : Int) (x2 x3 : List Int) (h3 : x3.length ≤ 90) : sargassoref1_First.f x0 x1 x2 x3 = some (T1 (IntKind.u32.wrap x0).toNat x1 x2 x3) := by
  obtain ⟨e, hl⟩ := u32_nat x0
  have h := four1_eq [] _ hl (by simp)
  rw [← e] at h
  simp only [sargassoref1_First.f]
  rw [h, Option.bind_some, if_pos (by simp [lb_len]; omega)]
  simp [sargassoref1_Null.f, T1, nullP]
theorem id_eq {t : Tx} (h : TxOk t) (hf : Few 60 100 t) : tx_ID.f t = some (idt t) := by
  have n0 := tb_le h (hf.mono (by omega) (by omega))
  simp only [tx_ID.f]
  rw [tbytes_eq h (hf.mono (by omega) (by omega)), Option.bind_some, twice_eq _ (by omega), Option.bind_some]
  rfl
structure TsOk (l : List Tx) : Prop where
  n : l.length ≤ 1000
  ok : ∀ t ∈ l, TxOk t
  few : ∀ t ∈ l, Few 60 100 t
theorem ids_eq {b : Block} (h : TsOk b.Txs) : block_IDs.f b = some (b.Txs.map idt) := by
  have hn := h.n
  simp only [block_IDs.f]
  rw [show loopO (block_IDs.s0 b) ([], 0) = _ from loop_run (step := block_IDs.s0 b) (fun i => ((b.Txs.take i).map idt, (i : Int))) b.Txs.length (r := b.Txs.map idt) rfl (fun i hi => by
    have hm := getD_mem (l := b.Txs) (d := default) hi
    simp only [block_IDs.s0, Int.toNat_natCast]
    rw [if_pos (by omega), if_pos (by omega), id_eq (h.ok _ hm) (h.few _ hm), Option.bind_some, if_pos (by simp; omega), winc i (by omega), ← take_next b.Txs i default hi]
    simp) (by simp only [block_IDs.s0]; rw [if_neg (by omega), List.take_length])]
  rfl
theorem sametxs_eq {xs ys : List Tx} (h : TsOk xs) (k : ∀ t ∈ ys, TxOk t) : sargassoref_SameTxs.f xs ys = some (decide (xs = ys)) := by
  have hn := h.n
  simp only [sargassoref_SameTxs.f]
  by_cases c : xs.length = ys.length
  · rw [if_neg (by omega), all_run xs.length (fun i => xs.getD i default = ys.getD i default) (by omega) (fun i hi => by
      have hm := getD_mem (l := xs) (d := default) hi
      have hf := h.few _ hm
      have a1 := hf.ins
      have a2 := hf.outs
      simp only [sargassoref_SameTxs.s0, Int.toNat_natCast]
      rw [if_pos (by omega), if_pos (by omega), if_pos (by omega), sametx_eq (h.ok _ hm) (k _ (getD_mem (show i < ys.length by omega))) (by omega) (by omega) (fun j hj => by have := hf.key j hj; omega), Option.bind_some]
      by_cases e : xs.getD i default = ys.getD i default
      · rw [if_pos e, if_pos (decide_eq_true e)]
      · rw [if_neg e, if_neg (by simp only [decide_eq_true_eq]; exact e)]) (by simp [sargassoref_SameTxs.s0])]
    exact congrArg some (decide_eq_decide.2 (ext_iff xs ys default c))
  · rw [if_pos (by omega), decide_eq_false (fun e => c (by rw [e]))]
end Go.Proofs.YtcpdnoochieecaaDoor.T
namespace Go.Proofs.YtcpdnoochieecaaDoor.T
open Go Go.Proofs Go.Proofs.YtcpdnoochieecaaDoor.K
set_option linter.unusedVariables false
set_option linter.unusedSimpArgs false
theorem nt_ends {τ ρ : Type} {step : τ → Option (τ ⊕ ρ)} (I : Nat → τ → Prop) (Post : ρ → Prop) (n : Nat) {s : τ} (h0 : I 0 s) (h : ∀ i, i < n → ∀ s, I i s → (∃ s', step s = some (.inl s') ∧ I (i + 1) s') ∨ ∃ r, step s = some (.inr r) ∧ Post r) (hn : ∀ s, I n s → ∃ r, step s = some (.inr r) ∧ Post r) : ∃ r, loopO step s = some r ∧ Post r := by
  have key : ∀ m k s, k + m = n → I k s → ∃ r, loopO step s = some r ∧ Post r := by
    intro m
    induction m with
    | zero =>
      intro k s e hI
      obtain ⟨r, h1, h2⟩ := hn s (by rw [← e]; exact hI)
      exact ⟨r, loopO_inr h1, h2⟩
    | succ m ih =>
      intro k s e hI
      rcases h k (by omega) s hI with ⟨s', h1, h2⟩ | ⟨r, h1, h2⟩
      · rw [loopO_inl h1]
        exact ih (k + 1) s' (by omega) h2
      · exact ⟨r, loopO_inr h1, h2⟩
  exact key n 0 s (by omega) h0
theorem mget_mput {K V : Type} [DecidableEq K] (l : List (K × V)) (k k' : K) (v : V) : mget (mput l k v) k' = if k = k' then some v else mget l k' := by
  induction l with
  | nil => rfl
  | cons p l ih =>
    simp only [mput]
    by_cases h : p.1 = k
    · rw [if_pos h]
      simp only [mget]
      by_cases h2 : k = k'
      · rw [if_pos h2, if_pos h2]
      · rw [if_neg h2, if_neg h2, if_neg (fun e => h2 (h.symm.trans e))]
    · rw [if_neg h]
      simp only [mget]
      by_cases h2 : p.1 = k'
      · rw [if_pos h2, if_pos h2, if_neg (fun e => h (h2.trans e.symm))]
      · rw [if_neg h2, if_neg h2, ih]
def ofO (l : List Note) (o : Int) : List Note := l.filter fun n => decide (n.Op = o)
def cnt (l : List Note) (o : Int) : Int := ((ofO l o).length : Int)
theorem ofO_app (l l' : List Note) (o : Int) : ofO (l ++ l') o = ofO l o ++ ofO l' o := List.filter_append ..
theorem ofO_one (n : Note) (o : Int) : ofO [n] o = if n.Op = o then [n] else [] := by
  by_cases h : n.Op = o
  · simp [ofO, h]
  · simp [ofO, h]
theorem cnt_next (l : List Note) (n : Note) (o : Int) : cnt (l ++ [n]) o = cnt l o + if n.Op = o then 1 else 0 := by
  unfold cnt
  rw [ofO_app, ofO_one]
  by_cases h : n.Op = o
  · rw [if_pos h, if_pos h]; simp
  · rw [if_neg h, if_neg h]; simp
theorem cntn_le (l : List Note) (o : Int) : cnt l o ≤ (l.length : Int) := by
  have := List.length_filter_le (fun n : Note => decide (n.Op = o)) l
  simp only [cnt, ofO]
  omega
theorem cnt_nn (l : List Note) (o : Int) : 0 ≤ cnt l o := by simp [cnt]
structure St (most op : Int) (H : List Note) (x : notesLog) : Prop where
  m : x.most = most
  o : x.op = op
  l : x.l = H.drop (H.length - most.toNat)
  g : ∀ o, (mget x.lost o).getD 0 = cnt (H.take (H.length - most.toNat)) o
theorem st_new (most : Int) (h0 : 1 ≤ most) (h1 : most ≤ 65536) : notes_New.f most = some (some ⟨most, 0, [], []⟩, .b 0) ∧ St most 0 [] ⟨most, 0, [], []⟩ := by
  constructor
  · simp only [notes_New.f]
    rw [if_neg (by omega), Option.bind_some, if_neg (by simp only [decide_eq_true_eq]; omega)]
  · exact ⟨rfl, rfl, by simp, fun o => by simp [mget, cnt, ofO]⟩
theorem drop_tail (H : List Note) (n : Note) (m : Nat) (hm : 0 < m) (l1 : List Note) (hl : l1 = H.drop (H.length - m) ++ [n]) :
    (m < l1.length → l1.drop 1 = (H ++ [n]).drop ((H ++ [n]).length - m) ∧ (H ++ [n]).take ((H ++ [n]).length - m) = H.take (H.length - m) ++ [l1.getD 0 default]) ∧
    (¬ m < l1.length → l1 = (H ++ [n]).drop ((H ++ [n]).length - m) ∧ (H ++ [n]).take ((H ++ [n]).length - m) = H.take (H.length - m)) := by
  subst hl
  have hlen : (H.drop (H.length - m) ++ [n]).length = min H.length m + 1 := by simp; omega
  have happ : H.drop (H.length - m) ++ [n] = (H ++ [n]).drop (H.length - m) := by rw [List.drop_append_of_le_length (by omega)]
  constructor
  · intro h
    have hHm : m ≤ H.length := by omega
    have e1 : (H ++ [n]).length - m = (H.length - m) + 1 := by simp; omega
    rw [e1]
    refine ⟨by rw [happ, List.drop_drop], ?_⟩
    have hlt : H.length - m < H.length := by omega
    have := take_next (H ++ [n]) (H.length - m) default (by simp; omega)
    rw [← this, List.take_append_of_le_length (by omega)]
    congr 2
    rw [happ]
    simp [List.getD]
  · intro h
    have e1 : (H ++ [n]).length - m = H.length - m := by
      have : H.length < m := by omega
      simp; omega
    rw [e1]
    exact ⟨happ, by rw [List.take_append_of_le_length (by omega)]⟩
theorem nadd_eq {most op : Int} {H : List Note} {x : notesLog} (s : St most op H x) (h0 : 1 ≤ most) (h1 : most ≤ 65536) (hH : H.length ≤ 100000) (h : List Int) (r : Int) (r1 : 1 ≤ r) (r9 : r ≤ 9) :
    ∃ x', notes_Log_Add.f x h r = some (.b 0, x') ∧ St most op (H ++ [⟨op, h, r⟩]) x' := by
  obtain ⟨sm, so, sl_, sg⟩ := s
  obtain ⟨m, ho, xl, lost⟩ := x
  simp only at sm so sl_ sg
  subst sm so
  obtain ⟨l1, hl⟩ : ∃ l1, l1 = xl ++ [(⟨ho, h, r⟩ : Note)] := ⟨_, rfl⟩
  have hd := drop_tail H ⟨ho, h, r⟩ m.toNat (by omega) l1 (by rw [hl, sl_])
  have hxl : xl.length ≤ 100000 := by rw [sl_]; simp; omega
  have hl1 : l1.length = xl.length + 1 := by rw [hl]; simp
  simp only [notes_Log_Add.f]
  rw [if_neg (by omega), Option.bind_some, if_neg (by simp only [decide_eq_true_eq]; omega), if_pos (by omega), ← hl]
  by_cases hc : m.toNat < l1.length
  · obtain ⟨d1, d2⟩ := hd.1 hc
    have hcl : slices_Clone_api_Note_api_Note.f (((l1.take ((l1.length : Int)).toNat)).drop (1 : Int).toNat) = some (l1.drop 1) := by
      simp only [slices_Clone_api_Note_api_Note.f, Int.toNat_natCast, List.take_length]
      rw [show (1 : Int).toNat = 1 from rfl, if_pos (by simp; omega)]
    rw [if_pos (show m < (l1.length : Int) by omega), if_pos (by omega), if_pos (by omega), hcl, Option.bind_some, Option.bind_some]
    refine ⟨_, rfl, ⟨rfl, rfl, d1, fun o => ?_⟩⟩
    rw [d2, cnt_next]
    simp only [show (0 : Int).toNat = 0 from rfl]
    rw [mget_mput]
    by_cases e : (l1.getD 0 default).Op = o
    · rw [if_pos e, if_pos e, e, sg]
      have := cntn_le (H.take (H.length - m.toNat)) o
      have := cnt_nn (H.take (H.length - m.toNat)) o
      have hh : (H.take (H.length - m.toNat)).length ≤ 100000 := by simp; omega
      rw [w64 (by omega) (by omega)]
      rfl
    · rw [if_neg e, if_neg e, sg, Int.add_zero]
  · obtain ⟨d1, d2⟩ := hd.2 hc
    rw [if_neg (show ¬ m < (l1.length : Int) by omega), Option.bind_some]
    exact ⟨_, rfl, ⟨rfl, rfl, d1, fun o => by rw [d2]; exact sg o⟩⟩
theorem st_len {most op : Int} {H : List Note} {x : notesLog} (s : St most op H x) : x.l.length = min H.length most.toNat := by
  rw [s.l]; simp; omega
theorem st_all {most op : Int} {H : List Note} {x : notesLog} (s : St most op H x) (h1 : most ≤ 65536) : notes_Log_All.f x = some x.l := by
  have := st_len s
  simp only [notes_Log_All.f, slices_Clone_api_Note_api_Note.f]
  rw [if_pos (by omega), Option.bind_some]
end Go.Proofs.YtcpdnoochieecaaDoor.T
namespace Go.Proofs.YtcpdnoochieecaaDoor.T
open Go Go.Proofs Go.Proofs.YtcpdnoochieecaaDoor.K
set_option linter.unusedVariables false
set_option linter.unusedSimpArgs false
theorem concatx_eq (l : List (List Tx)) (hn : l.length ≤ 1000) (hl : ∀ x ∈ l, x.length ≤ 1000) : slices_Concat_api_Tx_api_Tx.f l = some l.flatten := by
  have hpre : ∀ i, i ≤ l.length → ((l.take i).flatten.length ≤ 1000 * i) := by
    intro i
    induction i with
    | zero => intro _; simp
    | succ i ih =>
      intro hi
      have h1 := ih (by omega)
      have h2 : (l.getD i []).length ≤ 1000 := by
        have e : l.getD i [] = l[i] := by simp [List.getD, show i < l.length by omega]
        rw [e]; exact hl _ (List.getElem_mem _)
      rw [← take_next l i [] (by omega), List.flatten_append, List.length_append]
      simp only [List.flatten_cons, List.flatten_nil, List.append_nil]
      omega
  have hel : ∀ i, i < l.length → (l.getD i []).length ≤ 1000 := fun i hi => by
    have e : l.getD i [] = l[i] := by simp [List.getD, hi]
    rw [e]; exact hl _ (List.getElem_mem _)
  have hnext : ∀ i, i < l.length → (l.take (i + 1)).flatten = (l.take i).flatten ++ l.getD i [] := fun i hi => by
    rw [← take_next l i [] hi, List.flatten_append]; simp
  have h0 : loopO (slices_Concat_api_Tx_api_Tx.s0 l) (0, 0) = some ((l.flatten.length : Int)) := by
    refine loop_run (fun i => (((l.take i).flatten.length : Int), (i : Int))) l.length (by simp) (fun i hi => ?_) ?_
    · have a := hpre i (by omega)
      have b := hel i hi
      simp only [slices_Concat_api_Tx_api_Tx.s0, Int.toNat_natCast]
      rw [if_pos (by omega), if_pos (by omega), w64 (x := ((l.take i).flatten.length : Int) + ((l.getD i []).length : Int)) (by omega) (by omega), if_neg (by omega), Option.bind_some, winc i (by omega), hnext i hi, List.length_append]
      push_cast
      rfl
    · simp only [slices_Concat_api_Tx_api_Tx.s0]
      rw [if_neg (by omega), List.take_length]
  have h1 : loopO (slices_Concat_api_Tx_api_Tx.s1 l) ([], 0) = some l.flatten := by
    refine loop_run (fun i => ((l.take i).flatten, (i : Int))) l.length (by simp) (fun i hi => ?_) ?_
    · have a := hpre i (by omega)
      have b := hel i hi
      simp only [slices_Concat_api_Tx_api_Tx.s1, Int.toNat_natCast]
      rw [if_pos (by omega), if_pos (by omega), if_pos (by omega), winc i (by omega), hnext i hi]
    · simp only [slices_Concat_api_Tx_api_Tx.s1]
      rw [if_neg (by omega), List.take_length]
  have a := hpre l.length (by omega)
  rw [List.take_length] at a
  simp only [slices_Concat_api_Tx_api_Tx.f, slices_Grow_api_Tx_api_Tx.f, h0, Option.bind_some]
  rw [if_pos (by omega), Option.bind_some, h1, Option.bind_some]
theorem rclones_eq {l : List Tx} (h : TsOk l) : tx_Clones.f l = some l := by
  have hn := h.n
  simp only [tx_Clones.f]
  rw [show loopO (tx_Clones.s0 l) ([], 0) = _ from loop_run (step := tx_Clones.s0 l) (fun i => (l.take i, (i : Int))) l.length (r := l) rfl (fun i hi => by
    have hm := getD_mem (l := l) (d := default) hi
    simp only [tx_Clones.s0, Int.toNat_natCast]
    rw [if_pos (by omega), if_pos (by omega), txclone_eq (h.ok _ hm) (h.few _ hm), Option.bind_some, if_pos (by simp; omega), winc i (by omega), take_next l i default hi]) (by simp only [tx_Clones.s0]; rw [if_neg (by omega), List.take_length])]
  rfl
theorem TsOk.drop {l : List Tx} (h : TsOk l) (k : Nat) : TsOk (l.drop k) := ⟨by have := h.n; simp; omega, fun t ht => h.ok t (List.mem_of_mem_drop ht), fun t ht => h.few t (List.mem_of_mem_drop ht)⟩
theorem TsOk.take {l : List Tx} (h : TsOk l) (k : Nat) : TsOk (l.take k) := ⟨by have := h.n; simp; omega, fun t ht => h.ok t (List.mem_of_mem_take ht), fun t ht => h.few t (List.mem_of_mem_take ht)⟩
theorem TsOk.filter {l : List Tx} (h : TsOk l) (p : Tx → Bool) : TsOk (l.filter p) := ⟨by have := h.n; have := List.length_filter_le p l; omega, fun t ht => h.ok t (List.mem_filter.1 ht).1, fun t ht => h.few t (List.mem_filter.1 ht).1⟩
theorem TsOk.app {l l' : List Tx} (h : TsOk l) (h' : TsOk l') (hn : l.length + l'.length ≤ 1000) : TsOk (l ++ l') := ⟨by simpa using hn, fun t ht => by
  rcases List.mem_append.1 ht with ht | ht
  · exact h.ok t ht
  · exact h'.ok t ht, fun t ht => by
  rcases List.mem_append.1 ht with ht | ht
  · exact h.few t ht
  · exact h'.few t ht⟩
theorem behind_eq {b : Block} (h : TsOk b.Txs) : redo_behind.f b = some (b.Txs.drop 1) := by
  have e : (b.Txs.take ((b.Txs.length : Int)).toNat).drop (iMin (b.Txs.length : Int) 1).toNat = b.Txs.drop 1 := by
    rw [Int.toNat_natCast, List.take_length]
    rcases Nat.eq_zero_or_pos b.Txs.length with c | c
    · rw [List.eq_nil_of_length_eq_zero c]; simp
    · have : (iMin (b.Txs.length : Int) 1).toNat = 1 := by simp only [iMin]; split <;> omega
      rw [this]
  have hm : 0 ≤ iMin (b.Txs.length : Int) 1 ∧ iMin (b.Txs.length : Int) 1 ≤ (b.Txs.length : Int) := by simp only [iMin]; split <;> omega
  simp only [redo_behind.f]
  rw [if_pos hm, e, rclones_eq (h.drop 1), Option.bind_some]
def Sized (s : Nat) (l : List Tx) : Prop := ∀ t ∈ l, (tb t).length = s
theorem back_eq {s : Nat} (hs : 0 < s) (hs2 : s ≤ 10000) {b : Block} (hb : TsOk b.Txs) (sb : Sized s (b.Txs.drop 1)) {l : List Tx} (hl : TsOk l) (sl : Sized s l) (hlen : b.Txs.length + l.length ≤ 1000) (room : Nat) (hroom : room ≤ 1000) (c : Nat) (hc : c < s) {most : Int} (hmost : most = ((s * room + c : Nat) : Int)) {nm no : Int} {H : List Note} {g : notesLog} (sg : St nm no H g) (n1 : 1 ≤ nm) (n2 : nm ≤ 65536) (hH : H.length ≤ 50000) :
    ∃ g' H', redo_Redo_Back.f ⟨most, ((s * l.length : Nat) : Int), l⟩ b g = some (⟨most, ((s * ((b.Txs.drop 1 ++ l).take room).length : Nat) : Int), (b.Txs.drop 1 ++ l).take room⟩, g') ∧ St nm no H' g' ∧ H'.length = H.length + ((b.Txs.drop 1 ++ l).length - room) := by
  subst hmost
  have hd := hb.drop 1
  have hdl : (b.Txs.drop 1).length ≤ 1000 := hd.n
  simp only [redo_Redo_Back.f]
  rw [behind_eq hb, Option.bind_some]
  have e0 : loopO (redo_Redo_Back.s0 (b.Txs.drop 1)) (0, ((s * l.length : Nat) : Int)) = some ((s * (b.Txs.drop 1 ++ l).length : Nat) : Int) := by
    refine loop_run (step := redo_Redo_Back.s0 (b.Txs.drop 1)) (fun i => ((i : Int), ((s * (l.length + i) : Nat) : Int))) (b.Txs.drop 1).length rfl (fun i hi => ?_) ?_
    · have hm := getD_mem (l := b.Txs.drop 1) (d := default) hi
      have hb1 : s * (l.length + i) ≤ 10000 * 3000 := Nat.mul_le_mul hs2 (by have := hl.n; omega)
      have he : s * (l.length + (i + 1)) = s * (l.length + i) + s := by rw [← Nat.add_assoc, Nat.mul_add, Nat.mul_one]
      simp only [redo_Redo_Back.s0, Int.toNat_natCast]
      rw [if_pos (by omega), if_pos (by omega), size_eq (hd.ok _ hm) (hd.few _ hm), Option.bind_some, sb _ hm, winc i (by omega), he, w64 (by omega) (by omega)]
      push_cast
      rfl
    · simp only [redo_Redo_Back.s0]
      rw [if_neg (by omega), List.length_append, Nat.add_comm (b.Txs.drop 1).length]
  rw [e0, Option.bind_some, Option.bind_some, concatx_eq _ (by simp) (fun x hx => by
    have : x = b.Txs.drop 1 ∨ x = l := by simpa using hx
    rcases this with rfl | rfl
    · exact hdl
    · exact hl.n), Option.bind_some]
  have hf : ([b.Txs.drop 1, l] : List (List Tx)).flatten = b.Txs.drop 1 ++ l := by simp
  rw [hf]
  have hA : TsOk (b.Txs.drop 1 ++ l) := hd.app hl (by simp; omega)
  have sA : Sized s (b.Txs.drop 1 ++ l) := fun t ht => by
    rcases List.mem_append.1 ht with ht | ht
    · exact sb t ht
    · exact sl t ht
  generalize b.Txs.drop 1 ++ l = A at *
  have hAn := hA.n
  obtain ⟨z, ez, H', hz, sz, hzl⟩ := nt_ends (step := redo_Redo_Back.s1 (⟨((s * room + c : Nat) : Int), ((s * l.length : Nat) : Int), l⟩ : redoRedo)) (fun q (y : Int × List Tx × Int × Int × List Note × List (Int × Int)) => y.1 = ((s * (A.length - q) : Nat) : Int) ∧ y.2.1 = A.take (A.length - q) ∧ ∃ H', St nm no H' ⟨y.2.2.1, y.2.2.2.1, y.2.2.2.2.1, y.2.2.2.2.2⟩ ∧ H'.length = H.length + q) (fun z => ∃ H', z.1 = ⟨((s * room + c : Nat) : Int), ((s * (A.take room).length : Nat) : Int), A.take room⟩ ∧ St nm no H' z.2 ∧ H'.length = H.length + (A.length - room)) (A.length - room) (s := (((s * A.length : Nat) : Int), A, g.most, g.op, g.l, g.lost)) ⟨rfl, by simp, H, sg, rfl⟩ (fun q hq y hy => by
      obtain ⟨y1, y2, y3, y4, y5, y6⟩ := y
      obtain ⟨h1, h2, H', h3, h4⟩ := hy
      simp only at h1 h2 h3
      subst h1 h2
      have hlen' : (A.take (A.length - q)).length = A.length - q := by simp
      have hgt : s * room + c < s * (A.length - q) := by
        have : s * (room + 1) ≤ s * (A.length - q) := Nat.mul_le_mul_left _ (by omega)
        rw [Nat.mul_add, Nat.mul_one] at this
        omega
      have hm : (A.take (A.length - q)).getD (A.length - q - 1) default ∈ A := List.mem_of_mem_take (getD_mem (by omega))
      obtain ⟨g', eg, sg'⟩ := nadd_eq h3 n1 n2 (by omega) (idt ((A.take (A.length - q)).getD (A.length - q - 1) default)) 7 (by omega) (by omega)
      have hb1 : s * (A.length - q) ≤ 10000 * 1000 := Nat.mul_le_mul hs2 (by omega)
      have hsub : s * (A.length - (q + 1)) + s = s * (A.length - q) := by
        rw [show A.length - q = A.length - (q + 1) + 1 by omega, Nat.mul_add, Nat.mul_one]
      have hw : IntKind.i64.wrap (((A.take (A.length - q)).length : Int) - 1) = ((A.length - q - 1 : Nat) : Int) := by
        rw [hlen', w64 (by omega) (by omega)]; omega
      left
      simp only [redo_Redo_Back.s1]
      rw [if_pos (by omega), hw, if_pos (by omega)]
      simp only [Int.toNat_natCast]
      rw [id_eq (hA.ok _ hm) (hA.few _ hm), Option.bind_some, eg, Option.bind_some, size_eq (hA.ok _ hm) (hA.few _ hm), Option.bind_some, sA _ hm, if_pos (by omega), w64 (by omega) (by omega)]
      refine ⟨_, rfl, by simp only; omega, ?_, _, sg', by simp; omega⟩
      simp only [show (0 : Int).toNat = 0 from rfl, List.drop_zero]
      rw [List.take_take]
      congr 1
      omega) (fun y hy => by
      obtain ⟨y1, y2, y3, y4, y5, y6⟩ := y
      obtain ⟨h1, h2, H', h3, h4⟩ := hy
      simp only at h1 h2 h3
      subst h1 h2
      have hle : ¬ s * room + c < s * (A.length - (A.length - room)) := by
        have : s * (A.length - (A.length - room)) ≤ s * room := Nat.mul_le_mul_left _ (by omega)
        omega
      have ht : A.take (A.length - (A.length - room)) = A.take room := by
        rcases Nat.le_total room A.length with c | c
        · congr 1; omega
        · rw [List.take_of_length_le (by omega), List.take_of_length_le c]
      have htl : A.length - (A.length - room) = (A.take room).length := by simp; omega
      simp only [redo_Redo_Back.s1]
      rw [if_neg (by omega)]
      refine ⟨_, rfl, H', ?_, h3, h4⟩
      simp only
      rw [ht, htl])
  obtain ⟨z1, z2⟩ := z
  simp only at hz sz
  subst hz
  exact ⟨z2, H', ez, sz, hzl⟩
theorem contains_eq (l : List (List Int)) (x : List Int) (h : l.length ≤ 1000000) : slices_Contains_api_Hash_api_Hash.f l x = some (decide (x ∈ l)) := by
  simp only [slices_Contains_api_Hash_api_Hash.f, slices_Index_api_Hash_api_Hash.f]
  obtain ⟨r, e, hr⟩ := nt_ends (step := slices_Index_api_Hash_api_Hash.s0 l x) (fun i (s : Int) => s = (i : Int) ∧ ∀ j, j < i → l.getD j [] ≠ x) (fun r => 0 ≤ r ↔ x ∈ l) l.length (s := 0) ⟨rfl, fun j hj => by omega⟩ (fun i hi s hs => by
    obtain ⟨rfl, hs⟩ := hs
    simp only [slices_Index_api_Hash_api_Hash.s0, Int.toNat_natCast]
    rw [if_pos (by omega), if_pos (by omega)]
    by_cases c : x = l.getD i []
    · rw [if_pos c]
      exact .inr ⟨_, rfl, ⟨fun _ => c ▸ getD_mem hi, fun _ => by omega⟩⟩
    · rw [if_neg c, winc i (by omega)]
      refine .inl ⟨_, rfl, rfl, fun j hj => ?_⟩
      rcases Nat.lt_or_ge j i with h | h
      · exact hs j h
      · obtain rfl : j = i := by omega
        exact fun e => c e.symm) (fun s hs => by
    obtain ⟨rfl, hs⟩ := hs
    simp only [slices_Index_api_Hash_api_Hash.s0]
    rw [if_neg (by omega)]
    refine ⟨_, rfl, ⟨fun h => by omega, fun h => ?_⟩⟩
    obtain ⟨j, hj, e⟩ := List.getElem_of_mem h
    exact absurd (by simp [List.getD, hj, e]) (hs j hj))
  rw [e, Option.bind_some]
  exact congrArg some (decide_eq_decide.2 hr)
theorem on_eq {s : Nat} (hs2 : s ≤ 10000) {b : Block} (hb : TsOk b.Txs) {l : List Tx} (hl : TsOk l) (sl : Sized s l) (most by_ : Int) :
    redo_Redo_On.f ⟨most, by_, l⟩ b = some ⟨most, ((s * (l.filter fun t => decide (idt t ∉ b.Txs.map idt)).length : Nat) : Int), l.filter fun t => decide (idt t ∉ b.Txs.map idt)⟩ := by
  have hn := hl.n
  simp only [redo_Redo_On.f]
  rw [ids_eq hb, Option.bind_some]
  have e : loopO (redo_Redo_On.s0 ⟨most, by_, l⟩ (b.Txs.map idt)) ([], 0, 0) = some (l.filter (fun t => decide (idt t ∉ b.Txs.map idt)), ((s * (l.filter fun t => decide (idt t ∉ b.Txs.map idt)).length : Nat) : Int)) := by
    refine loop_run (step := redo_Redo_On.s0 ⟨most, by_, l⟩ (b.Txs.map idt)) (fun i => ((l.take i).filter (fun t => decide (idt t ∉ b.Txs.map idt)), ((s * ((l.take i).filter fun t => decide (idt t ∉ b.Txs.map idt)).length : Nat) : Int), (i : Int))) l.length rfl (fun i hi => ?_) ?_
    · have hm := getD_mem (l := l) (d := default) hi
      have hfl : ((l.take i).filter fun t => decide (idt t ∉ b.Txs.map idt)).length ≤ 1000 := by
        have := List.length_filter_le (fun t => decide (idt t ∉ b.Txs.map idt)) (l.take i)
        rw [List.length_take] at this
        omega
      have hb1 : s * ((l.take i).filter fun t => decide (idt t ∉ b.Txs.map idt)).length ≤ 10000 * 1000 := Nat.mul_le_mul hs2 hfl
      simp only [redo_Redo_On.s0, Int.toNat_natCast]
      rw [if_pos (by omega), if_pos (by omega), id_eq (hl.ok _ hm) (hl.few _ hm), Option.bind_some, contains_eq _ _ (by have := hb.n; simp; omega), Option.bind_some, winc i (by omega), ← take_next l i default hi, List.filter_append]
      by_cases c : idt (l.getD i default) ∈ b.Txs.map idt
      · rw [if_pos (decide_eq_true c), Option.bind_some, List.filter_cons_of_neg (by simp only [decide_eq_true_eq]; exact fun h => h c), List.filter_nil, List.append_nil]
      · rw [if_neg (by simp only [decide_eq_true_eq]; exact c), if_pos (by omega), size_eq (hl.ok _ hm) (hl.few _ hm), Option.bind_some, sl _ hm, Option.bind_some, List.filter_cons_of_pos (by simp only [decide_eq_true_eq]; exact c), List.filter_nil, w64 (by omega) (by omega), List.length_append, List.length_singleton, Nat.mul_add, Nat.mul_one]
        push_cast
        rfl
    · simp only [redo_Redo_On.s0]
      rw [if_neg (by omega), List.take_length]
  rw [e, Option.bind_some]
theorem rnew_eq (x : Int) (h0 : 1 ≤ x) (h1 : x ≤ 16777216) : redo_New.f x = some (some ⟨x, 0, []⟩, .b 0) := by
  simp only [redo_New.f]
  rw [if_neg (by omega), Option.bind_some, if_neg (by simp only [decide_eq_true_eq]; omega)]
theorem tsok_nil : TsOk [] := ⟨by simp, by simp, by simp⟩
theorem rall_eq {m b : Int} {l : List Tx} (h : TsOk l) : redo_Redo_All.f ⟨m, b, l⟩ = some l := by
  simp only [redo_Redo_All.f]
  rw [rclones_eq h, Option.bind_some]
theorem first24 : sargassolaw24_first.f = some true := by
  simp only [sargassolaw24_first.f]
  rw [rnew_eq 10 (by omega) (by omega), Option.bind_some]
  simp only [oM]
  rw [if_pos trivial, rall_eq tsok_nil, Option.bind_some]
  rfl
end Go.Proofs.YtcpdnoochieecaaDoor.T
namespace Go.Proofs.YtcpdnoochieecaaDoor.T
open Go Go.Proofs Go.Proofs.YtcpdnoochieecaaDoor.K
set_option linter.unusedVariables false
set_option linter.unusedSimpArgs false
def tv (v : Int) : Tx := ⟨v, [⟨⟨List.replicate 32 0, 0⟩, [], 0⟩], [⟨0, List.replicate 32 0⟩], 0⟩
theorem tv_ok {v : Int} (h : InR .u32 v) : TxOk (tv v) := by
  refine ⟨h, fun i hi => ?_, fun o ho => ?_, by simp [tv, InR]⟩
  · obtain rfl := List.mem_singleton.1 hi
    exact ⟨by simp, zB, by simp [InR], (by intro x hx; cases hx), by simp [InR]⟩
  · obtain rfl := List.mem_singleton.1 ho
    exact ⟨by simp [InR], by simp, zB⟩
theorem tv_few (v : Int) : Few 60 100 (tv v) := by
  refine ⟨by simp [tv], by simp [tv], fun i hi => ?_⟩
  obtain rfl := List.mem_singleton.1 hi
  simp
theorem tv_len (v : Int) : (tb (tv v)).length = 91 := by
  have p1 : (pt 1).length = 1 := by decide
  have p0 : (pt 0).length = 1 := by decide
  simp [tb, tv, ib, ob, lb_len, p1, p0]
theorem take_app_take {α : Type} (a b : List α) (k : Nat) : (a ++ b.take k).take k = (a ++ b).take k := by
  rw [List.take_append, List.take_append, List.take_take]
  congr 2
  omega
def bh (b : Block) : List Tx := b.Txs.drop 1
structure BOk (b : Block) : Prop where
  ok : TsOk b.Txs
  sz : Sized 91 (bh b)
  n : b.Txs.length ≤ 5
def fl (bs : List Block) : List Tx := (bs.map bh).flatten
theorem fl_len {bs : List Block} (h : ∀ b ∈ bs, BOk b) : (fl bs).length ≤ 5 * bs.length := by
  induction bs with
  | nil => simp [fl]
  | cons b bs ih =>
    have := ih fun x hx => h x (List.mem_cons_of_mem _ hx)
    have h1 := (h b (by simp)).n
    simp only [fl, List.map_cons, List.flatten_cons, List.length_append, bh, List.length_drop, List.length_cons] at this ⊢
    omega
theorem fl_ok {bs : List Block} (h : ∀ b ∈ bs, BOk b) (hn : bs.length ≤ 100) : TsOk (fl bs) ∧ Sized 91 (fl bs) := by
  have key : ∀ t ∈ fl bs, ∃ b ∈ bs, t ∈ bh b := fun t ht => by
    obtain ⟨l, hl, htl⟩ := List.mem_flatten.1 ht
    obtain ⟨b, hb, rfl⟩ := List.mem_map.1 hl
    exact ⟨b, hb, htl⟩
  refine ⟨⟨by have := fl_len h; omega, fun t ht => ?_, fun t ht => ?_⟩, fun t ht => ?_⟩
  · obtain ⟨b, hb, h1⟩ := key t ht
    exact (h b hb).ok.ok t (List.mem_of_mem_drop h1)
  · obtain ⟨b, hb, h1⟩ := key t ht
    exact (h b hb).ok.few t (List.mem_of_mem_drop h1)
  · obtain ⟨b, hb, h1⟩ := key t ht
    exact (h b hb).sz t h1
theorem drop_cons_getD {α : Type} (l : List α) (i : Nat) (d : α) (h : i < l.length) : l.drop i = l.getD i d :: l.drop (i + 1) := by
  rw [List.drop_eq_getElem_cons h]
  simp [List.getD, h]
theorem sargassolaw24_RedoOrder.m (μ : Store) (x0 : List Int) (u0 : Value) (h0 : Slc (RI .i64) 1 μ u0 x0) (x1 : Int) (h1 : InR .i64 x1) : sargassolaw24_RedoOrder.f x0 x1 = some true := by
  have hx : ∀ x ∈ x0, InR .i64 x := fun x hx => slc_ints h0 x hx
  simp only [sargassolaw24_RedoOrder.f]
  rw [first24, Option.bind_some, if_pos rfl]
  by_cases c10 : 10 < x0.length
  · rw [if_pos (by omega)]
  rw [if_neg (by omega)]
  have e0 : ∃ z : List Block × List Tx, loopO (sargassolaw24_RedoOrder.s0 x0) ([], [], 0) = some z ∧ z.1.length = x0.length ∧ z.2 = fl z.1 ∧ ∀ b ∈ z.1, BOk b := by
    refine nt_ends (step := sargassolaw24_RedoOrder.s0 x0) (fun i (s : List Block × List Tx × Int) => s.2.2 = (i : Int) ∧ s.1.length = i ∧ s.2.1 = fl s.1 ∧ ∀ b ∈ s.1, BOk b) _ x0.length ⟨rfl, rfl, rfl, by simp⟩ (fun i hi s hs => ?_) (fun s hs => ?_)
    · obtain ⟨s1, s2, s3⟩ := s
      obtain ⟨e, hl, ha, hb⟩ := hs
      simp only at e hl ha hb
      subst e
      have hin := hx _ (getD_mem (l := x0) (d := 0) hi)
      obtain ⟨y, ey, y0, y4⟩ := number_eq hin (n := 4) (by omega) (by omega)
      obtain ⟨m, rfl⟩ : ∃ m : Nat, y = m := ⟨y.toNat, by omega⟩
      have hall : s2.length ≤ 1000 := by rw [ha]; have := fl_len hb; omega
      obtain ⟨z, ez, ts, hz1, hz2, hz3, hz4⟩ := nt_ends (step := sargassolaw24_RedoOrder.s1 x0 (i : Int)) (fun k (s : List Tx × Int × List Tx) => s.2.1 = (k : Int) ∧ ∃ ts : List Tx, s.1 = s2 ++ ts ∧ s.2.2 = [T1 (IntKind.u32.wrap (i : Int)).toNat 1 [0, 0, 0, 0, 0, 0, 0, 0, 0, 0, 0, 0, 0, 0, 0, 0, 0, 0, 0, 0, 0, 0, 0, 0, 0, 0, 0, 0, 0, 0, 0, 0] []] ++ ts ∧ ts.length = k ∧ ∀ t ∈ ts, ∃ v, InR .u32 v ∧ t = tv v) (fun z => ∃ ts : List Tx, z.1 = s2 ++ ts ∧ z.2 = [T1 (IntKind.u32.wrap (i : Int)).toNat 1 [0, 0, 0, 0, 0, 0, 0, 0, 0, 0, 0, 0, 0, 0, 0, 0, 0, 0, 0, 0, 0, 0, 0, 0, 0, 0, 0, 0, 0, 0, 0, 0] []] ++ ts ∧ ts.length = m ∧ ∀ t ∈ ts, ∃ v, InR .u32 v ∧ t = tv v) m (s := (s2, 0, [T1 (IntKind.u32.wrap (i : Int)).toNat 1 [0, 0, 0, 0, 0, 0, 0, 0, 0, 0, 0, 0, 0, 0, 0, 0, 0, 0, 0, 0, 0, 0, 0, 0, 0, 0, 0, 0, 0, 0, 0, 0] []])) ⟨rfl, [], by simp, by simp, rfl, by simp⟩ (fun k hk s hs => by
        obtain ⟨q1, q2, q3⟩ := s
        obtain ⟨e, ts, e1, e2, e3, e4⟩ := hs
        simp only at e e1 e2
        subst e e1 e2
        left
        simp only [sargassolaw24_RedoOrder.s1, Int.toNat_natCast]
        rw [if_pos (by omega), ey, Option.bind_some, if_pos (by omega), if_pos (by simp; omega), if_pos (by simp; omega), winc k (by omega)]
        refine ⟨_, rfl, rfl, ts ++ [tv (IntKind.u32.wrap (IntKind.i64.wrap (IntKind.i64.wrap (100 * (i : Int)) + (k : Int))))], by simp [tv], by simp [tv], by simp [e3], fun t ht => ?_⟩
        rcases List.mem_append.1 ht with ht | ht
        · exact e4 t ht
        · exact ⟨_, wrap_in _ _, List.mem_singleton.1 ht⟩) (fun s hs => by
        obtain ⟨q1, q2, q3⟩ := s
        obtain ⟨e, ts, e1, e2, e3, e4⟩ := hs
        simp only at e e1 e2
        subst e e1 e2
        simp only [sargassolaw24_RedoOrder.s1, Int.toNat_natCast]
        rw [if_pos (by omega), ey, Option.bind_some, if_neg (by omega)]
        exact ⟨_, rfl, ts, rfl, rfl, e3, e4⟩)
      obtain ⟨z1, z2⟩ := z
      simp only at hz1 hz2
      subst hz1 hz2
      left
      simp only [sargassolaw24_RedoOrder.s0]
      rw [if_pos (by omega), first1_eq _ _ _ _ (by simp), Option.bind_some, ez, Option.bind_some]
      simp only
      rw [if_pos (by omega), Option.bind_some, winc i (by omega)]
      refine ⟨_, rfl, rfl, by simp [hl], ?_, fun b hbm => ?_⟩
      · simp only [fl, List.map_append, List.flatten_append, List.map_cons, List.map_nil, List.flatten_cons, List.flatten_nil, List.append_nil]
        rw [ha]
        rfl
      · rcases List.mem_append.1 hbm with hbm | hbm
        · exact hb b hbm
        · obtain rfl := List.mem_singleton.1 hbm
          have htok : ∀ t ∈ ts, TxOk t := fun t ht => by
            obtain ⟨v, hv, rfl⟩ := hz4 t ht
            exact tv_ok hv
          have htf : ∀ t ∈ ts, Few 60 100 t := fun t ht => by
            obtain ⟨v, hv, rfl⟩ := hz4 t ht
            exact tv_few v
          refine ⟨⟨by simp [hz3]; omega, fun t ht => ?_, fun t ht => ?_⟩, fun t ht => ?_, by simp [hz3]; omega⟩
          · rcases List.mem_append.1 ht with ht | ht
            · obtain rfl := List.mem_singleton.1 ht
              exact T1_ok (by simp [InR]) rfl (show Bs (List.replicate 32 0) from zB) (by intro x hx; cases hx)
            · exact htok t ht
          · rcases List.mem_append.1 ht with ht | ht
            · obtain rfl := List.mem_singleton.1 ht
              exact T1_few (by simp)
            · exact htf t ht
          · obtain ⟨v, hv, rfl⟩ := hz4 t (by simpa [bh] using ht)
            exact tv_len v
    · obtain ⟨s1, s2, s3⟩ := s
      obtain ⟨e, hl, ha, hb⟩ := hs
      simp only at e hl ha hb
      subst e
      simp only [sargassolaw24_RedoOrder.s0]
      rw [if_neg (by omega)]
      exact ⟨_, rfl, hl, ha, hb⟩
  obtain ⟨⟨bs, all⟩, e0, hbl, ha, hb⟩ := e0
  simp only at hbl ha hb
  subst ha
  have hfl := fl_len hb
  obtain ⟨fok, fsz⟩ := fl_ok hb (by omega)
  rw [e0, Option.bind_some]
  simp only
  have es : sargassoref1_Size.f (tv 0) = some 91 := by
    rw [size1_eq (tv_ok (by simp [InR])) (tv_few 0), tv_len]; rfl
  obtain ⟨y, ey, y0, y40⟩ := number_eq h1 (n := 40) (by omega) (by omega)
  obtain ⟨room, rfl⟩ : ∃ m : Nat, y = m := ⟨y.toNat, by omega⟩
  have hmost : IntKind.i64.wrap (IntKind.i64.wrap (91 * (room : Int)) + 1) = ((91 * room + 1 : Nat) : Int) := by
    rw [w64 (x := 91 * (room : Int)) (by omega) (by omega), w64 (by omega) (by omega)]; omega
  obtain ⟨en, sn⟩ := st_new 100 (by omega) (by omega)
  rw [show (⟨0, ([(⟨(⟨(List.replicate 32 0), 0⟩ : Point), [], 0⟩ : In)] : List In), ([(⟨0, (List.replicate 32 0)⟩ : Out)] : List Out), 0⟩ : Tx) = tv 0 from rfl, es, Option.bind_some, ey, Option.bind_some, hmost, rnew_eq _ (by omega) (by omega), Option.bind_some]
  simp only [oM]
  rw [en, Option.bind_some]
  simp only
  rw [if_neg (fun h => h rfl), Option.bind_some, if_neg (by simp)]
  -- taken back
  have hw1 : IntKind.i64.wrap ((bs.length : Int) - 1) = (bs.length : Int) - 1 := w64 (by omega) (by omega)
  obtain ⟨z, ez, H, hzl, hz2, hz3, hzs, hzh⟩ := nt_ends (step := sargassolaw24_RedoOrder.s4 bs) (fun q (s : Int × Int × Int × List Note × List (Int × Int) × Int × Int × List Tx) => s.1 = (bs.length : Int) - 1 - (q : Int) ∧ ∃ H, s.2.2.2.2.2.2.2 = (fl (bs.drop (bs.length - q))).take room ∧ s.2.2.2.2.2.1 = ((91 * room + 1 : Nat) : Int) ∧ s.2.2.2.2.2.2.1 = ((91 * ((fl (bs.drop (bs.length - q))).take room).length : Nat) : Int) ∧ St 100 0 H ⟨s.2.1, s.2.2.1, s.2.2.2.1, s.2.2.2.2.1⟩ ∧ H.length = (fl (bs.drop (bs.length - q))).length - room) (fun z => ∃ H, z.2.2.2.2.2.2 = (fl bs).take room ∧ z.2.2.2.2.1 = ((91 * room + 1 : Nat) : Int) ∧ z.2.2.2.2.2.1 = ((91 * ((fl bs).take room).length : Nat) : Int) ∧ St 100 0 H ⟨z.1, z.2.1, z.2.2.1, z.2.2.2.1⟩ ∧ H.length = (fl bs).length - room) bs.length (s := (IntKind.i64.wrap ((bs.length : Int) - 1), 100, 0, [], [], ((91 * room + 1 : Nat) : Int), 0, [])) ⟨by rw [hw1]; simp, [], by simp [fl], rfl, by simp [fl], sn, by simp [fl]⟩ (fun q hq s hs => by
    obtain ⟨s1, s2, s3, s4, s5, s6, s7, s8⟩ := s
    obtain ⟨e, H, f1, f2, f3, f4, f5⟩ := hs
    simp only at e f1 f2 f3 f4
    subst e f1 f2 f3
    obtain ⟨j, hj⟩ : ∃ j : Nat, (bs.length : Int) - 1 - (q : Int) = j := ⟨bs.length - 1 - q, by omega⟩
    have hjl : j < bs.length := by omega
    have hd1 : bs.length - (q + 1) = j := by omega
    have hd2 : bs.length - q = j + 1 := by omega
    rw [hd2] at f5 ⊢
    have hsuf : ∀ b ∈ bs.drop (j + 1), BOk b := fun b hbm => hb b (List.mem_of_mem_drop hbm)
    have hsl := fl_len hsuf
    obtain ⟨sok, ssz⟩ := fl_ok hsuf (by simp; omega)
    have hbm := hb _ (getD_mem (l := bs) (d := default) hjl)
    have htl : ((fl (bs.drop (j + 1))).take room).length ≤ 500 := by simp at hsl ⊢; omega
    have hfc : fl (bs.drop j) = bh (bs.getD j default) ++ fl (bs.drop (j + 1)) := by
      rw [drop_cons_getD bs j default hjl]; rfl
    obtain ⟨g', H', eb, sg', hh⟩ := back_eq (s := 91) (by omega) (by omega) hbm.ok hbm.sz (sok.take room) (fun t ht => ssz t (List.mem_of_mem_take ht)) (by have := hbm.n; omega) room (by omega) 1 (by omega) (most := ((91 * room + 1 : Nat) : Int)) rfl f4 (by omega) (by omega) (by simp at hsl; omega)
    left
    simp only [sargassolaw24_RedoOrder.s4]
    rw [hj, if_pos (by omega), if_pos (by omega), Int.toNat_natCast, eb, Option.bind_some, w64 (by omega) (by omega)]
    have hta : ((bs.getD j default).Txs.drop 1 ++ (fl (bs.drop (j + 1))).take room).take room = (fl (bs.drop j)).take room := by
      rw [take_app_take, hfc]; rfl
    refine ⟨_, rfl, by simp only; omega, H', ?_⟩
    rw [hd1]
    simp only
    refine ⟨hta, by trivial, by rw [hta], sg', ?_⟩
    rw [hh, f5, hfc]
    simp only [List.length_append, List.length_take, bh]
    omega) (fun s hs => by
    obtain ⟨s1, s2, s3, s4, s5, s6, s7, s8⟩ := s
    obtain ⟨e, H, f1, f2, f3, f4, f5⟩ := hs
    simp only at e f1 f2 f3 f4
    rw [Nat.sub_self, List.drop_zero] at f1 f3 f5
    subst e
    simp only [sargassolaw24_RedoOrder.s4]
    rw [if_neg (by omega)]
    exact ⟨_, rfl, H, f1, f2, f3, f4, f5⟩)
  obtain ⟨z1, z2, z3, z4, z5, z6, z7⟩ := z
  simp only at hzl hz2 hz3 hzs
  subst hzl hz2 hz3
  rw [ez, Option.bind_some]
  simp only
  have hmin : iMin ((fl bs).length : Int) (room : Int) = ((min (fl bs).length room : Nat) : Int) := by simp only [iMin]; split <;> omega
  have htk : ((fl bs).take (iMin ((fl bs).length : Int) (room : Int)).toNat).drop (0 : Int).toNat = (fl bs).take room := by
    rw [hmin, Int.toNat_natCast]
    simp only [show (0 : Int).toNat = 0 from rfl, List.drop_zero]
    rcases Nat.le_total room (fl bs).length with c | c
    · rw [Nat.min_eq_right c]
    · rw [Nat.min_eq_left c, List.take_of_length_le c, List.take_length]
  have tok := fok.take room
  have hlen : ((fl bs).take room).length = min (fl bs).length room := by simp; omega
  have hst := st_len hzs
  simp only at hst
  rw [if_pos (by rw [hmin]; omega), rall_eq tok, Option.bind_some, htk, sametxs_eq tok tok.ok, decide_eq_true rfl, Option.bind_some, if_pos rfl]
  simp only [redo_Redo_Bytes.f]
  rw [Option.bind_some, if_neg (by rw [hmin, hlen, w64 (by omega) (by omega)]; omega), st_all hzs (by omega), Option.bind_some]
  simp only
  rw [decide_eq_false (by rw [hmin, hst, hzh, w64 (by omega) (by omega)]; simp only [show (100 : Int).toNat = 100 from rfl]; omega), Option.bind_some]
  simp only
  rw [if_neg (by decide)]
  -- put on
  obtain ⟨w, ew, hw⟩ := nt_ends (step := sargassolaw24_RedoOrder.s5 bs) (fun i (s : Int × Int × Int × List Tx) => s.1 = (i : Int) ∧ TsOk s.2.2.2 ∧ Sized 91 s.2.2.2 ∧ ∀ t ∈ s.2.2.2, ∃ b ∈ bs.drop i, t ∈ bh b) (fun w => w.2.2 = []) bs.length (s := (0, ((91 * room + 1 : Nat) : Int), ((91 * ((fl bs).take room).length : Nat) : Int), (fl bs).take room)) ⟨rfl, tok, fun t ht => fsz t (List.mem_of_mem_take ht), fun t ht => by
    obtain ⟨l, hl, htl⟩ := List.mem_flatten.1 (List.mem_of_mem_take ht)
    obtain ⟨b, hb', rfl⟩ := List.mem_map.1 hl
    exact ⟨b, by simpa using hb', htl⟩⟩ (fun i hi s hs => by
    obtain ⟨s1, s2, s3, s4⟩ := s
    obtain ⟨e, f1, f2, f3⟩ := hs
    simp only at e f1 f2 f3
    subst e
    have hbm := hb _ (getD_mem (l := bs) (d := default) hi)
    left
    simp only [sargassolaw24_RedoOrder.s5, Int.toNat_natCast]
    rw [if_pos (by omega), if_pos (by omega), on_eq (s := 91) (by omega) hbm.ok f1 f2, Option.bind_some, winc i (by omega)]
    refine ⟨_, rfl, rfl, f1.filter _, fun t ht => f2 t (List.mem_filter.1 ht).1, fun t ht => ?_⟩
    obtain ⟨h3, h4⟩ := List.mem_filter.1 ht
    obtain ⟨b, hb1, hb2⟩ := f3 t h3
    rw [drop_cons_getD bs i default hi] at hb1
    rcases List.mem_cons.1 hb1 with rfl | hb1
    · exact absurd (List.mem_map.2 ⟨t, List.mem_of_mem_drop hb2, rfl⟩) (of_decide_eq_true h4)
    · exact ⟨b, hb1, hb2⟩) (fun s hs => by
    obtain ⟨s1, s2, s3, s4⟩ := s
    obtain ⟨e, f1, f2, f3⟩ := hs
    simp only at e f1 f2 f3
    subst e
    simp only [sargassolaw24_RedoOrder.s5]
    rw [if_neg (by omega)]
    refine ⟨_, rfl, ?_⟩
    cases s4 with
    | nil => rfl
    | cons t l =>
      obtain ⟨b, hb1, _⟩ := f3 t (by simp)
      rw [List.drop_length] at hb1
      cases hb1)
  obtain ⟨w1, w2, w3⟩ := w
  simp only at hw
  subst hw
  rw [ew, Option.bind_some]
  simp only
  rw [if_pos trivial, rall_eq tsok_nil, Option.bind_some, Option.bind_some]
  rfl
end Go.Proofs.YtcpdnoochieecaaDoor.T
namespace Go.Proofs.YtcpdnoochieecaaDoor.K
open Go Go.Proofs Go.ChangeShapes Go.WideShapes Go.RowKit
def mem (w : World) : Store := fun k => w.heap[k]?
theorem agr_mem (w : World) : Agr (mem w) w := fun _ _ h => h
theorem mem_cell {w : World} {g i : Nat} {v : Value} (h : w.cell? ⟨g, i, none⟩ = some v) : (mem w).cell g i = some v := by
  unfold World.cell? at h
  unfold Store.cell mem
  cases hm : w.heap[g]? with
  | none => simp [hm] at h
  | some o => cases o <;> simp_all
theorem wf_in {k : IntKind} {n : Int} (h : (Lit.int k n).wf = true) : InR k n := by
  cases k <;> simp [Lit.wf, IntKind.min, IntKind.max, IntKind.signed, IntKind.bits] at h <;> simp [InR] <;> omega
section
variable {H : Type} {enc : TypeId × Value → H} {P : Program} {w : World} {base : Nat} {spare : Nat → Bool} {held : Bool} {t e : TypeId}
def Rd (enc : TypeId × Value → H) (P : Program) (w : World) (base : Nat) (spare : Nat → Bool) (held : Bool) (t : TypeId) (R : List Value → Prop) : Prop :=
  ∀ fuel cs x, DataW.trod enc P w base spare held fuel t cs = some x → R cs
theorem rd_int {k : IntKind} (ht : P.underlying t = some (.int k)) : Rd enc P w base spare held t (fun c => ∃ n, RI k n c) := by
  intro fuel cs x h
  obtain ⟨n, rfl, _, hw⟩ := DataW.trod_int ht h
  exact ⟨n, rfl, wf_in hw⟩
theorem els_of {α : Type} {RE : α → List Value → Prop} {sz : Nat} : ∀ {n : Nat} {Q : Nat → Value → Prop}, (∀ i, i < n → ∃ x c, RE x c ∧ c.length = sz ∧ ∀ j v, c[j]? = some v → Q (i * sz + j) v) →
    ∃ xs cs, xs.length = n ∧ Els RE sz xs cs ∧ ∀ j v, cs[j]? = some v → Q j v
  | 0, _, _ => ⟨[], [], rfl, .nil, fun j v h => by simp at h⟩
  | n + 1, Q, f => by
    obtain ⟨x, c, h1, h2, h3⟩ := f 0 (by omega)
    obtain ⟨xs, cs, e1, e2, e3⟩ := els_of (n := n) (Q := fun m v => Q (sz + m) v) (fun i hi => by
      obtain ⟨x, c, h1, h2, h3⟩ := f (i + 1) (by omega)
      refine ⟨x, c, h1, h2, fun j v hj => ?_⟩
      have := h3 j v hj
      rwa [Nat.add_mul, Nat.one_mul, Nat.add_comm (i * sz), Nat.add_assoc] at this)
    refine ⟨x :: xs, c ++ cs, by simp [e1], .cons h1 h2 e2, fun j v hj => ?_⟩
    rcases Nat.lt_or_ge j c.length with h | h
    · rw [List.getElem?_append_left h] at hj
      simpa using h3 j v hj
    · rw [List.getElem?_append_right h] at hj
      have := e3 _ _ hj
      rwa [h2, Nat.add_sub_cancel' (by omega)] at this
theorem rd_slice {α : Type} {RE : α → List Value → Prop} {sz : Nat} (ht : P.underlying t = some (.slice e)) (hc : P.cellsOf e = sz) (h0 : 0 < sz) (hr : Rd enc P w base spare held e (fun c => ∃ x, RE x c)) :
    Rd enc P w base spare held t (fun c => ∃ v xs, c = [v] ∧ Slc RE sz (mem w) v xs) := by
  intro fuel cs x h
  rcases DataW.trod_slice ht h with ⟨rfl, _⟩ | ⟨a, len, cap, elems, rest, n, _, rfl, _, _, hl, hm, hlen, hel, _, _⟩
  · exact ⟨_, [], rfl, [], .nil, none, 0, rfl, Nat.le_refl _, Nat.zero_le _, fun h => absurd rfl h, fun h => absurd rfl h⟩
  have each0 : ∀ i, i < len → ∃ x c, RE x c ∧ c.length = sz ∧ ∀ j, j < sz → w.cell? ((a.add (i * sz)).add j) = c[j]? := by
    intro i hi
    have h1 := hel i hi
    rw [List.getElem?_eq_getElem (by omega), hc] at h1
    obtain ⟨c, hc1, hc2⟩ := Option.bind_eq_some_iff.1 h1
    obtain ⟨_, l1, l2⟩ := World.cells?_some hc1
    obtain ⟨x, hx⟩ := hr _ _ _ hc2
    exact ⟨x, c, hx, l1, l2⟩
  have hs : 0 < len → a.spot = none := by
    intro hp
    obtain ⟨x, c, _, l1, l2⟩ := each0 0 hp
    have h2 := (l2 0 h0).trans (List.getElem?_eq_getElem (by omega))
    simpa [Addr.add] using World.cell?_spot h2
  obtain ⟨b, off, spot⟩ := a
  simp only at hs
  have each : ∀ i, i < len → ∃ x c, RE x c ∧ c.length = sz ∧ ∀ j v, c[j]? = some v → (fun m v => w.cell? ⟨b, off + m, none⟩ = some v) (i * sz + j) v := by
    intro i hi
    obtain ⟨x, c, hx, l1, l2⟩ := each0 i hi
    refine ⟨x, c, hx, l1, fun j v hj => ?_⟩
    have hjl : j < sz := by
      have := (List.getElem?_eq_some_iff.1 hj).1
      omega
    have h2 := (l2 j hjl).trans hj
    rw [hs (by omega), add_plain, add_plain] at h2
    simpa [Nat.add_assoc] using h2
  obtain ⟨xs, cs, e1, e2, e3⟩ := els_of (RE := RE) (sz := sz) (Q := fun m v => w.cell? ⟨b, off + m, none⟩ = some v) each
  refine ⟨_, xs, rfl, cs, e2, some ⟨b, off, spot⟩, cap, by rw [e1], by omega, hm, fun hn => by rw [hs (by omega)]; rfl, fun hn j v hj => mem_cell (e3 j v hj)⟩
theorem rd_at {R : List Value → Prop} {v : Value} {d : DataW H} {ps : List MemPlace} (hr : Rd enc P w base spare held t R) (h : DataW.Trod enc P w base spare held t v d ps) : R v.cells.toList := by
  obtain ⟨fuel, hf⟩ := h
  exact hr _ _ _ hf
theorem at_slice {α : Type} {RE : α → List Value → Prop} {sz : Nat} {r : Reach} {b0 : Nat} {v : Value} {d : DataW H} {ps : List MemPlace} (ht : P.underlying t = some (.slice e)) (hval : Value.okWide P w r b0 t v)
    (hr : Rd enc P w base spare held t (fun c => ∃ v xs, c = [v] ∧ Slc RE sz (mem w) v xs)) (h : DataW.Trod enc P w base spare held t v d ps) : ∃ xs, Slc RE sz (mem w) v xs := by
  obtain ⟨a, len, cap, rfl⟩ := okWide_slice ht hval
  obtain ⟨u, xs, e1, h2⟩ := rd_at hr h
  simp [Value.cells] at e1
  subst e1
  exact ⟨xs, h2⟩
theorem again {W W' : World} {v : Value} {d : DataW H} {ps : List MemPlace} (hl : laidOutB P = true) (hr : P.readableRec t = true) (hrow : t < P.types.size) (h : DataW.Trod enc P W 0 (fun _ => true) true t v d ps) (hb : Below W.heap.size W W') :
    DataW.Trod enc P W' 0 (fun b => decide (b < W.heap.size)) true t v d ps :=
  Below.trod hl hr hrow h hb (fun p hp => let ⟨n, hn⟩ := h; DataW.trod_lt n _ _ _ hn p hp)
end
end Go.Proofs.YtcpdnoochieecaaDoor.K
namespace Go.Proofs.YtcpdnoochieecaaDoor.K
open Go Go.Proofs
set_option linter.unusedVariables false
theorem laid_each {P : Program} {W : World} : ∀ {l : List (String × DataW Unit)} {ps : List MemPlace}, DataW.LaidVars P W l ps → ∀ {n : String} {d : DataW Unit}, (n, d) ∈ l →
    ∃ g t cs fuel p, P.globalNamed n = some g ∧ (P.globals[g]?).map (·.type) = some t ∧ W.var? P n = some cs ∧ DataW.trod (fun _ => ()) P W 0 (fun _ => true) false fuel t cs.toList = some (d, p) ∧ ∀ x ∈ MemPlace.row ⟨g, 0, none⟩ cs.size ++ p, x ∈ ps
  | [], ps, h, n, d, hm => by cases hm
  | (m, e) :: r, ps, h, n, d, hm => by
    obtain ⟨g, t, cs, fuel, p, q, hg, ht, hv, hd, hr, rfl⟩ := h
    rcases List.mem_cons.1 hm with e1 | hm
    · cases e1
      exact ⟨g, t, cs, fuel, p, hg, ht, hv, hd, fun x hx => List.mem_append_left _ hx⟩
    · obtain ⟨g', t', cs', fuel', p', a1, a2, a3, a4, a5⟩ := laid_each hr hm
      exact ⟨g', t', cs', fuel', p', a1, a2, a3, a4, fun x hx => List.mem_append_right _ (a5 x hx)⟩
theorem sent_of_laid {P : Program} {W : World} {laid : List (String × DataW Unit)} {code : ByteArray → Nat} {n : String} {text : List UInt8} {g : Nat} {ti tp ta te ts : TypeId} {ms : Array (String × TypeId)} {f : Field}
    (h : laidMet P laid W) (hm : (n, .iface "*errors.errorString" (.ptr (.agg [.lit (.string text)]))) ∈ laid) (hg : P.globalNamed n = some g) (ht : (P.globals[g]?).map (·.type) = some ti)
    (hi : P.underlying ti = some (.interface ms)) (hrow : ∀ u, P.typeName? 3 u = some "*errors.errorString" → u = tp) (hp : P.underlying tp = some (.pointer te)) (he : P.underlying te = some (.struct #[f])) (hft : f.type = ts) (hfo : f.offset = 0) (hs : P.underlying ts = some .string) (hc : P.cellsOf te = 1) (hcs : P.cellsOf ts = 1)
    (hcode : ∀ s : ByteArray, s.data.toList = text → code s = g + 1) : ∃ v, ErV tp ta code (mem W) (.b (g + 1)) v := by
  obtain ⟨ps, hl, hnd, hrows⟩ := h
  obtain ⟨g', t', cs, fuel, p, a1, a2, a3, a4, a5⟩ := laid_each hl hm
  obtain rfl := Option.some.inj (hg.symm.trans a1)
  obtain rfl := Option.some.inj (ht.symm.trans a2)
  obtain ⟨l⟩ := cs
  have ok : ∀ u v, l = [.iface u v] → Value.okWide P W .any 0 u v := fun u v e => by
    subst e
    exact (hrows g 0 (a5 _ (by simp [MemPlace.row]))).2 u v (by simpa using World.var?_cell hg a3 0)
  obtain ⟨a, s, rfl, hcell, hst, hz, rfl⟩ := errorString_of_trod hi hrow hp he hft hfo hs hc hcs a4 ok
  obtain ⟨c, t, hb⟩ := (hrows a.block a.off (a5 _ (by simp [MemPlace.row]))).1
  refine ⟨.iface tp (.pointer (some a)), .inr ⟨by omega, mem_cell (by simpa using World.var?_cell hg a3 0), a, s, c, t, rfl, hb, hcode s hst, fun w hw => ?_⟩⟩
  have e : w.heap[a.block]? = W.heap[a.block]? := (hw _ _ hb).trans hb.symm
  unfold World.cell? at hcell ⊢
  rw [e]
  exact hcell
end Go.Proofs.YtcpdnoochieecaaDoor.K
namespace Go.Proofs.YtcpdnoochieecaaDoor.T
open Go Go.Proofs Go.Proofs.YtcpdnoochieecaaDoor.K
set_option linter.unusedVariables false
set_option linter.unusedSimpArgs false
set_option maxRecDepth 100000
theorem own : ownKnob Tryd.prog.godebug = none := by kernel_rfl
noncomputable def low : Nat := (World.holding Tryd.prog default ⟨#[], #[], []⟩).heap.size
abbrev es0 : ByteArray := { data := #[116, 111, 111, 32, 109, 97, 110, 121, 44, 32, 111, 114, 32, 116, 111, 111, 32, 102, 101, 119] }
abbrev es1 : ByteArray := { data := #[116, 111, 111, 32, 108, 111, 110, 103] }
abbrev es2 : ByteArray := { data := #[111, 110, 101, 32, 116, 104, 105, 110, 103, 32, 116, 119, 105, 99, 101] }
abbrev es3 : ByteArray := { data := #[97, 32, 114, 111, 111, 116, 32, 116, 104, 97, 116, 32, 100, 111, 101, 115, 32, 110, 111, 116, 32, 102, 105, 116] }
abbrev es4 : ByteArray := { data := #[107, 110, 111, 119, 110, 32, 97, 108, 114, 101, 97, 100, 121] }
abbrev es5 : ByteArray := { data := #[110, 111, 32, 115, 117, 99, 104, 32, 112, 97, 114, 101, 110, 116] }
abbrev es6 : ByteArray := { data := #[116, 104, 101, 114, 101, 32, 105, 115, 32, 110, 111, 32, 114, 111, 111, 109] }
abbrev es7 : ByteArray := { data := #[97, 32, 110, 117, 109, 98, 101, 114, 32, 111, 117, 116, 32, 111, 102, 32, 105, 116, 115, 32, 114, 97, 110, 103, 101] }
abbrev es8 : ByteArray := { data := #[110, 111, 32, 102, 105, 114, 115, 116, 32, 116, 114, 97, 110, 115, 97, 99, 116, 105, 111, 110, 32, 119, 104, 101, 114, 101, 32, 116, 104, 101, 114, 101, 32, 104, 97, 115, 32, 116, 111, 32, 98, 101, 32, 111, 110, 101, 44, 32, 111, 114, 32, 111, 110, 101, 32, 119, 104, 101, 114, 101, 32, 116, 104, 101, 114, 101, 32, 109, 97, 121, 32, 98, 101, 32, 110, 111, 110, 101] }
abbrev es9 : ByteArray := { data := #[97, 32, 107, 101, 121, 32, 116, 104, 97, 116, 32, 100, 111, 101, 115, 32, 110, 111, 116, 32, 102, 105, 116] }
abbrev es10 : ByteArray := { data := #[97, 110, 32, 97, 109, 111, 117, 110, 116, 32, 116, 104, 97, 116, 32, 99, 97, 110, 39, 116, 32, 98, 101] }
abbrev es11 : ByteArray := { data := #[105, 116, 32, 101, 110, 100, 115, 32, 116, 111, 111, 32, 101, 97, 114, 108, 121] }
abbrev es12 : ByteArray := { data := #[110, 111, 116, 32, 97, 115, 32, 105, 116, 32, 104, 97, 115, 32, 116, 111, 32, 98, 101] }
abbrev es13 : ByteArray := { data := #[98, 101, 104, 105, 110, 100, 32, 119, 104, 97, 116, 32, 105, 115, 32, 110, 111, 116, 32, 118, 97, 108, 105, 100] }
abbrev es14 : ByteArray := { data := #[97, 32, 116, 105, 109, 101, 32, 116, 104, 97, 116, 32, 105, 115, 32, 116, 111, 111, 32, 101, 97, 114, 108, 121] }
abbrev es15 : ByteArray := { data := #[97, 32, 99, 111, 105, 110, 32, 116, 104, 97, 116, 32, 105, 115, 32, 110, 111, 116, 32, 116, 104, 101, 114, 101] }
abbrev es16 : ByteArray := { data := #[97, 32, 99, 111, 105, 110, 32, 116, 104, 97, 116, 32, 105, 115, 32, 116, 111, 111, 32, 121, 111, 117, 110, 103] }
abbrev es17 : ByteArray := { data := #[116, 111, 111, 32, 101, 97, 114, 108, 121, 32, 116, 111, 32, 98, 101, 32, 116, 97, 107, 101, 110] }
abbrev es18 : ByteArray := { data := #[108, 101, 115, 115, 32, 99, 111, 109, 101, 115, 32, 105, 110, 32, 116, 104, 97, 110, 32, 103, 111, 101, 115, 32, 111, 117, 116] }
abbrev es19 : ByteArray := { data := #[109, 111, 114, 101, 32, 116, 104, 97, 110, 32, 116, 104, 101, 32, 114, 101, 119, 97, 114, 100] }
abbrev es20 : ByteArray := { data := #[97, 32, 99, 111, 105, 110, 32, 116, 104, 97, 116, 32, 105, 115, 32, 115, 112, 101, 110, 116, 32, 105, 110, 32, 116, 104, 101, 32, 112, 111, 111, 108] }
abbrev es21 : ByteArray := { data := #[116, 111, 111, 32, 109, 97, 110, 121, 32, 116, 104, 97, 116, 32, 104, 97, 110, 103, 32, 116, 111, 103, 101, 116, 104, 101, 114] }
abbrev es22 : ByteArray := { data := #[116, 104, 101, 114, 101, 32, 105, 115, 32, 110, 111, 110, 101] }
abbrev es23 : ByteArray := { data := #[110, 111, 32, 115, 117, 99, 104, 32, 119, 111, 114, 100] }
abbrev es24 : ByteArray := { data := #[110, 111, 116, 32, 97, 32, 110, 117, 109, 98, 101, 114] }
def setC (v : Value) : Obj → Obj
  | .cells _ t frozen => .cells #[v] t frozen
  | x => x
noncomputable def laidWorld (os : Os) : World :=
  let w0 := World.holding Tryd.prog os ⟨#[.cells #[.string es0] 227, .cells #[.string es1] 227, .cells #[.string es2] 227, .cells #[.string es3] 227, .cells #[.string es4] 227, .cells #[.string es5] 227, .cells #[.string es6] 227, .cells #[.string es7] 227, .cells #[.string es8] 227, .cells #[.string es9] 227, .cells #[.string es10] 227, .cells #[.string es11] 227, .cells #[.string es12] 227, .cells #[.string es13] 227, .cells #[.string es14] 227, .cells #[.string es15] 227, .cells #[.string es16] 227, .cells #[.string es17] 227, .cells #[.string es18] 227, .cells #[.string es19] 227, .cells #[.string es20] 227, .cells #[.string es21] 227, .cells #[.string es22] 227, .cells #[.string es23] 227, .cells #[.string es24] 227], #[], []⟩
  { w0 with heap := (((((((((((((((((((((((((w0.heap.modify 0 (setC (.iface 210 (.pointer (some ⟨low + 0, 0, none⟩))))).modify 1 (setC (.iface 210 (.pointer (some ⟨low + 1, 0, none⟩))))).modify 2 (setC (.iface 210 (.pointer (some ⟨low + 2, 0, none⟩))))).modify 3 (setC (.iface 210 (.pointer (some ⟨low + 3, 0, none⟩))))).modify 4 (setC (.iface 210 (.pointer (some ⟨low + 4, 0, none⟩))))).modify 5 (setC (.iface 210 (.pointer (some ⟨low + 5, 0, none⟩))))).modify 6 (setC (.iface 210 (.pointer (some ⟨low + 6, 0, none⟩))))).modify 7 (setC (.iface 210 (.pointer (some ⟨low + 7, 0, none⟩))))).modify 8 (setC (.iface 210 (.pointer (some ⟨low + 8, 0, none⟩))))).modify 9 (setC (.iface 210 (.pointer (some ⟨low + 9, 0, none⟩))))).modify 10 (setC (.iface 210 (.pointer (some ⟨low + 10, 0, none⟩))))).modify 11 (setC (.iface 210 (.pointer (some ⟨low + 11, 0, none⟩))))).modify 12 (setC (.iface 210 (.pointer (some ⟨low + 12, 0, none⟩))))).modify 13 (setC (.iface 210 (.pointer (some ⟨low + 13, 0, none⟩))))).modify 14 (setC (.iface 210 (.pointer (some ⟨low + 14, 0, none⟩))))).modify 15 (setC (.iface 210 (.pointer (some ⟨low + 15, 0, none⟩))))).modify 16 (setC (.iface 210 (.pointer (some ⟨low + 16, 0, none⟩))))).modify 17 (setC (.iface 210 (.pointer (some ⟨low + 17, 0, none⟩))))).modify 18 (setC (.iface 210 (.pointer (some ⟨low + 18, 0, none⟩))))).modify 19 (setC (.iface 210 (.pointer (some ⟨low + 19, 0, none⟩))))).modify 20 (setC (.iface 210 (.pointer (some ⟨low + 20, 0, none⟩))))).modify 21 (setC (.iface 210 (.pointer (some ⟨low + 21, 0, none⟩))))).modify 22 (setC (.iface 210 (.pointer (some ⟨low + 22, 0, none⟩))))).modify 23 (setC (.iface 210 (.pointer (some ⟨low + 23, 0, none⟩))))).modify 24 (setC (.iface 210 (.pointer (some ⟨low + 24, 0, none⟩))))) }
theorem starE : "*" ++ "errors.errorString" = "*errors.errorString" := by decide
theorem rowE (u : TypeId) (h : Tryd.prog.typeName? 3 u = some "*errors.errorString") : u = 210 :=
  typeName_ptr_named (nm := "errors.errorString") (by rw [starE]; kernel_rfl) (by kernel_rfl) (by decide) u (by rw [starE]; exact h)
theorem ceE : Tryd.prog.cellsOf 227 = 1 := by kernel_rfl
theorem csE : Tryd.prog.cellsOf 9 = 1 := by kernel_rfl
theorem sent7 {W : World} {l : List (String × DataW Unit)} (h : laidMet Tryd.prog l W) (hm : ("sargasso/api.ErrRange", .iface "*errors.errorString" (.ptr (.agg [.lit (.string [97, 32, 110, 117, 109, 98, 101, 114, 32, 111, 117, 116, 32, 111, 102, 32, 105, 116, 115, 32, 114, 97, 110, 103, 101])]))) ∈ l) : ∃ v, ErS (mem W) v (Er.b 8) :=
  sent_of_laid h hm (by kernel_rfl) (by kernel_rfl) Tryd.underlying47 rowE Tryd.underlying210 Tryd.underlying227 rfl rfl Tryd.underlying9 ceE csE (fun s hs => by unfold errCode; rw [hs]; kernel_rfl)
end Go.Proofs.YtcpdnoochieecaaDoor.T
namespace Go.Proofs.YtcpdnoochieecaaDoor.T
open Go Go.Proofs Go.Proofs.YtcpdnoochieecaaDoor.K
set_option linter.unusedVariables false
set_option linter.unusedSimpArgs false
theorem laid : laidOutB Tryd.prog = true := by kernel_rfl
theorem cl3 : Tryd.prog.cellsOf 3 = 1 := by kernel_rfl
theorem rr3 : Tryd.prog.readableRec 3 = true := by kernel_rfl
theorem tr3 : 3 < Tryd.prog.types.size := of_decide_eq_true (by kernel_rfl)
theorem rr55 : Tryd.prog.readableRec 55 = true := by kernel_rfl
theorem tr55 : 55 < Tryd.prog.types.size := of_decide_eq_true (by kernel_rfl)
section
variable {H : Type} {enc : TypeId × Value → H} {w : World} {base : Nat} {spare : Nat → Bool} {held : Bool}
theorem rd3 : Rd enc Tryd.prog w base spare held 3 (fun c => ∃ n, RI .i64 n c) := rd_int Tryd.underlying3
theorem rd55 : Rd enc Tryd.prog w base spare held 55 (fun c => ∃ v xs, c = [v] ∧ Slc (RI .i64) 1 (mem w) v xs) := rd_slice Tryd.underlying55 cl3 (by decide) rd3
end
end Go.Proofs.YtcpdnoochieecaaDoor.T
namespace Go.Proofs.YtcpdnoochieecaaDoor.J
open Go Go.Proofs
theorem words_cons : ∀ (w r : List Char), w.all (· != ' ') = true → wordsSigns (w ++ ' ' :: r) = w :: wordsSigns r
  | [], r, _ => rfl
  | c :: w, r, h => by
    simp only [List.all_cons, Bool.and_eq_true, bne_iff_ne, ne_eq] at h
    have ih := words_cons w r h.2
    rw [List.cons_append, wordsSigns, ih]
    exact fun e => h.1 e
set_option maxRecDepth 100000
def w0 : List Char := ['h', 'a', 'r', 'n', 'e', 's', 's']
def w1 : List Char := ['8', '9', '4', 'e', '0', '4', '7', '1', '3', 'd', '9', '2', '3', 'b', 'f', 'b', '2', '7', 'b', 'f', 'a', '8', '7', '7', '4', '6', '5', 'f', '2', '2', '4', '7', 'f', 'd', '5', '8', 'a', 'b', '7', '8', '2', '0', 'f', 'e', 'f', '6', '7', '8', 'b', 'f', '1', 'b', 'a', '1', '2', '0', '7', 'd', 'a', 'f', '7', '0', '9', 'b']
def w2 : List Char := ['c', 'u', 't']
def w3 : List Char := ['a', 't', ' ', 's', 'a', 'r', 'g', 'a', 's', 's', 'o', '/', 's', 'a', 'r', 'g', 'a', 's', 's', 'o', 'l', 'a', 'w', '7', '.', 'B', 'l', 'o', 'c', 'k', 'K', 'i', 'n', 'd', 's', ' ', 's', 'a', 'r', 'g', 'a', 's', 's', 'o', '/', 's', 'a', 'r', 'g', 'a', 's', 's', 'o', 'l', 'a', 'w', '1', '1', '.', 'T', 'r', 'e', 'e', 'W', 'a', 'y', 's', ' ', 's', 'a', 'r', 'g', 'a', 's', 's', 'o', '/', 's', 'a', 'r', 'g', 'a', 's', 's', 'o', 'l', 'a', 'w', '2', '0', '.', 'N', 'o', 't', 'e', 's', 'C', 'a', 'p', ' ', 's', 'a', 'r', 'g', 'a', 's', 's', 'o', '/', 's', 'a', 'r', 'g', 'a', 's', 's', 'o', 'l', 'a', 'w', '2', '0', '.', 'N', 'o', 't', 'e', 's', 'P', 'l', 'a', 'y', ' ', 's', 'a', 'r', 'g', 'a', 's', 's', 'o', '/', 's', 'a', 'r', 'g', 'a', 's', 's', 'o', 'l', 'a', 'w', '2', '0', '.', 'N', 'o', 't', 'e', 's', 'O', 'p', 's', ' ', 's', 'a', 'r', 'g', 'a', 's', 's', 'o', '/', 's', 'a', 'r', 'g', 'a', 's', 's', 'o', 'l', 'a', 'w', '2', '4', '.', 'R', 'e', 'd', 'o', 'O', 'r', 'd', 'e', 'r', ' ', 's', 'a', 'r', 'g', 'a', 's', 's', 'o', '/', 's', 'a', 'r', 'g', 'a', 's', 's', 'o', 'l', 'a', 'w', '2', '4', '.', 'R', 'e', 'd', 'o', 'O', 'n']
theorem io0 : Tryd.prog.initOrder = String.ofList (w0 ++ ' ' :: (w1 ++ ' ' :: (w2 ++ ' ' :: w3))) := by kernel_rfl
theorem io : Tryd.prog.initOrder.toList = w0 ++ ' ' :: (w1 ++ ' ' :: (w2 ++ ' ' :: w3)) := (congrArg String.toList io0).trans String.toList_ofList
theorem ws : wordsSigns Tryd.prog.initOrder.toList = w0 :: w1 :: w2 :: wordsSigns w3 := by
  rw [io, words_cons _ _ (by kernel_rfl), words_cons _ _ (by kernel_rfl), words_cons _ _ (by kernel_rfl)]
theorem bm (R : List (List Char)) : behindMainWord (w0 :: w1 :: w2 :: R) = w2 :: R := by kernel_rfl
theorem main_of {P : Program} {R : List (List Char)} (h : wordsSigns P.initOrder.toList = w0 :: w1 :: R) : P.mainIs = some (true, w1) := by
  unfold Program.mainIs
  rw [h]
  kernel_rfl
theorem mainIs : Tryd.prog.mainIs = some (true, w1) := main_of ws
theorem bw : behindMainWord (wordsSigns Tryd.prog.initOrder.toList) = w2 :: wordsSigns w3 := by rw [ws, bm]
theorem st (R : List (List Char)) : stripLifts liftWords (w2 :: R) = ([], w2 :: R) := by kernel_rfl
theorem make_of {P : Program} {R : List (List Char)} (h : behindMainWord (wordsSigns P.initOrder.toList) = w2 :: R) : P.make = some .cut := by
  unfold Program.make
  rw [h]
  kernel_rfl
theorem head_of {P : Program} {R : List (List Char)} (h : behindMainWord (wordsSigns P.initOrder.toList) = w2 :: R) : P.headLifts = [] := by
  unfold Program.headLifts
  rw [h, st]
  kernel_rfl
theorem lifts_of {P : Program} {R : List (List Char)} (h : behindMainWord (wordsSigns P.initOrder.toList) = w2 :: R) : P.liftsFinal = false := by
  unfold Program.liftsFinal
  rw [h, head_of h]
  kernel_rfl
theorem may_of {P : Program} {R : List (List Char)} (h : behindMainWord (wordsSigns P.initOrder.toList) = w2 :: R) (h1 : P.laysLater = false) (h2 : P.bearsReflect = false) (h3 : P.doorFits [] = true) : P.mayEnter = true := by
  unfold Program.mayEnter
  rw [h]
  simp only [st, h1, h2, h3]
  kernel_rfl
theorem later : Tryd.prog.laysLater = false := by kernel_rfl
theorem reflect : Tryd.prog.bearsReflect = false := by kernel_rfl
theorem door : Tryd.prog.doorFits [] = true := by kernel_rfl
theorem make : Tryd.prog.make = some .cut := make_of bw
theorem lifts : Tryd.prog.liftsFinal = false := lifts_of bw
theorem may : Tryd.prog.mayEnter = true := may_of bw later reflect door
end Go.Proofs.YtcpdnoochieecaaDoor.J
