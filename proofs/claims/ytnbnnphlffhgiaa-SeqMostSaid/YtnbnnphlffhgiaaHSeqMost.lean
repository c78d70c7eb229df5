/- A helper of this seat's claims: printed by gen.py. It proves no statement by itself. -/
import Derived.Test.YtnbnnphlffhgiaaCH
import Derived.Test.YtnbnnphlffhgiaaGSeqMost
namespace Go.Proofs.Ytnbnnphlffhgiaa.T
open Go Go.Proofs Go.Proofs.Ytnbnnphlffhgiaa.K
set_option linter.unusedVariables false
set_option linter.unusedSimpArgs false
/-! sargassolaw14.SeqMost: function 21 -/
set_option maxRecDepth 20000 in
theorem sargassolaw14_SeqMost.c (μ : Store) (w0 : World) (hμ : Agr μ w0) (x0 : List Int) (u0 : Value) (hx0 : Slc (RI .i64) 1 μ u0 x0) (x1 : List Int) (u1 : Value) (hx1 : Slc (RI .i64) 1 μ u1 x1) (x2 : List Int) (u2 : Value) (hx2 : Slc (RI .u32) 1 μ u2 x2) (r : Bool) (H : sargassolaw14_SeqMost.f x0 x1 x2 = some r) :
    Calls Try.prog 21 [u0, u1, u2].toArray w0 (fun e w' => ∃ v, e = .returned v ∧ v = .bool r ∧ True ∧ Iv w0 [] μ μ [] w') := by
  refine enter Try.func21 rfl Try.ntmps21 rfl fun a hA => ?_
  have hI := Iv.start hμ
  have H := bI H
  refine w_seq fun _ hN1 => ?_
  refine w_reg ?_
  refine stp hA (r_as hA rfl) rfl fun a hA => ?_
  refine o_nil ?_
  refine hN1 _ _ ?_
  refine w_seq fun _ hN2 => ?_
  refine w_reg ?_
  obtain ⟨r1, hr1, H⟩ := bB H
  refine o_callp (u := .bool r1) cf80 hA rfl hI (sargassolaw14_first.c μ _ hI.agr  r1 hr1) rfl fun a w hz1 hI hA => 
    stp hA (r_as hA rfl) rfl fun a hA => ?_
  refine o_nil ?_
  refine hN2 _ _ ?_
  refine w_seq fun _ hN3 => ?_
  refine w_seq fun _ hN4 => ?_
  refine w_reg ?_
  refine stp hA (r_mv hA rfl) rfl fun a hA => 
    stp hA (r_not hA rfl) rfl fun a hA => ?_
  refine o_nil ?_
  refine hN4 _ _ ?_
  refine w_cond hA rfl (fun hc1 => ?_) (fun hc1 => ?_)
  · have hc10 := hc1; have hc1 := nT hc1; have hc1 := ft hc1; have H := bF H hc1
    refine w_seq fun _ hN5 => ?_
    refine w_reg ?_
    refine stp hA (r_as hA rfl) rfl fun a hA => ?_
    refine o_nil ?_
    refine hN5 _ _ ?_
    refine w_ret ?_
    obtain rfl := Option.some.inj (bS H)
    exact ret1 hA Try.results21 rfl ⟨_, rfl, rfl, trivial, hI.forget0⟩
  · have hc10 := hc1; have hc1 := nF hc1; have H := bT H hc1
    refine w_skip ?_
    refine hN3 _ _ ?_
    refine w_seq fun _ hN6 => ?_
    refine w_reg ?_
    refine stp hA (r_mv hA rfl) rfl fun a hA => ?_
    obtain ⟨_, hsl1⟩ := Slc.sv hx0
    refine stp hA (r_slen Try.underlying23 hsl1 hA rfl) rfl fun a hA => 
      stp hA (r_mv hA rfl) rfl fun a hA => ?_
    obtain ⟨_, hsl2⟩ := Slc.sv hx1
    refine stp hA (r_slen Try.underlying23 hsl2 hA rfl) rfl fun a hA => 
      stp hA (r_mv hA rfl) rfl fun a hA => ?_
    obtain ⟨_, hsl3⟩ := Slc.sv hx2
    refine stp hA (r_slen Try.underlying94 hsl3 hA rfl) rfl fun a hA => 
      stp hA (r_min hA rfl rfl) rfl fun a hA => 
      stp hA (r_min hA rfl rfl) rfl fun a hA => 
      stp hA (r_as hA rfl) rfl fun a hA => ?_
    refine o_nil ?_
    refine hN6 _ _ ?_
    refine w_seq fun _ hN7 => ?_
    refine w_seq fun _ hN8 => ?_
    refine w_reg ?_
    refine stp hA (r_mv hA rfl) rfl fun a hA => 
      stp hA (r_gtr hA rfl rfl) rfl fun a hA => ?_
    refine o_nil ?_
    refine hN8 _ _ ?_
    refine w_cond hA rfl (fun hc2 => ?_) (fun hc2 => ?_)
    · have hc20 := hc2; have hc2 := of_decide_eq_true hc2; have H := bT H hc2
      refine w_seq fun _ hN9 => ?_
      refine w_reg ?_
      refine stp hA (r_mv hA rfl) rfl fun a hA => 
        stp hA (r_as hA rfl) rfl fun a hA => ?_
      refine o_nil ?_
      refine hN9 _ _ ?_
      refine w_ret ?_
      obtain rfl := Option.some.inj (bS H)
      exact ret1 hA Try.results21 rfl ⟨_, rfl, rfl, trivial, hI.forget0⟩
    · have hc20 := hc2; have hc2 := of_decide_eq_false hc2; have H := bF H hc2
      refine w_skip ?_
      refine hN7 _ _ ?_
      refine w_seq fun _ hN10 => ?_
      refine w_reg ?_
      refine stp hA (r_bldS (cs := [[.int .u32 2], [(.slice none 0 0)], [(.slice none 0 0)], [.int .u32 0]].flatten.toArray) (pl := [(0, 1), (1, 1), (2, 1), (3, 1)]) zr67 Try.underlying67 ⟨rfl, sz25, rfl, sz64, rfl, sz65, rfl, sz25, trivial⟩ hA rfl (by kernel_rfl)) rfl fun a hA => 
        o_new [[.int .u32 0], [(.slice none 0 0)], [(.slice none 0 0)], [.int .u32 0]] zr67 hI hA rfl fun g1 a w hA hI hg1 => 
        o_st (j := 0) [] [[.int .u32 0], [(.slice none 0 0)], [(.slice none 0 0)], [.int .u32 0]] [[.int .u32 2], [(.slice none 0 0)], [(.slice none 0 0)], [.int .u32 0]] [] sz67 rfl rfl (fl_cons (one_one rfl) (fl_cons (one_one rfl) (fl_cons (one_one rfl) (fl_cons (one_one rfl) fl_nil)))) hI rfl hA rfl rfl rfl rfl fun w hI => ?_
      refine o_nil ?_
      refine hN10 _ _ ?_
      refine w_seq fun _ hN11 => ?_
      refine w_reg ?_
      refine stp hA (r_as hA rfl) rfl fun a hA => ?_
      refine o_nil ?_
      refine hN11 _ _ ?_
      refine w_seq fun _ hN12 => ?_
      refine w_reg ?_
      refine stp hA (r_as hA rfl) rfl fun a hA => ?_
      refine o_nil ?_
      refine hN12 _ _ ?_
      refine w_seq fun _ hN13 => ?_
      refine w_reg ?_
      refine stp hA (r_as hA rfl) rfl fun a hA => ?_
      refine o_nil ?_
      refine hN13 _ _ ?_
      refine w_seq fun _ hN14 => ?_
      refine w_reg ?_
      refine stp hA (r_as hA rfl) rfl fun a hA => ?_
      refine o_nil ?_
      refine hN14 _ _ ?_
      obtain ⟨⟨c1, c2, c3, c4, c5⟩, hz2, Hk1⟩ := bB H
      refine w_cut (fun a w => ∃ (vvc1 : Value) (ccc1 : List Value) (vvc2 : Value) (ccc2 : List Value) (vvc5 : Value) (ccc5 : List Value), Els (RI .i64) 1 c1 ccc1 ∧ Els (RI .u32) 1 c2 ccc2 ∧ InR .i64 c3 ∧ InR .i64 c4 ∧ Els (RIn μ) 35 c5 ccc5 ∧ Fr a 167 [(0, u0), (1, u1), (2, u2), (6, .bool false), (7, .bool r1), (8, .int .i64 (iMin (x0.length : Int) (iMin (x1.length : Int) (x2.length : Int)))), (9, .pointer (some ⟨g1, 0, none⟩)), (10, vvc1), (11, vvc2), (12, .int .i64 c3), (13, .int .i64 c4), (30, .bool (!r1)), (40, .bool (decide (10 < (iMin (x0.length : Int) (iMin (x1.length : Int) (x2.length : Int))))))] ∧ Iv w0 [] μ μ [row 3 1 vvc1 c1.length ccc1, row 25 1 vvc2 c2.length ccc2, row 71 35 vvc5 c5.length ccc5, cel g1 [[.int .u32 2], [vvc5], [(.slice none 0 0)], [.int .u32 0]] 67] w) ?_ ?_
      · have H := bI hz2
        refine w_seq fun _ hN15 => ?_
        refine w_reg ?_
        refine stp hA (r_as hA rfl) rfl fun a hA => ?_
        refine o_nil ?_
        refine hN15 _ _ ?_
        refine w_block ?_
        have hI := hI.nilRow 3 1
        have hI := hI.nilRow 25 1
        have hI := hI.nilRow 71 35
        obtain ⟨z1, hz3, Hk2⟩ := bind_some H
        obtain ⟨n1, hn1⟩ := loopO_some hz3
        refine w_loop (fun n a w => ∃ (s1 : List Int) (s2 : List Int) (s3 : Int) (s4 : Int) (s5 : Int) (s6 : List In) (vvs1 : Value) (ccs1 : List Value) (vvs2 : Value) (ccs2 : List Value) (vvs6 : Value) (ccs6 : List Value), loopN (sargassolaw14_SeqMost.s0 x0 x1 x2) n (s1, s2, s3, s4, s5, s6) = some z1 ∧ Els (RI .i64) 1 s1 ccs1 ∧ Els (RI .u32) 1 s2 ccs2 ∧ InR .i64 s3 ∧ InR .i64 s4 ∧ InR .i64 s5 ∧ Els (RIn μ) 35 s6 ccs6 ∧ Fr a 167 [(0, u0), (1, u1), (2, u2), (6, .bool false), (7, .bool r1), (8, .int .i64 (iMin (x0.length : Int) (iMin (x1.length : Int) (x2.length : Int)))), (9, .pointer (some ⟨g1, 0, none⟩)), (10, vvs1), (11, vvs2), (12, .int .i64 s3), (13, .int .i64 s4), (14, .int .i64 s5), (30, .bool (!r1)), (40, .bool (decide (10 < (iMin (x0.length : Int) (iMin (x1.length : Int) (x2.length : Int))))))] ∧ Iv w0 [] μ μ [row 71 35 vvs6 s6.length ccs6, row 25 1 vvs2 s2.length ccs2, row 3 1 vvs1 s1.length ccs1, cel g1 [[.int .u32 2], [vvs6], [(.slice none 0 0)], [.int .u32 0]] 67] w) n1 ⟨[], [], (-1), (-1), 0, [], (.slice none 0 0), [], (.slice none 0 0), [], (.slice none 0 0), [], hn1, (Els.nil (RE := (RI .i64)) (sz := 1)), (Els.nil (RE := (RI .u32)) (sz := 1)), (in_lit .i64 (-1) rfl), (in_lit .i64 (-1) rfl), (in_lit .i64 0 rfl), (Els.nil (RE := (RIn μ)) (sz := 35)), hA.sub ⟨rfl, rfl, rfl, rfl, rfl, rfl, rfl, rfl, rfl, rfl, rfl, rfl, rfl, rfl, trivial⟩, hI⟩ ?_
        clear hA hI
        rintro n a w ⟨s1, s2, s3, s4, s5, s6, vvs1, ccs1, vvs2, ccs2, vvs6, ccs6, hn1, ws1, ws2, ws3, ws4, ws5, ws6, hA, hI⟩
        obtain ⟨m1, rfl, H⟩ := loopN_bind hn1
        clear hn1
        refine w_seq fun _ hN16 => ?_
        refine w_seq fun _ hN17 => ?_
        refine w_reg ?_
        refine stp hA (r_mv hA rfl) rfl fun a hA => 
          stp hA (r_mv hA rfl) rfl fun a hA => 
          stp hA (r_lss hA rfl rfl) rfl fun a hA => ?_
        refine o_nil ?_
        refine hN17 _ _ ?_
        refine w_cond hA rfl (fun hc3 => ?_) (fun hc3 => ?_)
        · have hc30 := hc3; have hc3 := of_decide_eq_true hc3; have H := bT H hc3
          refine w_skip ?_
          refine hN16 _ _ ?_
          obtain ⟨⟨c6, c7, c8, c9, c10⟩, hz4, Hk3⟩ := bB H
          refine w_cut (fun a w => ∃ (vvc6 : Value) (ccc6 : List Value) (vvc7 : Value) (ccc7 : List Value) (vvc10 : Value) (ccc10 : List Value), Els (RI .i64) 1 c6 ccc6 ∧ Els (RI .u32) 1 c7 ccc7 ∧ InR .i64 c8 ∧ InR .i64 c9 ∧ Els (RIn μ) 35 c10 ccc10 ∧ Fr a 167 [(0, u0), (1, u1), (2, u2), (6, .bool false), (7, .bool r1), (8, .int .i64 (iMin (x0.length : Int) (iMin (x1.length : Int) (x2.length : Int)))), (9, .pointer (some ⟨g1, 0, none⟩)), (10, vvc6), (11, vvc7), (12, .int .i64 c8), (13, .int .i64 c9), (14, .int .i64 s5), (30, .bool (!r1)), (40, .bool (decide (10 < (iMin (x0.length : Int) (iMin (x1.length : Int) (x2.length : Int)))))), (45, .bool (decide (s5 < (iMin (x0.length : Int) (iMin (x1.length : Int) (x2.length : Int))))))] ∧ Iv w0 [] μ μ [row 3 1 vvc6 c6.length ccc6, row 25 1 vvc7 c7.length ccc7, row 71 35 vvc10 c10.length ccc10, cel g1 [[.int .u32 2], [vvc10], [(.slice none 0 0)], [.int .u32 0]] 67] w) ?_ ?_
          · have H := bI hz4
            refine w_block ?_
            refine w_seq fun _ hN18 => ?_
            refine w_reg ?_
            refine stp hA (r_mv hA rfl) rfl fun a hA => 
              stp hA (r_mv hA rfl) rfl fun a hA => ?_
            obtain ⟨hb1, H⟩ := bG H
            obtain ⟨_, he1, _, hat1⟩ := Slc.elem1 hx0 (getD_some 0 hb1.1 hb1.2)
            obtain ⟨rfl, hw1⟩ := he1
            obtain ⟨_, hsl4⟩ := Slc.sv hx0
            refine stp hA (r_six1 Try.underlying23 sz3 hsl4 hA rfl rfl hb1.1 hb1.2) rfl fun a hA => 
              stp hA (r_ldm1 [] [] Try.underlying3 rfl hI.agr hat1 hA rfl rfl) rfl fun a hA => ?_
            obtain ⟨r2, hr2, H⟩ := bB H
            refine o_callp (u := .int .i64 r2) cf26 hA rfl hI (sargassoworld_Number.c μ _ hI.agr (x0.getD s5.toNat 0) hw1 65536 (in_lit .i64 65536 rfl) r2 hr2) rfl fun a w hz5 hI hA => 
              stp hA (r_as hA rfl) rfl fun a hA => ?_
            refine o_nil ?_
            refine hN18 _ _ ?_
            refine w_seq fun _ hN19 => ?_
            refine w_reg ?_
            refine stp hA (r_mv hA rfl) rfl fun a hA => 
              stp hA (r_mv hA rfl) rfl fun a hA => ?_
            obtain ⟨hb2, H⟩ := bG H
            obtain ⟨_, he2, _, hat2⟩ := Slc.elem1 hx1 (getD_some 0 hb2.1 hb2.2)
            obtain ⟨rfl, hw2⟩ := he2
            obtain ⟨_, hsl5⟩ := Slc.sv hx1
            refine stp hA (r_six1 Try.underlying23 sz3 hsl5 hA rfl rfl hb2.1 hb2.2) rfl fun a hA => 
              stp hA (r_ldm1 [] [] Try.underlying3 rfl hI.agr hat2 hA rfl rfl) rfl fun a hA => ?_
            obtain ⟨r3, hr3, H⟩ := bB H
            refine o_callp (u := .int .i64 r3) cf26 hA rfl hI (sargassoworld_Number.c μ _ hI.agr (x1.getD s5.toNat 0) hw2 100000 (in_lit .i64 100000 rfl) r3 hr3) rfl fun a w hz6 hI hA => 
              stp hA (r_as hA rfl) rfl fun a hA => ?_
            refine o_nil ?_
            refine hN19 _ _ ?_
            refine w_seq fun _ hN20 => ?_
            refine w_reg ?_
            refine stp hA (r_mv hA rfl) rfl fun a hA => 
              stp hA (r_mv hA rfl) rfl fun a hA => ?_
            obtain ⟨hb3, H⟩ := bG H
            obtain ⟨_, he3, _, hat3⟩ := Slc.elem1 hx2 (getD_some 0 hb3.1 hb3.2)
            obtain ⟨rfl, hw3⟩ := he3
            obtain ⟨_, hsl6⟩ := Slc.sv hx2
            refine stp hA (r_six1 Try.underlying94 sz25 hsl6 hA rfl rfl hb3.1 hb3.2) rfl fun a hA => 
              stp hA (r_ldm1 [] [] Try.underlying25 rfl hI.agr hat3 hA rfl rfl) rfl fun a hA => 
              stp hA (r_and hA rfl rfl) rfl fun a hA => 
              stp hA (r_as hA rfl) rfl fun a hA => ?_
            refine o_nil ?_
            refine hN20 _ _ ?_
            refine w_seq fun _ hN21 => ?_
            refine w_reg ?_
            refine stp hA (r_mv hA rfl) rfl fun a hA => 
              stp hA (r_conv Try.underlying3 Try.underlying25 hA rfl) rfl fun a hA => 
              stp hA (r_bldS (cs := [av .u8 32 (List.replicate 32 0), [.int .u32 0], [(.slice none 0 0)], [.int .u32 (IntKind.u32.wrap r2)]].flatten.toArray) (pl := [(0, 33), (33, 1), (34, 1)]) zr71 Try.underlying71 ⟨rfl, sz57, rfl, sz22, rfl, sz25, trivial⟩ hA rfl (by kernel_rfl)) rfl fun a hA => 
              o_new [av .u8 32 (List.replicate 32 0), [.int .u32 0], [(.slice none 0 0)], [.int .u32 0]] zr71 hI hA rfl fun g2 a w hA hI hg2 => 
              o_st (j := 0) [] [av .u8 32 (List.replicate 32 0), [.int .u32 0], [(.slice none 0 0)], [.int .u32 0]] [av .u8 32 (List.replicate 32 0), [.int .u32 0], [(.slice none 0 0)], [.int .u32 (IntKind.u32.wrap r2)]] [] sz71 rfl rfl (fl_cons (one_av _ _ _) (fl_cons (one_one rfl) (fl_cons (one_one rfl) (fl_cons (one_one rfl) fl_nil)))) hI rfl hA rfl rfl rfl rfl fun w hI => ?_
            refine o_nil ?_
            refine hN21 _ _ ?_
            obtain ⟨⟨c11, c12, c13⟩, hz7, Hk4⟩ := bB H
            refine w_cut (fun a w => InR .i64 c11 ∧ InR .i64 c12 ∧ InR .u32 c13 ∧ Fr a 167 [(0, u0), (1, u1), (2, u2), (6, .bool false), (7, .bool r1), (8, .int .i64 (iMin (x0.length : Int) (iMin (x1.length : Int) (x2.length : Int)))), (9, .pointer (some ⟨g1, 0, none⟩)), (10, vvs1), (11, vvs2), (12, .int .i64 c11), (13, .int .i64 c12), (14, .int .i64 s5), (15, .int .i64 r2), (16, .int .i64 r3), (17, .int .u32 (bAnd .u32 (x2.getD s5.toNat 0) 16777215)), (18, .pointer (some ⟨g2, 0, none⟩)), (30, .bool (!r1)), (40, .bool (decide (10 < (iMin (x0.length : Int) (iMin (x1.length : Int) (x2.length : Int)))))), (45, .bool (decide (s5 < (iMin (x0.length : Int) (iMin (x1.length : Int) (x2.length : Int))))))] ∧ Iv w0 [] μ μ [cel g2 [av .u8 32 (List.replicate 32 0), [.int .u32 0], [(.slice none 0 0)], [.int .u32 c13]] 71, row 71 35 vvs6 s6.length ccs6, row 25 1 vvs2 s2.length ccs2, row 3 1 vvs1 s1.length ccs1, cel g1 [[.int .u32 2], [vvs6], [(.slice none 0 0)], [.int .u32 0]] 67] w) ?_ ?_
            · have H := bI hz7
              refine w_seq fun _ hN22 => ?_
              refine w_reg ?_
              refine stp hA (r_mv hA rfl) rfl fun a hA => 
                stp hA (r_mv hA rfl) rfl fun a hA => 
                stp hA (r_six1 Try.underlying23 sz3 hsl4 hA rfl rfl hb1.1 hb1.2) rfl fun a hA => 
                stp hA (r_ldm1 [] [] Try.underlying3 rfl hI.agr hat1 hA rfl rfl) rfl fun a hA => ?_
              obtain ⟨r4, hr4, H⟩ := bB H
              refine o_callp (u := .int .i64 r4) cf26 hA rfl hI (sargassoworld_Number.c μ _ hI.agr (x0.getD s5.toNat 0) hw1 3 (in_lit .i64 3 rfl) r4 hr4) rfl fun a w hz8 hI hA => ?_
              refine o_nil ?_
              refine hN22 _ _ ?_
              refine w_block ?_
              refine w_seq fun _ hN23 => ?_
              refine w_reg ?_
              refine stp hA (r_eql hA rfl rfl) rfl fun a hA => 
                stp hA (r_as hA rfl) rfl fun a hA => ?_
              refine o_nil ?_
              refine hN23 _ _ ?_
              refine w_cond hA rfl (fun hc4 => ?_) (fun hc4 => ?_)
              · have hc40 := hc4; have hc4 := of_decide_eq_true hc4; have H := bT H hc4
                refine w_reg ?_
                refine stp hA (r_mv hA rfl) rfl fun a hA => 
                  stp hA (r_mv hA rfl) rfl fun a hA => 
                  stp hA (r_mv hA rfl) rfl fun a hA => 
                  stp hA (r_add hA rfl rfl) rfl fun a hA => 
                  stp hA (r_sub hA rfl rfl) rfl fun a hA => 
                  stp hA (r_max hA rfl rfl) rfl fun a hA => 
                  stp hA (r_as hA rfl) rfl fun a hA => ?_
                refine o_nil ?_
                cases Option.some.inj (bS H)
                exact ⟨(iMax_in ws3 (wrap_in _ _)), ws4, (wrap_in _ _), hA.sub ⟨rfl, rfl, rfl, rfl, rfl, rfl, rfl, rfl, rfl, rfl, rfl, rfl, rfl, rfl, rfl, rfl, rfl, rfl, rfl, trivial⟩, hI⟩
              · have hc40 := hc4; have hc4 := of_decide_eq_false hc4; have H := bF H hc4
                refine w_seq fun _ hN24 => ?_
                refine w_reg ?_
                refine stp hA (r_eql hA rfl rfl) rfl fun a hA => 
                  stp hA (r_as hA rfl) rfl fun a hA => ?_
                refine o_nil ?_
                refine hN24 _ _ ?_
                refine w_cond hA rfl (fun hc5 => ?_) (fun hc5 => ?_)
                · have hc50 := hc5; have hc5 := of_decide_eq_true hc5; have H := bT H hc5
                  refine w_seq fun _ hN25 => ?_
                  refine w_reg ?_
                  refine stp hA (r_fd (k := 34) Try.underlying71 rfl sz25 hA rfl rfl) rfl fun a hA => 
                    stp hA (r_ld1 (j := 0) [av .u8 32 (List.replicate 32 0), [.int .u32 0], [(.slice none 0 0)]] [] Try.underlying25 rfl hI rfl hA rfl rfl) rfl fun a hA => 
                    stp hA (r_or hA rfl rfl) rfl fun a hA => 
                    stp hA (r_fd (k := 34) Try.underlying71 rfl sz25 hA rfl rfl) rfl fun a hA => 
                    o_st (j := 0) [av .u8 32 (List.replicate 32 0), [.int .u32 0], [(.slice none 0 0)]] [[.int .u32 (IntKind.u32.wrap r2)]] [[.int .u32 (bOr .u32 (IntKind.u32.wrap r2) 4194304)]] [] sz25 rfl rfl (fl_cons (one_one rfl) fl_nil) hI rfl hA rfl rfl rfl rfl fun w hI => ?_
                  refine o_nil ?_
                  refine hN25 _ _ ?_
                  refine w_reg ?_
                  refine stp hA (r_mv hA rfl) rfl fun a hA => 
                    stp hA (r_mv hA rfl) rfl fun a hA => 
                    stp hA (r_conv Try.underlying25 Try.underlying2 hA rfl) rfl fun a hA => 
                    stp hA (r_mv hA rfl) rfl fun a hA => 
                    stp hA (r_mul hA rfl rfl) rfl fun a hA => 
                    stp hA (r_add hA rfl rfl) rfl fun a hA => 
                    stp hA (r_sub hA rfl rfl) rfl fun a hA => 
                    stp hA (r_max hA rfl rfl) rfl fun a hA => 
                    stp hA (r_as hA rfl) rfl fun a hA => ?_
                  refine o_nil ?_
                  cases Option.some.inj (bS H)
                  exact ⟨ws3, (iMax_in ws4 (wrap_in _ _)), (wrap_in _ _), hA.sub ⟨rfl, rfl, rfl, rfl, rfl, rfl, rfl, rfl, rfl, rfl, rfl, rfl, rfl, rfl, rfl, rfl, rfl, rfl, rfl, trivial⟩, hI⟩
                · have hc50 := hc5; have hc5 := of_decide_eq_false hc5; have H := bF H hc5
                  refine w_reg ?_
                  refine stp hA (r_fd (k := 34) Try.underlying71 rfl sz25 hA rfl rfl) rfl fun a hA => 
                    stp hA (r_ld1 (j := 0) [av .u8 32 (List.replicate 32 0), [.int .u32 0], [(.slice none 0 0)]] [] Try.underlying25 rfl hI rfl hA rfl rfl) rfl fun a hA => 
                    stp hA (r_or hA rfl rfl) rfl fun a hA => 
                    stp hA (r_fd (k := 34) Try.underlying71 rfl sz25 hA rfl rfl) rfl fun a hA => 
                    o_st (j := 0) [av .u8 32 (List.replicate 32 0), [.int .u32 0], [(.slice none 0 0)]] [[.int .u32 (IntKind.u32.wrap r2)]] [[.int .u32 (bOr .u32 (IntKind.u32.wrap r2) 2147483648)]] [] sz25 rfl rfl (fl_cons (one_one rfl) fl_nil) hI rfl hA rfl rfl rfl rfl fun w hI => ?_
                  refine o_nil ?_
                  cases Option.some.inj (bS H)
                  exact ⟨ws3, ws4, (wrap_in _ _), hA.sub ⟨rfl, rfl, rfl, rfl, rfl, rfl, rfl, rfl, rfl, rfl, rfl, rfl, rfl, rfl, rfl, rfl, rfl, rfl, rfl, trivial⟩, hI⟩
            · rintro a w ⟨wc11, wc12, wc13, hA, hI⟩
              have H := Hk4
              refine w_seq fun _ hN26 => ?_
              refine w_reg ?_
              refine stp hA (r_fd (k := 1) Try.underlying67 rfl sz64 hA rfl rfl) rfl fun a hA => 
                stp hA (r_ld1 (j := 4) [[.int .u32 2]] [[(.slice none 0 0)], [.int .u32 0]] Try.underlying64 rfl hI rfl hA rfl rfl) rfl fun a hA => 
                stp hA (r_ldA (j := 0) [] [av .u8 32 (List.replicate 32 0), [.int .u32 0], [(.slice none 0 0)], [.int .u32 c13]] [] Try.underlying71 rfl sz71 rfl hI rfl hA rfl rfl) rfl fun a hA => ?_
              have hE1 : Els (RIn μ) 35 ([(⟨(⟨(List.replicate 32 0), 0⟩ : Point), [], c13⟩ : In)] : List In) ([av .u8 32 (List.replicate 32 0), [.int .u32 0], [(.slice none 0 0)], [.int .u32 c13]].flatten ++ ([])) := (Els.cons (c := [av .u8 32 (List.replicate 32 0), [.int .u32 0], [(.slice none 0 0)], [.int .u32 c13]].flatten) ⟨(.slice none 0 0), rfl, ⟨(arr_zero _ _), (in_lit .u32 0 rfl), (slc_nil _ _ _), wc13⟩⟩ rfl Els.nil)
              refine o_bsl ([av .u8 32 (List.replicate 32 0), [.int .u32 0], [(.slice none 0 0)], [.int .u32 c13]].flatten ++ ([])) te71 zr71 Try.underlying64 hI hA rfl rfl rfl rfl (by kernel_rfl) rfl fun g3 a w hA hI => ?_
              generalize hcs : ([av .u8 32 (List.replicate 32 0), [.int .u32 0], [(.slice none 0 0)], [.int .u32 c13]].flatten ++ ([]) : List Value) = cs1 at hE1 hI
              clear hcs
              obtain ⟨hb4, H⟩ := bG H
              have hE3 := ws6.app hE1
              refine o_appL (xs := (s6 : List In)) (ys := (([(⟨(⟨(List.replicate 32 0), 0⟩ : Point), [], c13⟩ : In)] : List In) : List In)) (j := 2) te71 Try.underlying64 hI rfl hA rfl rfl (src_row hI (j := 0) rfl) hE1.len (hE1.ones RIn.ones) (by first | decide | (have hq := hb4; (try simp only [List.length_cons, List.length_nil] at hq); (try simp only [List.length_cons, List.length_nil]); (try simp only [maxLen]); omega)) (by first | decide | (have hq := hb4; (try simp only [List.length_cons, List.length_nil] at hq); (try simp only [List.length_cons, List.length_nil]); (try simp only [maxLen]); omega)) rfl fun v1 a w hA hI => 
                stp hA (r_fd (k := 1) Try.underlying67 rfl sz64 hA rfl rfl) rfl fun a hA => ?_
              have hone := own_one hI (j := 2) rfl
              have hcel := own_cell hI (j := 2) rfl
              refine o_st (j := 5) [[.int .u32 2]] [[vvs6]] [[v1]] [[(.slice none 0 0)], [.int .u32 0]] sz64 rfl rfl (by intro c hc; simp at hc; subst hc; exact hone) hI rfl hA rfl rfl hcel rfl fun w hI => ?_
              refine o_nil ?_
              refine hN26 _ _ ?_
              refine w_seq fun _ hN27 => ?_
              refine w_reg ?_
              refine stp hA (r_mv hA rfl) rfl fun a hA => 
                stp hA (r_mv hA rfl) rfl fun a hA => ?_
              have hE4 : Els (RI .i64) 1 ([r3] : List Int) ([[.int .i64 r3]].flatten ++ ([])) := (Els.cons (c := [[.int .i64 r3]].flatten) ⟨rfl, hz6⟩ rfl Els.nil)
              refine o_bsl ([[.int .i64 r3]].flatten ++ ([])) te3 zr3 Try.underlying23 hI hA rfl rfl rfl rfl (by kernel_rfl) rfl fun g4 a w hA hI => ?_
              generalize hcs : ([[.int .i64 r3]].flatten ++ ([]) : List Value) = cs4 at hE4 hI
              clear hcs
              obtain ⟨hb5, H⟩ := bG H
              have hE6 := ws1.app hE4
              refine o_appL (xs := (s1 : List Int)) (ys := (([r3] : List Int) : List Int)) (j := 5) te3 Try.underlying23 hI rfl hA rfl rfl (src_row hI (j := 0) rfl) hE4.len (hE4.ones (one_RI _)) (by first | decide | (have hq := hb5; (try simp only [List.length_cons, List.length_nil] at hq); (try simp only [List.length_cons, List.length_nil]); (try simp only [maxLen]); omega)) (by first | decide | (have hq := hb5; (try simp only [List.length_cons, List.length_nil] at hq); (try simp only [List.length_cons, List.length_nil]); (try simp only [maxLen]); omega)) rfl fun v2 a w hA hI => 
                stp hA (r_as hA rfl) rfl fun a hA => ?_
              refine o_nil ?_
              refine hN27 _ _ ?_
              refine w_reg ?_
              refine stp hA (r_mv hA rfl) rfl fun a hA => 
                stp hA (r_mv hA rfl) rfl fun a hA => ?_
              have hE7 : Els (RI .u32) 1 ([bAnd .u32 (x2.getD s5.toNat 0) 16777215] : List Int) ([[.int .u32 (bAnd .u32 (x2.getD s5.toNat 0) 16777215)]].flatten ++ ([])) := (Els.cons (c := [[.int .u32 (bAnd .u32 (x2.getD s5.toNat 0) 16777215)]].flatten) ⟨rfl, (wrap_in _ _)⟩ rfl Els.nil)
              refine o_bsl ([[.int .u32 (bAnd .u32 (x2.getD s5.toNat 0) 16777215)]].flatten ++ ([])) te25 zr25 Try.underlying94 hI hA rfl rfl rfl rfl (by kernel_rfl) rfl fun g5 a w hA hI => ?_
              generalize hcs : ([[.int .u32 (bAnd .u32 (x2.getD s5.toNat 0) 16777215)]].flatten ++ ([]) : List Value) = cs7 at hE7 hI
              clear hcs
              obtain ⟨hb6, H⟩ := bG H
              have hE9 := ws2.app hE7
              refine o_appL (xs := (s2 : List Int)) (ys := (([bAnd .u32 (x2.getD s5.toNat 0) 16777215] : List Int) : List Int)) (j := 5) te25 Try.underlying94 hI rfl hA rfl rfl (src_row hI (j := 0) rfl) hE7.len (hE7.ones (one_RI _)) (by first | decide | (have hq := hb6; (try simp only [List.length_cons, List.length_nil] at hq); (try simp only [List.length_cons, List.length_nil]); (try simp only [maxLen]); omega)) (by first | decide | (have hq := hb6; (try simp only [List.length_cons, List.length_nil] at hq); (try simp only [List.length_cons, List.length_nil]); (try simp only [maxLen]); omega)) rfl fun v3 a w hA hI => 
                stp hA (r_as hA rfl) rfl fun a hA => ?_
              refine o_nil ?_
              cases Option.some.inj (bS H)
              exact ⟨v2, ccs1 ++ cs4, v3, ccs2 ++ cs7, v1, ccs6 ++ cs1, hE6, hE9, wc11, wc12, hE3, hA.sub ⟨rfl, rfl, rfl, rfl, rfl, rfl, rfl, rfl, rfl, rfl, rfl, rfl, rfl, rfl, rfl, trivial⟩, (hI.sel [6, 5, 4, 7] (by decide) rfl)⟩
          · rintro a w ⟨vvc6, ccc6, vvc7, ccc7, vvc10, ccc10, wc6, wc7, wc8, wc9, wc10, hA, hI⟩
            have H := Hk3
            refine w_reg ?_
            refine stp hA (r_mv hA rfl) rfl fun a hA => 
              stp hA (r_add hA rfl rfl) rfl fun a hA => 
              stp hA (r_as hA rfl) rfl fun a hA => ?_
            refine o_nil ?_
            exact ⟨m1, Nat.lt_succ_self _, c6, c7, c8, c9, IntKind.i64.wrap (s5 + 1), c10, vvc6, ccc6, vvc7, ccc7, vvc10, ccc10, H, wc6, wc7, wc8, wc9, (wrap_in _ _), wc10, hA.sub ⟨rfl, rfl, rfl, rfl, rfl, rfl, rfl, rfl, rfl, rfl, rfl, rfl, rfl, rfl, trivial⟩, (hI.sel [2, 1, 0, 3] (by decide) rfl)⟩
        · have hc30 := hc3; have hc3 := of_decide_eq_false hc3; have H := bF H hc3
          refine w_exit rfl ?_
          have H : some (s1, s2, s3, s4, s6) = some z1 := H
          obtain rfl := Option.some.inj H
          have H := Hk2
          cases Option.some.inj (bS H)
          exact ⟨vvs1, ccs1, vvs2, ccs2, vvs6, ccs6, ws1, ws2, ws3, ws4, ws6, hA.sub ⟨rfl, rfl, rfl, rfl, rfl, rfl, rfl, rfl, rfl, rfl, rfl, rfl, rfl, trivial⟩, (hI.sel [2, 1, 0, 3] (by decide) rfl)⟩
      · rintro a w ⟨vvc1, ccc1, vvc2, ccc2, vvc5, ccc5, wc1, wc2, wc3, wc4, wc5, hA, hI⟩
        have H := Hk1
        refine w_seq fun _ hN28 => ?_
        refine w_reg ?_
        refine stp hA (r_ldA (j := 3) [] [[.int .u32 2], [vvc5], [(.slice none 0 0)], [.int .u32 0]] [] Try.underlying67 rfl sz67 rfl hI rfl hA rfl rfl) rfl fun a hA => 
          stp hA (r_mv hA rfl) rfl fun a hA => 
          stp hA (r_mv hA rfl) rfl fun a hA => ?_
        obtain ⟨r5, hr5, H⟩ := bB H
        refine o_callp (u := .tuple #[.int .i64 r5.1, .int .i64 r5.2.1, .bool r5.2.2]) cf81 hA rfl hI ((by obtain ⟨μ1, hle1, hsv4, hI⟩ := hI.freezeRow 2 rfl; have hS1 : Slc (RIn μ1) 35 μ1 vvc5 c5 := ⟨_, (Els.mono wc5 (fun _ _ h => RIn.le hle1 h)), hsv4⟩; obtain ⟨μ2, hle2, hsv5, hI⟩ := hI.freezeRow 0 rfl; have hS2 : Slc (RI .i64) 1 μ2 vvc1 c1 := ⟨_, wc1, hsv5⟩; obtain ⟨μ3, hle3, hsv6, hI⟩ := hI.freezeRow 0 rfl; have hS3 : Slc (RI .u32) 1 μ3 vvc2 c2 := ⟨_, wc2, hsv6⟩; exact low_plain ((hle1.trans hle2).trans hle3) (seq_Need.c μ3 _ hI.agr (⟨2, c5, [], 0⟩ : Tx) vvc5 (.slice none 0 0) ⟨(in_lit .u32 2 rfl), (Slc.le hS1 (fun _ _ h => RIn.le (hle2.trans hle3) h) (hle2.trans hle3)), (slc_nil _ _ _), (in_lit .u32 0 rfl)⟩ c1 vvc1 (Slc.le hS2 (fun _ _ h => h) hle3) c2 vvc2 hS3 r5 hr5))) rfl fun a w hz9 hI hA => 
          stp hA (r_mv hA rfl) rfl fun a hA => 
          stp hA (r_extr (vs := [.int .i64 r5.1, .int .i64 r5.2.1, .bool r5.2.2]) hA rfl rfl) rfl fun a hA => 
          stp hA (r_extr (vs := [.int .i64 r5.1, .int .i64 r5.2.1, .bool r5.2.2]) hA rfl rfl) rfl fun a hA => 
          stp hA (r_extr (vs := [.int .i64 r5.1, .int .i64 r5.2.1, .bool r5.2.2]) hA rfl rfl) rfl fun a hA => 
          stp hA (r_as hA rfl) rfl fun a hA => 
          stp hA (r_as hA rfl) rfl fun a hA => 
          stp hA (r_as hA rfl) rfl fun a hA => ?_
        refine o_nil ?_
        refine hN28 _ _ ?_
        refine w_seq fun _ hN29 => ?_
        refine w_reg ?_
        refine stp hA (r_fd (k := 0) Try.underlying67 rfl sz25 hA rfl rfl) rfl fun a hA => 
          o_st (j := 3) [] [[.int .u32 2]] [[.int .u32 1]] [[vvc5], [(.slice none 0 0)], [.int .u32 0]] sz25 rfl rfl (fl_cons (one_one rfl) fl_nil) hI rfl hA rfl rfl rfl rfl fun w hI => ?_
        refine o_nil ?_
        refine hN29 _ _ ?_
        refine w_seq fun _ hN30 => ?_
        refine w_reg ?_
        refine stp hA (r_ldA (j := 3) [] [[.int .u32 1], [vvc5], [(.slice none 0 0)], [.int .u32 0]] [] Try.underlying67 rfl sz67 rfl hI rfl hA rfl rfl) rfl fun a hA => 
          stp hA (r_mv hA rfl) rfl fun a hA => 
          stp hA (r_mv hA rfl) rfl fun a hA => ?_
        obtain ⟨r6, hr6, H⟩ := bB H
        refine o_callp (u := .tuple #[.int .i64 r6.1, .int .i64 r6.2.1, .bool r6.2.2]) cf81 hA rfl hI ((by obtain ⟨μ4, hle4, hsv7, hI⟩ := hI.freezeRow 2 rfl; have hS4 : Slc (RIn μ4) 35 μ4 vvc5 c5 := ⟨_, (Els.mono wc5 (fun _ _ h => RIn.le hle4 h)), hsv7⟩; obtain ⟨μ5, hle5, hsv8, hI⟩ := hI.freezeRow 0 rfl; have hS5 : Slc (RI .i64) 1 μ5 vvc1 c1 := ⟨_, wc1, hsv8⟩; obtain ⟨μ6, hle6, hsv9, hI⟩ := hI.freezeRow 0 rfl; have hS6 : Slc (RI .u32) 1 μ6 vvc2 c2 := ⟨_, wc2, hsv9⟩; exact low_plain ((hle4.trans hle5).trans hle6) (seq_Need.c μ6 _ hI.agr (⟨1, c5, [], 0⟩ : Tx) vvc5 (.slice none 0 0) ⟨(in_lit .u32 1 rfl), (Slc.le hS4 (fun _ _ h => RIn.le (hle5.trans hle6) h) (hle5.trans hle6)), (slc_nil _ _ _), (in_lit .u32 0 rfl)⟩ c1 vvc1 (Slc.le hS5 (fun _ _ h => h) hle6) c2 vvc2 hS6 r6 hr6))) rfl fun a w hz10 hI hA => 
          stp hA (r_mv hA rfl) rfl fun a hA => 
          stp hA (r_extr (vs := [.int .i64 r6.1, .int .i64 r6.2.1, .bool r6.2.2]) hA rfl rfl) rfl fun a hA => 
          stp hA (r_extr (vs := [.int .i64 r6.1, .int .i64 r6.2.1, .bool r6.2.2]) hA rfl rfl) rfl fun a hA => 
          stp hA (r_extr (vs := [.int .i64 r6.1, .int .i64 r6.2.1, .bool r6.2.2]) hA rfl rfl) rfl fun a hA => 
          stp hA (r_as hA rfl) rfl fun a hA => 
          stp hA (r_as hA rfl) rfl fun a hA => 
          stp hA (r_as hA rfl) rfl fun a hA => ?_
        refine o_nil ?_
        refine hN30 _ _ ?_
        refine w_seq fun _ hN31 => ?_
        refine w_anyS [] mo (fun w (h : Iv w0 [] μ μ [row 3 1 vvc1 c1.length ccc1, row 25 1 vvc2 c2.length ccc2, row 71 35 vvc5 c5.length ccc5, cel g1 [[.int .u32 1], [vvc5], [(.slice none 0 0)], [.int .u32 0]] 67] w) => (h.sel [1, 2, 3] (by decide) rfl : Iv w0 [] μ μ [row 25 1 vvc2 c2.length ccc2, row 71 35 vvc5 c5.length ccc5, cel g1 [[.int .u32 1], [vvc5], [(.slice none 0 0)], [.int .u32 0]] 67] w)) hI fun w hI => ?_
        refine g_take (i := 0) hA rfl rfl (by kernel_rfl) (hI.sel [1, 2, 3] (by decide) rfl) (fun w hI => r_ldA (j := 2) [] [[.int .u32 1], [vvc5], [(.slice none 0 0)], [.int .u32 0]] [] Try.underlying67 rfl sz67 rfl hI rfl hA rfl rfl) rfl fun a hA => ?_
        refine g_easy (i := 1) hA rfl rfl (by kernel_rfl) (.inr (hI.sel [1, 2, 3] (by decide) rfl)) (fun _ => r_mv hA rfl) rfl fun a hA => ?_
        refine g_easy (i := 4) hA rfl rfl (by kernel_rfl) (.inr (hI.sel [1, 2, 3] (by decide) rfl)) (fun _ => r_mv hA rfl) rfl fun a hA => ?_
        refine g_forced (i := 2) rfl (by kernel_rfl) ?_
        have hE10 : Els (RI .i64) 1 ([1] : List Int) ([[.int .i64 1]].flatten ++ ([])) := (Els.cons (c := [[.int .i64 1]].flatten) ⟨rfl, (in_lit .i64 1 rfl)⟩ rfl Els.nil)
        refine o_bsl ([[.int .i64 1]].flatten ++ ([])) te3 zr3 Try.underlying23 hI hA rfl rfl rfl rfl (by kernel_rfl) rfl fun g6 a w hA hI => ?_
        generalize hcs : ([[.int .i64 1]].flatten ++ ([]) : List Value) = cs10 at hE10 hI
        clear hcs
        refine o_nil ?_
        refine ⟨(.inr (hI.sel [2, 3, 4] (by decide) rfl)), ?_⟩
        refine g_forced (i := 3) rfl (by kernel_rfl) ?_
        obtain ⟨hb7, H⟩ := bG H
        have hE12 := wc1.app hE10
        refine o_appL (xs := (c1 : List Int)) (ys := (([1] : List Int) : List Int)) (j := 1) te3 Try.underlying23 hI rfl hA rfl rfl (src_row hI (j := 0) rfl) hE10.len (hE10.ones (one_RI _)) (by first | decide | (have hq := hb7; (try simp only [List.length_cons, List.length_nil] at hq); (try simp only [List.length_cons, List.length_nil]); (try simp only [maxLen]); omega)) (by first | decide | (have hq := hb7; (try simp only [List.length_cons, List.length_nil] at hq); (try simp only [List.length_cons, List.length_nil]); (try simp only [maxLen]); omega)) rfl fun v4 a w hA hI => ?_
        refine o_nil ?_
        refine ⟨(.inr (hI.sel [2, 3, 4] (by decide) rfl)), ?_⟩
        refine g_forced (i := 5) rfl (by kernel_rfl) ?_
        obtain ⟨r7, hr7, H⟩ := bB H
        refine o_callp (u := .tuple #[.int .i64 r7.1, .int .i64 r7.2.1, .bool r7.2.2]) cf81 hA rfl hI ((by obtain ⟨μ7, hle7, hsv11, hI⟩ := hI.freezeRow 3 rfl; have hS7 : Slc (RIn μ7) 35 μ7 vvc5 c5 := ⟨_, (Els.mono wc5 (fun _ _ h => RIn.le hle7 h)), hsv11⟩; obtain ⟨μ8, hle8, hsv12, hI⟩ := hI.freezeRow 1 rfl; have hS8 : Slc (RI .i64) 1 μ8 v4 (c1 ++ ([1] : List Int)) := ⟨_, hE12, hsv12⟩; obtain ⟨μ9, hle9, hsv13, hI⟩ := hI.freezeRow 1 rfl; have hS9 : Slc (RI .u32) 1 μ9 vvc2 c2 := ⟨_, wc2, hsv13⟩; exact low_plain ((hle7.trans hle8).trans hle9) (seq_Need.c μ9 _ hI.agr (⟨1, c5, [], 0⟩ : Tx) vvc5 (.slice none 0 0) ⟨(in_lit .u32 1 rfl), (Slc.le hS7 (fun _ _ h => RIn.le (hle8.trans hle9) h) (hle8.trans hle9)), (slc_nil _ _ _), (in_lit .u32 0 rfl)⟩ (c1 ++ ([1] : List Int)) v4 (Slc.le hS8 (fun _ _ h => h) hle9) c2 vvc2 hS9 r7 hr7))) rfl fun a w hz11 hI hA => ?_
        refine o_nil ?_
        refine ⟨(.inr (hI.sel [2, 3, 4] (by decide) rfl)), ?_⟩
        refine g_easy (i := 6) hA rfl rfl (by kernel_rfl) (.inr (hI.sel [2, 3, 4] (by decide) rfl)) (fun _ => r_mv hA rfl) rfl fun a hA => ?_
        refine g_easy (i := 7) hA rfl rfl (by kernel_rfl) (.inr (hI.sel [2, 3, 4] (by decide) rfl)) (fun _ => r_extr (vs := [.int .i64 r7.1, .int .i64 r7.2.1, .bool r7.2.2]) hA rfl rfl) rfl fun a hA => ?_
        refine g_easy (i := 8) hA rfl rfl (by kernel_rfl) (.inr (hI.sel [2, 3, 4] (by decide) rfl)) (fun _ => r_extr (vs := [.int .i64 r7.1, .int .i64 r7.2.1, .bool r7.2.2]) hA rfl rfl) rfl fun a hA => ?_
        refine g_easy (i := 9) hA rfl rfl (by kernel_rfl) (.inr (hI.sel [2, 3, 4] (by decide) rfl)) (fun _ => r_extr (vs := [.int .i64 r7.1, .int .i64 r7.2.1, .bool r7.2.2]) hA rfl rfl) rfl fun a hA => ?_
        refine g_easy (i := 10) hA rfl rfl (by kernel_rfl) (.inr (hI.sel [2, 3, 4] (by decide) rfl)) (fun _ => r_as hA rfl) rfl fun a hA => ?_
        refine g_easy (i := 11) hA rfl rfl (by kernel_rfl) (.inr (hI.sel [2, 3, 4] (by decide) rfl)) (fun _ => r_as hA rfl) rfl fun a hA => ?_
        refine g_easy (i := 12) hA rfl rfl (by kernel_rfl) (.inr (hI.sel [2, 3, 4] (by decide) rfl)) (fun _ => r_as hA rfl) rfl fun a hA => ?_
        refine g_nil (by kernel_rfl) ?_
        refine hN31 _ _ ?_
        obtain ⟨c14, hz12, Hk5⟩ := bB H
        refine w_cut (fun a w => Fr a 167 [(0, u0), (1, u1), (2, u2), (6, .bool c14), (7, .bool r1), (8, .int .i64 (iMin (x0.length : Int) (iMin (x1.length : Int) (x2.length : Int)))), (9, .pointer (some ⟨g1, 0, none⟩)), (11, vvc2), (12, .int .i64 c3), (13, .int .i64 c4), (19, .int .i64 r5.1), (20, .int .i64 r5.2.1), (21, .bool r5.2.2), (22, .int .i64 r6.1), (23, .int .i64 r6.2.1), (24, .bool r6.2.2), (27, .bool r7.2.2), (30, .bool (!r1)), (40, .bool (decide (10 < (iMin (x0.length : Int) (iMin (x1.length : Int) (x2.length : Int))))))] ∧ Iv w0 [] μ μ [row 3 1 (.slice (some ⟨g6, 0, none⟩) 1 1) ([1] : List Int).length cs10, row 3 1 v4 (c1 ++ ([1] : List Int)).length (ccc1 ++ cs10), row 25 1 vvc2 c2.length ccc2, row 71 35 vvc5 c5.length ccc5, cel g1 [[.int .u32 1], [vvc5], [(.slice none 0 0)], [.int .u32 0]] 67] w) ?_ ?_
        · have H := bI hz12
          refine w_reg ?_
          refine stp hA (r_mv hA rfl) rfl fun a hA => 
            stp hA (r_mv hA rfl) rfl fun a hA => ?_
          rcases Bool.eq_false_or_eq_true r1 with hc6 | hc6
          · have hc60 := hc6; have H := bT H hc6
            refine o_yes hA rfl rfl hc60 <| 
              stp hA (r_mv hA rfl) rfl fun a hA => 
              stp hA (r_pick_t hA rfl hc60 rfl) rfl fun a hA => 
              stp hA (r_mv hA rfl) rfl fun a hA => ?_
            rcases Bool.eq_false_or_eq_true r5.2.2 with hc7 | hc7
            · have hc70 := hc7; have H := bT H hc7
              refine o_yes hA rfl rfl hc70 <| 
                stp hA (r_mv hA rfl) rfl fun a hA => 
                stp hA (r_pick_t hA rfl hc70 rfl) rfl fun a hA => 
                stp hA (r_mv hA rfl) rfl fun a hA => ?_
              rcases Bool.eq_false_or_eq_true r6.2.2 with hc8 | hc8
              · have hc80 := hc8; have H := bT H hc8
                refine o_yes hA rfl rfl hc80 <| 
                  stp hA (r_mv hA rfl) rfl fun a hA => 
                  o_yes hA rfl rfl hc80 <| 
                  stp hA (r_mv hA rfl) rfl fun a hA => 
                  o_yes hA rfl rfl hc80 <| 
                  stp hA (r_eql hA rfl rfl) rfl fun a hA => 
                  stp hA (r_pick_t hA rfl hc80 rfl) rfl fun a hA => 
                  stp hA (r_mv hA rfl) rfl fun a hA => ?_
                rcases Bool.eq_false_or_eq_true (decide (r5.1 = c3)) with hc9 | hc9
                · have hc90 := hc9; have hc9 := of_decide_eq_true hc9; have H := bT H hc9
                  refine o_yes hA rfl rfl hc90 <| 
                    stp hA (r_mv hA rfl) rfl fun a hA => 
                    o_yes hA rfl rfl hc90 <| 
                    stp hA (r_mv hA rfl) rfl fun a hA => 
                    o_yes hA rfl rfl hc90 <| 
                    stp hA (r_eql hA rfl rfl) rfl fun a hA => 
                    stp hA (r_pick_t hA rfl hc90 rfl) rfl fun a hA => 
                    stp hA (r_mv hA rfl) rfl fun a hA => ?_
                  rcases Bool.eq_false_or_eq_true (decide (r5.2.1 = c4)) with hc10 | hc10
                  · have hc100 := hc10; have hc10 := of_decide_eq_true hc10; have H := bT H hc10
                    refine o_yes hA rfl rfl hc100 <| 
                      stp hA (r_mv hA rfl) rfl fun a hA => 
                      o_yes hA rfl rfl hc100 <| 
                      stp hA (r_eql hA rfl rfl) rfl fun a hA => 
                      stp hA (r_pick_t hA rfl hc100 rfl) rfl fun a hA => 
                      stp hA (r_mv hA rfl) rfl fun a hA => ?_
                    rcases Bool.eq_false_or_eq_true (decide (r6.1 = (-1))) with hc11 | hc11
                    · have hc110 := hc11; have hc11 := of_decide_eq_true hc11; have H := bT H hc11
                      refine o_yes hA rfl rfl hc110 <| 
                        stp hA (r_mv hA rfl) rfl fun a hA => 
                        o_yes hA rfl rfl hc110 <| 
                        stp hA (r_eql hA rfl rfl) rfl fun a hA => 
                        stp hA (r_pick_t hA rfl hc110 rfl) rfl fun a hA => 
                        stp hA (r_mv hA rfl) rfl fun a hA => ?_
                      rcases Bool.eq_false_or_eq_true (decide (r6.2.1 = (-1))) with hc12 | hc12
                      · have hc120 := hc12; have hc12 := of_decide_eq_true hc12; have H := bT H hc12
                        refine o_yes hA rfl rfl hc120 <| 
                          stp hA (r_mv hA rfl) rfl fun a hA => 
                          o_yes hA rfl rfl hc120 <| 
                          stp hA (r_not hA rfl) rfl fun a hA => 
                          stp hA (r_pick_t hA rfl hc120 rfl) rfl fun a hA => 
                          stp hA (r_as hA rfl) rfl fun a hA => ?_
                        refine o_nil ?_
                        cases Option.some.inj (bS H)
                        exact ⟨hA.sub ⟨rfl, rfl, rfl, rfl, rfl, rfl, rfl, rfl, rfl, rfl, rfl, rfl, rfl, rfl, rfl, rfl, rfl, rfl, rfl, trivial⟩, hI⟩
                      · have hc120 := hc12; have hc12 := of_decide_eq_false hc12; have H := bF H hc12
                        refine o_no hA rfl rfl (by rw [hc120]; simp [vb]) rfl fun a hA => 
                          o_no hA rfl rfl (by rw [hc120]; simp [vb]) rfl fun a hA => 
                          stp hA (r_pick_f hA rfl hc120 rfl) rfl fun a hA => 
                          stp hA (r_as hA rfl) rfl fun a hA => ?_
                        refine o_nil ?_
                        cases Option.some.inj (bS H)
                        exact ⟨hA.sub ⟨rfl, rfl, rfl, rfl, rfl, rfl, rfl, rfl, rfl, rfl, rfl, rfl, rfl, rfl, rfl, rfl, rfl, rfl, rfl, trivial⟩, hI⟩
                    · have hc110 := hc11; have hc11 := of_decide_eq_false hc11; have H := bF H hc11
                      refine o_no hA rfl rfl (by rw [hc110]; simp [vb]) rfl fun a hA => 
                        o_no hA rfl rfl (by rw [hc110]; simp [vb]) rfl fun a hA => 
                        stp hA (r_pick_f hA rfl hc110 rfl) rfl fun a hA => 
                        stp hA (r_mv hA rfl) rfl fun a hA => 
                        o_no hA rfl rfl (by simp [vb]) rfl fun a hA => 
                        o_no hA rfl rfl (by simp [vb]) rfl fun a hA => 
                        stp hA (r_pick_f hA rfl rfl rfl) rfl fun a hA => 
                        stp hA (r_as hA rfl) rfl fun a hA => ?_
                      refine o_nil ?_
                      cases Option.some.inj (bS H)
                      exact ⟨hA.sub ⟨rfl, rfl, rfl, rfl, rfl, rfl, rfl, rfl, rfl, rfl, rfl, rfl, rfl, rfl, rfl, rfl, rfl, rfl, rfl, trivial⟩, hI⟩
                  · have hc100 := hc10; have hc10 := of_decide_eq_false hc10; have H := bF H hc10
                    refine o_no hA rfl rfl (by rw [hc100]; simp [vb]) rfl fun a hA => 
                      o_no hA rfl rfl (by rw [hc100]; simp [vb]) rfl fun a hA => 
                      stp hA (r_pick_f hA rfl hc100 rfl) rfl fun a hA => 
                      stp hA (r_mv hA rfl) rfl fun a hA => 
                      o_no hA rfl rfl (by simp [vb]) rfl fun a hA => 
                      o_no hA rfl rfl (by simp [vb]) rfl fun a hA => 
                      stp hA (r_pick_f hA rfl rfl rfl) rfl fun a hA => 
                      stp hA (r_mv hA rfl) rfl fun a hA => 
                      o_no hA rfl rfl (by simp [vb]) rfl fun a hA => 
                      o_no hA rfl rfl (by simp [vb]) rfl fun a hA => 
                      stp hA (r_pick_f hA rfl rfl rfl) rfl fun a hA => 
                      stp hA (r_as hA rfl) rfl fun a hA => ?_
                    refine o_nil ?_
                    cases Option.some.inj (bS H)
                    exact ⟨hA.sub ⟨rfl, rfl, rfl, rfl, rfl, rfl, rfl, rfl, rfl, rfl, rfl, rfl, rfl, rfl, rfl, rfl, rfl, rfl, rfl, trivial⟩, hI⟩
                · have hc90 := hc9; have hc9 := of_decide_eq_false hc9; have H := bF H hc9
                  refine o_no hA rfl rfl (by rw [hc90]; simp [vb]) rfl fun a hA => 
                    o_no hA rfl rfl (by rw [hc90]; simp [vb]) rfl fun a hA => 
                    o_no hA rfl rfl (by rw [hc90]; simp [vb]) rfl fun a hA => 
                    stp hA (r_pick_f hA rfl hc90 rfl) rfl fun a hA => 
                    stp hA (r_mv hA rfl) rfl fun a hA => 
                    o_no hA rfl rfl (by simp [vb]) rfl fun a hA => 
                    o_no hA rfl rfl (by simp [vb]) rfl fun a hA => 
                    stp hA (r_pick_f hA rfl rfl rfl) rfl fun a hA => 
                    stp hA (r_mv hA rfl) rfl fun a hA => 
                    o_no hA rfl rfl (by simp [vb]) rfl fun a hA => 
                    o_no hA rfl rfl (by simp [vb]) rfl fun a hA => 
                    stp hA (r_pick_f hA rfl rfl rfl) rfl fun a hA => 
                    stp hA (r_mv hA rfl) rfl fun a hA => 
                    o_no hA rfl rfl (by simp [vb]) rfl fun a hA => 
                    o_no hA rfl rfl (by simp [vb]) rfl fun a hA => 
                    stp hA (r_pick_f hA rfl rfl rfl) rfl fun a hA => 
                    stp hA (r_as hA rfl) rfl fun a hA => ?_
                  refine o_nil ?_
                  cases Option.some.inj (bS H)
                  exact ⟨hA.sub ⟨rfl, rfl, rfl, rfl, rfl, rfl, rfl, rfl, rfl, rfl, rfl, rfl, rfl, rfl, rfl, rfl, rfl, rfl, rfl, trivial⟩, hI⟩
              · have hc80 := hc8; have hc8 := ft hc8; have H := bF H hc8
                refine o_no hA rfl rfl (by rw [hc80]; simp [vb]) rfl fun a hA => 
                  o_no hA rfl rfl (by rw [hc80]; simp [vb]) rfl fun a hA => 
                  o_no hA rfl rfl (by rw [hc80]; simp [vb]) rfl fun a hA => 
                  stp hA (r_pick_f hA rfl hc80 rfl) rfl fun a hA => 
                  stp hA (r_mv hA rfl) rfl fun a hA => 
                  o_no hA rfl rfl (by simp [vb]) rfl fun a hA => 
                  o_no hA rfl rfl (by simp [vb]) rfl fun a hA => 
                  o_no hA rfl rfl (by simp [vb]) rfl fun a hA => 
                  stp hA (r_pick_f hA rfl rfl rfl) rfl fun a hA => 
                  stp hA (r_mv hA rfl) rfl fun a hA => 
                  o_no hA rfl rfl (by simp [vb]) rfl fun a hA => 
                  o_no hA rfl rfl (by simp [vb]) rfl fun a hA => 
                  stp hA (r_pick_f hA rfl rfl rfl) rfl fun a hA => 
                  stp hA (r_mv hA rfl) rfl fun a hA => 
                  o_no hA rfl rfl (by simp [vb]) rfl fun a hA => 
                  o_no hA rfl rfl (by simp [vb]) rfl fun a hA => 
                  stp hA (r_pick_f hA rfl rfl rfl) rfl fun a hA => 
                  stp hA (r_mv hA rfl) rfl fun a hA => 
                  o_no hA rfl rfl (by simp [vb]) rfl fun a hA => 
                  o_no hA rfl rfl (by simp [vb]) rfl fun a hA => 
                  stp hA (r_pick_f hA rfl rfl rfl) rfl fun a hA => 
                  stp hA (r_as hA rfl) rfl fun a hA => ?_
                refine o_nil ?_
                cases Option.some.inj (bS H)
                exact ⟨hA.sub ⟨rfl, rfl, rfl, rfl, rfl, rfl, rfl, rfl, rfl, rfl, rfl, rfl, rfl, rfl, rfl, rfl, rfl, rfl, rfl, trivial⟩, hI⟩
            · have hc70 := hc7; have hc7 := ft hc7; have H := bF H hc7
              refine o_no hA rfl rfl (by rw [hc70]; simp [vb]) rfl fun a hA => 
                stp hA (r_pick_f hA rfl hc70 rfl) rfl fun a hA => 
                stp hA (r_mv hA rfl) rfl fun a hA => 
                o_no hA rfl rfl (by simp [vb]) rfl fun a hA => 
                o_no hA rfl rfl (by simp [vb]) rfl fun a hA => 
                o_no hA rfl rfl (by simp [vb]) rfl fun a hA => 
                stp hA (r_pick_f hA rfl rfl rfl) rfl fun a hA => 
                stp hA (r_mv hA rfl) rfl fun a hA => 
                o_no hA rfl rfl (by simp [vb]) rfl fun a hA => 
                o_no hA rfl rfl (by simp [vb]) rfl fun a hA => 
                o_no hA rfl rfl (by simp [vb]) rfl fun a hA => 
                stp hA (r_pick_f hA rfl rfl rfl) rfl fun a hA => 
                stp hA (r_mv hA rfl) rfl fun a hA => 
                o_no hA rfl rfl (by simp [vb]) rfl fun a hA => 
                o_no hA rfl rfl (by simp [vb]) rfl fun a hA => 
                stp hA (r_pick_f hA rfl rfl rfl) rfl fun a hA => 
                stp hA (r_mv hA rfl) rfl fun a hA => 
                o_no hA rfl rfl (by simp [vb]) rfl fun a hA => 
                o_no hA rfl rfl (by simp [vb]) rfl fun a hA => 
                stp hA (r_pick_f hA rfl rfl rfl) rfl fun a hA => 
                stp hA (r_mv hA rfl) rfl fun a hA => 
                o_no hA rfl rfl (by simp [vb]) rfl fun a hA => 
                o_no hA rfl rfl (by simp [vb]) rfl fun a hA => 
                stp hA (r_pick_f hA rfl rfl rfl) rfl fun a hA => 
                stp hA (r_as hA rfl) rfl fun a hA => ?_
              refine o_nil ?_
              cases Option.some.inj (bS H)
              exact ⟨hA.sub ⟨rfl, rfl, rfl, rfl, rfl, rfl, rfl, rfl, rfl, rfl, rfl, rfl, rfl, rfl, rfl, rfl, rfl, rfl, rfl, trivial⟩, hI⟩
          · have hc60 := hc6; have hc6 := ft hc6; have H := bF H hc6
            refine o_no hA rfl rfl (by rw [hc60]; simp [vb]) rfl fun a hA => 
              stp hA (r_pick_f hA rfl hc60 rfl) rfl fun a hA => 
              stp hA (r_mv hA rfl) rfl fun a hA => 
              o_no hA rfl rfl (by simp [vb]) rfl fun a hA => 
              stp hA (r_pick_f hA rfl rfl rfl) rfl fun a hA => 
              stp hA (r_mv hA rfl) rfl fun a hA => 
              o_no hA rfl rfl (by simp [vb]) rfl fun a hA => 
              o_no hA rfl rfl (by simp [vb]) rfl fun a hA => 
              o_no hA rfl rfl (by simp [vb]) rfl fun a hA => 
              stp hA (r_pick_f hA rfl rfl rfl) rfl fun a hA => 
              stp hA (r_mv hA rfl) rfl fun a hA => 
              o_no hA rfl rfl (by simp [vb]) rfl fun a hA => 
              o_no hA rfl rfl (by simp [vb]) rfl fun a hA => 
              o_no hA rfl rfl (by simp [vb]) rfl fun a hA => 
              stp hA (r_pick_f hA rfl rfl rfl) rfl fun a hA => 
              stp hA (r_mv hA rfl) rfl fun a hA => 
              o_no hA rfl rfl (by simp [vb]) rfl fun a hA => 
              o_no hA rfl rfl (by simp [vb]) rfl fun a hA => 
              stp hA (r_pick_f hA rfl rfl rfl) rfl fun a hA => 
              stp hA (r_mv hA rfl) rfl fun a hA => 
              o_no hA rfl rfl (by simp [vb]) rfl fun a hA => 
              o_no hA rfl rfl (by simp [vb]) rfl fun a hA => 
              stp hA (r_pick_f hA rfl rfl rfl) rfl fun a hA => 
              stp hA (r_mv hA rfl) rfl fun a hA => 
              o_no hA rfl rfl (by simp [vb]) rfl fun a hA => 
              o_no hA rfl rfl (by simp [vb]) rfl fun a hA => 
              stp hA (r_pick_f hA rfl rfl rfl) rfl fun a hA => 
              stp hA (r_as hA rfl) rfl fun a hA => ?_
            refine o_nil ?_
            cases Option.some.inj (bS H)
            exact ⟨hA.sub ⟨rfl, rfl, rfl, rfl, rfl, rfl, rfl, rfl, rfl, rfl, rfl, rfl, rfl, rfl, rfl, rfl, rfl, rfl, rfl, trivial⟩, hI⟩
        · rintro a w ⟨hA, hI⟩
          have H := Hk5
          refine w_ret ?_
          obtain rfl := Option.some.inj (bS H)
          exact ret1 hA Try.results21 rfl ⟨_, rfl, rfl, trivial, hI.forget0⟩
end Go.Proofs.Ytnbnnphlffhgiaa.T
