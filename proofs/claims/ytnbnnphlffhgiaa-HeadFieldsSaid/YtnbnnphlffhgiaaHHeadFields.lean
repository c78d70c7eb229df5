/- A helper of this seat's claims: printed by gen.py. It proves no statement by itself. -/
import Derived.Test.YtnbnnphlffhgiaaCH
import Derived.Test.YtnbnnphlffhgiaaGHeadFields
namespace Go.Proofs.Ytnbnnphlffhgiaa.T
open Go Go.Proofs Go.Proofs.Ytnbnnphlffhgiaa.K
set_option linter.unusedVariables false
set_option linter.unusedSimpArgs false
/-! sargassolaw5.HeadFields: function 15 -/
set_option maxRecDepth 20000 in
theorem sargassolaw5_HeadFields.c (μ : Store) (w0 : World) (hμ : Agr μ w0) (x0 : Head) (hx0 : HeadW μ x0) (x1 : Head) (hx1 : HeadW μ x1) (r : Bool) (H : sargassolaw5_HeadFields.f x0 x1 = some r) :
    Calls Try.prog 15 [.agg [[.int .u32 x0.Version], av .u8 32 x0.Prev, av .u8 32 x0.Root, [.int .u32 x0.Time], [.int .u32 x0.Work], [.int .u32 x0.Nonce]].flatten.toArray, .agg [[.int .u32 x1.Version], av .u8 32 x1.Prev, av .u8 32 x1.Root, [.int .u32 x1.Time], [.int .u32 x1.Work], [.int .u32 x1.Nonce]].flatten.toArray].toArray w0 (fun e w' => ∃ v, e = .returned v ∧ v = .bool r ∧ True ∧ Iv w0 [] μ μ [] w') := by
  refine enter Try.func15 rfl Try.ntmps15 rfl fun a hA => ?_
  have hI := Iv.start hμ
  have H := bI H
  refine w_seq fun _ hN1 => ?_
  refine w_reg ?_
  refine o_box [[.int .u32 x0.Version], av .u8 32 x0.Prev, av .u8 32 x0.Root, [.int .u32 x0.Time], [.int .u32 x0.Work], [.int .u32 x0.Nonce]] hI hA rfl rfl rfl fun g1 a w hA hI hg1 => 
    o_box [[.int .u32 x1.Version], av .u8 32 x1.Prev, av .u8 32 x1.Root, [.int .u32 x1.Time], [.int .u32 x1.Work], [.int .u32 x1.Nonce]] hI hA rfl rfl rfl fun g2 a w hA hI hg2 => 
    stp hA (r_as hA rfl) rfl fun a hA => ?_
  refine o_nil ?_
  refine hN1 _ _ ?_
  refine w_seq fun _ hN2 => ?_
  refine w_reg ?_
  obtain ⟨r1, hr1, H⟩ := bB H
  refine o_callp (u := .bool r1) cf67 hA rfl hI (sargassolaw5_first.c μ _ hI.agr  r1 hr1) rfl fun a w hz1 hI hA => 
    stp hA (r_as hA rfl) rfl fun a hA => ?_
  refine o_nil ?_
  refine hN2 _ _ ?_
  refine w_seq fun _ hN3 => ?_
  refine w_seq fun _ hN4 => ?_
  refine w_reg ?_
  refine stp hA (r_mv hA rfl) rfl fun a hA => 
    stp hA (r_not hA rfl) rfl fun a hA => ?_
  refine o_nil ?_
  refine hN4 _ _ ?_
  refine w_cond hA rfl (fun hc1 => ?_) (fun hc1 => ?_)
  · have hc10 := hc1; have hc1 := nT hc1; have hc1 := ft hc1; have H := bF H hc1
    refine w_seq fun _ hN5 => ?_
    refine w_reg ?_
    refine stp hA (r_as hA rfl) rfl fun a hA => ?_
    refine o_nil ?_
    refine hN5 _ _ ?_
    refine w_ret ?_
    obtain rfl := Option.some.inj (bS H)
    exact ret1 hA Try.results15 rfl ⟨_, rfl, rfl, trivial, hI.forget0⟩
  · have hc10 := hc1; have hc1 := nF hc1; have H := bT H hc1
    refine w_skip ?_
    refine hN3 _ _ ?_
    refine w_seq fun _ hN6 => ?_
    refine w_reg ?_
    refine stp hA (r_ldA (j := 1) [] [[.int .u32 x0.Version], av .u8 32 x0.Prev, av .u8 32 x0.Root, [.int .u32 x0.Time], [.int .u32 x0.Work], [.int .u32 x0.Nonce]] [] Try.underlying76 rfl sz76 rfl hI rfl hA rfl rfl) rfl fun a hA => ?_
    obtain ⟨r2, hr2, H⟩ := bB H
    refine o_call _ cf68 hA rfl (head_Bytes.c μ _ hI.agr x0 ⟨hx0.1, hx0.2.1, hx0.2.2.1, hx0.2.2.2.1, hx0.2.2.2.2.1, hx0.2.2.2.2.2⟩ r2 hr2) rfl fun v1 a w hz2 hA => ?_
    obtain ⟨_, cs1, rfl, hE1, hi1⟩ := hz2
    have hI := hI.call hi1
    refine stp hA (r_as hA rfl) rfl fun a hA => ?_
    refine o_nil ?_
    refine hN6 _ _ ?_
    refine w_seq fun _ hN7 => ?_
    refine w_seq fun _ hN8 => ?_
    refine w_reg ?_
    refine stp hA (r_mv hA rfl) rfl fun a hA => ?_
    have hlen1 := Iv.row_in hI (j := 0) rfl
    refine stp hA (r_rlen (xs := 0) Try.underlying22 hI (j := 0) rfl hA rfl) rfl fun a hA => 
      stp hA (r_neq hA rfl rfl) rfl fun a hA => ?_
    refine o_nil ?_
    refine hN8 _ _ ?_
    refine w_cond hA rfl (fun hc2 => ?_) (fun hc2 => ?_)
    · have hc20 := hc2; have hc2 := of_decide_eq_true hc2; have H := bT H hc2
      refine w_seq fun _ hN9 => ?_
      refine w_reg ?_
      refine stp hA (r_as hA rfl) rfl fun a hA => ?_
      refine o_nil ?_
      refine hN9 _ _ ?_
      refine w_ret ?_
      obtain rfl := Option.some.inj (bS H)
      exact ret1 hA Try.results15 rfl ⟨_, rfl, rfl, trivial, hI.forget0⟩
    · have hc20 := hc2; have hc2 := of_decide_eq_false hc2; have H := bF H hc2
      refine w_skip ?_
      refine hN7 _ _ ?_
      refine w_seq fun _ hN10 => ?_
      refine w_reg ?_
      have hE2 : Els (RI .i64) 1 ([0, 4, 36, 68, 72, 76] : List Int) ([[.int .i64 0]].flatten ++ ([[.int .i64 4]].flatten ++ ([[.int .i64 36]].flatten ++ ([[.int .i64 68]].flatten ++ ([[.int .i64 72]].flatten ++ ([[.int .i64 76]].flatten ++ ([]))))))) := (Els.cons (c := [[.int .i64 0]].flatten) ⟨rfl, (in_lit .i64 0 rfl)⟩ rfl (Els.cons (c := [[.int .i64 4]].flatten) ⟨rfl, (in_lit .i64 4 rfl)⟩ rfl (Els.cons (c := [[.int .i64 36]].flatten) ⟨rfl, (in_lit .i64 36 rfl)⟩ rfl (Els.cons (c := [[.int .i64 68]].flatten) ⟨rfl, (in_lit .i64 68 rfl)⟩ rfl (Els.cons (c := [[.int .i64 72]].flatten) ⟨rfl, (in_lit .i64 72 rfl)⟩ rfl (Els.cons (c := [[.int .i64 76]].flatten) ⟨rfl, (in_lit .i64 76 rfl)⟩ rfl Els.nil))))))
      refine o_bsl ([[.int .i64 0]].flatten ++ ([[.int .i64 4]].flatten ++ ([[.int .i64 36]].flatten ++ ([[.int .i64 68]].flatten ++ ([[.int .i64 72]].flatten ++ ([[.int .i64 76]].flatten ++ ([]))))))) te3 zr3 Try.underlying23 hI hA rfl rfl rfl rfl (by kernel_rfl) rfl fun g3 a w hA hI => ?_
      generalize hcs : ([[.int .i64 0]].flatten ++ ([[.int .i64 4]].flatten ++ ([[.int .i64 36]].flatten ++ ([[.int .i64 68]].flatten ++ ([[.int .i64 72]].flatten ++ ([[.int .i64 76]].flatten ++ ([])))))) : List Value) = cs2 at hE2 hI
      clear hcs
      refine stp hA (r_as hA rfl) rfl fun a hA => ?_
      refine o_nil ?_
      refine hN10 _ _ ?_
      refine w_seq fun _ hN11 => ?_
      refine w_reg ?_
      have hE3 : Els (RI .i64) 1 ([4, 36, 68, 72, 76, 80] : List Int) ([[.int .i64 4]].flatten ++ ([[.int .i64 36]].flatten ++ ([[.int .i64 68]].flatten ++ ([[.int .i64 72]].flatten ++ ([[.int .i64 76]].flatten ++ ([[.int .i64 80]].flatten ++ ([]))))))) := (Els.cons (c := [[.int .i64 4]].flatten) ⟨rfl, (in_lit .i64 4 rfl)⟩ rfl (Els.cons (c := [[.int .i64 36]].flatten) ⟨rfl, (in_lit .i64 36 rfl)⟩ rfl (Els.cons (c := [[.int .i64 68]].flatten) ⟨rfl, (in_lit .i64 68 rfl)⟩ rfl (Els.cons (c := [[.int .i64 72]].flatten) ⟨rfl, (in_lit .i64 72 rfl)⟩ rfl (Els.cons (c := [[.int .i64 76]].flatten) ⟨rfl, (in_lit .i64 76 rfl)⟩ rfl (Els.cons (c := [[.int .i64 80]].flatten) ⟨rfl, (in_lit .i64 80 rfl)⟩ rfl Els.nil))))))
      refine o_bsl ([[.int .i64 4]].flatten ++ ([[.int .i64 36]].flatten ++ ([[.int .i64 68]].flatten ++ ([[.int .i64 72]].flatten ++ ([[.int .i64 76]].flatten ++ ([[.int .i64 80]].flatten ++ ([]))))))) te3 zr3 Try.underlying23 hI hA rfl rfl rfl rfl (by kernel_rfl) rfl fun g4 a w hA hI => ?_
      generalize hcs : ([[.int .i64 4]].flatten ++ ([[.int .i64 36]].flatten ++ ([[.int .i64 68]].flatten ++ ([[.int .i64 72]].flatten ++ ([[.int .i64 76]].flatten ++ ([[.int .i64 80]].flatten ++ ([])))))) : List Value) = cs3 at hE3 hI
      clear hcs
      refine stp hA (r_as hA rfl) rfl fun a hA => ?_
      refine o_nil ?_
      refine hN11 _ _ ?_
      refine w_seq fun _ hN12 => ?_
      refine w_seq fun _ hN13 => ?_
      refine w_reg ?_
      refine stp hA (r_as hA rfl) rfl fun a hA => ?_
      refine o_nil ?_
      refine hN13 _ _ ?_
      refine w_block ?_
      obtain ⟨μ1, hle1, hsv1, hI⟩ := hI.freezeRow 2 rfl
      have hS1 : Slc (RI .u8) 1 μ1 v1 r2 := ⟨_, hE1, hsv1⟩
      obtain ⟨z1, hz3, Hk1⟩ := bind_some H
      obtain ⟨n1, hn1⟩ := loopO_some hz3
      refine w_loop (fun n a w => ∃ (s1 : List Int) (s2 : Int) (μ2 : Store) (vvs1 : Value), loopN (sargassolaw5_HeadFields.s0 x0 x1 r1) n (s1, s2) = some z1 ∧ μ1.le μ2 ∧ Slc (RI .u8) 1 μ2 vvs1 s1 ∧ InR .i64 s2 ∧ Fr a 144 [(0, .agg [[.int .u32 x0.Version], av .u8 32 x0.Prev, av .u8 32 x0.Root, [.int .u32 x0.Time], [.int .u32 x0.Work], [.int .u32 x0.Nonce]].flatten.toArray), (1, .agg [[.int .u32 x1.Version], av .u8 32 x1.Prev, av .u8 32 x1.Root, [.int .u32 x1.Time], [.int .u32 x1.Work], [.int .u32 x1.Nonce]].flatten.toArray), (2, .pointer (some ⟨g1, 0, none⟩)), (3, .pointer (some ⟨g2, 0, none⟩)), (4, .bool false), (5, .bool r1), (6, vvs1), (7, (.slice (some ⟨g3, 0, none⟩) 6 6)), (8, (.slice (some ⟨g4, 0, none⟩) 6 6)), (9, .int .i64 s2), (14, .bool (!r1)), (19, .bool (decide ((r2.length : Int) ≠ 80)))] ∧ Iv w0 [] μ μ2 [row 3 1 (.slice (some ⟨g4, 0, none⟩) 6 6) ([4, 36, 68, 72, 76, 80] : List Int).length cs3, row 3 1 (.slice (some ⟨g3, 0, none⟩) 6 6) ([0, 4, 36, 68, 72, 76] : List Int).length cs2, cel g2 [[.int .u32 x1.Version], av .u8 32 x1.Prev, av .u8 32 x1.Root, [.int .u32 x1.Time], [.int .u32 x1.Work], [.int .u32 x1.Nonce]] 76, cel g1 [[.int .u32 x0.Version], av .u8 32 x0.Prev, av .u8 32 x0.Root, [.int .u32 x0.Time], [.int .u32 x0.Work], [.int .u32 x0.Nonce]] 76] w) n1 ⟨r2, 0, μ1, v1, hn1, (Store.le.refl _), hS1, (in_lit .i64 0 rfl), hA.sub ⟨rfl, rfl, rfl, rfl, rfl, rfl, rfl, rfl, rfl, rfl, rfl, rfl, trivial⟩, hI⟩ ?_
      clear hA hI
      rintro n a w ⟨s1, s2, μ2, vvs1, hn1, hle2, ws1, ws2, hA, hI⟩
      obtain ⟨m1, rfl, H⟩ := loopN_bind hn1
      clear hn1
      refine w_seq fun _ hN14 => ?_
      refine w_seq fun _ hN15 => ?_
      refine w_reg ?_
      refine stp hA (r_mv hA rfl) rfl fun a hA => 
        stp hA (r_lss hA rfl rfl) rfl fun a hA => ?_
      refine o_nil ?_
      refine hN15 _ _ ?_
      refine w_cond hA rfl (fun hc3 => ?_) (fun hc3 => ?_)
      · have hc30 := hc3; have hc3 := of_decide_eq_true hc3; have H := bT H hc3
        refine w_skip ?_
        refine hN14 _ _ ?_
        refine w_seq fun _ hN16 => ?_
        refine w_block ?_
        refine w_seq fun _ hN17 => ?_
        refine w_reg ?_
        refine stp hA (r_ldA (j := 3) [] [[.int .u32 x0.Version], av .u8 32 x0.Prev, av .u8 32 x0.Root, [.int .u32 x0.Time], [.int .u32 x0.Work], [.int .u32 x0.Nonce]] [] Try.underlying76 rfl sz76 rfl hI rfl hA rfl rfl) rfl fun a hA => 
          o_new [[.int .u32 0], av .u8 32 (List.replicate 32 0), av .u8 32 (List.replicate 32 0), [.int .u32 0], [.int .u32 0], [.int .u32 0]] zr76 hI hA rfl fun g5 a w hA hI hg5 => 
          o_st (j := 0) [] [[.int .u32 0], av .u8 32 (List.replicate 32 0), av .u8 32 (List.replicate 32 0), [.int .u32 0], [.int .u32 0], [.int .u32 0]] [[.int .u32 x0.Version], av .u8 32 x0.Prev, av .u8 32 x0.Root, [.int .u32 x0.Time], [.int .u32 x0.Work], [.int .u32 x0.Nonce]] [] sz76 rfl rfl (fl_cons (one_one rfl) (fl_cons (one_av _ _ _) (fl_cons (one_av _ _ _) (fl_cons (one_one rfl) (fl_cons (one_one rfl) (fl_cons (one_one rfl) fl_nil)))))) hI rfl hA rfl rfl rfl rfl fun w hI => ?_
        refine o_nil ?_
        refine hN17 _ _ ?_
        obtain ⟨⟨c1, c2, c3, c4, c5, c6⟩, hz4, Hk2⟩ := bB H
        refine w_cut (fun a w => InR .u32 c1 ∧ Arr .u8 32 c2 ∧ Arr .u8 32 c3 ∧ InR .u32 c4 ∧ InR .u32 c5 ∧ InR .u32 c6 ∧ Fr a 144 [(0, .agg [[.int .u32 x0.Version], av .u8 32 x0.Prev, av .u8 32 x0.Root, [.int .u32 x0.Time], [.int .u32 x0.Work], [.int .u32 x0.Nonce]].flatten.toArray), (1, .agg [[.int .u32 x1.Version], av .u8 32 x1.Prev, av .u8 32 x1.Root, [.int .u32 x1.Time], [.int .u32 x1.Work], [.int .u32 x1.Nonce]].flatten.toArray), (2, .pointer (some ⟨g1, 0, none⟩)), (3, .pointer (some ⟨g2, 0, none⟩)), (4, .bool false), (5, .bool r1), (6, vvs1), (7, (.slice (some ⟨g3, 0, none⟩) 6 6)), (8, (.slice (some ⟨g4, 0, none⟩) 6 6)), (9, .int .i64 s2), (10, .pointer (some ⟨g5, 0, none⟩)), (14, .bool (!r1)), (19, .bool (decide ((r2.length : Int) ≠ 80))), (23, .bool (decide (s2 < 6)))] ∧ Iv w0 [] μ μ2 [cel g5 [[.int .u32 c1], av .u8 32 c2, av .u8 32 c3, [.int .u32 c4], [.int .u32 c5], [.int .u32 c6]] 76, row 3 1 (.slice (some ⟨g4, 0, none⟩) 6 6) ([4, 36, 68, 72, 76, 80] : List Int).length cs3, row 3 1 (.slice (some ⟨g3, 0, none⟩) 6 6) ([0, 4, 36, 68, 72, 76] : List Int).length cs2, cel g2 [[.int .u32 x1.Version], av .u8 32 x1.Prev, av .u8 32 x1.Root, [.int .u32 x1.Time], [.int .u32 x1.Work], [.int .u32 x1.Nonce]] 76, cel g1 [[.int .u32 x0.Version], av .u8 32 x0.Prev, av .u8 32 x0.Root, [.int .u32 x0.Time], [.int .u32 x0.Work], [.int .u32 x0.Nonce]] 76] w) ?_ ?_
        · have H := bI hz4
          refine w_seq fun _ hN18 => ?_
          refine w_reg ?_
          refine stp hA (r_mv hA rfl) rfl fun a hA => ?_
          refine o_nil ?_
          refine hN18 _ _ ?_
          refine w_block ?_
          refine w_seq fun _ hN19 => ?_
          refine w_reg ?_
          refine stp hA (r_eql hA rfl rfl) rfl fun a hA => 
            stp hA (r_as hA rfl) rfl fun a hA => ?_
          refine o_nil ?_
          refine hN19 _ _ ?_
          refine w_cond hA rfl (fun hc4 => ?_) (fun hc4 => ?_)
          · have hc40 := hc4; have hc4 := of_decide_eq_true hc4; have H := bT H hc4
            refine w_reg ?_
            refine stp hA (r_fd (k := 0) Try.underlying76 rfl sz25 hA rfl rfl) rfl fun a hA => 
              stp hA (r_ld1 (j := 3) [] [av .u8 32 x1.Prev, av .u8 32 x1.Root, [.int .u32 x1.Time], [.int .u32 x1.Work], [.int .u32 x1.Nonce]] Try.underlying25 rfl hI rfl hA rfl rfl) rfl fun a hA => 
              stp hA (r_fd (k := 0) Try.underlying76 rfl sz25 hA rfl rfl) rfl fun a hA => 
              o_st (j := 0) [] [[.int .u32 x0.Version]] [[.int .u32 x1.Version]] [av .u8 32 x0.Prev, av .u8 32 x0.Root, [.int .u32 x0.Time], [.int .u32 x0.Work], [.int .u32 x0.Nonce]] sz25 rfl rfl (fl_cons (one_one rfl) fl_nil) hI rfl hA rfl rfl rfl rfl fun w hI => ?_
            refine o_nil ?_
            cases Option.some.inj (bS H)
            exact ⟨hx1.1, hx0.2.1, hx0.2.2.1, hx0.2.2.2.1, hx0.2.2.2.2.1, hx0.2.2.2.2.2, hA.sub ⟨rfl, rfl, rfl, rfl, rfl, rfl, rfl, rfl, rfl, rfl, rfl, rfl, rfl, rfl, trivial⟩, hI⟩
          · have hc40 := hc4; have hc4 := of_decide_eq_false hc4; have H := bF H hc4
            refine w_seq fun _ hN20 => ?_
            refine w_reg ?_
            refine stp hA (r_eql hA rfl rfl) rfl fun a hA => 
              stp hA (r_as hA rfl) rfl fun a hA => ?_
            refine o_nil ?_
            refine hN20 _ _ ?_
            refine w_cond hA rfl (fun hc5 => ?_) (fun hc5 => ?_)
            · have hc50 := hc5; have hc5 := of_decide_eq_true hc5; have H := bT H hc5
              refine w_reg ?_
              refine stp hA (r_fd (k := 1) Try.underlying76 rfl sz33 hA rfl rfl) rfl fun a hA => 
                stp hA (r_ldA (j := 3) [[.int .u32 x1.Version]] [av .u8 32 x1.Prev] [av .u8 32 x1.Root, [.int .u32 x1.Time], [.int .u32 x1.Work], [.int .u32 x1.Nonce]] Try.underlying33 rfl sz33 rfl hI rfl hA rfl rfl) rfl fun a hA => 
                stp hA (r_fd (k := 1) Try.underlying76 rfl sz33 hA rfl rfl) rfl fun a hA => 
                o_st (j := 0) [[.int .u32 x0.Version]] [av .u8 32 x0.Prev] [av .u8 32 x1.Prev] [av .u8 32 x0.Root, [.int .u32 x0.Time], [.int .u32 x0.Work], [.int .u32 x0.Nonce]] sz33 rfl rfl (fl_cons (one_av _ _ _) fl_nil) hI rfl hA rfl rfl rfl rfl fun w hI => ?_
              refine o_nil ?_
              cases Option.some.inj (bS H)
              exact ⟨hx0.1, hx1.2.1, hx0.2.2.1, hx0.2.2.2.1, hx0.2.2.2.2.1, hx0.2.2.2.2.2, hA.sub ⟨rfl, rfl, rfl, rfl, rfl, rfl, rfl, rfl, rfl, rfl, rfl, rfl, rfl, rfl, trivial⟩, hI⟩
            · have hc50 := hc5; have hc5 := of_decide_eq_false hc5; have H := bF H hc5
              refine w_seq fun _ hN21 => ?_
              refine w_reg ?_
              refine stp hA (r_eql hA rfl rfl) rfl fun a hA => 
                stp hA (r_as hA rfl) rfl fun a hA => ?_
              refine o_nil ?_
              refine hN21 _ _ ?_
              refine w_cond hA rfl (fun hc6 => ?_) (fun hc6 => ?_)
              · have hc60 := hc6; have hc6 := of_decide_eq_true hc6; have H := bT H hc6
                refine w_reg ?_
                refine stp hA (r_fd (k := 33) Try.underlying76 rfl sz33 hA rfl rfl) rfl fun a hA => 
                  stp hA (r_ldA (j := 3) [[.int .u32 x1.Version], av .u8 32 x1.Prev] [av .u8 32 x1.Root] [[.int .u32 x1.Time], [.int .u32 x1.Work], [.int .u32 x1.Nonce]] Try.underlying33 rfl sz33 rfl hI rfl hA rfl rfl) rfl fun a hA => 
                  stp hA (r_fd (k := 33) Try.underlying76 rfl sz33 hA rfl rfl) rfl fun a hA => 
                  o_st (j := 0) [[.int .u32 x0.Version], av .u8 32 x0.Prev] [av .u8 32 x0.Root] [av .u8 32 x1.Root] [[.int .u32 x0.Time], [.int .u32 x0.Work], [.int .u32 x0.Nonce]] sz33 rfl rfl (fl_cons (one_av _ _ _) fl_nil) hI rfl hA rfl rfl rfl rfl fun w hI => ?_
                refine o_nil ?_
                cases Option.some.inj (bS H)
                exact ⟨hx0.1, hx0.2.1, hx1.2.2.1, hx0.2.2.2.1, hx0.2.2.2.2.1, hx0.2.2.2.2.2, hA.sub ⟨rfl, rfl, rfl, rfl, rfl, rfl, rfl, rfl, rfl, rfl, rfl, rfl, rfl, rfl, trivial⟩, hI⟩
              · have hc60 := hc6; have hc6 := of_decide_eq_false hc6; have H := bF H hc6
                refine w_seq fun _ hN22 => ?_
                refine w_reg ?_
                refine stp hA (r_eql hA rfl rfl) rfl fun a hA => 
                  stp hA (r_as hA rfl) rfl fun a hA => ?_
                refine o_nil ?_
                refine hN22 _ _ ?_
                refine w_cond hA rfl (fun hc7 => ?_) (fun hc7 => ?_)
                · have hc70 := hc7; have hc7 := of_decide_eq_true hc7; have H := bT H hc7
                  refine w_reg ?_
                  refine stp hA (r_fd (k := 65) Try.underlying76 rfl sz25 hA rfl rfl) rfl fun a hA => 
                    stp hA (r_ld1 (j := 3) [[.int .u32 x1.Version], av .u8 32 x1.Prev, av .u8 32 x1.Root] [[.int .u32 x1.Work], [.int .u32 x1.Nonce]] Try.underlying25 rfl hI rfl hA rfl rfl) rfl fun a hA => 
                    stp hA (r_fd (k := 65) Try.underlying76 rfl sz25 hA rfl rfl) rfl fun a hA => 
                    o_st (j := 0) [[.int .u32 x0.Version], av .u8 32 x0.Prev, av .u8 32 x0.Root] [[.int .u32 x0.Time]] [[.int .u32 x1.Time]] [[.int .u32 x0.Work], [.int .u32 x0.Nonce]] sz25 rfl rfl (fl_cons (one_one rfl) fl_nil) hI rfl hA rfl rfl rfl rfl fun w hI => ?_
                  refine o_nil ?_
                  cases Option.some.inj (bS H)
                  exact ⟨hx0.1, hx0.2.1, hx0.2.2.1, hx1.2.2.2.1, hx0.2.2.2.2.1, hx0.2.2.2.2.2, hA.sub ⟨rfl, rfl, rfl, rfl, rfl, rfl, rfl, rfl, rfl, rfl, rfl, rfl, rfl, rfl, trivial⟩, hI⟩
                · have hc70 := hc7; have hc7 := of_decide_eq_false hc7; have H := bF H hc7
                  refine w_seq fun _ hN23 => ?_
                  refine w_reg ?_
                  refine stp hA (r_eql hA rfl rfl) rfl fun a hA => 
                    stp hA (r_as hA rfl) rfl fun a hA => ?_
                  refine o_nil ?_
                  refine hN23 _ _ ?_
                  refine w_cond hA rfl (fun hc8 => ?_) (fun hc8 => ?_)
                  · have hc80 := hc8; have hc8 := of_decide_eq_true hc8; have H := bT H hc8
                    refine w_reg ?_
                    refine stp hA (r_fd (k := 66) Try.underlying76 rfl sz25 hA rfl rfl) rfl fun a hA => 
                      stp hA (r_ld1 (j := 3) [[.int .u32 x1.Version], av .u8 32 x1.Prev, av .u8 32 x1.Root, [.int .u32 x1.Time]] [[.int .u32 x1.Nonce]] Try.underlying25 rfl hI rfl hA rfl rfl) rfl fun a hA => 
                      stp hA (r_fd (k := 66) Try.underlying76 rfl sz25 hA rfl rfl) rfl fun a hA => 
                      o_st (j := 0) [[.int .u32 x0.Version], av .u8 32 x0.Prev, av .u8 32 x0.Root, [.int .u32 x0.Time]] [[.int .u32 x0.Work]] [[.int .u32 x1.Work]] [[.int .u32 x0.Nonce]] sz25 rfl rfl (fl_cons (one_one rfl) fl_nil) hI rfl hA rfl rfl rfl rfl fun w hI => ?_
                    refine o_nil ?_
                    cases Option.some.inj (bS H)
                    exact ⟨hx0.1, hx0.2.1, hx0.2.2.1, hx0.2.2.2.1, hx1.2.2.2.2.1, hx0.2.2.2.2.2, hA.sub ⟨rfl, rfl, rfl, rfl, rfl, rfl, rfl, rfl, rfl, rfl, rfl, rfl, rfl, rfl, trivial⟩, hI⟩
                  · have hc80 := hc8; have hc8 := of_decide_eq_false hc8; have H := bF H hc8
                    refine w_reg ?_
                    refine stp hA (r_fd (k := 67) Try.underlying76 rfl sz25 hA rfl rfl) rfl fun a hA => 
                      stp hA (r_ld1 (j := 3) [[.int .u32 x1.Version], av .u8 32 x1.Prev, av .u8 32 x1.Root, [.int .u32 x1.Time], [.int .u32 x1.Work]] [] Try.underlying25 rfl hI rfl hA rfl rfl) rfl fun a hA => 
                      stp hA (r_fd (k := 67) Try.underlying76 rfl sz25 hA rfl rfl) rfl fun a hA => 
                      o_st (j := 0) [[.int .u32 x0.Version], av .u8 32 x0.Prev, av .u8 32 x0.Root, [.int .u32 x0.Time], [.int .u32 x0.Work]] [[.int .u32 x0.Nonce]] [[.int .u32 x1.Nonce]] [] sz25 rfl rfl (fl_cons (one_one rfl) fl_nil) hI rfl hA rfl rfl rfl rfl fun w hI => ?_
                    refine o_nil ?_
                    cases Option.some.inj (bS H)
                    exact ⟨hx0.1, hx0.2.1, hx0.2.2.1, hx0.2.2.2.1, hx0.2.2.2.2.1, hx1.2.2.2.2.2, hA.sub ⟨rfl, rfl, rfl, rfl, rfl, rfl, rfl, rfl, rfl, rfl, rfl, rfl, rfl, rfl, trivial⟩, hI⟩
        · rintro a w ⟨wc1, wc2, wc3, wc4, wc5, wc6, hA, hI⟩
          have H := Hk2
          refine w_seq fun _ hN24 => ?_
          refine w_reg ?_
          refine stp hA (r_ldA (j := 0) [] [[.int .u32 c1], av .u8 32 c2, av .u8 32 c3, [.int .u32 c4], [.int .u32 c5], [.int .u32 c6]] [] Try.underlying76 rfl sz76 rfl hI rfl hA rfl rfl) rfl fun a hA => ?_
          obtain ⟨r3, hr3, H⟩ := bB H
          refine o_call _ cf68 hA rfl (head_Bytes.c μ2 _ hI.agr (⟨c1, c2, c3, c4, c5, c6⟩ : Head) ⟨wc1, wc2, wc3, wc4, wc5, wc6⟩ r3 hr3) rfl fun v2 a w hz5 hA => ?_
          obtain ⟨_, cs4, rfl, hE4, hi2⟩ := hz5
          have hI := hI.call hi2
          refine stp hA (r_as hA rfl) rfl fun a hA => ?_
          refine o_nil ?_
          refine hN24 _ _ ?_
          obtain ⟨⟨c7, c8⟩, hz6, Hk3⟩ := bB H
          refine w_cut (fun a w => ∃ (μ3 : Store) (vvc7 : Value), μ2.le μ3 ∧ Slc (RI .u8) 1 μ3 vvc7 c7 ∧ Fr a 144 [(0, .agg [[.int .u32 x0.Version], av .u8 32 x0.Prev, av .u8 32 x0.Root, [.int .u32 x0.Time], [.int .u32 x0.Work], [.int .u32 x0.Nonce]].flatten.toArray), (1, .agg [[.int .u32 x1.Version], av .u8 32 x1.Prev, av .u8 32 x1.Root, [.int .u32 x1.Time], [.int .u32 x1.Work], [.int .u32 x1.Nonce]].flatten.toArray), (2, .pointer (some ⟨g1, 0, none⟩)), (3, .pointer (some ⟨g2, 0, none⟩)), (4, .bool false), (5, .bool r1), (6, vvs1), (7, (.slice (some ⟨g3, 0, none⟩) 6 6)), (8, (.slice (some ⟨g4, 0, none⟩) 6 6)), (9, .int .i64 s2), (10, .pointer (some ⟨g5, 0, none⟩)), (11, vvc7), (14, .bool (!r1)), (19, .bool (decide ((r2.length : Int) ≠ 80))), (23, .bool (decide (s2 < 6))), (114, .bool c8)] ∧ Iv w0 [] μ μ3 [cel g5 [[.int .u32 c1], av .u8 32 c2, av .u8 32 c3, [.int .u32 c4], [.int .u32 c5], [.int .u32 c6]] 76, row 3 1 (.slice (some ⟨g4, 0, none⟩) 6 6) ([4, 36, 68, 72, 76, 80] : List Int).length cs3, row 3 1 (.slice (some ⟨g3, 0, none⟩) 6 6) ([0, 4, 36, 68, 72, 76] : List Int).length cs2, cel g2 [[.int .u32 x1.Version], av .u8 32 x1.Prev, av .u8 32 x1.Root, [.int .u32 x1.Time], [.int .u32 x1.Work], [.int .u32 x1.Nonce]] 76, cel g1 [[.int .u32 x0.Version], av .u8 32 x0.Prev, av .u8 32 x0.Root, [.int .u32 x0.Time], [.int .u32 x0.Work], [.int .u32 x0.Nonce]] 76] w) ?_ ?_
          · have H := bI hz6
            obtain ⟨μ4, hle4, hsv2, hI⟩ := hI.freezeRow 0 rfl
            have hS2 : Slc (RI .u8) 1 μ4 v2 r3 := ⟨_, hE4, hsv2⟩
            refine w_any [] mo hI fun w hI => ?_
            refine g_easy (i := 0) hA rfl rfl (by kernel_rfl) (.inr hI) (fun _ => r_mv hA rfl) rfl fun a hA => ?_
            obtain ⟨_, hsl1⟩ := Slc.sv hS2
            refine g_easy (i := 1) hA rfl rfl (by kernel_rfl) (.inr hI) (fun _ => r_slen Try.underlying22 hsl1 hA rfl) rfl fun a hA => ?_
            refine g_easy (i := 2) hA rfl rfl (by kernel_rfl) (.inr hI) (fun _ => r_neq hA rfl rfl) rfl fun a hA => ?_
            refine g_easy (i := 3) hA rfl rfl (by kernel_rfl) (.inr hI) (fun _ => r_mv hA rfl) rfl fun a hA => ?_
            rcases Bool.eq_false_or_eq_true (decide ((r3.length : Int) ≠ 80)) with hc9 | hc9
            · have hc90 := hc9; have hc9 := of_decide_eq_true hc9; have H := bT H hc9
              refine g_skip (i := 4) hA rfl (wanted_no hA rfl rfl (by rw [hc90]; simp [vb])) (by kernel_rfl) (.inr hI) rfl fun a hA => ?_
              refine g_skip (i := 5) hA rfl (wanted_no hA rfl rfl (by rw [hc90]; simp [vb])) (by kernel_rfl) (.inr hI) rfl fun a hA => ?_
              refine g_skip (i := 6) hA rfl (wanted_no hA rfl rfl (by rw [hc90]; simp [vb])) (by kernel_rfl) (.inr hI) rfl fun a hA => ?_
              refine g_skip (i := 7) hA rfl (wanted_no hA rfl rfl (by rw [hc90]; simp [vb])) (by kernel_rfl) (.inr hI) rfl fun a hA => ?_
              refine g_skip (i := 8) hA rfl (wanted_no hA rfl rfl (by rw [hc90]; simp [vb])) (by kernel_rfl) (.inr hI) rfl fun a hA => ?_
              refine g_skip (i := 9) hA rfl (wanted_no hA rfl rfl (by rw [hc90]; simp [vb])) (by kernel_rfl) (.inr hI) rfl fun a hA => ?_
              refine g_skip (i := 10) hA rfl (wanted_no hA rfl rfl (by rw [hc90]; simp [vb])) (by kernel_rfl) (.inr hI) rfl fun a hA => ?_
              refine g_skip (i := 11) hA rfl (wanted_no hA rfl rfl (by rw [hc90]; simp [vb])) (by kernel_rfl) (.inr hI) rfl fun a hA => ?_
              refine g_skip (i := 12) hA rfl (wanted_no hA rfl rfl (by rw [hc90]; simp [vb])) (by kernel_rfl) (.inr hI) rfl fun a hA => ?_
              refine g_skip (i := 13) hA rfl (wanted_no hA rfl rfl (by rw [hc90]; simp [vb])) (by kernel_rfl) (.inr hI) rfl fun a hA => ?_
              refine g_skip (i := 14) hA rfl (wanted_no hA rfl rfl (by rw [hc90]; simp [vb])) (by kernel_rfl) (.inr hI) rfl fun a hA => ?_
              refine g_skip (i := 15) hA rfl (wanted_no hA rfl rfl (by rw [hc90]; simp [vb])) (by kernel_rfl) (.inr hI) rfl fun a hA => ?_
              refine g_skip (i := 16) hA rfl (wanted_no hA rfl rfl (by rw [hc90]; simp [vb])) (by kernel_rfl) (.inr hI) rfl fun a hA => ?_
              refine g_skip (i := 17) hA rfl (wanted_no hA rfl rfl (by rw [hc90]; simp [vb])) (by kernel_rfl) (.inr hI) rfl fun a hA => ?_
              refine g_easy (i := 18) hA rfl rfl (by kernel_rfl) (.inr hI) (fun _ => r_pick_t hA rfl hc90 rfl) rfl fun a hA => ?_
              refine g_easy (i := 19) hA rfl rfl (by kernel_rfl) (.inr hI) (fun _ => r_mv hA rfl) rfl fun a hA => ?_
              refine g_skip (i := 20) hA rfl (wanted_no hA rfl rfl (by simp [vb])) (by kernel_rfl) (.inr hI) rfl fun a hA => ?_
              refine g_skip (i := 21) hA rfl (wanted_no hA rfl rfl (by simp [vb])) (by kernel_rfl) (.inr hI) rfl fun a hA => ?_
              refine g_skip (i := 22) hA rfl (wanted_no hA rfl rfl (by simp [vb])) (by kernel_rfl) (.inr hI) rfl fun a hA => ?_
              refine g_skip (i := 23) hA rfl (wanted_no hA rfl rfl (by simp [vb])) (by kernel_rfl) (.inr hI) rfl fun a hA => ?_
              refine g_skip (i := 24) hA rfl (wanted_no hA rfl rfl (by simp [vb])) (by kernel_rfl) (.inr hI) rfl fun a hA => ?_
              refine g_skip (i := 25) hA rfl (wanted_no hA rfl rfl (by simp [vb])) (by kernel_rfl) (.inr hI) rfl fun a hA => ?_
              refine g_skip (i := 26) hA rfl (wanted_no hA rfl rfl (by simp [vb])) (by kernel_rfl) (.inr hI) rfl fun a hA => ?_
              refine g_skip (i := 27) hA rfl (wanted_no hA rfl rfl (by simp [vb])) (by kernel_rfl) (.inr hI) rfl fun a hA => ?_
              refine g_skip (i := 28) hA rfl (wanted_no hA rfl rfl (by simp [vb])) (by kernel_rfl) (.inr hI) rfl fun a hA => ?_
              refine g_skip (i := 29) hA rfl (wanted_no hA rfl rfl (by simp [vb])) (by kernel_rfl) (.inr hI) rfl fun a hA => ?_
              refine g_skip (i := 30) hA rfl (wanted_no hA rfl rfl (by simp [vb])) (by kernel_rfl) (.inr hI) rfl fun a hA => ?_
              refine g_skip (i := 31) hA rfl (wanted_no hA rfl rfl (by simp [vb])) (by kernel_rfl) (.inr hI) rfl fun a hA => ?_
              refine g_skip (i := 32) hA rfl (wanted_no hA rfl rfl (by simp [vb])) (by kernel_rfl) (.inr hI) rfl fun a hA => ?_
              refine g_skip (i := 33) hA rfl (wanted_no hA rfl rfl (by simp [vb])) (by kernel_rfl) (.inr hI) rfl fun a hA => ?_
              refine g_easy (i := 34) hA rfl rfl (by kernel_rfl) (.inr hI) (fun _ => r_pick_t hA rfl rfl rfl) rfl fun a hA => ?_
              refine g_easy (i := 35) hA rfl rfl (by kernel_rfl) (.inr hI) (fun _ => r_mv hA rfl) rfl fun a hA => ?_
              refine g_skip (i := 36) hA rfl (wanted_no hA rfl rfl (by simp [vb])) (by kernel_rfl) (.inr hI) rfl fun a hA => ?_
              refine g_skip (i := 37) hA rfl (wanted_no hA rfl rfl (by simp [vb])) (by kernel_rfl) (.inr hI) rfl fun a hA => ?_
              refine g_skip (i := 39) hA rfl (wanted_no hA rfl rfl (by simp [vb])) (by kernel_rfl) (.inr hI) rfl fun a hA => ?_
              refine g_skip (i := 40) hA rfl (wanted_no hA rfl rfl (by simp [vb])) (by kernel_rfl) (.inr hI) rfl fun a hA => ?_
              refine g_skip (i := 38) hA rfl (wanted_no hA rfl rfl (by simp [vb])) (by kernel_rfl) (.inr hI) rfl fun a hA => ?_
              refine g_skip (i := 41) hA rfl (wanted_no hA rfl rfl (by simp [vb])) (by kernel_rfl) (.inr hI) rfl fun a hA => ?_
              refine g_skip (i := 42) hA rfl (wanted_no hA rfl rfl (by simp [vb])) (by kernel_rfl) (.inr hI) rfl fun a hA => ?_
              refine g_easy (i := 43) hA rfl rfl (by kernel_rfl) (.inr hI) (fun _ => r_pick_t hA rfl rfl rfl) rfl fun a hA => ?_
              refine g_easy (i := 44) hA rfl rfl (by kernel_rfl) (.inr hI) (fun _ => r_mv hA rfl) rfl fun a hA => ?_
              refine g_skip (i := 45) hA rfl (wanted_no hA rfl rfl (by simp [vb])) (by kernel_rfl) (.inr hI) rfl fun a hA => ?_
              refine g_skip (i := 47) hA rfl (wanted_no hA rfl rfl (by simp [vb])) (by kernel_rfl) (.inr hI) rfl fun a hA => ?_
              refine g_skip (i := 50) hA rfl (wanted_no hA rfl rfl (by simp [vb])) (by kernel_rfl) (.inr hI) rfl fun a hA => ?_
              refine g_skip (i := 52) hA rfl (wanted_no hA rfl rfl (by simp [vb])) (by kernel_rfl) (.inr hI) rfl fun a hA => ?_
              refine g_skip (i := 46) hA rfl (wanted_no hA rfl rfl (by simp [vb])) (by kernel_rfl) (.inr hI) rfl fun a hA => ?_
              refine g_skip (i := 48) hA rfl (wanted_no hA rfl rfl (by simp [vb])) (by kernel_rfl) (.inr hI) rfl fun a hA => ?_
              refine g_skip (i := 49) hA rfl (wanted_no hA rfl rfl (by simp [vb])) (by kernel_rfl) (.inr hI) rfl fun a hA => ?_
              refine g_skip (i := 51) hA rfl (wanted_no hA rfl rfl (by simp [vb])) (by kernel_rfl) (.inr hI) rfl fun a hA => ?_
              refine g_skip (i := 53) hA rfl (wanted_no hA rfl rfl (by simp [vb])) (by kernel_rfl) (.inr hI) rfl fun a hA => ?_
              refine g_skip (i := 54) hA rfl (wanted_no hA rfl rfl (by simp [vb])) (by kernel_rfl) (.inr hI) rfl fun a hA => ?_
              refine g_skip (i := 55) hA rfl (wanted_no hA rfl rfl (by simp [vb])) (by kernel_rfl) (.inr hI) rfl fun a hA => ?_
              refine g_easy (i := 56) hA rfl rfl (by kernel_rfl) (.inr hI) (fun _ => r_pick_t hA rfl rfl rfl) rfl fun a hA => ?_
              refine g_nil (by kernel_rfl) ?_
              cases Option.some.inj (bS H)
              exact ⟨μ4, v2, hle4, hS2, hA.sub ⟨rfl, rfl, rfl, rfl, rfl, rfl, rfl, rfl, rfl, rfl, rfl, rfl, rfl, rfl, rfl, rfl, trivial⟩, hI⟩
            · have hc90 := hc9; have hc9 := of_decide_eq_false hc9; have H := bF H hc9
              refine g_easy (i := 4) hA rfl (wanted_yes hA rfl rfl hc90) (by kernel_rfl) (.inr hI) (fun _ => r_mv hA rfl) rfl fun a hA => ?_
              refine g_easy (i := 5) hA rfl (wanted_yes hA rfl rfl hc90) (by kernel_rfl) (.inr hI) (fun _ => r_mv hA rfl) rfl fun a hA => ?_
              refine g_easy (i := 6) hA rfl (wanted_yes hA rfl rfl hc90) (by kernel_rfl) (.inr hI) (fun _ => r_mv hA rfl) rfl fun a hA => ?_
              obtain ⟨hb1, H⟩ := bG H
              refine g_take (i := 7) hA rfl (wanted_yes hA rfl rfl hc90) (by kernel_rfl) hI (fun w hI => r_rix (j := 2) Try.underlying23 sz3 hI rfl hA rfl rfl hb1.1 hb1.2) rfl fun a hA => ?_
              have hq1 := els_get hE2 hb1.1 hb1.2
              refine g_take (i := 8) hA rfl (wanted_yes hA rfl rfl hc90) (by kernel_rfl) hI (fun w hI => r_rld1 (j := 2) Try.underlying3 rfl hI rfl hq1 hA rfl (by simp only [Nat.mul_one])) rfl fun a hA => ?_
              obtain ⟨hb2, H⟩ := bG H
              obtain ⟨v3, hS3, hr4⟩ := r_sl (P := Try.prog) (t := 22) (x := .tmp 62) (l := none) (h := (some (.tmp 66))) (i := 0) (j := ([0, 4, 36, 68, 72, 76] : List Int).getD s2.toNat 0) Try.underlying22 sz5 hS2 hA rfl rfl rfl (by have hq := hb2; omega) (by have hq := hb2; omega) (by have hq := hb2; omega)
              refine g_easy (i := 9) hA rfl (wanted_yes hA rfl rfl hc90) (by kernel_rfl) (.inr hI) (fun _ => hr4 _ _ _ _ _ _) rfl fun a hA => ?_
              refine g_easy (i := 10) hA rfl (wanted_yes hA rfl rfl hc90) (by kernel_rfl) (.inr hI) (fun _ => r_mv hA rfl) rfl fun a hA => ?_
              refine g_easy (i := 11) hA rfl (wanted_yes hA rfl rfl hc90) (by kernel_rfl) (.inr hI) (fun _ => r_mv hA rfl) rfl fun a hA => ?_
              refine g_easy (i := 12) hA rfl (wanted_yes hA rfl rfl hc90) (by kernel_rfl) (.inr hI) (fun _ => r_mv hA rfl) rfl fun a hA => ?_
              refine g_take (i := 13) hA rfl (wanted_yes hA rfl rfl hc90) (by kernel_rfl) hI (fun w hI => r_rix (j := 2) Try.underlying23 sz3 hI rfl hA rfl rfl hb1.1 hb1.2) rfl fun a hA => ?_
              have hq2 := els_get hE2 hb1.1 hb1.2
              refine g_take (i := 14) hA rfl (wanted_yes hA rfl rfl hc90) (by kernel_rfl) hI (fun w hI => r_rld1 (j := 2) Try.underlying3 rfl hI rfl hq2 hA rfl (by simp only [Nat.mul_one])) rfl fun a hA => ?_
              obtain ⟨hb3, H⟩ := bG H
              obtain ⟨v4, hS4, hr5⟩ := r_sl (P := Try.prog) (t := 22) (x := .tmp 68) (l := none) (h := (some (.tmp 72))) (i := 0) (j := ([0, 4, 36, 68, 72, 76] : List Int).getD s2.toNat 0) Try.underlying22 sz5 (Slc.le ws1 (fun _ _ h => h) hle4) hA rfl rfl rfl (by have hq := hb3; omega) (by have hq := hb3; omega) (by have hq := hb3; omega)
              refine g_easy (i := 15) hA rfl (wanted_yes hA rfl rfl hc90) (by kernel_rfl) (.inr hI) (fun _ => hr5 _ _ _ _ _ _) rfl fun a hA => ?_
              refine g_forced (i := 16) rfl (by kernel_rfl) ?_
              refine o_yes hA rfl rfl hc90 <| ?_
              obtain ⟨r4, hr6, H⟩ := bB H
              refine o_callp (u := .bool r4) cf44 hA rfl hI (sargassoref_SameBytes.c μ4 _ hI.agr ((r3.take (([0, 4, 36, 68, 72, 76] : List Int).getD s2.toNat 0).toNat).drop (0 : Int).toNat) v3 hS3 ((s1.take (([0, 4, 36, 68, 72, 76] : List Int).getD s2.toNat 0).toNat).drop (0 : Int).toNat) v4 hS4 r4 hr6) rfl fun a w hz7 hI hA => ?_
              refine o_nil ?_
              refine ⟨(.inr hI), ?_⟩
              refine g_easy (i := 17) hA rfl (wanted_yes hA rfl rfl hc90) (by kernel_rfl) (.inr hI) (fun _ => r_not hA rfl) rfl fun a hA => ?_
              refine g_easy (i := 18) hA rfl rfl (by kernel_rfl) (.inr hI) (fun _ => r_pick_f hA rfl hc90 rfl) rfl fun a hA => ?_
              refine g_easy (i := 19) hA rfl rfl (by kernel_rfl) (.inr hI) (fun _ => r_mv hA rfl) rfl fun a hA => ?_
              rcases Bool.eq_false_or_eq_true (!r4) with hc10 | hc10
              · have hc100 := hc10; have hc10 := nT hc10; have hc10 := ft hc10; have H := bF H hc10
                refine g_skip (i := 20) hA rfl (wanted_no hA rfl rfl (by rw [hc100]; simp [vb])) (by kernel_rfl) (.inr hI) rfl fun a hA => ?_
                refine g_skip (i := 21) hA rfl (wanted_no hA rfl rfl (by rw [hc100]; simp [vb])) (by kernel_rfl) (.inr hI) rfl fun a hA => ?_
                refine g_skip (i := 22) hA rfl (wanted_no hA rfl rfl (by rw [hc100]; simp [vb])) (by kernel_rfl) (.inr hI) rfl fun a hA => ?_
                refine g_skip (i := 23) hA rfl (wanted_no hA rfl rfl (by rw [hc100]; simp [vb])) (by kernel_rfl) (.inr hI) rfl fun a hA => ?_
                refine g_skip (i := 24) hA rfl (wanted_no hA rfl rfl (by rw [hc100]; simp [vb])) (by kernel_rfl) (.inr hI) rfl fun a hA => ?_
                refine g_skip (i := 25) hA rfl (wanted_no hA rfl rfl (by rw [hc100]; simp [vb])) (by kernel_rfl) (.inr hI) rfl fun a hA => ?_
                refine g_skip (i := 26) hA rfl (wanted_no hA rfl rfl (by rw [hc100]; simp [vb])) (by kernel_rfl) (.inr hI) rfl fun a hA => ?_
                refine g_skip (i := 27) hA rfl (wanted_no hA rfl rfl (by rw [hc100]; simp [vb])) (by kernel_rfl) (.inr hI) rfl fun a hA => ?_
                refine g_skip (i := 28) hA rfl (wanted_no hA rfl rfl (by rw [hc100]; simp [vb])) (by kernel_rfl) (.inr hI) rfl fun a hA => ?_
                refine g_skip (i := 29) hA rfl (wanted_no hA rfl rfl (by rw [hc100]; simp [vb])) (by kernel_rfl) (.inr hI) rfl fun a hA => ?_
                refine g_skip (i := 30) hA rfl (wanted_no hA rfl rfl (by rw [hc100]; simp [vb])) (by kernel_rfl) (.inr hI) rfl fun a hA => ?_
                refine g_skip (i := 31) hA rfl (wanted_no hA rfl rfl (by rw [hc100]; simp [vb])) (by kernel_rfl) (.inr hI) rfl fun a hA => ?_
                refine g_skip (i := 32) hA rfl (wanted_no hA rfl rfl (by rw [hc100]; simp [vb])) (by kernel_rfl) (.inr hI) rfl fun a hA => ?_
                refine g_skip (i := 33) hA rfl (wanted_no hA rfl rfl (by rw [hc100]; simp [vb])) (by kernel_rfl) (.inr hI) rfl fun a hA => ?_
                refine g_easy (i := 34) hA rfl rfl (by kernel_rfl) (.inr hI) (fun _ => r_pick_t hA rfl hc100 rfl) rfl fun a hA => ?_
                refine g_easy (i := 35) hA rfl rfl (by kernel_rfl) (.inr hI) (fun _ => r_mv hA rfl) rfl fun a hA => ?_
                refine g_skip (i := 36) hA rfl (wanted_no hA rfl rfl (by simp [vb])) (by kernel_rfl) (.inr hI) rfl fun a hA => ?_
                refine g_skip (i := 37) hA rfl (wanted_no hA rfl rfl (by simp [vb])) (by kernel_rfl) (.inr hI) rfl fun a hA => ?_
                refine g_skip (i := 39) hA rfl (wanted_no hA rfl rfl (by simp [vb])) (by kernel_rfl) (.inr hI) rfl fun a hA => ?_
                refine g_skip (i := 40) hA rfl (wanted_no hA rfl rfl (by simp [vb])) (by kernel_rfl) (.inr hI) rfl fun a hA => ?_
                refine g_skip (i := 38) hA rfl (wanted_no hA rfl rfl (by simp [vb])) (by kernel_rfl) (.inr hI) rfl fun a hA => ?_
                refine g_skip (i := 41) hA rfl (wanted_no hA rfl rfl (by simp [vb])) (by kernel_rfl) (.inr hI) rfl fun a hA => ?_
                refine g_skip (i := 42) hA rfl (wanted_no hA rfl rfl (by simp [vb])) (by kernel_rfl) (.inr hI) rfl fun a hA => ?_
                refine g_easy (i := 43) hA rfl rfl (by kernel_rfl) (.inr hI) (fun _ => r_pick_t hA rfl rfl rfl) rfl fun a hA => ?_
                refine g_easy (i := 44) hA rfl rfl (by kernel_rfl) (.inr hI) (fun _ => r_mv hA rfl) rfl fun a hA => ?_
                refine g_skip (i := 45) hA rfl (wanted_no hA rfl rfl (by simp [vb])) (by kernel_rfl) (.inr hI) rfl fun a hA => ?_
                refine g_skip (i := 47) hA rfl (wanted_no hA rfl rfl (by simp [vb])) (by kernel_rfl) (.inr hI) rfl fun a hA => ?_
                refine g_skip (i := 50) hA rfl (wanted_no hA rfl rfl (by simp [vb])) (by kernel_rfl) (.inr hI) rfl fun a hA => ?_
                refine g_skip (i := 52) hA rfl (wanted_no hA rfl rfl (by simp [vb])) (by kernel_rfl) (.inr hI) rfl fun a hA => ?_
                refine g_skip (i := 46) hA rfl (wanted_no hA rfl rfl (by simp [vb])) (by kernel_rfl) (.inr hI) rfl fun a hA => ?_
                refine g_skip (i := 48) hA rfl (wanted_no hA rfl rfl (by simp [vb])) (by kernel_rfl) (.inr hI) rfl fun a hA => ?_
                refine g_skip (i := 49) hA rfl (wanted_no hA rfl rfl (by simp [vb])) (by kernel_rfl) (.inr hI) rfl fun a hA => ?_
                refine g_skip (i := 51) hA rfl (wanted_no hA rfl rfl (by simp [vb])) (by kernel_rfl) (.inr hI) rfl fun a hA => ?_
                refine g_skip (i := 53) hA rfl (wanted_no hA rfl rfl (by simp [vb])) (by kernel_rfl) (.inr hI) rfl fun a hA => ?_
                refine g_skip (i := 54) hA rfl (wanted_no hA rfl rfl (by simp [vb])) (by kernel_rfl) (.inr hI) rfl fun a hA => ?_
                refine g_skip (i := 55) hA rfl (wanted_no hA rfl rfl (by simp [vb])) (by kernel_rfl) (.inr hI) rfl fun a hA => ?_
                refine g_easy (i := 56) hA rfl rfl (by kernel_rfl) (.inr hI) (fun _ => r_pick_t hA rfl rfl rfl) rfl fun a hA => ?_
                refine g_nil (by kernel_rfl) ?_
                cases Option.some.inj (bS H)
                exact ⟨μ4, v2, hle4, hS2, hA.sub ⟨rfl, rfl, rfl, rfl, rfl, rfl, rfl, rfl, rfl, rfl, rfl, rfl, rfl, rfl, rfl, rfl, trivial⟩, hI⟩
              · have hc100 := hc10; have hc10 := nF hc10; have H := bT H hc10
                refine g_easy (i := 20) hA rfl (wanted_yes hA rfl rfl hc100) (by kernel_rfl) (.inr hI) (fun _ => r_mv hA rfl) rfl fun a hA => ?_
                refine g_easy (i := 21) hA rfl (wanted_yes hA rfl rfl hc100) (by kernel_rfl) (.inr hI) (fun _ => r_mv hA rfl) rfl fun a hA => ?_
                refine g_easy (i := 22) hA rfl (wanted_yes hA rfl rfl hc100) (by kernel_rfl) (.inr hI) (fun _ => r_mv hA rfl) rfl fun a hA => ?_
                obtain ⟨hb4, H⟩ := bG H
                refine g_take (i := 23) hA rfl (wanted_yes hA rfl rfl hc100) (by kernel_rfl) hI (fun w hI => r_rix (j := 1) Try.underlying23 sz3 hI rfl hA rfl rfl hb4.1 hb4.2) rfl fun a hA => ?_
                have hq3 := els_get hE3 hb4.1 hb4.2
                refine g_take (i := 24) hA rfl (wanted_yes hA rfl rfl hc100) (by kernel_rfl) hI (fun w hI => r_rld1 (j := 1) Try.underlying3 rfl hI rfl hq3 hA rfl (by simp only [Nat.mul_one])) rfl fun a hA => ?_
                obtain ⟨hb5, H⟩ := bG H
                obtain ⟨v5, hS5, hr7⟩ := r_sl (P := Try.prog) (t := 22) (x := .tmp 78) (l := (some (.tmp 82))) (h := none) (i := ([4, 36, 68, 72, 76, 80] : List Int).getD s2.toNat 0) (j := (r3.length : Int)) Try.underlying22 sz5 hS2 hA rfl rfl rfl (by have hq := hb5; omega) (by have hq := hb5; omega) (by have hq := hb5; omega)
                refine g_easy (i := 25) hA rfl (wanted_yes hA rfl rfl hc100) (by kernel_rfl) (.inr hI) (fun _ => hr7 _ _ _ _ _ _) rfl fun a hA => ?_
                refine g_easy (i := 26) hA rfl (wanted_yes hA rfl rfl hc100) (by kernel_rfl) (.inr hI) (fun _ => r_mv hA rfl) rfl fun a hA => ?_
                refine g_easy (i := 27) hA rfl (wanted_yes hA rfl rfl hc100) (by kernel_rfl) (.inr hI) (fun _ => r_mv hA rfl) rfl fun a hA => ?_
                refine g_easy (i := 28) hA rfl (wanted_yes hA rfl rfl hc100) (by kernel_rfl) (.inr hI) (fun _ => r_mv hA rfl) rfl fun a hA => ?_
                refine g_take (i := 29) hA rfl (wanted_yes hA rfl rfl hc100) (by kernel_rfl) hI (fun w hI => r_rix (j := 1) Try.underlying23 sz3 hI rfl hA rfl rfl hb4.1 hb4.2) rfl fun a hA => ?_
                have hq4 := els_get hE3 hb4.1 hb4.2
                refine g_take (i := 30) hA rfl (wanted_yes hA rfl rfl hc100) (by kernel_rfl) hI (fun w hI => r_rld1 (j := 1) Try.underlying3 rfl hI rfl hq4 hA rfl (by simp only [Nat.mul_one])) rfl fun a hA => ?_
                obtain ⟨hb6, H⟩ := bG H
                obtain ⟨v6, hS6, hr8⟩ := r_sl (P := Try.prog) (t := 22) (x := .tmp 84) (l := (some (.tmp 88))) (h := none) (i := ([4, 36, 68, 72, 76, 80] : List Int).getD s2.toNat 0) (j := (s1.length : Int)) Try.underlying22 sz5 (Slc.le ws1 (fun _ _ h => h) hle4) hA rfl rfl rfl (by have hq := hb6; omega) (by have hq := hb6; omega) (by have hq := hb6; omega)
                refine g_easy (i := 31) hA rfl (wanted_yes hA rfl rfl hc100) (by kernel_rfl) (.inr hI) (fun _ => hr8 _ _ _ _ _ _) rfl fun a hA => ?_
                refine g_forced (i := 32) rfl (by kernel_rfl) ?_
                refine o_yes hA rfl rfl hc100 <| ?_
                obtain ⟨r5, hr9, H⟩ := bB H
                refine o_callp (u := .bool r5) cf44 hA rfl hI (sargassoref_SameBytes.c μ4 _ hI.agr ((r3.take ((r3.length : Int)).toNat).drop (([4, 36, 68, 72, 76, 80] : List Int).getD s2.toNat 0).toNat) v5 hS5 ((s1.take ((s1.length : Int)).toNat).drop (([4, 36, 68, 72, 76, 80] : List Int).getD s2.toNat 0).toNat) v6 hS6 r5 hr9) rfl fun a w hz8 hI hA => ?_
                refine o_nil ?_
                refine ⟨(.inr hI), ?_⟩
                refine g_easy (i := 33) hA rfl (wanted_yes hA rfl rfl hc100) (by kernel_rfl) (.inr hI) (fun _ => r_not hA rfl) rfl fun a hA => ?_
                refine g_easy (i := 34) hA rfl rfl (by kernel_rfl) (.inr hI) (fun _ => r_pick_f hA rfl hc100 rfl) rfl fun a hA => ?_
                refine g_easy (i := 35) hA rfl rfl (by kernel_rfl) (.inr hI) (fun _ => r_mv hA rfl) rfl fun a hA => ?_
                rcases Bool.eq_false_or_eq_true (!r5) with hc11 | hc11
                · have hc110 := hc11; have hc11 := nT hc11; have hc11 := ft hc11; have H := bF H hc11
                  refine g_skip (i := 36) hA rfl (wanted_no hA rfl rfl (by rw [hc110]; simp [vb])) (by kernel_rfl) (.inr hI) rfl fun a hA => ?_
                  refine g_skip (i := 37) hA rfl (wanted_no hA rfl rfl (by rw [hc110]; simp [vb])) (by kernel_rfl) (.inr hI) rfl fun a hA => ?_
                  refine g_skip (i := 39) hA rfl (wanted_no hA rfl rfl (by rw [hc110]; simp [vb])) (by kernel_rfl) (.inr hI) rfl fun a hA => ?_
                  refine g_skip (i := 40) hA rfl (wanted_no hA rfl rfl (by rw [hc110]; simp [vb])) (by kernel_rfl) (.inr hI) rfl fun a hA => ?_
                  refine g_skip (i := 38) hA rfl (wanted_no hA rfl rfl (by rw [hc110]; simp [vb])) (by kernel_rfl) (.inr hI) rfl fun a hA => ?_
                  refine g_skip (i := 41) hA rfl (wanted_no hA rfl rfl (by rw [hc110]; simp [vb])) (by kernel_rfl) (.inr hI) rfl fun a hA => ?_
                  refine g_skip (i := 42) hA rfl (wanted_no hA rfl rfl (by rw [hc110]; simp [vb])) (by kernel_rfl) (.inr hI) rfl fun a hA => ?_
                  refine g_easy (i := 43) hA rfl rfl (by kernel_rfl) (.inr hI) (fun _ => r_pick_t hA rfl hc110 rfl) rfl fun a hA => ?_
                  refine g_easy (i := 44) hA rfl rfl (by kernel_rfl) (.inr hI) (fun _ => r_mv hA rfl) rfl fun a hA => ?_
                  refine g_skip (i := 45) hA rfl (wanted_no hA rfl rfl (by simp [vb])) (by kernel_rfl) (.inr hI) rfl fun a hA => ?_
                  refine g_skip (i := 47) hA rfl (wanted_no hA rfl rfl (by simp [vb])) (by kernel_rfl) (.inr hI) rfl fun a hA => ?_
                  refine g_skip (i := 50) hA rfl (wanted_no hA rfl rfl (by simp [vb])) (by kernel_rfl) (.inr hI) rfl fun a hA => ?_
                  refine g_skip (i := 52) hA rfl (wanted_no hA rfl rfl (by simp [vb])) (by kernel_rfl) (.inr hI) rfl fun a hA => ?_
                  refine g_skip (i := 46) hA rfl (wanted_no hA rfl rfl (by simp [vb])) (by kernel_rfl) (.inr hI) rfl fun a hA => ?_
                  refine g_skip (i := 48) hA rfl (wanted_no hA rfl rfl (by simp [vb])) (by kernel_rfl) (.inr hI) rfl fun a hA => ?_
                  refine g_skip (i := 49) hA rfl (wanted_no hA rfl rfl (by simp [vb])) (by kernel_rfl) (.inr hI) rfl fun a hA => ?_
                  refine g_skip (i := 51) hA rfl (wanted_no hA rfl rfl (by simp [vb])) (by kernel_rfl) (.inr hI) rfl fun a hA => ?_
                  refine g_skip (i := 53) hA rfl (wanted_no hA rfl rfl (by simp [vb])) (by kernel_rfl) (.inr hI) rfl fun a hA => ?_
                  refine g_skip (i := 54) hA rfl (wanted_no hA rfl rfl (by simp [vb])) (by kernel_rfl) (.inr hI) rfl fun a hA => ?_
                  refine g_skip (i := 55) hA rfl (wanted_no hA rfl rfl (by simp [vb])) (by kernel_rfl) (.inr hI) rfl fun a hA => ?_
                  refine g_easy (i := 56) hA rfl rfl (by kernel_rfl) (.inr hI) (fun _ => r_pick_t hA rfl rfl rfl) rfl fun a hA => ?_
                  refine g_nil (by kernel_rfl) ?_
                  cases Option.some.inj (bS H)
                  exact ⟨μ4, v2, hle4, hS2, hA.sub ⟨rfl, rfl, rfl, rfl, rfl, rfl, rfl, rfl, rfl, rfl, rfl, rfl, rfl, rfl, rfl, rfl, trivial⟩, hI⟩
                · have hc110 := hc11; have hc11 := nF hc11; have H := bT H hc11
                  refine g_easy (i := 36) hA rfl (wanted_yes hA rfl rfl hc110) (by kernel_rfl) (.inr hI) (fun _ => r_mv hA rfl) rfl fun a hA => ?_
                  refine g_easy (i := 37) hA rfl (wanted_yes hA rfl rfl hc110) (by kernel_rfl) (.inr hI) (fun _ => r_mv hA rfl) rfl fun a hA => ?_
                  refine g_take (i := 39) hA rfl (wanted_yes hA rfl rfl hc110) (by kernel_rfl) hI (fun w hI => r_ldA (j := 0) [] [[.int .u32 c1], av .u8 32 c2, av .u8 32 c3, [.int .u32 c4], [.int .u32 c5], [.int .u32 c6]] [] Try.underlying76 rfl sz76 rfl hI rfl hA rfl rfl) rfl fun a hA => ?_
                  refine g_take (i := 40) hA rfl (wanted_yes hA rfl rfl hc110) (by kernel_rfl) hI (fun w hI => r_ldA (j := 4) [] [[.int .u32 x0.Version], av .u8 32 x0.Prev, av .u8 32 x0.Root, [.int .u32 x0.Time], [.int .u32 x0.Work], [.int .u32 x0.Nonce]] [] Try.underlying76 rfl sz76 rfl hI rfl hA rfl rfl) rfl fun a hA => ?_
                  refine g_forced (i := 38) rfl (by kernel_rfl) ?_
                  refine o_yes hA rfl rfl hc110 <| ?_
                  obtain ⟨r6, hr10, H⟩ := bB H
                  refine o_callp (u := .bool r6) cf44 hA rfl hI (sargassoref_SameBytes.c μ4 _ hI.agr r3 v2 hS2 s1 vvs1 (Slc.le ws1 (fun _ _ h => h) hle4) r6 hr10) rfl fun a w hz9 hI hA => ?_
                  refine o_nil ?_
                  refine ⟨(.inr hI), ?_⟩
                  refine g_forced (i := 41) rfl (by kernel_rfl) ?_
                  refine o_yes hA rfl rfl hc110 <| ?_
                  obtain ⟨r7, hr11, H⟩ := bB H
                  refine o_callp (u := .bool r7) cf69 hA rfl hI (sargassoref_SameHead.c μ4 _ hI.agr (⟨c1, c2, c3, c4, c5, c6⟩ : Head) ⟨wc1, wc2, wc3, wc4, wc5, wc6⟩ x0 ⟨hx0.1, hx0.2.1, hx0.2.2.1, hx0.2.2.2.1, hx0.2.2.2.2.1, hx0.2.2.2.2.2⟩ r7 hr11) rfl fun a w hz10 hI hA => ?_
                  refine o_nil ?_
                  refine ⟨(.inr hI), ?_⟩
                  refine g_easy (i := 42) hA rfl (wanted_yes hA rfl rfl hc110) (by kernel_rfl) (.inr hI) (fun _ => r_neqb Try.underlying4 hA rfl rfl) rfl fun a hA => ?_
                  refine g_easy (i := 43) hA rfl rfl (by kernel_rfl) (.inr hI) (fun _ => r_pick_f hA rfl hc110 rfl) rfl fun a hA => ?_
                  refine g_easy (i := 44) hA rfl rfl (by kernel_rfl) (.inr hI) (fun _ => r_mv hA rfl) rfl fun a hA => ?_
                  rcases Bool.eq_false_or_eq_true (decide (r6 ≠ r7)) with hc12 | hc12
                  · have hc120 := hc12; have hc12 := of_decide_eq_true hc12; have H := bT H hc12
                    refine g_skip (i := 45) hA rfl (wanted_no hA rfl rfl (by rw [hc120]; simp [vb])) (by kernel_rfl) (.inr hI) rfl fun a hA => ?_
                    refine g_skip (i := 47) hA rfl (wanted_no hA rfl rfl (by rw [hc120]; simp [vb])) (by kernel_rfl) (.inr hI) rfl fun a hA => ?_
                    refine g_skip (i := 50) hA rfl (wanted_no hA rfl rfl (by rw [hc120]; simp [vb])) (by kernel_rfl) (.inr hI) rfl fun a hA => ?_
                    refine g_skip (i := 52) hA rfl (wanted_no hA rfl rfl (by rw [hc120]; simp [vb])) (by kernel_rfl) (.inr hI) rfl fun a hA => ?_
                    refine g_skip (i := 46) hA rfl (wanted_no hA rfl rfl (by rw [hc120]; simp [vb])) (by kernel_rfl) (.inr hI) rfl fun a hA => ?_
                    refine g_skip (i := 48) hA rfl (wanted_no hA rfl rfl (by rw [hc120]; simp [vb])) (by kernel_rfl) (.inr hI) rfl fun a hA => ?_
                    refine g_skip (i := 49) hA rfl (wanted_no hA rfl rfl (by rw [hc120]; simp [vb])) (by kernel_rfl) (.inr hI) rfl fun a hA => ?_
                    refine g_skip (i := 51) hA rfl (wanted_no hA rfl rfl (by rw [hc120]; simp [vb])) (by kernel_rfl) (.inr hI) rfl fun a hA => ?_
                    refine g_skip (i := 53) hA rfl (wanted_no hA rfl rfl (by rw [hc120]; simp [vb])) (by kernel_rfl) (.inr hI) rfl fun a hA => ?_
                    refine g_skip (i := 54) hA rfl (wanted_no hA rfl rfl (by rw [hc120]; simp [vb])) (by kernel_rfl) (.inr hI) rfl fun a hA => ?_
                    refine g_skip (i := 55) hA rfl (wanted_no hA rfl rfl (by rw [hc120]; simp [vb])) (by kernel_rfl) (.inr hI) rfl fun a hA => ?_
                    refine g_easy (i := 56) hA rfl rfl (by kernel_rfl) (.inr hI) (fun _ => r_pick_t hA rfl hc120 rfl) rfl fun a hA => ?_
                    refine g_nil (by kernel_rfl) ?_
                    cases Option.some.inj (bS H)
                    exact ⟨μ4, v2, hle4, hS2, hA.sub ⟨rfl, rfl, rfl, rfl, rfl, rfl, rfl, rfl, rfl, rfl, rfl, rfl, rfl, rfl, rfl, rfl, trivial⟩, hI⟩
                  · have hc120 := hc12; have hc12 := of_decide_eq_false hc12; have H := bF H hc12
                    refine g_take (i := 45) hA rfl (wanted_yes hA rfl rfl hc120) (by kernel_rfl) hI (fun w hI => r_ldA (j := 0) [] [[.int .u32 c1], av .u8 32 c2, av .u8 32 c3, [.int .u32 c4], [.int .u32 c5], [.int .u32 c6]] [] Try.underlying76 rfl sz76 rfl hI rfl hA rfl rfl) rfl fun a hA => ?_
                    refine g_take (i := 47) hA rfl (wanted_yes hA rfl rfl hc120) (by kernel_rfl) hI (fun w hI => r_ldA (j := 4) [] [[.int .u32 x0.Version], av .u8 32 x0.Prev, av .u8 32 x0.Root, [.int .u32 x0.Time], [.int .u32 x0.Work], [.int .u32 x0.Nonce]] [] Try.underlying76 rfl sz76 rfl hI rfl hA rfl rfl) rfl fun a hA => ?_
                    refine g_take (i := 50) hA rfl (wanted_yes hA rfl rfl hc120) (by kernel_rfl) hI (fun w hI => r_ldA (j := 4) [] [[.int .u32 x0.Version], av .u8 32 x0.Prev, av .u8 32 x0.Root, [.int .u32 x0.Time], [.int .u32 x0.Work], [.int .u32 x0.Nonce]] [] Try.underlying76 rfl sz76 rfl hI rfl hA rfl rfl) rfl fun a hA => ?_
                    refine g_take (i := 52) hA rfl (wanted_yes hA rfl rfl hc120) (by kernel_rfl) hI (fun w hI => r_ldA (j := 0) [] [[.int .u32 c1], av .u8 32 c2, av .u8 32 c3, [.int .u32 c4], [.int .u32 c5], [.int .u32 c6]] [] Try.underlying76 rfl sz76 rfl hI rfl hA rfl rfl) rfl fun a hA => ?_
                    refine g_forced (i := 46) rfl (by kernel_rfl) ?_
                    refine o_yes hA rfl rfl hc120 <| ?_
                    obtain ⟨r8, hr12, H⟩ := bB H
                    refine o_callp (u := .agg [av .u8 32 r8].flatten.toArray) cf70 hA rfl hI (head_ID.c μ4 _ hI.agr (⟨c1, c2, c3, c4, c5, c6⟩ : Head) ⟨wc1, wc2, wc3, wc4, wc5, wc6⟩ r8 hr12) rfl fun a w hz11 hI hA => ?_
                    refine o_nil ?_
                    refine ⟨(.inr hI), ?_⟩
                    refine g_forced (i := 48) rfl (by kernel_rfl) ?_
                    refine o_yes hA rfl rfl hc120 <| ?_
                    obtain ⟨r9, hr13, H⟩ := bB H
                    refine o_callp (u := .agg [av .u8 32 r9].flatten.toArray) cf70 hA rfl hI (head_ID.c μ4 _ hI.agr x0 ⟨hx0.1, hx0.2.1, hx0.2.2.1, hx0.2.2.2.1, hx0.2.2.2.2.1, hx0.2.2.2.2.2⟩ r9 hr13) rfl fun a w hz12 hI hA => ?_
                    refine o_nil ?_
                    refine ⟨(.inr hI), ?_⟩
                    refine g_forced (i := 49) rfl (by kernel_rfl) ?_
                    refine o_yes hA rfl rfl hc120 <| ?_
                    obtain ⟨r10, hr14, H⟩ := bB H
                    refine o_callp (u := .bool r10) cf28 hA rfl hI (sargassoref_SameHash.c μ4 _ hI.agr r8 hz11 r9 hz12 r10 hr14) rfl fun a w hz13 hI hA => ?_
                    refine o_nil ?_
                    refine ⟨(.inr hI), ?_⟩
                    refine g_forced (i := 51) rfl (by kernel_rfl) ?_
                    refine o_yes hA rfl rfl hc120 <| ?_
                    obtain ⟨r11, hr15, H⟩ := bB H
                    refine o_callp (u := .agg [av .u8 32 r11].flatten.toArray) cf70 hA rfl hI (head_ID.c μ4 _ hI.agr x0 ⟨hx0.1, hx0.2.1, hx0.2.2.1, hx0.2.2.2.1, hx0.2.2.2.2.1, hx0.2.2.2.2.2⟩ r11 hr15) rfl fun a w hz14 hI hA => ?_
                    refine o_nil ?_
                    refine ⟨(.inr hI), ?_⟩
                    refine g_forced (i := 53) rfl (by kernel_rfl) ?_
                    refine o_yes hA rfl rfl hc120 <| ?_
                    obtain ⟨r12, hr16, H⟩ := bB H
                    refine o_callp (u := .agg [av .u8 32 r12].flatten.toArray) cf70 hA rfl hI (head_ID.c μ4 _ hI.agr (⟨c1, c2, c3, c4, c5, c6⟩ : Head) ⟨wc1, wc2, wc3, wc4, wc5, wc6⟩ r12 hr16) rfl fun a w hz15 hI hA => ?_
                    refine o_nil ?_
                    refine ⟨(.inr hI), ?_⟩
                    refine g_forced (i := 54) rfl (by kernel_rfl) ?_
                    refine o_yes hA rfl rfl hc120 <| ?_
                    obtain ⟨r13, hr17, H⟩ := bB H
                    refine o_callp (u := .bool r13) cf28 hA rfl hI (sargassoref_SameHash.c μ4 _ hI.agr r11 hz14 r12 hz15 r13 hr17) rfl fun a w hz16 hI hA => ?_
                    refine o_nil ?_
                    refine ⟨(.inr hI), ?_⟩
                    refine g_easy (i := 55) hA rfl (wanted_yes hA rfl rfl hc120) (by kernel_rfl) (.inr hI) (fun _ => r_neqb Try.underlying4 hA rfl rfl) rfl fun a hA => ?_
                    refine g_easy (i := 56) hA rfl rfl (by kernel_rfl) (.inr hI) (fun _ => r_pick_f hA rfl hc120 rfl) rfl fun a hA => ?_
                    refine g_nil (by kernel_rfl) ?_
                    cases Option.some.inj (bS H)
                    exact ⟨μ4, v2, hle4, hS2, hA.sub ⟨rfl, rfl, rfl, rfl, rfl, rfl, rfl, rfl, rfl, rfl, rfl, rfl, rfl, rfl, rfl, rfl, trivial⟩, hI⟩
          · rintro a w ⟨μ3, vvc7, hle3, wc7, hA, hI⟩
            have H := Hk3
            refine w_cond hA rfl (fun hc13 => ?_) (fun hc13 => ?_)
            · have hc130 := hc13; have H := bT H hc13
              refine w_seq fun _ hN25 => ?_
              refine w_reg ?_
              refine stp hA (r_as hA rfl) rfl fun a hA => ?_
              refine o_nil ?_
              refine hN25 _ _ ?_
              refine w_ret ?_
              have H : some false = some z1 := H
              obtain rfl := Option.some.inj H
              have H := Hk1
              obtain rfl := Option.some.inj (bS H)
              exact ret1 hA Try.results15 rfl ⟨_, rfl, rfl, trivial, hI.forget0⟩
            · have hc130 := hc13; have hc13 := ft hc13; have H := bF H hc13
              refine w_skip ?_
              refine hN16 _ _ ?_
              refine w_reg ?_
              refine stp hA (r_mv hA rfl) rfl fun a hA => 
                stp hA (r_add hA rfl rfl) rfl fun a hA => 
                stp hA (r_as hA rfl) rfl fun a hA => ?_
              refine o_nil ?_
              exact ⟨m1, Nat.lt_succ_self _, s1, IntKind.i64.wrap (s2 + 1), μ3, vvs1, H, (hle2.trans hle3), (Slc.le ws1 (fun _ _ h => h) hle3), (wrap_in _ _), hA.sub ⟨rfl, rfl, rfl, rfl, rfl, rfl, rfl, rfl, rfl, rfl, rfl, rfl, trivial⟩, (hI.sel [1, 2, 3, 4] (by decide) rfl)⟩
      · have hc30 := hc3; have hc3 := of_decide_eq_false hc3; have H := bF H hc3
        refine w_exit rfl ?_
        refine hN12 _ _ ?_
        obtain ⟨c9, hz17, Hk4⟩ := bB H
        refine w_cut (fun a w => Fr a 144 [(0, .agg [[.int .u32 x0.Version], av .u8 32 x0.Prev, av .u8 32 x0.Root, [.int .u32 x0.Time], [.int .u32 x0.Work], [.int .u32 x0.Nonce]].flatten.toArray), (1, .agg [[.int .u32 x1.Version], av .u8 32 x1.Prev, av .u8 32 x1.Root, [.int .u32 x1.Time], [.int .u32 x1.Work], [.int .u32 x1.Nonce]].flatten.toArray), (2, .pointer (some ⟨g1, 0, none⟩)), (3, .pointer (some ⟨g2, 0, none⟩)), (4, .bool c9), (5, .bool r1), (6, vvs1), (7, (.slice (some ⟨g3, 0, none⟩) 6 6)), (8, (.slice (some ⟨g4, 0, none⟩) 6 6)), (9, .int .i64 s2), (14, .bool (!r1)), (19, .bool (decide ((r2.length : Int) ≠ 80))), (23, .bool (decide (s2 < 6)))] ∧ Iv w0 [] μ μ2 [row 3 1 (.slice (some ⟨g4, 0, none⟩) 6 6) ([4, 36, 68, 72, 76, 80] : List Int).length cs3, row 3 1 (.slice (some ⟨g3, 0, none⟩) 6 6) ([0, 4, 36, 68, 72, 76] : List Int).length cs2, cel g2 [[.int .u32 x1.Version], av .u8 32 x1.Prev, av .u8 32 x1.Root, [.int .u32 x1.Time], [.int .u32 x1.Work], [.int .u32 x1.Nonce]] 76, cel g1 [[.int .u32 x0.Version], av .u8 32 x0.Prev, av .u8 32 x0.Root, [.int .u32 x0.Time], [.int .u32 x0.Work], [.int .u32 x0.Nonce]] 76] w) ?_ ?_
        · have H := bI hz17
          refine w_draw mo (by kernel_rfl) hI ?_
          refine qtp hA (fun _ hI => r_mv hA rfl) rfl fun a hA => 
            qtp hA (fun _ hI => r_mv hA rfl) rfl fun a hA => ?_
          rcases Bool.eq_false_or_eq_true r1 with hc14 | hc14
          · have hc140 := hc14; have H := bT H hc14
            refine q_yes hA rfl rfl hc140 <| 
              qtp hA (fun _ hI => r_mv hA rfl) rfl fun a hA => 
              q_yes hA rfl rfl hc140 <| ?_
            obtain ⟨hb7, H⟩ := bG H
            obtain ⟨_, he1, _, hat1⟩ := Slc.elem1 ws1 (getD_some 0 (by decide) hb7)
            obtain ⟨rfl, hw1⟩ := he1
            obtain ⟨_, hsl2⟩ := Slc.sv ws1
            refine qtp hA (fun _ hI => r_six1 Try.underlying22 sz5 hsl2 hA rfl rfl (by decide) hb7) rfl fun a hA => 
              q_yes hA rfl rfl hc140 <| 
              qtp hA (fun _ hI => r_ldm1 [] [] Try.underlying5 rfl hI.agr hat1 hA rfl rfl) rfl fun a hA => 
              q_yes hA rfl rfl hc140 <| 
              qtp hA (fun _ hI => r_fd (k := 65) Try.underlying76 rfl sz25 hA rfl rfl) rfl fun a hA => 
              q_yes hA rfl rfl hc140 <| 
              qtp hA (fun _ hI => r_ld1 (j := 3) [[.int .u32 x0.Version], av .u8 32 x0.Prev, av .u8 32 x0.Root] [[.int .u32 x0.Work], [.int .u32 x0.Nonce]] Try.underlying25 rfl hI rfl hA rfl rfl) rfl fun a hA => 
              q_yes hA rfl rfl hc140 <| 
              qtp hA (fun _ hI => r_conv Try.underlying25 Try.underlying5 hA rfl) rfl fun a hA => 
              q_yes hA rfl rfl hc140 <| 
              qtp hA (fun _ hI => r_eql hA rfl rfl) rfl fun a hA => 
              qtp hA (fun _ hI => r_pick_t hA rfl hc140 rfl) rfl fun a hA => 
              qtp hA (fun _ hI => r_mv hA rfl) rfl fun a hA => ?_
            rcases Bool.eq_false_or_eq_true (decide ((s1.getD (68 : Int).toNat 0) = (IntKind.u8.wrap x0.Time))) with hc15 | hc15
            · have hc150 := hc15; have hc15 := of_decide_eq_true hc15; have H := bT H hc15
              refine q_yes hA rfl rfl hc150 <| 
                qtp hA (fun _ hI => r_mv hA rfl) rfl fun a hA => 
                q_yes hA rfl rfl hc150 <| ?_
              obtain ⟨hb8, H⟩ := bG H
              obtain ⟨_, he2, _, hat2⟩ := Slc.elem1 ws1 (getD_some 0 (by decide) hb8)
              obtain ⟨rfl, hw2⟩ := he2
              obtain ⟨_, hsl3⟩ := Slc.sv ws1
              refine qtp hA (fun _ hI => r_six1 Try.underlying22 sz5 hsl3 hA rfl rfl (by decide) hb8) rfl fun a hA => 
                q_yes hA rfl rfl hc150 <| 
                qtp hA (fun _ hI => r_ldm1 [] [] Try.underlying5 rfl hI.agr hat2 hA rfl rfl) rfl fun a hA => 
                q_yes hA rfl rfl hc150 <| 
                qtp hA (fun _ hI => r_fd (k := 65) Try.underlying76 rfl sz25 hA rfl rfl) rfl fun a hA => 
                q_yes hA rfl rfl hc150 <| 
                qtp hA (fun _ hI => r_ld1 (j := 3) [[.int .u32 x0.Version], av .u8 32 x0.Prev, av .u8 32 x0.Root] [[.int .u32 x0.Work], [.int .u32 x0.Nonce]] Try.underlying25 rfl hI rfl hA rfl rfl) rfl fun a hA => 
                q_yes hA rfl rfl hc150 <| 
                qtp hA (fun _ hI => r_shr hA rfl rfl (by decide)) rfl fun a hA => 
                q_yes hA rfl rfl hc150 <| 
                qtp hA (fun _ hI => r_conv Try.underlying25 Try.underlying5 hA rfl) rfl fun a hA => 
                q_yes hA rfl rfl hc150 <| 
                qtp hA (fun _ hI => r_eql hA rfl rfl) rfl fun a hA => 
                qtp hA (fun _ hI => r_pick_t hA rfl hc150 rfl) rfl fun a hA => 
                qtp hA (fun _ hI => r_mv hA rfl) rfl fun a hA => ?_
              rcases Bool.eq_false_or_eq_true (decide ((s1.getD (71 : Int).toNat 0) = (IntKind.u8.wrap (sR .u32 x0.Time 24)))) with hc16 | hc16
              · have hc160 := hc16; have hc16 := of_decide_eq_true hc16; have H := bT H hc16
                refine q_yes hA rfl rfl hc160 <| 
                  qtp hA (fun _ hI => r_mv hA rfl) rfl fun a hA => 
                  q_yes hA rfl rfl hc160 <| ?_
                obtain ⟨hb9, H⟩ := bG H
                obtain ⟨_, he3, _, hat3⟩ := Slc.elem1 ws1 (getD_some 0 (by decide) hb9)
                obtain ⟨rfl, hw3⟩ := he3
                obtain ⟨_, hsl4⟩ := Slc.sv ws1
                refine qtp hA (fun _ hI => r_six1 Try.underlying22 sz5 hsl4 hA rfl rfl (by decide) hb9) rfl fun a hA => 
                  q_yes hA rfl rfl hc160 <| 
                  qtp hA (fun _ hI => r_ldm1 [] [] Try.underlying5 rfl hI.agr hat3 hA rfl rfl) rfl fun a hA => 
                  q_yes hA rfl rfl hc160 <| 
                  qtp hA (fun _ hI => r_fd (k := 0) Try.underlying76 rfl sz25 hA rfl rfl) rfl fun a hA => 
                  q_yes hA rfl rfl hc160 <| 
                  qtp hA (fun _ hI => r_ld1 (j := 3) [] [av .u8 32 x0.Prev, av .u8 32 x0.Root, [.int .u32 x0.Time], [.int .u32 x0.Work], [.int .u32 x0.Nonce]] Try.underlying25 rfl hI rfl hA rfl rfl) rfl fun a hA => 
                  q_yes hA rfl rfl hc160 <| 
                  qtp hA (fun _ hI => r_conv Try.underlying25 Try.underlying5 hA rfl) rfl fun a hA => 
                  q_yes hA rfl rfl hc160 <| 
                  qtp hA (fun _ hI => r_eql hA rfl rfl) rfl fun a hA => 
                  qtp hA (fun _ hI => r_pick_t hA rfl hc160 rfl) rfl fun a hA => 
                  qtp hA (fun _ hI => r_as hA rfl) rfl fun a hA => ?_
                refine q_nil fun w hI => ?_
                cases Option.some.inj (bS H)
                exact ⟨hA.sub ⟨rfl, rfl, rfl, rfl, rfl, rfl, rfl, rfl, rfl, rfl, rfl, rfl, rfl, trivial⟩, hI⟩
              · have hc160 := hc16; have hc16 := of_decide_eq_false hc16; have H := bF H hc16
                refine q_no hA rfl rfl (by rw [hc160]; simp [vb]) rfl fun a hA => 
                  q_no hA rfl rfl (by rw [hc160]; simp [vb]) rfl fun a hA => 
                  q_no hA rfl rfl (by rw [hc160]; simp [vb]) rfl fun a hA => 
                  q_no hA rfl rfl (by rw [hc160]; simp [vb]) rfl fun a hA => 
                  q_no hA rfl rfl (by rw [hc160]; simp [vb]) rfl fun a hA => 
                  q_no hA rfl rfl (by rw [hc160]; simp [vb]) rfl fun a hA => 
                  q_no hA rfl rfl (by rw [hc160]; simp [vb]) rfl fun a hA => 
                  qtp hA (fun _ hI => r_pick_f hA rfl hc160 rfl) rfl fun a hA => 
                  qtp hA (fun _ hI => r_as hA rfl) rfl fun a hA => ?_
                refine q_nil fun w hI => ?_
                cases Option.some.inj (bS H)
                exact ⟨hA.sub ⟨rfl, rfl, rfl, rfl, rfl, rfl, rfl, rfl, rfl, rfl, rfl, rfl, rfl, trivial⟩, hI⟩
            · have hc150 := hc15; have hc15 := of_decide_eq_false hc15; have H := bF H hc15
              refine q_no hA rfl rfl (by rw [hc150]; simp [vb]) rfl fun a hA => 
                q_no hA rfl rfl (by rw [hc150]; simp [vb]) rfl fun a hA => 
                q_no hA rfl rfl (by rw [hc150]; simp [vb]) rfl fun a hA => 
                q_no hA rfl rfl (by rw [hc150]; simp [vb]) rfl fun a hA => 
                q_no hA rfl rfl (by rw [hc150]; simp [vb]) rfl fun a hA => 
                q_no hA rfl rfl (by rw [hc150]; simp [vb]) rfl fun a hA => 
                q_no hA rfl rfl (by rw [hc150]; simp [vb]) rfl fun a hA => 
                q_no hA rfl rfl (by rw [hc150]; simp [vb]) rfl fun a hA => 
                qtp hA (fun _ hI => r_pick_f hA rfl hc150 rfl) rfl fun a hA => 
                qtp hA (fun _ hI => r_mv hA rfl) rfl fun a hA => 
                q_no hA rfl rfl (by simp [vb]) rfl fun a hA => 
                q_no hA rfl rfl (by simp [vb]) rfl fun a hA => 
                q_no hA rfl rfl (by simp [vb]) rfl fun a hA => 
                q_no hA rfl rfl (by simp [vb]) rfl fun a hA => 
                q_no hA rfl rfl (by simp [vb]) rfl fun a hA => 
                q_no hA rfl rfl (by simp [vb]) rfl fun a hA => 
                q_no hA rfl rfl (by simp [vb]) rfl fun a hA => 
                qtp hA (fun _ hI => r_pick_f hA rfl rfl rfl) rfl fun a hA => 
                qtp hA (fun _ hI => r_as hA rfl) rfl fun a hA => ?_
              refine q_nil fun w hI => ?_
              cases Option.some.inj (bS H)
              exact ⟨hA.sub ⟨rfl, rfl, rfl, rfl, rfl, rfl, rfl, rfl, rfl, rfl, rfl, rfl, rfl, trivial⟩, hI⟩
          · have hc140 := hc14; have hc14 := ft hc14; have H := bF H hc14
            refine q_no hA rfl rfl (by rw [hc140]; simp [vb]) rfl fun a hA => 
              q_no hA rfl rfl (by rw [hc140]; simp [vb]) rfl fun a hA => 
              q_no hA rfl rfl (by rw [hc140]; simp [vb]) rfl fun a hA => 
              q_no hA rfl rfl (by rw [hc140]; simp [vb]) rfl fun a hA => 
              q_no hA rfl rfl (by rw [hc140]; simp [vb]) rfl fun a hA => 
              q_no hA rfl rfl (by rw [hc140]; simp [vb]) rfl fun a hA => 
              q_no hA rfl rfl (by rw [hc140]; simp [vb]) rfl fun a hA => 
              qtp hA (fun _ hI => r_pick_f hA rfl hc140 rfl) rfl fun a hA => 
              qtp hA (fun _ hI => r_mv hA rfl) rfl fun a hA => 
              q_no hA rfl rfl (by simp [vb]) rfl fun a hA => 
              q_no hA rfl rfl (by simp [vb]) rfl fun a hA => 
              q_no hA rfl rfl (by simp [vb]) rfl fun a hA => 
              q_no hA rfl rfl (by simp [vb]) rfl fun a hA => 
              q_no hA rfl rfl (by simp [vb]) rfl fun a hA => 
              q_no hA rfl rfl (by simp [vb]) rfl fun a hA => 
              q_no hA rfl rfl (by simp [vb]) rfl fun a hA => 
              q_no hA rfl rfl (by simp [vb]) rfl fun a hA => 
              qtp hA (fun _ hI => r_pick_f hA rfl rfl rfl) rfl fun a hA => 
              qtp hA (fun _ hI => r_mv hA rfl) rfl fun a hA => 
              q_no hA rfl rfl (by simp [vb]) rfl fun a hA => 
              q_no hA rfl rfl (by simp [vb]) rfl fun a hA => 
              q_no hA rfl rfl (by simp [vb]) rfl fun a hA => 
              q_no hA rfl rfl (by simp [vb]) rfl fun a hA => 
              q_no hA rfl rfl (by simp [vb]) rfl fun a hA => 
              q_no hA rfl rfl (by simp [vb]) rfl fun a hA => 
              q_no hA rfl rfl (by simp [vb]) rfl fun a hA => 
              qtp hA (fun _ hI => r_pick_f hA rfl rfl rfl) rfl fun a hA => 
              qtp hA (fun _ hI => r_as hA rfl) rfl fun a hA => ?_
            refine q_nil fun w hI => ?_
            cases Option.some.inj (bS H)
            exact ⟨hA.sub ⟨rfl, rfl, rfl, rfl, rfl, rfl, rfl, rfl, rfl, rfl, rfl, rfl, rfl, trivial⟩, hI⟩
        · rintro a w ⟨hA, hI⟩
          have H := Hk4
          refine w_ret ?_
          have H : some c9 = some z1 := H
          obtain rfl := Option.some.inj H
          have H := Hk1
          obtain rfl := Option.some.inj (bS H)
          exact ret1 hA Try.results15 rfl ⟨_, rfl, rfl, trivial, hI.forget0⟩
end Go.Proofs.Ytnbnnphlffhgiaa.T
