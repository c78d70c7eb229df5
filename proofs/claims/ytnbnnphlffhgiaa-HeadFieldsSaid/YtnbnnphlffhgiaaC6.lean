/- A helper of this seat's claims: printed by gen.py. It proves no statement by itself. -/
import Derived.Test.YtnbnnphlffhgiaaC5
import Derived.Test.YtnbnnphlffhgiaaF6
import Derived.Test.YtnbnnphlffhgiaaK15
namespace Go.Proofs.Ytnbnnphlffhgiaa.T
open Go Go.Proofs Go.Proofs.Ytnbnnphlffhgiaa.K
set_option linter.unusedVariables false
set_option linter.unusedSimpArgs false
/-! seq.Need: function 81 -/
set_option maxRecDepth 20000 in
theorem seq_Need.c (μ : Store) (w0 : World) (hμ : Agr μ w0) (x0 : Tx) (u0_0 : Value) (u0_1 : Value) (hx0 : TxW μ x0 u0_0 u0_1) (x1 : List Int) (u1 : Value) (hx1 : Slc (RI .i64) 1 μ u1 x1) (x2 : List Int) (u2 : Value) (hx2 : Slc (RI .u32) 1 μ u2 x2) (r : Int × Int × Bool) (H : seq_Need.f x0 x1 x2 = some r) :
    Calls Try.prog 81 [.agg [[.int .u32 x0.Version], [u0_0], [u0_1], [.int .u32 x0.Time]].flatten.toArray, u1, u2].toArray w0 (fun e w' => ∃ v, e = .returned v ∧ v = .tuple #[.int .i64 r.1, .int .i64 r.2.1, .bool r.2.2] ∧ (InR .i64 r.1 ∧ InR .i64 r.2.1 ∧ True) ∧ Iv w0 [] μ μ [] w') := by
  refine enter Try.func81 rfl Try.ntmps81 rfl fun a hA => ?_
  have hI := Iv.start hμ
  have H := bI H
  refine w_seq fun _ hN1 => ?_
  refine w_reg ?_
  refine o_box [[.int .u32 x0.Version], [u0_0], [u0_1], [.int .u32 x0.Time]] hI hA rfl rfl rfl fun g1 a w hA hI hg1 => 
    stp hA (r_as hA rfl) rfl fun a hA => 
    stp hA (r_as hA rfl) rfl fun a hA => 
    stp hA (r_as hA rfl) rfl fun a hA => ?_
  refine o_nil ?_
  refine hN1 _ _ ?_
  refine w_seq fun _ hN2 => ?_
  obtain ⟨c1, hz1, Hk1⟩ := bB H
  refine w_cut (fun a w => Fr a 78 [(0, .agg [[.int .u32 x0.Version], [u0_0], [u0_1], [.int .u32 x0.Time]].flatten.toArray), (1, u1), (2, u2), (3, .pointer (some ⟨g1, 0, none⟩)), (6, .int .i64 0), (7, .int .i64 0), (8, .bool false), (27, .bool c1)] ∧ Iv w0 [] μ μ [cel g1 [[.int .u32 x0.Version], [u0_0], [u0_1], [.int .u32 x0.Time]] 67] w) ?_ ?_
  · have H := bI hz1
    refine w_reg ?_
    refine stp hA (r_mv hA rfl) rfl fun a hA => ?_
    obtain ⟨_, hsl1⟩ := Slc.sv hx1
    refine stp hA (r_slen Try.underlying23 hsl1 hA rfl) rfl fun a hA => 
      stp hA (r_fd (k := 1) Try.underlying67 rfl sz64 hA rfl rfl) rfl fun a hA => 
      stp hA (r_ld1 (j := 0) [[.int .u32 x0.Version]] [[u0_1], [.int .u32 x0.Time]] Try.underlying64 rfl hI rfl hA rfl rfl) rfl fun a hA => ?_
    obtain ⟨_, hsl2⟩ := Slc.sv hx0.2.1
    refine stp hA (r_slen Try.underlying64 hsl2 hA rfl) rfl fun a hA => 
      stp hA (r_neq hA rfl rfl) rfl fun a hA => 
      stp hA (r_mv hA rfl) rfl fun a hA => ?_
    rcases Bool.eq_false_or_eq_true (decide ((x1.length : Int) ≠ (x0.Ins.length : Int))) with hc1 | hc1
    · have hc10 := hc1; have hc1 := of_decide_eq_true hc1; have H := bT H hc1
      refine o_no hA rfl rfl (by rw [hc10]; simp [vb]) rfl fun a hA => 
        o_no hA rfl rfl (by rw [hc10]; simp [vb]) rfl fun a hA => 
        o_no hA rfl rfl (by rw [hc10]; simp [vb]) rfl fun a hA => 
        o_no hA rfl rfl (by rw [hc10]; simp [vb]) rfl fun a hA => 
        o_no hA rfl rfl (by rw [hc10]; simp [vb]) rfl fun a hA => 
        o_no hA rfl rfl (by rw [hc10]; simp [vb]) rfl fun a hA => 
        stp hA (r_pick_t hA rfl hc10 rfl) rfl fun a hA => ?_
      refine o_nil ?_
      cases Option.some.inj (bS H)
      exact ⟨hA.sub ⟨rfl, rfl, rfl, rfl, rfl, rfl, rfl, rfl, trivial⟩, hI⟩
    · have hc10 := hc1; have hc1 := of_decide_eq_false hc1; have H := bF H hc1
      refine o_yes hA rfl rfl hc10 <| 
        stp hA (r_mv hA rfl) rfl fun a hA => 
        o_yes hA rfl rfl hc10 <| ?_
      obtain ⟨_, hsl3⟩ := Slc.sv hx2
      refine stp hA (r_slen Try.underlying94 hsl3 hA rfl) rfl fun a hA => 
        o_yes hA rfl rfl hc10 <| 
        stp hA (r_fd (k := 1) Try.underlying67 rfl sz64 hA rfl rfl) rfl fun a hA => 
        o_yes hA rfl rfl hc10 <| 
        stp hA (r_ld1 (j := 0) [[.int .u32 x0.Version]] [[u0_1], [.int .u32 x0.Time]] Try.underlying64 rfl hI rfl hA rfl rfl) rfl fun a hA => 
        o_yes hA rfl rfl hc10 <| ?_
      obtain ⟨_, hsl4⟩ := Slc.sv hx0.2.1
      refine stp hA (r_slen Try.underlying64 hsl4 hA rfl) rfl fun a hA => 
        o_yes hA rfl rfl hc10 <| 
        stp hA (r_neq hA rfl rfl) rfl fun a hA => 
        stp hA (r_pick_f hA rfl hc10 rfl) rfl fun a hA => ?_
      refine o_nil ?_
      cases Option.some.inj (bS H)
      exact ⟨hA.sub ⟨rfl, rfl, rfl, rfl, rfl, rfl, rfl, rfl, trivial⟩, hI⟩
  · rintro a w ⟨hA, hI⟩
    have H := Hk1
    refine w_cond hA rfl (fun hc2 => ?_) (fun hc2 => ?_)
    · have hc20 := hc2; have H := bT H hc2
      refine w_seq fun _ hN3 => ?_
      refine w_reg ?_
      refine stp hA (r_as hA rfl) rfl fun a hA => 
        stp hA (r_as hA rfl) rfl fun a hA => 
        stp hA (r_as hA rfl) rfl fun a hA => ?_
      refine o_nil ?_
      refine hN3 _ _ ?_
      refine w_ret ?_
      obtain rfl := Option.some.inj (bS H)
      exact ret3 hA Try.results81 rfl rfl rfl ⟨_, rfl, rfl, ⟨(in_lit .i64 0 rfl), (in_lit .i64 0 rfl), trivial⟩, hI.forget0⟩
    · have hc20 := hc2; have hc2 := ft hc2; have H := bF H hc2
      refine w_skip ?_
      refine hN2 _ _ ?_
      refine w_seq fun _ hN4 => ?_
      refine w_reg ?_
      refine stp hA (r_as hA rfl) rfl fun a hA => 
        stp hA (r_as hA rfl) rfl fun a hA => ?_
      refine o_nil ?_
      refine hN4 _ _ ?_
      refine w_seq fun _ hN5 => ?_
      refine w_seq fun _ hN6 => ?_
      refine w_reg ?_
      refine stp hA (r_fd (k := 0) Try.underlying67 rfl sz25 hA rfl rfl) rfl fun a hA => 
        stp hA (r_ld1 (j := 0) [] [[u0_0], [u0_1], [.int .u32 x0.Time]] Try.underlying25 rfl hI rfl hA rfl rfl) rfl fun a hA => 
        stp hA (r_lss hA rfl rfl) rfl fun a hA => ?_
      refine o_nil ?_
      refine hN6 _ _ ?_
      refine w_cond hA rfl (fun hc3 => ?_) (fun hc3 => ?_)
      · have hc30 := hc3; have hc3 := of_decide_eq_true hc3; have H := bT H hc3
        refine w_seq fun _ hN7 => ?_
        refine w_reg ?_
        refine stp hA (r_mv hA rfl) rfl fun a hA => 
          stp hA (r_mv hA rfl) rfl fun a hA => 
          stp hA (r_as hA rfl) rfl fun a hA => 
          stp hA (r_as hA rfl) rfl fun a hA => 
          stp hA (r_as hA rfl) rfl fun a hA => ?_
        refine o_nil ?_
        refine hN7 _ _ ?_
        refine w_ret ?_
        obtain rfl := Option.some.inj (bS H)
        exact ret3 hA Try.results81 rfl rfl rfl ⟨_, rfl, rfl, ⟨(in_lit .i64 (-1) rfl), (in_lit .i64 (-1) rfl), trivial⟩, hI.forget0⟩
      · have hc30 := hc3; have hc3 := of_decide_eq_false hc3; have H := bF H hc3
        refine w_skip ?_
        refine hN5 _ _ ?_
        obtain ⟨⟨c2, c3⟩, hz2, Hk2⟩ := bB H
        refine w_cut (fun a w => InR .i64 c2 ∧ InR .i64 c3 ∧ Fr a 78 [(0, .agg [[.int .u32 x0.Version], [u0_0], [u0_1], [.int .u32 x0.Time]].flatten.toArray), (1, u1), (2, u2), (3, .pointer (some ⟨g1, 0, none⟩)), (6, .int .i64 0), (7, .int .i64 0), (8, .bool false), (9, .int .i64 c2), (10, .int .i64 c3), (27, .bool c1), (30, .bool (decide (x0.Version < 2)))] ∧ Iv w0 [] μ μ [cel g1 [[.int .u32 x0.Version], [u0_0], [u0_1], [.int .u32 x0.Time]] 67] w) ?_ ?_
        · have H := bI hz2
          refine w_seq fun _ hN8 => ?_
          refine w_reg ?_
          refine stp hA (r_fd (k := 1) Try.underlying67 rfl sz64 hA rfl rfl) rfl fun a hA => 
            stp hA (r_ld1 (j := 0) [[.int .u32 x0.Version]] [[u0_1], [.int .u32 x0.Time]] Try.underlying64 rfl hI rfl hA rfl rfl) rfl fun a hA => ?_
          obtain ⟨_, hsl5⟩ := Slc.sv hx0.2.1
          refine stp hA (r_slen Try.underlying64 hsl5 hA rfl) rfl fun a hA => 
            stp hA (r_mv hA rfl) rfl fun a hA => ?_
          refine o_nil ?_
          refine hN8 _ _ ?_
          refine w_block ?_
          obtain ⟨z1, hz3, Hk3⟩ := bind_some H
          obtain ⟨n1, hn1⟩ := loopO_some hz3
          refine w_loop (fun n a w => ∃ (s1 : Int) (s2 : Int) (s3 : Int), loopN (seq_Need.s0 x0 x1 x2) n (s1, s2, s3) = some z1 ∧ InR .i64 s1 ∧ InR .i64 s2 ∧ InR .i64 s3 ∧ Fr a 78 [(0, .agg [[.int .u32 x0.Version], [u0_0], [u0_1], [.int .u32 x0.Time]].flatten.toArray), (1, u1), (2, u2), (3, .pointer (some ⟨g1, 0, none⟩)), (6, .int .i64 0), (7, .int .i64 0), (8, .bool false), (9, .int .i64 s1), (10, .int .i64 s2), (27, .bool c1), (30, .bool (decide (x0.Version < 2))), (34, u0_0), (35, .int .i64 (x0.Ins.length : Int)), (36, .int .i64 s3)] ∧ Iv w0 [] μ μ [cel g1 [[.int .u32 x0.Version], [u0_0], [u0_1], [.int .u32 x0.Time]] 67] w) n1 ⟨(-1), (-1), 0, hn1, (in_lit .i64 (-1) rfl), (in_lit .i64 (-1) rfl), (in_lit .i64 0 rfl), hA.sub ⟨rfl, rfl, rfl, rfl, rfl, rfl, rfl, rfl, rfl, rfl, rfl, rfl, rfl, rfl, trivial⟩, hI⟩ ?_
          clear hA hI
          rintro n a w ⟨s1, s2, s3, hn1, ws1, ws2, ws3, hA, hI⟩
          obtain ⟨m1, rfl, H⟩ := loopN_bind hn1
          clear hn1
          refine w_seq fun _ hN9 => ?_
          refine w_reg ?_
          refine stp hA (r_lss hA rfl rfl) rfl fun a hA => ?_
          refine o_nil ?_
          refine hN9 _ _ ?_
          refine w_seq fun _ hN10 => ?_
          refine w_cond hA rfl (fun hc4 => ?_) (fun hc4 => ?_)
          · have hc40 := hc4; have hc4 := of_decide_eq_true hc4; have H := bT H hc4
            refine w_skip ?_
            refine hN10 _ _ ?_
            obtain ⟨⟨c4, c5⟩, hz4, Hk4⟩ := bB H
            refine w_cut (fun a w => InR .i64 c4 ∧ InR .i64 c5 ∧ Fr a 78 [(0, .agg [[.int .u32 x0.Version], [u0_0], [u0_1], [.int .u32 x0.Time]].flatten.toArray), (1, u1), (2, u2), (3, .pointer (some ⟨g1, 0, none⟩)), (6, .int .i64 0), (7, .int .i64 0), (8, .bool false), (9, .int .i64 c4), (10, .int .i64 c5), (27, .bool c1), (30, .bool (decide (x0.Version < 2))), (34, u0_0), (35, .int .i64 (x0.Ins.length : Int)), (36, .int .i64 s3), (37, .bool (decide (s3 < (x0.Ins.length : Int))))] ∧ Iv w0 [] μ μ [cel g1 [[.int .u32 x0.Version], [u0_0], [u0_1], [.int .u32 x0.Time]] 67] w) ?_ ?_
            · have H := bI hz4
              refine w_block ?_
              refine w_seq fun _ hN11 => ?_
              refine w_reg ?_
              refine stp hA (r_mv hA rfl) rfl fun a hA => ?_
              obtain ⟨hb1, H⟩ := bG H
              obtain ⟨_, he1, _, hat1⟩ := Slc.elem hx0.2.1 (getD_some default hb1.1 hb1.2)
              obtain ⟨v1, rfl, hw1⟩ := he1
              obtain ⟨_, hsl6⟩ := Slc.sv hx0.2.1
              refine stp hA (r_six Try.underlying64 sz71 hsl6 hA rfl rfl hb1.1 hb1.2) rfl fun a hA => 
                stp hA (r_ldmA [] [av .u8 32 ((x0.Ins.getD s3.toNat default).From.Tx), [.int .u32 ((x0.Ins.getD s3.toNat default).From.N)], [v1], [.int .u32 ((x0.Ins.getD s3.toNat default).Seq)]] [] Try.underlying71 rfl sz71 rfl hI.agr hat1 hA rfl rfl) rfl fun a hA => 
                o_new [av .u8 32 (List.replicate 32 0), [.int .u32 0], [(.slice none 0 0)], [.int .u32 0]] zr71 hI hA rfl fun g2 a w hA hI hg2 => 
                stp hA (r_as hA rfl) rfl fun a hA => ?_
              obtain ⟨_, hsl7⟩ := Slc.sv hw1.2.2.1
              refine o_st (j := 0) [] [av .u8 32 (List.replicate 32 0), [.int .u32 0], [(.slice none 0 0)], [.int .u32 0]] [av .u8 32 ((x0.Ins.getD s3.toNat default).From.Tx), [.int .u32 ((x0.Ins.getD s3.toNat default).From.N)], [v1], [.int .u32 ((x0.Ins.getD s3.toNat default).Seq)]] [] sz71 rfl rfl (fl_cons (one_av _ _ _) (fl_cons (one_one rfl) (fl_cons (one_one (one_sl hsl7)) (fl_cons (one_one rfl) fl_nil)))) hI rfl hA rfl rfl rfl rfl fun w hI => ?_
              refine o_nil ?_
              refine hN11 _ _ ?_
              refine w_seq fun _ hN12 => ?_
              refine w_reg ?_
              refine stp hA (r_fd (k := 34) Try.underlying71 rfl sz25 hA rfl rfl) rfl fun a hA => 
                stp hA (r_ld1 (j := 0) [av .u8 32 ((x0.Ins.getD s3.toNat default).From.Tx), [.int .u32 ((x0.Ins.getD s3.toNat default).From.N)], [v1]] [] Try.underlying25 rfl hI rfl hA rfl rfl) rfl fun a hA => 
                stp hA (r_and hA rfl rfl) rfl fun a hA => 
                stp hA (r_conv Try.underlying25 Try.underlying3 hA rfl) rfl fun a hA => 
                stp hA (r_as hA rfl) rfl fun a hA => ?_
              refine o_nil ?_
              refine hN12 _ _ ?_
              refine w_block ?_
              refine w_seq fun _ hN13 => ?_
              refine w_reg ?_
              refine stp hA (r_fd (k := 34) Try.underlying71 rfl sz25 hA rfl rfl) rfl fun a hA => 
                stp hA (r_ld1 (j := 0) [av .u8 32 ((x0.Ins.getD s3.toNat default).From.Tx), [.int .u32 ((x0.Ins.getD s3.toNat default).From.N)], [v1]] [] Try.underlying25 rfl hI rfl hA rfl rfl) rfl fun a hA => 
                stp hA (r_and hA rfl rfl) rfl fun a hA => 
                stp hA (r_neq hA rfl rfl) rfl fun a hA => 
                stp hA (r_as hA rfl) rfl fun a hA => ?_
              refine o_nil ?_
              refine hN13 _ _ ?_
              refine w_cond hA rfl (fun hc5 => ?_) (fun hc5 => ?_)
              · have hc50 := hc5; have hc5 := of_decide_eq_true hc5; have H := bT H hc5
                refine w_skip ?_
                cases Option.some.inj (bS H)
                exact ⟨ws1, ws2, hA.sub ⟨rfl, rfl, rfl, rfl, rfl, rfl, rfl, rfl, rfl, rfl, rfl, rfl, rfl, rfl, rfl, trivial⟩, (hI.sel [1] (by decide) rfl)⟩
              · have hc50 := hc5; have hc5 := of_decide_eq_false hc5; have H := bF H hc5
                refine w_seq fun _ hN14 => ?_
                refine w_reg ?_
                refine stp hA (r_fd (k := 34) Try.underlying71 rfl sz25 hA rfl rfl) rfl fun a hA => 
                  stp hA (r_ld1 (j := 0) [av .u8 32 ((x0.Ins.getD s3.toNat default).From.Tx), [.int .u32 ((x0.Ins.getD s3.toNat default).From.N)], [v1]] [] Try.underlying25 rfl hI rfl hA rfl rfl) rfl fun a hA => 
                  stp hA (r_and hA rfl rfl) rfl fun a hA => 
                  stp hA (r_neq hA rfl rfl) rfl fun a hA => 
                  stp hA (r_as hA rfl) rfl fun a hA => ?_
                refine o_nil ?_
                refine hN14 _ _ ?_
                refine w_cond hA rfl (fun hc6 => ?_) (fun hc6 => ?_)
                · have hc60 := hc6; have hc6 := of_decide_eq_true hc6; have H := bT H hc6
                  refine w_reg ?_
                  refine stp hA (r_mv hA rfl) rfl fun a hA => 
                    stp hA (r_mv hA rfl) rfl fun a hA => 
                    stp hA (r_mv hA rfl) rfl fun a hA => ?_
                  obtain ⟨hb2, H⟩ := bG H
                  obtain ⟨_, he2, _, hat2⟩ := Slc.elem1 hx2 (getD_some 0 hb2.1 hb2.2)
                  obtain ⟨rfl, hw2⟩ := he2
                  obtain ⟨_, hsl8⟩ := Slc.sv hx2
                  refine stp hA (r_six1 Try.underlying94 sz25 hsl8 hA rfl rfl hb2.1 hb2.2) rfl fun a hA => 
                    stp hA (r_ldm1 [] [] Try.underlying25 rfl hI.agr hat2 hA rfl rfl) rfl fun a hA => 
                    stp hA (r_conv Try.underlying25 Try.underlying2 hA rfl) rfl fun a hA => 
                    stp hA (r_mv hA rfl) rfl fun a hA => 
                    stp hA (r_mul hA rfl rfl) rfl fun a hA => 
                    stp hA (r_add hA rfl rfl) rfl fun a hA => 
                    stp hA (r_sub hA rfl rfl) rfl fun a hA => 
                    stp hA (r_max hA rfl rfl) rfl fun a hA => 
                    stp hA (r_as hA rfl) rfl fun a hA => ?_
                  refine o_nil ?_
                  cases Option.some.inj (bS H)
                  exact ⟨ws1, (iMax_in ws2 (wrap_in _ _)), hA.sub ⟨rfl, rfl, rfl, rfl, rfl, rfl, rfl, rfl, rfl, rfl, rfl, rfl, rfl, rfl, rfl, trivial⟩, (hI.sel [1] (by decide) rfl)⟩
                · have hc60 := hc6; have hc6 := of_decide_eq_false hc6; have H := bF H hc6
                  refine w_reg ?_
                  refine stp hA (r_mv hA rfl) rfl fun a hA => 
                    stp hA (r_mv hA rfl) rfl fun a hA => 
                    stp hA (r_mv hA rfl) rfl fun a hA => ?_
                  obtain ⟨hb3, H⟩ := bG H
                  obtain ⟨_, he3, _, hat3⟩ := Slc.elem1 hx1 (getD_some 0 hb3.1 hb3.2)
                  obtain ⟨rfl, hw3⟩ := he3
                  obtain ⟨_, hsl9⟩ := Slc.sv hx1
                  refine stp hA (r_six1 Try.underlying23 sz3 hsl9 hA rfl rfl hb3.1 hb3.2) rfl fun a hA => 
                    stp hA (r_ldm1 [] [] Try.underlying3 rfl hI.agr hat3 hA rfl rfl) rfl fun a hA => 
                    stp hA (r_mv hA rfl) rfl fun a hA => 
                    stp hA (r_add hA rfl rfl) rfl fun a hA => 
                    stp hA (r_sub hA rfl rfl) rfl fun a hA => 
                    stp hA (r_max hA rfl rfl) rfl fun a hA => 
                    stp hA (r_as hA rfl) rfl fun a hA => ?_
                  refine o_nil ?_
                  cases Option.some.inj (bS H)
                  exact ⟨(iMax_in ws1 (wrap_in _ _)), ws2, hA.sub ⟨rfl, rfl, rfl, rfl, rfl, rfl, rfl, rfl, rfl, rfl, rfl, rfl, rfl, rfl, rfl, trivial⟩, (hI.sel [1] (by decide) rfl)⟩
            · rintro a w ⟨wc4, wc5, hA, hI⟩
              have H := Hk4
              refine w_reg ?_
              refine stp hA (r_add hA rfl rfl) rfl fun a hA => 
                stp hA (r_mv hA rfl) rfl fun a hA => ?_
              refine o_nil ?_
              exact ⟨m1, Nat.lt_succ_self _, c4, c5, IntKind.i64.wrap (s3 + 1), H, wc4, wc5, (wrap_in _ _), hA.sub ⟨rfl, rfl, rfl, rfl, rfl, rfl, rfl, rfl, rfl, rfl, rfl, rfl, rfl, rfl, trivial⟩, hI⟩
          · have hc40 := hc4; have hc4 := of_decide_eq_false hc4; have H := bF H hc4
            refine w_exit rfl ?_
            have H : some (s1, s2) = some z1 := H
            obtain rfl := Option.some.inj H
            have H := Hk3
            cases Option.some.inj (bS H)
            exact ⟨ws1, ws2, hA.sub ⟨rfl, rfl, rfl, rfl, rfl, rfl, rfl, rfl, rfl, rfl, rfl, trivial⟩, hI⟩
        · rintro a w ⟨wc2, wc3, hA, hI⟩
          have H := Hk2
          refine w_seq fun _ hN15 => ?_
          refine w_reg ?_
          refine stp hA (r_mv hA rfl) rfl fun a hA => 
            stp hA (r_mv hA rfl) rfl fun a hA => 
            stp hA (r_as hA rfl) rfl fun a hA => 
            stp hA (r_as hA rfl) rfl fun a hA => 
            stp hA (r_as hA rfl) rfl fun a hA => ?_
          refine o_nil ?_
          refine hN15 _ _ ?_
          refine w_ret ?_
          obtain rfl := Option.some.inj (bS H)
          exact ret3 hA Try.results81 rfl rfl rfl ⟨_, rfl, rfl, ⟨wc2, wc3, trivial⟩, hI.forget0⟩

/-! seq.Final$1: function 115 -/
set_option maxRecDepth 20000 in
theorem seq_Final_1.c (μ : Store) (w0 : World) (hμ : Agr μ w0) (x0 : In) (u0_0 : Value) (hx0 : InW μ x0 u0_0) (r : Bool) (H : seq_Final_1.f x0 = some r) :
    Calls Try.prog 115 [.agg [av .u8 32 x0.From.Tx, [.int .u32 x0.From.N], [u0_0], [.int .u32 x0.Seq]].flatten.toArray].toArray w0 (fun e w' => ∃ v, e = .returned v ∧ v = .bool r ∧ True ∧ Iv w0 [] μ μ [] w') := by
  refine enter Try.func115 rfl Try.ntmps115 rfl fun a hA => ?_
  have hI := Iv.start hμ
  have H := bI H
  refine w_seq fun _ hN1 => ?_
  refine w_reg ?_
  refine o_box [av .u8 32 x0.From.Tx, [.int .u32 x0.From.N], [u0_0], [.int .u32 x0.Seq]] hI hA rfl rfl rfl fun g1 a w hA hI hg1 => 
    stp hA (r_as hA rfl) rfl fun a hA => ?_
  refine o_nil ?_
  refine hN1 _ _ ?_
  refine w_seq fun _ hN2 => ?_
  refine w_reg ?_
  refine stp hA (r_fd (k := 34) Try.underlying71 rfl sz25 hA rfl rfl) rfl fun a hA => 
    stp hA (r_ld1 (j := 0) [av .u8 32 x0.From.Tx, [.int .u32 x0.From.N], [u0_0]] [] Try.underlying25 rfl hI rfl hA rfl rfl) rfl fun a hA => 
    stp hA (r_neq hA rfl rfl) rfl fun a hA => 
    stp hA (r_as hA rfl) rfl fun a hA => ?_
  refine o_nil ?_
  refine hN2 _ _ ?_
  refine w_ret ?_
  obtain rfl := Option.some.inj (bS H)
  exact ret1 hA Try.results115 rfl ⟨_, rfl, rfl, trivial, hI.forget0⟩

/-! slices.IndexFunc[[]api.In,api.In]: function 118 -/
set_option maxRecDepth 20000 in
theorem slices_IndexFunc_api_In_api_In_at_seq_Final_1.c (μ : Store) (w0 : World) (hμ : Agr μ w0) (x0 : List In) (u0 : Value) (hx0 : Slc (RIn μ) 35 μ u0 x0) (r : Int) (H : slices_IndexFunc_api_In_api_In_at_seq_Final_1.f x0 = some r) :
    Calls Try.prog 118 [u0, .func (.func 115) #[] #[]].toArray w0 (fun e w' => ∃ v, e = .returned v ∧ v = .int .i64 r ∧ InR .i64 r ∧ Iv w0 [] μ μ [] w') := by
  refine enter Try.func118 rfl Try.ntmps118 rfl fun a hA => ?_
  have hI := Iv.start hμ
  have H := bI H
  refine w_seq fun _ hN1 => ?_
  refine w_reg ?_
  refine stp hA (r_as hA rfl) rfl fun a hA => ?_
  refine o_nil ?_
  refine hN1 _ _ ?_
  refine w_seq fun _ hN2 => ?_
  refine w_seq fun _ hN3 => ?_
  refine w_reg ?_
  refine stp hA (r_mv hA rfl) rfl fun a hA => ?_
  obtain ⟨_, hsl1⟩ := Slc.sv hx0
  refine stp hA (r_slen Try.underlying64 hsl1 hA rfl) rfl fun a hA => 
    stp hA (r_mv hA rfl) rfl fun a hA => ?_
  refine o_nil ?_
  refine hN3 _ _ ?_
  refine w_block ?_
  obtain ⟨z1, hz1, Hk1⟩ := bind_some H
  obtain ⟨n1, hn1⟩ := loopO_some hz1
  refine w_loop (fun n a w => ∃ (s1 : Int), loopN (slices_IndexFunc_api_In_api_In_at_seq_Final_1.s0 x0) n s1 = some z1 ∧ InR .i64 s1 ∧ Fr a 19 [(0, u0), (1, .func (.func 115) #[] #[]), (4, .int .i64 0), (7, .int .i64 (x0.length : Int)), (8, .int .i64 s1)] ∧ Iv w0 [] μ μ [] w) n1 ⟨0, hn1, (in_lit .i64 0 rfl), hA.sub ⟨rfl, rfl, rfl, rfl, rfl, trivial⟩, hI⟩ ?_
  clear hA hI
  rintro n a w ⟨s1, hn1, ws1, hA, hI⟩
  obtain ⟨m1, rfl, H⟩ := loopN_bind hn1
  clear hn1
  refine w_seq fun _ hN4 => ?_
  refine w_reg ?_
  refine stp hA (r_lss hA rfl rfl) rfl fun a hA => ?_
  refine o_nil ?_
  refine hN4 _ _ ?_
  refine w_seq fun _ hN5 => ?_
  refine w_cond hA rfl (fun hc1 => ?_) (fun hc1 => ?_)
  · have hc10 := hc1; have hc1 := of_decide_eq_true hc1; have H := bT H hc1
    refine w_skip ?_
    refine hN5 _ _ ?_
    refine w_seq fun _ hN6 => ?_
    refine w_block ?_
    refine w_seq fun _ hN7 => ?_
    refine w_reg ?_
    refine stp hA (r_mv hA rfl) rfl fun a hA => 
      stp hA (r_as hA rfl) rfl fun a hA => ?_
    refine o_nil ?_
    refine hN7 _ _ ?_
    refine w_seq fun _ hN8 => ?_
    refine w_reg ?_
    refine stp hA (r_mv hA rfl) rfl fun a hA => 
      stp hA (r_mv hA rfl) rfl fun a hA => 
      stp hA (r_mv hA rfl) rfl fun a hA => ?_
    obtain ⟨hb1, H⟩ := bG H
    obtain ⟨_, he1, _, hat1⟩ := Slc.elem hx0 (getD_some default hb1.1 hb1.2)
    obtain ⟨v1, rfl, hw1⟩ := he1
    obtain ⟨_, hsl2⟩ := Slc.sv hx0
    refine stp hA (r_six Try.underlying64 sz71 hsl2 hA rfl rfl hb1.1 hb1.2) rfl fun a hA => 
      stp hA (r_ldmA [] [av .u8 32 ((x0.getD s1.toNat default).From.Tx), [.int .u32 ((x0.getD s1.toNat default).From.N)], [v1], [.int .u32 ((x0.getD s1.toNat default).Seq)]] [] Try.underlying71 rfl sz71 rfl hI.agr hat1 hA rfl rfl) rfl fun a hA => ?_
    obtain ⟨r1, hr1, H⟩ := bB H
    refine o_callpc (u := .bool r1) cf115 hA rfl rfl hI (seq_Final_1.c μ _ hI.agr (x0.getD s1.toNat default) v1 ⟨hw1.1, hw1.2.1, hw1.2.2.1, hw1.2.2.2⟩ r1 hr1) rfl fun a w hz2 hI hA => ?_
    refine o_nil ?_
    refine hN8 _ _ ?_
    refine w_cond hA rfl (fun hc2 => ?_) (fun hc2 => ?_)
    · have hc20 := hc2; have H := bT H hc2
      refine w_seq fun _ hN9 => ?_
      refine w_reg ?_
      refine stp hA (r_mv hA rfl) rfl fun a hA => 
        stp hA (r_as hA rfl) rfl fun a hA => ?_
      refine o_nil ?_
      refine hN9 _ _ ?_
      refine w_ret ?_
      have H : some s1 = some z1 := H
      obtain rfl := Option.some.inj H
      have H := Hk1
      obtain rfl := Option.some.inj (bS H)
      exact ret1 hA Try.results118 rfl ⟨_, rfl, rfl, ws1, hI.forget0⟩
    · have hc20 := hc2; have hc2 := ft hc2; have H := bF H hc2
      refine w_skip ?_
      refine hN6 _ _ ?_
      refine w_reg ?_
      refine stp hA (r_add hA rfl rfl) rfl fun a hA => 
        stp hA (r_mv hA rfl) rfl fun a hA => ?_
      refine o_nil ?_
      exact ⟨m1, Nat.lt_succ_self _, IntKind.i64.wrap (s1 + 1), H, (wrap_in _ _), hA.sub ⟨rfl, rfl, rfl, rfl, rfl, trivial⟩, hI⟩
  · have hc10 := hc1; have hc1 := of_decide_eq_false hc1; have H := bF H hc1
    refine w_exit rfl ?_
    refine hN2 _ _ ?_
    refine w_seq fun _ hN10 => ?_
    refine w_reg ?_
    refine stp hA (r_as hA rfl) rfl fun a hA => ?_
    refine o_nil ?_
    refine hN10 _ _ ?_
    refine w_ret ?_
    have H : some (-1) = some z1 := H
    obtain rfl := Option.some.inj H
    have H := Hk1
    obtain rfl := Option.some.inj (bS H)
    exact ret1 hA Try.results118 rfl ⟨_, rfl, rfl, (in_lit .i64 (-1) rfl), hI.forget0⟩

/-! slices.ContainsFunc[[]api.In,api.In]: function 114 -/
set_option maxRecDepth 20000 in
theorem slices_ContainsFunc_api_In_api_In_at_seq_Final_1.c (μ : Store) (w0 : World) (hμ : Agr μ w0) (x0 : List In) (u0 : Value) (hx0 : Slc (RIn μ) 35 μ u0 x0) (r : Bool) (H : slices_ContainsFunc_api_In_api_In_at_seq_Final_1.f x0 = some r) :
    Calls Try.prog 114 [u0, .func (.func 115) #[] #[]].toArray w0 (fun e w' => ∃ v, e = .returned v ∧ v = .bool r ∧ True ∧ Iv w0 [] μ μ [] w') := by
  refine enter Try.func114 rfl Try.ntmps114 rfl fun a hA => ?_
  have hI := Iv.start hμ
  have H := bI H
  refine w_seq fun _ hN1 => ?_
  refine w_reg ?_
  refine stp hA (r_as hA rfl) rfl fun a hA => ?_
  refine o_nil ?_
  refine hN1 _ _ ?_
  refine w_seq fun _ hN2 => ?_
  refine w_reg ?_
  refine stp hA (r_mv hA rfl) rfl fun a hA => 
    stp hA (r_mv hA rfl) rfl fun a hA => ?_
  obtain ⟨r1, hr1, H⟩ := bB H
  refine o_callp (u := .int .i64 r1) cf118 hA rfl hI (slices_IndexFunc_api_In_api_In_at_seq_Final_1.c μ _ hI.agr x0 u0 hx0 r1 hr1) rfl fun a w hz1 hI hA => 
    stp hA (r_geq hA rfl rfl) rfl fun a hA => 
    stp hA (r_as hA rfl) rfl fun a hA => ?_
  refine o_nil ?_
  refine hN2 _ _ ?_
  refine w_ret ?_
  obtain rfl := Option.some.inj (bS H)
  exact ret1 hA Try.results114 rfl ⟨_, rfl, rfl, trivial, hI.forget0⟩

/-! seq.Final: function 107 -/
set_option maxRecDepth 20000 in
theorem seq_Final.c (μ : Store) (w0 : World) (hμ : Agr μ w0) (x0 : Tx) (u0_0 : Value) (u0_1 : Value) (hx0 : TxW μ x0 u0_0 u0_1) (x1 : Int) (hx1 : InR .i64 x1) (x2 : Int) (hx2 : InR .u32 x2) (r : Bool) (H : seq_Final.f x0 x1 x2 = some r) :
    Calls Try.prog 107 [.agg [[.int .u32 x0.Version], [u0_0], [u0_1], [.int .u32 x0.Time]].flatten.toArray, .int .i64 x1, .int .u32 x2].toArray w0 (fun e w' => ∃ v, e = .returned v ∧ v = .bool r ∧ True ∧ Iv w0 [] μ μ [] w') := by
  refine enter Try.func107 rfl Try.ntmps107 rfl fun a hA => ?_
  have hI := Iv.start hμ
  have H := bI H
  refine w_seq fun _ hN1 => ?_
  refine w_reg ?_
  refine o_box [[.int .u32 x0.Version], [u0_0], [u0_1], [.int .u32 x0.Time]] hI hA rfl rfl rfl fun g1 a w hA hI hg1 => 
    stp hA (r_as hA rfl) rfl fun a hA => ?_
  refine o_nil ?_
  refine hN1 _ _ ?_
  refine w_seq fun _ hN2 => ?_
  refine w_block ?_
  refine w_seq fun _ hN3 => ?_
  refine w_reg ?_
  refine stp hA (r_fd (k := 3) Try.underlying67 rfl sz25 hA rfl rfl) rfl fun a hA => 
    stp hA (r_ld1 (j := 0) [[.int .u32 x0.Version], [u0_0], [u0_1]] [] Try.underlying25 rfl hI rfl hA rfl rfl) rfl fun a hA => 
    stp hA (r_eql hA rfl rfl) rfl fun a hA => 
    stp hA (r_as hA rfl) rfl fun a hA => ?_
  refine o_nil ?_
  refine hN3 _ _ ?_
  refine w_cond hA rfl (fun hc1 => ?_) (fun hc1 => ?_)
  · have hc10 := hc1; have hc1 := of_decide_eq_true hc1; have H := bT H hc1
    refine w_seq fun _ hN4 => ?_
    refine w_reg ?_
    refine stp hA (r_as hA rfl) rfl fun a hA => ?_
    refine o_nil ?_
    refine hN4 _ _ ?_
    refine w_ret ?_
    obtain rfl := Option.some.inj (bS H)
    exact ret1 hA Try.results107 rfl ⟨_, rfl, rfl, trivial, hI.forget0⟩
  · have hc10 := hc1; have hc1 := of_decide_eq_false hc1; have H := bF H hc1
    obtain ⟨c1, hz1, Hk1⟩ := bB H
    refine w_cut (fun a w => Fr a 36 [(0, .agg [[.int .u32 x0.Version], [u0_0], [u0_1], [.int .u32 x0.Time]].flatten.toArray), (1, .int .i64 x1), (2, .int .u32 x2), (3, .pointer (some ⟨g1, 0, none⟩)), (6, .bool false), (7, .bool (decide (x0.Time = 0))), (11, .bool c1)] ∧ Iv w0 [] μ μ [cel g1 [[.int .u32 x0.Version], [u0_0], [u0_1], [.int .u32 x0.Time]] 67] w) ?_ ?_
    · have H := bI hz1
      refine w_reg ?_
      refine stp hA (r_fd (k := 3) Try.underlying67 rfl sz25 hA rfl rfl) rfl fun a hA => 
        stp hA (r_ld1 (j := 0) [[.int .u32 x0.Version], [u0_0], [u0_1]] [] Try.underlying25 rfl hI rfl hA rfl rfl) rfl fun a hA => 
        stp hA (r_lss hA rfl rfl) rfl fun a hA => 
        stp hA (r_mv hA rfl) rfl fun a hA => ?_
      rcases Bool.eq_false_or_eq_true (decide (x0.Time < 500000000)) with hc2 | hc2
      · have hc20 := hc2; have hc2 := of_decide_eq_true hc2; have H := bT H hc2
        refine o_yes hA rfl rfl hc20 <| 
          stp hA (r_fd (k := 3) Try.underlying67 rfl sz25 hA rfl rfl) rfl fun a hA => 
          o_yes hA rfl rfl hc20 <| 
          stp hA (r_ld1 (j := 0) [[.int .u32 x0.Version], [u0_0], [u0_1]] [] Try.underlying25 rfl hI rfl hA rfl rfl) rfl fun a hA => 
          o_yes hA rfl rfl hc20 <| 
          stp hA (r_conv Try.underlying25 Try.underlying2 hA rfl) rfl fun a hA => 
          o_yes hA rfl rfl hc20 <| 
          stp hA (r_mv hA rfl) rfl fun a hA => 
          o_yes hA rfl rfl hc20 <| 
          stp hA (r_lss hA rfl rfl) rfl fun a hA => 
          stp hA (r_pick_t hA rfl hc20 rfl) rfl fun a hA => 
          stp hA (r_as hA rfl) rfl fun a hA => ?_
        refine o_nil ?_
        cases Option.some.inj (bS H)
        exact ⟨hA.sub ⟨rfl, rfl, rfl, rfl, rfl, rfl, rfl, trivial⟩, hI⟩
      · have hc20 := hc2; have hc2 := of_decide_eq_false hc2; have H := bF H hc2
        refine o_no hA rfl rfl (by rw [hc20]; simp [vb]) rfl fun a hA => 
          o_no hA rfl rfl (by rw [hc20]; simp [vb]) rfl fun a hA => 
          o_no hA rfl rfl (by rw [hc20]; simp [vb]) rfl fun a hA => 
          o_no hA rfl rfl (by rw [hc20]; simp [vb]) rfl fun a hA => 
          o_no hA rfl rfl (by rw [hc20]; simp [vb]) rfl fun a hA => 
          stp hA (r_pick_f hA rfl hc20 rfl) rfl fun a hA => 
          stp hA (r_as hA rfl) rfl fun a hA => ?_
        refine o_nil ?_
        cases Option.some.inj (bS H)
        exact ⟨hA.sub ⟨rfl, rfl, rfl, rfl, rfl, rfl, rfl, trivial⟩, hI⟩
    · rintro a w ⟨hA, hI⟩
      have H := Hk1
      refine w_cond hA rfl (fun hc3 => ?_) (fun hc3 => ?_)
      · have hc30 := hc3; have H := bT H hc3
        refine w_seq fun _ hN5 => ?_
        refine w_reg ?_
        refine stp hA (r_as hA rfl) rfl fun a hA => ?_
        refine o_nil ?_
        refine hN5 _ _ ?_
        refine w_ret ?_
        obtain rfl := Option.some.inj (bS H)
        exact ret1 hA Try.results107 rfl ⟨_, rfl, rfl, trivial, hI.forget0⟩
      · have hc30 := hc3; have hc3 := ft hc3; have H := bF H hc3
        obtain ⟨c2, hz2, Hk2⟩ := bB H
        refine w_cut (fun a w => Fr a 36 [(0, .agg [[.int .u32 x0.Version], [u0_0], [u0_1], [.int .u32 x0.Time]].flatten.toArray), (1, .int .i64 x1), (2, .int .u32 x2), (3, .pointer (some ⟨g1, 0, none⟩)), (6, .bool false), (7, .bool (decide (x0.Time = 0))), (11, .bool c1), (22, .bool c2)] ∧ Iv w0 [] μ μ [cel g1 [[.int .u32 x0.Version], [u0_0], [u0_1], [.int .u32 x0.Time]] 67] w) ?_ ?_
        · have H := bI hz2
          refine w_reg ?_
          refine stp hA (r_fd (k := 3) Try.underlying67 rfl sz25 hA rfl rfl) rfl fun a hA => 
            stp hA (r_ld1 (j := 0) [[.int .u32 x0.Version], [u0_0], [u0_1]] [] Try.underlying25 rfl hI rfl hA rfl rfl) rfl fun a hA => 
            stp hA (r_geq hA rfl rfl) rfl fun a hA => 
            stp hA (r_mv hA rfl) rfl fun a hA => ?_
          rcases Bool.eq_false_or_eq_true (decide (500000000 ≤ x0.Time)) with hc4 | hc4
          · have hc40 := hc4; have hc4 := of_decide_eq_true hc4; have H := bT H hc4
            refine o_yes hA rfl rfl hc40 <| 
              stp hA (r_fd (k := 3) Try.underlying67 rfl sz25 hA rfl rfl) rfl fun a hA => 
              o_yes hA rfl rfl hc40 <| 
              stp hA (r_ld1 (j := 0) [[.int .u32 x0.Version], [u0_0], [u0_1]] [] Try.underlying25 rfl hI rfl hA rfl rfl) rfl fun a hA => 
              o_yes hA rfl rfl hc40 <| 
              stp hA (r_mv hA rfl) rfl fun a hA => 
              o_yes hA rfl rfl hc40 <| 
              stp hA (r_lss hA rfl rfl) rfl fun a hA => 
              stp hA (r_pick_t hA rfl hc40 rfl) rfl fun a hA => 
              stp hA (r_as hA rfl) rfl fun a hA => ?_
            refine o_nil ?_
            cases Option.some.inj (bS H)
            exact ⟨hA.sub ⟨rfl, rfl, rfl, rfl, rfl, rfl, rfl, rfl, trivial⟩, hI⟩
          · have hc40 := hc4; have hc4 := of_decide_eq_false hc4; have H := bF H hc4
            refine o_no hA rfl rfl (by rw [hc40]; simp [vb]) rfl fun a hA => 
              o_no hA rfl rfl (by rw [hc40]; simp [vb]) rfl fun a hA => 
              o_no hA rfl rfl (by rw [hc40]; simp [vb]) rfl fun a hA => 
              o_no hA rfl rfl (by rw [hc40]; simp [vb]) rfl fun a hA => 
              stp hA (r_pick_f hA rfl hc40 rfl) rfl fun a hA => 
              stp hA (r_as hA rfl) rfl fun a hA => ?_
            refine o_nil ?_
            cases Option.some.inj (bS H)
            exact ⟨hA.sub ⟨rfl, rfl, rfl, rfl, rfl, rfl, rfl, rfl, trivial⟩, hI⟩
        · rintro a w ⟨hA, hI⟩
          have H := Hk2
          refine w_cond hA rfl (fun hc5 => ?_) (fun hc5 => ?_)
          · have hc50 := hc5; have H := bT H hc5
            refine w_seq fun _ hN6 => ?_
            refine w_reg ?_
            refine stp hA (r_as hA rfl) rfl fun a hA => ?_
            refine o_nil ?_
            refine hN6 _ _ ?_
            refine w_ret ?_
            obtain rfl := Option.some.inj (bS H)
            exact ret1 hA Try.results107 rfl ⟨_, rfl, rfl, trivial, hI.forget0⟩
          · have hc50 := hc5; have hc5 := ft hc5; have H := bF H hc5
            refine w_skip ?_
            refine hN2 _ _ ?_
            refine w_seq fun _ hN7 => ?_
            refine w_reg ?_
            refine stp hA (r_fd (k := 1) Try.underlying67 rfl sz64 hA rfl rfl) rfl fun a hA => 
              stp hA (r_ld1 (j := 0) [[.int .u32 x0.Version]] [[u0_1], [.int .u32 x0.Time]] Try.underlying64 rfl hI rfl hA rfl rfl) rfl fun a hA => ?_
            obtain ⟨r1, hr1, H⟩ := bB H
            refine o_callp (u := .bool r1) cf114 hA rfl hI (slices_ContainsFunc_api_In_api_In_at_seq_Final_1.c μ _ hI.agr x0.Ins u0_0 hx0.2.1 r1 hr1) rfl fun a w hz3 hI hA => 
              stp hA (r_not hA rfl) rfl fun a hA => 
              stp hA (r_as hA rfl) rfl fun a hA => ?_
            refine o_nil ?_
            refine hN7 _ _ ?_
            refine w_ret ?_
            obtain rfl := Option.some.inj (bS H)
            exact ret1 hA Try.results107 rfl ⟨_, rfl, rfl, trivial, hI.forget0⟩

/-! seq.Met: function 82 -/
set_option maxRecDepth 20000 in
theorem seq_Met.c (μ : Store) (w0 : World) (hμ : Agr μ w0) (x0 : Tx) (u0_0 : Value) (u0_1 : Value) (hx0 : TxW μ x0 u0_0 u0_1) (x1 : List Int) (u1 : Value) (hx1 : Slc (RI .i64) 1 μ u1 x1) (x2 : List Int) (u2 : Value) (hx2 : Slc (RI .u32) 1 μ u2 x2) (x3 : Int) (hx3 : InR .i64 x3) (x4 : Int) (hx4 : InR .u32 x4) (r : Bool) (H : seq_Met.f x0 x1 x2 x3 x4 = some r) :
    Calls Try.prog 82 [.agg [[.int .u32 x0.Version], [u0_0], [u0_1], [.int .u32 x0.Time]].flatten.toArray, u1, u2, .int .i64 x3, .int .u32 x4].toArray w0 (fun e w' => ∃ v, e = .returned v ∧ v = .bool r ∧ True ∧ Iv w0 [] μ μ [] w') := by
  refine enter Try.func82 rfl Try.ntmps82 rfl fun a hA => ?_
  have hI := Iv.start hμ
  have H := bI H
  refine w_seq fun _ hN1 => ?_
  refine w_reg ?_
  refine o_box [[.int .u32 x0.Version], [u0_0], [u0_1], [.int .u32 x0.Time]] hI hA rfl rfl rfl fun g1 a w hA hI hg1 => 
    stp hA (r_as hA rfl) rfl fun a hA => ?_
  refine o_nil ?_
  refine hN1 _ _ ?_
  refine w_seq fun _ hN2 => ?_
  refine w_reg ?_
  refine stp hA (r_ldA (j := 0) [] [[.int .u32 x0.Version], [u0_0], [u0_1], [.int .u32 x0.Time]] [] Try.underlying67 rfl sz67 rfl hI rfl hA rfl rfl) rfl fun a hA => 
    stp hA (r_mv hA rfl) rfl fun a hA => 
    stp hA (r_mv hA rfl) rfl fun a hA => ?_
  obtain ⟨r1, hr1, H⟩ := bB H
  refine o_callp (u := .tuple #[.int .i64 r1.1, .int .i64 r1.2.1, .bool r1.2.2]) cf81 hA rfl hI (seq_Need.c μ _ hI.agr x0 u0_0 u0_1 ⟨hx0.1, hx0.2.1, hx0.2.2.1, hx0.2.2.2⟩ x1 u1 hx1 x2 u2 hx2 r1 hr1) rfl fun a w hz1 hI hA => 
    stp hA (r_mv hA rfl) rfl fun a hA => 
    stp hA (r_extr (vs := [.int .i64 r1.1, .int .i64 r1.2.1, .bool r1.2.2]) hA rfl rfl) rfl fun a hA => 
    stp hA (r_extr (vs := [.int .i64 r1.1, .int .i64 r1.2.1, .bool r1.2.2]) hA rfl rfl) rfl fun a hA => 
    stp hA (r_extr (vs := [.int .i64 r1.1, .int .i64 r1.2.1, .bool r1.2.2]) hA rfl rfl) rfl fun a hA => 
    stp hA (r_as hA rfl) rfl fun a hA => 
    stp hA (r_as hA rfl) rfl fun a hA => 
    stp hA (r_as hA rfl) rfl fun a hA => ?_
  refine o_nil ?_
  refine hN2 _ _ ?_
  obtain ⟨c1, hz2, Hk1⟩ := bB H
  refine w_cut (fun a w => Fr a 34 [(0, .agg [[.int .u32 x0.Version], [u0_0], [u0_1], [.int .u32 x0.Time]].flatten.toArray), (1, u1), (2, u2), (3, .int .i64 x3), (4, .int .u32 x4), (5, .pointer (some ⟨g1, 0, none⟩)), (10, .bool c1), (11, .int .i64 r1.1), (12, .int .i64 r1.2.1), (13, .bool r1.2.2)] ∧ Iv w0 [] μ μ [cel g1 [[.int .u32 x0.Version], [u0_0], [u0_1], [.int .u32 x0.Time]] 67] w) ?_ ?_
  · have H := bI hz2
    refine w_reg ?_
    refine stp hA (r_mv hA rfl) rfl fun a hA => 
      stp hA (r_mv hA rfl) rfl fun a hA => ?_
    rcases Bool.eq_false_or_eq_true r1.2.2 with hc1 | hc1
    · have hc10 := hc1; have H := bT H hc1
      refine o_yes hA rfl rfl hc10 <| 
        stp hA (r_mv hA rfl) rfl fun a hA => 
        o_yes hA rfl rfl hc10 <| 
        stp hA (r_mv hA rfl) rfl fun a hA => 
        o_yes hA rfl rfl hc10 <| 
        stp hA (r_gtr hA rfl rfl) rfl fun a hA => 
        stp hA (r_pick_t hA rfl hc10 rfl) rfl fun a hA => 
        stp hA (r_mv hA rfl) rfl fun a hA => ?_
      rcases Bool.eq_false_or_eq_true (decide (r1.1 < x3)) with hc2 | hc2
      · have hc20 := hc2; have hc2 := of_decide_eq_true hc2; have H := bT H hc2
        refine o_yes hA rfl rfl hc20 <| 
          stp hA (r_mv hA rfl) rfl fun a hA => 
          o_yes hA rfl rfl hc20 <| 
          stp hA (r_conv Try.underlying25 Try.underlying2 hA rfl) rfl fun a hA => 
          o_yes hA rfl rfl hc20 <| 
          stp hA (r_mv hA rfl) rfl fun a hA => 
          o_yes hA rfl rfl hc20 <| 
          stp hA (r_gtr hA rfl rfl) rfl fun a hA => 
          stp hA (r_pick_t hA rfl hc20 rfl) rfl fun a hA => 
          stp hA (r_as hA rfl) rfl fun a hA => ?_
        refine o_nil ?_
        cases Option.some.inj (bS H)
        exact ⟨hA.sub ⟨rfl, rfl, rfl, rfl, rfl, rfl, rfl, rfl, rfl, rfl, trivial⟩, hI⟩
      · have hc20 := hc2; have hc2 := of_decide_eq_false hc2; have H := bF H hc2
        refine o_no hA rfl rfl (by rw [hc20]; simp [vb]) rfl fun a hA => 
          o_no hA rfl rfl (by rw [hc20]; simp [vb]) rfl fun a hA => 
          o_no hA rfl rfl (by rw [hc20]; simp [vb]) rfl fun a hA => 
          o_no hA rfl rfl (by rw [hc20]; simp [vb]) rfl fun a hA => 
          stp hA (r_pick_f hA rfl hc20 rfl) rfl fun a hA => 
          stp hA (r_as hA rfl) rfl fun a hA => ?_
        refine o_nil ?_
        cases Option.some.inj (bS H)
        exact ⟨hA.sub ⟨rfl, rfl, rfl, rfl, rfl, rfl, rfl, rfl, rfl, rfl, trivial⟩, hI⟩
    · have hc10 := hc1; have hc1 := ft hc1; have H := bF H hc1
      refine o_no hA rfl rfl (by rw [hc10]; simp [vb]) rfl fun a hA => 
        o_no hA rfl rfl (by rw [hc10]; simp [vb]) rfl fun a hA => 
        o_no hA rfl rfl (by rw [hc10]; simp [vb]) rfl fun a hA => 
        stp hA (r_pick_f hA rfl hc10 rfl) rfl fun a hA => 
        stp hA (r_mv hA rfl) rfl fun a hA => 
        o_no hA rfl rfl (by simp [vb]) rfl fun a hA => 
        o_no hA rfl rfl (by simp [vb]) rfl fun a hA => 
        o_no hA rfl rfl (by simp [vb]) rfl fun a hA => 
        o_no hA rfl rfl (by simp [vb]) rfl fun a hA => 
        stp hA (r_pick_f hA rfl rfl rfl) rfl fun a hA => 
        stp hA (r_as hA rfl) rfl fun a hA => ?_
      refine o_nil ?_
      cases Option.some.inj (bS H)
      exact ⟨hA.sub ⟨rfl, rfl, rfl, rfl, rfl, rfl, rfl, rfl, rfl, rfl, trivial⟩, hI⟩
  · rintro a w ⟨hA, hI⟩
    have H := Hk1
    refine w_ret ?_
    obtain rfl := Option.some.inj (bS H)
    exact ret1 hA Try.results82 rfl ⟨_, rfl, rfl, trivial, hI.forget0⟩

/-! value.Reward: function 84 -/
set_option maxRecDepth 20000 in
theorem value_Reward.c (μ : Store) (w0 : World) (hμ : Agr μ w0) (x0 : Int) (hx0 : InR .i64 x0) (x1 : Int) (hx1 : InR .i64 x1) (r : Int) (H : value_Reward.f x0 x1 = some r) :
    Calls Try.prog 84 [.int .i64 x0, .int .i64 x1].toArray w0 (fun e w' => ∃ v, e = .returned v ∧ v = .int .u64 r ∧ InR .u64 r ∧ Iv w0 [] μ μ [] w') := by
  refine enter Try.func84 rfl Try.ntmps84 rfl fun a hA => ?_
  have hI := Iv.start hμ
  have H := bI H
  refine w_seq fun _ hN1 => ?_
  refine w_reg ?_
  refine stp hA (r_as hA rfl) rfl fun a hA => ?_
  refine o_nil ?_
  refine hN1 _ _ ?_
  refine w_seq fun _ hN2 => ?_
  obtain ⟨c1, hz1, Hk1⟩ := bB H
  refine w_cut (fun a w => Fr a 21 [(0, .int .i64 x0), (1, .int .i64 x1), (4, .int .u64 0), (16, .bool c1)] ∧ Iv w0 [] μ μ [] w) ?_ ?_
  · have H := bI hz1
    refine w_reg ?_
    refine stp hA (r_mv hA rfl) rfl fun a hA => 
      stp hA (r_lss hA rfl rfl) rfl fun a hA => 
      stp hA (r_mv hA rfl) rfl fun a hA => ?_
    rcases Bool.eq_false_or_eq_true (decide (x0 < 0)) with hc1 | hc1
    · have hc10 := hc1; have hc1 := of_decide_eq_true hc1; have H := bT H hc1
      refine o_no hA rfl rfl (by rw [hc10]; simp [vb]) rfl fun a hA => 
        o_no hA rfl rfl (by rw [hc10]; simp [vb]) rfl fun a hA => 
        stp hA (r_pick_t hA rfl hc10 rfl) rfl fun a hA => 
        stp hA (r_mv hA rfl) rfl fun a hA => 
        o_no hA rfl rfl (by simp [vb]) rfl fun a hA => 
        o_no hA rfl rfl (by simp [vb]) rfl fun a hA => 
        o_no hA rfl rfl (by simp [vb]) rfl fun a hA => 
        o_no hA rfl rfl (by simp [vb]) rfl fun a hA => 
        stp hA (r_pick_t hA rfl rfl rfl) rfl fun a hA => ?_
      refine o_nil ?_
      cases Option.some.inj (bS H)
      exact ⟨hA.sub ⟨rfl, rfl, rfl, rfl, trivial⟩, hI⟩
    · have hc10 := hc1; have hc1 := of_decide_eq_false hc1; have H := bF H hc1
      refine o_yes hA rfl rfl hc10 <| 
        stp hA (r_mv hA rfl) rfl fun a hA => 
        o_yes hA rfl rfl hc10 <| 
        stp hA (r_lss hA rfl rfl) rfl fun a hA => 
        stp hA (r_pick_f hA rfl hc10 rfl) rfl fun a hA => 
        stp hA (r_mv hA rfl) rfl fun a hA => ?_
      rcases Bool.eq_false_or_eq_true (decide (x1 < 1)) with hc2 | hc2
      · have hc20 := hc2; have hc2 := of_decide_eq_true hc2; have H := bT H hc2
        refine o_no hA rfl rfl (by rw [hc20]; simp [vb]) rfl fun a hA => 
          o_no hA rfl rfl (by rw [hc20]; simp [vb]) rfl fun a hA => 
          o_no hA rfl rfl (by rw [hc20]; simp [vb]) rfl fun a hA => 
          o_no hA rfl rfl (by rw [hc20]; simp [vb]) rfl fun a hA => 
          stp hA (r_pick_t hA rfl hc20 rfl) rfl fun a hA => ?_
        refine o_nil ?_
        cases Option.some.inj (bS H)
        exact ⟨hA.sub ⟨rfl, rfl, rfl, rfl, trivial⟩, hI⟩
      · have hc20 := hc2; have hc2 := of_decide_eq_false hc2; have H := bF H hc2
        refine o_yes hA rfl rfl hc20 <| 
          stp hA (r_mv hA rfl) rfl fun a hA => 
          o_yes hA rfl rfl hc20 <| 
          stp hA (r_mv hA rfl) rfl fun a hA => 
          o_yes hA rfl rfl hc20 <| ?_
        obtain ⟨hb1, H⟩ := bG H
        refine stp hA (r_quo hA rfl rfl hb1) rfl fun a hA => 
          o_yes hA rfl rfl hc20 <| 
          stp hA (r_geq hA rfl rfl) rfl fun a hA => 
          stp hA (r_pick_f hA rfl hc20 rfl) rfl fun a hA => ?_
        refine o_nil ?_
        cases Option.some.inj (bS H)
        exact ⟨hA.sub ⟨rfl, rfl, rfl, rfl, trivial⟩, hI⟩
  · rintro a w ⟨hA, hI⟩
    have H := Hk1
    refine w_cond hA rfl (fun hc3 => ?_) (fun hc3 => ?_)
    · have hc30 := hc3; have H := bT H hc3
      refine w_seq fun _ hN3 => ?_
      refine w_reg ?_
      refine stp hA (r_as hA rfl) rfl fun a hA => ?_
      refine o_nil ?_
      refine hN3 _ _ ?_
      refine w_ret ?_
      obtain rfl := Option.some.inj (bS H)
      exact ret1 hA Try.results84 rfl ⟨_, rfl, rfl, (in_lit .u64 0 rfl), hI.forget0⟩
    · have hc30 := hc3; have hc3 := ft hc3; have H := bF H hc3
      refine w_skip ?_
      refine hN2 _ _ ?_
      refine w_seq fun _ hN4 => ?_
      refine w_reg ?_
      refine stp hA (r_mv hA rfl) rfl fun a hA => 
        stp hA (r_mv hA rfl) rfl fun a hA => ?_
      obtain ⟨hb2, H⟩ := bG H
      refine stp hA (r_quo hA rfl rfl hb2) rfl fun a hA => ?_
      obtain ⟨hb3, H⟩ := bG H
      refine stp hA (r_shr hA rfl rfl hb3) rfl fun a hA => 
        stp hA (r_as hA rfl) rfl fun a hA => ?_
      refine o_nil ?_
      refine hN4 _ _ ?_
      refine w_ret ?_
      obtain rfl := Option.some.inj (bS H)
      exact ret1 hA Try.results84 rfl ⟨_, rfl, rfl, (sR_in rfl (in_lit .u64 5000000000 rfl) _), hI.forget0⟩

/-! value.Ripe: function 85 -/
set_option maxRecDepth 20000 in
theorem value_Ripe.c (μ : Store) (w0 : World) (hμ : Agr μ w0) (x0 : Money) (hx0 : MoneyW μ x0) (x1 : Int) (hx1 : InR .i64 x1) (x2 : Int) (hx2 : InR .i64 x2) (r : Bool) (H : value_Ripe.f x0 x1 x2 = some r) :
    Calls Try.prog 85 [.agg [[.int .u64 x0.Value], av .u8 32 x0.Lock, [.int .i64 x0.Height], [.bool x0.Base]].flatten.toArray, .int .i64 x1, .int .i64 x2].toArray w0 (fun e w' => ∃ v, e = .returned v ∧ v = .bool r ∧ True ∧ Iv w0 [] μ μ [] w') := by
  refine enter Try.func85 rfl Try.ntmps85 rfl fun a hA => ?_
  have hI := Iv.start hμ
  have H := bI H
  refine w_seq fun _ hN1 => ?_
  refine w_reg ?_
  refine o_box [[.int .u64 x0.Value], av .u8 32 x0.Lock, [.int .i64 x0.Height], [.bool x0.Base]] hI hA rfl rfl rfl fun g1 a w hA hI hg1 => 
    stp hA (r_as hA rfl) rfl fun a hA => ?_
  refine o_nil ?_
  refine hN1 _ _ ?_
  obtain ⟨c1, hz1, Hk1⟩ := bB H
  refine w_cut (fun a w => Fr a 18 [(0, .agg [[.int .u64 x0.Value], av .u8 32 x0.Lock, [.int .i64 x0.Height], [.bool x0.Base]].flatten.toArray), (1, .int .i64 x1), (2, .int .i64 x2), (3, .pointer (some ⟨g1, 0, none⟩)), (6, .bool c1)] ∧ Iv w0 [] μ μ [cel g1 [[.int .u64 x0.Value], av .u8 32 x0.Lock, [.int .i64 x0.Height], [.bool x0.Base]] 103] w) ?_ ?_
  · have H := bI hz1
    refine w_reg ?_
    refine stp hA (r_fd (k := 34) Try.underlying103 rfl sz4 hA rfl rfl) rfl fun a hA => 
      stp hA (r_ld1 (j := 0) [[.int .u64 x0.Value], av .u8 32 x0.Lock, [.int .i64 x0.Height]] [] Try.underlying4 rfl hI rfl hA rfl rfl) rfl fun a hA => 
      stp hA (r_not hA rfl) rfl fun a hA => 
      stp hA (r_mv hA rfl) rfl fun a hA => ?_
    rcases Bool.eq_false_or_eq_true (!x0.Base) with hc1 | hc1
    · have hc10 := hc1; have hc1 := nT hc1; have hc1 := ft hc1; have H := bF H hc1
      refine o_no hA rfl rfl (by rw [hc10]; simp [vb]) rfl fun a hA => 
        o_no hA rfl rfl (by rw [hc10]; simp [vb]) rfl fun a hA => 
        o_no hA rfl rfl (by rw [hc10]; simp [vb]) rfl fun a hA => 
        o_no hA rfl rfl (by rw [hc10]; simp [vb]) rfl fun a hA => 
        o_no hA rfl rfl (by rw [hc10]; simp [vb]) rfl fun a hA => 
        o_no hA rfl rfl (by rw [hc10]; simp [vb]) rfl fun a hA => 
        stp hA (r_pick_t hA rfl hc10 rfl) rfl fun a hA => 
        stp hA (r_as hA rfl) rfl fun a hA => ?_
      refine o_nil ?_
      cases Option.some.inj (bS H)
      exact ⟨hA.sub ⟨rfl, rfl, rfl, rfl, rfl, trivial⟩, hI⟩
    · have hc10 := hc1; have hc1 := nF hc1; have H := bT H hc1
      refine o_yes hA rfl rfl hc10 <| 
        stp hA (r_fd (k := 33) Try.underlying103 rfl sz3 hA rfl rfl) rfl fun a hA => 
        o_yes hA rfl rfl hc10 <| 
        stp hA (r_ld1 (j := 0) [[.int .u64 x0.Value], av .u8 32 x0.Lock] [[.bool x0.Base]] Try.underlying3 rfl hI rfl hA rfl rfl) rfl fun a hA => 
        o_yes hA rfl rfl hc10 <| 
        stp hA (r_mv hA rfl) rfl fun a hA => 
        o_yes hA rfl rfl hc10 <| 
        stp hA (r_add hA rfl rfl) rfl fun a hA => 
        o_yes hA rfl rfl hc10 <| 
        stp hA (r_mv hA rfl) rfl fun a hA => 
        o_yes hA rfl rfl hc10 <| 
        stp hA (r_leq hA rfl rfl) rfl fun a hA => 
        stp hA (r_pick_f hA rfl hc10 rfl) rfl fun a hA => 
        stp hA (r_as hA rfl) rfl fun a hA => ?_
      refine o_nil ?_
      cases Option.some.inj (bS H)
      exact ⟨hA.sub ⟨rfl, rfl, rfl, rfl, rfl, trivial⟩, hI⟩
  · rintro a w ⟨hA, hI⟩
    have H := Hk1
    refine w_ret ?_
    obtain rfl := Option.some.inj (bS H)
    exact ret1 hA Try.results85 rfl ⟨_, rfl, rfl, trivial, hI.forget0⟩
end Go.Proofs.Ytnbnnphlffhgiaa.T
