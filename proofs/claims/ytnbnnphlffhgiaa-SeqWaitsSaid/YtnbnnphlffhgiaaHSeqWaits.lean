/- A helper of this seat's claims: printed by gen.py. It proves no statement by itself. -/
import Derived.Test.YtnbnnphlffhgiaaCH
import Derived.Test.YtnbnnphlffhgiaaGSeqWaits
namespace Go.Proofs.Ytnbnnphlffhgiaa.T
open Go Go.Proofs Go.Proofs.Ytnbnnphlffhgiaa.K
set_option linter.unusedVariables false
set_option linter.unusedSimpArgs false
/-! sargassolaw14.SeqWaits: function 22 -/
set_option maxRecDepth 20000 in
theorem sargassolaw14_SeqWaits.c (μ : Store) (w0 : World) (hμ : Agr μ w0) (x0 : Int) (hx0 : InR .i64 x0) (x1 : Int) (hx1 : InR .i64 x1) (x2 : Int) (hx2 : InR .u32 x2) (x3 : Bool) (r : Bool) (H : sargassolaw14_SeqWaits.f x0 x1 x2 x3 = some r) :
    Calls Try.prog 22 [.int .i64 x0, .int .i64 x1, .int .u32 x2, .bool x3].toArray w0 (fun e w' => ∃ v, e = .returned v ∧ v = .bool r ∧ True ∧ Iv w0 [] μ μ [] w') := by
  refine enter Try.func22 rfl Try.ntmps22 rfl fun a hA => ?_
  have hI := Iv.start hμ
  have H := bI H
  refine w_seq fun _ hN1 => ?_
  refine w_reg ?_
  refine stp hA (r_as hA rfl) rfl fun a hA => ?_
  refine o_nil ?_
  refine hN1 _ _ ?_
  refine w_seq fun _ hN2 => ?_
  refine w_reg ?_
  obtain ⟨r1, hr1, H⟩ := bB H
  refine o_callp (u := .bool r1) cf80 hA rfl hI (sargassolaw14_first.c μ _ hI.agr  r1 hr1) rfl fun a w hz1 hI hA => 
    stp hA (r_as hA rfl) rfl fun a hA => ?_
  refine o_nil ?_
  refine hN2 _ _ ?_
  refine w_seq fun _ hN3 => ?_
  refine w_seq fun _ hN4 => ?_
  refine w_reg ?_
  refine stp hA (r_mv hA rfl) rfl fun a hA => 
    stp hA (r_not hA rfl) rfl fun a hA => ?_
  refine o_nil ?_
  refine hN4 _ _ ?_
  refine w_cond hA rfl (fun hc1 => ?_) (fun hc1 => ?_)
  · have hc10 := hc1; have hc1 := nT hc1; have hc1 := ft hc1; have H := bF H hc1
    refine w_seq fun _ hN5 => ?_
    refine w_reg ?_
    refine stp hA (r_as hA rfl) rfl fun a hA => ?_
    refine o_nil ?_
    refine hN5 _ _ ?_
    refine w_ret ?_
    obtain rfl := Option.some.inj (bS H)
    exact ret1 hA Try.results22 rfl ⟨_, rfl, rfl, trivial, hI.forget0⟩
  · have hc10 := hc1; have hc1 := nF hc1; have H := bT H hc1
    refine w_skip ?_
    refine hN3 _ _ ?_
    refine w_seq fun _ hN6 => ?_
    refine w_reg ?_
    refine stp hA (r_mv hA rfl) rfl fun a hA => ?_
    obtain ⟨r2, hr2, H⟩ := bB H
    refine o_callp (u := .int .i64 r2) cf26 hA rfl hI (sargassoworld_Number.c μ _ hI.agr x0 hx0 65536 (in_lit .i64 65536 rfl) r2 hr2) rfl fun a w hz2 hI hA => 
      stp hA (r_as hA rfl) rfl fun a hA => ?_
    refine o_nil ?_
    refine hN6 _ _ ?_
    refine w_seq fun _ hN7 => ?_
    refine w_reg ?_
    refine stp hA (r_mv hA rfl) rfl fun a hA => ?_
    obtain ⟨r3, hr3, H⟩ := bB H
    refine o_callp (u := .int .i64 r3) cf26 hA rfl hI (sargassoworld_Number.c μ _ hI.agr x1 hx1 100000 (in_lit .i64 100000 rfl) r3 hr3) rfl fun a w hz3 hI hA => 
      stp hA (r_as hA rfl) rfl fun a hA => ?_
    refine o_nil ?_
    refine hN7 _ _ ?_
    refine w_seq fun _ hN8 => ?_
    refine w_reg ?_
    refine stp hA (r_mv hA rfl) rfl fun a hA => 
      stp hA (r_and hA rfl rfl) rfl fun a hA => 
      stp hA (r_as hA rfl) rfl fun a hA => ?_
    refine o_nil ?_
    refine hN8 _ _ ?_
    refine w_seq fun _ hN9 => ?_
    refine w_reg ?_
    refine stp hA (r_mv hA rfl) rfl fun a hA => 
      stp hA (r_conv Try.underlying3 Try.underlying25 hA rfl) rfl fun a hA => 
      stp hA (r_bldS (cs := [av .u8 32 (List.replicate 32 0), [.int .u32 0], [(.slice none 0 0)], [.int .u32 (IntKind.u32.wrap r2)]].flatten.toArray) (pl := [(0, 33), (33, 1), (34, 1)]) zr71 Try.underlying71 ⟨rfl, sz57, rfl, sz22, rfl, sz25, trivial⟩ hA rfl (by kernel_rfl)) rfl fun a hA => ?_
    have hE1 : Els (RIn μ) 35 ([(⟨(⟨(List.replicate 32 0), 0⟩ : Point), [], IntKind.u32.wrap r2⟩ : In)] : List In) ([av .u8 32 (List.replicate 32 0), [.int .u32 0], [(.slice none 0 0)], [.int .u32 (IntKind.u32.wrap r2)]].flatten ++ ([])) := (Els.cons (c := [av .u8 32 (List.replicate 32 0), [.int .u32 0], [(.slice none 0 0)], [.int .u32 (IntKind.u32.wrap r2)]].flatten) ⟨(.slice none 0 0), rfl, ⟨(arr_zero _ _), (in_lit .u32 0 rfl), (slc_nil _ _ _), (wrap_in _ _)⟩⟩ rfl Els.nil)
    refine o_bsl ([av .u8 32 (List.replicate 32 0), [.int .u32 0], [(.slice none 0 0)], [.int .u32 (IntKind.u32.wrap r2)]].flatten ++ ([])) te71 zr71 Try.underlying64 hI hA rfl rfl rfl rfl (by kernel_rfl) rfl fun g1 a w hA hI => ?_
    generalize hcs : ([av .u8 32 (List.replicate 32 0), [.int .u32 0], [(.slice none 0 0)], [.int .u32 (IntKind.u32.wrap r2)]].flatten ++ ([]) : List Value) = cs1 at hE1 hI
    clear hcs
    refine stp hA (r_bldS (cs := [[.int .u32 2], [(.slice (some ⟨g1, 0, none⟩) 1 1)], [(.slice none 0 0)], [.int .u32 0]].flatten.toArray) (pl := [(0, 1), (1, 1), (2, 1), (3, 1)]) zr67 Try.underlying67 ⟨rfl, sz25, rfl, sz64, rfl, sz65, rfl, sz25, trivial⟩ hA rfl (by kernel_rfl)) rfl fun a hA => 
      o_new [[.int .u32 0], [(.slice none 0 0)], [(.slice none 0 0)], [.int .u32 0]] zr67 hI hA rfl fun g2 a w hA hI hg2 => 
      o_st (j := 0) [] [[.int .u32 0], [(.slice none 0 0)], [(.slice none 0 0)], [.int .u32 0]] [[.int .u32 2], [(.slice (some ⟨g1, 0, none⟩) 1 1)], [(.slice none 0 0)], [.int .u32 0]] [] sz67 rfl rfl (fl_cons (one_one rfl) (fl_cons (one_one (own_one hI (j := 1) rfl)) (fl_cons (one_one rfl) (fl_cons (one_one rfl) fl_nil)))) hI rfl hA rfl rfl rfl rfl fun w hI => ?_
    refine o_nil ?_
    refine hN9 _ _ ?_
    refine w_seq fun _ hN10 => ?_
    refine w_reg ?_
    refine stp hA (r_mv hA rfl) rfl fun a hA => 
      stp hA (r_mv hA rfl) rfl fun a hA => 
      stp hA (r_add hA rfl rfl) rfl fun a hA => 
      stp hA (r_as hA rfl) rfl fun a hA => ?_
    refine o_nil ?_
    refine hN10 _ _ ?_
    refine w_seq fun _ hN11 => ?_
    refine w_reg ?_
    refine stp hA (r_mv hA rfl) rfl fun a hA => 
      stp hA (r_as hA rfl) rfl fun a hA => ?_
    refine o_nil ?_
    refine hN11 _ _ ?_
    obtain ⟨⟨c1, c2, c3⟩, hz4, Hk1⟩ := bB H
    refine w_cut (fun a w => ∃ (ccc3 : List Value), InR .i64 c1 ∧ InR .u32 c2 ∧ Els (RIn μ) 35 c3 ccc3 ∧ Fr a 133 [(0, .int .i64 r2), (1, .int .i64 r3), (2, .int .u32 (bAnd .u32 x2 1073741823)), (3, .bool x3), (8, .bool false), (9, .bool r1), (10, .pointer (some ⟨g2, 0, none⟩)), (11, .int .i64 c1), (12, .int .u32 c2), (19, .bool (!r1))] ∧ Iv w0 [] μ μ [cel g2 [[.int .u32 2], [(.slice (some ⟨g1, 0, none⟩) 1 1)], [(.slice none 0 0)], [.int .u32 0]] 67, row 71 35 (.slice (some ⟨g1, 0, none⟩) 1 1) c3.length ccc3] w) ?_ ?_
    · have H := bI hz4
      refine w_seq fun _ hN12 => ?_
      refine w_reg ?_
      refine stp hA (r_mv hA rfl) rfl fun a hA => ?_
      refine o_nil ?_
      refine hN12 _ _ ?_
      refine w_cond hA rfl (fun hc2 => ?_) (fun hc2 => ?_)
      · have hc20 := hc2; have H := bT H hc2
        refine w_seq fun _ hN13 => ?_
        refine w_reg ?_
        refine stp hA (r_fd (k := 1) Try.underlying67 rfl sz64 hA rfl rfl) rfl fun a hA => 
          stp hA (r_ld1 (j := 0) [[.int .u32 2]] [[(.slice none 0 0)], [.int .u32 0]] Try.underlying64 rfl hI rfl hA rfl rfl) rfl fun a hA => 
          stp hA (r_mv hA rfl) rfl fun a hA => 
          stp hA (r_conv Try.underlying3 Try.underlying25 hA rfl) rfl fun a hA => 
          stp hA (r_or hA rfl rfl) rfl fun a hA => ?_
        obtain ⟨hb1, H⟩ := bG H
        refine stp hA (r_rix (j := 1) Try.underlying64 sz71 hI rfl hA rfl rfl (by decide) hb1) rfl fun a hA => 
          stp hA (r_fd (k := so (.slice (some ⟨g1, 0, none⟩) 1 1) + (0 : Int).toNat * 35 + 34) Try.underlying71 rfl sz25 hA rfl rfl) rfl fun a hA => ?_
        obtain ⟨A1, _, B1, hc3, hl1, hl2, he1⟩ := Els.at_ hE1 (getD_some default (by decide) hb1)
        obtain ⟨v1, rfl, hw1⟩ := he1
        have hE2 := Els.setAt (y := (⟨(([(⟨(⟨(List.replicate 32 0), 0⟩ : Point), [], IntKind.u32.wrap r2⟩ : In)] : List In).getD (0 : Int).toNat default).From, (([(⟨(⟨(List.replicate 32 0), 0⟩ : Point), [], IntKind.u32.wrap r2⟩ : In)] : List In).getD (0 : Int).toNat default).Key, bOr .u32 (IntKind.u32.wrap r2) 4194304⟩ : In)) (d := [av .u8 32 ((([(⟨(⟨(List.replicate 32 0), 0⟩ : Point), [], IntKind.u32.wrap r2⟩ : In)] : List In).getD (0 : Int).toNat default).From.Tx), [.int .u32 ((([(⟨(⟨(List.replicate 32 0), 0⟩ : Point), [], IntKind.u32.wrap r2⟩ : In)] : List In).getD (0 : Int).toNat default).From.N)], [v1], [.int .u32 (bOr .u32 (IntKind.u32.wrap r2) 4194304)]].flatten) hE1 hc3 (idx_lt (by decide) hb1) hl1 hl2 ⟨v1, rfl, ⟨hw1.1, hw1.2.1, hw1.2.2.1, (wrap_in _ _)⟩⟩ rfl
        refine o_rstPL (j := 1) (q := (0 : Int).toNat * 35) (off := 34) (m' := (([(⟨(⟨(List.replicate 32 0), 0⟩ : Point), [], IntKind.u32.wrap r2⟩ : In)] : List In).set (0 : Int).toNat (⟨(([(⟨(⟨(List.replicate 32 0), 0⟩ : Point), [], IntKind.u32.wrap r2⟩ : In)] : List In).getD (0 : Int).toNat default).From, (([(⟨(⟨(List.replicate 32 0), 0⟩ : Point), [], IntKind.u32.wrap r2⟩ : In)] : List In).getD (0 : Int).toNat default).Key, bOr .u32 (IntKind.u32.wrap r2) 4194304⟩ : In)).length) A1 B1 [av .u8 32 ((([(⟨(⟨(List.replicate 32 0), 0⟩ : Point), [], IntKind.u32.wrap r2⟩ : In)] : List In).getD (0 : Int).toNat default).From.Tx), [.int .u32 ((([(⟨(⟨(List.replicate 32 0), 0⟩ : Point), [], IntKind.u32.wrap r2⟩ : In)] : List In).getD (0 : Int).toNat default).From.N)], [v1]] [[.int .u32 ((([(⟨(⟨(List.replicate 32 0), 0⟩ : Point), [], IntKind.u32.wrap r2⟩ : In)] : List In).getD (0 : Int).toNat default).Seq)]] [[.int .u32 (bOr .u32 (IntKind.u32.wrap r2) 4194304)]] [] hc3 hl1 rfl sz25 rfl rfl (fl_cons (one_one rfl) fl_nil) hI rfl hA rfl rfl rfl (by omega) (by first | exact (List.length_set ..).symm | simp) fun w hI => ?_
        refine o_nil ?_
        refine hN13 _ _ ?_
        refine w_seq fun _ hN14 => ?_
        refine w_reg ?_
        refine stp hA (r_mv hA rfl) rfl fun a hA => 
          stp hA (r_as hA rfl) rfl fun a hA => ?_
        refine o_nil ?_
        refine hN14 _ _ ?_
        refine w_reg ?_
        refine stp hA (r_mv hA rfl) rfl fun a hA => 
          stp hA (r_mv hA rfl) rfl fun a hA => 
          stp hA (r_mul hA rfl rfl) rfl fun a hA => 
          stp hA (r_conv Try.underlying3 Try.underlying25 hA rfl) rfl fun a hA => 
          stp hA (r_add hA rfl rfl) rfl fun a hA => 
          stp hA (r_as hA rfl) rfl fun a hA => ?_
        refine o_nil ?_
        cases Option.some.inj (bS H)
        exact ⟨A1 ++ ([av .u8 32 ((([(⟨(⟨(List.replicate 32 0), 0⟩ : Point), [], IntKind.u32.wrap r2⟩ : In)] : List In).getD (0 : Int).toNat default).From.Tx), [.int .u32 ((([(⟨(⟨(List.replicate 32 0), 0⟩ : Point), [], IntKind.u32.wrap r2⟩ : In)] : List In).getD (0 : Int).toNat default).From.N)], [v1], [.int .u32 (bOr .u32 (IntKind.u32.wrap r2) 4194304)]].flatten ++ B1), hz3, (wrap_in _ _), hE2, hA.sub ⟨rfl, rfl, rfl, rfl, rfl, rfl, rfl, rfl, rfl, rfl, trivial⟩, hI⟩
      · have hc20 := hc2; have hc2 := ft hc2; have H := bF H hc2
        refine w_skip ?_
        cases Option.some.inj (bS H)
        exact ⟨cs1, (wrap_in _ _), (wrap_in _ _), hE1, hA.sub ⟨rfl, rfl, rfl, rfl, rfl, rfl, rfl, rfl, rfl, rfl, trivial⟩, hI⟩
    · rintro a w ⟨ccc3, wc1, wc2, wc3, hA, hI⟩
      have H := Hk1
      refine w_seq fun _ hN15 => ?_
      refine w_reg ?_
      refine stp hA (r_ldA (j := 0) [] [[.int .u32 2], [(.slice (some ⟨g1, 0, none⟩) 1 1)], [(.slice none 0 0)], [.int .u32 0]] [] Try.underlying67 rfl sz67 rfl hI rfl hA rfl rfl) rfl fun a hA => 
        stp hA (r_mv hA rfl) rfl fun a hA => ?_
      have hE3 : Els (RI .i64) 1 ([r3] : List Int) ([[.int .i64 r3]].flatten ++ ([])) := (Els.cons (c := [[.int .i64 r3]].flatten) ⟨rfl, hz3⟩ rfl Els.nil)
      refine o_bsl ([[.int .i64 r3]].flatten ++ ([])) te3 zr3 Try.underlying23 hI hA rfl rfl rfl rfl (by kernel_rfl) rfl fun g3 a w hA hI => ?_
      generalize hcs : ([[.int .i64 r3]].flatten ++ ([]) : List Value) = cs2 at hE3 hI
      clear hcs
      refine stp hA (r_mv hA rfl) rfl fun a hA => ?_
      have hE4 : Els (RI .u32) 1 ([bAnd .u32 x2 1073741823] : List Int) ([[.int .u32 (bAnd .u32 x2 1073741823)]].flatten ++ ([])) := (Els.cons (c := [[.int .u32 (bAnd .u32 x2 1073741823)]].flatten) ⟨rfl, (wrap_in _ _)⟩ rfl Els.nil)
      refine o_bsl ([[.int .u32 (bAnd .u32 x2 1073741823)]].flatten ++ ([])) te25 zr25 Try.underlying94 hI hA rfl rfl rfl rfl (by kernel_rfl) rfl fun g4 a w hA hI => ?_
      generalize hcs : ([[.int .u32 (bAnd .u32 x2 1073741823)]].flatten ++ ([]) : List Value) = cs3 at hE4 hI
      clear hcs
      refine stp hA (r_mv hA rfl) rfl fun a hA => 
        stp hA (r_mv hA rfl) rfl fun a hA => ?_
      obtain ⟨r4, hr4, H⟩ := bB H
      refine o_callp (u := .bool r4) cf82 hA rfl hI ((by obtain ⟨μ1, hle1, hsv1, hI⟩ := hI.freezeRow 3 rfl; have hS1 : Slc (RIn μ1) 35 μ1 (.slice (some ⟨g1, 0, none⟩) 1 1) c3 := ⟨_, (Els.mono wc3 (fun _ _ h => RIn.le hle1 h)), hsv1⟩; obtain ⟨μ2, hle2, hsv2, hI⟩ := hI.freezeRow 1 rfl; have hS2 : Slc (RI .i64) 1 μ2 (.slice (some ⟨g3, 0, none⟩) 1 1) ([r3] : List Int) := ⟨_, hE3, hsv2⟩; obtain ⟨μ3, hle3, hsv3, hI⟩ := hI.freezeRow 0 rfl; have hS3 : Slc (RI .u32) 1 μ3 (.slice (some ⟨g4, 0, none⟩) 1 1) ([bAnd .u32 x2 1073741823] : List Int) := ⟨_, hE4, hsv3⟩; exact low_plain ((hle1.trans hle2).trans hle3) (seq_Met.c μ3 _ hI.agr (⟨2, c3, [], 0⟩ : Tx) (.slice (some ⟨g1, 0, none⟩) 1 1) (.slice none 0 0) ⟨(in_lit .u32 2 rfl), (Slc.le hS1 (fun _ _ h => RIn.le (hle2.trans hle3) h) (hle2.trans hle3)), (slc_nil _ _ _), (in_lit .u32 0 rfl)⟩ ([r3] : List Int) (.slice (some ⟨g3, 0, none⟩) 1 1) (Slc.le hS2 (fun _ _ h => h) hle3) ([bAnd .u32 x2 1073741823] : List Int) (.slice (some ⟨g4, 0, none⟩) 1 1) hS3 c1 wc1 c2 wc2 r4 hr4))) rfl fun a w hz5 hI hA => 
        stp hA (r_as hA rfl) rfl fun a hA => ?_
      refine o_nil ?_
      refine hN15 _ _ ?_
      refine w_seq fun _ hN16 => ?_
      refine w_reg ?_
      refine stp hA (r_as hA rfl) rfl fun a hA => ?_
      refine o_nil ?_
      refine hN16 _ _ ?_
      obtain ⟨c4, hz6, Hk2⟩ := bB H
      refine w_cut (fun a w => Fr a 133 [(0, .int .i64 r2), (1, .int .i64 r3), (2, .int .u32 (bAnd .u32 x2 1073741823)), (3, .bool x3), (8, .bool false), (9, .bool r1), (10, .pointer (some ⟨g2, 0, none⟩)), (11, .int .i64 c1), (12, .int .u32 c2), (13, .bool r4), (14, .bool c4), (19, .bool (!r1))] ∧ Iv w0 [] μ μ [row 25 1 (.slice (some ⟨g4, 0, none⟩) 1 1) ([bAnd .u32 x2 1073741823] : List Int).length cs3, row 3 1 (.slice (some ⟨g3, 0, none⟩) 1 1) ([r3] : List Int).length cs2, cel g2 [[.int .u32 2], [(.slice (some ⟨g1, 0, none⟩) 1 1)], [(.slice none 0 0)], [.int .u32 0]] 67, row 71 35 (.slice (some ⟨g1, 0, none⟩) 1 1) c3.length ccc3] w) ?_ ?_
      · have H := bI hz6
        refine w_block ?_
        obtain ⟨c5, hz7, Hk3⟩ := bB H
        refine w_cut (fun a w => Fr a 133 [(0, .int .i64 r2), (1, .int .i64 r3), (2, .int .u32 (bAnd .u32 x2 1073741823)), (3, .bool x3), (8, .bool false), (9, .bool r1), (10, .pointer (some ⟨g2, 0, none⟩)), (11, .int .i64 c1), (12, .int .u32 c2), (13, .bool r4), (14, .bool false), (19, .bool (!r1)), (57, .bool c5)] ∧ Iv w0 [] μ μ [row 25 1 (.slice (some ⟨g4, 0, none⟩) 1 1) ([bAnd .u32 x2 1073741823] : List Int).length cs3, row 3 1 (.slice (some ⟨g3, 0, none⟩) 1 1) ([r3] : List Int).length cs2, cel g2 [[.int .u32 2], [(.slice (some ⟨g1, 0, none⟩) 1 1)], [(.slice none 0 0)], [.int .u32 0]] 67, row 71 35 (.slice (some ⟨g1, 0, none⟩) 1 1) c3.length ccc3] w) ?_ ?_
        · have H := bI hz7
          refine w_reg ?_
          refine stp hA (r_mv hA rfl) rfl fun a hA => 
            stp hA (r_mv hA rfl) rfl fun a hA => ?_
          rcases Bool.eq_false_or_eq_true x3 with hc4 | hc4
          · have hc40 := hc4; have H := bT H hc4
            refine o_yes hA rfl rfl hc40 <| 
              stp hA (r_mv hA rfl) rfl fun a hA => 
              o_yes hA rfl rfl hc40 <| 
              stp hA (r_gtr hA rfl rfl) rfl fun a hA => 
              stp hA (r_pick_t hA rfl hc40 rfl) rfl fun a hA => 
              stp hA (r_as hA rfl) rfl fun a hA => ?_
            refine o_nil ?_
            cases Option.some.inj (bS H)
            exact ⟨hA.sub ⟨rfl, rfl, rfl, rfl, rfl, rfl, rfl, rfl, rfl, rfl, rfl, rfl, rfl, trivial⟩, hI⟩
          · have hc40 := hc4; have hc4 := ft hc4; have H := bF H hc4
            refine o_no hA rfl rfl (by rw [hc40]; simp [vb]) rfl fun a hA => 
              o_no hA rfl rfl (by rw [hc40]; simp [vb]) rfl fun a hA => 
              stp hA (r_pick_f hA rfl hc40 rfl) rfl fun a hA => 
              stp hA (r_as hA rfl) rfl fun a hA => ?_
            refine o_nil ?_
            cases Option.some.inj (bS H)
            exact ⟨hA.sub ⟨rfl, rfl, rfl, rfl, rfl, rfl, rfl, rfl, rfl, rfl, rfl, rfl, rfl, trivial⟩, hI⟩
        · rintro a w ⟨hA, hI⟩
          have H := Hk3
          refine w_cond hA rfl (fun hc5 => ?_) (fun hc5 => ?_)
          · have hc50 := hc5; have H := bT H hc5
            refine w_reg ?_
            refine stp hA (r_ldA (j := 2) [] [[.int .u32 2], [(.slice (some ⟨g1, 0, none⟩) 1 1)], [(.slice none 0 0)], [.int .u32 0]] [] Try.underlying67 rfl sz67 rfl hI rfl hA rfl rfl) rfl fun a hA => 
              stp hA (r_mv hA rfl) rfl fun a hA => ?_
            have hE5 : Els (RI .i64) 1 ([r3] : List Int) ([[.int .i64 r3]].flatten ++ ([])) := (Els.cons (c := [[.int .i64 r3]].flatten) ⟨rfl, hz3⟩ rfl Els.nil)
            refine o_bsl ([[.int .i64 r3]].flatten ++ ([])) te3 zr3 Try.underlying23 hI hA rfl rfl rfl rfl (by kernel_rfl) rfl fun g5 a w hA hI => ?_
            generalize hcs : ([[.int .i64 r3]].flatten ++ ([]) : List Value) = cs4 at hE5 hI
            clear hcs
            refine stp hA (r_mv hA rfl) rfl fun a hA => ?_
            have hE6 : Els (RI .u32) 1 ([bAnd .u32 x2 1073741823] : List Int) ([[.int .u32 (bAnd .u32 x2 1073741823)]].flatten ++ ([])) := (Els.cons (c := [[.int .u32 (bAnd .u32 x2 1073741823)]].flatten) ⟨rfl, (wrap_in _ _)⟩ rfl Els.nil)
            refine o_bsl ([[.int .u32 (bAnd .u32 x2 1073741823)]].flatten ++ ([])) te25 zr25 Try.underlying94 hI hA rfl rfl rfl rfl (by kernel_rfl) rfl fun g6 a w hA hI => ?_
            generalize hcs : ([[.int .u32 (bAnd .u32 x2 1073741823)]].flatten ++ ([]) : List Value) = cs5 at hE6 hI
            clear hcs
            refine stp hA (r_mv hA rfl) rfl fun a hA => 
              stp hA (r_mv hA rfl) rfl fun a hA => 
              stp hA (r_sub hA rfl rfl) rfl fun a hA => ?_
            obtain ⟨r5, hr5, H⟩ := bB H
            refine o_callp (u := .bool r5) cf82 hA rfl hI ((by obtain ⟨μ4, hle4, hsv4, hI⟩ := hI.freezeRow 5 rfl; have hS4 : Slc (RIn μ4) 35 μ4 (.slice (some ⟨g1, 0, none⟩) 1 1) c3 := ⟨_, (Els.mono wc3 (fun _ _ h => RIn.le hle4 h)), hsv4⟩; obtain ⟨μ5, hle5, hsv5, hI⟩ := hI.freezeRow 1 rfl; have hS5 : Slc (RI .i64) 1 μ5 (.slice (some ⟨g5, 0, none⟩) 1 1) ([r3] : List Int) := ⟨_, hE5, hsv5⟩; obtain ⟨μ6, hle6, hsv6, hI⟩ := hI.freezeRow 0 rfl; have hS6 : Slc (RI .u32) 1 μ6 (.slice (some ⟨g6, 0, none⟩) 1 1) ([bAnd .u32 x2 1073741823] : List Int) := ⟨_, hE6, hsv6⟩; exact low_plain ((hle4.trans hle5).trans hle6) (seq_Met.c μ6 _ hI.agr (⟨2, c3, [], 0⟩ : Tx) (.slice (some ⟨g1, 0, none⟩) 1 1) (.slice none 0 0) ⟨(in_lit .u32 2 rfl), (Slc.le hS4 (fun _ _ h => RIn.le (hle5.trans hle6) h) (hle5.trans hle6)), (slc_nil _ _ _), (in_lit .u32 0 rfl)⟩ ([r3] : List Int) (.slice (some ⟨g5, 0, none⟩) 1 1) (Slc.le hS5 (fun _ _ h => h) hle6) ([bAnd .u32 x2 1073741823] : List Int) (.slice (some ⟨g6, 0, none⟩) 1 1) hS6 c1 wc1 (IntKind.u32.wrap (c2 - 1)) (wrap_in _ _) r5 hr5))) rfl fun a w hz8 hI hA => 
              stp hA (r_as hA rfl) rfl fun a hA => ?_
            refine o_nil ?_
            cases Option.some.inj (bS H)
            exact ⟨hA.sub ⟨rfl, rfl, rfl, rfl, rfl, rfl, rfl, rfl, rfl, rfl, rfl, rfl, trivial⟩, (hI.sel [2, 3, 4, 5] (by decide) rfl)⟩
          · have hc50 := hc5; have hc5 := ft hc5; have H := bF H hc5
            obtain ⟨c6, hz9, Hk4⟩ := bB H
            refine w_cut (fun a w => Fr a 133 [(0, .int .i64 r2), (1, .int .i64 r3), (2, .int .u32 (bAnd .u32 x2 1073741823)), (3, .bool x3), (8, .bool false), (9, .bool r1), (10, .pointer (some ⟨g2, 0, none⟩)), (11, .int .i64 c1), (12, .int .u32 c2), (13, .bool r4), (14, .bool false), (19, .bool (!r1)), (57, .bool c5), (72, .bool c6)] ∧ Iv w0 [] μ μ [row 25 1 (.slice (some ⟨g4, 0, none⟩) 1 1) ([bAnd .u32 x2 1073741823] : List Int).length cs3, row 3 1 (.slice (some ⟨g3, 0, none⟩) 1 1) ([r3] : List Int).length cs2, cel g2 [[.int .u32 2], [(.slice (some ⟨g1, 0, none⟩) 1 1)], [(.slice none 0 0)], [.int .u32 0]] 67, row 71 35 (.slice (some ⟨g1, 0, none⟩) 1 1) c3.length ccc3] w) ?_ ?_
            · have H := bI hz9
              refine w_reg ?_
              refine stp hA (r_mv hA rfl) rfl fun a hA => 
                stp hA (r_not hA rfl) rfl fun a hA => 
                stp hA (r_mv hA rfl) rfl fun a hA => ?_
              rcases Bool.eq_false_or_eq_true (!x3) with hc6 | hc6
              · have hc60 := hc6; have hc6 := nT hc6; have hc6 := ft hc6; have H := bF H hc6
                refine o_yes hA rfl rfl hc60 <| 
                  stp hA (r_mv hA rfl) rfl fun a hA => 
                  o_yes hA rfl rfl hc60 <| 
                  stp hA (r_gtr hA rfl rfl) rfl fun a hA => 
                  stp hA (r_pick_t hA rfl hc60 rfl) rfl fun a hA => 
                  stp hA (r_as hA rfl) rfl fun a hA => ?_
                refine o_nil ?_
                cases Option.some.inj (bS H)
                exact ⟨hA.sub ⟨rfl, rfl, rfl, rfl, rfl, rfl, rfl, rfl, rfl, rfl, rfl, rfl, rfl, rfl, trivial⟩, hI⟩
              · have hc60 := hc6; have hc6 := nF hc6; have H := bT H hc6
                refine o_no hA rfl rfl (by rw [hc60]; simp [vb]) rfl fun a hA => 
                  o_no hA rfl rfl (by rw [hc60]; simp [vb]) rfl fun a hA => 
                  stp hA (r_pick_f hA rfl hc60 rfl) rfl fun a hA => 
                  stp hA (r_as hA rfl) rfl fun a hA => ?_
                refine o_nil ?_
                cases Option.some.inj (bS H)
                exact ⟨hA.sub ⟨rfl, rfl, rfl, rfl, rfl, rfl, rfl, rfl, rfl, rfl, rfl, rfl, rfl, rfl, trivial⟩, hI⟩
            · rintro a w ⟨hA, hI⟩
              have H := Hk4
              refine w_cond hA rfl (fun hc7 => ?_) (fun hc7 => ?_)
              · have hc70 := hc7; have H := bT H hc7
                refine w_reg ?_
                refine stp hA (r_ldA (j := 2) [] [[.int .u32 2], [(.slice (some ⟨g1, 0, none⟩) 1 1)], [(.slice none 0 0)], [.int .u32 0]] [] Try.underlying67 rfl sz67 rfl hI rfl hA rfl rfl) rfl fun a hA => 
                  stp hA (r_mv hA rfl) rfl fun a hA => ?_
                have hE7 : Els (RI .i64) 1 ([r3] : List Int) ([[.int .i64 r3]].flatten ++ ([])) := (Els.cons (c := [[.int .i64 r3]].flatten) ⟨rfl, hz3⟩ rfl Els.nil)
                refine o_bsl ([[.int .i64 r3]].flatten ++ ([])) te3 zr3 Try.underlying23 hI hA rfl rfl rfl rfl (by kernel_rfl) rfl fun g7 a w hA hI => ?_
                generalize hcs : ([[.int .i64 r3]].flatten ++ ([]) : List Value) = cs6 at hE7 hI
                clear hcs
                refine stp hA (r_mv hA rfl) rfl fun a hA => ?_
                have hE8 : Els (RI .u32) 1 ([bAnd .u32 x2 1073741823] : List Int) ([[.int .u32 (bAnd .u32 x2 1073741823)]].flatten ++ ([])) := (Els.cons (c := [[.int .u32 (bAnd .u32 x2 1073741823)]].flatten) ⟨rfl, (wrap_in _ _)⟩ rfl Els.nil)
                refine o_bsl ([[.int .u32 (bAnd .u32 x2 1073741823)]].flatten ++ ([])) te25 zr25 Try.underlying94 hI hA rfl rfl rfl rfl (by kernel_rfl) rfl fun g8 a w hA hI => ?_
                generalize hcs : ([[.int .u32 (bAnd .u32 x2 1073741823)]].flatten ++ ([]) : List Value) = cs7 at hE8 hI
                clear hcs
                refine stp hA (r_mv hA rfl) rfl fun a hA => 
                  stp hA (r_sub hA rfl rfl) rfl fun a hA => 
                  stp hA (r_mv hA rfl) rfl fun a hA => ?_
                obtain ⟨r6, hr6, H⟩ := bB H
                refine o_callp (u := .bool r6) cf82 hA rfl hI ((by obtain ⟨μ7, hle7, hsv7, hI⟩ := hI.freezeRow 5 rfl; have hS7 : Slc (RIn μ7) 35 μ7 (.slice (some ⟨g1, 0, none⟩) 1 1) c3 := ⟨_, (Els.mono wc3 (fun _ _ h => RIn.le hle7 h)), hsv7⟩; obtain ⟨μ8, hle8, hsv8, hI⟩ := hI.freezeRow 1 rfl; have hS8 : Slc (RI .i64) 1 μ8 (.slice (some ⟨g7, 0, none⟩) 1 1) ([r3] : List Int) := ⟨_, hE7, hsv8⟩; obtain ⟨μ9, hle9, hsv9, hI⟩ := hI.freezeRow 0 rfl; have hS9 : Slc (RI .u32) 1 μ9 (.slice (some ⟨g8, 0, none⟩) 1 1) ([bAnd .u32 x2 1073741823] : List Int) := ⟨_, hE8, hsv9⟩; exact low_plain ((hle7.trans hle8).trans hle9) (seq_Met.c μ9 _ hI.agr (⟨2, c3, [], 0⟩ : Tx) (.slice (some ⟨g1, 0, none⟩) 1 1) (.slice none 0 0) ⟨(in_lit .u32 2 rfl), (Slc.le hS7 (fun _ _ h => RIn.le (hle8.trans hle9) h) (hle8.trans hle9)), (slc_nil _ _ _), (in_lit .u32 0 rfl)⟩ ([r3] : List Int) (.slice (some ⟨g7, 0, none⟩) 1 1) (Slc.le hS8 (fun _ _ h => h) hle9) ([bAnd .u32 x2 1073741823] : List Int) (.slice (some ⟨g8, 0, none⟩) 1 1) hS9 (IntKind.i64.wrap (c1 - 1)) (wrap_in _ _) c2 wc2 r6 hr6))) rfl fun a w hz10 hI hA => 
                  stp hA (r_as hA rfl) rfl fun a hA => ?_
                refine o_nil ?_
                cases Option.some.inj (bS H)
                exact ⟨hA.sub ⟨rfl, rfl, rfl, rfl, rfl, rfl, rfl, rfl, rfl, rfl, rfl, rfl, trivial⟩, (hI.sel [2, 3, 4, 5] (by decide) rfl)⟩
              · have hc70 := hc7; have hc7 := ft hc7; have H := bF H hc7
                refine w_skip ?_
                cases Option.some.inj (bS H)
                exact ⟨hA.sub ⟨rfl, rfl, rfl, rfl, rfl, rfl, rfl, rfl, rfl, rfl, rfl, rfl, trivial⟩, hI⟩
      · rintro a w ⟨hA, hI⟩
        have H := Hk2
        refine w_seq fun _ hN17 => ?_
        refine w_reg ?_
        refine stp hA (r_fd (k := 0) Try.underlying67 rfl sz25 hA rfl rfl) rfl fun a hA => 
          o_st (j := 2) [] [[.int .u32 2]] [[.int .u32 1]] [[(.slice (some ⟨g1, 0, none⟩) 1 1)], [(.slice none 0 0)], [.int .u32 0]] sz25 rfl rfl (fl_cons (one_one rfl) fl_nil) hI rfl hA rfl rfl rfl rfl fun w hI => ?_
        refine o_nil ?_
        refine hN17 _ _ ?_
        refine w_seq fun _ hN18 => ?_
        refine w_reg ?_
        refine stp hA (r_ldA (j := 2) [] [[.int .u32 1], [(.slice (some ⟨g1, 0, none⟩) 1 1)], [(.slice none 0 0)], [.int .u32 0]] [] Try.underlying67 rfl sz67 rfl hI rfl hA rfl rfl) rfl fun a hA => 
          stp hA (r_mv hA rfl) rfl fun a hA => ?_
        have hE9 : Els (RI .i64) 1 ([r3] : List Int) ([[.int .i64 r3]].flatten ++ ([])) := (Els.cons (c := [[.int .i64 r3]].flatten) ⟨rfl, hz3⟩ rfl Els.nil)
        refine o_bsl ([[.int .i64 r3]].flatten ++ ([])) te3 zr3 Try.underlying23 hI hA rfl rfl rfl rfl (by kernel_rfl) rfl fun g9 a w hA hI => ?_
        generalize hcs : ([[.int .i64 r3]].flatten ++ ([]) : List Value) = cs8 at hE9 hI
        clear hcs
        refine stp hA (r_mv hA rfl) rfl fun a hA => ?_
        have hE10 : Els (RI .u32) 1 ([bAnd .u32 x2 1073741823] : List Int) ([[.int .u32 (bAnd .u32 x2 1073741823)]].flatten ++ ([])) := (Els.cons (c := [[.int .u32 (bAnd .u32 x2 1073741823)]].flatten) ⟨rfl, (wrap_in _ _)⟩ rfl Els.nil)
        refine o_bsl ([[.int .u32 (bAnd .u32 x2 1073741823)]].flatten ++ ([])) te25 zr25 Try.underlying94 hI hA rfl rfl rfl rfl (by kernel_rfl) rfl fun g10 a w hA hI => ?_
        generalize hcs : ([[.int .u32 (bAnd .u32 x2 1073741823)]].flatten ++ ([]) : List Value) = cs9 at hE10 hI
        clear hcs
        obtain ⟨r7, hr7, H⟩ := bB H
        refine o_callp (u := .bool r7) cf82 hA rfl hI ((by obtain ⟨μ10, hle10, hsv10, hI⟩ := hI.freezeRow 5 rfl; have hS10 : Slc (RIn μ10) 35 μ10 (.slice (some ⟨g1, 0, none⟩) 1 1) c3 := ⟨_, (Els.mono wc3 (fun _ _ h => RIn.le hle10 h)), hsv10⟩; obtain ⟨μ11, hle11, hsv11, hI⟩ := hI.freezeRow 1 rfl; have hS11 : Slc (RI .i64) 1 μ11 (.slice (some ⟨g9, 0, none⟩) 1 1) ([r3] : List Int) := ⟨_, hE9, hsv11⟩; obtain ⟨μ12, hle12, hsv12, hI⟩ := hI.freezeRow 0 rfl; have hS12 : Slc (RI .u32) 1 μ12 (.slice (some ⟨g10, 0, none⟩) 1 1) ([bAnd .u32 x2 1073741823] : List Int) := ⟨_, hE10, hsv12⟩; exact low_plain ((hle10.trans hle11).trans hle12) (seq_Met.c μ12 _ hI.agr (⟨1, c3, [], 0⟩ : Tx) (.slice (some ⟨g1, 0, none⟩) 1 1) (.slice none 0 0) ⟨(in_lit .u32 1 rfl), (Slc.le hS10 (fun _ _ h => RIn.le (hle11.trans hle12) h) (hle11.trans hle12)), (slc_nil _ _ _), (in_lit .u32 0 rfl)⟩ ([r3] : List Int) (.slice (some ⟨g9, 0, none⟩) 1 1) (Slc.le hS11 (fun _ _ h => h) hle12) ([bAnd .u32 x2 1073741823] : List Int) (.slice (some ⟨g10, 0, none⟩) 1 1) hS12 0 (in_lit .i64 0 rfl) 0 (in_lit .u32 0 rfl) r7 hr7))) rfl fun a w hz11 hI hA => 
          stp hA (r_as hA rfl) rfl fun a hA => ?_
        refine o_nil ?_
        refine hN18 _ _ ?_
        refine w_seq fun _ hN19 => ?_
        refine w_reg ?_
        refine stp hA (r_fd (k := 0) Try.underlying67 rfl sz25 hA rfl rfl) rfl fun a hA => 
          o_st (j := 4) [] [[.int .u32 1]] [[.int .u32 2]] [[(.slice (some ⟨g1, 0, none⟩) 1 1)], [(.slice none 0 0)], [.int .u32 0]] sz25 rfl rfl (fl_cons (one_one rfl) fl_nil) hI rfl hA rfl rfl rfl rfl fun w hI => ?_
        refine o_nil ?_
        refine hN19 _ _ ?_
        refine w_seq fun _ hN20 => ?_
        refine w_any [10] mo hI fun w hI => ?_
        refine g_easy (i := 0) hA rfl rfl (by kernel_rfl) (.inr hI) (fun _ => r_fd (k := 1) Try.underlying67 rfl sz64 hA rfl rfl) rfl fun a hA => ?_
        refine g_take (i := 1) hA rfl rfl (by kernel_rfl) hI (fun w hI => r_ld1 (j := 4) [[.int .u32 2]] [[(.slice none 0 0)], [.int .u32 0]] Try.underlying64 rfl hI rfl hA rfl rfl) rfl fun a hA => ?_
        refine g_easy (i := 2) hA rfl rfl (by kernel_rfl) (.inr hI) (fun _ => r_fd (k := 1) Try.underlying67 rfl sz64 hA rfl rfl) rfl fun a hA => ?_
        refine g_take (i := 3) hA rfl rfl (by kernel_rfl) hI (fun w hI => r_ld1 (j := 4) [[.int .u32 2]] [[(.slice none 0 0)], [.int .u32 0]] Try.underlying64 rfl hI rfl hA rfl rfl) rfl fun a hA => ?_
        obtain ⟨hb2, H⟩ := bG H
        refine g_take (i := 4) hA rfl rfl (by kernel_rfl) hI (fun w hI => r_rix (j := 5) Try.underlying64 sz71 hI rfl hA rfl rfl (by decide) hb2) rfl fun a hA => ?_
        refine g_easy (i := 5) hA rfl rfl (by kernel_rfl) (.inr hI) (fun _ => r_fd (k := so (.slice (some ⟨g1, 0, none⟩) 1 1) + (0 : Int).toNat * 35 + 34) Try.underlying71 rfl sz25 hA rfl rfl) rfl fun a hA => ?_
        obtain ⟨A2, _, B2, hc8, hl3, _, he2⟩ := Els.at_ wc3 (getD_some default (by decide) hb2)
        obtain ⟨v2, rfl, hw2⟩ := he2
        refine g_take (i := 6) hA rfl rfl (by kernel_rfl) hI (fun w hI => r_rldQ (j := 5) (q := (0 : Int).toNat * 35) (off := 34) A2 B2 [av .u8 32 ((c3.getD (0 : Int).toNat default).From.Tx), [.int .u32 ((c3.getD (0 : Int).toNat default).From.N)], [v2]] [] hc8 hl3 rfl Try.underlying25 rfl hI rfl hA rfl) rfl fun a hA => ?_
        refine g_easy (i := 7) hA rfl rfl (by kernel_rfl) (.inr hI) (fun _ => r_or hA rfl rfl) rfl fun a hA => ?_
        refine g_take (i := 8) hA rfl rfl (by kernel_rfl) hI (fun w hI => r_rix (j := 5) Try.underlying64 sz71 hI rfl hA rfl rfl (by decide) hb2) rfl fun a hA => ?_
        refine g_easy (i := 9) hA rfl rfl (by kernel_rfl) (.inr hI) (fun _ => r_fd (k := so (.slice (some ⟨g1, 0, none⟩) 1 1) + (0 : Int).toNat * 35 + 34) Try.underlying71 rfl sz25 hA rfl rfl) rfl fun a hA => ?_
        refine g_forced (i := 10) rfl (by kernel_rfl) ?_
        obtain ⟨A3, _, B3, hc9, hl4, hl5, he3⟩ := Els.at_ wc3 (getD_some default (by decide) hb2)
        obtain ⟨v3, rfl, hw3⟩ := he3
        have hE11 := Els.setAt (y := (⟨(c3.getD (0 : Int).toNat default).From, (c3.getD (0 : Int).toNat default).Key, bOr .u32 ((c3.getD (0 : Int).toNat default).Seq) 2147483648⟩ : In)) (d := [av .u8 32 ((c3.getD (0 : Int).toNat default).From.Tx), [.int .u32 ((c3.getD (0 : Int).toNat default).From.N)], [v3], [.int .u32 (bOr .u32 ((c3.getD (0 : Int).toNat default).Seq) 2147483648)]].flatten) wc3 hc9 (idx_lt (by decide) hb2) hl4 hl5 ⟨v3, rfl, ⟨hw3.1, hw3.2.1, hw3.2.2.1, (wrap_in _ _)⟩⟩ rfl
        refine o_rstPL (j := 5) (q := (0 : Int).toNat * 35) (off := 34) (m' := (c3.set (0 : Int).toNat (⟨(c3.getD (0 : Int).toNat default).From, (c3.getD (0 : Int).toNat default).Key, bOr .u32 ((c3.getD (0 : Int).toNat default).Seq) 2147483648⟩ : In)).length) A3 B3 [av .u8 32 ((c3.getD (0 : Int).toNat default).From.Tx), [.int .u32 ((c3.getD (0 : Int).toNat default).From.N)], [v3]] [[.int .u32 ((c3.getD (0 : Int).toNat default).Seq)]] [[.int .u32 (bOr .u32 ((c3.getD (0 : Int).toNat default).Seq) 2147483648)]] [] hc9 hl4 rfl sz25 rfl rfl (fl_cons (one_one rfl) fl_nil) hI rfl hA rfl rfl rfl (by omega) (by first | exact (List.length_set ..).symm | simp) fun w hI => ?_
        refine o_nil ?_
        refine ⟨(.inl (by kernel_rfl)), ?_⟩
        refine g_nil (by kernel_rfl) ?_
        refine hN20 _ _ ?_
        refine w_seq fun _ hN21 => ?_
        refine w_reg ?_
        refine stp hA (r_ldA (j := 4) [] [[.int .u32 2], [(.slice (some ⟨g1, 0, none⟩) 1 1)], [(.slice none 0 0)], [.int .u32 0]] [] Try.underlying67 rfl sz67 rfl hI rfl hA rfl rfl) rfl fun a hA => 
          stp hA (r_mv hA rfl) rfl fun a hA => ?_
        have hE12 : Els (RI .i64) 1 ([r3] : List Int) ([[.int .i64 r3]].flatten ++ ([])) := (Els.cons (c := [[.int .i64 r3]].flatten) ⟨rfl, hz3⟩ rfl Els.nil)
        refine o_bsl ([[.int .i64 r3]].flatten ++ ([])) te3 zr3 Try.underlying23 hI hA rfl rfl rfl rfl (by kernel_rfl) rfl fun g11 a w hA hI => ?_
        generalize hcs : ([[.int .i64 r3]].flatten ++ ([]) : List Value) = cs10 at hE12 hI
        clear hcs
        refine stp hA (r_mv hA rfl) rfl fun a hA => ?_
        have hE13 : Els (RI .u32) 1 ([bAnd .u32 x2 1073741823] : List Int) ([[.int .u32 (bAnd .u32 x2 1073741823)]].flatten ++ ([])) := (Els.cons (c := [[.int .u32 (bAnd .u32 x2 1073741823)]].flatten) ⟨rfl, (wrap_in _ _)⟩ rfl Els.nil)
        refine o_bsl ([[.int .u32 (bAnd .u32 x2 1073741823)]].flatten ++ ([])) te25 zr25 Try.underlying94 hI hA rfl rfl rfl rfl (by kernel_rfl) rfl fun g12 a w hA hI => ?_
        generalize hcs : ([[.int .u32 (bAnd .u32 x2 1073741823)]].flatten ++ ([]) : List Value) = cs11 at hE13 hI
        clear hcs
        obtain ⟨r8, hr8, H⟩ := bB H
        refine o_callp (u := .bool r8) cf82 hA rfl hI ((by obtain ⟨μ13, hle13, hsv13, hI⟩ := hI.freezeRow 7 rfl; have hS13 : Slc (RIn μ13) 35 μ13 (.slice (some ⟨g1, 0, none⟩) 1 1) (c3.set (0 : Int).toNat (⟨(c3.getD (0 : Int).toNat default).From, (c3.getD (0 : Int).toNat default).Key, bOr .u32 ((c3.getD (0 : Int).toNat default).Seq) 2147483648⟩ : In)) := ⟨_, (Els.mono hE11 (fun _ _ h => RIn.le hle13 h)), hsv13⟩; obtain ⟨μ14, hle14, hsv14, hI⟩ := hI.freezeRow 1 rfl; have hS14 : Slc (RI .i64) 1 μ14 (.slice (some ⟨g11, 0, none⟩) 1 1) ([r3] : List Int) := ⟨_, hE12, hsv14⟩; obtain ⟨μ15, hle15, hsv15, hI⟩ := hI.freezeRow 0 rfl; have hS15 : Slc (RI .u32) 1 μ15 (.slice (some ⟨g12, 0, none⟩) 1 1) ([bAnd .u32 x2 1073741823] : List Int) := ⟨_, hE13, hsv15⟩; exact low_plain ((hle13.trans hle14).trans hle15) (seq_Met.c μ15 _ hI.agr (⟨2, c3.set (0 : Int).toNat (⟨(c3.getD (0 : Int).toNat default).From, (c3.getD (0 : Int).toNat default).Key, bOr .u32 ((c3.getD (0 : Int).toNat default).Seq) 2147483648⟩ : In), [], 0⟩ : Tx) (.slice (some ⟨g1, 0, none⟩) 1 1) (.slice none 0 0) ⟨(in_lit .u32 2 rfl), (Slc.le hS13 (fun _ _ h => RIn.le (hle14.trans hle15) h) (hle14.trans hle15)), (slc_nil _ _ _), (in_lit .u32 0 rfl)⟩ ([r3] : List Int) (.slice (some ⟨g11, 0, none⟩) 1 1) (Slc.le hS14 (fun _ _ h => h) hle15) ([bAnd .u32 x2 1073741823] : List Int) (.slice (some ⟨g12, 0, none⟩) 1 1) hS15 0 (in_lit .i64 0 rfl) 0 (in_lit .u32 0 rfl) r8 hr8))) rfl fun a w hz12 hI hA => 
          stp hA (r_as hA rfl) rfl fun a hA => ?_
        refine o_nil ?_
        refine hN21 _ _ ?_
        obtain ⟨c7, hz13, Hk5⟩ := bB H
        refine w_cut (fun a w => Fr a 133 [(0, .int .i64 r2), (1, .int .i64 r3), (2, .int .u32 (bAnd .u32 x2 1073741823)), (3, .bool x3), (8, .bool c7), (9, .bool r1), (10, .pointer (some ⟨g2, 0, none⟩)), (11, .int .i64 c1), (12, .int .u32 c2), (13, .bool r4), (14, .bool c4), (15, .bool r7), (16, .bool r8), (19, .bool (!r1))] ∧ Iv w0 [] μ μ [row 25 1 (.slice (some ⟨g12, 0, none⟩) 1 1) ([bAnd .u32 x2 1073741823] : List Int).length cs11, row 3 1 (.slice (some ⟨g11, 0, none⟩) 1 1) ([r3] : List Int).length cs10, row 25 1 (.slice (some ⟨g10, 0, none⟩) 1 1) ([bAnd .u32 x2 1073741823] : List Int).length cs9, row 3 1 (.slice (some ⟨g9, 0, none⟩) 1 1) ([r3] : List Int).length cs8, row 25 1 (.slice (some ⟨g4, 0, none⟩) 1 1) ([bAnd .u32 x2 1073741823] : List Int).length cs3, row 3 1 (.slice (some ⟨g3, 0, none⟩) 1 1) ([r3] : List Int).length cs2, cel g2 [[.int .u32 2], [(.slice (some ⟨g1, 0, none⟩) 1 1)], [(.slice none 0 0)], [.int .u32 0]] 67, row 71 35 (.slice (some ⟨g1, 0, none⟩) 1 1) (c3.set (0 : Int).toNat (⟨(c3.getD (0 : Int).toNat default).From, (c3.getD (0 : Int).toNat default).Key, bOr .u32 ((c3.getD (0 : Int).toNat default).Seq) 2147483648⟩ : In)).length (A3 ++ ([av .u8 32 ((c3.getD (0 : Int).toNat default).From.Tx), [.int .u32 ((c3.getD (0 : Int).toNat default).From.N)], [v3], [.int .u32 (bOr .u32 ((c3.getD (0 : Int).toNat default).Seq) 2147483648)]].flatten ++ B3))] w) ?_ ?_
        · have H := bI hz13
          refine w_reg ?_
          refine stp hA (r_mv hA rfl) rfl fun a hA => 
            stp hA (r_mv hA rfl) rfl fun a hA => ?_
          rcases Bool.eq_false_or_eq_true r1 with hc10 | hc10
          · have hc100 := hc10; have H := bT H hc10
            refine o_yes hA rfl rfl hc100 <| 
              stp hA (r_mv hA rfl) rfl fun a hA => 
              stp hA (r_pick_t hA rfl hc100 rfl) rfl fun a hA => 
              stp hA (r_mv hA rfl) rfl fun a hA => ?_
            rcases Bool.eq_false_or_eq_true r4 with hc11 | hc11
            · have hc110 := hc11; have H := bT H hc11
              refine o_yes hA rfl rfl hc110 <| 
                stp hA (r_mv hA rfl) rfl fun a hA => 
                o_yes hA rfl rfl hc110 <| 
                stp hA (r_not hA rfl) rfl fun a hA => 
                stp hA (r_pick_t hA rfl hc110 rfl) rfl fun a hA => 
                stp hA (r_mv hA rfl) rfl fun a hA => ?_
              rcases Bool.eq_false_or_eq_true (!c4) with hc12 | hc12
              · have hc120 := hc12; have hc12 := nT hc12; have hc12 := ft hc12; have H := bF H hc12
                refine o_yes hA rfl rfl hc120 <| 
                  stp hA (r_mv hA rfl) rfl fun a hA => 
                  stp hA (r_pick_t hA rfl hc120 rfl) rfl fun a hA => 
                  stp hA (r_mv hA rfl) rfl fun a hA => ?_
                rcases Bool.eq_false_or_eq_true r7 with hc13 | hc13
                · have hc130 := hc13; have H := bT H hc13
                  refine o_yes hA rfl rfl hc130 <| 
                    stp hA (r_mv hA rfl) rfl fun a hA => 
                    stp hA (r_pick_t hA rfl hc130 rfl) rfl fun a hA => 
                    stp hA (r_mv hA rfl) rfl fun a hA => ?_
                  rcases Bool.eq_false_or_eq_true r8 with hc14 | hc14
                  · have hc140 := hc14; have H := bT H hc14
                    refine o_yes hA rfl rfl hc140 <| 
                      stp hA (r_ldA (j := 6) [] [[.int .u32 2], [(.slice (some ⟨g1, 0, none⟩) 1 1)], [(.slice none 0 0)], [.int .u32 0]] [] Try.underlying67 rfl sz67 rfl hI rfl hA rfl rfl) rfl fun a hA => 
                      o_yes hA rfl rfl hc140 <| 
                      stp hA (r_mv hA rfl) rfl fun a hA => 
                      o_yes hA rfl rfl hc140 <| 
                      stp hA (r_mv hA rfl) rfl fun a hA => 
                      o_yes hA rfl rfl hc140 <| ?_
                    obtain ⟨r9, hr9, H⟩ := bB H
                    refine o_callp (u := .bool r9) cf82 hA rfl hI ((by obtain ⟨μ16, hle16, hsv16, hI⟩ := hI.freezeRow 7 rfl; have hS16 : Slc (RIn μ16) 35 μ16 (.slice (some ⟨g1, 0, none⟩) 1 1) (c3.set (0 : Int).toNat (⟨(c3.getD (0 : Int).toNat default).From, (c3.getD (0 : Int).toNat default).Key, bOr .u32 ((c3.getD (0 : Int).toNat default).Seq) 2147483648⟩ : In)) := ⟨_, (Els.mono hE11 (fun _ _ h => RIn.le hle16 h)), hsv16⟩; exact low_plain hle16 (seq_Met.c μ16 _ hI.agr (⟨2, c3.set (0 : Int).toNat (⟨(c3.getD (0 : Int).toNat default).From, (c3.getD (0 : Int).toNat default).Key, bOr .u32 ((c3.getD (0 : Int).toNat default).Seq) 2147483648⟩ : In), [], 0⟩ : Tx) (.slice (some ⟨g1, 0, none⟩) 1 1) (.slice none 0 0) ⟨(in_lit .u32 2 rfl), hS16, (slc_nil _ _ _), (in_lit .u32 0 rfl)⟩ ([]) (.slice none 0 0) (slc_nil _ _ _) ([]) (.slice none 0 0) (slc_nil _ _ _) c1 wc1 c2 wc2 r9 hr9))) rfl fun a w hz14 hI hA => 
                      o_yes hA rfl rfl hc140 <| 
                      stp hA (r_not hA rfl) rfl fun a hA => 
                      stp hA (r_pick_t hA rfl hc140 rfl) rfl fun a hA => 
                      stp hA (r_as hA rfl) rfl fun a hA => ?_
                    refine o_nil ?_
                    cases Option.some.inj (bS H)
                    exact ⟨hA.sub ⟨rfl, rfl, rfl, rfl, rfl, rfl, rfl, rfl, rfl, rfl, rfl, rfl, rfl, rfl, trivial⟩, hI⟩
                  · have hc140 := hc14; have hc14 := ft hc14; have H := bF H hc14
                    refine o_no hA rfl rfl (by rw [hc140]; simp [vb]) rfl fun a hA => 
                      o_no hA rfl rfl (by rw [hc140]; simp [vb]) rfl fun a hA => 
                      o_no hA rfl rfl (by rw [hc140]; simp [vb]) rfl fun a hA => 
                      o_no hA rfl rfl (by rw [hc140]; simp [vb]) rfl fun a hA => 
                      o_no hA rfl rfl (by rw [hc140]; simp [vb]) rfl fun a hA => 
                      stp hA (r_pick_f hA rfl hc140 rfl) rfl fun a hA => 
                      stp hA (r_as hA rfl) rfl fun a hA => ?_
                    refine o_nil ?_
                    cases Option.some.inj (bS H)
                    exact ⟨hA.sub ⟨rfl, rfl, rfl, rfl, rfl, rfl, rfl, rfl, rfl, rfl, rfl, rfl, rfl, rfl, trivial⟩, hI⟩
                · have hc130 := hc13; have hc13 := ft hc13; have H := bF H hc13
                  refine o_no hA rfl rfl (by rw [hc130]; simp [vb]) rfl fun a hA => 
                    stp hA (r_pick_f hA rfl hc130 rfl) rfl fun a hA => 
                    stp hA (r_mv hA rfl) rfl fun a hA => 
                    o_no hA rfl rfl (by simp [vb]) rfl fun a hA => 
                    o_no hA rfl rfl (by simp [vb]) rfl fun a hA => 
                    o_no hA rfl rfl (by simp [vb]) rfl fun a hA => 
                    o_no hA rfl rfl (by simp [vb]) rfl fun a hA => 
                    o_no hA rfl rfl (by simp [vb]) rfl fun a hA => 
                    stp hA (r_pick_f hA rfl rfl rfl) rfl fun a hA => 
                    stp hA (r_as hA rfl) rfl fun a hA => ?_
                  refine o_nil ?_
                  cases Option.some.inj (bS H)
                  exact ⟨hA.sub ⟨rfl, rfl, rfl, rfl, rfl, rfl, rfl, rfl, rfl, rfl, rfl, rfl, rfl, rfl, trivial⟩, hI⟩
              · have hc120 := hc12; have hc12 := nF hc12; have H := bT H hc12
                refine o_no hA rfl rfl (by rw [hc120]; simp [vb]) rfl fun a hA => 
                  stp hA (r_pick_f hA rfl hc120 rfl) rfl fun a hA => 
                  stp hA (r_mv hA rfl) rfl fun a hA => 
                  o_no hA rfl rfl (by simp [vb]) rfl fun a hA => 
                  stp hA (r_pick_f hA rfl rfl rfl) rfl fun a hA => 
                  stp hA (r_mv hA rfl) rfl fun a hA => 
                  o_no hA rfl rfl (by simp [vb]) rfl fun a hA => 
                  o_no hA rfl rfl (by simp [vb]) rfl fun a hA => 
                  o_no hA rfl rfl (by simp [vb]) rfl fun a hA => 
                  o_no hA rfl rfl (by simp [vb]) rfl fun a hA => 
                  o_no hA rfl rfl (by simp [vb]) rfl fun a hA => 
                  stp hA (r_pick_f hA rfl rfl rfl) rfl fun a hA => 
                  stp hA (r_as hA rfl) rfl fun a hA => ?_
                refine o_nil ?_
                cases Option.some.inj (bS H)
                exact ⟨hA.sub ⟨rfl, rfl, rfl, rfl, rfl, rfl, rfl, rfl, rfl, rfl, rfl, rfl, rfl, rfl, trivial⟩, hI⟩
            · have hc110 := hc11; have hc11 := ft hc11; have H := bF H hc11
              refine o_no hA rfl rfl (by rw [hc110]; simp [vb]) rfl fun a hA => 
                o_no hA rfl rfl (by rw [hc110]; simp [vb]) rfl fun a hA => 
                stp hA (r_pick_f hA rfl hc110 rfl) rfl fun a hA => 
                stp hA (r_mv hA rfl) rfl fun a hA => 
                o_no hA rfl rfl (by simp [vb]) rfl fun a hA => 
                stp hA (r_pick_f hA rfl rfl rfl) rfl fun a hA => 
                stp hA (r_mv hA rfl) rfl fun a hA => 
                o_no hA rfl rfl (by simp [vb]) rfl fun a hA => 
                stp hA (r_pick_f hA rfl rfl rfl) rfl fun a hA => 
                stp hA (r_mv hA rfl) rfl fun a hA => 
                o_no hA rfl rfl (by simp [vb]) rfl fun a hA => 
                o_no hA rfl rfl (by simp [vb]) rfl fun a hA => 
                o_no hA rfl rfl (by simp [vb]) rfl fun a hA => 
                o_no hA rfl rfl (by simp [vb]) rfl fun a hA => 
                o_no hA rfl rfl (by simp [vb]) rfl fun a hA => 
                stp hA (r_pick_f hA rfl rfl rfl) rfl fun a hA => 
                stp hA (r_as hA rfl) rfl fun a hA => ?_
              refine o_nil ?_
              cases Option.some.inj (bS H)
              exact ⟨hA.sub ⟨rfl, rfl, rfl, rfl, rfl, rfl, rfl, rfl, rfl, rfl, rfl, rfl, rfl, rfl, trivial⟩, hI⟩
          · have hc100 := hc10; have hc10 := ft hc10; have H := bF H hc10
            refine o_no hA rfl rfl (by rw [hc100]; simp [vb]) rfl fun a hA => 
              stp hA (r_pick_f hA rfl hc100 rfl) rfl fun a hA => 
              stp hA (r_mv hA rfl) rfl fun a hA => 
              o_no hA rfl rfl (by simp [vb]) rfl fun a hA => 
              o_no hA rfl rfl (by simp [vb]) rfl fun a hA => 
              stp hA (r_pick_f hA rfl rfl rfl) rfl fun a hA => 
              stp hA (r_mv hA rfl) rfl fun a hA => 
              o_no hA rfl rfl (by simp [vb]) rfl fun a hA => 
              stp hA (r_pick_f hA rfl rfl rfl) rfl fun a hA => 
              stp hA (r_mv hA rfl) rfl fun a hA => 
              o_no hA rfl rfl (by simp [vb]) rfl fun a hA => 
              stp hA (r_pick_f hA rfl rfl rfl) rfl fun a hA => 
              stp hA (r_mv hA rfl) rfl fun a hA => 
              o_no hA rfl rfl (by simp [vb]) rfl fun a hA => 
              o_no hA rfl rfl (by simp [vb]) rfl fun a hA => 
              o_no hA rfl rfl (by simp [vb]) rfl fun a hA => 
              o_no hA rfl rfl (by simp [vb]) rfl fun a hA => 
              o_no hA rfl rfl (by simp [vb]) rfl fun a hA => 
              stp hA (r_pick_f hA rfl rfl rfl) rfl fun a hA => 
              stp hA (r_as hA rfl) rfl fun a hA => ?_
            refine o_nil ?_
            cases Option.some.inj (bS H)
            exact ⟨hA.sub ⟨rfl, rfl, rfl, rfl, rfl, rfl, rfl, rfl, rfl, rfl, rfl, rfl, rfl, rfl, trivial⟩, hI⟩
        · rintro a w ⟨hA, hI⟩
          have H := Hk5
          refine w_ret ?_
          obtain rfl := Option.some.inj (bS H)
          exact ret1 hA Try.results22 rfl ⟨_, rfl, rfl, trivial, hI.forget0⟩
end Go.Proofs.Ytnbnnphlffhgiaa.T
