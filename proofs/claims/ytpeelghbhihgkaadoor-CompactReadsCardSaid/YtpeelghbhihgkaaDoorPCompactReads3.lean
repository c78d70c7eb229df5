/- Proved: the statement CompactReads, as given (its conditions are those of the given row, and card where there is one; no others): the call ends, with true, and the input reads as it did. This file is one of its parts. -/
import Derived.Test.YtpeelghbhihgkaaDoorPCompactReads2
import Derived.OpenShut
import Derived.ChangeArms
import Derived.DataReads
import Derived.WideShapes
import Derived.Below
import Derived.Carry
import Derived.ChangeOld
import Derived.LaidLaws
import Derived.Stop.ErrReads
import Derived.ChangeVars
import Derived.Test.YtpeelghbhihgkaaDoorRows
import Derived.Test.YtpeelghbhihgkaaDoorProg
import Derived.JoinedOf
import Derived.ProofKit
import Derived.WalkKit
import Derived.ShutString
import Derived.SizedLaws
import Derived.LaidHandle
import Derived.Handed
import Derived.SevenTiedAt
import Derived.Test.YtpeelghbhihgkaaDoorCards
import Derived.Test.YtpeelghbhihgkaaDoorTie
namespace Go.Proofs.YtpeelghbhihgkaaDoor.T
open Go Go.Proofs Go.Proofs.YtpeelghbhihgkaaDoor.K
set_option linter.unusedVariables false
set_option linter.unusedSimpArgs false
set_option maxRecDepth 20000 in
theorem sargassolaw2_CompactReads.c (μ : Store) (w0 : World) (hμ : Agr μ w0) (x0 : List Int) (u0 : Value) (hx0 : Slc (RI .u8) 1 μ u0 x0) (x1 : List sargassolaw2Do) (u1 : Value) (hx1 : Slc (Rsargassolaw2Do μ) 2 μ u1 x1) (hG : Gl μ) (r : Bool) (H : sargassolaw2_CompactReads.f x0 x1 = some r) :
    Calls Tryd.prog 6 [u0, u1].toArray w0 (fun e w' => ∃ v, e = .returned v ∧ v = .bool r ∧ True ∧ Iv w0 [] μ μ [] w') := by
  refine enter Tryd.func6 rfl Tryd.ntmps6 rfl fun a hA => ?_
  have hI := Iv.start hμ
  have H := bI H
  obtain ⟨e0, he0⟩ := hG.g0
  obtain ⟨e1, he1⟩ := hG.g1
  obtain ⟨e8, he8⟩ := hG.g8
  refine w_seq fun _ hN1 => ?_
  refine w_reg ?_
  refine stp hA (r_as hA rfl) rfl fun a hA => ?_
  refine o_nil ?_
  refine hN1 _ _ ?_
  refine w_seq fun _ hN2 => ?_
  refine w_reg ?_
  obtain ⟨r1, hr1, H⟩ := bB H
  refine o_callp (u := .bool r1) cf22 hA rfl hI (sargassolaw2_first.c μ _ hI.agr  r1 hr1) rfl fun a w hz1 hI hA => 
    stp hA (r_as hA rfl) rfl fun a hA => ?_
  refine o_nil ?_
  refine hN2 _ _ ?_
  refine w_seq fun _ hN3 => ?_
  refine w_seq fun _ hN4 => ?_
  refine w_reg ?_
  refine stp hA (r_mv hA rfl) rfl fun a hA => 
    stp hA (r_not hA rfl) rfl fun a hA => ?_
  refine o_nil ?_
  refine hN4 _ _ ?_
  refine w_cond hA rfl (fun hc1 => ?_) (fun hc1 => ?_)
  · have hc10 := hc1; have hc1 := nT hc1; have hc1 := ft hc1; have H := bF H hc1
    refine w_seq fun _ hN5 => ?_
    refine w_reg ?_
    refine stp hA (r_as hA rfl) rfl fun a hA => ?_
    refine o_nil ?_
    refine hN5 _ _ ?_
    refine w_ret ?_
    obtain rfl := Option.some.inj (bS H)
    exact ret1 hA Tryd.results6 rfl ⟨_, rfl, rfl, trivial, hI.forget0⟩
  · have hc10 := hc1; have hc1 := nF hc1; have H := bT H hc1
    refine w_skip ?_
    refine hN3 _ _ ?_
    refine w_seq fun _ hN6 => ?_
    obtain ⟨c1, hz2, Hk1⟩ := bB H
    refine w_cut (fun a w => Fr a 118 [(0, u0), (1, u1), (4, .bool false), (5, .bool r1), (12, .bool (!r1)), (20, .bool c1)] ∧ Iv w0 [] μ μ [] w) ?_ ?_
    · have H := bI hz2
      refine w_reg ?_
      refine stp hA (r_mv hA rfl) rfl fun a hA => ?_
      obtain ⟨_, hsl1⟩ := Slc.sv hx0
      refine stp hA (r_slen Tryd.underlying23 hsl1 hA rfl) rfl fun a hA => 
        stp hA (r_gtr hA rfl rfl) rfl fun a hA => 
        stp hA (r_mv hA rfl) rfl fun a hA => ?_
      rcases Bool.eq_false_or_eq_true (decide (300 < (x0.length : Int))) with hc2 | hc2
      · have hc20 := hc2; have hc2 := of_decide_eq_true hc2; have H := bT H hc2
        refine o_no hA rfl rfl (by rw [hc20]; simp [vb]) rfl fun a hA => 
          o_no hA rfl rfl (by rw [hc20]; simp [vb]) rfl fun a hA => 
          o_no hA rfl rfl (by rw [hc20]; simp [vb]) rfl fun a hA => 
          stp hA (r_pick_t hA rfl hc20 rfl) rfl fun a hA => ?_
        refine o_nil ?_
        cases Option.some.inj (bS H)
        exact ⟨hA.sub ⟨rfl, rfl, rfl, rfl, rfl, rfl, trivial⟩, hI⟩
      · have hc20 := hc2; have hc2 := of_decide_eq_false hc2; have H := bF H hc2
        refine o_yes hA rfl rfl hc20 <| 
          stp hA (r_mv hA rfl) rfl fun a hA => 
          o_yes hA rfl rfl hc20 <| ?_
        obtain ⟨_, hsl2⟩ := Slc.sv hx1
        refine stp hA (r_slen Tryd.underlying47 hsl2 hA rfl) rfl fun a hA => 
          o_yes hA rfl rfl hc20 <| 
          stp hA (r_gtr hA rfl rfl) rfl fun a hA => 
          stp hA (r_pick_f hA rfl hc20 rfl) rfl fun a hA => ?_
        refine o_nil ?_
        cases Option.some.inj (bS H)
        exact ⟨hA.sub ⟨rfl, rfl, rfl, rfl, rfl, rfl, trivial⟩, hI⟩
    · rintro a w ⟨hA, hI⟩
      have H := Hk1
      refine w_cond hA rfl (fun hc3 => ?_) (fun hc3 => ?_)
      · have hc30 := hc3; have H := bT H hc3
        refine w_seq fun _ hN7 => ?_
        refine w_reg ?_
        refine stp hA (r_mv hA rfl) rfl fun a hA => 
          stp hA (r_as hA rfl) rfl fun a hA => ?_
        refine o_nil ?_
        refine hN7 _ _ ?_
        refine w_ret ?_
        obtain rfl := Option.some.inj (bS H)
        exact ret1 hA Tryd.results6 rfl ⟨_, rfl, rfl, trivial, hI.forget0⟩
      · have hc30 := hc3; have hc3 := ft hc3; have H := bF H hc3
        refine w_skip ?_
        refine hN6 _ _ ?_
        refine w_seq fun _ hN8 => ?_
        refine w_reg ?_
        refine stp hA (r_mv hA rfl) rfl fun a hA => ?_
        obtain ⟨r2, hr2, H⟩ := bB H
        refine o_call _ cf25 hA rfl (compact_Read.c μ _ hI.agr x0 u0 hx0 r2 hr2) rfl fun v1 a w hz3 hA => ?_
        obtain ⟨g1, vp1, vp2, μ1, rfl, hp1, hp2, hp3, hi1⟩ := hz3
        have hI := hI.call hi1
        refine stp hA (r_as hA rfl) rfl fun a hA => ?_
        refine o_nil ?_
        refine hN8 _ _ ?_
        refine w_seq fun _ hN9 => ?_
        refine w_reg ?_
        refine stp hA (r_mv hA rfl) rfl fun a hA => 
          stp hA (r_bldS (cs := [[u0], [.int .i64 0]].flatten.toArray) (pl := [(0, 1), (1, 1)]) zr50 Tryd.underlying50 ⟨rfl, sz23, rfl, sz3, trivial⟩ hA rfl ((fill_one (cells1 (Slc.le hx0 (fun _ _ h => h) hi1.le)) rfl (by kernel_rfl)).trans (by kernel_rfl))) rfl fun a hA => 
          o_box [[u0], [.int .i64 0]] hI hA rfl rfl rfl fun g2 a w hA hI hg2 => 
          stp hA (r_as hA rfl) rfl fun a hA => ?_
        refine o_nil ?_
        refine hN9 _ _ ?_
        refine w_seq fun _ hN10 => ?_
        refine w_seq fun _ hN11 => ?_
        refine w_reg ?_
        refine stp hA (r_mv hA rfl) rfl fun a hA => 
          stp hA (r_ptrnil_eql Tryd.underlying27 hA rfl rfl) rfl fun a hA => ?_
        refine o_nil ?_
        refine hN11 _ _ ?_
        refine w_cF hA rfl rfl ?_
        refine w_skip ?_
        refine hN10 _ _ ?_
        refine w_seq fun _ hN12 => ?_
        refine w_seq fun _ hN13 => ?_
        refine w_reg ?_
        refine stp hA (r_as hA rfl) rfl fun a hA => ?_
        refine o_nil ?_
        refine hN13 _ _ ?_
        refine w_block ?_
        obtain ⟨z1, hz4, Hk2⟩ := bind_some H
        obtain ⟨n1, hn1⟩ := loopO_some hz4
        refine w_loop (fun n a w => ∃ (s1 : Int) (s2 : List Int) (s3 : Int) (s4 : List Int) (s5 : Int) (s6 : Er) (μ2 : Store) (vvs2 : Value) (vvs4 : Value) (vvs6 : Value), loopN (sargassolaw2_CompactReads.s0 x1 r1) n (s1, s2, s3, s4, s5, s6) = some z1 ∧ μ1.le μ2 ∧ InR .i64 s1 ∧ Slc (RI .u8) 1 μ2 vvs2 s2 ∧ InR .i64 s3 ∧ Slc (RI .u8) 1 μ2 vvs4 s4 ∧ InR .i64 s5 ∧ ErS μ2 vvs6 s6 ∧ Fr a 118 [(0, u0), (1, u1), (4, .bool false), (5, .bool r1), (6, .pointer (some ⟨g1, 0, none⟩)), (7, .pointer (some ⟨g2, 0, none⟩)), (8, .int .i64 s1), (12, .bool (!r1)), (20, .bool c1), (28, .bool false)] ∧ Iv w0 [] μ μ2 [cel g2 [[vvs2], [.int .i64 s3]] 50, cel g1 [[vvs4], [.int .i64 s5], [vvs6]] 143] w) n1 ⟨0, x0, 0, r2.b, r2.at_, r2.err, μ1, u0, vp1, vp2, hn1, (Store.le.refl _), (in_lit .i64 0 rfl), (Slc.le hx0 (fun _ _ h => h) hi1.le), (in_lit .i64 0 rfl), hp1, hp2, hp3, hA.sub ⟨rfl, rfl, rfl, rfl, rfl, rfl, rfl, rfl, rfl, rfl, trivial⟩, hI⟩ ?_
        clear hA hI
        rintro n a w ⟨s1, s2, s3, s4, s5, s6, μ2, vvs2, vvs4, vvs6, hn1, hle1, ws1, ws2, ws3, ws4, ws5, ws6, hA, hI⟩
        obtain ⟨m1, rfl, H⟩ := loopN_bind hn1
        clear hn1
        refine w_seq fun _ hN14 => ?_
        refine w_seq fun _ hN15 => ?_
        refine w_reg ?_
        refine stp hA (r_mv hA rfl) rfl fun a hA => 
          stp hA (r_mv hA rfl) rfl fun a hA => ?_
        obtain ⟨_, hsl3⟩ := Slc.sv (Slc.le hx1 (fun _ _ h => Rsargassolaw2Do.le (hi1.le.trans hle1) h) (hi1.le.trans hle1))
        refine stp hA (r_slen Tryd.underlying47 hsl3 hA rfl) rfl fun a hA => 
          stp hA (r_lss hA rfl rfl) rfl fun a hA => ?_
        refine o_nil ?_
        refine hN15 _ _ ?_
        refine w_cond hA rfl (fun hc4 => ?_) (fun hc4 => ?_)
        · have hc40 := hc4; have hc4 := of_decide_eq_true hc4; have H := bT H hc4
          refine w_skip ?_
          refine hN14 _ _ ?_
          refine w_seq fun _ hN16 => ?_
          refine w_block ?_
          refine w_seq fun _ hN17 => ?_
          refine w_reg ?_
          refine stp hA (r_as hA rfl) rfl fun a hA => ?_
          refine o_nil ?_
          refine hN17 _ _ ?_
          obtain ⟨⟨c2, c3, c4, c5, c6, c7⟩, hz5, Hk3⟩ := bB H
          refine w_cut (fun a w => ∃ (μ3 : Store) (vvc3 : Value) (vvc5 : Value) (vvc7 : Value), μ2.le μ3 ∧ Slc (RI .u8) 1 μ3 vvc3 c3 ∧ InR .i64 c4 ∧ Slc (RI .u8) 1 μ3 vvc5 c5 ∧ InR .i64 c6 ∧ ErS μ3 vvc7 c7 ∧ Fr a 118 [(0, u0), (1, u1), (4, .bool false), (5, .bool r1), (6, .pointer (some ⟨g1, 0, none⟩)), (7, .pointer (some ⟨g2, 0, none⟩)), (8, .int .i64 s1), (9, .bool c2), (12, .bool (!r1)), (20, .bool c1), (28, .bool false), (32, .bool (decide (s1 < (x1.length : Int))))] ∧ Iv w0 [] μ μ3 [cel g2 [[vvc3], [.int .i64 c4]] 50, cel g1 [[vvc5], [.int .i64 c6], [vvc7]] 143] w) ?_ ?_
          · have H := bI hz5
            refine w_seq fun _ hN18 => ?_
            refine w_reg ?_
            refine stp hA (r_mv hA rfl) rfl fun a hA => 
              stp hA (r_mv hA rfl) rfl fun a hA => ?_
            obtain ⟨hb1, H⟩ := bG H
            obtain ⟨_, he1, _, hat1⟩ := Slc.elem (Slc.le hx1 (fun _ _ h => Rsargassolaw2Do.le (hi1.le.trans hle1) h) (hi1.le.trans hle1)) (getD_some default hb1.1 hb1.2)
            obtain ⟨rfl, hw1⟩ := he1
            obtain ⟨_, hsl4⟩ := Slc.sv (Slc.le hx1 (fun _ _ h => Rsargassolaw2Do.le (hi1.le.trans hle1) h) (hi1.le.trans hle1))
            refine stp hA (r_six Tryd.underlying47 sz52 hsl4 hA rfl rfl hb1.1 hb1.2) rfl fun a hA => 
              stp hA (r_fd (k := so u1 + s1.toNat * 2) Tryd.underlying52 rfl sz3 hA rfl rfl) rfl fun a hA => 
              stp hA (r_ldm1 [] [[.int .i64 ((x1.getD s1.toNat default).N)]] Tryd.underlying3 rfl hI.agr hat1 hA rfl rfl) rfl fun a hA => ?_
            refine o_nil ?_
            refine hN18 _ _ ?_
            refine w_block ?_
            refine w_seq fun _ hN19 => ?_
            refine w_reg ?_
            refine stp hA (r_eql hA rfl rfl) rfl fun a hA => 
              stp hA (r_as hA rfl) rfl fun a hA => ?_
            refine o_nil ?_
            refine hN19 _ _ ?_
            refine w_cond hA rfl (fun hc5 => ?_) (fun hc5 => ?_)
            · have hc50 := hc5; have hc5 := of_decide_eq_true hc5; have H := bT H hc5
              refine w_anyS [] mo (fun w (h : Iv w0 [] μ μ2 [cel g2 [[vvs2], [.int .i64 s3]] 50, cel g1 [[vvs4], [.int .i64 s5], [vvs6]] 143] w) => (h.sel [] (by decide) rfl : Iv w0 [] μ μ2 [] w)) hI fun w hI => ?_
              refine g_easy (i := 0) hA rfl rfl (by kernel_rfl) (.inr (hI.sel [] (by decide) rfl)) (fun _ => r_mv hA rfl) rfl fun a hA => ?_
              refine g_easy (i := 1) hA rfl rfl (by kernel_rfl) (.inr (hI.sel [] (by decide) rfl)) (fun _ => r_mv hA rfl) rfl fun a hA => ?_
              refine g_easy (i := 2) hA rfl rfl (by kernel_rfl) (.inr (hI.sel [] (by decide) rfl)) (fun _ => r_mv hA rfl) rfl fun a hA => ?_
              refine g_easy (i := 3) hA rfl rfl (by kernel_rfl) (.inr (hI.sel [] (by decide) rfl)) (fun _ => r_six Tryd.underlying47 sz52 hsl4 hA rfl rfl hb1.1 hb1.2) rfl fun a hA => ?_
              refine g_easy (i := 4) hA rfl rfl (by kernel_rfl) (.inr (hI.sel [] (by decide) rfl)) (fun _ => r_fd (k := so u1 + s1.toNat * 2 + 1) Tryd.underlying52 rfl sz3 hA rfl rfl) rfl fun a hA => ?_
              refine g_take (i := 5) hA rfl rfl (by kernel_rfl) (hI.sel [] (by decide) rfl) (fun w hI => r_ldm1 [[.int .i64 ((x1.getD s1.toNat default).Kind)]] [] Tryd.underlying3 rfl hI.agr hat1 hA rfl rfl) rfl fun a hA => ?_
              refine g_easy (i := 6) hA rfl rfl (by kernel_rfl) (.inr (hI.sel [] (by decide) rfl)) (fun _ => r_conv Tryd.underlying3 Tryd.underlying22 hA rfl) rfl fun a hA => ?_
              refine g_easy (i := 8) hA rfl rfl (by kernel_rfl) (.inr (hI.sel [] (by decide) rfl)) (fun _ => r_mv hA rfl) rfl fun a hA => ?_
              refine g_easy (i := 9) hA rfl rfl (by kernel_rfl) (.inr (hI.sel [] (by decide) rfl)) (fun _ => r_mv hA rfl) rfl fun a hA => ?_
              refine g_easy (i := 10) hA rfl rfl (by kernel_rfl) (.inr (hI.sel [] (by decide) rfl)) (fun _ => r_mv hA rfl) rfl fun a hA => ?_
              refine g_easy (i := 11) hA rfl rfl (by kernel_rfl) (.inr (hI.sel [] (by decide) rfl)) (fun _ => r_six Tryd.underlying47 sz52 hsl4 hA rfl rfl hb1.1 hb1.2) rfl fun a hA => ?_
              refine g_easy (i := 12) hA rfl rfl (by kernel_rfl) (.inr (hI.sel [] (by decide) rfl)) (fun _ => r_fd (k := so u1 + s1.toNat * 2 + 1) Tryd.underlying52 rfl sz3 hA rfl rfl) rfl fun a hA => ?_
              refine g_take (i := 13) hA rfl rfl (by kernel_rfl) (hI.sel [] (by decide) rfl) (fun w hI => r_ldm1 [[.int .i64 ((x1.getD s1.toNat default).Kind)]] [] Tryd.underlying3 rfl hI.agr hat1 hA rfl rfl) rfl fun a hA => ?_
              refine g_easy (i := 14) hA rfl rfl (by kernel_rfl) (.inr (hI.sel [] (by decide) rfl)) (fun _ => r_conv Tryd.underlying3 Tryd.underlying22 hA rfl) rfl fun a hA => ?_
              refine g_forced (i := 7) rfl (by kernel_rfl) ?_
              obtain ⟨r3, hr3, H⟩ := bB H
              have hI := hI.sel [1, 0] (by decide) rfl
              refine o_call _ cf27 hA rfl (compact_Reader_Num.c μ2 _ hI.agr (⟨s4, s5, s6⟩ : compactReader) vvs4 vvs6 g1 ws4 ws5 ws6 (hI.handN 1) (IntKind.u64.wrap ((x1.getD s1.toNat default).N)) (wrap_in _ _) e0 (ErV.le (fun _ _ h => h) (hi1.le.trans hle1) he0) e1 (ErV.le (fun _ _ h => h) (hi1.le.trans hle1) he1) e8 (ErV.le (fun _ _ h => h) (hi1.le.trans hle1) he8) r3 hr3) rfl fun v2 a w hz6 hA => ?_
              obtain ⟨vp3, vp4, μ4, rfl, hw2, hp4, hp5, hp6, hi2⟩ := hz6
              have hI := hI.backN 1 hi2
              have hI : Iv w0 [] μ μ4 [cel g1 [[vp3], [.int .i64 r3.2.at_], [vp4]] 143, cel g2 [[vvs2], [.int .i64 s3]] 50] w := hI
              refine o_nil ?_
              refine ⟨(.inr ((hI.sel [] (by decide) rfl).less (hi1.le.trans hle1) hi2.le)), ?_⟩
              refine g_forced (i := 15) rfl (by kernel_rfl) ?_
              obtain ⟨r4, hr4, H⟩ := bB H
              have hI := hI.sel [1, 0] (by decide) rfl
              refine o_call _ cf38 hA rfl (sargassoref1_Reader_Num.c μ4 _ hI.agr (⟨s2, s3⟩ : sargassoref1Reader) vvs2 g2 (Slc.le ws2 (fun _ _ h => h) hi2.le) ws3 (hI.handN 1) (IntKind.u64.wrap ((x1.getD s1.toNat default).N)) (wrap_in _ _) r4 hr4) rfl fun v3 a w hz7 hA => ?_
              obtain ⟨vp5, μ5, rfl, hw3, hp7, hp8, hi3⟩ := hz7
              have hI := hI.backN 1 hi3
              have hI : Iv w0 [] μ μ5 [cel g2 [[vp5], [.int .i64 r4.2.E]] 50, cel g1 [[vp3], [.int .i64 r3.2.at_], [vp4]] 143] w := hI
              refine o_nil ?_
              refine ⟨(.inr ((hI.sel [] (by decide) rfl).less (hi1.le.trans hle1) (hi2.le.trans hi3.le))), ?_⟩
              refine g_easy (i := 16) hA rfl rfl (by kernel_rfl) (.inr ((hI.sel [] (by decide) rfl).less (hi1.le.trans hle1) (hi2.le.trans hi3.le))) (fun _ => r_eql hA rfl rfl) rfl fun a hA => ?_
              refine g_easy (i := 17) hA rfl rfl (by kernel_rfl) (.inr ((hI.sel [] (by decide) rfl).less (hi1.le.trans hle1) (hi2.le.trans hi3.le))) (fun _ => r_as hA rfl) rfl fun a hA => ?_
              refine g_nil (by kernel_rfl) ?_
              cases Option.some.inj (bS H)
              exact ⟨μ5, vp5, vp3, vp4, (hi2.le.trans hi3.le), hp7, hp8, (Slc.le hp4 (fun _ _ h => h) hi3.le), hp5, (ErV.le (fun _ _ h => h) hi3.le hp6), hA.sub ⟨rfl, rfl, rfl, rfl, rfl, rfl, rfl, rfl, rfl, rfl, rfl, rfl, trivial⟩, hI⟩
            · have hc50 := hc5; have hc5 := of_decide_eq_false hc5; have H := bF H hc5
              refine w_seq fun _ hN20 => ?_
              refine w_reg ?_
              refine stp hA (r_eql hA rfl rfl) rfl fun a hA => 
                stp hA (r_as hA rfl) rfl fun a hA => ?_
              refine o_nil ?_
              refine hN20 _ _ ?_
              refine w_cond hA rfl (fun hc6 => ?_) (fun hc6 => ?_)
              · have hc60 := hc6; have hc6 := of_decide_eq_true hc6; have H := bT H hc6
                refine w_reg ?_
                refine stp hA (r_mv hA rfl) rfl fun a hA => ?_
                obtain ⟨r5, hr5, H⟩ := bB H
                have hI := hI.sel [1, 0] (by decide) rfl
                refine o_call _ cf35 hA rfl (compact_Reader_Four.c μ2 _ hI.agr (⟨s4, s5, s6⟩ : compactReader) vvs4 vvs6 g1 ws4 ws5 ws6 (hI.handN 1) e8 (ErV.le (fun _ _ h => h) (hi1.le.trans hle1) he8) r5 hr5) rfl fun v4 a w hz8 hA => ?_
                obtain ⟨vp6, vp7, μ6, rfl, hw4, hp9, hp10, hp11, hi4⟩ := hz8
                have hI := hI.backN 1 hi4
                have hI : Iv w0 [] μ μ6 [cel g1 [[vp6], [.int .i64 r5.2.at_], [vp7]] 143, cel g2 [[vvs2], [.int .i64 s3]] 50] w := hI
                refine stp hA (r_mv hA rfl) rfl fun a hA => ?_
                obtain ⟨r6, hr6, H⟩ := bB H
                have hI := hI.sel [1, 0] (by decide) rfl
                refine o_call _ cf39 hA rfl (sargassoref1_Reader_Four.c μ6 _ hI.agr (⟨s2, s3⟩ : sargassoref1Reader) vvs2 g2 (Slc.le ws2 (fun _ _ h => h) hi4.le) ws3 (hI.handN 1) r6 hr6) rfl fun v5 a w hz9 hA => ?_
                obtain ⟨vp8, μ7, rfl, hw5, hp12, hp13, hi5⟩ := hz9
                have hI := hI.backN 1 hi5
                have hI : Iv w0 [] μ μ7 [cel g2 [[vp8], [.int .i64 r6.2.E]] 50, cel g1 [[vp6], [.int .i64 r5.2.at_], [vp7]] 143] w := hI
                refine stp hA (r_eql hA rfl rfl) rfl fun a hA => 
                  stp hA (r_as hA rfl) rfl fun a hA => ?_
                refine o_nil ?_
                cases Option.some.inj (bS H)
                exact ⟨μ7, vp8, vp6, vp7, (hi4.le.trans hi5.le), hp12, hp13, (Slc.le hp9 (fun _ _ h => h) hi5.le), hp10, (ErV.le (fun _ _ h => h) hi5.le hp11), hA.sub ⟨rfl, rfl, rfl, rfl, rfl, rfl, rfl, rfl, rfl, rfl, rfl, rfl, trivial⟩, hI⟩
              · have hc60 := hc6; have hc6 := of_decide_eq_false hc6; have H := bF H hc6
                refine w_seq fun _ hN21 => ?_
                refine w_reg ?_
                refine stp hA (r_eql hA rfl rfl) rfl fun a hA => 
                  stp hA (r_as hA rfl) rfl fun a hA => ?_
                refine o_nil ?_
                refine hN21 _ _ ?_
                refine w_cond hA rfl (fun hc7 => ?_) (fun hc7 => ?_)
                · have hc70 := hc7; have hc7 := of_decide_eq_true hc7; have H := bT H hc7
                  refine w_reg ?_
                  refine stp hA (r_mv hA rfl) rfl fun a hA => ?_
                  obtain ⟨r7, hr7, H⟩ := bB H
                  have hI := hI.sel [1, 0] (by decide) rfl
                  refine o_call _ cf34 hA rfl (compact_Reader_Eight.c μ2 _ hI.agr (⟨s4, s5, s6⟩ : compactReader) vvs4 vvs6 g1 ws4 ws5 ws6 (hI.handN 1) e8 (ErV.le (fun _ _ h => h) (hi1.le.trans hle1) he8) r7 hr7) rfl fun v6 a w hz10 hA => ?_
                  obtain ⟨vp9, vp10, μ8, rfl, hw6, hp14, hp15, hp16, hi6⟩ := hz10
                  have hI := hI.backN 1 hi6
                  have hI : Iv w0 [] μ μ8 [cel g1 [[vp9], [.int .i64 r7.2.at_], [vp10]] 143, cel g2 [[vvs2], [.int .i64 s3]] 50] w := hI
                  refine stp hA (r_mv hA rfl) rfl fun a hA => ?_
                  obtain ⟨r8, hr8, H⟩ := bB H
                  have hI := hI.sel [1, 0] (by decide) rfl
                  refine o_call _ cf40 hA rfl (sargassoref1_Reader_Eight.c μ8 _ hI.agr (⟨s2, s3⟩ : sargassoref1Reader) vvs2 g2 (Slc.le ws2 (fun _ _ h => h) hi6.le) ws3 (hI.handN 1) r8 hr8) rfl fun v7 a w hz11 hA => ?_
                  obtain ⟨vp11, μ9, rfl, hw7, hp17, hp18, hi7⟩ := hz11
                  have hI := hI.backN 1 hi7
                  have hI : Iv w0 [] μ μ9 [cel g2 [[vp11], [.int .i64 r8.2.E]] 50, cel g1 [[vp9], [.int .i64 r7.2.at_], [vp10]] 143] w := hI
                  refine stp hA (r_eql hA rfl rfl) rfl fun a hA => 
                    stp hA (r_as hA rfl) rfl fun a hA => ?_
                  refine o_nil ?_
                  cases Option.some.inj (bS H)
                  exact ⟨μ9, vp11, vp9, vp10, (hi6.le.trans hi7.le), hp17, hp18, (Slc.le hp14 (fun _ _ h => h) hi7.le), hp15, (ErV.le (fun _ _ h => h) hi7.le hp16), hA.sub ⟨rfl, rfl, rfl, rfl, rfl, rfl, rfl, rfl, rfl, rfl, rfl, rfl, trivial⟩, hI⟩
                · have hc70 := hc7; have hc7 := of_decide_eq_false hc7; have H := bF H hc7
                  refine w_seq fun _ hN22 => ?_
                  refine w_reg ?_
                  refine stp hA (r_eql hA rfl rfl) rfl fun a hA => 
                    stp hA (r_as hA rfl) rfl fun a hA => ?_
                  refine o_nil ?_
                  refine hN22 _ _ ?_
                  refine w_cond hA rfl (fun hc8 => ?_) (fun hc8 => ?_)
                  · have hc80 := hc8; have hc8 := of_decide_eq_true hc8; have H := bT H hc8
                    refine w_reg ?_
                    refine stp hA (r_mv hA rfl) rfl fun a hA => ?_
                    obtain ⟨r9, hr9, H⟩ := bB H
                    have hI := hI.sel [1, 0] (by decide) rfl
                    refine o_call _ cf42 hA rfl (compact_Reader_Hash.c μ2 _ hI.agr (⟨s4, s5, s6⟩ : compactReader) vvs4 vvs6 g1 ws4 ws5 ws6 (hI.handN 1) e8 (ErV.le (fun _ _ h => h) (hi1.le.trans hle1) he8) r9 hr9) rfl fun v8 a w hz12 hA => ?_
                    obtain ⟨vp12, vp13, μ10, rfl, hw8, hp19, hp20, hp21, hi8⟩ := hz12
                    have hI := hI.backN 1 hi8
                    have hI : Iv w0 [] μ μ10 [cel g1 [[vp12], [.int .i64 r9.2.at_], [vp13]] 143, cel g2 [[vvs2], [.int .i64 s3]] 50] w := hI
                    refine stp hA (r_mv hA rfl) rfl fun a hA => ?_
                    obtain ⟨r10, hr10, H⟩ := bB H
                    have hI := hI.sel [1, 0] (by decide) rfl
                    refine o_call _ cf43 hA rfl (sargassoref1_Reader_Hash.c μ10 _ hI.agr (⟨s2, s3⟩ : sargassoref1Reader) vvs2 g2 (Slc.le ws2 (fun _ _ h => h) hi8.le) ws3 (hI.handN 1) r10 hr10) rfl fun v9 a w hz13 hA => ?_
                    obtain ⟨vp14, μ11, rfl, hw9, hp22, hp23, hi9⟩ := hz13
                    have hI := hI.backN 1 hi9
                    have hI : Iv w0 [] μ μ11 [cel g2 [[vp14], [.int .i64 r10.2.E]] 50, cel g1 [[vp12], [.int .i64 r9.2.at_], [vp13]] 143] w := hI
                    obtain ⟨r11, hr11, H⟩ := bB H
                    refine o_callp (u := .bool r11) cf41 hA rfl hI (sargassoref_SameHash.c μ11 _ hI.agr r9.1 hw8 r10.1 hw9 r11 hr11) rfl fun a w hz14 hI hA => 
                      stp hA (r_as hA rfl) rfl fun a hA => ?_
                    refine o_nil ?_
                    cases Option.some.inj (bS H)
                    exact ⟨μ11, vp14, vp12, vp13, (hi8.le.trans hi9.le), hp22, hp23, (Slc.le hp19 (fun _ _ h => h) hi9.le), hp20, (ErV.le (fun _ _ h => h) hi9.le hp21), hA.sub ⟨rfl, rfl, rfl, rfl, rfl, rfl, rfl, rfl, rfl, rfl, rfl, rfl, trivial⟩, hI⟩
                  · have hc80 := hc8; have hc8 := of_decide_eq_false hc8; have H := bF H hc8
                    refine w_anyS [] mo (fun w (h : Iv w0 [] μ μ2 [cel g2 [[vvs2], [.int .i64 s3]] 50, cel g1 [[vvs4], [.int .i64 s5], [vvs6]] 143] w) => (h.sel [] (by decide) rfl : Iv w0 [] μ μ2 [] w)) hI fun w hI => ?_
                    refine g_easy (i := 0) hA rfl rfl (by kernel_rfl) (.inr (hI.sel [] (by decide) rfl)) (fun _ => r_mv hA rfl) rfl fun a hA => ?_
                    refine g_easy (i := 1) hA rfl rfl (by kernel_rfl) (.inr (hI.sel [] (by decide) rfl)) (fun _ => r_mv hA rfl) rfl fun a hA => ?_
                    refine g_easy (i := 2) hA rfl rfl (by kernel_rfl) (.inr (hI.sel [] (by decide) rfl)) (fun _ => r_mv hA rfl) rfl fun a hA => ?_
                    refine g_easy (i := 3) hA rfl rfl (by kernel_rfl) (.inr (hI.sel [] (by decide) rfl)) (fun _ => r_six Tryd.underlying47 sz52 hsl4 hA rfl rfl hb1.1 hb1.2) rfl fun a hA => ?_
                    refine g_easy (i := 4) hA rfl rfl (by kernel_rfl) (.inr (hI.sel [] (by decide) rfl)) (fun _ => r_fd (k := so u1 + s1.toNat * 2 + 1) Tryd.underlying52 rfl sz3 hA rfl rfl) rfl fun a hA => ?_
                    refine g_take (i := 5) hA rfl rfl (by kernel_rfl) (hI.sel [] (by decide) rfl) (fun w hI => r_ldm1 [[.int .i64 ((x1.getD s1.toNat default).Kind)]] [] Tryd.underlying3 rfl hI.agr hat1 hA rfl rfl) rfl fun a hA => ?_
                    refine g_easy (i := 7) hA rfl rfl (by kernel_rfl) (.inr (hI.sel [] (by decide) rfl)) (fun _ => r_mv hA rfl) rfl fun a hA => ?_
                    refine g_easy (i := 8) hA rfl rfl (by kernel_rfl) (.inr (hI.sel [] (by decide) rfl)) (fun _ => r_mv hA rfl) rfl fun a hA => ?_
                    refine g_easy (i := 9) hA rfl rfl (by kernel_rfl) (.inr (hI.sel [] (by decide) rfl)) (fun _ => r_mv hA rfl) rfl fun a hA => ?_
                    refine g_easy (i := 10) hA rfl rfl (by kernel_rfl) (.inr (hI.sel [] (by decide) rfl)) (fun _ => r_six Tryd.underlying47 sz52 hsl4 hA rfl rfl hb1.1 hb1.2) rfl fun a hA => ?_
                    refine g_easy (i := 11) hA rfl rfl (by kernel_rfl) (.inr (hI.sel [] (by decide) rfl)) (fun _ => r_fd (k := so u1 + s1.toNat * 2 + 1) Tryd.underlying52 rfl sz3 hA rfl rfl) rfl fun a hA => ?_
                    refine g_take (i := 12) hA rfl rfl (by kernel_rfl) (hI.sel [] (by decide) rfl) (fun w hI => r_ldm1 [[.int .i64 ((x1.getD s1.toNat default).Kind)]] [] Tryd.underlying3 rfl hI.agr hat1 hA rfl rfl) rfl fun a hA => ?_
                    refine g_forced (i := 6) rfl (by kernel_rfl) ?_
                    obtain ⟨r12, hr12, H⟩ := bB H
                    have hI := hI.sel [1, 0] (by decide) rfl
                    refine o_call _ cf37 hA rfl (compact_Reader_Bytes.c μ2 _ hI.agr (⟨s4, s5, s6⟩ : compactReader) vvs4 vvs6 g1 ws4 ws5 ws6 (hI.handN 1) ((x1.getD s1.toNat default).N) hw1.2 e8 (ErV.le (fun _ _ h => h) (hi1.le.trans hle1) he8) r12 hr12) rfl fun v10 a w hz15 hA => ?_
                    obtain ⟨_, cs1, vp15, vp16, μ12, rfl, hE1, hp24, hp25, hp26, hi10⟩ := hz15
                    have hI := hI.backN 1 hi10
                    have hI : Iv w0 [] μ μ12 [row 5 1 v10 r12.1.length cs1, cel g1 [[vp15], [.int .i64 r12.2.at_], [vp16]] 143, cel g2 [[vvs2], [.int .i64 s3]] 50] w := hI
                    refine o_nil ?_
                    refine ⟨(.inr ((hI.sel [] (by decide) rfl).less (hi1.le.trans hle1) hi10.le)), ?_⟩
                    refine g_forced (i := 13) rfl (by kernel_rfl) ?_
                    obtain ⟨r13, hr13, H⟩ := bB H
                    have hI := hI.sel [2, 0, 1] (by decide) rfl
                    refine o_call _ cf44 hA rfl (sargassoref1_Reader_Bytes.c μ12 _ hI.agr (⟨s2, s3⟩ : sargassoref1Reader) vvs2 g2 (Slc.le ws2 (fun _ _ h => h) hi10.le) ws3 (hI.handN 1) ((x1.getD s1.toNat default).N) hw1.2 r13 hr13) rfl fun v11 a w hz16 hA => ?_
                    obtain ⟨_, cs2, vp17, μ13, rfl, hE2, hp27, hp28, hi11⟩ := hz16
                    have hI := hI.backN 1 hi11
                    have hI : Iv w0 [] μ μ13 [row 5 1 v11 r13.1.length cs2, cel g2 [[vp17], [.int .i64 r13.2.E]] 50, row 5 1 v10 r12.1.length cs1, cel g1 [[vp15], [.int .i64 r12.2.at_], [vp16]] 143] w := hI
                    refine o_nil ?_
                    refine ⟨(.inr ((hI.sel [] (by decide) rfl).less (hi1.le.trans hle1) (hi10.le.trans hi11.le))), ?_⟩
                    refine g_forced (i := 14) rfl (by kernel_rfl) ?_
                    obtain ⟨r14, hr14, H⟩ := bB H
                    refine o_callp (u := .bool r14) cf36 hA rfl hI ((by obtain ⟨μ14, hle3, hsv1, hI⟩ := hI.freezeRow 2 rfl; have hS1 : Slc (RI .u8) 1 μ14 v10 r12.1 := ⟨_, hE1, hsv1⟩; obtain ⟨μ15, hle4, hsv2, hI⟩ := hI.freezeRow 0 rfl; have hS2 : Slc (RI .u8) 1 μ15 v11 r13.1 := ⟨_, hE2, hsv2⟩; exact low_plain (hle3.trans hle4) (sargassoref_SameBytes.c μ15 _ hI.agr r12.1 v10 (Slc.le hS1 (fun _ _ h => h) hle4) r13.1 v11 hS2 r14 hr14))) rfl fun a w hz17 hI hA => ?_
                    refine o_nil ?_
                    refine ⟨(.inr ((hI.sel [] (by decide) rfl).less (hi1.le.trans hle1) (hi10.le.trans hi11.le))), ?_⟩
                    refine g_easy (i := 15) hA rfl rfl (by kernel_rfl) (.inr ((hI.sel [] (by decide) rfl).less (hi1.le.trans hle1) (hi10.le.trans hi11.le))) (fun _ => r_as hA rfl) rfl fun a hA => ?_
                    refine g_nil (by kernel_rfl) ?_
                    cases Option.some.inj (bS H)
                    exact ⟨μ13, vp17, vp15, vp16, (hi10.le.trans hi11.le), hp27, hp28, (Slc.le hp24 (fun _ _ h => h) hi11.le), hp25, (ErV.le (fun _ _ h => h) hi11.le hp26), hA.sub ⟨rfl, rfl, rfl, rfl, rfl, rfl, rfl, rfl, rfl, rfl, rfl, rfl, trivial⟩, (hI.sel [1, 3] (by decide) rfl)⟩
          · rintro a w ⟨μ3, vvc3, vvc5, vvc7, hle2, wc3, wc4, wc5, wc6, wc7, hA, hI⟩
            have H := Hk3
            obtain ⟨c8, hz18, Hk4⟩ := bB H
            refine w_cut (fun a w => ∃ (μ16 : Store), μ3.le μ16 ∧ Fr a 118 [(0, u0), (1, u1), (4, .bool false), (5, .bool r1), (6, .pointer (some ⟨g1, 0, none⟩)), (7, .pointer (some ⟨g2, 0, none⟩)), (8, .int .i64 s1), (9, .bool c2), (12, .bool (!r1)), (20, .bool c1), (28, .bool false), (32, .bool (decide (s1 < (x1.length : Int)))), (116, .bool c8)] ∧ Iv w0 [] μ μ16 [cel g2 [[vvc3], [.int .i64 c4]] 50, cel g1 [[vvc5], [.int .i64 c6], [vvc7]] 143] w) ?_ ?_
            · have H := bI hz18
              refine w_any [] mo hI fun w hI => ?_
              refine g_easy (i := 0) hA rfl rfl (by kernel_rfl) (.inr hI) (fun _ => r_mv hA rfl) rfl fun a hA => ?_
              refine g_easy (i := 1) hA rfl rfl (by kernel_rfl) (.inr hI) (fun _ => r_not hA rfl) rfl fun a hA => ?_
              refine g_easy (i := 2) hA rfl rfl (by kernel_rfl) (.inr hI) (fun _ => r_mv hA rfl) rfl fun a hA => ?_
              rcases Bool.eq_false_or_eq_true (!c2) with hc9 | hc9
              · have hc90 := hc9; have hc9 := nT hc9; have hc9 := ft hc9; have H := bF H hc9
                refine g_skip (i := 3) hA rfl (wanted_no hA rfl rfl (by rw [hc90]; simp [vb])) (by kernel_rfl) (.inr hI) rfl fun a hA => ?_
                refine g_skip (i := 5) hA rfl (wanted_no hA rfl rfl (by rw [hc90]; simp [vb])) (by kernel_rfl) (.inr hI) rfl fun a hA => ?_
                refine g_skip (i := 6) hA rfl (wanted_no hA rfl rfl (by rw [hc90]; simp [vb])) (by kernel_rfl) (.inr hI) rfl fun a hA => ?_
                refine g_skip (i := 7) hA rfl (wanted_no hA rfl rfl (by rw [hc90]; simp [vb])) (by kernel_rfl) (.inr hI) rfl fun a hA => ?_
                refine g_skip (i := 8) hA rfl (wanted_no hA rfl rfl (by rw [hc90]; simp [vb])) (by kernel_rfl) (.inr hI) rfl fun a hA => ?_
                refine g_skip (i := 9) hA rfl (wanted_no hA rfl rfl (by rw [hc90]; simp [vb])) (by kernel_rfl) (.inr hI) rfl fun a hA => ?_
                refine g_skip (i := 4) hA rfl (wanted_no hA rfl rfl (by rw [hc90]; simp [vb])) (by kernel_rfl) (.inr hI) rfl fun a hA => ?_
                refine g_skip (i := 10) hA rfl (wanted_no hA rfl rfl (by rw [hc90]; simp [vb])) (by kernel_rfl) (.inr hI) rfl fun a hA => ?_
                refine g_easy (i := 11) hA rfl rfl (by kernel_rfl) (.inr hI) (fun _ => r_pick_t hA rfl hc90 rfl) rfl fun a hA => ?_
                refine g_easy (i := 12) hA rfl rfl (by kernel_rfl) (.inr hI) (fun _ => r_mv hA rfl) rfl fun a hA => ?_
                refine g_skip (i := 13) hA rfl (wanted_no hA rfl rfl (by simp [vb])) (by kernel_rfl) (.inr hI) rfl fun a hA => ?_
                refine g_skip (i := 15) hA rfl (wanted_no hA rfl rfl (by simp [vb])) (by kernel_rfl) (.inr hI) rfl fun a hA => ?_
                refine g_skip (i := 16) hA rfl (wanted_no hA rfl rfl (by simp [vb])) (by kernel_rfl) (.inr hI) rfl fun a hA => ?_
                refine g_skip (i := 17) hA rfl (wanted_no hA rfl rfl (by simp [vb])) (by kernel_rfl) (.inr hI) rfl fun a hA => ?_
                refine g_skip (i := 18) hA rfl (wanted_no hA rfl rfl (by simp [vb])) (by kernel_rfl) (.inr hI) rfl fun a hA => ?_
                refine g_skip (i := 14) hA rfl (wanted_no hA rfl rfl (by simp [vb])) (by kernel_rfl) (.inr hI) rfl fun a hA => ?_
                refine g_skip (i := 19) hA rfl (wanted_no hA rfl rfl (by simp [vb])) (by kernel_rfl) (.inr hI) rfl fun a hA => ?_
                refine g_skip (i := 20) hA rfl (wanted_no hA rfl rfl (by simp [vb])) (by kernel_rfl) (.inr hI) rfl fun a hA => ?_
                refine g_easy (i := 21) hA rfl rfl (by kernel_rfl) (.inr hI) (fun _ => r_pick_t hA rfl rfl rfl) rfl fun a hA => ?_
                refine g_nil (by kernel_rfl) ?_
                cases Option.some.inj (bS H)
                exact ⟨μ3, (Store.le.refl _), hA.sub ⟨rfl, rfl, rfl, rfl, rfl, rfl, rfl, rfl, rfl, rfl, rfl, rfl, rfl, trivial⟩, hI⟩
              · have hc90 := hc9; have hc9 := nF hc9; have H := bT H hc9
                refine g_easy (i := 3) hA rfl (wanted_yes hA rfl rfl hc90) (by kernel_rfl) (.inr hI) (fun _ => r_mv hA rfl) rfl fun a hA => ?_
                refine g_easy (i := 5) hA rfl (wanted_yes hA rfl rfl hc90) (by kernel_rfl) (.inr hI) (fun _ => r_mv hA rfl) rfl fun a hA => ?_
                refine g_easy (i := 6) hA rfl (wanted_yes hA rfl rfl hc90) (by kernel_rfl) (.inr hI) (fun _ => r_nilc hA rfl) rfl fun a hA => ?_
                refine g_easy (i := 7) hA rfl (wanted_yes hA rfl rfl hc90) (by kernel_rfl) (.inr hI) (fun _ => r_fd (k := 0) Tryd.underlying50 rfl sz23 hA rfl rfl) rfl fun a hA => ?_
                refine g_take (i := 8) hA rfl (wanted_yes hA rfl rfl hc90) (by kernel_rfl) hI (fun w hI => r_ld1 (j := 0) [] [[.int .i64 c4]] Tryd.underlying23 rfl hI rfl hA rfl rfl) rfl fun a hA => ?_
                obtain ⟨_, hsl5⟩ := Slc.sv wc3
                refine g_easy (i := 9) hA rfl (wanted_yes hA rfl rfl hc90) (by kernel_rfl) (.inr hI) (fun _ => r_slen Tryd.underlying23 hsl5 hA rfl) rfl fun a hA => ?_
                refine g_forced (i := 4) rfl (by kernel_rfl) ?_
                refine o_yes hA rfl rfl hc90 <| ?_
                obtain ⟨r15, hr15, H⟩ := bB H
                have hI := hI.sel [1, 0] (by decide) rfl
                refine o_call _ cf28 hA rfl (compact_Reader_Left.c μ3 _ hI.agr (⟨c5, c6, c7⟩ : compactReader) vvc5 vvc7 g1 wc5 wc6 wc7 (hI.handN 1) r15 hr15) rfl fun v12 a w hz19 hA => ?_
                obtain ⟨rfl, hw10, hi12⟩ := hz19
                have hI := hI.backN 1 hi12
                have hI : Iv w0 [] μ μ3 [cel g1 [[vvc5], [.int .i64 c6], [vvc7]] 143, cel g2 [[vvc3], [.int .i64 c4]] 50] w := hI
                refine o_nil ?_
                refine ⟨(.inr (hI.sel [1, 0] (by decide) rfl)), ?_⟩
                refine g_easy (i := 10) hA rfl (wanted_yes hA rfl rfl hc90) (by kernel_rfl) (.inr (hI.sel [1, 0] (by decide) rfl)) (fun _ => r_neq hA rfl rfl) rfl fun a hA => ?_
                refine g_easy (i := 11) hA rfl rfl (by kernel_rfl) (.inr (hI.sel [1, 0] (by decide) rfl)) (fun _ => r_pick_f hA rfl hc90 rfl) rfl fun a hA => ?_
                refine g_easy (i := 12) hA rfl rfl (by kernel_rfl) (.inr (hI.sel [1, 0] (by decide) rfl)) (fun _ => r_mv hA rfl) rfl fun a hA => ?_
                rcases Bool.eq_false_or_eq_true (decide (r15 ≠ (c3.length : Int))) with hc10 | hc10
                · have hc100 := hc10; have hc10 := of_decide_eq_true hc10; have H := bT H hc10
                  refine g_skip (i := 13) hA rfl (wanted_no hA rfl rfl (by rw [hc100]; simp [vb])) (by kernel_rfl) (.inr (hI.sel [1, 0] (by decide) rfl)) rfl fun a hA => ?_
                  refine g_skip (i := 15) hA rfl (wanted_no hA rfl rfl (by rw [hc100]; simp [vb])) (by kernel_rfl) (.inr (hI.sel [1, 0] (by decide) rfl)) rfl fun a hA => ?_
                  refine g_skip (i := 16) hA rfl (wanted_no hA rfl rfl (by rw [hc100]; simp [vb])) (by kernel_rfl) (.inr (hI.sel [1, 0] (by decide) rfl)) rfl fun a hA => ?_
                  refine g_skip (i := 17) hA rfl (wanted_no hA rfl rfl (by rw [hc100]; simp [vb])) (by kernel_rfl) (.inr (hI.sel [1, 0] (by decide) rfl)) rfl fun a hA => ?_
                  refine g_skip (i := 18) hA rfl (wanted_no hA rfl rfl (by rw [hc100]; simp [vb])) (by kernel_rfl) (.inr (hI.sel [1, 0] (by decide) rfl)) rfl fun a hA => ?_
                  refine g_skip (i := 14) hA rfl (wanted_no hA rfl rfl (by rw [hc100]; simp [vb])) (by kernel_rfl) (.inr (hI.sel [1, 0] (by decide) rfl)) rfl fun a hA => ?_
                  refine g_skip (i := 19) hA rfl (wanted_no hA rfl rfl (by rw [hc100]; simp [vb])) (by kernel_rfl) (.inr (hI.sel [1, 0] (by decide) rfl)) rfl fun a hA => ?_
                  refine g_skip (i := 20) hA rfl (wanted_no hA rfl rfl (by rw [hc100]; simp [vb])) (by kernel_rfl) (.inr (hI.sel [1, 0] (by decide) rfl)) rfl fun a hA => ?_
                  refine g_easy (i := 21) hA rfl rfl (by kernel_rfl) (.inr (hI.sel [1, 0] (by decide) rfl)) (fun _ => r_pick_t hA rfl hc100 rfl) rfl fun a hA => ?_
                  refine g_nil (by kernel_rfl) ?_
                  cases Option.some.inj (bS H)
                  exact ⟨μ3, (Store.le.refl _), hA.sub ⟨rfl, rfl, rfl, rfl, rfl, rfl, rfl, rfl, rfl, rfl, rfl, rfl, rfl, trivial⟩, (hI.sel [1, 0] (by decide) rfl)⟩
                · have hc100 := hc10; have hc10 := of_decide_eq_false hc10; have H := bF H hc10
                  refine g_easy (i := 13) hA rfl (wanted_yes hA rfl rfl hc100) (by kernel_rfl) (.inr (hI.sel [1, 0] (by decide) rfl)) (fun _ => r_mv hA rfl) rfl fun a hA => ?_
                  refine g_easy (i := 15) hA rfl (wanted_yes hA rfl rfl hc100) (by kernel_rfl) (.inr (hI.sel [1, 0] (by decide) rfl)) (fun _ => r_mv hA rfl) rfl fun a hA => ?_
                  refine g_easy (i := 16) hA rfl (wanted_yes hA rfl rfl hc100) (by kernel_rfl) (.inr (hI.sel [1, 0] (by decide) rfl)) (fun _ => r_nilc hA rfl) rfl fun a hA => ?_
                  refine g_easy (i := 17) hA rfl (wanted_yes hA rfl rfl hc100) (by kernel_rfl) (.inr (hI.sel [1, 0] (by decide) rfl)) (fun _ => r_fd (k := 1) Tryd.underlying50 rfl sz3 hA rfl rfl) rfl fun a hA => ?_
                  refine g_mono (I' := fun w => Iv w0 [] μ μ3 [cel g1 [[vvc5], [.int .i64 c6], [vvc7]] 143, cel g2 [[vvc3], [.int .i64 c4]] 50] w) (fun w h => (h.sel [1, 0] (by decide) rfl)) _ _ _ _ ?_
                  refine g_take (i := 18) hA rfl (wanted_yes hA rfl rfl hc100) (by kernel_rfl) hI (fun w hI => r_ld1 (j := 1) [[vvc3]] [] Tryd.underlying3 rfl hI rfl hA rfl rfl) rfl fun a hA => ?_
                  refine g_forced (i := 14) rfl (by kernel_rfl) ?_
                  refine o_yes hA rfl rfl hc100 <| ?_
                  obtain ⟨r16, hr16, H⟩ := bB H
                  refine o_call _ cf30 hA rfl (compact_Reader_Err.c μ3 _ hI.agr (⟨c5, c6, c7⟩ : compactReader) vvc5 vvc7 g1 wc5 wc6 wc7 (hI.handN 1) r16 hr16) rfl fun v13 a w hz20 hA => ?_
                  obtain ⟨_, μ17, rfl, hS3, hi13⟩ := hz20
                  have hI := hI.backN 1 hi13
                  have hI : Iv w0 [] μ μ17 [cel g1 [[vvc5], [.int .i64 c6], [vvc7]] 143, cel g2 [[vvc3], [.int .i64 c4]] 50] w := hI
                  refine o_nil ?_
                  refine ⟨(.inr (hI.less ((hi1.le.trans hle1).trans hle2) hi13.le)), ?_⟩
                  refine g_forced (i := 19) rfl (by kernel_rfl) ?_
                  refine o_yes hA rfl rfl hc100 <| ?_
                  obtain ⟨r17, hr17, H⟩ := bB H
                  refine o_callp (u := .bool r17) cf31 hA rfl hI (sargassosee_Is.c μ17 _ hI.agr r16 v13 hS3 c4 wc4 (Gl.le (((hi1.le.trans hle1).trans hle2).trans hi13.le) hG) r17 hr17) rfl fun a w hz21 hI hA => ?_
                  refine o_nil ?_
                  refine ⟨(.inr (hI.less ((hi1.le.trans hle1).trans hle2) hi13.le)), ?_⟩
                  refine g_easy (i := 20) hA rfl (wanted_yes hA rfl rfl hc100) (by kernel_rfl) (.inr (hI.less ((hi1.le.trans hle1).trans hle2) hi13.le)) (fun _ => r_not hA rfl) rfl fun a hA => ?_
                  refine g_easy (i := 21) hA rfl rfl (by kernel_rfl) (.inr (hI.less ((hi1.le.trans hle1).trans hle2) hi13.le)) (fun _ => r_pick_f hA rfl hc100 rfl) rfl fun a hA => ?_
                  refine g_nil (by kernel_rfl) ?_
                  cases Option.some.inj (bS H)
                  exact ⟨μ17, hi13.le, hA.sub ⟨rfl, rfl, rfl, rfl, rfl, rfl, rfl, rfl, rfl, rfl, rfl, rfl, rfl, trivial⟩, (hI.sel [1, 0] (by decide) rfl)⟩
            · rintro a w ⟨μ16, hle5, hA, hI⟩
              have H := Hk4
              refine w_cond hA rfl (fun hc11 => ?_) (fun hc11 => ?_)
              · have hc110 := hc11; have H := bT H hc11
                refine w_seq fun _ hN23 => ?_
                refine w_reg ?_
                refine stp hA (r_as hA rfl) rfl fun a hA => ?_
                refine o_nil ?_
                refine hN23 _ _ ?_
                refine w_ret ?_
                have H : some false = some z1 := H
                obtain rfl := Option.some.inj H
                have H := Hk2
                obtain rfl := Option.some.inj (bS H)
                exact ret1 hA Tryd.results6 rfl ⟨_, rfl, rfl, trivial, hI.forget0⟩
              · have hc110 := hc11; have hc11 := ft hc11; have H := bF H hc11
                refine w_skip ?_
                refine hN16 _ _ ?_
                refine w_reg ?_
                refine stp hA (r_mv hA rfl) rfl fun a hA => 
                  stp hA (r_add hA rfl rfl) rfl fun a hA => 
                  stp hA (r_as hA rfl) rfl fun a hA => ?_
                refine o_nil ?_
                exact ⟨m1, Nat.lt_succ_self _, IntKind.i64.wrap (s1 + 1), c3, c4, c5, c6, c7, μ16, vvc3, vvc5, vvc7, H, ((hle1.trans hle2).trans hle5), (wrap_in _ _), (Slc.le wc3 (fun _ _ h => h) hle5), wc4, (Slc.le wc5 (fun _ _ h => h) hle5), wc6, (ErV.le (fun _ _ h => h) hle5 wc7), hA.sub ⟨rfl, rfl, rfl, rfl, rfl, rfl, rfl, rfl, rfl, rfl, trivial⟩, hI⟩
        · have hc40 := hc4; have hc4 := of_decide_eq_false hc4; have H := bF H hc4
          refine w_exit rfl ?_
          refine hN12 _ _ ?_
          refine w_seq fun _ hN24 => ?_
          refine w_reg ?_
          refine stp hA (r_mv hA rfl) rfl fun a hA => 
            stp hA (r_as hA rfl) rfl fun a hA => ?_
          refine o_nil ?_
          refine hN24 _ _ ?_
          refine w_ret ?_
          have H : some r1 = some z1 := H
          obtain rfl := Option.some.inj H
          have H := Hk2
          obtain rfl := Option.some.inj (bS H)
          exact ret1 hA Tryd.results6 rfl ⟨_, rfl, rfl, trivial, hI.forget0⟩
end Go.Proofs.YtpeelghbhihgkaaDoor.T
namespace Go.Proofs.YtpeelghbhihgkaaDoor.T
open Go Go.Proofs Go.Proofs.YtpeelghbhihgkaaDoor.K
set_option linter.unusedVariables false
set_option linter.unusedSimpArgs false
def digest_keys.lit0 : List Int := [1116352408, 1899447441, 3049323471, 3921009573, 961987163, 1508970993, 2453635748, 2870763221, 3624381080, 310598401, 607225278, 1426881987, 1925078388, 2162078206, 2614888103, 3248222580, 3835390401, 4022224774, 264347078, 604807628, 770255983, 1249150122, 1555081692, 1996064986, 2554220882, 2821834349, 2952996808, 3210313671, 3336571891, 3584528711, 113926993, 338241895, 666307205, 773529912, 1294757372, 1396182291, 1695183700, 1986661051, 2177026350, 2456956037, 2730485921, 2820302411, 3259730800, 3345764771, 3516065817, 3600352804, 4094571909, 275423344, 430227734, 506948616, 659060556, 883997877, 958139571, 1322822218, 1537002063, 1747873779, 1955562222, 2024104815, 2227730452, 2361852424, 2428436474, 2756734187, 3204031479, 3329325298]
end Go.Proofs.YtpeelghbhihgkaaDoor.T
namespace Go.Proofs.YtpeelghbhihgkaaDoor.T
open Go Go.Proofs Go.Proofs.YtpeelghbhihgkaaDoor.K
set_option linter.unusedVariables false
theorem w64 {x : Int} (h0 : -9223372036854775808 ≤ x) (h1 : x < 9223372036854775808) : IntKind.i64.wrap x = x := wrap_id ⟨h0, h1⟩
theorem wu64 {x : Int} (h0 : 0 ≤ x) (h1 : x < 18446744073709551616) : IntKind.u64.wrap x = x := wrap_id ⟨h0, h1⟩
theorem wu32 {x : Int} (h0 : 0 ≤ x) (h1 : x < 4294967296) : IntKind.u32.wrap x = x := wrap_id ⟨h0, h1⟩
end Go.Proofs.YtpeelghbhihgkaaDoor.T
namespace Go.Proofs.YtpeelghbhihgkaaDoor.T
open Go Go.Proofs Go.Proofs.YtpeelghbhihgkaaDoor.K
set_option linter.unusedVariables false
set_option linter.unusedSimpArgs false
theorem loop_idx {τ ρ : Type} {step : τ → Option (τ ⊕ ρ)} (st : Nat → τ) (n : Nat) (h : ∀ i, i < n → step (st i) = some (.inl (st (i + 1)))) : loopO step (st 0) = loopO step (st n) := by
  induction n with
  | zero => rfl
  | succ n ih => rw [ih (fun i hi => h i (by omega)), loopO_inl (h n (by omega))]
theorem loop_run {τ ρ : Type} {step : τ → Option (τ ⊕ ρ)} (st : Nat → τ) (n : Nat) {r : ρ} {s : τ} (h0 : s = st 0) (h : ∀ i, i < n → step (st i) = some (.inl (st (i + 1)))) (hn : step (st n) = some (.inr r)) : loopO step s = some r := by
  rw [h0, loop_idx st n h, loopO_inr hn]
theorem loop_exists {τ ρ : Type} {step : τ → Option (τ ⊕ ρ)} (I : Nat → τ → Prop) (n : Nat) {r : ρ} {s : τ} (h0 : I 0 s) (h : ∀ i, i < n → ∀ s, I i s → ∃ s', step s = some (.inl s') ∧ I (i + 1) s') (hn : ∀ s, I n s → step s = some (.inr r)) : loopO step s = some r := by
  have key : ∀ m k s, k + m = n → I k s → loopO step s = some r := by
    intro m
    induction m with
    | zero => intro k s e hI; exact loopO_inr (hn s (by rw [← e]; exact hI))
    | succ m ih =>
      intro k s e hI
      obtain ⟨s', h1, h2⟩ := h k (by omega) s hI
      rw [loopO_inl h1]
      exact ih (k + 1) s' (by omega) h2
  exact key n 0 s (by omega) h0
theorem bv_nat (n a : Nat) (h : a < 2 ^ n) : (BitVec.ofInt n (a : Int)).toNat = a := by
  rw [BitVec.toNat_ofInt]
  have : ((a : Int) % ((2 ^ n : Nat) : Int)) = a := Int.emod_eq_of_lt (by omega) (by exact_mod_cast h)
  rw [this]
  rfl
theorem in_u (k : IntKind) (hk : k.signed = false) {a : Nat} (h : a < 2 ^ k.bits) : InR k (a : Int) := by
  cases k <;> simp [IntKind.signed] at hk <;> simp [IntKind.bits] at h <;> simp [InR] <;> omega
theorem bOr_nat (k : IntKind) (hk : k.signed = false) {a b : Nat} (ha : a < 2 ^ k.bits) (hb : b < 2 ^ k.bits) : bOr k a b = ((a ||| b : Nat) : Int) := by
  unfold bOr
  rw [BitVec.toNat_or, bv_nat _ _ ha, bv_nat _ _ hb]
  exact wrap_id (in_u k hk (Nat.or_lt_two_pow ha hb))
theorem sR_nat (k : IntKind) {a n : Nat} (hn : n ≤ k.bits) : sR k (a : Int) (n : Int) = ((a >>> n : Nat) : Int) := by
  unfold sR
  have e : min (n : Int).toNat k.bits = n := by simp; omega
  rw [e, Nat.shiftRight_eq_div_pow]
  rw [Int.fdiv_eq_ediv_of_nonneg _ (by exact Int.pow_nonneg (by omega))]
  push_cast
  rfl
end Go.Proofs.YtpeelghbhihgkaaDoor.T
namespace Go.Proofs.YtpeelghbhihgkaaDoor.T
open Go Go.Proofs Go.Proofs.YtpeelghbhihgkaaDoor.K
set_option linter.unusedVariables false
set_option linter.unusedSimpArgs false
def rotr (x n : Int) : Int := bOr .u32 (sR .u32 x n) (sL .u32 x (32 - n))
def wordAt (b : List Int) (p : Nat) : Int :=
  bOr .u32 (bOr .u32 (bOr .u32 (sL .u32 (IntKind.u32.wrap (b.getD p 0)) 24) (sL .u32 (IntKind.u32.wrap (b.getD (p + 1) 0)) 16)) (sL .u32 (IntKind.u32.wrap (b.getD (p + 2) 0)) 8)) (IntKind.u32.wrap (b.getD (p + 3) 0))
def sg0 (y : Int) : Int := bXor .u32 (bXor .u32 (rotr y 7) (rotr y 18)) (sR .u32 y 3)
def sg1 (x : Int) : Int := bXor .u32 (bXor .u32 (rotr x 17) (rotr x 19)) (sR .u32 x 10)
def schedVal (b : List Int) (p : Nat) (w : List Int) (t : Nat) : Int :=
  if t < 16 then wordAt b (p + 4 * t) else IntKind.u32.wrap (w.getD (t - 16) 0 + sg0 (w.getD (t - 15) 0) + w.getD (t - 7) 0 + sg1 (w.getD (t - 2) 0))
def schedR (b : List Int) (p : Nat) : Nat → List Int
  | 0 => List.replicate 64 0
  | t + 1 => (fun w => w.set t (schedVal b p w t)) (schedR b p t)
def kc : List Int := digest_keys.lit0
def rt1 (x : List Int) (k w : Int) : Int := IntKind.u32.wrap (x.getD 7 0 + bXor .u32 (bXor .u32 (rotr (x.getD 4 0) 6) (rotr (x.getD 4 0) 11)) (rotr (x.getD 4 0) 25) + bXor .u32 (bAnd .u32 (x.getD 4 0) (x.getD 5 0)) (bAnd .u32 (bNot .u32 (x.getD 4 0)) (x.getD 6 0)) + k + w)
def rt2 (x : List Int) : Int := bXor .u32 (bXor .u32 (rotr (x.getD 0 0) 2) (rotr (x.getD 0 0) 13)) (rotr (x.getD 0 0) 22) + bXor .u32 (bXor .u32 (bAnd .u32 (x.getD 0 0) (x.getD 1 0)) (bAnd .u32 (x.getD 0 0) (x.getD 2 0))) (bAnd .u32 (x.getD 1 0) (x.getD 2 0))
def rstep (x : List Int) (k w : Int) : List Int :=
  [IntKind.u32.wrap (rt1 x k w + rt2 x), x.getD 0 0, x.getD 1 0, x.getD 2 0, IntKind.u32.wrap (x.getD 3 0 + rt1 x k w), x.getD 4 0, x.getD 5 0, x.getD 6 0]
def roundR (w s : List Int) : Nat → List Int
  | 0 => s
  | t + 1 => rstep (roundR w s t) (kc.getD t 0) (w.getD t 0)
def addR (x s : List Int) : Nat → List Int
  | 0 => s
  | i + 1 => (fun z => z.set i (IntKind.u32.wrap (z.getD i 0 + x.getD i 0))) (addR x s i)
def mixV (s b : List Int) (p : Nat) : List Int := addR (roundR (schedR b p 64) s 64) s 8
def blocksR (m s : List Int) : Nat → List Int
  | 0 => s
  | n + 1 => mixV (blocksR m s n) m (64 * n)
def iv0 : List Int := [1779033703, 3144134277, 1013904242, 2773480762, 1359893119, 2600822924, 528734635, 1541459225]
def outB (s : List Int) (i : Nat) : Int := IntKind.u8.wrap (sR .u32 (s.getD (i / 4) 0) (24 - 8 * ((i % 4 : Nat) : Int)))
def outL (s : List Int) : List Int := (List.range 32).map (outB s)
def zs (n : Nat) : Nat := (120 - n % 64) % 64
def lenB (n i : Nat) : Int := IntKind.u8.wrap (sR .u64 (IntKind.u64.wrap (8 * (n : Int))) (8 * (7 - (i : Int))))
def padR (m : List Int) : List Int := m ++ ([128] ++ (List.replicate (zs (m.length + 1)) 0 ++ (List.range 8).map (lenB m.length)))
def sha (m : List Int) : List Int := outL (blocksR (padR m) iv0 ((padR m).length / 64))
end Go.Proofs.YtpeelghbhihgkaaDoor.T
namespace Go.Proofs.YtpeelghbhihgkaaDoor.T
open Go Go.Proofs Go.Proofs.YtpeelghbhihgkaaDoor.K
set_option linter.unusedVariables false
set_option linter.unusedSimpArgs false
theorem range_map_succ {α : Type} (f : Nat → α) (i : Nat) : (List.range (i + 1)).map f = (List.range i).map f ++ [f i] := by rw [List.range_succ, List.map_append]; rfl
end Go.Proofs.YtpeelghbhihgkaaDoor.T
namespace Go.Proofs.YtpeelghbhihgkaaDoor.T
open Go Go.Proofs Go.Proofs.YtpeelghbhihgkaaDoor.K
set_option linter.unusedVariables false
set_option linter.unusedSimpArgs false
theorem els_all {α : Type} {RE : α → List Value → Prop} {sz : Nat} {xs : List α} {cs : List Value} {Q : α → Prop} (h : Els RE sz xs cs) (f : ∀ x c, RE x c → Q x) : ∀ x ∈ xs, Q x := by
  induction h with
  | nil => simp
  | cons h _ _ ih =>
    intro y hy
    rcases List.mem_cons.1 hy with rfl | hy
    · exact f _ _ h
    · exact ih y hy
theorem slc_ints {k : IntKind} {μ : Store} {v : Value} {xs : List Int} (h : Slc (RI k) 1 μ v xs) : ∀ x ∈ xs, InR k x := by
  obtain ⟨cs, he, _⟩ := h
  exact els_all he fun x c hc => hc.2
theorem winc (i : Nat) (hi : i < 9223372036854775807) : IntKind.i64.wrap ((i : Int) + 1) = ((i + 1 : Nat) : Int) := by
  rw [w64 (by omega) (by omega)]; omega
theorem take_next {α : Type} (xs : List α) (i : Nat) (d : α) (h : i < xs.length) : xs.take i ++ [xs.getD i d] = xs.take (i + 1) := by
  rw [List.take_add_one]
  simp [List.getD, h]
theorem copy_run {α : Type} {step : (List α × Int) → Option ((List α × Int) ⊕ List α)} (xs : List α) (d : α) (h : xs.length < 9223372036854775807)
    (hs : ∀ i, i < xs.length → step (xs.take i, (i : Int)) = some (.inl (xs.take i ++ [xs.getD i d], IntKind.i64.wrap ((i : Int) + 1)))) (hn : step (xs, (xs.length : Int)) = some (.inr xs)) : loopO step ([], 0) = some xs :=
  loop_run (fun i => (xs.take i, (i : Int))) xs.length rfl (fun i hi => by
    rw [hs i hi, take_next _ _ _ hi, winc i (by omega)]) (by simpa using hn)
theorem bytes_eq (xs : List Int) (h : xs.length ≤ 140737488355328) : sargassoref_Bytes.f xs = some xs := by
  unfold sargassoref_Bytes.f
  rw [if_pos ⟨by omega, by omega, by omega⟩]
  simp only [Int.toNat_zero, List.replicate_zero]
  rw [copy_run xs 0 (by omega) (fun i hi => by
    simp only [sargassoref_Bytes.s0]
    rw [if_pos (by omega), if_pos (by omega), if_pos (by simp; omega), Int.toNat_natCast]) (by simp [sargassoref_Bytes.s0])]
  rfl
theorem all_run {step : Int → Option (Int ⊕ Bool)} (n : Nat) (p : Nat → Prop) [DecidablePred p] (hn : n < 9223372036854775807)
    (hs : ∀ i, i < n → step (i : Int) = if p i then some (.inl (IntKind.i64.wrap ((i : Int) + 1))) else some (.inr false)) (he : step (n : Int) = some (.inr true)) : loopO step 0 = some (decide (∀ i, i < n → p i)) := by
  have key : ∀ m k, m + k = n → (∀ i, i < k → p i) → loopO step (k : Int) = some (decide (∀ i, i < n → p i)) := by
    intro m
    induction m with
    | zero =>
      intro k e h
      obtain rfl : k = n := by omega
      rw [loopO_inr he]
      congr 1
      exact (decide_eq_true h).symm
    | succ m ih =>
      intro k e h
      have h1 := hs k (by omega)
      by_cases hp : p k
      · rw [if_pos hp, winc k (by omega)] at h1
        rw [loopO_inl h1]
        refine ih (k + 1) (by omega) fun i hi => ?_
        rcases Nat.lt_or_ge i k with h2 | h2
        · exact h i h2
        · obtain rfl : i = k := by omega
          exact hp
      · rw [if_neg hp] at h1
        rw [loopO_inr h1]
        have : ¬ ∀ i, i < n → p i := fun h2 => hp (h2 k (by omega))
        simp [this]
  exact key n 0 (by omega) (by simp)
theorem ext_iff {α : Type} (xs ys : List α) (d : α) (h : xs.length = ys.length) : (∀ i, i < xs.length → xs.getD i d = ys.getD i d) ↔ xs = ys := by
  constructor
  · intro hh
    apply List.ext_getElem h
    intro i h1 h2
    have := hh i h1
    simpa [List.getD, h1, h2] using this
  · rintro rfl i _
    rfl
theorem samehash_eq (a b : List Int) (ha : a.length = 32) (hb : b.length = 32) : sargassoref_SameHash.f a b = some (decide (a = b)) := by
  unfold sargassoref_SameHash.f
  rw [all_run 32 (fun i => a.getD i 0 = b.getD i 0) (by omega) (fun i hi => by
    simp only [sargassoref_SameHash.s0, Int.toNat_natCast]
    rw [if_pos (by omega), if_pos (by omega)]
    by_cases h : a.getD i 0 = b.getD i 0
    · rw [if_neg (by simpa using h), if_pos h]
    · rw [if_pos h, if_neg h]) (by simp [sargassoref_SameHash.s0])]
  congr 2
  apply propext
  have := ext_iff a b 0 (by rw [ha, hb])
  rw [ha] at this
  exact this
theorem samebytes_eq' (xs ys : List Int) (h : xs.length ≤ 140737488355328) : sargassoref_SameBytes.f xs ys = some (decide (xs = ys)) := by
  unfold sargassoref_SameBytes.f
  by_cases hl : xs.length = ys.length
  · rw [if_neg (by omega), all_run xs.length (fun i => xs.getD i 0 = ys.getD i 0) (by omega) (fun i hi => by
      simp only [sargassoref_SameBytes.s0, Int.toNat_natCast]
      rw [if_pos (by omega), if_pos (by omega), if_pos (by omega)]) (by simp [sargassoref_SameBytes.s0])]
    congr 2
    exact propext (ext_iff xs ys 0 hl)
  · rw [if_pos (by omega)]
    have : xs ≠ ys := fun e => hl (by rw [e])
    simp [this]
theorem samebytes_eq (xs : List Int) (h : xs.length ≤ 140737488355328) : sargassoref_SameBytes.f xs xs = some true := by
  rw [samebytes_eq' xs xs h]
  simp
end Go.Proofs.YtpeelghbhihgkaaDoor.T
namespace Go.Proofs.YtpeelghbhihgkaaDoor.T
open Go Go.Proofs Go.Proofs.YtpeelghbhihgkaaDoor.K
set_option linter.unusedVariables false
set_option linter.unusedSimpArgs false
def Hs (l : List (List Int)) : Prop := ∀ x ∈ l, x.length = 32
theorem Hs.at {l : List (List Int)} (h : Hs l) {i : Nat} (hi : i < l.length) : (l.getD i []).length = 32 := by
  have e : l.getD i [] = l[i] := by simp [List.getD, hi]
  rw [e]; exact h _ (List.getElem_mem hi)
def pr (a b : List Int) : List Int := sha (sha (a ++ b))
end Go.Proofs.YtpeelghbhihgkaaDoor.T
namespace Go.Proofs.YtpeelghbhihgkaaDoor.T
open Go Go.Proofs Go.Proofs.YtpeelghbhihgkaaDoor.K
set_option linter.unusedVariables false
set_option linter.unusedSimpArgs false
theorem u8e (x : Int) : IntKind.u8.wrap x = x % 256 := by simp [IntKind.wrap, IntKind.signed, IntKind.bits]
def lb (a m : Nat) : List Int := (List.range m).map fun j => ((a / 2 ^ (8 * j) % 256 : Nat) : Int)
theorem lb_len (a m : Nat) : (lb a m).length = m := by simp [lb]
theorem sR_div (k : IntKind) {a n : Nat} (hn : n ≤ k.bits) : sR k (a : Int) (n : Int) = ((a / 2 ^ n : Nat) : Int) := by
  rw [sR_nat k hn, Nat.shiftRight_eq_div_pow]
theorem number_eq' (r : List Int) (a k : Nat) (hk : k ≤ 100) (hl : r.length + k ≤ 140737488355328) : compact_number.f r (a : Int) (k : Int) = some (r ++ lb a k) := by
  simp only [compact_number.f]
  have h : loopO (compact_number.s0 (k : Int)) (r, (a : Int), 0) = some (r ++ lb a k, ((a / 2 ^ (8 * k) : Nat) : Int)) := by
    refine loop_run (fun j => (r ++ lb a j, ((a / 2 ^ (8 * j) : Nat) : Int), (j : Int))) k (by simp [lb]) (fun j hj => ?_) ?_
    · simp only [compact_number.s0]
      have e1 : IntKind.u8.wrap ((a / 2 ^ (8 * j) : Nat) : Int) = ((a / 2 ^ (8 * j) % 256 : Nat) : Int) := by rw [u8e]; generalize a / 2 ^ (8 * j) = q; omega
      have e2 : sR .u64 ((a / 2 ^ (8 * j) : Nat) : Int) 8 = ((a / 2 ^ (8 * (j + 1)) : Nat) : Int) := by
        have := sR_div .u64 (a := a / 2 ^ (8 * j)) (n := 8) (by decide)
        rw [Nat.div_div_eq_div_mul, ← Nat.pow_add] at this
        exact this
      rw [if_pos (by omega), if_pos (by simp [lb_len]; omega), e1, e2, winc j (by omega), List.append_assoc]
      have : lb a j ++ [((a / 2 ^ (8 * j) % 256 : Nat) : Int)] = lb a (j + 1) := by
        unfold lb; rw [range_map_succ]
      rw [this]
    · simp only [compact_number.s0]
      rw [if_neg (by omega)]
  rw [h, Option.bind_some]
structure HN where
  v : Nat
  p : List Int
  r : List Int
  t : Nat
  w : Nat
  n : Nat
deriving DecidableEq
def HN.h (h : HN) : Head := ⟨h.v, h.p, h.r, h.t, h.w, h.n⟩
def hb (h : HN) : List Int := lb h.v 4 ++ (h.p ++ (h.r ++ (lb h.t 4 ++ (lb h.w 4 ++ lb h.n 4))))
end Go.Proofs.YtpeelghbhihgkaaDoor.T
namespace Go.Proofs.YtpeelghbhihgkaaDoor.T
open Go Go.Proofs Go.Proofs.YtpeelghbhihgkaaDoor.K
set_option linter.unusedVariables false
set_option linter.unusedSimpArgs false
def sl : List Er := [xErrEnd, xErrShape, xErrLong, xErrMany, xErrValue, xErrTwice, xErrBase, xErrRoot, xErrKnown, xErrParent, xErrInvalid, xErrTime, xErrMissing, xErrKey, xErrYoung, xErrEarly, xErrLess, xErrReward, xErrClash, xErrLimit, xErrFull, xErrRange, xErrNone, xErrWord, xErrNumber]
theorem sl_plain : ∀ e ∈ sl, e ≠ .b 0 ∧ e.isP = false := by decide
theorem alike_eq {e f : Er} (he : e ≠ .b 0) (hf : f ≠ .b 0) (hp : e.isP = false) : sargassosee_Alike.f e f = some (decide (e = f)) := by
  simp only [sargassosee_Alike.f]
  rw [if_neg he, Option.bind_some, if_neg (by simpa using hf), if_pos]
  cases e with
  | pl _ _ => cases hp
  | b n =>
    cases f with
    | pl _ _ => cases n <;> rfl
    | b m =>
      cases n with
      | zero => exact absurd rfl he
      | succ n => rfl
theorem gd {α : Type} (l : List α) (d : α) {i : Nat} (h : i < l.length) : l.getD i d = l[i] := by simp [List.getD, h]
theorem sl_ne : ∀ i, i < 25 → ∀ j, j < 25 → i ≠ j → sl.getD i (.b 0) ≠ sl.getD j (.b 0) := by decide +kernel
theorem sentinel_at (k : Nat) (hk : k < 25) : sargassosee_sentinel.f (sl.getD k (.b 0)) = some (101 + (k : Int)) := by
  have hl : sl.length = 25 := rfl
  have hmem : ∀ i, i < 25 → sl.getD i (.b 0) ∈ sl := fun i hi => by
    have e := gd sl (.b 0) (i := i) (by omega)
    rw [e]; exact List.getElem_mem _
  have h0 : sargassosee_sentinels.f = some sl := rfl
  unfold sargassosee_sentinel.f
  rw [h0, Option.bind_some]
  have hs : ∀ i : Nat, i < 25 → sargassosee_sentinel.s0 (sl.getD k (.b 0)) sl (i : Int) = if k = i then some (.inr (IntKind.i64.wrap (101 + (i : Int)))) else some (.inl (IntKind.i64.wrap ((i : Int) + 1))) := fun i hi => by
    simp only [sargassosee_sentinel.s0]
    rw [if_pos (by omega), if_pos (by omega), Int.toNat_natCast, alike_eq (sl_plain _ (hmem k hk)).1 (sl_plain _ (hmem i hi)).1 (sl_plain _ (hmem k hk)).2, Option.bind_some]
    by_cases h : k = i
    · subst h; rw [if_pos (by simp), if_pos rfl]
    · rw [if_neg (by simpa using sl_ne k hk i hi h), if_neg h]
  have key := loop_idx (step := sargassosee_sentinel.s0 (sl.getD k (.b 0)) sl) (fun i => (i : Int)) k (fun i hi => by rw [hs i (by omega), if_neg (by omega), winc i (by omega)])
  have e0 : ((0 : Nat) : Int) = 0 := rfl
  simp only [e0] at key
  have h1 := hs k hk
  rw [if_pos rfl] at h1
  rw [key, loopO_inr h1, w64 (by omega) (by omega)]
theorem samefault_bare (a b : Int) : sargassoref_SameFault.f ⟨a, false, 0, false, 0⟩ ⟨b, false, 0, false, 0⟩ = some (decide (a = b)) := by
  simp only [sargassoref_SameFault.f]
  by_cases h : a = b
  · simp [h]
  · simp [h]
theorem is_nil (c : Int) : sargassosee_Is.f (.b 0) c = some (decide (0 = c)) := by
  simp only [sargassosee_Is.f, sargassosee_Same.f, sargassosee_Fault.f, sargassoref_Bare.f, sargassoref_None.f, Option.bind_some, if_true]
  rw [samefault_bare, Option.bind_some]; rfl
theorem fault_at (k : Nat) (hk : k < 25) : sargassosee_Fault.f (sl.getD k (.b 0)) = some ⟨101 + (k : Int), false, 0, false, 0⟩ := by
  have hm : sl.getD k (.b 0) ∈ sl := by
    have hl : sl.length = 25 := rfl
    have e := gd sl (.b 0) (i := k) (by omega)
    rw [e]; exact List.getElem_mem _
  obtain ⟨h1, h2⟩ := sl_plain _ hm
  simp only [sargassosee_Fault.f]
  rw [if_neg h1, if_neg (by rw [h2]; decide), sentinel_at k hk]
  rfl
theorem is_at (k : Nat) (hk : k < 25) (c : Int) : sargassosee_Is.f (sl.getD k (.b 0)) c = some (decide (101 + (k : Int) = c)) := by
  simp only [sargassosee_Is.f, sargassosee_Same.f, sargassoref_Bare.f, Option.bind_some]
  rw [fault_at k hk, Option.bind_some, samefault_bare, Option.bind_some, Option.bind_some]
def cd (e : Er) : Int := if e = .b 0 then 0 else 101 + (sl.idxOf e : Int)
def Kn (e : Er) : Prop := e = .b 0 ∨ e ∈ sl
theorem is_eq {e : Er} (h : Kn e) (c : Int) : sargassosee_Is.f e c = some (decide (cd e = c)) := by
  rcases h with rfl | h
  · rw [is_nil]; rfl
  · have hk : sl.idxOf e < 25 := List.idxOf_lt_length_of_mem h
    have e1 : sl.getD (sl.idxOf e) (.b 0) = e := by
      rw [gd sl (.b 0) (List.idxOf_lt_length_of_mem h)]
      exact List.getElem_idxOf _
    have := is_at (sl.idxOf e) hk c
    rw [e1] at this
    rw [this]
    unfold cd
    rw [if_neg (sl_plain _ h).1]
theorem cd_eq {e f : Er} (he : Kn e) (hf : Kn f) : cd e = cd f ↔ e = f := by
  constructor
  · intro h
    unfold cd at h
    rcases he with rfl | he
    · rcases hf with rfl | hf
      · rfl
      · rw [if_pos rfl, if_neg (sl_plain _ hf).1] at h; omega
    · rw [if_neg (sl_plain _ he).1] at h
      rcases hf with rfl | hf
      · rw [if_pos rfl] at h; omega
      · rw [if_neg (sl_plain _ hf).1] at h
        have h' : sl.idxOf e = sl.idxOf f := by omega
        have h1 : sl.idxOf e < sl.length := List.idxOf_lt_length_of_mem he
        have h2 : sl.idxOf f < sl.length := List.idxOf_lt_length_of_mem hf
        have e1 : sl[sl.idxOf e] = e := List.getElem_idxOf _
        have e2 : sl[sl.idxOf f] = f := List.getElem_idxOf _
        rw [← e1, ← e2]
        congr 1
  · rintro rfl; rfl
end Go.Proofs.YtpeelghbhihgkaaDoor.T
namespace Go.Proofs.YtpeelghbhihgkaaDoor.T
open Go Go.Proofs Go.Proofs.YtpeelghbhihgkaaDoor.K
set_option linter.unusedVariables false
set_option linter.unusedSimpArgs false
def Bs (l : List Int) : Prop := ∀ x ∈ l, InR .u8 x
theorem Bs.app {l m : List Int} (h : Bs l) (k : Bs m) : Bs (l ++ m) := fun x hx => (List.mem_append.1 hx).elim (h x) (k x)
theorem Bs.take {l : List Int} (h : Bs l) (n : Nat) : Bs (l.take n) := fun x hx => h x (List.mem_of_mem_take hx)
theorem Bs.drop {l : List Int} (h : Bs l) (n : Nat) : Bs (l.drop n) := fun x hx => h x (List.mem_of_mem_drop hx)
theorem bs_nil : Bs [] := fun x hx => by cases hx
theorem bs_slc {μ : Store} {v : Value} {l : List Int} (h : Slc (RI .u8) 1 μ v l) : Bs l := slc_ints h
def vl : List Int → Nat
  | [] => 0
  | b :: l => b.toNat + 256 * vl l
theorem vl_snoc (l : List Int) (b : Int) : vl (l ++ [b]) = vl l + 256 ^ l.length * b.toNat := by
  induction l with
  | nil => simp [vl]
  | cons x l ih => simp only [List.cons_append, vl, ih, List.length_cons, Nat.pow_succ]; rw [Nat.mul_add, Nat.mul_comm (256 ^ l.length) 256, Nat.mul_assoc]; omega
theorem vl_lt {l : List Int} (h : Bs l) : vl l < 256 ^ l.length := by
  induction l with
  | nil => simp [vl]
  | cons x l ih =>
    have h1 := ih fun y hy => h y (by simp [hy])
    obtain ⟨h2, h3⟩ := h x (by simp)
    simp only [vl, List.length_cons, Nat.pow_succ]
    omega
theorem or_shift (a b i : Nat) (ha : a < 256 ^ i) (hb : b < 256) (hi : i < 8) : bOr .u64 (a : Int) (sL .u64 (b : Int) ((8 * i : Nat) : Int)) = ((a + 256 ^ i * b : Nat) : Int) := by
  have e1 : (256 : Nat) ^ i = 2 ^ (8 * i) := by rw [Nat.pow_mul]
  have h64 : (256 : Nat) ^ i * 256 ≤ 2 ^ 64 := by
    rw [e1, show (256 : Nat) = 2 ^ 8 from rfl, ← Nat.pow_add]
    exact Nat.pow_le_pow_right (by decide) (by omega)
  have hlt : 256 ^ i * b < 2 ^ 64 := Nat.lt_of_lt_of_le (Nat.mul_lt_mul_of_pos_left hb (Nat.pow_pos (by decide))) h64
  have hs : sL .u64 (b : Int) ((8 * i : Nat) : Int) = ((256 ^ i * b : Nat) : Int) := by
    unfold sL
    have em : min ((8 * i : Nat) : Int).toNat IntKind.u64.bits = 8 * i := by simp [IntKind.bits]; omega
    rw [em]
    have e2 : (b : Int) * 2 ^ (8 * i) = ((256 ^ i * b : Nat) : Int) := by
      rw [e1]; push_cast; exact Int.mul_comm _ _
    rw [e2]
    exact wu64 (by omega) (by omega)
  rw [hs, bOr_nat .u64 rfl (by simp only [IntKind.bits]; exact Nat.lt_of_lt_of_le ha (by omega)) (by simpa [IntKind.bits] using hlt)]
  congr 1
  have := Nat.two_pow_add_eq_or_of_lt (i := 8 * i) (b := a) (by rw [← e1]; exact ha) b
  rw [← e1] at this
  rw [Nat.or_comm, ← this, Nat.add_comm]
def nx (n : Nat) (s : List Int × Er) : List Int × (List Int × Er) :=
  if s.2 ≠ .b 0 then ([], s) else if s.1.length < n then ([], (s.1, xErrEnd)) else (s.1.take n, (s.1.drop n, s.2))
def Rep (r : compactReader) (s : List Int × Er) : Prop := ∃ pre, r = ⟨pre ++ s.1, (pre.length : Int), s.2⟩ ∧ (pre ++ s.1).length ≤ 1000000 ∧ Bs s.1
theorem nx_bs {n : Nat} {s : List Int × Er} (h : Bs s.1) : Bs (nx n s).1 ∧ Bs (nx n s).2.1 := by
  unfold nx
  split
  · exact ⟨bs_nil, h⟩
  · split
    · exact ⟨bs_nil, h⟩
    · exact ⟨h.take _, h.drop _⟩
theorem nx_len (n : Nat) (s : List Int × Er) : (nx n s).1.length ≤ n := by
  unfold nx
  split
  · simp
  · split
    · simp
    · simp; omega
theorem next_eq {r : compactReader} {s : List Int × Er} (h : Rep r s) (n : Nat) : ∃ r', compact_Reader_next.f r (n : Int) = some ((nx n s).1, r') ∧ Rep r' (nx n s).2 := by
  obtain ⟨pre, rfl, hl, hbs⟩ := h
  obtain ⟨rest, e⟩ := s
  simp only at hl hbs ⊢
  rw [List.length_append] at hl
  simp only [compact_Reader_next.f, nx]
  by_cases he : e = .b 0
  · subst he
    rw [if_neg (show ¬ (Er.b 0 ≠ Er.b 0) from fun h => h rfl), if_neg (show ¬ (Er.b 0 ≠ Er.b 0) from fun h => h rfl)]
    have w1 : IntKind.i64.wrap (((pre ++ rest).length : Int) - (pre.length : Int)) = (rest.length : Int) := by
      rw [List.length_append, w64 (by omega) (by omega)]; omega
    rw [w1]
    by_cases hc : rest.length < n
    · rw [if_pos (by omega), if_pos hc]
      exact ⟨_, rfl, pre, rfl, by rw [List.length_append]; exact hl, hbs⟩
    · rw [if_neg (by omega), if_neg hc]
      have w2 : IntKind.i64.wrap ((pre.length : Int) + (n : Int)) = ((pre.length + n : Nat) : Int) := by rw [w64 (by omega) (by omega)]; omega
      have w3 : IntKind.i64.wrap (((pre.length + n : Nat) : Int) - (n : Int)) = (pre.length : Int) := by rw [w64 (by omega) (by omega)]; omega
      rw [w2, w3, if_pos (by rw [List.length_append]; omega), Int.toNat_natCast, Int.toNat_natCast]
      have e1 : ((pre ++ rest).take (pre.length + n)).drop pre.length = rest.take n := by
        rw [List.take_append, List.take_of_length_le (by omega), Nat.add_sub_cancel_left, List.drop_left' rfl]
      rw [e1]
      refine ⟨_, rfl, pre ++ rest.take n, ?_, ?_, hbs.drop n⟩
      · rw [List.append_assoc, List.take_append_drop, List.length_append, List.length_take, Nat.min_eq_left (by omega)]
      · rw [List.append_assoc, List.take_append_drop, List.length_append]; exact hl
  · rw [if_pos he, if_pos he]
    exact ⟨_, rfl, pre, rfl, by rw [List.length_append]; exact hl, hbs⟩
theorem left_eq {r : compactReader} {s : List Int × Er} (h : Rep r s) : compact_Reader_Left.f r = some (s.1.length : Int) := by
  obtain ⟨pre, rfl, hl, hbs⟩ := h
  rw [List.length_append] at hl
  simp only [compact_Reader_Left.f]
  rw [List.length_append, w64 (by omega) (by omega)]
  congr 1
  omega
theorem err_eq {r : compactReader} {s : List Int × Er} (h : Rep r s) : compact_Reader_Err.f r = some s.2 := by
  obtain ⟨pre, rfl, hl, hbs⟩ := h
  rfl
theorem rep_err {r : compactReader} {s : List Int × Er} (h : Rep r s) : r.err = s.2 := by
  obtain ⟨pre, rfl, hl, hbs⟩ := h
  rfl
theorem read_eq {b : List Int} (hb : Bs b) (hl : b.length ≤ 1000000) : ∃ r, compact_Read.f b = some r ∧ Rep r (b, .b 0) := by
  simp only [compact_Read.f, bytes_Clone.f]
  rw [if_pos (by omega), Option.bind_some]
  exact ⟨_, rfl, [], rfl, by simpa using hl, hb⟩
def wh (n : Nat) (s : List Int × Er) : Nat × (List Int × Er) := (vl (nx n s).1, (nx n s).2)
theorem vl_step (l : List Int) (hb : Bs l) (i : Nat) (hi : i < l.length) (h8 : l.length ≤ 8) : bOr .u64 ((vl (l.take i) : Nat) : Int) (sL .u64 (IntKind.u64.wrap (l.getD i 0)) ((8 * i : Nat) : Int)) = ((vl (l.take (i + 1)) : Nat) : Int) := by
  have hm : l.getD i 0 ∈ l := by
    have e : l.getD i 0 = l[i] := by simp [List.getD, hi]
    rw [e]; exact List.getElem_mem hi
  obtain ⟨h2, h3⟩ := hb _ hm
  have hlt := vl_lt (hb.take i)
  rw [List.length_take, Nat.min_eq_left (by omega)] at hlt
  rw [← take_next l i 0 hi, vl_snoc, List.length_take, Nat.min_eq_left (by omega), wu64 (by omega) (by omega)]
  have e : l.getD i 0 = (((l.getD i 0).toNat : Nat) : Int) := by omega
  have := or_shift (vl (l.take i)) (l.getD i 0).toNat i hlt (by omega) (by omega)
  rw [← e] at this
  exact this
theorem whole_eq {r : compactReader} {s : List Int × Er} (h : Rep r s) (n : Nat) (hn : n ≤ 8) : ∃ r', compact_Reader_whole.f r (n : Int) = some (((wh n s).1 : Int), r') ∧ Rep r' (wh n s).2 := by
  obtain ⟨r', h1, h2⟩ := next_eq h n
  have hb := (nx_bs (n := n) (show Bs s.1 from h.elim fun _ h => h.2.2)).1
  have hlen := nx_len n s
  refine ⟨r', ?_, h2⟩
  simp only [compact_Reader_whole.f, wh]
  rw [h1, Option.bind_some]
  generalize (nx n s).1 = l at *
  have hl : loopO (compact_Reader_whole.s0 (l, r')) (0, 0) = some ((vl l : Int), r'.b, r'.at_, r'.err) := by
    refine loop_run (fun i => (((vl (l.take i) : Nat) : Int), (i : Int))) l.length (by simp [vl]) (fun i hi => ?_) ?_
    · simp only [compact_Reader_whole.s0, Int.toNat_natCast]
      have w8 : IntKind.i64.wrap (8 * (i : Int)) = ((8 * i : Nat) : Int) := by rw [w64 (by omega) (by omega)]; omega
      rw [if_pos (by omega), if_pos (by omega), w8, if_pos (by omega), winc i (by omega), vl_step l hb i hi (by omega)]
    · simp only [compact_Reader_whole.s0]
      rw [if_neg (by omega), List.take_length]
  rw [hl, Option.bind_some]
def ln (n : Nat) : Nat := if n < 253 then 1 else if n < 65536 then 3 else if n < 4294967296 then 5 else 9
theorem len_eq (n : Nat) : compact_Len.f (n : Int) = some (ln n : Int) := by
  simp only [compact_Len.f, ln]
  by_cases h1 : n < 253
  · rw [if_pos (by omega), if_pos h1]; rfl
  · rw [if_neg (by omega), if_neg h1]
    by_cases h2 : n < 65536
    · rw [if_pos (by omega), if_pos h2]; rfl
    · rw [if_neg (by omega), if_neg h2]
      by_cases h3 : n < 4294967296
      · rw [if_pos (by omega), if_pos h3]; rfl
      · rw [if_neg (by omega), if_neg h3]; rfl
theorem len1_eq (n : Nat) : sargassoref1_Len.f (n : Int) = some (ln n : Int) := len_eq n
def my (n : Nat) : Nat := if n = 253 then 2 else if n = 254 then 4 else if n = 255 then 8 else 0
def nm (most : Int) (s : List Int × Er) : Nat × (List Int × Er) :=
  let a := wh 1 s
  let b := if 0 < my a.1 then wh (my a.1) a.2 else a
  if b.2.2 ≠ .b 0 then (0, b.2) else if ln b.1 ≠ 1 + my a.1 then (0, (b.2.1, xErrShape)) else if most < (b.1 : Int) then (0, (b.2.1, xErrMany)) else b
theorem my_le (n : Nat) : my n ≤ 8 := by unfold my; split <;> (try split) <;> (try split) <;> omega
theorem num_eq {r : compactReader} {s : List Int × Er} (h : Rep r s) (most : Int) : ∃ r', compact_Reader_Num.f r most = some (((nm most s).1 : Int), r') ∧ Rep r' (nm most s).2 := by
  obtain ⟨r1, h1, h2⟩ := whole_eq h 1 (by omega)
  simp only [compact_Reader_Num.f, nm]
  rw [show ((1 : Nat) : Int) = 1 from rfl] at h1
  rw [h1, Option.bind_some]
  generalize wh 1 s = a at *
  obtain ⟨a1, a2⟩ := a
  simp only at h1 h2 ⊢
  have hmy : (if (a1 : Int) = 253 then some (2 : Int) else if (a1 : Int) = 254 then some 4 else if (a1 : Int) = 255 then some 8 else some 0) = some ((my a1 : Nat) : Int) := by
    unfold my
    by_cases c1 : a1 = 253
    · rw [if_pos (by omega), if_pos c1]; rfl
    · rw [if_neg (by omega), if_neg c1]
      by_cases c2 : a1 = 254
      · rw [if_pos (by omega), if_pos c2]; rfl
      · rw [if_neg (by omega), if_neg c2]
        by_cases c3 : a1 = 255
        · rw [if_pos (by omega), if_pos c3]; rfl
        · rw [if_neg (by omega), if_neg c3]; rfl
  rw [hmy, Option.bind_some]
  have hmid : ∃ r2, (if 0 < ((my a1 : Nat) : Int) then (compact_Reader_whole.f r1 ((my a1 : Nat) : Int)).bind fun r2 => some (r2.1, r2.2.b, r2.2.at_, r2.2.err) else some ((a1 : Int), r1.b, r1.at_, r1.err)) = some ((((if 0 < my a1 then wh (my a1) a2 else (a1, a2)).1 : Nat) : Int), r2.b, r2.at_, r2.err) ∧ Rep r2 (if 0 < my a1 then wh (my a1) a2 else (a1, a2)).2 := by
    by_cases hp : 0 < my a1
    · obtain ⟨r2, h3, h4⟩ := whole_eq h2 (my a1) (my_le a1)
      rw [if_pos (by omega), if_pos hp, h3, Option.bind_some]
      exact ⟨r2, rfl, h4⟩
    · rw [if_neg (by omega), if_neg hp]
      exact ⟨r1, rfl, h2⟩
  obtain ⟨r2, h3, h4⟩ := hmid
  rw [h3, Option.bind_some]
  generalize (if 0 < my a1 then wh (my a1) a2 else (a1, a2)) = b at *
  obtain ⟨b1, b2⟩ := b
  simp only at h4 ⊢
  have he := rep_err h4
  have hw : IntKind.i64.wrap (1 + ((my a1 : Nat) : Int)) = ((1 + my a1 : Nat) : Int) := by have := my_le a1; rw [w64 (by omega) (by omega)]; omega
  rw [he, len_eq, Option.bind_some, hw]
  obtain ⟨pre, e1, hl, hbs⟩ := h4
  by_cases c1 : b2.2 = .b 0
  · rw [if_neg (show ¬ (b2.2 ≠ .b 0) from fun h => h c1), if_neg (show ¬ (b2.2 ≠ .b 0) from fun h => h c1)]
    by_cases c2 : ln b1 = 1 + my a1
    · rw [if_neg (show ¬ (((ln b1 : Nat) : Int) ≠ ((1 + my a1 : Nat) : Int)) from fun h => h (by rw [c2])), if_neg (show ¬ (ln b1 ≠ 1 + my a1) from fun h => h c2)]
      by_cases c3 : most < (b1 : Int)
      · rw [if_pos c3, if_pos c3]
        exact ⟨_, rfl, pre, by rw [e1], hl, hbs⟩
      · rw [if_neg c3, if_neg c3]
        exact ⟨_, rfl, pre, by rw [e1], hl, hbs⟩
    · rw [if_pos (by omega), if_pos c2]
      exact ⟨_, rfl, pre, by rw [e1], hl, hbs⟩
  · rw [if_pos c1, if_pos c1]
    exact ⟨_, rfl, pre, by rw [e1], hl, hbs⟩
theorem rfour_eq {r : compactReader} {s : List Int × Er} (h : Rep r s) : ∃ r', compact_Reader_Four.f r = some (((wh 4 s).1 : Int), r') ∧ Rep r' (wh 4 s).2 := by
  obtain ⟨r1, h1, h2⟩ := whole_eq h 4 (by omega)
  refine ⟨r1, ?_, h2⟩
  simp only [compact_Reader_Four.f]
  rw [show ((4 : Nat) : Int) = 4 from rfl] at h1
  have hlt : (wh 4 s).1 < 4294967296 := by
    have h3 := vl_lt (nx_bs (n := 4) (show Bs s.1 from h.elim fun _ h => h.2.2)).1
    have h4 := nx_len 4 s
    have : 256 ^ (nx 4 s).1.length ≤ 256 ^ 4 := Nat.pow_le_pow_right (by decide) h4
    simp only [wh]
    omega
  rw [h1, Option.bind_some, wu32 (by omega) (by omega)]
theorem reight_eq {r : compactReader} {s : List Int × Er} (h : Rep r s) : ∃ r', compact_Reader_Eight.f r = some (((wh 8 s).1 : Int), r') ∧ Rep r' (wh 8 s).2 := by
  obtain ⟨r1, h1, h2⟩ := whole_eq h 8 (by omega)
  refine ⟨r1, ?_, h2⟩
  simp only [compact_Reader_Eight.f]
  rw [show ((8 : Nat) : Int) = 8 from rfl] at h1
  rw [h1, Option.bind_some]
def h32 (s : List Int × Er) : List Int × (List Int × Er) := (if (nx 32 s).1 = [] then List.replicate 32 0 else (nx 32 s).1, (nx 32 s).2)
theorem nx_full (n : Nat) (s : List Int × Er) : (nx n s).1 = [] ∨ (nx n s).1.length = n := by
  unfold nx
  split
  · exact .inl rfl
  · split
    · exact .inl rfl
    · rename_i h; exact .inr (by simp; omega)
theorem rhash_eq {r : compactReader} {s : List Int × Er} (h : Rep r s) : ∃ r', compact_Reader_Hash.f r = some ((h32 s).1, r') ∧ Rep r' (h32 s).2 := by
  obtain ⟨r1, h1, h2⟩ := next_eq h 32
  refine ⟨r1, ?_, h2⟩
  simp only [compact_Reader_Hash.f, h32]
  rw [show ((32 : Nat) : Int) = 32 from rfl] at h1
  rw [h1, Option.bind_some]
  rcases nx_full 32 s with e | e
  · rw [e, if_pos rfl]; simp [cpy]
  · rw [if_neg (fun h => by rw [h] at e; cases e)]
    simp only [cpy, List.length_replicate]
    rw [List.take_of_length_le (by omega), List.drop_of_length_le (by simp; omega), List.append_nil]
def by_ (n : Int) (s : List Int × Er) : List Int × (List Int × Er) := if n ≤ 0 then ([], s) else nx n.toNat s
theorem rbytes_eq {r : compactReader} {s : List Int × Er} (h : Rep r s) (n : Int) : ∃ r', compact_Reader_Bytes.f r n = some ((by_ n s).1, r') ∧ Rep r' (by_ n s).2 := by
  simp only [compact_Reader_Bytes.f, by_]
  by_cases h0 : n ≤ 0
  · rw [if_pos h0, if_pos h0]
    exact ⟨r, rfl, h⟩
  · rw [if_neg h0, if_neg h0]
    obtain ⟨r1, h1, h2⟩ := next_eq h n.toNat
    rw [Int.toNat_of_nonneg (by omega)] at h1
    have h3 : (nx n.toNat s).1.length ≤ 1000000 := by
      obtain ⟨pre, _, h4, _⟩ := h
      rw [List.length_append] at h4
      unfold nx
      split
      · simp
      · split
        · simp
        · simp; omega
    refine ⟨r1, ?_, h2⟩
    rw [h1, Option.bind_some]
    simp only [bytes_Clone.f]
    rw [if_pos (by omega), Option.bind_some]
end Go.Proofs.YtpeelghbhihgkaaDoor.T
namespace Go.Proofs.YtpeelghbhihgkaaDoor.T
open Go Go.Proofs Go.Proofs.YtpeelghbhihgkaaDoor.K
set_option linter.unusedVariables false
set_option linter.unusedSimpArgs false
def pt (n : Nat) : List Int := if n < 253 then lb n 1 else if n < 65536 then 253 :: lb n 2 else if n < 4294967296 then 254 :: lb n 4 else 255 :: lb n 8
theorem lb_one (n : Nat) : lb n 1 = [((n % 256 : Nat) : Int)] := by simp [lb, List.range_succ]
theorem put_eq (b : List Int) (n : Nat) (hn : n < 18446744073709551616) (hl : b.length ≤ 1000000) : compact_Put.f b (n : Int) = some (b ++ pt n) := by
  simp only [compact_Put.f, bytes_Clone.f]
  rw [if_pos (by omega), Option.bind_some, len_eq, Option.bind_some]
  unfold ln pt
  by_cases h1 : n < 253
  · rw [if_pos h1, if_pos h1, if_pos (by rfl), if_pos (by omega), u8e, lb_one]
    congr 3
  · rw [if_neg h1, if_neg h1]
    by_cases h2 : n < 65536
    · have := number_eq' (b ++ [253]) n 2 (by omega) (by simp; omega)
      rw [show ((2 : Nat) : Int) = 2 from rfl] at this
      rw [if_pos h2, if_pos h2, if_neg (by decide), if_pos (by rfl), if_pos (by omega), this, Option.bind_some, List.append_assoc]; rfl
    · rw [if_neg h2, if_neg h2]
      by_cases h3 : n < 4294967296
      · have := number_eq' (b ++ [254]) n 4 (by omega) (by simp; omega)
        rw [show ((4 : Nat) : Int) = 4 from rfl] at this
        rw [if_pos h3, if_pos h3, if_neg (by decide), if_neg (by decide), if_pos (by rfl), if_pos (by omega), this, Option.bind_some, List.append_assoc]; rfl
      · have := number_eq' (b ++ [255]) n 8 (by omega) (by simp; omega)
        rw [show ((8 : Nat) : Int) = 8 from rfl] at this
        rw [if_neg h3, if_neg h3, if_neg (by decide), if_neg (by decide), if_neg (by decide), if_pos (by omega), this, Option.bind_some, List.append_assoc]; rfl
theorem first2 : sargassolaw2_first.f = some true := by
  simp only [sargassolaw2_first.f]
  have h := put_eq [] 253 (by omega) (by simp)
  rw [show ((253 : Nat) : Int) = 253 from rfl] at h
  have h1 := len_eq 1
  rw [show ((1 : Nat) : Int) = 1 from rfl] at h1
  rw [h, Option.bind_some, h1]
  rfl
theorem nx_err {n : Nat} {l : List Int} {e : Er} (h : e ≠ .b 0) : nx n (l, e) = ([], (l, e)) := by
  unfold nx
  rw [if_pos h]
theorem wh_err {n : Nat} {l : List Int} {e : Er} (h : e ≠ .b 0) : wh n (l, e) = (0, (l, e)) := by rw [wh, nx_err h]; rfl
theorem nm_err {most : Int} {l : List Int} {e : Er} (h : e ≠ .b 0) : nm most (l, e) = (0, (l, e)) := by
  unfold nm
  rw [wh_err h]
  simp only
  rw [if_neg (show ¬ 0 < my 0 by decide)]
  simp only
  rw [if_pos h]
end Go.Proofs.YtpeelghbhihgkaaDoor.T
namespace Go.Proofs.YtpeelghbhihgkaaDoor.T
open Go Go.Proofs Go.Proofs.YtpeelghbhihgkaaDoor.K
set_option linter.unusedVariables false
set_option linter.unusedSimpArgs false
def rf (s : List Int × Er) : sargassoref1Reader := ⟨s.1, cd s.2⟩
theorem cd_nil : cd (.b 0) = 0 := rfl
theorem cd_zero {e : Er} (h : Kn e) : cd e = 0 ↔ e = .b 0 := by rw [← cd_nil]; exact cd_eq h (.inl rfl)
theorem kn_end : Kn xErrEnd := .inr (by decide)
theorem kn_shape : Kn xErrShape := .inr (by decide)
theorem kn_many : Kn xErrMany := .inr (by decide)
theorem kn_nil : Kn (.b 0) := .inl rfl
theorem nx_kn {n : Nat} {s : List Int × Er} (h : Kn s.2) : Kn (nx n s).2.2 := by
  unfold nx
  split
  · exact h
  · split
    · exact kn_end
    · exact h
theorem nx_short {n : Nat} {s : List Int × Er} : (nx n s).2.1.length ≤ s.1.length ∧ (nx n s).1.length ≤ s.1.length := by
  unfold nx
  split
  · simp
  · split
    · simp
    · simp; omega
theorem take_eq {s : List Int × Er} (hk : Kn s.2) (hl : s.1.length ≤ 1000000) (n : Nat) : sargassoref1_Reader_take.f (rf s) (n : Int) = some ((nx n s).1, rf (nx n s).2) := by
  obtain ⟨b, e⟩ := s
  simp only at hk hl
  show sargassoref1_Reader_take.f ⟨b, cd e⟩ (n : Int) = some ((nx n (b, e)).1, ⟨(nx n (b, e)).2.1, cd (nx n (b, e)).2.2⟩)
  simp only [sargassoref1_Reader_take.f, nx]
  by_cases he : e = .b 0
  · subst he
    have h00 : (if cd (Er.b 0) ≠ 0 then some true else some (decide ((n : Int) < 0))) = some false := by
      rw [cd_nil, if_neg (fun h => h rfl), decide_eq_false (by omega)]
    rw [h00, Option.bind_some, if_neg (by decide)]
    rw [if_neg (show ¬ (Er.b 0 ≠ Er.b 0) from fun h => h rfl)]
    by_cases hc : b.length < n
    · rw [if_pos (by omega), if_pos hc]; rfl
    · rw [if_neg (by omega), if_neg hc, if_pos (by omega), Int.toNat_natCast, show Int.toNat 0 = 0 from rfl, List.drop_zero, bytes_eq _ (by rw [List.length_take]; omega), Option.bind_some, Int.toNat_natCast, List.take_length]
  · have h0 : cd e ≠ 0 := fun h => he ((cd_zero hk).1 h)
    rw [if_pos h0, Option.bind_some, if_pos rfl, if_pos he]
theorem num1_eq {s : List Int × Er} (hk : Kn s.2) (hb : Bs s.1) (hl : s.1.length ≤ 1000000) (n : Nat) (hn : n ≤ 8) : sargassoref1_Reader_num.f (rf s) (n : Int) = some (((wh n s).1 : Int), rf (wh n s).2) := by
  simp only [sargassoref1_Reader_num.f, wh]
  rw [take_eq hk hl, Option.bind_some]
  have hlen := nx_len n s
  have hbs := (nx_bs (n := n) hb).1
  generalize (nx n s).1 = l at *
  have h : loopO (sargassoref1_Reader_num.s0 (l, rf (nx n s).2)) (0, 0) = some (vl l : Int) := by
    refine loop_run (fun i => (((vl (l.take i) : Nat) : Int), (i : Int))) l.length (by simp [vl]) (fun i hi => ?_) ?_
    · simp only [sargassoref1_Reader_num.s0, Int.toNat_natCast]
      have w8 : IntKind.u64.wrap (IntKind.i64.wrap (8 * (i : Int))) = ((8 * i : Nat) : Int) := by rw [w64 (by omega) (by omega), wu64 (by omega) (by omega)]; omega
      rw [if_pos (by omega), if_pos (by omega), w8, if_pos (by omega), winc i (by omega), vl_step l hbs i hi (by omega)]
    · simp only [sargassoref1_Reader_num.s0]
      rw [if_neg (by omega), List.take_length]
  rw [h, Option.bind_some]
theorem wh_lt {n : Nat} {s : List Int × Er} (hb : Bs s.1) : (wh n s).1 < 256 ^ n := by
  have h3 := vl_lt (nx_bs (n := n) hb).1
  exact Nat.lt_of_lt_of_le h3 (Nat.pow_le_pow_right (by decide) (nx_len n s))
theorem wh_kn {n : Nat} {s : List Int × Er} (h : Kn s.2) : Kn (wh n s).2.2 := nx_kn h
theorem wh_bs {n : Nat} {s : List Int × Er} (h : Bs s.1) : Bs (wh n s).2.1 := (nx_bs h).2
theorem wh_short {n : Nat} {s : List Int × Er} : (wh n s).2.1.length ≤ s.1.length := nx_short.1
theorem four1_eq {s : List Int × Er} (hk : Kn s.2) (hb : Bs s.1) (hl : s.1.length ≤ 1000000) : sargassoref1_Reader_Four.f (rf s) = some (((wh 4 s).1 : Int), rf (wh 4 s).2) := by
  have h := num1_eq hk hb hl 4 (by omega)
  have h4 := wh_lt (n := 4) hb
  rw [show ((4 : Nat) : Int) = 4 from rfl] at h
  simp only [sargassoref1_Reader_Four.f]
  rw [h, Option.bind_some, wu32 (by omega) (by omega)]
theorem eight1_eq {s : List Int × Er} (hk : Kn s.2) (hb : Bs s.1) (hl : s.1.length ≤ 1000000) : sargassoref1_Reader_Eight.f (rf s) = some (((wh 8 s).1 : Int), rf (wh 8 s).2) := by
  have h := num1_eq hk hb hl 8 (by omega)
  rw [show ((8 : Nat) : Int) = 8 from rfl] at h
  simp only [sargassoref1_Reader_Eight.f]
  rw [h, Option.bind_some]
theorem bytes1_eq {s : List Int × Er} (hk : Kn s.2) (hl : s.1.length ≤ 1000000) (n : Int) : sargassoref1_Reader_Bytes.f (rf s) n = some ((by_ n s).1, rf (by_ n s).2) := by
  simp only [sargassoref1_Reader_Bytes.f, by_]
  by_cases h0 : n ≤ 0
  · rw [if_pos h0]
    by_cases hz : n = 0
    · subst hz
      have h := take_eq hk hl 0
      rw [show ((0 : Nat) : Int) = 0 from rfl] at h
      rw [h, Option.bind_some]
      unfold nx
      by_cases he : s.2 ≠ .b 0
      · rw [if_pos he]
      · rw [if_neg he, if_neg (by omega)]
        simp
    · simp only [sargassoref1_Reader_take.f]
      have : (if (rf s).E ≠ 0 then some true else some (decide (n < 0))) = some true := by
        split
        · rfl
        · rw [decide_eq_true (by omega)]
      rw [this, Option.bind_some, if_pos rfl, Option.bind_some]
  · rw [if_neg h0]
    have h := take_eq hk hl n.toNat
    rw [Int.toNat_of_nonneg (by omega)] at h
    rw [h, Option.bind_some]
theorem hash1_eq {s : List Int × Er} (hk : Kn s.2) (hl : s.1.length ≤ 1000000) : sargassoref1_Reader_Hash.f (rf s) = some ((h32 s).1, rf (h32 s).2) := by
  have h := take_eq hk hl 32
  rw [show ((32 : Nat) : Int) = 32 from rfl] at h
  simp only [sargassoref1_Reader_Hash.f, h32]
  rw [h, Option.bind_some]
  have hfull := nx_full 32 s
  generalize (nx 32 s).1 = l at *
  have hlen : l.length ≤ 32 := by rcases hfull with e | e <;> simp_all
  have h : loopO (sargassoref1_Reader_Hash.s0 (l, rf (nx 32 s).2)) (0, List.replicate 32 0) = some (l ++ List.replicate (32 - l.length) 0) := by
    refine loop_run (fun i => ((i : Int), l.take i ++ List.replicate (32 - i) 0)) l.length (by simp) (fun i hi => ?_) ?_
    · simp only [sargassoref1_Reader_Hash.s0, Int.toNat_natCast]
      rw [if_pos (by omega), if_pos (by omega), if_pos (by omega), winc i (by omega), ← take_next l i 0 hi]
      congr 3
      have e1 : 32 - i = (32 - (i + 1)) + 1 := by omega
      rw [e1, List.replicate_succ]
      have e2 : (l.take i).length = i := by rw [List.length_take]; omega
      rw [List.set_append, if_neg (by omega), e2, Nat.sub_self, List.set_cons_zero, List.append_assoc]
      rfl
    · simp only [sargassoref1_Reader_Hash.s0]
      rw [if_neg (by omega), List.take_length]
  rw [h, Option.bind_some]
  rcases hfull with e | e
  · subst e; rfl
  · rw [if_neg (fun h => by rw [h] at e; cases e), e]; simp
theorem nm_kn {most : Int} {s : List Int × Er} (h : Kn s.2) : Kn (nm most s).2.2 := by
  unfold nm
  have h1 := wh_kn (n := 1) h
  generalize wh 1 s = a at *
  have h2 : Kn (if 0 < my a.1 then wh (my a.1) a.2 else a).2.2 := by
    split
    · exact wh_kn h1
    · exact h1
  simp only
  generalize (if 0 < my a.1 then wh (my a.1) a.2 else a) = b at *
  split
  · exact h2
  · split
    · exact kn_shape
    · split
      · exact kn_many
      · exact h2
theorem nm_bs {most : Int} {s : List Int × Er} (h : Bs s.1) : Bs (nm most s).2.1 ∧ (nm most s).2.1.length ≤ s.1.length := by
  unfold nm
  have h1 := wh_bs (n := 1) h
  have l1 := wh_short (n := 1) (s := s)
  generalize wh 1 s = a at *
  have h2 : Bs (if 0 < my a.1 then wh (my a.1) a.2 else a).2.1 ∧ (if 0 < my a.1 then wh (my a.1) a.2 else a).2.1.length ≤ s.1.length := by
    split
    · exact ⟨wh_bs h1, Nat.le_trans wh_short l1⟩
    · exact ⟨h1, l1⟩
  simp only
  generalize (if 0 < my a.1 then wh (my a.1) a.2 else a) = b at *
  split
  · exact h2
  · split
    · exact h2
    · split
      · exact h2
      · exact h2
theorem nm1_eq {s : List Int × Er} (hk : Kn s.2) (hb : Bs s.1) (hl : s.1.length ≤ 1000000) (most : Int) : sargassoref1_Reader_Num.f (rf s) most = some (((nm most s).1 : Int), rf (nm most s).2) := by
  simp only [sargassoref1_Reader_Num.f]
  by_cases he : s.2 = .b 0
  · have h0 : (rf s).E = 0 := by rw [rf, he]; rfl
    rw [if_neg (fun h => h h0)]
    have h1 := num1_eq hk hb hl 1 (by omega)
    rw [show ((1 : Nat) : Int) = 1 from rfl] at h1
    rw [h1, Option.bind_some]
    unfold nm
    have hlt := wh_lt (n := 1) hb
    have hk1 := wh_kn (n := 1) hk
    have hb1 := wh_bs (n := 1) hb
    have hl1 := wh_short (n := 1) (s := s)
    generalize wh 1 s = a at *
    obtain ⟨a1, a2⟩ := a
    simp only at hlt hk1 hb1 hl1 ⊢
    have hmid : (if (a1 : Int) = 253 then ((sargassoref1_Reader_num.f (rf a2) 2).bind fun r2 => some (r2.1, r2.2.B, r2.2.E)) else (if (a1 : Int) = 254 then ((sargassoref1_Reader_num.f (rf a2) 4).bind fun r3 => some (r3.1, r3.2.B, r3.2.E)) else (if (a1 : Int) = 255 then ((sargassoref1_Reader_num.f (rf a2) 8).bind fun r4 => some (r4.1, r4.2.B, r4.2.E)) else some ((a1 : Int), (rf a2).B, (rf a2).E)))) =
        some ((((if 0 < my a1 then wh (my a1) a2 else (a1, a2)).1 : Nat) : Int), (rf (if 0 < my a1 then wh (my a1) a2 else (a1, a2)).2).B, (rf (if 0 < my a1 then wh (my a1) a2 else (a1, a2)).2).E) := by
      have g : ∀ k : Nat, k ≤ 8 → sargassoref1_Reader_num.f (rf a2) (k : Int) = some (((wh k a2).1 : Int), rf (wh k a2).2) := fun k hk8 => num1_eq hk1 hb1 (by omega) k hk8
      have g2 := g 2 (by omega)
      have g4 := g 4 (by omega)
      have g8 := g 8 (by omega)
      by_cases c1 : a1 = 253
      · subst c1
        rw [if_pos (by rfl), show my 253 = 2 from rfl, if_pos (by omega), show (2 : Int) = ((2 : Nat) : Int) from rfl, g2, Option.bind_some]
      · rw [if_neg (by omega)]
        by_cases c2 : a1 = 254
        · subst c2
          rw [if_pos (by rfl), show my 254 = 4 from rfl, if_pos (by omega), show (4 : Int) = ((4 : Nat) : Int) from rfl, g4, Option.bind_some]
        · rw [if_neg (by omega)]
          by_cases c3 : a1 = 255
          · subst c3
            rw [if_pos (by rfl), show my 255 = 8 from rfl, if_pos (by omega), show (8 : Int) = ((8 : Nat) : Int) from rfl, g8, Option.bind_some]
          · rw [if_neg (by omega)]
            have e0 : my a1 = 0 := by unfold my; rw [if_neg c1, if_neg c2, if_neg c3]
            rw [e0, if_neg (Nat.lt_irrefl 0)]
    rw [hmid, Option.bind_some]
    have hkb : Kn (if 0 < my a1 then wh (my a1) a2 else (a1, a2)).2.2 := by
      split
      · exact wh_kn hk1
      · exact hk1
    generalize (if 0 < my a1 then wh (my a1) a2 else (a1, a2)) = b at *
    obtain ⟨b1, b2, b3⟩ := b
    simp only at hkb ⊢
    by_cases c1 : b3 = .b 0
    · subst c1
      rw [if_neg (show ¬ ((rf (b2, Er.b 0)).E ≠ 0) from fun h => h rfl), if_neg (show ¬ (Er.b 0 ≠ Er.b 0) from fun h => h rfl)]
      have hmany : (if 253 ≤ (a1 : Int) then (if 0 ≤ (IntKind.u64.wrap ((a1 : Int) - 253)) then some (IntKind.i64.wrap (1 + (sL .i64 2 (IntKind.u64.wrap ((a1 : Int) - 253))))) else none) else some 1) = some ((1 + my a1 : Nat) : Int) := by
        by_cases d : a1 < 253
        · rw [if_neg (by omega)]
          have e0 : my a1 = 0 := by unfold my; rw [if_neg (by omega), if_neg (by omega), if_neg (by omega)]
          rw [e0]; rfl
        · have : a1 = 253 ∨ a1 = 254 ∨ a1 = 255 := by omega
          rcases this with rfl | rfl | rfl <;> decide
      rw [hmany, Option.bind_some, len1_eq, Option.bind_some]
      by_cases c2 : ln b1 = 1 + my a1
      · rw [if_neg (show ¬ (((ln b1 : Nat) : Int) ≠ ((1 + my a1 : Nat) : Int)) from fun h => h (by rw [c2])), if_neg (show ¬ (ln b1 ≠ 1 + my a1) from fun h => h c2)]
        by_cases c3 : most < (b1 : Int)
        · rw [if_pos c3, if_pos c3, Option.bind_some]; rfl
        · rw [if_neg c3, if_neg c3, Option.bind_some]; rfl
      · rw [if_pos (by omega), if_pos c2, Option.bind_some]; rfl
    · have h0 : (rf (b2, b3)).E ≠ 0 := fun h => c1 ((cd_zero hkb).1 h)
      rw [if_pos h0, if_pos c1]; rfl
  · have h0 : (rf s).E ≠ 0 := fun h => he ((cd_zero hk).1 h)
    obtain ⟨l, e⟩ := s
    rw [if_pos h0, nm_err he]; rfl
end Go.Proofs.YtpeelghbhihgkaaDoor.T
namespace Go.Proofs.YtpeelghbhihgkaaDoor.T
open Go Go.Proofs Go.Proofs.YtpeelghbhihgkaaDoor.K
set_option linter.unusedVariables false
set_option linter.unusedSimpArgs false
theorem sargassolaw2_CompactReads.m (μ : Store) (x0 : List Int) (v0 : Value) (h0 : Slc (RI .u8) 1 μ v0 x0) (x1 : List sargassolaw2Do) (v1 : Value) (h1 : Slc (Rsargassolaw2Do μ) 2 μ v1 x1) : sargassolaw2_CompactReads.f x0 x1 = some true := by
  simp only [sargassolaw2_CompactReads.f, first2, Option.bind_some, if_true]
  by_cases hc : 300 < (x0.length : Int)
  · rw [if_pos hc]; rfl
  by_cases hd : 30 < (x1.length : Int)
  · rw [if_neg hc, Option.bind_some, if_pos (by rw [decide_eq_true hd])]
  rw [if_neg hc, Option.bind_some, if_neg (by rw [decide_eq_false hd]; decide)]
  obtain ⟨r, er, pr⟩ := read_eq (bs_slc h0) (by omega)
  rw [er, Option.bind_some]
  refine loop_exists (fun i s => s.1 = (i : Int) ∧ ∃ q : List Int × Er, Rep ⟨s.2.2.2.1, s.2.2.2.2.1, s.2.2.2.2.2⟩ q ∧ (⟨s.2.1, s.2.2.1⟩ : sargassoref1Reader) = rf q ∧ Kn q.2 ∧ Bs q.1 ∧ q.1.length ≤ 300) x1.length ⟨rfl, (x0, .b 0), pr, rfl, kn_nil, bs_slc h0, show x0.length ≤ 300 by omega⟩ ?_ ?_
  · rintro i hi ⟨s1, s2, s3, s4, s5, s6⟩ ⟨h2, q, hp, hr, hk, hb, hl⟩
    simp only at h2 hp hr
    subst h2
    simp only [sargassolaw2_CompactReads.s0, Int.toNat_natCast]
    rw [if_pos (by omega), if_pos (by omega), hr, winc i (by omega)]
    generalize x1.getD i default = d
    -- what each kind comes to
    have fin : ∀ (r' : compactReader) (q' : List Int × Er), Rep r' q' → Kn q'.2 → Bs q'.1 → q'.1.length ≤ 300 →
        ∃ s', (((some (true, (rf q').B, (rf q').E, r'.b, r'.at_, r'.err) : Option (Bool × List Int × Int × List Int × Int × Er)).bind fun x => (((if x.1 = true then ((compact_Reader_Left.f (⟨x.2.2.2.1, x.2.2.2.2.1, x.2.2.2.2.2⟩ : compactReader)).bind fun r15 => (if r15 ≠ (x.2.1.length : Int) then some true else ((compact_Reader_Err.f (⟨x.2.2.2.1, x.2.2.2.2.1, x.2.2.2.2.2⟩ : compactReader)).bind fun r16 => ((sargassosee_Is.f r16 x.2.2.1).bind fun r17 => some (!r17))))) else some true)).bind fun c8 => (if c8 = true then some (Sum.inr false) else some (Sum.inl (((i + 1 : Nat) : Int), x.2.1, x.2.2.1, x.2.2.2.1, x.2.2.2.2.1, x.2.2.2.2.2))))) : Option ((Int × (List Int) × Int × (List Int) × Int × Er) ⊕ Bool)) = some (Sum.inl s') ∧ s'.1 = ((i + 1 : Nat) : Int) ∧ ∃ q : List Int × Er, Rep ⟨s'.2.2.2.1, s'.2.2.2.2.1, s'.2.2.2.2.2⟩ q ∧ (⟨s'.2.1, s'.2.2.1⟩ : sargassoref1Reader) = rf q ∧ Kn q.2 ∧ Bs q.1 ∧ q.1.length ≤ 300 := fun r' q' hp' hk' hb' hl' => by
      have hp2 : Rep (⟨r'.b, r'.at_, r'.err⟩ : compactReader) q' := hp'
      rw [Option.bind_some]
      simp only
      rw [if_pos trivial, left_eq hp2, Option.bind_some, if_neg (show ¬ ((q'.1.length : Int) ≠ ((rf q').B.length : Int)) from fun h => h rfl), err_eq hp2, Option.bind_some, is_eq hk', Option.bind_some, Option.bind_some, decide_eq_true (show cd q'.2 = (rf q').E from rfl)]
      exact ⟨_, rfl, rfl, q', hp2, rfl, hk', hb', hl'⟩
    have hsm : q.1.length ≤ 1000000 := by omega
    by_cases c1 : d.Kind = 1
    · obtain ⟨r3, e3, p3⟩ := num_eq hp (IntKind.u64.wrap d.N)
      rw [if_pos c1, e3, Option.bind_some, nm1_eq hk hb hsm, Option.bind_some, decide_eq_true rfl]
      exact fin r3 _ p3 (nm_kn hk) (nm_bs hb).1 (Nat.le_trans (nm_bs hb).2 hl)
    rw [if_neg c1]
    by_cases c2 : d.Kind = 2
    · obtain ⟨r3, e3, p3⟩ := rfour_eq hp
      rw [if_pos c2, e3, Option.bind_some, four1_eq hk hb hsm, Option.bind_some, decide_eq_true rfl]
      exact fin r3 _ p3 (wh_kn hk) (wh_bs hb) (Nat.le_trans wh_short hl)
    rw [if_neg c2]
    by_cases c3 : d.Kind = 3
    · obtain ⟨r3, e3, p3⟩ := reight_eq hp
      rw [if_pos c3, e3, Option.bind_some, eight1_eq hk hb hsm, Option.bind_some, decide_eq_true rfl]
      exact fin r3 _ p3 (wh_kn hk) (wh_bs hb) (Nat.le_trans wh_short hl)
    rw [if_neg c3]
    by_cases c4 : d.Kind = 4
    · obtain ⟨r3, e3, p3⟩ := rhash_eq hp
      have h32l : (h32 q).1.length = 32 := by
        unfold h32
        rcases nx_full 32 q with e | e
        · rw [e, if_pos rfl]; simp
        · rw [if_neg (fun h => by rw [h] at e; cases e)]; exact e
      rw [if_pos c4, e3, Option.bind_some, hash1_eq hk hsm, Option.bind_some, samehash_eq _ _ h32l h32l, Option.bind_some, decide_eq_true rfl]
      exact fin r3 _ p3 (nx_kn hk) (nx_bs hb).2 (Nat.le_trans nx_short.1 hl)
    rw [if_neg c4]
    obtain ⟨r3, e3, p3⟩ := rbytes_eq hp d.N
    have hby : Kn (by_ d.N q).2.2 ∧ Bs (by_ d.N q).2.1 ∧ (by_ d.N q).2.1.length ≤ 300 ∧ (by_ d.N q).1.length ≤ 300 := by
      unfold by_
      split
      · exact ⟨hk, hb, hl, by simp⟩
      · exact ⟨nx_kn hk, (nx_bs hb).2, Nat.le_trans nx_short.1 hl, Nat.le_trans nx_short.2 hl⟩
    rw [e3, Option.bind_some, bytes1_eq hk hsm, Option.bind_some, show sargassoref_SameBytes.f (by_ d.N q).1 (by_ d.N q).1 = some true from samebytes_eq _ (by omega), Option.bind_some]
    exact fin r3 _ p3 hby.1 hby.2.1 hby.2.2.1
  · rintro ⟨s1, s2, s3, s4, s5, s6⟩ ⟨h2, _⟩
    simp only at h2
    subst h2
    simp only [sargassolaw2_CompactReads.s0]
    rw [if_neg (by omega)]
end Go.Proofs.YtpeelghbhihgkaaDoor.T
namespace Go.Proofs.YtpeelghbhihgkaaDoor.K
open Go Go.Proofs Go.ChangeShapes Go.WideShapes Go.RowKit
def mem (w : World) : Store := fun k => w.heap[k]?
theorem agr_mem (w : World) : Agr (mem w) w := fun _ _ h => h
theorem mem_cell {w : World} {g i : Nat} {v : Value} (h : w.cell? ⟨g, i, none⟩ = some v) : (mem w).cell g i = some v := by
  unfold World.cell? at h
  unfold Store.cell mem
  cases hm : w.heap[g]? with
  | none => simp [hm] at h
  | some o => cases o <;> simp_all
theorem wf_in {k : IntKind} {n : Int} (h : (Lit.int k n).wf = true) : InR k n := by
  cases k <;> simp [Lit.wf, IntKind.min, IntKind.max, IntKind.signed, IntKind.bits] at h <;> simp [InR] <;> omega
section
variable {H : Type} {enc : TypeId × Value → H} {P : Program} {w : World} {base : Nat} {spare : Nat → Bool} {held : Bool} {t e : TypeId}
def Rd (enc : TypeId × Value → H) (P : Program) (w : World) (base : Nat) (spare : Nat → Bool) (held : Bool) (t : TypeId) (R : List Value → Prop) : Prop :=
  ∀ fuel cs x, DataW.trod enc P w base spare held fuel t cs = some x → R cs
theorem rd_int {k : IntKind} (ht : P.underlying t = some (.int k)) : Rd enc P w base spare held t (fun c => ∃ n, RI k n c) := by
  intro fuel cs x h
  obtain ⟨n, rfl, _, hw⟩ := DataW.trod_int ht h
  exact ⟨n, rfl, wf_in hw⟩
theorem els_of {α : Type} {RE : α → List Value → Prop} {sz : Nat} : ∀ {n : Nat} {Q : Nat → Value → Prop}, (∀ i, i < n → ∃ x c, RE x c ∧ c.length = sz ∧ ∀ j v, c[j]? = some v → Q (i * sz + j) v) →
    ∃ xs cs, xs.length = n ∧ Els RE sz xs cs ∧ ∀ j v, cs[j]? = some v → Q j v
  | 0, _, _ => ⟨[], [], rfl, .nil, fun j v h => by simp at h⟩
  | n + 1, Q, f => by
    obtain ⟨x, c, h1, h2, h3⟩ := f 0 (by omega)
    obtain ⟨xs, cs, e1, e2, e3⟩ := els_of (n := n) (Q := fun m v => Q (sz + m) v) (fun i hi => by
      obtain ⟨x, c, h1, h2, h3⟩ := f (i + 1) (by omega)
      refine ⟨x, c, h1, h2, fun j v hj => ?_⟩
      have := h3 j v hj
      rwa [Nat.add_mul, Nat.one_mul, Nat.add_comm (i * sz), Nat.add_assoc] at this)
    refine ⟨x :: xs, c ++ cs, by simp [e1], .cons h1 h2 e2, fun j v hj => ?_⟩
    rcases Nat.lt_or_ge j c.length with h | h
    · rw [List.getElem?_append_left h] at hj
      simpa using h3 j v hj
    · rw [List.getElem?_append_right h] at hj
      have := e3 _ _ hj
      rwa [h2, Nat.add_sub_cancel' (by omega)] at this
theorem rd_slice {α : Type} {RE : α → List Value → Prop} {sz : Nat} (ht : P.underlying t = some (.slice e)) (hc : P.cellsOf e = sz) (h0 : 0 < sz) (hr : Rd enc P w base spare held e (fun c => ∃ x, RE x c)) :
    Rd enc P w base spare held t (fun c => ∃ v xs, c = [v] ∧ Slc RE sz (mem w) v xs) := by
  intro fuel cs x h
  rcases DataW.trod_slice ht h with ⟨rfl, _⟩ | ⟨a, len, cap, elems, rest, n, _, rfl, _, _, hl, hm, hlen, hel, _, _⟩
  · exact ⟨_, [], rfl, [], .nil, none, 0, rfl, Nat.le_refl _, Nat.zero_le _, fun h => absurd rfl h, fun h => absurd rfl h⟩
  have each0 : ∀ i, i < len → ∃ x c, RE x c ∧ c.length = sz ∧ ∀ j, j < sz → w.cell? ((a.add (i * sz)).add j) = c[j]? := by
    intro i hi
    have h1 := hel i hi
    rw [List.getElem?_eq_getElem (by omega), hc] at h1
    obtain ⟨c, hc1, hc2⟩ := Option.bind_eq_some_iff.1 h1
    obtain ⟨_, l1, l2⟩ := World.cells?_some hc1
    obtain ⟨x, hx⟩ := hr _ _ _ hc2
    exact ⟨x, c, hx, l1, l2⟩
  have hs : 0 < len → a.spot = none := by
    intro hp
    obtain ⟨x, c, _, l1, l2⟩ := each0 0 hp
    have h2 := (l2 0 h0).trans (List.getElem?_eq_getElem (by omega))
    simpa [Addr.add] using World.cell?_spot h2
  obtain ⟨b, off, spot⟩ := a
  simp only at hs
  have each : ∀ i, i < len → ∃ x c, RE x c ∧ c.length = sz ∧ ∀ j v, c[j]? = some v → (fun m v => w.cell? ⟨b, off + m, none⟩ = some v) (i * sz + j) v := by
    intro i hi
    obtain ⟨x, c, hx, l1, l2⟩ := each0 i hi
    refine ⟨x, c, hx, l1, fun j v hj => ?_⟩
    have hjl : j < sz := by
      have := (List.getElem?_eq_some_iff.1 hj).1
      omega
    have h2 := (l2 j hjl).trans hj
    rw [hs (by omega), add_plain, add_plain] at h2
    simpa [Nat.add_assoc] using h2
  obtain ⟨xs, cs, e1, e2, e3⟩ := els_of (RE := RE) (sz := sz) (Q := fun m v => w.cell? ⟨b, off + m, none⟩ = some v) each
  refine ⟨_, xs, rfl, cs, e2, some ⟨b, off, spot⟩, cap, by rw [e1], by omega, hm, fun hn => by rw [hs (by omega)]; rfl, fun hn j v hj => mem_cell (e3 j v hj)⟩
theorem rd_struct {fs : Array Field} {fuel : Nat} {cs : List Value} {x : DataW H × List MemPlace} (ht : P.underlying t = some (.struct fs)) (h : DataW.trod enc P w base spare held fuel t cs = some x) :
    cs.length = P.cellsOf t ∧ ∀ (i : Nat) (f : Field), fs[i]? = some f → ∃ n y, DataW.trod enc P w base spare held n f.type ((cs.drop f.offset).take (P.cellsOf f.type)) = some y := by
  obtain ⟨xs, n, _, _, hl, hx, hf⟩ := DataW.trod_struct ht h
  refine ⟨hl, fun i f hi => ?_⟩
  have h1 := hf i f hi
  have : i < fs.size := (Array.getElem?_eq_some_iff.1 hi).1
  rw [List.getElem?_eq_getElem (by omega)] at h1
  exact ⟨n, _, h1⟩
theorem chop {α : Type} (cs : List α) (o n m : Nat) (h : o + n = m) : cs.drop o = (cs.drop o).take n ++ cs.drop m := by
  subst h
  rw [← List.drop_drop, List.take_append_drop]
theorem rd_at {R : List Value → Prop} {v : Value} {d : DataW H} {ps : List MemPlace} (hr : Rd enc P w base spare held t R) (h : DataW.Trod enc P w base spare held t v d ps) : R v.cells.toList := by
  obtain ⟨fuel, hf⟩ := h
  exact hr _ _ _ hf
theorem at_slice {α : Type} {RE : α → List Value → Prop} {sz : Nat} {r : Reach} {b0 : Nat} {v : Value} {d : DataW H} {ps : List MemPlace} (ht : P.underlying t = some (.slice e)) (hval : Value.okWide P w r b0 t v)
    (hr : Rd enc P w base spare held t (fun c => ∃ v xs, c = [v] ∧ Slc RE sz (mem w) v xs)) (h : DataW.Trod enc P w base spare held t v d ps) : ∃ xs, Slc RE sz (mem w) v xs := by
  obtain ⟨a, len, cap, rfl⟩ := okWide_slice ht hval
  obtain ⟨u, xs, e1, h2⟩ := rd_at hr h
  simp [Value.cells] at e1
  subst e1
  exact ⟨xs, h2⟩
theorem again {W W' : World} {v : Value} {d : DataW H} {ps : List MemPlace} (hl : laidOutB P = true) (hr : P.readableRec t = true) (hrow : t < P.types.size) (h : DataW.Trod enc P W 0 (fun _ => true) true t v d ps) (hb : Below W.heap.size W W') :
    DataW.Trod enc P W' 0 (fun b => decide (b < W.heap.size)) true t v d ps :=
  Below.trod hl hr hrow h hb (fun p hp => let ⟨n, hn⟩ := h; DataW.trod_lt n _ _ _ hn p hp)
end
end Go.Proofs.YtpeelghbhihgkaaDoor.K
namespace Go.Proofs.YtpeelghbhihgkaaDoor.K
open Go Go.Proofs
set_option linter.unusedVariables false
theorem laid_each {P : Program} {W : World} : ∀ {l : List (String × DataW Unit)} {ps : List MemPlace}, DataW.LaidVars P W l ps → ∀ {n : String} {d : DataW Unit}, (n, d) ∈ l →
    ∃ g t cs fuel p, P.globalNamed n = some g ∧ (P.globals[g]?).map (·.type) = some t ∧ W.var? P n = some cs ∧ DataW.trod (fun _ => ()) P W 0 (fun _ => true) false fuel t cs.toList = some (d, p) ∧ ∀ x ∈ MemPlace.row ⟨g, 0, none⟩ cs.size ++ p, x ∈ ps
  | [], ps, h, n, d, hm => by cases hm
  | (m, e) :: r, ps, h, n, d, hm => by
    obtain ⟨g, t, cs, fuel, p, q, hg, ht, hv, hd, hr, rfl⟩ := h
    rcases List.mem_cons.1 hm with e1 | hm
    · cases e1
      exact ⟨g, t, cs, fuel, p, hg, ht, hv, hd, fun x hx => List.mem_append_left _ hx⟩
    · obtain ⟨g', t', cs', fuel', p', a1, a2, a3, a4, a5⟩ := laid_each hr hm
      exact ⟨g', t', cs', fuel', p', a1, a2, a3, a4, fun x hx => List.mem_append_right _ (a5 x hx)⟩
theorem sent_of_laid {P : Program} {W : World} {laid : List (String × DataW Unit)} {code : ByteArray → Nat} {n : String} {text : List UInt8} {g : Nat} {ti tp ta te ts : TypeId} {ms : Array (String × TypeId)} {f : Field}
    (h : laidMet P laid W) (hm : (n, .iface "*errors.errorString" (.ptr (.agg [.lit (.string text)]))) ∈ laid) (hg : P.globalNamed n = some g) (ht : (P.globals[g]?).map (·.type) = some ti)
    (hi : P.underlying ti = some (.interface ms)) (hrow : ∀ u, P.typeName? 3 u = some "*errors.errorString" → u = tp) (hp : P.underlying tp = some (.pointer te)) (he : P.underlying te = some (.struct #[f])) (hft : f.type = ts) (hfo : f.offset = 0) (hs : P.underlying ts = some .string) (hc : P.cellsOf te = 1) (hcs : P.cellsOf ts = 1)
    (hcode : ∀ s : ByteArray, s.data.toList = text → code s = g + 1) : ∃ v, ErV tp ta code (mem W) (.b (g + 1)) v := by
  obtain ⟨ps, hl, hnd, hrows⟩ := h
  obtain ⟨g', t', cs, fuel, p, a1, a2, a3, a4, a5⟩ := laid_each hl hm
  obtain rfl := Option.some.inj (hg.symm.trans a1)
  obtain rfl := Option.some.inj (ht.symm.trans a2)
  obtain ⟨l⟩ := cs
  have ok : ∀ u v, l = [.iface u v] → Value.okWide P W .any 0 u v := fun u v e => by
    subst e
    exact (hrows g 0 (a5 _ (by simp [MemPlace.row]))).2 u v (by simpa using World.var?_cell hg a3 0)
  obtain ⟨a, s, rfl, hcell, hst, hz, rfl⟩ := errorString_of_trod hi hrow hp he hft hfo hs hc hcs a4 ok
  obtain ⟨c, t, hb⟩ := (hrows a.block a.off (a5 _ (by simp [MemPlace.row]))).1
  refine ⟨.iface tp (.pointer (some a)), .inr ⟨by omega, mem_cell (by simpa using World.var?_cell hg a3 0), a, s, c, t, rfl, hb, hcode s hst, fun w hw => ?_⟩⟩
  have e : w.heap[a.block]? = W.heap[a.block]? := (hw _ _ hb).trans hb.symm
  unfold World.cell? at hcell ⊢
  rw [e]
  exact hcell
end Go.Proofs.YtpeelghbhihgkaaDoor.K
namespace Go.Proofs.YtpeelghbhihgkaaDoor.T
open Go Go.Proofs Go.Proofs.YtpeelghbhihgkaaDoor.K
set_option linter.unusedVariables false
set_option linter.unusedSimpArgs false
set_option maxRecDepth 100000
theorem own : ownKnob Tryd.prog.godebug = none := by kernel_rfl
noncomputable def low : Nat := (World.holding Tryd.prog default ⟨#[], #[], []⟩).heap.size
abbrev es0 : ByteArray := { data := #[110, 111, 116, 32, 97, 115, 32, 105, 116, 32, 104, 97, 115, 32, 116, 111, 32, 98, 101] }
abbrev es1 : ByteArray := { data := #[116, 111, 111, 32, 109, 97, 110, 121, 44, 32, 111, 114, 32, 116, 111, 111, 32, 102, 101, 119] }
abbrev es2 : ByteArray := { data := #[116, 111, 111, 32, 108, 111, 110, 103] }
abbrev es3 : ByteArray := { data := #[97, 32, 107, 101, 121, 32, 116, 104, 97, 116, 32, 100, 111, 101, 115, 32, 110, 111, 116, 32, 102, 105, 116] }
abbrev es4 : ByteArray := { data := #[97, 110, 32, 97, 109, 111, 117, 110, 116, 32, 116, 104, 97, 116, 32, 99, 97, 110, 39, 116, 32, 98, 101] }
abbrev es5 : ByteArray := { data := #[111, 110, 101, 32, 116, 104, 105, 110, 103, 32, 116, 119, 105, 99, 101] }
abbrev es6 : ByteArray := { data := #[97, 32, 110, 117, 109, 98, 101, 114, 32, 111, 117, 116, 32, 111, 102, 32, 105, 116, 115, 32, 114, 97, 110, 103, 101] }
abbrev es7 : ByteArray := { data := #[108, 101, 115, 115, 32, 99, 111, 109, 101, 115, 32, 105, 110, 32, 116, 104, 97, 110, 32, 103, 111, 101, 115, 32, 111, 117, 116] }
abbrev es8 : ByteArray := { data := #[105, 116, 32, 101, 110, 100, 115, 32, 116, 111, 111, 32, 101, 97, 114, 108, 121] }
abbrev es9 : ByteArray := { data := #[110, 111, 32, 102, 105, 114, 115, 116, 32, 116, 114, 97, 110, 115, 97, 99, 116, 105, 111, 110, 32, 119, 104, 101, 114, 101, 32, 116, 104, 101, 114, 101, 32, 104, 97, 115, 32, 116, 111, 32, 98, 101, 32, 111, 110, 101, 44, 32, 111, 114, 32, 111, 110, 101, 32, 119, 104, 101, 114, 101, 32, 116, 104, 101, 114, 101, 32, 109, 97, 121, 32, 98, 101, 32, 110, 111, 110, 101] }
abbrev es10 : ByteArray := { data := #[97, 32, 114, 111, 111, 116, 32, 116, 104, 97, 116, 32, 100, 111, 101, 115, 32, 110, 111, 116, 32, 102, 105, 116] }
abbrev es11 : ByteArray := { data := #[107, 110, 111, 119, 110, 32, 97, 108, 114, 101, 97, 100, 121] }
abbrev es12 : ByteArray := { data := #[110, 111, 32, 115, 117, 99, 104, 32, 112, 97, 114, 101, 110, 116] }
abbrev es13 : ByteArray := { data := #[98, 101, 104, 105, 110, 100, 32, 119, 104, 97, 116, 32, 105, 115, 32, 110, 111, 116, 32, 118, 97, 108, 105, 100] }
abbrev es14 : ByteArray := { data := #[97, 32, 116, 105, 109, 101, 32, 116, 104, 97, 116, 32, 105, 115, 32, 116, 111, 111, 32, 101, 97, 114, 108, 121] }
abbrev es15 : ByteArray := { data := #[97, 32, 99, 111, 105, 110, 32, 116, 104, 97, 116, 32, 105, 115, 32, 110, 111, 116, 32, 116, 104, 101, 114, 101] }
abbrev es16 : ByteArray := { data := #[97, 32, 99, 111, 105, 110, 32, 116, 104, 97, 116, 32, 105, 115, 32, 116, 111, 111, 32, 121, 111, 117, 110, 103] }
abbrev es17 : ByteArray := { data := #[116, 111, 111, 32, 101, 97, 114, 108, 121, 32, 116, 111, 32, 98, 101, 32, 116, 97, 107, 101, 110] }
abbrev es18 : ByteArray := { data := #[109, 111, 114, 101, 32, 116, 104, 97, 110, 32, 116, 104, 101, 32, 114, 101, 119, 97, 114, 100] }
abbrev es19 : ByteArray := { data := #[97, 32, 99, 111, 105, 110, 32, 116, 104, 97, 116, 32, 105, 115, 32, 115, 112, 101, 110, 116, 32, 105, 110, 32, 116, 104, 101, 32, 112, 111, 111, 108] }
abbrev es20 : ByteArray := { data := #[116, 111, 111, 32, 109, 97, 110, 121, 32, 116, 104, 97, 116, 32, 104, 97, 110, 103, 32, 116, 111, 103, 101, 116, 104, 101, 114] }
abbrev es21 : ByteArray := { data := #[116, 104, 101, 114, 101, 32, 105, 115, 32, 110, 111, 32, 114, 111, 111, 109] }
abbrev es22 : ByteArray := { data := #[116, 104, 101, 114, 101, 32, 105, 115, 32, 110, 111, 110, 101] }
abbrev es23 : ByteArray := { data := #[110, 111, 32, 115, 117, 99, 104, 32, 119, 111, 114, 100] }
abbrev es24 : ByteArray := { data := #[110, 111, 116, 32, 97, 32, 110, 117, 109, 98, 101, 114] }
def setC (v : Value) : Obj → Obj
  | .cells _ t frozen => .cells #[v] t frozen
  | x => x
noncomputable def laidWorld (os : Os) : World :=
  let w0 := World.holding Tryd.prog os ⟨#[.cells #[.string es0] 223, .cells #[.string es1] 223, .cells #[.string es2] 223, .cells #[.string es3] 223, .cells #[.string es4] 223, .cells #[.string es5] 223, .cells #[.string es6] 223, .cells #[.string es7] 223, .cells #[.string es8] 223, .cells #[.string es9] 223, .cells #[.string es10] 223, .cells #[.string es11] 223, .cells #[.string es12] 223, .cells #[.string es13] 223, .cells #[.string es14] 223, .cells #[.string es15] 223, .cells #[.string es16] 223, .cells #[.string es17] 223, .cells #[.string es18] 223, .cells #[.string es19] 223, .cells #[.string es20] 223, .cells #[.string es21] 223, .cells #[.string es22] 223, .cells #[.string es23] 223, .cells #[.string es24] 223], #[], []⟩
  { w0 with heap := (((((((((((((((((((((((((w0.heap.modify 0 (setC (.iface 206 (.pointer (some ⟨low + 0, 0, none⟩))))).modify 1 (setC (.iface 206 (.pointer (some ⟨low + 1, 0, none⟩))))).modify 2 (setC (.iface 206 (.pointer (some ⟨low + 2, 0, none⟩))))).modify 3 (setC (.iface 206 (.pointer (some ⟨low + 3, 0, none⟩))))).modify 4 (setC (.iface 206 (.pointer (some ⟨low + 4, 0, none⟩))))).modify 5 (setC (.iface 206 (.pointer (some ⟨low + 5, 0, none⟩))))).modify 6 (setC (.iface 206 (.pointer (some ⟨low + 6, 0, none⟩))))).modify 7 (setC (.iface 206 (.pointer (some ⟨low + 7, 0, none⟩))))).modify 8 (setC (.iface 206 (.pointer (some ⟨low + 8, 0, none⟩))))).modify 9 (setC (.iface 206 (.pointer (some ⟨low + 9, 0, none⟩))))).modify 10 (setC (.iface 206 (.pointer (some ⟨low + 10, 0, none⟩))))).modify 11 (setC (.iface 206 (.pointer (some ⟨low + 11, 0, none⟩))))).modify 12 (setC (.iface 206 (.pointer (some ⟨low + 12, 0, none⟩))))).modify 13 (setC (.iface 206 (.pointer (some ⟨low + 13, 0, none⟩))))).modify 14 (setC (.iface 206 (.pointer (some ⟨low + 14, 0, none⟩))))).modify 15 (setC (.iface 206 (.pointer (some ⟨low + 15, 0, none⟩))))).modify 16 (setC (.iface 206 (.pointer (some ⟨low + 16, 0, none⟩))))).modify 17 (setC (.iface 206 (.pointer (some ⟨low + 17, 0, none⟩))))).modify 18 (setC (.iface 206 (.pointer (some ⟨low + 18, 0, none⟩))))).modify 19 (setC (.iface 206 (.pointer (some ⟨low + 19, 0, none⟩))))).modify 20 (setC (.iface 206 (.pointer (some ⟨low + 20, 0, none⟩))))).modify 21 (setC (.iface 206 (.pointer (some ⟨low + 21, 0, none⟩))))).modify 22 (setC (.iface 206 (.pointer (some ⟨low + 22, 0, none⟩))))).modify 23 (setC (.iface 206 (.pointer (some ⟨low + 23, 0, none⟩))))).modify 24 (setC (.iface 206 (.pointer (some ⟨low + 24, 0, none⟩))))) }
theorem starE : "*" ++ "errors.errorString" = "*errors.errorString" := by decide
theorem rowE (u : TypeId) (h : Tryd.prog.typeName? 3 u = some "*errors.errorString") : u = 206 :=
  typeName_ptr_named (nm := "errors.errorString") (by rw [starE]; kernel_rfl) (by kernel_rfl) (by decide) u (by rw [starE]; exact h)
theorem ceE : Tryd.prog.cellsOf 223 = 1 := by kernel_rfl
theorem csE : Tryd.prog.cellsOf 9 = 1 := by kernel_rfl
theorem sent0 {W : World} {l : List (String × DataW Unit)} (h : laidMet Tryd.prog l W) (hm : ("sargasso/api.ErrShape", .iface "*errors.errorString" (.ptr (.agg [.lit (.string [110, 111, 116, 32, 97, 115, 32, 105, 116, 32, 104, 97, 115, 32, 116, 111, 32, 98, 101])]))) ∈ l) : ∃ v, ErS (mem W) v (Er.b 1) :=
  sent_of_laid h hm (by kernel_rfl) (by kernel_rfl) Tryd.underlying34 rowE Tryd.underlying206 Tryd.underlying223 rfl rfl Tryd.underlying9 ceE csE (fun s hs => by unfold errCode; rw [hs]; kernel_rfl)
theorem sent1 {W : World} {l : List (String × DataW Unit)} (h : laidMet Tryd.prog l W) (hm : ("sargasso/api.ErrMany", .iface "*errors.errorString" (.ptr (.agg [.lit (.string [116, 111, 111, 32, 109, 97, 110, 121, 44, 32, 111, 114, 32, 116, 111, 111, 32, 102, 101, 119])]))) ∈ l) : ∃ v, ErS (mem W) v (Er.b 2) :=
  sent_of_laid h hm (by kernel_rfl) (by kernel_rfl) Tryd.underlying34 rowE Tryd.underlying206 Tryd.underlying223 rfl rfl Tryd.underlying9 ceE csE (fun s hs => by unfold errCode; rw [hs]; kernel_rfl)
theorem sent2 {W : World} {l : List (String × DataW Unit)} (h : laidMet Tryd.prog l W) (hm : ("sargasso/api.ErrLong", .iface "*errors.errorString" (.ptr (.agg [.lit (.string [116, 111, 111, 32, 108, 111, 110, 103])]))) ∈ l) : ∃ v, ErS (mem W) v (Er.b 3) :=
  sent_of_laid h hm (by kernel_rfl) (by kernel_rfl) Tryd.underlying34 rowE Tryd.underlying206 Tryd.underlying223 rfl rfl Tryd.underlying9 ceE csE (fun s hs => by unfold errCode; rw [hs]; kernel_rfl)
theorem sent3 {W : World} {l : List (String × DataW Unit)} (h : laidMet Tryd.prog l W) (hm : ("sargasso/api.ErrKey", .iface "*errors.errorString" (.ptr (.agg [.lit (.string [97, 32, 107, 101, 121, 32, 116, 104, 97, 116, 32, 100, 111, 101, 115, 32, 110, 111, 116, 32, 102, 105, 116])]))) ∈ l) : ∃ v, ErS (mem W) v (Er.b 4) :=
  sent_of_laid h hm (by kernel_rfl) (by kernel_rfl) Tryd.underlying34 rowE Tryd.underlying206 Tryd.underlying223 rfl rfl Tryd.underlying9 ceE csE (fun s hs => by unfold errCode; rw [hs]; kernel_rfl)
theorem sent4 {W : World} {l : List (String × DataW Unit)} (h : laidMet Tryd.prog l W) (hm : ("sargasso/api.ErrValue", .iface "*errors.errorString" (.ptr (.agg [.lit (.string [97, 110, 32, 97, 109, 111, 117, 110, 116, 32, 116, 104, 97, 116, 32, 99, 97, 110, 39, 116, 32, 98, 101])]))) ∈ l) : ∃ v, ErS (mem W) v (Er.b 5) :=
  sent_of_laid h hm (by kernel_rfl) (by kernel_rfl) Tryd.underlying34 rowE Tryd.underlying206 Tryd.underlying223 rfl rfl Tryd.underlying9 ceE csE (fun s hs => by unfold errCode; rw [hs]; kernel_rfl)
theorem sent5 {W : World} {l : List (String × DataW Unit)} (h : laidMet Tryd.prog l W) (hm : ("sargasso/api.ErrTwice", .iface "*errors.errorString" (.ptr (.agg [.lit (.string [111, 110, 101, 32, 116, 104, 105, 110, 103, 32, 116, 119, 105, 99, 101])]))) ∈ l) : ∃ v, ErS (mem W) v (Er.b 6) :=
  sent_of_laid h hm (by kernel_rfl) (by kernel_rfl) Tryd.underlying34 rowE Tryd.underlying206 Tryd.underlying223 rfl rfl Tryd.underlying9 ceE csE (fun s hs => by unfold errCode; rw [hs]; kernel_rfl)
theorem sent6 {W : World} {l : List (String × DataW Unit)} (h : laidMet Tryd.prog l W) (hm : ("sargasso/api.ErrRange", .iface "*errors.errorString" (.ptr (.agg [.lit (.string [97, 32, 110, 117, 109, 98, 101, 114, 32, 111, 117, 116, 32, 111, 102, 32, 105, 116, 115, 32, 114, 97, 110, 103, 101])]))) ∈ l) : ∃ v, ErS (mem W) v (Er.b 7) :=
  sent_of_laid h hm (by kernel_rfl) (by kernel_rfl) Tryd.underlying34 rowE Tryd.underlying206 Tryd.underlying223 rfl rfl Tryd.underlying9 ceE csE (fun s hs => by unfold errCode; rw [hs]; kernel_rfl)
theorem sent7 {W : World} {l : List (String × DataW Unit)} (h : laidMet Tryd.prog l W) (hm : ("sargasso/api.ErrLess", .iface "*errors.errorString" (.ptr (.agg [.lit (.string [108, 101, 115, 115, 32, 99, 111, 109, 101, 115, 32, 105, 110, 32, 116, 104, 97, 110, 32, 103, 111, 101, 115, 32, 111, 117, 116])]))) ∈ l) : ∃ v, ErS (mem W) v (Er.b 8) :=
  sent_of_laid h hm (by kernel_rfl) (by kernel_rfl) Tryd.underlying34 rowE Tryd.underlying206 Tryd.underlying223 rfl rfl Tryd.underlying9 ceE csE (fun s hs => by unfold errCode; rw [hs]; kernel_rfl)
theorem sent8 {W : World} {l : List (String × DataW Unit)} (h : laidMet Tryd.prog l W) (hm : ("sargasso/api.ErrEnd", .iface "*errors.errorString" (.ptr (.agg [.lit (.string [105, 116, 32, 101, 110, 100, 115, 32, 116, 111, 111, 32, 101, 97, 114, 108, 121])]))) ∈ l) : ∃ v, ErS (mem W) v (Er.b 9) :=
  sent_of_laid h hm (by kernel_rfl) (by kernel_rfl) Tryd.underlying34 rowE Tryd.underlying206 Tryd.underlying223 rfl rfl Tryd.underlying9 ceE csE (fun s hs => by unfold errCode; rw [hs]; kernel_rfl)
theorem sent9 {W : World} {l : List (String × DataW Unit)} (h : laidMet Tryd.prog l W) (hm : ("sargasso/api.ErrBase", .iface "*errors.errorString" (.ptr (.agg [.lit (.string [110, 111, 32, 102, 105, 114, 115, 116, 32, 116, 114, 97, 110, 115, 97, 99, 116, 105, 111, 110, 32, 119, 104, 101, 114, 101, 32, 116, 104, 101, 114, 101, 32, 104, 97, 115, 32, 116, 111, 32, 98, 101, 32, 111, 110, 101, 44, 32, 111, 114, 32, 111, 110, 101, 32, 119, 104, 101, 114, 101, 32, 116, 104, 101, 114, 101, 32, 109, 97, 121, 32, 98, 101, 32, 110, 111, 110, 101])]))) ∈ l) : ∃ v, ErS (mem W) v (Er.b 10) :=
  sent_of_laid h hm (by kernel_rfl) (by kernel_rfl) Tryd.underlying34 rowE Tryd.underlying206 Tryd.underlying223 rfl rfl Tryd.underlying9 ceE csE (fun s hs => by unfold errCode; rw [hs]; kernel_rfl)
theorem sent10 {W : World} {l : List (String × DataW Unit)} (h : laidMet Tryd.prog l W) (hm : ("sargasso/api.ErrRoot", .iface "*errors.errorString" (.ptr (.agg [.lit (.string [97, 32, 114, 111, 111, 116, 32, 116, 104, 97, 116, 32, 100, 111, 101, 115, 32, 110, 111, 116, 32, 102, 105, 116])]))) ∈ l) : ∃ v, ErS (mem W) v (Er.b 11) :=
  sent_of_laid h hm (by kernel_rfl) (by kernel_rfl) Tryd.underlying34 rowE Tryd.underlying206 Tryd.underlying223 rfl rfl Tryd.underlying9 ceE csE (fun s hs => by unfold errCode; rw [hs]; kernel_rfl)
theorem sent11 {W : World} {l : List (String × DataW Unit)} (h : laidMet Tryd.prog l W) (hm : ("sargasso/api.ErrKnown", .iface "*errors.errorString" (.ptr (.agg [.lit (.string [107, 110, 111, 119, 110, 32, 97, 108, 114, 101, 97, 100, 121])]))) ∈ l) : ∃ v, ErS (mem W) v (Er.b 12) :=
  sent_of_laid h hm (by kernel_rfl) (by kernel_rfl) Tryd.underlying34 rowE Tryd.underlying206 Tryd.underlying223 rfl rfl Tryd.underlying9 ceE csE (fun s hs => by unfold errCode; rw [hs]; kernel_rfl)
theorem sent12 {W : World} {l : List (String × DataW Unit)} (h : laidMet Tryd.prog l W) (hm : ("sargasso/api.ErrParent", .iface "*errors.errorString" (.ptr (.agg [.lit (.string [110, 111, 32, 115, 117, 99, 104, 32, 112, 97, 114, 101, 110, 116])]))) ∈ l) : ∃ v, ErS (mem W) v (Er.b 13) :=
  sent_of_laid h hm (by kernel_rfl) (by kernel_rfl) Tryd.underlying34 rowE Tryd.underlying206 Tryd.underlying223 rfl rfl Tryd.underlying9 ceE csE (fun s hs => by unfold errCode; rw [hs]; kernel_rfl)
theorem sent13 {W : World} {l : List (String × DataW Unit)} (h : laidMet Tryd.prog l W) (hm : ("sargasso/api.ErrInvalid", .iface "*errors.errorString" (.ptr (.agg [.lit (.string [98, 101, 104, 105, 110, 100, 32, 119, 104, 97, 116, 32, 105, 115, 32, 110, 111, 116, 32, 118, 97, 108, 105, 100])]))) ∈ l) : ∃ v, ErS (mem W) v (Er.b 14) :=
  sent_of_laid h hm (by kernel_rfl) (by kernel_rfl) Tryd.underlying34 rowE Tryd.underlying206 Tryd.underlying223 rfl rfl Tryd.underlying9 ceE csE (fun s hs => by unfold errCode; rw [hs]; kernel_rfl)
theorem sent14 {W : World} {l : List (String × DataW Unit)} (h : laidMet Tryd.prog l W) (hm : ("sargasso/api.ErrTime", .iface "*errors.errorString" (.ptr (.agg [.lit (.string [97, 32, 116, 105, 109, 101, 32, 116, 104, 97, 116, 32, 105, 115, 32, 116, 111, 111, 32, 101, 97, 114, 108, 121])]))) ∈ l) : ∃ v, ErS (mem W) v (Er.b 15) :=
  sent_of_laid h hm (by kernel_rfl) (by kernel_rfl) Tryd.underlying34 rowE Tryd.underlying206 Tryd.underlying223 rfl rfl Tryd.underlying9 ceE csE (fun s hs => by unfold errCode; rw [hs]; kernel_rfl)
theorem sent15 {W : World} {l : List (String × DataW Unit)} (h : laidMet Tryd.prog l W) (hm : ("sargasso/api.ErrMissing", .iface "*errors.errorString" (.ptr (.agg [.lit (.string [97, 32, 99, 111, 105, 110, 32, 116, 104, 97, 116, 32, 105, 115, 32, 110, 111, 116, 32, 116, 104, 101, 114, 101])]))) ∈ l) : ∃ v, ErS (mem W) v (Er.b 16) :=
  sent_of_laid h hm (by kernel_rfl) (by kernel_rfl) Tryd.underlying34 rowE Tryd.underlying206 Tryd.underlying223 rfl rfl Tryd.underlying9 ceE csE (fun s hs => by unfold errCode; rw [hs]; kernel_rfl)
theorem sent16 {W : World} {l : List (String × DataW Unit)} (h : laidMet Tryd.prog l W) (hm : ("sargasso/api.ErrYoung", .iface "*errors.errorString" (.ptr (.agg [.lit (.string [97, 32, 99, 111, 105, 110, 32, 116, 104, 97, 116, 32, 105, 115, 32, 116, 111, 111, 32, 121, 111, 117, 110, 103])]))) ∈ l) : ∃ v, ErS (mem W) v (Er.b 17) :=
  sent_of_laid h hm (by kernel_rfl) (by kernel_rfl) Tryd.underlying34 rowE Tryd.underlying206 Tryd.underlying223 rfl rfl Tryd.underlying9 ceE csE (fun s hs => by unfold errCode; rw [hs]; kernel_rfl)
theorem sent17 {W : World} {l : List (String × DataW Unit)} (h : laidMet Tryd.prog l W) (hm : ("sargasso/api.ErrEarly", .iface "*errors.errorString" (.ptr (.agg [.lit (.string [116, 111, 111, 32, 101, 97, 114, 108, 121, 32, 116, 111, 32, 98, 101, 32, 116, 97, 107, 101, 110])]))) ∈ l) : ∃ v, ErS (mem W) v (Er.b 18) :=
  sent_of_laid h hm (by kernel_rfl) (by kernel_rfl) Tryd.underlying34 rowE Tryd.underlying206 Tryd.underlying223 rfl rfl Tryd.underlying9 ceE csE (fun s hs => by unfold errCode; rw [hs]; kernel_rfl)
theorem sent18 {W : World} {l : List (String × DataW Unit)} (h : laidMet Tryd.prog l W) (hm : ("sargasso/api.ErrReward", .iface "*errors.errorString" (.ptr (.agg [.lit (.string [109, 111, 114, 101, 32, 116, 104, 97, 110, 32, 116, 104, 101, 32, 114, 101, 119, 97, 114, 100])]))) ∈ l) : ∃ v, ErS (mem W) v (Er.b 19) :=
  sent_of_laid h hm (by kernel_rfl) (by kernel_rfl) Tryd.underlying34 rowE Tryd.underlying206 Tryd.underlying223 rfl rfl Tryd.underlying9 ceE csE (fun s hs => by unfold errCode; rw [hs]; kernel_rfl)
theorem sent19 {W : World} {l : List (String × DataW Unit)} (h : laidMet Tryd.prog l W) (hm : ("sargasso/api.ErrClash", .iface "*errors.errorString" (.ptr (.agg [.lit (.string [97, 32, 99, 111, 105, 110, 32, 116, 104, 97, 116, 32, 105, 115, 32, 115, 112, 101, 110, 116, 32, 105, 110, 32, 116, 104, 101, 32, 112, 111, 111, 108])]))) ∈ l) : ∃ v, ErS (mem W) v (Er.b 20) :=
  sent_of_laid h hm (by kernel_rfl) (by kernel_rfl) Tryd.underlying34 rowE Tryd.underlying206 Tryd.underlying223 rfl rfl Tryd.underlying9 ceE csE (fun s hs => by unfold errCode; rw [hs]; kernel_rfl)
theorem sent20 {W : World} {l : List (String × DataW Unit)} (h : laidMet Tryd.prog l W) (hm : ("sargasso/api.ErrLimit", .iface "*errors.errorString" (.ptr (.agg [.lit (.string [116, 111, 111, 32, 109, 97, 110, 121, 32, 116, 104, 97, 116, 32, 104, 97, 110, 103, 32, 116, 111, 103, 101, 116, 104, 101, 114])]))) ∈ l) : ∃ v, ErS (mem W) v (Er.b 21) :=
  sent_of_laid h hm (by kernel_rfl) (by kernel_rfl) Tryd.underlying34 rowE Tryd.underlying206 Tryd.underlying223 rfl rfl Tryd.underlying9 ceE csE (fun s hs => by unfold errCode; rw [hs]; kernel_rfl)
theorem sent21 {W : World} {l : List (String × DataW Unit)} (h : laidMet Tryd.prog l W) (hm : ("sargasso/api.ErrFull", .iface "*errors.errorString" (.ptr (.agg [.lit (.string [116, 104, 101, 114, 101, 32, 105, 115, 32, 110, 111, 32, 114, 111, 111, 109])]))) ∈ l) : ∃ v, ErS (mem W) v (Er.b 22) :=
  sent_of_laid h hm (by kernel_rfl) (by kernel_rfl) Tryd.underlying34 rowE Tryd.underlying206 Tryd.underlying223 rfl rfl Tryd.underlying9 ceE csE (fun s hs => by unfold errCode; rw [hs]; kernel_rfl)
theorem sent22 {W : World} {l : List (String × DataW Unit)} (h : laidMet Tryd.prog l W) (hm : ("sargasso/api.ErrNone", .iface "*errors.errorString" (.ptr (.agg [.lit (.string [116, 104, 101, 114, 101, 32, 105, 115, 32, 110, 111, 110, 101])]))) ∈ l) : ∃ v, ErS (mem W) v (Er.b 23) :=
  sent_of_laid h hm (by kernel_rfl) (by kernel_rfl) Tryd.underlying34 rowE Tryd.underlying206 Tryd.underlying223 rfl rfl Tryd.underlying9 ceE csE (fun s hs => by unfold errCode; rw [hs]; kernel_rfl)
theorem sent23 {W : World} {l : List (String × DataW Unit)} (h : laidMet Tryd.prog l W) (hm : ("sargasso/api.ErrWord", .iface "*errors.errorString" (.ptr (.agg [.lit (.string [110, 111, 32, 115, 117, 99, 104, 32, 119, 111, 114, 100])]))) ∈ l) : ∃ v, ErS (mem W) v (Er.b 24) :=
  sent_of_laid h hm (by kernel_rfl) (by kernel_rfl) Tryd.underlying34 rowE Tryd.underlying206 Tryd.underlying223 rfl rfl Tryd.underlying9 ceE csE (fun s hs => by unfold errCode; rw [hs]; kernel_rfl)
theorem sent24 {W : World} {l : List (String × DataW Unit)} (h : laidMet Tryd.prog l W) (hm : ("sargasso/api.ErrNumber", .iface "*errors.errorString" (.ptr (.agg [.lit (.string [110, 111, 116, 32, 97, 32, 110, 117, 109, 98, 101, 114])]))) ∈ l) : ∃ v, ErS (mem W) v (Er.b 25) :=
  sent_of_laid h hm (by kernel_rfl) (by kernel_rfl) Tryd.underlying34 rowE Tryd.underlying206 Tryd.underlying223 rfl rfl Tryd.underlying9 ceE csE (fun s hs => by unfold errCode; rw [hs]; kernel_rfl)
end Go.Proofs.YtpeelghbhihgkaaDoor.T
namespace Go.Proofs.YtpeelghbhihgkaaDoor.T
open Go Go.Proofs Go.Proofs.YtpeelghbhihgkaaDoor.K
set_option linter.unusedVariables false
set_option linter.unusedSimpArgs false
theorem laid : laidOutB Tryd.prog = true := by kernel_rfl
theorem cl3 : Tryd.prog.cellsOf 3 = 1 := by kernel_rfl
theorem cl5 : Tryd.prog.cellsOf 5 = 1 := by kernel_rfl
theorem rr23 : Tryd.prog.readableRec 23 = true := by kernel_rfl
theorem tr23 : 23 < Tryd.prog.types.size := of_decide_eq_true (by kernel_rfl)
theorem cl52 : Tryd.prog.cellsOf 52 = 2 := by kernel_rfl
theorem rr47 : Tryd.prog.readableRec 47 = true := by kernel_rfl
theorem tr47 : 47 < Tryd.prog.types.size := of_decide_eq_true (by kernel_rfl)
section
variable {H : Type} {enc : TypeId × Value → H} {w : World} {base : Nat} {spare : Nat → Bool} {held : Bool}
theorem rd3 : Rd enc Tryd.prog w base spare held 3 (fun c => ∃ n, RI .i64 n c) := rd_int Tryd.underlying3
theorem rd5 : Rd enc Tryd.prog w base spare held 5 (fun c => ∃ n, RI .u8 n c) := rd_int Tryd.underlying5
theorem rd23 : Rd enc Tryd.prog w base spare held 23 (fun c => ∃ v xs, c = [v] ∧ Slc (RI .u8) 1 (mem w) v xs) := rd_slice Tryd.underlying23 cl5 (by decide) rd5
theorem rd52 : Rd enc Tryd.prog w base spare held 52 (fun c => ∃ x, Rsargassolaw2Do (mem w) x c) := by
  intro fuel cs x h
  obtain ⟨hl, hf⟩ := rd_struct Tryd.underlying52 h
  rw [cl52] at hl
  obtain ⟨n0, y0, h0⟩ := hf 0 _ rfl
  obtain ⟨x0, e0, w0⟩ := rd3 _ _ _ h0
  have e0 : (cs.drop 0).take (Tryd.prog.cellsOf 3) = _ := e0
  rw [cl3] at e0
  have c0 := chop cs 0 1 1 rfl
  rw [e0] at c0
  obtain ⟨n1, y1, h1⟩ := hf 1 _ rfl
  obtain ⟨x1, e1, w1⟩ := rd3 _ _ _ h1
  have e1 : (cs.drop 1).take (Tryd.prog.cellsOf 3) = _ := e1
  rw [cl3] at e1
  have c1 := chop cs 1 1 2 rfl
  rw [e1] at c1
  rw [List.drop_eq_nil_of_le (i := 2) (by omega)] at c1
  rw [c1] at c0
  rw [List.drop_zero] at c0
  exact ⟨⟨x0, x1⟩,  by rw [c0]; simp [sargassolaw2DoC], ⟨w0, w1⟩⟩
theorem rd47 : Rd enc Tryd.prog w base spare held 47 (fun c => ∃ v xs, c = [v] ∧ Slc (Rsargassolaw2Do (mem w)) 2 (mem w) v xs) := rd_slice Tryd.underlying47 cl52 (by decide) rd52
end
end Go.Proofs.YtpeelghbhihgkaaDoor.T
namespace Go.Proofs.YtpeelghbhihgkaaDoor.J
open Go Go.Proofs
theorem words_cons : ∀ (w r : List Char), w.all (· != ' ') = true → wordsSigns (w ++ ' ' :: r) = w :: wordsSigns r
  | [], r, _ => rfl
  | c :: w, r, h => by
    simp only [List.all_cons, Bool.and_eq_true, bne_iff_ne, ne_eq] at h
    have ih := words_cons w r h.2
    rw [List.cons_append, wordsSigns, ih]
    exact fun e => h.1 e
set_option maxRecDepth 100000
def w0 : List Char := ['h', 'a', 'r', 'n', 'e', 's', 's']
def w1 : List Char := ['4', '4', 'c', '8', '7', '2', '5', '3', 'b', '6', 'd', '1', 'd', '6', '4', '9', 'e', 'a', '9', 'f', '3', '2', '0', '8', '1', 'a', '4', 'd', 'd', '5', 'f', 'b', 'f', 'f', '2', '1', '7', 'a', 'e', 'd', '9', 'a', 'b', '5', 'f', '6', '6', 'e', '5', 'b', '0', '9', '9', '1', 'c', '7', '7', 'e', 'b', '1', '8', 'b', '9', '7']
def w2 : List Char := ['c', 'u', 't']
def w3 : List Char := ['a', 't', ' ', 's', 'a', 'r', 'g', 'a', 's', 's', 'o', '/', 's', 'a', 'r', 'g', 'a', 's', 's', 'o', 'l', 'a', 'w', '2', '.', 'C', 'o', 'm', 'p', 'a', 'c', 't', 'B', 'a', 'c', 'k', ' ', 's', 'a', 'r', 'g', 'a', 's', 's', 'o', '/', 's', 'a', 'r', 'g', 'a', 's', 's', 'o', 'l', 'a', 'w', '2', '.', 'C', 'o', 'm', 'p', 'a', 'c', 't', 'F', 'e', 'w', 'e', 's', 't', ' ', 's', 'a', 'r', 'g', 'a', 's', 's', 'o', '/', 's', 'a', 'r', 'g', 'a', 's', 's', 'o', 'l', 'a', 'w', '2', '.', 'C', 'o', 'm', 'p', 'a', 'c', 't', 'R', 'o', 'w', 's', ' ', 's', 'a', 'r', 'g', 'a', 's', 's', 'o', '/', 's', 'a', 'r', 'g', 'a', 's', 's', 'o', 'l', 'a', 'w', '2', '.', 'C', 'o', 'm', 'p', 'a', 'c', 't', 'R', 'e', 'a', 'd', 's', ' ', 's', 'a', 'r', 'g', 'a', 's', 's', 'o', '/', 's', 'a', 'r', 'g', 'a', 's', 's', 'o', 'l', 'a', 'w', '2', '.', 'C', 'o', 'm', 'p', 'a', 'c', 't', 'S', 't', 'o', 'p', 's', ' ', 's', 'a', 'r', 'g', 'a', 's', 's', 'o', '/', 's', 'a', 'r', 'g', 'a', 's', 's', 'o', 'l', 'a', 'w', '4', '.', 'T', 'x', 'B', 'o', 'u', 'n', 'd', 's', ' ', 's', 'a', 'r', 'g', 'a', 's', 's', 'o', '/', 's', 'a', 'r', 'g', 'a', 's', 's', 'o', 'l', 'a', 'w', '4', '.', 'T', 'x', 'B', 'a', 's', 'e', 's', ' ', 's', 'a', 'r', 'g', 'a', 's', 's', 'o', '/', 's', 'a', 'r', 'g', 'a', 's', 's', 'o', 'l', 'a', 'w', '4', '.', 'T', 'x', 'B', 'a', 'c', 'k', ' ', 's', 'a', 'r', 'g', 'a', 's', 's', 'o', '/', 's', 'a', 'r', 'g', 'a', 's', 's', 'o', 'l', 'a', 'w', '4', '.', 'T', 'x', 'S', 'i', 'z', 'e', 's', ' ', 's', 'a', 'r', 'g', 'a', 's', 's', 'o', '/', 's', 'a', 'r', 'g', 'a', 's', 's', 'o', 'l', 'a', 'w', '4', '.', 'T', 'x', 'T', 'u', 'r', 'n', 'e', 'd', ' ', 's', 'a', 'r', 'g', 'a', 's', 's', 'o', '/', 's', 'a', 'r', 'g', 'a', 's', 's', 'o', 'l', 'a', 'w', '4', '.', 'T', 'x', 'S', 'a', 'y', 's', ' ', 's', 'a', 'r', 'g', 'a', 's', 's', 'o', '/', 's', 'a', 'r', 'g', 'a', 's', 's', 'o', 'l', 'a', 'w', '5', '.', 'H', 'e', 'a', 'd', 'W', 'o', 'r', 'k', ' ', 's', 'a', 'r', 'g', 'a', 's', 's', 'o', '/', 's', 'a', 'r', 'g', 'a', 's', 's', 'o', 'l', 'a', 'w', '5', '.', 'H', 'e', 'a', 'd', 'B', 'a', 'c', 'k', ' ', 's', 'a', 'r', 'g', 'a', 's', 's', 'o', '/', 's', 'a', 'r', 'g', 'a', 's', 's', 'o', 'l', 'a', 'w', '1', '5', '.', 'V', 'a', 'l', 'u', 'e', 'R', 'u', 'l', 'e', 's', ' ', 's', 'a', 'r', 'g', 'a', 's', 's', 'o', '/', 's', 'a', 'r', 'g', 'a', 's', 's', 'o', 'l', 'a', 'w', '1', '5', '.', 'V', 'a', 'l', 'u', 'e', 'K', 'e', 'e', 'p', 's', ' ', 's', 'a', 'r', 'g', 'a', 's', 's', 'o', '/', 's', 'a', 'r', 'g', 'a', 's', 's', 'o', 'l', 'a', 'w', '1', '5', '.', 'V', 'a', 'l', 'u', 'e', 'S', 'a', 'y', 's', ' ', 's', 'a', 'r', 'g', 'a', 's', 's', 'o', '/', 's', 'a', 'r', 'g', 'a', 's', 's', 'o', 'l', 'a', 'w', '2', '0', '.', 'N', 'o', 't', 'e', 's', 'C', 'a', 'p', ' ', 's', 'a', 'r', 'g', 'a', 's', 's', 'o', '/', 's', 'a', 'r', 'g', 'a', 's', 's', 'o', 'l', 'a', 'w', '2', '0', '.', 'N', 'o', 't', 'e', 's', 'P', 'l', 'a', 'y', ' ', 's', 'a', 'r', 'g', 'a', 's', 's', 'o', '/', 's', 'a', 'r', 'g', 'a', 's', 's', 'o', 'l', 'a', 'w', '2', '0', '.', 'N', 'o', 't', 'e', 's', 'O', 'p', 's']
theorem io0 : Tryd.prog.initOrder = String.ofList (w0 ++ ' ' :: (w1 ++ ' ' :: (w2 ++ ' ' :: w3))) := by kernel_rfl
theorem io : Tryd.prog.initOrder.toList = w0 ++ ' ' :: (w1 ++ ' ' :: (w2 ++ ' ' :: w3)) := (congrArg String.toList io0).trans String.toList_ofList
theorem ws : wordsSigns Tryd.prog.initOrder.toList = w0 :: w1 :: w2 :: wordsSigns w3 := by
  rw [io, words_cons _ _ (by kernel_rfl), words_cons _ _ (by kernel_rfl), words_cons _ _ (by kernel_rfl)]
theorem bm (R : List (List Char)) : behindMainWord (w0 :: w1 :: w2 :: R) = w2 :: R := by kernel_rfl
theorem main_of {P : Program} {R : List (List Char)} (h : wordsSigns P.initOrder.toList = w0 :: w1 :: R) : P.mainIs = some (true, w1) := by
  unfold Program.mainIs
  rw [h]
  kernel_rfl
theorem mainIs : Tryd.prog.mainIs = some (true, w1) := main_of ws
theorem bw : behindMainWord (wordsSigns Tryd.prog.initOrder.toList) = w2 :: wordsSigns w3 := by rw [ws, bm]
theorem st (R : List (List Char)) : stripLifts liftWords (w2 :: R) = ([], w2 :: R) := by kernel_rfl
theorem make_of {P : Program} {R : List (List Char)} (h : behindMainWord (wordsSigns P.initOrder.toList) = w2 :: R) : P.make = some .cut := by
  unfold Program.make
  rw [h]
  kernel_rfl
theorem head_of {P : Program} {R : List (List Char)} (h : behindMainWord (wordsSigns P.initOrder.toList) = w2 :: R) : P.headLifts = [] := by
  unfold Program.headLifts
  rw [h, st]
  kernel_rfl
theorem lifts_of {P : Program} {R : List (List Char)} (h : behindMainWord (wordsSigns P.initOrder.toList) = w2 :: R) : P.liftsFinal = false := by
  unfold Program.liftsFinal
  rw [h, head_of h]
  kernel_rfl
theorem may_of {P : Program} {R : List (List Char)} (h : behindMainWord (wordsSigns P.initOrder.toList) = w2 :: R) (h1 : P.laysLater = false) (h2 : P.bearsReflect = false) (h3 : P.doorFits [] = true) : P.mayEnter = true := by
  unfold Program.mayEnter
  rw [h]
  simp only [st, h1, h2, h3]
  kernel_rfl
theorem later : Tryd.prog.laysLater = false := by kernel_rfl
theorem reflect : Tryd.prog.bearsReflect = false := by kernel_rfl
theorem door : Tryd.prog.doorFits [] = true := by kernel_rfl
theorem make : Tryd.prog.make = some .cut := make_of bw
theorem lifts : Tryd.prog.liftsFinal = false := lifts_of bw
theorem may : Tryd.prog.mayEnter = true := may_of bw later reflect door
end Go.Proofs.YtpeelghbhihgkaaDoor.J
namespace Go.Proofs.YtpeelghbhihgkaaDoor.zCompactReads
open Go Go.Proofs Go.Proofs.YtpeelghbhihgkaaDoor.K Go.Proofs.YtpeelghbhihgkaaDoor.T
open Go.ChangeShapes Go.WideShapes Go.ChangeAt Go.RowKit
set_option linter.unusedVariables false
theorem met (os : Os) (args : Array Value) : laidMetH Tryd.prog Rows.compactReadsRow.laid ((laidWorld os).forCall (fun _ _ => 0) ⟨#[], args, []⟩).memory :=
  laidMetH_of_parts (laidMet_of_run' 8 (by kernel_rfl) (by kernel_rfl)) (by kernel_rfl)
set_option maxRecDepth 100000 in
theorem lifted (os : Os) (started : os.Started) (H : Type) (enc : TypeId × Value → H) :
    ReturnsInHanded {} Tryd.checked os 6 .any (fun w args => (Rows.compactReadsSpec.pre enc Tryd.prog Tryd.f6 [] false w args ∧ laidMetH Tryd.prog Rows.compactReadsRow.laid w) ∧ sizedMet enc Tryd.prog Tryd.f6 (OpenSpec.ofChange Rows.compactReadsSpec) false w args) (Rows.compactReadsSpec.post enc Tryd.prog Tryd.f6 false true false false) := by
  refine returnsInHanded_of_change_and (C := Tryd.checked) (X := fun w _ => laidMetH Tryd.prog Rows.compactReadsRow.laid w) (fun _ _ _ hh h => h.of_heap hh) own started (by kernel_rfl) Tryd.func6
    (ChangeSpec.witness_at (enc := enc) (C := Tryd.checked) (os := os) (X := fun w _ => laidMetH Tryd.prog Rows.compactReadsRow.laid w) false (laidWorld os) #[.slice none 0 0, .slice none 0 0] 8 rfl (by kernel_rfl) (by kernel_rfl) (by kernel_rfl) (by kernel_rfl) (by kernel_rfl) (met os _)) ?_
  intro W base args ds gs before hval0 hW hcnd hsz0 hL _
  have hL : laidMet Tryd.prog Rows.compactReadsRow.laid W := hL
  have hG : Gl (mem W) := ⟨sent0 hL (List.mem_of_getElem? (i := 1) rfl), sent1 hL (List.mem_of_getElem? (i := 3) rfl), sent2 hL (List.mem_of_getElem? (i := 2) rfl), sent3 hL (List.mem_of_getElem? (i := 13) rfl), sent4 hL (List.mem_of_getElem? (i := 4) rfl), sent5 hL (List.mem_of_getElem? (i := 5) rfl), sent6 hL (List.mem_of_getElem? (i := 21) rfl), sent7 hL (List.mem_of_getElem? (i := 16) rfl), sent8 hL (List.mem_of_getElem? (i := 0) rfl), sent9 hL (List.mem_of_getElem? (i := 6) rfl), sent10 hL (List.mem_of_getElem? (i := 7) rfl), sent11 hL (List.mem_of_getElem? (i := 8) rfl), sent12 hL (List.mem_of_getElem? (i := 9) rfl), sent13 hL (List.mem_of_getElem? (i := 10) rfl), sent14 hL (List.mem_of_getElem? (i := 11) rfl), sent15 hL (List.mem_of_getElem? (i := 12) rfl), sent16 hL (List.mem_of_getElem? (i := 14) rfl), sent17 hL (List.mem_of_getElem? (i := 15) rfl), sent18 hL (List.mem_of_getElem? (i := 17) rfl), sent19 hL (List.mem_of_getElem? (i := 18) rfl), sent20 hL (List.mem_of_getElem? (i := 19) rfl), sent21 hL (List.mem_of_getElem? (i := 20) rfl), sent22 hL (List.mem_of_getElem? (i := 22) rfl), sent23 hL (List.mem_of_getElem? (i := 23) rfl), sent24 hL (List.mem_of_getElem? (i := 24) rfl)⟩
  have hW' := hW
  obtain ⟨p, q, hA0, hV, rfl, hfz, hnd⟩ := hW
  have hA : DataW.TrodAll enc Tryd.prog W 0 (fun _ => true) true Tryd.f6.params.toList args.toList ds p := hA0
  have hval : ∀ (j : Nat) t v, Tryd.f6.params[j]? = some t → args[j]? = some v → Value.okWide Tryd.prog W .any base t v := hval0
  rw [Tryd.params6] at hA hval
  obtain ⟨v0, vs0, d0, ds0, p0, q0, hargs, rfl, rfl, h0, r0⟩ := trodAll_cons hA
  obtain ⟨v1, vs1, d1, ds1, p1, q1, rfl, rfl, rfl, h1, r1⟩ := trodAll_cons r0
  obtain ⟨rfl, rfl, rfl⟩ := trodAll_nil r1
  obtain rfl : args = #[v0, v1] := by cases args; simp_all
  obtain ⟨rfl, rfl⟩ := trodVars_none hV
  obtain ⟨x0, w0⟩ := at_slice Tryd.underlying23 (hval 0 23 v0 rfl rfl) rd23 h0
  obtain ⟨x1, w1⟩ := at_slice Tryd.underlying47 (hval 1 47 v1 rfl rfl) rd47 h1
  have hμ : Agr (mem W) W := agr_mem W
  have hm := sargassolaw2_CompactReads.m (mem W) x0 v0 w0 x1 v1 w1
  refine (sargassolaw2_CompactReads.c (mem W) W hμ x0 v0 w0 x1 v1 w1 hG true hm).mono fun e W' ⟨v, he, hv, _, hI⟩ => ?_
  subst hv
  subst he
  have bel : Below W.heap.size W W' := hI.below
  exact ⟨_, rfl, _, _, _, [], _, [], hW', trodAll_mk1 (shut_bool Tryd.underlying4 _), (trodAll_cons_mk (again laid rr23 tr23 h0 bel) (trodAll_cons_mk (again laid rr47 tr47 h1 bel) trodAll_mk0)), rfl, bel.frame _, fun h => by cases h⟩
theorem closed : joinedFacts Tryd.prog 6 Tryd.f6 Rows.compactReadsSpec Rows.compactReadsRow = true := by
  unfold joinedFacts
  rw [J.may, J.lifts, J.make]
  kernel_rfl
theorem over : Rows.compactReadsRow.holds Tryd.pinned (OpenSpec.ofChange Rows.compactReadsSpec) :=
  OpenClaim.holds_of_wide 6 Tryd.f6 rfl rfl rfl rfl rfl rfl rfl ⟨rfl, rfl, rfl, rfl, rfl⟩ rfl rfl rfl rfl rfl (by kernel_rfl) Tryd.func6 closed
    (of_decide_eq_true (by kernel_rfl)) (by unfold Func.isWrapper; first | (rw [if_pos (by decide +kernel)]; kernel_rfl) | (rw [if_neg (by decide +kernel)]; exact ⟨rfl, rfl⟩))
    (fun os started H enc _ => lifted os started H enc)
theorem card : Rows.CompactReadsCardSaid :=
  Claim7.holds_tied_plain_at .later [] [.sentinel, .sentinel, .sentinel, .sentinel, .sentinel, .sentinel, .sentinel, .sentinel, .sentinel, .sentinel, .sentinel, .sentinel, .sentinel, .sentinel, .sentinel, .sentinel, .sentinel, .sentinel, .sentinel, .sentinel, .sentinel, .sentinel, .sentinel, .sentinel, .sentinel] true (true, "44c87253b6d1d649ea9f32081a4dd5fbff217aed9ab5f66e5b0991c77eb18b97") true
    over (fun _ h => by cases h) (by kernel_rfl) (fun _ h => by cases h) compactReads_row_tie rfl ⟨rfl, rfl⟩ (J.mainIs.trans (congrArg (fun s => some (true, s)) (by kernel_rfl))) rfl
    (fun f fn hf hfn => by
      obtain rfl : f = 6 := Option.some.inj ((show Tryd.prog.funcNamed "sargasso/sargassolaw2.CompactReads" = some 6 by kernel_rfl).symm.trans hf) |>.symm
      obtain rfl : fn = Tryd.f6 := (Option.some.inj (Tryd.func6.symm.trans hfn)).symm
      exact ⟨by kernel_rfl, fun j t ht => by
        rw [Tryd.params6] at ht
        rcases j with _ | _ | j
        · obtain rfl : (23 : TypeId) = t := by simpa using ht
          exact (show Tryd.prog.wantsStandIn 23 = false by kernel_rfl)
        · obtain rfl : (47 : TypeId) = t := by simpa using ht
          exact (show Tryd.prog.wantsStandIn 47 = false by kernel_rfl)
        · simp at ht⟩)
    (by kernel_rfl)
end Go.Proofs.YtpeelghbhihgkaaDoor.zCompactReads
namespace Go.Proofs.YtpeelghbhihgkaaDoor
theorem compactReads_holds : Rows.CompactReadsCardSaid := zCompactReads.card
#print axioms compactReads_holds
end Go.Proofs.YtpeelghbhihgkaaDoor
