/- Proved: the statement TreeWays, as given (its conditions are those of the given row, and card where there is one; no others): the call ends, with true, and the input reads as it did. This file is one of its parts. -/
import Derived.Test.YtdngkgkkblfcjaaDoorPTreeWays4
import Derived.OpenShut
import Derived.ChangeArms
import Derived.DataReads
import Derived.WideShapes
import Derived.Below
import Derived.Carry
import Derived.ChangeOld
import Derived.LaidLaws
import Derived.Stop.ErrReads
import Derived.ChangeVars
import Derived.Test.YtdngkgkkblfcjaaDoorRows
import Derived.Test.YtdngkgkkblfcjaaDoorProg
import Derived.JoinedOf
import Derived.ProofKit
import Derived.WalkKit
import Derived.ShutString
import Derived.SizedLaws
import Derived.LaidHandle
import Derived.Handed
import Derived.SevenTiedAt
import Derived.Test.YtdngkgkkblfcjaaDoorCards
import Derived.Test.YtdngkgkkblfcjaaDoorTie
namespace Go.Proofs.YtdngkgkkblfcjaaDoor.T
open Go Go.Proofs Go.Proofs.YtdngkgkkblfcjaaDoor.K
set_option linter.unusedVariables false
set_option linter.unusedSimpArgs false
set_option maxRecDepth 20000 in
theorem sargassolaw11_TreeWays.c (μ : Store) (w0 : World) (hμ : Agr μ w0) (x0 : List Int) (u0 : Value) (hx0 : Slc (RI .i64) 1 μ u0 x0) (x1 : Int) (hx1 : InR .i64 x1) (x2 : Int) (hx2 : InR .i64 x2) (e4 : Value) (he4 : ErS μ e4 (Er.b 5)) (e5 : Value) (he5 : ErS μ e5 (Er.b 6)) (e6 : Value) (he6 : ErS μ e6 (Er.b 7)) (r : Bool) (H : sargassolaw11_TreeWays.f x0 x1 x2 = some r) :
    Calls Tryd.prog 4 [u0, .int .i64 x1, .int .i64 x2].toArray w0 (fun e w' => ∃ v, e = .returned v ∧ v = .bool r ∧ True ∧ Iv w0 [] μ μ [] w') := by
  refine enter Tryd.func4 rfl Tryd.ntmps4 rfl fun a hA => ?_
  have hI := Iv.start hμ
  have H := bI H
  refine w_seq fun _ hN1 => w_reg <| sta hA rfl rfl fun a hA => ?_
  refine o_nil <| hN1 _ _ <| w_seq fun _ hN2 => w_reg ?_
  obtain ⟨r1, hr1, H⟩ := bB H
  refine o_callp (u := .bool r1) cf15 hA rfl hI (sargassolaw11_first.c μ _ hI.agr  r1 hr1) rfl fun a w hz1 hI hA => 
    sta hA rfl rfl fun a hA => ?_
  refine o_nil <| hN2 _ _ <| w_seq fun _ hN3 => w_seq fun _ hN4 => w_reg <| stm hA rfl rfl fun a hA => 
    stp hA (r_not hA rfl) rfl fun a hA => ?_
  refine o_nil <| hN4 _ _ <| w_cond hA rfl (fun hc1 => ?_) (fun hc1 => ?_)
  · have hc10 := hc1; have hc1 := nT hc1; have hc1 := ft hc1; have H := bF H hc1
    refine w_seq fun _ hN5 => w_reg <| sta hA rfl rfl fun a hA => ?_
    refine o_nil <| hN5 _ _ <| w_ret ?_
    obtain rfl := sJ H
    exact ret1 hA Tryd.results4 rfl ⟨_, rfl, rfl, trivial, hI.forget0⟩
  · have hc10 := hc1; have hc1 := nF hc1; have H := bT H hc1
    refine w_skip <| hN3 _ _ <| w_seq fun _ hN6 => w_seq fun _ hN7 => w_reg <| stm hA rfl rfl fun a hA => ?_
    obtain ⟨_, hsl1⟩ := Slc.sv hx0
    refine stp hA (r_slen Tryd.underlying55 hsl1 hA rfl) rfl fun a hA => 
      stp hA (r_gtr hA rfl rfl) rfl fun a hA => ?_
    refine o_nil <| hN7 _ _ <| w_cond hA rfl (fun hc2 => ?_) (fun hc2 => ?_)
    · have hc20 := hc2; obtain ⟨hc2, H⟩ := dT H hc2
      refine w_seq fun _ hN8 => w_reg <| stm hA rfl rfl fun a hA => 
        sta hA rfl rfl fun a hA => ?_
      refine o_nil <| hN8 _ _ <| w_ret ?_
      obtain rfl := sJ H
      exact ret1 hA Tryd.results4 rfl ⟨_, rfl, rfl, trivial, hI.forget0⟩
    · have hc20 := hc2; obtain ⟨hc2, H⟩ := dF H hc2
      refine w_skip <| hN6 _ _ <| w_seq fun _ hN9 => w_reg <| stm hA rfl rfl fun a hA => ?_
      obtain ⟨r2, hr2, H⟩ := bB H
      refine o_call _ cf16 hA rfl (sargassolaw11_grown.c μ _ hI.agr x0 u0 hx0 r2 hr2) rfl fun v1 a w hz2 hA => ?_
      obtain ⟨_, cs1, rfl, hE1, hi1⟩ := hz2
      have hI := hI.call hi1
      refine sta hA rfl rfl fun a hA => ?_
      refine o_nil <| hN9 _ _ <| w_seq fun _ hN10 => w_reg <| stm hA rfl rfl fun a hA => ?_
      obtain ⟨hb1, H⟩ := bG H
      refine stp hA (r_rix (j := 0) Tryd.underlying56 sz28 hI rfl hA rfl rfl (by decide) hb1) rfl fun a hA => ?_
      obtain ⟨A1, _, B1, hc3, hl1, _, he1⟩ := Els.at_ hE1 (getD_some default (by decide) hb1)
      obtain ⟨rfl, hw1⟩ := he1
      refine stp hA (r_rldP (j := 0) (q := (0 : Int).toNat * 68) (off := 0) A1 B1 [] [[.int .u32 ((r2.getD (0 : Int).toNat default).Version)], av .u8 32 ((r2.getD (0 : Int).toNat default).Prev), av .u8 32 ((r2.getD (0 : Int).toNat default).Root), [.int .u32 ((r2.getD (0 : Int).toNat default).Time)], [.int .u32 ((r2.getD (0 : Int).toNat default).Work)], [.int .u32 ((r2.getD (0 : Int).toNat default).Nonce)]] [] hc3 hl1 rfl Tryd.underlying28 rfl sz28 rfl hI rfl hA rfl) rfl fun a hA => ?_
      obtain ⟨r3, hr3, H⟩ := bB H
      refine o_call _ cf17 hA rfl (tree_New.c μ _ hI.agr (r2.getD (0 : Int).toNat default) ⟨hw1.1, hw1.2.1, hw1.2.2.1, hw1.2.2.2.1, hw1.2.2.2.2.1, hw1.2.2.2.2.2⟩ r3 hr3) rfl fun v2 a w hz3 hA => ?_
      obtain ⟨g1, gm1, gs1, rfl, hp1, hp2, hi2⟩ := hz3
      have hI := hI.call hi2
      refine sta hA rfl rfl fun a hA => ?_
      refine o_nil <| hN10 _ _ <| w_seq fun _ hN11 => w_seq fun _ hN12 => w_reg <| stm hA rfl rfl fun a hA => 
        stp hA (r_ptrnil_eql Tryd.underlying58 hA rfl rfl) rfl fun a hA => ?_
      refine o_nil <| hN12 _ _ <| w_cF hA rfl rfl ?_
      refine w_skip <| hN11 _ _ ?_
      obtain ⟨⟨c1, c2⟩, hz4, Hk1⟩ := bB H
      refine w_cut (fun a w => ∃ (μ1 : Store) (ggc1 : Nat) (gsc1 : (List Int) → NG), μ.le μ1 ∧ nw95 μ1 c1 gsc1 ∧ Arr .u8 32 c2 ∧ Fr a 198 [(1, .int .i64 x1), (2, .int .i64 x2), (6, .bool false), (7, .bool r1), (8, v1), (9, .pointer (some ⟨g1, 0, none⟩))] ∧ Iv w0 [] μ μ1 [nd95 ggc1 c1 gsc1, cel g1 [[.map (some ggc1)], av .u8 32 c2] 97, row 28 68 v1 r2.length cs1] w) ?_ ?_
      · have H := bI hz4
        refine w_seq fun _ hN13 => w_reg <| sta hA rfl rfl fun a hA => ?_
        refine o_nil <| hN13 _ _ <| w_block ?_
        obtain ⟨z1, hz5, Hk2⟩ := bind_some H
        obtain ⟨n1, hn1⟩ := loopO_some hz5
        refine w_loop (fun n a w => ∃ (s1 : Int) (s2 : List ((List Int) × treeNode)) (s3 : List Int) (μ2 : Store) (ggs2 : Nat) (gss2 : (List Int) → NG), loopN (sargassolaw11_TreeWays.s0 r2) n (s1, s2, s3) = some z1 ∧ μ.le μ2 ∧ InR .i64 s1 ∧ nw95 μ2 s2 gss2 ∧ Arr .u8 32 s3 ∧ Fr a 198 [(1, .int .i64 x1), (2, .int .i64 x2), (6, .bool false), (7, .bool r1), (8, v1), (9, .pointer (some ⟨g1, 0, none⟩)), (10, .int .i64 s1)] ∧ Iv w0 [] μ μ2 [cel g1 [[.map (some ggs2)], av .u8 32 s3] 97, nd95 ggs2 s2 gss2, row 28 68 v1 r2.length cs1] w) n1 ⟨1, r3.m, r3.start, μ, gm1, gs1, hn1, (Store.le.refl _), (in_lit .i64 1 rfl), hp1, hp2, hA.sub ⟨rfl, rfl, rfl, rfl, rfl, rfl, rfl, trivial⟩, hI⟩ ?_
        clear hA hI
        rintro n a w ⟨s1, s2, s3, μ2, ggs2, gss2, hn1, hle2, ws1, ws2, ws3, hA, hI⟩
        obtain ⟨m1, rfl, H⟩ := loopN_bind hn1
        clear hn1
        refine w_seq fun _ hN14 => w_seq fun _ hN15 => w_reg <| stm hA rfl rfl fun a hA => 
          stm hA rfl rfl fun a hA => ?_
        have hlen1 := Iv.row_in hI (j := 2) rfl
        refine stp hA (r_rlen (xs := 0) Tryd.underlying56 hI (j := 2) rfl hA rfl) rfl fun a hA => 
          stp hA (r_lss hA rfl rfl) rfl fun a hA => ?_
        refine o_nil <| hN15 _ _ <| w_cond hA rfl (fun hc4 => ?_) (fun hc4 => ?_)
        · obtain ⟨hc4, H⟩ := dT H hc4
          refine w_skip <| hN14 _ _ <| w_seq fun _ hN16 => w_block <| w_reg <| stm hA rfl rfl fun a hA => 
            stm hA rfl rfl fun a hA => 
            stm hA rfl rfl fun a hA => ?_
          obtain ⟨hb2, H⟩ := bG H
          refine stp hA (r_rix (j := 2) Tryd.underlying56 sz28 hI rfl hA rfl rfl hb2.1 hb2.2) rfl fun a hA => ?_
          obtain ⟨A2, _, B2, hc5, hl2, _, he2⟩ := Els.at_ hE1 (getD_some default hb2.1 hb2.2)
          obtain ⟨rfl, hw2⟩ := he2
          refine stp hA (r_rldP (j := 2) (q := s1.toNat * 68) (off := 0) A2 B2 [] [[.int .u32 ((r2.getD s1.toNat default).Version)], av .u8 32 ((r2.getD s1.toNat default).Prev), av .u8 32 ((r2.getD s1.toNat default).Root), [.int .u32 ((r2.getD s1.toNat default).Time)], [.int .u32 ((r2.getD s1.toNat default).Work)], [.int .u32 ((r2.getD s1.toNat default).Nonce)]] [] hc5 hl2 rfl Tryd.underlying28 rfl sz28 rfl hI rfl hA rfl) rfl fun a hA => ?_
          obtain ⟨r4, hr4, H⟩ := bB H
          refine o_call _ cf18 hA rfl (tree_Tree_Add.c μ2 _ hI.agr (⟨s2, s3⟩ : treeTree) ggs2 gss2 g1 ws2 ws3 (hI.handN 2) (r2.getD s1.toNat default) ⟨hw2.1, hw2.2.1, hw2.2.2.1, hw2.2.2.2.1, hw2.2.2.2.2.1, hw2.2.2.2.2.2⟩ e4 (ErV.le (fun _ _ h => h) hle2 he4) e5 (ErV.le (fun _ _ h => h) hle2 he5) e6 (ErV.le (fun _ _ h => h) hle2 he6) r4 hr4) rfl fun v3 a w hz6 hA => ?_
          obtain ⟨_, gm2, gs2, μ3, rfl, hS1, hp3, hp4, hi3⟩ := hz6
          have hI := hI.back2 hi3
          refine o_nil <| hN16 _ _ <| w_reg <| stm hA rfl rfl fun a hA => 
            stp hA (r_add hA rfl rfl) rfl fun a hA => 
            sta hA rfl rfl fun a hA => ?_
          refine o_nil <| ⟨m1, Nat.lt_succ_self _, IntKind.i64.wrap (s1 + 1), r4.2.m, r4.2.start, μ3, gm2, gs2, H, (hle2.trans hi3.le), (wrap_in _ _), hp3, hp4, hA.sub ⟨rfl, rfl, rfl, rfl, rfl, rfl, rfl, trivial⟩, hI⟩
        · obtain ⟨hc4, H⟩ := dF H hc4
          refine w_exit rfl ?_
          have H : some (s2, s3) = some z1 := H
          obtain rfl := sI H
          have H := Hk2
          cases sJ H
          exact ⟨μ2, ggs2, gss2, hle2, ws2, ws3, hA.sub ⟨rfl, rfl, rfl, rfl, rfl, rfl, trivial⟩, (hI.sl [1, 0, 2] rfl)⟩
      · rintro a w ⟨μ1, ggc1, gsc1, hle1, wc1, wc2, hA, hI⟩
        have H := Hk1
        refine w_seq fun _ hN17 => w_reg <| stm hA rfl rfl fun a hA => 
          stm hA rfl rfl fun a hA => 
          stm hA rfl rfl fun a hA => ?_
        have hlen2 := Iv.row_in hI (j := 2) rfl
        refine stp hA (r_rlen (xs := 0) Tryd.underlying56 hI (j := 2) rfl hA rfl) rfl fun a hA => ?_
        obtain ⟨r5, hr5, H⟩ := bB H
        refine o_callp (u := .int .i64 r5) cf8 hA rfl hI (sargassoworld_Number.c μ1 _ hI.agr x1 hx1 (r2.length : Int) hlen2 r5 hr5) rfl fun a w hz7 hI hA => ?_
        obtain ⟨hb3, H⟩ := bG H
        refine stp hA (r_rix (j := 2) Tryd.underlying56 sz28 hI rfl hA rfl rfl hb3.1 hb3.2) rfl fun a hA => ?_
        obtain ⟨A3, _, B3, hc6, hl3, _, he3⟩ := Els.at_ hE1 (getD_some default hb3.1 hb3.2)
        obtain ⟨rfl, hw3⟩ := he3
        refine stp hA (r_rldP (j := 2) (q := r5.toNat * 68) (off := 0) A3 B3 [] [[.int .u32 ((r2.getD r5.toNat default).Version)], av .u8 32 ((r2.getD r5.toNat default).Prev), av .u8 32 ((r2.getD r5.toNat default).Root), [.int .u32 ((r2.getD r5.toNat default).Time)], [.int .u32 ((r2.getD r5.toNat default).Work)], [.int .u32 ((r2.getD r5.toNat default).Nonce)]] [] hc6 hl3 rfl Tryd.underlying28 rfl sz28 rfl hI rfl hA rfl) rfl fun a hA => ?_
        obtain ⟨r6, hr6, H⟩ := bB H
        refine o_callp (u := .agg [av .u8 32 r6].flatten.toArray) cf19 hA rfl hI (sargassoref1_HeadID.c μ1 _ hI.agr (r2.getD r5.toNat default) ⟨hw3.1, hw3.2.1, hw3.2.2.1, hw3.2.2.2.1, hw3.2.2.2.2.1, hw3.2.2.2.2.2⟩ r6 hr6) rfl fun a w hz8 hI hA => 
          o_new [av .u8 32 (List.replicate 32 0)] zr26 hI hA rfl fun g2 a w hA hI hg2 => 
          o_st (j := 0) [] [av .u8 32 (List.replicate 32 0)] [av .u8 32 r6] [] sz26 rfl rfl (fl_cons (one_av _ _ _) fl_nil) hI rfl hA rfl rfl rfl rfl fun w hI => ?_
        refine o_nil <| hN17 _ _ <| w_seq fun _ hN18 => w_reg <| stm hA rfl rfl fun a hA => 
          stm hA rfl rfl fun a hA => 
          stm hA rfl rfl fun a hA => ?_
        have hlen3 := Iv.row_in hI (j := 3) rfl
        refine stp hA (r_rlen (xs := 0) Tryd.underlying56 hI (j := 3) rfl hA rfl) rfl fun a hA => ?_
        obtain ⟨r7, hr7, H⟩ := bB H
        refine o_callp (u := .int .i64 r7) cf8 hA rfl hI (sargassoworld_Number.c μ1 _ hI.agr x2 hx2 (r2.length : Int) hlen3 r7 hr7) rfl fun a w hz9 hI hA => ?_
        obtain ⟨hb4, H⟩ := bG H
        refine stp hA (r_rix (j := 3) Tryd.underlying56 sz28 hI rfl hA rfl rfl hb4.1 hb4.2) rfl fun a hA => ?_
        obtain ⟨A4, _, B4, hc7, hl4, _, he4⟩ := Els.at_ hE1 (getD_some default hb4.1 hb4.2)
        obtain ⟨rfl, hw4⟩ := he4
        refine stp hA (r_rldP (j := 3) (q := r7.toNat * 68) (off := 0) A4 B4 [] [[.int .u32 ((r2.getD r7.toNat default).Version)], av .u8 32 ((r2.getD r7.toNat default).Prev), av .u8 32 ((r2.getD r7.toNat default).Root), [.int .u32 ((r2.getD r7.toNat default).Time)], [.int .u32 ((r2.getD r7.toNat default).Work)], [.int .u32 ((r2.getD r7.toNat default).Nonce)]] [] hc7 hl4 rfl Tryd.underlying28 rfl sz28 rfl hI rfl hA rfl) rfl fun a hA => ?_
        obtain ⟨r8, hr8, H⟩ := bB H
        refine o_callp (u := .agg [av .u8 32 r8].flatten.toArray) cf19 hA rfl hI (sargassoref1_HeadID.c μ1 _ hI.agr (r2.getD r7.toNat default) ⟨hw4.1, hw4.2.1, hw4.2.2.1, hw4.2.2.2.1, hw4.2.2.2.2.1, hw4.2.2.2.2.2⟩ r8 hr8) rfl fun a w hz10 hI hA => 
          o_new [av .u8 32 (List.replicate 32 0)] zr26 hI hA rfl fun g3 a w hA hI hg3 => 
          o_st (j := 0) [] [av .u8 32 (List.replicate 32 0)] [av .u8 32 r8] [] sz26 rfl rfl (fl_cons (one_av _ _ _) fl_nil) hI rfl hA rfl rfl rfl rfl fun w hI => ?_
        refine o_nil <| hN18 _ _ <| w_seq fun _ hN19 => w_reg <| stm hA rfl rfl fun a hA => 
          stp hA (r_ldA (j := 1) [] [av .u8 32 r6] [] Tryd.underlying26 rfl sz26 rfl hI rfl hA rfl rfl) rfl fun a hA => 
          stp hA (r_ldA (j := 0) [] [av .u8 32 r8] [] Tryd.underlying26 rfl sz26 rfl hI rfl hA rfl rfl) rfl fun a hA => ?_
        obtain ⟨r9, hr9, H⟩ := bB H
        have hI := hI.sl [3, 2, 0, 1, 4] rfl
        refine o_call _ cf20 hA rfl (tree_Tree_Path.c μ1 _ hI.agr (⟨c1, c2⟩ : treeTree) ggc1 gsc1 g1 wc1 wc2 (hI.handN 2) r6 hz8 r8 hz10 r9 hr9) rfl fun v4 a w hz11 hA => ?_
        obtain ⟨v5, cs2, v6, cs3, rfl, hE2, hE3, hw5, hi4⟩ := hz11
        have hI := hI.backN 2 hi4
        have hI : Iv w0 [] μ μ1 [row 26 32 v5 r9.1.length cs2, row 26 32 v6 r9.2.1.length cs3, cel g1 [[.map (some ggc1)], av .u8 32 c2] 97, nd95 ggc1 c1 gsc1, cel g3 [av .u8 32 r8] 26, cel g2 [av .u8 32 r6] 26, row 28 68 v1 r2.length cs1] w := hI
        refine stm hA rfl rfl fun a hA => 
          stp hA (r_extr (vs := [v5, v6, .bool r9.2.2]) hA rfl rfl) rfl fun a hA => 
          stp hA (r_extr (vs := [v5, v6, .bool r9.2.2]) hA rfl rfl) rfl fun a hA => 
          stp hA (r_extr (vs := [v5, v6, .bool r9.2.2]) hA rfl rfl) rfl fun a hA => 
          sta hA rfl rfl fun a hA => 
          sta hA rfl rfl fun a hA => 
          sta hA rfl rfl fun a hA => ?_
        refine o_nil <| hN19 _ _ <| w_seq fun _ hN20 => w_reg <| stm hA rfl rfl fun a hA => 
          stp hA (r_ldA (j := 4) [] [av .u8 32 r8] [] Tryd.underlying26 rfl sz26 rfl hI rfl hA rfl rfl) rfl fun a hA => 
          stp hA (r_ldA (j := 5) [] [av .u8 32 r6] [] Tryd.underlying26 rfl sz26 rfl hI rfl hA rfl rfl) rfl fun a hA => ?_
        obtain ⟨r10, hr10, H⟩ := bB H
        have hI := hI.sl [2, 3, 0, 1, 4, 5, 6] rfl
        refine o_call _ cf20 hA rfl (tree_Tree_Path.c μ1 _ hI.agr (⟨c1, c2⟩ : treeTree) ggc1 gsc1 g1 wc1 wc2 (hI.handN 2) r8 hz10 r6 hz8 r10 hr10) rfl fun v7 a w hz12 hA => ?_
        obtain ⟨v8, cs4, v9, cs5, rfl, hE4, hE5, hw6, hi5⟩ := hz12
        have hI := hI.backN 2 hi5
        have hI : Iv w0 [] μ μ1 [row 26 32 v8 r10.1.length cs4, row 26 32 v9 r10.2.1.length cs5, cel g1 [[.map (some ggc1)], av .u8 32 c2] 97, nd95 ggc1 c1 gsc1, row 26 32 v5 r9.1.length cs2, row 26 32 v6 r9.2.1.length cs3, cel g3 [av .u8 32 r8] 26, cel g2 [av .u8 32 r6] 26, row 28 68 v1 r2.length cs1] w := hI
        refine stm hA rfl rfl fun a hA => 
          stp hA (r_extr (vs := [v8, v9, .bool r10.2.2]) hA rfl rfl) rfl fun a hA => 
          stp hA (r_extr (vs := [v8, v9, .bool r10.2.2]) hA rfl rfl) rfl fun a hA => 
          stp hA (r_extr (vs := [v8, v9, .bool r10.2.2]) hA rfl rfl) rfl fun a hA => 
          sta hA rfl rfl fun a hA => 
          sta hA rfl rfl fun a hA => 
          sta hA rfl rfl fun a hA => ?_
        refine o_nil <| hN20 _ _ <| w_seq fun _ hN21 => w_reg <| stm hA rfl rfl fun a hA => 
          stp hA (r_ldA (j := 7) [] [av .u8 32 r6] [] Tryd.underlying26 rfl sz26 rfl hI rfl hA rfl rfl) rfl fun a hA => 
          stp hA (r_ldA (j := 6) [] [av .u8 32 r8] [] Tryd.underlying26 rfl sz26 rfl hI rfl hA rfl rfl) rfl fun a hA => ?_
        obtain ⟨r11, hr11, H⟩ := bB H
        have hI := hI.sl [2, 3, 0, 1, 4, 5, 6, 7, 8] rfl
        refine o_call _ cf21 hA rfl (tree_Tree_Common.c μ1 _ hI.agr (⟨c1, c2⟩ : treeTree) ggc1 gsc1 g1 wc1 wc2 (hI.handN 2) r6 hz8 r8 hz10 r11 hr11) rfl fun v10 a w hz13 hA => ?_
        obtain ⟨rfl, hw7, hw8, hi6⟩ := hz13
        have hI := hI.back2 hi6
        refine stm hA rfl rfl fun a hA => 
          stp hA (r_extr (vs := [.agg [av .u8 32 r11.1].flatten.toArray, .bool r11.2]) hA rfl rfl) rfl fun a hA => 
          stp hA (r_extr (vs := [.agg [av .u8 32 r11.1].flatten.toArray, .bool r11.2]) hA rfl rfl) rfl fun a hA => 
          o_new [av .u8 32 (List.replicate 32 0)] zr26 hI hA rfl fun g4 a w hA hI hg4 => 
          o_st (j := 0) [] [av .u8 32 (List.replicate 32 0)] [av .u8 32 r11.1] [] sz26 rfl rfl (fl_cons (one_av _ _ _) fl_nil) hI rfl hA rfl rfl rfl rfl fun w hI => 
          sta hA rfl rfl fun a hA => ?_
        refine o_nil <| hN21 _ _ <| w_seq fun _ hN22 => ?_
        obtain ⟨c3, hz14, Hk3⟩ := bB H
        refine w_cut (fun a w => Fr a 198 [(6, .bool false), (7, .bool r1), (9, .pointer (some ⟨g1, 0, none⟩)), (11, .pointer (some ⟨g2, 0, none⟩)), (12, .pointer (some ⟨g3, 0, none⟩)), (13, v5), (14, v6), (17, v9), (19, .pointer (some ⟨g4, 0, none⟩)), (117, .bool c3)] ∧ Iv w0 [] μ μ1 [cel g4 [av .u8 32 r11.1] 26, cel g1 [[.map (some ggc1)], av .u8 32 c2] 97, nd95 ggc1 c1 gsc1, row 26 32 v8 r10.1.length cs4, row 26 32 v9 r10.2.1.length cs5, row 26 32 v5 r9.1.length cs2, row 26 32 v6 r9.2.1.length cs3, cel g3 [av .u8 32 r8] 26, cel g2 [av .u8 32 r6] 26, row 28 68 v1 r2.length cs1] w) ?_ ?_
        · have H := bI hz14
          refine w_reg <| stm hA rfl rfl fun a hA => 
            stp hA (r_not hA rfl) rfl fun a hA => 
            stm hA rfl rfl fun a hA => ?_
          rcases Bool.eq_false_or_eq_true (!r9.2.2) with hc8 | hc8
          · have hc80 := hc8; have hc8 := nT hc8; have hc8 := ft hc8; have H := bF H hc8
            refine o_no hA rfl rfl (by rw [hc80]; simp [vb]) rfl fun a hA => 
              o_no hA rfl rfl (by rw [hc80]; simp [vb]) rfl fun a hA => 
              stp hA (r_pick_t hA rfl hc80 rfl) rfl fun a hA => 
              stm hA rfl rfl fun a hA => 
              o_no hA rfl rfl (by simp [vb]) rfl fun a hA => 
              o_no hA rfl rfl (by simp [vb]) rfl fun a hA => 
              stp hA (r_pick_t hA rfl rfl rfl) rfl fun a hA => 
              stm hA rfl rfl fun a hA => 
              o_no hA rfl rfl (by simp [vb]) rfl fun a hA => 
              o_no hA rfl rfl (by simp [vb]) rfl fun a hA => 
              o_no hA rfl rfl (by simp [vb]) rfl fun a hA => 
              o_no hA rfl rfl (by simp [vb]) rfl fun a hA => 
              o_no hA rfl rfl (by simp [vb]) rfl fun a hA => 
              stp hA (r_pick_t hA rfl rfl rfl) rfl fun a hA => 
              stm hA rfl rfl fun a hA => 
              o_no hA rfl rfl (by simp [vb]) rfl fun a hA => 
              o_no hA rfl rfl (by simp [vb]) rfl fun a hA => 
              o_no hA rfl rfl (by simp [vb]) rfl fun a hA => 
              o_no hA rfl rfl (by simp [vb]) rfl fun a hA => 
              o_no hA rfl rfl (by simp [vb]) rfl fun a hA => 
              stp hA (r_pick_t hA rfl rfl rfl) rfl fun a hA => ?_
            refine o_nil ?_
            cases sJ H
            exact ⟨hA.sub ⟨rfl, rfl, rfl, rfl, rfl, rfl, rfl, rfl, rfl, rfl, trivial⟩, hI⟩
          · have hc80 := hc8; have hc8 := nF hc8; have H := bT H hc8
            refine o_yes hA rfl rfl hc80 <| 
              stm hA rfl rfl fun a hA => 
              o_yes hA rfl rfl hc80 <| 
              stp hA (r_not hA rfl) rfl fun a hA => 
              stp hA (r_pick_f hA rfl hc80 rfl) rfl fun a hA => 
              stm hA rfl rfl fun a hA => ?_
            rcases Bool.eq_false_or_eq_true (!r10.2.2) with hc9 | hc9
            · have hc90 := hc9; have hc9 := nT hc9; have hc9 := ft hc9; have H := bF H hc9
              refine o_no hA rfl rfl (by rw [hc90]; simp [vb]) rfl fun a hA => 
                o_no hA rfl rfl (by rw [hc90]; simp [vb]) rfl fun a hA => 
                stp hA (r_pick_t hA rfl hc90 rfl) rfl fun a hA => 
                stm hA rfl rfl fun a hA => 
                o_no hA rfl rfl (by simp [vb]) rfl fun a hA => 
                o_no hA rfl rfl (by simp [vb]) rfl fun a hA => 
                o_no hA rfl rfl (by simp [vb]) rfl fun a hA => 
                o_no hA rfl rfl (by simp [vb]) rfl fun a hA => 
                o_no hA rfl rfl (by simp [vb]) rfl fun a hA => 
                stp hA (r_pick_t hA rfl rfl rfl) rfl fun a hA => 
                stm hA rfl rfl fun a hA => 
                o_no hA rfl rfl (by simp [vb]) rfl fun a hA => 
                o_no hA rfl rfl (by simp [vb]) rfl fun a hA => 
                o_no hA rfl rfl (by simp [vb]) rfl fun a hA => 
                o_no hA rfl rfl (by simp [vb]) rfl fun a hA => 
                o_no hA rfl rfl (by simp [vb]) rfl fun a hA => 
                stp hA (r_pick_t hA rfl rfl rfl) rfl fun a hA => ?_
              refine o_nil ?_
              cases sJ H
              exact ⟨hA.sub ⟨rfl, rfl, rfl, rfl, rfl, rfl, rfl, rfl, rfl, rfl, trivial⟩, hI⟩
            · have hc90 := hc9; have hc9 := nF hc9; have H := bT H hc9
              refine o_yes hA rfl rfl hc90 <| 
                stm hA rfl rfl fun a hA => 
                o_yes hA rfl rfl hc90 <| 
                stp hA (r_not hA rfl) rfl fun a hA => 
                stp hA (r_pick_f hA rfl hc90 rfl) rfl fun a hA => 
                stm hA rfl rfl fun a hA => ?_
              rcases Bool.eq_false_or_eq_true (!r11.2) with hc10 | hc10
              · have hc100 := hc10; have hc10 := nT hc10; have hc10 := ft hc10; have H := bF H hc10
                refine o_no hA rfl rfl (by rw [hc100]; simp [vb]) rfl fun a hA => 
                  o_no hA rfl rfl (by rw [hc100]; simp [vb]) rfl fun a hA => 
                  o_no hA rfl rfl (by rw [hc100]; simp [vb]) rfl fun a hA => 
                  o_no hA rfl rfl (by rw [hc100]; simp [vb]) rfl fun a hA => 
                  o_no hA rfl rfl (by rw [hc100]; simp [vb]) rfl fun a hA => 
                  stp hA (r_pick_t hA rfl hc100 rfl) rfl fun a hA => 
                  stm hA rfl rfl fun a hA => 
                  o_no hA rfl rfl (by simp [vb]) rfl fun a hA => 
                  o_no hA rfl rfl (by simp [vb]) rfl fun a hA => 
                  o_no hA rfl rfl (by simp [vb]) rfl fun a hA => 
                  o_no hA rfl rfl (by simp [vb]) rfl fun a hA => 
                  o_no hA rfl rfl (by simp [vb]) rfl fun a hA => 
                  stp hA (r_pick_t hA rfl rfl rfl) rfl fun a hA => ?_
                refine o_nil ?_
                cases sJ H
                exact ⟨hA.sub ⟨rfl, rfl, rfl, rfl, rfl, rfl, rfl, rfl, rfl, rfl, trivial⟩, hI⟩
              · have hc100 := hc10; have hc10 := nF hc10; have H := bT H hc10
                refine o_yes hA rfl rfl hc100 <| 
                  stm hA rfl rfl fun a hA => 
                  o_yes hA rfl rfl hc100 <| ?_
                have hlen4 := Iv.row_in hI (j := 5) rfl
                refine stp hA (r_rlen (xs := 0) Tryd.underlying62 hI (j := 5) rfl hA rfl) rfl fun a hA => 
                  o_yes hA rfl rfl hc100 <| 
                  stm hA rfl rfl fun a hA => 
                  o_yes hA rfl rfl hc100 <| ?_
                have hlen5 := Iv.row_in hI (j := 4) rfl
                refine stp hA (r_rlen (xs := 0) Tryd.underlying62 hI (j := 4) rfl hA rfl) rfl fun a hA => 
                  o_yes hA rfl rfl hc100 <| 
                  stp hA (r_neq hA rfl rfl) rfl fun a hA => 
                  stp hA (r_pick_f hA rfl hc100 rfl) rfl fun a hA => 
                  stm hA rfl rfl fun a hA => ?_
                rcases Bool.eq_false_or_eq_true (decide ((r9.1.length : Int) ≠ (r10.2.1.length : Int))) with hc11 | hc11
                · have hc110 := hc11; obtain ⟨hc11, H⟩ := dT H hc11
                  refine o_no hA rfl rfl (by rw [hc110]; simp [vb]) rfl fun a hA => 
                    o_no hA rfl rfl (by rw [hc110]; simp [vb]) rfl fun a hA => 
                    o_no hA rfl rfl (by rw [hc110]; simp [vb]) rfl fun a hA => 
                    o_no hA rfl rfl (by rw [hc110]; simp [vb]) rfl fun a hA => 
                    o_no hA rfl rfl (by rw [hc110]; simp [vb]) rfl fun a hA => 
                    stp hA (r_pick_t hA rfl hc110 rfl) rfl fun a hA => ?_
                  refine o_nil ?_
                  cases sJ H
                  exact ⟨hA.sub ⟨rfl, rfl, rfl, rfl, rfl, rfl, rfl, rfl, rfl, rfl, trivial⟩, hI⟩
                · have hc110 := hc11; obtain ⟨hc11, H⟩ := dF H hc11
                  refine o_yes hA rfl rfl hc110 <| 
                    stm hA rfl rfl fun a hA => 
                    o_yes hA rfl rfl hc110 <| ?_
                  have hlen6 := Iv.row_in hI (j := 6) rfl
                  refine stp hA (r_rlen (xs := 0) Tryd.underlying62 hI (j := 6) rfl hA rfl) rfl fun a hA => 
                    o_yes hA rfl rfl hc110 <| 
                    stm hA rfl rfl fun a hA => 
                    o_yes hA rfl rfl hc110 <| ?_
                  have hlen7 := Iv.row_in hI (j := 3) rfl
                  refine stp hA (r_rlen (xs := 0) Tryd.underlying62 hI (j := 3) rfl hA rfl) rfl fun a hA => 
                    o_yes hA rfl rfl hc110 <| 
                    stp hA (r_neq hA rfl rfl) rfl fun a hA => 
                    stp hA (r_pick_f hA rfl hc110 rfl) rfl fun a hA => ?_
                  refine o_nil ?_
                  cases sJ H
                  exact ⟨hA.sub ⟨rfl, rfl, rfl, rfl, rfl, rfl, rfl, rfl, rfl, rfl, trivial⟩, hI⟩
        · rintro a w ⟨hA, hI⟩
          have H := Hk3
          refine w_cond hA rfl (fun hc12 => ?_) (fun hc12 => ?_)
          · have H := bT H hc12
            refine w_seq fun _ hN23 => w_reg <| sta hA rfl rfl fun a hA => ?_
            refine o_nil <| hN23 _ _ <| w_ret ?_
            obtain rfl := sJ H
            exact ret1 hA Tryd.results4 rfl ⟨_, rfl, rfl, trivial, hI.forget0⟩
          · have hc12 := ft hc12; have H := bF H hc12
            refine w_skip <| hN22 _ _ <| w_seq fun _ hN24 => w_reg <| stp hA (r_ldA (j := 8) [] [av .u8 32 r6] [] Tryd.underlying26 rfl sz26 rfl hI rfl hA rfl rfl) rfl fun a hA => 
              o_new [av .u8 32 (List.replicate 32 0)] zr26 hI hA rfl fun g5 a w hA hI hg5 => 
              o_st (j := 0) [] [av .u8 32 (List.replicate 32 0)] [av .u8 32 r6] [] sz26 rfl rfl (fl_cons (one_av _ _ _) fl_nil) hI rfl hA rfl rfl rfl rfl fun w hI => ?_
            refine o_nil <| hN24 _ _ <| w_seq fun _ hN25 => w_seq fun _ hN26 => w_reg <| sta hA rfl rfl fun a hA => ?_
            refine o_nil <| hN26 _ _ <| w_block ?_
            obtain ⟨z2, hz15, Hk4⟩ := bind_some H
            obtain ⟨n2, hn2⟩ := loopO_some hz15
            refine w_loop (fun n a w => ∃ (s4 : Int) (s5 : List Int), loopN (sargassolaw11_TreeWays.s1 r1 c1 c2 r8 r9 r10 r11) n (s4, s5) = some z2 ∧ InR .i64 s4 ∧ Arr .u8 32 s5 ∧ Fr a 198 [(6, .bool false), (7, .bool r1), (9, .pointer (some ⟨g1, 0, none⟩)), (12, .pointer (some ⟨g3, 0, none⟩)), (13, v5), (14, v6), (17, v9), (19, .pointer (some ⟨g4, 0, none⟩)), (21, .pointer (some ⟨g5, 0, none⟩)), (22, .int .i64 s4)] ∧ Iv w0 [] μ μ1 [cel g5 [av .u8 32 s5] 26, cel g4 [av .u8 32 r11.1] 26, cel g1 [[.map (some ggc1)], av .u8 32 c2] 97, nd95 ggc1 c1 gsc1, row 26 32 v8 r10.1.length cs4, row 26 32 v9 r10.2.1.length cs5, row 26 32 v5 r9.1.length cs2, row 26 32 v6 r9.2.1.length cs3, cel g3 [av .u8 32 r8] 26, cel g2 [av .u8 32 r6] 26, row 28 68 v1 r2.length cs1] w) n2 ⟨0, r6, hn2, (in_lit .i64 0 rfl), hz8, hA.sub ⟨rfl, rfl, rfl, rfl, rfl, rfl, rfl, rfl, rfl, rfl, trivial⟩, hI⟩ ?_
            clear hA hI
            rintro n a w ⟨s4, s5, hn2, ws4, ws5, hA, hI⟩
            obtain ⟨m2, rfl, H⟩ := loopN_bind hn2
            clear hn2
            refine w_seq fun _ hN27 => w_seq fun _ hN28 => w_reg <| stm hA rfl rfl fun a hA => 
              stm hA rfl rfl fun a hA => ?_
            have hlen8 := Iv.row_in hI (j := 6) rfl
            refine stp hA (r_rlen (xs := 0) Tryd.underlying62 hI (j := 6) rfl hA rfl) rfl fun a hA => 
              stp hA (r_lss hA rfl rfl) rfl fun a hA => ?_
            refine o_nil <| hN28 _ _ <| w_cond hA rfl (fun hc13 => ?_) (fun hc13 => ?_)
            · obtain ⟨hc13, H⟩ := dT H hc13
              refine w_skip <| hN27 _ _ <| w_seq fun _ hN29 => w_block <| w_seq fun _ hN30 => w_reg <| stm hA rfl rfl fun a hA => 
                stp hA (r_ldA (j := 0) [] [av .u8 32 s5] [] Tryd.underlying26 rfl sz26 rfl hI rfl hA rfl rfl) rfl fun a hA => ?_
              obtain ⟨r12, hr12, H⟩ := bB H
              have hI := hI.sl [2, 3, 0, 1, 4, 5, 6, 7, 8, 9, 10] rfl
              refine o_call _ cf22 hA rfl (tree_Tree_Head.c μ1 _ hI.agr (⟨c1, c2⟩ : treeTree) ggc1 gsc1 g1 wc1 wc2 (hI.handN 2) s5 ws5 r12 hr12) rfl fun v11 a w hz16 hA => ?_
              obtain ⟨rfl, hw9, hw10, hi7⟩ := hz16
              have hI := hI.back2 hi7
              refine stm hA rfl rfl fun a hA => 
                stp hA (r_extr (vs := [.agg [[.int .u32 r12.1.Version], av .u8 32 r12.1.Prev, av .u8 32 r12.1.Root, [.int .u32 r12.1.Time], [.int .u32 r12.1.Work], [.int .u32 r12.1.Nonce]].flatten.toArray, .bool r12.2]) hA rfl rfl) rfl fun a hA => 
                stp hA (r_extr (vs := [.agg [[.int .u32 r12.1.Version], av .u8 32 r12.1.Prev, av .u8 32 r12.1.Root, [.int .u32 r12.1.Time], [.int .u32 r12.1.Work], [.int .u32 r12.1.Nonce]].flatten.toArray, .bool r12.2]) hA rfl rfl) rfl fun a hA => 
                o_new [[.int .u32 0], av .u8 32 (List.replicate 32 0), av .u8 32 (List.replicate 32 0), [.int .u32 0], [.int .u32 0], [.int .u32 0]] zr28 hI hA rfl fun g6 a w hA hI hg6 => 
                o_st (j := 0) [] [[.int .u32 0], av .u8 32 (List.replicate 32 0), av .u8 32 (List.replicate 32 0), [.int .u32 0], [.int .u32 0], [.int .u32 0]] [[.int .u32 r12.1.Version], av .u8 32 r12.1.Prev, av .u8 32 r12.1.Root, [.int .u32 r12.1.Time], [.int .u32 r12.1.Work], [.int .u32 r12.1.Nonce]] [] sz28 rfl rfl (fl_cons (one_one rfl) (fl_cons (one_av _ _ _) (fl_cons (one_av _ _ _) (fl_cons (one_one rfl) (fl_cons (one_one rfl) (fl_cons (one_one rfl) fl_nil)))))) hI rfl hA rfl rfl rfl rfl fun w hI => 
                sta hA rfl rfl fun a hA => ?_
              refine o_nil <| hN30 _ _ <| w_seq fun _ hN31 => ?_
              obtain ⟨c4, hz17, Hk5⟩ := bB H
              refine w_cut (fun a w => Fr a 198 [(6, .bool false), (7, .bool r1), (9, .pointer (some ⟨g1, 0, none⟩)), (12, .pointer (some ⟨g3, 0, none⟩)), (13, v5), (14, v6), (17, v9), (19, .pointer (some ⟨g4, 0, none⟩)), (21, .pointer (some ⟨g5, 0, none⟩)), (22, .int .i64 s4), (23, .pointer (some ⟨g6, 0, none⟩)), (24, .bool r12.2), (122, .bool (decide (s4 < (r9.1.length : Int)))), (157, .bool c4)] ∧ Iv w0 [] μ μ1 [cel g6 [[.int .u32 r12.1.Version], av .u8 32 r12.1.Prev, av .u8 32 r12.1.Root, [.int .u32 r12.1.Time], [.int .u32 r12.1.Work], [.int .u32 r12.1.Nonce]] 28, cel g1 [[.map (some ggc1)], av .u8 32 c2] 97, nd95 ggc1 c1 gsc1, cel g5 [av .u8 32 s5] 26, cel g4 [av .u8 32 r11.1] 26, row 26 32 v8 r10.1.length cs4, row 26 32 v9 r10.2.1.length cs5, row 26 32 v5 r9.1.length cs2, row 26 32 v6 r9.2.1.length cs3, cel g3 [av .u8 32 r8] 26, cel g2 [av .u8 32 r6] 26, row 28 68 v1 r2.length cs1] w) ?_ ?_
              · have H := bI hz17
                refine w_draw mo (by kernel_rfl) hI ?_
                refine qtp hA (fun _ hI => r_mv hA rfl) rfl fun a hA => 
                  qtp hA (fun _ hI => r_not hA rfl) rfl fun a hA => 
                  qtp hA (fun _ hI => r_mv hA rfl) rfl fun a hA => ?_
                rcases Bool.eq_false_or_eq_true (!r12.2) with hc14 | hc14
                · have hc140 := hc14; have hc14 := nT hc14; have hc14 := ft hc14; have H := bF H hc14
                  refine q_no hA rfl rfl (by rw [hc140]; simp [vb]) rfl fun a hA => 
                    q_no hA rfl rfl (by rw [hc140]; simp [vb]) rfl fun a hA => 
                    q_no hA rfl rfl (by rw [hc140]; simp [vb]) rfl fun a hA => 
                    q_no hA rfl rfl (by rw [hc140]; simp [vb]) rfl fun a hA => 
                    q_no hA rfl rfl (by rw [hc140]; simp [vb]) rfl fun a hA => 
                    q_no hA rfl rfl (by rw [hc140]; simp [vb]) rfl fun a hA => 
                    q_no hA rfl rfl (by rw [hc140]; simp [vb]) rfl fun a hA => 
                    qtp hA (fun _ hI => r_pick_t hA rfl hc140 rfl) rfl fun a hA => 
                    qtp hA (fun _ hI => r_mv hA rfl) rfl fun a hA => 
                    q_no hA rfl rfl (by simp [vb]) rfl fun a hA => 
                    q_no hA rfl rfl (by simp [vb]) rfl fun a hA => 
                    q_no hA rfl rfl (by simp [vb]) rfl fun a hA => 
                    q_no hA rfl rfl (by simp [vb]) rfl fun a hA => 
                    q_no hA rfl rfl (by simp [vb]) rfl fun a hA => 
                    q_no hA rfl rfl (by simp [vb]) rfl fun a hA => 
                    q_no hA rfl rfl (by simp [vb]) rfl fun a hA => 
                    q_no hA rfl rfl (by simp [vb]) rfl fun a hA => 
                    q_no hA rfl rfl (by simp [vb]) rfl fun a hA => 
                    q_no hA rfl rfl (by simp [vb]) rfl fun a hA => 
                    q_no hA rfl rfl (by simp [vb]) rfl fun a hA => 
                    q_no hA rfl rfl (by simp [vb]) rfl fun a hA => 
                    q_no hA rfl rfl (by simp [vb]) rfl fun a hA => 
                    q_no hA rfl rfl (by simp [vb]) rfl fun a hA => 
                    qtp hA (fun _ hI => r_pick_t hA rfl rfl rfl) rfl fun a hA => ?_
                  refine q_nil fun w hI => ?_
                  cases sJ H
                  exact ⟨hA.sub ⟨rfl, rfl, rfl, rfl, rfl, rfl, rfl, rfl, rfl, rfl, rfl, rfl, rfl, rfl, trivial⟩, hI⟩
                · have hc140 := hc14; have hc14 := nF hc14; have H := bT H hc14
                  refine q_yes hA rfl rfl hc140 <| 
                    qtp hA (fun _ hI => r_mv hA rfl) rfl fun a hA => 
                    q_yes hA rfl rfl hc140 <| 
                    qtp hA (fun _ hI => r_mv hA rfl) rfl fun a hA => 
                    q_yes hA rfl rfl hc140 <| ?_
                  obtain ⟨hb5, H⟩ := bG H
                  refine qtp hA (fun _ hI => r_rix (j := 7) Tryd.underlying62 sz26 hI rfl hA rfl rfl hb5.1 hb5.2) rfl fun a hA => 
                    q_yes hA rfl rfl hc140 <| ?_
                  obtain ⟨A5, _, B5, hc15, hl5, _, he5⟩ := Els.at_ hE2 (getD_some [] hb5.1 hb5.2)
                  obtain ⟨rfl, hw11⟩ := he5
                  refine qtp hA (fun _ hI => r_rldP (j := 7) (q := s4.toNat * 32) (off := 0) A5 B5 [] [av .u8 32 (r9.1.getD s4.toNat [])] [] hc15 hl5 rfl Tryd.underlying26 rfl sz26 rfl hI rfl hA rfl) rfl fun a hA => 
                    q_yes hA rfl rfl hc140 <| 
                    qtp hA (fun _ hI => r_ldA (j := 3) [] [av .u8 32 s5] [] Tryd.underlying26 rfl sz26 rfl hI rfl hA rfl rfl) rfl fun a hA => 
                    q_yes hA rfl rfl hc140 <| ?_
                  obtain ⟨r13, hr13, H⟩ := bB H
                  refine qcall (v := .bool r13) cf23 hA rfl (fun _ hI => plq (sargassoref_SameHash.c μ1 _ hI.agr (r9.1.getD s4.toNat []) hw11 s5 ws5 r13 hr13) hI) rfl fun a hA => 
                    q_yes hA rfl rfl hc140 <| 
                    qtp hA (fun _ hI => r_not hA rfl) rfl fun a hA => 
                    qtp hA (fun _ hI => r_pick_f hA rfl hc140 rfl) rfl fun a hA => 
                    qtp hA (fun _ hI => r_mv hA rfl) rfl fun a hA => ?_
                  rcases Bool.eq_false_or_eq_true (!r13) with hc16 | hc16
                  · have hc160 := hc16; have hc16 := nT hc16; have hc16 := ft hc16; have H := bF H hc16
                    refine q_no hA rfl rfl (by rw [hc160]; simp [vb]) rfl fun a hA => 
                      q_no hA rfl rfl (by rw [hc160]; simp [vb]) rfl fun a hA => 
                      q_no hA rfl rfl (by rw [hc160]; simp [vb]) rfl fun a hA => 
                      q_no hA rfl rfl (by rw [hc160]; simp [vb]) rfl fun a hA => 
                      q_no hA rfl rfl (by rw [hc160]; simp [vb]) rfl fun a hA => 
                      q_no hA rfl rfl (by rw [hc160]; simp [vb]) rfl fun a hA => 
                      q_no hA rfl rfl (by rw [hc160]; simp [vb]) rfl fun a hA => 
                      q_no hA rfl rfl (by rw [hc160]; simp [vb]) rfl fun a hA => 
                      q_no hA rfl rfl (by rw [hc160]; simp [vb]) rfl fun a hA => 
                      q_no hA rfl rfl (by rw [hc160]; simp [vb]) rfl fun a hA => 
                      q_no hA rfl rfl (by rw [hc160]; simp [vb]) rfl fun a hA => 
                      q_no hA rfl rfl (by rw [hc160]; simp [vb]) rfl fun a hA => 
                      q_no hA rfl rfl (by rw [hc160]; simp [vb]) rfl fun a hA => 
                      q_no hA rfl rfl (by rw [hc160]; simp [vb]) rfl fun a hA => 
                      qtp hA (fun _ hI => r_pick_t hA rfl hc160 rfl) rfl fun a hA => ?_
                    refine q_nil fun w hI => ?_
                    cases sJ H
                    exact ⟨hA.sub ⟨rfl, rfl, rfl, rfl, rfl, rfl, rfl, rfl, rfl, rfl, rfl, rfl, rfl, rfl, trivial⟩, hI⟩
                  · have hc160 := hc16; have hc16 := nF hc16; have H := bT H hc16
                    refine q_yes hA rfl rfl hc160 <| 
                      qtp hA (fun _ hI => r_mv hA rfl) rfl fun a hA => 
                      q_yes hA rfl rfl hc160 <| 
                      qtp hA (fun _ hI => r_mv hA rfl) rfl fun a hA => 
                      q_yes hA rfl rfl hc160 <| 
                      qtp hA (fun _ hI => r_rix (j := 7) Tryd.underlying62 sz26 hI rfl hA rfl rfl hb5.1 hb5.2) rfl fun a hA => 
                      q_yes hA rfl rfl hc160 <| ?_
                    obtain ⟨A6, _, B6, hc17, hl6, _, he6⟩ := Els.at_ hE2 (getD_some [] hb5.1 hb5.2)
                    obtain ⟨rfl, hw12⟩ := he6
                    refine qtp hA (fun _ hI => r_rldP (j := 7) (q := s4.toNat * 32) (off := 0) A6 B6 [] [av .u8 32 (r9.1.getD s4.toNat [])] [] hc17 hl6 rfl Tryd.underlying26 rfl sz26 rfl hI rfl hA rfl) rfl fun a hA => 
                      q_yes hA rfl rfl hc160 <| 
                      qtp hA (fun _ hI => r_mv hA rfl) rfl fun a hA => 
                      q_yes hA rfl rfl hc160 <| 
                      qtp hA (fun _ hI => r_mv hA rfl) rfl fun a hA => 
                      q_yes hA rfl rfl hc160 <| 
                      qtp hA (fun _ hI => r_rlen (xs := 0) Tryd.underlying62 hI (j := 6) rfl hA rfl) rfl fun a hA => 
                      q_yes hA rfl rfl hc160 <| 
                      qtp hA (fun _ hI => r_sub hA rfl rfl) rfl fun a hA => 
                      q_yes hA rfl rfl hc160 <| 
                      qtp hA (fun _ hI => r_mv hA rfl) rfl fun a hA => 
                      q_yes hA rfl rfl hc160 <| 
                      qtp hA (fun _ hI => r_sub hA rfl rfl) rfl fun a hA => 
                      q_yes hA rfl rfl hc160 <| ?_
                    obtain ⟨hb6, H⟩ := bG H
                    refine qtp hA (fun _ hI => r_rix (j := 6) Tryd.underlying62 sz26 hI rfl hA rfl rfl hb6.1 hb6.2) rfl fun a hA => 
                      q_yes hA rfl rfl hc160 <| ?_
                    obtain ⟨A7, _, B7, hc18, hl7, _, he7⟩ := Els.at_ hE5 (getD_some [] hb6.1 hb6.2)
                    obtain ⟨rfl, hw13⟩ := he7
                    refine qtp hA (fun _ hI => r_rldP (j := 6) (q := (IntKind.i64.wrap ((IntKind.i64.wrap ((r10.2.1.length : Int) - 1)) - s4)).toNat * 32) (off := 0) A7 B7 [] [av .u8 32 (r10.2.1.getD (IntKind.i64.wrap ((IntKind.i64.wrap ((r10.2.1.length : Int) - 1)) - s4)).toNat [])] [] hc18 hl7 rfl Tryd.underlying26 rfl sz26 rfl hI rfl hA rfl) rfl fun a hA => 
                      q_yes hA rfl rfl hc160 <| ?_
                    obtain ⟨r14, hr14, H⟩ := bB H
                    refine qcall (v := .bool r14) cf23 hA rfl (fun _ hI => plq (sargassoref_SameHash.c μ1 _ hI.agr (r9.1.getD s4.toNat []) hw12 (r10.2.1.getD (IntKind.i64.wrap ((IntKind.i64.wrap ((r10.2.1.length : Int) - 1)) - s4)).toNat []) hw13 r14 hr14) hI) rfl fun a hA => 
                      q_yes hA rfl rfl hc160 <| 
                      qtp hA (fun _ hI => r_not hA rfl) rfl fun a hA => 
                      qtp hA (fun _ hI => r_pick_f hA rfl hc160 rfl) rfl fun a hA => ?_
                    refine q_nil fun w hI => ?_
                    cases sJ H
                    exact ⟨hA.sub ⟨rfl, rfl, rfl, rfl, rfl, rfl, rfl, rfl, rfl, rfl, rfl, rfl, rfl, rfl, trivial⟩, hI⟩
              · rintro a w ⟨hA, hI⟩
                have H := Hk5
                refine w_cond hA rfl (fun hc19 => ?_) (fun hc19 => ?_)
                · have H := bT H hc19
                  refine w_seq fun _ hN32 => w_reg <| sta hA rfl rfl fun a hA => ?_
                  refine o_nil <| hN32 _ _ <| w_ret ?_
                  have H : some false = some z2 := H
                  obtain rfl := sI H
                  have H := Hk4
                  obtain rfl := sJ H
                  exact ret1 hA Tryd.results4 rfl ⟨_, rfl, rfl, trivial, hI.forget0⟩
                · have hc19 := ft hc19; have H := bF H hc19
                  refine w_skip <| hN31 _ _ <| w_reg <| stp hA (r_fd (k := 1) Tryd.underlying28 rfl sz26 hA rfl rfl) rfl fun a hA => 
                    stp hA (r_ldA (j := 0) [[.int .u32 r12.1.Version]] [av .u8 32 r12.1.Prev] [av .u8 32 r12.1.Root, [.int .u32 r12.1.Time], [.int .u32 r12.1.Work], [.int .u32 r12.1.Nonce]] Tryd.underlying26 rfl sz26 rfl hI rfl hA rfl rfl) rfl fun a hA => 
                    o_st (j := 3) [] [av .u8 32 s5] [av .u8 32 r12.1.Prev] [] sz26 rfl rfl (fl_cons (one_av _ _ _) fl_nil) hI rfl hA rfl rfl rfl rfl fun w hI => ?_
                  refine o_nil <| hN29 _ _ <| w_reg <| stm hA rfl rfl fun a hA => 
                    stp hA (r_add hA rfl rfl) rfl fun a hA => 
                    sta hA rfl rfl fun a hA => ?_
                  refine o_nil <| ⟨m2, Nat.lt_succ_self _, IntKind.i64.wrap (s4 + 1), r12.1.Prev, H, (wrap_in _ _), hw9.2.1, hA.sub ⟨rfl, rfl, rfl, rfl, rfl, rfl, rfl, rfl, rfl, rfl, trivial⟩, (hI.sl [3, 4, 1, 2, 5, 6, 7, 8, 9, 10, 11] rfl)⟩
            · obtain ⟨hc13, H⟩ := dF H hc13
              refine w_exit rfl <| hN25 _ _ <| w_seq fun _ hN33 => w_seq fun _ hN34 => w_reg <| stp hA (r_ldA (j := 0) [] [av .u8 32 s5] [] Tryd.underlying26 rfl sz26 rfl hI rfl hA rfl rfl) rfl fun a hA => 
                stp hA (r_ldA (j := 1) [] [av .u8 32 r11.1] [] Tryd.underlying26 rfl sz26 rfl hI rfl hA rfl rfl) rfl fun a hA => ?_
              obtain ⟨r15, hr15, H⟩ := bB H
              refine o_callp (u := .bool r15) cf23 hA rfl hI (sargassoref_SameHash.c μ1 _ hI.agr s5 ws5 r11.1 hw7 r15 hr15) rfl fun a w hz20 hI hA => 
                stp hA (r_not hA rfl) rfl fun a hA => ?_
              refine o_nil <| hN34 _ _ <| w_cond hA rfl (fun hc20 => ?_) (fun hc20 => ?_)
              · have hc20 := nT hc20; have hc20 := ft hc20; have H := bF H hc20
                refine w_seq fun _ hN35 => w_reg <| sta hA rfl rfl fun a hA => ?_
                refine o_nil <| hN35 _ _ <| w_ret ?_
                have H : some false = some z2 := H
                obtain rfl := sI H
                have H := Hk4
                obtain rfl := sJ H
                exact ret1 hA Tryd.results4 rfl ⟨_, rfl, rfl, trivial, hI.forget0⟩
              · have hc20 := nF hc20; have H := bT H hc20
                refine w_skip <| hN33 _ _ <| w_seq fun _ hN36 => w_seq fun _ hN37 => w_reg <| sta hA rfl rfl fun a hA => ?_
                refine o_nil <| hN37 _ _ <| w_block ?_
                obtain ⟨z3, hz21, Hk6⟩ := bind_some H
                obtain ⟨n3, hn3⟩ := loopO_some hz21
                refine w_loop (fun n a w => ∃ (s6 : Int) (s7 : List Int), loopN (sargassolaw11_TreeWays.s2 r1 c1 c2 r8 r9) n (s6, s7) = some z3 ∧ InR .i64 s6 ∧ Arr .u8 32 s7 ∧ Fr a 198 [(6, .bool false), (7, .bool r1), (9, .pointer (some ⟨g1, 0, none⟩)), (12, .pointer (some ⟨g3, 0, none⟩)), (14, v6), (21, .pointer (some ⟨g5, 0, none⟩)), (25, .int .i64 s6)] ∧ Iv w0 [] μ μ1 [cel g5 [av .u8 32 s7] 26, cel g4 [av .u8 32 r11.1] 26, cel g1 [[.map (some ggc1)], av .u8 32 c2] 97, nd95 ggc1 c1 gsc1, row 26 32 v8 r10.1.length cs4, row 26 32 v9 r10.2.1.length cs5, row 26 32 v5 r9.1.length cs2, row 26 32 v6 r9.2.1.length cs3, cel g3 [av .u8 32 r8] 26, cel g2 [av .u8 32 r6] 26, row 28 68 v1 r2.length cs1] w) n3 ⟨0, s5, hn3, (in_lit .i64 0 rfl), ws5, hA.sub ⟨rfl, rfl, rfl, rfl, rfl, rfl, rfl, trivial⟩, hI⟩ ?_
                clear hA hI
                rintro n a w ⟨s6, s7, hn3, ws6, ws7, hA, hI⟩
                obtain ⟨m3, rfl, H⟩ := loopN_bind hn3
                clear hn3
                refine w_seq fun _ hN38 => w_seq fun _ hN39 => w_reg <| stm hA rfl rfl fun a hA => 
                  stm hA rfl rfl fun a hA => ?_
                have hlen10 := Iv.row_in hI (j := 7) rfl
                refine stp hA (r_rlen (xs := 0) Tryd.underlying62 hI (j := 7) rfl hA rfl) rfl fun a hA => 
                  stp hA (r_lss hA rfl rfl) rfl fun a hA => ?_
                refine o_nil <| hN39 _ _ <| w_cond hA rfl (fun hc21 => ?_) (fun hc21 => ?_)
                · obtain ⟨hc21, H⟩ := dT H hc21
                  refine w_skip <| hN38 _ _ <| w_seq fun _ hN40 => w_block <| w_seq fun _ hN41 => w_reg <| stm hA rfl rfl fun a hA => 
                    stm hA rfl rfl fun a hA => 
                    stm hA rfl rfl fun a hA => ?_
                  obtain ⟨hb7, H⟩ := bG H
                  refine stp hA (r_rix (j := 7) Tryd.underlying62 sz26 hI rfl hA rfl rfl hb7.1 hb7.2) rfl fun a hA => ?_
                  obtain ⟨A8, _, B8, hc22, hl8, _, he8⟩ := Els.at_ hE3 (getD_some [] hb7.1 hb7.2)
                  obtain ⟨rfl, hw14⟩ := he8
                  refine stp hA (r_rldP (j := 7) (q := s6.toNat * 32) (off := 0) A8 B8 [] [av .u8 32 (r9.2.1.getD s6.toNat [])] [] hc22 hl8 rfl Tryd.underlying26 rfl sz26 rfl hI rfl hA rfl) rfl fun a hA => ?_
                  obtain ⟨r16, hr16, H⟩ := bB H
                  have hI := hI.sl [2, 3, 0, 1, 4, 5, 6, 7, 8, 9, 10] rfl
                  refine o_call _ cf22 hA rfl (tree_Tree_Head.c μ1 _ hI.agr (⟨c1, c2⟩ : treeTree) ggc1 gsc1 g1 wc1 wc2 (hI.handN 2) (r9.2.1.getD s6.toNat []) hw14 r16 hr16) rfl fun v12 a w hz22 hA => ?_
                  obtain ⟨rfl, hw15, hw16, hi8⟩ := hz22
                  have hI := hI.back2 hi8
                  refine stm hA rfl rfl fun a hA => 
                    stp hA (r_extr (vs := [.agg [[.int .u32 r16.1.Version], av .u8 32 r16.1.Prev, av .u8 32 r16.1.Root, [.int .u32 r16.1.Time], [.int .u32 r16.1.Work], [.int .u32 r16.1.Nonce]].flatten.toArray, .bool r16.2]) hA rfl rfl) rfl fun a hA => 
                    stp hA (r_extr (vs := [.agg [[.int .u32 r16.1.Version], av .u8 32 r16.1.Prev, av .u8 32 r16.1.Root, [.int .u32 r16.1.Time], [.int .u32 r16.1.Work], [.int .u32 r16.1.Nonce]].flatten.toArray, .bool r16.2]) hA rfl rfl) rfl fun a hA => 
                    o_new [[.int .u32 0], av .u8 32 (List.replicate 32 0), av .u8 32 (List.replicate 32 0), [.int .u32 0], [.int .u32 0], [.int .u32 0]] zr28 hI hA rfl fun g7 a w hA hI hg7 => 
                    o_st (j := 0) [] [[.int .u32 0], av .u8 32 (List.replicate 32 0), av .u8 32 (List.replicate 32 0), [.int .u32 0], [.int .u32 0], [.int .u32 0]] [[.int .u32 r16.1.Version], av .u8 32 r16.1.Prev, av .u8 32 r16.1.Root, [.int .u32 r16.1.Time], [.int .u32 r16.1.Work], [.int .u32 r16.1.Nonce]] [] sz28 rfl rfl (fl_cons (one_one rfl) (fl_cons (one_av _ _ _) (fl_cons (one_av _ _ _) (fl_cons (one_one rfl) (fl_cons (one_one rfl) (fl_cons (one_one rfl) fl_nil)))))) hI rfl hA rfl rfl rfl rfl fun w hI => 
                    sta hA rfl rfl fun a hA => ?_
                  refine o_nil <| hN41 _ _ <| w_seq fun _ hN42 => ?_
                  obtain ⟨c5, hz23, Hk7⟩ := bB H
                  refine w_cut (fun a w => Fr a 198 [(6, .bool false), (7, .bool r1), (9, .pointer (some ⟨g1, 0, none⟩)), (12, .pointer (some ⟨g3, 0, none⟩)), (14, v6), (21, .pointer (some ⟨g5, 0, none⟩)), (25, .int .i64 s6), (26, .pointer (some ⟨g7, 0, none⟩)), (27, .bool r16.2), (167, .bool (decide (s6 < (r9.2.1.length : Int)))), (187, .bool c5)] ∧ Iv w0 [] μ μ1 [cel g7 [[.int .u32 r16.1.Version], av .u8 32 r16.1.Prev, av .u8 32 r16.1.Root, [.int .u32 r16.1.Time], [.int .u32 r16.1.Work], [.int .u32 r16.1.Nonce]] 28, cel g1 [[.map (some ggc1)], av .u8 32 c2] 97, nd95 ggc1 c1 gsc1, cel g5 [av .u8 32 s7] 26, cel g4 [av .u8 32 r11.1] 26, row 26 32 v8 r10.1.length cs4, row 26 32 v9 r10.2.1.length cs5, row 26 32 v5 r9.1.length cs2, row 26 32 v6 r9.2.1.length cs3, cel g3 [av .u8 32 r8] 26, cel g2 [av .u8 32 r6] 26, row 28 68 v1 r2.length cs1] w) ?_ ?_
                  · have H := bI hz23
                    refine w_reg <| stm hA rfl rfl fun a hA => 
                      stp hA (r_not hA rfl) rfl fun a hA => 
                      stm hA rfl rfl fun a hA => ?_
                    rcases Bool.eq_false_or_eq_true (!r16.2) with hc23 | hc23
                    · have hc230 := hc23; have hc23 := nT hc23; have hc23 := ft hc23; have H := bF H hc23
                      refine o_no hA rfl rfl (by rw [hc230]; simp [vb]) rfl fun a hA => 
                        o_no hA rfl rfl (by rw [hc230]; simp [vb]) rfl fun a hA => 
                        o_no hA rfl rfl (by rw [hc230]; simp [vb]) rfl fun a hA => 
                        o_no hA rfl rfl (by rw [hc230]; simp [vb]) rfl fun a hA => 
                        o_no hA rfl rfl (by rw [hc230]; simp [vb]) rfl fun a hA => 
                        stp hA (r_pick_t hA rfl hc230 rfl) rfl fun a hA => ?_
                      refine o_nil ?_
                      cases sJ H
                      exact ⟨hA.sub ⟨rfl, rfl, rfl, rfl, rfl, rfl, rfl, rfl, rfl, rfl, rfl, trivial⟩, hI⟩
                    · have hc230 := hc23; have hc23 := nF hc23; have H := bT H hc23
                      refine o_yes hA rfl rfl hc230 <| 
                        stp hA (r_fd (k := 1) Tryd.underlying28 rfl sz26 hA rfl rfl) rfl fun a hA => 
                        o_yes hA rfl rfl hc230 <| 
                        stp hA (r_ldA (j := 0) [[.int .u32 r16.1.Version]] [av .u8 32 r16.1.Prev] [av .u8 32 r16.1.Root, [.int .u32 r16.1.Time], [.int .u32 r16.1.Work], [.int .u32 r16.1.Nonce]] Tryd.underlying26 rfl sz26 rfl hI rfl hA rfl rfl) rfl fun a hA => 
                        o_yes hA rfl rfl hc230 <| 
                        stp hA (r_ldA (j := 3) [] [av .u8 32 s7] [] Tryd.underlying26 rfl sz26 rfl hI rfl hA rfl rfl) rfl fun a hA => 
                        o_yes hA rfl rfl hc230 <| ?_
                      obtain ⟨r17, hr17, H⟩ := bB H
                      refine o_callp (u := .bool r17) cf23 hA rfl hI (sargassoref_SameHash.c μ1 _ hI.agr r16.1.Prev hw15.2.1 s7 ws7 r17 hr17) rfl fun a w hz24 hI hA => 
                        o_yes hA rfl rfl hc230 <| 
                        stp hA (r_not hA rfl) rfl fun a hA => 
                        stp hA (r_pick_f hA rfl hc230 rfl) rfl fun a hA => ?_
                      refine o_nil ?_
                      cases sJ H
                      exact ⟨hA.sub ⟨rfl, rfl, rfl, rfl, rfl, rfl, rfl, rfl, rfl, rfl, rfl, trivial⟩, hI⟩
                  · rintro a w ⟨hA, hI⟩
                    have H := Hk7
                    refine w_cond hA rfl (fun hc24 => ?_) (fun hc24 => ?_)
                    · have H := bT H hc24
                      refine w_seq fun _ hN43 => w_reg <| sta hA rfl rfl fun a hA => ?_
                      refine o_nil <| hN43 _ _ <| w_ret ?_
                      have H : some (.inr false) = some z3 := H
                      obtain rfl := sI H
                      have H := Hk6
                      have H : some false = some z2 := H
                      obtain rfl := sI H
                      have H := Hk4
                      obtain rfl := sJ H
                      exact ret1 hA Tryd.results4 rfl ⟨_, rfl, rfl, trivial, hI.forget0⟩
                    · have hc24 := ft hc24; have H := bF H hc24
                      refine w_skip <| hN42 _ _ <| w_reg <| stm hA rfl rfl fun a hA => 
                        stm hA rfl rfl fun a hA => 
                        stp hA (r_rix (j := 8) Tryd.underlying62 sz26 hI rfl hA rfl rfl hb7.1 hb7.2) rfl fun a hA => ?_
                      obtain ⟨A9, _, B9, hc25, hl9, _, he9⟩ := Els.at_ hE3 (getD_some [] hb7.1 hb7.2)
                      obtain ⟨rfl, hw17⟩ := he9
                      refine stp hA (r_rldP (j := 8) (q := s6.toNat * 32) (off := 0) A9 B9 [] [av .u8 32 (r9.2.1.getD s6.toNat [])] [] hc25 hl9 rfl Tryd.underlying26 rfl sz26 rfl hI rfl hA rfl) rfl fun a hA => 
                        o_st (j := 3) [] [av .u8 32 s7] [av .u8 32 (r9.2.1.getD s6.toNat [])] [] sz26 rfl rfl (fl_cons (one_av _ _ _) fl_nil) hI rfl hA rfl rfl rfl rfl fun w hI => ?_
                      refine o_nil <| hN40 _ _ <| w_reg <| stm hA rfl rfl fun a hA => 
                        stp hA (r_add hA rfl rfl) rfl fun a hA => 
                        sta hA rfl rfl fun a hA => ?_
                      refine o_nil <| ⟨m3, Nat.lt_succ_self _, IntKind.i64.wrap (s6 + 1), (r9.2.1.getD s6.toNat []), H, (wrap_in _ _), hw17, hA.sub ⟨rfl, rfl, rfl, rfl, rfl, rfl, rfl, trivial⟩, (hI.sl [3, 4, 1, 2, 5, 6, 7, 8, 9, 10, 11] rfl)⟩
                · obtain ⟨hc21, H⟩ := dF H hc21
                  refine w_exit rfl <| hN36 _ _ ?_
                  obtain ⟨c6, hz25, Hk8⟩ := bB H
                  refine w_cut (fun a w => Fr a 198 [(6, .bool c6)] ∧ Iv w0 [] μ μ1 [cel g5 [av .u8 32 s7] 26, cel g4 [av .u8 32 r11.1] 26, cel g1 [[.map (some ggc1)], av .u8 32 c2] 97, nd95 ggc1 c1 gsc1, row 26 32 v8 r10.1.length cs4, row 26 32 v9 r10.2.1.length cs5, row 26 32 v5 r9.1.length cs2, row 26 32 v6 r9.2.1.length cs3, cel g3 [av .u8 32 r8] 26, cel g2 [av .u8 32 r6] 26, row 28 68 v1 r2.length cs1] w) ?_ ?_
                  · have H := bI hz25
                    refine w_reg <| stm hA rfl rfl fun a hA => 
                      stm hA rfl rfl fun a hA => ?_
                    rcases Bool.eq_false_or_eq_true r1 with hc26 | hc26
                    · have hc260 := hc26; have H := bT H hc26
                      refine o_yes hA rfl rfl hc260 <| 
                        stp hA (r_ldA (j := 0) [] [av .u8 32 s7] [] Tryd.underlying26 rfl sz26 rfl hI rfl hA rfl rfl) rfl fun a hA => 
                        o_yes hA rfl rfl hc260 <| 
                        stp hA (r_ldA (j := 8) [] [av .u8 32 r8] [] Tryd.underlying26 rfl sz26 rfl hI rfl hA rfl rfl) rfl fun a hA => 
                        o_yes hA rfl rfl hc260 <| ?_
                      obtain ⟨r18, hr18, H⟩ := bB H
                      refine o_callp (u := .bool r18) cf23 hA rfl hI (sargassoref_SameHash.c μ1 _ hI.agr s7 ws7 r8 hz10 r18 hr18) rfl fun a w hz26 hI hA => 
                        stp hA (r_pick_t hA rfl hc260 rfl) rfl fun a hA => 
                        sta hA rfl rfl fun a hA => ?_
                      refine o_nil ?_
                      cases sJ H
                      exact ⟨hA.sub ⟨rfl, trivial⟩, hI⟩
                    · have hc260 := hc26; have hc26 := ft hc26; have H := bF H hc26
                      refine o_no hA rfl rfl (by rw [hc260]; simp [vb]) rfl fun a hA => 
                        o_no hA rfl rfl (by rw [hc260]; simp [vb]) rfl fun a hA => 
                        o_no hA rfl rfl (by rw [hc260]; simp [vb]) rfl fun a hA => 
                        stp hA (r_pick_f hA rfl hc260 rfl) rfl fun a hA => 
                        sta hA rfl rfl fun a hA => ?_
                      refine o_nil ?_
                      cases sJ H
                      exact ⟨hA.sub ⟨rfl, trivial⟩, hI⟩
                  · rintro a w ⟨hA, hI⟩
                    have H := Hk8
                    refine w_ret ?_
                    have H : some (.inr c6) = some z3 := H
                    obtain rfl := sI H
                    have H := Hk6
                    have H : some c6 = some z2 := H
                    obtain rfl := sI H
                    have H := Hk4
                    obtain rfl := sJ H
                    exact ret1 hA Tryd.results4 rfl ⟨_, rfl, rfl, trivial, hI.forget0⟩
end Go.Proofs.YtdngkgkkblfcjaaDoor.T
namespace Go.Proofs.YtdngkgkkblfcjaaDoor.T
open Go Go.Proofs Go.Proofs.YtdngkgkkblfcjaaDoor.K
set_option linter.unusedVariables false
theorem w64 {x : Int} (h0 : -9223372036854775808 ≤ x) (h1 : x < 9223372036854775808) : IntKind.i64.wrap x = x := wrap_id ⟨h0, h1⟩
theorem wu64 {x : Int} (h0 : 0 ≤ x) (h1 : x < 18446744073709551616) : IntKind.u64.wrap x = x := wrap_id ⟨h0, h1⟩
theorem number_eq {x n : Int} (hx : InR .i64 x) (h0 : 0 < n) (h1 : n < 9223372036854775808) : ∃ y, sargassoworld_Number.f x n = some y ∧ 0 ≤ y ∧ y < n := by
  obtain ⟨a, b⟩ := hx
  have hn : n ≠ 0 := by omega
  unfold sargassoworld_Number.f
  rw [if_pos hn]
  have hb : -n < Int.tmod x n ∧ Int.tmod x n < n := by
    rcases Int.le_total 0 x with h | h
    · rw [Int.tmod_eq_emod_of_nonneg h]; have := Int.emod_nonneg x hn; have := Int.emod_lt_of_pos x h0; omega
    · have e : Int.tmod x n = -(Int.tmod (-x) n) := by rw [Int.neg_tmod, Int.neg_neg]
      rw [e, Int.tmod_eq_emod_of_nonneg (by omega)]; have := Int.emod_nonneg (-x) hn; have := Int.emod_lt_of_pos (-x) h0; omega
  by_cases hc : Int.tmod x n < 0
  · rw [if_pos hc]
    exact ⟨_, rfl, by rw [w64 (by omega) (by omega)]; omega, by rw [w64 (by omega) (by omega)]; omega⟩
  · rw [if_neg hc]
    exact ⟨_, rfl, by omega, by omega⟩
end Go.Proofs.YtdngkgkkblfcjaaDoor.T
namespace Go.Proofs.YtdngkgkkblfcjaaDoor.T
open Go Go.Proofs Go.Proofs.YtdngkgkkblfcjaaDoor.K
set_option linter.unusedVariables false
set_option linter.unusedSimpArgs false
theorem loop_idx {τ ρ : Type} {step : τ → Option (τ ⊕ ρ)} (st : Nat → τ) (n : Nat) (h : ∀ i, i < n → step (st i) = some (.inl (st (i + 1)))) : loopO step (st 0) = loopO step (st n) := by
  induction n with
  | zero => rfl
  | succ n ih => rw [ih (fun i hi => h i (by omega)), loopO_inl (h n (by omega))]
theorem loop_run {τ ρ : Type} {step : τ → Option (τ ⊕ ρ)} (st : Nat → τ) (n : Nat) {r : ρ} {s : τ} (h0 : s = st 0) (h : ∀ i, i < n → step (st i) = some (.inl (st (i + 1)))) (hn : step (st n) = some (.inr r)) : loopO step s = some r := by
  rw [h0, loop_idx st n h, loopO_inr hn]
theorem loop_exists2 {τ ρ : Type} {step : τ → Option (τ ⊕ ρ)} (I : Nat → τ → Prop) (Post : ρ → Prop) (n : Nat) {s : τ} (h0 : I 0 s) (h : ∀ i, i < n → ∀ s, I i s → ∃ s', step s = some (.inl s') ∧ I (i + 1) s') (hn : ∀ s, I n s → ∃ r, step s = some (.inr r) ∧ Post r) : ∃ r, loopO step s = some r ∧ Post r := by
  have key : ∀ m k s, k + m = n → I k s → ∃ r, loopO step s = some r ∧ Post r := by
    intro m
    induction m with
    | zero =>
      intro k s e hI
      obtain ⟨r, h1, h2⟩ := hn s (by rw [← e]; exact hI)
      exact ⟨r, loopO_inr h1, h2⟩
    | succ m ih =>
      intro k s e hI
      obtain ⟨s', h1, h2⟩ := h k (by omega) s hI
      rw [loopO_inl h1]
      exact ih (k + 1) s' (by omega) h2
  exact key n 0 s (by omega) h0
theorem bv_nat (n a : Nat) (h : a < 2 ^ n) : (BitVec.ofInt n (a : Int)).toNat = a := by
  rw [BitVec.toNat_ofInt]
  have : ((a : Int) % ((2 ^ n : Nat) : Int)) = a := Int.emod_eq_of_lt (by omega) (by exact_mod_cast h)
  rw [this]
  rfl
theorem in_u (k : IntKind) (hk : k.signed = false) {a : Nat} (h : a < 2 ^ k.bits) : InR k (a : Int) := by
  cases k <;> simp [IntKind.signed] at hk <;> simp [IntKind.bits] at h <;> simp [InR] <;> omega
theorem bAnd_nat (k : IntKind) (hk : k.signed = false) {a b : Nat} (ha : a < 2 ^ k.bits) (hb : b < 2 ^ k.bits) : bAnd k a b = ((a &&& b : Nat) : Int) := by
  unfold bAnd
  rw [BitVec.toNat_and, bv_nat _ _ ha, bv_nat _ _ hb]
  exact wrap_id (in_u k hk (Nat.lt_of_le_of_lt Nat.and_le_left ha))
theorem sR_nat (k : IntKind) {a n : Nat} (hn : n ≤ k.bits) : sR k (a : Int) (n : Int) = ((a >>> n : Nat) : Int) := by
  unfold sR
  have e : min (n : Int).toNat k.bits = n := by simp; omega
  rw [e, Nat.shiftRight_eq_div_pow]
  rw [Int.fdiv_eq_ediv_of_nonneg _ (by exact Int.pow_nonneg (by omega))]
  push_cast
  rfl
theorem and_low (n i : Nat) : n &&& (2 ^ i - 1) = n % 2 ^ i := Nat.and_two_pow_sub_one_eq_mod n i
end Go.Proofs.YtdngkgkkblfcjaaDoor.T
namespace Go.Proofs.YtdngkgkkblfcjaaDoor.T
open Go Go.Proofs Go.Proofs.YtdngkgkkblfcjaaDoor.K
set_option linter.unusedVariables false
set_option linter.unusedSimpArgs false
def rotr (x n : Int) : Int := bOr .u32 (sR .u32 x n) (sL .u32 x (32 - n))
def wordAt (b : List Int) (p : Nat) : Int :=
  bOr .u32 (bOr .u32 (bOr .u32 (sL .u32 (IntKind.u32.wrap (b.getD p 0)) 24) (sL .u32 (IntKind.u32.wrap (b.getD (p + 1) 0)) 16)) (sL .u32 (IntKind.u32.wrap (b.getD (p + 2) 0)) 8)) (IntKind.u32.wrap (b.getD (p + 3) 0))
def sg0 (y : Int) : Int := bXor .u32 (bXor .u32 (rotr y 7) (rotr y 18)) (sR .u32 y 3)
def sg1 (x : Int) : Int := bXor .u32 (bXor .u32 (rotr x 17) (rotr x 19)) (sR .u32 x 10)
def schedVal (b : List Int) (p : Nat) (w : List Int) (t : Nat) : Int :=
  if t < 16 then wordAt b (p + 4 * t) else IntKind.u32.wrap (w.getD (t - 16) 0 + sg0 (w.getD (t - 15) 0) + w.getD (t - 7) 0 + sg1 (w.getD (t - 2) 0))
def schedR (b : List Int) (p : Nat) : Nat → List Int
  | 0 => List.replicate 64 0
  | t + 1 => (fun w => w.set t (schedVal b p w t)) (schedR b p t)
def kc : List Int := digest_keys.lit0
def rt1 (x : List Int) (k w : Int) : Int := IntKind.u32.wrap (x.getD 7 0 + bXor .u32 (bXor .u32 (rotr (x.getD 4 0) 6) (rotr (x.getD 4 0) 11)) (rotr (x.getD 4 0) 25) + bXor .u32 (bAnd .u32 (x.getD 4 0) (x.getD 5 0)) (bAnd .u32 (bNot .u32 (x.getD 4 0)) (x.getD 6 0)) + k + w)
def rt2 (x : List Int) : Int := bXor .u32 (bXor .u32 (rotr (x.getD 0 0) 2) (rotr (x.getD 0 0) 13)) (rotr (x.getD 0 0) 22) + bXor .u32 (bXor .u32 (bAnd .u32 (x.getD 0 0) (x.getD 1 0)) (bAnd .u32 (x.getD 0 0) (x.getD 2 0))) (bAnd .u32 (x.getD 1 0) (x.getD 2 0))
def rstep (x : List Int) (k w : Int) : List Int :=
  [IntKind.u32.wrap (rt1 x k w + rt2 x), x.getD 0 0, x.getD 1 0, x.getD 2 0, IntKind.u32.wrap (x.getD 3 0 + rt1 x k w), x.getD 4 0, x.getD 5 0, x.getD 6 0]
def roundR (w s : List Int) : Nat → List Int
  | 0 => s
  | t + 1 => rstep (roundR w s t) (kc.getD t 0) (w.getD t 0)
def addR (x s : List Int) : Nat → List Int
  | 0 => s
  | i + 1 => (fun z => z.set i (IntKind.u32.wrap (z.getD i 0 + x.getD i 0))) (addR x s i)
def mixV (s b : List Int) (p : Nat) : List Int := addR (roundR (schedR b p 64) s 64) s 8
def blocksR (m s : List Int) : Nat → List Int
  | 0 => s
  | n + 1 => mixV (blocksR m s n) m (64 * n)
def iv0 : List Int := [1779033703, 3144134277, 1013904242, 2773480762, 1359893119, 2600822924, 528734635, 1541459225]
def outB (s : List Int) (i : Nat) : Int := IntKind.u8.wrap (sR .u32 (s.getD (i / 4) 0) (24 - 8 * ((i % 4 : Nat) : Int)))
def outL (s : List Int) : List Int := (List.range 32).map (outB s)
def zs (n : Nat) : Nat := (120 - n % 64) % 64
def lenB (n i : Nat) : Int := IntKind.u8.wrap (sR .u64 (IntKind.u64.wrap (8 * (n : Int))) (8 * (7 - (i : Int))))
def padR (m : List Int) : List Int := m ++ ([128] ++ (List.replicate (zs (m.length + 1)) 0 ++ (List.range 8).map (lenB m.length)))
def sha (m : List Int) : List Int := outL (blocksR (padR m) iv0 ((padR m).length / 64))
end Go.Proofs.YtdngkgkkblfcjaaDoor.T
namespace Go.Proofs.YtdngkgkkblfcjaaDoor.T
open Go Go.Proofs Go.Proofs.YtdngkgkkblfcjaaDoor.K
set_option linter.unusedVariables false
set_option linter.unusedSimpArgs false
theorem u32e (x : Int) : IntKind.u32.wrap x = x % 4294967296 := by simp [IntKind.wrap, IntKind.signed, IntKind.bits]
theorem wl (a b : Int) : IntKind.u32.wrap (IntKind.u32.wrap a + b) = IntKind.u32.wrap (a + b) := by simp only [u32e]; omega
theorem wr (a b : Int) : IntKind.u32.wrap (a + IntKind.u32.wrap b) = IntKind.u32.wrap (a + b) := by simp only [u32e]; omega
theorem bOr_comm (k : IntKind) (a b : Int) : bOr k a b = bOr k b a := by unfold bOr; rw [BitVec.or_comm]
theorem right_f (x n : Int) (h0 : 0 ≤ n) (h1 : n ≤ 32) : sargassoref1_right.f x n = some (rotr x n) := by
  simp only [sargassoref1_right.f, rotr]
  rw [wu64 (x := 32 - n) (by omega) (by omega), if_pos h0, if_pos (by omega)]
theorem turn_f (x n : Int) (h0 : 0 < n) (h1 : n < 32) : digest_turn.f x n = some (rotr x n) := by
  simp only [digest_turn.f, math_bits_RotateLeft32.f, rotr]
  have e1 : IntKind.i64.wrap (0 - n) = -n := by rw [w64 (by omega) (by omega)]; omega
  have e2 : IntKind.u64.wrap (-n) = 18446744073709551616 - n := by
    simp [IntKind.wrap, IntKind.signed, IntKind.bits]
    omega
  obtain ⟨m, rfl⟩ : ∃ m : Nat, n = m := ⟨n.toNat, by omega⟩
  have e3 : bAnd .u64 (18446744073709551616 - (m : Int)) 31 = 32 - (m : Int) := by
    have h := bAnd_nat .u64 rfl (a := 18446744073709551616 - m) (b := 31) (by simp [IntKind.bits]; omega) (by simp [IntKind.bits])
    have e : ((18446744073709551616 - m : Nat) : Int) = 18446744073709551616 - (m : Int) := by omega
    rw [e] at h
    have h' : (18446744073709551616 - m) &&& 31 = (18446744073709551616 - m) % 32 := and_low _ 5
    rw [h'] at h
    rw [show ((31 : Nat) : Int) = 31 from rfl] at h
    rw [h]
    omega
  rw [e1, e2, e3, wu64 (x := 32 - (32 - (m : Int))) (by omega) (by omega), if_pos (by omega), if_pos (by omega)]
  have e4 : 32 - (32 - (m : Int)) = m := by omega
  rw [e4, bOr_comm]
  rfl
theorem schedR_len (b : List Int) (p t : Nat) : (schedR b p t).length = 64 := by
  induction t with
  | zero => simp [schedR]
  | succ t ih => simp [schedR, ih]
theorem getD_drop' (l : List Int) (a i : Nat) : (l.drop a).getD i 0 = l.getD (a + i) 0 := by simp [List.getD]
theorem getD_take' (l : List Int) (a i : Nat) (h : i < a) : (l.take a).getD i 0 = l.getD i 0 := by simp [List.getD, h]
theorem wsub (i c : Nat) (hc : c ≤ i) (hi : i < 1000) : IntKind.i64.wrap ((i : Int) - (c : Nat)) = ((i - c : Nat) : Int) := by
  rw [w64 (by omega) (by omega)]; omega
theorem wadd1 (i : Nat) (hi : i < 9223372036854775807) : IntKind.i64.wrap ((i : Int) + 1) = ((i + 1 : Nat) : Int) := by
  rw [w64 (by omega) (by omega)]; omega
theorem wmul4 (i : Nat) (hi : i < 1000) : IntKind.i64.wrap (4 * (i : Int)) = ((4 * i : Nat) : Int) := by
  rw [w64 (by omega) (by omega)]; omega
theorem spread_step (b : List Int) (h : b.length = 64) (w : List Int) (i : Nat) (hi : i < 64) : digest_spread.s0 b ((i : Int), w) = some (.inl (((i + 1 : Nat) : Int), w.set i (schedVal b 0 w i))) := by
  simp only [digest_spread.s0]
  rw [if_pos (by omega)]
  by_cases h16 : i < 16
  · have hl : (b.take ((b.length : Int)).toNat).drop (IntKind.i64.wrap (4 * (i : Int))).toNat = b.drop (4 * i) := by
      rw [wmul4 i (by omega), Int.toNat_natCast, Int.toNat_natCast, List.take_length]
    have hll : (b.drop (4 * i)).length = 64 - 4 * i := by simp [h]
    rw [if_pos (by omega), hl, hll, wmul4 i (by omega), if_pos (by omega), if_pos (by omega), if_pos (by omega), if_pos (by omega), if_pos (by omega), if_pos (by omega)]
    simp only [Option.bind_some, getD_drop', Int.toNat_natCast]
    rw [wadd1 i (by omega)]
    simp only [schedVal, if_pos h16, wordAt, Nat.zero_add]
    rfl
  · have e2 := wsub i 2 (by omega) (by omega)
    have e7 := wsub i 7 (by omega) (by omega)
    have e15 := wsub i 15 (by omega) (by omega)
    have e16 := wsub i 16 (by omega) (by omega)
    simp only [show ((2 : Nat) : Int) = 2 from rfl, show ((7 : Nat) : Int) = 7 from rfl, show ((15 : Nat) : Int) = 15 from rfl, show ((16 : Nat) : Int) = 16 from rfl] at e2 e7 e15 e16
    rw [if_neg (by omega), e2, e7, e15, e16, if_pos (by omega), if_pos (by omega), if_pos (by omega), if_pos (by omega)]
    simp only [Int.toNat_natCast, turn_f _ 17 (by omega) (by omega), turn_f _ 19 (by omega) (by omega), turn_f _ 7 (by omega) (by omega), turn_f _ 18 (by omega) (by omega), Option.bind_some]
    rw [if_pos (by omega), wadd1 i (by omega)]
    simp only [Option.bind_some, schedVal, if_neg h16, sg0, sg1]
    congr 4
    simp only [wl, wr]
    congr 1
    omega
theorem spread_eq (b : List Int) (h : b.length = 64) : digest_spread.f b = some (schedR b 0 64) := by
  simp only [digest_spread.f]
  have e := loop_run (step := digest_spread.s0 b) (s := (0, List.replicate 64 0)) (fun i => ((i : Int), schedR b 0 i)) 64 (r := schedR b 0 64) rfl (fun i hi => by
    rw [spread_step b h _ i hi]
    rfl) (by simp only [digest_spread.s0]; rw [if_neg (by decide)])
  rw [e]
  rfl
theorem mix0_step (w x : List Int) (i : Nat) (hi : i < 64) : digest_mix.s0 w digest_keys.lit0 ((i : Int), x) = some (.inl (((i + 1 : Nat) : Int), rstep x (kc.getD i 0) (w.getD i 0))) := by
  simp only [digest_mix.s0]
  rw [if_pos (by omega)]
  simp only [turn_f _ 6 (by omega) (by omega), turn_f _ 11 (by omega) (by omega), turn_f _ 25 (by omega) (by omega), turn_f _ 2 (by omega) (by omega), turn_f _ 13 (by omega) (by omega), turn_f _ 22 (by omega) (by omega), Option.bind_some, Int.toNat_natCast]
  rw [if_pos (by omega), wadd1 i (by omega)]
  simp only [rstep, rt1, rt2, kc, wl, wr, show (0 : Int).toNat = 0 from rfl, show (1 : Int).toNat = 1 from rfl, show (2 : Int).toNat = 2 from rfl, show (3 : Int).toNat = 3 from rfl, show (4 : Int).toNat = 4 from rfl, show (5 : Int).toNat = 5 from rfl, show (6 : Int).toNat = 6 from rfl, show (7 : Int).toNat = 7 from rfl]
theorem mix_eq (s b : List Int) (h : b.length = 64) : digest_mix.f s b = some (mixV s b 0) := by
  simp only [digest_mix.f, spread_eq b h, digest_keys.f, Option.bind_some]
  have e := loop_run (step := digest_mix.s0 (schedR b 0 64) digest_keys.lit0) (s := (0, s)) (fun i => ((i : Int), roundR (schedR b 0 64) s i)) 64 (r := roundR (schedR b 0 64) s 64) rfl (fun i hi => by
    rw [mix0_step _ _ i hi]
    rfl) (by simp only [digest_mix.s0]; rw [if_neg (by decide)])
  rw [e]
  simp only [Option.bind_some]
  have e := loop_run (step := digest_mix.s1 (roundR (schedR b 0 64) s 64)) (s := (0, s)) (fun i => ((i : Int), addR (roundR (schedR b 0 64) s 64) s i)) 8 (r := mixV s b 0) rfl (fun i hi => by
    simp only [digest_mix.s1]
    rw [if_pos (by omega), if_pos (by omega), wadd1 i (by omega)]
    simp only [Int.toNat_natCast, addR]) (by simp only [digest_mix.s1]; rw [if_neg (by decide)]; rfl)
  rw [e]
  rfl
theorem wordAt_in (m : List Int) (a n t : Nat) (h : t < 16) : wordAt ((m.take (a + 64)).drop a) (4 * t) = wordAt m (a + 4 * t) := by
  have e : ∀ j, j < 64 → ((m.take (a + 64)).drop a).getD j 0 = m.getD (a + j) 0 := fun j hj => by
    rw [getD_drop', getD_take' _ _ _ (by omega)]
  simp only [wordAt]
  rw [e _ (by omega), e _ (by omega), e _ (by omega), e _ (by omega)]
  simp only [Nat.add_assoc]
theorem schedR_in (m : List Int) (a t : Nat) : schedR ((m.take (a + 64)).drop a) 0 t = schedR m a t := by
  induction t with
  | zero => rfl
  | succ t ih =>
    simp only [schedR, ih]
    congr 1
    simp only [schedVal]
    by_cases h : t < 16
    · simp only [if_pos h, Nat.zero_add]
      exact wordAt_in m a 0 t h
    · simp only [if_neg h]
theorem mixV_in (s m : List Int) (a : Nat) : mixV s ((m.take (a + 64)).drop a) 0 = mixV s m a := by
  simp only [mixV, schedR_in]
theorem wordAt_app (m l : List Int) (p : Nat) (h : p + 3 < m.length) : wordAt (m ++ l) p = wordAt m p := by
  have e : ∀ j, j < m.length → (m ++ l).getD j 0 = m.getD j 0 := fun j hj => by simp [List.getD, List.getElem?_append_left hj]
  simp only [wordAt]
  rw [e _ (by omega), e _ (by omega), e _ (by omega), e _ (by omega)]
theorem schedR_app (m l : List Int) (p t : Nat) (h : p + 64 ≤ m.length) : schedR (m ++ l) p t = schedR m p t := by
  induction t with
  | zero => rfl
  | succ t ih =>
    simp only [schedR, ih]
    congr 1
    simp only [schedVal]
    by_cases h : t < 16
    · simp only [if_pos h]
      exact wordAt_app m l _ (by omega)
    · simp only [if_neg h]
theorem blocksR_app (m l s : List Int) (n : Nat) (h : 64 * n ≤ m.length) : blocksR (m ++ l) s n = blocksR m s n := by
  induction n with
  | zero => rfl
  | succ n ih =>
    simp only [blocksR, ih (by omega), mixV]
    rw [schedR_app _ _ _ _ (by omega)]
theorem mixV_drop (s m : List Int) (q a : Nat) : mixV s (m.drop q) a = mixV s m (q + a) := by
  have hw : ∀ p, wordAt (m.drop q) p = wordAt m (q + p) := fun p => by
    simp only [wordAt, getD_drop', Nat.add_assoc]
  have hs : ∀ t, schedR (m.drop q) a t = schedR m (q + a) t := fun t => by
    induction t with
    | zero => rfl
    | succ t ih =>
      simp only [schedR, ih]
      congr 1
      simp only [schedVal, hw, Nat.add_assoc]
  simp only [mixV, hs]
theorem addR_len (x s : List Int) (i : Nat) : (addR x s i).length = s.length := by
  induction i with
  | zero => rfl
  | succ i ih => simp [addR, ih]
theorem mixV_len (s m : List Int) (a : Nat) : (mixV s m a).length = s.length := addR_len _ _ _
theorem blocksR_len (m s : List Int) (n : Nat) : (blocksR m s n).length = s.length := by
  induction n with
  | zero => rfl
  | succ n ih => rw [blocksR, mixV_len, ih]
end Go.Proofs.YtdngkgkkblfcjaaDoor.T
namespace Go.Proofs.YtdngkgkkblfcjaaDoor.T
open Go Go.Proofs Go.Proofs.YtdngkgkkblfcjaaDoor.K
set_option linter.unusedVariables false
set_option linter.unusedSimpArgs false
def WIn (w : digestWriter) (m : List Int) : Prop := w.n = m.length ∧ w.rest = m.drop (64 * (m.length / 64)) ∧ (64 ≤ m.length → w.s = blocksR m iv0 (m.length / 64))
theorem clone_eq (xs : List Int) (h : xs.length ≤ 140737488355328) : bytes_Clone.f xs = some xs := by
  unfold bytes_Clone.f
  rw [if_pos h]
theorem state_eq {w : digestWriter} {m : List Int} (h : WIn w m) : digest_Writer_state.f w = some (blocksR m iv0 (m.length / 64)) := by
  obtain ⟨h1, h2, h3⟩ := h
  simp only [digest_Writer_state.f, digest_begin.f, Option.bind_some, h1]
  by_cases hc : m.length < 64
  · rw [if_pos (by omega), Nat.div_eq_of_lt hc]
    rfl
  · rw [if_neg (by omega), h3 (by omega)]
theorem write_eq {w : digestWriter} {m b : List Int} (h : WIn w m) (hb : m.length + b.length ≤ 1000000) : ∃ w', digest_Writer_Write.f w b = some w' ∧ WIn w' (m ++ b) := by
  have hs := state_eq h
  obtain ⟨h1, h2, h3⟩ := h
  generalize hq : m.length / 64 = q at hs h2
  have hq1 : 64 * q ≤ m.length := by omega
  have hR : w.rest ++ b = (m ++ b).drop (64 * q) := by rw [h2, List.drop_append_of_le_length hq1]
  have hRl : (w.rest ++ b).length = m.length + b.length - 64 * q := by rw [hR]; simp
  generalize hRe : w.rest ++ b = R at hR hRl
  generalize hc : R.length / 64 = c
  have hloop : loopO digest_Writer_Write.s0 (0, blocksR m iv0 q, R) = some (((64 * c : Nat) : Int), blocksR (m ++ b) iv0 (q + c), R) := by
    refine loop_run (fun i => (((64 * i : Nat) : Int), blocksR (m ++ b) iv0 (q + i), R)) c ?_ (fun i hi => ?_) ?_
    · rw [Nat.add_zero, blocksR_app _ _ _ _ hq1]; rfl
    · simp only [digest_Writer_Write.s0]
      have e : IntKind.i64.wrap (((64 * i : Nat) : Int) + 64) = ((64 * i + 64 : Nat) : Int) := by rw [w64 (by omega) (by omega)]; omega
      rw [e, if_pos (by omega), if_pos (by omega), Int.toNat_natCast, Int.toNat_natCast, mix_eq _ _ (by simp; omega)]
      simp only [Option.bind_some]
      rw [mixV_in, hR, mixV_drop, ← Nat.mul_add]
      rfl
    · simp only [digest_Writer_Write.s0]
      rw [w64 (by omega) (by omega), if_neg (by omega)]
  refine ⟨⟨blocksR (m ++ b) iv0 (q + c), R.drop (64 * c), m.length + b.length⟩, ?_, by simp, ?_, fun _ => ?_⟩
  · simp only [digest_Writer_Write.f]
    have hs' : digest_Writer_state.f ⟨w.s, w.rest, w.n⟩ = some (blocksR m iv0 q) := hs
    have hw : w.rest.length + b.length = R.length := by rw [← hRe, List.length_append]
    rw [hs', hRe, hw]
    simp only [Option.bind_some]
    rw [if_pos (by omega), hloop]
    simp only [Option.bind_some]
    rw [if_pos (by omega), Int.toNat_natCast, Int.toNat_natCast, List.take_length, clone_eq _ (by simp; omega)]
    simp only [Option.bind_some]
    rw [h1, w64 (by omega) (by omega)]
  · have : 64 * ((m ++ b).length / 64) = 64 * q + 64 * c := by rw [List.length_append]; omega
    rw [this, hR, List.drop_drop]
  · have : (m ++ b).length / 64 = q + c := by rw [List.length_append]; omega
    rw [this]
theorem set_next {α : Type} (f : Nat → α) (n j : Nat) (z : α) (h : j < n) : ((List.range j).map f ++ List.replicate (n - j) z).set j (f j) = (List.range (j + 1)).map f ++ List.replicate (n - (j + 1)) z := by
  obtain ⟨k, hk⟩ : ∃ k, n - j = k + 1 := ⟨n - j - 1, by omega⟩
  have hk' : n - (j + 1) = k := by omega
  rw [hk, hk', List.set_append_right _ _ (by simp), List.range_succ, List.map_append, List.append_assoc]
  simp [List.replicate_succ]
theorem zeros_loop (step : List Int → Option (List Int ⊕ List Int)) (hs : ∀ l, step l = (if (Int.tmod (l.length : Int) 64) ≠ 56 then (if l.length + 1 ≤ 140737488355328 then some (.inl (l ++ ([0] : List Int))) else none) else some (.inr l)))
    (l : List Int) (h : l.length ≤ 2000000) : loopO step l = some (l ++ List.replicate (zs l.length) 0) := by
  refine loop_run (fun i => l ++ List.replicate i 0) (zs l.length) (by simp) (fun i hi => ?_) ?_
  · rw [hs, if_pos ?_, if_pos (by simp [zs] at hi ⊢; omega)]
    · simp [List.replicate_succ', List.append_assoc]
    · rw [List.length_append, List.length_replicate, Int.tmod_eq_emod_of_nonneg (by omega)]
      simp only [zs] at hi
      omega
  · rw [hs, if_neg ?_]
    rw [List.length_append, List.length_replicate, Int.tmod_eq_emod_of_nonneg (by omega)]
    simp only [zs]
    omega
theorem range_map_succ {α : Type} (f : Nat → α) (i : Nat) : (List.range (i + 1)).map f = (List.range i).map f ++ [f i] := by rw [List.range_succ, List.map_append]; rfl
theorem lenB_digest (n i : Nat) (hn : n ≤ 1000000) (hi : i < 8) : IntKind.u8.wrap (sR .u64 (sL .u64 (IntKind.u64.wrap (n : Int)) 3) (IntKind.i64.wrap (8 * (7 - (i : Int))))) = lenB n i := by
  have e1 : sL .u64 (IntKind.u64.wrap (n : Int)) 3 = IntKind.u64.wrap (8 * (n : Int)) := by
    rw [wu64 (by omega) (by omega)]
    simp only [sL, show (3 : Int).toNat = 3 from rfl]
    rw [show ((2 : Int) ^ (min 3 IntKind.u64.bits)) = 8 from rfl, Int.mul_comm]
  rw [e1, w64 (by omega) (by omega)]
  rfl
theorem padR_len (m : List Int) : (padR m).length = m.length + 1 + zs (m.length + 1) + 8 := by
  simp [padR]; omega
theorem padR_mod (m : List Int) : (padR m).length % 64 = 0 := by
  rw [padR_len]; simp only [zs]; omega
theorem out_eq4 (s : List Int) (i : Nat) (hi : i < 8) : loopO (digest_Writer_Sum.s4 s (i : Int)) (0, (List.range (4 * i)).map (outB s) ++ List.replicate (32 - 4 * i) 0) = some ((List.range (4 * (i + 1))).map (outB s) ++ List.replicate (32 - 4 * (i + 1)) 0) := by
  refine loop_run (fun k => ((k : Int), (List.range (4 * i + k)).map (outB s) ++ List.replicate (32 - (4 * i + k)) 0)) 4 (by simp) (fun k hk => ?_) ?_
  · simp only [digest_Writer_Sum.s4]
    have e1 : IntKind.i64.wrap (24 - IntKind.i64.wrap (8 * (k : Int))) = 24 - 8 * (k : Int) := by
      rw [w64 (x := 8 * (k : Int)) (by omega) (by omega), w64 (by omega) (by omega)]
    have e2 : IntKind.i64.wrap (IntKind.i64.wrap (4 * (i : Int)) + (k : Int)) = ((4 * i + k : Nat) : Int) := by
      rw [w64 (x := 4 * (i : Int)) (by omega) (by omega), w64 (by omega) (by omega)]; omega
    rw [if_pos (by omega), e1, e2, if_pos (by omega), if_pos (by omega), wadd1 k (by omega), Int.toNat_natCast, Int.toNat_natCast]
    have e3 : IntKind.u8.wrap (sR .u32 (s.getD i 0) (24 - 8 * (k : Int))) = outB s (4 * i + k) := by
      have a1 : (4 * i + k) / 4 = i := by omega
      have a2 : (4 * i + k) % 4 = k := by omega
      simp only [outB, a1, a2]
    rw [e3, set_next _ _ _ _ (by omega)]
    rfl
  · simp only [digest_Writer_Sum.s4]
    rw [if_neg (by decide)]
    rfl
theorem out_eq (s : List Int) : loopO (digest_Writer_Sum.s3 s) (0, List.replicate 32 0) = some (outL s) := by
  refine loop_run (fun i => ((i : Int), (List.range (4 * i)).map (outB s) ++ List.replicate (32 - 4 * i) 0)) 8 (by simp) (fun i hi => ?_) ?_
  · simp only [digest_Writer_Sum.s3]
    rw [if_pos (by omega), if_pos (by omega), out_eq4 s i hi]
    simp only [Option.bind_some]
    rw [wadd1 i (by omega)]
  · simp only [digest_Writer_Sum.s3]
    rw [if_neg (by decide)]
    rfl
theorem sum_eq' {w : digestWriter} {m : List Int} (h : WIn w m) (hb : m.length ≤ 1000000) : digest_Writer_Sum.f w = some (sha m) := by
  have hs := state_eq h
  obtain ⟨h1, h2, h3⟩ := h
  generalize hq : m.length / 64 = q at hs h2
  have hq1 : 64 * q ≤ m.length := by omega
  have hrl : w.rest.length = m.length - 64 * q := by rw [h2]; simp
  have hz : zs (w.rest ++ [128]).length = zs (m.length + 1) := by simp only [List.length_append, hrl, zs, List.length_cons, List.length_nil]; omega
  have hz64 : zs (m.length + 1) < 64 := by simp only [zs]; omega
  have hC : w.rest ++ [128] ++ List.replicate (zs (m.length + 1)) 0 ++ (List.range 8).map (lenB m.length) = (padR m).drop (64 * q) := by
    rw [h2, padR, List.drop_append_of_le_length hq1]
    simp only [List.append_assoc]
  have hl1 : loopO (digest_Writer_Sum.s1 w) (w.rest ++ [128] ++ List.replicate (zs (m.length + 1)) 0, 7) = some ((padR m).drop (64 * q)) := by
    refine loop_run (fun i => (w.rest ++ [128] ++ List.replicate (zs (m.length + 1)) 0 ++ (List.range i).map (lenB m.length), 7 - (i : Int))) 8 (by simp) (fun i hi => ?_) ?_
    · simp only [digest_Writer_Sum.s1]
      rw [if_pos (by omega), if_pos (by rw [w64 (by omega) (by omega)]; omega), if_pos (by simp; omega), h1, lenB_digest _ _ hb hi, w64 (by omega) (by omega)]
      congr 2
      rw [range_map_succ, ← List.append_assoc]
      congr 1
      omega
    · simp only [digest_Writer_Sum.s1]
      rw [if_neg (by decide), hC]
  have hpl := padR_len m
  have hpm := padR_mod m
  have hCl : ((padR m).drop (64 * q)).length = (padR m).length - 64 * q := by simp
  generalize hc : ((padR m).drop (64 * q)).length / 64 = c at *
  have hl2 : loopO digest_Writer_Sum.s2 ((padR m).drop (64 * q), 0, blocksR m iv0 q) = some ((padR m).drop (64 * q), blocksR (padR m) iv0 (q + c)) := by
    refine loop_run (fun i => ((padR m).drop (64 * q), ((64 * i : Nat) : Int), blocksR (padR m) iv0 (q + i))) c ?_ (fun i hi => ?_) ?_
    · rw [Nat.add_zero]
      have : blocksR (padR m) iv0 q = blocksR m iv0 q := blocksR_app _ _ _ _ hq1
      rw [this]; rfl
    · simp only [digest_Writer_Sum.s2]
      have e : IntKind.i64.wrap (((64 * i : Nat) : Int) + 64) = ((64 * i + 64 : Nat) : Int) := by rw [w64 (by omega) (by omega)]; omega
      rw [if_pos (by omega), e, if_pos (by omega), Int.toNat_natCast, Int.toNat_natCast, mix_eq _ _ (by simp; omega)]
      simp only [Option.bind_some]
      rw [mixV_in, mixV_drop, ← Nat.mul_add]
      rfl
    · simp only [digest_Writer_Sum.s2]
      rw [if_neg (by omega)]
  simp only [digest_Writer_Sum.f]
  have hs' : digest_Writer_state.f ⟨w.s, w.rest, w.n⟩ = some (blocksR m iv0 q) := hs
  rw [clone_eq _ (by omega)]
  simp only [Option.bind_some]
  rw [if_pos (by omega), zeros_loop digest_Writer_Sum.s0 (fun l => rfl) _ (by simp; omega), hz]
  simp only [Option.bind_some]
  rw [hl1]
  simp only [Option.bind_some]
  rw [hs']
  simp only [Option.bind_some]
  rw [hl2]
  simp only [Option.bind_some]
  rw [out_eq]
  simp only [Option.bind_some, sha]
  congr 3
  omega
theorem wIn0 (s : List Int) : WIn ⟨s, [], 0⟩ [] := ⟨rfl, rfl, fun h => by simp at h⟩
theorem sha_eq (m : List Int) (hb : m.length ≤ 1000000) : digest_Sha.f m = some (sha m) := by
  obtain ⟨w', e, hw⟩ := write_eq (wIn0 (List.replicate 8 0)) (b := m) (by simpa using hb)
  simp only [digest_Sha.f, e, Option.bind_some]
  have : digest_Writer_Sum.f ⟨w'.s, w'.rest, w'.n⟩ = some (sha m) := sum_eq' hw (by simpa using hb)
  rw [this]
  rfl
theorem outL_len (s : List Int) : (outL s).length = 32 := by simp [outL]
theorem sha_len (m : List Int) : (sha m).length = 32 := outL_len _
theorem twice_eq (m : List Int) (hb : m.length ≤ 1000000) : digest_Twice.f m = some (sha (sha m)) := by
  simp only [digest_Twice.f, sha_eq m hb, Option.bind_some, sha_eq (sha m) (by rw [sha_len]; omega)]
theorem sha_arr (m : List Int) : Arr .u8 32 (sha m) := ⟨sha_len m, fun x hx => by
  simp only [sha, outL, List.mem_map] at hx
  obtain ⟨i, _, rfl⟩ := hx
  exact wrap_in _ _⟩
end Go.Proofs.YtdngkgkkblfcjaaDoor.T
namespace Go.Proofs.YtdngkgkkblfcjaaDoor.T
open Go Go.Proofs Go.Proofs.YtdngkgkkblfcjaaDoor.K
set_option linter.unusedVariables false
set_option linter.unusedSimpArgs false
theorem els_all {α : Type} {RE : α → List Value → Prop} {sz : Nat} {xs : List α} {cs : List Value} {Q : α → Prop} (h : Els RE sz xs cs) (f : ∀ x c, RE x c → Q x) : ∀ x ∈ xs, Q x := by
  induction h with
  | nil => simp
  | cons h _ _ ih =>
    intro y hy
    rcases List.mem_cons.1 hy with rfl | hy
    · exact f _ _ h
    · exact ih y hy
theorem slc_ints {k : IntKind} {μ : Store} {v : Value} {xs : List Int} (h : Slc (RI k) 1 μ v xs) : ∀ x ∈ xs, InR k x := by
  obtain ⟨cs, he, _⟩ := h
  exact els_all he fun x c hc => hc.2
theorem winc (i : Nat) (hi : i < 9223372036854775807) : IntKind.i64.wrap ((i : Int) + 1) = ((i + 1 : Nat) : Int) := by
  rw [w64 (by omega) (by omega)]; omega
theorem take_next {α : Type} (xs : List α) (i : Nat) (d : α) (h : i < xs.length) : xs.take i ++ [xs.getD i d] = xs.take (i + 1) := by
  rw [List.take_add_one]
  simp [List.getD, h]
theorem copy_run {α : Type} {step : (List α × Int) → Option ((List α × Int) ⊕ List α)} (xs : List α) (d : α) (h : xs.length < 9223372036854775807)
    (hs : ∀ i, i < xs.length → step (xs.take i, (i : Int)) = some (.inl (xs.take i ++ [xs.getD i d], IntKind.i64.wrap ((i : Int) + 1)))) (hn : step (xs, (xs.length : Int)) = some (.inr xs)) : loopO step ([], 0) = some xs :=
  loop_run (fun i => (xs.take i, (i : Int))) xs.length rfl (fun i hi => by
    rw [hs i hi, take_next _ _ _ hi, winc i (by omega)]) (by simpa using hn)
theorem bytes_eq (xs : List Int) (h : xs.length ≤ 140737488355328) : sargassoref_Bytes.f xs = some xs := by
  unfold sargassoref_Bytes.f
  rw [if_pos ⟨by omega, by omega, by omega⟩]
  simp only [Int.toNat_zero, List.replicate_zero]
  rw [copy_run xs 0 (by omega) (fun i hi => by
    simp only [sargassoref_Bytes.s0]
    rw [if_pos (by omega), if_pos (by omega), if_pos (by simp; omega), Int.toNat_natCast]) (by simp [sargassoref_Bytes.s0])]
  rfl
theorem all_run {step : Int → Option (Int ⊕ Bool)} (n : Nat) (p : Nat → Prop) [DecidablePred p] (hn : n < 9223372036854775807)
    (hs : ∀ i, i < n → step (i : Int) = if p i then some (.inl (IntKind.i64.wrap ((i : Int) + 1))) else some (.inr false)) (he : step (n : Int) = some (.inr true)) : loopO step 0 = some (decide (∀ i, i < n → p i)) := by
  have key : ∀ m k, m + k = n → (∀ i, i < k → p i) → loopO step (k : Int) = some (decide (∀ i, i < n → p i)) := by
    intro m
    induction m with
    | zero =>
      intro k e h
      obtain rfl : k = n := by omega
      rw [loopO_inr he]
      congr 1
      exact (decide_eq_true h).symm
    | succ m ih =>
      intro k e h
      have h1 := hs k (by omega)
      by_cases hp : p k
      · rw [if_pos hp, winc k (by omega)] at h1
        rw [loopO_inl h1]
        refine ih (k + 1) (by omega) fun i hi => ?_
        rcases Nat.lt_or_ge i k with h2 | h2
        · exact h i h2
        · obtain rfl : i = k := by omega
          exact hp
      · rw [if_neg hp] at h1
        rw [loopO_inr h1]
        have : ¬ ∀ i, i < n → p i := fun h2 => hp (h2 k (by omega))
        simp [this]
  exact key n 0 (by omega) (by simp)
theorem ext_iff {α : Type} (xs ys : List α) (d : α) (h : xs.length = ys.length) : (∀ i, i < xs.length → xs.getD i d = ys.getD i d) ↔ xs = ys := by
  constructor
  · intro hh
    apply List.ext_getElem h
    intro i h1 h2
    have := hh i h1
    simpa [List.getD, h1, h2] using this
  · rintro rfl i _
    rfl
theorem samehash_eq (a b : List Int) (ha : a.length = 32) (hb : b.length = 32) : sargassoref_SameHash.f a b = some (decide (a = b)) := by
  unfold sargassoref_SameHash.f
  rw [all_run 32 (fun i => a.getD i 0 = b.getD i 0) (by omega) (fun i hi => by
    simp only [sargassoref_SameHash.s0, Int.toNat_natCast]
    rw [if_pos (by omega), if_pos (by omega)]
    by_cases h : a.getD i 0 = b.getD i 0
    · rw [if_neg (by simpa using h), if_pos h]
    · rw [if_pos h, if_neg h]) (by simp [sargassoref_SameHash.s0])]
  congr 2
  apply propext
  have := ext_iff a b 0 (by rw [ha, hb])
  rw [ha] at this
  exact this
end Go.Proofs.YtdngkgkkblfcjaaDoor.T
namespace Go.Proofs.YtdngkgkkblfcjaaDoor.T
open Go Go.Proofs Go.Proofs.YtdngkgkkblfcjaaDoor.K
set_option linter.unusedVariables false
set_option linter.unusedSimpArgs false
theorem ref_sched_step (m : List Int) (a : Nat) (ha : a + 64 ≤ m.length) (hm : m.length ≤ 3000000) (w : List Int) (hw : w.length = 64) (i : Nat) (hi : i < 64) : sargassoref1_Sha.s3 m (a : Int) ((i : Int), w) = some (.inl (((i + 1 : Nat) : Int), w.set i (schedVal m a w i))) := by
  simp only [sargassoref1_Sha.s3, hw]
  rw [if_pos (by omega)]
  by_cases h16 : i < 16
  · have e0 : IntKind.i64.wrap ((a : Int) + IntKind.i64.wrap (4 * (i : Int))) = ((a + 4 * i : Nat) : Int) := by
      rw [wmul4 i (by omega), w64 (by omega) (by omega)]; omega
    have e1 : IntKind.i64.wrap (((a + 4 * i : Nat) : Int) + 1) = ((a + 4 * i + 1 : Nat) : Int) := by rw [w64 (by omega) (by omega)]; omega
    have e2 : IntKind.i64.wrap (((a + 4 * i : Nat) : Int) + 2) = ((a + 4 * i + 2 : Nat) : Int) := by rw [w64 (by omega) (by omega)]; omega
    have e3 : IntKind.i64.wrap (((a + 4 * i : Nat) : Int) + 3) = ((a + 4 * i + 3 : Nat) : Int) := by rw [w64 (by omega) (by omega)]; omega
    rw [if_pos (by omega), e0, e1, e2, e3, if_pos (by omega), if_pos (by omega), if_pos (by omega), if_pos (by omega), if_pos (by omega)]
    simp only [Option.bind_some, Int.toNat_natCast]
    rw [wadd1 i (by omega)]
    simp only [schedVal, if_pos h16, wordAt]
  · have e2 := wsub i 2 (by omega) (by omega)
    have e7 := wsub i 7 (by omega) (by omega)
    have e15 := wsub i 15 (by omega) (by omega)
    have e16 := wsub i 16 (by omega) (by omega)
    simp only [show ((2 : Nat) : Int) = 2 from rfl, show ((7 : Nat) : Int) = 7 from rfl, show ((15 : Nat) : Int) = 15 from rfl, show ((16 : Nat) : Int) = 16 from rfl] at e2 e7 e15 e16
    rw [if_neg (by omega), e2, e7, e15, e16, if_pos (by omega), if_pos (by omega), if_pos (by omega), if_pos (by omega)]
    simp only [Int.toNat_natCast, right_f _ 17 (by omega) (by omega), right_f _ 19 (by omega) (by omega), right_f _ 7 (by omega) (by omega), right_f _ 18 (by omega) (by omega), Option.bind_some]
    rw [if_pos (by omega), wadd1 i (by omega)]
    simp only [Option.bind_some, schedVal, if_neg h16, sg0, sg1, wl, wr]
theorem ref_sched (m : List Int) (a : Nat) (ha : a + 64 ≤ m.length) (hm : m.length ≤ 3000000) : loopO (sargassoref1_Sha.s3 m (a : Int)) (0, List.replicate ((64 : Int).toNat) 0) = some (schedR m a 64) := by
  refine loop_run (fun i => ((i : Int), schedR m a i)) 64 rfl (fun i hi => ?_) ?_
  · rw [ref_sched_step m a ha hm _ (schedR_len _ _ _) i hi]
    rfl
  · simp only [sargassoref1_Sha.s3]
    rw [if_neg (by decide)]
theorem roundR_len (w s : List Int) (hs : s.length = 8) (i : Nat) : (roundR w s i).length = 8 := by
  cases i with
  | zero => exact hs
  | succ i => rfl
theorem kc_len : kc.length = 64 := by kernel_rfl
theorem k1_eq : sargassoref1_k.lit0 = kc := by kernel_rfl
theorem ref_round (w s : List Int) (hs : s.length = 8) (hw : w.length = 64) : loopO (sargassoref1_Sha.s4 kc w) (([] : List Int) ++ s, 0) = some (roundR w s 64) := by
  refine loop_run (fun i => (roundR w s i, (i : Int))) 64 rfl (fun i hi => ?_) ?_
  · have hl := roundR_len w s hs i
    have hk := kc_len
    simp only [sargassoref1_Sha.s4, hl]
    rw [if_pos (by omega), if_pos (by decide), if_pos (by decide), if_pos (by decide)]
    simp only [right_f _ 6 (by omega) (by omega), right_f _ 11 (by omega) (by omega), right_f _ 25 (by omega) (by omega), right_f _ 2 (by omega) (by omega), right_f _ 13 (by omega) (by omega), right_f _ 22 (by omega) (by omega), Option.bind_some, Int.toNat_natCast]
    rw [if_pos (by decide), if_pos (by decide), if_pos (by omega), if_pos (by omega), if_pos (by decide), if_pos (by decide), if_pos (by decide), wadd1 i (by omega)]
    simp only [roundR, rstep, rt1, rt2, wl, wr, show (0 : Int).toNat = 0 from rfl, show (1 : Int).toNat = 1 from rfl, show (2 : Int).toNat = 2 from rfl, show (3 : Int).toNat = 3 from rfl, show (4 : Int).toNat = 4 from rfl, show (5 : Int).toNat = 5 from rfl, show (6 : Int).toNat = 6 from rfl, show (7 : Int).toNat = 7 from rfl]
  · simp only [sargassoref1_Sha.s4]
    rw [if_neg (by decide)]
theorem ref_add (x s : List Int) (hs : s.length = 8) (hx : x.length = 8) : loopO (sargassoref1_Sha.s5 x) (0, s) = some (addR x s 8) := by
  refine loop_run (fun i => ((i : Int), addR x s i)) 8 rfl (fun i hi => ?_) ?_
  · have hl := addR_len x s i
    simp only [sargassoref1_Sha.s5, hl, hs, hx]
    rw [if_pos (by omega), if_pos (by omega), if_pos (by omega), wadd1 i (by omega)]
    simp only [Int.toNat_natCast, addR]
  · simp only [sargassoref1_Sha.s5]
    rw [if_neg (by decide)]
theorem ref_out (s : List Int) (hs : s.length = 8) : loopO (sargassoref1_Sha.s6 s) (0, List.replicate 32 0) = some (outL s) := by
  refine loop_run (fun i => ((i : Int), (List.range i).map (outB s) ++ List.replicate (32 - i) 0)) 32 (by simp) (fun i hi => ?_) ?_
  · simp only [sargassoref1_Sha.s6, hs]
    have e1 : IntKind.i64.wrap (Int.tdiv (i : Int) 4) = ((i / 4 : Nat) : Int) := by
      rw [Int.tdiv_eq_ediv_of_nonneg (by omega), w64 (by omega) (by omega)]; omega
    have e2 : Int.tmod (i : Int) 4 = ((i % 4 : Nat) : Int) := by rw [Int.tmod_eq_emod_of_nonneg (by omega)]; omega
    have e3 : IntKind.u64.wrap (IntKind.i64.wrap (24 - IntKind.i64.wrap (8 * ((i % 4 : Nat) : Int)))) = 24 - 8 * ((i % 4 : Nat) : Int) := by
      rw [w64 (x := 8 * ((i % 4 : Nat) : Int)) (by omega) (by omega), w64 (by omega) (by omega), wu64 (by omega) (by omega)]
    rw [if_pos (by omega), e1, e2, e3, if_pos (by omega), if_pos (by omega), if_pos (by omega), wadd1 i (by omega), Int.toNat_natCast, Int.toNat_natCast]
    have e4 : IntKind.u8.wrap (sR .u32 (s.getD (i / 4) 0) (24 - 8 * ((i % 4 : Nat) : Int))) = outB s i := rfl
    rw [e4, set_next _ _ _ _ (by omega)]
  · simp only [sargassoref1_Sha.s6]
    rw [if_neg (by decide)]
    rfl
theorem lenB_ref (n i : Nat) (hn : n ≤ 1000000) (hi : i < 8) : IntKind.u8.wrap (sR .u64 (IntKind.u64.wrap (8 * IntKind.u64.wrap (n : Int))) (IntKind.u64.wrap (IntKind.i64.wrap (8 * (7 - (i : Int)))))) = lenB n i := by
  rw [w64 (by omega) (by omega), wu64 (x := (n : Int)) (by omega) (by omega), wu64 (x := 8 * (7 - (i : Int))) (by omega) (by omega)]
  rfl
theorem ref_pad (m : List Int) (hb : m.length ≤ 1000000) : loopO (sargassoref1_Sha.s1 m) (m ++ [128] ++ List.replicate (zs (m.length + 1)) 0, 7) = some (padR m) := by
  have hz64 : zs (m.length + 1) < 64 := by simp only [zs]; omega
  refine loop_run (fun i => (m ++ [128] ++ List.replicate (zs (m.length + 1)) 0 ++ (List.range i).map (lenB m.length), 7 - (i : Int))) 8 (by simp) (fun i hi => ?_) ?_
  · simp only [sargassoref1_Sha.s1]
    rw [if_pos (by omega), if_pos (by rw [w64 (by omega) (by omega), wu64 (by omega) (by omega)]; omega), if_pos (by simp; omega), lenB_ref _ _ hb hi, w64 (by omega) (by omega)]
    congr 2
    rw [range_map_succ, ← List.append_assoc]
    congr 1
    omega
  · simp only [sargassoref1_Sha.s1]
    rw [if_neg (by decide)]
    simp only [padR, List.append_assoc]
theorem ref_block (M s : List Int) (a : Nat) (hs : s.length = 8) (ha : a + 64 ≤ M.length) (hM : M.length ≤ 3000000) : sargassoref1_Sha.s2 M kc ((a : Int), s) = some (.inl (IntKind.i64.wrap ((a : Int) + 64), mixV s M a)) := by
  simp only [sargassoref1_Sha.s2]
  rw [if_pos (by omega), if_pos (by decide), ref_sched M a ha hM]
  simp only [Option.bind_some]
  rw [if_pos (by omega), ref_round _ _ hs (schedR_len _ _ _)]
  simp only [Option.bind_some]
  rw [ref_add _ _ hs (roundR_len _ _ hs _)]
  simp only [Option.bind_some, mixV]
theorem ref_blocks (M : List Int) (hM : M.length ≤ 3000000) (h64 : M.length % 64 = 0) : loopO (sargassoref1_Sha.s2 M kc) (0, iv0) = some (blocksR M iv0 (M.length / 64)) := by
  refine loop_run (fun i => (((64 * i : Nat) : Int), blocksR M iv0 i)) (M.length / 64) (by simp only [Nat.mul_zero, blocksR]; rfl) (fun i hi => ?_) ?_
  · have hbl : (blocksR M iv0 i).length = 8 := blocksR_len _ _ _
    rw [ref_block M _ (64 * i) hbl (by omega) hM]
    have e : IntKind.i64.wrap (((64 * i : Nat) : Int) + 64) = ((64 * (i + 1) : Nat) : Int) := by rw [w64 (by omega) (by omega)]; omega
    rw [e, blocksR]
  · simp only [sargassoref1_Sha.s2]
    rw [if_neg (by omega)]
theorem ref_sha_eq (m : List Int) (hb : m.length ≤ 1000000) : sargassoref1_Sha.f m = some (sha m) := by
  have hz : zs (m ++ [128]).length = zs (m.length + 1) := by simp
  have hz64 : zs (m.length + 1) < 64 := by simp only [zs]; omega
  have hpl := padR_len m
  have hl2 := ref_blocks (padR m) (by omega) (padR_mod m)
  unfold sargassoref1_Sha.f
  rw [bytes_eq m (by omega), Option.bind_some, if_pos (by omega), zeros_loop sargassoref1_Sha.s0 (fun l => rfl) _ (by simp; omega), hz, Option.bind_some, ref_pad m hb, Option.bind_some]
  unfold sargassoref1_k.f
  rw [k1_eq, Option.bind_some]
  unfold iv0 at hl2
  rw [hl2, Option.bind_some, ref_out _ (blocksR_len _ _ _), Option.bind_some]
  rfl
theorem ref_twice_eq (m : List Int) (hb : m.length ≤ 1000000) : sargassoref1_Twice.f m = some (sha (sha m)) := by
  simp only [sargassoref1_Twice.f, ref_sha_eq m hb, Option.bind_some, ref_sha_eq (sha m) (by rw [sha_len]; omega)]
end Go.Proofs.YtdngkgkkblfcjaaDoor.T
namespace Go.Proofs.YtdngkgkkblfcjaaDoor.T
open Go Go.Proofs Go.Proofs.YtdngkgkkblfcjaaDoor.K
set_option linter.unusedVariables false
set_option linter.unusedSimpArgs false
def Hs (l : List (List Int)) : Prop := ∀ x ∈ l, x.length = 32
theorem Hs.at {l : List (List Int)} (h : Hs l) {i : Nat} (hi : i < l.length) : (l.getD i []).length = 32 := by
  have e : l.getD i [] = l[i] := by simp [List.getD, hi]
  rw [e]; exact h _ (List.getElem_mem hi)
theorem concat_eq (l : List (List Int)) (hn : l.length ≤ 1000) (hl : ∀ x ∈ l, x.length ≤ 1000) : slices_Concat_byte_byte.f l = some l.flatten := by
  have hpre : ∀ i, i ≤ l.length → ((l.take i).flatten.length ≤ 1000 * i) := by
    intro i
    induction i with
    | zero => intro _; simp
    | succ i ih =>
      intro hi
      have h1 := ih (by omega)
      have h2 : (l.getD i []).length ≤ 1000 := by
        have e : l.getD i [] = l[i] := by simp [List.getD, show i < l.length by omega]
        rw [e]; exact hl _ (List.getElem_mem _)
      rw [← take_next l i [] (by omega), List.flatten_append, List.length_append]
      simp only [List.flatten_cons, List.flatten_nil, List.append_nil]
      omega
  have hel : ∀ i, i < l.length → (l.getD i []).length ≤ 1000 := fun i hi => by
    have e : l.getD i [] = l[i] := by simp [List.getD, hi]
    rw [e]; exact hl _ (List.getElem_mem _)
  have hnext : ∀ i, i < l.length → (l.take (i + 1)).flatten = (l.take i).flatten ++ l.getD i [] := fun i hi => by
    rw [← take_next l i [] hi, List.flatten_append]; simp
  have h0 : loopO (slices_Concat_byte_byte.s0 l) (0, 0) = some ((l.flatten.length : Int)) := by
    refine loop_run (fun i => (((l.take i).flatten.length : Int), (i : Int))) l.length (by simp) (fun i hi => ?_) ?_
    · have a := hpre i (by omega)
      have b := hel i hi
      simp only [slices_Concat_byte_byte.s0, Int.toNat_natCast]
      rw [if_pos (by omega), if_pos (by omega), w64 (x := ((l.take i).flatten.length : Int) + ((l.getD i []).length : Int)) (by omega) (by omega), if_neg (by omega), Option.bind_some, winc i (by omega), hnext i hi, List.length_append]
      push_cast
      rfl
    · simp only [slices_Concat_byte_byte.s0]
      rw [if_neg (by omega), List.take_length]
  have h1 : loopO (slices_Concat_byte_byte.s1 l) ([], 0) = some l.flatten := by
    refine loop_run (fun i => ((l.take i).flatten, (i : Int))) l.length (by simp) (fun i hi => ?_) ?_
    · have a := hpre i (by omega)
      have b := hel i hi
      simp only [slices_Concat_byte_byte.s1, Int.toNat_natCast]
      rw [if_pos (by omega), if_pos (by omega), if_pos (by omega), winc i (by omega), hnext i hi]
    · simp only [slices_Concat_byte_byte.s1]
      rw [if_neg (by omega), List.take_length]
  have a := hpre l.length (by omega)
  rw [List.take_length] at a
  simp only [slices_Concat_byte_byte.f, slices_Grow_byte_byte.f, h0, Option.bind_some]
  rw [if_pos (by omega), Option.bind_some, h1, Option.bind_some]
def pr (a b : List Int) : List Int := sha (sha (a ++ b))
theorem pr_len (a b : List Int) : (pr a b).length = 32 := sha_len _
theorem pair1_eq (a b : List Int) (ha : a.length = 32) (hb : b.length = 32) : sargassoref1_pair.f a b = some (pr a b) := by
  simp only [sargassoref1_pair.f]
  rw [bytes_eq _ (by omega), Option.bind_some, if_pos (by omega), ref_twice_eq _ (by simp [ha, hb])]
  rfl
theorem xor1 (a : Nat) : a ^^^ 1 = if a % 2 = 0 then a + 1 else a - 1 := by
  have h1 : (a ^^^ 1) / 2 = a / 2 := by rw [Nat.xor_div_two]; simp
  have h2 : (a ^^^ 1) % 2 = (a + 1) % 2 := by
    have := Nat.xor_mod_two_pow (a := a) (b := 1) (n := 1)
    rw [show 2 ^ 1 = 2 from rfl] at this
    rw [this]
    have d0 : 0 ^^^ 1 % 2 = 1 := by decide
    have d1 : 1 ^^^ 1 % 2 = 0 := by decide
    rcases Nat.mod_two_eq_zero_or_one a with e | e <;> rw [e] <;> simp only [d0, d1] <;> omega
  split <;> omega
theorem iMin_nat (a b : Nat) : iMin (a : Int) (b : Int) = ((min a b : Nat) : Int) := by unfold iMin; split <;> omega
def oth (i : Nat) (l : List (List Int)) : List Int := l.getD (min (i ^^^ 1) (l.length - 1)) []
theorem oth_len {i : Nat} {l : List (List Int)} (h : Hs l) (h0 : 0 < l.length) : (oth i l).length = 32 := h.at (by omega)
def upG (l : List (List Int)) (j : Nat) : List Int := pr (l.getD (2 * j) []) (oth (2 * j) l)
def upL (l : List (List Int)) : List (List Int) := (List.range ((l.length + 1) / 2)).map (upG l)
theorem upL_len (l : List (List Int)) : (upL l).length = (l.length + 1) / 2 := by simp [upL]
theorem upL_hs (l : List (List Int)) : Hs (upL l) := fun x hx => by
  simp only [upL, List.mem_map] at hx
  obtain ⟨j, _, rfl⟩ := hx
  exact pr_len _ _
theorem row_eq (l : List (List Int)) (h : Hs l) (hl : l.length < 100000) : sargassoref1_row.f l = some (upL l) := by
  simp only [sargassoref1_row.f]
  have e : loopO (sargassoref1_row.s0 l) ([], 0) = some (upL l) := by
    refine loop_run (fun j => ((List.range j).map (upG l), ((2 * j : Nat) : Int))) ((l.length + 1) / 2) rfl (fun j hj => ?_) ?_
    · simp only [sargassoref1_row.s0, Int.toNat_natCast]
      have e1 : IntKind.i64.wrap ((l.length : Int) - 1) = ((l.length - 1 : Nat) : Int) := by rw [w64 (by omega) (by omega)]; omega
      have e2 : IntKind.i64.wrap (((2 * j : Nat) : Int) + 1) = ((2 * j + 1 : Nat) : Int) := by rw [w64 (by omega) (by omega)]; omega
      have e3 : oth (2 * j) l = l.getD (min (2 * j + 1) (l.length - 1)) [] := by
        unfold oth
        rw [xor1, if_pos (by omega)]
      rw [e1, e2, iMin_nat, if_pos (by omega), if_pos (by omega), if_pos (by omega), Int.toNat_natCast, ← e3, pair1_eq _ _ (h.at (by omega)) (oth_len h (by omega)), Option.bind_some, if_pos (by simp; omega), range_map_succ, w64 (by omega) (by omega)]
      congr 3
    · simp only [sargassoref1_row.s0]
      rw [if_neg (by omega)]
      rfl
  rw [e, Option.bind_some]
def topR : Nat → List (List Int) → List (List Int)
  | 0, l => l
  | f + 1, l => if 1 < l.length then topR f (upL l) else l
theorem top_stop {f : Nat} {l : List (List Int)} (h : l.length ≤ 1) : topR f l = l := by
  cases f with
  | zero => rfl
  | succ f => rw [topR, if_neg (by omega)]
def rootL (l : List (List Int)) : List Int := if l.length = 0 then List.replicate 32 0 else (topR l.length l).getD 0 []
theorem top_pos : ∀ (f : Nat) (l : List (List Int)), 0 < l.length → l.length ≤ f → (topR f l).length = 1
  | 0, l, h, h' => by omega
  | f + 1, l, h, h' => by
    by_cases c : 1 < l.length
    · rw [topR, if_pos c]
      exact top_pos f _ (by rw [upL_len]; omega) (by rw [upL_len]; omega)
    · rw [top_stop (by omega)]; omega
theorem top_hs : ∀ (f : Nat) (l : List (List Int)), Hs l → Hs (topR f l)
  | 0, l, h => h
  | f + 1, l, h => by
    by_cases c : 1 < l.length
    · rw [topR, if_pos c]; exact top_hs f _ (upL_hs l)
    · rw [topR, if_neg c]; exact h
theorem root1_loop : ∀ (f : Nat) (l : List (List Int)), Hs l → l.length ≤ f → l.length < 100000 → loopO sargassoref1_Root.s0 l = some (topR f l)
  | 0, l, h, hf, hl => loopO_inr (by simp only [sargassoref1_Root.s0]; rw [if_neg (by omega)]; rfl)
  | f + 1, l, h, hf, hl => by
    by_cases c : 1 < l.length
    · rw [loopO_inl (s' := upL l) (by simp only [sargassoref1_Root.s0]; rw [if_pos (by omega), row_eq l h hl]; rfl), topR, if_pos c]
      exact root1_loop f _ (upL_hs l) (by rw [upL_len]; omega) (by rw [upL_len]; omega)
    · rw [loopO_inr (r := l) (by simp only [sargassoref1_Root.s0]; rw [if_neg (by omega)]), top_stop (by omega)]
theorem root1_eq (l : List (List Int)) (h : Hs l) (hl : l.length < 100000) : sargassoref1_Root.f l = some (rootL l) := by
  simp only [sargassoref1_Root.f, rootL]
  by_cases c : l.length = 0
  · rw [if_pos (by omega), if_pos c]; rfl
  · rw [if_neg (by omega), if_neg c, root1_loop _ l h (Nat.le_refl _) hl, Option.bind_some, if_pos (by rw [top_pos _ _ (by omega) (Nat.le_refl _)]; decide)]
    rfl
theorem rootL_len (l : List (List Int)) (h : Hs l) : (rootL l).length = 32 := by
  unfold rootL
  split
  · simp
  · exact (top_hs _ _ h).at (by rw [top_pos _ _ (by omega) (Nat.le_refl _)]; omega)
end Go.Proofs.YtdngkgkkblfcjaaDoor.T
namespace Go.Proofs.YtdngkgkkblfcjaaDoor.T
open Go Go.Proofs Go.Proofs.YtdngkgkkblfcjaaDoor.K
set_option linter.unusedVariables false
set_option linter.unusedSimpArgs false
theorem u8e (x : Int) : IntKind.u8.wrap x = x % 256 := by simp [IntKind.wrap, IntKind.signed, IntKind.bits]
def lb (a m : Nat) : List Int := (List.range m).map fun j => ((a / 2 ^ (8 * j) % 256 : Nat) : Int)
theorem lb_len (a m : Nat) : (lb a m).length = m := by simp [lb]
theorem sR_div (k : IntKind) {a n : Nat} (hn : n ≤ k.bits) : sR k (a : Int) (n : Int) = ((a / 2 ^ n : Nat) : Int) := by
  rw [sR_nat k hn, Nat.shiftRight_eq_div_pow]
theorem number_eq' (r : List Int) (a k : Nat) (hk : k ≤ 100) (hl : r.length + k ≤ 140737488355328) : compact_number.f r (a : Int) (k : Int) = some (r ++ lb a k) := by
  simp only [compact_number.f]
  have h : loopO (compact_number.s0 (k : Int)) (r, (a : Int), 0) = some (r ++ lb a k, ((a / 2 ^ (8 * k) : Nat) : Int)) := by
    refine loop_run (fun j => (r ++ lb a j, ((a / 2 ^ (8 * j) : Nat) : Int), (j : Int))) k (by simp [lb]) (fun j hj => ?_) ?_
    · simp only [compact_number.s0]
      have e1 : IntKind.u8.wrap ((a / 2 ^ (8 * j) : Nat) : Int) = ((a / 2 ^ (8 * j) % 256 : Nat) : Int) := by rw [u8e]; generalize a / 2 ^ (8 * j) = q; omega
      have e2 : sR .u64 ((a / 2 ^ (8 * j) : Nat) : Int) 8 = ((a / 2 ^ (8 * (j + 1)) : Nat) : Int) := by
        have := sR_div .u64 (a := a / 2 ^ (8 * j)) (n := 8) (by decide)
        rw [Nat.div_div_eq_div_mul, ← Nat.pow_add] at this
        exact this
      rw [if_pos (by omega), if_pos (by simp [lb_len]; omega), e1, e2, winc j (by omega), List.append_assoc]
      have : lb a j ++ [((a / 2 ^ (8 * j) % 256 : Nat) : Int)] = lb a (j + 1) := by
        unfold lb; rw [range_map_succ]
      rw [this]
    · simp only [compact_number.s0]
      rw [if_neg (by omega)]
  rw [h, Option.bind_some]
theorem four_eq (b : List Int) (a : Nat) (ha : a < 4294967296) (hl : b.length + 4 ≤ 140737488355328) : compact_Four.f b (a : Int) = some (b ++ lb a 4) := by
  have := number_eq' b a 4 (by omega) hl
  simp only [compact_Four.f, bytes_Clone.f]
  rw [wu64 (by omega) (by omega), if_pos (by omega), Option.bind_some]
  rw [show ((4 : Nat) : Int) = 4 from rfl] at this
  rw [this, Option.bind_some]
structure HN where
  v : Nat
  p : List Int
  r : List Int
  t : Nat
  w : Nat
  n : Nat
deriving DecidableEq
structure HN.Ok (h : HN) : Prop where
  v : h.v < 4294967296
  p : h.p.length = 32
  r : h.r.length = 32
  t : h.t < 4294967296
  w : h.w < 4294967296
  n : h.n < 4294967296
def HN.h (h : HN) : Head := ⟨h.v, h.p, h.r, h.t, h.w, h.n⟩
def hb (h : HN) : List Int := lb h.v 4 ++ (h.p ++ (h.r ++ (lb h.t 4 ++ (lb h.w 4 ++ lb h.n 4))))
theorem hb_len {h : HN} (o : h.Ok) : (hb h).length = 80 := by simp [hb, lb_len, o.p, o.r]
theorem hbytes_eq {h : HN} (o : h.Ok) : head_Bytes.f h.h = some (hb h) := by
  simp only [head_Bytes.f, HN.h]
  have hv := o.v
  have ht := o.t
  have hw := o.w
  have hn := o.n
  rw [four_eq [] h.v hv (by simp), Option.bind_some, concat_eq _ (by simp) (by simp [lb_len, o.p, o.r]), Option.bind_some, four_eq _ h.t ht (by simp [lb_len, o.p, o.r]), Option.bind_some, four_eq _ h.w hw (by simp [lb_len, o.p, o.r]), Option.bind_some, four_eq _ h.n hn (by simp [lb_len, o.p, o.r]), Option.bind_some]
  simp [hb]
theorem hid_eq {h : HN} (o : h.Ok) : head_ID.f h.h = some (sha (sha (hb h))) := by
  simp only [head_ID.f]
  rw [hbytes_eq o, Option.bind_some, twice_eq _ (by rw [hb_len o]; decide)]
  rfl
end Go.Proofs.YtdngkgkkblfcjaaDoor.T
namespace Go.Proofs.YtdngkgkkblfcjaaDoor.T
open Go Go.Proofs Go.Proofs.YtdngkgkkblfcjaaDoor.K
set_option linter.unusedVariables false
set_option linter.unusedSimpArgs false
def sl : List Er := [xErrEnd, xErrShape, xErrLong, xErrMany, xErrValue, xErrTwice, xErrBase, xErrRoot, xErrKnown, xErrParent, xErrInvalid, xErrTime, xErrMissing, xErrKey, xErrYoung, xErrEarly, xErrLess, xErrReward, xErrClash, xErrLimit, xErrFull, xErrRange, xErrNone, xErrWord, xErrNumber]
theorem gd {α : Type} (l : List α) (d : α) {i : Nat} (h : i < l.length) : l.getD i d = l[i] := by simp [List.getD, h]
end Go.Proofs.YtdngkgkkblfcjaaDoor.T
namespace Go.Proofs.YtdngkgkkblfcjaaDoor.T
open Go Go.Proofs Go.Proofs.YtdngkgkkblfcjaaDoor.K
set_option linter.unusedVariables false
set_option linter.unusedSimpArgs false
def Bs (l : List Int) : Prop := ∀ x ∈ l, InR .u8 x
theorem Bs.app {l m : List Int} (h : Bs l) (k : Bs m) : Bs (l ++ m) := fun x hx => (List.mem_append.1 hx).elim (h x) (k x)
theorem Bs.take {l : List Int} (h : Bs l) (n : Nat) : Bs (l.take n) := fun x hx => h x (List.mem_of_mem_take hx)
theorem Bs.drop {l : List Int} (h : Bs l) (n : Nat) : Bs (l.drop n) := fun x hx => h x (List.mem_of_mem_drop hx)
theorem bs_lb (a m : Nat) : Bs (lb a m) := fun x hx => by
  obtain ⟨j, _, rfl⟩ := List.mem_map.1 hx
  simp only [InR]
  omega
theorem bs_nil : Bs [] := fun x hx => by cases hx
def vl : List Int → Nat
  | [] => 0
  | b :: l => b.toNat + 256 * vl l
def nx (n : Nat) (s : List Int × Er) : List Int × (List Int × Er) :=
  if s.2 ≠ .b 0 then ([], s) else if s.1.length < n then ([], (s.1, xErrEnd)) else (s.1.take n, (s.1.drop n, s.2))
def wh (n : Nat) (s : List Int × Er) : Nat × (List Int × Er) := (vl (nx n s).1, (nx n s).2)
def ln (n : Nat) : Nat := if n < 253 then 1 else if n < 65536 then 3 else if n < 4294967296 then 5 else 9
theorem len_eq (n : Nat) : compact_Len.f (n : Int) = some (ln n : Int) := by
  simp only [compact_Len.f, ln]
  by_cases h1 : n < 253
  · rw [if_pos (by omega), if_pos h1]; rfl
  · rw [if_neg (by omega), if_neg h1]
    by_cases h2 : n < 65536
    · rw [if_pos (by omega), if_pos h2]; rfl
    · rw [if_neg (by omega), if_neg h2]
      by_cases h3 : n < 4294967296
      · rw [if_pos (by omega), if_pos h3]; rfl
      · rw [if_neg (by omega), if_neg h3]; rfl
theorem len1_eq (n : Nat) : sargassoref1_Len.f (n : Int) = some (ln n : Int) := len_eq n
def my (n : Nat) : Nat := if n = 253 then 2 else if n = 254 then 4 else if n = 255 then 8 else 0
def nm (most : Int) (s : List Int × Er) : Nat × (List Int × Er) :=
  let a := wh 1 s
  let b := if 0 < my a.1 then wh (my a.1) a.2 else a
  if b.2.2 ≠ .b 0 then (0, b.2) else if ln b.1 ≠ 1 + my a.1 then (0, (b.2.1, xErrShape)) else if most < (b.1 : Int) then (0, (b.2.1, xErrMany)) else b
def h32 (s : List Int × Er) : List Int × (List Int × Er) := (if (nx 32 s).1 = [] then List.replicate 32 0 else (nx 32 s).1, (nx 32 s).2)
def by_ (n : Int) (s : List Int × Er) : List Int × (List Int × Er) := if n ≤ 0 then ([], s) else nx n.toNat s
end Go.Proofs.YtdngkgkkblfcjaaDoor.T
namespace Go.Proofs.YtdngkgkkblfcjaaDoor.T
open Go Go.Proofs Go.Proofs.YtdngkgkkblfcjaaDoor.K
set_option linter.unusedVariables false
set_option linter.unusedSimpArgs false
def pt (n : Nat) : List Int := if n < 253 then lb n 1 else if n < 65536 then 253 :: lb n 2 else if n < 4294967296 then 254 :: lb n 4 else 255 :: lb n 8
theorem pt_len (n : Nat) : (pt n).length = ln n := by
  unfold pt ln
  split
  · simp [lb_len]
  · split
    · simp [lb_len]
    · split <;> simp [lb_len]
theorem ln_le (n : Nat) : 1 ≤ ln n ∧ ln n ≤ 9 := by unfold ln; split <;> (try split) <;> (try split) <;> omega
theorem lb_one (n : Nat) : lb n 1 = [((n % 256 : Nat) : Int)] := by simp [lb, List.range_succ]
end Go.Proofs.YtdngkgkkblfcjaaDoor.T
namespace Go.Proofs.YtdngkgkkblfcjaaDoor.T
open Go Go.Proofs Go.Proofs.YtdngkgkkblfcjaaDoor.K
set_option linter.unusedVariables false
set_option linter.unusedSimpArgs false
abbrev Stp (α : Type) := List Int × Er → α × (List Int × Er)
section
variable {α β : Type}
def ret (x : α) : Stp α := fun s => (x, s)
def bnd (f : Stp α) (g : α → Stp β) : Stp β := fun s => g (f s).1 (f s).2
end
end Go.Proofs.YtdngkgkkblfcjaaDoor.T
namespace Go.Proofs.YtdngkgkkblfcjaaDoor.T
open Go Go.Proofs Go.Proofs.YtdngkgkkblfcjaaDoor.K
set_option linter.unusedVariables false
set_option linter.unusedSimpArgs false
structure InOk (i : In) : Prop where
  tx : i.From.Tx.length = 32
  txb : Bs i.From.Tx
  n : InR .u32 i.From.N
  key : Bs i.Key
  seq : InR .u32 i.Seq
structure OutOk (o : Out) : Prop where
  val : InR .u64 o.Value
  lock : o.Lock.length = 32
  lockb : Bs o.Lock
structure TxOk (t : Tx) : Prop where
  v : InR .u32 t.Version
  ins : ∀ i ∈ t.Ins, InOk i
  outs : ∀ o ∈ t.Outs, OutOk o
  t : InR .u32 t.Time
structure Few (a b : Nat) (t : Tx) : Prop where
  ins : t.Ins.length ≤ a
  outs : t.Outs.length ≤ a
  key : ∀ i ∈ t.Ins, i.Key.length ≤ b
theorem Few.mono {a b c d : Nat} {t : Tx} (h : Few a b t) (h1 : a ≤ c) (h2 : b ≤ d) : Few c d t := ⟨Nat.le_trans h.ins h1, Nat.le_trans h.outs h1, fun i hi => Nat.le_trans (h.key i hi) h2⟩
def ib (i : In) : List Int := i.From.Tx ++ (lb i.From.N.toNat 4 ++ (pt i.Key.length ++ (i.Key ++ lb i.Seq.toNat 4)))
def ob (o : Out) : List Int := lb o.Value.toNat 8 ++ o.Lock
def tb (t : Tx) : List Int := lb t.Version.toNat 4 ++ (pt t.Ins.length ++ ((t.Ins.map ib).flatten ++ (pt t.Outs.length ++ ((t.Outs.map ob).flatten ++ lb t.Time.toNat 4))))
theorem ib_len {i : In} (h : InOk i) : (ib i).length = 40 + ln i.Key.length + i.Key.length := by
  simp only [ib, List.length_append, h.tx, lb_len, pt_len]; omega
theorem ob_len {o : Out} (h : OutOk o) : (ob o).length = 40 := by simp only [ob, List.length_append, h.lock, lb_len]
theorem flat_le {α : Type} (f : α → List Int) (b : Nat) : ∀ (l : List α), (∀ x ∈ l, (f x).length ≤ b) → (l.map f).flatten.length ≤ b * l.length
  | [], _ => by simp
  | x :: l, h => by
    have h1 := flat_le f b l fun y hy => h y (by simp [hy])
    have h2 := h x (by simp)
    simp only [List.map_cons, List.flatten_cons, List.length_append, List.length_cons]
    rw [Nat.mul_add, Nat.mul_one]; omega
theorem ins_le {t : Tx} (h : TxOk t) {a : Nat} (hf : Few a 1000 t) : (t.Ins.map ib).flatten.length ≤ 2000 * t.Ins.length := flat_le ib 2000 t.Ins fun i hi => by
  rw [ib_len (h.ins i hi)]
  have := (ln_le i.Key.length).2
  have := hf.key i hi
  omega
theorem outs_le {t : Tx} (h : TxOk t) : (t.Outs.map ob).flatten.length ≤ 40 * t.Outs.length := flat_le ob 40 t.Outs fun o ho => by rw [ob_len (h.outs o ho)]; omega
theorem tb_le {t : Tx} (h : TxOk t) (hf : Few 100 1000 t) : (tb t).length ≤ 210000 := by
  have h1 := ins_le h hf
  have h2 := outs_le h
  have h3 := (ln_le t.Ins.length).2
  have h4 := (ln_le t.Outs.length).2
  have h5 := hf.ins
  have h6 := hf.outs
  simp only [tb, List.length_append, lb_len, pt_len]
  omega
theorem nat4 {x : Int} (h : InR .u32 x) : x = ((x.toNat : Nat) : Int) ∧ x.toNat < 4294967296 := by obtain ⟨a, b⟩ := h; omega
theorem nat8 {x : Int} (h : InR .u64 x) : x = ((x.toNat : Nat) : Int) ∧ x.toNat < 18446744073709551616 := by obtain ⟨a, b⟩ := h; omega
theorem getD_mem {α : Type} {l : List α} {d : α} {i : Nat} (h : i < l.length) : l.getD i d ∈ l := by rw [gd l d h]; exact List.getElem_mem h
theorem flat_next {α : Type} (f : α → List Int) (l : List α) (d : α) (i : Nat) (h : i < l.length) : ((l.take (i + 1)).map f).flatten = ((l.take i).map f).flatten ++ f (l.getD i d) := by
  rw [← take_next l i d h]; simp
theorem take_few {α : Type} (f : α → List Int) (b : Nat) (l : List α) (h : ∀ x ∈ l, (f x).length ≤ b) (i : Nat) (hi : i ≤ l.length) : ((l.take i).map f).flatten.length ≤ b * l.length := by
  have := flat_le f b (l.take i) fun x hx => h x (List.mem_of_mem_take hx)
  rw [List.length_take, Nat.min_eq_left hi] at this
  exact Nat.le_trans this (Nat.mul_le_mul_left b hi)
end Go.Proofs.YtdngkgkkblfcjaaDoor.T
namespace Go.Proofs.YtdngkgkkblfcjaaDoor.T
open Go Go.Proofs Go.Proofs.YtdngkgkkblfcjaaDoor.K
set_option linter.unusedVariables false
set_option linter.unusedSimpArgs false
def nullP : Point := ⟨List.replicate 32 0, 4294967295⟩
end Go.Proofs.YtdngkgkkblfcjaaDoor.T
namespace Go.Proofs.YtdngkgkkblfcjaaDoor.T
open Go Go.Proofs Go.Proofs.YtdngkgkkblfcjaaDoor.K
set_option linter.unusedVariables false
set_option linter.unusedSimpArgs false
def frs (t : Tx) : List Point := t.Ins.map (·.From)
def vs (t : Tx) : List Int := t.Outs.map (·.Value)
def isBase (t : Tx) : Prop := t.Ins.length = 1 ∧ (t.Ins.getD 0 default).From = nullP
instance (t : Tx) : Decidable (isBase t) := inferInstanceAs (Decidable (_ ∧ _))
def mn (t : Tx) : Prop := t.Ins.length = 0 ∨ 50 < t.Ins.length ∨ t.Outs.length = 0 ∨ 50 < t.Outs.length
instance (t : Tx) : Decidable (mn t) := inferInstanceAs (Decidable (_ ∨ _))
end Go.Proofs.YtdngkgkkblfcjaaDoor.T
namespace Go.Proofs.YtdngkgkkblfcjaaDoor.T
open Go Go.Proofs Go.Proofs.YtdngkgkkblfcjaaDoor.K
set_option linter.unusedVariables false
set_option linter.unusedSimpArgs false
theorem little_eq' (r : List Int) (a k : Nat) (hk : k ≤ 8) (hl : r.length + k ≤ 140737488355328) : sargassoref1_little.f r (a : Int) (k : Int) = some (r ++ lb a k) := by
  simp only [sargassoref1_little.f]
  have h : loopO (sargassoref1_little.s0 (a : Int) (k : Int)) (r, 0) = some (r ++ lb a k) := by
    refine loop_run (fun j => (r ++ lb a j, (j : Int))) k (by simp [lb]) (fun j hj => ?_) ?_
    · simp only [sargassoref1_little.s0]
      have ew : IntKind.u64.wrap (IntKind.i64.wrap (8 * (j : Int))) = ((8 * j : Nat) : Int) := by rw [w64 (by omega) (by omega), wu64 (by omega) (by omega)]; omega
      have e1 : IntKind.u8.wrap (sR .u64 (a : Int) ((8 * j : Nat) : Int)) = ((a / 2 ^ (8 * j) % 256 : Nat) : Int) := by
        rw [sR_div .u64 (n := 8 * j) (by simp only [IntKind.bits]; omega), u8e]
        generalize a / 2 ^ (8 * j) = q
        omega
      rw [if_pos (by omega), ew, e1, if_pos (by omega), if_pos (by simp [lb_len]; omega), winc j (by omega), List.append_assoc]
      have : lb a j ++ [((a / 2 ^ (8 * j) % 256 : Nat) : Int)] = lb a (j + 1) := by
        unfold lb; rw [range_map_succ]
      rw [this]
    · simp only [sargassoref1_little.s0]
      rw [if_neg (by omega)]
  rw [h, Option.bind_some]
theorem four1_eq (b : List Int) (a : Nat) (ha : a < 4294967296) (hl : b.length + 4 ≤ 140737488355328) : sargassoref1_Four.f b (a : Int) = some (b ++ lb a 4) := by
  have := little_eq' b a 4 (by omega) hl
  simp only [sargassoref1_Four.f]
  rw [wu64 (by omega) (by omega)]
  rw [show ((4 : Nat) : Int) = 4 from rfl] at this
  rw [this, Option.bind_some]
theorem put1_eq (b : List Int) (n : Nat) (hn : n < 18446744073709551616) (hl : b.length ≤ 1000000) : sargassoref1_Put.f b (n : Int) = some (b ++ pt n) := by
  simp only [sargassoref1_Put.f]
  rw [len1_eq, Option.bind_some]
  unfold ln pt
  by_cases h1 : n < 253
  · rw [if_pos h1, if_pos h1, if_pos (by rfl), if_pos (by omega), u8e, lb_one]
    congr 3
  · rw [if_neg h1, if_neg h1]
    by_cases h2 : n < 65536
    · have := little_eq' (b ++ [253]) n 2 (by omega) (by simp; omega)
      rw [show ((2 : Nat) : Int) = 2 from rfl] at this
      rw [if_pos h2, if_pos h2, if_neg (by decide), if_pos (by rfl), if_pos (by omega), this, Option.bind_some, List.append_assoc]; rfl
    · rw [if_neg h2, if_neg h2]
      by_cases h3 : n < 4294967296
      · have := little_eq' (b ++ [254]) n 4 (by omega) (by simp; omega)
        rw [show ((4 : Nat) : Int) = 4 from rfl] at this
        rw [if_pos h3, if_pos h3, if_neg (by decide), if_neg (by decide), if_pos (by rfl), if_pos (by omega), this, Option.bind_some, List.append_assoc]; rfl
      · have := little_eq' (b ++ [255]) n 8 (by omega) (by simp; omega)
        rw [show ((8 : Nat) : Int) = 8 from rfl] at this
        rw [if_neg h3, if_neg h3, if_neg (by decide), if_neg (by decide), if_neg (by decide), if_pos (by omega), this, Option.bind_some, List.append_assoc]; rfl
theorem eight1_eq (b : List Int) (a : Nat) (hl : b.length ≤ 1000000) : sargassoref1_Eight.f b (a : Int) = some (b ++ lb a 8) := by
  have := little_eq' b a 8 (by omega) (by omega)
  simp only [sargassoref1_Eight.f]
  rw [show ((8 : Nat) : Int) = 8 from rfl] at this
  rw [this, Option.bind_some]
end Go.Proofs.YtdngkgkkblfcjaaDoor.T
namespace Go.Proofs.YtdngkgkkblfcjaaDoor.T
open Go Go.Proofs Go.Proofs.YtdngkgkkblfcjaaDoor.K
set_option linter.unusedVariables false
set_option linter.unusedSimpArgs false
theorem tbytes1_eq {t : Tx} (h : TxOk t) (hf : Few 100 1000 t) : sargassoref1_TxBytes.f t = some (tb t) := by
  obtain ⟨v1, v2⟩ := nat4 h.v
  obtain ⟨t1, t2⟩ := nat4 h.t
  have hi := hf.ins
  have ho := hf.outs
  have hil : ∀ i ∈ t.Ins, (ib i).length ≤ 2000 := fun i hi => by
    rw [ib_len (h.ins i hi)]
    have := (ln_le i.Key.length).2
    have := hf.key i hi
    omega
  have hol : ∀ o ∈ t.Outs, (ob o).length ≤ 40 := fun o ho => by rw [ob_len (h.outs o ho)]; omega
  have lp := (ln_le t.Ins.length).2
  have lq := (ln_le t.Outs.length).2
  have L1 : ∀ P : List Int, P.length ≤ 100 → loopO (sargassoref1_TxBytes.s0 t) (P, 0) = some (P ++ (t.Ins.map ib).flatten) := fun P hP => by
    refine loop_run (fun i => (P ++ ((t.Ins.take i).map ib).flatten, (i : Int))) t.Ins.length (by simp) (fun i hi => ?_) ?_
    · have hm := getD_mem (l := t.Ins) (d := default) hi
      have ok := h.ins _ hm
      have hk := hf.key _ hm
      have hb := take_few ib 2000 t.Ins hil i (by omega)
      rw [flat_next ib t.Ins default i hi]
      simp only [sargassoref1_TxBytes.s0, Int.toNat_natCast]
      generalize t.Ins.getD i default = x at *
      obtain ⟨n1, n2⟩ := nat4 ok.n
      obtain ⟨s1, s2⟩ := nat4 ok.seq
      have ltx := ok.tx
      have lk := (ln_le x.Key.length).2
      have hf4 := four1_eq (P ++ ((t.Ins.take i).map ib).flatten ++ x.From.Tx) x.From.N.toNat n2 (by simp only [List.length_append]; omega)
      have hp := put1_eq (P ++ ((t.Ins.take i).map ib).flatten ++ x.From.Tx ++ lb x.From.N.toNat 4) x.Key.length (by omega) (by simp only [List.length_append, lb_len]; omega)
      have hf5 := four1_eq (P ++ ((t.Ins.take i).map ib).flatten ++ x.From.Tx ++ lb x.From.N.toNat 4 ++ pt x.Key.length ++ x.Key) x.Seq.toNat s2 (by simp only [List.length_append, lb_len, pt_len]; omega)
      rw [← n1] at hf4
      rw [← s1] at hf5
      rw [if_pos (by omega), if_pos (by omega), if_pos (by simp only [List.length_append]; omega), hf4, Option.bind_some, wu64 (by omega) (by omega), hp, Option.bind_some, if_pos (by simp only [List.length_append, lb_len, pt_len]; omega), hf5, Option.bind_some, winc i (by omega)]
      simp only [ib, List.append_assoc]
    · simp only [sargassoref1_TxBytes.s0]
      rw [if_neg (by omega), List.take_length]
  have L2 : ∀ P : List Int, P.length ≤ 300000 → loopO (sargassoref1_TxBytes.s1 t) (P, 0) = some (P ++ (t.Outs.map ob).flatten) := fun P hP => by
    refine loop_run (fun i => (P ++ ((t.Outs.take i).map ob).flatten, (i : Int))) t.Outs.length (by simp) (fun i hi => ?_) ?_
    · have hm := getD_mem (l := t.Outs) (d := default) hi
      have ok := h.outs _ hm
      have hb := take_few ob 40 t.Outs hol i (by omega)
      rw [flat_next ob t.Outs default i hi]
      simp only [sargassoref1_TxBytes.s1, Int.toNat_natCast]
      generalize t.Outs.getD i default = x at *
      obtain ⟨n1, n2⟩ := nat8 ok.val
      have ltx := ok.lock
      have h8 := eight1_eq (P ++ ((t.Outs.take i).map ob).flatten) x.Value.toNat (by simp only [List.length_append]; omega)
      rw [← n1] at h8
      rw [show Int.toNat 32 = 32 from rfl, show Int.toNat 0 = 0 from rfl, List.take_of_length_le (l := x.Lock) (by omega), List.drop_zero, if_pos (by omega), if_pos (by omega), h8, Option.bind_some, if_pos (by simp only [List.length_append, lb_len]; omega), winc i (by omega)]
      simp only [ob, List.append_assoc]
    · simp only [sargassoref1_TxBytes.s1]
      rw [if_neg (by omega), List.take_length]
  have hI := flat_le ib 2000 t.Ins hil
  have hO := flat_le ob 40 t.Outs hol
  have f1 := four1_eq [] t.Version.toNat v2 (by simp)
  rw [← v1] at f1
  have p1 := put1_eq (lb t.Version.toNat 4) t.Ins.length (by omega) (by rw [lb_len]; omega)
  have p2 := put1_eq (lb t.Version.toNat 4 ++ pt t.Ins.length ++ (t.Ins.map ib).flatten) t.Outs.length (by omega) (by simp only [List.length_append, lb_len, pt_len]; omega)
  have f2 := four1_eq (lb t.Version.toNat 4 ++ pt t.Ins.length ++ (t.Ins.map ib).flatten ++ pt t.Outs.length ++ (t.Outs.map ob).flatten) t.Time.toNat t2 (by simp only [List.length_append, lb_len, pt_len]; omega)
  rw [← t1] at f2
  simp only [sargassoref1_TxBytes.f]
  rw [f1, Option.bind_some, List.nil_append, wu64 (x := (t.Ins.length : Int)) (by omega) (by omega), p1, Option.bind_some, L1 _ (by simp only [List.length_append, lb_len, pt_len]; omega), Option.bind_some, wu64 (x := (t.Outs.length : Int)) (by omega) (by omega), p2, Option.bind_some, L2 _ (by simp only [List.length_append, lb_len, pt_len]; omega), Option.bind_some, f2, Option.bind_some]
  simp only [tb, List.append_assoc]
theorem nodup_iff (t : Tx) : (∀ i, i < t.Ins.length → ∀ j, j < i → (t.Ins.getD i default).From ≠ (t.Ins.getD j default).From) ↔ (frs t).Nodup := by
  have hl : (frs t).length = t.Ins.length := by simp [frs]
  have hg : ∀ i, i < t.Ins.length → (frs t).getD i default = (t.Ins.getD i default).From := fun i hi => by
    rw [gd _ _ (by rw [hl]; exact hi), gd _ _ hi]
    simp [frs]
  unfold List.Nodup
  rw [List.pairwise_iff_getElem]
  constructor
  · intro h i j hi hj hij e
    have h1 := h j (by omega) i hij
    rw [← hg j (by omega), ← hg i (by omega), gd _ _ hj, gd _ _ hi] at h1
    exact h1 e.symm
  · intro h i hi j hj e
    have h1 := h j i (by omega) (by omega) hj
    rw [← gd _ default (by omega), ← gd _ default (by omega), hg j (by omega), hg i hi] at h1
    exact h1 e.symm
end Go.Proofs.YtdngkgkkblfcjaaDoor.T
namespace Go.Proofs.YtdngkgkkblfcjaaDoor.T
open Go Go.Proofs Go.Proofs.YtdngkgkkblfcjaaDoor.K
set_option linter.unusedVariables false
set_option linter.unusedSimpArgs false
def idt (t : Tx) : List Int := sha (sha (tb t))
theorem idt_len (t : Tx) : (idt t).length = 32 := sha_len _
def T1 (h : Nat) (v : Int) (l e : List Int) : Tx := ⟨1, [⟨nullP, lb h 4 ++ e, 4294967295⟩], [⟨v, l⟩], 0⟩
theorem zB : Bs (List.replicate 32 0) := fun x hx => by
  obtain rfl : x = 0 := List.eq_of_mem_replicate hx
  simp [InR]
theorem T1_ok {h : Nat} {v : Int} {l e : List Int} (hv : InR .u64 v) (hl : l.length = 32) (lb_ : Bs l) (he : Bs e) : TxOk (T1 h v l e) := by
  refine ⟨by simp [T1, InR], fun i hi => ?_, fun o ho => ?_, by simp [T1, InR]⟩
  · obtain rfl := List.mem_singleton.1 hi
    exact ⟨by simp [nullP], zB, by simp [nullP, InR], (bs_lb _ _).app he, by simp [InR]⟩
  · obtain rfl := List.mem_singleton.1 ho
    exact ⟨hv, hl, lb_⟩
theorem T1_few {h : Nat} {v : Int} {l e : List Int} (he : e.length ≤ 90) : Few 60 100 (T1 h v l e) := by
  refine ⟨by simp [T1], by simp [T1], fun i hi => ?_⟩
  obtain rfl := List.mem_singleton.1 hi
  simp only [List.length_append, lb_len]; omega
theorem u32_nat (x : Int) : IntKind.u32.wrap x = (((IntKind.u32.wrap x).toNat : Nat) : Int) ∧ (IntKind.u32.wrap x).toNat < 4294967296 := nat4 (wrap_in _ _)
theorem first1_eq (x0 x1 : Int) (x2 x3 : List Int) (h3 : x3.length ≤ 90) : sargassoref1_First.f x0 x1 x2 x3 = some (T1 (IntKind.u32.wrap x0).toNat x1 x2 x3) := by
  obtain ⟨e, hl⟩ := u32_nat x0
  have h := four1_eq [] _ hl (by simp)
  rw [← e] at h
  simp only [sargassoref1_First.f]
  rw [h, Option.bind_some, if_pos (by simp [lb_len]; omega)]
  simp [sargassoref1_Null.f, T1, nullP]
theorem id1_eq {t : Tx} (h : TxOk t) (hf : Few 60 100 t) : sargassoref1_ID.f t = some (idt t) := by
  have n0 := tb_le h (hf.mono (by omega) (by omega))
  simp only [sargassoref1_ID.f]
  rw [tbytes1_eq h (hf.mono (by omega) (by omega)), Option.bind_some, ref_twice_eq _ (by omega), Option.bind_some]
  rfl
structure TsOk (l : List Tx) : Prop where
  n : l.length ≤ 1000
  ok : ∀ t ∈ l, TxOk t
  few : ∀ t ∈ l, Few 60 100 t
theorem ids1_eq {l : List Tx} (h : TsOk l) : sargassoref1_IDs.f l = some (l.map idt) := by
  have hn := h.n
  simp only [sargassoref1_IDs.f]
  rw [show loopO (sargassoref1_IDs.s0 l) ([], 0) = _ from loop_run (step := sargassoref1_IDs.s0 l) (fun i => ((l.take i).map idt, (i : Int))) l.length (r := l.map idt) rfl (fun i hi => by
    have hm := getD_mem (l := l) (d := default) hi
    simp only [sargassoref1_IDs.s0, Int.toNat_natCast]
    rw [if_pos (by omega), if_pos (by omega), id1_eq (h.ok _ hm) (h.few _ hm), Option.bind_some, if_pos (by simp; omega), winc i (by omega), ← take_next l i default hi]
    simp) (by simp only [sargassoref1_IDs.s0]; rw [if_neg (by omega), List.take_length])]
  rfl
theorem ids_hs (l : List Tx) : Hs (l.map idt) := fun x hx => by
  obtain ⟨t, _, rfl⟩ := List.mem_map.1 hx
  exact idt_len t
def rt (l : List Tx) : List Int := rootL (l.map idt)
theorem rt_len (l : List Tx) : (rt l).length = 32 := rootL_len _ (ids_hs l)
def tbs (l : List Tx) : List Int := (l.map tb).flatten
def bb (h : HN) (l : List Tx) : List Int := hb h ++ (pt l.length ++ tbs l)
def T0 : Tx := T1 0 0 (sha []) []
def H0 : HN := ⟨1, List.replicate 32 0, rt [T0], 1000, 1, 0⟩
theorem sha_bs (m : List Int) : Bs (sha m) := (sha_arr m).2
theorem T0_ok : TxOk T0 := T1_ok (by simp [InR]) (sha_len _) (sha_bs _) bs_nil
theorem T0_few : Few 60 100 T0 := T1_few (by simp)
theorem Ts0 : TsOk [T0] := ⟨by simp, fun t ht => by obtain rfl := List.mem_singleton.1 ht; exact T0_ok, fun t ht => by obtain rfl := List.mem_singleton.1 ht; exact T0_few⟩
theorem H0_ok : H0.Ok := ⟨by decide, by simp [H0], show (rt [T0]).length = 32 from rt_len _, by decide, by decide, by decide⟩
theorem start1_eq : sargassoref1_Start.f = some ⟨H0.h, [T0]⟩ := by
  simp only [sargassoref1_Start.f, sargassoref1_Rooted.f]
  rw [ref_sha_eq _ (by simp), Option.bind_some, first1_eq _ _ _ _ (by simp), Option.bind_some, show T1 (IntKind.u32.wrap 0).toNat 0 (sha []) [] = T0 from rfl, ids1_eq Ts0, Option.bind_some, root1_eq _ (ids_hs _) (by simp), Option.bind_some, Option.bind_some]
  rfl
end Go.Proofs.YtdngkgkkblfcjaaDoor.T
namespace Go.Proofs.YtdngkgkkblfcjaaDoor.T
open Go Go.Proofs Go.Proofs.YtdngkgkkblfcjaaDoor.K
set_option linter.unusedVariables false
def hid (h : HN) : List Int := sha (sha (hb h))
theorem hid_len (h : HN) : (hid h).length = 32 := sha_len _
theorem hidp_eq {h : HN} (o : h.Ok) : head_ID.f h.h = some (hid h) := hid_eq o
theorem hidr_eq {h : HN} (o : h.Ok) : sargassoref1_HeadID.f h.h = some (hid h) := by
  have hh : sargassoref1_HeadBytes.f h.h = some (hb h) := by
    simp only [sargassoref1_HeadBytes.f]
    have hv := o.v
    have ht := o.t
    have hw := o.w
    have hn := o.n
    rw [show h.h.Version = (h.v : Int) from rfl, show h.h.Prev = h.p from rfl, show h.h.Root = h.r from rfl, show h.h.Time = (h.t : Int) from rfl, show h.h.Work = (h.w : Int) from rfl, show h.h.Nonce = (h.n : Int) from rfl]
    rw [four1_eq [] h.v hv (by simp), Option.bind_some, if_pos (by simp [lb_len, o.p]), if_pos (by simp [lb_len, o.p, o.r]), four1_eq _ h.t ht (by simp [lb_len, o.p, o.r]), Option.bind_some, four1_eq _ h.w hw (by simp [lb_len, o.p, o.r]), Option.bind_some, four1_eq _ h.n hn (by simp [lb_len, o.p, o.r]), Option.bind_some]
    simp [hb]
  simp only [sargassoref1_HeadID.f]
  rw [hh, Option.bind_some, ref_twice_eq _ (by rw [hb_len o]; omega), Option.bind_some]
  rfl
end Go.Proofs.YtdngkgkkblfcjaaDoor.T
namespace Go.Proofs.YtdngkgkkblfcjaaDoor.T
open Go Go.Proofs Go.Proofs.YtdngkgkkblfcjaaDoor.K
set_option linter.unusedVariables false
abbrev TM := List (List Int × treeNode)
def Tin (m : TM) : Prop := ∀ k nd, mget m k = some nd → 0 ≤ nd.height ∧ (0 < nd.height → ∃ p, mget m nd.head.Prev = some p ∧ nd.height = p.height + 1)
def Tone (m : TM) (st : List Int) : Prop := ∀ k nd, mget m k = some nd → nd.height = 0 → k = st
def Dn (m : TM) : List (List Int) → List Int → List Int → Prop
  | [], a, c => a = c
  | x :: l, a, c => x = a ∧ ∃ nd p, mget m a = some nd ∧ mget m nd.head.Prev = some p ∧ nd.height = p.height + 1 ∧ Dn m l nd.head.Prev c
theorem lkn_some {m : TM} {k : List Int} {nd : treeNode} (h : mget m k = some nd) : lkn m k = some k := by simp [lkn, h]
theorem com_step {t : treeTree} {a b : List Int} {x y : treeNode} (hx : mget t.m a = some x) (hy : mget t.m b = some y) (hne : a ≠ b) :
    tree_Tree_Common.s0 t (some a, some b, b, a) = if y.height ≤ x.height then some (.inl (lkn t.m x.head.Prev, some b, b, x.head.Prev)) else some (.inl (some a, lkn t.m y.head.Prev, y.head.Prev, a)) := by
  simp [tree_Tree_Common.s0, hne, nget, hx, hy]
def Com (t : treeTree) (a b c : List Int) : Prop := loopO (tree_Tree_Common.s0 t) (some a, some b, b, a) = some (some c, some c, c, c)
theorem com_self {t : treeTree} {a : List Int} : Com t a a a := by
  refine loopO_inr ?_
  simp [tree_Tree_Common.s0]
theorem com_left {t : treeTree} {a b c : List Int} {x y p : treeNode} (hx : mget t.m a = some x) (hy : mget t.m b = some y) (hne : a ≠ b) (hh : y.height ≤ x.height) (hp : mget t.m x.head.Prev = some p) (h : Com t x.head.Prev b c) : Com t a b c := by
  unfold Com
  rw [loopO_inl (by rw [com_step hx hy hne, if_pos hh, lkn_some hp])]
  exact h
theorem com_right {t : treeTree} {a b c : List Int} {x y p : treeNode} (hx : mget t.m a = some x) (hy : mget t.m b = some y) (hne : a ≠ b) (hh : ¬ y.height ≤ x.height) (hp : mget t.m y.head.Prev = some p) (h : Com t a y.head.Prev c) : Com t a b c := by
  unfold Com
  rw [loopO_inl (by rw [com_step hx hy hne, if_neg hh, lkn_some hp])]
  exact h
theorem com_all {t : treeTree} {st : List Int} (ht : Tin t.m) (h1 : Tone t.m st) : ∀ (n : Nat) (a b : List Int) (x y : treeNode), mget t.m a = some x → mget t.m b = some y → x.height + y.height ≤ n →
    ∃ c la lb nd, mget t.m c = some nd ∧ Dn t.m la a c ∧ Dn t.m lb b c ∧ Com t a b c ∧ Com t b a c := by
  intro n
  induction n using Nat.strongRecOn with
  | ind n ih =>
    intro a b x y hx hy hn
    by_cases hab : a = b
    · subst hab
      exact ⟨a, [], [], x, hx, rfl, rfl, com_self, com_self⟩
    have hx0 := ht a x hx
    have hy0 := ht b y hy
    rcases Int.lt_trichotomy x.height y.height with hlt | heq | hgt
    · obtain ⟨p, hp, hph⟩ := hy0.2 (by omega)
      obtain ⟨c, la, lb, nd, hc, d1, d2, c1, c2⟩ := ih (n - 1) (by omega) a y.head.Prev x p hx hp (by omega)
      exact ⟨c, la, b :: lb, nd, hc, d1, ⟨rfl, y, p, hy, hp, hph, d2⟩, com_right hx hy hab (by omega) hp c1, com_left hy hx (Ne.symm hab) (by omega) hp c2⟩
    · have hpos : 0 < x.height := by
        rcases Int.lt_or_le 0 x.height with h | h
        · exact h
        · exact absurd ((h1 a x hx (by omega)).trans (h1 b y hy (by omega)).symm) hab
      obtain ⟨p, hp, hph⟩ := hx0.2 hpos
      obtain ⟨q, hq, hqh⟩ := hy0.2 (by omega)
      obtain ⟨c, la, lb, nd, hc, d1, d2, c1, c2⟩ := ih (n - 2) (by omega) x.head.Prev y.head.Prev p q hp hq (by omega)
      have n1 : x.head.Prev ≠ b := fun e => by rw [e, hy] at hp; cases hp; omega
      have n2 : y.head.Prev ≠ a := fun e => by rw [e, hx] at hq; cases hq; omega
      exact ⟨c, a :: la, b :: lb, nd, hc, ⟨rfl, x, p, hx, hp, hph, d1⟩, ⟨rfl, y, q, hy, hq, hqh, d2⟩, com_left hx hy hab (by omega) hp (com_right hp hy n1 (by omega) hq c1), com_left hy hx (Ne.symm hab) (by omega) hq (com_right hq hx n2 (by omega) hp c2)⟩
    · obtain ⟨p, hp, hph⟩ := hx0.2 (by omega)
      obtain ⟨c, la, lb, nd, hc, d1, d2, c1, c2⟩ := ih (n - 1) (by omega) x.head.Prev b p y hp hy (by omega)
      exact ⟨c, a :: la, lb, nd, hc, ⟨rfl, x, p, hx, hp, hph, d1⟩, d2, com_left hx hy hab (by omega) hp c1, com_right hy hx (Ne.symm hab) (by omega) hp c2⟩
theorem tcommon_eq {t : treeTree} {a b c : List Int} {x y : treeNode} (hx : mget t.m a = some x) (hy : mget t.m b = some y) (h : Com t a b c) : tree_Tree_Common.f t a b = some (c, true) := by
  unfold Com at h
  simp [tree_Tree_Common.f, hx, hy, lkn_some hx, lkn_some hy, h]
theorem dn_height {m : TM} {c : List Int} {nc : treeNode} (hc : mget m c = some nc) : ∀ (l : List (List Int)) (a : List Int) (x : treeNode), mget m a = some x → Dn m l a c → x.height = nc.height + l.length := by
  intro l
  induction l with
  | nil =>
    rintro a x hx rfl
    rw [hx] at hc; cases hc; simp
  | cons z l ih =>
    rintro a x hx ⟨rfl, nd, p, hnd, hp, hh, hd⟩
    rw [hx] at hnd; cases hnd
    have := ih _ p hp hd
    simp only [List.length_cons]
    push_cast
    omega
theorem dn_key {m : TM} {c : List Int} : ∀ (l : List (List Int)) (a : List Int), Dn m l a c → ∀ z ∈ l, ∃ nd, mget m z = some nd
  | [], _, _, z, h => by cases h
  | y :: l, a, ⟨e, nd, p, hnd, hp, hh, hd⟩, z, h => by
    subst e
    rcases List.mem_cons.1 h with rfl | h
    · exact ⟨nd, hnd⟩
    · exact dn_key l _ hd z h
theorem dn_loop {t : treeTree} {c : List Int} {nc : treeNode} (hc : mget t.m c = some nc) : ∀ (l : List (List Int)) (a : List Int) (x : treeNode) (o : List (List Int)), mget t.m a = some x → Dn t.m l a c → o.length + l.length ≤ 1000000 →
    loopO (tree_Tree_down.s0 t c) (o, a) = some (o ++ l, c) := by
  intro l
  induction l with
  | nil =>
    rintro a x o hx rfl hl
    refine loopO_inr ?_
    simp [tree_Tree_down.s0]
  | cons z l ih =>
    intro a x o hx hd hl
    have hne : ¬ a = c := fun e => by
      have := dn_height hc _ a x hx hd
      rw [e, hc] at hx; cases hx
      simp only [List.length_cons] at this
      push_cast at this
      omega
    obtain ⟨rfl, nd, p, hnd, hp, hh, hd⟩ := hd
    rw [hx] at hnd; cases hnd
    simp only [List.length_cons] at hl
    rw [loopO_inl (s' := (o ++ [z], x.head.Prev)) (by
      simp only [tree_Tree_down.s0]
      rw [if_pos hne, if_pos (by omega), lkn_some hx]
      simp [nget, hx]), ih _ p (o ++ [z]) hp hd (by simp; omega)]
    simp
theorem tdown_eq {t : treeTree} {a c : List Int} {x nc : treeNode} {l : List (List Int)} (hx : mget t.m a = some x) (hc : mget t.m c = some nc) (hd : Dn t.m l a c) (hl : l.length ≤ 1000000) : tree_Tree_down.f t a c = some l := by
  simp only [tree_Tree_down.f]
  rw [dn_loop hc l a x [] hx hd (by simpa using hl)]
  simp
theorem treverse_step (x : List (List Int)) (hl : x.length ≤ 1000000) : ∀ (n i : Nat) (y : List (List Int)), y.length = x.length → 2 * i + n = x.length →
    (∀ k, k < x.length → y[k]? = if i ≤ k ∧ k < x.length - i then x[k]? else x[x.length - 1 - k]?) →
    loopO slices_Reverse_api_Hash_api_Hash.s0 ((i : Int), (x.length : Int) - 1 - i, y) = some x.reverse := by
  intro n
  induction n using Nat.strongRecOn with
  | ind n ih =>
    intro i y hy hn hk
    by_cases hlt : (i : Int) < (x.length : Int) - 1 - i
    · have hi : i < x.length := by omega
      have e1 : ((x.length : Int) - 1 - i).toNat = x.length - 1 - i := by omega
      have g1 : y.getD (x.length - 1 - i) [] = x.getD (x.length - 1 - i) [] := by
        have := hk (x.length - 1 - i) (by omega)
        rw [if_pos (by omega)] at this
        simp [List.getD, this]
      have g2 : y.getD i [] = x.getD i [] := by
        have := hk i (by omega)
        rw [if_pos (by omega)] at this
        simp [List.getD, this]
      rw [loopO_inl (s' := (((i + 1 : Nat) : Int), (x.length : Int) - 1 - ((i + 1 : Nat) : Int), (y.set i (x.getD (x.length - 1 - i) [])).set (x.length - 1 - i) (x.getD i []))) (by
        simp only [slices_Reverse_api_Hash_api_Hash.s0]
        rw [if_pos hlt, if_pos (by omega), if_pos (by omega), e1, Int.toNat_natCast, g1, g2, winc i (by omega), w64 (by omega) (by omega)]
        congr 4
        push_cast
        omega)]
      refine ih (n - 2) (by omega) (i + 1) _ (by simp [hy]) (by omega) fun k hkl => ?_
      rw [List.getElem?_set, List.getElem?_set]
      simp only [List.length_set]
      by_cases c1 : x.length - 1 - i = k
      · rw [if_pos c1, if_pos (by omega), if_neg (by omega)]
        have : x.length - 1 - k = i := by omega
        rw [this]
        simp [List.getD, hi]
      · rw [if_neg c1]
        by_cases c2 : i = k
        · rw [if_pos c2, if_pos (by omega), if_neg (by omega)]
          subst c2
          have : x.length - 1 - i < x.length := by omega
          simp [List.getD, this]
        · rw [if_neg c2, hk k hkl]
          by_cases c3 : i ≤ k ∧ k < x.length - i
          · rw [if_pos c3, if_pos (by omega)]
          · rw [if_neg c3, if_neg (by omega)]
    · refine loopO_inr ?_
      simp only [slices_Reverse_api_Hash_api_Hash.s0]
      rw [if_neg hlt]
      congr 2
      refine List.ext_getElem? fun k => ?_
      by_cases hkl : k < x.length
      · rw [hk k hkl, List.getElem?_reverse hkl]
        by_cases c3 : i ≤ k ∧ k < x.length - i
        · rw [if_pos c3]
          congr 1
          omega
        · rw [if_neg c3]
      · rw [List.getElem?_eq_none (by omega), List.getElem?_eq_none (by simp; omega)]
theorem treverse_eq (x : List (List Int)) (hl : x.length ≤ 1000000) : slices_Reverse_api_Hash_api_Hash.f x = some x.reverse := by
  have := treverse_step x hl x.length 0 x rfl (by omega) (fun k hk => by rw [if_pos (by omega)])
  simp only [slices_Reverse_api_Hash_api_Hash.f]
  rw [w64 (by omega) (by omega)]
  simpa using this
theorem tpath_eq {t : treeTree} {a b c : List Int} {x y nc : treeNode} {la lb : List (List Int)} (hx : mget t.m a = some x) (hy : mget t.m b = some y) (hc : mget t.m c = some nc) (hda : Dn t.m la a c) (hdb : Dn t.m lb b c) (h : Com t a b c)
    (hla : la.length ≤ 1000000) (hlb : lb.length ≤ 1000000) : tree_Tree_Path.f t a b = some (la, lb.reverse, true) := by
  simp only [tree_Tree_Path.f]
  rw [tcommon_eq hx hy h, Option.bind_some, if_pos rfl, tdown_eq hy hc hdb hlb, Option.bind_some, treverse_eq _ hlb, Option.bind_some, tdown_eq hx hc hda hla, Option.bind_some]
theorem thead_eq {t : treeTree} {a : List Int} {x : treeNode} (hx : mget t.m a = some x) : tree_Tree_Head.f t a = some (x.head, true) := by
  simp only [tree_Tree_Head.f]
  rw [if_pos (by rw [hx]; rfl), lkn_some hx]
  simp [nget, hx]
theorem dn_at {m : TM} {c : List Int} : ∀ (l : List (List Int)) (a : List Int), Dn m l a c → (l ++ [c]).getD 0 [] = a ∧ ∀ i, i < l.length → ∃ nd, mget m ((l ++ [c]).getD i []) = some nd ∧ nd.head.Prev = (l ++ [c]).getD (i + 1) []
  | [], a, h => ⟨by simpa using h.symm, fun i hi => by simp at hi⟩
  | y :: l, a, ⟨e, nd, p, hnd, hp, hh, hd⟩ => by
    subst e
    obtain ⟨h1, h2⟩ := dn_at l _ hd
    refine ⟨by simp, fun i hi => ?_⟩
    cases i with
    | zero => exact ⟨nd, by simpa using hnd, by simpa using h1.symm⟩
    | succ i =>
      obtain ⟨nd', h3, h4⟩ := h2 i (by simp at hi; omega)
      exact ⟨nd', by simpa using h3, by simpa using h4⟩
theorem mput_len_new {m : TM} {k : List Int} {n : treeNode} (h : mget m k = none) : (mput m k n).length = m.length + 1 := by
  rw [mput_none (mget_ne h)]; simp
theorem mput_len_old {m : TM} {k : List Int} {n n' : treeNode} (h : mget m k = some n) : (mput m k n').length = m.length := by
  have := congrArg List.length (mput_map1 (n' := n') h)
  simpa using this
structure TOk (t : treeTree) (N : Nat) : Prop where
  tin : Tin t.m
  one : Tone t.m t.start
  len : t.m.length ≤ N
  bnd : ∀ k nd, mget t.m k = some nd → nd.height < N ∧ nd.up.length ≤ N
  k32 : ∀ k nd, mget t.m k = some nd → k.length = 32
def tgrow (t : treeTree) (c : Head) (id : List Int) (p : treeNode) : treeTree := ⟨mput (mput t.m id ⟨c, p.height + 1, IntKind.u64.wrap (p.work + IntKind.u64.wrap c.Work), []⟩) c.Prev ⟨p.head, p.height, p.work, p.up ++ [id]⟩, t.start⟩
theorem tgrow_get {t : treeTree} {c : Head} {id : List Int} {p : treeNode} (hid : mget t.m id = none) (hp : mget t.m c.Prev = some p) (x : List Int) :
    mget (tgrow t c id p).m x = if x = c.Prev then some ⟨p.head, p.height, p.work, p.up ++ [id]⟩ else if x = id then some ⟨c, p.height + 1, IntKind.u64.wrap (p.work + IntKind.u64.wrap c.Work), []⟩ else mget t.m x := by
  unfold tgrow
  by_cases h1 : x = c.Prev
  · rw [if_pos h1, h1, mget_mput_self]
  · rw [if_neg h1, mget_mput_ne h1]
    by_cases h2 : x = id
    · rw [if_pos h2, h2, mget_mput_self]
    · rw [if_neg h2, mget_mput_ne h2]
theorem tgrow_ok {t : treeTree} {c : Head} {id : List Int} {p : treeNode} {N : Nat} (hN : N < 4000) (h : TOk t N) (h32 : id.length = 32) (hid : mget t.m id = none) (hp : mget t.m c.Prev = some p) : TOk (tgrow t c id p) (N + 1) := by
  have hg := tgrow_get hid hp
  have hne : id ≠ c.Prev := fun e => by rw [e, hp] at hid; cases hid
  have hold : ∀ x nd, mget t.m x = some nd → ∃ nd', mget (tgrow t c id p).m x = some nd' ∧ nd'.height = nd.height ∧ nd'.head = nd.head := fun x nd hx => by
    rw [hg]
    by_cases h1 : x = c.Prev
    · rw [if_pos h1]; rw [h1, hp] at hx; cases hx; exact ⟨_, rfl, rfl, rfl⟩
    · have h2 : x ≠ id := fun e => by rw [e, hid] at hx; cases hx
      rw [if_neg h1, if_neg h2]; exact ⟨nd, hx, rfl, rfl⟩
  have hinv : ∀ x nd', mget (tgrow t c id p).m x = some nd' → (x = id ∧ nd' = ⟨c, p.height + 1, IntKind.u64.wrap (p.work + IntKind.u64.wrap c.Work), []⟩) ∨ ∃ nd, mget t.m x = some nd ∧ nd'.height = nd.height ∧ nd'.head = nd.head ∧ nd'.up.length ≤ nd.up.length + 1 := fun x nd' hx => by
    rw [hg] at hx
    by_cases h1 : x = c.Prev
    · rw [if_pos h1] at hx; cases hx; subst h1; exact .inr ⟨p, hp, rfl, rfl, by simp⟩
    · rw [if_neg h1] at hx
      by_cases h2 : x = id
      · rw [if_pos h2] at hx; cases hx; exact .inl ⟨h2, rfl⟩
      · rw [if_neg h2] at hx; exact .inr ⟨nd', hx, rfl, rfl, by omega⟩
  have hp0 := (h.tin _ p hp).1
  refine ⟨fun x nd' hx => ?_, fun x nd' hx h0 => ?_, ?_, fun x nd' hx => ?_, fun x nd' hx => ?_⟩
  · rcases hinv x nd' hx with ⟨rfl, rfl⟩ | ⟨nd, h1, h2, h3, h4⟩
    · refine ⟨by simp only; omega, fun _ => ?_⟩
      obtain ⟨p', e1, e2, e3⟩ := hold _ p hp
      exact ⟨p', e1, by simp only; omega⟩
    · obtain ⟨a, b⟩ := h.tin x nd h1
      refine ⟨by omega, fun hpos => ?_⟩
      obtain ⟨q, e1, e2⟩ := b (by omega)
      obtain ⟨q', f1, f2, f3⟩ := hold _ q e1
      exact ⟨q', by rw [h3]; exact f1, by omega⟩
  · rcases hinv x nd' hx with ⟨rfl, rfl⟩ | ⟨nd, h1, h2, h3, h4⟩
    · simp only at h0; omega
    · exact h.one x nd h1 (by omega)
  · have e1 : (tgrow t c id p).m.length = t.m.length + 1 := by
      unfold tgrow
      rw [mput_len_old (n := p) (by rw [mget_mput_ne hne.symm]; exact hp), mput_len_new hid]
    have := h.len
    omega
  · rcases hinv x nd' hx with ⟨rfl, rfl⟩ | ⟨nd, h1, h2, h3, h4⟩
    · have := (h.bnd _ p hp).1
      exact ⟨by simp only; push_cast; omega, by simp⟩
    · have := h.bnd x nd h1
      exact ⟨by push_cast; omega, by omega⟩
  · rcases hinv x nd' hx with ⟨rfl, rfl⟩ | ⟨nd, h1, h2, h3, h4⟩
    · exact h32
    · exact h.k32 x nd h1
theorem tgrow_old {t : treeTree} {c : Head} {id : List Int} {p : treeNode} (hid : mget t.m id = none) (hp : mget t.m c.Prev = some p) {x : List Int} (h : (mget t.m x).isSome = true) : (mget (tgrow t c id p).m x).isSome = true := by
  rw [tgrow_get hid hp]
  split
  · rfl
  · split
    · rfl
    · exact h
theorem tgrow_new {t : treeTree} {c : Head} {id : List Int} {p : treeNode} (hid : mget t.m id = none) (hp : mget t.m c.Prev = some p) : (mget (tgrow t c id p).m id).isSome = true := by
  rw [tgrow_get hid hp]
  split
  · rfl
  · simp
theorem add_known {t : treeTree} {h : HN} (o : h.Ok) (hk : (mget t.m (hid h)).isSome = true) : tree_Tree_Add.f t h.h = some (xErrKnown, t) := by
  simp only [tree_Tree_Add.f]
  rw [hidp_eq o, Option.bind_some, if_pos hk]
theorem add_new {t : treeTree} {h : HN} {p : treeNode} {N : Nat} (hN : N < 4000) (ht : TOk t N) (o : h.Ok) (hk : mget t.m (hid h) = none) (hp : mget t.m h.p = some p) : tree_Tree_Add.f t h.h = some (Er.b 0, tgrow t h.h (hid h) p) := by
  have hl := ht.len
  have hb := ht.bnd _ p hp
  have h0 := (ht.tin _ p hp).1
  have hp' : mget t.m h.h.Prev = some p := hp
  simp only [tree_Tree_Add.f]
  rw [hidp_eq o, Option.bind_some, if_neg (by rw [hk]; simp), if_pos (by rw [hp']; rfl), if_neg (by omega), lkn_some hp']
  simp only [nget, Option.bind_some, hp']
  rw [if_pos (by rw [hk]; rfl), if_pos (by omega), w64 (by omega) (by omega)]
  rfl
end Go.Proofs.YtdngkgkkblfcjaaDoor.T
namespace Go.Proofs.YtdngkgkkblfcjaaDoor.T
open Go Go.Proofs Go.Proofs.YtdngkgkkblfcjaaDoor.K
set_option linter.unusedVariables false
def tnew (h : HN) : treeTree := ⟨[(hid h, ⟨h.h, 0, IntKind.u64.wrap h.h.Work, []⟩)], hid h⟩
theorem tnew_eq {h : HN} (o : h.Ok) : tree_New.f h.h = some (tnew h) := by
  simp only [tree_New.f]
  rw [hidp_eq o, Option.bind_some, if_pos (by simp [mget])]
  rfl
theorem tnew_get {h : HN} {k : List Int} {nd : treeNode} (hk : mget (tnew h).m k = some nd) : k = hid h ∧ nd = ⟨h.h, 0, IntKind.u64.wrap h.h.Work, []⟩ := by
  simp only [tnew, mget] at hk
  split at hk
  · rename_i e
    cases hk
    exact ⟨e.symm, rfl⟩
  · cases hk
theorem tnew_ok (h : HN) : TOk (tnew h) 1 := by
  refine ⟨fun k nd hk => ?_, fun k nd hk _ => (tnew_get hk).1, by simp [tnew], fun k nd hk => ?_, fun k nd hk => by rw [(tnew_get hk).1]; exact hid_len h⟩
  · obtain ⟨_, rfl⟩ := tnew_get hk
    exact ⟨by simp, fun h => absurd h (by simp)⟩
  · obtain ⟨_, rfl⟩ := tnew_get hk
    exact ⟨by simp, by simp⟩
theorem TOk.mono {t : treeTree} {N M : Nat} (h : TOk t N) (hl : N ≤ M) : TOk t M := ⟨h.tin, h.one, by have := h.len; omega, fun k nd hk => by have := h.bnd k nd hk; exact ⟨by omega, by omega⟩, h.k32⟩
theorem first11 : sargassolaw11_first.f = some true := by
  simp only [sargassolaw11_first.f]
  rw [start1_eq, Option.bind_some, tnew_eq H0_ok, Option.bind_some]
  simp [tree_Tree_Start.f, tree_Tree_Height.f, tree_Tree_Len.f, tnew, mget, nget, lkn]
def Gr (hs : List HN) : Prop := ∀ (i : Nat) (h : HN), hs[i]? = some h → 0 < i → ∃ (j : Nat) (g : HN), j < i ∧ hs[j]? = some g ∧ h.p = hid g
theorem Gr.snoc {hs : List HN} {h g : HN} {j : Nat} (hg : Gr hs) (hj : hs[j]? = some g) (hp : h.p = hid g) : Gr (hs ++ [h]) := by
  have hjl : j < hs.length := (List.getElem?_eq_some_iff.1 hj).1
  intro i x hx hi
  rcases Nat.lt_or_ge i hs.length with hlt | hge
  · rw [List.getElem?_append_left hlt] at hx
    obtain ⟨k, y, h1, h2, h3⟩ := hg i x hx hi
    exact ⟨k, y, h1, by rw [List.getElem?_append_left (by omega)]; exact h2, h3⟩
  · rw [List.getElem?_append_right hge] at hx
    have : i - hs.length = 0 := by
      rcases Nat.eq_zero_or_pos (i - hs.length) with h | h
      · exact h
      · rw [List.getElem?_eq_none (by simp; omega)] at hx; cases hx
    rw [this] at hx
    simp at hx
    subst hx
    exact ⟨j, g, by omega, by rw [List.getElem?_append_left hjl]; exact hj, hp⟩
theorem mk_head (a t w : Int) (p : List Int) (hp : p.length = 32) : ∃ h : HN, h.Ok ∧ h.p = p ∧ h.h = ⟨IntKind.u32.wrap a, p, List.replicate 32 0, IntKind.u32.wrap t, IntKind.u32.wrap w, 0⟩ := by
  obtain ⟨a1, a2⟩ := u32_nat a
  obtain ⟨t1, t2⟩ := u32_nat t
  obtain ⟨w1, w2⟩ := u32_nat w
  refine ⟨⟨(IntKind.u32.wrap a).toNat, p, List.replicate 32 0, (IntKind.u32.wrap t).toNat, (IntKind.u32.wrap w).toNat, 0⟩, ⟨a2, hp, by simp, t2, w2, by simp⟩, rfl, ?_⟩
  simp only [HN.h]
  rw [← a1, ← t1, ← w1]
  rfl
theorem map_get {hs : List HN} {j : Nat} {g : HN} (h : hs[j]? = some g) : (hs.map HN.h).getD j default = g.h := by
  simp [List.getD, h]
theorem grown_eq (x0 : List Int) (hx : ∀ x ∈ x0, InR .i64 x) (hl : x0.length ≤ 60) : ∃ hs : List HN, sargassolaw11_grown.f x0 = some (hs.map HN.h) ∧ hs.length = x0.length + 1 ∧ (∀ h ∈ hs, h.Ok) ∧ hs[0]? = some H0 ∧ Gr hs := by
  simp only [sargassolaw11_grown.f]
  rw [start1_eq, Option.bind_some]
  obtain ⟨r, hr, hs, rfl, h1, h2, h3, h4⟩ := loop_exists2 (step := sargassolaw11_grown.s0 x0) (fun i s => s.2 = (i : Int) ∧ ∃ hs : List HN, s.1 = hs.map HN.h ∧ hs.length = i + 1 ∧ (∀ h ∈ hs, h.Ok) ∧ hs[0]? = some H0 ∧ Gr hs)
    (fun r => ∃ hs : List HN, r = hs.map HN.h ∧ hs.length = x0.length + 1 ∧ (∀ h ∈ hs, h.Ok) ∧ hs[0]? = some H0 ∧ Gr hs) x0.length (s := ([H0.h], 0))
    ⟨rfl, [H0], rfl, rfl, fun h hh => by obtain rfl := List.mem_singleton.1 hh; exact H0_ok, rfl, fun i h hi h0 => by
      rw [List.getElem?_eq_none (by simp; omega)] at hi; cases hi⟩
    (fun i hi s ih => by
      obtain ⟨s1, s2⟩ := s
      obtain ⟨e2, hs, e1, h1, h2, h3, h4⟩ := ih
      simp only at e1 e2
      subst e1 e2
      have hm := getD_mem (l := x0) (d := 0) hi
      obtain ⟨y, hy, y0, y1⟩ := number_eq (x := x0.getD i 0) (n := ((hs.map HN.h).length : Int)) (hx _ hm) (by simp; omega) (by simp; omega)
      obtain ⟨z, hz, z0, z1⟩ := number_eq (x := IntKind.i64.wrap (Int.tdiv (x0.getD i 0) 64)) (n := 30) (wrap_in _ _) (by omega) (by omega)
      obtain ⟨u, hu, u0, u1⟩ := number_eq (x := IntKind.i64.wrap (Int.tdiv (x0.getD i 0) 2048)) (n := 4) (wrap_in _ _) (by omega) (by omega)
      have hyl : y.toNat < hs.length := by simp at y1; omega
      obtain ⟨g, hg⟩ : ∃ g, hs[y.toNat]? = some g := ⟨_, List.getElem?_eq_getElem hyl⟩
      have go := h2 g (List.mem_of_getElem? hg)
      obtain ⟨h, ho, hp, hh⟩ := mk_head (i : Int) (g.h.Time + IntKind.u32.wrap z) (IntKind.i64.wrap (1 + u)) (hid g) (hid_len g)
      simp only [sargassolaw11_grown.s0, Int.toNat_natCast]
      rw [if_pos (by omega), if_pos (by omega), hy, Option.bind_some, if_pos ⟨y0, y1⟩, map_get hg, hidr_eq go, Option.bind_some, hz, Option.bind_some, hu, Option.bind_some, if_pos (by simp; omega), winc i (by omega), ← hh]
      exact ⟨_, rfl, rfl, hs ++ [h], by simp, by simp; omega, fun x hx => by
        rcases List.mem_append.1 hx with hx | hx
        · exact h2 x hx
        · obtain rfl := List.mem_singleton.1 hx; exact ho, by rw [List.getElem?_append_left (by omega)]; exact h3, h4.snoc hg hp⟩)
    (fun s ih => by
      obtain ⟨s1, s2⟩ := s
      obtain ⟨e2, hs, e1, h1⟩ := ih
      simp only at e1 e2
      subst e1 e2
      simp only [sargassolaw11_grown.s0]
      rw [if_neg (by omega)]
      exact ⟨_, rfl, hs, rfl, h1⟩)
  rw [hr, Option.bind_some]
  exact ⟨hs, rfl, h1, h2, h3, h4⟩
theorem add_one {t : treeTree} {hs : List HN} {i : Nat} {h : HN} (hg : Gr hs) (hi : hs[i]? = some h) (h0 : 0 < i) (o : h.Ok) (ht : TOk t i) (hN : i < 4000) (hk : ∀ j g, j < i → hs[j]? = some g → (mget t.m (hid g)).isSome = true) :
    ∃ e t', tree_Tree_Add.f t h.h = some (e, t') ∧ TOk t' (i + 1) ∧ t'.start = t.start ∧ ∀ j g, j < i + 1 → hs[j]? = some g → (mget t'.m (hid g)).isSome = true := by
  obtain ⟨j, g, hj, hjg, hp⟩ := hg i h hi h0
  have hpk := hk j g hj hjg
  cases hx : mget t.m (hid h) with
  | some nd =>
    refine ⟨_, t, add_known o (by rw [hx]; rfl), ht.mono (by omega), rfl, fun k y hk' hy => ?_⟩
    rcases Nat.lt_or_ge k i with h1 | h1
    · exact hk k y h1 hy
    · have : k = i := by omega
      subst this
      rw [hi] at hy; cases hy
      rw [hx]; rfl
  | none =>
    obtain ⟨p, hpp⟩ := Option.isSome_iff_exists.1 hpk
    rw [← hp] at hpp
    refine ⟨_, _, add_new hN ht o hx hpp, tgrow_ok hN ht (hid_len h) hx hpp, rfl, fun k y hk' hy => ?_⟩
    rcases Nat.lt_or_ge k i with h1 | h1
    · exact tgrow_old hx hpp (hk k y h1 hy)
    · have : k = i := by omega
      subst this
      rw [hi] at hy; cases hy
      exact tgrow_new hx hpp
end Go.Proofs.YtdngkgkkblfcjaaDoor.T
namespace Go.Proofs.YtdngkgkkblfcjaaDoor.T
open Go Go.Proofs Go.Proofs.YtdngkgkkblfcjaaDoor.K
set_option linter.unusedVariables false
theorem ways_adds {hs : List HN} (hg : Gr hs) (ho : ∀ h ∈ hs, h.Ok) (h0 : hs[0]? = some H0) (hl : hs.length ≤ 61) : ∃ t : treeTree, loopO (sargassolaw11_TreeWays.s0 (hs.map HN.h)) (1, (tnew H0).m, (tnew H0).start) = some (t.m, t.start) ∧ TOk t hs.length ∧ ∀ (j : Nat) (g : HN), hs[j]? = some g → (mget t.m (hid g)).isSome = true := by
  have hpos : 0 < hs.length := (List.getElem?_eq_some_iff.1 h0).1
  obtain ⟨r, hr, h1, h2⟩ := loop_exists2 (step := sargassolaw11_TreeWays.s0 (hs.map HN.h)) (fun i s => s.1 = ((i + 1 : Nat) : Int) ∧ TOk ⟨s.2.1, s.2.2⟩ (i + 1) ∧ ∀ (j : Nat) (g : HN), j < i + 1 → hs[j]? = some g → (mget s.2.1 (hid g)).isSome = true)
    (fun r => TOk ⟨r.1, r.2⟩ hs.length ∧ ∀ (j : Nat) (g : HN), hs[j]? = some g → (mget r.1 (hid g)).isSome = true) (hs.length - 1) (s := (1, (tnew H0).m, (tnew H0).start))
    ⟨rfl, tnew_ok H0, fun j g hj hjg => by
      have : j = 0 := by omega
      subst this
      rw [h0] at hjg; cases hjg
      simp [tnew, mget]⟩
    (fun i hi s ih => by
      obtain ⟨s1, s2, s3⟩ := s
      obtain ⟨e1, ht, hk⟩ := ih
      simp only at e1 ht hk
      subst e1
      obtain ⟨h, hh⟩ : ∃ h, hs[i + 1]? = some h := ⟨_, List.getElem?_eq_getElem (by omega)⟩
      obtain ⟨e, t', e1, e2, e3, e4⟩ := add_one hg hh (by omega) (ho h (List.mem_of_getElem? hh)) ht (by omega) hk
      simp only [sargassolaw11_TreeWays.s0, Int.toNat_natCast, List.length_map]
      rw [if_pos (by omega), if_pos (by omega), map_get hh, e1, Option.bind_some, winc (i + 1) (by omega)]
      exact ⟨_, rfl, rfl, e2, e4⟩)
    (fun s ih => by
      obtain ⟨s1, s2, s3⟩ := s
      obtain ⟨e1, ht, hk⟩ := ih
      simp only at e1 ht hk
      subst e1
      simp only [sargassolaw11_TreeWays.s0, List.length_map]
      rw [if_neg (by omega)]
      exact ⟨_, rfl, ht.mono (by omega), fun j g hj => hk j g (by have := (List.getElem?_eq_some_iff.1 hj).1; omega) hj⟩)
  exact ⟨⟨r.1, r.2⟩, hr, h1, h2⟩
theorem number_at {hs : List HN} {x : Int} (hx : InR .i64 x) (h0 : 0 < hs.length) (hl : hs.length ≤ 1000) : ∃ (y : Int) (g : HN), sargassoworld_Number.f x ((hs.map HN.h).length : Int) = some y ∧ (0 ≤ y ∧ y < ((hs.map HN.h).length : Int)) ∧ hs[y.toNat]? = some g := by
  obtain ⟨y, hy, y0, y1⟩ := number_eq (x := x) (n := ((hs.map HN.h).length : Int)) hx (by simp; omega) (by simp; omega)
  have hyl : y.toNat < hs.length := by simp at y1; omega
  exact ⟨y, _, hy, ⟨y0, y1⟩, List.getElem?_eq_getElem hyl⟩
theorem ways_back {t1 : TM} {t2 : List Int} {c a b : List Int} {la lb : List (List Int)} (hd : Dn t1 la a c) (hk : ∀ z ∈ la, z.length = 32) (hl : la.length ≤ 1000) (hc : c.length = 32)
    (he : loopO (sargassolaw11_TreeWays.s2 true t1 t2 b (la, lb.reverse, true)) (0, c) = some (.inr true)) :
    loopO (sargassolaw11_TreeWays.s1 true t1 t2 b (la, lb.reverse, true) (lb, la.reverse, true) (c, true)) (0, a) = some true := by
  obtain ⟨h1, h2⟩ := dn_at la a hd
  refine loop_run (step := sargassolaw11_TreeWays.s1 true t1 t2 b (la, lb.reverse, true) (lb, la.reverse, true) (c, true)) (fun i => ((i : Int), (la ++ [c]).getD i [])) la.length (by rw [h1]; rfl) (fun i hi => ?_) ?_
  · obtain ⟨nd, hn, hp⟩ := h2 i hi
    have e1 : (la ++ [c]).getD i [] = la.getD i [] := by simp [List.getD, List.getElem?_append_left hi]
    have h32 : (la.getD i []).length = 32 := hk _ (getD_mem hi)
    have e2 : la.reverse.getD (la.length - 1 - i) [] = la.getD i [] := by
      simp only [List.getD]
      rw [List.getElem?_reverse (by omega)]
      congr 2
      omega
    have e3 : ((la.length : Int) - 1 - i).toNat = la.length - 1 - i := by omega
    simp only [sargassolaw11_TreeWays.s1, Int.toNat_natCast, List.length_reverse]
    rw [if_pos (by omega), thead_eq (t := ⟨t1, t2⟩) hn, Option.bind_some]
    simp only [if_pos]
    rw [e1, if_pos (by omega), samehash_eq _ _ h32 h32, decide_eq_true rfl, Option.bind_some, if_pos rfl, w64 (x := (la.length : Int) - 1) (by omega) (by omega), w64 (by omega) (by omega), if_pos (by omega), e3, e2, samehash_eq _ _ h32 h32, decide_eq_true rfl, Option.bind_some, Option.bind_some, if_neg (by decide), winc i (by omega), hp]
  · simp only [sargassolaw11_TreeWays.s1, List.length_reverse]
    have e1 : (la ++ [c]).getD la.length [] = c := by simp [List.getD]
    rw [if_neg (by omega), e1, samehash_eq _ _ hc hc, decide_eq_true rfl, Option.bind_some, if_pos rfl, he]
theorem ways_on {t1 : TM} {t2 : List Int} {c b : List Int} {la lb : List (List Int)} (hd : Dn t1 lb b c) (hk : ∀ z ∈ lb, z.length = 32) (hl : lb.length ≤ 1000) (hc : c.length = 32) (hb : b.length = 32) :
    loopO (sargassolaw11_TreeWays.s2 true t1 t2 b (la, lb.reverse, true)) (0, c) = some (.inr true) := by
  obtain ⟨h1, h2⟩ := dn_at lb b hd
  have e0 : (lb ++ [c]).getD lb.length [] = c := by simp [List.getD]
  refine loop_run (step := sargassolaw11_TreeWays.s2 true t1 t2 b (la, lb.reverse, true)) (fun i => ((i : Int), (lb ++ [c]).getD (lb.length - i) [])) lb.length (by simp) (fun i hi => ?_) ?_
  · obtain ⟨nd, hn, hp⟩ := h2 (lb.length - 1 - i) (by omega)
    have e1 : (lb ++ [c]).getD (lb.length - 1 - i) [] = lb.getD (lb.length - 1 - i) [] := by simp [List.getD, List.getElem?_append_left (show lb.length - 1 - i < lb.length by omega)]
    have h32 : ∀ j, j ≤ lb.length → ((lb ++ [c]).getD j []).length = 32 := fun j hj => by
      rcases Nat.lt_or_ge j lb.length with h | h
      · rw [show (lb ++ [c]).getD j [] = lb.getD j [] by simp [List.getD, List.getElem?_append_left h]]
        exact hk _ (getD_mem h)
      · have : j = lb.length := by omega
        rw [this, e0]; exact hc
    have e2 : lb.reverse.getD i [] = (lb ++ [c]).getD (lb.length - 1 - i) [] := by
      rw [e1]
      simp only [List.getD]
      rw [List.getElem?_reverse hi]
    have e3 : lb.length - 1 - i + 1 = lb.length - i := by omega
    rw [e3] at hp
    have e4 : lb.length - (i + 1) = lb.length - 1 - i := by omega
    simp only [sargassolaw11_TreeWays.s2, Int.toNat_natCast, List.length_reverse]
    rw [if_pos (by omega), if_pos (by omega), e2, thead_eq (t := ⟨t1, t2⟩) hn, Option.bind_some]
    simp only [if_pos]
    rw [hp, samehash_eq _ _ (h32 _ (by omega)) (h32 _ (by omega)), decide_eq_true rfl, Option.bind_some, Option.bind_some, if_neg (by decide), winc i (by omega), e4]
  · simp only [sargassolaw11_TreeWays.s2, List.length_reverse]
    rw [if_neg (by omega), Nat.sub_self, h1]
    simp only [if_pos]
    rw [samehash_eq _ _ hb hb, decide_eq_true rfl, Option.bind_some, Option.bind_some]
theorem sargassolaw11_TreeWays.m (μ : Store) (x0 : List Int) (u0 : Value) (h0 : Slc (RI .i64) 1 μ u0 x0) (x1 : Int) (h1 : InR .i64 x1) (x2 : Int) (h2 : InR .i64 x2) : sargassolaw11_TreeWays.f x0 x1 x2 = some true := by
  simp only [sargassolaw11_TreeWays.f]
  rw [first11, Option.bind_some, if_pos rfl]
  by_cases c : 60 < (x0.length : Int)
  · rw [if_pos c]
  rw [if_neg c]
  obtain ⟨hs, eg, hl, ho, hz, hg⟩ := grown_eq x0 (slc_ints h0) (by omega)
  rw [eg, Option.bind_some, if_pos (by simp; omega), show (0 : Int).toNat = 0 from rfl, map_get hz, tnew_eq H0_ok, Option.bind_some]
  obtain ⟨t, et, tk, hk⟩ := ways_adds hg ho hz (by omega)
  rw [et, Option.bind_some]
  obtain ⟨y, ga, ey, yb, ya⟩ := number_at (hs := hs) h1 (by omega) (by omega)
  obtain ⟨z, gb, ez, zb, za⟩ := number_at (hs := hs) h2 (by omega) (by omega)
  have oa := ho ga (List.mem_of_getElem? ya)
  have ob := ho gb (List.mem_of_getElem? za)
  obtain ⟨na, hna⟩ := Option.isSome_iff_exists.1 (hk _ _ ya)
  obtain ⟨nb, hnb⟩ := Option.isSome_iff_exists.1 (hk _ _ za)
  have la0 := (tk.tin _ _ hna).1
  have lb0 := (tk.tin _ _ hnb).1
  obtain ⟨cc, la, lb, nc, hc, d1, d2, c1, c2⟩ := com_all tk.tin tk.one (na.height + nb.height).toNat (hid ga) (hid gb) na nb hna hnb (by omega)
  have ha := dn_height hc la _ na hna d1
  have hb := dn_height hc lb _ nb hnb d2
  have hc0 := (tk.tin _ _ hc).1
  have ba := (tk.bnd _ _ hna).1
  have bb := (tk.bnd _ _ hnb).1
  have e1 := tpath_eq hna hnb hc d1 d2 c1 (by omega) (by omega)
  have e2 := tpath_eq hnb hna hc d2 d1 c2 (by omega) (by omega)
  have e3 := tcommon_eq hna hnb c1
  obtain ⟨t1, t2⟩ := t
  rw [ey, Option.bind_some, if_pos yb, map_get ya, hidr_eq oa, Option.bind_some, ez, Option.bind_some, if_pos zb, map_get za, hidr_eq ob, Option.bind_some, e1, Option.bind_some, e2, Option.bind_some, e3, Option.bind_some]
  simp only [if_pos, List.length_reverse]
  rw [if_neg (fun h => h rfl), Option.bind_some, if_neg (by simp)]
  have kk : ∀ (l : List (List Int)) (x : List Int), Dn t1 l x cc → ∀ z ∈ l, z.length = 32 := fun l x hd z hz => by
    obtain ⟨nd, hnd⟩ := dn_key l x hd z hz
    exact tk.k32 z nd hnd
  have hcl := tk.k32 _ _ hc
  exact ways_back d1 (kk _ _ d1) (by omega) hcl (ways_on d2 (kk _ _ d2) (by omega) hcl (hid_len gb))
end Go.Proofs.YtdngkgkkblfcjaaDoor.T
namespace Go.Proofs.YtdngkgkkblfcjaaDoor.K
open Go Go.Proofs Go.ChangeShapes Go.WideShapes Go.RowKit
def mem (w : World) : Store := fun k => w.heap[k]?
theorem agr_mem (w : World) : Agr (mem w) w := fun _ _ h => h
theorem mem_cell {w : World} {g i : Nat} {v : Value} (h : w.cell? ⟨g, i, none⟩ = some v) : (mem w).cell g i = some v := by
  unfold World.cell? at h
  unfold Store.cell mem
  cases hm : w.heap[g]? with
  | none => simp [hm] at h
  | some o => cases o <;> simp_all
theorem wf_in {k : IntKind} {n : Int} (h : (Lit.int k n).wf = true) : InR k n := by
  cases k <;> simp [Lit.wf, IntKind.min, IntKind.max, IntKind.signed, IntKind.bits] at h <;> simp [InR] <;> omega
section
variable {H : Type} {enc : TypeId × Value → H} {P : Program} {w : World} {base : Nat} {spare : Nat → Bool} {held : Bool} {t e : TypeId}
def Rd (enc : TypeId × Value → H) (P : Program) (w : World) (base : Nat) (spare : Nat → Bool) (held : Bool) (t : TypeId) (R : List Value → Prop) : Prop :=
  ∀ fuel cs x, DataW.trod enc P w base spare held fuel t cs = some x → R cs
theorem rd_int {k : IntKind} (ht : P.underlying t = some (.int k)) : Rd enc P w base spare held t (fun c => ∃ n, RI k n c) := by
  intro fuel cs x h
  obtain ⟨n, rfl, _, hw⟩ := DataW.trod_int ht h
  exact ⟨n, rfl, wf_in hw⟩
theorem els_of {α : Type} {RE : α → List Value → Prop} {sz : Nat} : ∀ {n : Nat} {Q : Nat → Value → Prop}, (∀ i, i < n → ∃ x c, RE x c ∧ c.length = sz ∧ ∀ j v, c[j]? = some v → Q (i * sz + j) v) →
    ∃ xs cs, xs.length = n ∧ Els RE sz xs cs ∧ ∀ j v, cs[j]? = some v → Q j v
  | 0, _, _ => ⟨[], [], rfl, .nil, fun j v h => by simp at h⟩
  | n + 1, Q, f => by
    obtain ⟨x, c, h1, h2, h3⟩ := f 0 (by omega)
    obtain ⟨xs, cs, e1, e2, e3⟩ := els_of (n := n) (Q := fun m v => Q (sz + m) v) (fun i hi => by
      obtain ⟨x, c, h1, h2, h3⟩ := f (i + 1) (by omega)
      refine ⟨x, c, h1, h2, fun j v hj => ?_⟩
      have := h3 j v hj
      rwa [Nat.add_mul, Nat.one_mul, Nat.add_comm (i * sz), Nat.add_assoc] at this)
    refine ⟨x :: xs, c ++ cs, by simp [e1], .cons h1 h2 e2, fun j v hj => ?_⟩
    rcases Nat.lt_or_ge j c.length with h | h
    · rw [List.getElem?_append_left h] at hj
      simpa using h3 j v hj
    · rw [List.getElem?_append_right h] at hj
      have := e3 _ _ hj
      rwa [h2, Nat.add_sub_cancel' (by omega)] at this
theorem rd_slice {α : Type} {RE : α → List Value → Prop} {sz : Nat} (ht : P.underlying t = some (.slice e)) (hc : P.cellsOf e = sz) (h0 : 0 < sz) (hr : Rd enc P w base spare held e (fun c => ∃ x, RE x c)) :
    Rd enc P w base spare held t (fun c => ∃ v xs, c = [v] ∧ Slc RE sz (mem w) v xs) := by
  intro fuel cs x h
  rcases DataW.trod_slice ht h with ⟨rfl, _⟩ | ⟨a, len, cap, elems, rest, n, _, rfl, _, _, hl, hm, hlen, hel, _, _⟩
  · exact ⟨_, [], rfl, [], .nil, none, 0, rfl, Nat.le_refl _, Nat.zero_le _, fun h => absurd rfl h, fun h => absurd rfl h⟩
  have each0 : ∀ i, i < len → ∃ x c, RE x c ∧ c.length = sz ∧ ∀ j, j < sz → w.cell? ((a.add (i * sz)).add j) = c[j]? := by
    intro i hi
    have h1 := hel i hi
    rw [List.getElem?_eq_getElem (by omega), hc] at h1
    obtain ⟨c, hc1, hc2⟩ := Option.bind_eq_some_iff.1 h1
    obtain ⟨_, l1, l2⟩ := World.cells?_some hc1
    obtain ⟨x, hx⟩ := hr _ _ _ hc2
    exact ⟨x, c, hx, l1, l2⟩
  have hs : 0 < len → a.spot = none := by
    intro hp
    obtain ⟨x, c, _, l1, l2⟩ := each0 0 hp
    have h2 := (l2 0 h0).trans (List.getElem?_eq_getElem (by omega))
    simpa [Addr.add] using World.cell?_spot h2
  obtain ⟨b, off, spot⟩ := a
  simp only at hs
  have each : ∀ i, i < len → ∃ x c, RE x c ∧ c.length = sz ∧ ∀ j v, c[j]? = some v → (fun m v => w.cell? ⟨b, off + m, none⟩ = some v) (i * sz + j) v := by
    intro i hi
    obtain ⟨x, c, hx, l1, l2⟩ := each0 i hi
    refine ⟨x, c, hx, l1, fun j v hj => ?_⟩
    have hjl : j < sz := by
      have := (List.getElem?_eq_some_iff.1 hj).1
      omega
    have h2 := (l2 j hjl).trans hj
    rw [hs (by omega), add_plain, add_plain] at h2
    simpa [Nat.add_assoc] using h2
  obtain ⟨xs, cs, e1, e2, e3⟩ := els_of (RE := RE) (sz := sz) (Q := fun m v => w.cell? ⟨b, off + m, none⟩ = some v) each
  refine ⟨_, xs, rfl, cs, e2, some ⟨b, off, spot⟩, cap, by rw [e1], by omega, hm, fun hn => by rw [hs (by omega)]; rfl, fun hn j v hj => mem_cell (e3 j v hj)⟩
theorem rd_at {R : List Value → Prop} {v : Value} {d : DataW H} {ps : List MemPlace} (hr : Rd enc P w base spare held t R) (h : DataW.Trod enc P w base spare held t v d ps) : R v.cells.toList := by
  obtain ⟨fuel, hf⟩ := h
  exact hr _ _ _ hf
theorem at_slice {α : Type} {RE : α → List Value → Prop} {sz : Nat} {r : Reach} {b0 : Nat} {v : Value} {d : DataW H} {ps : List MemPlace} (ht : P.underlying t = some (.slice e)) (hval : Value.okWide P w r b0 t v)
    (hr : Rd enc P w base spare held t (fun c => ∃ v xs, c = [v] ∧ Slc RE sz (mem w) v xs)) (h : DataW.Trod enc P w base spare held t v d ps) : ∃ xs, Slc RE sz (mem w) v xs := by
  obtain ⟨a, len, cap, rfl⟩ := okWide_slice ht hval
  obtain ⟨u, xs, e1, h2⟩ := rd_at hr h
  simp [Value.cells] at e1
  subst e1
  exact ⟨xs, h2⟩
theorem again {W W' : World} {v : Value} {d : DataW H} {ps : List MemPlace} (hl : laidOutB P = true) (hr : P.readableRec t = true) (hrow : t < P.types.size) (h : DataW.Trod enc P W 0 (fun _ => true) true t v d ps) (hb : Below W.heap.size W W') :
    DataW.Trod enc P W' 0 (fun b => decide (b < W.heap.size)) true t v d ps :=
  Below.trod hl hr hrow h hb (fun p hp => let ⟨n, hn⟩ := h; DataW.trod_lt n _ _ _ hn p hp)
end
end Go.Proofs.YtdngkgkkblfcjaaDoor.K
namespace Go.Proofs.YtdngkgkkblfcjaaDoor.K
open Go Go.Proofs
set_option linter.unusedVariables false
theorem laid_each {P : Program} {W : World} : ∀ {l : List (String × DataW Unit)} {ps : List MemPlace}, DataW.LaidVars P W l ps → ∀ {n : String} {d : DataW Unit}, (n, d) ∈ l →
    ∃ g t cs fuel p, P.globalNamed n = some g ∧ (P.globals[g]?).map (·.type) = some t ∧ W.var? P n = some cs ∧ DataW.trod (fun _ => ()) P W 0 (fun _ => true) false fuel t cs.toList = some (d, p) ∧ ∀ x ∈ MemPlace.row ⟨g, 0, none⟩ cs.size ++ p, x ∈ ps
  | [], ps, h, n, d, hm => by cases hm
  | (m, e) :: r, ps, h, n, d, hm => by
    obtain ⟨g, t, cs, fuel, p, q, hg, ht, hv, hd, hr, rfl⟩ := h
    rcases List.mem_cons.1 hm with e1 | hm
    · cases e1
      exact ⟨g, t, cs, fuel, p, hg, ht, hv, hd, fun x hx => List.mem_append_left _ hx⟩
    · obtain ⟨g', t', cs', fuel', p', a1, a2, a3, a4, a5⟩ := laid_each hr hm
      exact ⟨g', t', cs', fuel', p', a1, a2, a3, a4, fun x hx => List.mem_append_right _ (a5 x hx)⟩
theorem sent_of_laid {P : Program} {W : World} {laid : List (String × DataW Unit)} {code : ByteArray → Nat} {n : String} {text : List UInt8} {g : Nat} {ti tp ta te ts : TypeId} {ms : Array (String × TypeId)} {f : Field}
    (h : laidMet P laid W) (hm : (n, .iface "*errors.errorString" (.ptr (.agg [.lit (.string text)]))) ∈ laid) (hg : P.globalNamed n = some g) (ht : (P.globals[g]?).map (·.type) = some ti)
    (hi : P.underlying ti = some (.interface ms)) (hrow : ∀ u, P.typeName? 3 u = some "*errors.errorString" → u = tp) (hp : P.underlying tp = some (.pointer te)) (he : P.underlying te = some (.struct #[f])) (hft : f.type = ts) (hfo : f.offset = 0) (hs : P.underlying ts = some .string) (hc : P.cellsOf te = 1) (hcs : P.cellsOf ts = 1)
    (hcode : ∀ s : ByteArray, s.data.toList = text → code s = g + 1) : ∃ v, ErV tp ta code (mem W) (.b (g + 1)) v := by
  obtain ⟨ps, hl, hnd, hrows⟩ := h
  obtain ⟨g', t', cs, fuel, p, a1, a2, a3, a4, a5⟩ := laid_each hl hm
  obtain rfl := Option.some.inj (hg.symm.trans a1)
  obtain rfl := Option.some.inj (ht.symm.trans a2)
  obtain ⟨l⟩ := cs
  have ok : ∀ u v, l = [.iface u v] → Value.okWide P W .any 0 u v := fun u v e => by
    subst e
    exact (hrows g 0 (a5 _ (by simp [MemPlace.row]))).2 u v (by simpa using World.var?_cell hg a3 0)
  obtain ⟨a, s, rfl, hcell, hst, hz, rfl⟩ := errorString_of_trod hi hrow hp he hft hfo hs hc hcs a4 ok
  obtain ⟨c, t, hb⟩ := (hrows a.block a.off (a5 _ (by simp [MemPlace.row]))).1
  refine ⟨.iface tp (.pointer (some a)), .inr ⟨by omega, mem_cell (by simpa using World.var?_cell hg a3 0), a, s, c, t, rfl, hb, hcode s hst, fun w hw => ?_⟩⟩
  have e : w.heap[a.block]? = W.heap[a.block]? := (hw _ _ hb).trans hb.symm
  unfold World.cell? at hcell ⊢
  rw [e]
  exact hcell
end Go.Proofs.YtdngkgkkblfcjaaDoor.K
namespace Go.Proofs.YtdngkgkkblfcjaaDoor.T
open Go Go.Proofs Go.Proofs.YtdngkgkkblfcjaaDoor.K
set_option linter.unusedVariables false
set_option linter.unusedSimpArgs false
set_option maxRecDepth 100000
theorem own : ownKnob Tryd.prog.godebug = none := by kernel_rfl
noncomputable def low : Nat := (World.holding Tryd.prog default ⟨#[], #[], []⟩).heap.size
abbrev es0 : ByteArray := { data := #[116, 111, 111, 32, 109, 97, 110, 121, 44, 32, 111, 114, 32, 116, 111, 111, 32, 102, 101, 119] }
abbrev es1 : ByteArray := { data := #[116, 111, 111, 32, 108, 111, 110, 103] }
abbrev es2 : ByteArray := { data := #[111, 110, 101, 32, 116, 104, 105, 110, 103, 32, 116, 119, 105, 99, 101] }
abbrev es3 : ByteArray := { data := #[97, 32, 114, 111, 111, 116, 32, 116, 104, 97, 116, 32, 100, 111, 101, 115, 32, 110, 111, 116, 32, 102, 105, 116] }
abbrev es4 : ByteArray := { data := #[107, 110, 111, 119, 110, 32, 97, 108, 114, 101, 97, 100, 121] }
abbrev es5 : ByteArray := { data := #[110, 111, 32, 115, 117, 99, 104, 32, 112, 97, 114, 101, 110, 116] }
abbrev es6 : ByteArray := { data := #[116, 104, 101, 114, 101, 32, 105, 115, 32, 110, 111, 32, 114, 111, 111, 109] }
abbrev es7 : ByteArray := { data := #[97, 32, 110, 117, 109, 98, 101, 114, 32, 111, 117, 116, 32, 111, 102, 32, 105, 116, 115, 32, 114, 97, 110, 103, 101] }
abbrev es8 : ByteArray := { data := #[110, 111, 32, 102, 105, 114, 115, 116, 32, 116, 114, 97, 110, 115, 97, 99, 116, 105, 111, 110, 32, 119, 104, 101, 114, 101, 32, 116, 104, 101, 114, 101, 32, 104, 97, 115, 32, 116, 111, 32, 98, 101, 32, 111, 110, 101, 44, 32, 111, 114, 32, 111, 110, 101, 32, 119, 104, 101, 114, 101, 32, 116, 104, 101, 114, 101, 32, 109, 97, 121, 32, 98, 101, 32, 110, 111, 110, 101] }
abbrev es9 : ByteArray := { data := #[97, 32, 107, 101, 121, 32, 116, 104, 97, 116, 32, 100, 111, 101, 115, 32, 110, 111, 116, 32, 102, 105, 116] }
abbrev es10 : ByteArray := { data := #[97, 110, 32, 97, 109, 111, 117, 110, 116, 32, 116, 104, 97, 116, 32, 99, 97, 110, 39, 116, 32, 98, 101] }
abbrev es11 : ByteArray := { data := #[105, 116, 32, 101, 110, 100, 115, 32, 116, 111, 111, 32, 101, 97, 114, 108, 121] }
abbrev es12 : ByteArray := { data := #[110, 111, 116, 32, 97, 115, 32, 105, 116, 32, 104, 97, 115, 32, 116, 111, 32, 98, 101] }
abbrev es13 : ByteArray := { data := #[98, 101, 104, 105, 110, 100, 32, 119, 104, 97, 116, 32, 105, 115, 32, 110, 111, 116, 32, 118, 97, 108, 105, 100] }
abbrev es14 : ByteArray := { data := #[97, 32, 116, 105, 109, 101, 32, 116, 104, 97, 116, 32, 105, 115, 32, 116, 111, 111, 32, 101, 97, 114, 108, 121] }
abbrev es15 : ByteArray := { data := #[97, 32, 99, 111, 105, 110, 32, 116, 104, 97, 116, 32, 105, 115, 32, 110, 111, 116, 32, 116, 104, 101, 114, 101] }
abbrev es16 : ByteArray := { data := #[97, 32, 99, 111, 105, 110, 32, 116, 104, 97, 116, 32, 105, 115, 32, 116, 111, 111, 32, 121, 111, 117, 110, 103] }
abbrev es17 : ByteArray := { data := #[116, 111, 111, 32, 101, 97, 114, 108, 121, 32, 116, 111, 32, 98, 101, 32, 116, 97, 107, 101, 110] }
abbrev es18 : ByteArray := { data := #[108, 101, 115, 115, 32, 99, 111, 109, 101, 115, 32, 105, 110, 32, 116, 104, 97, 110, 32, 103, 111, 101, 115, 32, 111, 117, 116] }
abbrev es19 : ByteArray := { data := #[109, 111, 114, 101, 32, 116, 104, 97, 110, 32, 116, 104, 101, 32, 114, 101, 119, 97, 114, 100] }
abbrev es20 : ByteArray := { data := #[97, 32, 99, 111, 105, 110, 32, 116, 104, 97, 116, 32, 105, 115, 32, 115, 112, 101, 110, 116, 32, 105, 110, 32, 116, 104, 101, 32, 112, 111, 111, 108] }
abbrev es21 : ByteArray := { data := #[116, 111, 111, 32, 109, 97, 110, 121, 32, 116, 104, 97, 116, 32, 104, 97, 110, 103, 32, 116, 111, 103, 101, 116, 104, 101, 114] }
abbrev es22 : ByteArray := { data := #[116, 104, 101, 114, 101, 32, 105, 115, 32, 110, 111, 110, 101] }
abbrev es23 : ByteArray := { data := #[110, 111, 32, 115, 117, 99, 104, 32, 119, 111, 114, 100] }
abbrev es24 : ByteArray := { data := #[110, 111, 116, 32, 97, 32, 110, 117, 109, 98, 101, 114] }
def setC (v : Value) : Obj → Obj
  | .cells _ t frozen => .cells #[v] t frozen
  | x => x
noncomputable def laidWorld (os : Os) : World :=
  let w0 := World.holding Tryd.prog os ⟨#[.cells #[.string es0] 220, .cells #[.string es1] 220, .cells #[.string es2] 220, .cells #[.string es3] 220, .cells #[.string es4] 220, .cells #[.string es5] 220, .cells #[.string es6] 220, .cells #[.string es7] 220, .cells #[.string es8] 220, .cells #[.string es9] 220, .cells #[.string es10] 220, .cells #[.string es11] 220, .cells #[.string es12] 220, .cells #[.string es13] 220, .cells #[.string es14] 220, .cells #[.string es15] 220, .cells #[.string es16] 220, .cells #[.string es17] 220, .cells #[.string es18] 220, .cells #[.string es19] 220, .cells #[.string es20] 220, .cells #[.string es21] 220, .cells #[.string es22] 220, .cells #[.string es23] 220, .cells #[.string es24] 220], #[], []⟩
  { w0 with heap := (((((((((((((((((((((((((w0.heap.modify 0 (setC (.iface 201 (.pointer (some ⟨low + 0, 0, none⟩))))).modify 1 (setC (.iface 201 (.pointer (some ⟨low + 1, 0, none⟩))))).modify 2 (setC (.iface 201 (.pointer (some ⟨low + 2, 0, none⟩))))).modify 3 (setC (.iface 201 (.pointer (some ⟨low + 3, 0, none⟩))))).modify 4 (setC (.iface 201 (.pointer (some ⟨low + 4, 0, none⟩))))).modify 5 (setC (.iface 201 (.pointer (some ⟨low + 5, 0, none⟩))))).modify 6 (setC (.iface 201 (.pointer (some ⟨low + 6, 0, none⟩))))).modify 7 (setC (.iface 201 (.pointer (some ⟨low + 7, 0, none⟩))))).modify 8 (setC (.iface 201 (.pointer (some ⟨low + 8, 0, none⟩))))).modify 9 (setC (.iface 201 (.pointer (some ⟨low + 9, 0, none⟩))))).modify 10 (setC (.iface 201 (.pointer (some ⟨low + 10, 0, none⟩))))).modify 11 (setC (.iface 201 (.pointer (some ⟨low + 11, 0, none⟩))))).modify 12 (setC (.iface 201 (.pointer (some ⟨low + 12, 0, none⟩))))).modify 13 (setC (.iface 201 (.pointer (some ⟨low + 13, 0, none⟩))))).modify 14 (setC (.iface 201 (.pointer (some ⟨low + 14, 0, none⟩))))).modify 15 (setC (.iface 201 (.pointer (some ⟨low + 15, 0, none⟩))))).modify 16 (setC (.iface 201 (.pointer (some ⟨low + 16, 0, none⟩))))).modify 17 (setC (.iface 201 (.pointer (some ⟨low + 17, 0, none⟩))))).modify 18 (setC (.iface 201 (.pointer (some ⟨low + 18, 0, none⟩))))).modify 19 (setC (.iface 201 (.pointer (some ⟨low + 19, 0, none⟩))))).modify 20 (setC (.iface 201 (.pointer (some ⟨low + 20, 0, none⟩))))).modify 21 (setC (.iface 201 (.pointer (some ⟨low + 21, 0, none⟩))))).modify 22 (setC (.iface 201 (.pointer (some ⟨low + 22, 0, none⟩))))).modify 23 (setC (.iface 201 (.pointer (some ⟨low + 23, 0, none⟩))))).modify 24 (setC (.iface 201 (.pointer (some ⟨low + 24, 0, none⟩))))) }
theorem starE : "*" ++ "errors.errorString" = "*errors.errorString" := by decide
theorem rowE (u : TypeId) (h : Tryd.prog.typeName? 3 u = some "*errors.errorString") : u = 201 :=
  typeName_ptr_named (nm := "errors.errorString") (by rw [starE]; kernel_rfl) (by kernel_rfl) (by decide) u (by rw [starE]; exact h)
theorem ceE : Tryd.prog.cellsOf 220 = 1 := by kernel_rfl
theorem csE : Tryd.prog.cellsOf 9 = 1 := by kernel_rfl
theorem sent4 {W : World} {l : List (String × DataW Unit)} (h : laidMet Tryd.prog l W) (hm : ("sargasso/api.ErrKnown", .iface "*errors.errorString" (.ptr (.agg [.lit (.string [107, 110, 111, 119, 110, 32, 97, 108, 114, 101, 97, 100, 121])]))) ∈ l) : ∃ v, ErS (mem W) v (Er.b 5) :=
  sent_of_laid h hm (by kernel_rfl) (by kernel_rfl) Tryd.underlying47 rowE Tryd.underlying201 Tryd.underlying220 rfl rfl Tryd.underlying9 ceE csE (fun s hs => by unfold errCode; rw [hs]; kernel_rfl)
theorem sent5 {W : World} {l : List (String × DataW Unit)} (h : laidMet Tryd.prog l W) (hm : ("sargasso/api.ErrParent", .iface "*errors.errorString" (.ptr (.agg [.lit (.string [110, 111, 32, 115, 117, 99, 104, 32, 112, 97, 114, 101, 110, 116])]))) ∈ l) : ∃ v, ErS (mem W) v (Er.b 6) :=
  sent_of_laid h hm (by kernel_rfl) (by kernel_rfl) Tryd.underlying47 rowE Tryd.underlying201 Tryd.underlying220 rfl rfl Tryd.underlying9 ceE csE (fun s hs => by unfold errCode; rw [hs]; kernel_rfl)
theorem sent6 {W : World} {l : List (String × DataW Unit)} (h : laidMet Tryd.prog l W) (hm : ("sargasso/api.ErrFull", .iface "*errors.errorString" (.ptr (.agg [.lit (.string [116, 104, 101, 114, 101, 32, 105, 115, 32, 110, 111, 32, 114, 111, 111, 109])]))) ∈ l) : ∃ v, ErS (mem W) v (Er.b 7) :=
  sent_of_laid h hm (by kernel_rfl) (by kernel_rfl) Tryd.underlying47 rowE Tryd.underlying201 Tryd.underlying220 rfl rfl Tryd.underlying9 ceE csE (fun s hs => by unfold errCode; rw [hs]; kernel_rfl)
end Go.Proofs.YtdngkgkkblfcjaaDoor.T
namespace Go.Proofs.YtdngkgkkblfcjaaDoor.T
open Go Go.Proofs Go.Proofs.YtdngkgkkblfcjaaDoor.K
set_option linter.unusedVariables false
set_option linter.unusedSimpArgs false
theorem laid : laidOutB Tryd.prog = true := by kernel_rfl
theorem cl3 : Tryd.prog.cellsOf 3 = 1 := by kernel_rfl
theorem rr3 : Tryd.prog.readableRec 3 = true := by kernel_rfl
theorem tr3 : 3 < Tryd.prog.types.size := of_decide_eq_true (by kernel_rfl)
theorem rr55 : Tryd.prog.readableRec 55 = true := by kernel_rfl
theorem tr55 : 55 < Tryd.prog.types.size := of_decide_eq_true (by kernel_rfl)
section
variable {H : Type} {enc : TypeId × Value → H} {w : World} {base : Nat} {spare : Nat → Bool} {held : Bool}
theorem rd3 : Rd enc Tryd.prog w base spare held 3 (fun c => ∃ n, RI .i64 n c) := rd_int Tryd.underlying3
theorem rd55 : Rd enc Tryd.prog w base spare held 55 (fun c => ∃ v xs, c = [v] ∧ Slc (RI .i64) 1 (mem w) v xs) := rd_slice Tryd.underlying55 cl3 (by decide) rd3
end
end Go.Proofs.YtdngkgkkblfcjaaDoor.T
namespace Go.Proofs.YtdngkgkkblfcjaaDoor.J
open Go Go.Proofs
theorem words_cons : ∀ (w r : List Char), w.all (· != ' ') = true → wordsSigns (w ++ ' ' :: r) = w :: wordsSigns r
  | [], r, _ => rfl
  | c :: w, r, h => by
    simp only [List.all_cons, Bool.and_eq_true, bne_iff_ne, ne_eq] at h
    have ih := words_cons w r h.2
    rw [List.cons_append, wordsSigns, ih]
    exact fun e => h.1 e
set_option maxRecDepth 100000
def w0 : List Char := ['h', 'a', 'r', 'n', 'e', 's', 's']
def w1 : List Char := ['d', '8', '8', '9', 'a', 'b', '0', '1', '8', '0', 'b', '3', '5', 'f', '7', 'd', 'f', 'd', 'f', 'b', '2', 'b', 'f', '9', 'e', '4', '3', '8', 'b', 'f', '8', '0', '7', 'b', 'f', '1', '6', 'e', '9', 'b', 'f', '6', '6', '4', '3', '8', '1', '4', '2', 'a', 'a', '2', '7', '7', '0', 'c', '9', 'f', '7', 'a', '0', 'a', 'b', '8']
def w2 : List Char := ['c', 'u', 't']
def w3 : List Char := ['a', 't', ' ', 's', 'a', 'r', 'g', 'a', 's', 's', 'o', '/', 's', 'a', 'r', 'g', 'a', 's', 's', 'o', 'l', 'a', 'w', '7', '.', 'B', 'l', 'o', 'c', 'k', 'K', 'i', 'n', 'd', 's', ' ', 's', 'a', 'r', 'g', 'a', 's', 's', 'o', '/', 's', 'a', 'r', 'g', 'a', 's', 's', 'o', 'l', 'a', 'w', '1', '1', '.', 'T', 'r', 'e', 'e', 'W', 'a', 'y', 's', ' ', 's', 'a', 'r', 'g', 'a', 's', 's', 'o', '/', 's', 'a', 'r', 'g', 'a', 's', 's', 'o', 'l', 'a', 'w', '1', '3', '.', 'B', 'e', 's', 't', 'O', 'v', 'e', 'r', ' ', 's', 'a', 'r', 'g', 'a', 's', 's', 'o', '/', 's', 'a', 'r', 'g', 'a', 's', 's', 'o', 'l', 'a', 'w', '1', '3', '.', 'B', 'e', 's', 't', 'G', 'o', 'e', 's']
theorem io0 : Tryd.prog.initOrder = String.ofList (w0 ++ ' ' :: (w1 ++ ' ' :: (w2 ++ ' ' :: w3))) := by kernel_rfl
theorem io : Tryd.prog.initOrder.toList = w0 ++ ' ' :: (w1 ++ ' ' :: (w2 ++ ' ' :: w3)) := (congrArg String.toList io0).trans String.toList_ofList
theorem ws : wordsSigns Tryd.prog.initOrder.toList = w0 :: w1 :: w2 :: wordsSigns w3 := by
  rw [io, words_cons _ _ (by kernel_rfl), words_cons _ _ (by kernel_rfl), words_cons _ _ (by kernel_rfl)]
theorem bm (R : List (List Char)) : behindMainWord (w0 :: w1 :: w2 :: R) = w2 :: R := by kernel_rfl
theorem main_of {P : Program} {R : List (List Char)} (h : wordsSigns P.initOrder.toList = w0 :: w1 :: R) : P.mainIs = some (true, w1) := by
  unfold Program.mainIs
  rw [h]
  kernel_rfl
theorem mainIs : Tryd.prog.mainIs = some (true, w1) := main_of ws
theorem bw : behindMainWord (wordsSigns Tryd.prog.initOrder.toList) = w2 :: wordsSigns w3 := by rw [ws, bm]
theorem st (R : List (List Char)) : stripLifts liftWords (w2 :: R) = ([], w2 :: R) := by kernel_rfl
theorem make_of {P : Program} {R : List (List Char)} (h : behindMainWord (wordsSigns P.initOrder.toList) = w2 :: R) : P.make = some .cut := by
  unfold Program.make
  rw [h]
  kernel_rfl
theorem head_of {P : Program} {R : List (List Char)} (h : behindMainWord (wordsSigns P.initOrder.toList) = w2 :: R) : P.headLifts = [] := by
  unfold Program.headLifts
  rw [h, st]
  kernel_rfl
theorem lifts_of {P : Program} {R : List (List Char)} (h : behindMainWord (wordsSigns P.initOrder.toList) = w2 :: R) : P.liftsFinal = false := by
  unfold Program.liftsFinal
  rw [h, head_of h]
  kernel_rfl
theorem may_of {P : Program} {R : List (List Char)} (h : behindMainWord (wordsSigns P.initOrder.toList) = w2 :: R) (h1 : P.laysLater = false) (h2 : P.bearsReflect = false) (h3 : P.doorFits [] = true) : P.mayEnter = true := by
  unfold Program.mayEnter
  rw [h]
  simp only [st, h1, h2, h3]
  kernel_rfl
theorem later : Tryd.prog.laysLater = false := by kernel_rfl
theorem reflect : Tryd.prog.bearsReflect = false := by kernel_rfl
theorem door : Tryd.prog.doorFits [] = true := by kernel_rfl
theorem make : Tryd.prog.make = some .cut := make_of bw
theorem lifts : Tryd.prog.liftsFinal = false := lifts_of bw
theorem may : Tryd.prog.mayEnter = true := may_of bw later reflect door
end Go.Proofs.YtdngkgkkblfcjaaDoor.J
namespace Go.Proofs.YtdngkgkkblfcjaaDoor.zTreeWays
open Go Go.Proofs Go.Proofs.YtdngkgkkblfcjaaDoor.K Go.Proofs.YtdngkgkkblfcjaaDoor.T
open Go.ChangeShapes Go.WideShapes Go.ChangeAt Go.RowKit
set_option linter.unusedVariables false
theorem met (os : Os) (args : Array Value) : laidMetH Tryd.prog Rows.treeWaysRow.laid ((laidWorld os).forCall (fun _ _ => 0) ⟨#[], args, []⟩).memory :=
  laidMetH_of_parts (laidMet_of_run' 8 (by kernel_rfl) (by kernel_rfl)) (by kernel_rfl)
set_option maxRecDepth 100000 in
theorem lifted (os : Os) (started : os.Started) (H : Type) (enc : TypeId × Value → H) :
    ReturnsInHanded {} Tryd.checked os 4 .any (fun w args => (Rows.treeWaysSpec.pre enc Tryd.prog Tryd.f4 [] false w args ∧ laidMetH Tryd.prog Rows.treeWaysRow.laid w) ∧ sizedMet enc Tryd.prog Tryd.f4 (OpenSpec.ofChange Rows.treeWaysSpec) false w args) (Rows.treeWaysSpec.post enc Tryd.prog Tryd.f4 false true false false) := by
  refine returnsInHanded_of_change_and (C := Tryd.checked) (X := fun w _ => laidMetH Tryd.prog Rows.treeWaysRow.laid w) (fun _ _ _ hh h => h.of_heap hh) own started (by kernel_rfl) Tryd.func4
    (ChangeSpec.witness_at (enc := enc) (C := Tryd.checked) (os := os) (X := fun w _ => laidMetH Tryd.prog Rows.treeWaysRow.laid w) false (laidWorld os) #[.slice none 0 0, .int .i64 0, .int .i64 0] 8 rfl (by kernel_rfl) (by kernel_rfl) (by kernel_rfl) (by kernel_rfl) (by kernel_rfl) (met os _)) ?_
  intro W base args ds gs before hval0 hW hcnd hsz0 hL _
  have hL : laidMet Tryd.prog Rows.treeWaysRow.laid W := hL
  obtain ⟨e4, he4⟩ := sent4 hL (List.mem_of_getElem? (i := 0) rfl)
  obtain ⟨e5, he5⟩ := sent5 hL (List.mem_of_getElem? (i := 1) rfl)
  obtain ⟨e6, he6⟩ := sent6 hL (List.mem_of_getElem? (i := 2) rfl)
  have hW' := hW
  obtain ⟨p, q, hA0, hV, rfl, hfz, hnd⟩ := hW
  have hA : DataW.TrodAll enc Tryd.prog W 0 (fun _ => true) true Tryd.f4.params.toList args.toList ds p := hA0
  have hval : ∀ (j : Nat) t v, Tryd.f4.params[j]? = some t → args[j]? = some v → Value.okWide Tryd.prog W .any base t v := hval0
  rw [Tryd.params4] at hA hval
  obtain ⟨v0, vs0, d0, ds0, p0, q0, hargs, rfl, rfl, h0, r0⟩ := trodAll_cons hA
  obtain ⟨v1, vs1, d1, ds1, p1, q1, rfl, rfl, rfl, h1, r1⟩ := trodAll_cons r0
  obtain ⟨v2, vs2, d2, ds2, p2, q2, rfl, rfl, rfl, h2, r2⟩ := trodAll_cons r1
  obtain ⟨rfl, rfl, rfl⟩ := trodAll_nil r2
  obtain rfl : args = #[v0, v1, v2] := by cases args; simp_all
  obtain ⟨rfl, rfl⟩ := trodVars_none hV
  obtain ⟨x0, w0⟩ := at_slice Tryd.underlying55 (hval 0 55 v0 rfl rfl) rd55 h0
  obtain ⟨x1, rfl, _, _, w1⟩ := open_int Tryd.underlying3 (hval 1 3 v1 rfl rfl) h1
  obtain ⟨x2, rfl, _, _, w2⟩ := open_int Tryd.underlying3 (hval 2 3 v2 rfl rfl) h2
  have hμ : Agr (mem W) W := agr_mem W
  have hm := sargassolaw11_TreeWays.m (mem W) x0 v0 w0 x1 (wf_in w1) x2 (wf_in w2)
  refine (sargassolaw11_TreeWays.c (mem W) W hμ x0 v0 w0 x1 (wf_in w1) x2 (wf_in w2) e4 he4 e5 he5 e6 he6 true hm).mono fun e W' ⟨v, he, hv, _, hI⟩ => ?_
  subst hv
  subst he
  have bel : Below W.heap.size W W' := hI.below
  exact ⟨_, rfl, _, _, _, [], _, [], hW', trodAll_mk1 (shut_bool Tryd.underlying4 _), (trodAll_cons_mk (again laid rr55 tr55 h0 bel) (trodAll_cons_mk (again laid rr3 tr3 h1 bel) (trodAll_cons_mk (again laid rr3 tr3 h2 bel) trodAll_mk0))), rfl, bel.frame _, fun h => by cases h⟩
theorem closed : joinedFacts Tryd.prog 4 Tryd.f4 Rows.treeWaysSpec Rows.treeWaysRow = true := by
  unfold joinedFacts
  rw [J.may, J.lifts, J.make]
  kernel_rfl
theorem over : Rows.treeWaysRow.holds Tryd.pinned (OpenSpec.ofChange Rows.treeWaysSpec) :=
  OpenClaim.holds_of_wide 4 Tryd.f4 rfl rfl rfl rfl rfl rfl rfl ⟨rfl, rfl, rfl, rfl, rfl⟩ rfl rfl rfl rfl rfl (by kernel_rfl) Tryd.func4 closed
    (of_decide_eq_true (by kernel_rfl)) (by unfold Func.isWrapper; first | (rw [if_pos (by decide +kernel)]; kernel_rfl) | (rw [if_neg (by decide +kernel)]; exact ⟨rfl, rfl⟩))
    (fun os started H enc _ => lifted os started H enc)
theorem card : Rows.TreeWaysCardSaid :=
  Claim7.holds_tied_plain_at .later [] [.sentinel, .sentinel, .sentinel] true (true, "d889ab0180b35f7dfdfb2bf9e438bf807bf16e9bf66438142aa2770c9f7a0ab8") true
    over (fun _ h => by cases h) (by kernel_rfl) (fun _ h => by cases h) treeWays_row_tie rfl ⟨rfl, rfl⟩ (J.mainIs.trans (congrArg (fun s => some (true, s)) (by kernel_rfl))) rfl
    (fun f fn hf hfn => by
      obtain rfl : f = 4 := Option.some.inj ((show Tryd.prog.funcNamed "sargasso/sargassolaw11.TreeWays" = some 4 by kernel_rfl).symm.trans hf) |>.symm
      obtain rfl : fn = Tryd.f4 := (Option.some.inj (Tryd.func4.symm.trans hfn)).symm
      exact ⟨by kernel_rfl, fun j t ht => by
        rw [Tryd.params4] at ht
        rcases j with _ | _ | _ | j
        · obtain rfl : (55 : TypeId) = t := by simpa using ht
          exact (show Tryd.prog.wantsStandIn 55 = false by kernel_rfl)
        · obtain rfl : (3 : TypeId) = t := by simpa using ht
          exact (show Tryd.prog.wantsStandIn 3 = false by kernel_rfl)
        · obtain rfl : (3 : TypeId) = t := by simpa using ht
          exact (show Tryd.prog.wantsStandIn 3 = false by kernel_rfl)
        · simp at ht⟩)
    (by kernel_rfl)
end Go.Proofs.YtdngkgkkblfcjaaDoor.zTreeWays
namespace Go.Proofs.YtdngkgkkblfcjaaDoor
theorem treeWays_holds : Rows.TreeWaysCardSaid := zTreeWays.card
#print axioms treeWays_holds
end Go.Proofs.YtdngkgkkblfcjaaDoor
