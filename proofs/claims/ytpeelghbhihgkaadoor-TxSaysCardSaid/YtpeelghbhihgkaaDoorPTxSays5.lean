/- Proved: the statement TxSays, as given (its conditions are those of the given row, and card where there is one; no others): the call ends, with true, and the input reads as it did. This file is one of its parts. -/
import Derived.Test.YtpeelghbhihgkaaDoorPTxSays4
import Derived.OpenShut
import Derived.ChangeArms
import Derived.DataReads
import Derived.WideShapes
import Derived.Below
import Derived.Carry
import Derived.ChangeOld
import Derived.LaidLaws
import Derived.Stop.ErrReads
import Derived.ChangeVars
import Derived.Test.YtpeelghbhihgkaaDoorRows
import Derived.Test.YtpeelghbhihgkaaDoorProg
import Derived.JoinedOf
import Derived.ProofKit
import Derived.WalkKit
import Derived.ShutString
import Derived.SizedLaws
import Derived.LaidHandle
import Derived.Handed
import Derived.SevenTiedAt
import Derived.Test.YtpeelghbhihgkaaDoorCards
import Derived.Test.YtpeelghbhihgkaaDoorTie
namespace Go.Proofs.YtpeelghbhihgkaaDoor.T
open Go Go.Proofs Go.Proofs.YtpeelghbhihgkaaDoor.K
set_option linter.unusedVariables false
set_option linter.unusedSimpArgs false
set_option maxRecDepth 20000 in
theorem sargassolaw4_TxSays.c (μ : Store) (w0 : World) (hμ : Agr μ w0) (x0 : Tx) (u0_0 : Value) (u0_1 : Value) (hx0 : TxW μ x0 u0_0 u0_1) (x1 : Tx) (u1_0 : Value) (u1_1 : Value) (hx1 : TxW μ x1 u1_0 u1_1) (hG : Gl μ) (r : Bool) (H : sargassolaw4_TxSays.f x0 x1 = some r) :
    Calls Tryd.prog 13 [.agg [[.int .u32 x0.Version], [u0_0], [u0_1], [.int .u32 x0.Time]].flatten.toArray, .agg [[.int .u32 x1.Version], [u1_0], [u1_1], [.int .u32 x1.Time]].flatten.toArray].toArray w0 (fun e w' => ∃ v, e = .returned v ∧ v = .bool r ∧ True ∧ Iv w0 [] μ μ [] w') := by
  refine enter Tryd.func13 rfl Tryd.ntmps13 rfl fun a hA => ?_
  have hI := Iv.start hμ
  have H := bI H
  obtain ⟨e1, he1⟩ := hG.g1
  obtain ⟨e2, he2⟩ := hG.g2
  obtain ⟨e3, he3⟩ := hG.g3
  obtain ⟨e4, he4⟩ := hG.g4
  obtain ⟨e5, he5⟩ := hG.g5
  obtain ⟨e9, he9⟩ := hG.g9
  refine w_seq fun _ hN1 => ?_
  refine w_reg ?_
  refine o_box [[.int .u32 x0.Version], [u0_0], [u0_1], [.int .u32 x0.Time]] hI hA rfl rfl rfl fun g1 a w hA hI hg1 => 
    o_box [[.int .u32 x1.Version], [u1_0], [u1_1], [.int .u32 x1.Time]] hI hA rfl rfl rfl fun g2 a w hA hI hg2 => 
    stp hA (r_as hA rfl) rfl fun a hA => ?_
  refine o_nil ?_
  refine hN1 _ _ ?_
  refine w_seq fun _ hN2 => ?_
  refine w_reg ?_
  obtain ⟨r1, hr1, H⟩ := bB H
  refine o_callp (u := .bool r1) cf45 hA rfl hI (sargassolaw4_first.c μ _ hI.agr  r1 hr1) rfl fun a w hz1 hI hA => 
    stp hA (r_as hA rfl) rfl fun a hA => ?_
  refine o_nil ?_
  refine hN2 _ _ ?_
  refine w_seq fun _ hN3 => ?_
  refine w_seq fun _ hN4 => ?_
  refine w_reg ?_
  refine stp hA (r_mv hA rfl) rfl fun a hA => 
    stp hA (r_not hA rfl) rfl fun a hA => ?_
  refine o_nil ?_
  refine hN4 _ _ ?_
  refine w_cond hA rfl (fun hc1 => ?_) (fun hc1 => ?_)
  · have hc10 := hc1; have hc1 := nT hc1; have hc1 := ft hc1; have H := bF H hc1
    refine w_seq fun _ hN5 => ?_
    refine w_reg ?_
    refine stp hA (r_as hA rfl) rfl fun a hA => ?_
    refine o_nil ?_
    refine hN5 _ _ ?_
    refine w_ret ?_
    obtain rfl := Option.some.inj (bS H)
    exact ret1 hA Tryd.results13 rfl ⟨_, rfl, rfl, trivial, hI.forget0⟩
  · have hc10 := hc1; have hc1 := nF hc1; have H := bT H hc1
    refine w_skip ?_
    refine hN3 _ _ ?_
    refine w_seq fun _ hN6 => ?_
    obtain ⟨c1, hz2, Hk1⟩ := bB H
    refine w_cut (fun a w => Fr a 71 [(0, .agg [[.int .u32 x0.Version], [u0_0], [u0_1], [.int .u32 x0.Time]].flatten.toArray), (1, .agg [[.int .u32 x1.Version], [u1_0], [u1_1], [.int .u32 x1.Time]].flatten.toArray), (2, .pointer (some ⟨g1, 0, none⟩)), (3, .pointer (some ⟨g2, 0, none⟩)), (4, .bool false), (5, .bool r1), (9, .bool (!r1)), (17, .bool c1)] ∧ Iv w0 [] μ μ [cel g2 [[.int .u32 x1.Version], [u1_0], [u1_1], [.int .u32 x1.Time]] 68, cel g1 [[.int .u32 x0.Version], [u0_0], [u0_1], [.int .u32 x0.Time]] 68] w) ?_ ?_
    · have H := bI hz2
      refine w_reg ?_
      refine stp hA (r_ldA (j := 1) [] [[.int .u32 x0.Version], [u0_0], [u0_1], [.int .u32 x0.Time]] [] Tryd.underlying68 rfl sz68 rfl hI rfl hA rfl rfl) rfl fun a hA => ?_
      obtain ⟨r2, hr2, H⟩ := bB H
      refine o_callp (u := .bool r2) cf49 hA rfl hI (sargassolaw4_light.c μ _ hI.agr x0 u0_0 u0_1 ⟨hx0.1, hx0.2.1, hx0.2.2.1, hx0.2.2.2⟩ r2 hr2) rfl fun a w hz3 hI hA => 
        stp hA (r_not hA rfl) rfl fun a hA => 
        stp hA (r_mv hA rfl) rfl fun a hA => ?_
      rcases Bool.eq_false_or_eq_true (!r2) with hc2 | hc2
      · have hc20 := hc2; have hc2 := nT hc2; have hc2 := ft hc2; have H := bF H hc2
        refine o_no hA rfl rfl (by rw [hc20]; simp [vb]) rfl fun a hA => 
          o_no hA rfl rfl (by rw [hc20]; simp [vb]) rfl fun a hA => 
          o_no hA rfl rfl (by rw [hc20]; simp [vb]) rfl fun a hA => 
          stp hA (r_pick_t hA rfl hc20 rfl) rfl fun a hA => ?_
        refine o_nil ?_
        cases Option.some.inj (bS H)
        exact ⟨hA.sub ⟨rfl, rfl, rfl, rfl, rfl, rfl, rfl, rfl, trivial⟩, hI⟩
      · have hc20 := hc2; have hc2 := nF hc2; have H := bT H hc2
        refine o_yes hA rfl rfl hc20 <| 
          stp hA (r_ldA (j := 0) [] [[.int .u32 x1.Version], [u1_0], [u1_1], [.int .u32 x1.Time]] [] Tryd.underlying68 rfl sz68 rfl hI rfl hA rfl rfl) rfl fun a hA => 
          o_yes hA rfl rfl hc20 <| ?_
        obtain ⟨r3, hr3, H⟩ := bB H
        refine o_callp (u := .bool r3) cf49 hA rfl hI (sargassolaw4_light.c μ _ hI.agr x1 u1_0 u1_1 ⟨hx1.1, hx1.2.1, hx1.2.2.1, hx1.2.2.2⟩ r3 hr3) rfl fun a w hz4 hI hA => 
          o_yes hA rfl rfl hc20 <| 
          stp hA (r_not hA rfl) rfl fun a hA => 
          stp hA (r_pick_f hA rfl hc20 rfl) rfl fun a hA => ?_
        refine o_nil ?_
        cases Option.some.inj (bS H)
        exact ⟨hA.sub ⟨rfl, rfl, rfl, rfl, rfl, rfl, rfl, rfl, trivial⟩, hI⟩
    · rintro a w ⟨hA, hI⟩
      have H := Hk1
      refine w_cond hA rfl (fun hc3 => ?_) (fun hc3 => ?_)
      · have hc30 := hc3; have H := bT H hc3
        refine w_seq fun _ hN7 => ?_
        refine w_reg ?_
        refine stp hA (r_mv hA rfl) rfl fun a hA => 
          stp hA (r_as hA rfl) rfl fun a hA => ?_
        refine o_nil ?_
        refine hN7 _ _ ?_
        refine w_ret ?_
        obtain rfl := Option.some.inj (bS H)
        exact ret1 hA Tryd.results13 rfl ⟨_, rfl, rfl, trivial, hI.forget0⟩
      · have hc30 := hc3; have hc3 := ft hc3; have H := bF H hc3
        refine w_skip ?_
        refine hN6 _ _ ?_
        refine w_seq fun _ hN8 => ?_
        refine w_reg ?_
        refine stp hA (r_ldA (j := 1) [] [[.int .u32 x0.Version], [u0_0], [u0_1], [.int .u32 x0.Time]] [] Tryd.underlying68 rfl sz68 rfl hI rfl hA rfl rfl) rfl fun a hA => ?_
        obtain ⟨r4, hr4, H⟩ := bB H
        refine o_call _ cf56 hA rfl (sargassoref1_TxBytes.c μ _ hI.agr x0 u0_0 u0_1 ⟨hx0.1, hx0.2.1, hx0.2.2.1, hx0.2.2.2⟩ r4 hr4) rfl fun v1 a w hz5 hA => ?_
        obtain ⟨_, cs1, rfl, hE1, hi1⟩ := hz5
        have hI := hI.call hi1
        refine stp hA (r_as hA rfl) rfl fun a hA => ?_
        refine o_nil ?_
        refine hN8 _ _ ?_
        obtain ⟨c2, hz6, Hk2⟩ := bB H
        refine w_cut (fun a w => ∃ (μ1 : Store), μ.le μ1 ∧ Fr a 71 [(0, .agg [[.int .u32 x0.Version], [u0_0], [u0_1], [.int .u32 x0.Time]].flatten.toArray), (1, .agg [[.int .u32 x1.Version], [u1_0], [u1_1], [.int .u32 x1.Time]].flatten.toArray), (2, .pointer (some ⟨g1, 0, none⟩)), (3, .pointer (some ⟨g2, 0, none⟩)), (4, .bool c2), (5, .bool r1), (6, v1), (9, .bool (!r1)), (17, .bool c1)] ∧ Iv w0 [] μ μ1 [row 5 1 v1 r4.length cs1, cel g2 [[.int .u32 x1.Version], [u1_0], [u1_1], [.int .u32 x1.Time]] 68, cel g1 [[.int .u32 x0.Version], [u0_0], [u0_1], [.int .u32 x0.Time]] 68] w) ?_ ?_
        · have H := bI hz6
          refine w_any [] mo hI fun w hI => ?_
          refine g_easy (i := 0) hA rfl rfl (by kernel_rfl) (.inr hI) (fun _ => r_mv hA rfl) rfl fun a hA => ?_
          refine g_easy (i := 1) hA rfl rfl (by kernel_rfl) (.inr hI) (fun _ => r_mv hA rfl) rfl fun a hA => ?_
          rcases Bool.eq_false_or_eq_true r1 with hc4 | hc4
          · have hc40 := hc4; have H := bT H hc4
            refine g_take (i := 2) hA rfl (wanted_yes hA rfl rfl hc40) (by kernel_rfl) hI (fun w hI => r_ldA (j := 2) [] [[.int .u32 x0.Version], [u0_0], [u0_1], [.int .u32 x0.Time]] [] Tryd.underlying68 rfl sz68 rfl hI rfl hA rfl rfl) rfl fun a hA => ?_
            refine g_easy (i := 4) hA rfl (wanted_yes hA rfl rfl hc40) (by kernel_rfl) (.inr hI) (fun _ => r_mv hA rfl) rfl fun a hA => ?_
            refine g_forced (i := 3) rfl (by kernel_rfl) ?_
            refine o_yes hA rfl rfl hc40 <| ?_
            obtain ⟨r5, hr5, H⟩ := bB H
            refine o_call _ cf51 hA rfl (tx_Bytes.c μ _ hI.agr x0 u0_0 u0_1 ⟨hx0.1, hx0.2.1, hx0.2.2.1, hx0.2.2.2⟩ r5 hr5) rfl fun v2 a w hz7 hA => ?_
            obtain ⟨_, cs2, rfl, hE2, hi2⟩ := hz7
            have hI := hI.call hi2
            refine o_nil ?_
            refine ⟨(.inr (hI.sel [1, 2, 3] (by decide) rfl)), ?_⟩
            refine g_forced (i := 5) rfl (by kernel_rfl) ?_
            refine o_yes hA rfl rfl hc40 <| ?_
            obtain ⟨r6, hr6, H⟩ := bB H
            refine o_callp (u := .bool r6) cf36 hA rfl hI ((by obtain ⟨μ2, hle2, hsv1, hI⟩ := hI.freezeRow 0 rfl; have hS1 : Slc (RI .u8) 1 μ2 v2 r5 := ⟨_, hE2, hsv1⟩; obtain ⟨μ3, hle3, hsv2, hI⟩ := hI.freezeRow 0 rfl; have hS2 : Slc (RI .u8) 1 μ3 v1 r4 := ⟨_, hE1, hsv2⟩; exact low_plain (hle2.trans hle3) (sargassoref_SameBytes.c μ3 _ hI.agr r5 v2 (Slc.le hS1 (fun _ _ h => h) hle3) r4 v1 hS2 r6 hr6))) rfl fun a w hz8 hI hA => ?_
            refine o_nil ?_
            refine ⟨(.inr (hI.sel [1, 2, 3] (by decide) rfl)), ?_⟩
            refine g_easy (i := 6) hA rfl rfl (by kernel_rfl) (.inr (hI.sel [1, 2, 3] (by decide) rfl)) (fun _ => r_pick_t hA rfl hc40 rfl) rfl fun a hA => ?_
            refine g_easy (i := 7) hA rfl rfl (by kernel_rfl) (.inr (hI.sel [1, 2, 3] (by decide) rfl)) (fun _ => r_mv hA rfl) rfl fun a hA => ?_
            rcases Bool.eq_false_or_eq_true r6 with hc5 | hc5
            · have hc50 := hc5; have H := bT H hc5
              refine g_mono (I' := fun w => Iv w0 [] μ μ [row 5 1 v2 r5.length cs2, row 5 1 v1 r4.length cs1, cel g2 [[.int .u32 x1.Version], [u1_0], [u1_1], [.int .u32 x1.Time]] 68, cel g1 [[.int .u32 x0.Version], [u0_0], [u0_1], [.int .u32 x0.Time]] 68] w) (fun w h => (h.sel [1, 2, 3] (by decide) rfl)) _ _ _ _ ?_
              refine g_take (i := 8) hA rfl (wanted_yes hA rfl rfl hc50) (by kernel_rfl) hI (fun w hI => r_ldA (j := 3) [] [[.int .u32 x0.Version], [u0_0], [u0_1], [.int .u32 x0.Time]] [] Tryd.underlying68 rfl sz68 rfl hI rfl hA rfl rfl) rfl fun a hA => ?_
              refine g_easy (i := 10) hA rfl (wanted_yes hA rfl rfl hc50) (by kernel_rfl) (.inr hI) (fun _ => r_mv hA rfl) rfl fun a hA => ?_
              refine g_take (i := 11) hA rfl (wanted_yes hA rfl rfl hc50) (by kernel_rfl) hI (fun w hI => r_rlen (xs := 0) Tryd.underlying23 hI (j := 1) rfl hA rfl) rfl fun a hA => ?_
              refine g_forced (i := 9) rfl (by kernel_rfl) ?_
              refine o_yes hA rfl rfl hc50 <| ?_
              obtain ⟨r7, hr7, H⟩ := bB H
              refine o_callp (u := .int .i64 r7) cf54 hA rfl hI (tx_Size.c μ _ hI.agr x0 u0_0 u0_1 ⟨hx0.1, hx0.2.1, hx0.2.2.1, hx0.2.2.2⟩ r7 hr7) rfl fun a w hz9 hI hA => ?_
              refine o_nil ?_
              refine ⟨(.inr hI), ?_⟩
              refine g_easy (i := 12) hA rfl (wanted_yes hA rfl rfl hc50) (by kernel_rfl) (.inr hI) (fun _ => r_eql hA rfl rfl) rfl fun a hA => ?_
              refine g_easy (i := 13) hA rfl rfl (by kernel_rfl) (.inr hI) (fun _ => r_pick_t hA rfl hc50 rfl) rfl fun a hA => ?_
              refine g_easy (i := 14) hA rfl rfl (by kernel_rfl) (.inr hI) (fun _ => r_mv hA rfl) rfl fun a hA => ?_
              rcases Bool.eq_false_or_eq_true (decide (r7 = (r4.length : Int))) with hc6 | hc6
              · have hc60 := hc6; have hc6 := of_decide_eq_true hc6; have H := bT H hc6
                refine g_take (i := 15) hA rfl (wanted_yes hA rfl rfl hc60) (by kernel_rfl) hI (fun w hI => r_ldA (j := 3) [] [[.int .u32 x0.Version], [u0_0], [u0_1], [.int .u32 x0.Time]] [] Tryd.underlying68 rfl sz68 rfl hI rfl hA rfl rfl) rfl fun a hA => ?_
                refine g_easy (i := 17) hA rfl (wanted_yes hA rfl rfl hc60) (by kernel_rfl) (.inr hI) (fun _ => r_mv hA rfl) rfl fun a hA => ?_
                refine g_forced (i := 16) rfl (by kernel_rfl) ?_
                refine o_yes hA rfl rfl hc60 <| ?_
                obtain ⟨r8, hr8, H⟩ := bB H
                refine o_callp (u := .agg [av .u8 32 r8].flatten.toArray) cf57 hA rfl hI (tx_ID.c μ _ hI.agr x0 u0_0 u0_1 ⟨hx0.1, hx0.2.1, hx0.2.2.1, hx0.2.2.2⟩ r8 hr8) rfl fun a w hz10 hI hA => ?_
                refine o_nil ?_
                refine ⟨(.inr hI), ?_⟩
                refine g_forced (i := 18) rfl (by kernel_rfl) ?_
                refine o_yes hA rfl rfl hc60 <| ?_
                obtain ⟨r9, hr9, H⟩ := bB H
                refine o_callp (u := .agg [av .u8 32 r9].flatten.toArray) cf58 hA rfl hI ((by obtain ⟨μ4, hle4, hsv3, hI⟩ := hI.freezeRow 1 rfl; have hS3 : Slc (RI .u8) 1 μ4 v1 r4 := ⟨_, hE1, hsv3⟩; exact low_plain hle4 (sargassoref1_Twice.c μ4 _ hI.agr r4 v1 hS3 r9 hr9))) rfl fun a w hz11 hI hA => ?_
                refine o_nil ?_
                refine ⟨(.inr hI), ?_⟩
                refine g_forced (i := 19) rfl (by kernel_rfl) ?_
                refine o_yes hA rfl rfl hc60 <| ?_
                obtain ⟨r10, hr10, H⟩ := bB H
                refine o_callp (u := .bool r10) cf41 hA rfl hI (sargassoref_SameHash.c μ _ hI.agr r8 hz10 r9 hz11 r10 hr10) rfl fun a w hz12 hI hA => ?_
                refine o_nil ?_
                refine ⟨(.inr hI), ?_⟩
                refine g_easy (i := 20) hA rfl rfl (by kernel_rfl) (.inr hI) (fun _ => r_pick_t hA rfl hc60 rfl) rfl fun a hA => ?_
                refine g_easy (i := 21) hA rfl rfl (by kernel_rfl) (.inr hI) (fun _ => r_mv hA rfl) rfl fun a hA => ?_
                rcases Bool.eq_false_or_eq_true r10 with hc7 | hc7
                · have hc70 := hc7; have H := bT H hc7
                  refine g_take (i := 22) hA rfl (wanted_yes hA rfl rfl hc70) (by kernel_rfl) hI (fun w hI => r_ldA (j := 3) [] [[.int .u32 x0.Version], [u0_0], [u0_1], [.int .u32 x0.Time]] [] Tryd.underlying68 rfl sz68 rfl hI rfl hA rfl rfl) rfl fun a hA => ?_
                  refine g_take (i := 24) hA rfl (wanted_yes hA rfl rfl hc70) (by kernel_rfl) hI (fun w hI => r_ldA (j := 3) [] [[.int .u32 x0.Version], [u0_0], [u0_1], [.int .u32 x0.Time]] [] Tryd.underlying68 rfl sz68 rfl hI rfl hA rfl rfl) rfl fun a hA => ?_
                  refine g_forced (i := 23) rfl (by kernel_rfl) ?_
                  refine o_yes hA rfl rfl hc70 <| ?_
                  obtain ⟨r11, hr11, H⟩ := bB H
                  refine o_callp (u := .bool r11) cf48 hA rfl hI (tx_Base.c μ _ hI.agr x0 u0_0 u0_1 ⟨hx0.1, hx0.2.1, hx0.2.2.1, hx0.2.2.2⟩ r11 hr11) rfl fun a w hz13 hI hA => ?_
                  refine o_nil ?_
                  refine ⟨(.inr hI), ?_⟩
                  refine g_forced (i := 25) rfl (by kernel_rfl) ?_
                  refine o_yes hA rfl rfl hc70 <| ?_
                  obtain ⟨r12, hr12, H⟩ := bB H
                  refine o_callp (u := .bool r12) cf59 hA rfl hI (sargassoref1_Base.c μ _ hI.agr x0 u0_0 u0_1 ⟨hx0.1, hx0.2.1, hx0.2.2.1, hx0.2.2.2⟩ r12 hr12) rfl fun a w hz14 hI hA => ?_
                  refine o_nil ?_
                  refine ⟨(.inr hI), ?_⟩
                  refine g_easy (i := 26) hA rfl (wanted_yes hA rfl rfl hc70) (by kernel_rfl) (.inr hI) (fun _ => r_eqlb Tryd.underlying4 hA rfl rfl) rfl fun a hA => ?_
                  refine g_easy (i := 27) hA rfl rfl (by kernel_rfl) (.inr hI) (fun _ => r_pick_t hA rfl hc70 rfl) rfl fun a hA => ?_
                  refine g_easy (i := 28) hA rfl rfl (by kernel_rfl) (.inr hI) (fun _ => r_mv hA rfl) rfl fun a hA => ?_
                  rcases Bool.eq_false_or_eq_true (decide (r11 = r12)) with hc8 | hc8
                  · have hc80 := hc8; have hc8 := of_decide_eq_true hc8; have H := bT H hc8
                    refine g_take (i := 29) hA rfl (wanted_yes hA rfl rfl hc80) (by kernel_rfl) hI (fun w hI => r_ldA (j := 3) [] [[.int .u32 x0.Version], [u0_0], [u0_1], [.int .u32 x0.Time]] [] Tryd.underlying68 rfl sz68 rfl hI rfl hA rfl rfl) rfl fun a hA => ?_
                    refine g_take (i := 31) hA rfl (wanted_yes hA rfl rfl hc80) (by kernel_rfl) hI (fun w hI => r_ldA (j := 3) [] [[.int .u32 x0.Version], [u0_0], [u0_1], [.int .u32 x0.Time]] [] Tryd.underlying68 rfl sz68 rfl hI rfl hA rfl rfl) rfl fun a hA => ?_
                    refine g_forced (i := 30) rfl (by kernel_rfl) ?_
                    refine o_yes hA rfl rfl hc80 <| ?_
                    obtain ⟨r13, hr13, H⟩ := bB H
                    refine o_call _ cf46 hA rfl (tx_Check.c μ _ hI.agr x0 u0_0 u0_1 ⟨hx0.1, hx0.2.1, hx0.2.2.1, hx0.2.2.2⟩ e1 he1 e2 he2 e3 he3 e4 he4 e5 he5 e9 he9 r13 hr13) rfl fun v3 a w hz15 hA => ?_
                    obtain ⟨_, μ5, rfl, hS4, hi3⟩ := hz15
                    have hI := hI.call hi3
                    refine o_nil ?_
                    refine ⟨(.inr (hI.less (Store.le.refl _) hi3.le)), ?_⟩
                    refine g_forced (i := 32) rfl (by kernel_rfl) ?_
                    refine o_yes hA rfl rfl hc80 <| ?_
                    obtain ⟨r14, hr14, H⟩ := bB H
                    refine o_callp (u := .int .i64 r14) cf60 hA rfl hI (sargassoref1_CheckTx.c μ5 _ hI.agr x0 u0_0 u0_1 ⟨hx0.1, (Slc.le hx0.2.1 (fun _ _ h => RIn.le hi3.le h) hi3.le), (Slc.le hx0.2.2.1 (fun _ _ h => ROut.le hi3.le h) hi3.le), hx0.2.2.2⟩ r14 hr14) rfl fun a w hz16 hI hA => ?_
                    refine o_nil ?_
                    refine ⟨(.inr (hI.less (Store.le.refl _) hi3.le)), ?_⟩
                    refine g_forced (i := 33) rfl (by kernel_rfl) ?_
                    refine o_yes hA rfl rfl hc80 <| ?_
                    obtain ⟨r15, hr15, H⟩ := bB H
                    refine o_callp (u := .bool r15) cf31 hA rfl hI (sargassosee_Is.c μ5 _ hI.agr r13 v3 hS4 r14 hz16 (Gl.le hi3.le hG) r15 hr15) rfl fun a w hz17 hI hA => ?_
                    refine o_nil ?_
                    refine ⟨(.inr (hI.less (Store.le.refl _) hi3.le)), ?_⟩
                    refine g_easy (i := 34) hA rfl rfl (by kernel_rfl) (.inr (hI.less (Store.le.refl _) hi3.le)) (fun _ => r_pick_t hA rfl hc80 rfl) rfl fun a hA => ?_
                    refine g_easy (i := 35) hA rfl rfl (by kernel_rfl) (.inr (hI.less (Store.le.refl _) hi3.le)) (fun _ => r_mv hA rfl) rfl fun a hA => ?_
                    rcases Bool.eq_false_or_eq_true r15 with hc9 | hc9
                    · have hc90 := hc9; have H := bT H hc9
                      refine g_mono (I' := fun w => Iv w0 [] μ μ5 [row 5 1 v2 r5.length cs2, row 5 1 v1 r4.length cs1, cel g2 [[.int .u32 x1.Version], [u1_0], [u1_1], [.int .u32 x1.Time]] 68, cel g1 [[.int .u32 x0.Version], [u0_0], [u0_1], [.int .u32 x0.Time]] 68] w) (fun w h => (h.less (Store.le.refl _) hi3.le)) _ _ _ _ ?_
                      refine g_take (i := 36) hA rfl (wanted_yes hA rfl rfl hc90) (by kernel_rfl) hI (fun w hI => r_ldA (j := 3) [] [[.int .u32 x0.Version], [u0_0], [u0_1], [.int .u32 x0.Time]] [] Tryd.underlying68 rfl sz68 rfl hI rfl hA rfl rfl) rfl fun a hA => ?_
                      refine g_take (i := 37) hA rfl (wanted_yes hA rfl rfl hc90) (by kernel_rfl) hI (fun w hI => r_ldA (j := 2) [] [[.int .u32 x1.Version], [u1_0], [u1_1], [.int .u32 x1.Time]] [] Tryd.underlying68 rfl sz68 rfl hI rfl hA rfl rfl) rfl fun a hA => ?_
                      refine g_take (i := 39) hA rfl (wanted_yes hA rfl rfl hc90) (by kernel_rfl) hI (fun w hI => r_ldA (j := 3) [] [[.int .u32 x0.Version], [u0_0], [u0_1], [.int .u32 x0.Time]] [] Tryd.underlying68 rfl sz68 rfl hI rfl hA rfl rfl) rfl fun a hA => ?_
                      refine g_take (i := 40) hA rfl (wanted_yes hA rfl rfl hc90) (by kernel_rfl) hI (fun w hI => r_ldA (j := 2) [] [[.int .u32 x1.Version], [u1_0], [u1_1], [.int .u32 x1.Time]] [] Tryd.underlying68 rfl sz68 rfl hI rfl hA rfl rfl) rfl fun a hA => ?_
                      refine g_forced (i := 38) rfl (by kernel_rfl) ?_
                      refine o_yes hA rfl rfl hc90 <| ?_
                      obtain ⟨r16, hr16, H⟩ := bB H
                      refine o_callp (u := .bool r16) cf55 hA rfl hI (tx_Same.c μ5 _ hI.agr x0 u0_0 u0_1 ⟨hx0.1, (Slc.le hx0.2.1 (fun _ _ h => RIn.le hi3.le h) hi3.le), (Slc.le hx0.2.2.1 (fun _ _ h => ROut.le hi3.le h) hi3.le), hx0.2.2.2⟩ x1 u1_0 u1_1 ⟨hx1.1, (Slc.le hx1.2.1 (fun _ _ h => RIn.le hi3.le h) hi3.le), (Slc.le hx1.2.2.1 (fun _ _ h => ROut.le hi3.le h) hi3.le), hx1.2.2.2⟩ r16 hr16) rfl fun a w hz18 hI hA => ?_
                      refine o_nil ?_
                      refine ⟨(.inr hI), ?_⟩
                      refine g_forced (i := 41) rfl (by kernel_rfl) ?_
                      refine o_yes hA rfl rfl hc90 <| ?_
                      obtain ⟨r17, hr17, H⟩ := bB H
                      refine o_callp (u := .bool r17) cf52 hA rfl hI (sargassoref_SameTx.c μ5 _ hI.agr x0 u0_0 u0_1 ⟨hx0.1, (Slc.le hx0.2.1 (fun _ _ h => RIn.le hi3.le h) hi3.le), (Slc.le hx0.2.2.1 (fun _ _ h => ROut.le hi3.le h) hi3.le), hx0.2.2.2⟩ x1 u1_0 u1_1 ⟨hx1.1, (Slc.le hx1.2.1 (fun _ _ h => RIn.le hi3.le h) hi3.le), (Slc.le hx1.2.2.1 (fun _ _ h => ROut.le hi3.le h) hi3.le), hx1.2.2.2⟩ r17 hr17) rfl fun a w hz19 hI hA => ?_
                      refine o_nil ?_
                      refine ⟨(.inr hI), ?_⟩
                      refine g_easy (i := 42) hA rfl (wanted_yes hA rfl rfl hc90) (by kernel_rfl) (.inr hI) (fun _ => r_eqlb Tryd.underlying4 hA rfl rfl) rfl fun a hA => ?_
                      refine g_easy (i := 43) hA rfl rfl (by kernel_rfl) (.inr hI) (fun _ => r_pick_t hA rfl hc90 rfl) rfl fun a hA => ?_
                      refine g_easy (i := 44) hA rfl rfl (by kernel_rfl) (.inr hI) (fun _ => r_mv hA rfl) rfl fun a hA => ?_
                      rcases Bool.eq_false_or_eq_true (decide (r16 = r17)) with hc10 | hc10
                      · have hc100 := hc10; have hc10 := of_decide_eq_true hc10; have H := bT H hc10
                        refine g_take (i := 45) hA rfl (wanted_yes hA rfl rfl hc100) (by kernel_rfl) hI (fun w hI => r_ldA (j := 3) [] [[.int .u32 x0.Version], [u0_0], [u0_1], [.int .u32 x0.Time]] [] Tryd.underlying68 rfl sz68 rfl hI rfl hA rfl rfl) rfl fun a hA => ?_
                        refine g_take (i := 47) hA rfl (wanted_yes hA rfl rfl hc100) (by kernel_rfl) hI (fun w hI => r_ldA (j := 3) [] [[.int .u32 x0.Version], [u0_0], [u0_1], [.int .u32 x0.Time]] [] Tryd.underlying68 rfl sz68 rfl hI rfl hA rfl rfl) rfl fun a hA => ?_
                        refine g_forced (i := 46) rfl (by kernel_rfl) ?_
                        refine o_yes hA rfl rfl hc100 <| ?_
                        obtain ⟨r18, hr18, H⟩ := bB H
                        refine o_call _ cf61 hA rfl (tx_Clone.c μ5 _ hI.agr x0 u0_0 u0_1 ⟨hx0.1, (Slc.le hx0.2.1 (fun _ _ h => RIn.le hi3.le h) hi3.le), (Slc.le hx0.2.2.1 (fun _ _ h => ROut.le hi3.le h) hi3.le), hx0.2.2.2⟩ r18 hr18) rfl fun v4 a w hz20 hA => ?_
                        obtain ⟨v5, v6, μ6, rfl, hw1, hi4⟩ := hz20
                        have hI := hI.call hi4
                        refine o_nil ?_
                        refine ⟨(.inr (hI.less hi3.le hi4.le)), ?_⟩
                        refine g_forced (i := 48) rfl (by kernel_rfl) ?_
                        refine o_yes hA rfl rfl hc100 <| ?_
                        obtain ⟨r19, hr19, H⟩ := bB H
                        refine o_callp (u := .bool r19) cf52 hA rfl hI (sargassoref_SameTx.c μ6 _ hI.agr r18 v5 v6 ⟨hw1.1, hw1.2.1, hw1.2.2.1, hw1.2.2.2⟩ x0 u0_0 u0_1 ⟨hx0.1, (Slc.le hx0.2.1 (fun _ _ h => RIn.le (hi3.le.trans hi4.le) h) (hi3.le.trans hi4.le)), (Slc.le hx0.2.2.1 (fun _ _ h => ROut.le (hi3.le.trans hi4.le) h) (hi3.le.trans hi4.le)), hx0.2.2.2⟩ r19 hr19) rfl fun a w hz21 hI hA => ?_
                        refine o_nil ?_
                        refine ⟨(.inr (hI.less hi3.le hi4.le)), ?_⟩
                        refine g_easy (i := 49) hA rfl rfl (by kernel_rfl) (.inr (hI.less hi3.le hi4.le)) (fun _ => r_pick_t hA rfl hc100 rfl) rfl fun a hA => ?_
                        refine g_easy (i := 50) hA rfl rfl (by kernel_rfl) (.inr (hI.less hi3.le hi4.le)) (fun _ => r_as hA rfl) rfl fun a hA => ?_
                        refine g_nil (by kernel_rfl) ?_
                        cases Option.some.inj (bS H)
                        exact ⟨μ6, (hi3.le.trans hi4.le), hA.sub ⟨rfl, rfl, rfl, rfl, rfl, rfl, rfl, rfl, rfl, trivial⟩, (hI.sel [1, 2, 3] (by decide) rfl)⟩
                      · have hc100 := hc10; have hc10 := of_decide_eq_false hc10; have H := bF H hc10
                        refine g_skip (i := 45) hA rfl (wanted_no hA rfl rfl (by rw [hc100]; simp [vb])) (by kernel_rfl) (.inr hI) rfl fun a hA => ?_
                        refine g_skip (i := 47) hA rfl (wanted_no hA rfl rfl (by rw [hc100]; simp [vb])) (by kernel_rfl) (.inr hI) rfl fun a hA => ?_
                        refine g_skip (i := 46) hA rfl (wanted_no hA rfl rfl (by rw [hc100]; simp [vb])) (by kernel_rfl) (.inr hI) rfl fun a hA => ?_
                        refine g_skip (i := 48) hA rfl (wanted_no hA rfl rfl (by rw [hc100]; simp [vb])) (by kernel_rfl) (.inr hI) rfl fun a hA => ?_
                        refine g_easy (i := 49) hA rfl rfl (by kernel_rfl) (.inr hI) (fun _ => r_pick_f hA rfl hc100 rfl) rfl fun a hA => ?_
                        refine g_easy (i := 50) hA rfl rfl (by kernel_rfl) (.inr hI) (fun _ => r_as hA rfl) rfl fun a hA => ?_
                        refine g_nil (by kernel_rfl) ?_
                        cases Option.some.inj (bS H)
                        exact ⟨μ5, hi3.le, hA.sub ⟨rfl, rfl, rfl, rfl, rfl, rfl, rfl, rfl, rfl, trivial⟩, (hI.sel [1, 2, 3] (by decide) rfl)⟩
                    · have hc90 := hc9; have hc9 := ft hc9; have H := bF H hc9
                      refine g_skip (i := 36) hA rfl (wanted_no hA rfl rfl (by rw [hc90]; simp [vb])) (by kernel_rfl) (.inr (hI.less (Store.le.refl _) hi3.le)) rfl fun a hA => ?_
                      refine g_skip (i := 37) hA rfl (wanted_no hA rfl rfl (by rw [hc90]; simp [vb])) (by kernel_rfl) (.inr (hI.less (Store.le.refl _) hi3.le)) rfl fun a hA => ?_
                      refine g_skip (i := 39) hA rfl (wanted_no hA rfl rfl (by rw [hc90]; simp [vb])) (by kernel_rfl) (.inr (hI.less (Store.le.refl _) hi3.le)) rfl fun a hA => ?_
                      refine g_skip (i := 40) hA rfl (wanted_no hA rfl rfl (by rw [hc90]; simp [vb])) (by kernel_rfl) (.inr (hI.less (Store.le.refl _) hi3.le)) rfl fun a hA => ?_
                      refine g_skip (i := 38) hA rfl (wanted_no hA rfl rfl (by rw [hc90]; simp [vb])) (by kernel_rfl) (.inr (hI.less (Store.le.refl _) hi3.le)) rfl fun a hA => ?_
                      refine g_skip (i := 41) hA rfl (wanted_no hA rfl rfl (by rw [hc90]; simp [vb])) (by kernel_rfl) (.inr (hI.less (Store.le.refl _) hi3.le)) rfl fun a hA => ?_
                      refine g_skip (i := 42) hA rfl (wanted_no hA rfl rfl (by rw [hc90]; simp [vb])) (by kernel_rfl) (.inr (hI.less (Store.le.refl _) hi3.le)) rfl fun a hA => ?_
                      refine g_easy (i := 43) hA rfl rfl (by kernel_rfl) (.inr (hI.less (Store.le.refl _) hi3.le)) (fun _ => r_pick_f hA rfl hc90 rfl) rfl fun a hA => ?_
                      refine g_easy (i := 44) hA rfl rfl (by kernel_rfl) (.inr (hI.less (Store.le.refl _) hi3.le)) (fun _ => r_mv hA rfl) rfl fun a hA => ?_
                      refine g_skip (i := 45) hA rfl (wanted_no hA rfl rfl (by simp [vb])) (by kernel_rfl) (.inr (hI.less (Store.le.refl _) hi3.le)) rfl fun a hA => ?_
                      refine g_skip (i := 47) hA rfl (wanted_no hA rfl rfl (by simp [vb])) (by kernel_rfl) (.inr (hI.less (Store.le.refl _) hi3.le)) rfl fun a hA => ?_
                      refine g_skip (i := 46) hA rfl (wanted_no hA rfl rfl (by simp [vb])) (by kernel_rfl) (.inr (hI.less (Store.le.refl _) hi3.le)) rfl fun a hA => ?_
                      refine g_skip (i := 48) hA rfl (wanted_no hA rfl rfl (by simp [vb])) (by kernel_rfl) (.inr (hI.less (Store.le.refl _) hi3.le)) rfl fun a hA => ?_
                      refine g_easy (i := 49) hA rfl rfl (by kernel_rfl) (.inr (hI.less (Store.le.refl _) hi3.le)) (fun _ => r_pick_f hA rfl rfl rfl) rfl fun a hA => ?_
                      refine g_easy (i := 50) hA rfl rfl (by kernel_rfl) (.inr (hI.less (Store.le.refl _) hi3.le)) (fun _ => r_as hA rfl) rfl fun a hA => ?_
                      refine g_nil (by kernel_rfl) ?_
                      cases Option.some.inj (bS H)
                      exact ⟨μ5, hi3.le, hA.sub ⟨rfl, rfl, rfl, rfl, rfl, rfl, rfl, rfl, rfl, trivial⟩, (hI.sel [1, 2, 3] (by decide) rfl)⟩
                  · have hc80 := hc8; have hc8 := of_decide_eq_false hc8; have H := bF H hc8
                    refine g_skip (i := 29) hA rfl (wanted_no hA rfl rfl (by rw [hc80]; simp [vb])) (by kernel_rfl) (.inr hI) rfl fun a hA => ?_
                    refine g_skip (i := 31) hA rfl (wanted_no hA rfl rfl (by rw [hc80]; simp [vb])) (by kernel_rfl) (.inr hI) rfl fun a hA => ?_
                    refine g_skip (i := 30) hA rfl (wanted_no hA rfl rfl (by rw [hc80]; simp [vb])) (by kernel_rfl) (.inr hI) rfl fun a hA => ?_
                    refine g_skip (i := 32) hA rfl (wanted_no hA rfl rfl (by rw [hc80]; simp [vb])) (by kernel_rfl) (.inr hI) rfl fun a hA => ?_
                    refine g_skip (i := 33) hA rfl (wanted_no hA rfl rfl (by rw [hc80]; simp [vb])) (by kernel_rfl) (.inr hI) rfl fun a hA => ?_
                    refine g_easy (i := 34) hA rfl rfl (by kernel_rfl) (.inr hI) (fun _ => r_pick_f hA rfl hc80 rfl) rfl fun a hA => ?_
                    refine g_easy (i := 35) hA rfl rfl (by kernel_rfl) (.inr hI) (fun _ => r_mv hA rfl) rfl fun a hA => ?_
                    refine g_skip (i := 36) hA rfl (wanted_no hA rfl rfl (by simp [vb])) (by kernel_rfl) (.inr hI) rfl fun a hA => ?_
                    refine g_skip (i := 37) hA rfl (wanted_no hA rfl rfl (by simp [vb])) (by kernel_rfl) (.inr hI) rfl fun a hA => ?_
                    refine g_skip (i := 39) hA rfl (wanted_no hA rfl rfl (by simp [vb])) (by kernel_rfl) (.inr hI) rfl fun a hA => ?_
                    refine g_skip (i := 40) hA rfl (wanted_no hA rfl rfl (by simp [vb])) (by kernel_rfl) (.inr hI) rfl fun a hA => ?_
                    refine g_skip (i := 38) hA rfl (wanted_no hA rfl rfl (by simp [vb])) (by kernel_rfl) (.inr hI) rfl fun a hA => ?_
                    refine g_skip (i := 41) hA rfl (wanted_no hA rfl rfl (by simp [vb])) (by kernel_rfl) (.inr hI) rfl fun a hA => ?_
                    refine g_skip (i := 42) hA rfl (wanted_no hA rfl rfl (by simp [vb])) (by kernel_rfl) (.inr hI) rfl fun a hA => ?_
                    refine g_easy (i := 43) hA rfl rfl (by kernel_rfl) (.inr hI) (fun _ => r_pick_f hA rfl rfl rfl) rfl fun a hA => ?_
                    refine g_easy (i := 44) hA rfl rfl (by kernel_rfl) (.inr hI) (fun _ => r_mv hA rfl) rfl fun a hA => ?_
                    refine g_skip (i := 45) hA rfl (wanted_no hA rfl rfl (by simp [vb])) (by kernel_rfl) (.inr hI) rfl fun a hA => ?_
                    refine g_skip (i := 47) hA rfl (wanted_no hA rfl rfl (by simp [vb])) (by kernel_rfl) (.inr hI) rfl fun a hA => ?_
                    refine g_skip (i := 46) hA rfl (wanted_no hA rfl rfl (by simp [vb])) (by kernel_rfl) (.inr hI) rfl fun a hA => ?_
                    refine g_skip (i := 48) hA rfl (wanted_no hA rfl rfl (by simp [vb])) (by kernel_rfl) (.inr hI) rfl fun a hA => ?_
                    refine g_easy (i := 49) hA rfl rfl (by kernel_rfl) (.inr hI) (fun _ => r_pick_f hA rfl rfl rfl) rfl fun a hA => ?_
                    refine g_easy (i := 50) hA rfl rfl (by kernel_rfl) (.inr hI) (fun _ => r_as hA rfl) rfl fun a hA => ?_
                    refine g_nil (by kernel_rfl) ?_
                    cases Option.some.inj (bS H)
                    exact ⟨μ, (Store.le.refl _), hA.sub ⟨rfl, rfl, rfl, rfl, rfl, rfl, rfl, rfl, rfl, trivial⟩, (hI.sel [1, 2, 3] (by decide) rfl)⟩
                · have hc70 := hc7; have hc7 := ft hc7; have H := bF H hc7
                  refine g_skip (i := 22) hA rfl (wanted_no hA rfl rfl (by rw [hc70]; simp [vb])) (by kernel_rfl) (.inr hI) rfl fun a hA => ?_
                  refine g_skip (i := 24) hA rfl (wanted_no hA rfl rfl (by rw [hc70]; simp [vb])) (by kernel_rfl) (.inr hI) rfl fun a hA => ?_
                  refine g_skip (i := 23) hA rfl (wanted_no hA rfl rfl (by rw [hc70]; simp [vb])) (by kernel_rfl) (.inr hI) rfl fun a hA => ?_
                  refine g_skip (i := 25) hA rfl (wanted_no hA rfl rfl (by rw [hc70]; simp [vb])) (by kernel_rfl) (.inr hI) rfl fun a hA => ?_
                  refine g_skip (i := 26) hA rfl (wanted_no hA rfl rfl (by rw [hc70]; simp [vb])) (by kernel_rfl) (.inr hI) rfl fun a hA => ?_
                  refine g_easy (i := 27) hA rfl rfl (by kernel_rfl) (.inr hI) (fun _ => r_pick_f hA rfl hc70 rfl) rfl fun a hA => ?_
                  refine g_easy (i := 28) hA rfl rfl (by kernel_rfl) (.inr hI) (fun _ => r_mv hA rfl) rfl fun a hA => ?_
                  refine g_skip (i := 29) hA rfl (wanted_no hA rfl rfl (by simp [vb])) (by kernel_rfl) (.inr hI) rfl fun a hA => ?_
                  refine g_skip (i := 31) hA rfl (wanted_no hA rfl rfl (by simp [vb])) (by kernel_rfl) (.inr hI) rfl fun a hA => ?_
                  refine g_skip (i := 30) hA rfl (wanted_no hA rfl rfl (by simp [vb])) (by kernel_rfl) (.inr hI) rfl fun a hA => ?_
                  refine g_skip (i := 32) hA rfl (wanted_no hA rfl rfl (by simp [vb])) (by kernel_rfl) (.inr hI) rfl fun a hA => ?_
                  refine g_skip (i := 33) hA rfl (wanted_no hA rfl rfl (by simp [vb])) (by kernel_rfl) (.inr hI) rfl fun a hA => ?_
                  refine g_easy (i := 34) hA rfl rfl (by kernel_rfl) (.inr hI) (fun _ => r_pick_f hA rfl rfl rfl) rfl fun a hA => ?_
                  refine g_easy (i := 35) hA rfl rfl (by kernel_rfl) (.inr hI) (fun _ => r_mv hA rfl) rfl fun a hA => ?_
                  refine g_skip (i := 36) hA rfl (wanted_no hA rfl rfl (by simp [vb])) (by kernel_rfl) (.inr hI) rfl fun a hA => ?_
                  refine g_skip (i := 37) hA rfl (wanted_no hA rfl rfl (by simp [vb])) (by kernel_rfl) (.inr hI) rfl fun a hA => ?_
                  refine g_skip (i := 39) hA rfl (wanted_no hA rfl rfl (by simp [vb])) (by kernel_rfl) (.inr hI) rfl fun a hA => ?_
                  refine g_skip (i := 40) hA rfl (wanted_no hA rfl rfl (by simp [vb])) (by kernel_rfl) (.inr hI) rfl fun a hA => ?_
                  refine g_skip (i := 38) hA rfl (wanted_no hA rfl rfl (by simp [vb])) (by kernel_rfl) (.inr hI) rfl fun a hA => ?_
                  refine g_skip (i := 41) hA rfl (wanted_no hA rfl rfl (by simp [vb])) (by kernel_rfl) (.inr hI) rfl fun a hA => ?_
                  refine g_skip (i := 42) hA rfl (wanted_no hA rfl rfl (by simp [vb])) (by kernel_rfl) (.inr hI) rfl fun a hA => ?_
                  refine g_easy (i := 43) hA rfl rfl (by kernel_rfl) (.inr hI) (fun _ => r_pick_f hA rfl rfl rfl) rfl fun a hA => ?_
                  refine g_easy (i := 44) hA rfl rfl (by kernel_rfl) (.inr hI) (fun _ => r_mv hA rfl) rfl fun a hA => ?_
                  refine g_skip (i := 45) hA rfl (wanted_no hA rfl rfl (by simp [vb])) (by kernel_rfl) (.inr hI) rfl fun a hA => ?_
                  refine g_skip (i := 47) hA rfl (wanted_no hA rfl rfl (by simp [vb])) (by kernel_rfl) (.inr hI) rfl fun a hA => ?_
                  refine g_skip (i := 46) hA rfl (wanted_no hA rfl rfl (by simp [vb])) (by kernel_rfl) (.inr hI) rfl fun a hA => ?_
                  refine g_skip (i := 48) hA rfl (wanted_no hA rfl rfl (by simp [vb])) (by kernel_rfl) (.inr hI) rfl fun a hA => ?_
                  refine g_easy (i := 49) hA rfl rfl (by kernel_rfl) (.inr hI) (fun _ => r_pick_f hA rfl rfl rfl) rfl fun a hA => ?_
                  refine g_easy (i := 50) hA rfl rfl (by kernel_rfl) (.inr hI) (fun _ => r_as hA rfl) rfl fun a hA => ?_
                  refine g_nil (by kernel_rfl) ?_
                  cases Option.some.inj (bS H)
                  exact ⟨μ, (Store.le.refl _), hA.sub ⟨rfl, rfl, rfl, rfl, rfl, rfl, rfl, rfl, rfl, trivial⟩, (hI.sel [1, 2, 3] (by decide) rfl)⟩
              · have hc60 := hc6; have hc6 := of_decide_eq_false hc6; have H := bF H hc6
                refine g_skip (i := 15) hA rfl (wanted_no hA rfl rfl (by rw [hc60]; simp [vb])) (by kernel_rfl) (.inr hI) rfl fun a hA => ?_
                refine g_skip (i := 17) hA rfl (wanted_no hA rfl rfl (by rw [hc60]; simp [vb])) (by kernel_rfl) (.inr hI) rfl fun a hA => ?_
                refine g_skip (i := 16) hA rfl (wanted_no hA rfl rfl (by rw [hc60]; simp [vb])) (by kernel_rfl) (.inr hI) rfl fun a hA => ?_
                refine g_skip (i := 18) hA rfl (wanted_no hA rfl rfl (by rw [hc60]; simp [vb])) (by kernel_rfl) (.inr hI) rfl fun a hA => ?_
                refine g_skip (i := 19) hA rfl (wanted_no hA rfl rfl (by rw [hc60]; simp [vb])) (by kernel_rfl) (.inr hI) rfl fun a hA => ?_
                refine g_easy (i := 20) hA rfl rfl (by kernel_rfl) (.inr hI) (fun _ => r_pick_f hA rfl hc60 rfl) rfl fun a hA => ?_
                refine g_easy (i := 21) hA rfl rfl (by kernel_rfl) (.inr hI) (fun _ => r_mv hA rfl) rfl fun a hA => ?_
                refine g_skip (i := 22) hA rfl (wanted_no hA rfl rfl (by simp [vb])) (by kernel_rfl) (.inr hI) rfl fun a hA => ?_
                refine g_skip (i := 24) hA rfl (wanted_no hA rfl rfl (by simp [vb])) (by kernel_rfl) (.inr hI) rfl fun a hA => ?_
                refine g_skip (i := 23) hA rfl (wanted_no hA rfl rfl (by simp [vb])) (by kernel_rfl) (.inr hI) rfl fun a hA => ?_
                refine g_skip (i := 25) hA rfl (wanted_no hA rfl rfl (by simp [vb])) (by kernel_rfl) (.inr hI) rfl fun a hA => ?_
                refine g_skip (i := 26) hA rfl (wanted_no hA rfl rfl (by simp [vb])) (by kernel_rfl) (.inr hI) rfl fun a hA => ?_
                refine g_easy (i := 27) hA rfl rfl (by kernel_rfl) (.inr hI) (fun _ => r_pick_f hA rfl rfl rfl) rfl fun a hA => ?_
                refine g_easy (i := 28) hA rfl rfl (by kernel_rfl) (.inr hI) (fun _ => r_mv hA rfl) rfl fun a hA => ?_
                refine g_skip (i := 29) hA rfl (wanted_no hA rfl rfl (by simp [vb])) (by kernel_rfl) (.inr hI) rfl fun a hA => ?_
                refine g_skip (i := 31) hA rfl (wanted_no hA rfl rfl (by simp [vb])) (by kernel_rfl) (.inr hI) rfl fun a hA => ?_
                refine g_skip (i := 30) hA rfl (wanted_no hA rfl rfl (by simp [vb])) (by kernel_rfl) (.inr hI) rfl fun a hA => ?_
                refine g_skip (i := 32) hA rfl (wanted_no hA rfl rfl (by simp [vb])) (by kernel_rfl) (.inr hI) rfl fun a hA => ?_
                refine g_skip (i := 33) hA rfl (wanted_no hA rfl rfl (by simp [vb])) (by kernel_rfl) (.inr hI) rfl fun a hA => ?_
                refine g_easy (i := 34) hA rfl rfl (by kernel_rfl) (.inr hI) (fun _ => r_pick_f hA rfl rfl rfl) rfl fun a hA => ?_
                refine g_easy (i := 35) hA rfl rfl (by kernel_rfl) (.inr hI) (fun _ => r_mv hA rfl) rfl fun a hA => ?_
                refine g_skip (i := 36) hA rfl (wanted_no hA rfl rfl (by simp [vb])) (by kernel_rfl) (.inr hI) rfl fun a hA => ?_
                refine g_skip (i := 37) hA rfl (wanted_no hA rfl rfl (by simp [vb])) (by kernel_rfl) (.inr hI) rfl fun a hA => ?_
                refine g_skip (i := 39) hA rfl (wanted_no hA rfl rfl (by simp [vb])) (by kernel_rfl) (.inr hI) rfl fun a hA => ?_
                refine g_skip (i := 40) hA rfl (wanted_no hA rfl rfl (by simp [vb])) (by kernel_rfl) (.inr hI) rfl fun a hA => ?_
                refine g_skip (i := 38) hA rfl (wanted_no hA rfl rfl (by simp [vb])) (by kernel_rfl) (.inr hI) rfl fun a hA => ?_
                refine g_skip (i := 41) hA rfl (wanted_no hA rfl rfl (by simp [vb])) (by kernel_rfl) (.inr hI) rfl fun a hA => ?_
                refine g_skip (i := 42) hA rfl (wanted_no hA rfl rfl (by simp [vb])) (by kernel_rfl) (.inr hI) rfl fun a hA => ?_
                refine g_easy (i := 43) hA rfl rfl (by kernel_rfl) (.inr hI) (fun _ => r_pick_f hA rfl rfl rfl) rfl fun a hA => ?_
                refine g_easy (i := 44) hA rfl rfl (by kernel_rfl) (.inr hI) (fun _ => r_mv hA rfl) rfl fun a hA => ?_
                refine g_skip (i := 45) hA rfl (wanted_no hA rfl rfl (by simp [vb])) (by kernel_rfl) (.inr hI) rfl fun a hA => ?_
                refine g_skip (i := 47) hA rfl (wanted_no hA rfl rfl (by simp [vb])) (by kernel_rfl) (.inr hI) rfl fun a hA => ?_
                refine g_skip (i := 46) hA rfl (wanted_no hA rfl rfl (by simp [vb])) (by kernel_rfl) (.inr hI) rfl fun a hA => ?_
                refine g_skip (i := 48) hA rfl (wanted_no hA rfl rfl (by simp [vb])) (by kernel_rfl) (.inr hI) rfl fun a hA => ?_
                refine g_easy (i := 49) hA rfl rfl (by kernel_rfl) (.inr hI) (fun _ => r_pick_f hA rfl rfl rfl) rfl fun a hA => ?_
                refine g_easy (i := 50) hA rfl rfl (by kernel_rfl) (.inr hI) (fun _ => r_as hA rfl) rfl fun a hA => ?_
                refine g_nil (by kernel_rfl) ?_
                cases Option.some.inj (bS H)
                exact ⟨μ, (Store.le.refl _), hA.sub ⟨rfl, rfl, rfl, rfl, rfl, rfl, rfl, rfl, rfl, trivial⟩, (hI.sel [1, 2, 3] (by decide) rfl)⟩
            · have hc50 := hc5; have hc5 := ft hc5; have H := bF H hc5
              refine g_skip (i := 8) hA rfl (wanted_no hA rfl rfl (by rw [hc50]; simp [vb])) (by kernel_rfl) (.inr (hI.sel [1, 2, 3] (by decide) rfl)) rfl fun a hA => ?_
              refine g_skip (i := 10) hA rfl (wanted_no hA rfl rfl (by rw [hc50]; simp [vb])) (by kernel_rfl) (.inr (hI.sel [1, 2, 3] (by decide) rfl)) rfl fun a hA => ?_
              refine g_skip (i := 11) hA rfl (wanted_no hA rfl rfl (by rw [hc50]; simp [vb])) (by kernel_rfl) (.inr (hI.sel [1, 2, 3] (by decide) rfl)) rfl fun a hA => ?_
              refine g_skip (i := 9) hA rfl (wanted_no hA rfl rfl (by rw [hc50]; simp [vb])) (by kernel_rfl) (.inr (hI.sel [1, 2, 3] (by decide) rfl)) rfl fun a hA => ?_
              refine g_skip (i := 12) hA rfl (wanted_no hA rfl rfl (by rw [hc50]; simp [vb])) (by kernel_rfl) (.inr (hI.sel [1, 2, 3] (by decide) rfl)) rfl fun a hA => ?_
              refine g_easy (i := 13) hA rfl rfl (by kernel_rfl) (.inr (hI.sel [1, 2, 3] (by decide) rfl)) (fun _ => r_pick_f hA rfl hc50 rfl) rfl fun a hA => ?_
              refine g_easy (i := 14) hA rfl rfl (by kernel_rfl) (.inr (hI.sel [1, 2, 3] (by decide) rfl)) (fun _ => r_mv hA rfl) rfl fun a hA => ?_
              refine g_skip (i := 15) hA rfl (wanted_no hA rfl rfl (by simp [vb])) (by kernel_rfl) (.inr (hI.sel [1, 2, 3] (by decide) rfl)) rfl fun a hA => ?_
              refine g_skip (i := 17) hA rfl (wanted_no hA rfl rfl (by simp [vb])) (by kernel_rfl) (.inr (hI.sel [1, 2, 3] (by decide) rfl)) rfl fun a hA => ?_
              refine g_skip (i := 16) hA rfl (wanted_no hA rfl rfl (by simp [vb])) (by kernel_rfl) (.inr (hI.sel [1, 2, 3] (by decide) rfl)) rfl fun a hA => ?_
              refine g_skip (i := 18) hA rfl (wanted_no hA rfl rfl (by simp [vb])) (by kernel_rfl) (.inr (hI.sel [1, 2, 3] (by decide) rfl)) rfl fun a hA => ?_
              refine g_skip (i := 19) hA rfl (wanted_no hA rfl rfl (by simp [vb])) (by kernel_rfl) (.inr (hI.sel [1, 2, 3] (by decide) rfl)) rfl fun a hA => ?_
              refine g_easy (i := 20) hA rfl rfl (by kernel_rfl) (.inr (hI.sel [1, 2, 3] (by decide) rfl)) (fun _ => r_pick_f hA rfl rfl rfl) rfl fun a hA => ?_
              refine g_easy (i := 21) hA rfl rfl (by kernel_rfl) (.inr (hI.sel [1, 2, 3] (by decide) rfl)) (fun _ => r_mv hA rfl) rfl fun a hA => ?_
              refine g_skip (i := 22) hA rfl (wanted_no hA rfl rfl (by simp [vb])) (by kernel_rfl) (.inr (hI.sel [1, 2, 3] (by decide) rfl)) rfl fun a hA => ?_
              refine g_skip (i := 24) hA rfl (wanted_no hA rfl rfl (by simp [vb])) (by kernel_rfl) (.inr (hI.sel [1, 2, 3] (by decide) rfl)) rfl fun a hA => ?_
              refine g_skip (i := 23) hA rfl (wanted_no hA rfl rfl (by simp [vb])) (by kernel_rfl) (.inr (hI.sel [1, 2, 3] (by decide) rfl)) rfl fun a hA => ?_
              refine g_skip (i := 25) hA rfl (wanted_no hA rfl rfl (by simp [vb])) (by kernel_rfl) (.inr (hI.sel [1, 2, 3] (by decide) rfl)) rfl fun a hA => ?_
              refine g_skip (i := 26) hA rfl (wanted_no hA rfl rfl (by simp [vb])) (by kernel_rfl) (.inr (hI.sel [1, 2, 3] (by decide) rfl)) rfl fun a hA => ?_
              refine g_easy (i := 27) hA rfl rfl (by kernel_rfl) (.inr (hI.sel [1, 2, 3] (by decide) rfl)) (fun _ => r_pick_f hA rfl rfl rfl) rfl fun a hA => ?_
              refine g_easy (i := 28) hA rfl rfl (by kernel_rfl) (.inr (hI.sel [1, 2, 3] (by decide) rfl)) (fun _ => r_mv hA rfl) rfl fun a hA => ?_
              refine g_skip (i := 29) hA rfl (wanted_no hA rfl rfl (by simp [vb])) (by kernel_rfl) (.inr (hI.sel [1, 2, 3] (by decide) rfl)) rfl fun a hA => ?_
              refine g_skip (i := 31) hA rfl (wanted_no hA rfl rfl (by simp [vb])) (by kernel_rfl) (.inr (hI.sel [1, 2, 3] (by decide) rfl)) rfl fun a hA => ?_
              refine g_skip (i := 30) hA rfl (wanted_no hA rfl rfl (by simp [vb])) (by kernel_rfl) (.inr (hI.sel [1, 2, 3] (by decide) rfl)) rfl fun a hA => ?_
              refine g_skip (i := 32) hA rfl (wanted_no hA rfl rfl (by simp [vb])) (by kernel_rfl) (.inr (hI.sel [1, 2, 3] (by decide) rfl)) rfl fun a hA => ?_
              refine g_skip (i := 33) hA rfl (wanted_no hA rfl rfl (by simp [vb])) (by kernel_rfl) (.inr (hI.sel [1, 2, 3] (by decide) rfl)) rfl fun a hA => ?_
              refine g_easy (i := 34) hA rfl rfl (by kernel_rfl) (.inr (hI.sel [1, 2, 3] (by decide) rfl)) (fun _ => r_pick_f hA rfl rfl rfl) rfl fun a hA => ?_
              refine g_easy (i := 35) hA rfl rfl (by kernel_rfl) (.inr (hI.sel [1, 2, 3] (by decide) rfl)) (fun _ => r_mv hA rfl) rfl fun a hA => ?_
              refine g_skip (i := 36) hA rfl (wanted_no hA rfl rfl (by simp [vb])) (by kernel_rfl) (.inr (hI.sel [1, 2, 3] (by decide) rfl)) rfl fun a hA => ?_
              refine g_skip (i := 37) hA rfl (wanted_no hA rfl rfl (by simp [vb])) (by kernel_rfl) (.inr (hI.sel [1, 2, 3] (by decide) rfl)) rfl fun a hA => ?_
              refine g_skip (i := 39) hA rfl (wanted_no hA rfl rfl (by simp [vb])) (by kernel_rfl) (.inr (hI.sel [1, 2, 3] (by decide) rfl)) rfl fun a hA => ?_
              refine g_skip (i := 40) hA rfl (wanted_no hA rfl rfl (by simp [vb])) (by kernel_rfl) (.inr (hI.sel [1, 2, 3] (by decide) rfl)) rfl fun a hA => ?_
              refine g_skip (i := 38) hA rfl (wanted_no hA rfl rfl (by simp [vb])) (by kernel_rfl) (.inr (hI.sel [1, 2, 3] (by decide) rfl)) rfl fun a hA => ?_
              refine g_skip (i := 41) hA rfl (wanted_no hA rfl rfl (by simp [vb])) (by kernel_rfl) (.inr (hI.sel [1, 2, 3] (by decide) rfl)) rfl fun a hA => ?_
              refine g_skip (i := 42) hA rfl (wanted_no hA rfl rfl (by simp [vb])) (by kernel_rfl) (.inr (hI.sel [1, 2, 3] (by decide) rfl)) rfl fun a hA => ?_
              refine g_easy (i := 43) hA rfl rfl (by kernel_rfl) (.inr (hI.sel [1, 2, 3] (by decide) rfl)) (fun _ => r_pick_f hA rfl rfl rfl) rfl fun a hA => ?_
              refine g_easy (i := 44) hA rfl rfl (by kernel_rfl) (.inr (hI.sel [1, 2, 3] (by decide) rfl)) (fun _ => r_mv hA rfl) rfl fun a hA => ?_
              refine g_skip (i := 45) hA rfl (wanted_no hA rfl rfl (by simp [vb])) (by kernel_rfl) (.inr (hI.sel [1, 2, 3] (by decide) rfl)) rfl fun a hA => ?_
              refine g_skip (i := 47) hA rfl (wanted_no hA rfl rfl (by simp [vb])) (by kernel_rfl) (.inr (hI.sel [1, 2, 3] (by decide) rfl)) rfl fun a hA => ?_
              refine g_skip (i := 46) hA rfl (wanted_no hA rfl rfl (by simp [vb])) (by kernel_rfl) (.inr (hI.sel [1, 2, 3] (by decide) rfl)) rfl fun a hA => ?_
              refine g_skip (i := 48) hA rfl (wanted_no hA rfl rfl (by simp [vb])) (by kernel_rfl) (.inr (hI.sel [1, 2, 3] (by decide) rfl)) rfl fun a hA => ?_
              refine g_easy (i := 49) hA rfl rfl (by kernel_rfl) (.inr (hI.sel [1, 2, 3] (by decide) rfl)) (fun _ => r_pick_f hA rfl rfl rfl) rfl fun a hA => ?_
              refine g_easy (i := 50) hA rfl rfl (by kernel_rfl) (.inr (hI.sel [1, 2, 3] (by decide) rfl)) (fun _ => r_as hA rfl) rfl fun a hA => ?_
              refine g_nil (by kernel_rfl) ?_
              cases Option.some.inj (bS H)
              exact ⟨μ, (Store.le.refl _), hA.sub ⟨rfl, rfl, rfl, rfl, rfl, rfl, rfl, rfl, rfl, trivial⟩, (hI.sel [1, 2, 3] (by decide) rfl)⟩
          · have hc40 := hc4; have hc4 := ft hc4; have H := bF H hc4
            refine g_skip (i := 2) hA rfl (wanted_no hA rfl rfl (by rw [hc40]; simp [vb])) (by kernel_rfl) (.inr hI) rfl fun a hA => ?_
            refine g_skip (i := 4) hA rfl (wanted_no hA rfl rfl (by rw [hc40]; simp [vb])) (by kernel_rfl) (.inr hI) rfl fun a hA => ?_
            refine g_skip (i := 3) hA rfl (wanted_no hA rfl rfl (by rw [hc40]; simp [vb])) (by kernel_rfl) (.inr hI) rfl fun a hA => ?_
            refine g_skip (i := 5) hA rfl (wanted_no hA rfl rfl (by rw [hc40]; simp [vb])) (by kernel_rfl) (.inr hI) rfl fun a hA => ?_
            refine g_easy (i := 6) hA rfl rfl (by kernel_rfl) (.inr hI) (fun _ => r_pick_f hA rfl hc40 rfl) rfl fun a hA => ?_
            refine g_easy (i := 7) hA rfl rfl (by kernel_rfl) (.inr hI) (fun _ => r_mv hA rfl) rfl fun a hA => ?_
            refine g_skip (i := 8) hA rfl (wanted_no hA rfl rfl (by simp [vb])) (by kernel_rfl) (.inr hI) rfl fun a hA => ?_
            refine g_skip (i := 10) hA rfl (wanted_no hA rfl rfl (by simp [vb])) (by kernel_rfl) (.inr hI) rfl fun a hA => ?_
            refine g_skip (i := 11) hA rfl (wanted_no hA rfl rfl (by simp [vb])) (by kernel_rfl) (.inr hI) rfl fun a hA => ?_
            refine g_skip (i := 9) hA rfl (wanted_no hA rfl rfl (by simp [vb])) (by kernel_rfl) (.inr hI) rfl fun a hA => ?_
            refine g_skip (i := 12) hA rfl (wanted_no hA rfl rfl (by simp [vb])) (by kernel_rfl) (.inr hI) rfl fun a hA => ?_
            refine g_easy (i := 13) hA rfl rfl (by kernel_rfl) (.inr hI) (fun _ => r_pick_f hA rfl rfl rfl) rfl fun a hA => ?_
            refine g_easy (i := 14) hA rfl rfl (by kernel_rfl) (.inr hI) (fun _ => r_mv hA rfl) rfl fun a hA => ?_
            refine g_skip (i := 15) hA rfl (wanted_no hA rfl rfl (by simp [vb])) (by kernel_rfl) (.inr hI) rfl fun a hA => ?_
            refine g_skip (i := 17) hA rfl (wanted_no hA rfl rfl (by simp [vb])) (by kernel_rfl) (.inr hI) rfl fun a hA => ?_
            refine g_skip (i := 16) hA rfl (wanted_no hA rfl rfl (by simp [vb])) (by kernel_rfl) (.inr hI) rfl fun a hA => ?_
            refine g_skip (i := 18) hA rfl (wanted_no hA rfl rfl (by simp [vb])) (by kernel_rfl) (.inr hI) rfl fun a hA => ?_
            refine g_skip (i := 19) hA rfl (wanted_no hA rfl rfl (by simp [vb])) (by kernel_rfl) (.inr hI) rfl fun a hA => ?_
            refine g_easy (i := 20) hA rfl rfl (by kernel_rfl) (.inr hI) (fun _ => r_pick_f hA rfl rfl rfl) rfl fun a hA => ?_
            refine g_easy (i := 21) hA rfl rfl (by kernel_rfl) (.inr hI) (fun _ => r_mv hA rfl) rfl fun a hA => ?_
            refine g_skip (i := 22) hA rfl (wanted_no hA rfl rfl (by simp [vb])) (by kernel_rfl) (.inr hI) rfl fun a hA => ?_
            refine g_skip (i := 24) hA rfl (wanted_no hA rfl rfl (by simp [vb])) (by kernel_rfl) (.inr hI) rfl fun a hA => ?_
            refine g_skip (i := 23) hA rfl (wanted_no hA rfl rfl (by simp [vb])) (by kernel_rfl) (.inr hI) rfl fun a hA => ?_
            refine g_skip (i := 25) hA rfl (wanted_no hA rfl rfl (by simp [vb])) (by kernel_rfl) (.inr hI) rfl fun a hA => ?_
            refine g_skip (i := 26) hA rfl (wanted_no hA rfl rfl (by simp [vb])) (by kernel_rfl) (.inr hI) rfl fun a hA => ?_
            refine g_easy (i := 27) hA rfl rfl (by kernel_rfl) (.inr hI) (fun _ => r_pick_f hA rfl rfl rfl) rfl fun a hA => ?_
            refine g_easy (i := 28) hA rfl rfl (by kernel_rfl) (.inr hI) (fun _ => r_mv hA rfl) rfl fun a hA => ?_
            refine g_skip (i := 29) hA rfl (wanted_no hA rfl rfl (by simp [vb])) (by kernel_rfl) (.inr hI) rfl fun a hA => ?_
            refine g_skip (i := 31) hA rfl (wanted_no hA rfl rfl (by simp [vb])) (by kernel_rfl) (.inr hI) rfl fun a hA => ?_
            refine g_skip (i := 30) hA rfl (wanted_no hA rfl rfl (by simp [vb])) (by kernel_rfl) (.inr hI) rfl fun a hA => ?_
            refine g_skip (i := 32) hA rfl (wanted_no hA rfl rfl (by simp [vb])) (by kernel_rfl) (.inr hI) rfl fun a hA => ?_
            refine g_skip (i := 33) hA rfl (wanted_no hA rfl rfl (by simp [vb])) (by kernel_rfl) (.inr hI) rfl fun a hA => ?_
            refine g_easy (i := 34) hA rfl rfl (by kernel_rfl) (.inr hI) (fun _ => r_pick_f hA rfl rfl rfl) rfl fun a hA => ?_
            refine g_easy (i := 35) hA rfl rfl (by kernel_rfl) (.inr hI) (fun _ => r_mv hA rfl) rfl fun a hA => ?_
            refine g_skip (i := 36) hA rfl (wanted_no hA rfl rfl (by simp [vb])) (by kernel_rfl) (.inr hI) rfl fun a hA => ?_
            refine g_skip (i := 37) hA rfl (wanted_no hA rfl rfl (by simp [vb])) (by kernel_rfl) (.inr hI) rfl fun a hA => ?_
            refine g_skip (i := 39) hA rfl (wanted_no hA rfl rfl (by simp [vb])) (by kernel_rfl) (.inr hI) rfl fun a hA => ?_
            refine g_skip (i := 40) hA rfl (wanted_no hA rfl rfl (by simp [vb])) (by kernel_rfl) (.inr hI) rfl fun a hA => ?_
            refine g_skip (i := 38) hA rfl (wanted_no hA rfl rfl (by simp [vb])) (by kernel_rfl) (.inr hI) rfl fun a hA => ?_
            refine g_skip (i := 41) hA rfl (wanted_no hA rfl rfl (by simp [vb])) (by kernel_rfl) (.inr hI) rfl fun a hA => ?_
            refine g_skip (i := 42) hA rfl (wanted_no hA rfl rfl (by simp [vb])) (by kernel_rfl) (.inr hI) rfl fun a hA => ?_
            refine g_easy (i := 43) hA rfl rfl (by kernel_rfl) (.inr hI) (fun _ => r_pick_f hA rfl rfl rfl) rfl fun a hA => ?_
            refine g_easy (i := 44) hA rfl rfl (by kernel_rfl) (.inr hI) (fun _ => r_mv hA rfl) rfl fun a hA => ?_
            refine g_skip (i := 45) hA rfl (wanted_no hA rfl rfl (by simp [vb])) (by kernel_rfl) (.inr hI) rfl fun a hA => ?_
            refine g_skip (i := 47) hA rfl (wanted_no hA rfl rfl (by simp [vb])) (by kernel_rfl) (.inr hI) rfl fun a hA => ?_
            refine g_skip (i := 46) hA rfl (wanted_no hA rfl rfl (by simp [vb])) (by kernel_rfl) (.inr hI) rfl fun a hA => ?_
            refine g_skip (i := 48) hA rfl (wanted_no hA rfl rfl (by simp [vb])) (by kernel_rfl) (.inr hI) rfl fun a hA => ?_
            refine g_easy (i := 49) hA rfl rfl (by kernel_rfl) (.inr hI) (fun _ => r_pick_f hA rfl rfl rfl) rfl fun a hA => ?_
            refine g_easy (i := 50) hA rfl rfl (by kernel_rfl) (.inr hI) (fun _ => r_as hA rfl) rfl fun a hA => ?_
            refine g_nil (by kernel_rfl) ?_
            cases Option.some.inj (bS H)
            exact ⟨μ, (Store.le.refl _), hA.sub ⟨rfl, rfl, rfl, rfl, rfl, rfl, rfl, rfl, rfl, trivial⟩, hI⟩
        · rintro a w ⟨μ1, hle1, hA, hI⟩
          have H := Hk2
          refine w_ret ?_
          obtain rfl := Option.some.inj (bS H)
          exact ret1 hA Tryd.results13 rfl ⟨_, rfl, rfl, trivial, hI.forget0⟩
end Go.Proofs.YtpeelghbhihgkaaDoor.T
namespace Go.Proofs.YtpeelghbhihgkaaDoor.T
open Go Go.Proofs Go.Proofs.YtpeelghbhihgkaaDoor.K
set_option linter.unusedVariables false
theorem w64 {x : Int} (h0 : -9223372036854775808 ≤ x) (h1 : x < 9223372036854775808) : IntKind.i64.wrap x = x := wrap_id ⟨h0, h1⟩
theorem wu64 {x : Int} (h0 : 0 ≤ x) (h1 : x < 18446744073709551616) : IntKind.u64.wrap x = x := wrap_id ⟨h0, h1⟩
end Go.Proofs.YtpeelghbhihgkaaDoor.T
namespace Go.Proofs.YtpeelghbhihgkaaDoor.T
open Go Go.Proofs Go.Proofs.YtpeelghbhihgkaaDoor.K
set_option linter.unusedVariables false
set_option linter.unusedSimpArgs false
theorem loop_idx {τ ρ : Type} {step : τ → Option (τ ⊕ ρ)} (st : Nat → τ) (n : Nat) (h : ∀ i, i < n → step (st i) = some (.inl (st (i + 1)))) : loopO step (st 0) = loopO step (st n) := by
  induction n with
  | zero => rfl
  | succ n ih => rw [ih (fun i hi => h i (by omega)), loopO_inl (h n (by omega))]
theorem loop_run {τ ρ : Type} {step : τ → Option (τ ⊕ ρ)} (st : Nat → τ) (n : Nat) {r : ρ} {s : τ} (h0 : s = st 0) (h : ∀ i, i < n → step (st i) = some (.inl (st (i + 1)))) (hn : step (st n) = some (.inr r)) : loopO step s = some r := by
  rw [h0, loop_idx st n h, loopO_inr hn]
theorem bv_nat (n a : Nat) (h : a < 2 ^ n) : (BitVec.ofInt n (a : Int)).toNat = a := by
  rw [BitVec.toNat_ofInt]
  have : ((a : Int) % ((2 ^ n : Nat) : Int)) = a := Int.emod_eq_of_lt (by omega) (by exact_mod_cast h)
  rw [this]
  rfl
theorem in_u (k : IntKind) (hk : k.signed = false) {a : Nat} (h : a < 2 ^ k.bits) : InR k (a : Int) := by
  cases k <;> simp [IntKind.signed] at hk <;> simp [IntKind.bits] at h <;> simp [InR] <;> omega
theorem bAnd_nat (k : IntKind) (hk : k.signed = false) {a b : Nat} (ha : a < 2 ^ k.bits) (hb : b < 2 ^ k.bits) : bAnd k a b = ((a &&& b : Nat) : Int) := by
  unfold bAnd
  rw [BitVec.toNat_and, bv_nat _ _ ha, bv_nat _ _ hb]
  exact wrap_id (in_u k hk (Nat.lt_of_le_of_lt Nat.and_le_left ha))
theorem sR_nat (k : IntKind) {a n : Nat} (hn : n ≤ k.bits) : sR k (a : Int) (n : Int) = ((a >>> n : Nat) : Int) := by
  unfold sR
  have e : min (n : Int).toNat k.bits = n := by simp; omega
  rw [e, Nat.shiftRight_eq_div_pow]
  rw [Int.fdiv_eq_ediv_of_nonneg _ (by exact Int.pow_nonneg (by omega))]
  push_cast
  rfl
theorem and_low (n i : Nat) : n &&& (2 ^ i - 1) = n % 2 ^ i := Nat.and_two_pow_sub_one_eq_mod n i
end Go.Proofs.YtpeelghbhihgkaaDoor.T
namespace Go.Proofs.YtpeelghbhihgkaaDoor.T
open Go Go.Proofs Go.Proofs.YtpeelghbhihgkaaDoor.K
set_option linter.unusedVariables false
set_option linter.unusedSimpArgs false
def rotr (x n : Int) : Int := bOr .u32 (sR .u32 x n) (sL .u32 x (32 - n))
def wordAt (b : List Int) (p : Nat) : Int :=
  bOr .u32 (bOr .u32 (bOr .u32 (sL .u32 (IntKind.u32.wrap (b.getD p 0)) 24) (sL .u32 (IntKind.u32.wrap (b.getD (p + 1) 0)) 16)) (sL .u32 (IntKind.u32.wrap (b.getD (p + 2) 0)) 8)) (IntKind.u32.wrap (b.getD (p + 3) 0))
def sg0 (y : Int) : Int := bXor .u32 (bXor .u32 (rotr y 7) (rotr y 18)) (sR .u32 y 3)
def sg1 (x : Int) : Int := bXor .u32 (bXor .u32 (rotr x 17) (rotr x 19)) (sR .u32 x 10)
def schedVal (b : List Int) (p : Nat) (w : List Int) (t : Nat) : Int :=
  if t < 16 then wordAt b (p + 4 * t) else IntKind.u32.wrap (w.getD (t - 16) 0 + sg0 (w.getD (t - 15) 0) + w.getD (t - 7) 0 + sg1 (w.getD (t - 2) 0))
def schedR (b : List Int) (p : Nat) : Nat → List Int
  | 0 => List.replicate 64 0
  | t + 1 => (fun w => w.set t (schedVal b p w t)) (schedR b p t)
def kc : List Int := digest_keys.lit0
def rt1 (x : List Int) (k w : Int) : Int := IntKind.u32.wrap (x.getD 7 0 + bXor .u32 (bXor .u32 (rotr (x.getD 4 0) 6) (rotr (x.getD 4 0) 11)) (rotr (x.getD 4 0) 25) + bXor .u32 (bAnd .u32 (x.getD 4 0) (x.getD 5 0)) (bAnd .u32 (bNot .u32 (x.getD 4 0)) (x.getD 6 0)) + k + w)
def rt2 (x : List Int) : Int := bXor .u32 (bXor .u32 (rotr (x.getD 0 0) 2) (rotr (x.getD 0 0) 13)) (rotr (x.getD 0 0) 22) + bXor .u32 (bXor .u32 (bAnd .u32 (x.getD 0 0) (x.getD 1 0)) (bAnd .u32 (x.getD 0 0) (x.getD 2 0))) (bAnd .u32 (x.getD 1 0) (x.getD 2 0))
def rstep (x : List Int) (k w : Int) : List Int :=
  [IntKind.u32.wrap (rt1 x k w + rt2 x), x.getD 0 0, x.getD 1 0, x.getD 2 0, IntKind.u32.wrap (x.getD 3 0 + rt1 x k w), x.getD 4 0, x.getD 5 0, x.getD 6 0]
def roundR (w s : List Int) : Nat → List Int
  | 0 => s
  | t + 1 => rstep (roundR w s t) (kc.getD t 0) (w.getD t 0)
def addR (x s : List Int) : Nat → List Int
  | 0 => s
  | i + 1 => (fun z => z.set i (IntKind.u32.wrap (z.getD i 0 + x.getD i 0))) (addR x s i)
def mixV (s b : List Int) (p : Nat) : List Int := addR (roundR (schedR b p 64) s 64) s 8
def blocksR (m s : List Int) : Nat → List Int
  | 0 => s
  | n + 1 => mixV (blocksR m s n) m (64 * n)
def iv0 : List Int := [1779033703, 3144134277, 1013904242, 2773480762, 1359893119, 2600822924, 528734635, 1541459225]
def outB (s : List Int) (i : Nat) : Int := IntKind.u8.wrap (sR .u32 (s.getD (i / 4) 0) (24 - 8 * ((i % 4 : Nat) : Int)))
def outL (s : List Int) : List Int := (List.range 32).map (outB s)
def zs (n : Nat) : Nat := (120 - n % 64) % 64
def lenB (n i : Nat) : Int := IntKind.u8.wrap (sR .u64 (IntKind.u64.wrap (8 * (n : Int))) (8 * (7 - (i : Int))))
def padR (m : List Int) : List Int := m ++ ([128] ++ (List.replicate (zs (m.length + 1)) 0 ++ (List.range 8).map (lenB m.length)))
def sha (m : List Int) : List Int := outL (blocksR (padR m) iv0 ((padR m).length / 64))
end Go.Proofs.YtpeelghbhihgkaaDoor.T
namespace Go.Proofs.YtpeelghbhihgkaaDoor.T
open Go Go.Proofs Go.Proofs.YtpeelghbhihgkaaDoor.K
set_option linter.unusedVariables false
set_option linter.unusedSimpArgs false
theorem u32e (x : Int) : IntKind.u32.wrap x = x % 4294967296 := by simp [IntKind.wrap, IntKind.signed, IntKind.bits]
theorem wl (a b : Int) : IntKind.u32.wrap (IntKind.u32.wrap a + b) = IntKind.u32.wrap (a + b) := by simp only [u32e]; omega
theorem wr (a b : Int) : IntKind.u32.wrap (a + IntKind.u32.wrap b) = IntKind.u32.wrap (a + b) := by simp only [u32e]; omega
theorem bOr_comm (k : IntKind) (a b : Int) : bOr k a b = bOr k b a := by unfold bOr; rw [BitVec.or_comm]
theorem right_f (x n : Int) (h0 : 0 ≤ n) (h1 : n ≤ 32) : sargassoref1_right.f x n = some (rotr x n) := by
  simp only [sargassoref1_right.f, rotr]
  rw [wu64 (x := 32 - n) (by omega) (by omega), if_pos h0, if_pos (by omega)]
theorem turn_f (x n : Int) (h0 : 0 < n) (h1 : n < 32) : digest_turn.f x n = some (rotr x n) := by
  simp only [digest_turn.f, math_bits_RotateLeft32.f, rotr]
  have e1 : IntKind.i64.wrap (0 - n) = -n := by rw [w64 (by omega) (by omega)]; omega
  have e2 : IntKind.u64.wrap (-n) = 18446744073709551616 - n := by
    simp [IntKind.wrap, IntKind.signed, IntKind.bits]
    omega
  obtain ⟨m, rfl⟩ : ∃ m : Nat, n = m := ⟨n.toNat, by omega⟩
  have e3 : bAnd .u64 (18446744073709551616 - (m : Int)) 31 = 32 - (m : Int) := by
    have h := bAnd_nat .u64 rfl (a := 18446744073709551616 - m) (b := 31) (by simp [IntKind.bits]; omega) (by simp [IntKind.bits])
    have e : ((18446744073709551616 - m : Nat) : Int) = 18446744073709551616 - (m : Int) := by omega
    rw [e] at h
    have h' : (18446744073709551616 - m) &&& 31 = (18446744073709551616 - m) % 32 := and_low _ 5
    rw [h'] at h
    rw [show ((31 : Nat) : Int) = 31 from rfl] at h
    rw [h]
    omega
  rw [e1, e2, e3, wu64 (x := 32 - (32 - (m : Int))) (by omega) (by omega), if_pos (by omega), if_pos (by omega)]
  have e4 : 32 - (32 - (m : Int)) = m := by omega
  rw [e4, bOr_comm]
  rfl
theorem schedR_len (b : List Int) (p t : Nat) : (schedR b p t).length = 64 := by
  induction t with
  | zero => simp [schedR]
  | succ t ih => simp [schedR, ih]
theorem getD_drop' (l : List Int) (a i : Nat) : (l.drop a).getD i 0 = l.getD (a + i) 0 := by simp [List.getD]
theorem getD_take' (l : List Int) (a i : Nat) (h : i < a) : (l.take a).getD i 0 = l.getD i 0 := by simp [List.getD, h]
theorem wsub (i c : Nat) (hc : c ≤ i) (hi : i < 1000) : IntKind.i64.wrap ((i : Int) - (c : Nat)) = ((i - c : Nat) : Int) := by
  rw [w64 (by omega) (by omega)]; omega
theorem wadd1 (i : Nat) (hi : i < 9223372036854775807) : IntKind.i64.wrap ((i : Int) + 1) = ((i + 1 : Nat) : Int) := by
  rw [w64 (by omega) (by omega)]; omega
theorem wmul4 (i : Nat) (hi : i < 1000) : IntKind.i64.wrap (4 * (i : Int)) = ((4 * i : Nat) : Int) := by
  rw [w64 (by omega) (by omega)]; omega
theorem spread_step (b : List Int) (h : b.length = 64) (w : List Int) (i : Nat) (hi : i < 64) : digest_spread.s0 b ((i : Int), w) = some (.inl (((i + 1 : Nat) : Int), w.set i (schedVal b 0 w i))) := by
  simp only [digest_spread.s0]
  rw [if_pos (by omega)]
  by_cases h16 : i < 16
  · have hl : (b.take ((b.length : Int)).toNat).drop (IntKind.i64.wrap (4 * (i : Int))).toNat = b.drop (4 * i) := by
      rw [wmul4 i (by omega), Int.toNat_natCast, Int.toNat_natCast, List.take_length]
    have hll : (b.drop (4 * i)).length = 64 - 4 * i := by simp [h]
    rw [if_pos (by omega), hl, hll, wmul4 i (by omega), if_pos (by omega), if_pos (by omega), if_pos (by omega), if_pos (by omega), if_pos (by omega), if_pos (by omega)]
    simp only [Option.bind_some, getD_drop', Int.toNat_natCast]
    rw [wadd1 i (by omega)]
    simp only [schedVal, if_pos h16, wordAt, Nat.zero_add]
    rfl
  · have e2 := wsub i 2 (by omega) (by omega)
    have e7 := wsub i 7 (by omega) (by omega)
    have e15 := wsub i 15 (by omega) (by omega)
    have e16 := wsub i 16 (by omega) (by omega)
    simp only [show ((2 : Nat) : Int) = 2 from rfl, show ((7 : Nat) : Int) = 7 from rfl, show ((15 : Nat) : Int) = 15 from rfl, show ((16 : Nat) : Int) = 16 from rfl] at e2 e7 e15 e16
    rw [if_neg (by omega), e2, e7, e15, e16, if_pos (by omega), if_pos (by omega), if_pos (by omega), if_pos (by omega)]
    simp only [Int.toNat_natCast, turn_f _ 17 (by omega) (by omega), turn_f _ 19 (by omega) (by omega), turn_f _ 7 (by omega) (by omega), turn_f _ 18 (by omega) (by omega), Option.bind_some]
    rw [if_pos (by omega), wadd1 i (by omega)]
    simp only [Option.bind_some, schedVal, if_neg h16, sg0, sg1]
    congr 4
    simp only [wl, wr]
    congr 1
    omega
theorem spread_eq (b : List Int) (h : b.length = 64) : digest_spread.f b = some (schedR b 0 64) := by
  simp only [digest_spread.f]
  have e := loop_run (step := digest_spread.s0 b) (s := (0, List.replicate 64 0)) (fun i => ((i : Int), schedR b 0 i)) 64 (r := schedR b 0 64) rfl (fun i hi => by
    rw [spread_step b h _ i hi]
    rfl) (by simp only [digest_spread.s0]; rw [if_neg (by decide)])
  rw [e]
  rfl
theorem mix0_step (w x : List Int) (i : Nat) (hi : i < 64) : digest_mix.s0 w digest_keys.lit0 ((i : Int), x) = some (.inl (((i + 1 : Nat) : Int), rstep x (kc.getD i 0) (w.getD i 0))) := by
  simp only [digest_mix.s0]
  rw [if_pos (by omega)]
  simp only [turn_f _ 6 (by omega) (by omega), turn_f _ 11 (by omega) (by omega), turn_f _ 25 (by omega) (by omega), turn_f _ 2 (by omega) (by omega), turn_f _ 13 (by omega) (by omega), turn_f _ 22 (by omega) (by omega), Option.bind_some, Int.toNat_natCast]
  rw [if_pos (by omega), wadd1 i (by omega)]
  simp only [rstep, rt1, rt2, kc, wl, wr, show (0 : Int).toNat = 0 from rfl, show (1 : Int).toNat = 1 from rfl, show (2 : Int).toNat = 2 from rfl, show (3 : Int).toNat = 3 from rfl, show (4 : Int).toNat = 4 from rfl, show (5 : Int).toNat = 5 from rfl, show (6 : Int).toNat = 6 from rfl, show (7 : Int).toNat = 7 from rfl]
theorem mix_eq (s b : List Int) (h : b.length = 64) : digest_mix.f s b = some (mixV s b 0) := by
  simp only [digest_mix.f, spread_eq b h, digest_keys.f, Option.bind_some]
  have e := loop_run (step := digest_mix.s0 (schedR b 0 64) digest_keys.lit0) (s := (0, s)) (fun i => ((i : Int), roundR (schedR b 0 64) s i)) 64 (r := roundR (schedR b 0 64) s 64) rfl (fun i hi => by
    rw [mix0_step _ _ i hi]
    rfl) (by simp only [digest_mix.s0]; rw [if_neg (by decide)])
  rw [e]
  simp only [Option.bind_some]
  have e := loop_run (step := digest_mix.s1 (roundR (schedR b 0 64) s 64)) (s := (0, s)) (fun i => ((i : Int), addR (roundR (schedR b 0 64) s 64) s i)) 8 (r := mixV s b 0) rfl (fun i hi => by
    simp only [digest_mix.s1]
    rw [if_pos (by omega), if_pos (by omega), wadd1 i (by omega)]
    simp only [Int.toNat_natCast, addR]) (by simp only [digest_mix.s1]; rw [if_neg (by decide)]; rfl)
  rw [e]
  rfl
theorem wordAt_in (m : List Int) (a n t : Nat) (h : t < 16) : wordAt ((m.take (a + 64)).drop a) (4 * t) = wordAt m (a + 4 * t) := by
  have e : ∀ j, j < 64 → ((m.take (a + 64)).drop a).getD j 0 = m.getD (a + j) 0 := fun j hj => by
    rw [getD_drop', getD_take' _ _ _ (by omega)]
  simp only [wordAt]
  rw [e _ (by omega), e _ (by omega), e _ (by omega), e _ (by omega)]
  simp only [Nat.add_assoc]
theorem schedR_in (m : List Int) (a t : Nat) : schedR ((m.take (a + 64)).drop a) 0 t = schedR m a t := by
  induction t with
  | zero => rfl
  | succ t ih =>
    simp only [schedR, ih]
    congr 1
    simp only [schedVal]
    by_cases h : t < 16
    · simp only [if_pos h, Nat.zero_add]
      exact wordAt_in m a 0 t h
    · simp only [if_neg h]
theorem mixV_in (s m : List Int) (a : Nat) : mixV s ((m.take (a + 64)).drop a) 0 = mixV s m a := by
  simp only [mixV, schedR_in]
theorem wordAt_app (m l : List Int) (p : Nat) (h : p + 3 < m.length) : wordAt (m ++ l) p = wordAt m p := by
  have e : ∀ j, j < m.length → (m ++ l).getD j 0 = m.getD j 0 := fun j hj => by simp [List.getD, List.getElem?_append_left hj]
  simp only [wordAt]
  rw [e _ (by omega), e _ (by omega), e _ (by omega), e _ (by omega)]
theorem schedR_app (m l : List Int) (p t : Nat) (h : p + 64 ≤ m.length) : schedR (m ++ l) p t = schedR m p t := by
  induction t with
  | zero => rfl
  | succ t ih =>
    simp only [schedR, ih]
    congr 1
    simp only [schedVal]
    by_cases h : t < 16
    · simp only [if_pos h]
      exact wordAt_app m l _ (by omega)
    · simp only [if_neg h]
theorem blocksR_app (m l s : List Int) (n : Nat) (h : 64 * n ≤ m.length) : blocksR (m ++ l) s n = blocksR m s n := by
  induction n with
  | zero => rfl
  | succ n ih =>
    simp only [blocksR, ih (by omega), mixV]
    rw [schedR_app _ _ _ _ (by omega)]
theorem mixV_drop (s m : List Int) (q a : Nat) : mixV s (m.drop q) a = mixV s m (q + a) := by
  have hw : ∀ p, wordAt (m.drop q) p = wordAt m (q + p) := fun p => by
    simp only [wordAt, getD_drop', Nat.add_assoc]
  have hs : ∀ t, schedR (m.drop q) a t = schedR m (q + a) t := fun t => by
    induction t with
    | zero => rfl
    | succ t ih =>
      simp only [schedR, ih]
      congr 1
      simp only [schedVal, hw, Nat.add_assoc]
  simp only [mixV, hs]
theorem addR_len (x s : List Int) (i : Nat) : (addR x s i).length = s.length := by
  induction i with
  | zero => rfl
  | succ i ih => simp [addR, ih]
theorem mixV_len (s m : List Int) (a : Nat) : (mixV s m a).length = s.length := addR_len _ _ _
theorem blocksR_len (m s : List Int) (n : Nat) : (blocksR m s n).length = s.length := by
  induction n with
  | zero => rfl
  | succ n ih => rw [blocksR, mixV_len, ih]
end Go.Proofs.YtpeelghbhihgkaaDoor.T
namespace Go.Proofs.YtpeelghbhihgkaaDoor.T
open Go Go.Proofs Go.Proofs.YtpeelghbhihgkaaDoor.K
set_option linter.unusedVariables false
set_option linter.unusedSimpArgs false
def WIn (w : digestWriter) (m : List Int) : Prop := w.n = m.length ∧ w.rest = m.drop (64 * (m.length / 64)) ∧ (64 ≤ m.length → w.s = blocksR m iv0 (m.length / 64))
theorem clone_eq (xs : List Int) (h : xs.length ≤ 140737488355328) : bytes_Clone.f xs = some xs := by
  unfold bytes_Clone.f
  rw [if_pos h]
theorem state_eq {w : digestWriter} {m : List Int} (h : WIn w m) : digest_Writer_state.f w = some (blocksR m iv0 (m.length / 64)) := by
  obtain ⟨h1, h2, h3⟩ := h
  simp only [digest_Writer_state.f, digest_begin.f, Option.bind_some, h1]
  by_cases hc : m.length < 64
  · rw [if_pos (by omega), Nat.div_eq_of_lt hc]
    rfl
  · rw [if_neg (by omega), h3 (by omega)]
theorem write_eq {w : digestWriter} {m b : List Int} (h : WIn w m) (hb : m.length + b.length ≤ 1000000) : ∃ w', digest_Writer_Write.f w b = some w' ∧ WIn w' (m ++ b) := by
  have hs := state_eq h
  obtain ⟨h1, h2, h3⟩ := h
  generalize hq : m.length / 64 = q at hs h2
  have hq1 : 64 * q ≤ m.length := by omega
  have hR : w.rest ++ b = (m ++ b).drop (64 * q) := by rw [h2, List.drop_append_of_le_length hq1]
  have hRl : (w.rest ++ b).length = m.length + b.length - 64 * q := by rw [hR]; simp
  generalize hRe : w.rest ++ b = R at hR hRl
  generalize hc : R.length / 64 = c
  have hloop : loopO digest_Writer_Write.s0 (0, blocksR m iv0 q, R) = some (((64 * c : Nat) : Int), blocksR (m ++ b) iv0 (q + c), R) := by
    refine loop_run (fun i => (((64 * i : Nat) : Int), blocksR (m ++ b) iv0 (q + i), R)) c ?_ (fun i hi => ?_) ?_
    · rw [Nat.add_zero, blocksR_app _ _ _ _ hq1]; rfl
    · simp only [digest_Writer_Write.s0]
      have e : IntKind.i64.wrap (((64 * i : Nat) : Int) + 64) = ((64 * i + 64 : Nat) : Int) := by rw [w64 (by omega) (by omega)]; omega
      rw [e, if_pos (by omega), if_pos (by omega), Int.toNat_natCast, Int.toNat_natCast, mix_eq _ _ (by simp; omega)]
      simp only [Option.bind_some]
      rw [mixV_in, hR, mixV_drop, ← Nat.mul_add]
      rfl
    · simp only [digest_Writer_Write.s0]
      rw [w64 (by omega) (by omega), if_neg (by omega)]
  refine ⟨⟨blocksR (m ++ b) iv0 (q + c), R.drop (64 * c), m.length + b.length⟩, ?_, by simp, ?_, fun _ => ?_⟩
  · simp only [digest_Writer_Write.f]
    have hs' : digest_Writer_state.f ⟨w.s, w.rest, w.n⟩ = some (blocksR m iv0 q) := hs
    have hw : w.rest.length + b.length = R.length := by rw [← hRe, List.length_append]
    rw [hs', hRe, hw]
    simp only [Option.bind_some]
    rw [if_pos (by omega), hloop]
    simp only [Option.bind_some]
    rw [if_pos (by omega), Int.toNat_natCast, Int.toNat_natCast, List.take_length, clone_eq _ (by simp; omega)]
    simp only [Option.bind_some]
    rw [h1, w64 (by omega) (by omega)]
  · have : 64 * ((m ++ b).length / 64) = 64 * q + 64 * c := by rw [List.length_append]; omega
    rw [this, hR, List.drop_drop]
  · have : (m ++ b).length / 64 = q + c := by rw [List.length_append]; omega
    rw [this]
theorem set_next {α : Type} (f : Nat → α) (n j : Nat) (z : α) (h : j < n) : ((List.range j).map f ++ List.replicate (n - j) z).set j (f j) = (List.range (j + 1)).map f ++ List.replicate (n - (j + 1)) z := by
  obtain ⟨k, hk⟩ : ∃ k, n - j = k + 1 := ⟨n - j - 1, by omega⟩
  have hk' : n - (j + 1) = k := by omega
  rw [hk, hk', List.set_append_right _ _ (by simp), List.range_succ, List.map_append, List.append_assoc]
  simp [List.replicate_succ]
theorem zeros_loop (step : List Int → Option (List Int ⊕ List Int)) (hs : ∀ l, step l = (if (Int.tmod (l.length : Int) 64) ≠ 56 then (if l.length + 1 ≤ 140737488355328 then some (.inl (l ++ ([0] : List Int))) else none) else some (.inr l)))
    (l : List Int) (h : l.length ≤ 2000000) : loopO step l = some (l ++ List.replicate (zs l.length) 0) := by
  refine loop_run (fun i => l ++ List.replicate i 0) (zs l.length) (by simp) (fun i hi => ?_) ?_
  · rw [hs, if_pos ?_, if_pos (by simp [zs] at hi ⊢; omega)]
    · simp [List.replicate_succ', List.append_assoc]
    · rw [List.length_append, List.length_replicate, Int.tmod_eq_emod_of_nonneg (by omega)]
      simp only [zs] at hi
      omega
  · rw [hs, if_neg ?_]
    rw [List.length_append, List.length_replicate, Int.tmod_eq_emod_of_nonneg (by omega)]
    simp only [zs]
    omega
theorem range_map_succ {α : Type} (f : Nat → α) (i : Nat) : (List.range (i + 1)).map f = (List.range i).map f ++ [f i] := by rw [List.range_succ, List.map_append]; rfl
theorem lenB_digest (n i : Nat) (hn : n ≤ 1000000) (hi : i < 8) : IntKind.u8.wrap (sR .u64 (sL .u64 (IntKind.u64.wrap (n : Int)) 3) (IntKind.i64.wrap (8 * (7 - (i : Int))))) = lenB n i := by
  have e1 : sL .u64 (IntKind.u64.wrap (n : Int)) 3 = IntKind.u64.wrap (8 * (n : Int)) := by
    rw [wu64 (by omega) (by omega)]
    simp only [sL, show (3 : Int).toNat = 3 from rfl]
    rw [show ((2 : Int) ^ (min 3 IntKind.u64.bits)) = 8 from rfl, Int.mul_comm]
  rw [e1, w64 (by omega) (by omega)]
  rfl
theorem padR_len (m : List Int) : (padR m).length = m.length + 1 + zs (m.length + 1) + 8 := by
  simp [padR]; omega
theorem padR_mod (m : List Int) : (padR m).length % 64 = 0 := by
  rw [padR_len]; simp only [zs]; omega
theorem out_eq4 (s : List Int) (i : Nat) (hi : i < 8) : loopO (digest_Writer_Sum.s4 s (i : Int)) (0, (List.range (4 * i)).map (outB s) ++ List.replicate (32 - 4 * i) 0) = some ((List.range (4 * (i + 1))).map (outB s) ++ List.replicate (32 - 4 * (i + 1)) 0) := by
  refine loop_run (fun k => ((k : Int), (List.range (4 * i + k)).map (outB s) ++ List.replicate (32 - (4 * i + k)) 0)) 4 (by simp) (fun k hk => ?_) ?_
  · simp only [digest_Writer_Sum.s4]
    have e1 : IntKind.i64.wrap (24 - IntKind.i64.wrap (8 * (k : Int))) = 24 - 8 * (k : Int) := by
      rw [w64 (x := 8 * (k : Int)) (by omega) (by omega), w64 (by omega) (by omega)]
    have e2 : IntKind.i64.wrap (IntKind.i64.wrap (4 * (i : Int)) + (k : Int)) = ((4 * i + k : Nat) : Int) := by
      rw [w64 (x := 4 * (i : Int)) (by omega) (by omega), w64 (by omega) (by omega)]; omega
    rw [if_pos (by omega), e1, e2, if_pos (by omega), if_pos (by omega), wadd1 k (by omega), Int.toNat_natCast, Int.toNat_natCast]
    have e3 : IntKind.u8.wrap (sR .u32 (s.getD i 0) (24 - 8 * (k : Int))) = outB s (4 * i + k) := by
      have a1 : (4 * i + k) / 4 = i := by omega
      have a2 : (4 * i + k) % 4 = k := by omega
      simp only [outB, a1, a2]
    rw [e3, set_next _ _ _ _ (by omega)]
    rfl
  · simp only [digest_Writer_Sum.s4]
    rw [if_neg (by decide)]
    rfl
theorem out_eq (s : List Int) : loopO (digest_Writer_Sum.s3 s) (0, List.replicate 32 0) = some (outL s) := by
  refine loop_run (fun i => ((i : Int), (List.range (4 * i)).map (outB s) ++ List.replicate (32 - 4 * i) 0)) 8 (by simp) (fun i hi => ?_) ?_
  · simp only [digest_Writer_Sum.s3]
    rw [if_pos (by omega), if_pos (by omega), out_eq4 s i hi]
    simp only [Option.bind_some]
    rw [wadd1 i (by omega)]
  · simp only [digest_Writer_Sum.s3]
    rw [if_neg (by decide)]
    rfl
theorem sum_eq' {w : digestWriter} {m : List Int} (h : WIn w m) (hb : m.length ≤ 1000000) : digest_Writer_Sum.f w = some (sha m) := by
  have hs := state_eq h
  obtain ⟨h1, h2, h3⟩ := h
  generalize hq : m.length / 64 = q at hs h2
  have hq1 : 64 * q ≤ m.length := by omega
  have hrl : w.rest.length = m.length - 64 * q := by rw [h2]; simp
  have hz : zs (w.rest ++ [128]).length = zs (m.length + 1) := by simp only [List.length_append, hrl, zs, List.length_cons, List.length_nil]; omega
  have hz64 : zs (m.length + 1) < 64 := by simp only [zs]; omega
  have hC : w.rest ++ [128] ++ List.replicate (zs (m.length + 1)) 0 ++ (List.range 8).map (lenB m.length) = (padR m).drop (64 * q) := by
    rw [h2, padR, List.drop_append_of_le_length hq1]
    simp only [List.append_assoc]
  have hl1 : loopO (digest_Writer_Sum.s1 w) (w.rest ++ [128] ++ List.replicate (zs (m.length + 1)) 0, 7) = some ((padR m).drop (64 * q)) := by
    refine loop_run (fun i => (w.rest ++ [128] ++ List.replicate (zs (m.length + 1)) 0 ++ (List.range i).map (lenB m.length), 7 - (i : Int))) 8 (by simp) (fun i hi => ?_) ?_
    · simp only [digest_Writer_Sum.s1]
      rw [if_pos (by omega), if_pos (by rw [w64 (by omega) (by omega)]; omega), if_pos (by simp; omega), h1, lenB_digest _ _ hb hi, w64 (by omega) (by omega)]
      congr 2
      rw [range_map_succ, ← List.append_assoc]
      congr 1
      omega
    · simp only [digest_Writer_Sum.s1]
      rw [if_neg (by decide), hC]
  have hpl := padR_len m
  have hpm := padR_mod m
  have hCl : ((padR m).drop (64 * q)).length = (padR m).length - 64 * q := by simp
  generalize hc : ((padR m).drop (64 * q)).length / 64 = c at *
  have hl2 : loopO digest_Writer_Sum.s2 ((padR m).drop (64 * q), 0, blocksR m iv0 q) = some ((padR m).drop (64 * q), blocksR (padR m) iv0 (q + c)) := by
    refine loop_run (fun i => ((padR m).drop (64 * q), ((64 * i : Nat) : Int), blocksR (padR m) iv0 (q + i))) c ?_ (fun i hi => ?_) ?_
    · rw [Nat.add_zero]
      have : blocksR (padR m) iv0 q = blocksR m iv0 q := blocksR_app _ _ _ _ hq1
      rw [this]; rfl
    · simp only [digest_Writer_Sum.s2]
      have e : IntKind.i64.wrap (((64 * i : Nat) : Int) + 64) = ((64 * i + 64 : Nat) : Int) := by rw [w64 (by omega) (by omega)]; omega
      rw [if_pos (by omega), e, if_pos (by omega), Int.toNat_natCast, Int.toNat_natCast, mix_eq _ _ (by simp; omega)]
      simp only [Option.bind_some]
      rw [mixV_in, mixV_drop, ← Nat.mul_add]
      rfl
    · simp only [digest_Writer_Sum.s2]
      rw [if_neg (by omega)]
  simp only [digest_Writer_Sum.f]
  have hs' : digest_Writer_state.f ⟨w.s, w.rest, w.n⟩ = some (blocksR m iv0 q) := hs
  rw [clone_eq _ (by omega)]
  simp only [Option.bind_some]
  rw [if_pos (by omega), zeros_loop digest_Writer_Sum.s0 (fun l => rfl) _ (by simp; omega), hz]
  simp only [Option.bind_some]
  rw [hl1]
  simp only [Option.bind_some]
  rw [hs']
  simp only [Option.bind_some]
  rw [hl2]
  simp only [Option.bind_some]
  rw [out_eq]
  simp only [Option.bind_some, sha]
  congr 3
  omega
theorem wIn0 (s : List Int) : WIn ⟨s, [], 0⟩ [] := ⟨rfl, rfl, fun h => by simp at h⟩
theorem sha_eq (m : List Int) (hb : m.length ≤ 1000000) : digest_Sha.f m = some (sha m) := by
  obtain ⟨w', e, hw⟩ := write_eq (wIn0 (List.replicate 8 0)) (b := m) (by simpa using hb)
  simp only [digest_Sha.f, e, Option.bind_some]
  have : digest_Writer_Sum.f ⟨w'.s, w'.rest, w'.n⟩ = some (sha m) := sum_eq' hw (by simpa using hb)
  rw [this]
  rfl
theorem outL_len (s : List Int) : (outL s).length = 32 := by simp [outL]
theorem sha_len (m : List Int) : (sha m).length = 32 := outL_len _
theorem twice_eq (m : List Int) (hb : m.length ≤ 1000000) : digest_Twice.f m = some (sha (sha m)) := by
  simp only [digest_Twice.f, sha_eq m hb, Option.bind_some, sha_eq (sha m) (by rw [sha_len]; omega)]
end Go.Proofs.YtpeelghbhihgkaaDoor.T
namespace Go.Proofs.YtpeelghbhihgkaaDoor.T
open Go Go.Proofs Go.Proofs.YtpeelghbhihgkaaDoor.K
set_option linter.unusedVariables false
set_option linter.unusedSimpArgs false
theorem els_all {α : Type} {RE : α → List Value → Prop} {sz : Nat} {xs : List α} {cs : List Value} {Q : α → Prop} (h : Els RE sz xs cs) (f : ∀ x c, RE x c → Q x) : ∀ x ∈ xs, Q x := by
  induction h with
  | nil => simp
  | cons h _ _ ih =>
    intro y hy
    rcases List.mem_cons.1 hy with rfl | hy
    · exact f _ _ h
    · exact ih y hy
theorem slc_ints {k : IntKind} {μ : Store} {v : Value} {xs : List Int} (h : Slc (RI k) 1 μ v xs) : ∀ x ∈ xs, InR k x := by
  obtain ⟨cs, he, _⟩ := h
  exact els_all he fun x c hc => hc.2
theorem getD_mid {α : Type} (pre r : List α) (x d : α) : (pre ++ x :: r).getD ((pre.length : Int).toNat) d = x := by
  simp [List.getD]
theorem mid_lt {α : Type} (pre r : List α) (x : α) : 0 ≤ (pre.length : Int) ∧ (pre.length : Int) < ((pre ++ x :: r).length : Int) := by
  simp; omega
theorem mid_next {α : Type} (pre r : List α) (x : α) (h : (pre ++ x :: r).length ≤ 140737488355328) : IntKind.i64.wrap ((pre.length : Int) + 1) = ((pre ++ [x]).length : Int) := by
  simp at h
  rw [w64 (by omega) (by omega)]; simp
theorem winc (i : Nat) (hi : i < 9223372036854775807) : IntKind.i64.wrap ((i : Int) + 1) = ((i + 1 : Nat) : Int) := by
  rw [w64 (by omega) (by omega)]; omega
theorem take_next {α : Type} (xs : List α) (i : Nat) (d : α) (h : i < xs.length) : xs.take i ++ [xs.getD i d] = xs.take (i + 1) := by
  rw [List.take_add_one]
  simp [List.getD, h]
theorem copy_run {α : Type} {step : (List α × Int) → Option ((List α × Int) ⊕ List α)} (xs : List α) (d : α) (h : xs.length < 9223372036854775807)
    (hs : ∀ i, i < xs.length → step (xs.take i, (i : Int)) = some (.inl (xs.take i ++ [xs.getD i d], IntKind.i64.wrap ((i : Int) + 1)))) (hn : step (xs, (xs.length : Int)) = some (.inr xs)) : loopO step ([], 0) = some xs :=
  loop_run (fun i => (xs.take i, (i : Int))) xs.length rfl (fun i hi => by
    rw [hs i hi, take_next _ _ _ hi, winc i (by omega)]) (by simpa using hn)
theorem bytes_eq (xs : List Int) (h : xs.length ≤ 140737488355328) : sargassoref_Bytes.f xs = some xs := by
  unfold sargassoref_Bytes.f
  rw [if_pos ⟨by omega, by omega, by omega⟩]
  simp only [Int.toNat_zero, List.replicate_zero]
  rw [copy_run xs 0 (by omega) (fun i hi => by
    simp only [sargassoref_Bytes.s0]
    rw [if_pos (by omega), if_pos (by omega), if_pos (by simp; omega), Int.toNat_natCast]) (by simp [sargassoref_Bytes.s0])]
  rfl
theorem all_run {step : Int → Option (Int ⊕ Bool)} (n : Nat) (p : Nat → Prop) [DecidablePred p] (hn : n < 9223372036854775807)
    (hs : ∀ i, i < n → step (i : Int) = if p i then some (.inl (IntKind.i64.wrap ((i : Int) + 1))) else some (.inr false)) (he : step (n : Int) = some (.inr true)) : loopO step 0 = some (decide (∀ i, i < n → p i)) := by
  have key : ∀ m k, m + k = n → (∀ i, i < k → p i) → loopO step (k : Int) = some (decide (∀ i, i < n → p i)) := by
    intro m
    induction m with
    | zero =>
      intro k e h
      obtain rfl : k = n := by omega
      rw [loopO_inr he]
      congr 1
      exact (decide_eq_true h).symm
    | succ m ih =>
      intro k e h
      have h1 := hs k (by omega)
      by_cases hp : p k
      · rw [if_pos hp, winc k (by omega)] at h1
        rw [loopO_inl h1]
        refine ih (k + 1) (by omega) fun i hi => ?_
        rcases Nat.lt_or_ge i k with h2 | h2
        · exact h i h2
        · obtain rfl : i = k := by omega
          exact hp
      · rw [if_neg hp] at h1
        rw [loopO_inr h1]
        have : ¬ ∀ i, i < n → p i := fun h2 => hp (h2 k (by omega))
        simp [this]
  exact key n 0 (by omega) (by simp)
theorem ext_iff {α : Type} (xs ys : List α) (d : α) (h : xs.length = ys.length) : (∀ i, i < xs.length → xs.getD i d = ys.getD i d) ↔ xs = ys := by
  constructor
  · intro hh
    apply List.ext_getElem h
    intro i h1 h2
    have := hh i h1
    simpa [List.getD, h1, h2] using this
  · rintro rfl i _
    rfl
theorem samehash_eq (a b : List Int) (ha : a.length = 32) (hb : b.length = 32) : sargassoref_SameHash.f a b = some (decide (a = b)) := by
  unfold sargassoref_SameHash.f
  rw [all_run 32 (fun i => a.getD i 0 = b.getD i 0) (by omega) (fun i hi => by
    simp only [sargassoref_SameHash.s0, Int.toNat_natCast]
    rw [if_pos (by omega), if_pos (by omega)]
    by_cases h : a.getD i 0 = b.getD i 0
    · rw [if_neg (by simpa using h), if_pos h]
    · rw [if_pos h, if_neg h]) (by simp [sargassoref_SameHash.s0])]
  congr 2
  apply propext
  have := ext_iff a b 0 (by rw [ha, hb])
  rw [ha] at this
  exact this
theorem samebytes_eq' (xs ys : List Int) (h : xs.length ≤ 140737488355328) : sargassoref_SameBytes.f xs ys = some (decide (xs = ys)) := by
  unfold sargassoref_SameBytes.f
  by_cases hl : xs.length = ys.length
  · rw [if_neg (by omega), all_run xs.length (fun i => xs.getD i 0 = ys.getD i 0) (by omega) (fun i hi => by
      simp only [sargassoref_SameBytes.s0, Int.toNat_natCast]
      rw [if_pos (by omega), if_pos (by omega), if_pos (by omega)]) (by simp [sargassoref_SameBytes.s0])]
    congr 2
    exact propext (ext_iff xs ys 0 hl)
  · rw [if_pos (by omega)]
    have : xs ≠ ys := fun e => hl (by rw [e])
    simp [this]
theorem samebytes_eq (xs : List Int) (h : xs.length ≤ 140737488355328) : sargassoref_SameBytes.f xs xs = some true := by
  rw [samebytes_eq' xs xs h]
  simp
end Go.Proofs.YtpeelghbhihgkaaDoor.T
namespace Go.Proofs.YtpeelghbhihgkaaDoor.T
open Go Go.Proofs Go.Proofs.YtpeelghbhihgkaaDoor.K
set_option linter.unusedVariables false
set_option linter.unusedSimpArgs false
theorem ref_sched_step (m : List Int) (a : Nat) (ha : a + 64 ≤ m.length) (hm : m.length ≤ 3000000) (w : List Int) (hw : w.length = 64) (i : Nat) (hi : i < 64) : sargassoref1_Sha.s3 m (a : Int) ((i : Int), w) = some (.inl (((i + 1 : Nat) : Int), w.set i (schedVal m a w i))) := by
  simp only [sargassoref1_Sha.s3, hw]
  rw [if_pos (by omega)]
  by_cases h16 : i < 16
  · have e0 : IntKind.i64.wrap ((a : Int) + IntKind.i64.wrap (4 * (i : Int))) = ((a + 4 * i : Nat) : Int) := by
      rw [wmul4 i (by omega), w64 (by omega) (by omega)]; omega
    have e1 : IntKind.i64.wrap (((a + 4 * i : Nat) : Int) + 1) = ((a + 4 * i + 1 : Nat) : Int) := by rw [w64 (by omega) (by omega)]; omega
    have e2 : IntKind.i64.wrap (((a + 4 * i : Nat) : Int) + 2) = ((a + 4 * i + 2 : Nat) : Int) := by rw [w64 (by omega) (by omega)]; omega
    have e3 : IntKind.i64.wrap (((a + 4 * i : Nat) : Int) + 3) = ((a + 4 * i + 3 : Nat) : Int) := by rw [w64 (by omega) (by omega)]; omega
    rw [if_pos (by omega), e0, e1, e2, e3, if_pos (by omega), if_pos (by omega), if_pos (by omega), if_pos (by omega), if_pos (by omega)]
    simp only [Option.bind_some, Int.toNat_natCast]
    rw [wadd1 i (by omega)]
    simp only [schedVal, if_pos h16, wordAt]
  · have e2 := wsub i 2 (by omega) (by omega)
    have e7 := wsub i 7 (by omega) (by omega)
    have e15 := wsub i 15 (by omega) (by omega)
    have e16 := wsub i 16 (by omega) (by omega)
    simp only [show ((2 : Nat) : Int) = 2 from rfl, show ((7 : Nat) : Int) = 7 from rfl, show ((15 : Nat) : Int) = 15 from rfl, show ((16 : Nat) : Int) = 16 from rfl] at e2 e7 e15 e16
    rw [if_neg (by omega), e2, e7, e15, e16, if_pos (by omega), if_pos (by omega), if_pos (by omega), if_pos (by omega)]
    simp only [Int.toNat_natCast, right_f _ 17 (by omega) (by omega), right_f _ 19 (by omega) (by omega), right_f _ 7 (by omega) (by omega), right_f _ 18 (by omega) (by omega), Option.bind_some]
    rw [if_pos (by omega), wadd1 i (by omega)]
    simp only [Option.bind_some, schedVal, if_neg h16, sg0, sg1, wl, wr]
theorem ref_sched (m : List Int) (a : Nat) (ha : a + 64 ≤ m.length) (hm : m.length ≤ 3000000) : loopO (sargassoref1_Sha.s3 m (a : Int)) (0, List.replicate ((64 : Int).toNat) 0) = some (schedR m a 64) := by
  refine loop_run (fun i => ((i : Int), schedR m a i)) 64 rfl (fun i hi => ?_) ?_
  · rw [ref_sched_step m a ha hm _ (schedR_len _ _ _) i hi]
    rfl
  · simp only [sargassoref1_Sha.s3]
    rw [if_neg (by decide)]
theorem roundR_len (w s : List Int) (hs : s.length = 8) (i : Nat) : (roundR w s i).length = 8 := by
  cases i with
  | zero => exact hs
  | succ i => rfl
theorem kc_len : kc.length = 64 := by kernel_rfl
theorem k1_eq : sargassoref1_k.lit0 = kc := by kernel_rfl
theorem ref_round (w s : List Int) (hs : s.length = 8) (hw : w.length = 64) : loopO (sargassoref1_Sha.s4 kc w) (([] : List Int) ++ s, 0) = some (roundR w s 64) := by
  refine loop_run (fun i => (roundR w s i, (i : Int))) 64 rfl (fun i hi => ?_) ?_
  · have hl := roundR_len w s hs i
    have hk := kc_len
    simp only [sargassoref1_Sha.s4, hl]
    rw [if_pos (by omega), if_pos (by decide), if_pos (by decide), if_pos (by decide)]
    simp only [right_f _ 6 (by omega) (by omega), right_f _ 11 (by omega) (by omega), right_f _ 25 (by omega) (by omega), right_f _ 2 (by omega) (by omega), right_f _ 13 (by omega) (by omega), right_f _ 22 (by omega) (by omega), Option.bind_some, Int.toNat_natCast]
    rw [if_pos (by decide), if_pos (by decide), if_pos (by omega), if_pos (by omega), if_pos (by decide), if_pos (by decide), if_pos (by decide), wadd1 i (by omega)]
    simp only [roundR, rstep, rt1, rt2, wl, wr, show (0 : Int).toNat = 0 from rfl, show (1 : Int).toNat = 1 from rfl, show (2 : Int).toNat = 2 from rfl, show (3 : Int).toNat = 3 from rfl, show (4 : Int).toNat = 4 from rfl, show (5 : Int).toNat = 5 from rfl, show (6 : Int).toNat = 6 from rfl, show (7 : Int).toNat = 7 from rfl]
  · simp only [sargassoref1_Sha.s4]
    rw [if_neg (by decide)]
theorem ref_add (x s : List Int) (hs : s.length = 8) (hx : x.length = 8) : loopO (sargassoref1_Sha.s5 x) (0, s) = some (addR x s 8) := by
  refine loop_run (fun i => ((i : Int), addR x s i)) 8 rfl (fun i hi => ?_) ?_
  · have hl := addR_len x s i
    simp only [sargassoref1_Sha.s5, hl, hs, hx]
    rw [if_pos (by omega), if_pos (by omega), if_pos (by omega), wadd1 i (by omega)]
    simp only [Int.toNat_natCast, addR]
  · simp only [sargassoref1_Sha.s5]
    rw [if_neg (by decide)]
theorem ref_out (s : List Int) (hs : s.length = 8) : loopO (sargassoref1_Sha.s6 s) (0, List.replicate 32 0) = some (outL s) := by
  refine loop_run (fun i => ((i : Int), (List.range i).map (outB s) ++ List.replicate (32 - i) 0)) 32 (by simp) (fun i hi => ?_) ?_
  · simp only [sargassoref1_Sha.s6, hs]
    have e1 : IntKind.i64.wrap (Int.tdiv (i : Int) 4) = ((i / 4 : Nat) : Int) := by
      rw [Int.tdiv_eq_ediv_of_nonneg (by omega), w64 (by omega) (by omega)]; omega
    have e2 : Int.tmod (i : Int) 4 = ((i % 4 : Nat) : Int) := by rw [Int.tmod_eq_emod_of_nonneg (by omega)]; omega
    have e3 : IntKind.u64.wrap (IntKind.i64.wrap (24 - IntKind.i64.wrap (8 * ((i % 4 : Nat) : Int)))) = 24 - 8 * ((i % 4 : Nat) : Int) := by
      rw [w64 (x := 8 * ((i % 4 : Nat) : Int)) (by omega) (by omega), w64 (by omega) (by omega), wu64 (by omega) (by omega)]
    rw [if_pos (by omega), e1, e2, e3, if_pos (by omega), if_pos (by omega), if_pos (by omega), wadd1 i (by omega), Int.toNat_natCast, Int.toNat_natCast]
    have e4 : IntKind.u8.wrap (sR .u32 (s.getD (i / 4) 0) (24 - 8 * ((i % 4 : Nat) : Int))) = outB s i := rfl
    rw [e4, set_next _ _ _ _ (by omega)]
  · simp only [sargassoref1_Sha.s6]
    rw [if_neg (by decide)]
    rfl
theorem lenB_ref (n i : Nat) (hn : n ≤ 1000000) (hi : i < 8) : IntKind.u8.wrap (sR .u64 (IntKind.u64.wrap (8 * IntKind.u64.wrap (n : Int))) (IntKind.u64.wrap (IntKind.i64.wrap (8 * (7 - (i : Int)))))) = lenB n i := by
  rw [w64 (by omega) (by omega), wu64 (x := (n : Int)) (by omega) (by omega), wu64 (x := 8 * (7 - (i : Int))) (by omega) (by omega)]
  rfl
theorem ref_pad (m : List Int) (hb : m.length ≤ 1000000) : loopO (sargassoref1_Sha.s1 m) (m ++ [128] ++ List.replicate (zs (m.length + 1)) 0, 7) = some (padR m) := by
  have hz64 : zs (m.length + 1) < 64 := by simp only [zs]; omega
  refine loop_run (fun i => (m ++ [128] ++ List.replicate (zs (m.length + 1)) 0 ++ (List.range i).map (lenB m.length), 7 - (i : Int))) 8 (by simp) (fun i hi => ?_) ?_
  · simp only [sargassoref1_Sha.s1]
    rw [if_pos (by omega), if_pos (by rw [w64 (by omega) (by omega), wu64 (by omega) (by omega)]; omega), if_pos (by simp; omega), lenB_ref _ _ hb hi, w64 (by omega) (by omega)]
    congr 2
    rw [range_map_succ, ← List.append_assoc]
    congr 1
    omega
  · simp only [sargassoref1_Sha.s1]
    rw [if_neg (by decide)]
    simp only [padR, List.append_assoc]
theorem ref_block (M s : List Int) (a : Nat) (hs : s.length = 8) (ha : a + 64 ≤ M.length) (hM : M.length ≤ 3000000) : sargassoref1_Sha.s2 M kc ((a : Int), s) = some (.inl (IntKind.i64.wrap ((a : Int) + 64), mixV s M a)) := by
  simp only [sargassoref1_Sha.s2]
  rw [if_pos (by omega), if_pos (by decide), ref_sched M a ha hM]
  simp only [Option.bind_some]
  rw [if_pos (by omega), ref_round _ _ hs (schedR_len _ _ _)]
  simp only [Option.bind_some]
  rw [ref_add _ _ hs (roundR_len _ _ hs _)]
  simp only [Option.bind_some, mixV]
theorem ref_blocks (M : List Int) (hM : M.length ≤ 3000000) (h64 : M.length % 64 = 0) : loopO (sargassoref1_Sha.s2 M kc) (0, iv0) = some (blocksR M iv0 (M.length / 64)) := by
  refine loop_run (fun i => (((64 * i : Nat) : Int), blocksR M iv0 i)) (M.length / 64) (by simp only [Nat.mul_zero, blocksR]; rfl) (fun i hi => ?_) ?_
  · have hbl : (blocksR M iv0 i).length = 8 := blocksR_len _ _ _
    rw [ref_block M _ (64 * i) hbl (by omega) hM]
    have e : IntKind.i64.wrap (((64 * i : Nat) : Int) + 64) = ((64 * (i + 1) : Nat) : Int) := by rw [w64 (by omega) (by omega)]; omega
    rw [e, blocksR]
  · simp only [sargassoref1_Sha.s2]
    rw [if_neg (by omega)]
theorem ref_sha_eq (m : List Int) (hb : m.length ≤ 1000000) : sargassoref1_Sha.f m = some (sha m) := by
  have hz : zs (m ++ [128]).length = zs (m.length + 1) := by simp
  have hz64 : zs (m.length + 1) < 64 := by simp only [zs]; omega
  have hpl := padR_len m
  have hl2 := ref_blocks (padR m) (by omega) (padR_mod m)
  unfold sargassoref1_Sha.f
  rw [bytes_eq m (by omega), Option.bind_some, if_pos (by omega), zeros_loop sargassoref1_Sha.s0 (fun l => rfl) _ (by simp; omega), hz, Option.bind_some, ref_pad m hb, Option.bind_some]
  unfold sargassoref1_k.f
  rw [k1_eq, Option.bind_some]
  unfold iv0 at hl2
  rw [hl2, Option.bind_some, ref_out _ (blocksR_len _ _ _), Option.bind_some]
  rfl
theorem ref_twice_eq (m : List Int) (hb : m.length ≤ 1000000) : sargassoref1_Twice.f m = some (sha (sha m)) := by
  simp only [sargassoref1_Twice.f, ref_sha_eq m hb, Option.bind_some, ref_sha_eq (sha m) (by rw [sha_len]; omega)]
end Go.Proofs.YtpeelghbhihgkaaDoor.T
namespace Go.Proofs.YtpeelghbhihgkaaDoor.T
open Go Go.Proofs Go.Proofs.YtpeelghbhihgkaaDoor.K
set_option linter.unusedVariables false
set_option linter.unusedSimpArgs false
def Hs (l : List (List Int)) : Prop := ∀ x ∈ l, x.length = 32
theorem Hs.at {l : List (List Int)} (h : Hs l) {i : Nat} (hi : i < l.length) : (l.getD i []).length = 32 := by
  have e : l.getD i [] = l[i] := by simp [List.getD, hi]
  rw [e]; exact h _ (List.getElem_mem hi)
end Go.Proofs.YtpeelghbhihgkaaDoor.T
namespace Go.Proofs.YtpeelghbhihgkaaDoor.T
open Go Go.Proofs Go.Proofs.YtpeelghbhihgkaaDoor.K
set_option linter.unusedVariables false
set_option linter.unusedSimpArgs false
theorem u8e (x : Int) : IntKind.u8.wrap x = x % 256 := by simp [IntKind.wrap, IntKind.signed, IntKind.bits]
def lb (a m : Nat) : List Int := (List.range m).map fun j => ((a / 2 ^ (8 * j) % 256 : Nat) : Int)
theorem lb_len (a m : Nat) : (lb a m).length = m := by simp [lb]
theorem sR_div (k : IntKind) {a n : Nat} (hn : n ≤ k.bits) : sR k (a : Int) (n : Int) = ((a / 2 ^ n : Nat) : Int) := by
  rw [sR_nat k hn, Nat.shiftRight_eq_div_pow]
theorem number_eq' (r : List Int) (a k : Nat) (hk : k ≤ 100) (hl : r.length + k ≤ 140737488355328) : compact_number.f r (a : Int) (k : Int) = some (r ++ lb a k) := by
  simp only [compact_number.f]
  have h : loopO (compact_number.s0 (k : Int)) (r, (a : Int), 0) = some (r ++ lb a k, ((a / 2 ^ (8 * k) : Nat) : Int)) := by
    refine loop_run (fun j => (r ++ lb a j, ((a / 2 ^ (8 * j) : Nat) : Int), (j : Int))) k (by simp [lb]) (fun j hj => ?_) ?_
    · simp only [compact_number.s0]
      have e1 : IntKind.u8.wrap ((a / 2 ^ (8 * j) : Nat) : Int) = ((a / 2 ^ (8 * j) % 256 : Nat) : Int) := by rw [u8e]; generalize a / 2 ^ (8 * j) = q; omega
      have e2 : sR .u64 ((a / 2 ^ (8 * j) : Nat) : Int) 8 = ((a / 2 ^ (8 * (j + 1)) : Nat) : Int) := by
        have := sR_div .u64 (a := a / 2 ^ (8 * j)) (n := 8) (by decide)
        rw [Nat.div_div_eq_div_mul, ← Nat.pow_add] at this
        exact this
      rw [if_pos (by omega), if_pos (by simp [lb_len]; omega), e1, e2, winc j (by omega), List.append_assoc]
      have : lb a j ++ [((a / 2 ^ (8 * j) % 256 : Nat) : Int)] = lb a (j + 1) := by
        unfold lb; rw [range_map_succ]
      rw [this]
    · simp only [compact_number.s0]
      rw [if_neg (by omega)]
  rw [h, Option.bind_some]
theorem four_eq (b : List Int) (a : Nat) (ha : a < 4294967296) (hl : b.length + 4 ≤ 140737488355328) : compact_Four.f b (a : Int) = some (b ++ lb a 4) := by
  have := number_eq' b a 4 (by omega) hl
  simp only [compact_Four.f, bytes_Clone.f]
  rw [wu64 (by omega) (by omega), if_pos (by omega), Option.bind_some]
  rw [show ((4 : Nat) : Int) = 4 from rfl] at this
  rw [this, Option.bind_some]
structure HN where
  v : Nat
  p : List Int
  r : List Int
  t : Nat
  w : Nat
  n : Nat
deriving DecidableEq
def HN.h (h : HN) : Head := ⟨h.v, h.p, h.r, h.t, h.w, h.n⟩
def hb (h : HN) : List Int := lb h.v 4 ++ (h.p ++ (h.r ++ (lb h.t 4 ++ (lb h.w 4 ++ lb h.n 4))))
end Go.Proofs.YtpeelghbhihgkaaDoor.T
namespace Go.Proofs.YtpeelghbhihgkaaDoor.T
open Go Go.Proofs Go.Proofs.YtpeelghbhihgkaaDoor.K
set_option linter.unusedVariables false
set_option linter.unusedSimpArgs false
def sl : List Er := [xErrEnd, xErrShape, xErrLong, xErrMany, xErrValue, xErrTwice, xErrBase, xErrRoot, xErrKnown, xErrParent, xErrInvalid, xErrTime, xErrMissing, xErrKey, xErrYoung, xErrEarly, xErrLess, xErrReward, xErrClash, xErrLimit, xErrFull, xErrRange, xErrNone, xErrWord, xErrNumber]
theorem sl_plain : ∀ e ∈ sl, e ≠ .b 0 ∧ e.isP = false := by decide
theorem alike_eq {e f : Er} (he : e ≠ .b 0) (hf : f ≠ .b 0) (hp : e.isP = false) : sargassosee_Alike.f e f = some (decide (e = f)) := by
  simp only [sargassosee_Alike.f]
  rw [if_neg he, Option.bind_some, if_neg (by simpa using hf), if_pos]
  cases e with
  | pl _ _ => cases hp
  | b n =>
    cases f with
    | pl _ _ => cases n <;> rfl
    | b m =>
      cases n with
      | zero => exact absurd rfl he
      | succ n => rfl
theorem gd {α : Type} (l : List α) (d : α) {i : Nat} (h : i < l.length) : l.getD i d = l[i] := by simp [List.getD, h]
theorem sl_ne : ∀ i, i < 25 → ∀ j, j < 25 → i ≠ j → sl.getD i (.b 0) ≠ sl.getD j (.b 0) := by decide +kernel
theorem sentinel_at (k : Nat) (hk : k < 25) : sargassosee_sentinel.f (sl.getD k (.b 0)) = some (101 + (k : Int)) := by
  have hl : sl.length = 25 := rfl
  have hmem : ∀ i, i < 25 → sl.getD i (.b 0) ∈ sl := fun i hi => by
    have e := gd sl (.b 0) (i := i) (by omega)
    rw [e]; exact List.getElem_mem _
  have h0 : sargassosee_sentinels.f = some sl := rfl
  unfold sargassosee_sentinel.f
  rw [h0, Option.bind_some]
  have hs : ∀ i : Nat, i < 25 → sargassosee_sentinel.s0 (sl.getD k (.b 0)) sl (i : Int) = if k = i then some (.inr (IntKind.i64.wrap (101 + (i : Int)))) else some (.inl (IntKind.i64.wrap ((i : Int) + 1))) := fun i hi => by
    simp only [sargassosee_sentinel.s0]
    rw [if_pos (by omega), if_pos (by omega), Int.toNat_natCast, alike_eq (sl_plain _ (hmem k hk)).1 (sl_plain _ (hmem i hi)).1 (sl_plain _ (hmem k hk)).2, Option.bind_some]
    by_cases h : k = i
    · subst h; rw [if_pos (by simp), if_pos rfl]
    · rw [if_neg (by simpa using sl_ne k hk i hi h), if_neg h]
  have key := loop_idx (step := sargassosee_sentinel.s0 (sl.getD k (.b 0)) sl) (fun i => (i : Int)) k (fun i hi => by rw [hs i (by omega), if_neg (by omega), winc i (by omega)])
  have e0 : ((0 : Nat) : Int) = 0 := rfl
  simp only [e0] at key
  have h1 := hs k hk
  rw [if_pos rfl] at h1
  rw [key, loopO_inr h1, w64 (by omega) (by omega)]
theorem samefault_bare (a b : Int) : sargassoref_SameFault.f ⟨a, false, 0, false, 0⟩ ⟨b, false, 0, false, 0⟩ = some (decide (a = b)) := by
  simp only [sargassoref_SameFault.f]
  by_cases h : a = b
  · simp [h]
  · simp [h]
theorem is_nil (c : Int) : sargassosee_Is.f (.b 0) c = some (decide (0 = c)) := by
  simp only [sargassosee_Is.f, sargassosee_Same.f, sargassosee_Fault.f, sargassoref_Bare.f, sargassoref_None.f, Option.bind_some, if_true]
  rw [samefault_bare, Option.bind_some]; rfl
theorem fault_at (k : Nat) (hk : k < 25) : sargassosee_Fault.f (sl.getD k (.b 0)) = some ⟨101 + (k : Int), false, 0, false, 0⟩ := by
  have hm : sl.getD k (.b 0) ∈ sl := by
    have hl : sl.length = 25 := rfl
    have e := gd sl (.b 0) (i := k) (by omega)
    rw [e]; exact List.getElem_mem _
  obtain ⟨h1, h2⟩ := sl_plain _ hm
  simp only [sargassosee_Fault.f]
  rw [if_neg h1, if_neg (by rw [h2]; decide), sentinel_at k hk]
  rfl
theorem is_at (k : Nat) (hk : k < 25) (c : Int) : sargassosee_Is.f (sl.getD k (.b 0)) c = some (decide (101 + (k : Int) = c)) := by
  simp only [sargassosee_Is.f, sargassosee_Same.f, sargassoref_Bare.f, Option.bind_some]
  rw [fault_at k hk, Option.bind_some, samefault_bare, Option.bind_some, Option.bind_some]
def cd (e : Er) : Int := if e = .b 0 then 0 else 101 + (sl.idxOf e : Int)
def Kn (e : Er) : Prop := e = .b 0 ∨ e ∈ sl
theorem is_eq {e : Er} (h : Kn e) (c : Int) : sargassosee_Is.f e c = some (decide (cd e = c)) := by
  rcases h with rfl | h
  · rw [is_nil]; rfl
  · have hk : sl.idxOf e < 25 := List.idxOf_lt_length_of_mem h
    have e1 : sl.getD (sl.idxOf e) (.b 0) = e := by
      rw [gd sl (.b 0) (List.idxOf_lt_length_of_mem h)]
      exact List.getElem_idxOf _
    have := is_at (sl.idxOf e) hk c
    rw [e1] at this
    rw [this]
    unfold cd
    rw [if_neg (sl_plain _ h).1]
theorem kn_sl {e : Er} (h : e ∈ sl) : Kn e := .inr h
end Go.Proofs.YtpeelghbhihgkaaDoor.T
namespace Go.Proofs.YtpeelghbhihgkaaDoor.T
open Go Go.Proofs Go.Proofs.YtpeelghbhihgkaaDoor.K
set_option linter.unusedVariables false
set_option linter.unusedSimpArgs false
def Bs (l : List Int) : Prop := ∀ x ∈ l, InR .u8 x
theorem Bs.app {l m : List Int} (h : Bs l) (k : Bs m) : Bs (l ++ m) := fun x hx => (List.mem_append.1 hx).elim (h x) (k x)
theorem Bs.take {l : List Int} (h : Bs l) (n : Nat) : Bs (l.take n) := fun x hx => h x (List.mem_of_mem_take hx)
theorem Bs.drop {l : List Int} (h : Bs l) (n : Nat) : Bs (l.drop n) := fun x hx => h x (List.mem_of_mem_drop hx)
def vl : List Int → Nat
  | [] => 0
  | b :: l => b.toNat + 256 * vl l
def nx (n : Nat) (s : List Int × Er) : List Int × (List Int × Er) :=
  if s.2 ≠ .b 0 then ([], s) else if s.1.length < n then ([], (s.1, xErrEnd)) else (s.1.take n, (s.1.drop n, s.2))
def wh (n : Nat) (s : List Int × Er) : Nat × (List Int × Er) := (vl (nx n s).1, (nx n s).2)
def ln (n : Nat) : Nat := if n < 253 then 1 else if n < 65536 then 3 else if n < 4294967296 then 5 else 9
theorem len_eq (n : Nat) : compact_Len.f (n : Int) = some (ln n : Int) := by
  simp only [compact_Len.f, ln]
  by_cases h1 : n < 253
  · rw [if_pos (by omega), if_pos h1]; rfl
  · rw [if_neg (by omega), if_neg h1]
    by_cases h2 : n < 65536
    · rw [if_pos (by omega), if_pos h2]; rfl
    · rw [if_neg (by omega), if_neg h2]
      by_cases h3 : n < 4294967296
      · rw [if_pos (by omega), if_pos h3]; rfl
      · rw [if_neg (by omega), if_neg h3]; rfl
theorem len1_eq (n : Nat) : sargassoref1_Len.f (n : Int) = some (ln n : Int) := len_eq n
def my (n : Nat) : Nat := if n = 253 then 2 else if n = 254 then 4 else if n = 255 then 8 else 0
def nm (most : Int) (s : List Int × Er) : Nat × (List Int × Er) :=
  let a := wh 1 s
  let b := if 0 < my a.1 then wh (my a.1) a.2 else a
  if b.2.2 ≠ .b 0 then (0, b.2) else if ln b.1 ≠ 1 + my a.1 then (0, (b.2.1, xErrShape)) else if most < (b.1 : Int) then (0, (b.2.1, xErrMany)) else b
def by_ (n : Int) (s : List Int × Er) : List Int × (List Int × Er) := if n ≤ 0 then ([], s) else nx n.toNat s
end Go.Proofs.YtpeelghbhihgkaaDoor.T
namespace Go.Proofs.YtpeelghbhihgkaaDoor.T
open Go Go.Proofs Go.Proofs.YtpeelghbhihgkaaDoor.K
set_option linter.unusedVariables false
set_option linter.unusedSimpArgs false
def pt (n : Nat) : List Int := if n < 253 then lb n 1 else if n < 65536 then 253 :: lb n 2 else if n < 4294967296 then 254 :: lb n 4 else 255 :: lb n 8
theorem pt_len (n : Nat) : (pt n).length = ln n := by
  unfold pt ln
  split
  · simp [lb_len]
  · split
    · simp [lb_len]
    · split <;> simp [lb_len]
theorem ln_le (n : Nat) : 1 ≤ ln n ∧ ln n ≤ 9 := by unfold ln; split <;> (try split) <;> (try split) <;> omega
theorem lb_one (n : Nat) : lb n 1 = [((n % 256 : Nat) : Int)] := by simp [lb, List.range_succ]
theorem put_eq (b : List Int) (n : Nat) (hn : n < 18446744073709551616) (hl : b.length ≤ 1000000) : compact_Put.f b (n : Int) = some (b ++ pt n) := by
  simp only [compact_Put.f, bytes_Clone.f]
  rw [if_pos (by omega), Option.bind_some, len_eq, Option.bind_some]
  unfold ln pt
  by_cases h1 : n < 253
  · rw [if_pos h1, if_pos h1, if_pos (by rfl), if_pos (by omega), u8e, lb_one]
    congr 3
  · rw [if_neg h1, if_neg h1]
    by_cases h2 : n < 65536
    · have := number_eq' (b ++ [253]) n 2 (by omega) (by simp; omega)
      rw [show ((2 : Nat) : Int) = 2 from rfl] at this
      rw [if_pos h2, if_pos h2, if_neg (by decide), if_pos (by rfl), if_pos (by omega), this, Option.bind_some, List.append_assoc]; rfl
    · rw [if_neg h2, if_neg h2]
      by_cases h3 : n < 4294967296
      · have := number_eq' (b ++ [254]) n 4 (by omega) (by simp; omega)
        rw [show ((4 : Nat) : Int) = 4 from rfl] at this
        rw [if_pos h3, if_pos h3, if_neg (by decide), if_neg (by decide), if_pos (by rfl), if_pos (by omega), this, Option.bind_some, List.append_assoc]; rfl
      · have := number_eq' (b ++ [255]) n 8 (by omega) (by simp; omega)
        rw [show ((8 : Nat) : Int) = 8 from rfl] at this
        rw [if_neg h3, if_neg h3, if_neg (by decide), if_neg (by decide), if_neg (by decide), if_pos (by omega), this, Option.bind_some, List.append_assoc]; rfl
theorem eight_eq (b : List Int) (a : Nat) (hl : b.length ≤ 1000000) : compact_Eight.f b (a : Int) = some (b ++ lb a 8) := by
  have := number_eq' b a 8 (by omega) (by omega)
  simp only [compact_Eight.f, bytes_Clone.f]
  rw [if_pos (by omega), Option.bind_some]
  rw [show ((8 : Nat) : Int) = 8 from rfl] at this
  rw [this, Option.bind_some]
end Go.Proofs.YtpeelghbhihgkaaDoor.T
namespace Go.Proofs.YtpeelghbhihgkaaDoor.T
open Go Go.Proofs Go.Proofs.YtpeelghbhihgkaaDoor.K
set_option linter.unusedVariables false
set_option linter.unusedSimpArgs false
abbrev Stp (α : Type) := List Int × Er → α × (List Int × Er)
section
variable {α β : Type}
def ret (x : α) : Stp α := fun s => (x, s)
end
end Go.Proofs.YtpeelghbhihgkaaDoor.T
namespace Go.Proofs.YtpeelghbhihgkaaDoor.T
open Go Go.Proofs Go.Proofs.YtpeelghbhihgkaaDoor.K
set_option linter.unusedVariables false
set_option linter.unusedSimpArgs false
structure InOk (i : In) : Prop where
  tx : i.From.Tx.length = 32
  txb : Bs i.From.Tx
  n : InR .u32 i.From.N
  key : Bs i.Key
  seq : InR .u32 i.Seq
structure OutOk (o : Out) : Prop where
  val : InR .u64 o.Value
  lock : o.Lock.length = 32
  lockb : Bs o.Lock
structure TxOk (t : Tx) : Prop where
  v : InR .u32 t.Version
  ins : ∀ i ∈ t.Ins, InOk i
  outs : ∀ o ∈ t.Outs, OutOk o
  t : InR .u32 t.Time
structure Few (a b : Nat) (t : Tx) : Prop where
  ins : t.Ins.length ≤ a
  outs : t.Outs.length ≤ a
  key : ∀ i ∈ t.Ins, i.Key.length ≤ b
theorem Few.mono {a b c d : Nat} {t : Tx} (h : Few a b t) (h1 : a ≤ c) (h2 : b ≤ d) : Few c d t := ⟨Nat.le_trans h.ins h1, Nat.le_trans h.outs h1, fun i hi => Nat.le_trans (h.key i hi) h2⟩
def ib (i : In) : List Int := i.From.Tx ++ (lb i.From.N.toNat 4 ++ (pt i.Key.length ++ (i.Key ++ lb i.Seq.toNat 4)))
def ob (o : Out) : List Int := lb o.Value.toNat 8 ++ o.Lock
def tb (t : Tx) : List Int := lb t.Version.toNat 4 ++ (pt t.Ins.length ++ ((t.Ins.map ib).flatten ++ (pt t.Outs.length ++ ((t.Outs.map ob).flatten ++ lb t.Time.toNat 4))))
theorem ib_len {i : In} (h : InOk i) : (ib i).length = 40 + ln i.Key.length + i.Key.length := by
  simp only [ib, List.length_append, h.tx, lb_len, pt_len]; omega
theorem ob_len {o : Out} (h : OutOk o) : (ob o).length = 40 := by simp only [ob, List.length_append, h.lock, lb_len]
theorem flat_le {α : Type} (f : α → List Int) (b : Nat) : ∀ (l : List α), (∀ x ∈ l, (f x).length ≤ b) → (l.map f).flatten.length ≤ b * l.length
  | [], _ => by simp
  | x :: l, h => by
    have h1 := flat_le f b l fun y hy => h y (by simp [hy])
    have h2 := h x (by simp)
    simp only [List.map_cons, List.flatten_cons, List.length_append, List.length_cons]
    rw [Nat.mul_add, Nat.mul_one]; omega
theorem ins_le {t : Tx} (h : TxOk t) {a : Nat} (hf : Few a 1000 t) : (t.Ins.map ib).flatten.length ≤ 2000 * t.Ins.length := flat_le ib 2000 t.Ins fun i hi => by
  rw [ib_len (h.ins i hi)]
  have := (ln_le i.Key.length).2
  have := hf.key i hi
  omega
theorem outs_le {t : Tx} (h : TxOk t) : (t.Outs.map ob).flatten.length ≤ 40 * t.Outs.length := flat_le ob 40 t.Outs fun o ho => by rw [ob_len (h.outs o ho)]; omega
theorem tb_le {t : Tx} (h : TxOk t) (hf : Few 100 1000 t) : (tb t).length ≤ 210000 := by
  have h1 := ins_le h hf
  have h2 := outs_le h
  have h3 := (ln_le t.Ins.length).2
  have h4 := (ln_le t.Outs.length).2
  have h5 := hf.ins
  have h6 := hf.outs
  simp only [tb, List.length_append, lb_len, pt_len]
  omega
theorem nat4 {x : Int} (h : InR .u32 x) : x = ((x.toNat : Nat) : Int) ∧ x.toNat < 4294967296 := by obtain ⟨a, b⟩ := h; omega
theorem nat8 {x : Int} (h : InR .u64 x) : x = ((x.toNat : Nat) : Int) ∧ x.toNat < 18446744073709551616 := by obtain ⟨a, b⟩ := h; omega
theorem getD_mem {α : Type} {l : List α} {d : α} {i : Nat} (h : i < l.length) : l.getD i d ∈ l := by rw [gd l d h]; exact List.getElem_mem h
theorem flat_next {α : Type} (f : α → List Int) (l : List α) (d : α) (i : Nat) (h : i < l.length) : ((l.take (i + 1)).map f).flatten = ((l.take i).map f).flatten ++ f (l.getD i d) := by
  rw [← take_next l i d h]; simp
theorem take_few {α : Type} (f : α → List Int) (b : Nat) (l : List α) (h : ∀ x ∈ l, (f x).length ≤ b) (i : Nat) (hi : i ≤ l.length) : ((l.take i).map f).flatten.length ≤ b * l.length := by
  have := flat_le f b (l.take i) fun x hx => h x (List.mem_of_mem_take hx)
  rw [List.length_take, Nat.min_eq_left hi] at this
  exact Nat.le_trans this (Nat.mul_le_mul_left b hi)
theorem tbytes_eq {t : Tx} (h : TxOk t) (hf : Few 100 1000 t) : tx_Bytes.f t = some (tb t) := by
  obtain ⟨v1, v2⟩ := nat4 h.v
  obtain ⟨t1, t2⟩ := nat4 h.t
  have hi := hf.ins
  have ho := hf.outs
  have hil : ∀ i ∈ t.Ins, (ib i).length ≤ 2000 := fun i hi => by
    rw [ib_len (h.ins i hi)]
    have := (ln_le i.Key.length).2
    have := hf.key i hi
    omega
  have hol : ∀ o ∈ t.Outs, (ob o).length ≤ 40 := fun o ho => by rw [ob_len (h.outs o ho)]; omega
  have lp := (ln_le t.Ins.length).2
  have lq := (ln_le t.Outs.length).2
  have L1 : ∀ P : List Int, P.length ≤ 100 → loopO (tx_Bytes.s0 t) (P, 0) = some (P ++ (t.Ins.map ib).flatten) := fun P hP => by
    refine loop_run (fun i => (P ++ ((t.Ins.take i).map ib).flatten, (i : Int))) t.Ins.length (by simp) (fun i hi => ?_) ?_
    · have hm := getD_mem (l := t.Ins) (d := default) hi
      have ok := h.ins _ hm
      have hk := hf.key _ hm
      have hb := take_few ib 2000 t.Ins hil i (by omega)
      rw [flat_next ib t.Ins default i hi]
      simp only [tx_Bytes.s0, Int.toNat_natCast]
      generalize t.Ins.getD i default = x at *
      obtain ⟨n1, n2⟩ := nat4 ok.n
      obtain ⟨s1, s2⟩ := nat4 ok.seq
      have ltx := ok.tx
      have lk := (ln_le x.Key.length).2
      have hf4 := four_eq (P ++ ((t.Ins.take i).map ib).flatten ++ x.From.Tx) x.From.N.toNat n2 (by simp only [List.length_append]; omega)
      have hp := put_eq (P ++ ((t.Ins.take i).map ib).flatten ++ x.From.Tx ++ lb x.From.N.toNat 4) x.Key.length (by omega) (by simp only [List.length_append, lb_len]; omega)
      have hf5 := four_eq (P ++ ((t.Ins.take i).map ib).flatten ++ x.From.Tx ++ lb x.From.N.toNat 4 ++ pt x.Key.length ++ x.Key) x.Seq.toNat s2 (by simp only [List.length_append, lb_len, pt_len]; omega)
      rw [← n1] at hf4
      rw [← s1] at hf5
      rw [if_pos (by omega), if_pos (by omega), if_pos (by simp only [List.length_append]; omega), hf4, Option.bind_some, wu64 (by omega) (by omega), hp, Option.bind_some, if_pos (by simp only [List.length_append, lb_len, pt_len]; omega), hf5, Option.bind_some, winc i (by omega)]
      simp only [ib, List.append_assoc]
    · simp only [tx_Bytes.s0]
      rw [if_neg (by omega), List.take_length]
  have L2 : ∀ P : List Int, P.length ≤ 300000 → loopO (tx_Bytes.s1 t) (P, 0) = some (P ++ (t.Outs.map ob).flatten) := fun P hP => by
    refine loop_run (fun i => (P ++ ((t.Outs.take i).map ob).flatten, (i : Int))) t.Outs.length (by simp) (fun i hi => ?_) ?_
    · have hm := getD_mem (l := t.Outs) (d := default) hi
      have ok := h.outs _ hm
      have hb := take_few ob 40 t.Outs hol i (by omega)
      rw [flat_next ob t.Outs default i hi]
      simp only [tx_Bytes.s1, Int.toNat_natCast]
      generalize t.Outs.getD i default = x at *
      obtain ⟨n1, n2⟩ := nat8 ok.val
      have ltx := ok.lock
      have h8 := eight_eq (P ++ ((t.Outs.take i).map ob).flatten) x.Value.toNat (by simp only [List.length_append]; omega)
      rw [← n1] at h8
      rw [if_pos (by omega), if_pos (by omega), h8, Option.bind_some, if_pos (by simp only [List.length_append, lb_len]; omega), winc i (by omega)]
      simp only [ob, List.append_assoc]
    · simp only [tx_Bytes.s1]
      rw [if_neg (by omega), List.take_length]
  have hI := flat_le ib 2000 t.Ins hil
  have hO := flat_le ob 40 t.Outs hol
  have f1 := four_eq [] t.Version.toNat v2 (by simp)
  rw [← v1] at f1
  have p1 := put_eq (lb t.Version.toNat 4) t.Ins.length (by omega) (by rw [lb_len]; omega)
  have p2 := put_eq (lb t.Version.toNat 4 ++ pt t.Ins.length ++ (t.Ins.map ib).flatten) t.Outs.length (by omega) (by simp only [List.length_append, lb_len, pt_len]; omega)
  have f2 := four_eq (lb t.Version.toNat 4 ++ pt t.Ins.length ++ (t.Ins.map ib).flatten ++ pt t.Outs.length ++ (t.Outs.map ob).flatten) t.Time.toNat t2 (by simp only [List.length_append, lb_len, pt_len]; omega)
  rw [← t1] at f2
  simp only [tx_Bytes.f]
  rw [f1, Option.bind_some, List.nil_append, wu64 (x := (t.Ins.length : Int)) (by omega) (by omega), p1, Option.bind_some, L1 _ (by simp only [List.length_append, lb_len, pt_len]; omega), Option.bind_some, wu64 (x := (t.Outs.length : Int)) (by omega) (by omega), p2, Option.bind_some, L2 _ (by simp only [List.length_append, lb_len, pt_len]; omega), Option.bind_some, f2, Option.bind_some]
  simp only [tb, List.append_assoc]
end Go.Proofs.YtpeelghbhihgkaaDoor.T
namespace Go.Proofs.YtpeelghbhihgkaaDoor.T
open Go Go.Proofs Go.Proofs.YtpeelghbhihgkaaDoor.K
set_option linter.unusedVariables false
set_option linter.unusedSimpArgs false
def ztx : Tx := ⟨0, [], [], 0⟩
end Go.Proofs.YtpeelghbhihgkaaDoor.T
namespace Go.Proofs.YtpeelghbhihgkaaDoor.T
open Go Go.Proofs Go.Proofs.YtpeelghbhihgkaaDoor.K
set_option linter.unusedVariables false
set_option linter.unusedSimpArgs false
theorem look_run {ρ : Type} {step : Int → Option (Int ⊕ ρ)} (n : Nat) (p : Nat → Prop) [DecidablePred p] (yes no : ρ) (hn : n < 9223372036854775807)
    (hs : ∀ i, i < n → step (i : Int) = if p i then some (.inl (IntKind.i64.wrap ((i : Int) + 1))) else some (.inr no)) (he : step (n : Int) = some (.inr yes)) : loopO step 0 = some (if ∀ i, i < n → p i then yes else no) := by
  have key : ∀ m k, m + k = n → (∀ i, i < k → p i) → loopO step (k : Int) = some (if ∀ i, i < n → p i then yes else no) := by
    intro m
    induction m with
    | zero =>
      intro k e h
      obtain rfl : k = n := by omega
      rw [loopO_inr he, if_pos h]
    | succ m ih =>
      intro k e h
      have h1 := hs k (by omega)
      by_cases hp : p k
      · rw [if_pos hp, winc k (by omega)] at h1
        rw [loopO_inl h1]
        refine ih (k + 1) (by omega) fun i hi => ?_
        rcases Nat.lt_or_ge i k with h2 | h2
        · exact h i h2
        · obtain rfl : i = k := by omega
          exact hp
      · rw [if_neg hp] at h1
        rw [loopO_inr h1, if_neg (fun h2 => hp (h2 k (by omega)))]
  exact key n 0 (by omega) (by simp)
theorem all_getD {α : Type} (l : List α) (d : α) (p : α → Prop) : (∀ i, i < l.length → p (l.getD i d)) ↔ ∀ x ∈ l, p x := by
  constructor
  · intro h x hx
    obtain ⟨i, hi, rfl⟩ := List.getElem_of_mem hx
    have := h i hi
    rwa [gd l d hi] at this
  · intro h i hi
    rw [gd l d hi]
    exact h _ (List.getElem_mem hi)
theorem samepoint_eq (a b : Point) (ha : a.Tx.length = 32) (hb : b.Tx.length = 32) : sargassoref_SamePoint.f a b = some (decide (a = b)) := by
  simp only [sargassoref_SamePoint.f]
  rw [samehash_eq _ _ ha hb]
  obtain ⟨a1, a2⟩ := a
  obtain ⟨b1, b2⟩ := b
  simp only [Option.bind_some, Point.mk.injEq, decide_eq_true_eq]
  by_cases h1 : a1 = b1 <;> by_cases h2 : a2 = b2 <;> simp [h1, h2]
noncomputable instance (a b : Nat) (t : Tx) : Decidable (Few a b t) := Classical.propDecidable _
def nullP : Point := ⟨List.replicate 32 0, 4294967295⟩
theorem point_iff (a b : Point) : a = b ↔ (a.Tx = b.Tx ∧ a.N = b.N) := by
  obtain ⟨a1, a2⟩ := a
  obtain ⟨b1, b2⟩ := b
  simp
theorem light_eq (t : Tx) : sargassolaw4_light.f t = some (decide (Few 60 100 t)) := by
  have hf : Few 60 100 t ↔ t.Ins.length ≤ 60 ∧ t.Outs.length ≤ 60 ∧ ∀ i ∈ t.Ins, i.Key.length ≤ 100 := ⟨fun h => ⟨h.ins, h.outs, h.key⟩, fun ⟨a, b, c⟩ => ⟨a, b, c⟩⟩
  have he : decide (Few 60 100 t) = decide (t.Ins.length ≤ 60 ∧ t.Outs.length ≤ 60 ∧ ∀ i ∈ t.Ins, i.Key.length ≤ 100) := decide_eq_decide.2 hf
  rw [he]
  simp only [sargassolaw4_light.f]
  by_cases h1 : t.Ins.length ≤ 60
  · rw [if_neg (by omega), Option.bind_some]
    by_cases h2 : t.Outs.length ≤ 60
    · rw [if_neg (by simp; omega), look_run t.Ins.length (fun i => (t.Ins.getD i default).Key.length ≤ 100) true false (by omega) (fun i hi => by
        simp only [sargassolaw4_light.s0, Int.toNat_natCast]
        rw [if_pos (by omega), if_pos (by omega)]
        by_cases c : (t.Ins.getD i default).Key.length ≤ 100
        · rw [if_neg (by omega), if_pos c]
        · rw [if_pos (by omega), if_neg c]) (by simp [sargassolaw4_light.s0])]
      have := all_getD t.Ins default (fun x => x.Key.length ≤ 100)
      by_cases c : ∀ i ∈ t.Ins, i.Key.length ≤ 100
      · rw [if_pos (this.2 c), decide_eq_true ⟨h1, h2, c⟩]
      · rw [if_neg (fun h => c (this.1 h)), decide_eq_false (fun h => c h.2.2)]
    · rw [if_pos (by simp; omega), decide_eq_false (fun h => h2 h.2.1)]
  · rw [if_pos (by omega), Option.bind_some, if_pos rfl, decide_eq_false (fun h => h1 h.1)]
theorem out_iff (x y : Out) : x = y ↔ (x.Value = y.Value ∧ x.Lock = y.Lock) := by
  obtain ⟨x1, x2⟩ := x
  obtain ⟨y1, y2⟩ := y
  simp
theorem bStr_lst (xs : List Int) : (bStr xs).data.toList = xs.map fun n => UInt8.ofNat n.toNat := by
  have h : ∀ (xs : List Int) (acc : ByteArray), (xs.foldl (fun r n => r.push (UInt8.ofNat n.toNat)) acc).data.toList = acc.data.toList ++ xs.map fun n => UInt8.ofNat n.toNat := by
    intro xs
    induction xs with
    | nil => intro acc; simp
    | cons x xs ih => intro acc; rw [List.foldl_cons, ih]; simp [ByteArray.push]
  exact h xs .empty
theorem bStr_inj : ∀ {a b : List Int}, Bs a → Bs b → (bStr a = bStr b ↔ a = b) := by
  intro a b ha hb
  refine ⟨fun h => ?_, fun h => by rw [h]⟩
  have h1 : (a.map fun n => UInt8.ofNat n.toNat) = b.map fun n => UInt8.ofNat n.toNat := by rw [← bStr_lst, ← bStr_lst, h]
  have hl : a.length = b.length := by simpa using congrArg List.length h1
  refine List.ext_getElem hl fun i i1 i2 => ?_
  have h2 : UInt8.ofNat (a[i]).toNat = UInt8.ofNat (b[i]).toNat := by
    have := congrArg (fun l => l[i]?) h1
    simpa [List.getElem?_map, List.getElem?_eq_getElem i1, List.getElem?_eq_getElem i2] using this
  obtain ⟨p1, p2⟩ := ha _ (List.getElem_mem i1)
  obtain ⟨q1, q2⟩ := hb _ (List.getElem_mem i2)
  have h3 := congrArg UInt8.toNat h2
  simp only [UInt8.toNat_ofNat'] at h3
  have k1 : (a[i]).toNat < 256 := by omega
  have k2 : (b[i]).toNat < 256 := by omega
  rw [Nat.mod_eq_of_lt (by simpa using k1), Nat.mod_eq_of_lt (by simpa using k2)] at h3
  omega
theorem in_iff (x y : In) : x = y ↔ ((x.From.Tx = y.From.Tx ∧ x.From.N = y.From.N) ∧ x.Seq = y.Seq ∧ x.Key = y.Key) := by
  obtain ⟨⟨x1, x2⟩, x3, x4⟩ := x
  obtain ⟨⟨y1, y2⟩, y3, y4⟩ := y
  simp only [In.mk.injEq, Point.mk.injEq]
  constructor
  · rintro ⟨a, b, c⟩; exact ⟨a, c, b⟩
  · rintro ⟨a, b, c⟩; exact ⟨a, c, b⟩
theorem same1_eq (x y : In) (hx : Bs x.Key) (hy : Bs y.Key) : tx_Same_1.f x y = some (decide (x = y)) := by
  simp only [tx_Same_1.f, bytes_Equal.f, Option.bind_some]
  have hi := in_iff x y
  have hs := bStr_inj hx hy
  by_cases c1 : x.From.Tx = y.From.Tx ∧ x.From.N = y.From.N
  · rw [if_pos c1]
    by_cases c2 : x.Seq = y.Seq
    · rw [if_pos c2, Option.bind_some]
      exact congrArg some (decide_eq_decide.2 (hs.trans ⟨fun h => hi.2 ⟨c1, c2, h⟩, fun h => (hi.1 h).2.2⟩))
    · rw [if_neg c2, Option.bind_some, decide_eq_false (fun h => c2 (hi.1 h).2.1)]
  · rw [if_neg c1, Option.bind_some, decide_eq_false (fun h => c1 (hi.1 h).1)]
theorem eqouts_eq (a b : List Out) (hl : a.length ≤ 1000000) : slices_Equal_api_Out_api_Out.f a b = some (decide (a = b)) := by
  simp only [slices_Equal_api_Out_api_Out.f]
  by_cases h : a.length = b.length
  · rw [if_neg (by omega), all_run a.length (fun i => a.getD i default = b.getD i default) (by omega) (fun i hi => by
      simp only [slices_Equal_api_Out_api_Out.s0, Int.toNat_natCast]
      rw [if_pos (by omega), if_pos (by omega), if_pos (by omega)]
      by_cases c : a.getD i default = b.getD i default
      · rw [if_pos c, if_neg (fun h => h ((out_iff _ _).1 c))]
      · rw [if_neg c, if_pos (fun h => c ((out_iff _ _).2 h))]) (by simp [slices_Equal_api_Out_api_Out.s0])]
    exact congrArg some (decide_eq_decide.2 (ext_iff a b default h))
  · rw [if_pos (by omega)]
    have : a ≠ b := fun e => h (by rw [e])
    simp [this]
theorem eqins_eq (a b : List In) (hl : a.length ≤ 1000000) (hk : ∀ i ∈ a, Bs i.Key) (hk2 : ∀ i ∈ b, Bs i.Key) : slices_EqualFunc_api_In_api_In_api_In_api_In_at_tx_Same_1.f a b = some (decide (a = b)) := by
  simp only [slices_EqualFunc_api_In_api_In_api_In_api_In_at_tx_Same_1.f]
  by_cases h : a.length = b.length
  · rw [if_neg (by omega), all_run a.length (fun i => a.getD i default = b.getD i default) (by omega) (fun i hi => by
      simp only [slices_EqualFunc_api_In_api_In_api_In_api_In_at_tx_Same_1.s0, Int.toNat_natCast]
      rw [if_pos (by omega), if_pos (by omega), if_pos (by omega), same1_eq _ _ (hk _ (getD_mem hi)) (hk2 _ (getD_mem (show i < b.length by omega))), Option.bind_some]
      by_cases c : a.getD i default = b.getD i default
      · rw [if_pos c, if_pos (decide_eq_true c)]
      · rw [if_neg c, if_neg (by simp only [decide_eq_true_eq]; exact c)]) (by simp [slices_EqualFunc_api_In_api_In_api_In_api_In_at_tx_Same_1.s0])]
    exact congrArg some (decide_eq_decide.2 (ext_iff a b default h))
  · rw [if_pos (by omega)]
    have : a ≠ b := fun e => h (by rw [e])
    simp [this]
theorem tx_iff (t u : Tx) : t = u ↔ (t.Version = u.Version ∧ t.Time = u.Time ∧ t.Outs = u.Outs ∧ t.Ins = u.Ins) := by
  obtain ⟨a, b, c, d⟩ := t
  obtain ⟨e, f, g, h⟩ := u
  simp only [Tx.mk.injEq]
  constructor
  · rintro ⟨a, b, c, d⟩; exact ⟨a, d, c, b⟩
  · rintro ⟨a, b, c, d⟩; exact ⟨a, d, c, b⟩
theorem txsame_eq {t u : Tx} (h : TxOk t) (k : TxOk u) (h1 : t.Ins.length ≤ 1000000) (h2 : t.Outs.length ≤ 1000000) : tx_Same.f t u = some (decide (t = u)) := by
  simp only [tx_Same.f]
  have hi := tx_iff t u
  by_cases c1 : t.Version = u.Version
  · rw [if_pos c1]
    by_cases c2 : t.Time = u.Time
    · rw [if_pos c2, eqouts_eq _ _ h2, Option.bind_some]
      by_cases c3 : t.Outs = u.Outs
      · rw [if_pos (decide_eq_true c3), eqins_eq _ _ h1 (fun i hi => (h.ins i hi).key) (fun i hi => (k.ins i hi).key), Option.bind_some, Option.bind_some]
        exact congrArg some (decide_eq_decide.2 ⟨fun h => hi.2 ⟨c1, c2, c3, h⟩, fun h => (hi.1 h).2.2.2⟩)
      · rw [if_neg (by simp only [decide_eq_true_eq]; exact c3), Option.bind_some, decide_eq_false (fun h => c3 (hi.1 h).2.2.1)]
    · rw [if_neg c2, Option.bind_some, decide_eq_false (fun h => c2 (hi.1 h).2.1)]
  · rw [if_neg c1, Option.bind_some, decide_eq_false (fun h => c1 (hi.1 h).1)]
theorem sameout_eq {x y : Out} (h : OutOk x) (k : OutOk y) : sargassoref_SameOut.f x y = some (decide (x = y)) := by
  simp only [sargassoref_SameOut.f]
  have hi := out_iff x y
  by_cases c1 : x.Value = y.Value
  · rw [if_pos c1, samehash_eq _ _ h.lock k.lock, Option.bind_some, Option.bind_some]
    exact congrArg some (decide_eq_decide.2 ⟨fun h => hi.2 ⟨c1, h⟩, fun h => (hi.1 h).2⟩)
  · rw [if_neg c1, Option.bind_some, decide_eq_false (fun h => c1 (hi.1 h).1)]
theorem samein_eq {x y : In} (h : InOk x) (k : InOk y) (hl : x.Key.length ≤ 1000000) : sargassoref_SameIn.f x y = some (decide (x = y)) := by
  simp only [sargassoref_SameIn.f]
  have hi := in_iff x y
  rw [samepoint_eq _ _ h.tx k.tx, Option.bind_some]
  have hp := point_iff x.From y.From
  by_cases c1 : x.From = y.From
  · rw [if_pos (decide_eq_true c1), samebytes_eq' _ _ (by omega), Option.bind_some]
    by_cases c2 : x.Key = y.Key
    · rw [if_pos (decide_eq_true c2), Option.bind_some]
      exact congrArg some (decide_eq_decide.2 ⟨fun h => hi.2 ⟨hp.1 c1, h, c2⟩, fun h => (hi.1 h).2.1⟩)
    · rw [if_neg (by simp only [decide_eq_true_eq]; exact c2), Option.bind_some, decide_eq_false (fun h => c2 (hi.1 h).2.2)]
  · rw [if_neg (by simp only [decide_eq_true_eq]; exact c1), Option.bind_some, decide_eq_false (fun h => c1 (hp.2 (hi.1 h).1))]
theorem sametx_eq {t u : Tx} (h : TxOk t) (k : TxOk u) (h1 : t.Ins.length ≤ 1000000) (h2 : t.Outs.length ≤ 1000000) (h3 : ∀ i ∈ t.Ins, i.Key.length ≤ 1000000) : sargassoref_SameTx.f t u = some (decide (t = u)) := by
  simp only [sargassoref_SameTx.f]
  have hi := tx_iff t u
  by_cases c1 : t.Version = u.Version
  · rw [if_neg (fun h => h c1)]
    by_cases c2 : t.Time = u.Time
    · rw [if_neg (fun h => h c2)]
      by_cases c3 : t.Ins.length = u.Ins.length
      · rw [if_neg (by omega), Option.bind_some]
        by_cases c4 : t.Outs.length = u.Outs.length
        · rw [if_neg (by simp only [decide_eq_true_eq]; omega)]
          have e1 : loopO (sargassoref_SameTx.s1 t u) 0 = some (if ∀ i, i < t.Outs.length → t.Outs.getD i default = u.Outs.getD i default then (Sum.inr true : Int ⊕ Bool) else Sum.inr false) := look_run t.Outs.length (fun i => t.Outs.getD i default = u.Outs.getD i default) (Sum.inr true) (Sum.inr false) (by omega) (fun i hi => by
            simp only [sargassoref_SameTx.s1, Int.toNat_natCast]
            rw [if_pos (by omega), if_pos (by omega), if_pos (by omega), sameout_eq (h.outs _ (getD_mem hi)) (k.outs _ (getD_mem (show i < u.Outs.length by omega))), Option.bind_some]
            by_cases c : t.Outs.getD i default = u.Outs.getD i default
            · rw [if_pos c, if_pos (decide_eq_true c)]
            · rw [if_neg c, if_neg (by simp only [decide_eq_true_eq]; exact c)]) (by simp [sargassoref_SameTx.s1])
          have e2 : loopO (sargassoref_SameTx.s1 t u) 0 = some (.inr (decide (t.Outs = u.Outs))) := by
            rw [e1]
            have e := ext_iff t.Outs u.Outs default c4
            by_cases c : t.Outs = u.Outs
            · rw [if_pos (e.2 c), decide_eq_true c]
            · rw [if_neg (fun h => c (e.1 h)), decide_eq_false c]
          rw [look_run t.Ins.length (fun i => t.Ins.getD i default = u.Ins.getD i default) (decide (t.Outs = u.Outs)) false (by omega) (fun i hi => by
            simp only [sargassoref_SameTx.s0, Int.toNat_natCast]
            rw [if_pos (by omega), if_pos (by omega), if_pos (by omega), samein_eq (h.ins _ (getD_mem hi)) (k.ins _ (getD_mem (show i < u.Ins.length by omega))) (h3 _ (getD_mem hi)), Option.bind_some]
            by_cases c : t.Ins.getD i default = u.Ins.getD i default
            · rw [if_pos c, if_pos (decide_eq_true c)]
            · rw [if_neg c, if_neg (by simp only [decide_eq_true_eq]; exact c)]) (by
            simp only [sargassoref_SameTx.s0]
            rw [if_neg (by omega), e2])]
          have e := ext_iff t.Ins u.Ins default c3
          by_cases c : t.Ins = u.Ins
          · rw [if_pos (e.2 c)]
            exact congrArg some (decide_eq_decide.2 ⟨fun h => hi.2 ⟨c1, c2, h, c⟩, fun h => (hi.1 h).2.2.1⟩)
          · rw [if_neg (fun h => c (e.1 h)), decide_eq_false (fun h => c (hi.1 h).2.2.2)]
        · rw [if_pos (by simp only [decide_eq_true_eq]; omega), decide_eq_false (fun h => c4 (by rw [h]))]
      · rw [if_pos (by omega), Option.bind_some, if_pos rfl, decide_eq_false (fun h => c3 (by rw [h]))]
    · rw [if_pos c2, Option.bind_some, if_pos rfl, decide_eq_false (fun h => c2 (hi.1 h).2.1)]
  · rw [if_pos c1, Option.bind_some, if_pos rfl, decide_eq_false (fun h => c1 (hi.1 h).1)]
end Go.Proofs.YtpeelghbhihgkaaDoor.T
namespace Go.Proofs.YtpeelghbhihgkaaDoor.T
open Go Go.Proofs Go.Proofs.YtpeelghbhihgkaaDoor.K
set_option linter.unusedVariables false
def goSum : Int → List Int → Int × Bool
  | s, [] => (s, true)
  | s, x :: r => if 2100000000000000 < s + x then (0, false) else goSum (s + x) r
theorem sum_loop (xs : List Int) (h : xs.length ≤ 140737488355328) (hx : ∀ x ∈ xs, InR .u64 x) : ∀ (r pre : List Int) (s : Int), xs = pre ++ r → 0 ≤ s → s ≤ 2100000000000000 →
    loopO (compact_Sum.s0 xs) (s, (pre.length : Int)) = some (goSum s r)
  | [], pre, s, e, _, _ => by
    obtain rfl : xs = pre := by simpa using e
    exact loopO_inr (by simp [compact_Sum.s0, goSum])
  | x :: r, pre, s, e, h0, h1 => by
    have hr : InR .u64 x := hx x (by simp [e])
    obtain ⟨a, b⟩ := hr
    have h3 := mid_lt pre r x
    have ih := sum_loop xs h hx r (pre ++ [x]) (s + x) (by simp [e]) (by omega)
    subst e
    unfold goSum
    by_cases hc : 2100000000000000 < s + x
    · rw [if_pos hc]
      refine loopO_inr ?_
      simp only [compact_Sum.s0, if_pos h3.2, if_pos h3, getD_mid]
      rw [if_pos (by rw [wu64 (by omega) (by omega)]; omega)]
    · rw [if_neg hc, loopO_inl (s' := (s + x, ((pre ++ [x]).length : Int)))]
      · exact ih (by omega)
      · simp only [compact_Sum.s0, if_pos h3.2, if_pos h3, getD_mid]
        rw [if_neg (by rw [wu64 (by omega) (by omega)]; omega), wu64 (by omega) (by omega), mid_next pre r x h]
theorem sum_eq (xs : List Int) (h : xs.length ≤ 140737488355328) (hx : ∀ x ∈ xs, InR .u64 x) : compact_Sum.f xs = some (goSum 0 xs) :=
  sum_loop xs h hx xs [] 0 rfl (by omega) (by omega)
theorem sum1_loop (xs : List Int) (h : xs.length ≤ 140737488355328) (hx : ∀ x ∈ xs, InR .u64 x) : ∀ (r pre : List Int) (s : Int), xs = pre ++ r → 0 ≤ s → s ≤ 2100000000000000 →
    loopO (sargassoref1_Sum.s0 xs) (s, (pre.length : Int)) = some (goSum s r)
  | [], pre, s, e, _, _ => by
    obtain rfl : xs = pre := by simpa using e
    exact loopO_inr (by simp [sargassoref1_Sum.s0, goSum])
  | x :: r, pre, s, e, h0, h1 => by
    have hr : InR .u64 x := hx x (by simp [e])
    obtain ⟨a, b⟩ := hr
    have h3 := mid_lt pre r x
    have ih := sum1_loop xs h hx r (pre ++ [x]) (s + x) (by simp [e]) (by omega)
    subst e
    unfold goSum
    by_cases hc : 2100000000000000 < s + x
    · rw [if_pos hc]
      refine loopO_inr ?_
      simp only [sargassoref1_Sum.s0, if_pos h3.2, if_pos h3, getD_mid]
      by_cases hb : 2100000000000000 < x
      · rw [if_pos hb]; simp
      · rw [if_neg hb, wu64 (by omega) (by omega)]; simp [hc]
    · rw [if_neg hc, loopO_inl (s' := (s + x, ((pre ++ [x]).length : Int)))]
      · exact ih (by omega)
      · simp only [sargassoref1_Sum.s0, if_pos h3.2, if_pos h3, getD_mid]
        rw [if_neg (by omega), wu64 (by omega) (by omega), mid_next pre r x h]
        simp [hc]
theorem sum1_eq (xs : List Int) (h : xs.length ≤ 140737488355328) (hx : ∀ x ∈ xs, InR .u64 x) : sargassoref1_Sum.f xs = some (goSum 0 xs) :=
  sum1_loop xs h hx xs [] 0 rfl (by omega) (by omega)
end Go.Proofs.YtpeelghbhihgkaaDoor.T
namespace Go.Proofs.YtpeelghbhihgkaaDoor.T
open Go Go.Proofs Go.Proofs.YtpeelghbhihgkaaDoor.K
set_option linter.unusedVariables false
set_option linter.unusedSimpArgs false
theorem in_ok {μ : Store} {x : In} {c : List Value} (h : RIn μ x c) : InOk x := by
  obtain ⟨v0, _, h1, h2, h3, h4⟩ := h
  exact ⟨h1.1, h1.2, h2, fun y hy => slc_ints h3 y hy, h4⟩
theorem out_ok {μ : Store} {x : Out} {c : List Value} (h : ROut μ x c) : OutOk x := by
  obtain ⟨_, h1, h2⟩ := h
  exact ⟨h1, h2.1, h2.2⟩
theorem tx_ok {μ : Store} {x : Tx} {v0 v1 : Value} (h : TxW μ x v0 v1) : TxOk x := by
  obtain ⟨h1, ⟨c1, h2, _⟩, ⟨c2, h3, _⟩, h4⟩ := h
  exact ⟨h1, els_all h2 fun y c hc => in_ok hc, els_all h3 fun y c hc => out_ok hc, h4⟩
theorem find_run {step : Int → Option (Int ⊕ Int)} (n : Nat) (p : Nat → Prop) [DecidablePred p] (hn : n < 9223372036854775807)
    (hs : ∀ i, i < n → step (i : Int) = if p i then some (.inr (i : Int)) else some (.inl (IntKind.i64.wrap ((i : Int) + 1)))) (he : step (n : Int) = some (.inr (-1))) : ∃ r, loopO step 0 = some r ∧ (0 ≤ r ↔ ∃ i, i < n ∧ p i) := by
  have key : ∀ m k, m + k = n → (∀ i, i < k → ¬ p i) → ∃ r, loopO step (k : Int) = some r ∧ (0 ≤ r ↔ ∃ i, i < n ∧ p i) := by
    intro m
    induction m with
    | zero =>
      intro k e h
      obtain rfl : k = n := by omega
      exact ⟨-1, loopO_inr he, ⟨fun h => by omega, fun ⟨i, h1, h2⟩ => absurd h2 (h i h1)⟩⟩
    | succ m ih =>
      intro k e h
      have h1 := hs k (by omega)
      by_cases hp : p k
      · rw [if_pos hp] at h1
        exact ⟨k, loopO_inr h1, ⟨fun _ => ⟨k, by omega, hp⟩, fun _ => by omega⟩⟩
      · rw [if_neg hp, winc k (by omega)] at h1
        rw [loopO_inl h1]
        refine ih (k + 1) (by omega) fun i hi => ?_
        rcases Nat.lt_or_ge i k with h2 | h2
        · exact h i h2
        · obtain rfl : i = k := by omega
          exact hp
  exact key n 0 (by omega) (by simp)
theorem ex_getD {α : Type} (l : List α) (d : α) (p : α → Prop) : (∃ i, i < l.length ∧ p (l.getD i d)) ↔ ∃ x ∈ l, p x := by
  constructor
  · rintro ⟨i, hi, h⟩
    exact ⟨_, getD_mem hi, h⟩
  · rintro ⟨x, hx, h⟩
    obtain ⟨i, hi, rfl⟩ := List.getElem_of_mem hx
    exact ⟨i, hi, by rw [gd l d hi]; exact h⟩
theorem contains_key (l : List In) (hl : l.length ≤ 1000000) : slices_ContainsFunc_api_In_api_In_at_tx_Check_1.f l = some (decide (∃ i ∈ l, 80 < i.Key.length)) := by
  obtain ⟨r, h1, h2⟩ := find_run (step := slices_IndexFunc_api_In_api_In_at_tx_Check_1.s0 l) l.length (fun i => 80 < (l.getD i default).Key.length) (by omega) (fun i hi => by
    simp only [slices_IndexFunc_api_In_api_In_at_tx_Check_1.s0, tx_Check_1.f, Int.toNat_natCast]
    rw [if_pos (by omega), if_pos (by omega), Option.bind_some]
    by_cases c : 80 < (l.getD i default).Key.length
    · rw [if_pos c, if_pos (by simp only [decide_eq_true_eq]; omega)]
    · rw [if_neg c, if_neg (by simp only [decide_eq_true_eq]; omega)]) (by simp [slices_IndexFunc_api_In_api_In_at_tx_Check_1.s0])
  simp only [slices_ContainsFunc_api_In_api_In_at_tx_Check_1.f, slices_IndexFunc_api_In_api_In_at_tx_Check_1.f]
  rw [h1, Option.bind_some]
  exact congrArg some (decide_eq_decide.2 (h2.trans (ex_getD l default fun i => 80 < i.Key.length)))
theorem isnull_eq (p : Point) : spend_IsNull.f p = some (decide (p = nullP)) := by
  simp only [spend_IsNull.f, spend_Null.f, Option.bind_some]
  exact congrArg some (decide_eq_decide.2 (point_iff p nullP).symm)
theorem contains_null (l : List In) (hl : l.length ≤ 1000000) : slices_ContainsFunc_api_In_api_In_at_tx_base_1.f l = some (decide (∃ i ∈ l, i.From = nullP)) := by
  obtain ⟨r, h1, h2⟩ := find_run (step := slices_IndexFunc_api_In_api_In_at_tx_base_1.s0 l) l.length (fun i => (l.getD i default).From = nullP) (by omega) (fun i hi => by
    simp only [slices_IndexFunc_api_In_api_In_at_tx_base_1.s0, tx_base_1.f, Int.toNat_natCast]
    rw [if_pos (by omega), if_pos (by omega), isnull_eq, Option.bind_some, Option.bind_some]
    by_cases c : (l.getD i default).From = nullP
    · rw [if_pos c, if_pos (decide_eq_true c)]
    · rw [if_neg c, if_neg (by simp only [decide_eq_true_eq]; exact c)]) (by simp [slices_IndexFunc_api_In_api_In_at_tx_base_1.s0])
  simp only [slices_ContainsFunc_api_In_api_In_at_tx_base_1.f, slices_IndexFunc_api_In_api_In_at_tx_base_1.f]
  rw [h1, Option.bind_some]
  exact congrArg some (decide_eq_decide.2 (h2.trans (ex_getD l default fun i => i.From = nullP)))
theorem mget_put {K V : Type} [DecidableEq K] (l : List (K × V)) (k k' : K) (v : V) : mget (mput l k v) k' = if k = k' then some v else mget l k' := by
  induction l with
  | nil => simp [mput, mget]
  | cons p l ih =>
    unfold mput
    by_cases h : p.1 = k
    · rw [if_pos h]
      subst h
      by_cases c : p.1 = k'
      · simp [mget, c]
      · simp [mget, c]
    · rw [if_neg h]
      simp only [mget]
      by_cases c : p.1 = k'
      · rw [if_pos c, if_pos c, if_neg (fun e => h (c.trans e.symm))]
      · rw [if_neg c, if_neg c, ih]
def frs (t : Tx) : List Point := t.Ins.map (·.From)
theorem frs_next (t : Tx) (i : Nat) (h : i < t.Ins.length) : (t.Ins.take (i + 1)).map (·.From) = (t.Ins.take i).map (·.From) ++ [(t.Ins.getD i default).From] := by
  rw [← take_next t.Ins i default h]; simp
theorem twice_loop (t : Tx) (hl : t.Ins.length ≤ 1000000) : ∀ (m i : Nat) (s : List (Point × Bool)), m + i = t.Ins.length → (∀ k, ((mget s k).getD false = true ↔ k ∈ (t.Ins.take i).map (·.From))) → ((t.Ins.take i).map (·.From)).Nodup →
    loopO (tx_twice.s0 t) ((i : Int), s) = some (decide (¬ (frs t).Nodup)) := by
  intro m
  induction m with
  | zero =>
    intro i s e h hn
    obtain rfl : i = t.Ins.length := by omega
    rw [List.take_length] at hn
    rw [loopO_inr (by simp only [tx_twice.s0]; rw [if_neg (by omega)]), decide_eq_false (fun h => h hn)]
  | succ m ih =>
    intro i s e h hn
    by_cases c : (t.Ins.getD i default).From ∈ (t.Ins.take i).map (·.From)
    · rw [loopO_inr (by
        simp only [tx_twice.s0, Int.toNat_natCast]
        rw [if_pos (by omega), if_pos (by omega), if_pos ((h _).2 c)])]
      have h2 : ¬ (frs t).Nodup := fun hd => by
        have h3 : ((t.Ins.take (i + 1)).map (·.From)).Nodup := hd.sublist ((List.take_sublist _ _).map _)
        rw [frs_next t i (by omega)] at h3
        exact (List.nodup_append.1 h3).2.2 _ c _ (by simp) rfl
      rw [decide_eq_true h2]
    · rw [loopO_inl (by
        simp only [tx_twice.s0, Int.toNat_natCast]
        rw [if_pos (by omega), if_pos (by omega), if_neg (fun h2 => c ((h _).1 h2)), winc i (by omega)])]
      refine ih (i + 1) _ (by omega) (fun k => ?_) ?_
      · rw [mget_put, frs_next t i (by omega)]
        by_cases ck : (t.Ins.getD i default).From = k
        · rw [if_pos ck, ← ck]; simp
        · rw [if_neg ck, h k, List.mem_append]
          refine ⟨.inl, fun h => ?_⟩
          rcases h with h | h
          · exact h
          · exact absurd (by simpa using h) (fun e => ck (Eq.symm e))
      · rw [frs_next t i (by omega)]
        refine List.nodup_append.2 ⟨hn, by simp, fun a ha b hb => ?_⟩
        have hb' : b = (t.Ins.getD i default).From := by simpa using hb
        intro e
        exact c (by rw [← hb', ← e]; exact ha)
theorem twice_eq' (t : Tx) (hl : t.Ins.length ≤ 1000000) : tx_twice.f t = some (decide (¬ (frs t).Nodup)) := by
  have := twice_loop t hl t.Ins.length 0 [] (by omega) (fun k => by simp [mget]) (by simp)
  exact this
theorem values_eq (t : Tx) (hl : t.Outs.length ≤ 1000000) : tx_values.f t = some (t.Outs.map (·.Value)) := by
  simp only [tx_values.f]
  rw [show loopO (tx_values.s0 t) ([], 0) = _ from loop_run (step := tx_values.s0 t) (fun i => ((t.Outs.take i).map (·.Value), (i : Int))) t.Outs.length (r := t.Outs.map (·.Value)) rfl (fun i hi => by
    simp only [tx_values.s0, Int.toNat_natCast]
    rw [if_pos (by omega), if_pos (by omega), if_pos (by simp; omega), winc i (by omega), ← take_next t.Outs i default hi]
    simp) (by simp only [tx_values.s0]; rw [if_neg (by omega), List.take_length])]
  rfl
theorem values1_eq (t : Tx) (hl : t.Outs.length ≤ 1000000) : sargassoref1_Values.f t = some (t.Outs.map (·.Value)) := by
  simp only [sargassoref1_Values.f]
  rw [show loopO (sargassoref1_Values.s0 t) ([], 0) = _ from loop_run (step := sargassoref1_Values.s0 t) (fun i => ((t.Outs.take i).map (·.Value), (i : Int))) t.Outs.length (r := t.Outs.map (·.Value)) rfl (fun i hi => by
    simp only [sargassoref1_Values.s0, Int.toNat_natCast]
    rw [if_pos (by omega), if_pos (by omega), if_pos (by simp; omega), winc i (by omega), ← take_next t.Outs i default hi]
    simp) (by simp only [sargassoref1_Values.s0]; rw [if_neg (by omega), List.take_length])]
  rfl
def vs (t : Tx) : List Int := t.Outs.map (·.Value)
theorem vs_in {t : Tx} (h : TxOk t) : ∀ x ∈ vs t, InR .u64 x := fun x hx => by
  obtain ⟨o, ho, rfl⟩ := List.mem_map.1 hx
  exact (h.outs o ho).val
theorem txsum_eq {t : Tx} (h : TxOk t) (hl : t.Outs.length ≤ 1000000) : tx_Sum.f t = some (goSum 0 (vs t)) := by
  simp only [tx_Sum.f]
  rw [values_eq t hl, Option.bind_some, show t.Outs.map (·.Value) = vs t from rfl, sum_eq _ (by simp [vs]; omega) (vs_in h)]
  rfl
def isBase (t : Tx) : Prop := t.Ins.length = 1 ∧ (t.Ins.getD 0 default).From = nullP
instance (t : Tx) : Decidable (isBase t) := inferInstanceAs (Decidable (_ ∧ _))
theorem base_eq (t : Tx) : tx_Base.f t = some (decide (isBase t)) := by
  simp only [tx_Base.f]
  by_cases c : t.Ins.length = 1
  · rw [if_pos (by omega), if_pos (by omega), isnull_eq]
    simp only [Option.bind_some]
    exact congrArg some (decide_eq_decide.2 ⟨fun h => ⟨c, h⟩, fun h => h.2⟩)
  · rw [if_neg (by omega), Option.bind_some, decide_eq_false (fun h => c h.1)]
noncomputable def bs (t : Tx) : Er := if isBase t then (if (t.Ins.getD 0 default).Key.length < 4 then xErrBase else .b 0) else if ∃ i ∈ t.Ins, i.From = nullP then xErrBase else .b 0
theorem base1_eq (t : Tx) (hl : t.Ins.length ≤ 1000000) : tx_base.f t = some (bs t) := by
  simp only [tx_base.f]
  rw [base_eq, Option.bind_some]
  unfold bs
  by_cases c : isBase t
  · rw [if_pos (decide_eq_true c), if_pos c, if_pos (by have := c.1; omega)]
    by_cases k : (t.Ins.getD 0 default).Key.length < 4
    · rw [if_pos k, if_pos (show (((t.Ins.getD (0 : Int).toNat default).Key).length : Int) < 4 by rw [show (0 : Int).toNat = 0 from rfl]; omega)]
    · rw [if_neg k, if_neg (show ¬ (((t.Ins.getD (0 : Int).toNat default).Key).length : Int) < 4 by rw [show (0 : Int).toNat = 0 from rfl]; omega)]
  · rw [if_neg (by simp only [decide_eq_true_eq]; exact c), if_neg c, contains_null _ hl, Option.bind_some]
    by_cases k : ∃ i ∈ t.Ins, i.From = nullP
    · rw [if_pos (decide_eq_true k), if_pos k]
    · rw [if_neg (by simp only [decide_eq_true_eq]; exact k), if_neg k]
def mn (t : Tx) : Prop := t.Ins.length = 0 ∨ 50 < t.Ins.length ∨ t.Outs.length = 0 ∨ 50 < t.Outs.length
instance (t : Tx) : Decidable (mn t) := inferInstanceAs (Decidable (_ ∨ _))
noncomputable def ck (t : Tx) : Er := if mn t then xErrMany else if 4000 < (tb t).length then xErrLong else if ∃ i ∈ t.Ins, 80 < i.Key.length then xErrKey else if (goSum 0 (vs t)).2 = false then xErrValue else if ¬ (frs t).Nodup then xErrTwice else bs t
theorem many_eq (t : Tx) : (if (t.Ins.length : Int) = 0 then some true else (if 50 < (t.Ins.length : Int) then some true else (if (t.Outs.length : Int) = 0 then some true else some (decide (50 < (t.Outs.length : Int)))))) = some (decide (mn t)) := by
  have hm : mn t ↔ (t.Ins.length = 0 ∨ 50 < t.Ins.length ∨ t.Outs.length = 0 ∨ 50 < t.Outs.length) := Iff.rfl
  by_cases c1 : t.Ins.length = 0
  · rw [if_pos (by omega), decide_eq_true (hm.2 (.inl c1))]
  · by_cases c2 : 50 < t.Ins.length
    · rw [if_neg (by omega), if_pos (by omega), decide_eq_true (hm.2 (.inr (.inl c2)))]
    · by_cases c3 : t.Outs.length = 0
      · rw [if_neg (by omega), if_neg (by omega), if_pos (by omega), decide_eq_true (hm.2 (.inr (.inr (.inl c3))))]
      · rw [if_neg (by omega), if_neg (by omega), if_neg (by omega)]
        exact congrArg some (decide_eq_decide.2 ⟨fun h => hm.2 (by omega), fun h => by have := hm.1 h; omega⟩)
theorem size_eq {t : Tx} (h : TxOk t) (hf : Few 60 100 t) : tx_Size.f t = some ((tb t).length : Int) := by
  simp only [tx_Size.f]
  rw [tbytes_eq h (hf.mono (by omega) (by omega)), Option.bind_some]
theorem check_eq {t : Tx} (h : TxOk t) (hf : Few 60 100 t) : tx_Check.f t = some (ck t) := by
  have h1 := hf.ins
  have h2 := hf.outs
  simp only [tx_Check.f]
  rw [many_eq, Option.bind_some]
  unfold ck
  by_cases c1 : mn t
  · rw [if_pos (decide_eq_true c1), if_pos c1]
  · rw [if_neg (by simp only [decide_eq_true_eq]; exact c1), if_neg c1, size_eq h hf, Option.bind_some]
    by_cases c2 : 4000 < (tb t).length
    · rw [if_pos (by omega), if_pos c2]
    · rw [if_neg (by omega), if_neg c2, contains_key _ (by omega), Option.bind_some]
      by_cases c3 : ∃ i ∈ t.Ins, 80 < i.Key.length
      · rw [if_pos (decide_eq_true c3), if_pos c3]
      · rw [if_neg (by simp only [decide_eq_true_eq]; exact c3), if_neg c3, txsum_eq h (by omega), Option.bind_some]
        by_cases c4 : (goSum 0 (vs t)).2 = false
        · rw [if_neg (by rw [c4]; decide), if_pos c4]
        · rw [if_pos (by simpa using c4), if_neg c4, twice_eq' t (by omega), Option.bind_some]
          by_cases c5 : ¬ (frs t).Nodup
          · rw [if_pos (decide_eq_true c5), if_pos c5]
          · rw [if_neg (by simp only [decide_eq_true_eq]; exact c5), if_neg c5, base1_eq t (by omega), Option.bind_some]
theorem kn_ck (t : Tx) : Kn (ck t) := by
  unfold ck bs
  repeat' split
  all_goals first | exact .inl rfl | exact kn_sl (by decide)
theorem ztx_ok : TxOk ztx := ⟨by simp [ztx, InR, IntKind.min, IntKind.max], by simp [ztx], by simp [ztx], by simp [ztx, InR, IntKind.min, IntKind.max]⟩
theorem ztx_few : Few 60 100 ztx := ⟨by decide, by decide, by simp [ztx]⟩
theorem first4 : sargassolaw4_first.f = some true := by
  simp only [sargassolaw4_first.f]
  rw [show (⟨0, [], [], 0⟩ : Tx) = ztx from rfl, tbytes_eq ztx_ok (ztx_few.mono (by omega) (by omega)), Option.bind_some, size_eq ztx_ok ztx_few]
  rfl
end Go.Proofs.YtpeelghbhihgkaaDoor.T
namespace Go.Proofs.YtpeelghbhihgkaaDoor.T
open Go Go.Proofs Go.Proofs.YtpeelghbhihgkaaDoor.K
set_option linter.unusedVariables false
set_option linter.unusedSimpArgs false
theorem little_eq' (r : List Int) (a k : Nat) (hk : k ≤ 8) (hl : r.length + k ≤ 140737488355328) : sargassoref1_little.f r (a : Int) (k : Int) = some (r ++ lb a k) := by
  simp only [sargassoref1_little.f]
  have h : loopO (sargassoref1_little.s0 (a : Int) (k : Int)) (r, 0) = some (r ++ lb a k) := by
    refine loop_run (fun j => (r ++ lb a j, (j : Int))) k (by simp [lb]) (fun j hj => ?_) ?_
    · simp only [sargassoref1_little.s0]
      have ew : IntKind.u64.wrap (IntKind.i64.wrap (8 * (j : Int))) = ((8 * j : Nat) : Int) := by rw [w64 (by omega) (by omega), wu64 (by omega) (by omega)]; omega
      have e1 : IntKind.u8.wrap (sR .u64 (a : Int) ((8 * j : Nat) : Int)) = ((a / 2 ^ (8 * j) % 256 : Nat) : Int) := by
        rw [sR_div .u64 (n := 8 * j) (by simp only [IntKind.bits]; omega), u8e]
        generalize a / 2 ^ (8 * j) = q
        omega
      rw [if_pos (by omega), ew, e1, if_pos (by omega), if_pos (by simp [lb_len]; omega), winc j (by omega), List.append_assoc]
      have : lb a j ++ [((a / 2 ^ (8 * j) % 256 : Nat) : Int)] = lb a (j + 1) := by
        unfold lb; rw [range_map_succ]
      rw [this]
    · simp only [sargassoref1_little.s0]
      rw [if_neg (by omega)]
  rw [h, Option.bind_some]
theorem four1_eq (b : List Int) (a : Nat) (ha : a < 4294967296) (hl : b.length + 4 ≤ 140737488355328) : sargassoref1_Four.f b (a : Int) = some (b ++ lb a 4) := by
  have := little_eq' b a 4 (by omega) hl
  simp only [sargassoref1_Four.f]
  rw [wu64 (by omega) (by omega)]
  rw [show ((4 : Nat) : Int) = 4 from rfl] at this
  rw [this, Option.bind_some]
theorem put1_eq (b : List Int) (n : Nat) (hn : n < 18446744073709551616) (hl : b.length ≤ 1000000) : sargassoref1_Put.f b (n : Int) = some (b ++ pt n) := by
  simp only [sargassoref1_Put.f]
  rw [len1_eq, Option.bind_some]
  unfold ln pt
  by_cases h1 : n < 253
  · rw [if_pos h1, if_pos h1, if_pos (by rfl), if_pos (by omega), u8e, lb_one]
    congr 3
  · rw [if_neg h1, if_neg h1]
    by_cases h2 : n < 65536
    · have := little_eq' (b ++ [253]) n 2 (by omega) (by simp; omega)
      rw [show ((2 : Nat) : Int) = 2 from rfl] at this
      rw [if_pos h2, if_pos h2, if_neg (by decide), if_pos (by rfl), if_pos (by omega), this, Option.bind_some, List.append_assoc]; rfl
    · rw [if_neg h2, if_neg h2]
      by_cases h3 : n < 4294967296
      · have := little_eq' (b ++ [254]) n 4 (by omega) (by simp; omega)
        rw [show ((4 : Nat) : Int) = 4 from rfl] at this
        rw [if_pos h3, if_pos h3, if_neg (by decide), if_neg (by decide), if_pos (by rfl), if_pos (by omega), this, Option.bind_some, List.append_assoc]; rfl
      · have := little_eq' (b ++ [255]) n 8 (by omega) (by simp; omega)
        rw [show ((8 : Nat) : Int) = 8 from rfl] at this
        rw [if_neg h3, if_neg h3, if_neg (by decide), if_neg (by decide), if_neg (by decide), if_pos (by omega), this, Option.bind_some, List.append_assoc]; rfl
theorem eight1_eq (b : List Int) (a : Nat) (hl : b.length ≤ 1000000) : sargassoref1_Eight.f b (a : Int) = some (b ++ lb a 8) := by
  have := little_eq' b a 8 (by omega) (by omega)
  simp only [sargassoref1_Eight.f]
  rw [show ((8 : Nat) : Int) = 8 from rfl] at this
  rw [this, Option.bind_some]
end Go.Proofs.YtpeelghbhihgkaaDoor.T
namespace Go.Proofs.YtpeelghbhihgkaaDoor.T
open Go Go.Proofs Go.Proofs.YtpeelghbhihgkaaDoor.K
set_option linter.unusedVariables false
set_option linter.unusedSimpArgs false
theorem tbytes1_eq {t : Tx} (h : TxOk t) (hf : Few 100 1000 t) : sargassoref1_TxBytes.f t = some (tb t) := by
  obtain ⟨v1, v2⟩ := nat4 h.v
  obtain ⟨t1, t2⟩ := nat4 h.t
  have hi := hf.ins
  have ho := hf.outs
  have hil : ∀ i ∈ t.Ins, (ib i).length ≤ 2000 := fun i hi => by
    rw [ib_len (h.ins i hi)]
    have := (ln_le i.Key.length).2
    have := hf.key i hi
    omega
  have hol : ∀ o ∈ t.Outs, (ob o).length ≤ 40 := fun o ho => by rw [ob_len (h.outs o ho)]; omega
  have lp := (ln_le t.Ins.length).2
  have lq := (ln_le t.Outs.length).2
  have L1 : ∀ P : List Int, P.length ≤ 100 → loopO (sargassoref1_TxBytes.s0 t) (P, 0) = some (P ++ (t.Ins.map ib).flatten) := fun P hP => by
    refine loop_run (fun i => (P ++ ((t.Ins.take i).map ib).flatten, (i : Int))) t.Ins.length (by simp) (fun i hi => ?_) ?_
    · have hm := getD_mem (l := t.Ins) (d := default) hi
      have ok := h.ins _ hm
      have hk := hf.key _ hm
      have hb := take_few ib 2000 t.Ins hil i (by omega)
      rw [flat_next ib t.Ins default i hi]
      simp only [sargassoref1_TxBytes.s0, Int.toNat_natCast]
      generalize t.Ins.getD i default = x at *
      obtain ⟨n1, n2⟩ := nat4 ok.n
      obtain ⟨s1, s2⟩ := nat4 ok.seq
      have ltx := ok.tx
      have lk := (ln_le x.Key.length).2
      have hf4 := four1_eq (P ++ ((t.Ins.take i).map ib).flatten ++ x.From.Tx) x.From.N.toNat n2 (by simp only [List.length_append]; omega)
      have hp := put1_eq (P ++ ((t.Ins.take i).map ib).flatten ++ x.From.Tx ++ lb x.From.N.toNat 4) x.Key.length (by omega) (by simp only [List.length_append, lb_len]; omega)
      have hf5 := four1_eq (P ++ ((t.Ins.take i).map ib).flatten ++ x.From.Tx ++ lb x.From.N.toNat 4 ++ pt x.Key.length ++ x.Key) x.Seq.toNat s2 (by simp only [List.length_append, lb_len, pt_len]; omega)
      rw [← n1] at hf4
      rw [← s1] at hf5
      rw [if_pos (by omega), if_pos (by omega), if_pos (by simp only [List.length_append]; omega), hf4, Option.bind_some, wu64 (by omega) (by omega), hp, Option.bind_some, if_pos (by simp only [List.length_append, lb_len, pt_len]; omega), hf5, Option.bind_some, winc i (by omega)]
      simp only [ib, List.append_assoc]
    · simp only [sargassoref1_TxBytes.s0]
      rw [if_neg (by omega), List.take_length]
  have L2 : ∀ P : List Int, P.length ≤ 300000 → loopO (sargassoref1_TxBytes.s1 t) (P, 0) = some (P ++ (t.Outs.map ob).flatten) := fun P hP => by
    refine loop_run (fun i => (P ++ ((t.Outs.take i).map ob).flatten, (i : Int))) t.Outs.length (by simp) (fun i hi => ?_) ?_
    · have hm := getD_mem (l := t.Outs) (d := default) hi
      have ok := h.outs _ hm
      have hb := take_few ob 40 t.Outs hol i (by omega)
      rw [flat_next ob t.Outs default i hi]
      simp only [sargassoref1_TxBytes.s1, Int.toNat_natCast]
      generalize t.Outs.getD i default = x at *
      obtain ⟨n1, n2⟩ := nat8 ok.val
      have ltx := ok.lock
      have h8 := eight1_eq (P ++ ((t.Outs.take i).map ob).flatten) x.Value.toNat (by simp only [List.length_append]; omega)
      rw [← n1] at h8
      rw [show Int.toNat 32 = 32 from rfl, show Int.toNat 0 = 0 from rfl, List.take_of_length_le (l := x.Lock) (by omega), List.drop_zero, if_pos (by omega), if_pos (by omega), h8, Option.bind_some, if_pos (by simp only [List.length_append, lb_len]; omega), winc i (by omega)]
      simp only [ob, List.append_assoc]
    · simp only [sargassoref1_TxBytes.s1]
      rw [if_neg (by omega), List.take_length]
  have hI := flat_le ib 2000 t.Ins hil
  have hO := flat_le ob 40 t.Outs hol
  have f1 := four1_eq [] t.Version.toNat v2 (by simp)
  rw [← v1] at f1
  have p1 := put1_eq (lb t.Version.toNat 4) t.Ins.length (by omega) (by rw [lb_len]; omega)
  have p2 := put1_eq (lb t.Version.toNat 4 ++ pt t.Ins.length ++ (t.Ins.map ib).flatten) t.Outs.length (by omega) (by simp only [List.length_append, lb_len, pt_len]; omega)
  have f2 := four1_eq (lb t.Version.toNat 4 ++ pt t.Ins.length ++ (t.Ins.map ib).flatten ++ pt t.Outs.length ++ (t.Outs.map ob).flatten) t.Time.toNat t2 (by simp only [List.length_append, lb_len, pt_len]; omega)
  rw [← t1] at f2
  simp only [sargassoref1_TxBytes.f]
  rw [f1, Option.bind_some, List.nil_append, wu64 (x := (t.Ins.length : Int)) (by omega) (by omega), p1, Option.bind_some, L1 _ (by simp only [List.length_append, lb_len, pt_len]; omega), Option.bind_some, wu64 (x := (t.Outs.length : Int)) (by omega) (by omega), p2, Option.bind_some, L2 _ (by simp only [List.length_append, lb_len, pt_len]; omega), Option.bind_some, f2, Option.bind_some]
  simp only [tb, List.append_assoc]
theorem size1_eq {t : Tx} (h : TxOk t) (hf : Few 60 100 t) : sargassoref1_Size.f t = some ((tb t).length : Int) := by
  simp only [sargassoref1_Size.f]
  rw [tbytes1_eq h (hf.mono (by omega) (by omega)), Option.bind_some]
theorem basep_eq {t : Tx} (h : TxOk t) : sargassoref1_Base.f t = some (decide (isBase t)) := by
  simp only [sargassoref1_Base.f]
  by_cases c : t.Ins.length = 1
  · have hm := h.ins _ (getD_mem (l := t.Ins) (d := default) (i := 0) (by omega))
    rw [if_pos (by omega), if_pos (by omega), show Int.toNat 0 = 0 from rfl]
    simp only [sargassoref1_Null.f, Option.bind_some]
    rw [samepoint_eq _ _ hm.tx (by simp), Option.bind_some, Option.bind_some]
    exact congrArg some (decide_eq_decide.2 ⟨fun h => ⟨c, h⟩, fun h => h.2⟩)
  · rw [if_neg (by omega), Option.bind_some, decide_eq_false (fun h => c h.1)]
theorem nullp_eq (i : In) (h : InOk i) : ((sargassoref1_Null.f).bind fun r6 => sargassoref_SamePoint.f i.From r6) = some (decide (i.From = nullP)) := by
  simp only [sargassoref1_Null.f, Option.bind_some]
  exact samepoint_eq _ _ h.tx (by simp)
noncomputable def bsc (t : Tx) : Int := if isBase t then (if (t.Ins.getD 0 default).Key.length < 4 then 107 else 0) else if ∃ i ∈ t.Ins, i.From = nullP then 107 else 0
noncomputable def ckc (t : Tx) : Int := if mn t then 104 else if 4000 < (tb t).length then 103 else if ∃ i ∈ t.Ins, 80 < i.Key.length then 114 else if (goSum 0 (vs t)).2 = false then 105 else if ¬ (frs t).Nodup then 106 else bsc t
theorem cd_ck (t : Tx) : cd (ck t) = ckc t := by
  unfold ck ckc bs bsc
  repeat' split
  all_goals decide
theorem nodup_iff (t : Tx) : (∀ i, i < t.Ins.length → ∀ j, j < i → (t.Ins.getD i default).From ≠ (t.Ins.getD j default).From) ↔ (frs t).Nodup := by
  have hl : (frs t).length = t.Ins.length := by simp [frs]
  have hg : ∀ i, i < t.Ins.length → (frs t).getD i default = (t.Ins.getD i default).From := fun i hi => by
    rw [gd _ _ (by rw [hl]; exact hi), gd _ _ hi]
    simp [frs]
  unfold List.Nodup
  rw [List.pairwise_iff_getElem]
  constructor
  · intro h i j hi hj hij e
    have h1 := h j (by omega) i hij
    rw [← hg j (by omega), ← hg i (by omega), gd _ _ hj, gd _ _ hi] at h1
    exact h1 e.symm
  · intro h i hi j hj e
    have h1 := h j i (by omega) (by omega) hj
    rw [← gd _ default (by omega), ← gd _ default (by omega), hg j (by omega), hg i hi] at h1
    exact h1 e.symm
theorem checktx_eq {t : Tx} (h : TxOk t) (hf : Few 60 100 t) : sargassoref1_CheckTx.f t = some (ckc t) := by
  have h1 := hf.ins
  have h2 := hf.outs
  simp only [sargassoref1_CheckTx.f]
  rw [many_eq, Option.bind_some]
  unfold ckc
  by_cases c1 : mn t
  · rw [if_pos (decide_eq_true c1), if_pos c1]
  rw [if_neg (by simp only [decide_eq_true_eq]; exact c1), if_neg c1, size1_eq h hf, Option.bind_some]
  by_cases c2 : 4000 < (tb t).length
  · rw [if_pos (by omega), if_pos c2]
  rw [if_neg (by omega), if_neg c2]
  have e3 : loopO (sargassoref1_CheckTx.s3 t) 0 = some (if ∀ i, i < t.Ins.length → (t.Ins.getD i default).From ≠ nullP then (Sum.inr (Sum.inr 0) : Int ⊕ (Int ⊕ Int)) else Sum.inr (Sum.inr 107)) := look_run t.Ins.length (fun i => (t.Ins.getD i default).From ≠ nullP) (Sum.inr (Sum.inr 0)) (Sum.inr (Sum.inr 107)) (by omega) (fun i hi => by
    have hm := nullp_eq _ (h.ins _ (getD_mem (l := t.Ins) (d := default) hi))
    simp only [sargassoref1_CheckTx.s3, Int.toNat_natCast]
    simp only [sargassoref1_Null.f, Option.bind_some] at hm ⊢
    rw [if_pos (by omega), if_pos (by omega), hm, Option.bind_some]
    by_cases c : (t.Ins.getD i default).From = nullP
    · rw [if_pos (decide_eq_true c), if_neg (fun h => h c)]
    · rw [if_neg (by simp only [decide_eq_true_eq]; exact c), if_pos c]) (by simp only [sargassoref1_CheckTx.s3]; rw [if_neg (by omega)])
  have e2 : ∀ k, k < t.Ins.length → loopO (sargassoref1_CheckTx.s2 t (k : Int)) 0 = some (if ∀ j, j < k → (t.Ins.getD k default).From ≠ (t.Ins.getD j default).From then (Sum.inl (IntKind.i64.wrap ((k : Int) + 1)) : Int ⊕ (Int ⊕ Int)) else Sum.inr (Sum.inr 106)) := fun k hk => look_run k (fun j => (t.Ins.getD k default).From ≠ (t.Ins.getD j default).From) (Sum.inl (IntKind.i64.wrap ((k : Int) + 1))) (Sum.inr (Sum.inr 106)) (by omega) (fun j hj => by
    have hm := h.ins _ (getD_mem (l := t.Ins) (d := default) hk)
    have hn := h.ins _ (getD_mem (l := t.Ins) (d := default) (show j < t.Ins.length by omega))
    simp only [sargassoref1_CheckTx.s2, Int.toNat_natCast]
    rw [if_pos (by omega), if_pos (by omega), if_pos (by omega), samepoint_eq _ _ hm.tx hn.tx, Option.bind_some]
    by_cases c : (t.Ins.getD k default).From = (t.Ins.getD j default).From
    · rw [if_pos (decide_eq_true c), if_neg (fun h => h c)]
    · rw [if_neg (by simp only [decide_eq_true_eq]; exact c), if_pos c]) (by simp only [sargassoref1_CheckTx.s2]; rw [if_neg (by omega)])
  have eb : sargassoref1_CheckTx.s1 t (t.Ins.length : Int) = some (.inr (.inr (bsc t))) := by
    simp only [sargassoref1_CheckTx.s1]
    rw [if_neg (by omega), basep_eq h, Option.bind_some, e3]
    unfold bsc
    by_cases c : isBase t
    · rw [if_pos (decide_eq_true c), if_pos c, if_pos (by have := c.1; omega)]
      by_cases k : (t.Ins.getD 0 default).Key.length < 4
      · rw [if_pos k, if_pos (show (((t.Ins.getD (0 : Int).toNat default).Key).length : Int) < 4 by rw [show (0 : Int).toNat = 0 from rfl]; omega)]
      · rw [if_neg k, if_neg (show ¬ (((t.Ins.getD (0 : Int).toNat default).Key).length : Int) < 4 by rw [show (0 : Int).toNat = 0 from rfl]; omega)]
    · rw [if_neg (by simp only [decide_eq_true_eq]; exact c), if_neg c]
      have ea := all_getD t.Ins default (fun i => i.From ≠ nullP)
      by_cases k : ∃ i ∈ t.Ins, i.From = nullP
      · rw [if_pos k, if_neg (fun h => by obtain ⟨i, hi, e⟩ := k; exact ea.1 h i hi e)]
      · rw [if_neg k, if_pos (ea.2 fun i hi e => k ⟨i, hi, e⟩)]
  have e1 : loopO (sargassoref1_CheckTx.s1 t) 0 = some (if ∀ i, i < t.Ins.length → ∀ j, j < i → (t.Ins.getD i default).From ≠ (t.Ins.getD j default).From then (Sum.inr (bsc t) : Int ⊕ Int) else Sum.inr 106) := look_run t.Ins.length (fun i => ∀ j, j < i → (t.Ins.getD i default).From ≠ (t.Ins.getD j default).From) (Sum.inr (bsc t)) (Sum.inr 106) (by omega) (fun i hi => by
    simp only [sargassoref1_CheckTx.s1]
    rw [if_pos (by omega), e2 i hi]
    by_cases c : ∀ j, j < i → (t.Ins.getD i default).From ≠ (t.Ins.getD j default).From
    · rw [if_pos c, if_pos c]
    · rw [if_neg c, if_neg c]) eb
  have ek : sargassoref1_CheckTx.s0 t (t.Ins.length : Int) = some (.inr (if (goSum 0 (vs t)).2 = false then 105 else if ¬ (frs t).Nodup then 106 else bsc t)) := by
    simp only [sargassoref1_CheckTx.s0]
    rw [if_neg (by omega), values1_eq t (by omega), Option.bind_some, show t.Outs.map (·.Value) = vs t from rfl, sum1_eq _ (by simp [vs]; omega) (vs_in h), Option.bind_some, e1]
    by_cases c4 : (goSum 0 (vs t)).2 = false
    · rw [if_neg (by rw [c4]; decide), if_pos c4]
    · rw [if_pos (by simpa using c4), if_neg c4]
      by_cases c5 : (frs t).Nodup
      · rw [if_pos ((nodup_iff t).2 c5), if_neg (fun h => h c5)]
      · rw [if_neg (fun h => c5 ((nodup_iff t).1 h)), if_pos c5]
  rw [look_run t.Ins.length (fun i => (t.Ins.getD i default).Key.length ≤ 80) (if (goSum 0 (vs t)).2 = false then 105 else if ¬ (frs t).Nodup then 106 else bsc t) 114 (by omega) (fun i hi => by
    simp only [sargassoref1_CheckTx.s0, Int.toNat_natCast]
    rw [if_pos (by omega), if_pos (by omega)]
    by_cases c : (t.Ins.getD i default).Key.length ≤ 80
    · rw [if_neg (by omega), if_pos c]
    · rw [if_pos (by omega), if_neg c]) ek]
  have ea := all_getD t.Ins default (fun i => i.Key.length ≤ 80)
  by_cases c3 : ∃ i ∈ t.Ins, 80 < i.Key.length
  · rw [if_pos c3, if_neg (fun h => by obtain ⟨i, hi, e⟩ := c3; have := ea.1 h i hi; omega)]
  · rw [if_neg c3, if_pos (ea.2 fun i hi => Nat.le_of_not_lt fun h => c3 ⟨i, hi, h⟩)]
theorem txclone_eq {t : Tx} (h : TxOk t) (hf : Few 60 100 t) : tx_Clone.f t = some t := by
  have h1 := hf.ins
  have h2 := hf.outs
  simp only [tx_Clone.f, slices_Clone_api_In_api_In.f, slices_Clone_api_Out_api_Out.f]
  rw [if_pos (by omega), if_pos (by omega), Option.bind_some, Option.bind_some, show loopO (tx_Clone.s0 t.Ins) (0, t.Ins) = _ from loop_run (step := tx_Clone.s0 t.Ins) (fun i => ((i : Int), t.Ins)) t.Ins.length (r := t.Ins) rfl (fun i hi => by
    have hk := hf.key _ (getD_mem (d := default) hi)
    simp only [tx_Clone.s0, Int.toNat_natCast, bytes_Clone.f]
    rw [if_pos (by omega), if_pos (by omega), if_pos (by omega), Option.bind_some, winc i (by omega)]
    have : t.Ins.set i (⟨(t.Ins.getD i default).From, (t.Ins.getD i default).Key, (t.Ins.getD i default).Seq⟩ : In) = t.Ins := by
      rw [gd _ _ hi]
      exact List.set_getElem_self hi
    rw [this]) (by simp only [tx_Clone.s0]; rw [if_neg (by omega)])]
  rfl
end Go.Proofs.YtpeelghbhihgkaaDoor.T
namespace Go.Proofs.YtpeelghbhihgkaaDoor.T
open Go Go.Proofs Go.Proofs.YtpeelghbhihgkaaDoor.K
set_option linter.unusedVariables false
set_option linter.unusedSimpArgs false
theorem sargassolaw4_TxSays.m (μ : Store) (x0 : Tx) (v0 v1 : Value) (h0 : TxW μ x0 v0 v1) (x1 : Tx) (u0 u1 : Value) (h1 : TxW μ x1 u0 u1) : sargassolaw4_TxSays.f x0 x1 = some true := by
  have ok := tx_ok h0
  have ok1 := tx_ok h1
  simp only [sargassolaw4_TxSays.f]
  rw [first4, Option.bind_some, if_pos rfl, light_eq, Option.bind_some]
  by_cases hf : Few 60 100 x0
  · rw [if_pos (decide_eq_true hf), light_eq, Option.bind_some]
    by_cases hg : Few 60 100 x1
    · have a1 := hf.ins
      have a2 := hf.outs
      have n0 := tb_le ok (hf.mono (by omega) (by omega))
      have hs : ∀ i ∈ x0.Ins, i.Key.length ≤ 1000000 := fun i hi => by have := hf.key i hi; omega
      rw [decide_eq_true hg, Option.bind_some, if_neg (by decide), tbytes1_eq ok (hf.mono (by omega) (by omega)), Option.bind_some, if_pos rfl, tbytes_eq ok (hf.mono (by omega) (by omega)), Option.bind_some, samebytes_eq _ (by omega), Option.bind_some, if_pos rfl, size_eq ok hf, Option.bind_some, if_pos rfl]
      have hid : tx_ID.f x0 = some (sha (sha (tb x0))) := by
        simp only [tx_ID.f]
        rw [tbytes_eq ok (hf.mono (by omega) (by omega)), Option.bind_some, twice_eq _ (by omega), Option.bind_some]
      rw [hid, Option.bind_some, ref_twice_eq _ (by omega), Option.bind_some, samehash_eq _ _ (sha_len _) (sha_len _), decide_eq_true rfl, Option.bind_some, if_pos rfl, base_eq, Option.bind_some, basep_eq ok, Option.bind_some, if_pos rfl, check_eq ok hf, Option.bind_some, checktx_eq ok hf, Option.bind_some, is_eq (kn_ck _), cd_ck, decide_eq_true rfl, Option.bind_some, if_pos rfl, txsame_eq ok ok1 (by omega) (by omega), Option.bind_some, sametx_eq ok ok1 (by omega) (by omega) hs, Option.bind_some, if_pos rfl, txclone_eq ok hf, Option.bind_some, sametx_eq ok ok (by omega) (by omega) hs, decide_eq_true rfl]
      rfl
    · rw [decide_eq_false hg, Option.bind_some, if_pos (by decide)]
  · rw [if_neg (by simp only [decide_eq_true_eq]; exact hf), Option.bind_some, if_pos rfl]
end Go.Proofs.YtpeelghbhihgkaaDoor.T
namespace Go.Proofs.YtpeelghbhihgkaaDoor.K
open Go Go.Proofs Go.ChangeShapes Go.WideShapes Go.RowKit
def mem (w : World) : Store := fun k => w.heap[k]?
theorem agr_mem (w : World) : Agr (mem w) w := fun _ _ h => h
theorem mem_cell {w : World} {g i : Nat} {v : Value} (h : w.cell? ⟨g, i, none⟩ = some v) : (mem w).cell g i = some v := by
  unfold World.cell? at h
  unfold Store.cell mem
  cases hm : w.heap[g]? with
  | none => simp [hm] at h
  | some o => cases o <;> simp_all
theorem wf_in {k : IntKind} {n : Int} (h : (Lit.int k n).wf = true) : InR k n := by
  cases k <;> simp [Lit.wf, IntKind.min, IntKind.max, IntKind.signed, IntKind.bits] at h <;> simp [InR] <;> omega
section
variable {H : Type} {enc : TypeId × Value → H} {P : Program} {w : World} {base : Nat} {spare : Nat → Bool} {held : Bool} {t e : TypeId}
def Rd (enc : TypeId × Value → H) (P : Program) (w : World) (base : Nat) (spare : Nat → Bool) (held : Bool) (t : TypeId) (R : List Value → Prop) : Prop :=
  ∀ fuel cs x, DataW.trod enc P w base spare held fuel t cs = some x → R cs
theorem rd_int {k : IntKind} (ht : P.underlying t = some (.int k)) : Rd enc P w base spare held t (fun c => ∃ n, RI k n c) := by
  intro fuel cs x h
  obtain ⟨n, rfl, _, hw⟩ := DataW.trod_int ht h
  exact ⟨n, rfl, wf_in hw⟩
theorem rd_array {k : IntKind} {n : Nat} (ht : P.underlying t = some (.array n e)) (he : P.underlying e = some (.int k)) (hc : P.cellsOf e = 1) (hn : P.cellsOf t = n) :
    Rd enc P w base spare held t (fun c => ∃ xs, RA k n xs c) := by
  intro fuel cs x h
  obtain ⟨xs, m, _, _, hl, hx, hf⟩ := DataW.trod_array ht h
  rw [hn] at hl
  have each : ∀ i, i < n → ∃ z, cs[i]? = some (.int k z) ∧ InR k z := by
    intro i hi
    have h1 := hf i hi
    rw [hc, Nat.mul_one, List.getElem?_eq_getElem (by omega)] at h1
    obtain ⟨z, hz, _, hw⟩ := DataW.trod_int he h1
    refine ⟨z, ?_, wf_in hw⟩
    have := congrArg (·[0]?) hz
    simpa using this
  refine ⟨cs.map fun v => match v with | .int _ z => z | _ => 0, ?_, ?_, ?_⟩
  · simp only [List.flatten_cons, List.flatten_nil, List.append_nil]
    apply List.ext_getElem?
    intro i
    by_cases hi : i < n
    · obtain ⟨z, hz, _⟩ := each i hi
      rw [av_get _ _ _ hi, hz]
      simp [List.getD, hz]
    · rw [List.getElem?_eq_none (by omega), List.getElem?_eq_none (by rw [av_len]; omega)]
  · simpa using hl
  · intro y hy
    obtain ⟨v, hv, rfl⟩ := List.mem_map.1 hy
    obtain ⟨i, hi, rfl⟩ := List.getElem_of_mem hv
    obtain ⟨z, hz, hr⟩ := each i (by omega)
    rw [List.getElem?_eq_getElem hi] at hz
    rw [Option.some.inj hz]
    exact hr
theorem els_of {α : Type} {RE : α → List Value → Prop} {sz : Nat} : ∀ {n : Nat} {Q : Nat → Value → Prop}, (∀ i, i < n → ∃ x c, RE x c ∧ c.length = sz ∧ ∀ j v, c[j]? = some v → Q (i * sz + j) v) →
    ∃ xs cs, xs.length = n ∧ Els RE sz xs cs ∧ ∀ j v, cs[j]? = some v → Q j v
  | 0, _, _ => ⟨[], [], rfl, .nil, fun j v h => by simp at h⟩
  | n + 1, Q, f => by
    obtain ⟨x, c, h1, h2, h3⟩ := f 0 (by omega)
    obtain ⟨xs, cs, e1, e2, e3⟩ := els_of (n := n) (Q := fun m v => Q (sz + m) v) (fun i hi => by
      obtain ⟨x, c, h1, h2, h3⟩ := f (i + 1) (by omega)
      refine ⟨x, c, h1, h2, fun j v hj => ?_⟩
      have := h3 j v hj
      rwa [Nat.add_mul, Nat.one_mul, Nat.add_comm (i * sz), Nat.add_assoc] at this)
    refine ⟨x :: xs, c ++ cs, by simp [e1], .cons h1 h2 e2, fun j v hj => ?_⟩
    rcases Nat.lt_or_ge j c.length with h | h
    · rw [List.getElem?_append_left h] at hj
      simpa using h3 j v hj
    · rw [List.getElem?_append_right h] at hj
      have := e3 _ _ hj
      rwa [h2, Nat.add_sub_cancel' (by omega)] at this
theorem rd_slice {α : Type} {RE : α → List Value → Prop} {sz : Nat} (ht : P.underlying t = some (.slice e)) (hc : P.cellsOf e = sz) (h0 : 0 < sz) (hr : Rd enc P w base spare held e (fun c => ∃ x, RE x c)) :
    Rd enc P w base spare held t (fun c => ∃ v xs, c = [v] ∧ Slc RE sz (mem w) v xs) := by
  intro fuel cs x h
  rcases DataW.trod_slice ht h with ⟨rfl, _⟩ | ⟨a, len, cap, elems, rest, n, _, rfl, _, _, hl, hm, hlen, hel, _, _⟩
  · exact ⟨_, [], rfl, [], .nil, none, 0, rfl, Nat.le_refl _, Nat.zero_le _, fun h => absurd rfl h, fun h => absurd rfl h⟩
  have each0 : ∀ i, i < len → ∃ x c, RE x c ∧ c.length = sz ∧ ∀ j, j < sz → w.cell? ((a.add (i * sz)).add j) = c[j]? := by
    intro i hi
    have h1 := hel i hi
    rw [List.getElem?_eq_getElem (by omega), hc] at h1
    obtain ⟨c, hc1, hc2⟩ := Option.bind_eq_some_iff.1 h1
    obtain ⟨_, l1, l2⟩ := World.cells?_some hc1
    obtain ⟨x, hx⟩ := hr _ _ _ hc2
    exact ⟨x, c, hx, l1, l2⟩
  have hs : 0 < len → a.spot = none := by
    intro hp
    obtain ⟨x, c, _, l1, l2⟩ := each0 0 hp
    have h2 := (l2 0 h0).trans (List.getElem?_eq_getElem (by omega))
    simpa [Addr.add] using World.cell?_spot h2
  obtain ⟨b, off, spot⟩ := a
  simp only at hs
  have each : ∀ i, i < len → ∃ x c, RE x c ∧ c.length = sz ∧ ∀ j v, c[j]? = some v → (fun m v => w.cell? ⟨b, off + m, none⟩ = some v) (i * sz + j) v := by
    intro i hi
    obtain ⟨x, c, hx, l1, l2⟩ := each0 i hi
    refine ⟨x, c, hx, l1, fun j v hj => ?_⟩
    have hjl : j < sz := by
      have := (List.getElem?_eq_some_iff.1 hj).1
      omega
    have h2 := (l2 j hjl).trans hj
    rw [hs (by omega), add_plain, add_plain] at h2
    simpa [Nat.add_assoc] using h2
  obtain ⟨xs, cs, e1, e2, e3⟩ := els_of (RE := RE) (sz := sz) (Q := fun m v => w.cell? ⟨b, off + m, none⟩ = some v) each
  refine ⟨_, xs, rfl, cs, e2, some ⟨b, off, spot⟩, cap, by rw [e1], by omega, hm, fun hn => by rw [hs (by omega)]; rfl, fun hn j v hj => mem_cell (e3 j v hj)⟩
theorem rd_struct {fs : Array Field} {fuel : Nat} {cs : List Value} {x : DataW H × List MemPlace} (ht : P.underlying t = some (.struct fs)) (h : DataW.trod enc P w base spare held fuel t cs = some x) :
    cs.length = P.cellsOf t ∧ ∀ (i : Nat) (f : Field), fs[i]? = some f → ∃ n y, DataW.trod enc P w base spare held n f.type ((cs.drop f.offset).take (P.cellsOf f.type)) = some y := by
  obtain ⟨xs, n, _, _, hl, hx, hf⟩ := DataW.trod_struct ht h
  refine ⟨hl, fun i f hi => ?_⟩
  have h1 := hf i f hi
  have : i < fs.size := (Array.getElem?_eq_some_iff.1 hi).1
  rw [List.getElem?_eq_getElem (by omega)] at h1
  exact ⟨n, _, h1⟩
theorem chop {α : Type} (cs : List α) (o n m : Nat) (h : o + n = m) : cs.drop o = (cs.drop o).take n ++ cs.drop m := by
  subst h
  rw [← List.drop_drop, List.take_append_drop]
theorem rd_at {R : List Value → Prop} {v : Value} {d : DataW H} {ps : List MemPlace} (hr : Rd enc P w base spare held t R) (h : DataW.Trod enc P w base spare held t v d ps) : R v.cells.toList := by
  obtain ⟨fuel, hf⟩ := h
  exact hr _ _ _ hf
theorem at_agg {R : List Value → Prop} {v : Value} {d : DataW H} {ps : List MemPlace} (hv : ∃ cs, v = .agg cs) (hr : Rd enc P w base spare held t R) (h : DataW.Trod enc P w base spare held t v d ps) : ∃ cs : List Value, v = .agg cs.toArray ∧ R cs := by
  obtain ⟨cs, rfl⟩ := hv
  exact ⟨cs.toList, by simp, rd_at hr h⟩
theorem agg_struct {fs : Array Field} {r : Reach} {b0 : Nat} {v : Value} (ht : P.underlying t = some (.struct fs)) (hval : Value.okWide P w r b0 t v) : ∃ cs, v = .agg cs := let ⟨cs, h, _⟩ := okWide_struct ht hval; ⟨cs, h⟩
theorem again {W W' : World} {v : Value} {d : DataW H} {ps : List MemPlace} (hl : laidOutB P = true) (hr : P.readableRec t = true) (hrow : t < P.types.size) (h : DataW.Trod enc P W 0 (fun _ => true) true t v d ps) (hb : Below W.heap.size W W') :
    DataW.Trod enc P W' 0 (fun b => decide (b < W.heap.size)) true t v d ps :=
  Below.trod hl hr hrow h hb (fun p hp => let ⟨n, hn⟩ := h; DataW.trod_lt n _ _ _ hn p hp)
end
end Go.Proofs.YtpeelghbhihgkaaDoor.K
namespace Go.Proofs.YtpeelghbhihgkaaDoor.K
open Go Go.Proofs
set_option linter.unusedVariables false
theorem laid_each {P : Program} {W : World} : ∀ {l : List (String × DataW Unit)} {ps : List MemPlace}, DataW.LaidVars P W l ps → ∀ {n : String} {d : DataW Unit}, (n, d) ∈ l →
    ∃ g t cs fuel p, P.globalNamed n = some g ∧ (P.globals[g]?).map (·.type) = some t ∧ W.var? P n = some cs ∧ DataW.trod (fun _ => ()) P W 0 (fun _ => true) false fuel t cs.toList = some (d, p) ∧ ∀ x ∈ MemPlace.row ⟨g, 0, none⟩ cs.size ++ p, x ∈ ps
  | [], ps, h, n, d, hm => by cases hm
  | (m, e) :: r, ps, h, n, d, hm => by
    obtain ⟨g, t, cs, fuel, p, q, hg, ht, hv, hd, hr, rfl⟩ := h
    rcases List.mem_cons.1 hm with e1 | hm
    · cases e1
      exact ⟨g, t, cs, fuel, p, hg, ht, hv, hd, fun x hx => List.mem_append_left _ hx⟩
    · obtain ⟨g', t', cs', fuel', p', a1, a2, a3, a4, a5⟩ := laid_each hr hm
      exact ⟨g', t', cs', fuel', p', a1, a2, a3, a4, fun x hx => List.mem_append_right _ (a5 x hx)⟩
theorem sent_of_laid {P : Program} {W : World} {laid : List (String × DataW Unit)} {code : ByteArray → Nat} {n : String} {text : List UInt8} {g : Nat} {ti tp ta te ts : TypeId} {ms : Array (String × TypeId)} {f : Field}
    (h : laidMet P laid W) (hm : (n, .iface "*errors.errorString" (.ptr (.agg [.lit (.string text)]))) ∈ laid) (hg : P.globalNamed n = some g) (ht : (P.globals[g]?).map (·.type) = some ti)
    (hi : P.underlying ti = some (.interface ms)) (hrow : ∀ u, P.typeName? 3 u = some "*errors.errorString" → u = tp) (hp : P.underlying tp = some (.pointer te)) (he : P.underlying te = some (.struct #[f])) (hft : f.type = ts) (hfo : f.offset = 0) (hs : P.underlying ts = some .string) (hc : P.cellsOf te = 1) (hcs : P.cellsOf ts = 1)
    (hcode : ∀ s : ByteArray, s.data.toList = text → code s = g + 1) : ∃ v, ErV tp ta code (mem W) (.b (g + 1)) v := by
  obtain ⟨ps, hl, hnd, hrows⟩ := h
  obtain ⟨g', t', cs, fuel, p, a1, a2, a3, a4, a5⟩ := laid_each hl hm
  obtain rfl := Option.some.inj (hg.symm.trans a1)
  obtain rfl := Option.some.inj (ht.symm.trans a2)
  obtain ⟨l⟩ := cs
  have ok : ∀ u v, l = [.iface u v] → Value.okWide P W .any 0 u v := fun u v e => by
    subst e
    exact (hrows g 0 (a5 _ (by simp [MemPlace.row]))).2 u v (by simpa using World.var?_cell hg a3 0)
  obtain ⟨a, s, rfl, hcell, hst, hz, rfl⟩ := errorString_of_trod hi hrow hp he hft hfo hs hc hcs a4 ok
  obtain ⟨c, t, hb⟩ := (hrows a.block a.off (a5 _ (by simp [MemPlace.row]))).1
  refine ⟨.iface tp (.pointer (some a)), .inr ⟨by omega, mem_cell (by simpa using World.var?_cell hg a3 0), a, s, c, t, rfl, hb, hcode s hst, fun w hw => ?_⟩⟩
  have e : w.heap[a.block]? = W.heap[a.block]? := (hw _ _ hb).trans hb.symm
  unfold World.cell? at hcell ⊢
  rw [e]
  exact hcell
end Go.Proofs.YtpeelghbhihgkaaDoor.K
namespace Go.Proofs.YtpeelghbhihgkaaDoor.T
open Go Go.Proofs Go.Proofs.YtpeelghbhihgkaaDoor.K
set_option linter.unusedVariables false
set_option linter.unusedSimpArgs false
set_option maxRecDepth 100000
theorem own : ownKnob Tryd.prog.godebug = none := by kernel_rfl
noncomputable def low : Nat := (World.holding Tryd.prog default ⟨#[], #[], []⟩).heap.size
abbrev es0 : ByteArray := { data := #[110, 111, 116, 32, 97, 115, 32, 105, 116, 32, 104, 97, 115, 32, 116, 111, 32, 98, 101] }
abbrev es1 : ByteArray := { data := #[116, 111, 111, 32, 109, 97, 110, 121, 44, 32, 111, 114, 32, 116, 111, 111, 32, 102, 101, 119] }
abbrev es2 : ByteArray := { data := #[116, 111, 111, 32, 108, 111, 110, 103] }
abbrev es3 : ByteArray := { data := #[97, 32, 107, 101, 121, 32, 116, 104, 97, 116, 32, 100, 111, 101, 115, 32, 110, 111, 116, 32, 102, 105, 116] }
abbrev es4 : ByteArray := { data := #[97, 110, 32, 97, 109, 111, 117, 110, 116, 32, 116, 104, 97, 116, 32, 99, 97, 110, 39, 116, 32, 98, 101] }
abbrev es5 : ByteArray := { data := #[111, 110, 101, 32, 116, 104, 105, 110, 103, 32, 116, 119, 105, 99, 101] }
abbrev es6 : ByteArray := { data := #[97, 32, 110, 117, 109, 98, 101, 114, 32, 111, 117, 116, 32, 111, 102, 32, 105, 116, 115, 32, 114, 97, 110, 103, 101] }
abbrev es7 : ByteArray := { data := #[108, 101, 115, 115, 32, 99, 111, 109, 101, 115, 32, 105, 110, 32, 116, 104, 97, 110, 32, 103, 111, 101, 115, 32, 111, 117, 116] }
abbrev es8 : ByteArray := { data := #[105, 116, 32, 101, 110, 100, 115, 32, 116, 111, 111, 32, 101, 97, 114, 108, 121] }
abbrev es9 : ByteArray := { data := #[110, 111, 32, 102, 105, 114, 115, 116, 32, 116, 114, 97, 110, 115, 97, 99, 116, 105, 111, 110, 32, 119, 104, 101, 114, 101, 32, 116, 104, 101, 114, 101, 32, 104, 97, 115, 32, 116, 111, 32, 98, 101, 32, 111, 110, 101, 44, 32, 111, 114, 32, 111, 110, 101, 32, 119, 104, 101, 114, 101, 32, 116, 104, 101, 114, 101, 32, 109, 97, 121, 32, 98, 101, 32, 110, 111, 110, 101] }
abbrev es10 : ByteArray := { data := #[97, 32, 114, 111, 111, 116, 32, 116, 104, 97, 116, 32, 100, 111, 101, 115, 32, 110, 111, 116, 32, 102, 105, 116] }
abbrev es11 : ByteArray := { data := #[107, 110, 111, 119, 110, 32, 97, 108, 114, 101, 97, 100, 121] }
abbrev es12 : ByteArray := { data := #[110, 111, 32, 115, 117, 99, 104, 32, 112, 97, 114, 101, 110, 116] }
abbrev es13 : ByteArray := { data := #[98, 101, 104, 105, 110, 100, 32, 119, 104, 97, 116, 32, 105, 115, 32, 110, 111, 116, 32, 118, 97, 108, 105, 100] }
abbrev es14 : ByteArray := { data := #[97, 32, 116, 105, 109, 101, 32, 116, 104, 97, 116, 32, 105, 115, 32, 116, 111, 111, 32, 101, 97, 114, 108, 121] }
abbrev es15 : ByteArray := { data := #[97, 32, 99, 111, 105, 110, 32, 116, 104, 97, 116, 32, 105, 115, 32, 110, 111, 116, 32, 116, 104, 101, 114, 101] }
abbrev es16 : ByteArray := { data := #[97, 32, 99, 111, 105, 110, 32, 116, 104, 97, 116, 32, 105, 115, 32, 116, 111, 111, 32, 121, 111, 117, 110, 103] }
abbrev es17 : ByteArray := { data := #[116, 111, 111, 32, 101, 97, 114, 108, 121, 32, 116, 111, 32, 98, 101, 32, 116, 97, 107, 101, 110] }
abbrev es18 : ByteArray := { data := #[109, 111, 114, 101, 32, 116, 104, 97, 110, 32, 116, 104, 101, 32, 114, 101, 119, 97, 114, 100] }
abbrev es19 : ByteArray := { data := #[97, 32, 99, 111, 105, 110, 32, 116, 104, 97, 116, 32, 105, 115, 32, 115, 112, 101, 110, 116, 32, 105, 110, 32, 116, 104, 101, 32, 112, 111, 111, 108] }
abbrev es20 : ByteArray := { data := #[116, 111, 111, 32, 109, 97, 110, 121, 32, 116, 104, 97, 116, 32, 104, 97, 110, 103, 32, 116, 111, 103, 101, 116, 104, 101, 114] }
abbrev es21 : ByteArray := { data := #[116, 104, 101, 114, 101, 32, 105, 115, 32, 110, 111, 32, 114, 111, 111, 109] }
abbrev es22 : ByteArray := { data := #[116, 104, 101, 114, 101, 32, 105, 115, 32, 110, 111, 110, 101] }
abbrev es23 : ByteArray := { data := #[110, 111, 32, 115, 117, 99, 104, 32, 119, 111, 114, 100] }
abbrev es24 : ByteArray := { data := #[110, 111, 116, 32, 97, 32, 110, 117, 109, 98, 101, 114] }
def setC (v : Value) : Obj → Obj
  | .cells _ t frozen => .cells #[v] t frozen
  | x => x
noncomputable def laidWorld (os : Os) : World :=
  let w0 := World.holding Tryd.prog os ⟨#[.cells #[.string es0] 223, .cells #[.string es1] 223, .cells #[.string es2] 223, .cells #[.string es3] 223, .cells #[.string es4] 223, .cells #[.string es5] 223, .cells #[.string es6] 223, .cells #[.string es7] 223, .cells #[.string es8] 223, .cells #[.string es9] 223, .cells #[.string es10] 223, .cells #[.string es11] 223, .cells #[.string es12] 223, .cells #[.string es13] 223, .cells #[.string es14] 223, .cells #[.string es15] 223, .cells #[.string es16] 223, .cells #[.string es17] 223, .cells #[.string es18] 223, .cells #[.string es19] 223, .cells #[.string es20] 223, .cells #[.string es21] 223, .cells #[.string es22] 223, .cells #[.string es23] 223, .cells #[.string es24] 223], #[], []⟩
  { w0 with heap := (((((((((((((((((((((((((w0.heap.modify 0 (setC (.iface 206 (.pointer (some ⟨low + 0, 0, none⟩))))).modify 1 (setC (.iface 206 (.pointer (some ⟨low + 1, 0, none⟩))))).modify 2 (setC (.iface 206 (.pointer (some ⟨low + 2, 0, none⟩))))).modify 3 (setC (.iface 206 (.pointer (some ⟨low + 3, 0, none⟩))))).modify 4 (setC (.iface 206 (.pointer (some ⟨low + 4, 0, none⟩))))).modify 5 (setC (.iface 206 (.pointer (some ⟨low + 5, 0, none⟩))))).modify 6 (setC (.iface 206 (.pointer (some ⟨low + 6, 0, none⟩))))).modify 7 (setC (.iface 206 (.pointer (some ⟨low + 7, 0, none⟩))))).modify 8 (setC (.iface 206 (.pointer (some ⟨low + 8, 0, none⟩))))).modify 9 (setC (.iface 206 (.pointer (some ⟨low + 9, 0, none⟩))))).modify 10 (setC (.iface 206 (.pointer (some ⟨low + 10, 0, none⟩))))).modify 11 (setC (.iface 206 (.pointer (some ⟨low + 11, 0, none⟩))))).modify 12 (setC (.iface 206 (.pointer (some ⟨low + 12, 0, none⟩))))).modify 13 (setC (.iface 206 (.pointer (some ⟨low + 13, 0, none⟩))))).modify 14 (setC (.iface 206 (.pointer (some ⟨low + 14, 0, none⟩))))).modify 15 (setC (.iface 206 (.pointer (some ⟨low + 15, 0, none⟩))))).modify 16 (setC (.iface 206 (.pointer (some ⟨low + 16, 0, none⟩))))).modify 17 (setC (.iface 206 (.pointer (some ⟨low + 17, 0, none⟩))))).modify 18 (setC (.iface 206 (.pointer (some ⟨low + 18, 0, none⟩))))).modify 19 (setC (.iface 206 (.pointer (some ⟨low + 19, 0, none⟩))))).modify 20 (setC (.iface 206 (.pointer (some ⟨low + 20, 0, none⟩))))).modify 21 (setC (.iface 206 (.pointer (some ⟨low + 21, 0, none⟩))))).modify 22 (setC (.iface 206 (.pointer (some ⟨low + 22, 0, none⟩))))).modify 23 (setC (.iface 206 (.pointer (some ⟨low + 23, 0, none⟩))))).modify 24 (setC (.iface 206 (.pointer (some ⟨low + 24, 0, none⟩))))) }
theorem starE : "*" ++ "errors.errorString" = "*errors.errorString" := by decide
theorem rowE (u : TypeId) (h : Tryd.prog.typeName? 3 u = some "*errors.errorString") : u = 206 :=
  typeName_ptr_named (nm := "errors.errorString") (by rw [starE]; kernel_rfl) (by kernel_rfl) (by decide) u (by rw [starE]; exact h)
theorem ceE : Tryd.prog.cellsOf 223 = 1 := by kernel_rfl
theorem csE : Tryd.prog.cellsOf 9 = 1 := by kernel_rfl
theorem sent0 {W : World} {l : List (String × DataW Unit)} (h : laidMet Tryd.prog l W) (hm : ("sargasso/api.ErrShape", .iface "*errors.errorString" (.ptr (.agg [.lit (.string [110, 111, 116, 32, 97, 115, 32, 105, 116, 32, 104, 97, 115, 32, 116, 111, 32, 98, 101])]))) ∈ l) : ∃ v, ErS (mem W) v (Er.b 1) :=
  sent_of_laid h hm (by kernel_rfl) (by kernel_rfl) Tryd.underlying34 rowE Tryd.underlying206 Tryd.underlying223 rfl rfl Tryd.underlying9 ceE csE (fun s hs => by unfold errCode; rw [hs]; kernel_rfl)
theorem sent1 {W : World} {l : List (String × DataW Unit)} (h : laidMet Tryd.prog l W) (hm : ("sargasso/api.ErrMany", .iface "*errors.errorString" (.ptr (.agg [.lit (.string [116, 111, 111, 32, 109, 97, 110, 121, 44, 32, 111, 114, 32, 116, 111, 111, 32, 102, 101, 119])]))) ∈ l) : ∃ v, ErS (mem W) v (Er.b 2) :=
  sent_of_laid h hm (by kernel_rfl) (by kernel_rfl) Tryd.underlying34 rowE Tryd.underlying206 Tryd.underlying223 rfl rfl Tryd.underlying9 ceE csE (fun s hs => by unfold errCode; rw [hs]; kernel_rfl)
theorem sent2 {W : World} {l : List (String × DataW Unit)} (h : laidMet Tryd.prog l W) (hm : ("sargasso/api.ErrLong", .iface "*errors.errorString" (.ptr (.agg [.lit (.string [116, 111, 111, 32, 108, 111, 110, 103])]))) ∈ l) : ∃ v, ErS (mem W) v (Er.b 3) :=
  sent_of_laid h hm (by kernel_rfl) (by kernel_rfl) Tryd.underlying34 rowE Tryd.underlying206 Tryd.underlying223 rfl rfl Tryd.underlying9 ceE csE (fun s hs => by unfold errCode; rw [hs]; kernel_rfl)
theorem sent3 {W : World} {l : List (String × DataW Unit)} (h : laidMet Tryd.prog l W) (hm : ("sargasso/api.ErrKey", .iface "*errors.errorString" (.ptr (.agg [.lit (.string [97, 32, 107, 101, 121, 32, 116, 104, 97, 116, 32, 100, 111, 101, 115, 32, 110, 111, 116, 32, 102, 105, 116])]))) ∈ l) : ∃ v, ErS (mem W) v (Er.b 4) :=
  sent_of_laid h hm (by kernel_rfl) (by kernel_rfl) Tryd.underlying34 rowE Tryd.underlying206 Tryd.underlying223 rfl rfl Tryd.underlying9 ceE csE (fun s hs => by unfold errCode; rw [hs]; kernel_rfl)
theorem sent4 {W : World} {l : List (String × DataW Unit)} (h : laidMet Tryd.prog l W) (hm : ("sargasso/api.ErrValue", .iface "*errors.errorString" (.ptr (.agg [.lit (.string [97, 110, 32, 97, 109, 111, 117, 110, 116, 32, 116, 104, 97, 116, 32, 99, 97, 110, 39, 116, 32, 98, 101])]))) ∈ l) : ∃ v, ErS (mem W) v (Er.b 5) :=
  sent_of_laid h hm (by kernel_rfl) (by kernel_rfl) Tryd.underlying34 rowE Tryd.underlying206 Tryd.underlying223 rfl rfl Tryd.underlying9 ceE csE (fun s hs => by unfold errCode; rw [hs]; kernel_rfl)
theorem sent5 {W : World} {l : List (String × DataW Unit)} (h : laidMet Tryd.prog l W) (hm : ("sargasso/api.ErrTwice", .iface "*errors.errorString" (.ptr (.agg [.lit (.string [111, 110, 101, 32, 116, 104, 105, 110, 103, 32, 116, 119, 105, 99, 101])]))) ∈ l) : ∃ v, ErS (mem W) v (Er.b 6) :=
  sent_of_laid h hm (by kernel_rfl) (by kernel_rfl) Tryd.underlying34 rowE Tryd.underlying206 Tryd.underlying223 rfl rfl Tryd.underlying9 ceE csE (fun s hs => by unfold errCode; rw [hs]; kernel_rfl)
theorem sent6 {W : World} {l : List (String × DataW Unit)} (h : laidMet Tryd.prog l W) (hm : ("sargasso/api.ErrRange", .iface "*errors.errorString" (.ptr (.agg [.lit (.string [97, 32, 110, 117, 109, 98, 101, 114, 32, 111, 117, 116, 32, 111, 102, 32, 105, 116, 115, 32, 114, 97, 110, 103, 101])]))) ∈ l) : ∃ v, ErS (mem W) v (Er.b 7) :=
  sent_of_laid h hm (by kernel_rfl) (by kernel_rfl) Tryd.underlying34 rowE Tryd.underlying206 Tryd.underlying223 rfl rfl Tryd.underlying9 ceE csE (fun s hs => by unfold errCode; rw [hs]; kernel_rfl)
theorem sent7 {W : World} {l : List (String × DataW Unit)} (h : laidMet Tryd.prog l W) (hm : ("sargasso/api.ErrLess", .iface "*errors.errorString" (.ptr (.agg [.lit (.string [108, 101, 115, 115, 32, 99, 111, 109, 101, 115, 32, 105, 110, 32, 116, 104, 97, 110, 32, 103, 111, 101, 115, 32, 111, 117, 116])]))) ∈ l) : ∃ v, ErS (mem W) v (Er.b 8) :=
  sent_of_laid h hm (by kernel_rfl) (by kernel_rfl) Tryd.underlying34 rowE Tryd.underlying206 Tryd.underlying223 rfl rfl Tryd.underlying9 ceE csE (fun s hs => by unfold errCode; rw [hs]; kernel_rfl)
theorem sent8 {W : World} {l : List (String × DataW Unit)} (h : laidMet Tryd.prog l W) (hm : ("sargasso/api.ErrEnd", .iface "*errors.errorString" (.ptr (.agg [.lit (.string [105, 116, 32, 101, 110, 100, 115, 32, 116, 111, 111, 32, 101, 97, 114, 108, 121])]))) ∈ l) : ∃ v, ErS (mem W) v (Er.b 9) :=
  sent_of_laid h hm (by kernel_rfl) (by kernel_rfl) Tryd.underlying34 rowE Tryd.underlying206 Tryd.underlying223 rfl rfl Tryd.underlying9 ceE csE (fun s hs => by unfold errCode; rw [hs]; kernel_rfl)
theorem sent9 {W : World} {l : List (String × DataW Unit)} (h : laidMet Tryd.prog l W) (hm : ("sargasso/api.ErrBase", .iface "*errors.errorString" (.ptr (.agg [.lit (.string [110, 111, 32, 102, 105, 114, 115, 116, 32, 116, 114, 97, 110, 115, 97, 99, 116, 105, 111, 110, 32, 119, 104, 101, 114, 101, 32, 116, 104, 101, 114, 101, 32, 104, 97, 115, 32, 116, 111, 32, 98, 101, 32, 111, 110, 101, 44, 32, 111, 114, 32, 111, 110, 101, 32, 119, 104, 101, 114, 101, 32, 116, 104, 101, 114, 101, 32, 109, 97, 121, 32, 98, 101, 32, 110, 111, 110, 101])]))) ∈ l) : ∃ v, ErS (mem W) v (Er.b 10) :=
  sent_of_laid h hm (by kernel_rfl) (by kernel_rfl) Tryd.underlying34 rowE Tryd.underlying206 Tryd.underlying223 rfl rfl Tryd.underlying9 ceE csE (fun s hs => by unfold errCode; rw [hs]; kernel_rfl)
theorem sent10 {W : World} {l : List (String × DataW Unit)} (h : laidMet Tryd.prog l W) (hm : ("sargasso/api.ErrRoot", .iface "*errors.errorString" (.ptr (.agg [.lit (.string [97, 32, 114, 111, 111, 116, 32, 116, 104, 97, 116, 32, 100, 111, 101, 115, 32, 110, 111, 116, 32, 102, 105, 116])]))) ∈ l) : ∃ v, ErS (mem W) v (Er.b 11) :=
  sent_of_laid h hm (by kernel_rfl) (by kernel_rfl) Tryd.underlying34 rowE Tryd.underlying206 Tryd.underlying223 rfl rfl Tryd.underlying9 ceE csE (fun s hs => by unfold errCode; rw [hs]; kernel_rfl)
theorem sent11 {W : World} {l : List (String × DataW Unit)} (h : laidMet Tryd.prog l W) (hm : ("sargasso/api.ErrKnown", .iface "*errors.errorString" (.ptr (.agg [.lit (.string [107, 110, 111, 119, 110, 32, 97, 108, 114, 101, 97, 100, 121])]))) ∈ l) : ∃ v, ErS (mem W) v (Er.b 12) :=
  sent_of_laid h hm (by kernel_rfl) (by kernel_rfl) Tryd.underlying34 rowE Tryd.underlying206 Tryd.underlying223 rfl rfl Tryd.underlying9 ceE csE (fun s hs => by unfold errCode; rw [hs]; kernel_rfl)
theorem sent12 {W : World} {l : List (String × DataW Unit)} (h : laidMet Tryd.prog l W) (hm : ("sargasso/api.ErrParent", .iface "*errors.errorString" (.ptr (.agg [.lit (.string [110, 111, 32, 115, 117, 99, 104, 32, 112, 97, 114, 101, 110, 116])]))) ∈ l) : ∃ v, ErS (mem W) v (Er.b 13) :=
  sent_of_laid h hm (by kernel_rfl) (by kernel_rfl) Tryd.underlying34 rowE Tryd.underlying206 Tryd.underlying223 rfl rfl Tryd.underlying9 ceE csE (fun s hs => by unfold errCode; rw [hs]; kernel_rfl)
theorem sent13 {W : World} {l : List (String × DataW Unit)} (h : laidMet Tryd.prog l W) (hm : ("sargasso/api.ErrInvalid", .iface "*errors.errorString" (.ptr (.agg [.lit (.string [98, 101, 104, 105, 110, 100, 32, 119, 104, 97, 116, 32, 105, 115, 32, 110, 111, 116, 32, 118, 97, 108, 105, 100])]))) ∈ l) : ∃ v, ErS (mem W) v (Er.b 14) :=
  sent_of_laid h hm (by kernel_rfl) (by kernel_rfl) Tryd.underlying34 rowE Tryd.underlying206 Tryd.underlying223 rfl rfl Tryd.underlying9 ceE csE (fun s hs => by unfold errCode; rw [hs]; kernel_rfl)
theorem sent14 {W : World} {l : List (String × DataW Unit)} (h : laidMet Tryd.prog l W) (hm : ("sargasso/api.ErrTime", .iface "*errors.errorString" (.ptr (.agg [.lit (.string [97, 32, 116, 105, 109, 101, 32, 116, 104, 97, 116, 32, 105, 115, 32, 116, 111, 111, 32, 101, 97, 114, 108, 121])]))) ∈ l) : ∃ v, ErS (mem W) v (Er.b 15) :=
  sent_of_laid h hm (by kernel_rfl) (by kernel_rfl) Tryd.underlying34 rowE Tryd.underlying206 Tryd.underlying223 rfl rfl Tryd.underlying9 ceE csE (fun s hs => by unfold errCode; rw [hs]; kernel_rfl)
theorem sent15 {W : World} {l : List (String × DataW Unit)} (h : laidMet Tryd.prog l W) (hm : ("sargasso/api.ErrMissing", .iface "*errors.errorString" (.ptr (.agg [.lit (.string [97, 32, 99, 111, 105, 110, 32, 116, 104, 97, 116, 32, 105, 115, 32, 110, 111, 116, 32, 116, 104, 101, 114, 101])]))) ∈ l) : ∃ v, ErS (mem W) v (Er.b 16) :=
  sent_of_laid h hm (by kernel_rfl) (by kernel_rfl) Tryd.underlying34 rowE Tryd.underlying206 Tryd.underlying223 rfl rfl Tryd.underlying9 ceE csE (fun s hs => by unfold errCode; rw [hs]; kernel_rfl)
theorem sent16 {W : World} {l : List (String × DataW Unit)} (h : laidMet Tryd.prog l W) (hm : ("sargasso/api.ErrYoung", .iface "*errors.errorString" (.ptr (.agg [.lit (.string [97, 32, 99, 111, 105, 110, 32, 116, 104, 97, 116, 32, 105, 115, 32, 116, 111, 111, 32, 121, 111, 117, 110, 103])]))) ∈ l) : ∃ v, ErS (mem W) v (Er.b 17) :=
  sent_of_laid h hm (by kernel_rfl) (by kernel_rfl) Tryd.underlying34 rowE Tryd.underlying206 Tryd.underlying223 rfl rfl Tryd.underlying9 ceE csE (fun s hs => by unfold errCode; rw [hs]; kernel_rfl)
theorem sent17 {W : World} {l : List (String × DataW Unit)} (h : laidMet Tryd.prog l W) (hm : ("sargasso/api.ErrEarly", .iface "*errors.errorString" (.ptr (.agg [.lit (.string [116, 111, 111, 32, 101, 97, 114, 108, 121, 32, 116, 111, 32, 98, 101, 32, 116, 97, 107, 101, 110])]))) ∈ l) : ∃ v, ErS (mem W) v (Er.b 18) :=
  sent_of_laid h hm (by kernel_rfl) (by kernel_rfl) Tryd.underlying34 rowE Tryd.underlying206 Tryd.underlying223 rfl rfl Tryd.underlying9 ceE csE (fun s hs => by unfold errCode; rw [hs]; kernel_rfl)
theorem sent18 {W : World} {l : List (String × DataW Unit)} (h : laidMet Tryd.prog l W) (hm : ("sargasso/api.ErrReward", .iface "*errors.errorString" (.ptr (.agg [.lit (.string [109, 111, 114, 101, 32, 116, 104, 97, 110, 32, 116, 104, 101, 32, 114, 101, 119, 97, 114, 100])]))) ∈ l) : ∃ v, ErS (mem W) v (Er.b 19) :=
  sent_of_laid h hm (by kernel_rfl) (by kernel_rfl) Tryd.underlying34 rowE Tryd.underlying206 Tryd.underlying223 rfl rfl Tryd.underlying9 ceE csE (fun s hs => by unfold errCode; rw [hs]; kernel_rfl)
theorem sent19 {W : World} {l : List (String × DataW Unit)} (h : laidMet Tryd.prog l W) (hm : ("sargasso/api.ErrClash", .iface "*errors.errorString" (.ptr (.agg [.lit (.string [97, 32, 99, 111, 105, 110, 32, 116, 104, 97, 116, 32, 105, 115, 32, 115, 112, 101, 110, 116, 32, 105, 110, 32, 116, 104, 101, 32, 112, 111, 111, 108])]))) ∈ l) : ∃ v, ErS (mem W) v (Er.b 20) :=
  sent_of_laid h hm (by kernel_rfl) (by kernel_rfl) Tryd.underlying34 rowE Tryd.underlying206 Tryd.underlying223 rfl rfl Tryd.underlying9 ceE csE (fun s hs => by unfold errCode; rw [hs]; kernel_rfl)
theorem sent20 {W : World} {l : List (String × DataW Unit)} (h : laidMet Tryd.prog l W) (hm : ("sargasso/api.ErrLimit", .iface "*errors.errorString" (.ptr (.agg [.lit (.string [116, 111, 111, 32, 109, 97, 110, 121, 32, 116, 104, 97, 116, 32, 104, 97, 110, 103, 32, 116, 111, 103, 101, 116, 104, 101, 114])]))) ∈ l) : ∃ v, ErS (mem W) v (Er.b 21) :=
  sent_of_laid h hm (by kernel_rfl) (by kernel_rfl) Tryd.underlying34 rowE Tryd.underlying206 Tryd.underlying223 rfl rfl Tryd.underlying9 ceE csE (fun s hs => by unfold errCode; rw [hs]; kernel_rfl)
theorem sent21 {W : World} {l : List (String × DataW Unit)} (h : laidMet Tryd.prog l W) (hm : ("sargasso/api.ErrFull", .iface "*errors.errorString" (.ptr (.agg [.lit (.string [116, 104, 101, 114, 101, 32, 105, 115, 32, 110, 111, 32, 114, 111, 111, 109])]))) ∈ l) : ∃ v, ErS (mem W) v (Er.b 22) :=
  sent_of_laid h hm (by kernel_rfl) (by kernel_rfl) Tryd.underlying34 rowE Tryd.underlying206 Tryd.underlying223 rfl rfl Tryd.underlying9 ceE csE (fun s hs => by unfold errCode; rw [hs]; kernel_rfl)
theorem sent22 {W : World} {l : List (String × DataW Unit)} (h : laidMet Tryd.prog l W) (hm : ("sargasso/api.ErrNone", .iface "*errors.errorString" (.ptr (.agg [.lit (.string [116, 104, 101, 114, 101, 32, 105, 115, 32, 110, 111, 110, 101])]))) ∈ l) : ∃ v, ErS (mem W) v (Er.b 23) :=
  sent_of_laid h hm (by kernel_rfl) (by kernel_rfl) Tryd.underlying34 rowE Tryd.underlying206 Tryd.underlying223 rfl rfl Tryd.underlying9 ceE csE (fun s hs => by unfold errCode; rw [hs]; kernel_rfl)
theorem sent23 {W : World} {l : List (String × DataW Unit)} (h : laidMet Tryd.prog l W) (hm : ("sargasso/api.ErrWord", .iface "*errors.errorString" (.ptr (.agg [.lit (.string [110, 111, 32, 115, 117, 99, 104, 32, 119, 111, 114, 100])]))) ∈ l) : ∃ v, ErS (mem W) v (Er.b 24) :=
  sent_of_laid h hm (by kernel_rfl) (by kernel_rfl) Tryd.underlying34 rowE Tryd.underlying206 Tryd.underlying223 rfl rfl Tryd.underlying9 ceE csE (fun s hs => by unfold errCode; rw [hs]; kernel_rfl)
theorem sent24 {W : World} {l : List (String × DataW Unit)} (h : laidMet Tryd.prog l W) (hm : ("sargasso/api.ErrNumber", .iface "*errors.errorString" (.ptr (.agg [.lit (.string [110, 111, 116, 32, 97, 32, 110, 117, 109, 98, 101, 114])]))) ∈ l) : ∃ v, ErS (mem W) v (Er.b 25) :=
  sent_of_laid h hm (by kernel_rfl) (by kernel_rfl) Tryd.underlying34 rowE Tryd.underlying206 Tryd.underlying223 rfl rfl Tryd.underlying9 ceE csE (fun s hs => by unfold errCode; rw [hs]; kernel_rfl)
end Go.Proofs.YtpeelghbhihgkaaDoor.T
namespace Go.Proofs.YtpeelghbhihgkaaDoor.T
open Go Go.Proofs Go.Proofs.YtpeelghbhihgkaaDoor.K
set_option linter.unusedVariables false
set_option linter.unusedSimpArgs false
theorem laid : laidOutB Tryd.prog = true := by kernel_rfl
theorem cl22 : Tryd.prog.cellsOf 22 = 1 := by kernel_rfl
theorem cl5 : Tryd.prog.cellsOf 5 = 1 := by kernel_rfl
theorem cl23 : Tryd.prog.cellsOf 23 = 1 := by kernel_rfl
theorem cl39 : Tryd.prog.cellsOf 39 = 1 := by kernel_rfl
theorem cl55 : Tryd.prog.cellsOf 55 = 32 := by kernel_rfl
theorem cl60 : Tryd.prog.cellsOf 60 = 33 := by kernel_rfl
theorem cl62 : Tryd.prog.cellsOf 62 = 35 := by kernel_rfl
theorem cl63 : Tryd.prog.cellsOf 63 = 1 := by kernel_rfl
theorem cl65 : Tryd.prog.cellsOf 65 = 33 := by kernel_rfl
theorem cl66 : Tryd.prog.cellsOf 66 = 1 := by kernel_rfl
theorem cl68 : Tryd.prog.cellsOf 68 = 4 := by kernel_rfl
theorem rr68 : Tryd.prog.readableRec 68 = true := by kernel_rfl
theorem tr68 : 68 < Tryd.prog.types.size := of_decide_eq_true (by kernel_rfl)
section
variable {H : Type} {enc : TypeId × Value → H} {w : World} {base : Nat} {spare : Nat → Bool} {held : Bool}
theorem rd22 : Rd enc Tryd.prog w base spare held 22 (fun c => ∃ n, RI .u64 n c) := rd_int Tryd.underlying22
theorem rd5 : Rd enc Tryd.prog w base spare held 5 (fun c => ∃ n, RI .u8 n c) := rd_int Tryd.underlying5
theorem rd23 : Rd enc Tryd.prog w base spare held 23 (fun c => ∃ v xs, c = [v] ∧ Slc (RI .u8) 1 (mem w) v xs) := rd_slice Tryd.underlying23 cl5 (by decide) rd5
theorem rd39 : Rd enc Tryd.prog w base spare held 39 (fun c => ∃ n, RI .u32 n c) := rd_int Tryd.underlying39
theorem rd55 : Rd enc Tryd.prog w base spare held 55 (fun c => ∃ xs, RA .u8 32 xs c) := rd_array Tryd.underlying55 Tryd.underlying5 cl5 cl55
theorem rd60 : Rd enc Tryd.prog w base spare held 60 (fun c => ∃ x, RPoint (mem w) x c) := by
  intro fuel cs x h
  obtain ⟨hl, hf⟩ := rd_struct Tryd.underlying60 h
  rw [cl60] at hl
  obtain ⟨n0, y0, h0⟩ := hf 0 _ rfl
  obtain ⟨x0, e0, w0⟩ := rd55 _ _ _ h0
  have e0 : (cs.drop 0).take (Tryd.prog.cellsOf 55) = _ := e0
  rw [cl55] at e0
  have c0 := chop cs 0 32 32 rfl
  rw [e0] at c0
  obtain ⟨n1, y1, h1⟩ := hf 1 _ rfl
  obtain ⟨x1, e1, w1⟩ := rd39 _ _ _ h1
  have e1 : (cs.drop 32).take (Tryd.prog.cellsOf 39) = _ := e1
  rw [cl39] at e1
  have c1 := chop cs 32 1 33 rfl
  rw [e1] at c1
  rw [List.drop_eq_nil_of_le (i := 33) (by omega)] at c1
  rw [c1] at c0
  rw [List.drop_zero] at c0
  exact ⟨⟨x0, x1⟩,  by rw [c0]; simp [PointC], ⟨w0, w1⟩⟩
theorem rd62 : Rd enc Tryd.prog w base spare held 62 (fun c => ∃ x, RIn (mem w) x c) := by
  intro fuel cs x h
  obtain ⟨hl, hf⟩ := rd_struct Tryd.underlying62 h
  rw [cl62] at hl
  obtain ⟨n0, y0, h0⟩ := hf 0 _ rfl
  obtain ⟨x0, e0, w0_0, w0_1⟩ := rd60 _ _ _ h0
  have e0 : (cs.drop 0).take (Tryd.prog.cellsOf 60) = _ := e0
  rw [cl60] at e0
  have c0 := chop cs 0 33 33 rfl
  rw [e0] at c0
  obtain ⟨n1, y1, h1⟩ := hf 1 _ rfl
  obtain ⟨v1, x1, e1, w1⟩ := rd23 _ _ _ h1
  have e1 : (cs.drop 33).take (Tryd.prog.cellsOf 23) = _ := e1
  rw [cl23] at e1
  have c1 := chop cs 33 1 34 rfl
  rw [e1] at c1
  obtain ⟨n2, y2, h2⟩ := hf 2 _ rfl
  obtain ⟨x2, e2, w2⟩ := rd39 _ _ _ h2
  have e2 : (cs.drop 34).take (Tryd.prog.cellsOf 39) = _ := e2
  rw [cl39] at e2
  have c2 := chop cs 34 1 35 rfl
  rw [e2] at c2
  rw [List.drop_eq_nil_of_le (i := 35) (by omega)] at c2
  rw [c2] at c1
  rw [c1] at c0
  rw [List.drop_zero] at c0
  exact ⟨⟨x0, x1, x2⟩, v1,  by rw [c0]; simp [InC, PointC], ⟨w0_0, w0_1, w1, w2⟩⟩
theorem rd63 : Rd enc Tryd.prog w base spare held 63 (fun c => ∃ v xs, c = [v] ∧ Slc (RIn (mem w)) 35 (mem w) v xs) := rd_slice Tryd.underlying63 cl62 (by decide) rd62
theorem rd65 : Rd enc Tryd.prog w base spare held 65 (fun c => ∃ x, ROut (mem w) x c) := by
  intro fuel cs x h
  obtain ⟨hl, hf⟩ := rd_struct Tryd.underlying65 h
  rw [cl65] at hl
  obtain ⟨n0, y0, h0⟩ := hf 0 _ rfl
  obtain ⟨x0, e0, w0⟩ := rd22 _ _ _ h0
  have e0 : (cs.drop 0).take (Tryd.prog.cellsOf 22) = _ := e0
  rw [cl22] at e0
  have c0 := chop cs 0 1 1 rfl
  rw [e0] at c0
  obtain ⟨n1, y1, h1⟩ := hf 1 _ rfl
  obtain ⟨x1, e1, w1⟩ := rd55 _ _ _ h1
  have e1 : (cs.drop 1).take (Tryd.prog.cellsOf 55) = _ := e1
  rw [cl55] at e1
  have c1 := chop cs 1 32 33 rfl
  rw [e1] at c1
  rw [List.drop_eq_nil_of_le (i := 33) (by omega)] at c1
  rw [c1] at c0
  rw [List.drop_zero] at c0
  exact ⟨⟨x0, x1⟩,  by rw [c0]; simp [OutC], ⟨w0, w1⟩⟩
theorem rd66 : Rd enc Tryd.prog w base spare held 66 (fun c => ∃ v xs, c = [v] ∧ Slc (ROut (mem w)) 33 (mem w) v xs) := rd_slice Tryd.underlying66 cl65 (by decide) rd65
theorem rd68 : Rd enc Tryd.prog w base spare held 68 (fun c => ∃ x, RTx (mem w) x c) := by
  intro fuel cs x h
  obtain ⟨hl, hf⟩ := rd_struct Tryd.underlying68 h
  rw [cl68] at hl
  obtain ⟨n0, y0, h0⟩ := hf 0 _ rfl
  obtain ⟨x0, e0, w0⟩ := rd39 _ _ _ h0
  have e0 : (cs.drop 0).take (Tryd.prog.cellsOf 39) = _ := e0
  rw [cl39] at e0
  have c0 := chop cs 0 1 1 rfl
  rw [e0] at c0
  obtain ⟨n1, y1, h1⟩ := hf 1 _ rfl
  obtain ⟨v1, x1, e1, w1⟩ := rd63 _ _ _ h1
  have e1 : (cs.drop 1).take (Tryd.prog.cellsOf 63) = _ := e1
  rw [cl63] at e1
  have c1 := chop cs 1 1 2 rfl
  rw [e1] at c1
  obtain ⟨n2, y2, h2⟩ := hf 2 _ rfl
  obtain ⟨v2, x2, e2, w2⟩ := rd66 _ _ _ h2
  have e2 : (cs.drop 2).take (Tryd.prog.cellsOf 66) = _ := e2
  rw [cl66] at e2
  have c2 := chop cs 2 1 3 rfl
  rw [e2] at c2
  obtain ⟨n3, y3, h3⟩ := hf 3 _ rfl
  obtain ⟨x3, e3, w3⟩ := rd39 _ _ _ h3
  have e3 : (cs.drop 3).take (Tryd.prog.cellsOf 39) = _ := e3
  rw [cl39] at e3
  have c3 := chop cs 3 1 4 rfl
  rw [e3] at c3
  rw [List.drop_eq_nil_of_le (i := 4) (by omega)] at c3
  rw [c3] at c2
  rw [c2] at c1
  rw [c1] at c0
  rw [List.drop_zero] at c0
  exact ⟨⟨x0, x1, x2, x3⟩, v1, v2,  by rw [c0]; simp [TxC], ⟨w0, w1, w2, w3⟩⟩
end
end Go.Proofs.YtpeelghbhihgkaaDoor.T
namespace Go.Proofs.YtpeelghbhihgkaaDoor.J
open Go Go.Proofs
theorem words_cons : ∀ (w r : List Char), w.all (· != ' ') = true → wordsSigns (w ++ ' ' :: r) = w :: wordsSigns r
  | [], r, _ => rfl
  | c :: w, r, h => by
    simp only [List.all_cons, Bool.and_eq_true, bne_iff_ne, ne_eq] at h
    have ih := words_cons w r h.2
    rw [List.cons_append, wordsSigns, ih]
    exact fun e => h.1 e
set_option maxRecDepth 100000
def w0 : List Char := ['h', 'a', 'r', 'n', 'e', 's', 's']
def w1 : List Char := ['4', '4', 'c', '8', '7', '2', '5', '3', 'b', '6', 'd', '1', 'd', '6', '4', '9', 'e', 'a', '9', 'f', '3', '2', '0', '8', '1', 'a', '4', 'd', 'd', '5', 'f', 'b', 'f', 'f', '2', '1', '7', 'a', 'e', 'd', '9', 'a', 'b', '5', 'f', '6', '6', 'e', '5', 'b', '0', '9', '9', '1', 'c', '7', '7', 'e', 'b', '1', '8', 'b', '9', '7']
def w2 : List Char := ['c', 'u', 't']
def w3 : List Char := ['a', 't', ' ', 's', 'a', 'r', 'g', 'a', 's', 's', 'o', '/', 's', 'a', 'r', 'g', 'a', 's', 's', 'o', 'l', 'a', 'w', '2', '.', 'C', 'o', 'm', 'p', 'a', 'c', 't', 'B', 'a', 'c', 'k', ' ', 's', 'a', 'r', 'g', 'a', 's', 's', 'o', '/', 's', 'a', 'r', 'g', 'a', 's', 's', 'o', 'l', 'a', 'w', '2', '.', 'C', 'o', 'm', 'p', 'a', 'c', 't', 'F', 'e', 'w', 'e', 's', 't', ' ', 's', 'a', 'r', 'g', 'a', 's', 's', 'o', '/', 's', 'a', 'r', 'g', 'a', 's', 's', 'o', 'l', 'a', 'w', '2', '.', 'C', 'o', 'm', 'p', 'a', 'c', 't', 'R', 'o', 'w', 's', ' ', 's', 'a', 'r', 'g', 'a', 's', 's', 'o', '/', 's', 'a', 'r', 'g', 'a', 's', 's', 'o', 'l', 'a', 'w', '2', '.', 'C', 'o', 'm', 'p', 'a', 'c', 't', 'R', 'e', 'a', 'd', 's', ' ', 's', 'a', 'r', 'g', 'a', 's', 's', 'o', '/', 's', 'a', 'r', 'g', 'a', 's', 's', 'o', 'l', 'a', 'w', '2', '.', 'C', 'o', 'm', 'p', 'a', 'c', 't', 'S', 't', 'o', 'p', 's', ' ', 's', 'a', 'r', 'g', 'a', 's', 's', 'o', '/', 's', 'a', 'r', 'g', 'a', 's', 's', 'o', 'l', 'a', 'w', '4', '.', 'T', 'x', 'B', 'o', 'u', 'n', 'd', 's', ' ', 's', 'a', 'r', 'g', 'a', 's', 's', 'o', '/', 's', 'a', 'r', 'g', 'a', 's', 's', 'o', 'l', 'a', 'w', '4', '.', 'T', 'x', 'B', 'a', 's', 'e', 's', ' ', 's', 'a', 'r', 'g', 'a', 's', 's', 'o', '/', 's', 'a', 'r', 'g', 'a', 's', 's', 'o', 'l', 'a', 'w', '4', '.', 'T', 'x', 'B', 'a', 'c', 'k', ' ', 's', 'a', 'r', 'g', 'a', 's', 's', 'o', '/', 's', 'a', 'r', 'g', 'a', 's', 's', 'o', 'l', 'a', 'w', '4', '.', 'T', 'x', 'S', 'i', 'z', 'e', 's', ' ', 's', 'a', 'r', 'g', 'a', 's', 's', 'o', '/', 's', 'a', 'r', 'g', 'a', 's', 's', 'o', 'l', 'a', 'w', '4', '.', 'T', 'x', 'T', 'u', 'r', 'n', 'e', 'd', ' ', 's', 'a', 'r', 'g', 'a', 's', 's', 'o', '/', 's', 'a', 'r', 'g', 'a', 's', 's', 'o', 'l', 'a', 'w', '4', '.', 'T', 'x', 'S', 'a', 'y', 's', ' ', 's', 'a', 'r', 'g', 'a', 's', 's', 'o', '/', 's', 'a', 'r', 'g', 'a', 's', 's', 'o', 'l', 'a', 'w', '5', '.', 'H', 'e', 'a', 'd', 'W', 'o', 'r', 'k', ' ', 's', 'a', 'r', 'g', 'a', 's', 's', 'o', '/', 's', 'a', 'r', 'g', 'a', 's', 's', 'o', 'l', 'a', 'w', '5', '.', 'H', 'e', 'a', 'd', 'B', 'a', 'c', 'k', ' ', 's', 'a', 'r', 'g', 'a', 's', 's', 'o', '/', 's', 'a', 'r', 'g', 'a', 's', 's', 'o', 'l', 'a', 'w', '1', '5', '.', 'V', 'a', 'l', 'u', 'e', 'R', 'u', 'l', 'e', 's', ' ', 's', 'a', 'r', 'g', 'a', 's', 's', 'o', '/', 's', 'a', 'r', 'g', 'a', 's', 's', 'o', 'l', 'a', 'w', '1', '5', '.', 'V', 'a', 'l', 'u', 'e', 'K', 'e', 'e', 'p', 's', ' ', 's', 'a', 'r', 'g', 'a', 's', 's', 'o', '/', 's', 'a', 'r', 'g', 'a', 's', 's', 'o', 'l', 'a', 'w', '1', '5', '.', 'V', 'a', 'l', 'u', 'e', 'S', 'a', 'y', 's', ' ', 's', 'a', 'r', 'g', 'a', 's', 's', 'o', '/', 's', 'a', 'r', 'g', 'a', 's', 's', 'o', 'l', 'a', 'w', '2', '0', '.', 'N', 'o', 't', 'e', 's', 'C', 'a', 'p', ' ', 's', 'a', 'r', 'g', 'a', 's', 's', 'o', '/', 's', 'a', 'r', 'g', 'a', 's', 's', 'o', 'l', 'a', 'w', '2', '0', '.', 'N', 'o', 't', 'e', 's', 'P', 'l', 'a', 'y', ' ', 's', 'a', 'r', 'g', 'a', 's', 's', 'o', '/', 's', 'a', 'r', 'g', 'a', 's', 's', 'o', 'l', 'a', 'w', '2', '0', '.', 'N', 'o', 't', 'e', 's', 'O', 'p', 's']
theorem io0 : Tryd.prog.initOrder = String.ofList (w0 ++ ' ' :: (w1 ++ ' ' :: (w2 ++ ' ' :: w3))) := by kernel_rfl
theorem io : Tryd.prog.initOrder.toList = w0 ++ ' ' :: (w1 ++ ' ' :: (w2 ++ ' ' :: w3)) := (congrArg String.toList io0).trans String.toList_ofList
theorem ws : wordsSigns Tryd.prog.initOrder.toList = w0 :: w1 :: w2 :: wordsSigns w3 := by
  rw [io, words_cons _ _ (by kernel_rfl), words_cons _ _ (by kernel_rfl), words_cons _ _ (by kernel_rfl)]
theorem bm (R : List (List Char)) : behindMainWord (w0 :: w1 :: w2 :: R) = w2 :: R := by kernel_rfl
theorem main_of {P : Program} {R : List (List Char)} (h : wordsSigns P.initOrder.toList = w0 :: w1 :: R) : P.mainIs = some (true, w1) := by
  unfold Program.mainIs
  rw [h]
  kernel_rfl
theorem mainIs : Tryd.prog.mainIs = some (true, w1) := main_of ws
theorem bw : behindMainWord (wordsSigns Tryd.prog.initOrder.toList) = w2 :: wordsSigns w3 := by rw [ws, bm]
theorem st (R : List (List Char)) : stripLifts liftWords (w2 :: R) = ([], w2 :: R) := by kernel_rfl
theorem make_of {P : Program} {R : List (List Char)} (h : behindMainWord (wordsSigns P.initOrder.toList) = w2 :: R) : P.make = some .cut := by
  unfold Program.make
  rw [h]
  kernel_rfl
theorem head_of {P : Program} {R : List (List Char)} (h : behindMainWord (wordsSigns P.initOrder.toList) = w2 :: R) : P.headLifts = [] := by
  unfold Program.headLifts
  rw [h, st]
  kernel_rfl
theorem lifts_of {P : Program} {R : List (List Char)} (h : behindMainWord (wordsSigns P.initOrder.toList) = w2 :: R) : P.liftsFinal = false := by
  unfold Program.liftsFinal
  rw [h, head_of h]
  kernel_rfl
theorem may_of {P : Program} {R : List (List Char)} (h : behindMainWord (wordsSigns P.initOrder.toList) = w2 :: R) (h1 : P.laysLater = false) (h2 : P.bearsReflect = false) (h3 : P.doorFits [] = true) : P.mayEnter = true := by
  unfold Program.mayEnter
  rw [h]
  simp only [st, h1, h2, h3]
  kernel_rfl
theorem later : Tryd.prog.laysLater = false := by kernel_rfl
theorem reflect : Tryd.prog.bearsReflect = false := by kernel_rfl
theorem door : Tryd.prog.doorFits [] = true := by kernel_rfl
theorem make : Tryd.prog.make = some .cut := make_of bw
theorem lifts : Tryd.prog.liftsFinal = false := lifts_of bw
theorem may : Tryd.prog.mayEnter = true := may_of bw later reflect door
end Go.Proofs.YtpeelghbhihgkaaDoor.J
namespace Go.Proofs.YtpeelghbhihgkaaDoor.zTxSays
open Go Go.Proofs Go.Proofs.YtpeelghbhihgkaaDoor.K Go.Proofs.YtpeelghbhihgkaaDoor.T
open Go.ChangeShapes Go.WideShapes Go.ChangeAt Go.RowKit
set_option linter.unusedVariables false
theorem met (os : Os) (args : Array Value) : laidMetH Tryd.prog Rows.txSaysRow.laid ((laidWorld os).forCall (fun _ _ => 0) ⟨#[], args, []⟩).memory :=
  laidMetH_of_parts (laidMet_of_run' 8 (by kernel_rfl) (by kernel_rfl)) (by kernel_rfl)
set_option maxRecDepth 100000 in
theorem lifted (os : Os) (started : os.Started) (H : Type) (enc : TypeId × Value → H) :
    ReturnsInHanded {} Tryd.checked os 13 .any (fun w args => (Rows.txSaysSpec.pre enc Tryd.prog Tryd.f13 [] false w args ∧ laidMetH Tryd.prog Rows.txSaysRow.laid w) ∧ sizedMet enc Tryd.prog Tryd.f13 (OpenSpec.ofChange Rows.txSaysSpec) false w args) (Rows.txSaysSpec.post enc Tryd.prog Tryd.f13 false true false false) := by
  refine returnsInHanded_of_change_and (C := Tryd.checked) (X := fun w _ => laidMetH Tryd.prog Rows.txSaysRow.laid w) (fun _ _ _ hh h => h.of_heap hh) own started (by kernel_rfl) Tryd.func13
    (ChangeSpec.witness_at (enc := enc) (C := Tryd.checked) (os := os) (X := fun w _ => laidMetH Tryd.prog Rows.txSaysRow.laid w) false (laidWorld os) #[.agg #[.int .u32 0, .slice none 0 0, .slice none 0 0, .int .u32 0], .agg #[.int .u32 0, .slice none 0 0, .slice none 0 0, .int .u32 0]] 8 rfl (by kernel_rfl) (by kernel_rfl) (by kernel_rfl) (by kernel_rfl) (by kernel_rfl) (met os _)) ?_
  intro W base args ds gs before hval0 hW hcnd hsz0 hL _
  have hL : laidMet Tryd.prog Rows.txSaysRow.laid W := hL
  have hG : Gl (mem W) := ⟨sent0 hL (List.mem_of_getElem? (i := 1) rfl), sent1 hL (List.mem_of_getElem? (i := 3) rfl), sent2 hL (List.mem_of_getElem? (i := 2) rfl), sent3 hL (List.mem_of_getElem? (i := 13) rfl), sent4 hL (List.mem_of_getElem? (i := 4) rfl), sent5 hL (List.mem_of_getElem? (i := 5) rfl), sent6 hL (List.mem_of_getElem? (i := 21) rfl), sent7 hL (List.mem_of_getElem? (i := 16) rfl), sent8 hL (List.mem_of_getElem? (i := 0) rfl), sent9 hL (List.mem_of_getElem? (i := 6) rfl), sent10 hL (List.mem_of_getElem? (i := 7) rfl), sent11 hL (List.mem_of_getElem? (i := 8) rfl), sent12 hL (List.mem_of_getElem? (i := 9) rfl), sent13 hL (List.mem_of_getElem? (i := 10) rfl), sent14 hL (List.mem_of_getElem? (i := 11) rfl), sent15 hL (List.mem_of_getElem? (i := 12) rfl), sent16 hL (List.mem_of_getElem? (i := 14) rfl), sent17 hL (List.mem_of_getElem? (i := 15) rfl), sent18 hL (List.mem_of_getElem? (i := 17) rfl), sent19 hL (List.mem_of_getElem? (i := 18) rfl), sent20 hL (List.mem_of_getElem? (i := 19) rfl), sent21 hL (List.mem_of_getElem? (i := 20) rfl), sent22 hL (List.mem_of_getElem? (i := 22) rfl), sent23 hL (List.mem_of_getElem? (i := 23) rfl), sent24 hL (List.mem_of_getElem? (i := 24) rfl)⟩
  have hW' := hW
  obtain ⟨p, q, hA0, hV, rfl, hfz, hnd⟩ := hW
  have hA : DataW.TrodAll enc Tryd.prog W 0 (fun _ => true) true Tryd.f13.params.toList args.toList ds p := hA0
  have hval : ∀ (j : Nat) t v, Tryd.f13.params[j]? = some t → args[j]? = some v → Value.okWide Tryd.prog W .any base t v := hval0
  rw [Tryd.params13] at hA hval
  obtain ⟨v0, vs0, d0, ds0, p0, q0, hargs, rfl, rfl, h0, r0⟩ := trodAll_cons hA
  obtain ⟨v1, vs1, d1, ds1, p1, q1, rfl, rfl, rfl, h1, r1⟩ := trodAll_cons r0
  obtain ⟨rfl, rfl, rfl⟩ := trodAll_nil r1
  obtain rfl : args = #[v0, v1] := by cases args; simp_all
  obtain ⟨rfl, rfl⟩ := trodVars_none hV
  obtain ⟨c0, rfl, x0, u0_0, u0_1, rfl, w0⟩ := at_agg (agg_struct Tryd.underlying68 (hval 0 68 v0 rfl rfl)) rd68 h0
  obtain ⟨c1, rfl, x1, u1_0, u1_1, rfl, w1⟩ := at_agg (agg_struct Tryd.underlying68 (hval 1 68 v1 rfl rfl)) rd68 h1
  have hμ : Agr (mem W) W := agr_mem W
  have hm := sargassolaw4_TxSays.m (mem W) x0 u0_0 u0_1 w0 x1 u1_0 u1_1 w1
  refine (sargassolaw4_TxSays.c (mem W) W hμ x0 u0_0 u0_1 w0 x1 u1_0 u1_1 w1 hG true hm).mono fun e W' ⟨v, he, hv, _, hI⟩ => ?_
  subst hv
  subst he
  have bel : Below W.heap.size W W' := hI.below
  exact ⟨_, rfl, _, _, _, [], _, [], hW', trodAll_mk1 (shut_bool Tryd.underlying4 _), (trodAll_cons_mk (again laid rr68 tr68 h0 bel) (trodAll_cons_mk (again laid rr68 tr68 h1 bel) trodAll_mk0)), rfl, bel.frame _, fun h => by cases h⟩
theorem closed : joinedFacts Tryd.prog 13 Tryd.f13 Rows.txSaysSpec Rows.txSaysRow = true := by
  unfold joinedFacts
  rw [J.may, J.lifts, J.make]
  kernel_rfl
theorem over : Rows.txSaysRow.holds Tryd.pinned (OpenSpec.ofChange Rows.txSaysSpec) :=
  OpenClaim.holds_of_wide 13 Tryd.f13 rfl rfl rfl rfl rfl rfl rfl ⟨rfl, rfl, rfl, rfl, rfl⟩ rfl rfl rfl rfl rfl (by kernel_rfl) Tryd.func13 closed
    (of_decide_eq_true (by kernel_rfl)) (by unfold Func.isWrapper; first | (rw [if_pos (by decide +kernel)]; kernel_rfl) | (rw [if_neg (by decide +kernel)]; exact ⟨rfl, rfl⟩))
    (fun os started H enc _ => lifted os started H enc)
theorem card : Rows.TxSaysCardSaid :=
  Claim7.holds_tied_plain_at .later [] [.sentinel, .sentinel, .sentinel, .sentinel, .sentinel, .sentinel, .sentinel, .sentinel, .sentinel, .sentinel, .sentinel, .sentinel, .sentinel, .sentinel, .sentinel, .sentinel, .sentinel, .sentinel, .sentinel, .sentinel, .sentinel, .sentinel, .sentinel, .sentinel, .sentinel] true (true, "44c87253b6d1d649ea9f32081a4dd5fbff217aed9ab5f66e5b0991c77eb18b97") true
    over (fun _ h => by cases h) (by kernel_rfl) (fun _ h => by cases h) txSays_row_tie rfl ⟨rfl, rfl⟩ (J.mainIs.trans (congrArg (fun s => some (true, s)) (by kernel_rfl))) rfl
    (fun f fn hf hfn => by
      obtain rfl : f = 13 := Option.some.inj ((show Tryd.prog.funcNamed "sargasso/sargassolaw4.TxSays" = some 13 by kernel_rfl).symm.trans hf) |>.symm
      obtain rfl : fn = Tryd.f13 := (Option.some.inj (Tryd.func13.symm.trans hfn)).symm
      exact ⟨by kernel_rfl, fun j t ht => by
        rw [Tryd.params13] at ht
        rcases j with _ | _ | j
        · obtain rfl : (68 : TypeId) = t := by simpa using ht
          exact (show Tryd.prog.wantsStandIn 68 = false by kernel_rfl)
        · obtain rfl : (68 : TypeId) = t := by simpa using ht
          exact (show Tryd.prog.wantsStandIn 68 = false by kernel_rfl)
        · simp at ht⟩)
    (by kernel_rfl)
end Go.Proofs.YtpeelghbhihgkaaDoor.zTxSays
namespace Go.Proofs.YtpeelghbhihgkaaDoor
theorem txSays_holds : Rows.TxSaysCardSaid := zTxSays.card
#print axioms txSays_holds
end Go.Proofs.YtpeelghbhihgkaaDoor
