/- A helper of this seat's claims: printed by gen.py. It proves no statement by itself. -/
import Derived.Test.YtnbnnphlffhgiaaCH
import Derived.Test.YtnbnnphlffhgiaaGSpendNulls
namespace Go.Proofs.Ytnbnnphlffhgiaa.T
open Go Go.Proofs Go.Proofs.Ytnbnnphlffhgiaa.K
set_option linter.unusedVariables false
set_option linter.unusedSimpArgs false
/-! sargassolaw3.SpendNulls: function 13 -/
set_option maxRecDepth 20000 in
theorem sargassolaw3_SpendNulls.c (μ : Store) (w0 : World) (hμ : Agr μ w0) (x0 : Int) (hx0 : InR .i64 x0) (x1 : Int) (hx1 : InR .u8 x1) (x2 : Int) (hx2 : InR .u32 x2) (r : Bool) (H : sargassolaw3_SpendNulls.f x0 x1 x2 = some r) :
    Calls Try.prog 13 [.int .i64 x0, .int .u8 x1, .int .u32 x2].toArray w0 (fun e w' => ∃ v, e = .returned v ∧ v = .bool r ∧ True ∧ Iv w0 [] μ μ [] w') := by
  refine enter Try.func13 rfl Try.ntmps13 rfl fun a hA => ?_
  have hI := Iv.start hμ
  have H := bI H
  refine w_seq fun _ hN1 => ?_
  refine w_reg ?_
  refine stp hA (r_as hA rfl) rfl fun a hA => ?_
  refine o_nil ?_
  refine hN1 _ _ ?_
  refine w_seq fun _ hN2 => ?_
  refine w_reg ?_
  obtain ⟨r1, hr1, H⟩ := bB H
  refine o_callp (u := .bool r1) cf53 hA rfl hI (sargassolaw3_first.c μ _ hI.agr  r1 hr1) rfl fun a w hz1 hI hA => 
    stp hA (r_as hA rfl) rfl fun a hA => ?_
  refine o_nil ?_
  refine hN2 _ _ ?_
  refine w_seq fun _ hN3 => ?_
  refine w_seq fun _ hN4 => ?_
  refine w_reg ?_
  refine stp hA (r_mv hA rfl) rfl fun a hA => 
    stp hA (r_not hA rfl) rfl fun a hA => ?_
  refine o_nil ?_
  refine hN4 _ _ ?_
  refine w_cond hA rfl (fun hc1 => ?_) (fun hc1 => ?_)
  · have hc10 := hc1; have hc1 := nT hc1; have hc1 := ft hc1; have H := bF H hc1
    refine w_seq fun _ hN5 => ?_
    refine w_reg ?_
    refine stp hA (r_as hA rfl) rfl fun a hA => ?_
    refine o_nil ?_
    refine hN5 _ _ ?_
    refine w_ret ?_
    obtain rfl := Option.some.inj (bS H)
    exact ret1 hA Try.results13 rfl ⟨_, rfl, rfl, trivial, hI.forget0⟩
  · have hc10 := hc1; have hc1 := nF hc1; have H := bT H hc1
    refine w_skip ?_
    refine hN3 _ _ ?_
    refine w_seq fun _ hN6 => ?_
    refine w_reg ?_
    obtain ⟨r2, hr2, H⟩ := bB H
    refine o_callp (u := .agg [av .u8 32 r2.Tx, [.int .u32 r2.N]].flatten.toArray) cf60 hA rfl hI (spend_Null.c μ _ hI.agr  r2 hr2) rfl fun a w hz2 hI hA => 
      o_new [av .u8 32 (List.replicate 32 0), [.int .u32 0]] zr57 hI hA rfl fun g1 a w hA hI hg1 => 
      o_st (j := 0) [] [av .u8 32 (List.replicate 32 0), [.int .u32 0]] [av .u8 32 r2.Tx, [.int .u32 r2.N]] [] sz57 rfl rfl (fl_cons (one_av _ _ _) (fl_cons (one_one rfl) fl_nil)) hI rfl hA rfl rfl rfl rfl fun w hI => ?_
    refine o_nil ?_
    refine hN6 _ _ ?_
    refine w_seq fun _ hN7 => ?_
    refine w_reg ?_
    refine stp hA (r_ldA (j := 0) [] [av .u8 32 r2.Tx, [.int .u32 r2.N]] [] Try.underlying57 rfl sz57 rfl hI rfl hA rfl rfl) rfl fun a hA => 
      o_new [av .u8 32 (List.replicate 32 0), [.int .u32 0]] zr57 hI hA rfl fun g2 a w hA hI hg2 => 
      o_st (j := 0) [] [av .u8 32 (List.replicate 32 0), [.int .u32 0]] [av .u8 32 r2.Tx, [.int .u32 r2.N]] [] sz57 rfl rfl (fl_cons (one_av _ _ _) (fl_cons (one_one rfl) fl_nil)) hI rfl hA rfl rfl rfl rfl fun w hI => ?_
    refine o_nil ?_
    refine hN7 _ _ ?_
    refine w_seq fun _ hN8 => ?_
    refine w_reg ?_
    refine stp hA (r_mv hA rfl) rfl fun a hA => ?_
    obtain ⟨r3, hr3, H⟩ := bB H
    refine o_callp (u := .int .i64 r3) cf26 hA rfl hI (sargassoworld_Number.c μ _ hI.agr x0 hx0 32 (in_lit .i64 32 rfl) r3 hr3) rfl fun a w hz3 hI hA => 
      stp hA (r_as hA rfl) rfl fun a hA => ?_
    refine o_nil ?_
    refine hN8 _ _ ?_
    refine w_seq fun _ hN9 => ?_
    refine w_reg ?_
    refine stp hA (r_mv hA rfl) rfl fun a hA => 
      stp hA (r_mv hA rfl) rfl fun a hA => 
      stp hA (r_fd (k := 0) Try.underlying57 rfl sz33 hA rfl rfl) rfl fun a hA => ?_
    obtain ⟨hb1, H⟩ := bG H
    refine stp hA (r_ixar1 Try.underlying33 sz5 hA rfl rfl hb1.1 hb1.2) rfl fun a hA => 
      stp hA (r_ldE (j := 0) [] [[.int .u32 r2.N]] Try.underlying5 rfl hI rfl hA rfl rfl (by omega)) rfl fun a hA => 
      stp hA (r_mv hA rfl) rfl fun a hA => 
      stp hA (r_xor hA rfl rfl) rfl fun a hA => 
      stp hA (r_fd (k := 0) Try.underlying57 rfl sz33 hA rfl rfl) rfl fun a hA => 
      stp hA (r_ixar1 Try.underlying33 sz5 hA rfl rfl hb1.1 hb1.2) rfl fun a hA => 
      o_stE (j := 0) [] [[.int .u32 r2.N]] sz5 hz2.1.1 hI rfl hA rfl rfl rfl (by omega) fun w hI => ?_
    refine o_nil ?_
    refine hN9 _ _ ?_
    refine w_seq fun _ hN10 => ?_
    refine w_reg ?_
    refine stp hA (r_ldA (j := 1) [] [av .u8 32 r2.Tx, [.int .u32 r2.N]] [] Try.underlying57 rfl sz57 rfl hI rfl hA rfl rfl) rfl fun a hA => 
      o_new [av .u8 32 (List.replicate 32 0), [.int .u32 0]] zr57 hI hA rfl fun g3 a w hA hI hg3 => 
      o_st (j := 0) [] [av .u8 32 (List.replicate 32 0), [.int .u32 0]] [av .u8 32 r2.Tx, [.int .u32 r2.N]] [] sz57 rfl rfl (fl_cons (one_av _ _ _) (fl_cons (one_one rfl) fl_nil)) hI rfl hA rfl rfl rfl rfl fun w hI => ?_
    refine o_nil ?_
    refine hN10 _ _ ?_
    refine w_seq fun _ hN11 => ?_
    refine w_reg ?_
    refine stp hA (r_fd (k := 32) Try.underlying57 rfl sz25 hA rfl rfl) rfl fun a hA => 
      stp hA (r_ld1 (j := 0) [av .u8 32 r2.Tx] [] Try.underlying25 rfl hI rfl hA rfl rfl) rfl fun a hA => 
      stp hA (r_mv hA rfl) rfl fun a hA => 
      stp hA (r_xor hA rfl rfl) rfl fun a hA => 
      stp hA (r_fd (k := 32) Try.underlying57 rfl sz25 hA rfl rfl) rfl fun a hA => 
      o_st (j := 0) [av .u8 32 r2.Tx] [[.int .u32 r2.N]] [[.int .u32 (bXor .u32 r2.N x2)]] [] sz25 rfl rfl (fl_cons (one_one rfl) fl_nil) hI rfl hA rfl rfl rfl rfl fun w hI => ?_
    refine o_nil ?_
    refine hN11 _ _ ?_
    obtain ⟨c1, hz4, Hk1⟩ := bB H
    refine w_cut (fun a w => Fr a 78 [(0, .int .i64 r3), (1, .int .u8 x1), (2, .int .u32 x2), (6, .bool c1), (7, .bool r1), (8, .pointer (some ⟨g1, 0, none⟩)), (9, .pointer (some ⟨g2, 0, none⟩)), (10, .pointer (some ⟨g3, 0, none⟩)), (13, .bool (!r1))] ∧ Iv w0 [] μ μ [cel g3 [av .u8 32 r2.Tx, [.int .u32 (bXor .u32 r2.N x2)]] 57, cel g2 [av .u8 32 (r2.Tx.set r3.toNat (bXor .u8 (r2.Tx.getD r3.toNat 0) x1)), [.int .u32 r2.N]] 57, cel g1 [av .u8 32 r2.Tx, [.int .u32 r2.N]] 57] w) ?_ ?_
    · have H := bI hz4
      refine w_any [] mo hI fun w hI => ?_
      refine g_easy (i := 0) hA rfl rfl (by kernel_rfl) (.inr hI) (fun _ => r_mv hA rfl) rfl fun a hA => ?_
      refine g_easy (i := 1) hA rfl rfl (by kernel_rfl) (.inr hI) (fun _ => r_mv hA rfl) rfl fun a hA => ?_
      rcases Bool.eq_false_or_eq_true r1 with hc2 | hc2
      · have hc20 := hc2; have H := bT H hc2
        refine g_take (i := 2) hA rfl (wanted_yes hA rfl rfl hc20) (by kernel_rfl) hI (fun w hI => r_ldA (j := 2) [] [av .u8 32 r2.Tx, [.int .u32 r2.N]] [] Try.underlying57 rfl sz57 rfl hI rfl hA rfl rfl) rfl fun a hA => ?_
        refine g_forced (i := 3) rfl (by kernel_rfl) ?_
        refine o_yes hA rfl rfl hc20 <| ?_
        obtain ⟨r4, hr4, H⟩ := bB H
        refine o_callp (u := .bool r4) cf57 hA rfl hI (spend_IsNull.c μ _ hI.agr r2 ⟨hz2.1, hz2.2⟩ r4 hr4) rfl fun a w hz5 hI hA => ?_
        refine o_nil ?_
        refine ⟨(.inr hI), ?_⟩
        refine g_easy (i := 4) hA rfl rfl (by kernel_rfl) (.inr hI) (fun _ => r_pick_t hA rfl hc20 rfl) rfl fun a hA => ?_
        refine g_easy (i := 5) hA rfl rfl (by kernel_rfl) (.inr hI) (fun _ => r_mv hA rfl) rfl fun a hA => ?_
        rcases Bool.eq_false_or_eq_true r4 with hc3 | hc3
        · have hc30 := hc3; have H := bT H hc3
          refine g_take (i := 6) hA rfl (wanted_yes hA rfl rfl hc30) (by kernel_rfl) hI (fun w hI => r_ldA (j := 1) [] [av .u8 32 (r2.Tx.set r3.toNat (bXor .u8 (r2.Tx.getD r3.toNat 0) x1)), [.int .u32 r2.N]] [] Try.underlying57 rfl sz57 rfl hI rfl hA rfl rfl) rfl fun a hA => ?_
          refine g_easy (i := 8) hA rfl (wanted_yes hA rfl rfl hc30) (by kernel_rfl) (.inr hI) (fun _ => r_mv hA rfl) rfl fun a hA => ?_
          refine g_easy (i := 9) hA rfl (wanted_yes hA rfl rfl hc30) (by kernel_rfl) (.inr hI) (fun _ => r_eql hA rfl rfl) rfl fun a hA => ?_
          refine g_forced (i := 7) rfl (by kernel_rfl) ?_
          refine o_yes hA rfl rfl hc30 <| ?_
          obtain ⟨r5, hr5, H⟩ := bB H
          refine o_callp (u := .bool r5) cf57 hA rfl hI (spend_IsNull.c μ _ hI.agr (⟨r2.Tx.set r3.toNat (bXor .u8 (r2.Tx.getD r3.toNat 0) x1), r2.N⟩ : Point) ⟨(arr_set hz2.1 _ (wrap_in _ _)), hz2.2⟩ r5 hr5) rfl fun a w hz6 hI hA => ?_
          refine o_nil ?_
          refine ⟨(.inr hI), ?_⟩
          refine g_easy (i := 10) hA rfl (wanted_yes hA rfl rfl hc30) (by kernel_rfl) (.inr hI) (fun _ => r_eqlb Try.underlying4 hA rfl rfl) rfl fun a hA => ?_
          refine g_easy (i := 11) hA rfl rfl (by kernel_rfl) (.inr hI) (fun _ => r_pick_t hA rfl hc30 rfl) rfl fun a hA => ?_
          refine g_easy (i := 12) hA rfl rfl (by kernel_rfl) (.inr hI) (fun _ => r_mv hA rfl) rfl fun a hA => ?_
          rcases Bool.eq_false_or_eq_true (decide (r5 = (decide (x1 = 0)))) with hc4 | hc4
          · have hc40 := hc4; have hc4 := of_decide_eq_true hc4; have H := bT H hc4
            refine g_take (i := 13) hA rfl (wanted_yes hA rfl rfl hc40) (by kernel_rfl) hI (fun w hI => r_ldA (j := 0) [] [av .u8 32 r2.Tx, [.int .u32 (bXor .u32 r2.N x2)]] [] Try.underlying57 rfl sz57 rfl hI rfl hA rfl rfl) rfl fun a hA => ?_
            refine g_easy (i := 15) hA rfl (wanted_yes hA rfl rfl hc40) (by kernel_rfl) (.inr hI) (fun _ => r_mv hA rfl) rfl fun a hA => ?_
            refine g_easy (i := 16) hA rfl (wanted_yes hA rfl rfl hc40) (by kernel_rfl) (.inr hI) (fun _ => r_eql hA rfl rfl) rfl fun a hA => ?_
            refine g_forced (i := 14) rfl (by kernel_rfl) ?_
            refine o_yes hA rfl rfl hc40 <| ?_
            obtain ⟨r6, hr6, H⟩ := bB H
            refine o_callp (u := .bool r6) cf57 hA rfl hI (spend_IsNull.c μ _ hI.agr (⟨r2.Tx, bXor .u32 r2.N x2⟩ : Point) ⟨hz2.1, (wrap_in _ _)⟩ r6 hr6) rfl fun a w hz7 hI hA => ?_
            refine o_nil ?_
            refine ⟨(.inr hI), ?_⟩
            refine g_easy (i := 17) hA rfl (wanted_yes hA rfl rfl hc40) (by kernel_rfl) (.inr hI) (fun _ => r_eqlb Try.underlying4 hA rfl rfl) rfl fun a hA => ?_
            refine g_easy (i := 18) hA rfl rfl (by kernel_rfl) (.inr hI) (fun _ => r_pick_t hA rfl hc40 rfl) rfl fun a hA => ?_
            refine g_easy (i := 19) hA rfl rfl (by kernel_rfl) (.inr hI) (fun _ => r_mv hA rfl) rfl fun a hA => ?_
            rcases Bool.eq_false_or_eq_true (decide (r6 = (decide (x2 = 0)))) with hc5 | hc5
            · have hc50 := hc5; have hc5 := of_decide_eq_true hc5; have H := bT H hc5
              refine g_take (i := 20) hA rfl (wanted_yes hA rfl rfl hc50) (by kernel_rfl) hI (fun w hI => r_ldA (j := 0) [] [av .u8 32 r2.Tx, [.int .u32 (bXor .u32 r2.N x2)]] [] Try.underlying57 rfl sz57 rfl hI rfl hA rfl rfl) rfl fun a hA => ?_
              refine g_take (i := 21) hA rfl (wanted_yes hA rfl rfl hc50) (by kernel_rfl) hI (fun w hI => r_ldA (j := 2) [] [av .u8 32 r2.Tx, [.int .u32 r2.N]] [] Try.underlying57 rfl sz57 rfl hI rfl hA rfl rfl) rfl fun a hA => ?_
              refine g_easy (i := 23) hA rfl (wanted_yes hA rfl rfl hc50) (by kernel_rfl) (.inr hI) (fun _ => r_mv hA rfl) rfl fun a hA => ?_
              refine g_easy (i := 24) hA rfl (wanted_yes hA rfl rfl hc50) (by kernel_rfl) (.inr hI) (fun _ => r_neq hA rfl rfl) rfl fun a hA => ?_
              refine g_forced (i := 22) rfl (by kernel_rfl) ?_
              refine o_yes hA rfl rfl hc50 <| ?_
              obtain ⟨r7, hr7, H⟩ := bB H
              refine o_callp (u := .bool r7) cf61 hA rfl hI (spend_Less.c μ _ hI.agr (⟨r2.Tx, bXor .u32 r2.N x2⟩ : Point) ⟨hz2.1, (wrap_in _ _)⟩ r2 ⟨hz2.1, hz2.2⟩ r7 hr7) rfl fun a w hz8 hI hA => ?_
              refine o_nil ?_
              refine ⟨(.inr hI), ?_⟩
              refine g_easy (i := 25) hA rfl (wanted_yes hA rfl rfl hc50) (by kernel_rfl) (.inr hI) (fun _ => r_eqlb Try.underlying4 hA rfl rfl) rfl fun a hA => ?_
              refine g_easy (i := 26) hA rfl rfl (by kernel_rfl) (.inr hI) (fun _ => r_pick_t hA rfl hc50 rfl) rfl fun a hA => ?_
              refine g_easy (i := 27) hA rfl rfl (by kernel_rfl) (.inr hI) (fun _ => r_mv hA rfl) rfl fun a hA => ?_
              rcases Bool.eq_false_or_eq_true (decide (r7 = (decide (x2 ≠ 0)))) with hc6 | hc6
              · have hc60 := hc6; have hc6 := of_decide_eq_true hc6; have H := bT H hc6
                refine g_take (i := 28) hA rfl (wanted_yes hA rfl rfl hc60) (by kernel_rfl) hI (fun w hI => r_ldA (j := 2) [] [av .u8 32 r2.Tx, [.int .u32 r2.N]] [] Try.underlying57 rfl sz57 rfl hI rfl hA rfl rfl) rfl fun a hA => ?_
                refine g_take (i := 29) hA rfl (wanted_yes hA rfl rfl hc60) (by kernel_rfl) hI (fun w hI => r_ldA (j := 1) [] [av .u8 32 (r2.Tx.set r3.toNat (bXor .u8 (r2.Tx.getD r3.toNat 0) x1)), [.int .u32 r2.N]] [] Try.underlying57 rfl sz57 rfl hI rfl hA rfl rfl) rfl fun a hA => ?_
                refine g_easy (i := 31) hA rfl (wanted_yes hA rfl rfl hc60) (by kernel_rfl) (.inr hI) (fun _ => r_mv hA rfl) rfl fun a hA => ?_
                refine g_easy (i := 32) hA rfl (wanted_yes hA rfl rfl hc60) (by kernel_rfl) (.inr hI) (fun _ => r_neq hA rfl rfl) rfl fun a hA => ?_
                refine g_forced (i := 30) rfl (by kernel_rfl) ?_
                refine o_yes hA rfl rfl hc60 <| ?_
                obtain ⟨r8, hr8, H⟩ := bB H
                refine o_callp (u := .bool r8) cf61 hA rfl hI (spend_Less.c μ _ hI.agr r2 ⟨hz2.1, hz2.2⟩ (⟨r2.Tx.set r3.toNat (bXor .u8 (r2.Tx.getD r3.toNat 0) x1), r2.N⟩ : Point) ⟨(arr_set hz2.1 _ (wrap_in _ _)), hz2.2⟩ r8 hr8) rfl fun a w hz9 hI hA => ?_
                refine o_nil ?_
                refine ⟨(.inr hI), ?_⟩
                refine g_easy (i := 33) hA rfl (wanted_yes hA rfl rfl hc60) (by kernel_rfl) (.inr hI) (fun _ => r_eqlb Try.underlying4 hA rfl rfl) rfl fun a hA => ?_
                refine g_easy (i := 34) hA rfl rfl (by kernel_rfl) (.inr hI) (fun _ => r_pick_t hA rfl hc60 rfl) rfl fun a hA => ?_
                refine g_easy (i := 35) hA rfl rfl (by kernel_rfl) (.inr hI) (fun _ => r_mv hA rfl) rfl fun a hA => ?_
                rcases Bool.eq_false_or_eq_true (decide (r8 = (decide (x1 ≠ 0)))) with hc7 | hc7
                · have hc70 := hc7; have hc7 := of_decide_eq_true hc7; have H := bT H hc7
                  refine g_forced (i := 36) rfl (by kernel_rfl) ?_
                  refine o_yes hA rfl rfl hc70 <| 
                    stp hA (r_bldS (cs := [av .u8 32 (List.replicate 32 0), [.int .u32 0]].flatten.toArray) (pl := [(0, 32), (32, 1)]) zr57 Try.underlying57 ⟨rfl, sz33, rfl, sz25, trivial⟩ hA rfl (by kernel_rfl)) rfl fun a hA => ?_
                  refine o_nil ?_
                  refine ⟨(.inr hI), ?_⟩
                  refine g_forced (i := 37) rfl (by kernel_rfl) ?_
                  refine o_yes hA rfl rfl hc70 <| ?_
                  obtain ⟨r9, hr9, H⟩ := bB H
                  refine o_callp (u := .bool r9) cf57 hA rfl hI (spend_IsNull.c μ _ hI.agr (⟨(List.replicate 32 0), 0⟩ : Point) ⟨(arr_zero _ _), (in_lit .u32 0 rfl)⟩ r9 hr9) rfl fun a w hz10 hI hA => ?_
                  refine o_nil ?_
                  refine ⟨(.inr hI), ?_⟩
                  refine g_easy (i := 38) hA rfl (wanted_yes hA rfl rfl hc70) (by kernel_rfl) (.inr hI) (fun _ => r_not hA rfl) rfl fun a hA => ?_
                  refine g_easy (i := 39) hA rfl rfl (by kernel_rfl) (.inr hI) (fun _ => r_pick_t hA rfl hc70 rfl) rfl fun a hA => ?_
                  refine g_easy (i := 40) hA rfl rfl (by kernel_rfl) (.inr hI) (fun _ => r_mv hA rfl) rfl fun a hA => ?_
                  rcases Bool.eq_false_or_eq_true (!r9) with hc8 | hc8
                  · have hc80 := hc8; have hc8 := nT hc8; have hc8 := ft hc8; have H := bF H hc8
                    refine g_take (i := 41) hA rfl (wanted_yes hA rfl rfl hc80) (by kernel_rfl) hI (fun w hI => r_ldA (j := 2) [] [av .u8 32 r2.Tx, [.int .u32 r2.N]] [] Try.underlying57 rfl sz57 rfl hI rfl hA rfl rfl) rfl fun a hA => ?_
                    refine g_forced (i := 42) rfl (by kernel_rfl) ?_
                    refine o_yes hA rfl rfl hc80 <| ?_
                    obtain ⟨r10, hr10, H⟩ := bB H
                    refine o_callp (u := .agg [av .u8 32 r10.Tx, [.int .u32 r10.N]].flatten.toArray) cf59 hA rfl hI (sargassoref1_Null.c μ _ hI.agr  r10 hr10) rfl fun a w hz11 hI hA => ?_
                    refine o_nil ?_
                    refine ⟨(.inr hI), ?_⟩
                    refine g_forced (i := 43) rfl (by kernel_rfl) ?_
                    refine o_yes hA rfl rfl hc80 <| ?_
                    obtain ⟨r11, hr11, H⟩ := bB H
                    refine o_callp (u := .bool r11) cf58 hA rfl hI (sargassoref_SamePoint.c μ _ hI.agr r2 ⟨hz2.1, hz2.2⟩ r10 ⟨hz11.1, hz11.2⟩ r11 hr11) rfl fun a w hz12 hI hA => ?_
                    refine o_nil ?_
                    refine ⟨(.inr hI), ?_⟩
                    refine g_easy (i := 44) hA rfl rfl (by kernel_rfl) (.inr hI) (fun _ => r_pick_t hA rfl hc80 rfl) rfl fun a hA => ?_
                    refine g_easy (i := 45) hA rfl rfl (by kernel_rfl) (.inr hI) (fun _ => r_as hA rfl) rfl fun a hA => ?_
                    refine g_nil (by kernel_rfl) ?_
                    cases Option.some.inj (bS H)
                    exact ⟨hA.sub ⟨rfl, rfl, rfl, rfl, rfl, rfl, rfl, rfl, rfl, trivial⟩, hI⟩
                  · have hc80 := hc8; have hc8 := nF hc8; have H := bT H hc8
                    refine g_skip (i := 41) hA rfl (wanted_no hA rfl rfl (by rw [hc80]; simp [vb])) (by kernel_rfl) (.inr hI) rfl fun a hA => ?_
                    refine g_skip (i := 42) hA rfl (wanted_no hA rfl rfl (by rw [hc80]; simp [vb])) (by kernel_rfl) (.inr hI) rfl fun a hA => ?_
                    refine g_skip (i := 43) hA rfl (wanted_no hA rfl rfl (by rw [hc80]; simp [vb])) (by kernel_rfl) (.inr hI) rfl fun a hA => ?_
                    refine g_easy (i := 44) hA rfl rfl (by kernel_rfl) (.inr hI) (fun _ => r_pick_f hA rfl hc80 rfl) rfl fun a hA => ?_
                    refine g_easy (i := 45) hA rfl rfl (by kernel_rfl) (.inr hI) (fun _ => r_as hA rfl) rfl fun a hA => ?_
                    refine g_nil (by kernel_rfl) ?_
                    cases Option.some.inj (bS H)
                    exact ⟨hA.sub ⟨rfl, rfl, rfl, rfl, rfl, rfl, rfl, rfl, rfl, trivial⟩, hI⟩
                · have hc70 := hc7; have hc7 := of_decide_eq_false hc7; have H := bF H hc7
                  refine g_skip (i := 36) hA rfl (wanted_no hA rfl rfl (by rw [hc70]; simp [vb])) (by kernel_rfl) (.inr hI) rfl fun a hA => ?_
                  refine g_skip (i := 37) hA rfl (wanted_no hA rfl rfl (by rw [hc70]; simp [vb])) (by kernel_rfl) (.inr hI) rfl fun a hA => ?_
                  refine g_skip (i := 38) hA rfl (wanted_no hA rfl rfl (by rw [hc70]; simp [vb])) (by kernel_rfl) (.inr hI) rfl fun a hA => ?_
                  refine g_easy (i := 39) hA rfl rfl (by kernel_rfl) (.inr hI) (fun _ => r_pick_f hA rfl hc70 rfl) rfl fun a hA => ?_
                  refine g_easy (i := 40) hA rfl rfl (by kernel_rfl) (.inr hI) (fun _ => r_mv hA rfl) rfl fun a hA => ?_
                  refine g_skip (i := 41) hA rfl (wanted_no hA rfl rfl (by simp [vb])) (by kernel_rfl) (.inr hI) rfl fun a hA => ?_
                  refine g_skip (i := 42) hA rfl (wanted_no hA rfl rfl (by simp [vb])) (by kernel_rfl) (.inr hI) rfl fun a hA => ?_
                  refine g_skip (i := 43) hA rfl (wanted_no hA rfl rfl (by simp [vb])) (by kernel_rfl) (.inr hI) rfl fun a hA => ?_
                  refine g_easy (i := 44) hA rfl rfl (by kernel_rfl) (.inr hI) (fun _ => r_pick_f hA rfl rfl rfl) rfl fun a hA => ?_
                  refine g_easy (i := 45) hA rfl rfl (by kernel_rfl) (.inr hI) (fun _ => r_as hA rfl) rfl fun a hA => ?_
                  refine g_nil (by kernel_rfl) ?_
                  cases Option.some.inj (bS H)
                  exact ⟨hA.sub ⟨rfl, rfl, rfl, rfl, rfl, rfl, rfl, rfl, rfl, trivial⟩, hI⟩
              · have hc60 := hc6; have hc6 := of_decide_eq_false hc6; have H := bF H hc6
                refine g_skip (i := 28) hA rfl (wanted_no hA rfl rfl (by rw [hc60]; simp [vb])) (by kernel_rfl) (.inr hI) rfl fun a hA => ?_
                refine g_skip (i := 29) hA rfl (wanted_no hA rfl rfl (by rw [hc60]; simp [vb])) (by kernel_rfl) (.inr hI) rfl fun a hA => ?_
                refine g_skip (i := 31) hA rfl (wanted_no hA rfl rfl (by rw [hc60]; simp [vb])) (by kernel_rfl) (.inr hI) rfl fun a hA => ?_
                refine g_skip (i := 32) hA rfl (wanted_no hA rfl rfl (by rw [hc60]; simp [vb])) (by kernel_rfl) (.inr hI) rfl fun a hA => ?_
                refine g_skip (i := 30) hA rfl (wanted_no hA rfl rfl (by rw [hc60]; simp [vb])) (by kernel_rfl) (.inr hI) rfl fun a hA => ?_
                refine g_skip (i := 33) hA rfl (wanted_no hA rfl rfl (by rw [hc60]; simp [vb])) (by kernel_rfl) (.inr hI) rfl fun a hA => ?_
                refine g_easy (i := 34) hA rfl rfl (by kernel_rfl) (.inr hI) (fun _ => r_pick_f hA rfl hc60 rfl) rfl fun a hA => ?_
                refine g_easy (i := 35) hA rfl rfl (by kernel_rfl) (.inr hI) (fun _ => r_mv hA rfl) rfl fun a hA => ?_
                refine g_skip (i := 36) hA rfl (wanted_no hA rfl rfl (by simp [vb])) (by kernel_rfl) (.inr hI) rfl fun a hA => ?_
                refine g_skip (i := 37) hA rfl (wanted_no hA rfl rfl (by simp [vb])) (by kernel_rfl) (.inr hI) rfl fun a hA => ?_
                refine g_skip (i := 38) hA rfl (wanted_no hA rfl rfl (by simp [vb])) (by kernel_rfl) (.inr hI) rfl fun a hA => ?_
                refine g_easy (i := 39) hA rfl rfl (by kernel_rfl) (.inr hI) (fun _ => r_pick_f hA rfl rfl rfl) rfl fun a hA => ?_
                refine g_easy (i := 40) hA rfl rfl (by kernel_rfl) (.inr hI) (fun _ => r_mv hA rfl) rfl fun a hA => ?_
                refine g_skip (i := 41) hA rfl (wanted_no hA rfl rfl (by simp [vb])) (by kernel_rfl) (.inr hI) rfl fun a hA => ?_
                refine g_skip (i := 42) hA rfl (wanted_no hA rfl rfl (by simp [vb])) (by kernel_rfl) (.inr hI) rfl fun a hA => ?_
                refine g_skip (i := 43) hA rfl (wanted_no hA rfl rfl (by simp [vb])) (by kernel_rfl) (.inr hI) rfl fun a hA => ?_
                refine g_easy (i := 44) hA rfl rfl (by kernel_rfl) (.inr hI) (fun _ => r_pick_f hA rfl rfl rfl) rfl fun a hA => ?_
                refine g_easy (i := 45) hA rfl rfl (by kernel_rfl) (.inr hI) (fun _ => r_as hA rfl) rfl fun a hA => ?_
                refine g_nil (by kernel_rfl) ?_
                cases Option.some.inj (bS H)
                exact ⟨hA.sub ⟨rfl, rfl, rfl, rfl, rfl, rfl, rfl, rfl, rfl, trivial⟩, hI⟩
            · have hc50 := hc5; have hc5 := of_decide_eq_false hc5; have H := bF H hc5
              refine g_skip (i := 20) hA rfl (wanted_no hA rfl rfl (by rw [hc50]; simp [vb])) (by kernel_rfl) (.inr hI) rfl fun a hA => ?_
              refine g_skip (i := 21) hA rfl (wanted_no hA rfl rfl (by rw [hc50]; simp [vb])) (by kernel_rfl) (.inr hI) rfl fun a hA => ?_
              refine g_skip (i := 23) hA rfl (wanted_no hA rfl rfl (by rw [hc50]; simp [vb])) (by kernel_rfl) (.inr hI) rfl fun a hA => ?_
              refine g_skip (i := 24) hA rfl (wanted_no hA rfl rfl (by rw [hc50]; simp [vb])) (by kernel_rfl) (.inr hI) rfl fun a hA => ?_
              refine g_skip (i := 22) hA rfl (wanted_no hA rfl rfl (by rw [hc50]; simp [vb])) (by kernel_rfl) (.inr hI) rfl fun a hA => ?_
              refine g_skip (i := 25) hA rfl (wanted_no hA rfl rfl (by rw [hc50]; simp [vb])) (by kernel_rfl) (.inr hI) rfl fun a hA => ?_
              refine g_easy (i := 26) hA rfl rfl (by kernel_rfl) (.inr hI) (fun _ => r_pick_f hA rfl hc50 rfl) rfl fun a hA => ?_
              refine g_easy (i := 27) hA rfl rfl (by kernel_rfl) (.inr hI) (fun _ => r_mv hA rfl) rfl fun a hA => ?_
              refine g_skip (i := 28) hA rfl (wanted_no hA rfl rfl (by simp [vb])) (by kernel_rfl) (.inr hI) rfl fun a hA => ?_
              refine g_skip (i := 29) hA rfl (wanted_no hA rfl rfl (by simp [vb])) (by kernel_rfl) (.inr hI) rfl fun a hA => ?_
              refine g_skip (i := 31) hA rfl (wanted_no hA rfl rfl (by simp [vb])) (by kernel_rfl) (.inr hI) rfl fun a hA => ?_
              refine g_skip (i := 32) hA rfl (wanted_no hA rfl rfl (by simp [vb])) (by kernel_rfl) (.inr hI) rfl fun a hA => ?_
              refine g_skip (i := 30) hA rfl (wanted_no hA rfl rfl (by simp [vb])) (by kernel_rfl) (.inr hI) rfl fun a hA => ?_
              refine g_skip (i := 33) hA rfl (wanted_no hA rfl rfl (by simp [vb])) (by kernel_rfl) (.inr hI) rfl fun a hA => ?_
              refine g_easy (i := 34) hA rfl rfl (by kernel_rfl) (.inr hI) (fun _ => r_pick_f hA rfl rfl rfl) rfl fun a hA => ?_
              refine g_easy (i := 35) hA rfl rfl (by kernel_rfl) (.inr hI) (fun _ => r_mv hA rfl) rfl fun a hA => ?_
              refine g_skip (i := 36) hA rfl (wanted_no hA rfl rfl (by simp [vb])) (by kernel_rfl) (.inr hI) rfl fun a hA => ?_
              refine g_skip (i := 37) hA rfl (wanted_no hA rfl rfl (by simp [vb])) (by kernel_rfl) (.inr hI) rfl fun a hA => ?_
              refine g_skip (i := 38) hA rfl (wanted_no hA rfl rfl (by simp [vb])) (by kernel_rfl) (.inr hI) rfl fun a hA => ?_
              refine g_easy (i := 39) hA rfl rfl (by kernel_rfl) (.inr hI) (fun _ => r_pick_f hA rfl rfl rfl) rfl fun a hA => ?_
              refine g_easy (i := 40) hA rfl rfl (by kernel_rfl) (.inr hI) (fun _ => r_mv hA rfl) rfl fun a hA => ?_
              refine g_skip (i := 41) hA rfl (wanted_no hA rfl rfl (by simp [vb])) (by kernel_rfl) (.inr hI) rfl fun a hA => ?_
              refine g_skip (i := 42) hA rfl (wanted_no hA rfl rfl (by simp [vb])) (by kernel_rfl) (.inr hI) rfl fun a hA => ?_
              refine g_skip (i := 43) hA rfl (wanted_no hA rfl rfl (by simp [vb])) (by kernel_rfl) (.inr hI) rfl fun a hA => ?_
              refine g_easy (i := 44) hA rfl rfl (by kernel_rfl) (.inr hI) (fun _ => r_pick_f hA rfl rfl rfl) rfl fun a hA => ?_
              refine g_easy (i := 45) hA rfl rfl (by kernel_rfl) (.inr hI) (fun _ => r_as hA rfl) rfl fun a hA => ?_
              refine g_nil (by kernel_rfl) ?_
              cases Option.some.inj (bS H)
              exact ⟨hA.sub ⟨rfl, rfl, rfl, rfl, rfl, rfl, rfl, rfl, rfl, trivial⟩, hI⟩
          · have hc40 := hc4; have hc4 := of_decide_eq_false hc4; have H := bF H hc4
            refine g_skip (i := 13) hA rfl (wanted_no hA rfl rfl (by rw [hc40]; simp [vb])) (by kernel_rfl) (.inr hI) rfl fun a hA => ?_
            refine g_skip (i := 15) hA rfl (wanted_no hA rfl rfl (by rw [hc40]; simp [vb])) (by kernel_rfl) (.inr hI) rfl fun a hA => ?_
            refine g_skip (i := 16) hA rfl (wanted_no hA rfl rfl (by rw [hc40]; simp [vb])) (by kernel_rfl) (.inr hI) rfl fun a hA => ?_
            refine g_skip (i := 14) hA rfl (wanted_no hA rfl rfl (by rw [hc40]; simp [vb])) (by kernel_rfl) (.inr hI) rfl fun a hA => ?_
            refine g_skip (i := 17) hA rfl (wanted_no hA rfl rfl (by rw [hc40]; simp [vb])) (by kernel_rfl) (.inr hI) rfl fun a hA => ?_
            refine g_easy (i := 18) hA rfl rfl (by kernel_rfl) (.inr hI) (fun _ => r_pick_f hA rfl hc40 rfl) rfl fun a hA => ?_
            refine g_easy (i := 19) hA rfl rfl (by kernel_rfl) (.inr hI) (fun _ => r_mv hA rfl) rfl fun a hA => ?_
            refine g_skip (i := 20) hA rfl (wanted_no hA rfl rfl (by simp [vb])) (by kernel_rfl) (.inr hI) rfl fun a hA => ?_
            refine g_skip (i := 21) hA rfl (wanted_no hA rfl rfl (by simp [vb])) (by kernel_rfl) (.inr hI) rfl fun a hA => ?_
            refine g_skip (i := 23) hA rfl (wanted_no hA rfl rfl (by simp [vb])) (by kernel_rfl) (.inr hI) rfl fun a hA => ?_
            refine g_skip (i := 24) hA rfl (wanted_no hA rfl rfl (by simp [vb])) (by kernel_rfl) (.inr hI) rfl fun a hA => ?_
            refine g_skip (i := 22) hA rfl (wanted_no hA rfl rfl (by simp [vb])) (by kernel_rfl) (.inr hI) rfl fun a hA => ?_
            refine g_skip (i := 25) hA rfl (wanted_no hA rfl rfl (by simp [vb])) (by kernel_rfl) (.inr hI) rfl fun a hA => ?_
            refine g_easy (i := 26) hA rfl rfl (by kernel_rfl) (.inr hI) (fun _ => r_pick_f hA rfl rfl rfl) rfl fun a hA => ?_
            refine g_easy (i := 27) hA rfl rfl (by kernel_rfl) (.inr hI) (fun _ => r_mv hA rfl) rfl fun a hA => ?_
            refine g_skip (i := 28) hA rfl (wanted_no hA rfl rfl (by simp [vb])) (by kernel_rfl) (.inr hI) rfl fun a hA => ?_
            refine g_skip (i := 29) hA rfl (wanted_no hA rfl rfl (by simp [vb])) (by kernel_rfl) (.inr hI) rfl fun a hA => ?_
            refine g_skip (i := 31) hA rfl (wanted_no hA rfl rfl (by simp [vb])) (by kernel_rfl) (.inr hI) rfl fun a hA => ?_
            refine g_skip (i := 32) hA rfl (wanted_no hA rfl rfl (by simp [vb])) (by kernel_rfl) (.inr hI) rfl fun a hA => ?_
            refine g_skip (i := 30) hA rfl (wanted_no hA rfl rfl (by simp [vb])) (by kernel_rfl) (.inr hI) rfl fun a hA => ?_
            refine g_skip (i := 33) hA rfl (wanted_no hA rfl rfl (by simp [vb])) (by kernel_rfl) (.inr hI) rfl fun a hA => ?_
            refine g_easy (i := 34) hA rfl rfl (by kernel_rfl) (.inr hI) (fun _ => r_pick_f hA rfl rfl rfl) rfl fun a hA => ?_
            refine g_easy (i := 35) hA rfl rfl (by kernel_rfl) (.inr hI) (fun _ => r_mv hA rfl) rfl fun a hA => ?_
            refine g_skip (i := 36) hA rfl (wanted_no hA rfl rfl (by simp [vb])) (by kernel_rfl) (.inr hI) rfl fun a hA => ?_
            refine g_skip (i := 37) hA rfl (wanted_no hA rfl rfl (by simp [vb])) (by kernel_rfl) (.inr hI) rfl fun a hA => ?_
            refine g_skip (i := 38) hA rfl (wanted_no hA rfl rfl (by simp [vb])) (by kernel_rfl) (.inr hI) rfl fun a hA => ?_
            refine g_easy (i := 39) hA rfl rfl (by kernel_rfl) (.inr hI) (fun _ => r_pick_f hA rfl rfl rfl) rfl fun a hA => ?_
            refine g_easy (i := 40) hA rfl rfl (by kernel_rfl) (.inr hI) (fun _ => r_mv hA rfl) rfl fun a hA => ?_
            refine g_skip (i := 41) hA rfl (wanted_no hA rfl rfl (by simp [vb])) (by kernel_rfl) (.inr hI) rfl fun a hA => ?_
            refine g_skip (i := 42) hA rfl (wanted_no hA rfl rfl (by simp [vb])) (by kernel_rfl) (.inr hI) rfl fun a hA => ?_
            refine g_skip (i := 43) hA rfl (wanted_no hA rfl rfl (by simp [vb])) (by kernel_rfl) (.inr hI) rfl fun a hA => ?_
            refine g_easy (i := 44) hA rfl rfl (by kernel_rfl) (.inr hI) (fun _ => r_pick_f hA rfl rfl rfl) rfl fun a hA => ?_
            refine g_easy (i := 45) hA rfl rfl (by kernel_rfl) (.inr hI) (fun _ => r_as hA rfl) rfl fun a hA => ?_
            refine g_nil (by kernel_rfl) ?_
            cases Option.some.inj (bS H)
            exact ⟨hA.sub ⟨rfl, rfl, rfl, rfl, rfl, rfl, rfl, rfl, rfl, trivial⟩, hI⟩
        · have hc30 := hc3; have hc3 := ft hc3; have H := bF H hc3
          refine g_skip (i := 6) hA rfl (wanted_no hA rfl rfl (by rw [hc30]; simp [vb])) (by kernel_rfl) (.inr hI) rfl fun a hA => ?_
          refine g_skip (i := 8) hA rfl (wanted_no hA rfl rfl (by rw [hc30]; simp [vb])) (by kernel_rfl) (.inr hI) rfl fun a hA => ?_
          refine g_skip (i := 9) hA rfl (wanted_no hA rfl rfl (by rw [hc30]; simp [vb])) (by kernel_rfl) (.inr hI) rfl fun a hA => ?_
          refine g_skip (i := 7) hA rfl (wanted_no hA rfl rfl (by rw [hc30]; simp [vb])) (by kernel_rfl) (.inr hI) rfl fun a hA => ?_
          refine g_skip (i := 10) hA rfl (wanted_no hA rfl rfl (by rw [hc30]; simp [vb])) (by kernel_rfl) (.inr hI) rfl fun a hA => ?_
          refine g_easy (i := 11) hA rfl rfl (by kernel_rfl) (.inr hI) (fun _ => r_pick_f hA rfl hc30 rfl) rfl fun a hA => ?_
          refine g_easy (i := 12) hA rfl rfl (by kernel_rfl) (.inr hI) (fun _ => r_mv hA rfl) rfl fun a hA => ?_
          refine g_skip (i := 13) hA rfl (wanted_no hA rfl rfl (by simp [vb])) (by kernel_rfl) (.inr hI) rfl fun a hA => ?_
          refine g_skip (i := 15) hA rfl (wanted_no hA rfl rfl (by simp [vb])) (by kernel_rfl) (.inr hI) rfl fun a hA => ?_
          refine g_skip (i := 16) hA rfl (wanted_no hA rfl rfl (by simp [vb])) (by kernel_rfl) (.inr hI) rfl fun a hA => ?_
          refine g_skip (i := 14) hA rfl (wanted_no hA rfl rfl (by simp [vb])) (by kernel_rfl) (.inr hI) rfl fun a hA => ?_
          refine g_skip (i := 17) hA rfl (wanted_no hA rfl rfl (by simp [vb])) (by kernel_rfl) (.inr hI) rfl fun a hA => ?_
          refine g_easy (i := 18) hA rfl rfl (by kernel_rfl) (.inr hI) (fun _ => r_pick_f hA rfl rfl rfl) rfl fun a hA => ?_
          refine g_easy (i := 19) hA rfl rfl (by kernel_rfl) (.inr hI) (fun _ => r_mv hA rfl) rfl fun a hA => ?_
          refine g_skip (i := 20) hA rfl (wanted_no hA rfl rfl (by simp [vb])) (by kernel_rfl) (.inr hI) rfl fun a hA => ?_
          refine g_skip (i := 21) hA rfl (wanted_no hA rfl rfl (by simp [vb])) (by kernel_rfl) (.inr hI) rfl fun a hA => ?_
          refine g_skip (i := 23) hA rfl (wanted_no hA rfl rfl (by simp [vb])) (by kernel_rfl) (.inr hI) rfl fun a hA => ?_
          refine g_skip (i := 24) hA rfl (wanted_no hA rfl rfl (by simp [vb])) (by kernel_rfl) (.inr hI) rfl fun a hA => ?_
          refine g_skip (i := 22) hA rfl (wanted_no hA rfl rfl (by simp [vb])) (by kernel_rfl) (.inr hI) rfl fun a hA => ?_
          refine g_skip (i := 25) hA rfl (wanted_no hA rfl rfl (by simp [vb])) (by kernel_rfl) (.inr hI) rfl fun a hA => ?_
          refine g_easy (i := 26) hA rfl rfl (by kernel_rfl) (.inr hI) (fun _ => r_pick_f hA rfl rfl rfl) rfl fun a hA => ?_
          refine g_easy (i := 27) hA rfl rfl (by kernel_rfl) (.inr hI) (fun _ => r_mv hA rfl) rfl fun a hA => ?_
          refine g_skip (i := 28) hA rfl (wanted_no hA rfl rfl (by simp [vb])) (by kernel_rfl) (.inr hI) rfl fun a hA => ?_
          refine g_skip (i := 29) hA rfl (wanted_no hA rfl rfl (by simp [vb])) (by kernel_rfl) (.inr hI) rfl fun a hA => ?_
          refine g_skip (i := 31) hA rfl (wanted_no hA rfl rfl (by simp [vb])) (by kernel_rfl) (.inr hI) rfl fun a hA => ?_
          refine g_skip (i := 32) hA rfl (wanted_no hA rfl rfl (by simp [vb])) (by kernel_rfl) (.inr hI) rfl fun a hA => ?_
          refine g_skip (i := 30) hA rfl (wanted_no hA rfl rfl (by simp [vb])) (by kernel_rfl) (.inr hI) rfl fun a hA => ?_
          refine g_skip (i := 33) hA rfl (wanted_no hA rfl rfl (by simp [vb])) (by kernel_rfl) (.inr hI) rfl fun a hA => ?_
          refine g_easy (i := 34) hA rfl rfl (by kernel_rfl) (.inr hI) (fun _ => r_pick_f hA rfl rfl rfl) rfl fun a hA => ?_
          refine g_easy (i := 35) hA rfl rfl (by kernel_rfl) (.inr hI) (fun _ => r_mv hA rfl) rfl fun a hA => ?_
          refine g_skip (i := 36) hA rfl (wanted_no hA rfl rfl (by simp [vb])) (by kernel_rfl) (.inr hI) rfl fun a hA => ?_
          refine g_skip (i := 37) hA rfl (wanted_no hA rfl rfl (by simp [vb])) (by kernel_rfl) (.inr hI) rfl fun a hA => ?_
          refine g_skip (i := 38) hA rfl (wanted_no hA rfl rfl (by simp [vb])) (by kernel_rfl) (.inr hI) rfl fun a hA => ?_
          refine g_easy (i := 39) hA rfl rfl (by kernel_rfl) (.inr hI) (fun _ => r_pick_f hA rfl rfl rfl) rfl fun a hA => ?_
          refine g_easy (i := 40) hA rfl rfl (by kernel_rfl) (.inr hI) (fun _ => r_mv hA rfl) rfl fun a hA => ?_
          refine g_skip (i := 41) hA rfl (wanted_no hA rfl rfl (by simp [vb])) (by kernel_rfl) (.inr hI) rfl fun a hA => ?_
          refine g_skip (i := 42) hA rfl (wanted_no hA rfl rfl (by simp [vb])) (by kernel_rfl) (.inr hI) rfl fun a hA => ?_
          refine g_skip (i := 43) hA rfl (wanted_no hA rfl rfl (by simp [vb])) (by kernel_rfl) (.inr hI) rfl fun a hA => ?_
          refine g_easy (i := 44) hA rfl rfl (by kernel_rfl) (.inr hI) (fun _ => r_pick_f hA rfl rfl rfl) rfl fun a hA => ?_
          refine g_easy (i := 45) hA rfl rfl (by kernel_rfl) (.inr hI) (fun _ => r_as hA rfl) rfl fun a hA => ?_
          refine g_nil (by kernel_rfl) ?_
          cases Option.some.inj (bS H)
          exact ⟨hA.sub ⟨rfl, rfl, rfl, rfl, rfl, rfl, rfl, rfl, rfl, trivial⟩, hI⟩
      · have hc20 := hc2; have hc2 := ft hc2; have H := bF H hc2
        refine g_skip (i := 2) hA rfl (wanted_no hA rfl rfl (by rw [hc20]; simp [vb])) (by kernel_rfl) (.inr hI) rfl fun a hA => ?_
        refine g_skip (i := 3) hA rfl (wanted_no hA rfl rfl (by rw [hc20]; simp [vb])) (by kernel_rfl) (.inr hI) rfl fun a hA => ?_
        refine g_easy (i := 4) hA rfl rfl (by kernel_rfl) (.inr hI) (fun _ => r_pick_f hA rfl hc20 rfl) rfl fun a hA => ?_
        refine g_easy (i := 5) hA rfl rfl (by kernel_rfl) (.inr hI) (fun _ => r_mv hA rfl) rfl fun a hA => ?_
        refine g_skip (i := 6) hA rfl (wanted_no hA rfl rfl (by simp [vb])) (by kernel_rfl) (.inr hI) rfl fun a hA => ?_
        refine g_skip (i := 8) hA rfl (wanted_no hA rfl rfl (by simp [vb])) (by kernel_rfl) (.inr hI) rfl fun a hA => ?_
        refine g_skip (i := 9) hA rfl (wanted_no hA rfl rfl (by simp [vb])) (by kernel_rfl) (.inr hI) rfl fun a hA => ?_
        refine g_skip (i := 7) hA rfl (wanted_no hA rfl rfl (by simp [vb])) (by kernel_rfl) (.inr hI) rfl fun a hA => ?_
        refine g_skip (i := 10) hA rfl (wanted_no hA rfl rfl (by simp [vb])) (by kernel_rfl) (.inr hI) rfl fun a hA => ?_
        refine g_easy (i := 11) hA rfl rfl (by kernel_rfl) (.inr hI) (fun _ => r_pick_f hA rfl rfl rfl) rfl fun a hA => ?_
        refine g_easy (i := 12) hA rfl rfl (by kernel_rfl) (.inr hI) (fun _ => r_mv hA rfl) rfl fun a hA => ?_
        refine g_skip (i := 13) hA rfl (wanted_no hA rfl rfl (by simp [vb])) (by kernel_rfl) (.inr hI) rfl fun a hA => ?_
        refine g_skip (i := 15) hA rfl (wanted_no hA rfl rfl (by simp [vb])) (by kernel_rfl) (.inr hI) rfl fun a hA => ?_
        refine g_skip (i := 16) hA rfl (wanted_no hA rfl rfl (by simp [vb])) (by kernel_rfl) (.inr hI) rfl fun a hA => ?_
        refine g_skip (i := 14) hA rfl (wanted_no hA rfl rfl (by simp [vb])) (by kernel_rfl) (.inr hI) rfl fun a hA => ?_
        refine g_skip (i := 17) hA rfl (wanted_no hA rfl rfl (by simp [vb])) (by kernel_rfl) (.inr hI) rfl fun a hA => ?_
        refine g_easy (i := 18) hA rfl rfl (by kernel_rfl) (.inr hI) (fun _ => r_pick_f hA rfl rfl rfl) rfl fun a hA => ?_
        refine g_easy (i := 19) hA rfl rfl (by kernel_rfl) (.inr hI) (fun _ => r_mv hA rfl) rfl fun a hA => ?_
        refine g_skip (i := 20) hA rfl (wanted_no hA rfl rfl (by simp [vb])) (by kernel_rfl) (.inr hI) rfl fun a hA => ?_
        refine g_skip (i := 21) hA rfl (wanted_no hA rfl rfl (by simp [vb])) (by kernel_rfl) (.inr hI) rfl fun a hA => ?_
        refine g_skip (i := 23) hA rfl (wanted_no hA rfl rfl (by simp [vb])) (by kernel_rfl) (.inr hI) rfl fun a hA => ?_
        refine g_skip (i := 24) hA rfl (wanted_no hA rfl rfl (by simp [vb])) (by kernel_rfl) (.inr hI) rfl fun a hA => ?_
        refine g_skip (i := 22) hA rfl (wanted_no hA rfl rfl (by simp [vb])) (by kernel_rfl) (.inr hI) rfl fun a hA => ?_
        refine g_skip (i := 25) hA rfl (wanted_no hA rfl rfl (by simp [vb])) (by kernel_rfl) (.inr hI) rfl fun a hA => ?_
        refine g_easy (i := 26) hA rfl rfl (by kernel_rfl) (.inr hI) (fun _ => r_pick_f hA rfl rfl rfl) rfl fun a hA => ?_
        refine g_easy (i := 27) hA rfl rfl (by kernel_rfl) (.inr hI) (fun _ => r_mv hA rfl) rfl fun a hA => ?_
        refine g_skip (i := 28) hA rfl (wanted_no hA rfl rfl (by simp [vb])) (by kernel_rfl) (.inr hI) rfl fun a hA => ?_
        refine g_skip (i := 29) hA rfl (wanted_no hA rfl rfl (by simp [vb])) (by kernel_rfl) (.inr hI) rfl fun a hA => ?_
        refine g_skip (i := 31) hA rfl (wanted_no hA rfl rfl (by simp [vb])) (by kernel_rfl) (.inr hI) rfl fun a hA => ?_
        refine g_skip (i := 32) hA rfl (wanted_no hA rfl rfl (by simp [vb])) (by kernel_rfl) (.inr hI) rfl fun a hA => ?_
        refine g_skip (i := 30) hA rfl (wanted_no hA rfl rfl (by simp [vb])) (by kernel_rfl) (.inr hI) rfl fun a hA => ?_
        refine g_skip (i := 33) hA rfl (wanted_no hA rfl rfl (by simp [vb])) (by kernel_rfl) (.inr hI) rfl fun a hA => ?_
        refine g_easy (i := 34) hA rfl rfl (by kernel_rfl) (.inr hI) (fun _ => r_pick_f hA rfl rfl rfl) rfl fun a hA => ?_
        refine g_easy (i := 35) hA rfl rfl (by kernel_rfl) (.inr hI) (fun _ => r_mv hA rfl) rfl fun a hA => ?_
        refine g_skip (i := 36) hA rfl (wanted_no hA rfl rfl (by simp [vb])) (by kernel_rfl) (.inr hI) rfl fun a hA => ?_
        refine g_skip (i := 37) hA rfl (wanted_no hA rfl rfl (by simp [vb])) (by kernel_rfl) (.inr hI) rfl fun a hA => ?_
        refine g_skip (i := 38) hA rfl (wanted_no hA rfl rfl (by simp [vb])) (by kernel_rfl) (.inr hI) rfl fun a hA => ?_
        refine g_easy (i := 39) hA rfl rfl (by kernel_rfl) (.inr hI) (fun _ => r_pick_f hA rfl rfl rfl) rfl fun a hA => ?_
        refine g_easy (i := 40) hA rfl rfl (by kernel_rfl) (.inr hI) (fun _ => r_mv hA rfl) rfl fun a hA => ?_
        refine g_skip (i := 41) hA rfl (wanted_no hA rfl rfl (by simp [vb])) (by kernel_rfl) (.inr hI) rfl fun a hA => ?_
        refine g_skip (i := 42) hA rfl (wanted_no hA rfl rfl (by simp [vb])) (by kernel_rfl) (.inr hI) rfl fun a hA => ?_
        refine g_skip (i := 43) hA rfl (wanted_no hA rfl rfl (by simp [vb])) (by kernel_rfl) (.inr hI) rfl fun a hA => ?_
        refine g_easy (i := 44) hA rfl rfl (by kernel_rfl) (.inr hI) (fun _ => r_pick_f hA rfl rfl rfl) rfl fun a hA => ?_
        refine g_easy (i := 45) hA rfl rfl (by kernel_rfl) (.inr hI) (fun _ => r_as hA rfl) rfl fun a hA => ?_
        refine g_nil (by kernel_rfl) ?_
        cases Option.some.inj (bS H)
        exact ⟨hA.sub ⟨rfl, rfl, rfl, rfl, rfl, rfl, rfl, rfl, rfl, trivial⟩, hI⟩
    · rintro a w ⟨hA, hI⟩
      have H := Hk1
      refine w_ret ?_
      obtain rfl := Option.some.inj (bS H)
      exact ret1 hA Try.results13 rfl ⟨_, rfl, rfl, trivial, hI.forget0⟩
end Go.Proofs.Ytnbnnphlffhgiaa.T
