/- A helper of this seat's claims: printed by gen.py. It proves no statement by itself. -/
import Derived.Test.YtnbnnphlffhgiaaCH
import Derived.Test.YtnbnnphlffhgiaaGSpendKeys
namespace Go.Proofs.Ytnbnnphlffhgiaa.T
open Go Go.Proofs Go.Proofs.Ytnbnnphlffhgiaa.K
set_option linter.unusedVariables false
set_option linter.unusedSimpArgs false
/-! sargassolaw3.SpendKeys: function 10 -/
set_option maxRecDepth 20000 in
theorem sargassolaw3_SpendKeys.c (μ : Store) (w0 : World) (hμ : Agr μ w0) (x0 : List Int) (u0 : Value) (hx0 : Slc (RI .u8) 1 μ u0 x0) (x1 : Int) (hx1 : InR .i64 x1) (r : Bool) (H : sargassolaw3_SpendKeys.f x0 x1 = some r) :
    Calls Try.prog 10 [u0, .int .i64 x1].toArray w0 (fun e w' => ∃ v, e = .returned v ∧ v = .bool r ∧ True ∧ Iv w0 [] μ μ [] w') := by
  refine enter Try.func10 rfl Try.ntmps10 rfl fun a hA => ?_
  have hI := Iv.start hμ
  have H := bI H
  refine w_seq fun _ hN1 => ?_
  refine w_reg ?_
  refine stp hA (r_as hA rfl) rfl fun a hA => ?_
  refine o_nil ?_
  refine hN1 _ _ ?_
  refine w_seq fun _ hN2 => ?_
  refine w_reg ?_
  obtain ⟨r1, hr1, H⟩ := bB H
  refine o_callp (u := .bool r1) cf53 hA rfl hI (sargassolaw3_first.c μ _ hI.agr  r1 hr1) rfl fun a w hz1 hI hA => 
    stp hA (r_as hA rfl) rfl fun a hA => ?_
  refine o_nil ?_
  refine hN2 _ _ ?_
  refine w_seq fun _ hN3 => ?_
  refine w_seq fun _ hN4 => ?_
  refine w_reg ?_
  refine stp hA (r_mv hA rfl) rfl fun a hA => 
    stp hA (r_not hA rfl) rfl fun a hA => ?_
  refine o_nil ?_
  refine hN4 _ _ ?_
  refine w_cond hA rfl (fun hc1 => ?_) (fun hc1 => ?_)
  · have hc10 := hc1; have hc1 := nT hc1; have hc1 := ft hc1; have H := bF H hc1
    refine w_seq fun _ hN5 => ?_
    refine w_reg ?_
    refine stp hA (r_as hA rfl) rfl fun a hA => ?_
    refine o_nil ?_
    refine hN5 _ _ ?_
    refine w_ret ?_
    obtain rfl := Option.some.inj (bS H)
    exact ret1 hA Try.results10 rfl ⟨_, rfl, rfl, trivial, hI.forget0⟩
  · have hc10 := hc1; have hc1 := nF hc1; have H := bT H hc1
    refine w_skip ?_
    refine hN3 _ _ ?_
    refine w_seq fun _ hN6 => ?_
    obtain ⟨c1, hz2, Hk1⟩ := bB H
    refine w_cut (fun a w => Fr a 74 [(0, u0), (1, .int .i64 x1), (4, .bool false), (5, .bool r1), (12, .bool (!r1)), (20, .bool c1)] ∧ Iv w0 [] μ μ [] w) ?_ ?_
    · have H := bI hz2
      refine w_reg ?_
      refine stp hA (r_mv hA rfl) rfl fun a hA => ?_
      obtain ⟨_, hsl1⟩ := Slc.sv hx0
      refine stp hA (r_slen Try.underlying22 hsl1 hA rfl) rfl fun a hA => 
        stp hA (r_eql hA rfl rfl) rfl fun a hA => 
        stp hA (r_mv hA rfl) rfl fun a hA => ?_
      rcases Bool.eq_false_or_eq_true (decide ((x0.length : Int) = 0)) with hc2 | hc2
      · have hc20 := hc2; have hc2 := of_decide_eq_true hc2; have H := bT H hc2
        refine o_no hA rfl rfl (by rw [hc20]; simp [vb]) rfl fun a hA => 
          o_no hA rfl rfl (by rw [hc20]; simp [vb]) rfl fun a hA => 
          o_no hA rfl rfl (by rw [hc20]; simp [vb]) rfl fun a hA => 
          stp hA (r_pick_t hA rfl hc20 rfl) rfl fun a hA => ?_
        refine o_nil ?_
        cases Option.some.inj (bS H)
        exact ⟨hA.sub ⟨rfl, rfl, rfl, rfl, rfl, rfl, trivial⟩, hI⟩
      · have hc20 := hc2; have hc2 := of_decide_eq_false hc2; have H := bF H hc2
        refine o_yes hA rfl rfl hc20 <| 
          stp hA (r_mv hA rfl) rfl fun a hA => 
          o_yes hA rfl rfl hc20 <| ?_
        obtain ⟨_, hsl2⟩ := Slc.sv hx0
        refine stp hA (r_slen Try.underlying22 hsl2 hA rfl) rfl fun a hA => 
          o_yes hA rfl rfl hc20 <| 
          stp hA (r_gtr hA rfl rfl) rfl fun a hA => 
          stp hA (r_pick_f hA rfl hc20 rfl) rfl fun a hA => ?_
        refine o_nil ?_
        cases Option.some.inj (bS H)
        exact ⟨hA.sub ⟨rfl, rfl, rfl, rfl, rfl, rfl, trivial⟩, hI⟩
    · rintro a w ⟨hA, hI⟩
      have H := Hk1
      refine w_cond hA rfl (fun hc3 => ?_) (fun hc3 => ?_)
      · have hc30 := hc3; have H := bT H hc3
        refine w_seq fun _ hN7 => ?_
        refine w_reg ?_
        refine stp hA (r_mv hA rfl) rfl fun a hA => 
          stp hA (r_as hA rfl) rfl fun a hA => ?_
        refine o_nil ?_
        refine hN7 _ _ ?_
        refine w_ret ?_
        obtain rfl := Option.some.inj (bS H)
        exact ret1 hA Try.results10 rfl ⟨_, rfl, rfl, trivial, hI.forget0⟩
      · have hc30 := hc3; have hc3 := ft hc3; have H := bF H hc3
        refine w_skip ?_
        refine hN6 _ _ ?_
        refine w_seq fun _ hN8 => ?_
        refine w_reg ?_
        refine stp hA (r_mv hA rfl) rfl fun a hA => ?_
        obtain ⟨r2, hr2, H⟩ := bB H
        refine o_call _ cf34 hA rfl (sargassoref_Bytes.c μ _ hI.agr x0 u0 hx0 r2 hr2) rfl fun v1 a w hz3 hA => ?_
        obtain ⟨_, cs1, rfl, hE1, hi1⟩ := hz3
        have hI := hI.call hi1
        refine stp hA (r_as hA rfl) rfl fun a hA => ?_
        refine o_nil ?_
        refine hN8 _ _ ?_
        refine w_seq fun _ hN9 => ?_
        refine w_reg ?_
        refine stp hA (r_mv hA rfl) rfl fun a hA => 
          stp hA (r_mv hA rfl) rfl fun a hA => ?_
        obtain ⟨_, hsl3⟩ := Slc.sv hx0
        refine stp hA (r_slen Try.underlying22 hsl3 hA rfl) rfl fun a hA => 
          stp hA (r_mul hA rfl rfl) rfl fun a hA => ?_
        obtain ⟨r3, hr3, H⟩ := bB H
        refine o_callp (u := .int .i64 r3) cf26 hA rfl hI (sargassoworld_Number.c μ _ hI.agr x1 hx1 (IntKind.i64.wrap (8 * (x0.length : Int))) (wrap_in _ _) r3 hr3) rfl fun a w hz4 hI hA => 
          stp hA (r_as hA rfl) rfl fun a hA => ?_
        refine o_nil ?_
        refine hN9 _ _ ?_
        refine w_seq fun _ hN10 => ?_
        refine w_reg ?_
        refine stp hA (r_mv hA rfl) rfl fun a hA => 
          stp hA (r_mv hA rfl) rfl fun a hA => 
          stp hA (r_quo hA rfl rfl (by decide)) rfl fun a hA => 
          stp hA (r_mv hA rfl) rfl fun a hA => 
          stp hA (r_mv hA rfl) rfl fun a hA => 
          stp hA (r_quo hA rfl rfl (by decide)) rfl fun a hA => ?_
        obtain ⟨hb1, H⟩ := bG H
        refine stp hA (r_rix (j := 0) Try.underlying22 sz5 hI rfl hA rfl rfl hb1.1 hb1.2) rfl fun a hA => ?_
        have hq1 := els_get hE1 hb1.1 hb1.2
        refine stp hA (r_rld1 (j := 0) Try.underlying5 rfl hI rfl hq1 hA rfl (by simp only [Nat.mul_one])) rfl fun a hA => 
          stp hA (r_mv hA rfl) rfl fun a hA => 
          stp hA (r_rem hA rfl rfl (by decide)) rfl fun a hA => 
          stp hA (r_conv Try.underlying3 Try.underlying40 hA rfl) rfl fun a hA => ?_
        obtain ⟨hb2, H⟩ := bG H
        refine stp hA (r_shl hA rfl rfl hb2) rfl fun a hA => 
          stp hA (r_xor hA rfl rfl) rfl fun a hA => 
          stp hA (r_rix (j := 0) Try.underlying22 sz5 hI rfl hA rfl rfl hb1.1 hb1.2) rfl fun a hA => ?_
        have hE2 := els_set (x := (bXor .u8 (r2.getD (IntKind.i64.wrap (Int.tdiv r3 8)).toNat 0) (sL .u8 1 (IntKind.u64.wrap (Int.tmod r3 8))))) hE1 (IntKind.i64.wrap (Int.tdiv r3 8)).toNat (wrap_in _ _)
        refine o_rst (j := 0) (q := (IntKind.i64.wrap (Int.tdiv r3 8)).toNat) (z := (bXor .u8 (r2.getD (IntKind.i64.wrap (Int.tdiv r3 8)).toNat 0) (sL .u8 1 (IntKind.u64.wrap (Int.tmod r3 8))))) (xs := r2) sz5 hI rfl hA rfl rfl (by simp only [Nat.mul_one]) rfl (by omega) fun w hI => ?_
        refine o_nil ?_
        refine hN10 _ _ ?_
        refine w_seq fun _ hN11 => ?_
        refine w_reg ?_
        refine stp hA (r_mv hA rfl) rfl fun a hA => ?_
        obtain ⟨r4, hr4, H⟩ := bB H
        refine o_callp (u := .agg [av .u8 32 r4].flatten.toArray) cf54 hA rfl hI (spend_Lock.c μ _ hI.agr x0 u0 hx0 r4 hr4) rfl fun a w hz5 hI hA => 
          o_new [av .u8 32 (List.replicate 32 0)] zr33 hI hA rfl fun g1 a w hA hI hg1 => 
          o_st (j := 0) [] [av .u8 32 (List.replicate 32 0)] [av .u8 32 r4] [] sz33 rfl rfl (fl_cons (one_av _ _ _) fl_nil) hI rfl hA rfl rfl rfl rfl fun w hI => ?_
        refine o_nil ?_
        refine hN11 _ _ ?_
        refine w_seq fun _ hN12 => ?_
        refine w_reg ?_
        refine stp hA (r_mv hA rfl) rfl fun a hA => ?_
        obtain ⟨r5, hr5, H⟩ := bB H
        refine o_callp (u := .agg [av .u8 32 r5].flatten.toArray) cf54 hA rfl hI ((by obtain ⟨μ1, hle1, hsv1, hI⟩ := hI.freezeRow 1 rfl; have hS1 : Slc (RI .u8) 1 μ1 v1 (r2.set (IntKind.i64.wrap (Int.tdiv r3 8)).toNat (bXor .u8 (r2.getD (IntKind.i64.wrap (Int.tdiv r3 8)).toNat 0) (sL .u8 1 (IntKind.u64.wrap (Int.tmod r3 8))))) := ⟨_, hE2, hsv1⟩; exact low_plain hle1 (spend_Lock.c μ1 _ hI.agr (r2.set (IntKind.i64.wrap (Int.tdiv r3 8)).toNat (bXor .u8 (r2.getD (IntKind.i64.wrap (Int.tdiv r3 8)).toNat 0) (sL .u8 1 (IntKind.u64.wrap (Int.tmod r3 8))))) v1 hS1 r5 hr5))) rfl fun a w hz6 hI hA => 
          o_new [av .u8 32 (List.replicate 32 0)] zr33 hI hA rfl fun g2 a w hA hI hg2 => 
          o_st (j := 0) [] [av .u8 32 (List.replicate 32 0)] [av .u8 32 r5] [] sz33 rfl rfl (fl_cons (one_av _ _ _) fl_nil) hI rfl hA rfl rfl rfl rfl fun w hI => ?_
        refine o_nil ?_
        refine hN12 _ _ ?_
        obtain ⟨c2, hz7, Hk2⟩ := bB H
        refine w_cut (fun a w => Fr a 74 [(0, u0), (1, .int .i64 x1), (4, .bool c2), (5, .bool r1), (6, v1), (7, .int .i64 r3), (8, .pointer (some ⟨g1, 0, none⟩)), (9, .pointer (some ⟨g2, 0, none⟩)), (12, .bool (!r1)), (20, .bool c1)] ∧ Iv w0 [] μ μ [cel g2 [av .u8 32 r5] 33, cel g1 [av .u8 32 r4] 33, row 5 1 v1 (r2.set (IntKind.i64.wrap (Int.tdiv r3 8)).toNat (bXor .u8 (r2.getD (IntKind.i64.wrap (Int.tdiv r3 8)).toNat 0) (sL .u8 1 (IntKind.u64.wrap (Int.tmod r3 8))))).length (cs1.set (IntKind.i64.wrap (Int.tdiv r3 8)).toNat (.int .u8 (bXor .u8 (r2.getD (IntKind.i64.wrap (Int.tdiv r3 8)).toNat 0) (sL .u8 1 (IntKind.u64.wrap (Int.tmod r3 8))))))] w) ?_ ?_
        · have H := bI hz7
          refine w_any [] mo hI fun w hI => ?_
          refine g_easy (i := 0) hA rfl rfl (by kernel_rfl) (.inr hI) (fun _ => r_mv hA rfl) rfl fun a hA => ?_
          refine g_easy (i := 1) hA rfl rfl (by kernel_rfl) (.inr hI) (fun _ => r_mv hA rfl) rfl fun a hA => ?_
          rcases Bool.eq_false_or_eq_true r1 with hc4 | hc4
          · have hc40 := hc4; have H := bT H hc4
            refine g_easy (i := 2) hA rfl (wanted_yes hA rfl rfl hc40) (by kernel_rfl) (.inr hI) (fun _ => r_mv hA rfl) rfl fun a hA => ?_
            refine g_take (i := 3) hA rfl (wanted_yes hA rfl rfl hc40) (by kernel_rfl) hI (fun w hI => r_ldA (j := 1) [] [av .u8 32 r4] [] Try.underlying33 rfl sz33 rfl hI rfl hA rfl rfl) rfl fun a hA => ?_
            refine g_forced (i := 4) rfl (by kernel_rfl) ?_
            refine o_yes hA rfl rfl hc40 <| ?_
            obtain ⟨r6, hr6, H⟩ := bB H
            refine o_callp (u := .bool r6) cf55 hA rfl hI (spend_Opens.c μ _ hI.agr x0 u0 hx0 r4 hz5 r6 hr6) rfl fun a w hz8 hI hA => ?_
            refine o_nil ?_
            refine ⟨(.inr hI), ?_⟩
            refine g_easy (i := 5) hA rfl rfl (by kernel_rfl) (.inr hI) (fun _ => r_pick_t hA rfl hc40 rfl) rfl fun a hA => ?_
            refine g_easy (i := 6) hA rfl rfl (by kernel_rfl) (.inr hI) (fun _ => r_mv hA rfl) rfl fun a hA => ?_
            rcases Bool.eq_false_or_eq_true r6 with hc5 | hc5
            · have hc50 := hc5; have H := bT H hc5
              refine g_easy (i := 7) hA rfl (wanted_yes hA rfl rfl hc50) (by kernel_rfl) (.inr hI) (fun _ => r_mv hA rfl) rfl fun a hA => ?_
              refine g_take (i := 8) hA rfl (wanted_yes hA rfl rfl hc50) (by kernel_rfl) hI (fun w hI => r_ldA (j := 0) [] [av .u8 32 r5] [] Try.underlying33 rfl sz33 rfl hI rfl hA rfl rfl) rfl fun a hA => ?_
              refine g_forced (i := 9) rfl (by kernel_rfl) ?_
              refine o_yes hA rfl rfl hc50 <| ?_
              obtain ⟨r7, hr7, H⟩ := bB H
              refine o_callp (u := .bool r7) cf55 hA rfl hI ((by obtain ⟨μ2, hle2, hsv2, hI⟩ := hI.freezeRow 2 rfl; have hS2 : Slc (RI .u8) 1 μ2 v1 (r2.set (IntKind.i64.wrap (Int.tdiv r3 8)).toNat (bXor .u8 (r2.getD (IntKind.i64.wrap (Int.tdiv r3 8)).toNat 0) (sL .u8 1 (IntKind.u64.wrap (Int.tmod r3 8))))) := ⟨_, hE2, hsv2⟩; exact low_plain hle2 (spend_Opens.c μ2 _ hI.agr (r2.set (IntKind.i64.wrap (Int.tdiv r3 8)).toNat (bXor .u8 (r2.getD (IntKind.i64.wrap (Int.tdiv r3 8)).toNat 0) (sL .u8 1 (IntKind.u64.wrap (Int.tmod r3 8))))) v1 hS2 r5 hz6 r7 hr7))) rfl fun a w hz9 hI hA => ?_
              refine o_nil ?_
              refine ⟨(.inr hI), ?_⟩
              refine g_easy (i := 10) hA rfl rfl (by kernel_rfl) (.inr hI) (fun _ => r_pick_t hA rfl hc50 rfl) rfl fun a hA => ?_
              refine g_easy (i := 11) hA rfl rfl (by kernel_rfl) (.inr hI) (fun _ => r_mv hA rfl) rfl fun a hA => ?_
              rcases Bool.eq_false_or_eq_true r7 with hc6 | hc6
              · have hc60 := hc6; have H := bT H hc6
                refine g_easy (i := 12) hA rfl (wanted_yes hA rfl rfl hc60) (by kernel_rfl) (.inr hI) (fun _ => r_mv hA rfl) rfl fun a hA => ?_
                refine g_take (i := 13) hA rfl (wanted_yes hA rfl rfl hc60) (by kernel_rfl) hI (fun w hI => r_ldA (j := 0) [] [av .u8 32 r5] [] Try.underlying33 rfl sz33 rfl hI rfl hA rfl rfl) rfl fun a hA => ?_
                refine g_take (i := 15) hA rfl (wanted_yes hA rfl rfl hc60) (by kernel_rfl) hI (fun w hI => r_ldA (j := 1) [] [av .u8 32 r4] [] Try.underlying33 rfl sz33 rfl hI rfl hA rfl rfl) rfl fun a hA => ?_
                refine g_take (i := 16) hA rfl (wanted_yes hA rfl rfl hc60) (by kernel_rfl) hI (fun w hI => r_ldA (j := 0) [] [av .u8 32 r5] [] Try.underlying33 rfl sz33 rfl hI rfl hA rfl rfl) rfl fun a hA => ?_
                refine g_forced (i := 14) rfl (by kernel_rfl) ?_
                refine o_yes hA rfl rfl hc60 <| ?_
                obtain ⟨r8, hr8, H⟩ := bB H
                refine o_callp (u := .bool r8) cf55 hA rfl hI (spend_Opens.c μ _ hI.agr x0 u0 hx0 r5 hz6 r8 hr8) rfl fun a w hz10 hI hA => ?_
                refine o_nil ?_
                refine ⟨(.inr hI), ?_⟩
                refine g_forced (i := 17) rfl (by kernel_rfl) ?_
                refine o_yes hA rfl rfl hc60 <| ?_
                obtain ⟨r9, hr9, H⟩ := bB H
                refine o_callp (u := .bool r9) cf28 hA rfl hI (sargassoref_SameHash.c μ _ hI.agr r4 hz5 r5 hz6 r9 hr9) rfl fun a w hz11 hI hA => ?_
                refine o_nil ?_
                refine ⟨(.inr hI), ?_⟩
                refine g_easy (i := 18) hA rfl (wanted_yes hA rfl rfl hc60) (by kernel_rfl) (.inr hI) (fun _ => r_eqlb Try.underlying4 hA rfl rfl) rfl fun a hA => ?_
                refine g_easy (i := 19) hA rfl rfl (by kernel_rfl) (.inr hI) (fun _ => r_pick_t hA rfl hc60 rfl) rfl fun a hA => ?_
                refine g_easy (i := 20) hA rfl rfl (by kernel_rfl) (.inr hI) (fun _ => r_mv hA rfl) rfl fun a hA => ?_
                rcases Bool.eq_false_or_eq_true (decide (r8 = r9)) with hc7 | hc7
                · have hc70 := hc7; have hc7 := of_decide_eq_true hc7; have H := bT H hc7
                  refine g_fork (i := 21) (is := [22]) (by kernel_rfl) (List.forall_mem_cons.2 ⟨⟨_, rfl, ?_⟩, (List.forall_mem_cons.2 ⟨⟨_, rfl, ?_⟩, List.forall_mem_nil _⟩)⟩)
                  · skip
                    refine o_yes hA rfl rfl hc70 <| ?_
                    obtain ⟨hb3, H⟩ := bG H
                    refine o_make (RE := (RI .u8)) (c0 := [[.int .u8 0]].flatten) (z0 := 0) ⟨rfl, (in_lit .u8 0 rfl)⟩ te5 rfl zr5 Try.underlying22 hI hA rfl rfl (by have hq := hb3; simp only [maxLen]; omega) rfl fun g3 cs2 a w hE3 hA hI => ?_
                    refine o_nil ?_
                    refine ⟨(.inr (hI.sel [1, 2, 3] (by decide) rfl)), ?_⟩
                    refine g_forced (i := 22) rfl (by kernel_rfl) ?_
                    refine o_yes hA rfl rfl hc70 <| 
                      o_make (RE := (RI .u8)) (c0 := [[.int .u8 0]].flatten) (z0 := 0) ⟨rfl, (in_lit .u8 0 rfl)⟩ te5 rfl zr5 Try.underlying22 hI hA rfl rfl (by have hq := hb3; simp only [maxLen]; omega) rfl fun g4 cs3 a w hE4 hA hI => ?_
                    refine o_nil ?_
                    refine ⟨(.inr (hI.sel [2, 3, 4] (by decide) rfl)), ?_⟩
                    refine g_forced (i := 23) rfl (by kernel_rfl) ?_
                    refine o_yes hA rfl rfl hc70 <| ?_
                    obtain ⟨r10, hr10, H⟩ := bB H
                    refine o_callp (u := .agg [av .u8 32 r10].flatten.toArray) cf54 hA rfl hI ((by obtain ⟨μ3, hle3, hsv3, hI⟩ := hI.freezeRow 0 rfl; have hS3 : Slc (RI .u8) 1 μ3 (.slice (some ⟨g4, 0, none⟩) ((81 : Int).toNat) ((81 : Int).toNat)) (List.replicate ((81 : Int).toNat) 0) := ⟨_, hE4, hsv3⟩; exact low_plain hle3 (spend_Lock.c μ3 _ hI.agr (List.replicate ((81 : Int).toNat) 0) (.slice (some ⟨g4, 0, none⟩) ((81 : Int).toNat) ((81 : Int).toNat)) hS3 r10 hr10))) rfl fun a w hz12 hI hA => ?_
                    refine o_nil ?_
                    refine ⟨(.inr (hI.sel [2, 3, 4] (by decide) rfl)), ?_⟩
                    refine g_forced (i := 24) rfl (by kernel_rfl) ?_
                    refine o_yes hA rfl rfl hc70 <| ?_
                    obtain ⟨r11, hr11, H⟩ := bB H
                    refine o_callp (u := .bool r11) cf55 hA rfl hI ((by obtain ⟨μ4, hle4, hsv4, hI⟩ := hI.freezeRow 1 rfl; have hS4 : Slc (RI .u8) 1 μ4 (.slice (some ⟨g3, 0, none⟩) ((81 : Int).toNat) ((81 : Int).toNat)) (List.replicate ((81 : Int).toNat) 0) := ⟨_, hE3, hsv4⟩; exact low_plain hle4 (spend_Opens.c μ4 _ hI.agr (List.replicate ((81 : Int).toNat) 0) (.slice (some ⟨g3, 0, none⟩) ((81 : Int).toNat) ((81 : Int).toNat)) hS4 r10 hz12 r11 hr11))) rfl fun a w hz13 hI hA => ?_
                    refine o_nil ?_
                    refine ⟨(.inr (hI.sel [2, 3, 4] (by decide) rfl)), ?_⟩
                    refine g_easy (i := 25) hA rfl (wanted_yes hA rfl rfl hc70) (by kernel_rfl) (.inr (hI.sel [2, 3, 4] (by decide) rfl)) (fun _ => r_not hA rfl) rfl fun a hA => ?_
                    refine g_easy (i := 26) hA rfl rfl (by kernel_rfl) (.inr (hI.sel [2, 3, 4] (by decide) rfl)) (fun _ => r_pick_t hA rfl hc70 rfl) rfl fun a hA => ?_
                    refine g_easy (i := 27) hA rfl rfl (by kernel_rfl) (.inr (hI.sel [2, 3, 4] (by decide) rfl)) (fun _ => r_as hA rfl) rfl fun a hA => ?_
                    refine g_nil (by kernel_rfl) ?_
                    cases Option.some.inj (bS H)
                    exact ⟨hA.sub ⟨rfl, rfl, rfl, rfl, rfl, rfl, rfl, rfl, rfl, rfl, trivial⟩, (hI.sel [2, 3, 4] (by decide) rfl)⟩
                  · skip
                    refine o_yes hA rfl rfl hc70 <| ?_
                    obtain ⟨hb3, H⟩ := bG H
                    refine o_make (RE := (RI .u8)) (c0 := [[.int .u8 0]].flatten) (z0 := 0) ⟨rfl, (in_lit .u8 0 rfl)⟩ te5 rfl zr5 Try.underlying22 hI hA rfl rfl (by have hq := hb3; simp only [maxLen]; omega) rfl fun g3 cs2 a w hE3 hA hI => ?_
                    refine o_nil ?_
                    refine ⟨(.inr (hI.sel [1, 2, 3] (by decide) rfl)), ?_⟩
                    refine g_fork (i := 21) (is := [23]) (by kernel_rfl) (List.forall_mem_cons.2 ⟨⟨_, rfl, ?_⟩, (List.forall_mem_cons.2 ⟨⟨_, rfl, ?_⟩, List.forall_mem_nil _⟩)⟩)
                    · skip
                      refine o_yes hA rfl rfl hc70 <| 
                        o_make (RE := (RI .u8)) (c0 := [[.int .u8 0]].flatten) (z0 := 0) ⟨rfl, (in_lit .u8 0 rfl)⟩ te5 rfl zr5 Try.underlying22 hI hA rfl rfl (by have hq := hb3; simp only [maxLen]; omega) rfl fun g4 cs3 a w hE4 hA hI => ?_
                      refine o_nil ?_
                      refine ⟨(.inr (hI.sel [2, 3, 4] (by decide) rfl)), ?_⟩
                      refine g_forced (i := 23) rfl (by kernel_rfl) ?_
                      refine o_yes hA rfl rfl hc70 <| ?_
                      obtain ⟨r10, hr10, H⟩ := bB H
                      refine o_callp (u := .agg [av .u8 32 r10].flatten.toArray) cf54 hA rfl hI ((by obtain ⟨μ3, hle3, hsv3, hI⟩ := hI.freezeRow 1 rfl; have hS3 : Slc (RI .u8) 1 μ3 (.slice (some ⟨g3, 0, none⟩) ((81 : Int).toNat) ((81 : Int).toNat)) (List.replicate ((81 : Int).toNat) 0) := ⟨_, hE3, hsv3⟩; exact low_plain hle3 (spend_Lock.c μ3 _ hI.agr (List.replicate ((81 : Int).toNat) 0) (.slice (some ⟨g3, 0, none⟩) ((81 : Int).toNat) ((81 : Int).toNat)) hS3 r10 hr10))) rfl fun a w hz12 hI hA => ?_
                      refine o_nil ?_
                      refine ⟨(.inr (hI.sel [2, 3, 4] (by decide) rfl)), ?_⟩
                      refine g_forced (i := 24) rfl (by kernel_rfl) ?_
                      refine o_yes hA rfl rfl hc70 <| ?_
                      obtain ⟨r11, hr11, H⟩ := bB H
                      refine o_callp (u := .bool r11) cf55 hA rfl hI ((by obtain ⟨μ4, hle4, hsv4, hI⟩ := hI.freezeRow 0 rfl; have hS4 : Slc (RI .u8) 1 μ4 (.slice (some ⟨g4, 0, none⟩) ((81 : Int).toNat) ((81 : Int).toNat)) (List.replicate ((81 : Int).toNat) 0) := ⟨_, hE4, hsv4⟩; exact low_plain hle4 (spend_Opens.c μ4 _ hI.agr (List.replicate ((81 : Int).toNat) 0) (.slice (some ⟨g4, 0, none⟩) ((81 : Int).toNat) ((81 : Int).toNat)) hS4 r10 hz12 r11 hr11))) rfl fun a w hz13 hI hA => ?_
                      refine o_nil ?_
                      refine ⟨(.inr (hI.sel [2, 3, 4] (by decide) rfl)), ?_⟩
                      refine g_easy (i := 25) hA rfl (wanted_yes hA rfl rfl hc70) (by kernel_rfl) (.inr (hI.sel [2, 3, 4] (by decide) rfl)) (fun _ => r_not hA rfl) rfl fun a hA => ?_
                      refine g_easy (i := 26) hA rfl rfl (by kernel_rfl) (.inr (hI.sel [2, 3, 4] (by decide) rfl)) (fun _ => r_pick_t hA rfl hc70 rfl) rfl fun a hA => ?_
                      refine g_easy (i := 27) hA rfl rfl (by kernel_rfl) (.inr (hI.sel [2, 3, 4] (by decide) rfl)) (fun _ => r_as hA rfl) rfl fun a hA => ?_
                      refine g_nil (by kernel_rfl) ?_
                      cases Option.some.inj (bS H)
                      exact ⟨hA.sub ⟨rfl, rfl, rfl, rfl, rfl, rfl, rfl, rfl, rfl, rfl, trivial⟩, (hI.sel [2, 3, 4] (by decide) rfl)⟩
                    · skip
                      refine o_yes hA rfl rfl hc70 <| ?_
                      obtain ⟨r10, hr10, H⟩ := bB H
                      refine o_callp (u := .agg [av .u8 32 r10].flatten.toArray) cf54 hA rfl hI ((by obtain ⟨μ3, hle3, hsv3, hI⟩ := hI.freezeRow 0 rfl; have hS3 : Slc (RI .u8) 1 μ3 (.slice (some ⟨g3, 0, none⟩) ((81 : Int).toNat) ((81 : Int).toNat)) (List.replicate ((81 : Int).toNat) 0) := ⟨_, hE3, hsv3⟩; exact low_plain hle3 (spend_Lock.c μ3 _ hI.agr (List.replicate ((81 : Int).toNat) 0) (.slice (some ⟨g3, 0, none⟩) ((81 : Int).toNat) ((81 : Int).toNat)) hS3 r10 hr10))) rfl fun a w hz12 hI hA => ?_
                      refine o_nil ?_
                      refine ⟨(.inr (hI.sel [1, 2, 3] (by decide) rfl)), ?_⟩
                      refine g_forced (i := 21) rfl (by kernel_rfl) ?_
                      refine o_yes hA rfl rfl hc70 <| 
                        o_make (RE := (RI .u8)) (c0 := [[.int .u8 0]].flatten) (z0 := 0) ⟨rfl, (in_lit .u8 0 rfl)⟩ te5 rfl zr5 Try.underlying22 hI hA rfl rfl (by have hq := hb3; simp only [maxLen]; omega) rfl fun g4 cs3 a w hE4 hA hI => ?_
                      refine o_nil ?_
                      refine ⟨(.inr (hI.sel [2, 3, 4] (by decide) rfl)), ?_⟩
                      refine g_forced (i := 24) rfl (by kernel_rfl) ?_
                      refine o_yes hA rfl rfl hc70 <| ?_
                      obtain ⟨r11, hr11, H⟩ := bB H
                      refine o_callp (u := .bool r11) cf55 hA rfl hI ((by obtain ⟨μ4, hle4, hsv4, hI⟩ := hI.freezeRow 0 rfl; have hS4 : Slc (RI .u8) 1 μ4 (.slice (some ⟨g4, 0, none⟩) ((81 : Int).toNat) ((81 : Int).toNat)) (List.replicate ((81 : Int).toNat) 0) := ⟨_, hE4, hsv4⟩; exact low_plain hle4 (spend_Opens.c μ4 _ hI.agr (List.replicate ((81 : Int).toNat) 0) (.slice (some ⟨g4, 0, none⟩) ((81 : Int).toNat) ((81 : Int).toNat)) hS4 r10 hz12 r11 hr11))) rfl fun a w hz13 hI hA => ?_
                      refine o_nil ?_
                      refine ⟨(.inr (hI.sel [2, 3, 4] (by decide) rfl)), ?_⟩
                      refine g_easy (i := 25) hA rfl (wanted_yes hA rfl rfl hc70) (by kernel_rfl) (.inr (hI.sel [2, 3, 4] (by decide) rfl)) (fun _ => r_not hA rfl) rfl fun a hA => ?_
                      refine g_easy (i := 26) hA rfl rfl (by kernel_rfl) (.inr (hI.sel [2, 3, 4] (by decide) rfl)) (fun _ => r_pick_t hA rfl hc70 rfl) rfl fun a hA => ?_
                      refine g_easy (i := 27) hA rfl rfl (by kernel_rfl) (.inr (hI.sel [2, 3, 4] (by decide) rfl)) (fun _ => r_as hA rfl) rfl fun a hA => ?_
                      refine g_nil (by kernel_rfl) ?_
                      cases Option.some.inj (bS H)
                      exact ⟨hA.sub ⟨rfl, rfl, rfl, rfl, rfl, rfl, rfl, rfl, rfl, rfl, trivial⟩, (hI.sel [2, 3, 4] (by decide) rfl)⟩
                · have hc70 := hc7; have hc7 := of_decide_eq_false hc7; have H := bF H hc7
                  refine g_skip (i := 21) hA rfl (wanted_no hA rfl rfl (by rw [hc70]; simp [vb])) (by kernel_rfl) (.inr hI) rfl fun a hA => ?_
                  refine g_skip (i := 22) hA rfl (wanted_no hA rfl rfl (by rw [hc70]; simp [vb])) (by kernel_rfl) (.inr hI) rfl fun a hA => ?_
                  refine g_skip (i := 23) hA rfl (wanted_no hA rfl rfl (by rw [hc70]; simp [vb])) (by kernel_rfl) (.inr hI) rfl fun a hA => ?_
                  refine g_skip (i := 24) hA rfl (wanted_no hA rfl rfl (by rw [hc70]; simp [vb])) (by kernel_rfl) (.inr hI) rfl fun a hA => ?_
                  refine g_skip (i := 25) hA rfl (wanted_no hA rfl rfl (by rw [hc70]; simp [vb])) (by kernel_rfl) (.inr hI) rfl fun a hA => ?_
                  refine g_easy (i := 26) hA rfl rfl (by kernel_rfl) (.inr hI) (fun _ => r_pick_f hA rfl hc70 rfl) rfl fun a hA => ?_
                  refine g_easy (i := 27) hA rfl rfl (by kernel_rfl) (.inr hI) (fun _ => r_as hA rfl) rfl fun a hA => ?_
                  refine g_nil (by kernel_rfl) ?_
                  cases Option.some.inj (bS H)
                  exact ⟨hA.sub ⟨rfl, rfl, rfl, rfl, rfl, rfl, rfl, rfl, rfl, rfl, trivial⟩, hI⟩
              · have hc60 := hc6; have hc6 := ft hc6; have H := bF H hc6
                refine g_skip (i := 12) hA rfl (wanted_no hA rfl rfl (by rw [hc60]; simp [vb])) (by kernel_rfl) (.inr hI) rfl fun a hA => ?_
                refine g_skip (i := 13) hA rfl (wanted_no hA rfl rfl (by rw [hc60]; simp [vb])) (by kernel_rfl) (.inr hI) rfl fun a hA => ?_
                refine g_skip (i := 15) hA rfl (wanted_no hA rfl rfl (by rw [hc60]; simp [vb])) (by kernel_rfl) (.inr hI) rfl fun a hA => ?_
                refine g_skip (i := 16) hA rfl (wanted_no hA rfl rfl (by rw [hc60]; simp [vb])) (by kernel_rfl) (.inr hI) rfl fun a hA => ?_
                refine g_skip (i := 14) hA rfl (wanted_no hA rfl rfl (by rw [hc60]; simp [vb])) (by kernel_rfl) (.inr hI) rfl fun a hA => ?_
                refine g_skip (i := 17) hA rfl (wanted_no hA rfl rfl (by rw [hc60]; simp [vb])) (by kernel_rfl) (.inr hI) rfl fun a hA => ?_
                refine g_skip (i := 18) hA rfl (wanted_no hA rfl rfl (by rw [hc60]; simp [vb])) (by kernel_rfl) (.inr hI) rfl fun a hA => ?_
                refine g_easy (i := 19) hA rfl rfl (by kernel_rfl) (.inr hI) (fun _ => r_pick_f hA rfl hc60 rfl) rfl fun a hA => ?_
                refine g_easy (i := 20) hA rfl rfl (by kernel_rfl) (.inr hI) (fun _ => r_mv hA rfl) rfl fun a hA => ?_
                refine g_skip (i := 21) hA rfl (wanted_no hA rfl rfl (by simp [vb])) (by kernel_rfl) (.inr hI) rfl fun a hA => ?_
                refine g_skip (i := 22) hA rfl (wanted_no hA rfl rfl (by simp [vb])) (by kernel_rfl) (.inr hI) rfl fun a hA => ?_
                refine g_skip (i := 23) hA rfl (wanted_no hA rfl rfl (by simp [vb])) (by kernel_rfl) (.inr hI) rfl fun a hA => ?_
                refine g_skip (i := 24) hA rfl (wanted_no hA rfl rfl (by simp [vb])) (by kernel_rfl) (.inr hI) rfl fun a hA => ?_
                refine g_skip (i := 25) hA rfl (wanted_no hA rfl rfl (by simp [vb])) (by kernel_rfl) (.inr hI) rfl fun a hA => ?_
                refine g_easy (i := 26) hA rfl rfl (by kernel_rfl) (.inr hI) (fun _ => r_pick_f hA rfl rfl rfl) rfl fun a hA => ?_
                refine g_easy (i := 27) hA rfl rfl (by kernel_rfl) (.inr hI) (fun _ => r_as hA rfl) rfl fun a hA => ?_
                refine g_nil (by kernel_rfl) ?_
                cases Option.some.inj (bS H)
                exact ⟨hA.sub ⟨rfl, rfl, rfl, rfl, rfl, rfl, rfl, rfl, rfl, rfl, trivial⟩, hI⟩
            · have hc50 := hc5; have hc5 := ft hc5; have H := bF H hc5
              refine g_skip (i := 7) hA rfl (wanted_no hA rfl rfl (by rw [hc50]; simp [vb])) (by kernel_rfl) (.inr hI) rfl fun a hA => ?_
              refine g_skip (i := 8) hA rfl (wanted_no hA rfl rfl (by rw [hc50]; simp [vb])) (by kernel_rfl) (.inr hI) rfl fun a hA => ?_
              refine g_skip (i := 9) hA rfl (wanted_no hA rfl rfl (by rw [hc50]; simp [vb])) (by kernel_rfl) (.inr hI) rfl fun a hA => ?_
              refine g_easy (i := 10) hA rfl rfl (by kernel_rfl) (.inr hI) (fun _ => r_pick_f hA rfl hc50 rfl) rfl fun a hA => ?_
              refine g_easy (i := 11) hA rfl rfl (by kernel_rfl) (.inr hI) (fun _ => r_mv hA rfl) rfl fun a hA => ?_
              refine g_skip (i := 12) hA rfl (wanted_no hA rfl rfl (by simp [vb])) (by kernel_rfl) (.inr hI) rfl fun a hA => ?_
              refine g_skip (i := 13) hA rfl (wanted_no hA rfl rfl (by simp [vb])) (by kernel_rfl) (.inr hI) rfl fun a hA => ?_
              refine g_skip (i := 15) hA rfl (wanted_no hA rfl rfl (by simp [vb])) (by kernel_rfl) (.inr hI) rfl fun a hA => ?_
              refine g_skip (i := 16) hA rfl (wanted_no hA rfl rfl (by simp [vb])) (by kernel_rfl) (.inr hI) rfl fun a hA => ?_
              refine g_skip (i := 14) hA rfl (wanted_no hA rfl rfl (by simp [vb])) (by kernel_rfl) (.inr hI) rfl fun a hA => ?_
              refine g_skip (i := 17) hA rfl (wanted_no hA rfl rfl (by simp [vb])) (by kernel_rfl) (.inr hI) rfl fun a hA => ?_
              refine g_skip (i := 18) hA rfl (wanted_no hA rfl rfl (by simp [vb])) (by kernel_rfl) (.inr hI) rfl fun a hA => ?_
              refine g_easy (i := 19) hA rfl rfl (by kernel_rfl) (.inr hI) (fun _ => r_pick_f hA rfl rfl rfl) rfl fun a hA => ?_
              refine g_easy (i := 20) hA rfl rfl (by kernel_rfl) (.inr hI) (fun _ => r_mv hA rfl) rfl fun a hA => ?_
              refine g_skip (i := 21) hA rfl (wanted_no hA rfl rfl (by simp [vb])) (by kernel_rfl) (.inr hI) rfl fun a hA => ?_
              refine g_skip (i := 22) hA rfl (wanted_no hA rfl rfl (by simp [vb])) (by kernel_rfl) (.inr hI) rfl fun a hA => ?_
              refine g_skip (i := 23) hA rfl (wanted_no hA rfl rfl (by simp [vb])) (by kernel_rfl) (.inr hI) rfl fun a hA => ?_
              refine g_skip (i := 24) hA rfl (wanted_no hA rfl rfl (by simp [vb])) (by kernel_rfl) (.inr hI) rfl fun a hA => ?_
              refine g_skip (i := 25) hA rfl (wanted_no hA rfl rfl (by simp [vb])) (by kernel_rfl) (.inr hI) rfl fun a hA => ?_
              refine g_easy (i := 26) hA rfl rfl (by kernel_rfl) (.inr hI) (fun _ => r_pick_f hA rfl rfl rfl) rfl fun a hA => ?_
              refine g_easy (i := 27) hA rfl rfl (by kernel_rfl) (.inr hI) (fun _ => r_as hA rfl) rfl fun a hA => ?_
              refine g_nil (by kernel_rfl) ?_
              cases Option.some.inj (bS H)
              exact ⟨hA.sub ⟨rfl, rfl, rfl, rfl, rfl, rfl, rfl, rfl, rfl, rfl, trivial⟩, hI⟩
          · have hc40 := hc4; have hc4 := ft hc4; have H := bF H hc4
            refine g_skip (i := 2) hA rfl (wanted_no hA rfl rfl (by rw [hc40]; simp [vb])) (by kernel_rfl) (.inr hI) rfl fun a hA => ?_
            refine g_skip (i := 3) hA rfl (wanted_no hA rfl rfl (by rw [hc40]; simp [vb])) (by kernel_rfl) (.inr hI) rfl fun a hA => ?_
            refine g_skip (i := 4) hA rfl (wanted_no hA rfl rfl (by rw [hc40]; simp [vb])) (by kernel_rfl) (.inr hI) rfl fun a hA => ?_
            refine g_easy (i := 5) hA rfl rfl (by kernel_rfl) (.inr hI) (fun _ => r_pick_f hA rfl hc40 rfl) rfl fun a hA => ?_
            refine g_easy (i := 6) hA rfl rfl (by kernel_rfl) (.inr hI) (fun _ => r_mv hA rfl) rfl fun a hA => ?_
            refine g_skip (i := 7) hA rfl (wanted_no hA rfl rfl (by simp [vb])) (by kernel_rfl) (.inr hI) rfl fun a hA => ?_
            refine g_skip (i := 8) hA rfl (wanted_no hA rfl rfl (by simp [vb])) (by kernel_rfl) (.inr hI) rfl fun a hA => ?_
            refine g_skip (i := 9) hA rfl (wanted_no hA rfl rfl (by simp [vb])) (by kernel_rfl) (.inr hI) rfl fun a hA => ?_
            refine g_easy (i := 10) hA rfl rfl (by kernel_rfl) (.inr hI) (fun _ => r_pick_f hA rfl rfl rfl) rfl fun a hA => ?_
            refine g_easy (i := 11) hA rfl rfl (by kernel_rfl) (.inr hI) (fun _ => r_mv hA rfl) rfl fun a hA => ?_
            refine g_skip (i := 12) hA rfl (wanted_no hA rfl rfl (by simp [vb])) (by kernel_rfl) (.inr hI) rfl fun a hA => ?_
            refine g_skip (i := 13) hA rfl (wanted_no hA rfl rfl (by simp [vb])) (by kernel_rfl) (.inr hI) rfl fun a hA => ?_
            refine g_skip (i := 15) hA rfl (wanted_no hA rfl rfl (by simp [vb])) (by kernel_rfl) (.inr hI) rfl fun a hA => ?_
            refine g_skip (i := 16) hA rfl (wanted_no hA rfl rfl (by simp [vb])) (by kernel_rfl) (.inr hI) rfl fun a hA => ?_
            refine g_skip (i := 14) hA rfl (wanted_no hA rfl rfl (by simp [vb])) (by kernel_rfl) (.inr hI) rfl fun a hA => ?_
            refine g_skip (i := 17) hA rfl (wanted_no hA rfl rfl (by simp [vb])) (by kernel_rfl) (.inr hI) rfl fun a hA => ?_
            refine g_skip (i := 18) hA rfl (wanted_no hA rfl rfl (by simp [vb])) (by kernel_rfl) (.inr hI) rfl fun a hA => ?_
            refine g_easy (i := 19) hA rfl rfl (by kernel_rfl) (.inr hI) (fun _ => r_pick_f hA rfl rfl rfl) rfl fun a hA => ?_
            refine g_easy (i := 20) hA rfl rfl (by kernel_rfl) (.inr hI) (fun _ => r_mv hA rfl) rfl fun a hA => ?_
            refine g_skip (i := 21) hA rfl (wanted_no hA rfl rfl (by simp [vb])) (by kernel_rfl) (.inr hI) rfl fun a hA => ?_
            refine g_skip (i := 22) hA rfl (wanted_no hA rfl rfl (by simp [vb])) (by kernel_rfl) (.inr hI) rfl fun a hA => ?_
            refine g_skip (i := 23) hA rfl (wanted_no hA rfl rfl (by simp [vb])) (by kernel_rfl) (.inr hI) rfl fun a hA => ?_
            refine g_skip (i := 24) hA rfl (wanted_no hA rfl rfl (by simp [vb])) (by kernel_rfl) (.inr hI) rfl fun a hA => ?_
            refine g_skip (i := 25) hA rfl (wanted_no hA rfl rfl (by simp [vb])) (by kernel_rfl) (.inr hI) rfl fun a hA => ?_
            refine g_easy (i := 26) hA rfl rfl (by kernel_rfl) (.inr hI) (fun _ => r_pick_f hA rfl rfl rfl) rfl fun a hA => ?_
            refine g_easy (i := 27) hA rfl rfl (by kernel_rfl) (.inr hI) (fun _ => r_as hA rfl) rfl fun a hA => ?_
            refine g_nil (by kernel_rfl) ?_
            cases Option.some.inj (bS H)
            exact ⟨hA.sub ⟨rfl, rfl, rfl, rfl, rfl, rfl, rfl, rfl, rfl, rfl, trivial⟩, hI⟩
        · rintro a w ⟨hA, hI⟩
          have H := Hk2
          refine w_ret ?_
          obtain rfl := Option.some.inj (bS H)
          exact ret1 hA Try.results10 rfl ⟨_, rfl, rfl, trivial, hI.forget0⟩
end Go.Proofs.Ytnbnnphlffhgiaa.T
