/- A helper of this seat's claims: printed by gen.py. It proves no statement by itself. -/
import Derived.Test.YtnbnnphlffhgiaaCH
import Derived.Test.YtnbnnphlffhgiaaGDigestEdges
namespace Go.Proofs.Ytnbnnphlffhgiaa.T
open Go Go.Proofs Go.Proofs.Ytnbnnphlffhgiaa.K
set_option linter.unusedVariables false
set_option linter.unusedSimpArgs false
/-! sargassolaw1.DigestEdges: function 4 -/
set_option maxRecDepth 20000 in
theorem sargassolaw1_DigestEdges.c (μ : Store) (w0 : World) (hμ : Agr μ w0) (x0 : Int) (hx0 : InR .i64 x0) (x1 : Int) (hx1 : InR .u8 x1) (r : Bool) (H : sargassolaw1_DigestEdges.f x0 x1 = some r) :
    Calls Try.prog 4 [.int .i64 x0, .int .u8 x1].toArray w0 (fun e w' => ∃ v, e = .returned v ∧ v = .bool r ∧ True ∧ Iv w0 [] μ μ [] w') := by
  refine enter Try.func4 rfl Try.ntmps4 rfl fun a hA => ?_
  have hI := Iv.start hμ
  have H := bI H
  refine w_seq fun _ hN1 => ?_
  refine w_reg ?_
  refine stp hA (r_as hA rfl) rfl fun a hA => ?_
  refine o_nil ?_
  refine hN1 _ _ ?_
  refine w_seq fun _ hN2 => ?_
  refine w_reg ?_
  obtain ⟨r1, hr1, H⟩ := bB H
  refine o_callp (u := .bool r1) cf25 hA rfl hI (sargassolaw1_first.c μ _ hI.agr  r1 hr1) rfl fun a w hz1 hI hA => 
    stp hA (r_as hA rfl) rfl fun a hA => ?_
  refine o_nil ?_
  refine hN2 _ _ ?_
  refine w_seq fun _ hN3 => ?_
  refine w_seq fun _ hN4 => ?_
  refine w_reg ?_
  refine stp hA (r_mv hA rfl) rfl fun a hA => 
    stp hA (r_not hA rfl) rfl fun a hA => ?_
  refine o_nil ?_
  refine hN4 _ _ ?_
  refine w_cond hA rfl (fun hc1 => ?_) (fun hc1 => ?_)
  · have hc10 := hc1; have hc1 := nT hc1; have hc1 := ft hc1; have H := bF H hc1
    refine w_seq fun _ hN5 => ?_
    refine w_reg ?_
    refine stp hA (r_as hA rfl) rfl fun a hA => ?_
    refine o_nil ?_
    refine hN5 _ _ ?_
    refine w_ret ?_
    obtain rfl := Option.some.inj (bS H)
    exact ret1 hA Try.results4 rfl ⟨_, rfl, rfl, trivial, hI.forget0⟩
  · have hc10 := hc1; have hc1 := nF hc1; have H := bT H hc1
    refine w_skip ?_
    refine hN3 _ _ ?_
    refine w_seq fun _ hN6 => ?_
    refine w_reg ?_
    refine stp hA (r_mv hA rfl) rfl fun a hA => ?_
    obtain ⟨r2, hr2, H⟩ := bB H
    refine o_callp (u := .int .i64 r2) cf26 hA rfl hI (sargassoworld_Number.c μ _ hI.agr x0 hx0 90 (in_lit .i64 90 rfl) r2 hr2) rfl fun a w hz2 hI hA => 
      stp hA (r_add hA rfl rfl) rfl fun a hA => 
      stp hA (r_as hA rfl) rfl fun a hA => ?_
    refine o_nil ?_
    refine hN6 _ _ ?_
    refine w_seq fun _ hN7 => ?_
    refine w_reg ?_
    refine stp hA (r_mv hA rfl) rfl fun a hA => ?_
    obtain ⟨hb1, H⟩ := bG H
    refine o_make (RE := (RI .u8)) (c0 := [[.int .u8 0]].flatten) (z0 := 0) ⟨rfl, (in_lit .u8 0 rfl)⟩ te5 rfl zr5 Try.underlying22 hI hA rfl rfl (by have hq := hb1; simp only [maxLen]; omega) rfl fun g1 cs1 a w hE1 hA hI => 
      stp hA (r_as hA rfl) rfl fun a hA => ?_
    refine o_nil ?_
    refine hN7 _ _ ?_
    obtain ⟨c1, hz3, Hk1⟩ := bB H
    refine w_cut (fun a w => ∃ (ccc1 : List Value), Els (RI .u8) 1 c1 ccc1 ∧ Fr a 44 [(0, .int .i64 (IntKind.i64.wrap (r2 + 40))), (1, .int .u8 x1), (4, .bool false), (5, .bool r1), (6, (.slice (some ⟨g1, 0, none⟩) ((IntKind.i64.wrap (r2 + 40)).toNat) ((IntKind.i64.wrap (r2 + 40)).toNat))), (12, .bool (!r1))] ∧ Iv w0 [] μ μ [row 5 1 (.slice (some ⟨g1, 0, none⟩) ((IntKind.i64.wrap (r2 + 40)).toNat) ((IntKind.i64.wrap (r2 + 40)).toNat)) c1.length ccc1] w) ?_ ?_
    · have H := bI hz3
      refine w_seq fun _ hN8 => ?_
      refine w_reg ?_
      refine stp hA (r_as hA rfl) rfl fun a hA => ?_
      refine o_nil ?_
      refine hN8 _ _ ?_
      refine w_block ?_
      obtain ⟨z1, hz4, Hk2⟩ := bind_some H
      obtain ⟨n1, hn1⟩ := loopO_some hz4
      refine w_loop (fun n a w => ∃ (s1 : Int) (s2 : List Int) (ccs2 : List Value), loopN (sargassolaw1_DigestEdges.s0 x1 r2) n (s1, s2) = some z1 ∧ InR .i64 s1 ∧ Els (RI .u8) 1 s2 ccs2 ∧ Fr a 44 [(0, .int .i64 (IntKind.i64.wrap (r2 + 40))), (1, .int .u8 x1), (4, .bool false), (5, .bool r1), (6, (.slice (some ⟨g1, 0, none⟩) ((IntKind.i64.wrap (r2 + 40)).toNat) ((IntKind.i64.wrap (r2 + 40)).toNat))), (7, .int .i64 s1), (12, .bool (!r1))] ∧ Iv w0 [] μ μ [row 5 1 (.slice (some ⟨g1, 0, none⟩) ((IntKind.i64.wrap (r2 + 40)).toNat) ((IntKind.i64.wrap (r2 + 40)).toNat)) s2.length ccs2] w) n1 ⟨0, List.replicate ((IntKind.i64.wrap (r2 + 40)).toNat) 0, cs1, hn1, (in_lit .i64 0 rfl), hE1, hA.sub ⟨rfl, rfl, rfl, rfl, rfl, rfl, rfl, trivial⟩, hI⟩ ?_
      clear hA hI
      rintro n a w ⟨s1, s2, ccs2, hn1, ws1, ws2, hA, hI⟩
      obtain ⟨m1, rfl, H⟩ := loopN_bind hn1
      clear hn1
      refine w_seq fun _ hN9 => ?_
      refine w_seq fun _ hN10 => ?_
      refine w_reg ?_
      refine stp hA (r_mv hA rfl) rfl fun a hA => 
        stp hA (r_mv hA rfl) rfl fun a hA => 
        stp hA (r_lss hA rfl rfl) rfl fun a hA => ?_
      refine o_nil ?_
      refine hN10 _ _ ?_
      refine w_cond hA rfl (fun hc2 => ?_) (fun hc2 => ?_)
      · have hc20 := hc2; have hc2 := of_decide_eq_true hc2; have H := bT H hc2
        refine w_skip ?_
        refine hN9 _ _ ?_
        refine w_seq fun _ hN11 => ?_
        refine w_block ?_
        refine w_reg ?_
        refine stp hA (r_mv hA rfl) rfl fun a hA => 
          stp hA (r_mv hA rfl) rfl fun a hA => 
          stp hA (r_mv hA rfl) rfl fun a hA => ?_
        obtain ⟨hb2, H⟩ := bG H
        refine stp hA (r_rix (j := 0) Try.underlying22 sz5 hI rfl hA rfl rfl hb2.1 hb2.2) rfl fun a hA => ?_
        have hE2 := els_set (x := x1) ws2 s1.toNat hx1
        refine o_rst (j := 0) (q := s1.toNat) (z := x1) (xs := s2) sz5 hI rfl hA rfl rfl (by simp only [Nat.mul_one]) rfl (by omega) fun w hI => ?_
        refine o_nil ?_
        refine hN11 _ _ ?_
        refine w_reg ?_
        refine stp hA (r_mv hA rfl) rfl fun a hA => 
          stp hA (r_add hA rfl rfl) rfl fun a hA => 
          stp hA (r_as hA rfl) rfl fun a hA => ?_
        refine o_nil ?_
        exact ⟨m1, Nat.lt_succ_self _, IntKind.i64.wrap (s1 + 1), s2.set s1.toNat x1, ccs2.set s1.toNat (.int .u8 x1), H, (wrap_in _ _), hE2, hA.sub ⟨rfl, rfl, rfl, rfl, rfl, rfl, rfl, trivial⟩, hI⟩
      · have hc20 := hc2; have hc2 := of_decide_eq_false hc2; have H := bF H hc2
        refine w_exit rfl ?_
        have H : some s2 = some z1 := H
        obtain rfl := Option.some.inj H
        have H := Hk2
        cases Option.some.inj (bS H)
        exact ⟨ccs2, ws2, hA.sub ⟨rfl, rfl, rfl, rfl, rfl, rfl, trivial⟩, hI⟩
    · rintro a w ⟨ccc1, wc1, hA, hI⟩
      have H := Hk1
      refine w_seq fun _ hN12 => ?_
      refine w_reg ?_
      refine stp hA (r_mv hA rfl) rfl fun a hA => ?_
      obtain ⟨r3, hr3, H⟩ := bB H
      refine o_callp (u := .agg [av .u8 32 r3].flatten.toArray) cf30 hA rfl hI ((by obtain ⟨μ1, hle1, hsv1, hI⟩ := hI.freezeRow 0 rfl; have hS1 : Slc (RI .u8) 1 μ1 (.slice (some ⟨g1, 0, none⟩) ((IntKind.i64.wrap (r2 + 40)).toNat) ((IntKind.i64.wrap (r2 + 40)).toNat)) c1 := ⟨_, wc1, hsv1⟩; exact low_plain hle1 (digest_Sha.c μ1 _ hI.agr c1 (.slice (some ⟨g1, 0, none⟩) ((IntKind.i64.wrap (r2 + 40)).toNat) ((IntKind.i64.wrap (r2 + 40)).toNat)) hS1 r3 hr3))) rfl fun a w hz5 hI hA => 
        o_new [av .u8 32 (List.replicate 32 0)] zr33 hI hA rfl fun g2 a w hA hI hg2 => 
        o_st (j := 0) [] [av .u8 32 (List.replicate 32 0)] [av .u8 32 r3] [] sz33 rfl rfl (fl_cons (one_av _ _ _) fl_nil) hI rfl hA rfl rfl rfl rfl fun w hI => ?_
      refine o_nil ?_
      refine hN12 _ _ ?_
      refine w_seq fun _ hN13 => ?_
      refine w_reg ?_
      refine stp hA (r_mv hA rfl) rfl fun a hA => ?_
      obtain ⟨r4, hr4, H⟩ := bB H
      refine o_callp (u := .agg [av .u8 32 r4].flatten.toArray) cf32 hA rfl hI ((by obtain ⟨μ2, hle2, hsv2, hI⟩ := hI.freezeRow 1 rfl; have hS2 : Slc (RI .u8) 1 μ2 (.slice (some ⟨g1, 0, none⟩) ((IntKind.i64.wrap (r2 + 40)).toNat) ((IntKind.i64.wrap (r2 + 40)).toNat)) c1 := ⟨_, wc1, hsv2⟩; exact low_plain hle2 (digest_Twice.c μ2 _ hI.agr c1 (.slice (some ⟨g1, 0, none⟩) ((IntKind.i64.wrap (r2 + 40)).toNat) ((IntKind.i64.wrap (r2 + 40)).toNat)) hS2 r4 hr4))) rfl fun a w hz6 hI hA => 
        o_new [av .u8 32 (List.replicate 32 0)] zr33 hI hA rfl fun g3 a w hA hI hg3 => 
        o_st (j := 0) [] [av .u8 32 (List.replicate 32 0)] [av .u8 32 r4] [] sz33 rfl rfl (fl_cons (one_av _ _ _) fl_nil) hI rfl hA rfl rfl rfl rfl fun w hI => ?_
      refine o_nil ?_
      refine hN13 _ _ ?_
      obtain ⟨c2, hz7, Hk3⟩ := bB H
      refine w_cut (fun a w => Fr a 44 [(0, .int .i64 (IntKind.i64.wrap (r2 + 40))), (1, .int .u8 x1), (4, .bool c2), (5, .bool r1), (6, (.slice (some ⟨g1, 0, none⟩) ((IntKind.i64.wrap (r2 + 40)).toNat) ((IntKind.i64.wrap (r2 + 40)).toNat))), (8, .pointer (some ⟨g2, 0, none⟩)), (9, .pointer (some ⟨g3, 0, none⟩)), (12, .bool (!r1))] ∧ Iv w0 [] μ μ [cel g3 [av .u8 32 r4] 33, cel g2 [av .u8 32 r3] 33, row 5 1 (.slice (some ⟨g1, 0, none⟩) ((IntKind.i64.wrap (r2 + 40)).toNat) ((IntKind.i64.wrap (r2 + 40)).toNat)) c1.length ccc1] w) ?_ ?_
      · have H := bI hz7
        refine w_any [] mo hI fun w hI => ?_
        refine g_easy (i := 0) hA rfl rfl (by kernel_rfl) (.inr hI) (fun _ => r_mv hA rfl) rfl fun a hA => ?_
        refine g_easy (i := 1) hA rfl rfl (by kernel_rfl) (.inr hI) (fun _ => r_mv hA rfl) rfl fun a hA => ?_
        rcases Bool.eq_false_or_eq_true r1 with hc3 | hc3
        · have hc30 := hc3; have H := bT H hc3
          refine g_take (i := 2) hA rfl (wanted_yes hA rfl rfl hc30) (by kernel_rfl) hI (fun w hI => r_ldA (j := 1) [] [av .u8 32 r3] [] Try.underlying33 rfl sz33 rfl hI rfl hA rfl rfl) rfl fun a hA => ?_
          refine g_easy (i := 3) hA rfl (wanted_yes hA rfl rfl hc30) (by kernel_rfl) (.inr hI) (fun _ => r_mv hA rfl) rfl fun a hA => ?_
          refine g_forced (i := 4) rfl (by kernel_rfl) ?_
          refine o_yes hA rfl rfl hc30 <| ?_
          obtain ⟨r5, hr5, H⟩ := bB H
          refine o_callp (u := .agg [av .u8 32 r5].flatten.toArray) cf33 hA rfl hI ((by obtain ⟨μ3, hle3, hsv3, hI⟩ := hI.freezeRow 2 rfl; have hS3 : Slc (RI .u8) 1 μ3 (.slice (some ⟨g1, 0, none⟩) ((IntKind.i64.wrap (r2 + 40)).toNat) ((IntKind.i64.wrap (r2 + 40)).toNat)) c1 := ⟨_, wc1, hsv3⟩; exact low_plain hle3 (sargassoref1_Sha.c μ3 _ hI.agr c1 (.slice (some ⟨g1, 0, none⟩) ((IntKind.i64.wrap (r2 + 40)).toNat) ((IntKind.i64.wrap (r2 + 40)).toNat)) hS3 r5 hr5))) rfl fun a w hz8 hI hA => ?_
          refine o_nil ?_
          refine ⟨(.inr hI), ?_⟩
          refine g_forced (i := 5) rfl (by kernel_rfl) ?_
          refine o_yes hA rfl rfl hc30 <| ?_
          obtain ⟨r6, hr6, H⟩ := bB H
          refine o_callp (u := .bool r6) cf28 hA rfl hI (sargassoref_SameHash.c μ _ hI.agr r3 hz5 r5 hz8 r6 hr6) rfl fun a w hz9 hI hA => ?_
          refine o_nil ?_
          refine ⟨(.inr hI), ?_⟩
          refine g_easy (i := 6) hA rfl rfl (by kernel_rfl) (.inr hI) (fun _ => r_pick_t hA rfl hc30 rfl) rfl fun a hA => ?_
          refine g_easy (i := 7) hA rfl rfl (by kernel_rfl) (.inr hI) (fun _ => r_mv hA rfl) rfl fun a hA => ?_
          rcases Bool.eq_false_or_eq_true r6 with hc4 | hc4
          · have hc40 := hc4; have H := bT H hc4
            refine g_take (i := 8) hA rfl (wanted_yes hA rfl rfl hc40) (by kernel_rfl) hI (fun w hI => r_ldA (j := 0) [] [av .u8 32 r4] [] Try.underlying33 rfl sz33 rfl hI rfl hA rfl rfl) rfl fun a hA => ?_
            refine g_easy (i := 9) hA rfl (wanted_yes hA rfl rfl hc40) (by kernel_rfl) (.inr hI) (fun _ => r_slv (i := 0) (j := 32) Try.underlying33 sz5 hA rfl rfl rfl (by decide) (by decide) (by decide) (by decide) rfl) rfl fun a hA => ?_
            refine g_forced (i := 10) rfl (by kernel_rfl) ?_
            refine o_yes hA rfl rfl hc40 <| ?_
            obtain ⟨r7, hr7, H⟩ := bB H
            refine o_callp (u := .agg [av .u8 32 r7].flatten.toArray) cf30 hA rfl hI ((by obtain ⟨μ4, hle4, hat1, hI⟩ := hI.freezeCel 1 rfl; have hS4 : Slc (RI .u8) 1 μ4 (.slice (some ⟨g2, 0, none⟩) 32 32) (r3) := slc_view0 [] [] hat1 hz5 rfl (by decide); exact low_plain hle4 (digest_Sha.c μ4 _ hI.agr r3 (.slice (some ⟨g2, 0, none⟩) 32 32) hS4 r7 hr7))) rfl fun a w hz10 hI hA => ?_
            refine o_nil ?_
            refine ⟨(.inr hI), ?_⟩
            refine g_forced (i := 11) rfl (by kernel_rfl) ?_
            refine o_yes hA rfl rfl hc40 <| ?_
            obtain ⟨r8, hr8, H⟩ := bB H
            refine o_callp (u := .bool r8) cf28 hA rfl hI (sargassoref_SameHash.c μ _ hI.agr r4 hz6 r7 hz10 r8 hr8) rfl fun a w hz11 hI hA => ?_
            refine o_nil ?_
            refine ⟨(.inr hI), ?_⟩
            refine g_easy (i := 12) hA rfl rfl (by kernel_rfl) (.inr hI) (fun _ => r_pick_t hA rfl hc40 rfl) rfl fun a hA => ?_
            refine g_easy (i := 13) hA rfl rfl (by kernel_rfl) (.inr hI) (fun _ => r_as hA rfl) rfl fun a hA => ?_
            refine g_nil (by kernel_rfl) ?_
            cases Option.some.inj (bS H)
            exact ⟨hA.sub ⟨rfl, rfl, rfl, rfl, rfl, rfl, rfl, rfl, trivial⟩, hI⟩
          · have hc40 := hc4; have hc4 := ft hc4; have H := bF H hc4
            refine g_skip (i := 8) hA rfl (wanted_no hA rfl rfl (by rw [hc40]; simp [vb])) (by kernel_rfl) (.inr hI) rfl fun a hA => ?_
            refine g_skip (i := 9) hA rfl (wanted_no hA rfl rfl (by rw [hc40]; simp [vb])) (by kernel_rfl) (.inr hI) rfl fun a hA => ?_
            refine g_skip (i := 10) hA rfl (wanted_no hA rfl rfl (by rw [hc40]; simp [vb])) (by kernel_rfl) (.inr hI) rfl fun a hA => ?_
            refine g_skip (i := 11) hA rfl (wanted_no hA rfl rfl (by rw [hc40]; simp [vb])) (by kernel_rfl) (.inr hI) rfl fun a hA => ?_
            refine g_easy (i := 12) hA rfl rfl (by kernel_rfl) (.inr hI) (fun _ => r_pick_f hA rfl hc40 rfl) rfl fun a hA => ?_
            refine g_easy (i := 13) hA rfl rfl (by kernel_rfl) (.inr hI) (fun _ => r_as hA rfl) rfl fun a hA => ?_
            refine g_nil (by kernel_rfl) ?_
            cases Option.some.inj (bS H)
            exact ⟨hA.sub ⟨rfl, rfl, rfl, rfl, rfl, rfl, rfl, rfl, trivial⟩, hI⟩
        · have hc30 := hc3; have hc3 := ft hc3; have H := bF H hc3
          refine g_skip (i := 2) hA rfl (wanted_no hA rfl rfl (by rw [hc30]; simp [vb])) (by kernel_rfl) (.inr hI) rfl fun a hA => ?_
          refine g_skip (i := 3) hA rfl (wanted_no hA rfl rfl (by rw [hc30]; simp [vb])) (by kernel_rfl) (.inr hI) rfl fun a hA => ?_
          refine g_skip (i := 4) hA rfl (wanted_no hA rfl rfl (by rw [hc30]; simp [vb])) (by kernel_rfl) (.inr hI) rfl fun a hA => ?_
          refine g_skip (i := 5) hA rfl (wanted_no hA rfl rfl (by rw [hc30]; simp [vb])) (by kernel_rfl) (.inr hI) rfl fun a hA => ?_
          refine g_easy (i := 6) hA rfl rfl (by kernel_rfl) (.inr hI) (fun _ => r_pick_f hA rfl hc30 rfl) rfl fun a hA => ?_
          refine g_easy (i := 7) hA rfl rfl (by kernel_rfl) (.inr hI) (fun _ => r_mv hA rfl) rfl fun a hA => ?_
          refine g_skip (i := 8) hA rfl (wanted_no hA rfl rfl (by simp [vb])) (by kernel_rfl) (.inr hI) rfl fun a hA => ?_
          refine g_skip (i := 9) hA rfl (wanted_no hA rfl rfl (by simp [vb])) (by kernel_rfl) (.inr hI) rfl fun a hA => ?_
          refine g_skip (i := 10) hA rfl (wanted_no hA rfl rfl (by simp [vb])) (by kernel_rfl) (.inr hI) rfl fun a hA => ?_
          refine g_skip (i := 11) hA rfl (wanted_no hA rfl rfl (by simp [vb])) (by kernel_rfl) (.inr hI) rfl fun a hA => ?_
          refine g_easy (i := 12) hA rfl rfl (by kernel_rfl) (.inr hI) (fun _ => r_pick_f hA rfl rfl rfl) rfl fun a hA => ?_
          refine g_easy (i := 13) hA rfl rfl (by kernel_rfl) (.inr hI) (fun _ => r_as hA rfl) rfl fun a hA => ?_
          refine g_nil (by kernel_rfl) ?_
          cases Option.some.inj (bS H)
          exact ⟨hA.sub ⟨rfl, rfl, rfl, rfl, rfl, rfl, rfl, rfl, trivial⟩, hI⟩
      · rintro a w ⟨hA, hI⟩
        have H := Hk3
        refine w_ret ?_
        obtain rfl := Option.some.inj (bS H)
        exact ret1 hA Try.results4 rfl ⟨_, rfl, rfl, trivial, hI.forget0⟩
end Go.Proofs.Ytnbnnphlffhgiaa.T
