/- A helper of this seat's claims: printed by gen.py. It proves no statement by itself. -/
import Derived.Test.YtnbnnphlffhgiaaCH
import Derived.Test.YtnbnnphlffhgiaaGDigestParts
namespace Go.Proofs.Ytnbnnphlffhgiaa.T
open Go Go.Proofs Go.Proofs.Ytnbnnphlffhgiaa.K
set_option linter.unusedVariables false
set_option linter.unusedSimpArgs false
/-! sargassolaw1.DigestParts: function 3 -/
set_option maxRecDepth 20000 in
theorem sargassolaw1_DigestParts.c (μ : Store) (w0 : World) (hμ : Agr μ w0) (x0 : List Int) (u0 : Value) (hx0 : Slc (RI .u8) 1 μ u0 x0) (x1 : List Int) (u1 : Value) (hx1 : Slc (RI .i64) 1 μ u1 x1) (r : Bool) (H : sargassolaw1_DigestParts.f x0 x1 = some r) :
    Calls Try.prog 3 [u0, u1].toArray w0 (fun e w' => ∃ v, e = .returned v ∧ v = .bool r ∧ True ∧ Iv w0 [] μ μ [] w') := by
  refine enter Try.func3 rfl Try.ntmps3 rfl fun a hA => ?_
  have hI := Iv.start hμ
  have H := bI H
  refine w_seq fun _ hN1 => ?_
  refine w_reg ?_
  refine stp hA (r_as hA rfl) rfl fun a hA => ?_
  refine o_nil ?_
  refine hN1 _ _ ?_
  refine w_seq fun _ hN2 => ?_
  refine w_reg ?_
  obtain ⟨r1, hr1, H⟩ := bB H
  refine o_callp (u := .bool r1) cf25 hA rfl hI (sargassolaw1_first.c μ _ hI.agr  r1 hr1) rfl fun a w hz1 hI hA => 
    stp hA (r_as hA rfl) rfl fun a hA => ?_
  refine o_nil ?_
  refine hN2 _ _ ?_
  refine w_seq fun _ hN3 => ?_
  refine w_seq fun _ hN4 => ?_
  refine w_reg ?_
  refine stp hA (r_mv hA rfl) rfl fun a hA => 
    stp hA (r_not hA rfl) rfl fun a hA => ?_
  refine o_nil ?_
  refine hN4 _ _ ?_
  refine w_cond hA rfl (fun hc1 => ?_) (fun hc1 => ?_)
  · have hc10 := hc1; have hc1 := nT hc1; have hc1 := ft hc1; have H := bF H hc1
    refine w_seq fun _ hN5 => ?_
    refine w_reg ?_
    refine stp hA (r_as hA rfl) rfl fun a hA => ?_
    refine o_nil ?_
    refine hN5 _ _ ?_
    refine w_ret ?_
    obtain rfl := Option.some.inj (bS H)
    exact ret1 hA Try.results3 rfl ⟨_, rfl, rfl, trivial, hI.forget0⟩
  · have hc10 := hc1; have hc1 := nF hc1; have H := bT H hc1
    refine w_skip ?_
    refine hN3 _ _ ?_
    refine w_seq fun _ hN6 => ?_
    obtain ⟨c1, hz2, Hk1⟩ := bB H
    refine w_cut (fun a w => Fr a 77 [(0, u0), (1, u1), (4, .bool false), (5, .bool r1), (12, .bool (!r1)), (20, .bool c1)] ∧ Iv w0 [] μ μ [] w) ?_ ?_
    · have H := bI hz2
      refine w_reg ?_
      refine stp hA (r_mv hA rfl) rfl fun a hA => ?_
      obtain ⟨_, hsl1⟩ := Slc.sv hx0
      refine stp hA (r_slen Try.underlying22 hsl1 hA rfl) rfl fun a hA => 
        stp hA (r_gtr hA rfl rfl) rfl fun a hA => 
        stp hA (r_mv hA rfl) rfl fun a hA => ?_
      rcases Bool.eq_false_or_eq_true (decide (400 < (x0.length : Int))) with hc2 | hc2
      · have hc20 := hc2; have hc2 := of_decide_eq_true hc2; have H := bT H hc2
        refine o_no hA rfl rfl (by rw [hc20]; simp [vb]) rfl fun a hA => 
          o_no hA rfl rfl (by rw [hc20]; simp [vb]) rfl fun a hA => 
          o_no hA rfl rfl (by rw [hc20]; simp [vb]) rfl fun a hA => 
          stp hA (r_pick_t hA rfl hc20 rfl) rfl fun a hA => ?_
        refine o_nil ?_
        cases Option.some.inj (bS H)
        exact ⟨hA.sub ⟨rfl, rfl, rfl, rfl, rfl, rfl, trivial⟩, hI⟩
      · have hc20 := hc2; have hc2 := of_decide_eq_false hc2; have H := bF H hc2
        refine o_yes hA rfl rfl hc20 <| 
          stp hA (r_mv hA rfl) rfl fun a hA => 
          o_yes hA rfl rfl hc20 <| ?_
        obtain ⟨_, hsl2⟩ := Slc.sv hx1
        refine stp hA (r_slen Try.underlying23 hsl2 hA rfl) rfl fun a hA => 
          o_yes hA rfl rfl hc20 <| 
          stp hA (r_gtr hA rfl rfl) rfl fun a hA => 
          stp hA (r_pick_f hA rfl hc20 rfl) rfl fun a hA => ?_
        refine o_nil ?_
        cases Option.some.inj (bS H)
        exact ⟨hA.sub ⟨rfl, rfl, rfl, rfl, rfl, rfl, trivial⟩, hI⟩
    · rintro a w ⟨hA, hI⟩
      have H := Hk1
      refine w_cond hA rfl (fun hc3 => ?_) (fun hc3 => ?_)
      · have hc30 := hc3; have H := bT H hc3
        refine w_seq fun _ hN7 => ?_
        refine w_reg ?_
        refine stp hA (r_mv hA rfl) rfl fun a hA => 
          stp hA (r_as hA rfl) rfl fun a hA => ?_
        refine o_nil ?_
        refine hN7 _ _ ?_
        refine w_ret ?_
        obtain rfl := Option.some.inj (bS H)
        exact ret1 hA Try.results3 rfl ⟨_, rfl, rfl, trivial, hI.forget0⟩
      · have hc30 := hc3; have hc3 := ft hc3; have H := bF H hc3
        refine w_skip ?_
        refine hN6 _ _ ?_
        refine w_seq fun _ hN8 => ?_
        refine w_reg ?_
        refine o_new [av .u32 8 (List.replicate 8 0), [(.slice none 0 0)], [.int .i64 0]] zr28 hI hA rfl fun g1 a w hA hI hg1 => ?_
        refine o_nil ?_
        refine hN8 _ _ ?_
        refine w_seq fun _ hN9 => ?_
        refine w_reg ?_
        refine stp hA (r_as hA rfl) rfl fun a hA => ?_
        refine o_nil ?_
        refine hN9 _ _ ?_
        refine w_seq fun _ hN10 => ?_
        refine w_seq fun _ hN11 => ?_
        refine w_reg ?_
        refine stp hA (r_as hA rfl) rfl fun a hA => ?_
        refine o_nil ?_
        refine hN11 _ _ ?_
        refine w_block ?_
        have hI := hI.nilRow 5 1
        obtain ⟨z1, hz3, Hk2⟩ := bind_some H
        obtain ⟨n1, hn1⟩ := loopO_some hz3
        refine w_loop (fun n a w => ∃ (s1 : Int) (s2 : Int) (s3 : List Int) (s4 : List Int) (s5 : Int) (vvs4 : Value) (ccs4 : List Value), loopN (sargassolaw1_DigestParts.s0 x0 x1 r1) n (s1, s2, s3, s4, s5) = some z1 ∧ InR .i64 s1 ∧ InR .i64 s2 ∧ Arr .u32 8 s3 ∧ Els (RI .u8) 1 s4 ccs4 ∧ InR .i64 s5 ∧ Fr a 77 [(0, u0), (1, u1), (4, .bool false), (5, .bool r1), (6, .pointer (some ⟨g1, 0, none⟩)), (7, .int .i64 s1), (8, .int .i64 s2), (12, .bool (!r1)), (20, .bool c1)] ∧ Iv w0 [] μ μ [row 5 1 vvs4 s4.length ccs4, cel g1 [av .u32 8 s3, [vvs4], [.int .i64 s5]] 28] w) n1 ⟨0, 0, (List.replicate 8 0), [], 0, (.slice none 0 0), [], hn1, (in_lit .i64 0 rfl), (in_lit .i64 0 rfl), (arr_zero _ _), (Els.nil (RE := (RI .u8)) (sz := 1)), (in_lit .i64 0 rfl), hA.sub ⟨rfl, rfl, rfl, rfl, rfl, rfl, rfl, rfl, rfl, trivial⟩, hI⟩ ?_
        clear hA hI
        rintro n a w ⟨s1, s2, s3, s4, s5, vvs4, ccs4, hn1, ws1, ws2, ws3, ws4, ws5, hA, hI⟩
        obtain ⟨m1, rfl, H⟩ := loopN_bind hn1
        clear hn1
        refine w_seq fun _ hN12 => ?_
        refine w_seq fun _ hN13 => ?_
        refine w_reg ?_
        refine stp hA (r_mv hA rfl) rfl fun a hA => 
          stp hA (r_mv hA rfl) rfl fun a hA => ?_
        obtain ⟨_, hsl3⟩ := Slc.sv hx1
        refine stp hA (r_slen Try.underlying23 hsl3 hA rfl) rfl fun a hA => 
          stp hA (r_lss hA rfl rfl) rfl fun a hA => ?_
        refine o_nil ?_
        refine hN13 _ _ ?_
        refine w_cond hA rfl (fun hc4 => ?_) (fun hc4 => ?_)
        · have hc40 := hc4; have hc4 := of_decide_eq_true hc4; have H := bT H hc4
          refine w_skip ?_
          refine hN12 _ _ ?_
          refine w_seq fun _ hN14 => ?_
          refine w_block ?_
          refine w_seq fun _ hN15 => ?_
          refine w_reg ?_
          refine stp hA (r_mv hA rfl) rfl fun a hA => 
            stp hA (r_mv hA rfl) rfl fun a hA => ?_
          obtain ⟨hb1, H⟩ := bG H
          obtain ⟨_, he1, _, hat1⟩ := Slc.elem1 hx1 (getD_some 0 hb1.1 hb1.2)
          obtain ⟨rfl, hw1⟩ := he1
          obtain ⟨_, hsl4⟩ := Slc.sv hx1
          refine stp hA (r_six1 Try.underlying23 sz3 hsl4 hA rfl rfl hb1.1 hb1.2) rfl fun a hA => 
            stp hA (r_ldm1 [] [] Try.underlying3 rfl hI.agr hat1 hA rfl rfl) rfl fun a hA => 
            stp hA (r_mv hA rfl) rfl fun a hA => ?_
          obtain ⟨_, hsl5⟩ := Slc.sv hx0
          refine stp hA (r_slen Try.underlying22 hsl5 hA rfl) rfl fun a hA => 
            stp hA (r_mv hA rfl) rfl fun a hA => 
            stp hA (r_sub hA rfl rfl) rfl fun a hA => 
            stp hA (r_add hA rfl rfl) rfl fun a hA => ?_
          obtain ⟨r2, hr2, H⟩ := bB H
          refine o_callp (u := .int .i64 r2) cf26 hA rfl hI (sargassoworld_Number.c μ _ hI.agr (x1.getD s2.toNat 0) hw1 (IntKind.i64.wrap ((IntKind.i64.wrap ((x0.length : Int) - s1)) + 1)) (wrap_in _ _) r2 hr2) rfl fun a w hz4 hI hA => 
            stp hA (r_as hA rfl) rfl fun a hA => ?_
          refine o_nil ?_
          refine hN15 _ _ ?_
          refine w_seq fun _ hN16 => ?_
          refine w_reg ?_
          refine stp hA (r_mv hA rfl) rfl fun a hA => 
            stp hA (r_mv hA rfl) rfl fun a hA => 
            stp hA (r_mv hA rfl) rfl fun a hA => 
            stp hA (r_mv hA rfl) rfl fun a hA => 
            stp hA (r_add hA rfl rfl) rfl fun a hA => ?_
          obtain ⟨hb2, H⟩ := bG H
          obtain ⟨v1, hS1, hr3⟩ := r_sl (P := Try.prog) (t := 22) (x := .tmp 38) (l := (some (.tmp 39))) (h := (some (.tmp 42))) (i := s1) (j := IntKind.i64.wrap (s1 + r2)) Try.underlying22 sz5 hx0 hA rfl rfl rfl (by have hq := hb2; omega) (by have hq := hb2; omega) (by have hq := hb2; omega)
          refine stp hA (hr3 _ _ _ _ _ _) rfl fun a hA => ?_
          obtain ⟨r3, hr4, H⟩ := bB H
          have hI := hI.sel [1, 0] (by decide) rfl
          refine o_call _ cf27 hA rfl (digest_Writer_Write.c μ _ hI.agr (⟨s3, s4, s5⟩ : digestWriter) vvs4 ccs4 g1 ws3 ws4 ws5 (hI.handN 2) ((x0.take (IntKind.i64.wrap (s1 + r2)).toNat).drop (s1).toNat) v1 hS1 r3 hr4) rfl fun v2 a w hz5 hA => ?_
          obtain ⟨vp1, cp1, rfl, hp1, hp2, hp3, hi1⟩ := hz5
          have hI := hI.backN 2 hi1
          have hI : Iv w0 [] μ μ [cel g1 [av .u32 8 r3.s, [vp1], [.int .i64 r3.n]] 28, row 5 1 vp1 r3.rest.length cp1] w := hI
          refine o_nil ?_
          refine hN16 _ _ ?_
          refine w_seq fun _ hN17 => ?_
          refine w_reg ?_
          refine stp hA (r_mv hA rfl) rfl fun a hA => 
            stp hA (r_mv hA rfl) rfl fun a hA => 
            stp hA (r_add hA rfl rfl) rfl fun a hA => 
            stp hA (r_as hA rfl) rfl fun a hA => ?_
          refine o_nil ?_
          refine hN17 _ _ ?_
          obtain ⟨c2, hz6, Hk3⟩ := bB H
          refine w_cut (fun a w => Fr a 77 [(0, u0), (1, u1), (4, .bool false), (5, .bool r1), (6, .pointer (some ⟨g1, 0, none⟩)), (7, .int .i64 (IntKind.i64.wrap (s1 + r2))), (8, .int .i64 s2), (9, .int .i64 r2), (12, .bool (!r1)), (20, .bool c1), (25, .bool (decide (s2 < (x1.length : Int)))), (59, .bool c2)] ∧ Iv w0 [] μ μ [cel g1 [av .u32 8 r3.s, [vp1], [.int .i64 r3.n]] 28, row 5 1 vp1 r3.rest.length cp1] w) ?_ ?_
          · have H := bI hz6
            refine w_any [] mo hI fun w hI => ?_
            refine g_easy (i := 1) hA rfl rfl (by kernel_rfl) (.inr hI) (fun _ => r_mv hA rfl) rfl fun a hA => ?_
            refine g_easy (i := 2) hA rfl rfl (by kernel_rfl) (.inr hI) (fun _ => r_mv hA rfl) rfl fun a hA => ?_
            obtain ⟨hb3, H⟩ := bG H
            obtain ⟨v3, hS2, hr5⟩ := r_sl (P := Try.prog) (t := 22) (x := .tmp 49) (l := none) (h := (some (.tmp 50))) (i := 0) (j := IntKind.i64.wrap (s1 + r2)) Try.underlying22 sz5 hx0 hA rfl rfl rfl (by have hq := hb3; omega) (by have hq := hb3; omega) (by have hq := hb3; omega)
            refine g_easy (i := 3) hA rfl rfl (by kernel_rfl) (.inr hI) (fun _ => hr5 _ _ _ _ _ _) rfl fun a hA => ?_
            refine g_forced (i := 0) rfl (by kernel_rfl) ?_
            obtain ⟨r4, hr6, H⟩ := bB H
            refine o_call _ cf29 hA rfl (digest_Writer_Sum.c μ _ hI.agr (⟨r3.s, r3.rest, r3.n⟩ : digestWriter) vp1 cp1 g1 hp1 hp2 hp3 (hI.handN 2) r4 hr6) rfl fun v4 a w hz7 hA => ?_
            obtain ⟨rfl, hw2, hi2⟩ := hz7
            have hI := hI.backN 2 hi2
            have hI : Iv w0 [] μ μ [cel g1 [av .u32 8 r3.s, [vp1], [.int .i64 r3.n]] 28, row 5 1 vp1 r3.rest.length cp1] w := hI
            refine o_nil ?_
            refine ⟨(.inr hI), ?_⟩
            refine g_forced (i := 4) rfl (by kernel_rfl) ?_
            obtain ⟨r5, hr7, H⟩ := bB H
            refine o_callp (u := .agg [av .u8 32 r5].flatten.toArray) cf30 hA rfl hI (digest_Sha.c μ _ hI.agr ((x0.take (IntKind.i64.wrap (s1 + r2)).toNat).drop (0 : Int).toNat) v3 hS2 r5 hr7) rfl fun a w hz8 hI hA => ?_
            refine o_nil ?_
            refine ⟨(.inr hI), ?_⟩
            refine g_forced (i := 5) rfl (by kernel_rfl) ?_
            obtain ⟨r6, hr8, H⟩ := bB H
            refine o_callp (u := .bool r6) cf28 hA rfl hI (sargassoref_SameHash.c μ _ hI.agr r4 hw2 r5 hz8 r6 hr8) rfl fun a w hz9 hI hA => ?_
            refine o_nil ?_
            refine ⟨(.inr hI), ?_⟩
            refine g_easy (i := 6) hA rfl rfl (by kernel_rfl) (.inr hI) (fun _ => r_not hA rfl) rfl fun a hA => ?_
            refine g_easy (i := 7) hA rfl rfl (by kernel_rfl) (.inr hI) (fun _ => r_mv hA rfl) rfl fun a hA => ?_
            rcases Bool.eq_false_or_eq_true (!r6) with hc5 | hc5
            · have hc50 := hc5; have hc5 := nT hc5; have hc5 := ft hc5; have H := bF H hc5
              refine g_skip (i := 9) hA rfl (wanted_no hA rfl rfl (by rw [hc50]; simp [vb])) (by kernel_rfl) (.inr hI) rfl fun a hA => ?_
              refine g_skip (i := 8) hA rfl (wanted_no hA rfl rfl (by rw [hc50]; simp [vb])) (by kernel_rfl) (.inr hI) rfl fun a hA => ?_
              refine g_skip (i := 10) hA rfl (wanted_no hA rfl rfl (by rw [hc50]; simp [vb])) (by kernel_rfl) (.inr hI) rfl fun a hA => ?_
              refine g_easy (i := 11) hA rfl rfl (by kernel_rfl) (.inr hI) (fun _ => r_pick_t hA rfl hc50 rfl) rfl fun a hA => ?_
              refine g_nil (by kernel_rfl) ?_
              cases Option.some.inj (bS H)
              exact ⟨hA.sub ⟨rfl, rfl, rfl, rfl, rfl, rfl, rfl, rfl, rfl, rfl, rfl, rfl, trivial⟩, hI⟩
            · have hc50 := hc5; have hc5 := nF hc5; have H := bT H hc5
              refine g_easy (i := 9) hA rfl (wanted_yes hA rfl rfl hc50) (by kernel_rfl) (.inr hI) (fun _ => r_mv hA rfl) rfl fun a hA => ?_
              refine g_forced (i := 8) rfl (by kernel_rfl) ?_
              refine o_yes hA rfl rfl hc50 <| ?_
              obtain ⟨r7, hr9, H⟩ := bB H
              refine o_call _ cf31 hA rfl (digest_Writer_Len.c μ _ hI.agr (⟨r3.s, r3.rest, r3.n⟩ : digestWriter) vp1 cp1 g1 hp1 hp2 hp3 (hI.handN 2) r7 hr9) rfl fun v5 a w hz10 hA => ?_
              obtain ⟨rfl, hw3, hi3⟩ := hz10
              have hI := hI.backN 2 hi3
              have hI : Iv w0 [] μ μ [cel g1 [av .u32 8 r3.s, [vp1], [.int .i64 r3.n]] 28, row 5 1 vp1 r3.rest.length cp1] w := hI
              refine o_nil ?_
              refine ⟨(.inr hI), ?_⟩
              refine g_easy (i := 10) hA rfl (wanted_yes hA rfl rfl hc50) (by kernel_rfl) (.inr hI) (fun _ => r_neq hA rfl rfl) rfl fun a hA => ?_
              refine g_easy (i := 11) hA rfl rfl (by kernel_rfl) (.inr hI) (fun _ => r_pick_f hA rfl hc50 rfl) rfl fun a hA => ?_
              refine g_nil (by kernel_rfl) ?_
              cases Option.some.inj (bS H)
              exact ⟨hA.sub ⟨rfl, rfl, rfl, rfl, rfl, rfl, rfl, rfl, rfl, rfl, rfl, rfl, trivial⟩, hI⟩
          · rintro a w ⟨hA, hI⟩
            have H := Hk3
            refine w_cond hA rfl (fun hc6 => ?_) (fun hc6 => ?_)
            · have hc60 := hc6; have H := bT H hc6
              refine w_seq fun _ hN18 => ?_
              refine w_reg ?_
              refine stp hA (r_as hA rfl) rfl fun a hA => ?_
              refine o_nil ?_
              refine hN18 _ _ ?_
              refine w_ret ?_
              have H : some false = some z1 := H
              obtain rfl := Option.some.inj H
              have H := Hk2
              obtain rfl := Option.some.inj (bS H)
              exact ret1 hA Try.results3 rfl ⟨_, rfl, rfl, trivial, hI.forget0⟩
            · have hc60 := hc6; have hc6 := ft hc6; have H := bF H hc6
              refine w_skip ?_
              refine hN14 _ _ ?_
              refine w_reg ?_
              refine stp hA (r_mv hA rfl) rfl fun a hA => 
                stp hA (r_add hA rfl rfl) rfl fun a hA => 
                stp hA (r_as hA rfl) rfl fun a hA => ?_
              refine o_nil ?_
              exact ⟨m1, Nat.lt_succ_self _, IntKind.i64.wrap (s1 + r2), IntKind.i64.wrap (s2 + 1), r3.s, r3.rest, r3.n, vp1, cp1, H, (wrap_in _ _), (wrap_in _ _), hp1, hp2, hp3, hA.sub ⟨rfl, rfl, rfl, rfl, rfl, rfl, rfl, rfl, rfl, trivial⟩, (hI.sel [1, 0] (by decide) rfl)⟩
        · have hc40 := hc4; have hc4 := of_decide_eq_false hc4; have H := bF H hc4
          refine w_exit rfl ?_
          refine hN10 _ _ ?_
          refine w_seq fun _ hN19 => ?_
          refine w_reg ?_
          refine stp hA (r_mv hA rfl) rfl fun a hA => 
            stp hA (r_mv hA rfl) rfl fun a hA => ?_
          obtain ⟨hb4, H⟩ := bG H
          obtain ⟨v6, hS3, hr10⟩ := r_sl (P := Try.prog) (t := 22) (x := .tmp 60) (l := (some (.tmp 61))) (h := none) (i := s1) (j := (x0.length : Int)) Try.underlying22 sz5 hx0 hA rfl rfl rfl (by have hq := hb4; omega) (by have hq := hb4; omega) (by have hq := hb4; omega)
          refine stp hA (hr10 _ _ _ _ _ _) rfl fun a hA => ?_
          obtain ⟨r8, hr11, H⟩ := bB H
          have hI := hI.sel [1, 0] (by decide) rfl
          refine o_call _ cf27 hA rfl (digest_Writer_Write.c μ _ hI.agr (⟨s3, s4, s5⟩ : digestWriter) vvs4 ccs4 g1 ws3 ws4 ws5 (hI.handN 2) ((x0.take ((x0.length : Int)).toNat).drop (s1).toNat) v6 hS3 r8 hr11) rfl fun v7 a w hz11 hA => ?_
          obtain ⟨vp2, cp2, rfl, hp4, hp5, hp6, hi4⟩ := hz11
          have hI := hI.backN 2 hi4
          have hI : Iv w0 [] μ μ [cel g1 [av .u32 8 r8.s, [vp2], [.int .i64 r8.n]] 28, row 5 1 vp2 r8.rest.length cp2] w := hI
          refine o_nil ?_
          refine hN19 _ _ ?_
          obtain ⟨c3, hz12, Hk4⟩ := bB H
          refine w_cut (fun a w => Fr a 77 [(0, u0), (1, u1), (4, .bool c3), (5, .bool r1), (6, .pointer (some ⟨g1, 0, none⟩)), (7, .int .i64 s1), (8, .int .i64 s2), (12, .bool (!r1)), (20, .bool c1), (25, .bool (decide (s2 < (x1.length : Int))))] ∧ Iv w0 [] μ μ [cel g1 [av .u32 8 r8.s, [vp2], [.int .i64 r8.n]] 28, row 5 1 vp2 r8.rest.length cp2] w) ?_ ?_
          · have H := bI hz12
            refine w_reg ?_
            refine stp hA (r_mv hA rfl) rfl fun a hA => 
              stp hA (r_mv hA rfl) rfl fun a hA => ?_
            rcases Bool.eq_false_or_eq_true r1 with hc7 | hc7
            · have hc70 := hc7; have H := bT H hc7
              refine o_yes hA rfl rfl hc70 <| ?_
              obtain ⟨r9, hr12, H⟩ := bB H
              refine o_call _ cf29 hA rfl (digest_Writer_Sum.c μ _ hI.agr (⟨r8.s, r8.rest, r8.n⟩ : digestWriter) vp2 cp2 g1 hp4 hp5 hp6 (hI.handN 2) r9 hr12) rfl fun v8 a w hz13 hA => ?_
              obtain ⟨rfl, hw4, hi5⟩ := hz13
              have hI := hI.backN 2 hi5
              have hI : Iv w0 [] μ μ [cel g1 [av .u32 8 r8.s, [vp2], [.int .i64 r8.n]] 28, row 5 1 vp2 r8.rest.length cp2] w := hI
              refine o_yes hA rfl rfl hc70 <| 
                stp hA (r_mv hA rfl) rfl fun a hA => 
                o_yes hA rfl rfl hc70 <| ?_
              obtain ⟨r10, hr13, H⟩ := bB H
              refine o_callp (u := .agg [av .u8 32 r10].flatten.toArray) cf30 hA rfl hI (digest_Sha.c μ _ hI.agr x0 u0 hx0 r10 hr13) rfl fun a w hz14 hI hA => 
                o_yes hA rfl rfl hc70 <| ?_
              obtain ⟨r11, hr14, H⟩ := bB H
              refine o_callp (u := .bool r11) cf28 hA rfl hI (sargassoref_SameHash.c μ _ hI.agr r9 hw4 r10 hz14 r11 hr14) rfl fun a w hz15 hI hA => 
                stp hA (r_pick_t hA rfl hc70 rfl) rfl fun a hA => 
                stp hA (r_mv hA rfl) rfl fun a hA => ?_
              rcases Bool.eq_false_or_eq_true r11 with hc8 | hc8
              · have hc80 := hc8; have H := bT H hc8
                refine o_yes hA rfl rfl hc80 <| ?_
                obtain ⟨r12, hr15, H⟩ := bB H
                refine o_call _ cf31 hA rfl (digest_Writer_Len.c μ _ hI.agr (⟨r8.s, r8.rest, r8.n⟩ : digestWriter) vp2 cp2 g1 hp4 hp5 hp6 (hI.handN 2) r12 hr15) rfl fun v9 a w hz16 hA => ?_
                obtain ⟨rfl, hw5, hi6⟩ := hz16
                have hI := hI.backN 2 hi6
                have hI : Iv w0 [] μ μ [cel g1 [av .u32 8 r8.s, [vp2], [.int .i64 r8.n]] 28, row 5 1 vp2 r8.rest.length cp2] w := hI
                refine o_yes hA rfl rfl hc80 <| 
                  stp hA (r_mv hA rfl) rfl fun a hA => 
                  o_yes hA rfl rfl hc80 <| ?_
                obtain ⟨_, hsl6⟩ := Slc.sv hx0
                refine stp hA (r_slen Try.underlying22 hsl6 hA rfl) rfl fun a hA => 
                  o_yes hA rfl rfl hc80 <| 
                  stp hA (r_eql hA rfl rfl) rfl fun a hA => 
                  stp hA (r_pick_t hA rfl hc80 rfl) rfl fun a hA => 
                  stp hA (r_as hA rfl) rfl fun a hA => ?_
                refine o_nil ?_
                cases Option.some.inj (bS H)
                exact ⟨hA.sub ⟨rfl, rfl, rfl, rfl, rfl, rfl, rfl, rfl, rfl, rfl, trivial⟩, hI⟩
              · have hc80 := hc8; have hc8 := ft hc8; have H := bF H hc8
                refine o_no hA rfl rfl (by rw [hc80]; simp [vb]) rfl fun a hA => 
                  o_no hA rfl rfl (by rw [hc80]; simp [vb]) rfl fun a hA => 
                  o_no hA rfl rfl (by rw [hc80]; simp [vb]) rfl fun a hA => 
                  o_no hA rfl rfl (by rw [hc80]; simp [vb]) rfl fun a hA => 
                  stp hA (r_pick_f hA rfl hc80 rfl) rfl fun a hA => 
                  stp hA (r_as hA rfl) rfl fun a hA => ?_
                refine o_nil ?_
                cases Option.some.inj (bS H)
                exact ⟨hA.sub ⟨rfl, rfl, rfl, rfl, rfl, rfl, rfl, rfl, rfl, rfl, trivial⟩, hI⟩
            · have hc70 := hc7; have hc7 := ft hc7; have H := bF H hc7
              refine o_no hA rfl rfl (by rw [hc70]; simp [vb]) rfl fun a hA => 
                o_no hA rfl rfl (by rw [hc70]; simp [vb]) rfl fun a hA => 
                o_no hA rfl rfl (by rw [hc70]; simp [vb]) rfl fun a hA => 
                o_no hA rfl rfl (by rw [hc70]; simp [vb]) rfl fun a hA => 
                stp hA (r_pick_f hA rfl hc70 rfl) rfl fun a hA => 
                stp hA (r_mv hA rfl) rfl fun a hA => 
                o_no hA rfl rfl (by simp [vb]) rfl fun a hA => 
                o_no hA rfl rfl (by simp [vb]) rfl fun a hA => 
                o_no hA rfl rfl (by simp [vb]) rfl fun a hA => 
                o_no hA rfl rfl (by simp [vb]) rfl fun a hA => 
                stp hA (r_pick_f hA rfl rfl rfl) rfl fun a hA => 
                stp hA (r_as hA rfl) rfl fun a hA => ?_
              refine o_nil ?_
              cases Option.some.inj (bS H)
              exact ⟨hA.sub ⟨rfl, rfl, rfl, rfl, rfl, rfl, rfl, rfl, rfl, rfl, trivial⟩, hI⟩
          · rintro a w ⟨hA, hI⟩
            have H := Hk4
            refine w_ret ?_
            have H : some c3 = some z1 := H
            obtain rfl := Option.some.inj H
            have H := Hk2
            obtain rfl := Option.some.inj (bS H)
            exact ret1 hA Try.results3 rfl ⟨_, rfl, rfl, trivial, hI.forget0⟩
end Go.Proofs.Ytnbnnphlffhgiaa.T
