/- A helper of this seat's claims: printed by gen.py. It proves no statement by itself. -/
import Derived.Test.YtnbnnphlffhgiaaCH
import Derived.Test.YtnbnnphlffhgiaaGMerkleClimbs
namespace Go.Proofs.Ytnbnnphlffhgiaa.T
open Go Go.Proofs Go.Proofs.Ytnbnnphlffhgiaa.K
set_option linter.unusedVariables false
set_option linter.unusedSimpArgs false
/-! sargassolaw6.MerkleClimbs: function 19 -/
set_option maxRecDepth 20000 in
theorem sargassolaw6_MerkleClimbs.c (μ : Store) (w0 : World) (hμ : Agr μ w0) (x0 : List (List Int)) (u0 : Value) (hx0 : Slc (RA .u8 32) 32 μ u0 x0) (x1 : Int) (hx1 : InR .i64 x1) (r : Bool) (H : sargassolaw6_MerkleClimbs.f x0 x1 = some r) :
    Calls Try.prog 19 [u0, .int .i64 x1].toArray w0 (fun e w' => ∃ v, e = .returned v ∧ v = .bool r ∧ True ∧ Iv w0 [] μ μ [] w') := by
  refine enter Try.func19 rfl Try.ntmps19 rfl fun a hA => ?_
  have hI := Iv.start hμ
  have H := bI H
  refine w_seq fun _ hN1 => ?_
  refine w_reg ?_
  refine stp hA (r_as hA rfl) rfl fun a hA => ?_
  refine o_nil ?_
  refine hN1 _ _ ?_
  refine w_seq fun _ hN2 => ?_
  refine w_reg ?_
  obtain ⟨r1, hr1, H⟩ := bB H
  refine o_callp (u := .bool r1) cf71 hA rfl hI (sargassolaw6_first.c μ _ hI.agr  r1 hr1) rfl fun a w hz1 hI hA => 
    stp hA (r_as hA rfl) rfl fun a hA => ?_
  refine o_nil ?_
  refine hN2 _ _ ?_
  refine w_seq fun _ hN3 => ?_
  refine w_seq fun _ hN4 => ?_
  refine w_reg ?_
  refine stp hA (r_mv hA rfl) rfl fun a hA => 
    stp hA (r_not hA rfl) rfl fun a hA => ?_
  refine o_nil ?_
  refine hN4 _ _ ?_
  refine w_cond hA rfl (fun hc1 => ?_) (fun hc1 => ?_)
  · have hc10 := hc1; have hc1 := nT hc1; have hc1 := ft hc1; have H := bF H hc1
    refine w_seq fun _ hN5 => ?_
    refine w_reg ?_
    refine stp hA (r_as hA rfl) rfl fun a hA => ?_
    refine o_nil ?_
    refine hN5 _ _ ?_
    refine w_ret ?_
    obtain rfl := Option.some.inj (bS H)
    exact ret1 hA Try.results19 rfl ⟨_, rfl, rfl, trivial, hI.forget0⟩
  · have hc10 := hc1; have hc1 := nF hc1; have H := bT H hc1
    refine w_skip ?_
    refine hN3 _ _ ?_
    refine w_seq fun _ hN6 => ?_
    obtain ⟨c1, hz2, Hk1⟩ := bB H
    refine w_cut (fun a w => Fr a 118 [(0, u0), (1, .int .i64 x1), (4, .bool false), (5, .bool r1), (17, .bool (!r1)), (25, .bool c1)] ∧ Iv w0 [] μ μ [] w) ?_ ?_
    · have H := bI hz2
      refine w_reg ?_
      refine stp hA (r_mv hA rfl) rfl fun a hA => ?_
      obtain ⟨_, hsl1⟩ := Slc.sv hx0
      refine stp hA (r_slen Try.underlying80 hsl1 hA rfl) rfl fun a hA => 
        stp hA (r_eql hA rfl rfl) rfl fun a hA => 
        stp hA (r_mv hA rfl) rfl fun a hA => ?_
      rcases Bool.eq_false_or_eq_true (decide ((x0.length : Int) = 0)) with hc2 | hc2
      · have hc20 := hc2; have hc2 := of_decide_eq_true hc2; have H := bT H hc2
        refine o_no hA rfl rfl (by rw [hc20]; simp [vb]) rfl fun a hA => 
          o_no hA rfl rfl (by rw [hc20]; simp [vb]) rfl fun a hA => 
          o_no hA rfl rfl (by rw [hc20]; simp [vb]) rfl fun a hA => 
          stp hA (r_pick_t hA rfl hc20 rfl) rfl fun a hA => ?_
        refine o_nil ?_
        cases Option.some.inj (bS H)
        exact ⟨hA.sub ⟨rfl, rfl, rfl, rfl, rfl, rfl, trivial⟩, hI⟩
      · have hc20 := hc2; have hc2 := of_decide_eq_false hc2; have H := bF H hc2
        refine o_yes hA rfl rfl hc20 <| 
          stp hA (r_mv hA rfl) rfl fun a hA => 
          o_yes hA rfl rfl hc20 <| ?_
        obtain ⟨_, hsl2⟩ := Slc.sv hx0
        refine stp hA (r_slen Try.underlying80 hsl2 hA rfl) rfl fun a hA => 
          o_yes hA rfl rfl hc20 <| 
          stp hA (r_gtr hA rfl rfl) rfl fun a hA => 
          stp hA (r_pick_f hA rfl hc20 rfl) rfl fun a hA => ?_
        refine o_nil ?_
        cases Option.some.inj (bS H)
        exact ⟨hA.sub ⟨rfl, rfl, rfl, rfl, rfl, rfl, trivial⟩, hI⟩
    · rintro a w ⟨hA, hI⟩
      have H := Hk1
      refine w_cond hA rfl (fun hc3 => ?_) (fun hc3 => ?_)
      · have hc30 := hc3; have H := bT H hc3
        refine w_seq fun _ hN7 => ?_
        refine w_reg ?_
        refine stp hA (r_mv hA rfl) rfl fun a hA => 
          stp hA (r_as hA rfl) rfl fun a hA => ?_
        refine o_nil ?_
        refine hN7 _ _ ?_
        refine w_ret ?_
        obtain rfl := Option.some.inj (bS H)
        exact ret1 hA Try.results19 rfl ⟨_, rfl, rfl, trivial, hI.forget0⟩
      · have hc30 := hc3; have hc3 := ft hc3; have H := bF H hc3
        refine w_skip ?_
        refine hN6 _ _ ?_
        refine w_seq fun _ hN8 => ?_
        refine w_reg ?_
        refine stp hA (r_mv hA rfl) rfl fun a hA => 
          stp hA (r_mv hA rfl) rfl fun a hA => ?_
        obtain ⟨_, hsl3⟩ := Slc.sv hx0
        refine stp hA (r_slen Try.underlying80 hsl3 hA rfl) rfl fun a hA => ?_
        obtain ⟨r2, hr2, H⟩ := bB H
        refine o_callp (u := .int .i64 r2) cf26 hA rfl hI (sargassoworld_Number.c μ _ hI.agr x1 hx1 (x0.length : Int) (len_in hx0) r2 hr2) rfl fun a w hz3 hI hA => 
          stp hA (r_as hA rfl) rfl fun a hA => ?_
        refine o_nil ?_
        refine hN8 _ _ ?_
        refine w_seq fun _ hN9 => ?_
        refine w_reg ?_
        refine stp hA (r_mv hA rfl) rfl fun a hA => 
          stp hA (r_mv hA rfl) rfl fun a hA => ?_
        obtain ⟨r3, hr3, H⟩ := bB H
        refine o_call _ cf74 hA rfl (merkle_Path.c μ _ hI.agr r2 hz3 x0 u0 hx0 r3 hr3) rfl fun v1 a w hz4 hA => ?_
        obtain ⟨v2, cs1, rfl, hE1, hw1, hi1⟩ := hz4
        have hI := hI.call hi1
        refine stp hA (r_mv hA rfl) rfl fun a hA => 
          stp hA (r_extr (vs := [v2, .bool r3.2]) hA rfl rfl) rfl fun a hA => 
          stp hA (r_extr (vs := [v2, .bool r3.2]) hA rfl rfl) rfl fun a hA => 
          stp hA (r_as hA rfl) rfl fun a hA => 
          stp hA (r_as hA rfl) rfl fun a hA => ?_
        refine o_nil ?_
        refine hN9 _ _ ?_
        refine w_seq fun _ hN10 => ?_
        refine w_seq fun _ hN11 => ?_
        refine w_reg ?_
        refine stp hA (r_mv hA rfl) rfl fun a hA => 
          stp hA (r_not hA rfl) rfl fun a hA => ?_
        refine o_nil ?_
        refine hN11 _ _ ?_
        refine w_cond hA rfl (fun hc4 => ?_) (fun hc4 => ?_)
        · have hc40 := hc4; have hc4 := nT hc4; have hc4 := ft hc4; have H := bF H hc4
          refine w_seq fun _ hN12 => ?_
          refine w_reg ?_
          refine stp hA (r_as hA rfl) rfl fun a hA => ?_
          refine o_nil ?_
          refine hN12 _ _ ?_
          refine w_ret ?_
          obtain rfl := Option.some.inj (bS H)
          exact ret1 hA Try.results19 rfl ⟨_, rfl, rfl, trivial, hI.forget0⟩
        · have hc40 := hc4; have hc4 := nF hc4; have H := bT H hc4
          refine w_skip ?_
          refine hN10 _ _ ?_
          refine w_seq fun _ hN13 => ?_
          refine w_reg ?_
          refine stp hA (r_mv hA rfl) rfl fun a hA => 
            stp hA (r_mv hA rfl) rfl fun a hA => ?_
          obtain ⟨hb1, H⟩ := bG H
          obtain ⟨_, he1, _, hat1⟩ := Slc.elem hx0 (getD_some [] hb1.1 hb1.2)
          obtain ⟨rfl, hw2⟩ := he1
          obtain ⟨_, hsl4⟩ := Slc.sv hx0
          refine stp hA (r_six Try.underlying80 sz33 hsl4 hA rfl rfl hb1.1 hb1.2) rfl fun a hA => 
            stp hA (r_ldmA [] [av .u8 32 (x0.getD r2.toNat [])] [] Try.underlying33 rfl sz33 rfl hI.agr hat1 hA rfl rfl) rfl fun a hA => 
            stp hA (r_mv hA rfl) rfl fun a hA => 
            stp hA (r_mv hA rfl) rfl fun a hA => ?_
          obtain ⟨_, hsl5⟩ := Slc.sv hx0
          refine stp hA (r_slen Try.underlying80 hsl5 hA rfl) rfl fun a hA => 
            stp hA (r_mv hA rfl) rfl fun a hA => ?_
          obtain ⟨r4, hr4, H⟩ := bB H
          refine o_callp (u := .tuple #[.agg [av .u8 32 r4.1].flatten.toArray, .bool r4.2]) cf76 hA rfl hI ((by obtain ⟨μ1, hle1, hsv1, hI⟩ := hI.freezeRow 0 rfl; have hS1 : Slc (RA .u8 32) 32 μ1 v2 r3.1 := ⟨_, hE1, hsv1⟩; exact low_plain hle1 (merkle_Climb.c μ1 _ hI.agr (x0.getD r2.toNat []) hw2 r2 hz3 (x0.length : Int) (len_in hx0) r3.1 v2 hS1 r4 hr4))) rfl fun a w hz5 hI hA => 
            stp hA (r_mv hA rfl) rfl fun a hA => 
            stp hA (r_extr (vs := [.agg [av .u8 32 r4.1].flatten.toArray, .bool r4.2]) hA rfl rfl) rfl fun a hA => 
            stp hA (r_extr (vs := [.agg [av .u8 32 r4.1].flatten.toArray, .bool r4.2]) hA rfl rfl) rfl fun a hA => 
            o_new [av .u8 32 (List.replicate 32 0)] zr33 hI hA rfl fun g1 a w hA hI hg1 => 
            o_st (j := 0) [] [av .u8 32 (List.replicate 32 0)] [av .u8 32 r4.1] [] sz33 rfl rfl (fl_cons (one_av _ _ _) fl_nil) hI rfl hA rfl rfl rfl rfl fun w hI => 
            stp hA (r_as hA rfl) rfl fun a hA => ?_
          refine o_nil ?_
          refine hN13 _ _ ?_
          obtain ⟨c2, hz6, Hk2⟩ := bB H
          refine w_cut (fun a w => Fr a 118 [(0, u0), (1, .int .i64 r2), (4, .bool false), (5, .bool r1), (6, v2), (7, .bool r3.2), (8, .pointer (some ⟨g1, 0, none⟩)), (9, .bool r4.2), (11, .bool c2), (17, .bool (!r1)), (25, .bool c1), (38, .bool (!r3.2))] ∧ Iv w0 [] μ μ [cel g1 [av .u8 32 r4.1] 33, row 33 32 v2 r3.1.length cs1] w) ?_ ?_
          · have H := bI hz6
            refine w_anyS [] mo (fun w (h : Iv w0 [] μ μ [cel g1 [av .u8 32 r4.1] 33, row 33 32 v2 r3.1.length cs1] w) => (h.sel [0, 1] (by decide) rfl : Iv w0 [] μ μ [cel g1 [av .u8 32 r4.1] 33, row 33 32 v2 r3.1.length cs1] w)) hI fun w hI => ?_
            refine g_easy (i := 0) hA rfl rfl (by kernel_rfl) (.inr hI) (fun _ => r_mv hA rfl) rfl fun a hA => ?_
            refine g_easy (i := 1) hA rfl rfl (by kernel_rfl) (.inr hI) (fun _ => r_mv hA rfl) rfl fun a hA => ?_
            refine g_easy (i := 2) hA rfl rfl (by kernel_rfl) (.inr hI) (fun _ => r_six Try.underlying80 sz33 hsl4 hA rfl rfl hb1.1 hb1.2) rfl fun a hA => ?_
            refine g_take (i := 3) hA rfl rfl (by kernel_rfl) hI (fun w hI => r_ldmA [] [av .u8 32 (x0.getD r2.toNat [])] [] Try.underlying33 rfl sz33 rfl hI.agr hat1 hA rfl rfl) rfl fun a hA => ?_
            refine g_easy (i := 4) hA rfl rfl (by kernel_rfl) (.inr hI) (fun _ => r_mv hA rfl) rfl fun a hA => ?_
            refine g_easy (i := 5) hA rfl rfl (by kernel_rfl) (.inr hI) (fun _ => r_mv hA rfl) rfl fun a hA => ?_
            obtain ⟨_, hsl6⟩ := Slc.sv hx0
            refine g_easy (i := 6) hA rfl rfl (by kernel_rfl) (.inr hI) (fun _ => r_slen Try.underlying80 hsl6 hA rfl) rfl fun a hA => ?_
            refine g_easy (i := 7) hA rfl rfl (by kernel_rfl) (.inr hI) (fun _ => r_mv hA rfl) rfl fun a hA => ?_
            refine g_fork (i := 8) (is := [9, 16]) (by kernel_rfl) (List.forall_mem_cons.2 ⟨⟨_, rfl, ?_⟩, (List.forall_mem_cons.2 ⟨⟨_, rfl, ?_⟩, (List.forall_mem_cons.2 ⟨⟨_, rfl, ?_⟩, List.forall_mem_nil _⟩)⟩)⟩)
            · skip
              obtain ⟨r5, hr5, H⟩ := bB H
              refine o_call (fun v w' => ∃ (v0 : Value) (c0 : List Value), v = v0 ∧ Els (RA .u8 32) 32 r5 c0 ∧ Iv w [] μ μ [row 33 32 v0 r5.length c0] w') cf73 hA rfl ((by obtain ⟨μ2, hle2, hsv2, hI⟩ := hI.freezeRow 1 rfl; have hS2 : Slc (RA .u8 32) 32 μ2 v2 r3.1 := ⟨_, hE1, hsv2⟩; exact (sargassoref_Hashes.c μ2 _ hI.agr r3.1 v2 hS2 r5 hr5).mono fun _ _ ⟨v, he, b0, b1, hv, f0, hi⟩ => ⟨v, he, b0, b1, hv, f0, hi.low hle2⟩)) rfl fun v3 a w hz7 hA => ?_
              obtain ⟨_, cs2, rfl, hE2, hi2⟩ := hz7
              have hI := hI.call hi2
              refine o_nil ?_
              refine ⟨(.inr (hI.sel [1, 2] (by decide) rfl)), ?_⟩
              refine g_fork (i := 9) (is := [16]) (by kernel_rfl) (List.forall_mem_cons.2 ⟨⟨_, rfl, ?_⟩, (List.forall_mem_cons.2 ⟨⟨_, rfl, ?_⟩, List.forall_mem_nil _⟩)⟩)
              · skip
                refine stp hA (r_bldA (cs := [av .u8 32 ([0, 0, 0, 0, 0, 0, 0, 0, 0, 0, 0, 0, 0, 0, 0, 0, 0, 0, 0, 0, 0, 0, 0, 0, 0, 0, 0, 0, 0, 0, 0, 0])].flatten.toArray) zr33 Try.underlying33 sz5 hA rfl (by kernel_rfl)) rfl fun a hA => ?_
                refine o_nil ?_
                refine ⟨(.inr (hI.sel [1, 2] (by decide) rfl)), ?_⟩
                refine g_fork (i := 10) (is := [16]) (by kernel_rfl) (List.forall_mem_cons.2 ⟨⟨_, rfl, ?_⟩, (List.forall_mem_cons.2 ⟨⟨_, rfl, ?_⟩, List.forall_mem_nil _⟩)⟩)
                · skip
                  have hE3 : Els (RA .u8 32) 32 ([[0, 0, 0, 0, 0, 0, 0, 0, 0, 0, 0, 0, 0, 0, 0, 0, 0, 0, 0, 0, 0, 0, 0, 0, 0, 0, 0, 0, 0, 0, 0, 0]] : List (List Int)) ([av .u8 32 ([0, 0, 0, 0, 0, 0, 0, 0, 0, 0, 0, 0, 0, 0, 0, 0, 0, 0, 0, 0, 0, 0, 0, 0, 0, 0, 0, 0, 0, 0, 0, 0])].flatten ++ ([])) := (Els.cons (c := [av .u8 32 ([0, 0, 0, 0, 0, 0, 0, 0, 0, 0, 0, 0, 0, 0, 0, 0, 0, 0, 0, 0, 0, 0, 0, 0, 0, 0, 0, 0, 0, 0, 0, 0])].flatten) ⟨rfl, (arr_lit rfl (by simp only [List.forall_mem_cons]; exact ⟨(in_lit .u8 0 rfl), (in_lit .u8 0 rfl), (in_lit .u8 0 rfl), (in_lit .u8 0 rfl), (in_lit .u8 0 rfl), (in_lit .u8 0 rfl), (in_lit .u8 0 rfl), (in_lit .u8 0 rfl), (in_lit .u8 0 rfl), (in_lit .u8 0 rfl), (in_lit .u8 0 rfl), (in_lit .u8 0 rfl), (in_lit .u8 0 rfl), (in_lit .u8 0 rfl), (in_lit .u8 0 rfl), (in_lit .u8 0 rfl), (in_lit .u8 0 rfl), (in_lit .u8 0 rfl), (in_lit .u8 0 rfl), (in_lit .u8 0 rfl), (in_lit .u8 0 rfl), (in_lit .u8 0 rfl), (in_lit .u8 0 rfl), (in_lit .u8 0 rfl), (in_lit .u8 0 rfl), (in_lit .u8 0 rfl), (in_lit .u8 0 rfl), (in_lit .u8 0 rfl), (in_lit .u8 0 rfl), (in_lit .u8 0 rfl), (in_lit .u8 0 rfl), (in_lit .u8 0 rfl), by simp⟩))⟩ rfl Els.nil)
                  refine o_bsl ([av .u8 32 ([0, 0, 0, 0, 0, 0, 0, 0, 0, 0, 0, 0, 0, 0, 0, 0, 0, 0, 0, 0, 0, 0, 0, 0, 0, 0, 0, 0, 0, 0, 0, 0])].flatten ++ ([])) te33 zr33 Try.underlying80 hI hA rfl rfl rfl rfl (by kernel_rfl) rfl fun g2 a w hA hI => ?_
                  generalize hcs : ([av .u8 32 ([0, 0, 0, 0, 0, 0, 0, 0, 0, 0, 0, 0, 0, 0, 0, 0, 0, 0, 0, 0, 0, 0, 0, 0, 0, 0, 0, 0, 0, 0, 0, 0])].flatten ++ ([]) : List Value) = cs3 at hE3 hI
                  clear hcs
                  refine o_nil ?_
                  refine ⟨(.inr (hI.sel [2, 3] (by decide) rfl)), ?_⟩
                  refine g_fork (i := 11) (is := [16]) (by kernel_rfl) (List.forall_mem_cons.2 ⟨⟨_, rfl, ?_⟩, (List.forall_mem_cons.2 ⟨⟨_, rfl, ?_⟩, List.forall_mem_nil _⟩)⟩)
                  · skip
                    obtain ⟨hb2, H⟩ := bG H
                    have hE5 := hE2.app hE3
                    refine o_appL (xs := (r5 : List (List Int))) (ys := (([[0, 0, 0, 0, 0, 0, 0, 0, 0, 0, 0, 0, 0, 0, 0, 0, 0, 0, 0, 0, 0, 0, 0, 0, 0, 0, 0, 0, 0, 0, 0, 0]] : List (List Int)) : List (List Int))) (j := 1) te33 Try.underlying80 hI rfl hA rfl rfl (src_row hI (j := 0) rfl) hE3.len (hE3.ones (one_RA _ _)) (by first | decide | (have hq := hb2; (try simp only [List.length_cons, List.length_nil] at hq); (try simp only [List.length_cons, List.length_nil]); (try simp only [maxLen]); omega)) (by first | decide | (have hq := hb2; (try simp only [List.length_cons, List.length_nil] at hq); (try simp only [List.length_cons, List.length_nil]); (try simp only [maxLen]); omega)) rfl fun v4 a w hA hI => ?_
                    refine o_nil ?_
                    refine ⟨(.inr (hI.sel [2, 3] (by decide) rfl)), ?_⟩
                    refine g_fork (i := 12) (is := [16]) (by kernel_rfl) (List.forall_mem_cons.2 ⟨⟨_, rfl, ?_⟩, (List.forall_mem_cons.2 ⟨⟨_, rfl, ?_⟩, List.forall_mem_nil _⟩)⟩)
                    · skip
                      obtain ⟨r6, hr6, H⟩ := bB H
                      refine o_callp (u := .tuple #[.agg [av .u8 32 r6.1].flatten.toArray, .bool r6.2]) cf76 hA rfl hI ((by obtain ⟨μ3, hle3, hsv4, hI⟩ := hI.freezeRow 1 rfl; have hS3 : Slc (RA .u8 32) 32 μ3 v4 (r5 ++ ([[0, 0, 0, 0, 0, 0, 0, 0, 0, 0, 0, 0, 0, 0, 0, 0, 0, 0, 0, 0, 0, 0, 0, 0, 0, 0, 0, 0, 0, 0, 0, 0]] : List (List Int))) := ⟨_, hE5, hsv4⟩; exact low_plain hle3 (merkle_Climb.c μ3 _ hI.agr (x0.getD r2.toNat []) hw2 r2 hz3 (x0.length : Int) (len_in hx0) (r5 ++ ([[0, 0, 0, 0, 0, 0, 0, 0, 0, 0, 0, 0, 0, 0, 0, 0, 0, 0, 0, 0, 0, 0, 0, 0, 0, 0, 0, 0, 0, 0, 0, 0]] : List (List Int))) v4 hS3 r6 hr6))) rfl fun a w hz8 hI hA => ?_
                      refine o_nil ?_
                      refine ⟨(.inr (hI.sel [2, 3] (by decide) rfl)), ?_⟩
                      refine g_easy (i := 13) hA rfl rfl (by kernel_rfl) (.inr (hI.sel [2, 3] (by decide) rfl)) (fun _ => r_mv hA rfl) rfl fun a hA => ?_
                      refine g_easy (i := 14) hA rfl rfl (by kernel_rfl) (.inr (hI.sel [2, 3] (by decide) rfl)) (fun _ => r_extr (vs := [.agg [av .u8 32 r6.1].flatten.toArray, .bool r6.2]) hA rfl rfl) rfl fun a hA => ?_
                      refine g_easy (i := 15) hA rfl rfl (by kernel_rfl) (.inr (hI.sel [2, 3] (by decide) rfl)) (fun _ => r_extr (vs := [.agg [av .u8 32 r6.1].flatten.toArray, .bool r6.2]) hA rfl rfl) rfl fun a hA => ?_
                      refine g_forced (i := 16) rfl (by kernel_rfl) ?_
                      refine o_new [av .u8 32 (List.replicate 32 0)] zr33 hI hA rfl fun g3 a w hA hI hg3 => ?_
                      refine o_nil ?_
                      refine ⟨(.inr (hI.sel [3, 4] (by decide) rfl)), ?_⟩
                      refine g_forced (i := 17) rfl (by kernel_rfl) ?_
                      refine o_st (j := 0) [] [av .u8 32 (List.replicate 32 0)] [av .u8 32 r6.1] [] sz33 rfl rfl (fl_cons (one_av _ _ _) fl_nil) hI rfl hA rfl rfl rfl rfl fun w hI => ?_
                      refine o_nil ?_
                      refine ⟨(.inr (hI.sel [3, 4] (by decide) rfl)), ?_⟩
                      refine g_easy (i := 18) hA rfl rfl (by kernel_rfl) (.inr (hI.sel [3, 4] (by decide) rfl)) (fun _ => r_as hA rfl) rfl fun a hA => ?_
                      refine g_nil (by kernel_rfl) ?_
                      cases Option.some.inj (bS H)
                      exact ⟨hA.sub ⟨rfl, rfl, rfl, rfl, rfl, rfl, rfl, rfl, rfl, rfl, rfl, rfl, trivial⟩, (hI.sel [3, 4] (by decide) rfl)⟩
                    · skip
                      refine o_new [av .u8 32 (List.replicate 32 0)] zr33 hI hA rfl fun g3 a w hA hI hg3 => ?_
                      refine o_nil ?_
                      refine ⟨(.inr (hI.sel [3, 4] (by decide) rfl)), ?_⟩
                      refine g_forced (i := 12) rfl (by kernel_rfl) ?_
                      obtain ⟨r6, hr6, H⟩ := bB H
                      refine o_callp (u := .tuple #[.agg [av .u8 32 r6.1].flatten.toArray, .bool r6.2]) cf76 hA rfl hI ((by obtain ⟨μ3, hle3, hsv4, hI⟩ := hI.freezeRow 2 rfl; have hS3 : Slc (RA .u8 32) 32 μ3 v4 (r5 ++ ([[0, 0, 0, 0, 0, 0, 0, 0, 0, 0, 0, 0, 0, 0, 0, 0, 0, 0, 0, 0, 0, 0, 0, 0, 0, 0, 0, 0, 0, 0, 0, 0]] : List (List Int))) := ⟨_, hE5, hsv4⟩; exact low_plain hle3 (merkle_Climb.c μ3 _ hI.agr (x0.getD r2.toNat []) hw2 r2 hz3 (x0.length : Int) (len_in hx0) (r5 ++ ([[0, 0, 0, 0, 0, 0, 0, 0, 0, 0, 0, 0, 0, 0, 0, 0, 0, 0, 0, 0, 0, 0, 0, 0, 0, 0, 0, 0, 0, 0, 0, 0]] : List (List Int))) v4 hS3 r6 hr6))) rfl fun a w hz8 hI hA => ?_
                      refine o_nil ?_
                      refine ⟨(.inr (hI.sel [3, 4] (by decide) rfl)), ?_⟩
                      refine g_easy (i := 13) hA rfl rfl (by kernel_rfl) (.inr (hI.sel [3, 4] (by decide) rfl)) (fun _ => r_mv hA rfl) rfl fun a hA => ?_
                      refine g_easy (i := 14) hA rfl rfl (by kernel_rfl) (.inr (hI.sel [3, 4] (by decide) rfl)) (fun _ => r_extr (vs := [.agg [av .u8 32 r6.1].flatten.toArray, .bool r6.2]) hA rfl rfl) rfl fun a hA => ?_
                      refine g_easy (i := 15) hA rfl rfl (by kernel_rfl) (.inr (hI.sel [3, 4] (by decide) rfl)) (fun _ => r_extr (vs := [.agg [av .u8 32 r6.1].flatten.toArray, .bool r6.2]) hA rfl rfl) rfl fun a hA => ?_
                      refine g_forced (i := 17) rfl (by kernel_rfl) ?_
                      refine o_st (j := 0) [] [av .u8 32 (List.replicate 32 0)] [av .u8 32 r6.1] [] sz33 rfl rfl (fl_cons (one_av _ _ _) fl_nil) hI rfl hA rfl rfl rfl rfl fun w hI => ?_
                      refine o_nil ?_
                      refine ⟨(.inr (hI.sel [3, 4] (by decide) rfl)), ?_⟩
                      refine g_easy (i := 18) hA rfl rfl (by kernel_rfl) (.inr (hI.sel [3, 4] (by decide) rfl)) (fun _ => r_as hA rfl) rfl fun a hA => ?_
                      refine g_nil (by kernel_rfl) ?_
                      cases Option.some.inj (bS H)
                      exact ⟨hA.sub ⟨rfl, rfl, rfl, rfl, rfl, rfl, rfl, rfl, rfl, rfl, rfl, rfl, trivial⟩, (hI.sel [3, 4] (by decide) rfl)⟩
                  · skip
                    refine o_new [av .u8 32 (List.replicate 32 0)] zr33 hI hA rfl fun g3 a w hA hI hg3 => ?_
                    refine o_nil ?_
                    refine ⟨(.inr (hI.sel [3, 4] (by decide) rfl)), ?_⟩
                    refine g_forced (i := 11) rfl (by kernel_rfl) ?_
                    obtain ⟨hb2, H⟩ := bG H
                    have hE5 := hE2.app hE3
                    refine o_appL (xs := (r5 : List (List Int))) (ys := (([[0, 0, 0, 0, 0, 0, 0, 0, 0, 0, 0, 0, 0, 0, 0, 0, 0, 0, 0, 0, 0, 0, 0, 0, 0, 0, 0, 0, 0, 0, 0, 0]] : List (List Int)) : List (List Int))) (j := 2) te33 Try.underlying80 hI rfl hA rfl rfl (src_row hI (j := 1) rfl) hE3.len (hE3.ones (one_RA _ _)) (by first | decide | (have hq := hb2; (try simp only [List.length_cons, List.length_nil] at hq); (try simp only [List.length_cons, List.length_nil]); (try simp only [maxLen]); omega)) (by first | decide | (have hq := hb2; (try simp only [List.length_cons, List.length_nil] at hq); (try simp only [List.length_cons, List.length_nil]); (try simp only [maxLen]); omega)) rfl fun v4 a w hA hI => ?_
                    refine o_nil ?_
                    refine ⟨(.inr (hI.sel [3, 4] (by decide) rfl)), ?_⟩
                    refine g_forced (i := 12) rfl (by kernel_rfl) ?_
                    obtain ⟨r6, hr6, H⟩ := bB H
                    refine o_callp (u := .tuple #[.agg [av .u8 32 r6.1].flatten.toArray, .bool r6.2]) cf76 hA rfl hI ((by obtain ⟨μ3, hle3, hsv4, hI⟩ := hI.freezeRow 2 rfl; have hS3 : Slc (RA .u8 32) 32 μ3 v4 (r5 ++ ([[0, 0, 0, 0, 0, 0, 0, 0, 0, 0, 0, 0, 0, 0, 0, 0, 0, 0, 0, 0, 0, 0, 0, 0, 0, 0, 0, 0, 0, 0, 0, 0]] : List (List Int))) := ⟨_, hE5, hsv4⟩; exact low_plain hle3 (merkle_Climb.c μ3 _ hI.agr (x0.getD r2.toNat []) hw2 r2 hz3 (x0.length : Int) (len_in hx0) (r5 ++ ([[0, 0, 0, 0, 0, 0, 0, 0, 0, 0, 0, 0, 0, 0, 0, 0, 0, 0, 0, 0, 0, 0, 0, 0, 0, 0, 0, 0, 0, 0, 0, 0]] : List (List Int))) v4 hS3 r6 hr6))) rfl fun a w hz8 hI hA => ?_
                    refine o_nil ?_
                    refine ⟨(.inr (hI.sel [3, 4] (by decide) rfl)), ?_⟩
                    refine g_easy (i := 13) hA rfl rfl (by kernel_rfl) (.inr (hI.sel [3, 4] (by decide) rfl)) (fun _ => r_mv hA rfl) rfl fun a hA => ?_
                    refine g_easy (i := 14) hA rfl rfl (by kernel_rfl) (.inr (hI.sel [3, 4] (by decide) rfl)) (fun _ => r_extr (vs := [.agg [av .u8 32 r6.1].flatten.toArray, .bool r6.2]) hA rfl rfl) rfl fun a hA => ?_
                    refine g_easy (i := 15) hA rfl rfl (by kernel_rfl) (.inr (hI.sel [3, 4] (by decide) rfl)) (fun _ => r_extr (vs := [.agg [av .u8 32 r6.1].flatten.toArray, .bool r6.2]) hA rfl rfl) rfl fun a hA => ?_
                    refine g_forced (i := 17) rfl (by kernel_rfl) ?_
                    refine o_st (j := 0) [] [av .u8 32 (List.replicate 32 0)] [av .u8 32 r6.1] [] sz33 rfl rfl (fl_cons (one_av _ _ _) fl_nil) hI rfl hA rfl rfl rfl rfl fun w hI => ?_
                    refine o_nil ?_
                    refine ⟨(.inr (hI.sel [3, 4] (by decide) rfl)), ?_⟩
                    refine g_easy (i := 18) hA rfl rfl (by kernel_rfl) (.inr (hI.sel [3, 4] (by decide) rfl)) (fun _ => r_as hA rfl) rfl fun a hA => ?_
                    refine g_nil (by kernel_rfl) ?_
                    cases Option.some.inj (bS H)
                    exact ⟨hA.sub ⟨rfl, rfl, rfl, rfl, rfl, rfl, rfl, rfl, rfl, rfl, rfl, rfl, trivial⟩, (hI.sel [3, 4] (by decide) rfl)⟩
                · skip
                  refine o_new [av .u8 32 (List.replicate 32 0)] zr33 hI hA rfl fun g2 a w hA hI hg2 => ?_
                  refine o_nil ?_
                  refine ⟨(.inr (hI.sel [2, 3] (by decide) rfl)), ?_⟩
                  refine g_forced (i := 10) rfl (by kernel_rfl) ?_
                  have hE3 : Els (RA .u8 32) 32 ([[0, 0, 0, 0, 0, 0, 0, 0, 0, 0, 0, 0, 0, 0, 0, 0, 0, 0, 0, 0, 0, 0, 0, 0, 0, 0, 0, 0, 0, 0, 0, 0]] : List (List Int)) ([av .u8 32 ([0, 0, 0, 0, 0, 0, 0, 0, 0, 0, 0, 0, 0, 0, 0, 0, 0, 0, 0, 0, 0, 0, 0, 0, 0, 0, 0, 0, 0, 0, 0, 0])].flatten ++ ([])) := (Els.cons (c := [av .u8 32 ([0, 0, 0, 0, 0, 0, 0, 0, 0, 0, 0, 0, 0, 0, 0, 0, 0, 0, 0, 0, 0, 0, 0, 0, 0, 0, 0, 0, 0, 0, 0, 0])].flatten) ⟨rfl, (arr_lit rfl (by simp only [List.forall_mem_cons]; exact ⟨(in_lit .u8 0 rfl), (in_lit .u8 0 rfl), (in_lit .u8 0 rfl), (in_lit .u8 0 rfl), (in_lit .u8 0 rfl), (in_lit .u8 0 rfl), (in_lit .u8 0 rfl), (in_lit .u8 0 rfl), (in_lit .u8 0 rfl), (in_lit .u8 0 rfl), (in_lit .u8 0 rfl), (in_lit .u8 0 rfl), (in_lit .u8 0 rfl), (in_lit .u8 0 rfl), (in_lit .u8 0 rfl), (in_lit .u8 0 rfl), (in_lit .u8 0 rfl), (in_lit .u8 0 rfl), (in_lit .u8 0 rfl), (in_lit .u8 0 rfl), (in_lit .u8 0 rfl), (in_lit .u8 0 rfl), (in_lit .u8 0 rfl), (in_lit .u8 0 rfl), (in_lit .u8 0 rfl), (in_lit .u8 0 rfl), (in_lit .u8 0 rfl), (in_lit .u8 0 rfl), (in_lit .u8 0 rfl), (in_lit .u8 0 rfl), (in_lit .u8 0 rfl), (in_lit .u8 0 rfl), by simp⟩))⟩ rfl Els.nil)
                  refine o_bsl ([av .u8 32 ([0, 0, 0, 0, 0, 0, 0, 0, 0, 0, 0, 0, 0, 0, 0, 0, 0, 0, 0, 0, 0, 0, 0, 0, 0, 0, 0, 0, 0, 0, 0, 0])].flatten ++ ([])) te33 zr33 Try.underlying80 hI hA rfl rfl rfl rfl (by kernel_rfl) rfl fun g3 a w hA hI => ?_
                  generalize hcs : ([av .u8 32 ([0, 0, 0, 0, 0, 0, 0, 0, 0, 0, 0, 0, 0, 0, 0, 0, 0, 0, 0, 0, 0, 0, 0, 0, 0, 0, 0, 0, 0, 0, 0, 0])].flatten ++ ([]) : List Value) = cs3 at hE3 hI
                  clear hcs
                  refine o_nil ?_
                  refine ⟨(.inr (hI.sel [3, 4] (by decide) rfl)), ?_⟩
                  refine g_forced (i := 11) rfl (by kernel_rfl) ?_
                  obtain ⟨hb2, H⟩ := bG H
                  have hE5 := hE2.app hE3
                  refine o_appL (xs := (r5 : List (List Int))) (ys := (([[0, 0, 0, 0, 0, 0, 0, 0, 0, 0, 0, 0, 0, 0, 0, 0, 0, 0, 0, 0, 0, 0, 0, 0, 0, 0, 0, 0, 0, 0, 0, 0]] : List (List Int)) : List (List Int))) (j := 2) te33 Try.underlying80 hI rfl hA rfl rfl (src_row hI (j := 0) rfl) hE3.len (hE3.ones (one_RA _ _)) (by first | decide | (have hq := hb2; (try simp only [List.length_cons, List.length_nil] at hq); (try simp only [List.length_cons, List.length_nil]); (try simp only [maxLen]); omega)) (by first | decide | (have hq := hb2; (try simp only [List.length_cons, List.length_nil] at hq); (try simp only [List.length_cons, List.length_nil]); (try simp only [maxLen]); omega)) rfl fun v4 a w hA hI => ?_
                  refine o_nil ?_
                  refine ⟨(.inr (hI.sel [3, 4] (by decide) rfl)), ?_⟩
                  refine g_forced (i := 12) rfl (by kernel_rfl) ?_
                  obtain ⟨r6, hr6, H⟩ := bB H
                  refine o_callp (u := .tuple #[.agg [av .u8 32 r6.1].flatten.toArray, .bool r6.2]) cf76 hA rfl hI ((by obtain ⟨μ3, hle3, hsv4, hI⟩ := hI.freezeRow 2 rfl; have hS3 : Slc (RA .u8 32) 32 μ3 v4 (r5 ++ ([[0, 0, 0, 0, 0, 0, 0, 0, 0, 0, 0, 0, 0, 0, 0, 0, 0, 0, 0, 0, 0, 0, 0, 0, 0, 0, 0, 0, 0, 0, 0, 0]] : List (List Int))) := ⟨_, hE5, hsv4⟩; exact low_plain hle3 (merkle_Climb.c μ3 _ hI.agr (x0.getD r2.toNat []) hw2 r2 hz3 (x0.length : Int) (len_in hx0) (r5 ++ ([[0, 0, 0, 0, 0, 0, 0, 0, 0, 0, 0, 0, 0, 0, 0, 0, 0, 0, 0, 0, 0, 0, 0, 0, 0, 0, 0, 0, 0, 0, 0, 0]] : List (List Int))) v4 hS3 r6 hr6))) rfl fun a w hz8 hI hA => ?_
                  refine o_nil ?_
                  refine ⟨(.inr (hI.sel [3, 4] (by decide) rfl)), ?_⟩
                  refine g_easy (i := 13) hA rfl rfl (by kernel_rfl) (.inr (hI.sel [3, 4] (by decide) rfl)) (fun _ => r_mv hA rfl) rfl fun a hA => ?_
                  refine g_easy (i := 14) hA rfl rfl (by kernel_rfl) (.inr (hI.sel [3, 4] (by decide) rfl)) (fun _ => r_extr (vs := [.agg [av .u8 32 r6.1].flatten.toArray, .bool r6.2]) hA rfl rfl) rfl fun a hA => ?_
                  refine g_easy (i := 15) hA rfl rfl (by kernel_rfl) (.inr (hI.sel [3, 4] (by decide) rfl)) (fun _ => r_extr (vs := [.agg [av .u8 32 r6.1].flatten.toArray, .bool r6.2]) hA rfl rfl) rfl fun a hA => ?_
                  refine g_forced (i := 17) rfl (by kernel_rfl) ?_
                  refine o_st (j := 1) [] [av .u8 32 (List.replicate 32 0)] [av .u8 32 r6.1] [] sz33 rfl rfl (fl_cons (one_av _ _ _) fl_nil) hI rfl hA rfl rfl rfl rfl fun w hI => ?_
                  refine o_nil ?_
                  refine ⟨(.inr (hI.sel [3, 4] (by decide) rfl)), ?_⟩
                  refine g_easy (i := 18) hA rfl rfl (by kernel_rfl) (.inr (hI.sel [3, 4] (by decide) rfl)) (fun _ => r_as hA rfl) rfl fun a hA => ?_
                  refine g_nil (by kernel_rfl) ?_
                  cases Option.some.inj (bS H)
                  exact ⟨hA.sub ⟨rfl, rfl, rfl, rfl, rfl, rfl, rfl, rfl, rfl, rfl, rfl, rfl, trivial⟩, (hI.sel [3, 4] (by decide) rfl)⟩
              · skip
                refine o_new [av .u8 32 (List.replicate 32 0)] zr33 hI hA rfl fun g2 a w hA hI hg2 => ?_
                refine o_nil ?_
                refine ⟨(.inr (hI.sel [2, 3] (by decide) rfl)), ?_⟩
                refine g_forced (i := 9) rfl (by kernel_rfl) ?_
                refine stp hA (r_bldA (cs := [av .u8 32 ([0, 0, 0, 0, 0, 0, 0, 0, 0, 0, 0, 0, 0, 0, 0, 0, 0, 0, 0, 0, 0, 0, 0, 0, 0, 0, 0, 0, 0, 0, 0, 0])].flatten.toArray) zr33 Try.underlying33 sz5 hA rfl (by kernel_rfl)) rfl fun a hA => ?_
                refine o_nil ?_
                refine ⟨(.inr (hI.sel [2, 3] (by decide) rfl)), ?_⟩
                refine g_forced (i := 10) rfl (by kernel_rfl) ?_
                have hE3 : Els (RA .u8 32) 32 ([[0, 0, 0, 0, 0, 0, 0, 0, 0, 0, 0, 0, 0, 0, 0, 0, 0, 0, 0, 0, 0, 0, 0, 0, 0, 0, 0, 0, 0, 0, 0, 0]] : List (List Int)) ([av .u8 32 ([0, 0, 0, 0, 0, 0, 0, 0, 0, 0, 0, 0, 0, 0, 0, 0, 0, 0, 0, 0, 0, 0, 0, 0, 0, 0, 0, 0, 0, 0, 0, 0])].flatten ++ ([])) := (Els.cons (c := [av .u8 32 ([0, 0, 0, 0, 0, 0, 0, 0, 0, 0, 0, 0, 0, 0, 0, 0, 0, 0, 0, 0, 0, 0, 0, 0, 0, 0, 0, 0, 0, 0, 0, 0])].flatten) ⟨rfl, (arr_lit rfl (by simp only [List.forall_mem_cons]; exact ⟨(in_lit .u8 0 rfl), (in_lit .u8 0 rfl), (in_lit .u8 0 rfl), (in_lit .u8 0 rfl), (in_lit .u8 0 rfl), (in_lit .u8 0 rfl), (in_lit .u8 0 rfl), (in_lit .u8 0 rfl), (in_lit .u8 0 rfl), (in_lit .u8 0 rfl), (in_lit .u8 0 rfl), (in_lit .u8 0 rfl), (in_lit .u8 0 rfl), (in_lit .u8 0 rfl), (in_lit .u8 0 rfl), (in_lit .u8 0 rfl), (in_lit .u8 0 rfl), (in_lit .u8 0 rfl), (in_lit .u8 0 rfl), (in_lit .u8 0 rfl), (in_lit .u8 0 rfl), (in_lit .u8 0 rfl), (in_lit .u8 0 rfl), (in_lit .u8 0 rfl), (in_lit .u8 0 rfl), (in_lit .u8 0 rfl), (in_lit .u8 0 rfl), (in_lit .u8 0 rfl), (in_lit .u8 0 rfl), (in_lit .u8 0 rfl), (in_lit .u8 0 rfl), (in_lit .u8 0 rfl), by simp⟩))⟩ rfl Els.nil)
                refine o_bsl ([av .u8 32 ([0, 0, 0, 0, 0, 0, 0, 0, 0, 0, 0, 0, 0, 0, 0, 0, 0, 0, 0, 0, 0, 0, 0, 0, 0, 0, 0, 0, 0, 0, 0, 0])].flatten ++ ([])) te33 zr33 Try.underlying80 hI hA rfl rfl rfl rfl (by kernel_rfl) rfl fun g3 a w hA hI => ?_
                generalize hcs : ([av .u8 32 ([0, 0, 0, 0, 0, 0, 0, 0, 0, 0, 0, 0, 0, 0, 0, 0, 0, 0, 0, 0, 0, 0, 0, 0, 0, 0, 0, 0, 0, 0, 0, 0])].flatten ++ ([]) : List Value) = cs3 at hE3 hI
                clear hcs
                refine o_nil ?_
                refine ⟨(.inr (hI.sel [3, 4] (by decide) rfl)), ?_⟩
                refine g_forced (i := 11) rfl (by kernel_rfl) ?_
                obtain ⟨hb2, H⟩ := bG H
                have hE5 := hE2.app hE3
                refine o_appL (xs := (r5 : List (List Int))) (ys := (([[0, 0, 0, 0, 0, 0, 0, 0, 0, 0, 0, 0, 0, 0, 0, 0, 0, 0, 0, 0, 0, 0, 0, 0, 0, 0, 0, 0, 0, 0, 0, 0]] : List (List Int)) : List (List Int))) (j := 2) te33 Try.underlying80 hI rfl hA rfl rfl (src_row hI (j := 0) rfl) hE3.len (hE3.ones (one_RA _ _)) (by first | decide | (have hq := hb2; (try simp only [List.length_cons, List.length_nil] at hq); (try simp only [List.length_cons, List.length_nil]); (try simp only [maxLen]); omega)) (by first | decide | (have hq := hb2; (try simp only [List.length_cons, List.length_nil] at hq); (try simp only [List.length_cons, List.length_nil]); (try simp only [maxLen]); omega)) rfl fun v4 a w hA hI => ?_
                refine o_nil ?_
                refine ⟨(.inr (hI.sel [3, 4] (by decide) rfl)), ?_⟩
                refine g_forced (i := 12) rfl (by kernel_rfl) ?_
                obtain ⟨r6, hr6, H⟩ := bB H
                refine o_callp (u := .tuple #[.agg [av .u8 32 r6.1].flatten.toArray, .bool r6.2]) cf76 hA rfl hI ((by obtain ⟨μ3, hle3, hsv4, hI⟩ := hI.freezeRow 2 rfl; have hS3 : Slc (RA .u8 32) 32 μ3 v4 (r5 ++ ([[0, 0, 0, 0, 0, 0, 0, 0, 0, 0, 0, 0, 0, 0, 0, 0, 0, 0, 0, 0, 0, 0, 0, 0, 0, 0, 0, 0, 0, 0, 0, 0]] : List (List Int))) := ⟨_, hE5, hsv4⟩; exact low_plain hle3 (merkle_Climb.c μ3 _ hI.agr (x0.getD r2.toNat []) hw2 r2 hz3 (x0.length : Int) (len_in hx0) (r5 ++ ([[0, 0, 0, 0, 0, 0, 0, 0, 0, 0, 0, 0, 0, 0, 0, 0, 0, 0, 0, 0, 0, 0, 0, 0, 0, 0, 0, 0, 0, 0, 0, 0]] : List (List Int))) v4 hS3 r6 hr6))) rfl fun a w hz8 hI hA => ?_
                refine o_nil ?_
                refine ⟨(.inr (hI.sel [3, 4] (by decide) rfl)), ?_⟩
                refine g_easy (i := 13) hA rfl rfl (by kernel_rfl) (.inr (hI.sel [3, 4] (by decide) rfl)) (fun _ => r_mv hA rfl) rfl fun a hA => ?_
                refine g_easy (i := 14) hA rfl rfl (by kernel_rfl) (.inr (hI.sel [3, 4] (by decide) rfl)) (fun _ => r_extr (vs := [.agg [av .u8 32 r6.1].flatten.toArray, .bool r6.2]) hA rfl rfl) rfl fun a hA => ?_
                refine g_easy (i := 15) hA rfl rfl (by kernel_rfl) (.inr (hI.sel [3, 4] (by decide) rfl)) (fun _ => r_extr (vs := [.agg [av .u8 32 r6.1].flatten.toArray, .bool r6.2]) hA rfl rfl) rfl fun a hA => ?_
                refine g_forced (i := 17) rfl (by kernel_rfl) ?_
                refine o_st (j := 1) [] [av .u8 32 (List.replicate 32 0)] [av .u8 32 r6.1] [] sz33 rfl rfl (fl_cons (one_av _ _ _) fl_nil) hI rfl hA rfl rfl rfl rfl fun w hI => ?_
                refine o_nil ?_
                refine ⟨(.inr (hI.sel [3, 4] (by decide) rfl)), ?_⟩
                refine g_easy (i := 18) hA rfl rfl (by kernel_rfl) (.inr (hI.sel [3, 4] (by decide) rfl)) (fun _ => r_as hA rfl) rfl fun a hA => ?_
                refine g_nil (by kernel_rfl) ?_
                cases Option.some.inj (bS H)
                exact ⟨hA.sub ⟨rfl, rfl, rfl, rfl, rfl, rfl, rfl, rfl, rfl, rfl, rfl, rfl, trivial⟩, (hI.sel [3, 4] (by decide) rfl)⟩
            · skip
              refine stp hA (r_bldA (cs := [av .u8 32 ([0, 0, 0, 0, 0, 0, 0, 0, 0, 0, 0, 0, 0, 0, 0, 0, 0, 0, 0, 0, 0, 0, 0, 0, 0, 0, 0, 0, 0, 0, 0, 0])].flatten.toArray) zr33 Try.underlying33 sz5 hA rfl (by kernel_rfl)) rfl fun a hA => ?_
              refine o_nil ?_
              refine ⟨(.inr hI), ?_⟩
              refine g_fork (i := 8) (is := [10, 16]) (by kernel_rfl) (List.forall_mem_cons.2 ⟨⟨_, rfl, ?_⟩, (List.forall_mem_cons.2 ⟨⟨_, rfl, ?_⟩, (List.forall_mem_cons.2 ⟨⟨_, rfl, ?_⟩, List.forall_mem_nil _⟩)⟩)⟩)
              · skip
                obtain ⟨r5, hr5, H⟩ := bB H
                refine o_call (fun v w' => ∃ (v0 : Value) (c0 : List Value), v = v0 ∧ Els (RA .u8 32) 32 r5 c0 ∧ Iv w [] μ μ [row 33 32 v0 r5.length c0] w') cf73 hA rfl ((by obtain ⟨μ2, hle2, hsv2, hI⟩ := hI.freezeRow 1 rfl; have hS2 : Slc (RA .u8 32) 32 μ2 v2 r3.1 := ⟨_, hE1, hsv2⟩; exact (sargassoref_Hashes.c μ2 _ hI.agr r3.1 v2 hS2 r5 hr5).mono fun _ _ ⟨v, he, b0, b1, hv, f0, hi⟩ => ⟨v, he, b0, b1, hv, f0, hi.low hle2⟩)) rfl fun v3 a w hz7 hA => ?_
                obtain ⟨_, cs2, rfl, hE2, hi2⟩ := hz7
                have hI := hI.call hi2
                refine o_nil ?_
                refine ⟨(.inr (hI.sel [1, 2] (by decide) rfl)), ?_⟩
                refine g_fork (i := 10) (is := [16]) (by kernel_rfl) (List.forall_mem_cons.2 ⟨⟨_, rfl, ?_⟩, (List.forall_mem_cons.2 ⟨⟨_, rfl, ?_⟩, List.forall_mem_nil _⟩)⟩)
                · skip
                  have hE3 : Els (RA .u8 32) 32 ([[0, 0, 0, 0, 0, 0, 0, 0, 0, 0, 0, 0, 0, 0, 0, 0, 0, 0, 0, 0, 0, 0, 0, 0, 0, 0, 0, 0, 0, 0, 0, 0]] : List (List Int)) ([av .u8 32 ([0, 0, 0, 0, 0, 0, 0, 0, 0, 0, 0, 0, 0, 0, 0, 0, 0, 0, 0, 0, 0, 0, 0, 0, 0, 0, 0, 0, 0, 0, 0, 0])].flatten ++ ([])) := (Els.cons (c := [av .u8 32 ([0, 0, 0, 0, 0, 0, 0, 0, 0, 0, 0, 0, 0, 0, 0, 0, 0, 0, 0, 0, 0, 0, 0, 0, 0, 0, 0, 0, 0, 0, 0, 0])].flatten) ⟨rfl, (arr_lit rfl (by simp only [List.forall_mem_cons]; exact ⟨(in_lit .u8 0 rfl), (in_lit .u8 0 rfl), (in_lit .u8 0 rfl), (in_lit .u8 0 rfl), (in_lit .u8 0 rfl), (in_lit .u8 0 rfl), (in_lit .u8 0 rfl), (in_lit .u8 0 rfl), (in_lit .u8 0 rfl), (in_lit .u8 0 rfl), (in_lit .u8 0 rfl), (in_lit .u8 0 rfl), (in_lit .u8 0 rfl), (in_lit .u8 0 rfl), (in_lit .u8 0 rfl), (in_lit .u8 0 rfl), (in_lit .u8 0 rfl), (in_lit .u8 0 rfl), (in_lit .u8 0 rfl), (in_lit .u8 0 rfl), (in_lit .u8 0 rfl), (in_lit .u8 0 rfl), (in_lit .u8 0 rfl), (in_lit .u8 0 rfl), (in_lit .u8 0 rfl), (in_lit .u8 0 rfl), (in_lit .u8 0 rfl), (in_lit .u8 0 rfl), (in_lit .u8 0 rfl), (in_lit .u8 0 rfl), (in_lit .u8 0 rfl), (in_lit .u8 0 rfl), by simp⟩))⟩ rfl Els.nil)
                  refine o_bsl ([av .u8 32 ([0, 0, 0, 0, 0, 0, 0, 0, 0, 0, 0, 0, 0, 0, 0, 0, 0, 0, 0, 0, 0, 0, 0, 0, 0, 0, 0, 0, 0, 0, 0, 0])].flatten ++ ([])) te33 zr33 Try.underlying80 hI hA rfl rfl rfl rfl (by kernel_rfl) rfl fun g2 a w hA hI => ?_
                  generalize hcs : ([av .u8 32 ([0, 0, 0, 0, 0, 0, 0, 0, 0, 0, 0, 0, 0, 0, 0, 0, 0, 0, 0, 0, 0, 0, 0, 0, 0, 0, 0, 0, 0, 0, 0, 0])].flatten ++ ([]) : List Value) = cs3 at hE3 hI
                  clear hcs
                  refine o_nil ?_
                  refine ⟨(.inr (hI.sel [2, 3] (by decide) rfl)), ?_⟩
                  refine g_fork (i := 11) (is := [16]) (by kernel_rfl) (List.forall_mem_cons.2 ⟨⟨_, rfl, ?_⟩, (List.forall_mem_cons.2 ⟨⟨_, rfl, ?_⟩, List.forall_mem_nil _⟩)⟩)
                  · skip
                    obtain ⟨hb2, H⟩ := bG H
                    have hE5 := hE2.app hE3
                    refine o_appL (xs := (r5 : List (List Int))) (ys := (([[0, 0, 0, 0, 0, 0, 0, 0, 0, 0, 0, 0, 0, 0, 0, 0, 0, 0, 0, 0, 0, 0, 0, 0, 0, 0, 0, 0, 0, 0, 0, 0]] : List (List Int)) : List (List Int))) (j := 1) te33 Try.underlying80 hI rfl hA rfl rfl (src_row hI (j := 0) rfl) hE3.len (hE3.ones (one_RA _ _)) (by first | decide | (have hq := hb2; (try simp only [List.length_cons, List.length_nil] at hq); (try simp only [List.length_cons, List.length_nil]); (try simp only [maxLen]); omega)) (by first | decide | (have hq := hb2; (try simp only [List.length_cons, List.length_nil] at hq); (try simp only [List.length_cons, List.length_nil]); (try simp only [maxLen]); omega)) rfl fun v4 a w hA hI => ?_
                    refine o_nil ?_
                    refine ⟨(.inr (hI.sel [2, 3] (by decide) rfl)), ?_⟩
                    refine g_fork (i := 12) (is := [16]) (by kernel_rfl) (List.forall_mem_cons.2 ⟨⟨_, rfl, ?_⟩, (List.forall_mem_cons.2 ⟨⟨_, rfl, ?_⟩, List.forall_mem_nil _⟩)⟩)
                    · skip
                      obtain ⟨r6, hr6, H⟩ := bB H
                      refine o_callp (u := .tuple #[.agg [av .u8 32 r6.1].flatten.toArray, .bool r6.2]) cf76 hA rfl hI ((by obtain ⟨μ3, hle3, hsv4, hI⟩ := hI.freezeRow 1 rfl; have hS3 : Slc (RA .u8 32) 32 μ3 v4 (r5 ++ ([[0, 0, 0, 0, 0, 0, 0, 0, 0, 0, 0, 0, 0, 0, 0, 0, 0, 0, 0, 0, 0, 0, 0, 0, 0, 0, 0, 0, 0, 0, 0, 0]] : List (List Int))) := ⟨_, hE5, hsv4⟩; exact low_plain hle3 (merkle_Climb.c μ3 _ hI.agr (x0.getD r2.toNat []) hw2 r2 hz3 (x0.length : Int) (len_in hx0) (r5 ++ ([[0, 0, 0, 0, 0, 0, 0, 0, 0, 0, 0, 0, 0, 0, 0, 0, 0, 0, 0, 0, 0, 0, 0, 0, 0, 0, 0, 0, 0, 0, 0, 0]] : List (List Int))) v4 hS3 r6 hr6))) rfl fun a w hz8 hI hA => ?_
                      refine o_nil ?_
                      refine ⟨(.inr (hI.sel [2, 3] (by decide) rfl)), ?_⟩
                      refine g_easy (i := 13) hA rfl rfl (by kernel_rfl) (.inr (hI.sel [2, 3] (by decide) rfl)) (fun _ => r_mv hA rfl) rfl fun a hA => ?_
                      refine g_easy (i := 14) hA rfl rfl (by kernel_rfl) (.inr (hI.sel [2, 3] (by decide) rfl)) (fun _ => r_extr (vs := [.agg [av .u8 32 r6.1].flatten.toArray, .bool r6.2]) hA rfl rfl) rfl fun a hA => ?_
                      refine g_easy (i := 15) hA rfl rfl (by kernel_rfl) (.inr (hI.sel [2, 3] (by decide) rfl)) (fun _ => r_extr (vs := [.agg [av .u8 32 r6.1].flatten.toArray, .bool r6.2]) hA rfl rfl) rfl fun a hA => ?_
                      refine g_forced (i := 16) rfl (by kernel_rfl) ?_
                      refine o_new [av .u8 32 (List.replicate 32 0)] zr33 hI hA rfl fun g3 a w hA hI hg3 => ?_
                      refine o_nil ?_
                      refine ⟨(.inr (hI.sel [3, 4] (by decide) rfl)), ?_⟩
                      refine g_forced (i := 17) rfl (by kernel_rfl) ?_
                      refine o_st (j := 0) [] [av .u8 32 (List.replicate 32 0)] [av .u8 32 r6.1] [] sz33 rfl rfl (fl_cons (one_av _ _ _) fl_nil) hI rfl hA rfl rfl rfl rfl fun w hI => ?_
                      refine o_nil ?_
                      refine ⟨(.inr (hI.sel [3, 4] (by decide) rfl)), ?_⟩
                      refine g_easy (i := 18) hA rfl rfl (by kernel_rfl) (.inr (hI.sel [3, 4] (by decide) rfl)) (fun _ => r_as hA rfl) rfl fun a hA => ?_
                      refine g_nil (by kernel_rfl) ?_
                      cases Option.some.inj (bS H)
                      exact ⟨hA.sub ⟨rfl, rfl, rfl, rfl, rfl, rfl, rfl, rfl, rfl, rfl, rfl, rfl, trivial⟩, (hI.sel [3, 4] (by decide) rfl)⟩
                    · skip
                      refine o_new [av .u8 32 (List.replicate 32 0)] zr33 hI hA rfl fun g3 a w hA hI hg3 => ?_
                      refine o_nil ?_
                      refine ⟨(.inr (hI.sel [3, 4] (by decide) rfl)), ?_⟩
                      refine g_forced (i := 12) rfl (by kernel_rfl) ?_
                      obtain ⟨r6, hr6, H⟩ := bB H
                      refine o_callp (u := .tuple #[.agg [av .u8 32 r6.1].flatten.toArray, .bool r6.2]) cf76 hA rfl hI ((by obtain ⟨μ3, hle3, hsv4, hI⟩ := hI.freezeRow 2 rfl; have hS3 : Slc (RA .u8 32) 32 μ3 v4 (r5 ++ ([[0, 0, 0, 0, 0, 0, 0, 0, 0, 0, 0, 0, 0, 0, 0, 0, 0, 0, 0, 0, 0, 0, 0, 0, 0, 0, 0, 0, 0, 0, 0, 0]] : List (List Int))) := ⟨_, hE5, hsv4⟩; exact low_plain hle3 (merkle_Climb.c μ3 _ hI.agr (x0.getD r2.toNat []) hw2 r2 hz3 (x0.length : Int) (len_in hx0) (r5 ++ ([[0, 0, 0, 0, 0, 0, 0, 0, 0, 0, 0, 0, 0, 0, 0, 0, 0, 0, 0, 0, 0, 0, 0, 0, 0, 0, 0, 0, 0, 0, 0, 0]] : List (List Int))) v4 hS3 r6 hr6))) rfl fun a w hz8 hI hA => ?_
                      refine o_nil ?_
                      refine ⟨(.inr (hI.sel [3, 4] (by decide) rfl)), ?_⟩
                      refine g_easy (i := 13) hA rfl rfl (by kernel_rfl) (.inr (hI.sel [3, 4] (by decide) rfl)) (fun _ => r_mv hA rfl) rfl fun a hA => ?_
                      refine g_easy (i := 14) hA rfl rfl (by kernel_rfl) (.inr (hI.sel [3, 4] (by decide) rfl)) (fun _ => r_extr (vs := [.agg [av .u8 32 r6.1].flatten.toArray, .bool r6.2]) hA rfl rfl) rfl fun a hA => ?_
                      refine g_easy (i := 15) hA rfl rfl (by kernel_rfl) (.inr (hI.sel [3, 4] (by decide) rfl)) (fun _ => r_extr (vs := [.agg [av .u8 32 r6.1].flatten.toArray, .bool r6.2]) hA rfl rfl) rfl fun a hA => ?_
                      refine g_forced (i := 17) rfl (by kernel_rfl) ?_
                      refine o_st (j := 0) [] [av .u8 32 (List.replicate 32 0)] [av .u8 32 r6.1] [] sz33 rfl rfl (fl_cons (one_av _ _ _) fl_nil) hI rfl hA rfl rfl rfl rfl fun w hI => ?_
                      refine o_nil ?_
                      refine ⟨(.inr (hI.sel [3, 4] (by decide) rfl)), ?_⟩
                      refine g_easy (i := 18) hA rfl rfl (by kernel_rfl) (.inr (hI.sel [3, 4] (by decide) rfl)) (fun _ => r_as hA rfl) rfl fun a hA => ?_
                      refine g_nil (by kernel_rfl) ?_
                      cases Option.some.inj (bS H)
                      exact ⟨hA.sub ⟨rfl, rfl, rfl, rfl, rfl, rfl, rfl, rfl, rfl, rfl, rfl, rfl, trivial⟩, (hI.sel [3, 4] (by decide) rfl)⟩
                  · skip
                    refine o_new [av .u8 32 (List.replicate 32 0)] zr33 hI hA rfl fun g3 a w hA hI hg3 => ?_
                    refine o_nil ?_
                    refine ⟨(.inr (hI.sel [3, 4] (by decide) rfl)), ?_⟩
                    refine g_forced (i := 11) rfl (by kernel_rfl) ?_
                    obtain ⟨hb2, H⟩ := bG H
                    have hE5 := hE2.app hE3
                    refine o_appL (xs := (r5 : List (List Int))) (ys := (([[0, 0, 0, 0, 0, 0, 0, 0, 0, 0, 0, 0, 0, 0, 0, 0, 0, 0, 0, 0, 0, 0, 0, 0, 0, 0, 0, 0, 0, 0, 0, 0]] : List (List Int)) : List (List Int))) (j := 2) te33 Try.underlying80 hI rfl hA rfl rfl (src_row hI (j := 1) rfl) hE3.len (hE3.ones (one_RA _ _)) (by first | decide | (have hq := hb2; (try simp only [List.length_cons, List.length_nil] at hq); (try simp only [List.length_cons, List.length_nil]); (try simp only [maxLen]); omega)) (by first | decide | (have hq := hb2; (try simp only [List.length_cons, List.length_nil] at hq); (try simp only [List.length_cons, List.length_nil]); (try simp only [maxLen]); omega)) rfl fun v4 a w hA hI => ?_
                    refine o_nil ?_
                    refine ⟨(.inr (hI.sel [3, 4] (by decide) rfl)), ?_⟩
                    refine g_forced (i := 12) rfl (by kernel_rfl) ?_
                    obtain ⟨r6, hr6, H⟩ := bB H
                    refine o_callp (u := .tuple #[.agg [av .u8 32 r6.1].flatten.toArray, .bool r6.2]) cf76 hA rfl hI ((by obtain ⟨μ3, hle3, hsv4, hI⟩ := hI.freezeRow 2 rfl; have hS3 : Slc (RA .u8 32) 32 μ3 v4 (r5 ++ ([[0, 0, 0, 0, 0, 0, 0, 0, 0, 0, 0, 0, 0, 0, 0, 0, 0, 0, 0, 0, 0, 0, 0, 0, 0, 0, 0, 0, 0, 0, 0, 0]] : List (List Int))) := ⟨_, hE5, hsv4⟩; exact low_plain hle3 (merkle_Climb.c μ3 _ hI.agr (x0.getD r2.toNat []) hw2 r2 hz3 (x0.length : Int) (len_in hx0) (r5 ++ ([[0, 0, 0, 0, 0, 0, 0, 0, 0, 0, 0, 0, 0, 0, 0, 0, 0, 0, 0, 0, 0, 0, 0, 0, 0, 0, 0, 0, 0, 0, 0, 0]] : List (List Int))) v4 hS3 r6 hr6))) rfl fun a w hz8 hI hA => ?_
                    refine o_nil ?_
                    refine ⟨(.inr (hI.sel [3, 4] (by decide) rfl)), ?_⟩
                    refine g_easy (i := 13) hA rfl rfl (by kernel_rfl) (.inr (hI.sel [3, 4] (by decide) rfl)) (fun _ => r_mv hA rfl) rfl fun a hA => ?_
                    refine g_easy (i := 14) hA rfl rfl (by kernel_rfl) (.inr (hI.sel [3, 4] (by decide) rfl)) (fun _ => r_extr (vs := [.agg [av .u8 32 r6.1].flatten.toArray, .bool r6.2]) hA rfl rfl) rfl fun a hA => ?_
                    refine g_easy (i := 15) hA rfl rfl (by kernel_rfl) (.inr (hI.sel [3, 4] (by decide) rfl)) (fun _ => r_extr (vs := [.agg [av .u8 32 r6.1].flatten.toArray, .bool r6.2]) hA rfl rfl) rfl fun a hA => ?_
                    refine g_forced (i := 17) rfl (by kernel_rfl) ?_
                    refine o_st (j := 0) [] [av .u8 32 (List.replicate 32 0)] [av .u8 32 r6.1] [] sz33 rfl rfl (fl_cons (one_av _ _ _) fl_nil) hI rfl hA rfl rfl rfl rfl fun w hI => ?_
                    refine o_nil ?_
                    refine ⟨(.inr (hI.sel [3, 4] (by decide) rfl)), ?_⟩
                    refine g_easy (i := 18) hA rfl rfl (by kernel_rfl) (.inr (hI.sel [3, 4] (by decide) rfl)) (fun _ => r_as hA rfl) rfl fun a hA => ?_
                    refine g_nil (by kernel_rfl) ?_
                    cases Option.some.inj (bS H)
                    exact ⟨hA.sub ⟨rfl, rfl, rfl, rfl, rfl, rfl, rfl, rfl, rfl, rfl, rfl, rfl, trivial⟩, (hI.sel [3, 4] (by decide) rfl)⟩
                · skip
                  refine o_new [av .u8 32 (List.replicate 32 0)] zr33 hI hA rfl fun g2 a w hA hI hg2 => ?_
                  refine o_nil ?_
                  refine ⟨(.inr (hI.sel [2, 3] (by decide) rfl)), ?_⟩
                  refine g_forced (i := 10) rfl (by kernel_rfl) ?_
                  have hE3 : Els (RA .u8 32) 32 ([[0, 0, 0, 0, 0, 0, 0, 0, 0, 0, 0, 0, 0, 0, 0, 0, 0, 0, 0, 0, 0, 0, 0, 0, 0, 0, 0, 0, 0, 0, 0, 0]] : List (List Int)) ([av .u8 32 ([0, 0, 0, 0, 0, 0, 0, 0, 0, 0, 0, 0, 0, 0, 0, 0, 0, 0, 0, 0, 0, 0, 0, 0, 0, 0, 0, 0, 0, 0, 0, 0])].flatten ++ ([])) := (Els.cons (c := [av .u8 32 ([0, 0, 0, 0, 0, 0, 0, 0, 0, 0, 0, 0, 0, 0, 0, 0, 0, 0, 0, 0, 0, 0, 0, 0, 0, 0, 0, 0, 0, 0, 0, 0])].flatten) ⟨rfl, (arr_lit rfl (by simp only [List.forall_mem_cons]; exact ⟨(in_lit .u8 0 rfl), (in_lit .u8 0 rfl), (in_lit .u8 0 rfl), (in_lit .u8 0 rfl), (in_lit .u8 0 rfl), (in_lit .u8 0 rfl), (in_lit .u8 0 rfl), (in_lit .u8 0 rfl), (in_lit .u8 0 rfl), (in_lit .u8 0 rfl), (in_lit .u8 0 rfl), (in_lit .u8 0 rfl), (in_lit .u8 0 rfl), (in_lit .u8 0 rfl), (in_lit .u8 0 rfl), (in_lit .u8 0 rfl), (in_lit .u8 0 rfl), (in_lit .u8 0 rfl), (in_lit .u8 0 rfl), (in_lit .u8 0 rfl), (in_lit .u8 0 rfl), (in_lit .u8 0 rfl), (in_lit .u8 0 rfl), (in_lit .u8 0 rfl), (in_lit .u8 0 rfl), (in_lit .u8 0 rfl), (in_lit .u8 0 rfl), (in_lit .u8 0 rfl), (in_lit .u8 0 rfl), (in_lit .u8 0 rfl), (in_lit .u8 0 rfl), (in_lit .u8 0 rfl), by simp⟩))⟩ rfl Els.nil)
                  refine o_bsl ([av .u8 32 ([0, 0, 0, 0, 0, 0, 0, 0, 0, 0, 0, 0, 0, 0, 0, 0, 0, 0, 0, 0, 0, 0, 0, 0, 0, 0, 0, 0, 0, 0, 0, 0])].flatten ++ ([])) te33 zr33 Try.underlying80 hI hA rfl rfl rfl rfl (by kernel_rfl) rfl fun g3 a w hA hI => ?_
                  generalize hcs : ([av .u8 32 ([0, 0, 0, 0, 0, 0, 0, 0, 0, 0, 0, 0, 0, 0, 0, 0, 0, 0, 0, 0, 0, 0, 0, 0, 0, 0, 0, 0, 0, 0, 0, 0])].flatten ++ ([]) : List Value) = cs3 at hE3 hI
                  clear hcs
                  refine o_nil ?_
                  refine ⟨(.inr (hI.sel [3, 4] (by decide) rfl)), ?_⟩
                  refine g_forced (i := 11) rfl (by kernel_rfl) ?_
                  obtain ⟨hb2, H⟩ := bG H
                  have hE5 := hE2.app hE3
                  refine o_appL (xs := (r5 : List (List Int))) (ys := (([[0, 0, 0, 0, 0, 0, 0, 0, 0, 0, 0, 0, 0, 0, 0, 0, 0, 0, 0, 0, 0, 0, 0, 0, 0, 0, 0, 0, 0, 0, 0, 0]] : List (List Int)) : List (List Int))) (j := 2) te33 Try.underlying80 hI rfl hA rfl rfl (src_row hI (j := 0) rfl) hE3.len (hE3.ones (one_RA _ _)) (by first | decide | (have hq := hb2; (try simp only [List.length_cons, List.length_nil] at hq); (try simp only [List.length_cons, List.length_nil]); (try simp only [maxLen]); omega)) (by first | decide | (have hq := hb2; (try simp only [List.length_cons, List.length_nil] at hq); (try simp only [List.length_cons, List.length_nil]); (try simp only [maxLen]); omega)) rfl fun v4 a w hA hI => ?_
                  refine o_nil ?_
                  refine ⟨(.inr (hI.sel [3, 4] (by decide) rfl)), ?_⟩
                  refine g_forced (i := 12) rfl (by kernel_rfl) ?_
                  obtain ⟨r6, hr6, H⟩ := bB H
                  refine o_callp (u := .tuple #[.agg [av .u8 32 r6.1].flatten.toArray, .bool r6.2]) cf76 hA rfl hI ((by obtain ⟨μ3, hle3, hsv4, hI⟩ := hI.freezeRow 2 rfl; have hS3 : Slc (RA .u8 32) 32 μ3 v4 (r5 ++ ([[0, 0, 0, 0, 0, 0, 0, 0, 0, 0, 0, 0, 0, 0, 0, 0, 0, 0, 0, 0, 0, 0, 0, 0, 0, 0, 0, 0, 0, 0, 0, 0]] : List (List Int))) := ⟨_, hE5, hsv4⟩; exact low_plain hle3 (merkle_Climb.c μ3 _ hI.agr (x0.getD r2.toNat []) hw2 r2 hz3 (x0.length : Int) (len_in hx0) (r5 ++ ([[0, 0, 0, 0, 0, 0, 0, 0, 0, 0, 0, 0, 0, 0, 0, 0, 0, 0, 0, 0, 0, 0, 0, 0, 0, 0, 0, 0, 0, 0, 0, 0]] : List (List Int))) v4 hS3 r6 hr6))) rfl fun a w hz8 hI hA => ?_
                  refine o_nil ?_
                  refine ⟨(.inr (hI.sel [3, 4] (by decide) rfl)), ?_⟩
                  refine g_easy (i := 13) hA rfl rfl (by kernel_rfl) (.inr (hI.sel [3, 4] (by decide) rfl)) (fun _ => r_mv hA rfl) rfl fun a hA => ?_
                  refine g_easy (i := 14) hA rfl rfl (by kernel_rfl) (.inr (hI.sel [3, 4] (by decide) rfl)) (fun _ => r_extr (vs := [.agg [av .u8 32 r6.1].flatten.toArray, .bool r6.2]) hA rfl rfl) rfl fun a hA => ?_
                  refine g_easy (i := 15) hA rfl rfl (by kernel_rfl) (.inr (hI.sel [3, 4] (by decide) rfl)) (fun _ => r_extr (vs := [.agg [av .u8 32 r6.1].flatten.toArray, .bool r6.2]) hA rfl rfl) rfl fun a hA => ?_
                  refine g_forced (i := 17) rfl (by kernel_rfl) ?_
                  refine o_st (j := 1) [] [av .u8 32 (List.replicate 32 0)] [av .u8 32 r6.1] [] sz33 rfl rfl (fl_cons (one_av _ _ _) fl_nil) hI rfl hA rfl rfl rfl rfl fun w hI => ?_
                  refine o_nil ?_
                  refine ⟨(.inr (hI.sel [3, 4] (by decide) rfl)), ?_⟩
                  refine g_easy (i := 18) hA rfl rfl (by kernel_rfl) (.inr (hI.sel [3, 4] (by decide) rfl)) (fun _ => r_as hA rfl) rfl fun a hA => ?_
                  refine g_nil (by kernel_rfl) ?_
                  cases Option.some.inj (bS H)
                  exact ⟨hA.sub ⟨rfl, rfl, rfl, rfl, rfl, rfl, rfl, rfl, rfl, rfl, rfl, rfl, trivial⟩, (hI.sel [3, 4] (by decide) rfl)⟩
              · skip
                have hE2 : Els (RA .u8 32) 32 ([[0, 0, 0, 0, 0, 0, 0, 0, 0, 0, 0, 0, 0, 0, 0, 0, 0, 0, 0, 0, 0, 0, 0, 0, 0, 0, 0, 0, 0, 0, 0, 0]] : List (List Int)) ([av .u8 32 ([0, 0, 0, 0, 0, 0, 0, 0, 0, 0, 0, 0, 0, 0, 0, 0, 0, 0, 0, 0, 0, 0, 0, 0, 0, 0, 0, 0, 0, 0, 0, 0])].flatten ++ ([])) := (Els.cons (c := [av .u8 32 ([0, 0, 0, 0, 0, 0, 0, 0, 0, 0, 0, 0, 0, 0, 0, 0, 0, 0, 0, 0, 0, 0, 0, 0, 0, 0, 0, 0, 0, 0, 0, 0])].flatten) ⟨rfl, (arr_lit rfl (by simp only [List.forall_mem_cons]; exact ⟨(in_lit .u8 0 rfl), (in_lit .u8 0 rfl), (in_lit .u8 0 rfl), (in_lit .u8 0 rfl), (in_lit .u8 0 rfl), (in_lit .u8 0 rfl), (in_lit .u8 0 rfl), (in_lit .u8 0 rfl), (in_lit .u8 0 rfl), (in_lit .u8 0 rfl), (in_lit .u8 0 rfl), (in_lit .u8 0 rfl), (in_lit .u8 0 rfl), (in_lit .u8 0 rfl), (in_lit .u8 0 rfl), (in_lit .u8 0 rfl), (in_lit .u8 0 rfl), (in_lit .u8 0 rfl), (in_lit .u8 0 rfl), (in_lit .u8 0 rfl), (in_lit .u8 0 rfl), (in_lit .u8 0 rfl), (in_lit .u8 0 rfl), (in_lit .u8 0 rfl), (in_lit .u8 0 rfl), (in_lit .u8 0 rfl), (in_lit .u8 0 rfl), (in_lit .u8 0 rfl), (in_lit .u8 0 rfl), (in_lit .u8 0 rfl), (in_lit .u8 0 rfl), (in_lit .u8 0 rfl), by simp⟩))⟩ rfl Els.nil)
                refine o_bsl ([av .u8 32 ([0, 0, 0, 0, 0, 0, 0, 0, 0, 0, 0, 0, 0, 0, 0, 0, 0, 0, 0, 0, 0, 0, 0, 0, 0, 0, 0, 0, 0, 0, 0, 0])].flatten ++ ([])) te33 zr33 Try.underlying80 hI hA rfl rfl rfl rfl (by kernel_rfl) rfl fun g2 a w hA hI => ?_
                generalize hcs : ([av .u8 32 ([0, 0, 0, 0, 0, 0, 0, 0, 0, 0, 0, 0, 0, 0, 0, 0, 0, 0, 0, 0, 0, 0, 0, 0, 0, 0, 0, 0, 0, 0, 0, 0])].flatten ++ ([]) : List Value) = cs2 at hE2 hI
                clear hcs
                refine o_nil ?_
                refine ⟨(.inr (hI.sel [1, 2] (by decide) rfl)), ?_⟩
                refine g_fork (i := 8) (is := [16]) (by kernel_rfl) (List.forall_mem_cons.2 ⟨⟨_, rfl, ?_⟩, (List.forall_mem_cons.2 ⟨⟨_, rfl, ?_⟩, List.forall_mem_nil _⟩)⟩)
                · skip
                  obtain ⟨r5, hr5, H⟩ := bB H
                  refine o_call (fun v w' => ∃ (v0 : Value) (c0 : List Value), v = v0 ∧ Els (RA .u8 32) 32 r5 c0 ∧ Iv w [] μ μ [row 33 32 v0 r5.length c0] w') cf73 hA rfl ((by obtain ⟨μ2, hle2, hsv2, hI⟩ := hI.freezeRow 2 rfl; have hS2 : Slc (RA .u8 32) 32 μ2 v2 r3.1 := ⟨_, hE1, hsv2⟩; exact (sargassoref_Hashes.c μ2 _ hI.agr r3.1 v2 hS2 r5 hr5).mono fun _ _ ⟨v, he, b0, b1, hv, f0, hi⟩ => ⟨v, he, b0, b1, hv, f0, hi.low hle2⟩)) rfl fun v3 a w hz7 hA => ?_
                  obtain ⟨_, cs3, rfl, hE3, hi2⟩ := hz7
                  have hI := hI.call hi2
                  refine o_nil ?_
                  refine ⟨(.inr (hI.sel [2, 3] (by decide) rfl)), ?_⟩
                  refine g_fork (i := 11) (is := [16]) (by kernel_rfl) (List.forall_mem_cons.2 ⟨⟨_, rfl, ?_⟩, (List.forall_mem_cons.2 ⟨⟨_, rfl, ?_⟩, List.forall_mem_nil _⟩)⟩)
                  · skip
                    obtain ⟨hb2, H⟩ := bG H
                    have hE5 := hE3.app hE2
                    refine o_appL (xs := (r5 : List (List Int))) (ys := (([[0, 0, 0, 0, 0, 0, 0, 0, 0, 0, 0, 0, 0, 0, 0, 0, 0, 0, 0, 0, 0, 0, 0, 0, 0, 0, 0, 0, 0, 0, 0, 0]] : List (List Int)) : List (List Int))) (j := 0) te33 Try.underlying80 hI rfl hA rfl rfl (src_row hI (j := 1) rfl) hE2.len (hE2.ones (one_RA _ _)) (by first | decide | (have hq := hb2; (try simp only [List.length_cons, List.length_nil] at hq); (try simp only [List.length_cons, List.length_nil]); (try simp only [maxLen]); omega)) (by first | decide | (have hq := hb2; (try simp only [List.length_cons, List.length_nil] at hq); (try simp only [List.length_cons, List.length_nil]); (try simp only [maxLen]); omega)) rfl fun v4 a w hA hI => ?_
                    refine o_nil ?_
                    refine ⟨(.inr (hI.sel [2, 3] (by decide) rfl)), ?_⟩
                    refine g_fork (i := 12) (is := [16]) (by kernel_rfl) (List.forall_mem_cons.2 ⟨⟨_, rfl, ?_⟩, (List.forall_mem_cons.2 ⟨⟨_, rfl, ?_⟩, List.forall_mem_nil _⟩)⟩)
                    · skip
                      obtain ⟨r6, hr6, H⟩ := bB H
                      refine o_callp (u := .tuple #[.agg [av .u8 32 r6.1].flatten.toArray, .bool r6.2]) cf76 hA rfl hI ((by obtain ⟨μ3, hle3, hsv4, hI⟩ := hI.freezeRow 0 rfl; have hS3 : Slc (RA .u8 32) 32 μ3 v4 (r5 ++ ([[0, 0, 0, 0, 0, 0, 0, 0, 0, 0, 0, 0, 0, 0, 0, 0, 0, 0, 0, 0, 0, 0, 0, 0, 0, 0, 0, 0, 0, 0, 0, 0]] : List (List Int))) := ⟨_, hE5, hsv4⟩; exact low_plain hle3 (merkle_Climb.c μ3 _ hI.agr (x0.getD r2.toNat []) hw2 r2 hz3 (x0.length : Int) (len_in hx0) (r5 ++ ([[0, 0, 0, 0, 0, 0, 0, 0, 0, 0, 0, 0, 0, 0, 0, 0, 0, 0, 0, 0, 0, 0, 0, 0, 0, 0, 0, 0, 0, 0, 0, 0]] : List (List Int))) v4 hS3 r6 hr6))) rfl fun a w hz8 hI hA => ?_
                      refine o_nil ?_
                      refine ⟨(.inr (hI.sel [2, 3] (by decide) rfl)), ?_⟩
                      refine g_easy (i := 13) hA rfl rfl (by kernel_rfl) (.inr (hI.sel [2, 3] (by decide) rfl)) (fun _ => r_mv hA rfl) rfl fun a hA => ?_
                      refine g_easy (i := 14) hA rfl rfl (by kernel_rfl) (.inr (hI.sel [2, 3] (by decide) rfl)) (fun _ => r_extr (vs := [.agg [av .u8 32 r6.1].flatten.toArray, .bool r6.2]) hA rfl rfl) rfl fun a hA => ?_
                      refine g_easy (i := 15) hA rfl rfl (by kernel_rfl) (.inr (hI.sel [2, 3] (by decide) rfl)) (fun _ => r_extr (vs := [.agg [av .u8 32 r6.1].flatten.toArray, .bool r6.2]) hA rfl rfl) rfl fun a hA => ?_
                      refine g_forced (i := 16) rfl (by kernel_rfl) ?_
                      refine o_new [av .u8 32 (List.replicate 32 0)] zr33 hI hA rfl fun g3 a w hA hI hg3 => ?_
                      refine o_nil ?_
                      refine ⟨(.inr (hI.sel [3, 4] (by decide) rfl)), ?_⟩
                      refine g_forced (i := 17) rfl (by kernel_rfl) ?_
                      refine o_st (j := 0) [] [av .u8 32 (List.replicate 32 0)] [av .u8 32 r6.1] [] sz33 rfl rfl (fl_cons (one_av _ _ _) fl_nil) hI rfl hA rfl rfl rfl rfl fun w hI => ?_
                      refine o_nil ?_
                      refine ⟨(.inr (hI.sel [3, 4] (by decide) rfl)), ?_⟩
                      refine g_easy (i := 18) hA rfl rfl (by kernel_rfl) (.inr (hI.sel [3, 4] (by decide) rfl)) (fun _ => r_as hA rfl) rfl fun a hA => ?_
                      refine g_nil (by kernel_rfl) ?_
                      cases Option.some.inj (bS H)
                      exact ⟨hA.sub ⟨rfl, rfl, rfl, rfl, rfl, rfl, rfl, rfl, rfl, rfl, rfl, rfl, trivial⟩, (hI.sel [3, 4] (by decide) rfl)⟩
                    · skip
                      refine o_new [av .u8 32 (List.replicate 32 0)] zr33 hI hA rfl fun g3 a w hA hI hg3 => ?_
                      refine o_nil ?_
                      refine ⟨(.inr (hI.sel [3, 4] (by decide) rfl)), ?_⟩
                      refine g_forced (i := 12) rfl (by kernel_rfl) ?_
                      obtain ⟨r6, hr6, H⟩ := bB H
                      refine o_callp (u := .tuple #[.agg [av .u8 32 r6.1].flatten.toArray, .bool r6.2]) cf76 hA rfl hI ((by obtain ⟨μ3, hle3, hsv4, hI⟩ := hI.freezeRow 1 rfl; have hS3 : Slc (RA .u8 32) 32 μ3 v4 (r5 ++ ([[0, 0, 0, 0, 0, 0, 0, 0, 0, 0, 0, 0, 0, 0, 0, 0, 0, 0, 0, 0, 0, 0, 0, 0, 0, 0, 0, 0, 0, 0, 0, 0]] : List (List Int))) := ⟨_, hE5, hsv4⟩; exact low_plain hle3 (merkle_Climb.c μ3 _ hI.agr (x0.getD r2.toNat []) hw2 r2 hz3 (x0.length : Int) (len_in hx0) (r5 ++ ([[0, 0, 0, 0, 0, 0, 0, 0, 0, 0, 0, 0, 0, 0, 0, 0, 0, 0, 0, 0, 0, 0, 0, 0, 0, 0, 0, 0, 0, 0, 0, 0]] : List (List Int))) v4 hS3 r6 hr6))) rfl fun a w hz8 hI hA => ?_
                      refine o_nil ?_
                      refine ⟨(.inr (hI.sel [3, 4] (by decide) rfl)), ?_⟩
                      refine g_easy (i := 13) hA rfl rfl (by kernel_rfl) (.inr (hI.sel [3, 4] (by decide) rfl)) (fun _ => r_mv hA rfl) rfl fun a hA => ?_
                      refine g_easy (i := 14) hA rfl rfl (by kernel_rfl) (.inr (hI.sel [3, 4] (by decide) rfl)) (fun _ => r_extr (vs := [.agg [av .u8 32 r6.1].flatten.toArray, .bool r6.2]) hA rfl rfl) rfl fun a hA => ?_
                      refine g_easy (i := 15) hA rfl rfl (by kernel_rfl) (.inr (hI.sel [3, 4] (by decide) rfl)) (fun _ => r_extr (vs := [.agg [av .u8 32 r6.1].flatten.toArray, .bool r6.2]) hA rfl rfl) rfl fun a hA => ?_
                      refine g_forced (i := 17) rfl (by kernel_rfl) ?_
                      refine o_st (j := 0) [] [av .u8 32 (List.replicate 32 0)] [av .u8 32 r6.1] [] sz33 rfl rfl (fl_cons (one_av _ _ _) fl_nil) hI rfl hA rfl rfl rfl rfl fun w hI => ?_
                      refine o_nil ?_
                      refine ⟨(.inr (hI.sel [3, 4] (by decide) rfl)), ?_⟩
                      refine g_easy (i := 18) hA rfl rfl (by kernel_rfl) (.inr (hI.sel [3, 4] (by decide) rfl)) (fun _ => r_as hA rfl) rfl fun a hA => ?_
                      refine g_nil (by kernel_rfl) ?_
                      cases Option.some.inj (bS H)
                      exact ⟨hA.sub ⟨rfl, rfl, rfl, rfl, rfl, rfl, rfl, rfl, rfl, rfl, rfl, rfl, trivial⟩, (hI.sel [3, 4] (by decide) rfl)⟩
                  · skip
                    refine o_new [av .u8 32 (List.replicate 32 0)] zr33 hI hA rfl fun g3 a w hA hI hg3 => ?_
                    refine o_nil ?_
                    refine ⟨(.inr (hI.sel [3, 4] (by decide) rfl)), ?_⟩
                    refine g_forced (i := 11) rfl (by kernel_rfl) ?_
                    obtain ⟨hb2, H⟩ := bG H
                    have hE5 := hE3.app hE2
                    refine o_appL (xs := (r5 : List (List Int))) (ys := (([[0, 0, 0, 0, 0, 0, 0, 0, 0, 0, 0, 0, 0, 0, 0, 0, 0, 0, 0, 0, 0, 0, 0, 0, 0, 0, 0, 0, 0, 0, 0, 0]] : List (List Int)) : List (List Int))) (j := 1) te33 Try.underlying80 hI rfl hA rfl rfl (src_row hI (j := 2) rfl) hE2.len (hE2.ones (one_RA _ _)) (by first | decide | (have hq := hb2; (try simp only [List.length_cons, List.length_nil] at hq); (try simp only [List.length_cons, List.length_nil]); (try simp only [maxLen]); omega)) (by first | decide | (have hq := hb2; (try simp only [List.length_cons, List.length_nil] at hq); (try simp only [List.length_cons, List.length_nil]); (try simp only [maxLen]); omega)) rfl fun v4 a w hA hI => ?_
                    refine o_nil ?_
                    refine ⟨(.inr (hI.sel [3, 4] (by decide) rfl)), ?_⟩
                    refine g_forced (i := 12) rfl (by kernel_rfl) ?_
                    obtain ⟨r6, hr6, H⟩ := bB H
                    refine o_callp (u := .tuple #[.agg [av .u8 32 r6.1].flatten.toArray, .bool r6.2]) cf76 hA rfl hI ((by obtain ⟨μ3, hle3, hsv4, hI⟩ := hI.freezeRow 1 rfl; have hS3 : Slc (RA .u8 32) 32 μ3 v4 (r5 ++ ([[0, 0, 0, 0, 0, 0, 0, 0, 0, 0, 0, 0, 0, 0, 0, 0, 0, 0, 0, 0, 0, 0, 0, 0, 0, 0, 0, 0, 0, 0, 0, 0]] : List (List Int))) := ⟨_, hE5, hsv4⟩; exact low_plain hle3 (merkle_Climb.c μ3 _ hI.agr (x0.getD r2.toNat []) hw2 r2 hz3 (x0.length : Int) (len_in hx0) (r5 ++ ([[0, 0, 0, 0, 0, 0, 0, 0, 0, 0, 0, 0, 0, 0, 0, 0, 0, 0, 0, 0, 0, 0, 0, 0, 0, 0, 0, 0, 0, 0, 0, 0]] : List (List Int))) v4 hS3 r6 hr6))) rfl fun a w hz8 hI hA => ?_
                    refine o_nil ?_
                    refine ⟨(.inr (hI.sel [3, 4] (by decide) rfl)), ?_⟩
                    refine g_easy (i := 13) hA rfl rfl (by kernel_rfl) (.inr (hI.sel [3, 4] (by decide) rfl)) (fun _ => r_mv hA rfl) rfl fun a hA => ?_
                    refine g_easy (i := 14) hA rfl rfl (by kernel_rfl) (.inr (hI.sel [3, 4] (by decide) rfl)) (fun _ => r_extr (vs := [.agg [av .u8 32 r6.1].flatten.toArray, .bool r6.2]) hA rfl rfl) rfl fun a hA => ?_
                    refine g_easy (i := 15) hA rfl rfl (by kernel_rfl) (.inr (hI.sel [3, 4] (by decide) rfl)) (fun _ => r_extr (vs := [.agg [av .u8 32 r6.1].flatten.toArray, .bool r6.2]) hA rfl rfl) rfl fun a hA => ?_
                    refine g_forced (i := 17) rfl (by kernel_rfl) ?_
                    refine o_st (j := 0) [] [av .u8 32 (List.replicate 32 0)] [av .u8 32 r6.1] [] sz33 rfl rfl (fl_cons (one_av _ _ _) fl_nil) hI rfl hA rfl rfl rfl rfl fun w hI => ?_
                    refine o_nil ?_
                    refine ⟨(.inr (hI.sel [3, 4] (by decide) rfl)), ?_⟩
                    refine g_easy (i := 18) hA rfl rfl (by kernel_rfl) (.inr (hI.sel [3, 4] (by decide) rfl)) (fun _ => r_as hA rfl) rfl fun a hA => ?_
                    refine g_nil (by kernel_rfl) ?_
                    cases Option.some.inj (bS H)
                    exact ⟨hA.sub ⟨rfl, rfl, rfl, rfl, rfl, rfl, rfl, rfl, rfl, rfl, rfl, rfl, trivial⟩, (hI.sel [3, 4] (by decide) rfl)⟩
                · skip
                  refine o_new [av .u8 32 (List.replicate 32 0)] zr33 hI hA rfl fun g3 a w hA hI hg3 => ?_
                  refine o_nil ?_
                  refine ⟨(.inr (hI.sel [2, 3] (by decide) rfl)), ?_⟩
                  refine g_forced (i := 8) rfl (by kernel_rfl) ?_
                  obtain ⟨r5, hr5, H⟩ := bB H
                  refine o_call (fun v w' => ∃ (v0 : Value) (c0 : List Value), v = v0 ∧ Els (RA .u8 32) 32 r5 c0 ∧ Iv w [] μ μ [row 33 32 v0 r5.length c0] w') cf73 hA rfl ((by obtain ⟨μ2, hle2, hsv2, hI⟩ := hI.freezeRow 3 rfl; have hS2 : Slc (RA .u8 32) 32 μ2 v2 r3.1 := ⟨_, hE1, hsv2⟩; exact (sargassoref_Hashes.c μ2 _ hI.agr r3.1 v2 hS2 r5 hr5).mono fun _ _ ⟨v, he, b0, b1, hv, f0, hi⟩ => ⟨v, he, b0, b1, hv, f0, hi.low hle2⟩)) rfl fun v3 a w hz7 hA => ?_
                  obtain ⟨_, cs3, rfl, hE3, hi2⟩ := hz7
                  have hI := hI.call hi2
                  refine o_nil ?_
                  refine ⟨(.inr (hI.sel [3, 4] (by decide) rfl)), ?_⟩
                  refine g_forced (i := 11) rfl (by kernel_rfl) ?_
                  obtain ⟨hb2, H⟩ := bG H
                  have hE5 := hE3.app hE2
                  refine o_appL (xs := (r5 : List (List Int))) (ys := (([[0, 0, 0, 0, 0, 0, 0, 0, 0, 0, 0, 0, 0, 0, 0, 0, 0, 0, 0, 0, 0, 0, 0, 0, 0, 0, 0, 0, 0, 0, 0, 0]] : List (List Int)) : List (List Int))) (j := 0) te33 Try.underlying80 hI rfl hA rfl rfl (src_row hI (j := 2) rfl) hE2.len (hE2.ones (one_RA _ _)) (by first | decide | (have hq := hb2; (try simp only [List.length_cons, List.length_nil] at hq); (try simp only [List.length_cons, List.length_nil]); (try simp only [maxLen]); omega)) (by first | decide | (have hq := hb2; (try simp only [List.length_cons, List.length_nil] at hq); (try simp only [List.length_cons, List.length_nil]); (try simp only [maxLen]); omega)) rfl fun v4 a w hA hI => ?_
                  refine o_nil ?_
                  refine ⟨(.inr (hI.sel [3, 4] (by decide) rfl)), ?_⟩
                  refine g_forced (i := 12) rfl (by kernel_rfl) ?_
                  obtain ⟨r6, hr6, H⟩ := bB H
                  refine o_callp (u := .tuple #[.agg [av .u8 32 r6.1].flatten.toArray, .bool r6.2]) cf76 hA rfl hI ((by obtain ⟨μ3, hle3, hsv4, hI⟩ := hI.freezeRow 0 rfl; have hS3 : Slc (RA .u8 32) 32 μ3 v4 (r5 ++ ([[0, 0, 0, 0, 0, 0, 0, 0, 0, 0, 0, 0, 0, 0, 0, 0, 0, 0, 0, 0, 0, 0, 0, 0, 0, 0, 0, 0, 0, 0, 0, 0]] : List (List Int))) := ⟨_, hE5, hsv4⟩; exact low_plain hle3 (merkle_Climb.c μ3 _ hI.agr (x0.getD r2.toNat []) hw2 r2 hz3 (x0.length : Int) (len_in hx0) (r5 ++ ([[0, 0, 0, 0, 0, 0, 0, 0, 0, 0, 0, 0, 0, 0, 0, 0, 0, 0, 0, 0, 0, 0, 0, 0, 0, 0, 0, 0, 0, 0, 0, 0]] : List (List Int))) v4 hS3 r6 hr6))) rfl fun a w hz8 hI hA => ?_
                  refine o_nil ?_
                  refine ⟨(.inr (hI.sel [3, 4] (by decide) rfl)), ?_⟩
                  refine g_easy (i := 13) hA rfl rfl (by kernel_rfl) (.inr (hI.sel [3, 4] (by decide) rfl)) (fun _ => r_mv hA rfl) rfl fun a hA => ?_
                  refine g_easy (i := 14) hA rfl rfl (by kernel_rfl) (.inr (hI.sel [3, 4] (by decide) rfl)) (fun _ => r_extr (vs := [.agg [av .u8 32 r6.1].flatten.toArray, .bool r6.2]) hA rfl rfl) rfl fun a hA => ?_
                  refine g_easy (i := 15) hA rfl rfl (by kernel_rfl) (.inr (hI.sel [3, 4] (by decide) rfl)) (fun _ => r_extr (vs := [.agg [av .u8 32 r6.1].flatten.toArray, .bool r6.2]) hA rfl rfl) rfl fun a hA => ?_
                  refine g_forced (i := 17) rfl (by kernel_rfl) ?_
                  refine o_st (j := 1) [] [av .u8 32 (List.replicate 32 0)] [av .u8 32 r6.1] [] sz33 rfl rfl (fl_cons (one_av _ _ _) fl_nil) hI rfl hA rfl rfl rfl rfl fun w hI => ?_
                  refine o_nil ?_
                  refine ⟨(.inr (hI.sel [3, 4] (by decide) rfl)), ?_⟩
                  refine g_easy (i := 18) hA rfl rfl (by kernel_rfl) (.inr (hI.sel [3, 4] (by decide) rfl)) (fun _ => r_as hA rfl) rfl fun a hA => ?_
                  refine g_nil (by kernel_rfl) ?_
                  cases Option.some.inj (bS H)
                  exact ⟨hA.sub ⟨rfl, rfl, rfl, rfl, rfl, rfl, rfl, rfl, rfl, rfl, rfl, rfl, trivial⟩, (hI.sel [3, 4] (by decide) rfl)⟩
              · skip
                refine o_new [av .u8 32 (List.replicate 32 0)] zr33 hI hA rfl fun g2 a w hA hI hg2 => ?_
                refine o_nil ?_
                refine ⟨(.inr (hI.sel [1, 2] (by decide) rfl)), ?_⟩
                refine g_fork (i := 8) (is := [10]) (by kernel_rfl) (List.forall_mem_cons.2 ⟨⟨_, rfl, ?_⟩, (List.forall_mem_cons.2 ⟨⟨_, rfl, ?_⟩, List.forall_mem_nil _⟩)⟩)
                · skip
                  obtain ⟨r5, hr5, H⟩ := bB H
                  refine o_call (fun v w' => ∃ (v0 : Value) (c0 : List Value), v = v0 ∧ Els (RA .u8 32) 32 r5 c0 ∧ Iv w [] μ μ [row 33 32 v0 r5.length c0] w') cf73 hA rfl ((by obtain ⟨μ2, hle2, hsv2, hI⟩ := hI.freezeRow 2 rfl; have hS2 : Slc (RA .u8 32) 32 μ2 v2 r3.1 := ⟨_, hE1, hsv2⟩; exact (sargassoref_Hashes.c μ2 _ hI.agr r3.1 v2 hS2 r5 hr5).mono fun _ _ ⟨v, he, b0, b1, hv, f0, hi⟩ => ⟨v, he, b0, b1, hv, f0, hi.low hle2⟩)) rfl fun v3 a w hz7 hA => ?_
                  obtain ⟨_, cs2, rfl, hE2, hi2⟩ := hz7
                  have hI := hI.call hi2
                  refine o_nil ?_
                  refine ⟨(.inr (hI.sel [2, 3] (by decide) rfl)), ?_⟩
                  refine g_forced (i := 10) rfl (by kernel_rfl) ?_
                  have hE3 : Els (RA .u8 32) 32 ([[0, 0, 0, 0, 0, 0, 0, 0, 0, 0, 0, 0, 0, 0, 0, 0, 0, 0, 0, 0, 0, 0, 0, 0, 0, 0, 0, 0, 0, 0, 0, 0]] : List (List Int)) ([av .u8 32 ([0, 0, 0, 0, 0, 0, 0, 0, 0, 0, 0, 0, 0, 0, 0, 0, 0, 0, 0, 0, 0, 0, 0, 0, 0, 0, 0, 0, 0, 0, 0, 0])].flatten ++ ([])) := (Els.cons (c := [av .u8 32 ([0, 0, 0, 0, 0, 0, 0, 0, 0, 0, 0, 0, 0, 0, 0, 0, 0, 0, 0, 0, 0, 0, 0, 0, 0, 0, 0, 0, 0, 0, 0, 0])].flatten) ⟨rfl, (arr_lit rfl (by simp only [List.forall_mem_cons]; exact ⟨(in_lit .u8 0 rfl), (in_lit .u8 0 rfl), (in_lit .u8 0 rfl), (in_lit .u8 0 rfl), (in_lit .u8 0 rfl), (in_lit .u8 0 rfl), (in_lit .u8 0 rfl), (in_lit .u8 0 rfl), (in_lit .u8 0 rfl), (in_lit .u8 0 rfl), (in_lit .u8 0 rfl), (in_lit .u8 0 rfl), (in_lit .u8 0 rfl), (in_lit .u8 0 rfl), (in_lit .u8 0 rfl), (in_lit .u8 0 rfl), (in_lit .u8 0 rfl), (in_lit .u8 0 rfl), (in_lit .u8 0 rfl), (in_lit .u8 0 rfl), (in_lit .u8 0 rfl), (in_lit .u8 0 rfl), (in_lit .u8 0 rfl), (in_lit .u8 0 rfl), (in_lit .u8 0 rfl), (in_lit .u8 0 rfl), (in_lit .u8 0 rfl), (in_lit .u8 0 rfl), (in_lit .u8 0 rfl), (in_lit .u8 0 rfl), (in_lit .u8 0 rfl), (in_lit .u8 0 rfl), by simp⟩))⟩ rfl Els.nil)
                  refine o_bsl ([av .u8 32 ([0, 0, 0, 0, 0, 0, 0, 0, 0, 0, 0, 0, 0, 0, 0, 0, 0, 0, 0, 0, 0, 0, 0, 0, 0, 0, 0, 0, 0, 0, 0, 0])].flatten ++ ([])) te33 zr33 Try.underlying80 hI hA rfl rfl rfl rfl (by kernel_rfl) rfl fun g3 a w hA hI => ?_
                  generalize hcs : ([av .u8 32 ([0, 0, 0, 0, 0, 0, 0, 0, 0, 0, 0, 0, 0, 0, 0, 0, 0, 0, 0, 0, 0, 0, 0, 0, 0, 0, 0, 0, 0, 0, 0, 0])].flatten ++ ([]) : List Value) = cs3 at hE3 hI
                  clear hcs
                  refine o_nil ?_
                  refine ⟨(.inr (hI.sel [3, 4] (by decide) rfl)), ?_⟩
                  refine g_forced (i := 11) rfl (by kernel_rfl) ?_
                  obtain ⟨hb2, H⟩ := bG H
                  have hE5 := hE2.app hE3
                  refine o_appL (xs := (r5 : List (List Int))) (ys := (([[0, 0, 0, 0, 0, 0, 0, 0, 0, 0, 0, 0, 0, 0, 0, 0, 0, 0, 0, 0, 0, 0, 0, 0, 0, 0, 0, 0, 0, 0, 0, 0]] : List (List Int)) : List (List Int))) (j := 1) te33 Try.underlying80 hI rfl hA rfl rfl (src_row hI (j := 0) rfl) hE3.len (hE3.ones (one_RA _ _)) (by first | decide | (have hq := hb2; (try simp only [List.length_cons, List.length_nil] at hq); (try simp only [List.length_cons, List.length_nil]); (try simp only [maxLen]); omega)) (by first | decide | (have hq := hb2; (try simp only [List.length_cons, List.length_nil] at hq); (try simp only [List.length_cons, List.length_nil]); (try simp only [maxLen]); omega)) rfl fun v4 a w hA hI => ?_
                  refine o_nil ?_
                  refine ⟨(.inr (hI.sel [3, 4] (by decide) rfl)), ?_⟩
                  refine g_forced (i := 12) rfl (by kernel_rfl) ?_
                  obtain ⟨r6, hr6, H⟩ := bB H
                  refine o_callp (u := .tuple #[.agg [av .u8 32 r6.1].flatten.toArray, .bool r6.2]) cf76 hA rfl hI ((by obtain ⟨μ3, hle3, hsv4, hI⟩ := hI.freezeRow 1 rfl; have hS3 : Slc (RA .u8 32) 32 μ3 v4 (r5 ++ ([[0, 0, 0, 0, 0, 0, 0, 0, 0, 0, 0, 0, 0, 0, 0, 0, 0, 0, 0, 0, 0, 0, 0, 0, 0, 0, 0, 0, 0, 0, 0, 0]] : List (List Int))) := ⟨_, hE5, hsv4⟩; exact low_plain hle3 (merkle_Climb.c μ3 _ hI.agr (x0.getD r2.toNat []) hw2 r2 hz3 (x0.length : Int) (len_in hx0) (r5 ++ ([[0, 0, 0, 0, 0, 0, 0, 0, 0, 0, 0, 0, 0, 0, 0, 0, 0, 0, 0, 0, 0, 0, 0, 0, 0, 0, 0, 0, 0, 0, 0, 0]] : List (List Int))) v4 hS3 r6 hr6))) rfl fun a w hz8 hI hA => ?_
                  refine o_nil ?_
                  refine ⟨(.inr (hI.sel [3, 4] (by decide) rfl)), ?_⟩
                  refine g_easy (i := 13) hA rfl rfl (by kernel_rfl) (.inr (hI.sel [3, 4] (by decide) rfl)) (fun _ => r_mv hA rfl) rfl fun a hA => ?_
                  refine g_easy (i := 14) hA rfl rfl (by kernel_rfl) (.inr (hI.sel [3, 4] (by decide) rfl)) (fun _ => r_extr (vs := [.agg [av .u8 32 r6.1].flatten.toArray, .bool r6.2]) hA rfl rfl) rfl fun a hA => ?_
                  refine g_easy (i := 15) hA rfl rfl (by kernel_rfl) (.inr (hI.sel [3, 4] (by decide) rfl)) (fun _ => r_extr (vs := [.agg [av .u8 32 r6.1].flatten.toArray, .bool r6.2]) hA rfl rfl) rfl fun a hA => ?_
                  refine g_forced (i := 17) rfl (by kernel_rfl) ?_
                  refine o_st (j := 2) [] [av .u8 32 (List.replicate 32 0)] [av .u8 32 r6.1] [] sz33 rfl rfl (fl_cons (one_av _ _ _) fl_nil) hI rfl hA rfl rfl rfl rfl fun w hI => ?_
                  refine o_nil ?_
                  refine ⟨(.inr (hI.sel [3, 4] (by decide) rfl)), ?_⟩
                  refine g_easy (i := 18) hA rfl rfl (by kernel_rfl) (.inr (hI.sel [3, 4] (by decide) rfl)) (fun _ => r_as hA rfl) rfl fun a hA => ?_
                  refine g_nil (by kernel_rfl) ?_
                  cases Option.some.inj (bS H)
                  exact ⟨hA.sub ⟨rfl, rfl, rfl, rfl, rfl, rfl, rfl, rfl, rfl, rfl, rfl, rfl, trivial⟩, (hI.sel [3, 4] (by decide) rfl)⟩
                · skip
                  have hE2 : Els (RA .u8 32) 32 ([[0, 0, 0, 0, 0, 0, 0, 0, 0, 0, 0, 0, 0, 0, 0, 0, 0, 0, 0, 0, 0, 0, 0, 0, 0, 0, 0, 0, 0, 0, 0, 0]] : List (List Int)) ([av .u8 32 ([0, 0, 0, 0, 0, 0, 0, 0, 0, 0, 0, 0, 0, 0, 0, 0, 0, 0, 0, 0, 0, 0, 0, 0, 0, 0, 0, 0, 0, 0, 0, 0])].flatten ++ ([])) := (Els.cons (c := [av .u8 32 ([0, 0, 0, 0, 0, 0, 0, 0, 0, 0, 0, 0, 0, 0, 0, 0, 0, 0, 0, 0, 0, 0, 0, 0, 0, 0, 0, 0, 0, 0, 0, 0])].flatten) ⟨rfl, (arr_lit rfl (by simp only [List.forall_mem_cons]; exact ⟨(in_lit .u8 0 rfl), (in_lit .u8 0 rfl), (in_lit .u8 0 rfl), (in_lit .u8 0 rfl), (in_lit .u8 0 rfl), (in_lit .u8 0 rfl), (in_lit .u8 0 rfl), (in_lit .u8 0 rfl), (in_lit .u8 0 rfl), (in_lit .u8 0 rfl), (in_lit .u8 0 rfl), (in_lit .u8 0 rfl), (in_lit .u8 0 rfl), (in_lit .u8 0 rfl), (in_lit .u8 0 rfl), (in_lit .u8 0 rfl), (in_lit .u8 0 rfl), (in_lit .u8 0 rfl), (in_lit .u8 0 rfl), (in_lit .u8 0 rfl), (in_lit .u8 0 rfl), (in_lit .u8 0 rfl), (in_lit .u8 0 rfl), (in_lit .u8 0 rfl), (in_lit .u8 0 rfl), (in_lit .u8 0 rfl), (in_lit .u8 0 rfl), (in_lit .u8 0 rfl), (in_lit .u8 0 rfl), (in_lit .u8 0 rfl), (in_lit .u8 0 rfl), (in_lit .u8 0 rfl), by simp⟩))⟩ rfl Els.nil)
                  refine o_bsl ([av .u8 32 ([0, 0, 0, 0, 0, 0, 0, 0, 0, 0, 0, 0, 0, 0, 0, 0, 0, 0, 0, 0, 0, 0, 0, 0, 0, 0, 0, 0, 0, 0, 0, 0])].flatten ++ ([])) te33 zr33 Try.underlying80 hI hA rfl rfl rfl rfl (by kernel_rfl) rfl fun g3 a w hA hI => ?_
                  generalize hcs : ([av .u8 32 ([0, 0, 0, 0, 0, 0, 0, 0, 0, 0, 0, 0, 0, 0, 0, 0, 0, 0, 0, 0, 0, 0, 0, 0, 0, 0, 0, 0, 0, 0, 0, 0])].flatten ++ ([]) : List Value) = cs2 at hE2 hI
                  clear hcs
                  refine o_nil ?_
                  refine ⟨(.inr (hI.sel [2, 3] (by decide) rfl)), ?_⟩
                  refine g_forced (i := 8) rfl (by kernel_rfl) ?_
                  obtain ⟨r5, hr5, H⟩ := bB H
                  refine o_call (fun v w' => ∃ (v0 : Value) (c0 : List Value), v = v0 ∧ Els (RA .u8 32) 32 r5 c0 ∧ Iv w [] μ μ [row 33 32 v0 r5.length c0] w') cf73 hA rfl ((by obtain ⟨μ2, hle2, hsv2, hI⟩ := hI.freezeRow 3 rfl; have hS2 : Slc (RA .u8 32) 32 μ2 v2 r3.1 := ⟨_, hE1, hsv2⟩; exact (sargassoref_Hashes.c μ2 _ hI.agr r3.1 v2 hS2 r5 hr5).mono fun _ _ ⟨v, he, b0, b1, hv, f0, hi⟩ => ⟨v, he, b0, b1, hv, f0, hi.low hle2⟩)) rfl fun v3 a w hz7 hA => ?_
                  obtain ⟨_, cs3, rfl, hE3, hi2⟩ := hz7
                  have hI := hI.call hi2
                  refine o_nil ?_
                  refine ⟨(.inr (hI.sel [3, 4] (by decide) rfl)), ?_⟩
                  refine g_forced (i := 11) rfl (by kernel_rfl) ?_
                  obtain ⟨hb2, H⟩ := bG H
                  have hE5 := hE3.app hE2
                  refine o_appL (xs := (r5 : List (List Int))) (ys := (([[0, 0, 0, 0, 0, 0, 0, 0, 0, 0, 0, 0, 0, 0, 0, 0, 0, 0, 0, 0, 0, 0, 0, 0, 0, 0, 0, 0, 0, 0, 0, 0]] : List (List Int)) : List (List Int))) (j := 0) te33 Try.underlying80 hI rfl hA rfl rfl (src_row hI (j := 1) rfl) hE2.len (hE2.ones (one_RA _ _)) (by first | decide | (have hq := hb2; (try simp only [List.length_cons, List.length_nil] at hq); (try simp only [List.length_cons, List.length_nil]); (try simp only [maxLen]); omega)) (by first | decide | (have hq := hb2; (try simp only [List.length_cons, List.length_nil] at hq); (try simp only [List.length_cons, List.length_nil]); (try simp only [maxLen]); omega)) rfl fun v4 a w hA hI => ?_
                  refine o_nil ?_
                  refine ⟨(.inr (hI.sel [3, 4] (by decide) rfl)), ?_⟩
                  refine g_forced (i := 12) rfl (by kernel_rfl) ?_
                  obtain ⟨r6, hr6, H⟩ := bB H
                  refine o_callp (u := .tuple #[.agg [av .u8 32 r6.1].flatten.toArray, .bool r6.2]) cf76 hA rfl hI ((by obtain ⟨μ3, hle3, hsv4, hI⟩ := hI.freezeRow 0 rfl; have hS3 : Slc (RA .u8 32) 32 μ3 v4 (r5 ++ ([[0, 0, 0, 0, 0, 0, 0, 0, 0, 0, 0, 0, 0, 0, 0, 0, 0, 0, 0, 0, 0, 0, 0, 0, 0, 0, 0, 0, 0, 0, 0, 0]] : List (List Int))) := ⟨_, hE5, hsv4⟩; exact low_plain hle3 (merkle_Climb.c μ3 _ hI.agr (x0.getD r2.toNat []) hw2 r2 hz3 (x0.length : Int) (len_in hx0) (r5 ++ ([[0, 0, 0, 0, 0, 0, 0, 0, 0, 0, 0, 0, 0, 0, 0, 0, 0, 0, 0, 0, 0, 0, 0, 0, 0, 0, 0, 0, 0, 0, 0, 0]] : List (List Int))) v4 hS3 r6 hr6))) rfl fun a w hz8 hI hA => ?_
                  refine o_nil ?_
                  refine ⟨(.inr (hI.sel [3, 4] (by decide) rfl)), ?_⟩
                  refine g_easy (i := 13) hA rfl rfl (by kernel_rfl) (.inr (hI.sel [3, 4] (by decide) rfl)) (fun _ => r_mv hA rfl) rfl fun a hA => ?_
                  refine g_easy (i := 14) hA rfl rfl (by kernel_rfl) (.inr (hI.sel [3, 4] (by decide) rfl)) (fun _ => r_extr (vs := [.agg [av .u8 32 r6.1].flatten.toArray, .bool r6.2]) hA rfl rfl) rfl fun a hA => ?_
                  refine g_easy (i := 15) hA rfl rfl (by kernel_rfl) (.inr (hI.sel [3, 4] (by decide) rfl)) (fun _ => r_extr (vs := [.agg [av .u8 32 r6.1].flatten.toArray, .bool r6.2]) hA rfl rfl) rfl fun a hA => ?_
                  refine g_forced (i := 17) rfl (by kernel_rfl) ?_
                  refine o_st (j := 2) [] [av .u8 32 (List.replicate 32 0)] [av .u8 32 r6.1] [] sz33 rfl rfl (fl_cons (one_av _ _ _) fl_nil) hI rfl hA rfl rfl rfl rfl fun w hI => ?_
                  refine o_nil ?_
                  refine ⟨(.inr (hI.sel [3, 4] (by decide) rfl)), ?_⟩
                  refine g_easy (i := 18) hA rfl rfl (by kernel_rfl) (.inr (hI.sel [3, 4] (by decide) rfl)) (fun _ => r_as hA rfl) rfl fun a hA => ?_
                  refine g_nil (by kernel_rfl) ?_
                  cases Option.some.inj (bS H)
                  exact ⟨hA.sub ⟨rfl, rfl, rfl, rfl, rfl, rfl, rfl, rfl, rfl, rfl, rfl, rfl, trivial⟩, (hI.sel [3, 4] (by decide) rfl)⟩
            · skip
              refine o_new [av .u8 32 (List.replicate 32 0)] zr33 hI hA rfl fun g2 a w hA hI hg2 => ?_
              refine o_nil ?_
              refine ⟨(.inr (hI.sel [1, 2] (by decide) rfl)), ?_⟩
              refine g_fork (i := 8) (is := [9]) (by kernel_rfl) (List.forall_mem_cons.2 ⟨⟨_, rfl, ?_⟩, (List.forall_mem_cons.2 ⟨⟨_, rfl, ?_⟩, List.forall_mem_nil _⟩)⟩)
              · skip
                obtain ⟨r5, hr5, H⟩ := bB H
                refine o_call (fun v w' => ∃ (v0 : Value) (c0 : List Value), v = v0 ∧ Els (RA .u8 32) 32 r5 c0 ∧ Iv w [] μ μ [row 33 32 v0 r5.length c0] w') cf73 hA rfl ((by obtain ⟨μ2, hle2, hsv2, hI⟩ := hI.freezeRow 2 rfl; have hS2 : Slc (RA .u8 32) 32 μ2 v2 r3.1 := ⟨_, hE1, hsv2⟩; exact (sargassoref_Hashes.c μ2 _ hI.agr r3.1 v2 hS2 r5 hr5).mono fun _ _ ⟨v, he, b0, b1, hv, f0, hi⟩ => ⟨v, he, b0, b1, hv, f0, hi.low hle2⟩)) rfl fun v3 a w hz7 hA => ?_
                obtain ⟨_, cs2, rfl, hE2, hi2⟩ := hz7
                have hI := hI.call hi2
                refine o_nil ?_
                refine ⟨(.inr (hI.sel [2, 3] (by decide) rfl)), ?_⟩
                refine g_forced (i := 9) rfl (by kernel_rfl) ?_
                refine stp hA (r_bldA (cs := [av .u8 32 ([0, 0, 0, 0, 0, 0, 0, 0, 0, 0, 0, 0, 0, 0, 0, 0, 0, 0, 0, 0, 0, 0, 0, 0, 0, 0, 0, 0, 0, 0, 0, 0])].flatten.toArray) zr33 Try.underlying33 sz5 hA rfl (by kernel_rfl)) rfl fun a hA => ?_
                refine o_nil ?_
                refine ⟨(.inr (hI.sel [2, 3] (by decide) rfl)), ?_⟩
                refine g_forced (i := 10) rfl (by kernel_rfl) ?_
                have hE3 : Els (RA .u8 32) 32 ([[0, 0, 0, 0, 0, 0, 0, 0, 0, 0, 0, 0, 0, 0, 0, 0, 0, 0, 0, 0, 0, 0, 0, 0, 0, 0, 0, 0, 0, 0, 0, 0]] : List (List Int)) ([av .u8 32 ([0, 0, 0, 0, 0, 0, 0, 0, 0, 0, 0, 0, 0, 0, 0, 0, 0, 0, 0, 0, 0, 0, 0, 0, 0, 0, 0, 0, 0, 0, 0, 0])].flatten ++ ([])) := (Els.cons (c := [av .u8 32 ([0, 0, 0, 0, 0, 0, 0, 0, 0, 0, 0, 0, 0, 0, 0, 0, 0, 0, 0, 0, 0, 0, 0, 0, 0, 0, 0, 0, 0, 0, 0, 0])].flatten) ⟨rfl, (arr_lit rfl (by simp only [List.forall_mem_cons]; exact ⟨(in_lit .u8 0 rfl), (in_lit .u8 0 rfl), (in_lit .u8 0 rfl), (in_lit .u8 0 rfl), (in_lit .u8 0 rfl), (in_lit .u8 0 rfl), (in_lit .u8 0 rfl), (in_lit .u8 0 rfl), (in_lit .u8 0 rfl), (in_lit .u8 0 rfl), (in_lit .u8 0 rfl), (in_lit .u8 0 rfl), (in_lit .u8 0 rfl), (in_lit .u8 0 rfl), (in_lit .u8 0 rfl), (in_lit .u8 0 rfl), (in_lit .u8 0 rfl), (in_lit .u8 0 rfl), (in_lit .u8 0 rfl), (in_lit .u8 0 rfl), (in_lit .u8 0 rfl), (in_lit .u8 0 rfl), (in_lit .u8 0 rfl), (in_lit .u8 0 rfl), (in_lit .u8 0 rfl), (in_lit .u8 0 rfl), (in_lit .u8 0 rfl), (in_lit .u8 0 rfl), (in_lit .u8 0 rfl), (in_lit .u8 0 rfl), (in_lit .u8 0 rfl), (in_lit .u8 0 rfl), by simp⟩))⟩ rfl Els.nil)
                refine o_bsl ([av .u8 32 ([0, 0, 0, 0, 0, 0, 0, 0, 0, 0, 0, 0, 0, 0, 0, 0, 0, 0, 0, 0, 0, 0, 0, 0, 0, 0, 0, 0, 0, 0, 0, 0])].flatten ++ ([])) te33 zr33 Try.underlying80 hI hA rfl rfl rfl rfl (by kernel_rfl) rfl fun g3 a w hA hI => ?_
                generalize hcs : ([av .u8 32 ([0, 0, 0, 0, 0, 0, 0, 0, 0, 0, 0, 0, 0, 0, 0, 0, 0, 0, 0, 0, 0, 0, 0, 0, 0, 0, 0, 0, 0, 0, 0, 0])].flatten ++ ([]) : List Value) = cs3 at hE3 hI
                clear hcs
                refine o_nil ?_
                refine ⟨(.inr (hI.sel [3, 4] (by decide) rfl)), ?_⟩
                refine g_forced (i := 11) rfl (by kernel_rfl) ?_
                obtain ⟨hb2, H⟩ := bG H
                have hE5 := hE2.app hE3
                refine o_appL (xs := (r5 : List (List Int))) (ys := (([[0, 0, 0, 0, 0, 0, 0, 0, 0, 0, 0, 0, 0, 0, 0, 0, 0, 0, 0, 0, 0, 0, 0, 0, 0, 0, 0, 0, 0, 0, 0, 0]] : List (List Int)) : List (List Int))) (j := 1) te33 Try.underlying80 hI rfl hA rfl rfl (src_row hI (j := 0) rfl) hE3.len (hE3.ones (one_RA _ _)) (by first | decide | (have hq := hb2; (try simp only [List.length_cons, List.length_nil] at hq); (try simp only [List.length_cons, List.length_nil]); (try simp only [maxLen]); omega)) (by first | decide | (have hq := hb2; (try simp only [List.length_cons, List.length_nil] at hq); (try simp only [List.length_cons, List.length_nil]); (try simp only [maxLen]); omega)) rfl fun v4 a w hA hI => ?_
                refine o_nil ?_
                refine ⟨(.inr (hI.sel [3, 4] (by decide) rfl)), ?_⟩
                refine g_forced (i := 12) rfl (by kernel_rfl) ?_
                obtain ⟨r6, hr6, H⟩ := bB H
                refine o_callp (u := .tuple #[.agg [av .u8 32 r6.1].flatten.toArray, .bool r6.2]) cf76 hA rfl hI ((by obtain ⟨μ3, hle3, hsv4, hI⟩ := hI.freezeRow 1 rfl; have hS3 : Slc (RA .u8 32) 32 μ3 v4 (r5 ++ ([[0, 0, 0, 0, 0, 0, 0, 0, 0, 0, 0, 0, 0, 0, 0, 0, 0, 0, 0, 0, 0, 0, 0, 0, 0, 0, 0, 0, 0, 0, 0, 0]] : List (List Int))) := ⟨_, hE5, hsv4⟩; exact low_plain hle3 (merkle_Climb.c μ3 _ hI.agr (x0.getD r2.toNat []) hw2 r2 hz3 (x0.length : Int) (len_in hx0) (r5 ++ ([[0, 0, 0, 0, 0, 0, 0, 0, 0, 0, 0, 0, 0, 0, 0, 0, 0, 0, 0, 0, 0, 0, 0, 0, 0, 0, 0, 0, 0, 0, 0, 0]] : List (List Int))) v4 hS3 r6 hr6))) rfl fun a w hz8 hI hA => ?_
                refine o_nil ?_
                refine ⟨(.inr (hI.sel [3, 4] (by decide) rfl)), ?_⟩
                refine g_easy (i := 13) hA rfl rfl (by kernel_rfl) (.inr (hI.sel [3, 4] (by decide) rfl)) (fun _ => r_mv hA rfl) rfl fun a hA => ?_
                refine g_easy (i := 14) hA rfl rfl (by kernel_rfl) (.inr (hI.sel [3, 4] (by decide) rfl)) (fun _ => r_extr (vs := [.agg [av .u8 32 r6.1].flatten.toArray, .bool r6.2]) hA rfl rfl) rfl fun a hA => ?_
                refine g_easy (i := 15) hA rfl rfl (by kernel_rfl) (.inr (hI.sel [3, 4] (by decide) rfl)) (fun _ => r_extr (vs := [.agg [av .u8 32 r6.1].flatten.toArray, .bool r6.2]) hA rfl rfl) rfl fun a hA => ?_
                refine g_forced (i := 17) rfl (by kernel_rfl) ?_
                refine o_st (j := 2) [] [av .u8 32 (List.replicate 32 0)] [av .u8 32 r6.1] [] sz33 rfl rfl (fl_cons (one_av _ _ _) fl_nil) hI rfl hA rfl rfl rfl rfl fun w hI => ?_
                refine o_nil ?_
                refine ⟨(.inr (hI.sel [3, 4] (by decide) rfl)), ?_⟩
                refine g_easy (i := 18) hA rfl rfl (by kernel_rfl) (.inr (hI.sel [3, 4] (by decide) rfl)) (fun _ => r_as hA rfl) rfl fun a hA => ?_
                refine g_nil (by kernel_rfl) ?_
                cases Option.some.inj (bS H)
                exact ⟨hA.sub ⟨rfl, rfl, rfl, rfl, rfl, rfl, rfl, rfl, rfl, rfl, rfl, rfl, trivial⟩, (hI.sel [3, 4] (by decide) rfl)⟩
              · skip
                refine stp hA (r_bldA (cs := [av .u8 32 ([0, 0, 0, 0, 0, 0, 0, 0, 0, 0, 0, 0, 0, 0, 0, 0, 0, 0, 0, 0, 0, 0, 0, 0, 0, 0, 0, 0, 0, 0, 0, 0])].flatten.toArray) zr33 Try.underlying33 sz5 hA rfl (by kernel_rfl)) rfl fun a hA => ?_
                refine o_nil ?_
                refine ⟨(.inr (hI.sel [1, 2] (by decide) rfl)), ?_⟩
                refine g_fork (i := 8) (is := [10]) (by kernel_rfl) (List.forall_mem_cons.2 ⟨⟨_, rfl, ?_⟩, (List.forall_mem_cons.2 ⟨⟨_, rfl, ?_⟩, List.forall_mem_nil _⟩)⟩)
                · skip
                  obtain ⟨r5, hr5, H⟩ := bB H
                  refine o_call (fun v w' => ∃ (v0 : Value) (c0 : List Value), v = v0 ∧ Els (RA .u8 32) 32 r5 c0 ∧ Iv w [] μ μ [row 33 32 v0 r5.length c0] w') cf73 hA rfl ((by obtain ⟨μ2, hle2, hsv2, hI⟩ := hI.freezeRow 2 rfl; have hS2 : Slc (RA .u8 32) 32 μ2 v2 r3.1 := ⟨_, hE1, hsv2⟩; exact (sargassoref_Hashes.c μ2 _ hI.agr r3.1 v2 hS2 r5 hr5).mono fun _ _ ⟨v, he, b0, b1, hv, f0, hi⟩ => ⟨v, he, b0, b1, hv, f0, hi.low hle2⟩)) rfl fun v3 a w hz7 hA => ?_
                  obtain ⟨_, cs2, rfl, hE2, hi2⟩ := hz7
                  have hI := hI.call hi2
                  refine o_nil ?_
                  refine ⟨(.inr (hI.sel [2, 3] (by decide) rfl)), ?_⟩
                  refine g_forced (i := 10) rfl (by kernel_rfl) ?_
                  have hE3 : Els (RA .u8 32) 32 ([[0, 0, 0, 0, 0, 0, 0, 0, 0, 0, 0, 0, 0, 0, 0, 0, 0, 0, 0, 0, 0, 0, 0, 0, 0, 0, 0, 0, 0, 0, 0, 0]] : List (List Int)) ([av .u8 32 ([0, 0, 0, 0, 0, 0, 0, 0, 0, 0, 0, 0, 0, 0, 0, 0, 0, 0, 0, 0, 0, 0, 0, 0, 0, 0, 0, 0, 0, 0, 0, 0])].flatten ++ ([])) := (Els.cons (c := [av .u8 32 ([0, 0, 0, 0, 0, 0, 0, 0, 0, 0, 0, 0, 0, 0, 0, 0, 0, 0, 0, 0, 0, 0, 0, 0, 0, 0, 0, 0, 0, 0, 0, 0])].flatten) ⟨rfl, (arr_lit rfl (by simp only [List.forall_mem_cons]; exact ⟨(in_lit .u8 0 rfl), (in_lit .u8 0 rfl), (in_lit .u8 0 rfl), (in_lit .u8 0 rfl), (in_lit .u8 0 rfl), (in_lit .u8 0 rfl), (in_lit .u8 0 rfl), (in_lit .u8 0 rfl), (in_lit .u8 0 rfl), (in_lit .u8 0 rfl), (in_lit .u8 0 rfl), (in_lit .u8 0 rfl), (in_lit .u8 0 rfl), (in_lit .u8 0 rfl), (in_lit .u8 0 rfl), (in_lit .u8 0 rfl), (in_lit .u8 0 rfl), (in_lit .u8 0 rfl), (in_lit .u8 0 rfl), (in_lit .u8 0 rfl), (in_lit .u8 0 rfl), (in_lit .u8 0 rfl), (in_lit .u8 0 rfl), (in_lit .u8 0 rfl), (in_lit .u8 0 rfl), (in_lit .u8 0 rfl), (in_lit .u8 0 rfl), (in_lit .u8 0 rfl), (in_lit .u8 0 rfl), (in_lit .u8 0 rfl), (in_lit .u8 0 rfl), (in_lit .u8 0 rfl), by simp⟩))⟩ rfl Els.nil)
                  refine o_bsl ([av .u8 32 ([0, 0, 0, 0, 0, 0, 0, 0, 0, 0, 0, 0, 0, 0, 0, 0, 0, 0, 0, 0, 0, 0, 0, 0, 0, 0, 0, 0, 0, 0, 0, 0])].flatten ++ ([])) te33 zr33 Try.underlying80 hI hA rfl rfl rfl rfl (by kernel_rfl) rfl fun g3 a w hA hI => ?_
                  generalize hcs : ([av .u8 32 ([0, 0, 0, 0, 0, 0, 0, 0, 0, 0, 0, 0, 0, 0, 0, 0, 0, 0, 0, 0, 0, 0, 0, 0, 0, 0, 0, 0, 0, 0, 0, 0])].flatten ++ ([]) : List Value) = cs3 at hE3 hI
                  clear hcs
                  refine o_nil ?_
                  refine ⟨(.inr (hI.sel [3, 4] (by decide) rfl)), ?_⟩
                  refine g_forced (i := 11) rfl (by kernel_rfl) ?_
                  obtain ⟨hb2, H⟩ := bG H
                  have hE5 := hE2.app hE3
                  refine o_appL (xs := (r5 : List (List Int))) (ys := (([[0, 0, 0, 0, 0, 0, 0, 0, 0, 0, 0, 0, 0, 0, 0, 0, 0, 0, 0, 0, 0, 0, 0, 0, 0, 0, 0, 0, 0, 0, 0, 0]] : List (List Int)) : List (List Int))) (j := 1) te33 Try.underlying80 hI rfl hA rfl rfl (src_row hI (j := 0) rfl) hE3.len (hE3.ones (one_RA _ _)) (by first | decide | (have hq := hb2; (try simp only [List.length_cons, List.length_nil] at hq); (try simp only [List.length_cons, List.length_nil]); (try simp only [maxLen]); omega)) (by first | decide | (have hq := hb2; (try simp only [List.length_cons, List.length_nil] at hq); (try simp only [List.length_cons, List.length_nil]); (try simp only [maxLen]); omega)) rfl fun v4 a w hA hI => ?_
                  refine o_nil ?_
                  refine ⟨(.inr (hI.sel [3, 4] (by decide) rfl)), ?_⟩
                  refine g_forced (i := 12) rfl (by kernel_rfl) ?_
                  obtain ⟨r6, hr6, H⟩ := bB H
                  refine o_callp (u := .tuple #[.agg [av .u8 32 r6.1].flatten.toArray, .bool r6.2]) cf76 hA rfl hI ((by obtain ⟨μ3, hle3, hsv4, hI⟩ := hI.freezeRow 1 rfl; have hS3 : Slc (RA .u8 32) 32 μ3 v4 (r5 ++ ([[0, 0, 0, 0, 0, 0, 0, 0, 0, 0, 0, 0, 0, 0, 0, 0, 0, 0, 0, 0, 0, 0, 0, 0, 0, 0, 0, 0, 0, 0, 0, 0]] : List (List Int))) := ⟨_, hE5, hsv4⟩; exact low_plain hle3 (merkle_Climb.c μ3 _ hI.agr (x0.getD r2.toNat []) hw2 r2 hz3 (x0.length : Int) (len_in hx0) (r5 ++ ([[0, 0, 0, 0, 0, 0, 0, 0, 0, 0, 0, 0, 0, 0, 0, 0, 0, 0, 0, 0, 0, 0, 0, 0, 0, 0, 0, 0, 0, 0, 0, 0]] : List (List Int))) v4 hS3 r6 hr6))) rfl fun a w hz8 hI hA => ?_
                  refine o_nil ?_
                  refine ⟨(.inr (hI.sel [3, 4] (by decide) rfl)), ?_⟩
                  refine g_easy (i := 13) hA rfl rfl (by kernel_rfl) (.inr (hI.sel [3, 4] (by decide) rfl)) (fun _ => r_mv hA rfl) rfl fun a hA => ?_
                  refine g_easy (i := 14) hA rfl rfl (by kernel_rfl) (.inr (hI.sel [3, 4] (by decide) rfl)) (fun _ => r_extr (vs := [.agg [av .u8 32 r6.1].flatten.toArray, .bool r6.2]) hA rfl rfl) rfl fun a hA => ?_
                  refine g_easy (i := 15) hA rfl rfl (by kernel_rfl) (.inr (hI.sel [3, 4] (by decide) rfl)) (fun _ => r_extr (vs := [.agg [av .u8 32 r6.1].flatten.toArray, .bool r6.2]) hA rfl rfl) rfl fun a hA => ?_
                  refine g_forced (i := 17) rfl (by kernel_rfl) ?_
                  refine o_st (j := 2) [] [av .u8 32 (List.replicate 32 0)] [av .u8 32 r6.1] [] sz33 rfl rfl (fl_cons (one_av _ _ _) fl_nil) hI rfl hA rfl rfl rfl rfl fun w hI => ?_
                  refine o_nil ?_
                  refine ⟨(.inr (hI.sel [3, 4] (by decide) rfl)), ?_⟩
                  refine g_easy (i := 18) hA rfl rfl (by kernel_rfl) (.inr (hI.sel [3, 4] (by decide) rfl)) (fun _ => r_as hA rfl) rfl fun a hA => ?_
                  refine g_nil (by kernel_rfl) ?_
                  cases Option.some.inj (bS H)
                  exact ⟨hA.sub ⟨rfl, rfl, rfl, rfl, rfl, rfl, rfl, rfl, rfl, rfl, rfl, rfl, trivial⟩, (hI.sel [3, 4] (by decide) rfl)⟩
                · skip
                  have hE2 : Els (RA .u8 32) 32 ([[0, 0, 0, 0, 0, 0, 0, 0, 0, 0, 0, 0, 0, 0, 0, 0, 0, 0, 0, 0, 0, 0, 0, 0, 0, 0, 0, 0, 0, 0, 0, 0]] : List (List Int)) ([av .u8 32 ([0, 0, 0, 0, 0, 0, 0, 0, 0, 0, 0, 0, 0, 0, 0, 0, 0, 0, 0, 0, 0, 0, 0, 0, 0, 0, 0, 0, 0, 0, 0, 0])].flatten ++ ([])) := (Els.cons (c := [av .u8 32 ([0, 0, 0, 0, 0, 0, 0, 0, 0, 0, 0, 0, 0, 0, 0, 0, 0, 0, 0, 0, 0, 0, 0, 0, 0, 0, 0, 0, 0, 0, 0, 0])].flatten) ⟨rfl, (arr_lit rfl (by simp only [List.forall_mem_cons]; exact ⟨(in_lit .u8 0 rfl), (in_lit .u8 0 rfl), (in_lit .u8 0 rfl), (in_lit .u8 0 rfl), (in_lit .u8 0 rfl), (in_lit .u8 0 rfl), (in_lit .u8 0 rfl), (in_lit .u8 0 rfl), (in_lit .u8 0 rfl), (in_lit .u8 0 rfl), (in_lit .u8 0 rfl), (in_lit .u8 0 rfl), (in_lit .u8 0 rfl), (in_lit .u8 0 rfl), (in_lit .u8 0 rfl), (in_lit .u8 0 rfl), (in_lit .u8 0 rfl), (in_lit .u8 0 rfl), (in_lit .u8 0 rfl), (in_lit .u8 0 rfl), (in_lit .u8 0 rfl), (in_lit .u8 0 rfl), (in_lit .u8 0 rfl), (in_lit .u8 0 rfl), (in_lit .u8 0 rfl), (in_lit .u8 0 rfl), (in_lit .u8 0 rfl), (in_lit .u8 0 rfl), (in_lit .u8 0 rfl), (in_lit .u8 0 rfl), (in_lit .u8 0 rfl), (in_lit .u8 0 rfl), by simp⟩))⟩ rfl Els.nil)
                  refine o_bsl ([av .u8 32 ([0, 0, 0, 0, 0, 0, 0, 0, 0, 0, 0, 0, 0, 0, 0, 0, 0, 0, 0, 0, 0, 0, 0, 0, 0, 0, 0, 0, 0, 0, 0, 0])].flatten ++ ([])) te33 zr33 Try.underlying80 hI hA rfl rfl rfl rfl (by kernel_rfl) rfl fun g3 a w hA hI => ?_
                  generalize hcs : ([av .u8 32 ([0, 0, 0, 0, 0, 0, 0, 0, 0, 0, 0, 0, 0, 0, 0, 0, 0, 0, 0, 0, 0, 0, 0, 0, 0, 0, 0, 0, 0, 0, 0, 0])].flatten ++ ([]) : List Value) = cs2 at hE2 hI
                  clear hcs
                  refine o_nil ?_
                  refine ⟨(.inr (hI.sel [2, 3] (by decide) rfl)), ?_⟩
                  refine g_forced (i := 8) rfl (by kernel_rfl) ?_
                  obtain ⟨r5, hr5, H⟩ := bB H
                  refine o_call (fun v w' => ∃ (v0 : Value) (c0 : List Value), v = v0 ∧ Els (RA .u8 32) 32 r5 c0 ∧ Iv w [] μ μ [row 33 32 v0 r5.length c0] w') cf73 hA rfl ((by obtain ⟨μ2, hle2, hsv2, hI⟩ := hI.freezeRow 3 rfl; have hS2 : Slc (RA .u8 32) 32 μ2 v2 r3.1 := ⟨_, hE1, hsv2⟩; exact (sargassoref_Hashes.c μ2 _ hI.agr r3.1 v2 hS2 r5 hr5).mono fun _ _ ⟨v, he, b0, b1, hv, f0, hi⟩ => ⟨v, he, b0, b1, hv, f0, hi.low hle2⟩)) rfl fun v3 a w hz7 hA => ?_
                  obtain ⟨_, cs3, rfl, hE3, hi2⟩ := hz7
                  have hI := hI.call hi2
                  refine o_nil ?_
                  refine ⟨(.inr (hI.sel [3, 4] (by decide) rfl)), ?_⟩
                  refine g_forced (i := 11) rfl (by kernel_rfl) ?_
                  obtain ⟨hb2, H⟩ := bG H
                  have hE5 := hE3.app hE2
                  refine o_appL (xs := (r5 : List (List Int))) (ys := (([[0, 0, 0, 0, 0, 0, 0, 0, 0, 0, 0, 0, 0, 0, 0, 0, 0, 0, 0, 0, 0, 0, 0, 0, 0, 0, 0, 0, 0, 0, 0, 0]] : List (List Int)) : List (List Int))) (j := 0) te33 Try.underlying80 hI rfl hA rfl rfl (src_row hI (j := 1) rfl) hE2.len (hE2.ones (one_RA _ _)) (by first | decide | (have hq := hb2; (try simp only [List.length_cons, List.length_nil] at hq); (try simp only [List.length_cons, List.length_nil]); (try simp only [maxLen]); omega)) (by first | decide | (have hq := hb2; (try simp only [List.length_cons, List.length_nil] at hq); (try simp only [List.length_cons, List.length_nil]); (try simp only [maxLen]); omega)) rfl fun v4 a w hA hI => ?_
                  refine o_nil ?_
                  refine ⟨(.inr (hI.sel [3, 4] (by decide) rfl)), ?_⟩
                  refine g_forced (i := 12) rfl (by kernel_rfl) ?_
                  obtain ⟨r6, hr6, H⟩ := bB H
                  refine o_callp (u := .tuple #[.agg [av .u8 32 r6.1].flatten.toArray, .bool r6.2]) cf76 hA rfl hI ((by obtain ⟨μ3, hle3, hsv4, hI⟩ := hI.freezeRow 0 rfl; have hS3 : Slc (RA .u8 32) 32 μ3 v4 (r5 ++ ([[0, 0, 0, 0, 0, 0, 0, 0, 0, 0, 0, 0, 0, 0, 0, 0, 0, 0, 0, 0, 0, 0, 0, 0, 0, 0, 0, 0, 0, 0, 0, 0]] : List (List Int))) := ⟨_, hE5, hsv4⟩; exact low_plain hle3 (merkle_Climb.c μ3 _ hI.agr (x0.getD r2.toNat []) hw2 r2 hz3 (x0.length : Int) (len_in hx0) (r5 ++ ([[0, 0, 0, 0, 0, 0, 0, 0, 0, 0, 0, 0, 0, 0, 0, 0, 0, 0, 0, 0, 0, 0, 0, 0, 0, 0, 0, 0, 0, 0, 0, 0]] : List (List Int))) v4 hS3 r6 hr6))) rfl fun a w hz8 hI hA => ?_
                  refine o_nil ?_
                  refine ⟨(.inr (hI.sel [3, 4] (by decide) rfl)), ?_⟩
                  refine g_easy (i := 13) hA rfl rfl (by kernel_rfl) (.inr (hI.sel [3, 4] (by decide) rfl)) (fun _ => r_mv hA rfl) rfl fun a hA => ?_
                  refine g_easy (i := 14) hA rfl rfl (by kernel_rfl) (.inr (hI.sel [3, 4] (by decide) rfl)) (fun _ => r_extr (vs := [.agg [av .u8 32 r6.1].flatten.toArray, .bool r6.2]) hA rfl rfl) rfl fun a hA => ?_
                  refine g_easy (i := 15) hA rfl rfl (by kernel_rfl) (.inr (hI.sel [3, 4] (by decide) rfl)) (fun _ => r_extr (vs := [.agg [av .u8 32 r6.1].flatten.toArray, .bool r6.2]) hA rfl rfl) rfl fun a hA => ?_
                  refine g_forced (i := 17) rfl (by kernel_rfl) ?_
                  refine o_st (j := 2) [] [av .u8 32 (List.replicate 32 0)] [av .u8 32 r6.1] [] sz33 rfl rfl (fl_cons (one_av _ _ _) fl_nil) hI rfl hA rfl rfl rfl rfl fun w hI => ?_
                  refine o_nil ?_
                  refine ⟨(.inr (hI.sel [3, 4] (by decide) rfl)), ?_⟩
                  refine g_easy (i := 18) hA rfl rfl (by kernel_rfl) (.inr (hI.sel [3, 4] (by decide) rfl)) (fun _ => r_as hA rfl) rfl fun a hA => ?_
                  refine g_nil (by kernel_rfl) ?_
                  cases Option.some.inj (bS H)
                  exact ⟨hA.sub ⟨rfl, rfl, rfl, rfl, rfl, rfl, rfl, rfl, rfl, rfl, rfl, rfl, trivial⟩, (hI.sel [3, 4] (by decide) rfl)⟩
          · rintro a w ⟨hA, hI⟩
            have H := Hk2
            refine w_seq fun _ hN14 => ?_
            refine w_reg ?_
            refine stp hA (r_mv hA rfl) rfl fun a hA => 
              stp hA (r_mv hA rfl) rfl fun a hA => 
              stp hA (r_six Try.underlying80 sz33 hsl4 hA rfl rfl hb1.1 hb1.2) rfl fun a hA => 
              stp hA (r_ldmA [] [av .u8 32 (x0.getD r2.toNat [])] [] Try.underlying33 rfl sz33 rfl hI.agr hat1 hA rfl rfl) rfl fun a hA => 
              stp hA (r_mv hA rfl) rfl fun a hA => ?_
            obtain ⟨_, hsl7⟩ := Slc.sv hx0
            refine stp hA (r_slen Try.underlying80 hsl7 hA rfl) rfl fun a hA => 
              stp hA (r_mv hA rfl) rfl fun a hA => ?_
            obtain ⟨_, hsl8⟩ := Slc.sv hx0
            refine stp hA (r_slen Try.underlying80 hsl8 hA rfl) rfl fun a hA => 
              stp hA (r_mv hA rfl) rfl fun a hA => ?_
            obtain ⟨r7, hr7, H⟩ := bB H
            refine o_callp (u := .tuple #[.agg [av .u8 32 r7.1].flatten.toArray, .bool r7.2]) cf76 hA rfl hI ((by obtain ⟨μ4, hle4, hsv5, hI⟩ := hI.freezeRow 1 rfl; have hS4 : Slc (RA .u8 32) 32 μ4 v2 r3.1 := ⟨_, hE1, hsv5⟩; exact low_plain hle4 (merkle_Climb.c μ4 _ hI.agr (x0.getD r2.toNat []) hw2 (x0.length : Int) (len_in hx0) (x0.length : Int) (len_in hx0) r3.1 v2 hS4 r7 hr7))) rfl fun a w hz9 hI hA => 
              stp hA (r_mv hA rfl) rfl fun a hA => 
              stp hA (r_extr (vs := [.agg [av .u8 32 r7.1].flatten.toArray, .bool r7.2]) hA rfl rfl) rfl fun a hA => 
              stp hA (r_extr (vs := [.agg [av .u8 32 r7.1].flatten.toArray, .bool r7.2]) hA rfl rfl) rfl fun a hA => 
              o_new [av .u8 32 (List.replicate 32 0)] zr33 hI hA rfl fun g4 a w hA hI hg4 => 
              o_st (j := 0) [] [av .u8 32 (List.replicate 32 0)] [av .u8 32 r7.1] [] sz33 rfl rfl (fl_cons (one_av _ _ _) fl_nil) hI rfl hA rfl rfl rfl rfl fun w hI => 
              stp hA (r_as hA rfl) rfl fun a hA => ?_
            refine o_nil ?_
            refine hN14 _ _ ?_
            refine w_seq fun _ hN15 => ?_
            refine w_reg ?_
            refine stp hA (r_as hA rfl) rfl fun a hA => ?_
            refine o_nil ?_
            refine hN15 _ _ ?_
            obtain ⟨⟨c3, c4⟩, hz10, Hk3⟩ := bB H
            refine w_cut (fun a w => ∃ (μ5 : Store) (vvc3 : Value), μ.le μ5 ∧ Slc (RA .u8 32) 32 μ5 vvc3 c3 ∧ Fr a 118 [(0, u0), (1, .int .i64 r2), (4, .bool false), (5, .bool r1), (6, vvc3), (7, .bool r3.2), (8, .pointer (some ⟨g1, 0, none⟩)), (9, .bool r4.2), (11, .bool c2), (13, .bool r7.2), (14, .bool c4), (17, .bool (!r1)), (25, .bool c1), (38, .bool (!r3.2))] ∧ Iv w0 [] μ μ5 [cel g4 [av .u8 32 r7.1] 33, cel g1 [av .u8 32 r4.1] 33] w) ?_ ?_
            · have H := bI hz10
              refine w_seq fun _ hN16 => ?_
              refine w_reg ?_
              refine stp hA (r_mv hA rfl) rfl fun a hA => ?_
              have hlen1 := Iv.row_in hI (j := 2) rfl
              refine stp hA (r_rlen (xs := 0) Try.underlying80 hI (j := 2) rfl hA rfl) rfl fun a hA => 
                stp hA (r_gtr hA rfl rfl) rfl fun a hA => ?_
              refine o_nil ?_
              refine hN16 _ _ ?_
              refine w_cond hA rfl (fun hc5 => ?_) (fun hc5 => ?_)
              · have hc50 := hc5; have hc5 := of_decide_eq_true hc5; have H := bT H hc5
                obtain ⟨μ6, hle6, hsv6, hI⟩ := hI.freezeRow 2 rfl
                have hS5 : Slc (RA .u8 32) 32 μ6 v2 r3.1 := ⟨_, hE1, hsv6⟩
                refine w_draw mo (by kernel_rfl) hI ?_
                refine qtp hA (fun _ hI => r_mv hA rfl) rfl fun a hA => 
                  qtp hA (fun _ hI => r_mv hA rfl) rfl fun a hA => 
                  qtp hA (fun _ hI => r_six Try.underlying80 sz33 (SlV.le hle6 hsl4) hA rfl rfl hb1.1 hb1.2) rfl fun a hA => 
                  qtp hA (fun _ hI => r_ldmA [] [av .u8 32 (x0.getD r2.toNat [])] [] Try.underlying33 rfl sz33 rfl hI.agr (At.le hle6 hat1) hA rfl rfl) rfl fun a hA => 
                  qtp hA (fun _ hI => r_mv hA rfl) rfl fun a hA => 
                  qtp hA (fun _ hI => r_mv hA rfl) rfl fun a hA => ?_
                obtain ⟨_, hsl9⟩ := Slc.sv (Slc.le hx0 (fun _ _ h => h) hle6)
                refine qtp hA (fun _ hI => r_slen Try.underlying80 hsl9 hA rfl) rfl fun a hA => 
                  qtp hA (fun _ hI => r_mv hA rfl) rfl fun a hA => ?_
                obtain ⟨hb3, H⟩ := bG H
                obtain ⟨v5, hS6, hr8⟩ := r_sl (P := Try.prog) (t := 80) (x := .tmp 91) (l := (some (.const (.int .i64 1)))) (h := none) (i := 1) (j := (r3.1.length : Int)) Try.underlying80 sz33 hS5 hA rfl rfl rfl (by have hq := hb3; omega) (by have hq := hb3; omega) (by have hq := hb3; omega)
                refine qtp hA (fun _ hI => hr8 _ _ _ _ _ _) rfl fun a hA => ?_
                obtain ⟨r8, hr9, H⟩ := bB H
                refine qcall (v := .tuple #[.agg [av .u8 32 r8.1].flatten.toArray, .bool r8.2]) cf76 hA rfl (fun _ hI => plq (merkle_Climb.c μ6 _ hI.agr (x0.getD r2.toNat []) hw2 r2 hz3 (x0.length : Int) (len_in (Slc.le hx0 (fun _ _ h => h) hle6)) ((r3.1.take ((r3.1.length : Int)).toNat).drop (1 : Int).toNat) v5 hS6 r8 hr9) hI) rfl fun a hA => 
                  qtp hA (fun _ hI => r_mv hA rfl) rfl fun a hA => 
                  qtp hA (fun _ hI => r_extr (vs := [.agg [av .u8 32 r8.1].flatten.toArray, .bool r8.2]) hA rfl rfl) rfl fun a hA => 
                  qtp hA (fun _ hI => r_extr (vs := [.agg [av .u8 32 r8.1].flatten.toArray, .bool r8.2]) hA rfl rfl) rfl fun a hA => 
                  qtp hA (fun _ hI => r_as hA rfl) rfl fun a hA => ?_
                refine q_nil fun w hI => ?_
                cases Option.some.inj (bS H)
                exact ⟨μ6, v2, hle6, hS5, hA.sub ⟨rfl, rfl, rfl, rfl, rfl, rfl, rfl, rfl, rfl, rfl, rfl, rfl, rfl, rfl, trivial⟩, hI⟩
              · have hc50 := hc5; have hc5 := of_decide_eq_false hc5; have H := bF H hc5
                refine w_skip ?_
                obtain ⟨μ7, hle7, hsv7, hI⟩ := hI.freezeRow 2 rfl
                have hS7 : Slc (RA .u8 32) 32 μ7 v2 r3.1 := ⟨_, hE1, hsv7⟩
                cases Option.some.inj (bS H)
                exact ⟨μ7, v2, hle7, hS7, hA.sub ⟨rfl, rfl, rfl, rfl, rfl, rfl, rfl, rfl, rfl, rfl, rfl, rfl, rfl, rfl, trivial⟩, hI⟩
            · rintro a w ⟨μ5, vvc3, hle5, wc3, hA, hI⟩
              have H := Hk3
              obtain ⟨c5, hz12, Hk4⟩ := bB H
              refine w_cut (fun a w => Fr a 118 [(0, u0), (1, .int .i64 r2), (4, .bool c5), (5, .bool r1), (6, vvc3), (7, .bool r3.2), (8, .pointer (some ⟨g1, 0, none⟩)), (9, .bool r4.2), (11, .bool c2), (13, .bool r7.2), (14, .bool c4), (17, .bool (!r1)), (25, .bool c1), (38, .bool (!r3.2))] ∧ Iv w0 [] μ μ5 [cel g4 [av .u8 32 r7.1] 33, cel g1 [av .u8 32 r4.1] 33] w) ?_ ?_
              · have H := bI hz12
                refine w_any [] mo hI fun w hI => ?_
                refine g_easy (i := 0) hA rfl rfl (by kernel_rfl) (.inr hI) (fun _ => r_mv hA rfl) rfl fun a hA => ?_
                refine g_easy (i := 1) hA rfl rfl (by kernel_rfl) (.inr hI) (fun _ => r_mv hA rfl) rfl fun a hA => ?_
                rcases Bool.eq_false_or_eq_true r1 with hc6 | hc6
                · have hc60 := hc6; have H := bT H hc6
                  refine g_easy (i := 2) hA rfl (wanted_yes hA rfl rfl hc60) (by kernel_rfl) (.inr hI) (fun _ => r_mv hA rfl) rfl fun a hA => ?_
                  refine g_easy (i := 3) hA rfl rfl (by kernel_rfl) (.inr hI) (fun _ => r_pick_t hA rfl hc60 rfl) rfl fun a hA => ?_
                  refine g_easy (i := 4) hA rfl rfl (by kernel_rfl) (.inr hI) (fun _ => r_mv hA rfl) rfl fun a hA => ?_
                  rcases Bool.eq_false_or_eq_true r4.2 with hc7 | hc7
                  · have hc70 := hc7; have H := bT H hc7
                    refine g_take (i := 5) hA rfl (wanted_yes hA rfl rfl hc70) (by kernel_rfl) hI (fun w hI => r_ldA (j := 1) [] [av .u8 32 r4.1] [] Try.underlying33 rfl sz33 rfl hI rfl hA rfl rfl) rfl fun a hA => ?_
                    refine g_easy (i := 6) hA rfl (wanted_yes hA rfl rfl hc70) (by kernel_rfl) (.inr hI) (fun _ => r_mv hA rfl) rfl fun a hA => ?_
                    refine g_forced (i := 7) rfl (by kernel_rfl) ?_
                    refine o_yes hA rfl rfl hc70 <| ?_
                    obtain ⟨r9, hr10, H⟩ := bB H
                    refine o_callp (u := .agg [av .u8 32 r9].flatten.toArray) cf72 hA rfl hI (merkle_Root.c μ5 _ hI.agr x0 u0 (Slc.le hx0 (fun _ _ h => h) hle5) r9 hr10) rfl fun a w hz13 hI hA => ?_
                    refine o_nil ?_
                    refine ⟨(.inr hI), ?_⟩
                    refine g_forced (i := 8) rfl (by kernel_rfl) ?_
                    refine o_yes hA rfl rfl hc70 <| ?_
                    obtain ⟨r10, hr11, H⟩ := bB H
                    refine o_callp (u := .bool r10) cf28 hA rfl hI (sargassoref_SameHash.c μ5 _ hI.agr r4.1 hz5.1 r9 hz13 r10 hr11) rfl fun a w hz14 hI hA => ?_
                    refine o_nil ?_
                    refine ⟨(.inr hI), ?_⟩
                    refine g_easy (i := 9) hA rfl rfl (by kernel_rfl) (.inr hI) (fun _ => r_pick_t hA rfl hc70 rfl) rfl fun a hA => ?_
                    refine g_easy (i := 10) hA rfl rfl (by kernel_rfl) (.inr hI) (fun _ => r_mv hA rfl) rfl fun a hA => ?_
                    rcases Bool.eq_false_or_eq_true r10 with hc8 | hc8
                    · have hc80 := hc8; have H := bT H hc8
                      refine g_easy (i := 11) hA rfl (wanted_yes hA rfl rfl hc80) (by kernel_rfl) (.inr hI) (fun _ => r_mv hA rfl) rfl fun a hA => ?_
                      refine g_easy (i := 12) hA rfl (wanted_yes hA rfl rfl hc80) (by kernel_rfl) (.inr hI) (fun _ => r_not hA rfl) rfl fun a hA => ?_
                      refine g_easy (i := 13) hA rfl rfl (by kernel_rfl) (.inr hI) (fun _ => r_pick_t hA rfl hc80 rfl) rfl fun a hA => ?_
                      refine g_easy (i := 14) hA rfl rfl (by kernel_rfl) (.inr hI) (fun _ => r_mv hA rfl) rfl fun a hA => ?_
                      rcases Bool.eq_false_or_eq_true (!c2) with hc9 | hc9
                      · have hc90 := hc9; have hc9 := nT hc9; have hc9 := ft hc9; have H := bF H hc9
                        refine g_easy (i := 15) hA rfl (wanted_yes hA rfl rfl hc90) (by kernel_rfl) (.inr hI) (fun _ => r_mv hA rfl) rfl fun a hA => ?_
                        refine g_easy (i := 16) hA rfl (wanted_yes hA rfl rfl hc90) (by kernel_rfl) (.inr hI) (fun _ => r_not hA rfl) rfl fun a hA => ?_
                        refine g_easy (i := 17) hA rfl rfl (by kernel_rfl) (.inr hI) (fun _ => r_pick_t hA rfl hc90 rfl) rfl fun a hA => ?_
                        refine g_easy (i := 18) hA rfl rfl (by kernel_rfl) (.inr hI) (fun _ => r_mv hA rfl) rfl fun a hA => ?_
                        rcases Bool.eq_false_or_eq_true (!r7.2) with hc10 | hc10
                        · have hc100 := hc10; have hc10 := nT hc10; have hc10 := ft hc10; have H := bF H hc10
                          refine g_easy (i := 19) hA rfl (wanted_yes hA rfl rfl hc100) (by kernel_rfl) (.inr hI) (fun _ => r_mv hA rfl) rfl fun a hA => ?_
                          refine g_easy (i := 20) hA rfl (wanted_yes hA rfl rfl hc100) (by kernel_rfl) (.inr hI) (fun _ => r_not hA rfl) rfl fun a hA => ?_
                          refine g_easy (i := 21) hA rfl rfl (by kernel_rfl) (.inr hI) (fun _ => r_pick_t hA rfl hc100 rfl) rfl fun a hA => ?_
                          refine g_easy (i := 22) hA rfl rfl (by kernel_rfl) (.inr hI) (fun _ => r_as hA rfl) rfl fun a hA => ?_
                          refine g_nil (by kernel_rfl) ?_
                          cases Option.some.inj (bS H)
                          exact ⟨hA.sub ⟨rfl, rfl, rfl, rfl, rfl, rfl, rfl, rfl, rfl, rfl, rfl, rfl, rfl, rfl, trivial⟩, hI⟩
                        · have hc100 := hc10; have hc10 := nF hc10; have H := bT H hc10
                          refine g_skip (i := 19) hA rfl (wanted_no hA rfl rfl (by rw [hc100]; simp [vb])) (by kernel_rfl) (.inr hI) rfl fun a hA => ?_
                          refine g_skip (i := 20) hA rfl (wanted_no hA rfl rfl (by rw [hc100]; simp [vb])) (by kernel_rfl) (.inr hI) rfl fun a hA => ?_
                          refine g_easy (i := 21) hA rfl rfl (by kernel_rfl) (.inr hI) (fun _ => r_pick_f hA rfl hc100 rfl) rfl fun a hA => ?_
                          refine g_easy (i := 22) hA rfl rfl (by kernel_rfl) (.inr hI) (fun _ => r_as hA rfl) rfl fun a hA => ?_
                          refine g_nil (by kernel_rfl) ?_
                          cases Option.some.inj (bS H)
                          exact ⟨hA.sub ⟨rfl, rfl, rfl, rfl, rfl, rfl, rfl, rfl, rfl, rfl, rfl, rfl, rfl, rfl, trivial⟩, hI⟩
                      · have hc90 := hc9; have hc9 := nF hc9; have H := bT H hc9
                        refine g_skip (i := 15) hA rfl (wanted_no hA rfl rfl (by rw [hc90]; simp [vb])) (by kernel_rfl) (.inr hI) rfl fun a hA => ?_
                        refine g_skip (i := 16) hA rfl (wanted_no hA rfl rfl (by rw [hc90]; simp [vb])) (by kernel_rfl) (.inr hI) rfl fun a hA => ?_
                        refine g_easy (i := 17) hA rfl rfl (by kernel_rfl) (.inr hI) (fun _ => r_pick_f hA rfl hc90 rfl) rfl fun a hA => ?_
                        refine g_easy (i := 18) hA rfl rfl (by kernel_rfl) (.inr hI) (fun _ => r_mv hA rfl) rfl fun a hA => ?_
                        refine g_skip (i := 19) hA rfl (wanted_no hA rfl rfl (by simp [vb])) (by kernel_rfl) (.inr hI) rfl fun a hA => ?_
                        refine g_skip (i := 20) hA rfl (wanted_no hA rfl rfl (by simp [vb])) (by kernel_rfl) (.inr hI) rfl fun a hA => ?_
                        refine g_easy (i := 21) hA rfl rfl (by kernel_rfl) (.inr hI) (fun _ => r_pick_f hA rfl rfl rfl) rfl fun a hA => ?_
                        refine g_easy (i := 22) hA rfl rfl (by kernel_rfl) (.inr hI) (fun _ => r_as hA rfl) rfl fun a hA => ?_
                        refine g_nil (by kernel_rfl) ?_
                        cases Option.some.inj (bS H)
                        exact ⟨hA.sub ⟨rfl, rfl, rfl, rfl, rfl, rfl, rfl, rfl, rfl, rfl, rfl, rfl, rfl, rfl, trivial⟩, hI⟩
                    · have hc80 := hc8; have hc8 := ft hc8; have H := bF H hc8
                      refine g_skip (i := 11) hA rfl (wanted_no hA rfl rfl (by rw [hc80]; simp [vb])) (by kernel_rfl) (.inr hI) rfl fun a hA => ?_
                      refine g_skip (i := 12) hA rfl (wanted_no hA rfl rfl (by rw [hc80]; simp [vb])) (by kernel_rfl) (.inr hI) rfl fun a hA => ?_
                      refine g_easy (i := 13) hA rfl rfl (by kernel_rfl) (.inr hI) (fun _ => r_pick_f hA rfl hc80 rfl) rfl fun a hA => ?_
                      refine g_easy (i := 14) hA rfl rfl (by kernel_rfl) (.inr hI) (fun _ => r_mv hA rfl) rfl fun a hA => ?_
                      refine g_skip (i := 15) hA rfl (wanted_no hA rfl rfl (by simp [vb])) (by kernel_rfl) (.inr hI) rfl fun a hA => ?_
                      refine g_skip (i := 16) hA rfl (wanted_no hA rfl rfl (by simp [vb])) (by kernel_rfl) (.inr hI) rfl fun a hA => ?_
                      refine g_easy (i := 17) hA rfl rfl (by kernel_rfl) (.inr hI) (fun _ => r_pick_f hA rfl rfl rfl) rfl fun a hA => ?_
                      refine g_easy (i := 18) hA rfl rfl (by kernel_rfl) (.inr hI) (fun _ => r_mv hA rfl) rfl fun a hA => ?_
                      refine g_skip (i := 19) hA rfl (wanted_no hA rfl rfl (by simp [vb])) (by kernel_rfl) (.inr hI) rfl fun a hA => ?_
                      refine g_skip (i := 20) hA rfl (wanted_no hA rfl rfl (by simp [vb])) (by kernel_rfl) (.inr hI) rfl fun a hA => ?_
                      refine g_easy (i := 21) hA rfl rfl (by kernel_rfl) (.inr hI) (fun _ => r_pick_f hA rfl rfl rfl) rfl fun a hA => ?_
                      refine g_easy (i := 22) hA rfl rfl (by kernel_rfl) (.inr hI) (fun _ => r_as hA rfl) rfl fun a hA => ?_
                      refine g_nil (by kernel_rfl) ?_
                      cases Option.some.inj (bS H)
                      exact ⟨hA.sub ⟨rfl, rfl, rfl, rfl, rfl, rfl, rfl, rfl, rfl, rfl, rfl, rfl, rfl, rfl, trivial⟩, hI⟩
                  · have hc70 := hc7; have hc7 := ft hc7; have H := bF H hc7
                    refine g_skip (i := 5) hA rfl (wanted_no hA rfl rfl (by rw [hc70]; simp [vb])) (by kernel_rfl) (.inr hI) rfl fun a hA => ?_
                    refine g_skip (i := 6) hA rfl (wanted_no hA rfl rfl (by rw [hc70]; simp [vb])) (by kernel_rfl) (.inr hI) rfl fun a hA => ?_
                    refine g_skip (i := 7) hA rfl (wanted_no hA rfl rfl (by rw [hc70]; simp [vb])) (by kernel_rfl) (.inr hI) rfl fun a hA => ?_
                    refine g_skip (i := 8) hA rfl (wanted_no hA rfl rfl (by rw [hc70]; simp [vb])) (by kernel_rfl) (.inr hI) rfl fun a hA => ?_
                    refine g_easy (i := 9) hA rfl rfl (by kernel_rfl) (.inr hI) (fun _ => r_pick_f hA rfl hc70 rfl) rfl fun a hA => ?_
                    refine g_easy (i := 10) hA rfl rfl (by kernel_rfl) (.inr hI) (fun _ => r_mv hA rfl) rfl fun a hA => ?_
                    refine g_skip (i := 11) hA rfl (wanted_no hA rfl rfl (by simp [vb])) (by kernel_rfl) (.inr hI) rfl fun a hA => ?_
                    refine g_skip (i := 12) hA rfl (wanted_no hA rfl rfl (by simp [vb])) (by kernel_rfl) (.inr hI) rfl fun a hA => ?_
                    refine g_easy (i := 13) hA rfl rfl (by kernel_rfl) (.inr hI) (fun _ => r_pick_f hA rfl rfl rfl) rfl fun a hA => ?_
                    refine g_easy (i := 14) hA rfl rfl (by kernel_rfl) (.inr hI) (fun _ => r_mv hA rfl) rfl fun a hA => ?_
                    refine g_skip (i := 15) hA rfl (wanted_no hA rfl rfl (by simp [vb])) (by kernel_rfl) (.inr hI) rfl fun a hA => ?_
                    refine g_skip (i := 16) hA rfl (wanted_no hA rfl rfl (by simp [vb])) (by kernel_rfl) (.inr hI) rfl fun a hA => ?_
                    refine g_easy (i := 17) hA rfl rfl (by kernel_rfl) (.inr hI) (fun _ => r_pick_f hA rfl rfl rfl) rfl fun a hA => ?_
                    refine g_easy (i := 18) hA rfl rfl (by kernel_rfl) (.inr hI) (fun _ => r_mv hA rfl) rfl fun a hA => ?_
                    refine g_skip (i := 19) hA rfl (wanted_no hA rfl rfl (by simp [vb])) (by kernel_rfl) (.inr hI) rfl fun a hA => ?_
                    refine g_skip (i := 20) hA rfl (wanted_no hA rfl rfl (by simp [vb])) (by kernel_rfl) (.inr hI) rfl fun a hA => ?_
                    refine g_easy (i := 21) hA rfl rfl (by kernel_rfl) (.inr hI) (fun _ => r_pick_f hA rfl rfl rfl) rfl fun a hA => ?_
                    refine g_easy (i := 22) hA rfl rfl (by kernel_rfl) (.inr hI) (fun _ => r_as hA rfl) rfl fun a hA => ?_
                    refine g_nil (by kernel_rfl) ?_
                    cases Option.some.inj (bS H)
                    exact ⟨hA.sub ⟨rfl, rfl, rfl, rfl, rfl, rfl, rfl, rfl, rfl, rfl, rfl, rfl, rfl, rfl, trivial⟩, hI⟩
                · have hc60 := hc6; have hc6 := ft hc6; have H := bF H hc6
                  refine g_skip (i := 2) hA rfl (wanted_no hA rfl rfl (by rw [hc60]; simp [vb])) (by kernel_rfl) (.inr hI) rfl fun a hA => ?_
                  refine g_easy (i := 3) hA rfl rfl (by kernel_rfl) (.inr hI) (fun _ => r_pick_f hA rfl hc60 rfl) rfl fun a hA => ?_
                  refine g_easy (i := 4) hA rfl rfl (by kernel_rfl) (.inr hI) (fun _ => r_mv hA rfl) rfl fun a hA => ?_
                  refine g_skip (i := 5) hA rfl (wanted_no hA rfl rfl (by simp [vb])) (by kernel_rfl) (.inr hI) rfl fun a hA => ?_
                  refine g_skip (i := 6) hA rfl (wanted_no hA rfl rfl (by simp [vb])) (by kernel_rfl) (.inr hI) rfl fun a hA => ?_
                  refine g_skip (i := 7) hA rfl (wanted_no hA rfl rfl (by simp [vb])) (by kernel_rfl) (.inr hI) rfl fun a hA => ?_
                  refine g_skip (i := 8) hA rfl (wanted_no hA rfl rfl (by simp [vb])) (by kernel_rfl) (.inr hI) rfl fun a hA => ?_
                  refine g_easy (i := 9) hA rfl rfl (by kernel_rfl) (.inr hI) (fun _ => r_pick_f hA rfl rfl rfl) rfl fun a hA => ?_
                  refine g_easy (i := 10) hA rfl rfl (by kernel_rfl) (.inr hI) (fun _ => r_mv hA rfl) rfl fun a hA => ?_
                  refine g_skip (i := 11) hA rfl (wanted_no hA rfl rfl (by simp [vb])) (by kernel_rfl) (.inr hI) rfl fun a hA => ?_
                  refine g_skip (i := 12) hA rfl (wanted_no hA rfl rfl (by simp [vb])) (by kernel_rfl) (.inr hI) rfl fun a hA => ?_
                  refine g_easy (i := 13) hA rfl rfl (by kernel_rfl) (.inr hI) (fun _ => r_pick_f hA rfl rfl rfl) rfl fun a hA => ?_
                  refine g_easy (i := 14) hA rfl rfl (by kernel_rfl) (.inr hI) (fun _ => r_mv hA rfl) rfl fun a hA => ?_
                  refine g_skip (i := 15) hA rfl (wanted_no hA rfl rfl (by simp [vb])) (by kernel_rfl) (.inr hI) rfl fun a hA => ?_
                  refine g_skip (i := 16) hA rfl (wanted_no hA rfl rfl (by simp [vb])) (by kernel_rfl) (.inr hI) rfl fun a hA => ?_
                  refine g_easy (i := 17) hA rfl rfl (by kernel_rfl) (.inr hI) (fun _ => r_pick_f hA rfl rfl rfl) rfl fun a hA => ?_
                  refine g_easy (i := 18) hA rfl rfl (by kernel_rfl) (.inr hI) (fun _ => r_mv hA rfl) rfl fun a hA => ?_
                  refine g_skip (i := 19) hA rfl (wanted_no hA rfl rfl (by simp [vb])) (by kernel_rfl) (.inr hI) rfl fun a hA => ?_
                  refine g_skip (i := 20) hA rfl (wanted_no hA rfl rfl (by simp [vb])) (by kernel_rfl) (.inr hI) rfl fun a hA => ?_
                  refine g_easy (i := 21) hA rfl rfl (by kernel_rfl) (.inr hI) (fun _ => r_pick_f hA rfl rfl rfl) rfl fun a hA => ?_
                  refine g_easy (i := 22) hA rfl rfl (by kernel_rfl) (.inr hI) (fun _ => r_as hA rfl) rfl fun a hA => ?_
                  refine g_nil (by kernel_rfl) ?_
                  cases Option.some.inj (bS H)
                  exact ⟨hA.sub ⟨rfl, rfl, rfl, rfl, rfl, rfl, rfl, rfl, rfl, rfl, rfl, rfl, rfl, rfl, trivial⟩, hI⟩
              · rintro a w ⟨hA, hI⟩
                have H := Hk4
                refine w_ret ?_
                obtain rfl := Option.some.inj (bS H)
                exact ret1 hA Try.results19 rfl ⟨_, rfl, rfl, trivial, hI.forget0⟩
end Go.Proofs.Ytnbnnphlffhgiaa.T
