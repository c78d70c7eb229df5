/- A helper of this seat's claims: printed by gen.py. It proves no statement by itself. -/
import Derived.Test.YtnbnnphlffhgiaaCH
import Derived.Test.YtnbnnphlffhgiaaGMerkleOdd
namespace Go.Proofs.Ytnbnnphlffhgiaa.T
open Go Go.Proofs Go.Proofs.Ytnbnnphlffhgiaa.K
set_option linter.unusedVariables false
set_option linter.unusedSimpArgs false
/-! sargassolaw6.MerkleOdd: function 16 -/
set_option maxRecDepth 20000 in
theorem sargassolaw6_MerkleOdd.c (μ : Store) (w0 : World) (hμ : Agr μ w0) (x0 : List (List Int)) (u0 : Value) (hx0 : Slc (RA .u8 32) 32 μ u0 x0) (r : Bool) (H : sargassolaw6_MerkleOdd.f x0 = some r) :
    Calls Try.prog 16 [u0].toArray w0 (fun e w' => ∃ v, e = .returned v ∧ v = .bool r ∧ True ∧ Iv w0 [] μ μ [] w') := by
  refine enter Try.func16 rfl Try.ntmps16 rfl fun a hA => ?_
  have hI := Iv.start hμ
  have H := bI H
  refine w_seq fun _ hN1 => ?_
  refine w_reg ?_
  refine stp hA (r_as hA rfl) rfl fun a hA => ?_
  refine o_nil ?_
  refine hN1 _ _ ?_
  refine w_seq fun _ hN2 => ?_
  refine w_reg ?_
  obtain ⟨r1, hr1, H⟩ := bB H
  refine o_callp (u := .bool r1) cf71 hA rfl hI (sargassolaw6_first.c μ _ hI.agr  r1 hr1) rfl fun a w hz1 hI hA => 
    stp hA (r_as hA rfl) rfl fun a hA => ?_
  refine o_nil ?_
  refine hN2 _ _ ?_
  refine w_seq fun _ hN3 => ?_
  refine w_seq fun _ hN4 => ?_
  refine w_reg ?_
  refine stp hA (r_mv hA rfl) rfl fun a hA => 
    stp hA (r_not hA rfl) rfl fun a hA => ?_
  refine o_nil ?_
  refine hN4 _ _ ?_
  refine w_cond hA rfl (fun hc1 => ?_) (fun hc1 => ?_)
  · have hc10 := hc1; have hc1 := nT hc1; have hc1 := ft hc1; have H := bF H hc1
    refine w_seq fun _ hN5 => ?_
    refine w_reg ?_
    refine stp hA (r_as hA rfl) rfl fun a hA => ?_
    refine o_nil ?_
    refine hN5 _ _ ?_
    refine w_ret ?_
    obtain rfl := Option.some.inj (bS H)
    exact ret1 hA Try.results16 rfl ⟨_, rfl, rfl, trivial, hI.forget0⟩
  · have hc10 := hc1; have hc1 := nF hc1; have H := bT H hc1
    refine w_skip ?_
    refine hN3 _ _ ?_
    refine w_seq fun _ hN6 => ?_
    refine w_reg ?_
    refine stp hA (r_mv hA rfl) rfl fun a hA => ?_
    obtain ⟨_, hsl1⟩ := Slc.sv hx0
    refine stp hA (r_slen Try.underlying80 hsl1 hA rfl) rfl fun a hA => 
      stp hA (r_as hA rfl) rfl fun a hA => ?_
    refine o_nil ?_
    refine hN6 _ _ ?_
    refine w_seq fun _ hN7 => ?_
    obtain ⟨c1, hz2, Hk1⟩ := bB H
    refine w_cut (fun a w => Fr a 43 [(0, u0), (2, .bool false), (3, .bool r1), (4, .int .i64 (x0.length : Int)), (7, .bool (!r1)), (20, .bool c1)] ∧ Iv w0 [] μ μ [] w) ?_ ?_
    · have H := bI hz2
      refine w_reg ?_
      refine stp hA (r_mv hA rfl) rfl fun a hA => 
        stp hA (r_gtr hA rfl rfl) rfl fun a hA => 
        stp hA (r_mv hA rfl) rfl fun a hA => ?_
      rcases Bool.eq_false_or_eq_true (decide (31 < (x0.length : Int))) with hc2 | hc2
      · have hc20 := hc2; have hc2 := of_decide_eq_true hc2; have H := bT H hc2
        refine o_no hA rfl rfl (by rw [hc20]; simp [vb]) rfl fun a hA => 
          o_no hA rfl rfl (by rw [hc20]; simp [vb]) rfl fun a hA => 
          o_no hA rfl rfl (by rw [hc20]; simp [vb]) rfl fun a hA => 
          stp hA (r_pick_t hA rfl hc20 rfl) rfl fun a hA => 
          stp hA (r_mv hA rfl) rfl fun a hA => 
          o_no hA rfl rfl (by simp [vb]) rfl fun a hA => 
          o_no hA rfl rfl (by simp [vb]) rfl fun a hA => 
          stp hA (r_pick_t hA rfl rfl rfl) rfl fun a hA => ?_
        refine o_nil ?_
        cases Option.some.inj (bS H)
        exact ⟨hA.sub ⟨rfl, rfl, rfl, rfl, rfl, rfl, trivial⟩, hI⟩
      · have hc20 := hc2; have hc2 := of_decide_eq_false hc2; have H := bF H hc2
        refine o_yes hA rfl rfl hc20 <| 
          stp hA (r_mv hA rfl) rfl fun a hA => 
          o_yes hA rfl rfl hc20 <| 
          stp hA (r_rem hA rfl rfl (by decide)) rfl fun a hA => 
          o_yes hA rfl rfl hc20 <| 
          stp hA (r_eql hA rfl rfl) rfl fun a hA => 
          stp hA (r_pick_f hA rfl hc20 rfl) rfl fun a hA => 
          stp hA (r_mv hA rfl) rfl fun a hA => ?_
        rcases Bool.eq_false_or_eq_true (decide ((Int.tmod (x0.length : Int) 2) = 0)) with hc3 | hc3
        · have hc30 := hc3; have hc3 := of_decide_eq_true hc3; have H := bT H hc3
          refine o_no hA rfl rfl (by rw [hc30]; simp [vb]) rfl fun a hA => 
            o_no hA rfl rfl (by rw [hc30]; simp [vb]) rfl fun a hA => 
            stp hA (r_pick_t hA rfl hc30 rfl) rfl fun a hA => ?_
          refine o_nil ?_
          cases Option.some.inj (bS H)
          exact ⟨hA.sub ⟨rfl, rfl, rfl, rfl, rfl, rfl, trivial⟩, hI⟩
        · have hc30 := hc3; have hc3 := of_decide_eq_false hc3; have H := bF H hc3
          refine o_yes hA rfl rfl hc30 <| 
            stp hA (r_mv hA rfl) rfl fun a hA => 
            o_yes hA rfl rfl hc30 <| 
            stp hA (r_lss hA rfl rfl) rfl fun a hA => 
            stp hA (r_pick_f hA rfl hc30 rfl) rfl fun a hA => ?_
          refine o_nil ?_
          cases Option.some.inj (bS H)
          exact ⟨hA.sub ⟨rfl, rfl, rfl, rfl, rfl, rfl, trivial⟩, hI⟩
    · rintro a w ⟨hA, hI⟩
      have H := Hk1
      refine w_cond hA rfl (fun hc4 => ?_) (fun hc4 => ?_)
      · have hc40 := hc4; have H := bT H hc4
        obtain ⟨c2, hz3, Hk2⟩ := bB H
        refine w_cut (fun a w => Fr a 43 [(0, u0), (2, .bool c2), (3, .bool r1), (4, .int .i64 (x0.length : Int)), (7, .bool (!r1)), (20, .bool c1)] ∧ Iv w0 [] μ μ [] w) ?_ ?_
        · have H := bI hz3
          refine w_reg ?_
          refine stp hA (r_mv hA rfl) rfl fun a hA => 
            stp hA (r_mv hA rfl) rfl fun a hA => ?_
          rcases Bool.eq_false_or_eq_true r1 with hc5 | hc5
          · have hc50 := hc5; have H := bT H hc5
            refine o_yes hA rfl rfl hc50 <| ?_
            obtain ⟨r2, hr2, H⟩ := bB H
            refine o_callp (u := .agg [av .u8 32 r2].flatten.toArray) cf72 hA rfl hI (merkle_Root.c μ _ hI.agr ([]) (.slice none 0 0) (slc_nil _ _ _) r2 hr2) rfl fun a w hz4 hI hA => 
              o_yes hA rfl rfl hc50 <| 
              stp hA (r_bldA (cs := [av .u8 32 ([0, 0, 0, 0, 0, 0, 0, 0, 0, 0, 0, 0, 0, 0, 0, 0, 0, 0, 0, 0, 0, 0, 0, 0, 0, 0, 0, 0, 0, 0, 0, 0])].flatten.toArray) zr33 Try.underlying33 sz5 hA rfl (by kernel_rfl)) rfl fun a hA => 
              o_yes hA rfl rfl hc50 <| ?_
            obtain ⟨r3, hr3, H⟩ := bB H
            refine o_callp (u := .bool r3) cf28 hA rfl hI (sargassoref_SameHash.c μ _ hI.agr r2 hz4 ([0, 0, 0, 0, 0, 0, 0, 0, 0, 0, 0, 0, 0, 0, 0, 0, 0, 0, 0, 0, 0, 0, 0, 0, 0, 0, 0, 0, 0, 0, 0, 0]) (arr_lit rfl (by simp only [List.forall_mem_cons]; exact ⟨(in_lit .u8 0 rfl), (in_lit .u8 0 rfl), (in_lit .u8 0 rfl), (in_lit .u8 0 rfl), (in_lit .u8 0 rfl), (in_lit .u8 0 rfl), (in_lit .u8 0 rfl), (in_lit .u8 0 rfl), (in_lit .u8 0 rfl), (in_lit .u8 0 rfl), (in_lit .u8 0 rfl), (in_lit .u8 0 rfl), (in_lit .u8 0 rfl), (in_lit .u8 0 rfl), (in_lit .u8 0 rfl), (in_lit .u8 0 rfl), (in_lit .u8 0 rfl), (in_lit .u8 0 rfl), (in_lit .u8 0 rfl), (in_lit .u8 0 rfl), (in_lit .u8 0 rfl), (in_lit .u8 0 rfl), (in_lit .u8 0 rfl), (in_lit .u8 0 rfl), (in_lit .u8 0 rfl), (in_lit .u8 0 rfl), (in_lit .u8 0 rfl), (in_lit .u8 0 rfl), (in_lit .u8 0 rfl), (in_lit .u8 0 rfl), (in_lit .u8 0 rfl), (in_lit .u8 0 rfl), by simp⟩)) r3 hr3) rfl fun a w hz5 hI hA => 
              stp hA (r_pick_t hA rfl hc50 rfl) rfl fun a hA => 
              stp hA (r_as hA rfl) rfl fun a hA => ?_
            refine o_nil ?_
            cases Option.some.inj (bS H)
            exact ⟨hA.sub ⟨rfl, rfl, rfl, rfl, rfl, rfl, trivial⟩, hI⟩
          · have hc50 := hc5; have hc5 := ft hc5; have H := bF H hc5
            refine o_no hA rfl rfl (by rw [hc50]; simp [vb]) rfl fun a hA => 
              o_no hA rfl rfl (by rw [hc50]; simp [vb]) rfl fun a hA => 
              o_no hA rfl rfl (by rw [hc50]; simp [vb]) rfl fun a hA => 
              stp hA (r_pick_f hA rfl hc50 rfl) rfl fun a hA => 
              stp hA (r_as hA rfl) rfl fun a hA => ?_
            refine o_nil ?_
            cases Option.some.inj (bS H)
            exact ⟨hA.sub ⟨rfl, rfl, rfl, rfl, rfl, rfl, trivial⟩, hI⟩
        · rintro a w ⟨hA, hI⟩
          have H := Hk2
          refine w_ret ?_
          obtain rfl := Option.some.inj (bS H)
          exact ret1 hA Try.results16 rfl ⟨_, rfl, rfl, trivial, hI.forget0⟩
      · have hc40 := hc4; have hc4 := ft hc4; have H := bF H hc4
        refine w_skip ?_
        refine hN7 _ _ ?_
        obtain ⟨c3, hz6, Hk3⟩ := bB H
        refine w_cut (fun a w => Fr a 43 [(0, u0), (2, .bool c3), (3, .bool r1), (4, .int .i64 (x0.length : Int)), (7, .bool (!r1)), (20, .bool c1)] ∧ Iv w0 [] μ μ [] w) ?_ ?_
        · have H := bI hz6
          refine w_anyS [] mo (fun w (h : Iv w0 [] μ μ [] w) => (h.sel [] (by decide) rfl : Iv w0 [] μ μ [] w)) hI fun w hI => ?_
          refine g_easy (i := 0) hA rfl rfl (by kernel_rfl) (.inr hI) (fun _ => r_mv hA rfl) rfl fun a hA => ?_
          refine g_easy (i := 1) hA rfl rfl (by kernel_rfl) (.inr hI) (fun _ => r_mv hA rfl) rfl fun a hA => ?_
          rcases Bool.eq_false_or_eq_true r1 with hc6 | hc6
          · have hc60 := hc6; have H := bT H hc6
            refine g_easy (i := 2) hA rfl (wanted_yes hA rfl rfl hc60) (by kernel_rfl) (.inr hI) (fun _ => r_mv hA rfl) rfl fun a hA => ?_
            refine g_easy (i := 4) hA rfl (wanted_yes hA rfl rfl hc60) (by kernel_rfl) (.inr hI) (fun _ => r_mv hA rfl) rfl fun a hA => ?_
            refine g_easy (i := 6) hA rfl (wanted_yes hA rfl rfl hc60) (by kernel_rfl) (.inr hI) (fun _ => r_mv hA rfl) rfl fun a hA => ?_
            refine g_easy (i := 7) hA rfl (wanted_yes hA rfl rfl hc60) (by kernel_rfl) (.inr hI) (fun _ => r_mv hA rfl) rfl fun a hA => ?_
            refine g_easy (i := 8) hA rfl (wanted_yes hA rfl rfl hc60) (by kernel_rfl) (.inr hI) (fun _ => r_sub hA rfl rfl) rfl fun a hA => ?_
            obtain ⟨hb1, H⟩ := bG H
            obtain ⟨_, he1, _, hat1⟩ := Slc.elem hx0 (getD_some [] hb1.1 hb1.2)
            obtain ⟨rfl, hw1⟩ := he1
            obtain ⟨_, hsl2⟩ := Slc.sv hx0
            refine g_easy (i := 9) hA rfl (wanted_yes hA rfl rfl hc60) (by kernel_rfl) (.inr hI) (fun _ => r_six Try.underlying80 sz33 hsl2 hA rfl rfl hb1.1 hb1.2) rfl fun a hA => ?_
            refine g_take (i := 10) hA rfl (wanted_yes hA rfl rfl hc60) (by kernel_rfl) hI (fun w hI => r_ldmA [] [av .u8 32 (x0.getD (IntKind.i64.wrap ((x0.length : Int) - 1)).toNat [])] [] Try.underlying33 rfl sz33 rfl hI.agr hat1 hA rfl rfl) rfl fun a hA => ?_
            refine g_fork (i := 3) (is := [11]) (by kernel_rfl) (List.forall_mem_cons.2 ⟨⟨_, rfl, ?_⟩, (List.forall_mem_cons.2 ⟨⟨_, rfl, ?_⟩, List.forall_mem_nil _⟩)⟩)
            · skip
              refine o_yes hA rfl rfl hc60 <| ?_
              obtain ⟨r4, hr4, H⟩ := bB H
              refine o_callp (u := .agg [av .u8 32 r4].flatten.toArray) cf72 hA rfl hI (merkle_Root.c μ _ hI.agr x0 u0 hx0 r4 hr4) rfl fun a w hz7 hI hA => ?_
              refine o_nil ?_
              refine ⟨(.inr hI), ?_⟩
              refine g_fork (i := 5) (is := [11]) (by kernel_rfl) (List.forall_mem_cons.2 ⟨⟨_, rfl, ?_⟩, (List.forall_mem_cons.2 ⟨⟨_, rfl, ?_⟩, List.forall_mem_nil _⟩)⟩)
              · skip
                refine o_yes hA rfl rfl hc60 <| ?_
                obtain ⟨r5, hr5, H⟩ := bB H
                refine o_call _ cf73 hA rfl (sargassoref_Hashes.c μ _ hI.agr x0 u0 hx0 r5 hr5) rfl fun v1 a w hz8 hA => ?_
                obtain ⟨_, cs1, rfl, hE1, hi1⟩ := hz8
                have hI := hI.call hi1
                refine o_nil ?_
                refine ⟨(.inr (hI.sel [] (by decide) rfl)), ?_⟩
                refine g_forced (i := 11) rfl (by kernel_rfl) ?_
                refine o_yes hA rfl rfl hc60 <| ?_
                have hE2 : Els (RA .u8 32) 32 ([(x0.getD (IntKind.i64.wrap ((x0.length : Int) - 1)).toNat [])] : List (List Int)) ([av .u8 32 (x0.getD (IntKind.i64.wrap ((x0.length : Int) - 1)).toNat [])].flatten ++ ([])) := (Els.cons (c := [av .u8 32 (x0.getD (IntKind.i64.wrap ((x0.length : Int) - 1)).toNat [])].flatten) ⟨rfl, hw1⟩ rfl Els.nil)
                refine o_bsl ([av .u8 32 (x0.getD (IntKind.i64.wrap ((x0.length : Int) - 1)).toNat [])].flatten ++ ([])) te33 zr33 Try.underlying80 hI hA rfl rfl rfl rfl (by kernel_rfl) rfl fun g1 a w hA hI => ?_
                generalize hcs : ([av .u8 32 (x0.getD (IntKind.i64.wrap ((x0.length : Int) - 1)).toNat [])].flatten ++ ([]) : List Value) = cs2 at hE2 hI
                clear hcs
                refine o_nil ?_
                refine ⟨(.inr (hI.sel [] (by decide) rfl)), ?_⟩
                refine g_forced (i := 12) rfl (by kernel_rfl) ?_
                refine o_yes hA rfl rfl hc60 <| ?_
                obtain ⟨hb2, H⟩ := bG H
                have hE4 := hE1.app hE2
                refine o_appL (xs := (r5 : List (List Int))) (ys := (([(x0.getD (IntKind.i64.wrap ((x0.length : Int) - 1)).toNat [])] : List (List Int)) : List (List Int))) (j := 1) te33 Try.underlying80 hI rfl hA rfl rfl (src_row hI (j := 0) rfl) hE2.len (hE2.ones (one_RA _ _)) (by first | decide | (have hq := hb2; (try simp only [List.length_cons, List.length_nil] at hq); (try simp only [List.length_cons, List.length_nil]); (try simp only [maxLen]); omega)) (by first | decide | (have hq := hb2; (try simp only [List.length_cons, List.length_nil] at hq); (try simp only [List.length_cons, List.length_nil]); (try simp only [maxLen]); omega)) rfl fun v2 a w hA hI => ?_
                refine o_nil ?_
                refine ⟨(.inr (hI.sel [] (by decide) rfl)), ?_⟩
                refine g_forced (i := 13) rfl (by kernel_rfl) ?_
                refine o_yes hA rfl rfl hc60 <| ?_
                obtain ⟨r6, hr6, H⟩ := bB H
                refine o_callp (u := .agg [av .u8 32 r6].flatten.toArray) cf72 hA rfl hI ((by obtain ⟨μ1, hle1, hsv2, hI⟩ := hI.freezeRow 1 rfl; have hS1 : Slc (RA .u8 32) 32 μ1 v2 (r5 ++ ([(x0.getD (IntKind.i64.wrap ((x0.length : Int) - 1)).toNat [])] : List (List Int))) := ⟨_, hE4, hsv2⟩; exact low_plain hle1 (merkle_Root.c μ1 _ hI.agr (r5 ++ ([(x0.getD (IntKind.i64.wrap ((x0.length : Int) - 1)).toNat [])] : List (List Int))) v2 hS1 r6 hr6))) rfl fun a w hz9 hI hA => ?_
                refine o_nil ?_
                refine ⟨(.inr (hI.sel [] (by decide) rfl)), ?_⟩
                refine g_forced (i := 14) rfl (by kernel_rfl) ?_
                refine o_yes hA rfl rfl hc60 <| ?_
                obtain ⟨r7, hr7, H⟩ := bB H
                refine o_callp (u := .bool r7) cf28 hA rfl hI (sargassoref_SameHash.c μ _ hI.agr r4 hz7 r6 hz9 r7 hr7) rfl fun a w hz10 hI hA => ?_
                refine o_nil ?_
                refine ⟨(.inr (hI.sel [] (by decide) rfl)), ?_⟩
                refine g_easy (i := 15) hA rfl rfl (by kernel_rfl) (.inr (hI.sel [] (by decide) rfl)) (fun _ => r_pick_t hA rfl hc60 rfl) rfl fun a hA => ?_
                refine g_easy (i := 16) hA rfl rfl (by kernel_rfl) (.inr (hI.sel [] (by decide) rfl)) (fun _ => r_as hA rfl) rfl fun a hA => ?_
                refine g_nil (by kernel_rfl) ?_
                cases Option.some.inj (bS H)
                exact ⟨hA.sub ⟨rfl, rfl, rfl, rfl, rfl, rfl, trivial⟩, (hI.sel [] (by decide) rfl)⟩
              · skip
                refine o_yes hA rfl rfl hc60 <| ?_
                have hE1 : Els (RA .u8 32) 32 ([(x0.getD (IntKind.i64.wrap ((x0.length : Int) - 1)).toNat [])] : List (List Int)) ([av .u8 32 (x0.getD (IntKind.i64.wrap ((x0.length : Int) - 1)).toNat [])].flatten ++ ([])) := (Els.cons (c := [av .u8 32 (x0.getD (IntKind.i64.wrap ((x0.length : Int) - 1)).toNat [])].flatten) ⟨rfl, hw1⟩ rfl Els.nil)
                refine o_bsl ([av .u8 32 (x0.getD (IntKind.i64.wrap ((x0.length : Int) - 1)).toNat [])].flatten ++ ([])) te33 zr33 Try.underlying80 hI hA rfl rfl rfl rfl (by kernel_rfl) rfl fun g1 a w hA hI => ?_
                generalize hcs : ([av .u8 32 (x0.getD (IntKind.i64.wrap ((x0.length : Int) - 1)).toNat [])].flatten ++ ([]) : List Value) = cs1 at hE1 hI
                clear hcs
                refine o_nil ?_
                refine ⟨(.inr (hI.sel [] (by decide) rfl)), ?_⟩
                refine g_forced (i := 5) rfl (by kernel_rfl) ?_
                refine o_yes hA rfl rfl hc60 <| ?_
                obtain ⟨r5, hr5, H⟩ := bB H
                refine o_call _ cf73 hA rfl (sargassoref_Hashes.c μ _ hI.agr x0 u0 hx0 r5 hr5) rfl fun v1 a w hz8 hA => ?_
                obtain ⟨_, cs2, rfl, hE2, hi1⟩ := hz8
                have hI := hI.call hi1
                refine o_nil ?_
                refine ⟨(.inr (hI.sel [] (by decide) rfl)), ?_⟩
                refine g_forced (i := 12) rfl (by kernel_rfl) ?_
                refine o_yes hA rfl rfl hc60 <| ?_
                obtain ⟨hb2, H⟩ := bG H
                have hE4 := hE2.app hE1
                refine o_appL (xs := (r5 : List (List Int))) (ys := (([(x0.getD (IntKind.i64.wrap ((x0.length : Int) - 1)).toNat [])] : List (List Int)) : List (List Int))) (j := 0) te33 Try.underlying80 hI rfl hA rfl rfl (src_row hI (j := 1) rfl) hE1.len (hE1.ones (one_RA _ _)) (by first | decide | (have hq := hb2; (try simp only [List.length_cons, List.length_nil] at hq); (try simp only [List.length_cons, List.length_nil]); (try simp only [maxLen]); omega)) (by first | decide | (have hq := hb2; (try simp only [List.length_cons, List.length_nil] at hq); (try simp only [List.length_cons, List.length_nil]); (try simp only [maxLen]); omega)) rfl fun v2 a w hA hI => ?_
                refine o_nil ?_
                refine ⟨(.inr (hI.sel [] (by decide) rfl)), ?_⟩
                refine g_forced (i := 13) rfl (by kernel_rfl) ?_
                refine o_yes hA rfl rfl hc60 <| ?_
                obtain ⟨r6, hr6, H⟩ := bB H
                refine o_callp (u := .agg [av .u8 32 r6].flatten.toArray) cf72 hA rfl hI ((by obtain ⟨μ1, hle1, hsv2, hI⟩ := hI.freezeRow 0 rfl; have hS1 : Slc (RA .u8 32) 32 μ1 v2 (r5 ++ ([(x0.getD (IntKind.i64.wrap ((x0.length : Int) - 1)).toNat [])] : List (List Int))) := ⟨_, hE4, hsv2⟩; exact low_plain hle1 (merkle_Root.c μ1 _ hI.agr (r5 ++ ([(x0.getD (IntKind.i64.wrap ((x0.length : Int) - 1)).toNat [])] : List (List Int))) v2 hS1 r6 hr6))) rfl fun a w hz9 hI hA => ?_
                refine o_nil ?_
                refine ⟨(.inr (hI.sel [] (by decide) rfl)), ?_⟩
                refine g_forced (i := 14) rfl (by kernel_rfl) ?_
                refine o_yes hA rfl rfl hc60 <| ?_
                obtain ⟨r7, hr7, H⟩ := bB H
                refine o_callp (u := .bool r7) cf28 hA rfl hI (sargassoref_SameHash.c μ _ hI.agr r4 hz7 r6 hz9 r7 hr7) rfl fun a w hz10 hI hA => ?_
                refine o_nil ?_
                refine ⟨(.inr (hI.sel [] (by decide) rfl)), ?_⟩
                refine g_easy (i := 15) hA rfl rfl (by kernel_rfl) (.inr (hI.sel [] (by decide) rfl)) (fun _ => r_pick_t hA rfl hc60 rfl) rfl fun a hA => ?_
                refine g_easy (i := 16) hA rfl rfl (by kernel_rfl) (.inr (hI.sel [] (by decide) rfl)) (fun _ => r_as hA rfl) rfl fun a hA => ?_
                refine g_nil (by kernel_rfl) ?_
                cases Option.some.inj (bS H)
                exact ⟨hA.sub ⟨rfl, rfl, rfl, rfl, rfl, rfl, trivial⟩, (hI.sel [] (by decide) rfl)⟩
            · skip
              refine o_yes hA rfl rfl hc60 <| ?_
              have hE1 : Els (RA .u8 32) 32 ([(x0.getD (IntKind.i64.wrap ((x0.length : Int) - 1)).toNat [])] : List (List Int)) ([av .u8 32 (x0.getD (IntKind.i64.wrap ((x0.length : Int) - 1)).toNat [])].flatten ++ ([])) := (Els.cons (c := [av .u8 32 (x0.getD (IntKind.i64.wrap ((x0.length : Int) - 1)).toNat [])].flatten) ⟨rfl, hw1⟩ rfl Els.nil)
              refine o_bsl ([av .u8 32 (x0.getD (IntKind.i64.wrap ((x0.length : Int) - 1)).toNat [])].flatten ++ ([])) te33 zr33 Try.underlying80 hI hA rfl rfl rfl rfl (by kernel_rfl) rfl fun g1 a w hA hI => ?_
              generalize hcs : ([av .u8 32 (x0.getD (IntKind.i64.wrap ((x0.length : Int) - 1)).toNat [])].flatten ++ ([]) : List Value) = cs1 at hE1 hI
              clear hcs
              refine o_nil ?_
              refine ⟨(.inr (hI.sel [] (by decide) rfl)), ?_⟩
              refine g_forced (i := 3) rfl (by kernel_rfl) ?_
              refine o_yes hA rfl rfl hc60 <| ?_
              obtain ⟨r4, hr4, H⟩ := bB H
              refine o_callp (u := .agg [av .u8 32 r4].flatten.toArray) cf72 hA rfl hI (merkle_Root.c μ _ hI.agr x0 u0 hx0 r4 hr4) rfl fun a w hz7 hI hA => ?_
              refine o_nil ?_
              refine ⟨(.inr (hI.sel [] (by decide) rfl)), ?_⟩
              refine g_forced (i := 5) rfl (by kernel_rfl) ?_
              refine o_yes hA rfl rfl hc60 <| ?_
              obtain ⟨r5, hr5, H⟩ := bB H
              refine o_call _ cf73 hA rfl (sargassoref_Hashes.c μ _ hI.agr x0 u0 hx0 r5 hr5) rfl fun v1 a w hz8 hA => ?_
              obtain ⟨_, cs2, rfl, hE2, hi1⟩ := hz8
              have hI := hI.call hi1
              refine o_nil ?_
              refine ⟨(.inr (hI.sel [] (by decide) rfl)), ?_⟩
              refine g_forced (i := 12) rfl (by kernel_rfl) ?_
              refine o_yes hA rfl rfl hc60 <| ?_
              obtain ⟨hb2, H⟩ := bG H
              have hE4 := hE2.app hE1
              refine o_appL (xs := (r5 : List (List Int))) (ys := (([(x0.getD (IntKind.i64.wrap ((x0.length : Int) - 1)).toNat [])] : List (List Int)) : List (List Int))) (j := 0) te33 Try.underlying80 hI rfl hA rfl rfl (src_row hI (j := 1) rfl) hE1.len (hE1.ones (one_RA _ _)) (by first | decide | (have hq := hb2; (try simp only [List.length_cons, List.length_nil] at hq); (try simp only [List.length_cons, List.length_nil]); (try simp only [maxLen]); omega)) (by first | decide | (have hq := hb2; (try simp only [List.length_cons, List.length_nil] at hq); (try simp only [List.length_cons, List.length_nil]); (try simp only [maxLen]); omega)) rfl fun v2 a w hA hI => ?_
              refine o_nil ?_
              refine ⟨(.inr (hI.sel [] (by decide) rfl)), ?_⟩
              refine g_forced (i := 13) rfl (by kernel_rfl) ?_
              refine o_yes hA rfl rfl hc60 <| ?_
              obtain ⟨r6, hr6, H⟩ := bB H
              refine o_callp (u := .agg [av .u8 32 r6].flatten.toArray) cf72 hA rfl hI ((by obtain ⟨μ1, hle1, hsv2, hI⟩ := hI.freezeRow 0 rfl; have hS1 : Slc (RA .u8 32) 32 μ1 v2 (r5 ++ ([(x0.getD (IntKind.i64.wrap ((x0.length : Int) - 1)).toNat [])] : List (List Int))) := ⟨_, hE4, hsv2⟩; exact low_plain hle1 (merkle_Root.c μ1 _ hI.agr (r5 ++ ([(x0.getD (IntKind.i64.wrap ((x0.length : Int) - 1)).toNat [])] : List (List Int))) v2 hS1 r6 hr6))) rfl fun a w hz9 hI hA => ?_
              refine o_nil ?_
              refine ⟨(.inr (hI.sel [] (by decide) rfl)), ?_⟩
              refine g_forced (i := 14) rfl (by kernel_rfl) ?_
              refine o_yes hA rfl rfl hc60 <| ?_
              obtain ⟨r7, hr7, H⟩ := bB H
              refine o_callp (u := .bool r7) cf28 hA rfl hI (sargassoref_SameHash.c μ _ hI.agr r4 hz7 r6 hz9 r7 hr7) rfl fun a w hz10 hI hA => ?_
              refine o_nil ?_
              refine ⟨(.inr (hI.sel [] (by decide) rfl)), ?_⟩
              refine g_easy (i := 15) hA rfl rfl (by kernel_rfl) (.inr (hI.sel [] (by decide) rfl)) (fun _ => r_pick_t hA rfl hc60 rfl) rfl fun a hA => ?_
              refine g_easy (i := 16) hA rfl rfl (by kernel_rfl) (.inr (hI.sel [] (by decide) rfl)) (fun _ => r_as hA rfl) rfl fun a hA => ?_
              refine g_nil (by kernel_rfl) ?_
              cases Option.some.inj (bS H)
              exact ⟨hA.sub ⟨rfl, rfl, rfl, rfl, rfl, rfl, trivial⟩, (hI.sel [] (by decide) rfl)⟩
          · have hc60 := hc6; have hc6 := ft hc6; have H := bF H hc6
            refine g_skip (i := 2) hA rfl (wanted_no hA rfl rfl (by rw [hc60]; simp [vb])) (by kernel_rfl) (.inr hI) rfl fun a hA => ?_
            refine g_skip (i := 4) hA rfl (wanted_no hA rfl rfl (by rw [hc60]; simp [vb])) (by kernel_rfl) (.inr hI) rfl fun a hA => ?_
            refine g_skip (i := 6) hA rfl (wanted_no hA rfl rfl (by rw [hc60]; simp [vb])) (by kernel_rfl) (.inr hI) rfl fun a hA => ?_
            refine g_skip (i := 7) hA rfl (wanted_no hA rfl rfl (by rw [hc60]; simp [vb])) (by kernel_rfl) (.inr hI) rfl fun a hA => ?_
            refine g_skip (i := 8) hA rfl (wanted_no hA rfl rfl (by rw [hc60]; simp [vb])) (by kernel_rfl) (.inr hI) rfl fun a hA => ?_
            refine g_skip (i := 9) hA rfl (wanted_no hA rfl rfl (by rw [hc60]; simp [vb])) (by kernel_rfl) (.inr hI) rfl fun a hA => ?_
            refine g_skip (i := 10) hA rfl (wanted_no hA rfl rfl (by rw [hc60]; simp [vb])) (by kernel_rfl) (.inr hI) rfl fun a hA => ?_
            refine g_skip (i := 3) hA rfl (wanted_no hA rfl rfl (by rw [hc60]; simp [vb])) (by kernel_rfl) (.inr hI) rfl fun a hA => ?_
            refine g_skip (i := 5) hA rfl (wanted_no hA rfl rfl (by rw [hc60]; simp [vb])) (by kernel_rfl) (.inr hI) rfl fun a hA => ?_
            refine g_skip (i := 11) hA rfl (wanted_no hA rfl rfl (by rw [hc60]; simp [vb])) (by kernel_rfl) (.inr hI) rfl fun a hA => ?_
            refine g_skip (i := 12) hA rfl (wanted_no hA rfl rfl (by rw [hc60]; simp [vb])) (by kernel_rfl) (.inr hI) rfl fun a hA => ?_
            refine g_skip (i := 13) hA rfl (wanted_no hA rfl rfl (by rw [hc60]; simp [vb])) (by kernel_rfl) (.inr hI) rfl fun a hA => ?_
            refine g_skip (i := 14) hA rfl (wanted_no hA rfl rfl (by rw [hc60]; simp [vb])) (by kernel_rfl) (.inr hI) rfl fun a hA => ?_
            refine g_easy (i := 15) hA rfl rfl (by kernel_rfl) (.inr hI) (fun _ => r_pick_f hA rfl hc60 rfl) rfl fun a hA => ?_
            refine g_easy (i := 16) hA rfl rfl (by kernel_rfl) (.inr hI) (fun _ => r_as hA rfl) rfl fun a hA => ?_
            refine g_nil (by kernel_rfl) ?_
            cases Option.some.inj (bS H)
            exact ⟨hA.sub ⟨rfl, rfl, rfl, rfl, rfl, rfl, trivial⟩, hI⟩
        · rintro a w ⟨hA, hI⟩
          have H := Hk3
          refine w_ret ?_
          obtain rfl := Option.some.inj (bS H)
          exact ret1 hA Try.results16 rfl ⟨_, rfl, rfl, trivial, hI.forget0⟩
end Go.Proofs.Ytnbnnphlffhgiaa.T
