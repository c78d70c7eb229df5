/- A helper of this seat's claims: printed by gen.py. It proves no statement by itself. -/
import Derived.Test.YtnbnnphlffhgiaaCH
import Derived.Test.YtnbnnphlffhgiaaGMerkleRows
namespace Go.Proofs.Ytnbnnphlffhgiaa.T
open Go Go.Proofs Go.Proofs.Ytnbnnphlffhgiaa.K
set_option linter.unusedVariables false
set_option linter.unusedSimpArgs false
/-! sargassolaw6.MerkleRows: function 17 -/
set_option maxRecDepth 20000 in
theorem sargassolaw6_MerkleRows.c (μ : Store) (w0 : World) (hμ : Agr μ w0) (x0 : List (List Int)) (u0 : Value) (hx0 : Slc (RA .u8 32) 32 μ u0 x0) (x1 : Int) (hx1 : InR .i64 x1) (r : Bool) (H : sargassolaw6_MerkleRows.f x0 x1 = some r) :
    Calls Try.prog 17 [u0, .int .i64 x1].toArray w0 (fun e w' => ∃ v, e = .returned v ∧ v = .bool r ∧ True ∧ Iv w0 [] μ μ [] w') := by
  refine enter Try.func17 rfl Try.ntmps17 rfl fun a hA => ?_
  have hI := Iv.start hμ
  have H := bI H
  refine w_seq fun _ hN1 => ?_
  refine w_reg ?_
  refine stp hA (r_as hA rfl) rfl fun a hA => ?_
  refine o_nil ?_
  refine hN1 _ _ ?_
  refine w_seq fun _ hN2 => ?_
  refine w_reg ?_
  obtain ⟨r1, hr1, H⟩ := bB H
  refine o_callp (u := .bool r1) cf71 hA rfl hI (sargassolaw6_first.c μ _ hI.agr  r1 hr1) rfl fun a w hz1 hI hA => 
    stp hA (r_as hA rfl) rfl fun a hA => ?_
  refine o_nil ?_
  refine hN2 _ _ ?_
  refine w_seq fun _ hN3 => ?_
  refine w_seq fun _ hN4 => ?_
  refine w_reg ?_
  refine stp hA (r_mv hA rfl) rfl fun a hA => 
    stp hA (r_not hA rfl) rfl fun a hA => ?_
  refine o_nil ?_
  refine hN4 _ _ ?_
  refine w_cond hA rfl (fun hc1 => ?_) (fun hc1 => ?_)
  · have hc10 := hc1; have hc1 := nT hc1; have hc1 := ft hc1; have H := bF H hc1
    refine w_seq fun _ hN5 => ?_
    refine w_reg ?_
    refine stp hA (r_as hA rfl) rfl fun a hA => ?_
    refine o_nil ?_
    refine hN5 _ _ ?_
    refine w_ret ?_
    obtain rfl := Option.some.inj (bS H)
    exact ret1 hA Try.results17 rfl ⟨_, rfl, rfl, trivial, hI.forget0⟩
  · have hc10 := hc1; have hc1 := nF hc1; have H := bT H hc1
    refine w_skip ?_
    refine hN3 _ _ ?_
    refine w_seq fun _ hN6 => ?_
    refine w_reg ?_
    refine stp hA (r_mv hA rfl) rfl fun a hA => ?_
    obtain ⟨r2, hr2, H⟩ := bB H
    refine o_callp (u := .int .i64 r2) cf26 hA rfl hI (sargassoworld_Number.c μ _ hI.agr x1 hx1 5 (in_lit .i64 5 rfl) r2 hr2) rfl fun a w hz2 hI hA => 
      stp hA (r_conv Try.underlying3 Try.underlying40 hA rfl) rfl fun a hA => ?_
    obtain ⟨hb1, H⟩ := bG H
    refine stp hA (r_shl hA rfl rfl hb1) rfl fun a hA => 
      stp hA (r_as hA rfl) rfl fun a hA => ?_
    refine o_nil ?_
    refine hN6 _ _ ?_
    refine w_seq fun _ hN7 => ?_
    refine w_seq fun _ hN8 => ?_
    refine w_reg ?_
    refine stp hA (r_mv hA rfl) rfl fun a hA => ?_
    obtain ⟨_, hsl1⟩ := Slc.sv hx0
    refine stp hA (r_slen Try.underlying80 hsl1 hA rfl) rfl fun a hA => 
      stp hA (r_mv hA rfl) rfl fun a hA => 
      stp hA (r_mul hA rfl rfl) rfl fun a hA => 
      stp hA (r_lss hA rfl rfl) rfl fun a hA => ?_
    refine o_nil ?_
    refine hN8 _ _ ?_
    refine w_cond hA rfl (fun hc2 => ?_) (fun hc2 => ?_)
    · have hc20 := hc2; have hc2 := of_decide_eq_true hc2; have H := bT H hc2
      refine w_seq fun _ hN9 => ?_
      refine w_reg ?_
      refine stp hA (r_mv hA rfl) rfl fun a hA => 
        stp hA (r_as hA rfl) rfl fun a hA => ?_
      refine o_nil ?_
      refine hN9 _ _ ?_
      refine w_ret ?_
      obtain rfl := Option.some.inj (bS H)
      exact ret1 hA Try.results17 rfl ⟨_, rfl, rfl, trivial, hI.forget0⟩
    · have hc20 := hc2; have hc2 := of_decide_eq_false hc2; have H := bF H hc2
      refine w_skip ?_
      refine hN7 _ _ ?_
      refine w_seq fun _ hN10 => ?_
      refine w_reg ?_
      refine stp hA (r_mv hA rfl) rfl fun a hA => 
        stp hA (r_mv hA rfl) rfl fun a hA => ?_
      obtain ⟨hb2, H⟩ := bG H
      obtain ⟨v1, hS1, hr3⟩ := r_sl (P := Try.prog) (t := 80) (x := .tmp 25) (l := none) (h := (some (.tmp 26))) (i := 0) (j := sL .i64 1 (IntKind.u64.wrap r2)) Try.underlying80 sz33 hx0 hA rfl rfl rfl (by have hq := hb2; omega) (by have hq := hb2; omega) (by have hq := hb2; omega)
      refine stp hA (hr3 _ _ _ _ _ _) rfl fun a hA => ?_
      obtain ⟨r3, hr4, H⟩ := bB H
      refine o_callp (u := .agg [av .u8 32 r3].flatten.toArray) cf72 hA rfl hI (merkle_Root.c μ _ hI.agr ((x0.take (sL .i64 1 (IntKind.u64.wrap r2)).toNat).drop (0 : Int).toNat) v1 hS1 r3 hr4) rfl fun a w hz3 hI hA => 
        o_new [av .u8 32 (List.replicate 32 0)] zr33 hI hA rfl fun g1 a w hA hI hg1 => 
        o_st (j := 0) [] [av .u8 32 (List.replicate 32 0)] [av .u8 32 r3] [] sz33 rfl rfl (fl_cons (one_av _ _ _) fl_nil) hI rfl hA rfl rfl rfl rfl fun w hI => ?_
      refine o_nil ?_
      refine hN10 _ _ ?_
      refine w_seq fun _ hN11 => ?_
      refine w_reg ?_
      refine stp hA (r_mv hA rfl) rfl fun a hA => 
        stp hA (r_mv hA rfl) rfl fun a hA => 
        stp hA (r_mv hA rfl) rfl fun a hA => 
        stp hA (r_mul hA rfl rfl) rfl fun a hA => ?_
      obtain ⟨hb3, H⟩ := bG H
      obtain ⟨v2, hS2, hr5⟩ := r_sl (P := Try.prog) (t := 80) (x := .tmp 29) (l := (some (.tmp 30))) (h := (some (.tmp 32))) (i := sL .i64 1 (IntKind.u64.wrap r2)) (j := IntKind.i64.wrap (2 * (sL .i64 1 (IntKind.u64.wrap r2)))) Try.underlying80 sz33 hx0 hA rfl rfl rfl (by have hq := hb3; omega) (by have hq := hb3; omega) (by have hq := hb3; omega)
      refine stp hA (hr5 _ _ _ _ _ _) rfl fun a hA => ?_
      obtain ⟨r4, hr6, H⟩ := bB H
      refine o_callp (u := .agg [av .u8 32 r4].flatten.toArray) cf72 hA rfl hI (merkle_Root.c μ _ hI.agr ((x0.take (IntKind.i64.wrap (2 * (sL .i64 1 (IntKind.u64.wrap r2)))).toNat).drop (sL .i64 1 (IntKind.u64.wrap r2)).toNat) v2 hS2 r4 hr6) rfl fun a w hz4 hI hA => 
        o_new [av .u8 32 (List.replicate 32 0)] zr33 hI hA rfl fun g2 a w hA hI hg2 => 
        o_st (j := 0) [] [av .u8 32 (List.replicate 32 0)] [av .u8 32 r4] [] sz33 rfl rfl (fl_cons (one_av _ _ _) fl_nil) hI rfl hA rfl rfl rfl rfl fun w hI => ?_
      refine o_nil ?_
      refine hN11 _ _ ?_
      refine w_seq fun _ hN12 => ?_
      refine w_reg ?_
      refine stp hA (r_as hA rfl) rfl fun a hA => ?_
      refine o_nil ?_
      refine hN12 _ _ ?_
      obtain ⟨c1, hz5, Hk1⟩ := bB H
      refine w_cut (fun a w => InR .i64 c1 ∧ Fr a 84 [(0, u0), (1, .int .i64 (sL .i64 1 (IntKind.u64.wrap r2))), (4, .bool false), (5, .bool r1), (6, .pointer (some ⟨g1, 0, none⟩)), (7, .pointer (some ⟨g2, 0, none⟩)), (8, .int .i64 c1), (14, .bool (!r1)), (23, .bool (decide ((x0.length : Int) < (IntKind.i64.wrap (2 * (sL .i64 1 (IntKind.u64.wrap r2)))))))] ∧ Iv w0 [] μ μ [cel g2 [av .u8 32 r4] 33, cel g1 [av .u8 32 r3] 33] w) ?_ ?_
      · have H := bI hz5
        refine w_seq fun _ hN13 => ?_
        refine w_reg ?_
        refine stp hA (r_as hA rfl) rfl fun a hA => ?_
        refine o_nil ?_
        refine hN13 _ _ ?_
        refine w_block ?_
        obtain ⟨z1, hz6, Hk2⟩ := bind_some H
        obtain ⟨n1, hn1⟩ := loopO_some hz6
        refine w_loop (fun n a w => ∃ (s1 : Int) (s2 : Int), loopN (sargassolaw6_MerkleRows.s0 r2) n (s1, s2) = some z1 ∧ InR .i64 s1 ∧ InR .i64 s2 ∧ Fr a 84 [(0, u0), (1, .int .i64 (sL .i64 1 (IntKind.u64.wrap r2))), (4, .bool false), (5, .bool r1), (6, .pointer (some ⟨g1, 0, none⟩)), (7, .pointer (some ⟨g2, 0, none⟩)), (8, .int .i64 s1), (9, .int .i64 s2), (14, .bool (!r1)), (23, .bool (decide ((x0.length : Int) < (IntKind.i64.wrap (2 * (sL .i64 1 (IntKind.u64.wrap r2)))))))] ∧ Iv w0 [] μ μ [cel g2 [av .u8 32 r4] 33, cel g1 [av .u8 32 r3] 33] w) n1 ⟨0, 1, hn1, (in_lit .i64 0 rfl), (in_lit .i64 1 rfl), hA.sub ⟨rfl, rfl, rfl, rfl, rfl, rfl, rfl, rfl, rfl, rfl, trivial⟩, hI⟩ ?_
        clear hA hI
        rintro n a w ⟨s1, s2, hn1, ws1, ws2, hA, hI⟩
        obtain ⟨m1, rfl, H⟩ := loopN_bind hn1
        clear hn1
        refine w_seq fun _ hN14 => ?_
        refine w_seq fun _ hN15 => ?_
        refine w_reg ?_
        refine stp hA (r_mv hA rfl) rfl fun a hA => 
          stp hA (r_mv hA rfl) rfl fun a hA => 
          stp hA (r_mul hA rfl rfl) rfl fun a hA => 
          stp hA (r_lss hA rfl rfl) rfl fun a hA => ?_
        refine o_nil ?_
        refine hN15 _ _ ?_
        refine w_cond hA rfl (fun hc3 => ?_) (fun hc3 => ?_)
        · have hc30 := hc3; have hc3 := of_decide_eq_true hc3; have H := bT H hc3
          refine w_skip ?_
          refine hN14 _ _ ?_
          refine w_seq fun _ hN16 => ?_
          refine w_block ?_
          refine w_reg ?_
          refine stp hA (r_mv hA rfl) rfl fun a hA => 
            stp hA (r_add hA rfl rfl) rfl fun a hA => 
            stp hA (r_as hA rfl) rfl fun a hA => ?_
          refine o_nil ?_
          refine hN16 _ _ ?_
          refine w_reg ?_
          refine stp hA (r_mv hA rfl) rfl fun a hA => 
            stp hA (r_mul hA rfl rfl) rfl fun a hA => 
            stp hA (r_as hA rfl) rfl fun a hA => ?_
          refine o_nil ?_
          exact ⟨m1, Nat.lt_succ_self _, IntKind.i64.wrap (s1 + 1), IntKind.i64.wrap (2 * s2), H, (wrap_in _ _), (wrap_in _ _), hA.sub ⟨rfl, rfl, rfl, rfl, rfl, rfl, rfl, rfl, rfl, rfl, trivial⟩, hI⟩
        · have hc30 := hc3; have hc3 := of_decide_eq_false hc3; have H := bF H hc3
          refine w_exit rfl ?_
          have H : some s1 = some z1 := H
          obtain rfl := Option.some.inj H
          have H := Hk2
          cases Option.some.inj (bS H)
          exact ⟨ws1, hA.sub ⟨rfl, rfl, rfl, rfl, rfl, rfl, rfl, rfl, rfl, trivial⟩, hI⟩
      · rintro a w ⟨wc1, hA, hI⟩
        have H := Hk1
        refine w_seq fun _ hN17 => ?_
        refine w_reg ?_
        refine stp hA (r_mv hA rfl) rfl fun a hA => 
          stp hA (r_mv hA rfl) rfl fun a hA => 
          stp hA (r_mv hA rfl) rfl fun a hA => 
          stp hA (r_mul hA rfl rfl) rfl fun a hA => ?_
        obtain ⟨hb4, H⟩ := bG H
        obtain ⟨v3, hS3, hr7⟩ := r_sl (P := Try.prog) (t := 80) (x := .tmp 45) (l := none) (h := (some (.tmp 47))) (i := 0) (j := IntKind.i64.wrap (2 * (sL .i64 1 (IntKind.u64.wrap r2)))) Try.underlying80 sz33 hx0 hA rfl rfl rfl (by have hq := hb4; omega) (by have hq := hb4; omega) (by have hq := hb4; omega)
        refine stp hA (hr7 _ _ _ _ _ _) rfl fun a hA => ?_
        obtain ⟨r5, hr8, H⟩ := bB H
        refine o_call _ cf74 hA rfl (merkle_Path.c μ _ hI.agr (sL .i64 1 (IntKind.u64.wrap r2)) (wrap_in _ _) ((x0.take (IntKind.i64.wrap (2 * (sL .i64 1 (IntKind.u64.wrap r2)))).toNat).drop (0 : Int).toNat) v3 hS3 r5 hr8) rfl fun v4 a w hz7 hA => ?_
        obtain ⟨v5, cs1, rfl, hE1, hw1, hi1⟩ := hz7
        have hI := hI.call hi1
        refine stp hA (r_mv hA rfl) rfl fun a hA => 
          stp hA (r_extr (vs := [v5, .bool r5.2]) hA rfl rfl) rfl fun a hA => 
          stp hA (r_extr (vs := [v5, .bool r5.2]) hA rfl rfl) rfl fun a hA => 
          stp hA (r_as hA rfl) rfl fun a hA => 
          stp hA (r_as hA rfl) rfl fun a hA => ?_
        refine o_nil ?_
        refine hN17 _ _ ?_
        obtain ⟨c2, hz8, Hk3⟩ := bB H
        refine w_cut (fun a w => Fr a 84 [(0, u0), (1, .int .i64 (sL .i64 1 (IntKind.u64.wrap r2))), (4, .bool c2), (5, .bool r1), (6, .pointer (some ⟨g1, 0, none⟩)), (7, .pointer (some ⟨g2, 0, none⟩)), (8, .int .i64 c1), (10, v5), (11, .bool r5.2), (14, .bool (!r1)), (23, .bool (decide ((x0.length : Int) < (IntKind.i64.wrap (2 * (sL .i64 1 (IntKind.u64.wrap r2)))))))] ∧ Iv w0 [] μ μ [row 33 32 v5 r5.1.length cs1, cel g2 [av .u8 32 r4] 33, cel g1 [av .u8 32 r3] 33] w) ?_ ?_
        · have H := bI hz8
          refine w_any [] mo hI fun w hI => ?_
          refine g_easy (i := 0) hA rfl rfl (by kernel_rfl) (.inr hI) (fun _ => r_mv hA rfl) rfl fun a hA => ?_
          refine g_easy (i := 1) hA rfl rfl (by kernel_rfl) (.inr hI) (fun _ => r_mv hA rfl) rfl fun a hA => ?_
          rcases Bool.eq_false_or_eq_true r1 with hc4 | hc4
          · have hc40 := hc4; have H := bT H hc4
            refine g_easy (i := 2) hA rfl (wanted_yes hA rfl rfl hc40) (by kernel_rfl) (.inr hI) (fun _ => r_mv hA rfl) rfl fun a hA => ?_
            refine g_easy (i := 3) hA rfl rfl (by kernel_rfl) (.inr hI) (fun _ => r_pick_t hA rfl hc40 rfl) rfl fun a hA => ?_
            refine g_easy (i := 4) hA rfl rfl (by kernel_rfl) (.inr hI) (fun _ => r_mv hA rfl) rfl fun a hA => ?_
            rcases Bool.eq_false_or_eq_true r5.2 with hc5 | hc5
            · have hc50 := hc5; have H := bT H hc5
              refine g_easy (i := 5) hA rfl (wanted_yes hA rfl rfl hc50) (by kernel_rfl) (.inr hI) (fun _ => r_mv hA rfl) rfl fun a hA => ?_
              refine g_take (i := 6) hA rfl (wanted_yes hA rfl rfl hc50) (by kernel_rfl) hI (fun w hI => r_rlen (xs := 0) Try.underlying80 hI (j := 0) rfl hA rfl) rfl fun a hA => ?_
              refine g_easy (i := 7) hA rfl (wanted_yes hA rfl rfl hc50) (by kernel_rfl) (.inr hI) (fun _ => r_mv hA rfl) rfl fun a hA => ?_
              refine g_easy (i := 8) hA rfl (wanted_yes hA rfl rfl hc50) (by kernel_rfl) (.inr hI) (fun _ => r_eql hA rfl rfl) rfl fun a hA => ?_
              refine g_easy (i := 9) hA rfl rfl (by kernel_rfl) (.inr hI) (fun _ => r_pick_t hA rfl hc50 rfl) rfl fun a hA => ?_
              refine g_easy (i := 10) hA rfl rfl (by kernel_rfl) (.inr hI) (fun _ => r_mv hA rfl) rfl fun a hA => ?_
              rcases Bool.eq_false_or_eq_true (decide ((r5.1.length : Int) = c1)) with hc6 | hc6
              · have hc60 := hc6; have hc6 := of_decide_eq_true hc6; have H := bT H hc6
                refine g_easy (i := 11) hA rfl (wanted_yes hA rfl rfl hc60) (by kernel_rfl) (.inr hI) (fun _ => r_mv hA rfl) rfl fun a hA => ?_
                refine g_easy (i := 12) hA rfl (wanted_yes hA rfl rfl hc60) (by kernel_rfl) (.inr hI) (fun _ => r_mv hA rfl) rfl fun a hA => ?_
                refine g_easy (i := 13) hA rfl (wanted_yes hA rfl rfl hc60) (by kernel_rfl) (.inr hI) (fun _ => r_mul hA rfl rfl) rfl fun a hA => ?_
                obtain ⟨v6, hS4, hr9⟩ := r_sl (P := Try.prog) (t := 80) (x := .tmp 63) (l := none) (h := (some (.tmp 65))) (i := 0) (j := IntKind.i64.wrap (2 * (sL .i64 1 (IntKind.u64.wrap r2)))) Try.underlying80 sz33 hx0 hA rfl rfl rfl (by have hq := hb4; omega) (by have hq := hb4; omega) (by have hq := hb4; omega)
                refine g_easy (i := 14) hA rfl (wanted_yes hA rfl rfl hc60) (by kernel_rfl) (.inr hI) (fun _ => hr9 _ _ _ _ _ _) rfl fun a hA => ?_
                refine g_take (i := 16) hA rfl (wanted_yes hA rfl rfl hc60) (by kernel_rfl) hI (fun w hI => r_ldA (j := 2) [] [av .u8 32 r3] [] Try.underlying33 rfl sz33 rfl hI rfl hA rfl rfl) rfl fun a hA => ?_
                refine g_take (i := 17) hA rfl (wanted_yes hA rfl rfl hc60) (by kernel_rfl) hI (fun w hI => r_ldA (j := 1) [] [av .u8 32 r4] [] Try.underlying33 rfl sz33 rfl hI rfl hA rfl rfl) rfl fun a hA => ?_
                refine g_fork (i := 15) (is := [18]) (by kernel_rfl) (List.forall_mem_cons.2 ⟨⟨_, rfl, ?_⟩, (List.forall_mem_cons.2 ⟨⟨_, rfl, ?_⟩, List.forall_mem_nil _⟩)⟩)
                · skip
                  refine o_yes hA rfl rfl hc60 <| ?_
                  obtain ⟨r6, hr10, H⟩ := bB H
                  refine o_callp (u := .agg [av .u8 32 r6].flatten.toArray) cf72 hA rfl hI (merkle_Root.c μ _ hI.agr ((x0.take (IntKind.i64.wrap (2 * (sL .i64 1 (IntKind.u64.wrap r2)))).toNat).drop (0 : Int).toNat) v6 hS4 r6 hr10) rfl fun a w hz9 hI hA => ?_
                  refine o_nil ?_
                  refine ⟨(.inr hI), ?_⟩
                  refine g_forced (i := 18) rfl (by kernel_rfl) ?_
                  refine o_yes hA rfl rfl hc60 <| ?_
                  have hE2 : Els (RA .u8 32) 32 ([r3, r4] : List (List Int)) ([av .u8 32 r3].flatten ++ ([av .u8 32 r4].flatten ++ ([]))) := (Els.cons (c := [av .u8 32 r3].flatten) ⟨rfl, hz3⟩ rfl (Els.cons (c := [av .u8 32 r4].flatten) ⟨rfl, hz4⟩ rfl Els.nil))
                  refine o_bsl ([av .u8 32 r3].flatten ++ ([av .u8 32 r4].flatten ++ ([]))) te33 zr33 Try.underlying80 hI hA rfl rfl rfl rfl (by kernel_rfl) rfl fun g3 a w hA hI => ?_
                  generalize hcs : ([av .u8 32 r3].flatten ++ ([av .u8 32 r4].flatten ++ ([])) : List Value) = cs2 at hE2 hI
                  clear hcs
                  refine o_nil ?_
                  refine ⟨(.inr (hI.sel [1, 2, 3] (by decide) rfl)), ?_⟩
                  refine g_forced (i := 19) rfl (by kernel_rfl) ?_
                  refine o_yes hA rfl rfl hc60 <| ?_
                  obtain ⟨r7, hr11, H⟩ := bB H
                  refine o_callp (u := .agg [av .u8 32 r7].flatten.toArray) cf72 hA rfl hI ((by obtain ⟨μ1, hle1, hsv1, hI⟩ := hI.freezeRow 0 rfl; have hS5 : Slc (RA .u8 32) 32 μ1 (.slice (some ⟨g3, 0, none⟩) 2 2) ([r3, r4] : List (List Int)) := ⟨_, hE2, hsv1⟩; exact low_plain hle1 (merkle_Root.c μ1 _ hI.agr ([r3, r4] : List (List Int)) (.slice (some ⟨g3, 0, none⟩) 2 2) hS5 r7 hr11))) rfl fun a w hz10 hI hA => ?_
                  refine o_nil ?_
                  refine ⟨(.inr (hI.sel [1, 2, 3] (by decide) rfl)), ?_⟩
                  refine g_forced (i := 20) rfl (by kernel_rfl) ?_
                  refine o_yes hA rfl rfl hc60 <| ?_
                  obtain ⟨r8, hr12, H⟩ := bB H
                  refine o_callp (u := .bool r8) cf28 hA rfl hI (sargassoref_SameHash.c μ _ hI.agr r6 hz9 r7 hz10 r8 hr12) rfl fun a w hz11 hI hA => ?_
                  refine o_nil ?_
                  refine ⟨(.inr (hI.sel [1, 2, 3] (by decide) rfl)), ?_⟩
                  refine g_easy (i := 21) hA rfl rfl (by kernel_rfl) (.inr (hI.sel [1, 2, 3] (by decide) rfl)) (fun _ => r_pick_t hA rfl hc60 rfl) rfl fun a hA => ?_
                  refine g_easy (i := 22) hA rfl rfl (by kernel_rfl) (.inr (hI.sel [1, 2, 3] (by decide) rfl)) (fun _ => r_mv hA rfl) rfl fun a hA => ?_
                  rcases Bool.eq_false_or_eq_true r8 with hc7 | hc7
                  · have hc70 := hc7; have H := bT H hc7
                    refine g_easy (i := 23) hA rfl (wanted_yes hA rfl rfl hc70) (by kernel_rfl) (.inr (hI.sel [1, 2, 3] (by decide) rfl)) (fun _ => r_mv hA rfl) rfl fun a hA => ?_
                    refine g_easy (i := 24) hA rfl (wanted_yes hA rfl rfl hc70) (by kernel_rfl) (.inr (hI.sel [1, 2, 3] (by decide) rfl)) (fun _ => r_mv hA rfl) rfl fun a hA => ?_
                    refine g_mono (I' := fun w => Iv w0 [] μ μ [row 33 32 (.slice (some ⟨g3, 0, none⟩) 2 2) ([r3, r4] : List (List Int)).length cs2, row 33 32 v5 r5.1.length cs1, cel g2 [av .u8 32 r4] 33, cel g1 [av .u8 32 r3] 33] w) (fun w h => (h.sel [1, 2, 3] (by decide) rfl)) _ _ _ _ ?_
                    refine g_take (i := 25) hA rfl (wanted_yes hA rfl rfl hc70) (by kernel_rfl) hI (fun w hI => r_rlen (xs := 0) Try.underlying80 hI (j := 1) rfl hA rfl) rfl fun a hA => ?_
                    refine g_easy (i := 26) hA rfl (wanted_yes hA rfl rfl hc70) (by kernel_rfl) (.inr hI) (fun _ => r_sub hA rfl rfl) rfl fun a hA => ?_
                    obtain ⟨hb5, H⟩ := bG H
                    refine g_take (i := 27) hA rfl (wanted_yes hA rfl rfl hc70) (by kernel_rfl) hI (fun w hI => r_rix (j := 1) Try.underlying80 sz33 hI rfl hA rfl rfl hb5.1 hb5.2) rfl fun a hA => ?_
                    obtain ⟨A1, _, B1, hc8, hl1, _, he1⟩ := Els.at_ hE1 (getD_some [] hb5.1 hb5.2)
                    obtain ⟨rfl, hw2⟩ := he1
                    refine g_take (i := 28) hA rfl (wanted_yes hA rfl rfl hc70) (by kernel_rfl) hI (fun w hI => r_rldP (j := 1) (q := (IntKind.i64.wrap ((r5.1.length : Int) - 1)).toNat * 32) (off := 0) A1 B1 [] [av .u8 32 (r5.1.getD (IntKind.i64.wrap ((r5.1.length : Int) - 1)).toNat [])] [] hc8 hl1 rfl Try.underlying33 rfl sz33 rfl hI rfl hA rfl) rfl fun a hA => ?_
                    refine g_take (i := 29) hA rfl (wanted_yes hA rfl rfl hc70) (by kernel_rfl) hI (fun w hI => r_ldA (j := 3) [] [av .u8 32 r3] [] Try.underlying33 rfl sz33 rfl hI rfl hA rfl rfl) rfl fun a hA => ?_
                    refine g_forced (i := 30) rfl (by kernel_rfl) ?_
                    refine o_yes hA rfl rfl hc70 <| ?_
                    obtain ⟨r9, hr13, H⟩ := bB H
                    refine o_callp (u := .bool r9) cf28 hA rfl hI (sargassoref_SameHash.c μ _ hI.agr (r5.1.getD (IntKind.i64.wrap ((r5.1.length : Int) - 1)).toNat []) hw2 r3 hz3 r9 hr13) rfl fun a w hz12 hI hA => ?_
                    refine o_nil ?_
                    refine ⟨(.inr hI), ?_⟩
                    refine g_easy (i := 31) hA rfl rfl (by kernel_rfl) (.inr hI) (fun _ => r_pick_t hA rfl hc70 rfl) rfl fun a hA => ?_
                    refine g_easy (i := 32) hA rfl rfl (by kernel_rfl) (.inr hI) (fun _ => r_as hA rfl) rfl fun a hA => ?_
                    refine g_nil (by kernel_rfl) ?_
                    cases Option.some.inj (bS H)
                    exact ⟨hA.sub ⟨rfl, rfl, rfl, rfl, rfl, rfl, rfl, rfl, rfl, rfl, rfl, trivial⟩, (hI.sel [1, 2, 3] (by decide) rfl)⟩
                  · have hc70 := hc7; have hc7 := ft hc7; have H := bF H hc7
                    refine g_skip (i := 23) hA rfl (wanted_no hA rfl rfl (by rw [hc70]; simp [vb])) (by kernel_rfl) (.inr (hI.sel [1, 2, 3] (by decide) rfl)) rfl fun a hA => ?_
                    refine g_skip (i := 24) hA rfl (wanted_no hA rfl rfl (by rw [hc70]; simp [vb])) (by kernel_rfl) (.inr (hI.sel [1, 2, 3] (by decide) rfl)) rfl fun a hA => ?_
                    refine g_skip (i := 25) hA rfl (wanted_no hA rfl rfl (by rw [hc70]; simp [vb])) (by kernel_rfl) (.inr (hI.sel [1, 2, 3] (by decide) rfl)) rfl fun a hA => ?_
                    refine g_skip (i := 26) hA rfl (wanted_no hA rfl rfl (by rw [hc70]; simp [vb])) (by kernel_rfl) (.inr (hI.sel [1, 2, 3] (by decide) rfl)) rfl fun a hA => ?_
                    refine g_skip (i := 27) hA rfl (wanted_no hA rfl rfl (by rw [hc70]; simp [vb])) (by kernel_rfl) (.inr (hI.sel [1, 2, 3] (by decide) rfl)) rfl fun a hA => ?_
                    refine g_skip (i := 28) hA rfl (wanted_no hA rfl rfl (by rw [hc70]; simp [vb])) (by kernel_rfl) (.inr (hI.sel [1, 2, 3] (by decide) rfl)) rfl fun a hA => ?_
                    refine g_skip (i := 29) hA rfl (wanted_no hA rfl rfl (by rw [hc70]; simp [vb])) (by kernel_rfl) (.inr (hI.sel [1, 2, 3] (by decide) rfl)) rfl fun a hA => ?_
                    refine g_skip (i := 30) hA rfl (wanted_no hA rfl rfl (by rw [hc70]; simp [vb])) (by kernel_rfl) (.inr (hI.sel [1, 2, 3] (by decide) rfl)) rfl fun a hA => ?_
                    refine g_easy (i := 31) hA rfl rfl (by kernel_rfl) (.inr (hI.sel [1, 2, 3] (by decide) rfl)) (fun _ => r_pick_f hA rfl hc70 rfl) rfl fun a hA => ?_
                    refine g_easy (i := 32) hA rfl rfl (by kernel_rfl) (.inr (hI.sel [1, 2, 3] (by decide) rfl)) (fun _ => r_as hA rfl) rfl fun a hA => ?_
                    refine g_nil (by kernel_rfl) ?_
                    cases Option.some.inj (bS H)
                    exact ⟨hA.sub ⟨rfl, rfl, rfl, rfl, rfl, rfl, rfl, rfl, rfl, rfl, rfl, trivial⟩, (hI.sel [1, 2, 3] (by decide) rfl)⟩
                · skip
                  refine o_yes hA rfl rfl hc60 <| ?_
                  have hE2 : Els (RA .u8 32) 32 ([r3, r4] : List (List Int)) ([av .u8 32 r3].flatten ++ ([av .u8 32 r4].flatten ++ ([]))) := (Els.cons (c := [av .u8 32 r3].flatten) ⟨rfl, hz3⟩ rfl (Els.cons (c := [av .u8 32 r4].flatten) ⟨rfl, hz4⟩ rfl Els.nil))
                  refine o_bsl ([av .u8 32 r3].flatten ++ ([av .u8 32 r4].flatten ++ ([]))) te33 zr33 Try.underlying80 hI hA rfl rfl rfl rfl (by kernel_rfl) rfl fun g3 a w hA hI => ?_
                  generalize hcs : ([av .u8 32 r3].flatten ++ ([av .u8 32 r4].flatten ++ ([])) : List Value) = cs2 at hE2 hI
                  clear hcs
                  refine o_nil ?_
                  refine ⟨(.inr (hI.sel [1, 2, 3] (by decide) rfl)), ?_⟩
                  refine g_forced (i := 15) rfl (by kernel_rfl) ?_
                  refine o_yes hA rfl rfl hc60 <| ?_
                  obtain ⟨r6, hr10, H⟩ := bB H
                  refine o_callp (u := .agg [av .u8 32 r6].flatten.toArray) cf72 hA rfl hI (merkle_Root.c μ _ hI.agr ((x0.take (IntKind.i64.wrap (2 * (sL .i64 1 (IntKind.u64.wrap r2)))).toNat).drop (0 : Int).toNat) v6 hS4 r6 hr10) rfl fun a w hz9 hI hA => ?_
                  refine o_nil ?_
                  refine ⟨(.inr (hI.sel [1, 2, 3] (by decide) rfl)), ?_⟩
                  refine g_forced (i := 19) rfl (by kernel_rfl) ?_
                  refine o_yes hA rfl rfl hc60 <| ?_
                  obtain ⟨r7, hr11, H⟩ := bB H
                  refine o_callp (u := .agg [av .u8 32 r7].flatten.toArray) cf72 hA rfl hI ((by obtain ⟨μ1, hle1, hsv1, hI⟩ := hI.freezeRow 0 rfl; have hS5 : Slc (RA .u8 32) 32 μ1 (.slice (some ⟨g3, 0, none⟩) 2 2) ([r3, r4] : List (List Int)) := ⟨_, hE2, hsv1⟩; exact low_plain hle1 (merkle_Root.c μ1 _ hI.agr ([r3, r4] : List (List Int)) (.slice (some ⟨g3, 0, none⟩) 2 2) hS5 r7 hr11))) rfl fun a w hz10 hI hA => ?_
                  refine o_nil ?_
                  refine ⟨(.inr (hI.sel [1, 2, 3] (by decide) rfl)), ?_⟩
                  refine g_forced (i := 20) rfl (by kernel_rfl) ?_
                  refine o_yes hA rfl rfl hc60 <| ?_
                  obtain ⟨r8, hr12, H⟩ := bB H
                  refine o_callp (u := .bool r8) cf28 hA rfl hI (sargassoref_SameHash.c μ _ hI.agr r6 hz9 r7 hz10 r8 hr12) rfl fun a w hz11 hI hA => ?_
                  refine o_nil ?_
                  refine ⟨(.inr (hI.sel [1, 2, 3] (by decide) rfl)), ?_⟩
                  refine g_easy (i := 21) hA rfl rfl (by kernel_rfl) (.inr (hI.sel [1, 2, 3] (by decide) rfl)) (fun _ => r_pick_t hA rfl hc60 rfl) rfl fun a hA => ?_
                  refine g_easy (i := 22) hA rfl rfl (by kernel_rfl) (.inr (hI.sel [1, 2, 3] (by decide) rfl)) (fun _ => r_mv hA rfl) rfl fun a hA => ?_
                  rcases Bool.eq_false_or_eq_true r8 with hc7 | hc7
                  · have hc70 := hc7; have H := bT H hc7
                    refine g_easy (i := 23) hA rfl (wanted_yes hA rfl rfl hc70) (by kernel_rfl) (.inr (hI.sel [1, 2, 3] (by decide) rfl)) (fun _ => r_mv hA rfl) rfl fun a hA => ?_
                    refine g_easy (i := 24) hA rfl (wanted_yes hA rfl rfl hc70) (by kernel_rfl) (.inr (hI.sel [1, 2, 3] (by decide) rfl)) (fun _ => r_mv hA rfl) rfl fun a hA => ?_
                    refine g_mono (I' := fun w => Iv w0 [] μ μ [row 33 32 (.slice (some ⟨g3, 0, none⟩) 2 2) ([r3, r4] : List (List Int)).length cs2, row 33 32 v5 r5.1.length cs1, cel g2 [av .u8 32 r4] 33, cel g1 [av .u8 32 r3] 33] w) (fun w h => (h.sel [1, 2, 3] (by decide) rfl)) _ _ _ _ ?_
                    refine g_take (i := 25) hA rfl (wanted_yes hA rfl rfl hc70) (by kernel_rfl) hI (fun w hI => r_rlen (xs := 0) Try.underlying80 hI (j := 1) rfl hA rfl) rfl fun a hA => ?_
                    refine g_easy (i := 26) hA rfl (wanted_yes hA rfl rfl hc70) (by kernel_rfl) (.inr hI) (fun _ => r_sub hA rfl rfl) rfl fun a hA => ?_
                    obtain ⟨hb5, H⟩ := bG H
                    refine g_take (i := 27) hA rfl (wanted_yes hA rfl rfl hc70) (by kernel_rfl) hI (fun w hI => r_rix (j := 1) Try.underlying80 sz33 hI rfl hA rfl rfl hb5.1 hb5.2) rfl fun a hA => ?_
                    obtain ⟨A1, _, B1, hc8, hl1, _, he1⟩ := Els.at_ hE1 (getD_some [] hb5.1 hb5.2)
                    obtain ⟨rfl, hw2⟩ := he1
                    refine g_take (i := 28) hA rfl (wanted_yes hA rfl rfl hc70) (by kernel_rfl) hI (fun w hI => r_rldP (j := 1) (q := (IntKind.i64.wrap ((r5.1.length : Int) - 1)).toNat * 32) (off := 0) A1 B1 [] [av .u8 32 (r5.1.getD (IntKind.i64.wrap ((r5.1.length : Int) - 1)).toNat [])] [] hc8 hl1 rfl Try.underlying33 rfl sz33 rfl hI rfl hA rfl) rfl fun a hA => ?_
                    refine g_take (i := 29) hA rfl (wanted_yes hA rfl rfl hc70) (by kernel_rfl) hI (fun w hI => r_ldA (j := 3) [] [av .u8 32 r3] [] Try.underlying33 rfl sz33 rfl hI rfl hA rfl rfl) rfl fun a hA => ?_
                    refine g_forced (i := 30) rfl (by kernel_rfl) ?_
                    refine o_yes hA rfl rfl hc70 <| ?_
                    obtain ⟨r9, hr13, H⟩ := bB H
                    refine o_callp (u := .bool r9) cf28 hA rfl hI (sargassoref_SameHash.c μ _ hI.agr (r5.1.getD (IntKind.i64.wrap ((r5.1.length : Int) - 1)).toNat []) hw2 r3 hz3 r9 hr13) rfl fun a w hz12 hI hA => ?_
                    refine o_nil ?_
                    refine ⟨(.inr hI), ?_⟩
                    refine g_easy (i := 31) hA rfl rfl (by kernel_rfl) (.inr hI) (fun _ => r_pick_t hA rfl hc70 rfl) rfl fun a hA => ?_
                    refine g_easy (i := 32) hA rfl rfl (by kernel_rfl) (.inr hI) (fun _ => r_as hA rfl) rfl fun a hA => ?_
                    refine g_nil (by kernel_rfl) ?_
                    cases Option.some.inj (bS H)
                    exact ⟨hA.sub ⟨rfl, rfl, rfl, rfl, rfl, rfl, rfl, rfl, rfl, rfl, rfl, trivial⟩, (hI.sel [1, 2, 3] (by decide) rfl)⟩
                  · have hc70 := hc7; have hc7 := ft hc7; have H := bF H hc7
                    refine g_skip (i := 23) hA rfl (wanted_no hA rfl rfl (by rw [hc70]; simp [vb])) (by kernel_rfl) (.inr (hI.sel [1, 2, 3] (by decide) rfl)) rfl fun a hA => ?_
                    refine g_skip (i := 24) hA rfl (wanted_no hA rfl rfl (by rw [hc70]; simp [vb])) (by kernel_rfl) (.inr (hI.sel [1, 2, 3] (by decide) rfl)) rfl fun a hA => ?_
                    refine g_skip (i := 25) hA rfl (wanted_no hA rfl rfl (by rw [hc70]; simp [vb])) (by kernel_rfl) (.inr (hI.sel [1, 2, 3] (by decide) rfl)) rfl fun a hA => ?_
                    refine g_skip (i := 26) hA rfl (wanted_no hA rfl rfl (by rw [hc70]; simp [vb])) (by kernel_rfl) (.inr (hI.sel [1, 2, 3] (by decide) rfl)) rfl fun a hA => ?_
                    refine g_skip (i := 27) hA rfl (wanted_no hA rfl rfl (by rw [hc70]; simp [vb])) (by kernel_rfl) (.inr (hI.sel [1, 2, 3] (by decide) rfl)) rfl fun a hA => ?_
                    refine g_skip (i := 28) hA rfl (wanted_no hA rfl rfl (by rw [hc70]; simp [vb])) (by kernel_rfl) (.inr (hI.sel [1, 2, 3] (by decide) rfl)) rfl fun a hA => ?_
                    refine g_skip (i := 29) hA rfl (wanted_no hA rfl rfl (by rw [hc70]; simp [vb])) (by kernel_rfl) (.inr (hI.sel [1, 2, 3] (by decide) rfl)) rfl fun a hA => ?_
                    refine g_skip (i := 30) hA rfl (wanted_no hA rfl rfl (by rw [hc70]; simp [vb])) (by kernel_rfl) (.inr (hI.sel [1, 2, 3] (by decide) rfl)) rfl fun a hA => ?_
                    refine g_easy (i := 31) hA rfl rfl (by kernel_rfl) (.inr (hI.sel [1, 2, 3] (by decide) rfl)) (fun _ => r_pick_f hA rfl hc70 rfl) rfl fun a hA => ?_
                    refine g_easy (i := 32) hA rfl rfl (by kernel_rfl) (.inr (hI.sel [1, 2, 3] (by decide) rfl)) (fun _ => r_as hA rfl) rfl fun a hA => ?_
                    refine g_nil (by kernel_rfl) ?_
                    cases Option.some.inj (bS H)
                    exact ⟨hA.sub ⟨rfl, rfl, rfl, rfl, rfl, rfl, rfl, rfl, rfl, rfl, rfl, trivial⟩, (hI.sel [1, 2, 3] (by decide) rfl)⟩
              · have hc60 := hc6; have hc6 := of_decide_eq_false hc6; have H := bF H hc6
                refine g_skip (i := 11) hA rfl (wanted_no hA rfl rfl (by rw [hc60]; simp [vb])) (by kernel_rfl) (.inr hI) rfl fun a hA => ?_
                refine g_skip (i := 12) hA rfl (wanted_no hA rfl rfl (by rw [hc60]; simp [vb])) (by kernel_rfl) (.inr hI) rfl fun a hA => ?_
                refine g_skip (i := 13) hA rfl (wanted_no hA rfl rfl (by rw [hc60]; simp [vb])) (by kernel_rfl) (.inr hI) rfl fun a hA => ?_
                refine g_skip (i := 14) hA rfl (wanted_no hA rfl rfl (by rw [hc60]; simp [vb])) (by kernel_rfl) (.inr hI) rfl fun a hA => ?_
                refine g_skip (i := 16) hA rfl (wanted_no hA rfl rfl (by rw [hc60]; simp [vb])) (by kernel_rfl) (.inr hI) rfl fun a hA => ?_
                refine g_skip (i := 17) hA rfl (wanted_no hA rfl rfl (by rw [hc60]; simp [vb])) (by kernel_rfl) (.inr hI) rfl fun a hA => ?_
                refine g_skip (i := 15) hA rfl (wanted_no hA rfl rfl (by rw [hc60]; simp [vb])) (by kernel_rfl) (.inr hI) rfl fun a hA => ?_
                refine g_skip (i := 18) hA rfl (wanted_no hA rfl rfl (by rw [hc60]; simp [vb])) (by kernel_rfl) (.inr hI) rfl fun a hA => ?_
                refine g_skip (i := 19) hA rfl (wanted_no hA rfl rfl (by rw [hc60]; simp [vb])) (by kernel_rfl) (.inr hI) rfl fun a hA => ?_
                refine g_skip (i := 20) hA rfl (wanted_no hA rfl rfl (by rw [hc60]; simp [vb])) (by kernel_rfl) (.inr hI) rfl fun a hA => ?_
                refine g_easy (i := 21) hA rfl rfl (by kernel_rfl) (.inr hI) (fun _ => r_pick_f hA rfl hc60 rfl) rfl fun a hA => ?_
                refine g_easy (i := 22) hA rfl rfl (by kernel_rfl) (.inr hI) (fun _ => r_mv hA rfl) rfl fun a hA => ?_
                refine g_skip (i := 23) hA rfl (wanted_no hA rfl rfl (by simp [vb])) (by kernel_rfl) (.inr hI) rfl fun a hA => ?_
                refine g_skip (i := 24) hA rfl (wanted_no hA rfl rfl (by simp [vb])) (by kernel_rfl) (.inr hI) rfl fun a hA => ?_
                refine g_skip (i := 25) hA rfl (wanted_no hA rfl rfl (by simp [vb])) (by kernel_rfl) (.inr hI) rfl fun a hA => ?_
                refine g_skip (i := 26) hA rfl (wanted_no hA rfl rfl (by simp [vb])) (by kernel_rfl) (.inr hI) rfl fun a hA => ?_
                refine g_skip (i := 27) hA rfl (wanted_no hA rfl rfl (by simp [vb])) (by kernel_rfl) (.inr hI) rfl fun a hA => ?_
                refine g_skip (i := 28) hA rfl (wanted_no hA rfl rfl (by simp [vb])) (by kernel_rfl) (.inr hI) rfl fun a hA => ?_
                refine g_skip (i := 29) hA rfl (wanted_no hA rfl rfl (by simp [vb])) (by kernel_rfl) (.inr hI) rfl fun a hA => ?_
                refine g_skip (i := 30) hA rfl (wanted_no hA rfl rfl (by simp [vb])) (by kernel_rfl) (.inr hI) rfl fun a hA => ?_
                refine g_easy (i := 31) hA rfl rfl (by kernel_rfl) (.inr hI) (fun _ => r_pick_f hA rfl rfl rfl) rfl fun a hA => ?_
                refine g_easy (i := 32) hA rfl rfl (by kernel_rfl) (.inr hI) (fun _ => r_as hA rfl) rfl fun a hA => ?_
                refine g_nil (by kernel_rfl) ?_
                cases Option.some.inj (bS H)
                exact ⟨hA.sub ⟨rfl, rfl, rfl, rfl, rfl, rfl, rfl, rfl, rfl, rfl, rfl, trivial⟩, hI⟩
            · have hc50 := hc5; have hc5 := ft hc5; have H := bF H hc5
              refine g_skip (i := 5) hA rfl (wanted_no hA rfl rfl (by rw [hc50]; simp [vb])) (by kernel_rfl) (.inr hI) rfl fun a hA => ?_
              refine g_skip (i := 6) hA rfl (wanted_no hA rfl rfl (by rw [hc50]; simp [vb])) (by kernel_rfl) (.inr hI) rfl fun a hA => ?_
              refine g_skip (i := 7) hA rfl (wanted_no hA rfl rfl (by rw [hc50]; simp [vb])) (by kernel_rfl) (.inr hI) rfl fun a hA => ?_
              refine g_skip (i := 8) hA rfl (wanted_no hA rfl rfl (by rw [hc50]; simp [vb])) (by kernel_rfl) (.inr hI) rfl fun a hA => ?_
              refine g_easy (i := 9) hA rfl rfl (by kernel_rfl) (.inr hI) (fun _ => r_pick_f hA rfl hc50 rfl) rfl fun a hA => ?_
              refine g_easy (i := 10) hA rfl rfl (by kernel_rfl) (.inr hI) (fun _ => r_mv hA rfl) rfl fun a hA => ?_
              refine g_skip (i := 11) hA rfl (wanted_no hA rfl rfl (by simp [vb])) (by kernel_rfl) (.inr hI) rfl fun a hA => ?_
              refine g_skip (i := 12) hA rfl (wanted_no hA rfl rfl (by simp [vb])) (by kernel_rfl) (.inr hI) rfl fun a hA => ?_
              refine g_skip (i := 13) hA rfl (wanted_no hA rfl rfl (by simp [vb])) (by kernel_rfl) (.inr hI) rfl fun a hA => ?_
              refine g_skip (i := 14) hA rfl (wanted_no hA rfl rfl (by simp [vb])) (by kernel_rfl) (.inr hI) rfl fun a hA => ?_
              refine g_skip (i := 16) hA rfl (wanted_no hA rfl rfl (by simp [vb])) (by kernel_rfl) (.inr hI) rfl fun a hA => ?_
              refine g_skip (i := 17) hA rfl (wanted_no hA rfl rfl (by simp [vb])) (by kernel_rfl) (.inr hI) rfl fun a hA => ?_
              refine g_skip (i := 15) hA rfl (wanted_no hA rfl rfl (by simp [vb])) (by kernel_rfl) (.inr hI) rfl fun a hA => ?_
              refine g_skip (i := 18) hA rfl (wanted_no hA rfl rfl (by simp [vb])) (by kernel_rfl) (.inr hI) rfl fun a hA => ?_
              refine g_skip (i := 19) hA rfl (wanted_no hA rfl rfl (by simp [vb])) (by kernel_rfl) (.inr hI) rfl fun a hA => ?_
              refine g_skip (i := 20) hA rfl (wanted_no hA rfl rfl (by simp [vb])) (by kernel_rfl) (.inr hI) rfl fun a hA => ?_
              refine g_easy (i := 21) hA rfl rfl (by kernel_rfl) (.inr hI) (fun _ => r_pick_f hA rfl rfl rfl) rfl fun a hA => ?_
              refine g_easy (i := 22) hA rfl rfl (by kernel_rfl) (.inr hI) (fun _ => r_mv hA rfl) rfl fun a hA => ?_
              refine g_skip (i := 23) hA rfl (wanted_no hA rfl rfl (by simp [vb])) (by kernel_rfl) (.inr hI) rfl fun a hA => ?_
              refine g_skip (i := 24) hA rfl (wanted_no hA rfl rfl (by simp [vb])) (by kernel_rfl) (.inr hI) rfl fun a hA => ?_
              refine g_skip (i := 25) hA rfl (wanted_no hA rfl rfl (by simp [vb])) (by kernel_rfl) (.inr hI) rfl fun a hA => ?_
              refine g_skip (i := 26) hA rfl (wanted_no hA rfl rfl (by simp [vb])) (by kernel_rfl) (.inr hI) rfl fun a hA => ?_
              refine g_skip (i := 27) hA rfl (wanted_no hA rfl rfl (by simp [vb])) (by kernel_rfl) (.inr hI) rfl fun a hA => ?_
              refine g_skip (i := 28) hA rfl (wanted_no hA rfl rfl (by simp [vb])) (by kernel_rfl) (.inr hI) rfl fun a hA => ?_
              refine g_skip (i := 29) hA rfl (wanted_no hA rfl rfl (by simp [vb])) (by kernel_rfl) (.inr hI) rfl fun a hA => ?_
              refine g_skip (i := 30) hA rfl (wanted_no hA rfl rfl (by simp [vb])) (by kernel_rfl) (.inr hI) rfl fun a hA => ?_
              refine g_easy (i := 31) hA rfl rfl (by kernel_rfl) (.inr hI) (fun _ => r_pick_f hA rfl rfl rfl) rfl fun a hA => ?_
              refine g_easy (i := 32) hA rfl rfl (by kernel_rfl) (.inr hI) (fun _ => r_as hA rfl) rfl fun a hA => ?_
              refine g_nil (by kernel_rfl) ?_
              cases Option.some.inj (bS H)
              exact ⟨hA.sub ⟨rfl, rfl, rfl, rfl, rfl, rfl, rfl, rfl, rfl, rfl, rfl, trivial⟩, hI⟩
          · have hc40 := hc4; have hc4 := ft hc4; have H := bF H hc4
            refine g_skip (i := 2) hA rfl (wanted_no hA rfl rfl (by rw [hc40]; simp [vb])) (by kernel_rfl) (.inr hI) rfl fun a hA => ?_
            refine g_easy (i := 3) hA rfl rfl (by kernel_rfl) (.inr hI) (fun _ => r_pick_f hA rfl hc40 rfl) rfl fun a hA => ?_
            refine g_easy (i := 4) hA rfl rfl (by kernel_rfl) (.inr hI) (fun _ => r_mv hA rfl) rfl fun a hA => ?_
            refine g_skip (i := 5) hA rfl (wanted_no hA rfl rfl (by simp [vb])) (by kernel_rfl) (.inr hI) rfl fun a hA => ?_
            refine g_skip (i := 6) hA rfl (wanted_no hA rfl rfl (by simp [vb])) (by kernel_rfl) (.inr hI) rfl fun a hA => ?_
            refine g_skip (i := 7) hA rfl (wanted_no hA rfl rfl (by simp [vb])) (by kernel_rfl) (.inr hI) rfl fun a hA => ?_
            refine g_skip (i := 8) hA rfl (wanted_no hA rfl rfl (by simp [vb])) (by kernel_rfl) (.inr hI) rfl fun a hA => ?_
            refine g_easy (i := 9) hA rfl rfl (by kernel_rfl) (.inr hI) (fun _ => r_pick_f hA rfl rfl rfl) rfl fun a hA => ?_
            refine g_easy (i := 10) hA rfl rfl (by kernel_rfl) (.inr hI) (fun _ => r_mv hA rfl) rfl fun a hA => ?_
            refine g_skip (i := 11) hA rfl (wanted_no hA rfl rfl (by simp [vb])) (by kernel_rfl) (.inr hI) rfl fun a hA => ?_
            refine g_skip (i := 12) hA rfl (wanted_no hA rfl rfl (by simp [vb])) (by kernel_rfl) (.inr hI) rfl fun a hA => ?_
            refine g_skip (i := 13) hA rfl (wanted_no hA rfl rfl (by simp [vb])) (by kernel_rfl) (.inr hI) rfl fun a hA => ?_
            refine g_skip (i := 14) hA rfl (wanted_no hA rfl rfl (by simp [vb])) (by kernel_rfl) (.inr hI) rfl fun a hA => ?_
            refine g_skip (i := 16) hA rfl (wanted_no hA rfl rfl (by simp [vb])) (by kernel_rfl) (.inr hI) rfl fun a hA => ?_
            refine g_skip (i := 17) hA rfl (wanted_no hA rfl rfl (by simp [vb])) (by kernel_rfl) (.inr hI) rfl fun a hA => ?_
            refine g_skip (i := 15) hA rfl (wanted_no hA rfl rfl (by simp [vb])) (by kernel_rfl) (.inr hI) rfl fun a hA => ?_
            refine g_skip (i := 18) hA rfl (wanted_no hA rfl rfl (by simp [vb])) (by kernel_rfl) (.inr hI) rfl fun a hA => ?_
            refine g_skip (i := 19) hA rfl (wanted_no hA rfl rfl (by simp [vb])) (by kernel_rfl) (.inr hI) rfl fun a hA => ?_
            refine g_skip (i := 20) hA rfl (wanted_no hA rfl rfl (by simp [vb])) (by kernel_rfl) (.inr hI) rfl fun a hA => ?_
            refine g_easy (i := 21) hA rfl rfl (by kernel_rfl) (.inr hI) (fun _ => r_pick_f hA rfl rfl rfl) rfl fun a hA => ?_
            refine g_easy (i := 22) hA rfl rfl (by kernel_rfl) (.inr hI) (fun _ => r_mv hA rfl) rfl fun a hA => ?_
            refine g_skip (i := 23) hA rfl (wanted_no hA rfl rfl (by simp [vb])) (by kernel_rfl) (.inr hI) rfl fun a hA => ?_
            refine g_skip (i := 24) hA rfl (wanted_no hA rfl rfl (by simp [vb])) (by kernel_rfl) (.inr hI) rfl fun a hA => ?_
            refine g_skip (i := 25) hA rfl (wanted_no hA rfl rfl (by simp [vb])) (by kernel_rfl) (.inr hI) rfl fun a hA => ?_
            refine g_skip (i := 26) hA rfl (wanted_no hA rfl rfl (by simp [vb])) (by kernel_rfl) (.inr hI) rfl fun a hA => ?_
            refine g_skip (i := 27) hA rfl (wanted_no hA rfl rfl (by simp [vb])) (by kernel_rfl) (.inr hI) rfl fun a hA => ?_
            refine g_skip (i := 28) hA rfl (wanted_no hA rfl rfl (by simp [vb])) (by kernel_rfl) (.inr hI) rfl fun a hA => ?_
            refine g_skip (i := 29) hA rfl (wanted_no hA rfl rfl (by simp [vb])) (by kernel_rfl) (.inr hI) rfl fun a hA => ?_
            refine g_skip (i := 30) hA rfl (wanted_no hA rfl rfl (by simp [vb])) (by kernel_rfl) (.inr hI) rfl fun a hA => ?_
            refine g_easy (i := 31) hA rfl rfl (by kernel_rfl) (.inr hI) (fun _ => r_pick_f hA rfl rfl rfl) rfl fun a hA => ?_
            refine g_easy (i := 32) hA rfl rfl (by kernel_rfl) (.inr hI) (fun _ => r_as hA rfl) rfl fun a hA => ?_
            refine g_nil (by kernel_rfl) ?_
            cases Option.some.inj (bS H)
            exact ⟨hA.sub ⟨rfl, rfl, rfl, rfl, rfl, rfl, rfl, rfl, rfl, rfl, rfl, trivial⟩, hI⟩
        · rintro a w ⟨hA, hI⟩
          have H := Hk3
          refine w_ret ?_
          obtain rfl := Option.some.inj (bS H)
          exact ret1 hA Try.results17 rfl ⟨_, rfl, rfl, trivial, hI.forget0⟩
end Go.Proofs.Ytnbnnphlffhgiaa.T
