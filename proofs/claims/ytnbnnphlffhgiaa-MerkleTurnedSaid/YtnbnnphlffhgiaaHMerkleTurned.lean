/- A helper of this seat's claims: printed by gen.py. It proves no statement by itself. -/
import Derived.Test.YtnbnnphlffhgiaaCH
import Derived.Test.YtnbnnphlffhgiaaGMerkleTurned
namespace Go.Proofs.Ytnbnnphlffhgiaa.T
open Go Go.Proofs Go.Proofs.Ytnbnnphlffhgiaa.K
set_option linter.unusedVariables false
set_option linter.unusedSimpArgs false
/-! sargassolaw6.MerkleTurned: function 20 -/
set_option maxRecDepth 20000 in
theorem sargassolaw6_MerkleTurned.c (μ : Store) (w0 : World) (hμ : Agr μ w0) (x0 : List (List Int)) (u0 : Value) (hx0 : Slc (RA .u8 32) 32 μ u0 x0) (x1 : Int) (hx1 : InR .i64 x1) (x2 : Int) (hx2 : InR .i64 x2) (r : Bool) (H : sargassolaw6_MerkleTurned.f x0 x1 x2 = some r) :
    Calls Try.prog 20 [u0, .int .i64 x1, .int .i64 x2].toArray w0 (fun e w' => ∃ v, e = .returned v ∧ v = .bool r ∧ True ∧ Iv w0 [] μ μ [] w') := by
  refine enter Try.func20 rfl Try.ntmps20 rfl fun a hA => ?_
  have hI := Iv.start hμ
  have H := bI H
  refine w_seq fun _ hN1 => ?_
  refine w_reg ?_
  refine stp hA (r_as hA rfl) rfl fun a hA => ?_
  refine o_nil ?_
  refine hN1 _ _ ?_
  refine w_seq fun _ hN2 => ?_
  refine w_reg ?_
  obtain ⟨r1, hr1, H⟩ := bB H
  refine o_callp (u := .bool r1) cf71 hA rfl hI (sargassolaw6_first.c μ _ hI.agr  r1 hr1) rfl fun a w hz1 hI hA => 
    stp hA (r_as hA rfl) rfl fun a hA => ?_
  refine o_nil ?_
  refine hN2 _ _ ?_
  refine w_seq fun _ hN3 => ?_
  refine w_seq fun _ hN4 => ?_
  refine w_reg ?_
  refine stp hA (r_mv hA rfl) rfl fun a hA => 
    stp hA (r_not hA rfl) rfl fun a hA => ?_
  refine o_nil ?_
  refine hN4 _ _ ?_
  refine w_cond hA rfl (fun hc1 => ?_) (fun hc1 => ?_)
  · have hc10 := hc1; have hc1 := nT hc1; have hc1 := ft hc1; have H := bF H hc1
    refine w_seq fun _ hN5 => ?_
    refine w_reg ?_
    refine stp hA (r_as hA rfl) rfl fun a hA => ?_
    refine o_nil ?_
    refine hN5 _ _ ?_
    refine w_ret ?_
    obtain rfl := Option.some.inj (bS H)
    exact ret1 hA Try.results20 rfl ⟨_, rfl, rfl, trivial, hI.forget0⟩
  · have hc10 := hc1; have hc1 := nF hc1; have H := bT H hc1
    refine w_skip ?_
    refine hN3 _ _ ?_
    refine w_seq fun _ hN6 => ?_
    obtain ⟨c1, hz2, Hk1⟩ := bB H
    refine w_cut (fun a w => Fr a 124 [(0, u0), (1, .int .i64 x1), (2, .int .i64 x2), (6, .bool false), (7, .bool r1), (21, .bool (!r1)), (29, .bool c1)] ∧ Iv w0 [] μ μ [] w) ?_ ?_
    · have H := bI hz2
      refine w_reg ?_
      refine stp hA (r_mv hA rfl) rfl fun a hA => ?_
      obtain ⟨_, hsl1⟩ := Slc.sv hx0
      refine stp hA (r_slen Try.underlying80 hsl1 hA rfl) rfl fun a hA => 
        stp hA (r_eql hA rfl rfl) rfl fun a hA => 
        stp hA (r_mv hA rfl) rfl fun a hA => ?_
      rcases Bool.eq_false_or_eq_true (decide ((x0.length : Int) = 0)) with hc2 | hc2
      · have hc20 := hc2; have hc2 := of_decide_eq_true hc2; have H := bT H hc2
        refine o_no hA rfl rfl (by rw [hc20]; simp [vb]) rfl fun a hA => 
          o_no hA rfl rfl (by rw [hc20]; simp [vb]) rfl fun a hA => 
          o_no hA rfl rfl (by rw [hc20]; simp [vb]) rfl fun a hA => 
          stp hA (r_pick_t hA rfl hc20 rfl) rfl fun a hA => ?_
        refine o_nil ?_
        cases Option.some.inj (bS H)
        exact ⟨hA.sub ⟨rfl, rfl, rfl, rfl, rfl, rfl, rfl, trivial⟩, hI⟩
      · have hc20 := hc2; have hc2 := of_decide_eq_false hc2; have H := bF H hc2
        refine o_yes hA rfl rfl hc20 <| 
          stp hA (r_mv hA rfl) rfl fun a hA => 
          o_yes hA rfl rfl hc20 <| ?_
        obtain ⟨_, hsl2⟩ := Slc.sv hx0
        refine stp hA (r_slen Try.underlying80 hsl2 hA rfl) rfl fun a hA => 
          o_yes hA rfl rfl hc20 <| 
          stp hA (r_gtr hA rfl rfl) rfl fun a hA => 
          stp hA (r_pick_f hA rfl hc20 rfl) rfl fun a hA => ?_
        refine o_nil ?_
        cases Option.some.inj (bS H)
        exact ⟨hA.sub ⟨rfl, rfl, rfl, rfl, rfl, rfl, rfl, trivial⟩, hI⟩
    · rintro a w ⟨hA, hI⟩
      have H := Hk1
      refine w_cond hA rfl (fun hc3 => ?_) (fun hc3 => ?_)
      · have hc30 := hc3; have H := bT H hc3
        refine w_seq fun _ hN7 => ?_
        refine w_reg ?_
        refine stp hA (r_mv hA rfl) rfl fun a hA => 
          stp hA (r_as hA rfl) rfl fun a hA => ?_
        refine o_nil ?_
        refine hN7 _ _ ?_
        refine w_ret ?_
        obtain rfl := Option.some.inj (bS H)
        exact ret1 hA Try.results20 rfl ⟨_, rfl, rfl, trivial, hI.forget0⟩
      · have hc30 := hc3; have hc3 := ft hc3; have H := bF H hc3
        refine w_skip ?_
        refine hN6 _ _ ?_
        refine w_seq fun _ hN8 => ?_
        refine w_reg ?_
        refine stp hA (r_mv hA rfl) rfl fun a hA => 
          stp hA (r_mv hA rfl) rfl fun a hA => ?_
        obtain ⟨_, hsl3⟩ := Slc.sv hx0
        refine stp hA (r_slen Try.underlying80 hsl3 hA rfl) rfl fun a hA => ?_
        obtain ⟨r2, hr2, H⟩ := bB H
        refine o_callp (u := .int .i64 r2) cf26 hA rfl hI (sargassoworld_Number.c μ _ hI.agr x1 hx1 (x0.length : Int) (len_in hx0) r2 hr2) rfl fun a w hz3 hI hA => 
          stp hA (r_as hA rfl) rfl fun a hA => ?_
        refine o_nil ?_
        refine hN8 _ _ ?_
        refine w_seq fun _ hN9 => ?_
        refine w_reg ?_
        refine stp hA (r_mv hA rfl) rfl fun a hA => ?_
        obtain ⟨r3, hr3, H⟩ := bB H
        refine o_call _ cf73 hA rfl (sargassoref_Hashes.c μ _ hI.agr x0 u0 hx0 r3 hr3) rfl fun v1 a w hz4 hA => ?_
        obtain ⟨_, cs1, rfl, hE1, hi1⟩ := hz4
        have hI := hI.call hi1
        refine stp hA (r_as hA rfl) rfl fun a hA => ?_
        refine o_nil ?_
        refine hN9 _ _ ?_
        refine w_seq fun _ hN10 => ?_
        refine w_reg ?_
        refine stp hA (r_mv hA rfl) rfl fun a hA => ?_
        obtain ⟨r4, hr4, H⟩ := bB H
        refine o_callp (u := .int .i64 r4) cf26 hA rfl hI (sargassoworld_Number.c μ _ hI.agr x2 hx2 256 (in_lit .i64 256 rfl) r4 hr4) rfl fun a w hz5 hI hA => 
          stp hA (r_as hA rfl) rfl fun a hA => ?_
        refine o_nil ?_
        refine hN10 _ _ ?_
        refine w_seq fun _ hN11 => ?_
        refine w_any [18] mo hI fun w hI => ?_
        refine g_easy (i := 0) hA rfl rfl (by kernel_rfl) (.inr hI) (fun _ => r_mv hA rfl) rfl fun a hA => ?_
        refine g_easy (i := 1) hA rfl rfl (by kernel_rfl) (.inr hI) (fun _ => r_mv hA rfl) rfl fun a hA => ?_
        refine g_easy (i := 2) hA rfl rfl (by kernel_rfl) (.inr hI) (fun _ => r_mv hA rfl) rfl fun a hA => ?_
        refine g_easy (i := 3) hA rfl rfl (by kernel_rfl) (.inr hI) (fun _ => r_quo hA rfl rfl (by decide)) rfl fun a hA => ?_
        refine g_easy (i := 4) hA rfl rfl (by kernel_rfl) (.inr hI) (fun _ => r_mv hA rfl) rfl fun a hA => ?_
        refine g_easy (i := 5) hA rfl rfl (by kernel_rfl) (.inr hI) (fun _ => r_mv hA rfl) rfl fun a hA => ?_
        refine g_easy (i := 6) hA rfl rfl (by kernel_rfl) (.inr hI) (fun _ => r_mv hA rfl) rfl fun a hA => ?_
        refine g_easy (i := 7) hA rfl rfl (by kernel_rfl) (.inr hI) (fun _ => r_quo hA rfl rfl (by decide)) rfl fun a hA => ?_
        obtain ⟨hb1, H⟩ := bG H
        refine g_take (i := 8) hA rfl rfl (by kernel_rfl) hI (fun w hI => r_rix (j := 0) Try.underlying80 sz33 hI rfl hA rfl rfl hb1.1 hb1.2) rfl fun a hA => ?_
        obtain ⟨hb2, H⟩ := bG H
        refine g_easy (i := 9) hA rfl rfl (by kernel_rfl) (.inr hI) (fun _ => r_ixar1 Try.underlying33 sz5 hA rfl rfl hb2.1 hb2.2) rfl fun a hA => ?_
        obtain ⟨A1, _, B1, hc4, hl1, _, he1⟩ := Els.at_ hE1 (getD_some [] hb1.1 hb1.2)
        obtain ⟨rfl, hw1⟩ := he1
        refine g_take (i := 10) hA rfl rfl (by kernel_rfl) hI (fun w hI => r_rldE (j := 0) (q := r2.toNat * 32) (off := 0) A1 B1 [] [] hc4 hl1 rfl Try.underlying5 rfl (by omega) hI rfl hA rfl) rfl fun a hA => ?_
        refine g_easy (i := 11) hA rfl rfl (by kernel_rfl) (.inr hI) (fun _ => r_mv hA rfl) rfl fun a hA => ?_
        refine g_easy (i := 12) hA rfl rfl (by kernel_rfl) (.inr hI) (fun _ => r_rem hA rfl rfl (by decide)) rfl fun a hA => ?_
        refine g_easy (i := 13) hA rfl rfl (by kernel_rfl) (.inr hI) (fun _ => r_conv Try.underlying3 Try.underlying40 hA rfl) rfl fun a hA => ?_
        obtain ⟨hb3, H⟩ := bG H
        refine g_easy (i := 14) hA rfl rfl (by kernel_rfl) (.inr hI) (fun _ => r_shl hA rfl rfl hb3) rfl fun a hA => ?_
        refine g_easy (i := 15) hA rfl rfl (by kernel_rfl) (.inr hI) (fun _ => r_xor hA rfl rfl) rfl fun a hA => ?_
        refine g_take (i := 16) hA rfl rfl (by kernel_rfl) hI (fun w hI => r_rix (j := 0) Try.underlying80 sz33 hI rfl hA rfl rfl hb1.1 hb1.2) rfl fun a hA => ?_
        refine g_easy (i := 17) hA rfl rfl (by kernel_rfl) (.inr hI) (fun _ => r_ixar1 Try.underlying33 sz5 hA rfl rfl hb2.1 hb2.2) rfl fun a hA => ?_
        refine g_forced (i := 18) rfl (by kernel_rfl) ?_
        obtain ⟨A2, _, B2, hc5, hl2, hl3, he2⟩ := Els.at_ hE1 (getD_some [] hb1.1 hb1.2)
        obtain ⟨rfl, hw2⟩ := he2
        have hE2 := Els.setAt (y := ((r3.getD r2.toNat []).set (IntKind.i64.wrap (Int.tdiv r4 8)).toNat (bXor .u8 ((r3.getD r2.toNat []).getD (IntKind.i64.wrap (Int.tdiv r4 8)).toNat 0) (sL .u8 1 (IntKind.u64.wrap (Int.tmod r4 8)))))) (d := [av .u8 32 ((r3.getD r2.toNat []).set (IntKind.i64.wrap (Int.tdiv r4 8)).toNat (bXor .u8 ((r3.getD r2.toNat []).getD (IntKind.i64.wrap (Int.tdiv r4 8)).toNat 0) (sL .u8 1 (IntKind.u64.wrap (Int.tmod r4 8)))))].flatten) hE1 hc5 (idx_lt hb1.1 hb1.2) hl2 hl3 ⟨rfl, (arr_set hw2 _ (wrap_in _ _))⟩ rfl
        refine o_rstEL (j := 0) (q := r2.toNat * 32) (off := 0) (m' := (r3.set r2.toNat ((r3.getD r2.toNat []).set (IntKind.i64.wrap (Int.tdiv r4 8)).toNat (bXor .u8 ((r3.getD r2.toNat []).getD (IntKind.i64.wrap (Int.tdiv r4 8)).toNat 0) (sL .u8 1 (IntKind.u64.wrap (Int.tmod r4 8)))))).length) A2 B2 [] [] (r3.getD r2.toNat []) hc5 hl2 rfl sz5 hw2.1 (by omega) hI rfl hA rfl rfl (by omega) (by first | exact (List.length_set ..).symm | simp) fun w hI => ?_
        refine o_nil ?_
        refine ⟨(.inl (by kernel_rfl)), ?_⟩
        refine g_nil (by kernel_rfl) ?_
        refine hN11 _ _ ?_
        refine w_seq fun _ hN12 => ?_
        refine w_reg ?_
        refine stp hA (r_mv hA rfl) rfl fun a hA => 
          stp hA (r_mv hA rfl) rfl fun a hA => ?_
        obtain ⟨r5, hr5, H⟩ := bB H
        refine o_call _ cf74 hA rfl (merkle_Path.c μ _ hI.agr r2 hz3 x0 u0 hx0 r5 hr5) rfl fun v2 a w hz6 hA => ?_
        obtain ⟨v3, cs2, rfl, hE3, hw3, hi2⟩ := hz6
        have hI := hI.call hi2
        refine stp hA (r_mv hA rfl) rfl fun a hA => 
          stp hA (r_extr (vs := [v3, .bool r5.2]) hA rfl rfl) rfl fun a hA => 
          stp hA (r_extr (vs := [v3, .bool r5.2]) hA rfl rfl) rfl fun a hA => 
          stp hA (r_as hA rfl) rfl fun a hA => 
          stp hA (r_as hA rfl) rfl fun a hA => ?_
        refine o_nil ?_
        refine hN12 _ _ ?_
        refine w_seq fun _ hN13 => ?_
        refine w_reg ?_
        refine stp hA (r_mv hA rfl) rfl fun a hA => 
          stp hA (r_mv hA rfl) rfl fun a hA => ?_
        obtain ⟨r6, hr6, H⟩ := bB H
        refine o_call (fun v w' => ∃ (v0 : Value) (c0 : List Value), v = .tuple #[v0, .bool (r6.2)] ∧ Els (RA .u8 32) 32 (r6.1) c0 ∧ True ∧ Iv w [] μ μ [row 33 32 v0 (r6.1).length c0] w') cf74 hA rfl ((by obtain ⟨μ1, hle1, hsv1, hI⟩ := hI.freezeRow 1 rfl; have hS1 : Slc (RA .u8 32) 32 μ1 v1 (r3.set r2.toNat ((r3.getD r2.toNat []).set (IntKind.i64.wrap (Int.tdiv r4 8)).toNat (bXor .u8 ((r3.getD r2.toNat []).getD (IntKind.i64.wrap (Int.tdiv r4 8)).toNat 0) (sL .u8 1 (IntKind.u64.wrap (Int.tmod r4 8)))))) := ⟨_, hE2, hsv1⟩; exact (merkle_Path.c μ1 _ hI.agr r2 hz3 (r3.set r2.toNat ((r3.getD r2.toNat []).set (IntKind.i64.wrap (Int.tdiv r4 8)).toNat (bXor .u8 ((r3.getD r2.toNat []).getD (IntKind.i64.wrap (Int.tdiv r4 8)).toNat 0) (sL .u8 1 (IntKind.u64.wrap (Int.tmod r4 8)))))) v1 hS1 r6 hr6).mono fun _ _ ⟨v, he, b0, b1, hv, f0, f1, hi⟩ => ⟨v, he, b0, b1, hv, f0, f1, hi.low hle1⟩)) rfl fun v4 a w hz7 hA => ?_
        obtain ⟨v5, cs3, rfl, hE4, hw4, hi3⟩ := hz7
        have hI := hI.call hi3
        refine stp hA (r_mv hA rfl) rfl fun a hA => 
          stp hA (r_extr (vs := [v5, .bool r6.2]) hA rfl rfl) rfl fun a hA => 
          stp hA (r_extr (vs := [v5, .bool r6.2]) hA rfl rfl) rfl fun a hA => 
          stp hA (r_as hA rfl) rfl fun a hA => 
          stp hA (r_as hA rfl) rfl fun a hA => ?_
        refine o_nil ?_
        refine hN13 _ _ ?_
        refine w_seq fun _ hN14 => ?_
        obtain ⟨c2, hz8, Hk2⟩ := bB H
        refine w_cut (fun a w => Fr a 124 [(0, u0), (1, .int .i64 r2), (2, .int .i64 x2), (6, .bool false), (7, .bool r1), (8, v1), (9, .int .i64 r4), (10, v3), (11, .bool r5.2), (12, v5), (13, .bool r6.2), (21, .bool (!r1)), (29, .bool c1), (74, .bool c2)] ∧ Iv w0 [] μ μ [row 33 32 v5 r6.1.length cs3, row 33 32 v3 r5.1.length cs2, row 33 32 v1 (r3.set r2.toNat ((r3.getD r2.toNat []).set (IntKind.i64.wrap (Int.tdiv r4 8)).toNat (bXor .u8 ((r3.getD r2.toNat []).getD (IntKind.i64.wrap (Int.tdiv r4 8)).toNat 0) (sL .u8 1 (IntKind.u64.wrap (Int.tmod r4 8)))))).length (A2 ++ ([av .u8 32 ((r3.getD r2.toNat []).set (IntKind.i64.wrap (Int.tdiv r4 8)).toNat (bXor .u8 ((r3.getD r2.toNat []).getD (IntKind.i64.wrap (Int.tdiv r4 8)).toNat 0) (sL .u8 1 (IntKind.u64.wrap (Int.tmod r4 8)))))].flatten ++ B2))] w) ?_ ?_
        · have H := bI hz8
          refine w_reg ?_
          refine stp hA (r_mv hA rfl) rfl fun a hA => 
            stp hA (r_not hA rfl) rfl fun a hA => 
            stp hA (r_mv hA rfl) rfl fun a hA => ?_
          rcases Bool.eq_false_or_eq_true (!r5.2) with hc6 | hc6
          · have hc60 := hc6; have hc6 := nT hc6; have hc6 := ft hc6; have H := bF H hc6
            refine o_no hA rfl rfl (by rw [hc60]; simp [vb]) rfl fun a hA => 
              o_no hA rfl rfl (by rw [hc60]; simp [vb]) rfl fun a hA => 
              stp hA (r_pick_t hA rfl hc60 rfl) rfl fun a hA => ?_
            refine o_nil ?_
            cases Option.some.inj (bS H)
            exact ⟨hA.sub ⟨rfl, rfl, rfl, rfl, rfl, rfl, rfl, rfl, rfl, rfl, rfl, rfl, rfl, rfl, trivial⟩, hI⟩
          · have hc60 := hc6; have hc6 := nF hc6; have H := bT H hc6
            refine o_yes hA rfl rfl hc60 <| 
              stp hA (r_mv hA rfl) rfl fun a hA => 
              o_yes hA rfl rfl hc60 <| 
              stp hA (r_not hA rfl) rfl fun a hA => 
              stp hA (r_pick_f hA rfl hc60 rfl) rfl fun a hA => ?_
            refine o_nil ?_
            cases Option.some.inj (bS H)
            exact ⟨hA.sub ⟨rfl, rfl, rfl, rfl, rfl, rfl, rfl, rfl, rfl, rfl, rfl, rfl, rfl, rfl, trivial⟩, hI⟩
        · rintro a w ⟨hA, hI⟩
          have H := Hk2
          refine w_cond hA rfl (fun hc7 => ?_) (fun hc7 => ?_)
          · have hc70 := hc7; have H := bT H hc7
            refine w_seq fun _ hN15 => ?_
            refine w_reg ?_
            refine stp hA (r_as hA rfl) rfl fun a hA => ?_
            refine o_nil ?_
            refine hN15 _ _ ?_
            refine w_ret ?_
            obtain rfl := Option.some.inj (bS H)
            exact ret1 hA Try.results20 rfl ⟨_, rfl, rfl, trivial, hI.forget0⟩
          · have hc70 := hc7; have hc7 := ft hc7; have H := bF H hc7
            refine w_skip ?_
            refine hN14 _ _ ?_
            refine w_seq fun _ hN16 => ?_
            refine w_reg ?_
            refine stp hA (r_mv hA rfl) rfl fun a hA => 
              stp hA (r_mv hA rfl) rfl fun a hA => ?_
            obtain ⟨hb4, H⟩ := bG H
            refine stp hA (r_rix (j := 2) Try.underlying80 sz33 hI rfl hA rfl rfl hb4.1 hb4.2) rfl fun a hA => ?_
            obtain ⟨A3, _, B3, hc8, hl4, _, he3⟩ := Els.at_ hE2 (getD_some [] hb4.1 hb4.2)
            obtain ⟨rfl, hw5⟩ := he3
            refine stp hA (r_rldP (j := 2) (q := r2.toNat * 32) (off := 0) A3 B3 [] [av .u8 32 ((r3.set r2.toNat ((r3.getD r2.toNat []).set (IntKind.i64.wrap (Int.tdiv r4 8)).toNat (bXor .u8 ((r3.getD r2.toNat []).getD (IntKind.i64.wrap (Int.tdiv r4 8)).toNat 0) (sL .u8 1 (IntKind.u64.wrap (Int.tmod r4 8)))))).getD r2.toNat [])] [] hc8 hl4 rfl Try.underlying33 rfl sz33 rfl hI rfl hA rfl) rfl fun a hA => 
              stp hA (r_mv hA rfl) rfl fun a hA => 
              stp hA (r_mv hA rfl) rfl fun a hA => ?_
            obtain ⟨_, hsl4⟩ := Slc.sv hx0
            refine stp hA (r_slen Try.underlying80 hsl4 hA rfl) rfl fun a hA => 
              stp hA (r_mv hA rfl) rfl fun a hA => ?_
            obtain ⟨r7, hr7, H⟩ := bB H
            refine o_callp (u := .tuple #[.agg [av .u8 32 r7.1].flatten.toArray, .bool r7.2]) cf76 hA rfl hI ((by obtain ⟨μ2, hle2, hsv2, hI⟩ := hI.freezeRow 1 rfl; have hS2 : Slc (RA .u8 32) 32 μ2 v3 r5.1 := ⟨_, hE3, hsv2⟩; exact low_plain hle2 (merkle_Climb.c μ2 _ hI.agr ((r3.set r2.toNat ((r3.getD r2.toNat []).set (IntKind.i64.wrap (Int.tdiv r4 8)).toNat (bXor .u8 ((r3.getD r2.toNat []).getD (IntKind.i64.wrap (Int.tdiv r4 8)).toNat 0) (sL .u8 1 (IntKind.u64.wrap (Int.tmod r4 8)))))).getD r2.toNat []) hw5 r2 hz3 (x0.length : Int) (len_in hx0) r5.1 v3 hS2 r7 hr7))) rfl fun a w hz9 hI hA => 
              stp hA (r_mv hA rfl) rfl fun a hA => 
              stp hA (r_extr (vs := [.agg [av .u8 32 r7.1].flatten.toArray, .bool r7.2]) hA rfl rfl) rfl fun a hA => 
              stp hA (r_extr (vs := [.agg [av .u8 32 r7.1].flatten.toArray, .bool r7.2]) hA rfl rfl) rfl fun a hA => 
              o_new [av .u8 32 (List.replicate 32 0)] zr33 hI hA rfl fun g1 a w hA hI hg1 => 
              o_st (j := 0) [] [av .u8 32 (List.replicate 32 0)] [av .u8 32 r7.1] [] sz33 rfl rfl (fl_cons (one_av _ _ _) fl_nil) hI rfl hA rfl rfl rfl rfl fun w hI => 
              stp hA (r_as hA rfl) rfl fun a hA => ?_
            refine o_nil ?_
            refine hN16 _ _ ?_
            refine w_seq fun _ hN17 => ?_
            refine w_reg ?_
            refine stp hA (r_mv hA rfl) rfl fun a hA => 
              stp hA (r_mv hA rfl) rfl fun a hA => 
              stp hA (r_rix (j := 3) Try.underlying80 sz33 hI rfl hA rfl rfl hb4.1 hb4.2) rfl fun a hA => ?_
            obtain ⟨A4, _, B4, hc9, hl5, _, he4⟩ := Els.at_ hE2 (getD_some [] hb4.1 hb4.2)
            obtain ⟨rfl, hw6⟩ := he4
            refine stp hA (r_rldP (j := 3) (q := r2.toNat * 32) (off := 0) A4 B4 [] [av .u8 32 ((r3.set r2.toNat ((r3.getD r2.toNat []).set (IntKind.i64.wrap (Int.tdiv r4 8)).toNat (bXor .u8 ((r3.getD r2.toNat []).getD (IntKind.i64.wrap (Int.tdiv r4 8)).toNat 0) (sL .u8 1 (IntKind.u64.wrap (Int.tmod r4 8)))))).getD r2.toNat [])] [] hc9 hl5 rfl Try.underlying33 rfl sz33 rfl hI rfl hA rfl) rfl fun a hA => 
              stp hA (r_mv hA rfl) rfl fun a hA => 
              stp hA (r_mv hA rfl) rfl fun a hA => ?_
            obtain ⟨_, hsl5⟩ := Slc.sv hx0
            refine stp hA (r_slen Try.underlying80 hsl5 hA rfl) rfl fun a hA => 
              stp hA (r_mv hA rfl) rfl fun a hA => ?_
            obtain ⟨r8, hr8, H⟩ := bB H
            refine o_callp (u := .tuple #[.agg [av .u8 32 r8.1].flatten.toArray, .bool r8.2]) cf76 hA rfl hI ((by obtain ⟨μ3, hle3, hsv3, hI⟩ := hI.freezeRow 1 rfl; have hS3 : Slc (RA .u8 32) 32 μ3 v5 r6.1 := ⟨_, hE4, hsv3⟩; exact low_plain hle3 (merkle_Climb.c μ3 _ hI.agr ((r3.set r2.toNat ((r3.getD r2.toNat []).set (IntKind.i64.wrap (Int.tdiv r4 8)).toNat (bXor .u8 ((r3.getD r2.toNat []).getD (IntKind.i64.wrap (Int.tdiv r4 8)).toNat 0) (sL .u8 1 (IntKind.u64.wrap (Int.tmod r4 8)))))).getD r2.toNat []) hw6 r2 hz3 (x0.length : Int) (len_in hx0) r6.1 v5 hS3 r8 hr8))) rfl fun a w hz10 hI hA => 
              stp hA (r_mv hA rfl) rfl fun a hA => 
              stp hA (r_extr (vs := [.agg [av .u8 32 r8.1].flatten.toArray, .bool r8.2]) hA rfl rfl) rfl fun a hA => 
              stp hA (r_extr (vs := [.agg [av .u8 32 r8.1].flatten.toArray, .bool r8.2]) hA rfl rfl) rfl fun a hA => 
              o_new [av .u8 32 (List.replicate 32 0)] zr33 hI hA rfl fun g2 a w hA hI hg2 => 
              o_st (j := 0) [] [av .u8 32 (List.replicate 32 0)] [av .u8 32 r8.1] [] sz33 rfl rfl (fl_cons (one_av _ _ _) fl_nil) hI rfl hA rfl rfl rfl rfl fun w hI => 
              stp hA (r_as hA rfl) rfl fun a hA => ?_
            refine o_nil ?_
            refine hN17 _ _ ?_
            refine w_seq fun _ hN18 => ?_
            refine w_reg ?_
            refine stp hA (r_mv hA rfl) rfl fun a hA => 
              stp hA (r_mv hA rfl) rfl fun a hA => ?_
            obtain ⟨r9, hr9, H⟩ := bB H
            refine o_callp (u := .bool r9) cf79 hA rfl hI ((by obtain ⟨μ4, hle4, hsv4, hI⟩ := hI.freezeRow 3 rfl; have hS4 : Slc (RA .u8 32) 32 μ4 v3 r5.1 := ⟨_, hE3, hsv4⟩; obtain ⟨μ5, hle5, hsv5, hI⟩ := hI.freezeRow 2 rfl; have hS5 : Slc (RA .u8 32) 32 μ5 v5 r6.1 := ⟨_, hE4, hsv5⟩; exact low_plain (hle4.trans hle5) (sargassoref_SameHashes.c μ5 _ hI.agr r5.1 v3 (Slc.le hS4 (fun _ _ h => h) hle5) r6.1 v5 hS5 r9 hr9))) rfl fun a w hz11 hI hA => 
              stp hA (r_as hA rfl) rfl fun a hA => ?_
            refine o_nil ?_
            refine hN18 _ _ ?_
            obtain ⟨c3, hz12, Hk3⟩ := bB H
            refine w_cut (fun a w => Fr a 124 [(0, u0), (1, .int .i64 r2), (2, .int .i64 x2), (6, .bool c3), (7, .bool r1), (8, v1), (9, .int .i64 r4), (10, v3), (11, .bool r5.2), (12, v5), (13, .bool r6.2), (14, .pointer (some ⟨g1, 0, none⟩)), (15, .bool r7.2), (16, .pointer (some ⟨g2, 0, none⟩)), (17, .bool r8.2), (18, .bool r9), (21, .bool (!r1)), (29, .bool c1), (74, .bool c2)] ∧ Iv w0 [] μ μ [cel g2 [av .u8 32 r8.1] 33, cel g1 [av .u8 32 r7.1] 33, row 33 32 v5 r6.1.length cs3, row 33 32 v3 r5.1.length cs2, row 33 32 v1 (r3.set r2.toNat ((r3.getD r2.toNat []).set (IntKind.i64.wrap (Int.tdiv r4 8)).toNat (bXor .u8 ((r3.getD r2.toNat []).getD (IntKind.i64.wrap (Int.tdiv r4 8)).toNat 0) (sL .u8 1 (IntKind.u64.wrap (Int.tmod r4 8)))))).length (A2 ++ ([av .u8 32 ((r3.getD r2.toNat []).set (IntKind.i64.wrap (Int.tdiv r4 8)).toNat (bXor .u8 ((r3.getD r2.toNat []).getD (IntKind.i64.wrap (Int.tdiv r4 8)).toNat 0) (sL .u8 1 (IntKind.u64.wrap (Int.tmod r4 8)))))].flatten ++ B2))] w) ?_ ?_
            · have H := bI hz12
              refine w_any [] mo hI fun w hI => ?_
              refine g_easy (i := 0) hA rfl rfl (by kernel_rfl) (.inr hI) (fun _ => r_mv hA rfl) rfl fun a hA => ?_
              refine g_easy (i := 1) hA rfl rfl (by kernel_rfl) (.inr hI) (fun _ => r_mv hA rfl) rfl fun a hA => ?_
              rcases Bool.eq_false_or_eq_true r1 with hc10 | hc10
              · have hc100 := hc10; have H := bT H hc10
                refine g_easy (i := 2) hA rfl (wanted_yes hA rfl rfl hc100) (by kernel_rfl) (.inr hI) (fun _ => r_mv hA rfl) rfl fun a hA => ?_
                refine g_easy (i := 3) hA rfl rfl (by kernel_rfl) (.inr hI) (fun _ => r_pick_t hA rfl hc100 rfl) rfl fun a hA => ?_
                refine g_easy (i := 4) hA rfl rfl (by kernel_rfl) (.inr hI) (fun _ => r_mv hA rfl) rfl fun a hA => ?_
                rcases Bool.eq_false_or_eq_true r7.2 with hc11 | hc11
                · have hc110 := hc11; have H := bT H hc11
                  refine g_easy (i := 5) hA rfl (wanted_yes hA rfl rfl hc110) (by kernel_rfl) (.inr hI) (fun _ => r_mv hA rfl) rfl fun a hA => ?_
                  refine g_easy (i := 6) hA rfl rfl (by kernel_rfl) (.inr hI) (fun _ => r_pick_t hA rfl hc110 rfl) rfl fun a hA => ?_
                  refine g_easy (i := 7) hA rfl rfl (by kernel_rfl) (.inr hI) (fun _ => r_mv hA rfl) rfl fun a hA => ?_
                  rcases Bool.eq_false_or_eq_true r8.2 with hc12 | hc12
                  · have hc120 := hc12; have H := bT H hc12
                    refine g_take (i := 8) hA rfl (wanted_yes hA rfl rfl hc120) (by kernel_rfl) hI (fun w hI => r_ldA (j := 0) [] [av .u8 32 r8.1] [] Try.underlying33 rfl sz33 rfl hI rfl hA rfl rfl) rfl fun a hA => ?_
                    refine g_easy (i := 9) hA rfl (wanted_yes hA rfl rfl hc120) (by kernel_rfl) (.inr hI) (fun _ => r_mv hA rfl) rfl fun a hA => ?_
                    refine g_forced (i := 10) rfl (by kernel_rfl) ?_
                    refine o_yes hA rfl rfl hc120 <| ?_
                    obtain ⟨r10, hr10, H⟩ := bB H
                    refine o_callp (u := .agg [av .u8 32 r10].flatten.toArray) cf72 hA rfl hI ((by obtain ⟨μ6, hle6, hsv6, hI⟩ := hI.freezeRow 4 rfl; have hS6 : Slc (RA .u8 32) 32 μ6 v1 (r3.set r2.toNat ((r3.getD r2.toNat []).set (IntKind.i64.wrap (Int.tdiv r4 8)).toNat (bXor .u8 ((r3.getD r2.toNat []).getD (IntKind.i64.wrap (Int.tdiv r4 8)).toNat 0) (sL .u8 1 (IntKind.u64.wrap (Int.tmod r4 8)))))) := ⟨_, hE2, hsv6⟩; exact low_plain hle6 (merkle_Root.c μ6 _ hI.agr (r3.set r2.toNat ((r3.getD r2.toNat []).set (IntKind.i64.wrap (Int.tdiv r4 8)).toNat (bXor .u8 ((r3.getD r2.toNat []).getD (IntKind.i64.wrap (Int.tdiv r4 8)).toNat 0) (sL .u8 1 (IntKind.u64.wrap (Int.tmod r4 8)))))) v1 hS6 r10 hr10))) rfl fun a w hz13 hI hA => ?_
                    refine o_nil ?_
                    refine ⟨(.inr hI), ?_⟩
                    refine g_forced (i := 11) rfl (by kernel_rfl) ?_
                    refine o_yes hA rfl rfl hc120 <| ?_
                    obtain ⟨r11, hr11, H⟩ := bB H
                    refine o_callp (u := .bool r11) cf28 hA rfl hI (sargassoref_SameHash.c μ _ hI.agr r8.1 hz10.1 r10 hz13 r11 hr11) rfl fun a w hz14 hI hA => ?_
                    refine o_nil ?_
                    refine ⟨(.inr hI), ?_⟩
                    refine g_easy (i := 12) hA rfl rfl (by kernel_rfl) (.inr hI) (fun _ => r_pick_t hA rfl hc120 rfl) rfl fun a hA => ?_
                    refine g_easy (i := 13) hA rfl rfl (by kernel_rfl) (.inr hI) (fun _ => r_mv hA rfl) rfl fun a hA => ?_
                    rcases Bool.eq_false_or_eq_true r11 with hc13 | hc13
                    · have hc130 := hc13; have H := bT H hc13
                      refine g_easy (i := 14) hA rfl (wanted_yes hA rfl rfl hc130) (by kernel_rfl) (.inr hI) (fun _ => r_mv hA rfl) rfl fun a hA => ?_
                      refine g_easy (i := 15) hA rfl (wanted_yes hA rfl rfl hc130) (by kernel_rfl) (.inr hI) (fun _ => r_not hA rfl) rfl fun a hA => ?_
                      refine g_easy (i := 16) hA rfl (wanted_yes hA rfl rfl hc130) (by kernel_rfl) (.inr hI) (fun _ => r_mv hA rfl) rfl fun a hA => ?_
                      rcases Bool.eq_false_or_eq_true (!r9) with hc14 | hc14
                      · have hc140 := hc14; have hc14 := nT hc14; have hc14 := ft hc14; have H := bF H hc14
                        refine g_skip (i := 17) hA rfl (wanted_no hA rfl rfl (by rw [hc140]; simp [vb])) (by kernel_rfl) (.inr hI) rfl fun a hA => ?_
                        refine g_skip (i := 18) hA rfl (wanted_no hA rfl rfl (by rw [hc140]; simp [vb])) (by kernel_rfl) (.inr hI) rfl fun a hA => ?_
                        refine g_skip (i := 19) hA rfl (wanted_no hA rfl rfl (by rw [hc140]; simp [vb])) (by kernel_rfl) (.inr hI) rfl fun a hA => ?_
                        refine g_easy (i := 20) hA rfl (wanted_yes hA rfl rfl hc130) (by kernel_rfl) (.inr hI) (fun _ => r_pick_t hA rfl hc140 rfl) rfl fun a hA => ?_
                        refine g_easy (i := 21) hA rfl rfl (by kernel_rfl) (.inr hI) (fun _ => r_pick_t hA rfl hc130 rfl) rfl fun a hA => ?_
                        refine g_easy (i := 22) hA rfl rfl (by kernel_rfl) (.inr hI) (fun _ => r_as hA rfl) rfl fun a hA => ?_
                        refine g_nil (by kernel_rfl) ?_
                        cases Option.some.inj (bS H)
                        exact ⟨hA.sub ⟨rfl, rfl, rfl, rfl, rfl, rfl, rfl, rfl, rfl, rfl, rfl, rfl, rfl, rfl, rfl, rfl, rfl, rfl, rfl, trivial⟩, hI⟩
                      · have hc140 := hc14; have hc14 := nF hc14; have H := bT H hc14
                        refine g_take (i := 17) hA rfl (wanted_yes hA rfl rfl hc140) (by kernel_rfl) hI (fun w hI => r_ldA (j := 1) [] [av .u8 32 r7.1] [] Try.underlying33 rfl sz33 rfl hI rfl hA rfl rfl) rfl fun a hA => ?_
                        refine g_take (i := 18) hA rfl (wanted_yes hA rfl rfl hc140) (by kernel_rfl) hI (fun w hI => r_ldA (j := 0) [] [av .u8 32 r8.1] [] Try.underlying33 rfl sz33 rfl hI rfl hA rfl rfl) rfl fun a hA => ?_
                        refine g_forced (i := 19) rfl (by kernel_rfl) ?_
                        refine o_yes hA rfl rfl hc140 <| ?_
                        obtain ⟨r12, hr12, H⟩ := bB H
                        refine o_callp (u := .bool r12) cf28 hA rfl hI (sargassoref_SameHash.c μ _ hI.agr r7.1 hz9.1 r8.1 hz10.1 r12 hr12) rfl fun a w hz15 hI hA => ?_
                        refine o_nil ?_
                        refine ⟨(.inr hI), ?_⟩
                        refine g_easy (i := 20) hA rfl (wanted_yes hA rfl rfl hc130) (by kernel_rfl) (.inr hI) (fun _ => r_pick_f hA rfl hc140 rfl) rfl fun a hA => ?_
                        refine g_easy (i := 21) hA rfl rfl (by kernel_rfl) (.inr hI) (fun _ => r_pick_t hA rfl hc130 rfl) rfl fun a hA => ?_
                        refine g_easy (i := 22) hA rfl rfl (by kernel_rfl) (.inr hI) (fun _ => r_as hA rfl) rfl fun a hA => ?_
                        refine g_nil (by kernel_rfl) ?_
                        cases Option.some.inj (bS H)
                        exact ⟨hA.sub ⟨rfl, rfl, rfl, rfl, rfl, rfl, rfl, rfl, rfl, rfl, rfl, rfl, rfl, rfl, rfl, rfl, rfl, rfl, rfl, trivial⟩, hI⟩
                    · have hc130 := hc13; have hc13 := ft hc13; have H := bF H hc13
                      refine g_skip (i := 14) hA rfl (wanted_no hA rfl rfl (by rw [hc130]; simp [vb])) (by kernel_rfl) (.inr hI) rfl fun a hA => ?_
                      refine g_skip (i := 15) hA rfl (wanted_no hA rfl rfl (by rw [hc130]; simp [vb])) (by kernel_rfl) (.inr hI) rfl fun a hA => ?_
                      refine g_skip (i := 16) hA rfl (wanted_no hA rfl rfl (by rw [hc130]; simp [vb])) (by kernel_rfl) (.inr hI) rfl fun a hA => ?_
                      refine g_skip (i := 17) hA rfl (wanted_no hA rfl rfl (by simp [vb, undef])) (by kernel_rfl) (.inr hI) rfl fun a hA => ?_
                      refine g_skip (i := 18) hA rfl (wanted_no hA rfl rfl (by simp [vb, undef])) (by kernel_rfl) (.inr hI) rfl fun a hA => ?_
                      refine g_skip (i := 19) hA rfl (wanted_no hA rfl rfl (by simp [vb, undef])) (by kernel_rfl) (.inr hI) rfl fun a hA => ?_
                      refine g_skip (i := 20) hA rfl (wanted_no hA rfl rfl (by rw [hc130]; simp [vb])) (by kernel_rfl) (.inr hI) rfl fun a hA => ?_
                      refine g_easy (i := 21) hA rfl rfl (by kernel_rfl) (.inr hI) (fun _ => r_pick_f hA rfl hc130 rfl) rfl fun a hA => ?_
                      refine g_easy (i := 22) hA rfl rfl (by kernel_rfl) (.inr hI) (fun _ => r_as hA rfl) rfl fun a hA => ?_
                      refine g_nil (by kernel_rfl) ?_
                      cases Option.some.inj (bS H)
                      exact ⟨hA.sub ⟨rfl, rfl, rfl, rfl, rfl, rfl, rfl, rfl, rfl, rfl, rfl, rfl, rfl, rfl, rfl, rfl, rfl, rfl, rfl, trivial⟩, hI⟩
                  · have hc120 := hc12; have hc12 := ft hc12; have H := bF H hc12
                    refine g_skip (i := 8) hA rfl (wanted_no hA rfl rfl (by rw [hc120]; simp [vb])) (by kernel_rfl) (.inr hI) rfl fun a hA => ?_
                    refine g_skip (i := 9) hA rfl (wanted_no hA rfl rfl (by rw [hc120]; simp [vb])) (by kernel_rfl) (.inr hI) rfl fun a hA => ?_
                    refine g_skip (i := 10) hA rfl (wanted_no hA rfl rfl (by rw [hc120]; simp [vb])) (by kernel_rfl) (.inr hI) rfl fun a hA => ?_
                    refine g_skip (i := 11) hA rfl (wanted_no hA rfl rfl (by rw [hc120]; simp [vb])) (by kernel_rfl) (.inr hI) rfl fun a hA => ?_
                    refine g_easy (i := 12) hA rfl rfl (by kernel_rfl) (.inr hI) (fun _ => r_pick_f hA rfl hc120 rfl) rfl fun a hA => ?_
                    refine g_easy (i := 13) hA rfl rfl (by kernel_rfl) (.inr hI) (fun _ => r_mv hA rfl) rfl fun a hA => ?_
                    refine g_skip (i := 14) hA rfl (wanted_no hA rfl rfl (by simp [vb])) (by kernel_rfl) (.inr hI) rfl fun a hA => ?_
                    refine g_skip (i := 15) hA rfl (wanted_no hA rfl rfl (by simp [vb])) (by kernel_rfl) (.inr hI) rfl fun a hA => ?_
                    refine g_skip (i := 16) hA rfl (wanted_no hA rfl rfl (by simp [vb])) (by kernel_rfl) (.inr hI) rfl fun a hA => ?_
                    refine g_skip (i := 17) hA rfl (wanted_no hA rfl rfl (by simp [vb, undef])) (by kernel_rfl) (.inr hI) rfl fun a hA => ?_
                    refine g_skip (i := 18) hA rfl (wanted_no hA rfl rfl (by simp [vb, undef])) (by kernel_rfl) (.inr hI) rfl fun a hA => ?_
                    refine g_skip (i := 19) hA rfl (wanted_no hA rfl rfl (by simp [vb, undef])) (by kernel_rfl) (.inr hI) rfl fun a hA => ?_
                    refine g_skip (i := 20) hA rfl (wanted_no hA rfl rfl (by simp [vb])) (by kernel_rfl) (.inr hI) rfl fun a hA => ?_
                    refine g_easy (i := 21) hA rfl rfl (by kernel_rfl) (.inr hI) (fun _ => r_pick_f hA rfl rfl rfl) rfl fun a hA => ?_
                    refine g_easy (i := 22) hA rfl rfl (by kernel_rfl) (.inr hI) (fun _ => r_as hA rfl) rfl fun a hA => ?_
                    refine g_nil (by kernel_rfl) ?_
                    cases Option.some.inj (bS H)
                    exact ⟨hA.sub ⟨rfl, rfl, rfl, rfl, rfl, rfl, rfl, rfl, rfl, rfl, rfl, rfl, rfl, rfl, rfl, rfl, rfl, rfl, rfl, trivial⟩, hI⟩
                · have hc110 := hc11; have hc11 := ft hc11; have H := bF H hc11
                  refine g_skip (i := 5) hA rfl (wanted_no hA rfl rfl (by rw [hc110]; simp [vb])) (by kernel_rfl) (.inr hI) rfl fun a hA => ?_
                  refine g_easy (i := 6) hA rfl rfl (by kernel_rfl) (.inr hI) (fun _ => r_pick_f hA rfl hc110 rfl) rfl fun a hA => ?_
                  refine g_easy (i := 7) hA rfl rfl (by kernel_rfl) (.inr hI) (fun _ => r_mv hA rfl) rfl fun a hA => ?_
                  refine g_skip (i := 8) hA rfl (wanted_no hA rfl rfl (by simp [vb])) (by kernel_rfl) (.inr hI) rfl fun a hA => ?_
                  refine g_skip (i := 9) hA rfl (wanted_no hA rfl rfl (by simp [vb])) (by kernel_rfl) (.inr hI) rfl fun a hA => ?_
                  refine g_skip (i := 10) hA rfl (wanted_no hA rfl rfl (by simp [vb])) (by kernel_rfl) (.inr hI) rfl fun a hA => ?_
                  refine g_skip (i := 11) hA rfl (wanted_no hA rfl rfl (by simp [vb])) (by kernel_rfl) (.inr hI) rfl fun a hA => ?_
                  refine g_easy (i := 12) hA rfl rfl (by kernel_rfl) (.inr hI) (fun _ => r_pick_f hA rfl rfl rfl) rfl fun a hA => ?_
                  refine g_easy (i := 13) hA rfl rfl (by kernel_rfl) (.inr hI) (fun _ => r_mv hA rfl) rfl fun a hA => ?_
                  refine g_skip (i := 14) hA rfl (wanted_no hA rfl rfl (by simp [vb])) (by kernel_rfl) (.inr hI) rfl fun a hA => ?_
                  refine g_skip (i := 15) hA rfl (wanted_no hA rfl rfl (by simp [vb])) (by kernel_rfl) (.inr hI) rfl fun a hA => ?_
                  refine g_skip (i := 16) hA rfl (wanted_no hA rfl rfl (by simp [vb])) (by kernel_rfl) (.inr hI) rfl fun a hA => ?_
                  refine g_skip (i := 17) hA rfl (wanted_no hA rfl rfl (by simp [vb, undef])) (by kernel_rfl) (.inr hI) rfl fun a hA => ?_
                  refine g_skip (i := 18) hA rfl (wanted_no hA rfl rfl (by simp [vb, undef])) (by kernel_rfl) (.inr hI) rfl fun a hA => ?_
                  refine g_skip (i := 19) hA rfl (wanted_no hA rfl rfl (by simp [vb, undef])) (by kernel_rfl) (.inr hI) rfl fun a hA => ?_
                  refine g_skip (i := 20) hA rfl (wanted_no hA rfl rfl (by simp [vb])) (by kernel_rfl) (.inr hI) rfl fun a hA => ?_
                  refine g_easy (i := 21) hA rfl rfl (by kernel_rfl) (.inr hI) (fun _ => r_pick_f hA rfl rfl rfl) rfl fun a hA => ?_
                  refine g_easy (i := 22) hA rfl rfl (by kernel_rfl) (.inr hI) (fun _ => r_as hA rfl) rfl fun a hA => ?_
                  refine g_nil (by kernel_rfl) ?_
                  cases Option.some.inj (bS H)
                  exact ⟨hA.sub ⟨rfl, rfl, rfl, rfl, rfl, rfl, rfl, rfl, rfl, rfl, rfl, rfl, rfl, rfl, rfl, rfl, rfl, rfl, rfl, trivial⟩, hI⟩
              · have hc100 := hc10; have hc10 := ft hc10; have H := bF H hc10
                refine g_skip (i := 2) hA rfl (wanted_no hA rfl rfl (by rw [hc100]; simp [vb])) (by kernel_rfl) (.inr hI) rfl fun a hA => ?_
                refine g_easy (i := 3) hA rfl rfl (by kernel_rfl) (.inr hI) (fun _ => r_pick_f hA rfl hc100 rfl) rfl fun a hA => ?_
                refine g_easy (i := 4) hA rfl rfl (by kernel_rfl) (.inr hI) (fun _ => r_mv hA rfl) rfl fun a hA => ?_
                refine g_skip (i := 5) hA rfl (wanted_no hA rfl rfl (by simp [vb])) (by kernel_rfl) (.inr hI) rfl fun a hA => ?_
                refine g_easy (i := 6) hA rfl rfl (by kernel_rfl) (.inr hI) (fun _ => r_pick_f hA rfl rfl rfl) rfl fun a hA => ?_
                refine g_easy (i := 7) hA rfl rfl (by kernel_rfl) (.inr hI) (fun _ => r_mv hA rfl) rfl fun a hA => ?_
                refine g_skip (i := 8) hA rfl (wanted_no hA rfl rfl (by simp [vb])) (by kernel_rfl) (.inr hI) rfl fun a hA => ?_
                refine g_skip (i := 9) hA rfl (wanted_no hA rfl rfl (by simp [vb])) (by kernel_rfl) (.inr hI) rfl fun a hA => ?_
                refine g_skip (i := 10) hA rfl (wanted_no hA rfl rfl (by simp [vb])) (by kernel_rfl) (.inr hI) rfl fun a hA => ?_
                refine g_skip (i := 11) hA rfl (wanted_no hA rfl rfl (by simp [vb])) (by kernel_rfl) (.inr hI) rfl fun a hA => ?_
                refine g_easy (i := 12) hA rfl rfl (by kernel_rfl) (.inr hI) (fun _ => r_pick_f hA rfl rfl rfl) rfl fun a hA => ?_
                refine g_easy (i := 13) hA rfl rfl (by kernel_rfl) (.inr hI) (fun _ => r_mv hA rfl) rfl fun a hA => ?_
                refine g_skip (i := 14) hA rfl (wanted_no hA rfl rfl (by simp [vb])) (by kernel_rfl) (.inr hI) rfl fun a hA => ?_
                refine g_skip (i := 15) hA rfl (wanted_no hA rfl rfl (by simp [vb])) (by kernel_rfl) (.inr hI) rfl fun a hA => ?_
                refine g_skip (i := 16) hA rfl (wanted_no hA rfl rfl (by simp [vb])) (by kernel_rfl) (.inr hI) rfl fun a hA => ?_
                refine g_skip (i := 17) hA rfl (wanted_no hA rfl rfl (by simp [vb, undef])) (by kernel_rfl) (.inr hI) rfl fun a hA => ?_
                refine g_skip (i := 18) hA rfl (wanted_no hA rfl rfl (by simp [vb, undef])) (by kernel_rfl) (.inr hI) rfl fun a hA => ?_
                refine g_skip (i := 19) hA rfl (wanted_no hA rfl rfl (by simp [vb, undef])) (by kernel_rfl) (.inr hI) rfl fun a hA => ?_
                refine g_skip (i := 20) hA rfl (wanted_no hA rfl rfl (by simp [vb])) (by kernel_rfl) (.inr hI) rfl fun a hA => ?_
                refine g_easy (i := 21) hA rfl rfl (by kernel_rfl) (.inr hI) (fun _ => r_pick_f hA rfl rfl rfl) rfl fun a hA => ?_
                refine g_easy (i := 22) hA rfl rfl (by kernel_rfl) (.inr hI) (fun _ => r_as hA rfl) rfl fun a hA => ?_
                refine g_nil (by kernel_rfl) ?_
                cases Option.some.inj (bS H)
                exact ⟨hA.sub ⟨rfl, rfl, rfl, rfl, rfl, rfl, rfl, rfl, rfl, rfl, rfl, rfl, rfl, rfl, rfl, rfl, rfl, rfl, rfl, trivial⟩, hI⟩
            · rintro a w ⟨hA, hI⟩
              have H := Hk3
              refine w_ret ?_
              obtain rfl := Option.some.inj (bS H)
              exact ret1 hA Try.results20 rfl ⟨_, rfl, rfl, trivial, hI.forget0⟩
end Go.Proofs.Ytnbnnphlffhgiaa.T
