/- Proved: the statement ValueKeeps, as given (its conditions are those of the given row, and card where there is one; no others): the call ends, with true, and the input reads as it did. This file is one of its parts. -/
import Derived.Test.YtpeelghbhihgkaaDoorPValueKeeps2
namespace Go.Proofs.YtpeelghbhihgkaaDoor.T
open Go Go.Proofs Go.Proofs.YtpeelghbhihgkaaDoor.K
set_option linter.unusedVariables false
set_option linter.unusedSimpArgs false
set_option maxRecDepth 20000 in
theorem digest_begin.c (μ : Store) (w0 : World) (hμ : Agr μ w0) (r : List Int) (H : digest_begin.f = some r) :
    Calls Tryd.prog 158 [].toArray w0 (fun e w' => ∃ v, e = .returned v ∧ v = .agg [av .u32 8 r].flatten.toArray ∧ Arr .u32 8 r ∧ Iv w0 [] μ μ [] w') := by
  refine enter Tryd.func158 rfl Tryd.ntmps158 rfl fun a hA => ?_
  have hI := Iv.start hμ
  have H := bI H
  refine w_seq fun _ hN1 => ?_
  refine w_reg ?_
  refine o_new [av .u32 8 (List.replicate 8 0)] zr192 hI hA rfl fun g1 a w hA hI hg1 => ?_
  refine o_nil ?_
  refine hN1 _ _ ?_
  refine w_seq fun _ hN2 => ?_
  refine w_reg ?_
  refine stp hA (r_bldA (cs := [av .u32 8 ([1779033703, 3144134277, 1013904242, 2773480762, 1359893119, 2600822924, 528734635, 1541459225])].flatten.toArray) zr192 Tryd.underlying192 sz39 hA rfl (by kernel_rfl)) rfl fun a hA => 
    o_st (j := 0) [] [av .u32 8 (List.replicate 8 0)] [av .u32 8 ([1779033703, 3144134277, 1013904242, 2773480762, 1359893119, 2600822924, 528734635, 1541459225])] [] sz192 rfl rfl (fl_cons (one_av _ _ _) fl_nil) hI rfl hA rfl rfl rfl rfl fun w hI => ?_
  refine o_nil ?_
  refine hN2 _ _ ?_
  refine w_ret ?_
  obtain rfl := Option.some.inj (bS H)
  exact retc Tryd.underlying192 rfl sz192 rfl hI (j := 0) rfl hA Tryd.results158 rfl ⟨_, rfl, rfl, (arr_lit rfl (by simp only [List.forall_mem_cons]; exact ⟨(in_lit .u32 1779033703 rfl), (in_lit .u32 3144134277 rfl), (in_lit .u32 1013904242 rfl), (in_lit .u32 2773480762 rfl), (in_lit .u32 1359893119 rfl), (in_lit .u32 2600822924 rfl), (in_lit .u32 528734635 rfl), (in_lit .u32 1541459225 rfl), by simp⟩)), hI.forget0⟩
set_option maxRecDepth 20000 in
theorem digest_Writer_state.c (μ : Store) (w0 : World) (hμ : Agr μ w0) (x0 : digestWriter) (vp1 : Value) (cp1 : List Value) (g0 : Nat) (hp1 : Arr .u32 8 x0.s) (hp2 : Els (RI .u8) 1 x0.rest cp1) (hp3 : InR .i64 x0.n) (ho0 : Its μ w0 [cel g0 [av .u32 8 x0.s, [vp1], [.int .i64 x0.n]] 194, row 5 1 vp1 x0.rest.length cp1]) (r : List Int) (H : digest_Writer_state.f x0 = some r) :
    Calls Tryd.prog 156 [.pointer (some ⟨g0, 0, none⟩)].toArray w0 (fun e w' => ∃ v, e = .returned v ∧ v = .agg [av .u32 8 r].flatten.toArray ∧ Arr .u32 8 r ∧ Iv w0 (many [cel g0 [av .u32 8 x0.s, [vp1], [.int .i64 x0.n]] 194, row 5 1 vp1 x0.rest.length cp1]).foot μ μ [cel g0 [av .u32 8 x0.s, [vp1], [.int .i64 x0.n]] 194, row 5 1 vp1 x0.rest.length cp1] w') := by
  refine enter Tryd.func156 rfl Tryd.ntmps156 rfl fun a hA => ?_
  have hI := Iv.startN hμ ho0
  have H := bI H
  refine w_seq fun _ hN1 => ?_
  refine w_reg ?_
  refine o_new [av .u32 8 (List.replicate 8 0)] zr192 hI hA rfl fun g1 a w hA hI hg1 => ?_
  refine o_nil ?_
  refine hN1 _ _ ?_
  refine w_seq fun _ hN2 => ?_
  refine w_seq fun _ hN3 => ?_
  refine w_reg ?_
  refine stp hA (r_mv hA rfl) rfl fun a hA => 
    stp hA (r_nilc hA rfl) rfl fun a hA => 
    stp hA (r_fd (k := 9) Tryd.underlying194 rfl sz2 hA rfl rfl) rfl fun a hA => 
    stp hA (r_ld1 (j := 1) [av .u32 8 x0.s, [vp1]] [] Tryd.underlying2 rfl hI rfl hA rfl rfl) rfl fun a hA => 
    stp hA (r_lss hA rfl rfl) rfl fun a hA => ?_
  refine o_nil ?_
  refine hN3 _ _ ?_
  refine w_cond hA rfl (fun hc1 => ?_) (fun hc1 => ?_)
  · have hc10 := hc1; have hc1 := of_decide_eq_true hc1; have H := bT H hc1
    refine w_seq fun _ hN4 => ?_
    refine w_reg ?_
    obtain ⟨r1, hr1, H⟩ := bB H
    refine o_callp (u := .agg [av .u32 8 r1].flatten.toArray) cf158 hA rfl hI (digest_begin.c μ _ hI.agr  r1 hr1) rfl fun a w hz1 hI hA => 
      o_st (j := 0) [] [av .u32 8 (List.replicate 8 0)] [av .u32 8 r1] [] sz192 rfl rfl (fl_cons (one_av _ _ _) fl_nil) hI rfl hA rfl rfl rfl rfl fun w hI => ?_
    refine o_nil ?_
    refine hN4 _ _ ?_
    refine w_ret ?_
    obtain rfl := Option.some.inj (bS H)
    exact retc Tryd.underlying192 rfl sz192 rfl hI (j := 0) rfl hA Tryd.results156 rfl ⟨_, rfl, rfl, hz1, ((hI.sel [1, 2] (by decide) rfl).less (Store.le.refl _) hI.le)⟩
  · have hc10 := hc1; have hc1 := of_decide_eq_false hc1; have H := bF H hc1
    refine w_skip ?_
    refine hN2 _ _ ?_
    refine w_seq fun _ hN5 => ?_
    refine w_reg ?_
    refine stp hA (r_mv hA rfl) rfl fun a hA => 
      stp hA (r_nilc hA rfl) rfl fun a hA => 
      stp hA (r_fd (k := 0) Tryd.underlying194 rfl sz192 hA rfl rfl) rfl fun a hA => 
      stp hA (r_ldA (j := 1) [] [av .u32 8 x0.s] [[vp1], [.int .i64 x0.n]] Tryd.underlying192 rfl sz192 rfl hI rfl hA rfl rfl) rfl fun a hA => 
      o_st (j := 0) [] [av .u32 8 (List.replicate 8 0)] [av .u32 8 x0.s] [] sz192 rfl rfl (fl_cons (one_av _ _ _) fl_nil) hI rfl hA rfl rfl rfl rfl fun w hI => ?_
    refine o_nil ?_
    refine hN5 _ _ ?_
    refine w_ret ?_
    obtain rfl := Option.some.inj (bS H)
    exact retc Tryd.underlying192 rfl sz192 rfl hI (j := 0) rfl hA Tryd.results156 rfl ⟨_, rfl, rfl, hp1, ((hI.sel [1, 2] (by decide) rfl).less (Store.le.refl _) hI.le)⟩
set_option maxRecDepth 20000 in
theorem digest_turn.c (μ : Store) (w0 : World) (hμ : Agr μ w0) (x0 : Int) (hx0 : InR .u32 x0) (x1 : Int) (hx1 : InR .i64 x1) (r : Int) (H : digest_turn.f x0 x1 = some r) :
    Calls Tryd.prog 161 [.int .u32 x0, .int .i64 x1].toArray w0 (fun e w' => ∃ v, e = .returned v ∧ v = .int .u32 r ∧ InR .u32 r ∧ Iv w0 [] μ μ [] w') := by
  refine enter Tryd.func161 rfl Tryd.ntmps161 rfl fun a hA => ?_
  have hI := Iv.start hμ
  have H := bI H
  refine w_seq fun _ hN1 => ?_
  refine w_reg ?_
  refine stp hA (r_as hA rfl) rfl fun a hA => ?_
  refine o_nil ?_
  refine hN1 _ _ ?_
  refine w_seq fun _ hN2 => ?_
  refine w_reg ?_
  refine stp hA (r_mv hA rfl) rfl fun a hA => 
    stp hA (r_mv hA rfl) rfl fun a hA => 
    stp hA (r_neg hA rfl) rfl fun a hA => ?_
  obtain ⟨r1, hr1, H⟩ := bB H
  refine o_callp (u := .int .u32 r1) cf162 hA rfl hI (math_bits_RotateLeft32.c μ _ hI.agr x0 hx0 (IntKind.i64.wrap (0 - x1)) (wrap_in _ _) r1 hr1) rfl fun a w hz1 hI hA => 
    stp hA (r_as hA rfl) rfl fun a hA => ?_
  refine o_nil ?_
  refine hN2 _ _ ?_
  refine w_ret ?_
  obtain rfl := Option.some.inj (bS H)
  exact ret1 hA Tryd.results161 rfl ⟨_, rfl, rfl, hz1, hI.forget0⟩
set_option maxRecDepth 20000 in
theorem digest_spread.c (μ : Store) (w0 : World) (hμ : Agr μ w0) (x0 : List Int) (u0 : Value) (hx0 : Slc (RI .u8) 1 μ u0 x0) (r : List Int) (H : digest_spread.f x0 = some r) :
    Calls Tryd.prog 159 [u0].toArray w0 (fun e w' => ∃ v, e = .returned v ∧ v = .agg [av .u32 64 r].flatten.toArray ∧ Arr .u32 64 r ∧ Iv w0 [] μ μ [] w') := by
  refine enter Tryd.func159 rfl Tryd.ntmps159 rfl fun a hA => ?_
  have hI := Iv.start hμ
  have H := bI H
  refine w_seq fun _ hN1 => ?_
  refine w_reg ?_
  refine o_new [av .u32 64 (List.replicate 64 0)] zr202 hI hA rfl fun g1 a w hA hI hg1 => ?_
  refine o_nil ?_
  refine hN1 _ _ ?_
  refine w_seq fun _ hN2 => ?_
  refine w_reg ?_
  refine o_new [av .u32 64 (List.replicate 64 0)] zr202 hI hA rfl fun g2 a w hA hI hg2 => ?_
  refine o_nil ?_
  refine hN2 _ _ ?_
  obtain ⟨c1, hz1, Hk1⟩ := bB H
  refine w_cut (fun a w => Arr .u32 64 c1 ∧ Fr a 80 [(0, u0), (2, .pointer (some ⟨g1, 0, none⟩)), (3, .pointer (some ⟨g2, 0, none⟩))] ∧ Iv w0 [] μ μ [cel g2 [av .u32 64 c1] 202, cel g1 [av .u32 64 (List.replicate 64 0)] 202] w) ?_ ?_
  · have H := bI hz1
    refine w_seq fun _ hN3 => ?_
    refine w_reg ?_
    refine stp hA (r_mv hA rfl) rfl fun a hA => ?_
    refine o_nil ?_
    refine hN3 _ _ ?_
    refine w_block ?_
    obtain ⟨z1, hz2, Hk2⟩ := bind_some H
    obtain ⟨n1, hn1⟩ := loopO_some hz2
    refine w_loop (fun n a w => ∃ (s1 : Int) (s2 : List Int), loopN (digest_spread.s0 x0) n (s1, s2) = some z1 ∧ InR .i64 s1 ∧ Arr .u32 64 s2 ∧ Fr a 80 [(0, u0), (2, .pointer (some ⟨g1, 0, none⟩)), (3, .pointer (some ⟨g2, 0, none⟩)), (8, .int .i64 s1)] ∧ Iv w0 [] μ μ [cel g2 [av .u32 64 s2] 202, cel g1 [av .u32 64 (List.replicate 64 0)] 202] w) n1 ⟨0, (List.replicate 64 0), hn1, (in_lit .i64 0 rfl), (arr_zero _ _), hA.sub ⟨rfl, rfl, rfl, rfl, trivial⟩, hI⟩ ?_
    clear hA hI
    rintro n a w ⟨s1, s2, hn1, ws1, ws2, hA, hI⟩
    obtain ⟨m1, rfl, H⟩ := loopN_bind hn1
    clear hn1
    refine w_seq fun _ hN4 => ?_
    refine w_reg ?_
    refine stp hA (r_lss hA rfl rfl) rfl fun a hA => ?_
    refine o_nil ?_
    refine hN4 _ _ ?_
    refine w_seq fun _ hN5 => ?_
    refine w_cond hA rfl (fun hc1 => ?_) (fun hc1 => ?_)
    · have hc10 := hc1; have hc1 := of_decide_eq_true hc1; have H := bT H hc1
      refine w_skip ?_
      refine hN5 _ _ ?_
      obtain ⟨c2, hz3, Hk3⟩ := bB H
      refine w_cut (fun a w => Arr .u32 64 c2 ∧ Fr a 80 [(0, u0), (2, .pointer (some ⟨g1, 0, none⟩)), (3, .pointer (some ⟨g2, 0, none⟩)), (8, .int .i64 s1), (9, .bool (decide (s1 < 64)))] ∧ Iv w0 [] μ μ [cel g2 [av .u32 64 c2] 202, cel g1 [av .u32 64 (List.replicate 64 0)] 202] w) ?_ ?_
      · have H := bI hz3
        refine w_block ?_
        refine w_seq fun _ hN6 => ?_
        refine w_reg ?_
        refine stp hA (r_mv hA rfl) rfl fun a hA => 
          stp hA (r_as hA rfl) rfl fun a hA => ?_
        refine o_nil ?_
        refine hN6 _ _ ?_
        refine w_seq fun _ hN7 => ?_
        refine w_seq fun _ hN8 => ?_
        refine w_reg ?_
        refine stp hA (r_mv hA rfl) rfl fun a hA => 
          stp hA (r_lss hA rfl rfl) rfl fun a hA => ?_
        refine o_nil ?_
        refine hN8 _ _ ?_
        refine w_cond hA rfl (fun hc2 => ?_) (fun hc2 => ?_)
        · have hc20 := hc2; have hc2 := of_decide_eq_true hc2; have H := bT H hc2
          refine w_seq fun _ hN9 => ?_
          refine w_reg ?_
          refine stp hA (r_mv hA rfl) rfl fun a hA => 
            stp hA (r_mv hA rfl) rfl fun a hA => 
            stp hA (r_mul hA rfl rfl) rfl fun a hA => ?_
          obtain ⟨hb1, H⟩ := bG H
          obtain ⟨v1, hS1, hr1⟩ := r_sl (P := Tryd.prog) (t := 23) (x := .tmp 13) (l := (some (.tmp 15))) (h := none) (i := IntKind.i64.wrap (4 * s1)) (j := (x0.length : Int)) Tryd.underlying23 sz5 hx0 hA rfl rfl rfl (by have hq := hb1; omega) (by have hq := hb1; omega) (by have hq := hb1; omega)
          refine stp hA (hr1 _ _ _ _ _ _) rfl fun a hA => 
            stp hA (r_as hA rfl) rfl fun a hA => ?_
          refine o_nil ?_
          refine hN9 _ _ ?_
          refine w_seq fun _ hN10 => ?_
          refine w_anyS [] mo (fun w (h : Iv w0 [] μ μ [cel g2 [av .u32 64 s2] 202, cel g1 [av .u32 64 (List.replicate 64 0)] 202] w) => (h.sel [1] (by decide) rfl : Iv w0 [] μ μ [cel g1 [av .u32 64 (List.replicate 64 0)] 202] w)) hI fun w hI => ?_
          refine g_easy (i := 0) hA rfl rfl (by kernel_rfl) (.inr (hI.sel [1] (by decide) rfl)) (fun _ => r_mv hA rfl) rfl fun a hA => ?_
          refine g_easy (i := 1) hA rfl rfl (by kernel_rfl) (.inr (hI.sel [1] (by decide) rfl)) (fun _ => r_mv hA rfl) rfl fun a hA => ?_
          obtain ⟨hb2, H⟩ := bG H
          obtain ⟨_, he1, _, hat1⟩ := Slc.elem1 hS1 (getD_some 0 (by decide) hb2)
          obtain ⟨rfl, hw1⟩ := he1
          obtain ⟨_, hsl1⟩ := Slc.sv hS1
          refine g_easy (i := 2) hA rfl rfl (by kernel_rfl) (.inr (hI.sel [1] (by decide) rfl)) (fun _ => r_six1 Tryd.underlying23 sz5 hsl1 hA rfl rfl (by decide) hb2) rfl fun a hA => ?_
          refine g_take (i := 3) hA rfl rfl (by kernel_rfl) (hI.sel [1] (by decide) rfl) (fun w hI => r_ldm1 [] [] Tryd.underlying5 rfl hI.agr hat1 hA rfl rfl) rfl fun a hA => ?_
          refine g_easy (i := 4) hA rfl rfl (by kernel_rfl) (.inr (hI.sel [1] (by decide) rfl)) (fun _ => r_conv Tryd.underlying5 Tryd.underlying39 hA rfl) rfl fun a hA => ?_
          refine g_easy (i := 5) hA rfl rfl (by kernel_rfl) (.inr (hI.sel [1] (by decide) rfl)) (fun _ => r_shl hA rfl rfl (by decide)) rfl fun a hA => ?_
          refine g_easy (i := 6) hA rfl rfl (by kernel_rfl) (.inr (hI.sel [1] (by decide) rfl)) (fun _ => r_mv hA rfl) rfl fun a hA => ?_
          obtain ⟨hb3, H⟩ := bG H
          obtain ⟨_, he2, _, hat2⟩ := Slc.elem1 hS1 (getD_some 0 (by decide) hb3)
          obtain ⟨rfl, hw2⟩ := he2
          obtain ⟨_, hsl2⟩ := Slc.sv hS1
          refine g_easy (i := 7) hA rfl rfl (by kernel_rfl) (.inr (hI.sel [1] (by decide) rfl)) (fun _ => r_six1 Tryd.underlying23 sz5 hsl2 hA rfl rfl (by decide) hb3) rfl fun a hA => ?_
          refine g_take (i := 8) hA rfl rfl (by kernel_rfl) (hI.sel [1] (by decide) rfl) (fun w hI => r_ldm1 [] [] Tryd.underlying5 rfl hI.agr hat2 hA rfl rfl) rfl fun a hA => ?_
          refine g_easy (i := 9) hA rfl rfl (by kernel_rfl) (.inr (hI.sel [1] (by decide) rfl)) (fun _ => r_conv Tryd.underlying5 Tryd.underlying39 hA rfl) rfl fun a hA => ?_
          refine g_easy (i := 10) hA rfl rfl (by kernel_rfl) (.inr (hI.sel [1] (by decide) rfl)) (fun _ => r_shl hA rfl rfl (by decide)) rfl fun a hA => ?_
          refine g_easy (i := 11) hA rfl rfl (by kernel_rfl) (.inr (hI.sel [1] (by decide) rfl)) (fun _ => r_or hA rfl rfl) rfl fun a hA => ?_
          refine g_easy (i := 12) hA rfl rfl (by kernel_rfl) (.inr (hI.sel [1] (by decide) rfl)) (fun _ => r_mv hA rfl) rfl fun a hA => ?_
          obtain ⟨hb4, H⟩ := bG H
          obtain ⟨_, he3, _, hat3⟩ := Slc.elem1 hS1 (getD_some 0 (by decide) hb4)
          obtain ⟨rfl, hw3⟩ := he3
          obtain ⟨_, hsl3⟩ := Slc.sv hS1
          refine g_easy (i := 13) hA rfl rfl (by kernel_rfl) (.inr (hI.sel [1] (by decide) rfl)) (fun _ => r_six1 Tryd.underlying23 sz5 hsl3 hA rfl rfl (by decide) hb4) rfl fun a hA => ?_
          refine g_take (i := 14) hA rfl rfl (by kernel_rfl) (hI.sel [1] (by decide) rfl) (fun w hI => r_ldm1 [] [] Tryd.underlying5 rfl hI.agr hat3 hA rfl rfl) rfl fun a hA => ?_
          refine g_easy (i := 15) hA rfl rfl (by kernel_rfl) (.inr (hI.sel [1] (by decide) rfl)) (fun _ => r_conv Tryd.underlying5 Tryd.underlying39 hA rfl) rfl fun a hA => ?_
          refine g_easy (i := 16) hA rfl rfl (by kernel_rfl) (.inr (hI.sel [1] (by decide) rfl)) (fun _ => r_shl hA rfl rfl (by decide)) rfl fun a hA => ?_
          refine g_easy (i := 17) hA rfl rfl (by kernel_rfl) (.inr (hI.sel [1] (by decide) rfl)) (fun _ => r_or hA rfl rfl) rfl fun a hA => ?_
          refine g_easy (i := 18) hA rfl rfl (by kernel_rfl) (.inr (hI.sel [1] (by decide) rfl)) (fun _ => r_mv hA rfl) rfl fun a hA => ?_
          obtain ⟨hb5, H⟩ := bG H
          obtain ⟨_, he4, _, hat4⟩ := Slc.elem1 hS1 (getD_some 0 (by decide) hb5)
          obtain ⟨rfl, hw4⟩ := he4
          obtain ⟨_, hsl4⟩ := Slc.sv hS1
          refine g_easy (i := 19) hA rfl rfl (by kernel_rfl) (.inr (hI.sel [1] (by decide) rfl)) (fun _ => r_six1 Tryd.underlying23 sz5 hsl4 hA rfl rfl (by decide) hb5) rfl fun a hA => ?_
          refine g_take (i := 20) hA rfl rfl (by kernel_rfl) (hI.sel [1] (by decide) rfl) (fun w hI => r_ldm1 [] [] Tryd.underlying5 rfl hI.agr hat4 hA rfl rfl) rfl fun a hA => ?_
          refine g_easy (i := 21) hA rfl rfl (by kernel_rfl) (.inr (hI.sel [1] (by decide) rfl)) (fun _ => r_conv Tryd.underlying5 Tryd.underlying39 hA rfl) rfl fun a hA => ?_
          refine g_easy (i := 22) hA rfl rfl (by kernel_rfl) (.inr (hI.sel [1] (by decide) rfl)) (fun _ => r_or hA rfl rfl) rfl fun a hA => ?_
          obtain ⟨hb6, H⟩ := bG H
          refine g_easy (i := 23) hA rfl rfl (by kernel_rfl) (.inr (hI.sel [1] (by decide) rfl)) (fun _ => r_ixar1 Tryd.underlying202 sz39 hA rfl rfl hb6.1 hb6.2) rfl fun a hA => ?_
          refine g_forced (i := 24) rfl (by kernel_rfl) ?_
          refine o_stE (j := 0) [] [] sz39 ws2.1 hI rfl hA rfl rfl rfl (by omega) fun w hI => ?_
          refine o_nil ?_
          refine ⟨(.inr (hI.sel [1] (by decide) rfl)), ?_⟩
          refine g_nil (by kernel_rfl) ?_
          refine hN10 _ _ ?_
          refine w_exit rfl ?_
          cases Option.some.inj (bS H)
          exact ⟨(arr_set ws2 _ (wrap_in _ _)), hA.sub ⟨rfl, rfl, rfl, rfl, rfl, trivial⟩, hI⟩
        · have hc20 := hc2; have hc2 := of_decide_eq_false hc2; have H := bF H hc2
          refine w_skip ?_
          refine hN7 _ _ ?_
          refine w_seq fun _ hN11 => ?_
          refine w_draw mo (by kernel_rfl) hI ?_
          refine qtp hA (fun _ hI => r_mv hA rfl) rfl fun a hA => 
            qtp hA (fun _ hI => r_sub hA rfl rfl) rfl fun a hA => ?_
          obtain ⟨hb7, H⟩ := bG H
          refine qtp hA (fun _ hI => r_ixar1 Tryd.underlying202 sz39 hA rfl rfl hb7.1 hb7.2) rfl fun a hA => 
            qtp hA (fun _ hI => r_ldE (j := 0) [] [] Tryd.underlying39 rfl hI rfl hA rfl rfl (by omega)) rfl fun a hA => 
            qtp hA (fun _ hI => r_mv hA rfl) rfl fun a hA => 
            qtp hA (fun _ hI => r_sub hA rfl rfl) rfl fun a hA => ?_
          obtain ⟨hb8, H⟩ := bG H
          refine qtp hA (fun _ hI => r_ixar1 Tryd.underlying202 sz39 hA rfl rfl hb8.1 hb8.2) rfl fun a hA => 
            qtp hA (fun _ hI => r_ldE (j := 0) [] [] Tryd.underlying39 rfl hI rfl hA rfl rfl (by omega)) rfl fun a hA => 
            qtp hA (fun _ hI => r_as hA rfl) rfl fun a hA => 
            qtp hA (fun _ hI => r_as hA rfl) rfl fun a hA => ?_
          refine q_nil fun w hI => ?_
          refine hN11 _ _ ?_
          refine w_any [29] mo hI fun w hI => ?_
          refine g_easy (i := 0) hA rfl rfl (by kernel_rfl) (.inr hI) (fun _ => r_mv hA rfl) rfl fun a hA => ?_
          refine g_easy (i := 1) hA rfl rfl (by kernel_rfl) (.inr hI) (fun _ => r_mv hA rfl) rfl fun a hA => ?_
          refine g_easy (i := 3) hA rfl rfl (by kernel_rfl) (.inr hI) (fun _ => r_mv hA rfl) rfl fun a hA => ?_
          refine g_easy (i := 6) hA rfl rfl (by kernel_rfl) (.inr hI) (fun _ => r_mv hA rfl) rfl fun a hA => ?_
          refine g_easy (i := 7) hA rfl rfl (by kernel_rfl) (.inr hI) (fun _ => r_shr hA rfl rfl (by decide)) rfl fun a hA => ?_
          refine g_easy (i := 9) hA rfl rfl (by kernel_rfl) (.inr hI) (fun _ => r_mv hA rfl) rfl fun a hA => ?_
          refine g_easy (i := 10) hA rfl rfl (by kernel_rfl) (.inr hI) (fun _ => r_sub hA rfl rfl) rfl fun a hA => ?_
          obtain ⟨hb9, H⟩ := bG H
          refine g_easy (i := 11) hA rfl rfl (by kernel_rfl) (.inr hI) (fun _ => r_ixar1 Tryd.underlying202 sz39 hA rfl rfl hb9.1 hb9.2) rfl fun a hA => ?_
          refine g_take (i := 12) hA rfl rfl (by kernel_rfl) hI (fun w hI => r_ldE (j := 0) [] [] Tryd.underlying39 rfl hI rfl hA rfl rfl (by omega)) rfl fun a hA => ?_
          refine g_easy (i := 14) hA rfl rfl (by kernel_rfl) (.inr hI) (fun _ => r_mv hA rfl) rfl fun a hA => ?_
          refine g_easy (i := 16) hA rfl rfl (by kernel_rfl) (.inr hI) (fun _ => r_mv hA rfl) rfl fun a hA => ?_
          refine g_easy (i := 19) hA rfl rfl (by kernel_rfl) (.inr hI) (fun _ => r_mv hA rfl) rfl fun a hA => ?_
          refine g_easy (i := 20) hA rfl rfl (by kernel_rfl) (.inr hI) (fun _ => r_shr hA rfl rfl (by decide)) rfl fun a hA => ?_
          refine g_easy (i := 23) hA rfl rfl (by kernel_rfl) (.inr hI) (fun _ => r_mv hA rfl) rfl fun a hA => ?_
          refine g_easy (i := 24) hA rfl rfl (by kernel_rfl) (.inr hI) (fun _ => r_sub hA rfl rfl) rfl fun a hA => ?_
          obtain ⟨hb10, H⟩ := bG H
          refine g_easy (i := 25) hA rfl rfl (by kernel_rfl) (.inr hI) (fun _ => r_ixar1 Tryd.underlying202 sz39 hA rfl rfl hb10.1 hb10.2) rfl fun a hA => ?_
          refine g_take (i := 26) hA rfl rfl (by kernel_rfl) hI (fun w hI => r_ldE (j := 0) [] [] Tryd.underlying39 rfl hI rfl hA rfl rfl (by omega)) rfl fun a hA => ?_
          refine g_forced (i := 2) rfl (by kernel_rfl) ?_
          obtain ⟨r1, hr2, H⟩ := bB H
          refine o_callp (u := .int .u32 r1) cf161 hA rfl hI (digest_turn.c μ _ hI.agr (s2.getD (IntKind.i64.wrap (s1 - 2)).toNat 0) (arr_get ws2 _) 17 (in_lit .i64 17 rfl) r1 hr2) rfl fun a w hz4 hI hA => ?_
          refine o_nil ?_
          refine ⟨(.inr hI), ?_⟩
          refine g_forced (i := 4) rfl (by kernel_rfl) ?_
          obtain ⟨r2, hr3, H⟩ := bB H
          refine o_callp (u := .int .u32 r2) cf161 hA rfl hI (digest_turn.c μ _ hI.agr (s2.getD (IntKind.i64.wrap (s1 - 2)).toNat 0) (arr_get ws2 _) 19 (in_lit .i64 19 rfl) r2 hr3) rfl fun a w hz5 hI hA => ?_
          refine o_nil ?_
          refine ⟨(.inr hI), ?_⟩
          refine g_easy (i := 5) hA rfl rfl (by kernel_rfl) (.inr hI) (fun _ => r_xor hA rfl rfl) rfl fun a hA => ?_
          refine g_easy (i := 8) hA rfl rfl (by kernel_rfl) (.inr hI) (fun _ => r_xor hA rfl rfl) rfl fun a hA => ?_
          refine g_easy (i := 13) hA rfl rfl (by kernel_rfl) (.inr hI) (fun _ => r_add hA rfl rfl) rfl fun a hA => ?_
          refine g_forced (i := 15) rfl (by kernel_rfl) ?_
          obtain ⟨r3, hr4, H⟩ := bB H
          refine o_callp (u := .int .u32 r3) cf161 hA rfl hI (digest_turn.c μ _ hI.agr (s2.getD (IntKind.i64.wrap (s1 - 15)).toNat 0) (arr_get ws2 _) 7 (in_lit .i64 7 rfl) r3 hr4) rfl fun a w hz6 hI hA => ?_
          refine o_nil ?_
          refine ⟨(.inr hI), ?_⟩
          refine g_forced (i := 17) rfl (by kernel_rfl) ?_
          obtain ⟨r4, hr5, H⟩ := bB H
          refine o_callp (u := .int .u32 r4) cf161 hA rfl hI (digest_turn.c μ _ hI.agr (s2.getD (IntKind.i64.wrap (s1 - 15)).toNat 0) (arr_get ws2 _) 18 (in_lit .i64 18 rfl) r4 hr5) rfl fun a w hz7 hI hA => ?_
          refine o_nil ?_
          refine ⟨(.inr hI), ?_⟩
          refine g_easy (i := 18) hA rfl rfl (by kernel_rfl) (.inr hI) (fun _ => r_xor hA rfl rfl) rfl fun a hA => ?_
          refine g_easy (i := 21) hA rfl rfl (by kernel_rfl) (.inr hI) (fun _ => r_xor hA rfl rfl) rfl fun a hA => ?_
          refine g_easy (i := 22) hA rfl rfl (by kernel_rfl) (.inr hI) (fun _ => r_add hA rfl rfl) rfl fun a hA => ?_
          refine g_easy (i := 27) hA rfl rfl (by kernel_rfl) (.inr hI) (fun _ => r_add hA rfl rfl) rfl fun a hA => ?_
          obtain ⟨hb11, H⟩ := bG H
          refine g_easy (i := 28) hA rfl rfl (by kernel_rfl) (.inr hI) (fun _ => r_ixar1 Tryd.underlying202 sz39 hA rfl rfl hb11.1 hb11.2) rfl fun a hA => ?_
          refine g_forced (i := 29) rfl (by kernel_rfl) ?_
          refine o_stE (j := 0) [] [] sz39 ws2.1 hI rfl hA rfl rfl rfl (by omega) fun w hI => ?_
          refine o_nil ?_
          refine ⟨(.inl (by kernel_rfl)), ?_⟩
          refine g_nil (by kernel_rfl) ?_
          cases Option.some.inj (bS H)
          exact ⟨(arr_set ws2 _ (wrap_in _ _)), hA.sub ⟨rfl, rfl, rfl, rfl, rfl, trivial⟩, hI⟩
      · rintro a w ⟨wc2, hA, hI⟩
        have H := Hk3
        refine w_reg ?_
        refine stp hA (r_add hA rfl rfl) rfl fun a hA => 
          stp hA (r_mv hA rfl) rfl fun a hA => ?_
        refine o_nil ?_
        exact ⟨m1, Nat.lt_succ_self _, IntKind.i64.wrap (s1 + 1), c2, H, (wrap_in _ _), wc2, hA.sub ⟨rfl, rfl, rfl, rfl, trivial⟩, hI⟩
    · have hc10 := hc1; have hc1 := of_decide_eq_false hc1; have H := bF H hc1
      refine w_exit rfl ?_
      have H : some s2 = some z1 := H
      obtain rfl := Option.some.inj H
      have H := Hk2
      cases Option.some.inj (bS H)
      exact ⟨ws2, hA.sub ⟨rfl, rfl, rfl, trivial⟩, hI⟩
  · rintro a w ⟨wc1, hA, hI⟩
    have H := Hk1
    refine w_seq fun _ hN12 => ?_
    refine w_reg ?_
    refine stp hA (r_ldA (j := 0) [] [av .u32 64 c1] [] Tryd.underlying202 rfl sz202 rfl hI rfl hA rfl rfl) rfl fun a hA => 
      o_st (j := 1) [] [av .u32 64 (List.replicate 64 0)] [av .u32 64 c1] [] sz202 rfl rfl (fl_cons (one_av _ _ _) fl_nil) hI rfl hA rfl rfl rfl rfl fun w hI => ?_
    refine o_nil ?_
    refine hN12 _ _ ?_
    refine w_ret ?_
    obtain rfl := Option.some.inj (bS H)
    exact retc Tryd.underlying202 rfl sz202 rfl hI (j := 1) rfl hA Tryd.results159 rfl ⟨_, rfl, rfl, wc1, hI.forget0⟩
set_option maxRecDepth 20000 in
theorem digest_keys.c (μ : Store) (w0 : World) (hμ : Agr μ w0) (r : List Int) (H : digest_keys.f = some r) :
    Calls Tryd.prog 160 [].toArray w0 (fun e w' => ∃ v, e = .returned v ∧ v = .agg [av .u32 64 r].flatten.toArray ∧ Arr .u32 64 r ∧ Iv w0 [] μ μ [] w') := by
  refine enter Tryd.func160 rfl Tryd.ntmps160 rfl fun a hA => ?_
  have hI := Iv.start hμ
  have H := bI H
  refine w_seq fun _ hN1 => ?_
  refine w_reg ?_
  refine o_new [av .u32 64 (List.replicate 64 0)] zr202 hI hA rfl fun g1 a w hA hI hg1 => ?_
  refine o_nil ?_
  refine hN1 _ _ ?_
  refine w_seq fun _ hN2 => ?_
  refine w_reg ?_
  refine stp hA (r_bldA (cs := [av .u32 64 digest_keys.lit0].flatten.toArray) (pv := numbered .u32 digest_keys.lit0) zr202 Tryd.underlying202 sz39 hA (by kernel_rfl) (by kernel_rfl)) rfl fun a hA => 
    o_st (j := 0) [] [av .u32 64 (List.replicate 64 0)] [av .u32 64 digest_keys.lit0] [] sz202 rfl rfl (fl_cons (one_av _ _ _) fl_nil) hI rfl hA rfl rfl rfl rfl fun w hI => ?_
  refine o_nil ?_
  refine hN2 _ _ ?_
  refine w_ret ?_
  obtain rfl := Option.some.inj (bS H)
  exact retc Tryd.underlying202 rfl sz202 rfl hI (j := 0) rfl hA Tryd.results160 rfl ⟨_, rfl, rfl, (arr_lit (by kernel_rfl) digest_keys.lit0_in), hI.forget0⟩
set_option maxRecDepth 20000 in
theorem digest_mix.c (μ : Store) (w0 : World) (hμ : Agr μ w0) (x0 : List Int) (hx0 : Arr .u32 8 x0) (x1 : List Int) (u1 : Value) (hx1 : Slc (RI .u8) 1 μ u1 x1) (r : List Int) (H : digest_mix.f x0 x1 = some r) :
    Calls Tryd.prog 157 [.agg [av .u32 8 x0].flatten.toArray, u1].toArray w0 (fun e w' => ∃ v, e = .returned v ∧ v = .agg [av .u32 8 r].flatten.toArray ∧ Arr .u32 8 r ∧ Iv w0 [] μ μ [] w') := by
  refine enter Tryd.func157 rfl Tryd.ntmps157 rfl fun a hA => ?_
  have hI := Iv.start hμ
  have H := bI H
  refine w_seq fun _ hN1 => ?_
  refine w_reg ?_
  refine o_box [av .u32 8 x0] hI hA rfl rfl rfl fun g1 a w hA hI hg1 => 
    o_new [av .u32 8 (List.replicate 8 0)] zr192 hI hA rfl fun g2 a w hA hI hg2 => ?_
  refine o_nil ?_
  refine hN1 _ _ ?_
  refine w_seq fun _ hN2 => ?_
  refine w_reg ?_
  refine stp hA (r_mv hA rfl) rfl fun a hA => ?_
  obtain ⟨r1, hr1, H⟩ := bB H
  refine o_callp (u := .agg [av .u32 64 r1].flatten.toArray) cf159 hA rfl hI (digest_spread.c μ _ hI.agr x1 u1 hx1 r1 hr1) rfl fun a w hz1 hI hA => ?_
  obtain ⟨r2, hr2, H⟩ := bB H
  refine o_callp (u := .agg [av .u32 64 r2].flatten.toArray) cf160 hA rfl hI (digest_keys.c μ _ hI.agr  r2 hr2) rfl fun a w hz2 hI hA => 
    o_new [av .u32 64 (List.replicate 64 0)] zr202 hI hA rfl fun g3 a w hA hI hg3 => 
    o_new [av .u32 64 (List.replicate 64 0)] zr202 hI hA rfl fun g4 a w hA hI hg4 => 
    o_st (j := 1) [] [av .u32 64 (List.replicate 64 0)] [av .u32 64 r1] [] sz202 rfl rfl (fl_cons (one_av _ _ _) fl_nil) hI rfl hA rfl rfl rfl rfl fun w hI => 
    o_st (j := 0) [] [av .u32 64 (List.replicate 64 0)] [av .u32 64 r2] [] sz202 rfl rfl (fl_cons (one_av _ _ _) fl_nil) hI rfl hA rfl rfl rfl rfl fun w hI => ?_
  refine o_nil ?_
  refine hN2 _ _ ?_
  refine w_seq fun _ hN3 => ?_
  refine w_reg ?_
  refine stp hA (r_ldA (j := 3) [] [av .u32 8 x0] [] Tryd.underlying192 rfl sz192 rfl hI rfl hA rfl rfl) rfl fun a hA => 
    o_new [av .u32 8 (List.replicate 8 0)] zr192 hI hA rfl fun g5 a w hA hI hg5 => 
    o_st (j := 0) [] [av .u32 8 (List.replicate 8 0)] [av .u32 8 x0] [] sz192 rfl rfl (fl_cons (one_av _ _ _) fl_nil) hI rfl hA rfl rfl rfl rfl fun w hI => ?_
  refine o_nil ?_
  refine hN3 _ _ ?_
  obtain ⟨c1, hz3, Hk1⟩ := bB H
  refine w_cut (fun a w => Arr .u32 8 c1 ∧ Fr a 111 [(0, .agg [av .u32 8 x0].flatten.toArray), (1, u1), (2, .pointer (some ⟨g1, 0, none⟩)), (4, .pointer (some ⟨g2, 0, none⟩)), (5, .pointer (some ⟨g3, 0, none⟩)), (6, .pointer (some ⟨g4, 0, none⟩)), (7, .pointer (some ⟨g5, 0, none⟩))] ∧ Iv w0 [] μ μ [cel g5 [av .u32 8 c1] 192, cel g4 [av .u32 64 r2] 202, cel g3 [av .u32 64 r1] 202, cel g2 [av .u32 8 (List.replicate 8 0)] 192, cel g1 [av .u32 8 x0] 192] w) ?_ ?_
  · have H := bI hz3
    refine w_seq fun _ hN4 => ?_
    refine w_reg ?_
    refine stp hA (r_mv hA rfl) rfl fun a hA => ?_
    refine o_nil ?_
    refine hN4 _ _ ?_
    refine w_block ?_
    obtain ⟨z1, hz4, Hk2⟩ := bind_some H
    obtain ⟨n1, hn1⟩ := loopO_some hz4
    refine w_loop (fun n a w => ∃ (s1 : Int) (s2 : List Int), loopN (digest_mix.s0 r1 r2) n (s1, s2) = some z1 ∧ InR .i64 s1 ∧ Arr .u32 8 s2 ∧ Fr a 111 [(0, .agg [av .u32 8 x0].flatten.toArray), (1, u1), (2, .pointer (some ⟨g1, 0, none⟩)), (4, .pointer (some ⟨g2, 0, none⟩)), (5, .pointer (some ⟨g3, 0, none⟩)), (6, .pointer (some ⟨g4, 0, none⟩)), (7, .pointer (some ⟨g5, 0, none⟩)), (18, .int .i64 s1)] ∧ Iv w0 [] μ μ [cel g5 [av .u32 8 s2] 192, cel g4 [av .u32 64 r2] 202, cel g3 [av .u32 64 r1] 202, cel g2 [av .u32 8 (List.replicate 8 0)] 192, cel g1 [av .u32 8 x0] 192] w) n1 ⟨0, x0, hn1, (in_lit .i64 0 rfl), hx0, hA.sub ⟨rfl, rfl, rfl, rfl, rfl, rfl, rfl, rfl, trivial⟩, hI⟩ ?_
    clear hA hI
    rintro n a w ⟨s1, s2, hn1, ws1, ws2, hA, hI⟩
    obtain ⟨m1, rfl, H⟩ := loopN_bind hn1
    clear hn1
    refine w_seq fun _ hN5 => ?_
    refine w_reg ?_
    refine stp hA (r_lss hA rfl rfl) rfl fun a hA => ?_
    refine o_nil ?_
    refine hN5 _ _ ?_
    refine w_seq fun _ hN6 => ?_
    refine w_cond hA rfl (fun hc1 => ?_) (fun hc1 => ?_)
    · have hc10 := hc1; have hc1 := of_decide_eq_true hc1; have H := bT H hc1
      refine w_skip ?_
      refine hN6 _ _ ?_
      refine w_seq fun _ hN7 => ?_
      refine w_block ?_
      refine w_seq fun _ hN8 => ?_
      refine w_reg ?_
      refine stp hA (r_mv hA rfl) rfl fun a hA => 
        stp hA (r_as hA rfl) rfl fun a hA => ?_
      refine o_nil ?_
      refine hN8 _ _ ?_
      refine w_seq fun _ hN9 => ?_
      refine w_draw mo (by kernel_rfl) hI ?_
      refine qtp hA (fun _ hI => r_ixar1 Tryd.underlying192 sz39 hA rfl rfl (by decide) (by decide)) rfl fun a hA => 
        qtp hA (fun _ hI => r_ldE (j := 0) [] [] Tryd.underlying39 rfl hI rfl hA rfl rfl (by decide)) rfl fun a hA => 
        qtp hA (fun _ hI => r_ixar1 Tryd.underlying192 sz39 hA rfl rfl (by decide) (by decide)) rfl fun a hA => 
        qtp hA (fun _ hI => r_ldE (j := 0) [] [] Tryd.underlying39 rfl hI rfl hA rfl rfl (by decide)) rfl fun a hA => 
        qtp hA (fun _ hI => r_as hA rfl) rfl fun a hA => 
        qtp hA (fun _ hI => r_as hA rfl) rfl fun a hA => ?_
      refine q_nil fun w hI => ?_
      refine hN9 _ _ ?_
      refine w_seq fun _ hN10 => ?_
      refine w_draw mo (by kernel_rfl) hI ?_
      refine qtp hA (fun _ hI => r_ixar1 Tryd.underlying192 sz39 hA rfl rfl (by decide) (by decide)) rfl fun a hA => 
        qtp hA (fun _ hI => r_ldE (j := 0) [] [] Tryd.underlying39 rfl hI rfl hA rfl rfl (by decide)) rfl fun a hA => 
        qtp hA (fun _ hI => r_mv hA rfl) rfl fun a hA => ?_
      obtain ⟨r3, hr3, H⟩ := bB H
      refine qcall (v := .int .u32 r3) cf161 hA rfl (fun _ hI => plq (digest_turn.c μ _ hI.agr (s2.getD (4 : Int).toNat 0) (arr_get ws2 _) 6 (in_lit .i64 6 rfl) r3 hr3) hI) rfl fun a hA => 
        qtp hA (fun _ hI => r_mv hA rfl) rfl fun a hA => ?_
      obtain ⟨r4, hr4, H⟩ := bB H
      refine qcall (v := .int .u32 r4) cf161 hA rfl (fun _ hI => plq (digest_turn.c μ _ hI.agr (s2.getD (4 : Int).toNat 0) (arr_get ws2 _) 11 (in_lit .i64 11 rfl) r4 hr4) hI) rfl fun a hA => 
        qtp hA (fun _ hI => r_xor hA rfl rfl) rfl fun a hA => 
        qtp hA (fun _ hI => r_mv hA rfl) rfl fun a hA => ?_
      obtain ⟨r5, hr5, H⟩ := bB H
      refine qcall (v := .int .u32 r5) cf161 hA rfl (fun _ hI => plq (digest_turn.c μ _ hI.agr (s2.getD (4 : Int).toNat 0) (arr_get ws2 _) 25 (in_lit .i64 25 rfl) r5 hr5) hI) rfl fun a hA => 
        qtp hA (fun _ hI => r_xor hA rfl rfl) rfl fun a hA => 
        qtp hA (fun _ hI => r_add hA rfl rfl) rfl fun a hA => 
        qtp hA (fun _ hI => r_mv hA rfl) rfl fun a hA => 
        qtp hA (fun _ hI => r_ixar1 Tryd.underlying192 sz39 hA rfl rfl (by decide) (by decide)) rfl fun a hA => 
        qtp hA (fun _ hI => r_ldE (j := 0) [] [] Tryd.underlying39 rfl hI rfl hA rfl rfl (by decide)) rfl fun a hA => 
        qtp hA (fun _ hI => r_and hA rfl rfl) rfl fun a hA => 
        qtp hA (fun _ hI => r_mv hA rfl) rfl fun a hA => 
        qtp hA (fun _ hI => r_inv hA rfl) rfl fun a hA => 
        qtp hA (fun _ hI => r_ixar1 Tryd.underlying192 sz39 hA rfl rfl (by decide) (by decide)) rfl fun a hA => 
        qtp hA (fun _ hI => r_ldE (j := 0) [] [] Tryd.underlying39 rfl hI rfl hA rfl rfl (by decide)) rfl fun a hA => 
        qtp hA (fun _ hI => r_and hA rfl rfl) rfl fun a hA => 
        qtp hA (fun _ hI => r_xor hA rfl rfl) rfl fun a hA => 
        qtp hA (fun _ hI => r_add hA rfl rfl) rfl fun a hA => 
        qtp hA (fun _ hI => r_mv hA rfl) rfl fun a hA => ?_
      obtain ⟨hb1, H⟩ := bG H
      refine qtp hA (fun _ hI => r_ixar1 Tryd.underlying202 sz39 hA rfl rfl hb1.1 hb1.2) rfl fun a hA => 
        qtp hA (fun _ hI => r_ldE (j := 1) [] [] Tryd.underlying39 rfl hI rfl hA rfl rfl (by omega)) rfl fun a hA => 
        qtp hA (fun _ hI => r_add hA rfl rfl) rfl fun a hA => 
        qtp hA (fun _ hI => r_mv hA rfl) rfl fun a hA => 
        qtp hA (fun _ hI => r_ixar1 Tryd.underlying202 sz39 hA rfl rfl hb1.1 hb1.2) rfl fun a hA => 
        qtp hA (fun _ hI => r_ldE (j := 2) [] [] Tryd.underlying39 rfl hI rfl hA rfl rfl (by omega)) rfl fun a hA => 
        qtp hA (fun _ hI => r_add hA rfl rfl) rfl fun a hA => 
        qtp hA (fun _ hI => r_as hA rfl) rfl fun a hA => ?_
      refine q_nil fun w hI => ?_
      refine hN10 _ _ ?_
      refine w_seq fun _ hN11 => ?_
      refine w_draw mo (by kernel_rfl) hI ?_
      refine qtp hA (fun _ hI => r_mv hA rfl) rfl fun a hA => ?_
      obtain ⟨r6, hr6, H⟩ := bB H
      refine qcall (v := .int .u32 r6) cf161 hA rfl (fun _ hI => plq (digest_turn.c μ _ hI.agr (s2.getD (0 : Int).toNat 0) (arr_get ws2 _) 2 (in_lit .i64 2 rfl) r6 hr6) hI) rfl fun a hA => 
        qtp hA (fun _ hI => r_mv hA rfl) rfl fun a hA => ?_
      obtain ⟨r7, hr7, H⟩ := bB H
      refine qcall (v := .int .u32 r7) cf161 hA rfl (fun _ hI => plq (digest_turn.c μ _ hI.agr (s2.getD (0 : Int).toNat 0) (arr_get ws2 _) 13 (in_lit .i64 13 rfl) r7 hr7) hI) rfl fun a hA => 
        qtp hA (fun _ hI => r_xor hA rfl rfl) rfl fun a hA => 
        qtp hA (fun _ hI => r_mv hA rfl) rfl fun a hA => ?_
      obtain ⟨r8, hr8, H⟩ := bB H
      refine qcall (v := .int .u32 r8) cf161 hA rfl (fun _ hI => plq (digest_turn.c μ _ hI.agr (s2.getD (0 : Int).toNat 0) (arr_get ws2 _) 22 (in_lit .i64 22 rfl) r8 hr8) hI) rfl fun a hA => 
        qtp hA (fun _ hI => r_xor hA rfl rfl) rfl fun a hA => 
        qtp hA (fun _ hI => r_mv hA rfl) rfl fun a hA => 
        qtp hA (fun _ hI => r_ixar1 Tryd.underlying192 sz39 hA rfl rfl (by decide) (by decide)) rfl fun a hA => 
        qtp hA (fun _ hI => r_ldE (j := 0) [] [] Tryd.underlying39 rfl hI rfl hA rfl rfl (by decide)) rfl fun a hA => 
        qtp hA (fun _ hI => r_and hA rfl rfl) rfl fun a hA => 
        qtp hA (fun _ hI => r_mv hA rfl) rfl fun a hA => 
        qtp hA (fun _ hI => r_ixar1 Tryd.underlying192 sz39 hA rfl rfl (by decide) (by decide)) rfl fun a hA => 
        qtp hA (fun _ hI => r_ldE (j := 0) [] [] Tryd.underlying39 rfl hI rfl hA rfl rfl (by decide)) rfl fun a hA => 
        qtp hA (fun _ hI => r_and hA rfl rfl) rfl fun a hA => 
        qtp hA (fun _ hI => r_xor hA rfl rfl) rfl fun a hA => 
        qtp hA (fun _ hI => r_ixar1 Tryd.underlying192 sz39 hA rfl rfl (by decide) (by decide)) rfl fun a hA => 
        qtp hA (fun _ hI => r_ldE (j := 0) [] [] Tryd.underlying39 rfl hI rfl hA rfl rfl (by decide)) rfl fun a hA => 
        qtp hA (fun _ hI => r_ixar1 Tryd.underlying192 sz39 hA rfl rfl (by decide) (by decide)) rfl fun a hA => 
        qtp hA (fun _ hI => r_ldE (j := 0) [] [] Tryd.underlying39 rfl hI rfl hA rfl rfl (by decide)) rfl fun a hA => 
        qtp hA (fun _ hI => r_and hA rfl rfl) rfl fun a hA => 
        qtp hA (fun _ hI => r_xor hA rfl rfl) rfl fun a hA => 
        qtp hA (fun _ hI => r_add hA rfl rfl) rfl fun a hA => 
        qtp hA (fun _ hI => r_as hA rfl) rfl fun a hA => ?_
      refine q_nil fun w hI => ?_
      refine hN11 _ _ ?_
      refine w_reg ?_
      refine stp hA (r_mv hA rfl) rfl fun a hA => 
        stp hA (r_mv hA rfl) rfl fun a hA => 
        stp hA (r_add hA rfl rfl) rfl fun a hA => 
        stp hA (r_mv hA rfl) rfl fun a hA => 
        stp hA (r_ixar1 Tryd.underlying192 sz39 hA rfl rfl (by decide) (by decide)) rfl fun a hA => 
        stp hA (r_ldE (j := 0) [] [] Tryd.underlying39 rfl hI rfl hA rfl rfl (by decide)) rfl fun a hA => 
        stp hA (r_ixar1 Tryd.underlying192 sz39 hA rfl rfl (by decide) (by decide)) rfl fun a hA => 
        stp hA (r_ldE (j := 0) [] [] Tryd.underlying39 rfl hI rfl hA rfl rfl (by decide)) rfl fun a hA => 
        stp hA (r_ixar1 Tryd.underlying192 sz39 hA rfl rfl (by decide) (by decide)) rfl fun a hA => 
        stp hA (r_ldE (j := 0) [] [] Tryd.underlying39 rfl hI rfl hA rfl rfl (by decide)) rfl fun a hA => 
        stp hA (r_mv hA rfl) rfl fun a hA => 
        stp hA (r_add hA rfl rfl) rfl fun a hA => 
        stp hA (r_mv hA rfl) rfl fun a hA => 
        stp hA (r_ixar1 Tryd.underlying192 sz39 hA rfl rfl (by decide) (by decide)) rfl fun a hA => 
        stp hA (r_ldE (j := 0) [] [] Tryd.underlying39 rfl hI rfl hA rfl rfl (by decide)) rfl fun a hA => 
        stp hA (r_ixar1 Tryd.underlying192 sz39 hA rfl rfl (by decide) (by decide)) rfl fun a hA => 
        stp hA (r_ldE (j := 0) [] [] Tryd.underlying39 rfl hI rfl hA rfl rfl (by decide)) rfl fun a hA => 
        stp hA (r_bldA (cs := [av .u32 8 ([IntKind.u32.wrap ((IntKind.u32.wrap ((IntKind.u32.wrap ((IntKind.u32.wrap ((IntKind.u32.wrap ((s2.getD (7 : Int).toNat 0) + (bXor .u32 (bXor .u32 r3 r4) r5))) + (bXor .u32 (bAnd .u32 (s2.getD (4 : Int).toNat 0) (s2.getD (5 : Int).toNat 0)) (bAnd .u32 (bNot .u32 (s2.getD (4 : Int).toNat 0)) (s2.getD (6 : Int).toNat 0))))) + (r2.getD s1.toNat 0))) + (r1.getD s1.toNat 0))) + (IntKind.u32.wrap ((bXor .u32 (bXor .u32 r6 r7) r8) + (bXor .u32 (bXor .u32 (bAnd .u32 (s2.getD (0 : Int).toNat 0) (s2.getD (1 : Int).toNat 0)) (bAnd .u32 (s2.getD (0 : Int).toNat 0) (s2.getD (2 : Int).toNat 0))) (bAnd .u32 (s2.getD (1 : Int).toNat 0) (s2.getD (2 : Int).toNat 0)))))), s2.getD (0 : Int).toNat 0, s2.getD (1 : Int).toNat 0, s2.getD (2 : Int).toNat 0, IntKind.u32.wrap ((s2.getD (3 : Int).toNat 0) + (IntKind.u32.wrap ((IntKind.u32.wrap ((IntKind.u32.wrap ((IntKind.u32.wrap ((s2.getD (7 : Int).toNat 0) + (bXor .u32 (bXor .u32 r3 r4) r5))) + (bXor .u32 (bAnd .u32 (s2.getD (4 : Int).toNat 0) (s2.getD (5 : Int).toNat 0)) (bAnd .u32 (bNot .u32 (s2.getD (4 : Int).toNat 0)) (s2.getD (6 : Int).toNat 0))))) + (r2.getD s1.toNat 0))) + (r1.getD s1.toNat 0)))), s2.getD (4 : Int).toNat 0, s2.getD (5 : Int).toNat 0, s2.getD (6 : Int).toNat 0])].flatten.toArray) zr192 Tryd.underlying192 sz39 hA rfl (by kernel_rfl)) rfl fun a hA => 
        o_st (j := 0) [] [av .u32 8 s2] [av .u32 8 ([IntKind.u32.wrap ((IntKind.u32.wrap ((IntKind.u32.wrap ((IntKind.u32.wrap ((IntKind.u32.wrap ((s2.getD (7 : Int).toNat 0) + (bXor .u32 (bXor .u32 r3 r4) r5))) + (bXor .u32 (bAnd .u32 (s2.getD (4 : Int).toNat 0) (s2.getD (5 : Int).toNat 0)) (bAnd .u32 (bNot .u32 (s2.getD (4 : Int).toNat 0)) (s2.getD (6 : Int).toNat 0))))) + (r2.getD s1.toNat 0))) + (r1.getD s1.toNat 0))) + (IntKind.u32.wrap ((bXor .u32 (bXor .u32 r6 r7) r8) + (bXor .u32 (bXor .u32 (bAnd .u32 (s2.getD (0 : Int).toNat 0) (s2.getD (1 : Int).toNat 0)) (bAnd .u32 (s2.getD (0 : Int).toNat 0) (s2.getD (2 : Int).toNat 0))) (bAnd .u32 (s2.getD (1 : Int).toNat 0) (s2.getD (2 : Int).toNat 0)))))), s2.getD (0 : Int).toNat 0, s2.getD (1 : Int).toNat 0, s2.getD (2 : Int).toNat 0, IntKind.u32.wrap ((s2.getD (3 : Int).toNat 0) + (IntKind.u32.wrap ((IntKind.u32.wrap ((IntKind.u32.wrap ((IntKind.u32.wrap ((s2.getD (7 : Int).toNat 0) + (bXor .u32 (bXor .u32 r3 r4) r5))) + (bXor .u32 (bAnd .u32 (s2.getD (4 : Int).toNat 0) (s2.getD (5 : Int).toNat 0)) (bAnd .u32 (bNot .u32 (s2.getD (4 : Int).toNat 0)) (s2.getD (6 : Int).toNat 0))))) + (r2.getD s1.toNat 0))) + (r1.getD s1.toNat 0)))), s2.getD (4 : Int).toNat 0, s2.getD (5 : Int).toNat 0, s2.getD (6 : Int).toNat 0])] [] sz192 rfl rfl (fl_cons (one_av _ _ _) fl_nil) hI rfl hA rfl rfl rfl rfl fun w hI => ?_
      refine o_nil ?_
      refine hN7 _ _ ?_
      refine w_reg ?_
      refine stp hA (r_add hA rfl rfl) rfl fun a hA => 
        stp hA (r_mv hA rfl) rfl fun a hA => ?_
      refine o_nil ?_
      exact ⟨m1, Nat.lt_succ_self _, IntKind.i64.wrap (s1 + 1), [IntKind.u32.wrap ((IntKind.u32.wrap ((IntKind.u32.wrap ((IntKind.u32.wrap ((IntKind.u32.wrap ((s2.getD (7 : Int).toNat 0) + (bXor .u32 (bXor .u32 r3 r4) r5))) + (bXor .u32 (bAnd .u32 (s2.getD (4 : Int).toNat 0) (s2.getD (5 : Int).toNat 0)) (bAnd .u32 (bNot .u32 (s2.getD (4 : Int).toNat 0)) (s2.getD (6 : Int).toNat 0))))) + (r2.getD s1.toNat 0))) + (r1.getD s1.toNat 0))) + (IntKind.u32.wrap ((bXor .u32 (bXor .u32 r6 r7) r8) + (bXor .u32 (bXor .u32 (bAnd .u32 (s2.getD (0 : Int).toNat 0) (s2.getD (1 : Int).toNat 0)) (bAnd .u32 (s2.getD (0 : Int).toNat 0) (s2.getD (2 : Int).toNat 0))) (bAnd .u32 (s2.getD (1 : Int).toNat 0) (s2.getD (2 : Int).toNat 0)))))), s2.getD (0 : Int).toNat 0, s2.getD (1 : Int).toNat 0, s2.getD (2 : Int).toNat 0, IntKind.u32.wrap ((s2.getD (3 : Int).toNat 0) + (IntKind.u32.wrap ((IntKind.u32.wrap ((IntKind.u32.wrap ((IntKind.u32.wrap ((s2.getD (7 : Int).toNat 0) + (bXor .u32 (bXor .u32 r3 r4) r5))) + (bXor .u32 (bAnd .u32 (s2.getD (4 : Int).toNat 0) (s2.getD (5 : Int).toNat 0)) (bAnd .u32 (bNot .u32 (s2.getD (4 : Int).toNat 0)) (s2.getD (6 : Int).toNat 0))))) + (r2.getD s1.toNat 0))) + (r1.getD s1.toNat 0)))), s2.getD (4 : Int).toNat 0, s2.getD (5 : Int).toNat 0, s2.getD (6 : Int).toNat 0], H, (wrap_in _ _), (arr_lit rfl (by simp only [List.forall_mem_cons]; exact ⟨(wrap_in _ _), (arr_get ws2 _), (arr_get ws2 _), (arr_get ws2 _), (wrap_in _ _), (arr_get ws2 _), (arr_get ws2 _), (arr_get ws2 _), by simp⟩)), hA.sub ⟨rfl, rfl, rfl, rfl, rfl, rfl, rfl, rfl, trivial⟩, hI⟩
    · have hc10 := hc1; have hc1 := of_decide_eq_false hc1; have H := bF H hc1
      refine w_exit rfl ?_
      have H : some s2 = some z1 := H
      obtain rfl := Option.some.inj H
      have H := Hk2
      cases Option.some.inj (bS H)
      exact ⟨ws2, hA.sub ⟨rfl, rfl, rfl, rfl, rfl, rfl, rfl, trivial⟩, hI⟩
  · rintro a w ⟨wc1, hA, hI⟩
    have H := Hk1
    obtain ⟨c2, hz11, Hk3⟩ := bB H
    refine w_cut (fun a w => Arr .u32 8 c2 ∧ Fr a 111 [(0, .agg [av .u32 8 x0].flatten.toArray), (1, u1), (2, .pointer (some ⟨g1, 0, none⟩)), (4, .pointer (some ⟨g2, 0, none⟩)), (5, .pointer (some ⟨g3, 0, none⟩)), (6, .pointer (some ⟨g4, 0, none⟩)), (7, .pointer (some ⟨g5, 0, none⟩))] ∧ Iv w0 [] μ μ [cel g5 [av .u32 8 c1] 192, cel g4 [av .u32 64 r2] 202, cel g3 [av .u32 64 r1] 202, cel g2 [av .u32 8 (List.replicate 8 0)] 192, cel g1 [av .u32 8 c2] 192] w) ?_ ?_
    · have H := bI hz11
      refine w_seq fun _ hN12 => ?_
      refine w_reg ?_
      refine stp hA (r_mv hA rfl) rfl fun a hA => ?_
      refine o_nil ?_
      refine hN12 _ _ ?_
      refine w_block ?_
      obtain ⟨z2, hz12, Hk4⟩ := bind_some H
      obtain ⟨n2, hn2⟩ := loopO_some hz12
      refine w_loop (fun n a w => ∃ (s3 : Int) (s4 : List Int), loopN (digest_mix.s1 c1) n (s3, s4) = some z2 ∧ InR .i64 s3 ∧ Arr .u32 8 s4 ∧ Fr a 111 [(0, .agg [av .u32 8 x0].flatten.toArray), (1, u1), (2, .pointer (some ⟨g1, 0, none⟩)), (4, .pointer (some ⟨g2, 0, none⟩)), (5, .pointer (some ⟨g3, 0, none⟩)), (6, .pointer (some ⟨g4, 0, none⟩)), (7, .pointer (some ⟨g5, 0, none⟩)), (98, .int .i64 s3)] ∧ Iv w0 [] μ μ [cel g5 [av .u32 8 c1] 192, cel g4 [av .u32 64 r2] 202, cel g3 [av .u32 64 r1] 202, cel g2 [av .u32 8 (List.replicate 8 0)] 192, cel g1 [av .u32 8 s4] 192] w) n2 ⟨0, x0, hn2, (in_lit .i64 0 rfl), hx0, hA.sub ⟨rfl, rfl, rfl, rfl, rfl, rfl, rfl, rfl, trivial⟩, hI⟩ ?_
      clear hA hI
      rintro n a w ⟨s3, s4, hn2, ws3, ws4, hA, hI⟩
      obtain ⟨m2, rfl, H⟩ := loopN_bind hn2
      clear hn2
      refine w_seq fun _ hN13 => ?_
      refine w_reg ?_
      refine stp hA (r_lss hA rfl rfl) rfl fun a hA => ?_
      refine o_nil ?_
      refine hN13 _ _ ?_
      refine w_seq fun _ hN14 => ?_
      refine w_cond hA rfl (fun hc2 => ?_) (fun hc2 => ?_)
      · have hc20 := hc2; have hc2 := of_decide_eq_true hc2; have H := bT H hc2
        refine w_skip ?_
        refine hN14 _ _ ?_
        refine w_seq fun _ hN15 => ?_
        refine w_block ?_
        refine w_seq fun _ hN16 => ?_
        refine w_reg ?_
        refine stp hA (r_mv hA rfl) rfl fun a hA => 
          stp hA (r_as hA rfl) rfl fun a hA => ?_
        refine o_nil ?_
        refine hN16 _ _ ?_
        refine w_any [8] mo hI fun w hI => ?_
        refine g_easy (i := 0) hA rfl rfl (by kernel_rfl) (.inr hI) (fun _ => r_mv hA rfl) rfl fun a hA => ?_
        obtain ⟨hb2, H⟩ := bG H
        refine g_easy (i := 1) hA rfl rfl (by kernel_rfl) (.inr hI) (fun _ => r_ixar1 Tryd.underlying192 sz39 hA rfl rfl hb2.1 hb2.2) rfl fun a hA => ?_
        refine g_take (i := 2) hA rfl rfl (by kernel_rfl) hI (fun w hI => r_ldE (j := 4) [] [] Tryd.underlying39 rfl hI rfl hA rfl rfl (by omega)) rfl fun a hA => ?_
        refine g_easy (i := 3) hA rfl rfl (by kernel_rfl) (.inr hI) (fun _ => r_mv hA rfl) rfl fun a hA => ?_
        refine g_easy (i := 4) hA rfl rfl (by kernel_rfl) (.inr hI) (fun _ => r_ixar1 Tryd.underlying192 sz39 hA rfl rfl hb2.1 hb2.2) rfl fun a hA => ?_
        refine g_take (i := 5) hA rfl rfl (by kernel_rfl) hI (fun w hI => r_ldE (j := 0) [] [] Tryd.underlying39 rfl hI rfl hA rfl rfl (by omega)) rfl fun a hA => ?_
        refine g_easy (i := 6) hA rfl rfl (by kernel_rfl) (.inr hI) (fun _ => r_add hA rfl rfl) rfl fun a hA => ?_
        refine g_easy (i := 7) hA rfl rfl (by kernel_rfl) (.inr hI) (fun _ => r_ixar1 Tryd.underlying192 sz39 hA rfl rfl hb2.1 hb2.2) rfl fun a hA => ?_
        refine g_forced (i := 8) rfl (by kernel_rfl) ?_
        refine o_stE (j := 4) [] [] sz39 ws4.1 hI rfl hA rfl rfl rfl (by omega) fun w hI => ?_
        refine o_nil ?_
        refine ⟨(.inl (by kernel_rfl)), ?_⟩
        refine g_nil (by kernel_rfl) ?_
        refine hN15 _ _ ?_
        refine w_reg ?_
        refine stp hA (r_add hA rfl rfl) rfl fun a hA => 
          stp hA (r_mv hA rfl) rfl fun a hA => ?_
        refine o_nil ?_
        exact ⟨m2, Nat.lt_succ_self _, IntKind.i64.wrap (s3 + 1), s4.set s3.toNat (IntKind.u32.wrap ((s4.getD s3.toNat 0) + (c1.getD s3.toNat 0))), H, (wrap_in _ _), (arr_set ws4 _ (wrap_in _ _)), hA.sub ⟨rfl, rfl, rfl, rfl, rfl, rfl, rfl, rfl, trivial⟩, hI⟩
      · have hc20 := hc2; have hc2 := of_decide_eq_false hc2; have H := bF H hc2
        refine w_exit rfl ?_
        have H : some s4 = some z2 := H
        obtain rfl := Option.some.inj H
        have H := Hk4
        cases Option.some.inj (bS H)
        exact ⟨ws4, hA.sub ⟨rfl, rfl, rfl, rfl, rfl, rfl, rfl, trivial⟩, hI⟩
    · rintro a w ⟨wc2, hA, hI⟩
      have H := Hk3
      refine w_seq fun _ hN17 => ?_
      refine w_reg ?_
      refine stp hA (r_ldA (j := 4) [] [av .u32 8 c2] [] Tryd.underlying192 rfl sz192 rfl hI rfl hA rfl rfl) rfl fun a hA => 
        o_st (j := 3) [] [av .u32 8 (List.replicate 8 0)] [av .u32 8 c2] [] sz192 rfl rfl (fl_cons (one_av _ _ _) fl_nil) hI rfl hA rfl rfl rfl rfl fun w hI => ?_
      refine o_nil ?_
      refine hN17 _ _ ?_
      refine w_ret ?_
      obtain rfl := Option.some.inj (bS H)
      exact retc Tryd.underlying192 rfl sz192 rfl hI (j := 3) rfl hA Tryd.results157 rfl ⟨_, rfl, rfl, wc2, hI.forget0⟩
set_option maxRecDepth 20000 in
theorem digest_Writer_Write.c (μ : Store) (w0 : World) (hμ : Agr μ w0) (x0 : digestWriter) (vp1 : Value) (cp1 : List Value) (g0 : Nat) (hp1 : Arr .u32 8 x0.s) (hp2 : Els (RI .u8) 1 x0.rest cp1) (hp3 : InR .i64 x0.n) (ho0 : Its μ w0 [cel g0 [av .u32 8 x0.s, [vp1], [.int .i64 x0.n]] 194, row 5 1 vp1 x0.rest.length cp1]) (x1 : List Int) (u1 : Value) (hx1 : Slc (RI .u8) 1 μ u1 x1) (r : digestWriter) (H : digest_Writer_Write.f x0 x1 = some r) :
    Calls Tryd.prog 152 [.pointer (some ⟨g0, 0, none⟩), u1].toArray w0 (fun e w' => ∃ v, e = .returned v ∧ ∃ (vp_1 : Value) (cp_1 : List Value), v = .tuple #[] ∧ Arr .u32 8 r.s ∧ Els (RI .u8) 1 r.rest cp_1 ∧ InR .i64 r.n ∧ Iv w0 (many [cel g0 [av .u32 8 x0.s, [vp1], [.int .i64 x0.n]] 194, row 5 1 vp1 x0.rest.length cp1]).foot μ μ [cel g0 [av .u32 8 r.s, [vp_1], [.int .i64 r.n]] 194, row 5 1 vp_1 r.rest.length cp_1] w') := by
  refine enter Tryd.func152 rfl Tryd.ntmps152 rfl fun a hA => ?_
  have hI := Iv.startN hμ ho0
  have H := bI H
  refine w_seq fun _ hN1 => ?_
  refine w_reg ?_
  refine stp hA (r_mv hA rfl) rfl fun a hA => ?_
  obtain ⟨r1, hr1, H⟩ := bB H
  refine o_call _ cf156 hA rfl (digest_Writer_state.c μ _ hI.agr (⟨x0.s, x0.rest, x0.n⟩ : digestWriter) vp1 cp1 g0 hp1 hp2 hp3 (hI.handN 2) r1 hr1) rfl fun v1 a w hz1 hA => ?_
  obtain ⟨rfl, hw1, hi1⟩ := hz1
  have hI := hI.backN 2 hi1
  have hI : Iv w0 (many [cel g0 [av .u32 8 x0.s, [vp1], [.int .i64 x0.n]] 194, row 5 1 vp1 x0.rest.length cp1]).foot μ μ [cel g0 [av .u32 8 x0.s, [vp1], [.int .i64 x0.n]] 194, row 5 1 vp1 x0.rest.length cp1] w := hI
  refine o_new [av .u32 8 (List.replicate 8 0)] zr192 hI hA rfl fun g1 a w hA hI hg1 => 
    o_st (j := 0) [] [av .u32 8 (List.replicate 8 0)] [av .u32 8 r1] [] sz192 rfl rfl (fl_cons (one_av _ _ _) fl_nil) hI rfl hA rfl rfl rfl rfl fun w hI => ?_
  refine o_nil ?_
  refine hN1 _ _ ?_
  refine w_seq fun _ hN2 => ?_
  refine w_reg ?_
  refine stp hA (r_mv hA rfl) rfl fun a hA => 
    stp hA (r_nilc hA rfl) rfl fun a hA => 
    stp hA (r_fd (k := 9) Tryd.underlying194 rfl sz2 hA rfl rfl) rfl fun a hA => 
    stp hA (r_ld1 (j := 1) [av .u32 8 x0.s, [vp1]] [] Tryd.underlying2 rfl hI rfl hA rfl rfl) rfl fun a hA => 
    stp hA (r_mv hA rfl) rfl fun a hA => ?_
  obtain ⟨_, hsl1⟩ := Slc.sv hx1
  refine stp hA (r_slen Tryd.underlying23 hsl1 hA rfl) rfl fun a hA => 
    stp hA (r_add hA rfl rfl) rfl fun a hA => 
    stp hA (r_nilc hA rfl) rfl fun a hA => 
    stp hA (r_fd (k := 9) Tryd.underlying194 rfl sz2 hA rfl rfl) rfl fun a hA => 
    o_st (j := 1) [av .u32 8 x0.s, [vp1]] [[.int .i64 x0.n]] [[.int .i64 (IntKind.i64.wrap (x0.n + (x1.length : Int)))]] [] sz2 rfl rfl (fl_cons (one_one rfl) fl_nil) hI rfl hA rfl rfl rfl rfl fun w hI => ?_
  refine o_nil ?_
  refine hN2 _ _ ?_
  refine w_seq fun _ hN3 => ?_
  refine w_reg ?_
  refine stp hA (r_mv hA rfl) rfl fun a hA => 
    stp hA (r_mv hA rfl) rfl fun a hA => 
    stp hA (r_nilc hA rfl) rfl fun a hA => 
    stp hA (r_fd (k := 8) Tryd.underlying194 rfl sz23 hA rfl rfl) rfl fun a hA => 
    stp hA (r_ld1 (j := 1) [av .u32 8 x0.s] [[.int .i64 (IntKind.i64.wrap (x0.n + (x1.length : Int)))]] Tryd.underlying23 rfl hI rfl hA rfl rfl) rfl fun a hA => 
    stp hA (r_mv hA rfl) rfl fun a hA => ?_
  obtain ⟨cs1, hE1, hsv1⟩ : Slc (RI .u8) 1 μ u1 x1 := id (hx1)
  obtain ⟨hb1, H⟩ := bG H
  have hE2 := hp2.app hE1
  refine o_appL (xs := (x0.rest : List Int)) (ys := (x1 : List Int)) (j := 2) te5 Tryd.underlying23 hI rfl hA rfl rfl (src_sl hI.agr hsv1 hE1.len) hE1.len (hE1.ones (one_RI _)) (by first | decide | (have hq := hb1; (try simp only [List.length_cons, List.length_nil] at hq); (try simp only [List.length_cons, List.length_nil]); (try simp only [maxLen]); omega)) (by first | decide | (have hq := hb1; (try simp only [List.length_cons, List.length_nil] at hq); (try simp only [List.length_cons, List.length_nil]); (try simp only [maxLen]); omega)) rfl fun v2 a w hA hI => 
    stp hA (r_nilc hA rfl) rfl fun a hA => 
    stp hA (r_fd (k := 8) Tryd.underlying194 rfl sz23 hA rfl rfl) rfl fun a hA => ?_
  have hone := own_one hI (j := 2) rfl
  have hcel := own_cell hI (j := 2) rfl
  refine o_st (j := 1) [av .u32 8 x0.s] [[vp1]] [[v2]] [[.int .i64 (IntKind.i64.wrap (x0.n + (x1.length : Int)))]] sz23 rfl rfl (by intro c hc; simp at hc; subst hc; exact hone) hI rfl hA rfl rfl hcel rfl fun w hI => ?_
  refine o_nil ?_
  refine hN3 _ _ ?_
  refine w_seq fun _ hN4 => ?_
  refine w_reg ?_
  refine stp hA (r_as hA rfl) rfl fun a hA => ?_
  refine o_nil ?_
  refine hN4 _ _ ?_
  obtain ⟨⟨c1, c2, c3⟩, hz2, Hk1⟩ := bB H
  refine w_cut (fun a w => ∃ (μ1 : Store) (vvc3 : Value), μ.le μ1 ∧ InR .i64 c1 ∧ Arr .u32 8 c2 ∧ Slc (RI .u8) 1 μ1 vvc3 c3 ∧ Fr a 60 [(0, .pointer (some ⟨g0, 0, none⟩)), (1, u1), (4, .pointer (some ⟨g1, 0, none⟩)), (5, .int .i64 c1)] ∧ Iv w0 (many [cel g0 [av .u32 8 x0.s, [vp1], [.int .i64 x0.n]] 194, row 5 1 vp1 x0.rest.length cp1]).foot μ μ1 [cel g1 [av .u32 8 c2] 192, cel g0 [av .u32 8 x0.s, [vvc3], [.int .i64 (IntKind.i64.wrap (x0.n + (x1.length : Int)))]] 194] w) ?_ ?_
  · have H := bI hz2
    refine w_block ?_
    obtain ⟨μ2, hle2, hsv2, hI⟩ := hI.freezeRow 2 rfl
    have hS1 : Slc (RI .u8) 1 μ2 v2 (x0.rest ++ x1) := ⟨_, hE2, hsv2⟩
    obtain ⟨z1, hz3, Hk2⟩ := bind_some H
    obtain ⟨n1, hn1⟩ := loopO_some hz3
    refine w_loop (fun n a w => ∃ (s1 : Int) (s2 : List Int) (s3 : List Int) (μ3 : Store) (vvs3 : Value), loopN (digest_Writer_Write.s0) n (s1, s2, s3) = some z1 ∧ μ2.le μ3 ∧ InR .i64 s1 ∧ Arr .u32 8 s2 ∧ Slc (RI .u8) 1 μ3 vvs3 s3 ∧ Fr a 60 [(0, .pointer (some ⟨g0, 0, none⟩)), (1, u1), (4, .pointer (some ⟨g1, 0, none⟩)), (5, .int .i64 s1)] ∧ Iv w0 (many [cel g0 [av .u32 8 x0.s, [vp1], [.int .i64 x0.n]] 194, row 5 1 vp1 x0.rest.length cp1]).foot μ μ3 [cel g1 [av .u32 8 s2] 192, cel g0 [av .u32 8 x0.s, [vvs3], [.int .i64 (IntKind.i64.wrap (x0.n + (x1.length : Int)))]] 194] w) n1 ⟨0, r1, x0.rest ++ x1, μ2, v2, hn1, (Store.le.refl _), (in_lit .i64 0 rfl), hw1, hS1, hA.sub ⟨rfl, rfl, rfl, rfl, trivial⟩, hI⟩ ?_
    clear hA hI
    rintro n a w ⟨s1, s2, s3, μ3, vvs3, hn1, hle3, ws1, ws2, ws3, hA, hI⟩
    obtain ⟨m1, rfl, H⟩ := loopN_bind hn1
    clear hn1
    refine w_seq fun _ hN5 => ?_
    refine w_seq fun _ hN6 => ?_
    refine w_reg ?_
    refine stp hA (r_mv hA rfl) rfl fun a hA => 
      stp hA (r_add hA rfl rfl) rfl fun a hA => 
      stp hA (r_mv hA rfl) rfl fun a hA => 
      stp hA (r_nilc hA rfl) rfl fun a hA => 
      stp hA (r_fd (k := 8) Tryd.underlying194 rfl sz23 hA rfl rfl) rfl fun a hA => 
      stp hA (r_ld1 (j := 1) [av .u32 8 x0.s] [[.int .i64 (IntKind.i64.wrap (x0.n + (x1.length : Int)))]] Tryd.underlying23 rfl hI rfl hA rfl rfl) rfl fun a hA => ?_
    obtain ⟨_, hsl2⟩ := Slc.sv ws3
    refine stp hA (r_slen Tryd.underlying23 hsl2 hA rfl) rfl fun a hA => 
      stp hA (r_leq hA rfl rfl) rfl fun a hA => ?_
    refine o_nil ?_
    refine hN6 _ _ ?_
    refine w_cond hA rfl (fun hc1 => ?_) (fun hc1 => ?_)
    · have hc10 := hc1; have hc1 := of_decide_eq_true hc1; have H := bT H hc1
      refine w_skip ?_
      refine hN5 _ _ ?_
      refine w_seq fun _ hN7 => ?_
      refine w_block ?_
      refine w_any [10] mo hI fun w hI => ?_
      refine g_take (i := 0) hA rfl rfl (by kernel_rfl) hI (fun w hI => r_ldA (j := 0) [] [av .u32 8 s2] [] Tryd.underlying192 rfl sz192 rfl hI rfl hA rfl rfl) rfl fun a hA => ?_
      refine g_easy (i := 1) hA rfl rfl (by kernel_rfl) (.inr hI) (fun _ => r_mv hA rfl) rfl fun a hA => ?_
      refine g_easy (i := 2) hA rfl rfl (by kernel_rfl) (.inr hI) (fun _ => r_nilc hA rfl) rfl fun a hA => ?_
      refine g_easy (i := 3) hA rfl rfl (by kernel_rfl) (.inr hI) (fun _ => r_fd (k := 8) Tryd.underlying194 rfl sz23 hA rfl rfl) rfl fun a hA => ?_
      refine g_take (i := 4) hA rfl rfl (by kernel_rfl) hI (fun w hI => r_ld1 (j := 1) [av .u32 8 x0.s] [[.int .i64 (IntKind.i64.wrap (x0.n + (x1.length : Int)))]] Tryd.underlying23 rfl hI rfl hA rfl rfl) rfl fun a hA => ?_
      refine g_easy (i := 5) hA rfl rfl (by kernel_rfl) (.inr hI) (fun _ => r_mv hA rfl) rfl fun a hA => ?_
      refine g_easy (i := 6) hA rfl rfl (by kernel_rfl) (.inr hI) (fun _ => r_mv hA rfl) rfl fun a hA => ?_
      refine g_easy (i := 7) hA rfl rfl (by kernel_rfl) (.inr hI) (fun _ => r_add hA rfl rfl) rfl fun a hA => ?_
      obtain ⟨hb2, H⟩ := bG H
      obtain ⟨v3, hS2, hr2⟩ := r_sl (P := Tryd.prog) (t := 23) (x := .tmp 40) (l := (some (.tmp 41))) (h := (some (.tmp 43))) (i := s1) (j := IntKind.i64.wrap (s1 + 64)) Tryd.underlying23 sz5 ws3 hA rfl rfl rfl (by have hq := hb2; omega) (by have hq := hb2; omega) (by have hq := hb2; omega)
      refine g_easy (i := 8) hA rfl rfl (by kernel_rfl) (.inr hI) (fun _ => hr2 _ _ _ _ _ _) rfl fun a hA => ?_
      refine g_forced (i := 9) rfl (by kernel_rfl) ?_
      obtain ⟨r2, hr3, H⟩ := bB H
      refine o_callp (u := .agg [av .u32 8 r2].flatten.toArray) cf157 hA rfl hI (digest_mix.c μ3 _ hI.agr s2 ws2 ((s3.take (IntKind.i64.wrap (s1 + 64)).toNat).drop (s1).toNat) v3 hS2 r2 hr3) rfl fun a w hz4 hI hA => ?_
      refine o_nil ?_
      refine ⟨(.inr hI), ?_⟩
      refine g_forced (i := 10) rfl (by kernel_rfl) ?_
      refine o_st (j := 0) [] [av .u32 8 s2] [av .u32 8 r2] [] sz192 rfl rfl (fl_cons (one_av _ _ _) fl_nil) hI rfl hA rfl rfl rfl rfl fun w hI => ?_
      refine o_nil ?_
      refine ⟨(.inl (by kernel_rfl)), ?_⟩
      refine g_nil (by kernel_rfl) ?_
      refine hN7 _ _ ?_
      refine w_reg ?_
      refine stp hA (r_mv hA rfl) rfl fun a hA => 
        stp hA (r_add hA rfl rfl) rfl fun a hA => 
        stp hA (r_as hA rfl) rfl fun a hA => ?_
      refine o_nil ?_
      exact ⟨m1, Nat.lt_succ_self _, IntKind.i64.wrap (s1 + 64), r2, s3, μ3, vvs3, H, hle3, (wrap_in _ _), hz4, ws3, hA.sub ⟨rfl, rfl, rfl, rfl, trivial⟩, hI⟩
    · have hc10 := hc1; have hc1 := of_decide_eq_false hc1; have H := bF H hc1
      refine w_exit rfl ?_
      have H : some (s1, s2, s3) = some z1 := H
      obtain rfl := Option.some.inj H
      have H := Hk2
      cases Option.some.inj (bS H)
      exact ⟨μ3, vvs3, (hle2.trans hle3), ws1, ws2, ws3, hA.sub ⟨rfl, rfl, rfl, rfl, trivial⟩, hI⟩
  · rintro a w ⟨μ1, vvc3, hle1, wc1, wc2, wc3, hA, hI⟩
    have H := Hk1
    refine w_any [12, 15] mo hI fun w hI => ?_
    refine g_easy (i := 0) hA rfl rfl (by kernel_rfl) (.inr hI) (fun _ => r_mv hA rfl) rfl fun a hA => ?_
    refine g_easy (i := 1) hA rfl rfl (by kernel_rfl) (.inr hI) (fun _ => r_mv hA rfl) rfl fun a hA => ?_
    refine g_take (i := 2) hA rfl rfl (by kernel_rfl) hI (fun w hI => r_ldA (j := 0) [] [av .u32 8 c2] [] Tryd.underlying192 rfl sz192 rfl hI rfl hA rfl rfl) rfl fun a hA => ?_
    refine g_easy (i := 3) hA rfl rfl (by kernel_rfl) (.inr hI) (fun _ => r_mv hA rfl) rfl fun a hA => ?_
    refine g_easy (i := 4) hA rfl rfl (by kernel_rfl) (.inr hI) (fun _ => r_nilc hA rfl) rfl fun a hA => ?_
    refine g_easy (i := 5) hA rfl rfl (by kernel_rfl) (.inr hI) (fun _ => r_fd (k := 8) Tryd.underlying194 rfl sz23 hA rfl rfl) rfl fun a hA => ?_
    refine g_take (i := 6) hA rfl rfl (by kernel_rfl) hI (fun w hI => r_ld1 (j := 1) [av .u32 8 x0.s] [[.int .i64 (IntKind.i64.wrap (x0.n + (x1.length : Int)))]] Tryd.underlying23 rfl hI rfl hA rfl rfl) rfl fun a hA => ?_
    refine g_easy (i := 7) hA rfl rfl (by kernel_rfl) (.inr hI) (fun _ => r_mv hA rfl) rfl fun a hA => ?_
    obtain ⟨hb3, H⟩ := bG H
    obtain ⟨v4, hS3, hr4⟩ := r_sl (P := Tryd.prog) (t := 23) (x := .tmp 52) (l := (some (.tmp 53))) (h := none) (i := c1) (j := (c3.length : Int)) Tryd.underlying23 sz5 wc3 hA rfl rfl rfl (by have hq := hb3; omega) (by have hq := hb3; omega) (by have hq := hb3; omega)
    refine g_easy (i := 8) hA rfl rfl (by kernel_rfl) (.inr hI) (fun _ => hr4 _ _ _ _ _ _) rfl fun a hA => ?_
    refine g_forced (i := 9) rfl (by kernel_rfl) ?_
    obtain ⟨r3, hr5, H⟩ := bB H
    refine o_call _ cf93 hA rfl (bytes_Clone.c μ1 _ hI.agr ((c3.take ((c3.length : Int)).toNat).drop (c1).toNat) v4 hS3 r3 hr5) rfl fun v5 a w hz5 hA => ?_
    obtain ⟨_, cs3, rfl, hE3, hi2⟩ := hz5
    have hI := hI.call hi2
    refine o_nil ?_
    refine ⟨(.inr (hI.sel [1, 2] (by decide) rfl)), ?_⟩
    refine g_easy (i := 10) hA rfl rfl (by kernel_rfl) (.inr (hI.sel [1, 2] (by decide) rfl)) (fun _ => r_nilc hA rfl) rfl fun a hA => ?_
    refine g_easy (i := 11) hA rfl rfl (by kernel_rfl) (.inr (hI.sel [1, 2] (by decide) rfl)) (fun _ => r_fd (k := 0) Tryd.underlying194 rfl sz192 hA rfl rfl) rfl fun a hA => ?_
    refine g_forced (i := 12) rfl (by kernel_rfl) ?_
    refine o_st (j := 2) [] [av .u32 8 x0.s] [av .u32 8 c2] [[vvc3], [.int .i64 (IntKind.i64.wrap (x0.n + (x1.length : Int)))]] sz192 rfl rfl (fl_cons (one_av _ _ _) fl_nil) hI rfl hA rfl rfl rfl rfl fun w hI => ?_
    refine o_nil ?_
    refine ⟨(.inl (by kernel_rfl)), ?_⟩
    refine g_easy (i := 13) hA rfl rfl (by kernel_rfl) (.inl (by kernel_rfl)) (fun _ => r_nilc hA rfl) rfl fun a hA => ?_
    refine g_easy (i := 14) hA rfl rfl (by kernel_rfl) (.inl (by kernel_rfl)) (fun _ => r_fd (k := 8) Tryd.underlying194 rfl sz23 hA rfl rfl) rfl fun a hA => ?_
    refine g_forced (i := 15) rfl (by kernel_rfl) ?_
    have hone := own_one hI (j := 0) rfl
    have hcel := own_cell hI (j := 0) rfl
    refine o_st (j := 2) [av .u32 8 c2] [[vvc3]] [[v5]] [[.int .i64 (IntKind.i64.wrap (x0.n + (x1.length : Int)))]] sz23 rfl rfl (by intro c hc; simp at hc; subst hc; exact hone) hI rfl hA rfl rfl hcel rfl fun w hI => ?_
    refine o_nil ?_
    refine ⟨(.inl (by kernel_rfl)), ?_⟩
    refine g_nil (by kernel_rfl) ?_
    obtain rfl := Option.some.inj (bS H)
    exact ret0 hA Tryd.results152 ⟨_, rfl, v5, cs3, rfl, wc2, hE3, (wrap_in _ _), ((hI.sel [2, 0] (by decide) rfl).less (Store.le.refl _) hI.le)⟩
set_option maxRecDepth 20000 in
theorem digest_Writer_Sum.c (μ : Store) (w0 : World) (hμ : Agr μ w0) (x0 : digestWriter) (vp1 : Value) (cp1 : List Value) (g0 : Nat) (hp1 : Arr .u32 8 x0.s) (hp2 : Els (RI .u8) 1 x0.rest cp1) (hp3 : InR .i64 x0.n) (ho0 : Its μ w0 [cel g0 [av .u32 8 x0.s, [vp1], [.int .i64 x0.n]] 194, row 5 1 vp1 x0.rest.length cp1]) (r : List Int) (H : digest_Writer_Sum.f x0 = some r) :
    Calls Tryd.prog 153 [.pointer (some ⟨g0, 0, none⟩)].toArray w0 (fun e w' => ∃ v, e = .returned v ∧ v = .agg [av .u8 32 r].flatten.toArray ∧ Arr .u8 32 r ∧ Iv w0 (many [cel g0 [av .u32 8 x0.s, [vp1], [.int .i64 x0.n]] 194, row 5 1 vp1 x0.rest.length cp1]).foot μ μ [cel g0 [av .u32 8 x0.s, [vp1], [.int .i64 x0.n]] 194, row 5 1 vp1 x0.rest.length cp1] w') := by
  refine enter Tryd.func153 rfl Tryd.ntmps153 rfl fun a hA => ?_
  have hI := Iv.startN hμ ho0
  have H := bI H
  refine w_seq fun _ hN1 => ?_
  refine w_reg ?_
  refine o_new [av .u8 32 (List.replicate 32 0)] zr55 hI hA rfl fun g1 a w hA hI hg1 => ?_
  refine o_nil ?_
  refine hN1 _ _ ?_
  refine w_seq fun _ hN2 => ?_
  refine w_reg ?_
  refine stp hA (r_mv hA rfl) rfl fun a hA => 
    stp hA (r_nilc hA rfl) rfl fun a hA => 
    stp hA (r_fd (k := 8) Tryd.underlying194 rfl sz23 hA rfl rfl) rfl fun a hA => 
    stp hA (r_ld1 (j := 1) [av .u32 8 x0.s] [[.int .i64 x0.n]] Tryd.underlying23 rfl hI rfl hA rfl rfl) rfl fun a hA => ?_
  obtain ⟨r1, hr1, H⟩ := bB H
  refine o_call (fun v w' => ∃ (v0 : Value) (c0 : List Value), v = v0 ∧ Els (RI .u8) 1 r1 c0 ∧ Iv w [] μ μ [row 5 1 v0 r1.length c0] w') cf93 hA rfl ((by obtain ⟨μ1, hle1, hsv1, hI⟩ := hI.freezeRow 2 rfl; have hS1 : Slc (RI .u8) 1 μ1 vp1 x0.rest := ⟨_, hp2, hsv1⟩; exact (bytes_Clone.c μ1 _ hI.agr x0.rest vp1 hS1 r1 hr1).mono fun _ _ ⟨v, he, b0, b1, hv, f0, hi⟩ => ⟨v, he, b0, b1, hv, f0, hi.low hle1⟩)) rfl fun v1 a w hz1 hA => ?_
  obtain ⟨_, cs1, rfl, hE1, hi1⟩ := hz1
  have hI := hI.call hi1
  have hE2 : Els (RI .u8) 1 ([128] : List Int) ([[.int .u8 128]].flatten ++ ([])) := (Els.cons (c := [[.int .u8 128]].flatten) ⟨rfl, (in_lit .u8 128 rfl)⟩ rfl Els.nil)
  refine o_bsl ([[.int .u8 128]].flatten ++ ([])) te5 zr5 Tryd.underlying23 hI hA rfl rfl rfl rfl (by kernel_rfl) rfl fun g2 a w hA hI => ?_
  generalize hcs : ([[.int .u8 128]].flatten ++ ([]) : List Value) = cs2 at hE2 hI
  clear hcs
  obtain ⟨hb1, H⟩ := bG H
  have hE4 := hE1.app hE2
  refine o_appL (xs := (r1 : List Int)) (ys := (([128] : List Int) : List Int)) (j := 1) te5 Tryd.underlying23 hI rfl hA rfl rfl (src_row hI (j := 0) rfl) hE2.len (hE2.ones (one_RI _)) (by first | decide | (have hq := hb1; (try simp only [List.length_cons, List.length_nil] at hq); (try simp only [List.length_cons, List.length_nil]); (try simp only [maxLen]); omega)) (by first | decide | (have hq := hb1; (try simp only [List.length_cons, List.length_nil] at hq); (try simp only [List.length_cons, List.length_nil]); (try simp only [maxLen]); omega)) rfl fun v2 a w hA hI => 
    stp hA (r_as hA rfl) rfl fun a hA => ?_
  refine o_nil ?_
  refine hN2 _ _ ?_
  obtain ⟨c1, hz2, Hk1⟩ := bB H
  refine w_cut (fun a w => ∃ (vvc1 : Value) (ccc1 : List Value), Els (RI .u8) 1 c1 ccc1 ∧ Fr a 79 [(0, .pointer (some ⟨g0, 0, none⟩)), (2, .pointer (some ⟨g1, 0, none⟩)), (3, vvc1)] ∧ Iv w0 (many [cel g0 [av .u32 8 x0.s, [vp1], [.int .i64 x0.n]] 194, row 5 1 vp1 x0.rest.length cp1]).foot μ μ [row 5 1 vvc1 c1.length ccc1, row 5 1 (.slice (some ⟨g2, 0, none⟩) 1 1) ([128] : List Int).length cs2, cel g1 [av .u8 32 (List.replicate 32 0)] 55, cel g0 [av .u32 8 x0.s, [vp1], [.int .i64 x0.n]] 194, row 5 1 vp1 x0.rest.length cp1] w) ?_ ?_
  · have H := bI hz2
    refine w_block ?_
    obtain ⟨z1, hz3, Hk2⟩ := bind_some H
    obtain ⟨n1, hn1⟩ := loopO_some hz3
    refine w_loop (fun n a w => ∃ (s1 : List Int) (vvs1 : Value) (ccs1 : List Value), loopN (digest_Writer_Sum.s0) n s1 = some z1 ∧ Els (RI .u8) 1 s1 ccs1 ∧ Fr a 79 [(0, .pointer (some ⟨g0, 0, none⟩)), (2, .pointer (some ⟨g1, 0, none⟩)), (3, vvs1)] ∧ Iv w0 (many [cel g0 [av .u32 8 x0.s, [vp1], [.int .i64 x0.n]] 194, row 5 1 vp1 x0.rest.length cp1]).foot μ μ [row 5 1 (.slice (some ⟨g2, 0, none⟩) 1 1) ([128] : List Int).length cs2, row 5 1 vvs1 s1.length ccs1, cel g1 [av .u8 32 (List.replicate 32 0)] 55, cel g0 [av .u32 8 x0.s, [vp1], [.int .i64 x0.n]] 194, row 5 1 vp1 x0.rest.length cp1] w) n1 ⟨r1 ++ ([128] : List Int), v2, cs1 ++ cs2, hn1, hE4, hA.sub ⟨rfl, rfl, rfl, trivial⟩, hI⟩ ?_
    clear hA hI
    rintro n a w ⟨s1, vvs1, ccs1, hn1, ws1, hA, hI⟩
    obtain ⟨m1, rfl, H⟩ := loopN_bind hn1
    clear hn1
    refine w_seq fun _ hN3 => ?_
    refine w_seq fun _ hN4 => ?_
    refine w_reg ?_
    refine stp hA (r_mv hA rfl) rfl fun a hA => ?_
    have hlen1 := Iv.row_in hI (j := 1) rfl
    refine stp hA (r_rlen (xs := 0) Tryd.underlying23 hI (j := 1) rfl hA rfl) rfl fun a hA => 
      stp hA (r_rem hA rfl rfl (by decide)) rfl fun a hA => 
      stp hA (r_neq hA rfl rfl) rfl fun a hA => ?_
    refine o_nil ?_
    refine hN4 _ _ ?_
    refine w_cond hA rfl (fun hc1 => ?_) (fun hc1 => ?_)
    · have hc10 := hc1; have hc1 := of_decide_eq_true hc1; have H := bT H hc1
      refine w_skip ?_
      refine hN3 _ _ ?_
      refine w_block ?_
      refine w_reg ?_
      refine stp hA (r_mv hA rfl) rfl fun a hA => ?_
      have hE5 : Els (RI .u8) 1 ([0] : List Int) ([[.int .u8 0]].flatten ++ ([])) := (Els.cons (c := [[.int .u8 0]].flatten) ⟨rfl, (in_lit .u8 0 rfl)⟩ rfl Els.nil)
      refine o_bsl ([[.int .u8 0]].flatten ++ ([])) te5 zr5 Tryd.underlying23 hI hA rfl rfl rfl rfl (by kernel_rfl) rfl fun g3 a w hA hI => ?_
      generalize hcs : ([[.int .u8 0]].flatten ++ ([]) : List Value) = cs5 at hE5 hI
      clear hcs
      obtain ⟨hb2, H⟩ := bG H
      have hE7 := ws1.app hE5
      refine o_appL (xs := (s1 : List Int)) (ys := (([0] : List Int) : List Int)) (j := 2) te5 Tryd.underlying23 hI rfl hA rfl rfl (src_row hI (j := 0) rfl) hE5.len (hE5.ones (one_RI _)) (by first | decide | (have hq := hb2; (try simp only [List.length_cons, List.length_nil] at hq); (try simp only [List.length_cons, List.length_nil]); (try simp only [maxLen]); omega)) (by first | decide | (have hq := hb2; (try simp only [List.length_cons, List.length_nil] at hq); (try simp only [List.length_cons, List.length_nil]); (try simp only [maxLen]); omega)) rfl fun v3 a w hA hI => 
        stp hA (r_as hA rfl) rfl fun a hA => ?_
      refine o_nil ?_
      exact ⟨m1, Nat.lt_succ_self _, s1 ++ ([0] : List Int), v3, ccs1 ++ cs5, H, hE7, hA.sub ⟨rfl, rfl, rfl, trivial⟩, (hI.sel [1, 2, 3, 4, 5] (by decide) rfl)⟩
    · have hc10 := hc1; have hc1 := of_decide_eq_false hc1; have H := bF H hc1
      refine w_exit rfl ?_
      have H : some s1 = some z1 := H
      obtain rfl := Option.some.inj H
      have H := Hk2
      cases Option.some.inj (bS H)
      exact ⟨vvs1, ccs1, ws1, hA.sub ⟨rfl, rfl, rfl, trivial⟩, (hI.sel [1, 0, 2, 3, 4] (by decide) rfl)⟩
  · rintro a w ⟨vvc1, ccc1, wc1, hA, hI⟩
    have H := Hk1
    obtain ⟨c2, hz4, Hk3⟩ := bB H
    refine w_cut (fun a w => ∃ (vvc2 : Value) (ccc2 : List Value), Els (RI .u8) 1 c2 ccc2 ∧ Fr a 79 [(0, .pointer (some ⟨g0, 0, none⟩)), (2, .pointer (some ⟨g1, 0, none⟩)), (3, vvc2)] ∧ Iv w0 (many [cel g0 [av .u32 8 x0.s, [vp1], [.int .i64 x0.n]] 194, row 5 1 vp1 x0.rest.length cp1]).foot μ μ [row 5 1 vvc2 c2.length ccc2, row 5 1 (.slice (some ⟨g2, 0, none⟩) 1 1) ([128] : List Int).length cs2, cel g1 [av .u8 32 (List.replicate 32 0)] 55, cel g0 [av .u32 8 x0.s, [vp1], [.int .i64 x0.n]] 194, row 5 1 vp1 x0.rest.length cp1] w) ?_ ?_
    · have H := bI hz4
      refine w_seq fun _ hN5 => ?_
      refine w_reg ?_
      refine stp hA (r_as hA rfl) rfl fun a hA => ?_
      refine o_nil ?_
      refine hN5 _ _ ?_
      refine w_block ?_
      obtain ⟨z2, hz5, Hk4⟩ := bind_some H
      obtain ⟨n2, hn2⟩ := loopO_some hz5
      refine w_loop (fun n a w => ∃ (s2 : List Int) (s3 : Int) (vvs2 : Value) (ccs2 : List Value), loopN (digest_Writer_Sum.s1 x0) n (s2, s3) = some z2 ∧ Els (RI .u8) 1 s2 ccs2 ∧ InR .i64 s3 ∧ Fr a 79 [(0, .pointer (some ⟨g0, 0, none⟩)), (2, .pointer (some ⟨g1, 0, none⟩)), (3, vvs2), (4, .int .i64 s3)] ∧ Iv w0 (many [cel g0 [av .u32 8 x0.s, [vp1], [.int .i64 x0.n]] 194, row 5 1 vp1 x0.rest.length cp1]).foot μ μ [row 5 1 vvs2 s2.length ccs2, row 5 1 (.slice (some ⟨g2, 0, none⟩) 1 1) ([128] : List Int).length cs2, cel g1 [av .u8 32 (List.replicate 32 0)] 55, cel g0 [av .u32 8 x0.s, [vp1], [.int .i64 x0.n]] 194, row 5 1 vp1 x0.rest.length cp1] w) n2 ⟨c1, 7, vvc1, ccc1, hn2, wc1, (in_lit .i64 7 rfl), hA.sub ⟨rfl, rfl, rfl, rfl, trivial⟩, hI⟩ ?_
      clear hA hI
      rintro n a w ⟨s2, s3, vvs2, ccs2, hn2, ws2, ws3, hA, hI⟩
      obtain ⟨m2, rfl, H⟩ := loopN_bind hn2
      clear hn2
      refine w_seq fun _ hN6 => ?_
      refine w_seq fun _ hN7 => ?_
      refine w_reg ?_
      refine stp hA (r_mv hA rfl) rfl fun a hA => 
        stp hA (r_geq hA rfl rfl) rfl fun a hA => ?_
      refine o_nil ?_
      refine hN7 _ _ ?_
      refine w_cond hA rfl (fun hc2 => ?_) (fun hc2 => ?_)
      · have hc20 := hc2; have hc2 := of_decide_eq_true hc2; have H := bT H hc2
        refine w_skip ?_
        refine hN6 _ _ ?_
        refine w_seq fun _ hN8 => ?_
        refine w_block ?_
        refine w_reg ?_
        refine stp hA (r_mv hA rfl) rfl fun a hA => 
          stp hA (r_mv hA rfl) rfl fun a hA => 
          stp hA (r_nilc hA rfl) rfl fun a hA => 
          stp hA (r_fd (k := 9) Tryd.underlying194 rfl sz2 hA rfl rfl) rfl fun a hA => 
          stp hA (r_ld1 (j := 3) [av .u32 8 x0.s, [vp1]] [] Tryd.underlying2 rfl hI rfl hA rfl rfl) rfl fun a hA => 
          stp hA (r_conv Tryd.underlying2 Tryd.underlying22 hA rfl) rfl fun a hA => 
          stp hA (r_shl hA rfl rfl (by decide)) rfl fun a hA => 
          stp hA (r_mv hA rfl) rfl fun a hA => 
          stp hA (r_mul hA rfl rfl) rfl fun a hA => ?_
        obtain ⟨hb3, H⟩ := bG H
        refine stp hA (r_shr hA rfl rfl hb3) rfl fun a hA => 
          stp hA (r_conv Tryd.underlying22 Tryd.underlying5 hA rfl) rfl fun a hA => ?_
        have hE8 : Els (RI .u8) 1 ([IntKind.u8.wrap (sR .u64 (sL .u64 (IntKind.u64.wrap x0.n) 3) (IntKind.i64.wrap (8 * s3)))] : List Int) ([[.int .u8 (IntKind.u8.wrap (sR .u64 (sL .u64 (IntKind.u64.wrap x0.n) 3) (IntKind.i64.wrap (8 * s3))))]].flatten ++ ([])) := (Els.cons (c := [[.int .u8 (IntKind.u8.wrap (sR .u64 (sL .u64 (IntKind.u64.wrap x0.n) 3) (IntKind.i64.wrap (8 * s3))))]].flatten) ⟨rfl, (wrap_in _ _)⟩ rfl Els.nil)
        refine o_bsl ([[.int .u8 (IntKind.u8.wrap (sR .u64 (sL .u64 (IntKind.u64.wrap x0.n) 3) (IntKind.i64.wrap (8 * s3))))]].flatten ++ ([])) te5 zr5 Tryd.underlying23 hI hA rfl rfl rfl rfl (by kernel_rfl) rfl fun g4 a w hA hI => ?_
        generalize hcs : ([[.int .u8 (IntKind.u8.wrap (sR .u64 (sL .u64 (IntKind.u64.wrap x0.n) 3) (IntKind.i64.wrap (8 * s3))))]].flatten ++ ([]) : List Value) = cs8 at hE8 hI
        clear hcs
        obtain ⟨hb4, H⟩ := bG H
        have hE10 := ws2.app hE8
        refine o_appL (xs := (s2 : List Int)) (ys := (([IntKind.u8.wrap (sR .u64 (sL .u64 (IntKind.u64.wrap x0.n) 3) (IntKind.i64.wrap (8 * s3)))] : List Int) : List Int)) (j := 1) te5 Tryd.underlying23 hI rfl hA rfl rfl (src_row hI (j := 0) rfl) hE8.len (hE8.ones (one_RI _)) (by first | decide | (have hq := hb4; (try simp only [List.length_cons, List.length_nil] at hq); (try simp only [List.length_cons, List.length_nil]); (try simp only [maxLen]); omega)) (by first | decide | (have hq := hb4; (try simp only [List.length_cons, List.length_nil] at hq); (try simp only [List.length_cons, List.length_nil]); (try simp only [maxLen]); omega)) rfl fun v4 a w hA hI => 
          stp hA (r_as hA rfl) rfl fun a hA => ?_
        refine o_nil ?_
        refine hN8 _ _ ?_
        refine w_reg ?_
        refine stp hA (r_mv hA rfl) rfl fun a hA => 
          stp hA (r_sub hA rfl rfl) rfl fun a hA => 
          stp hA (r_as hA rfl) rfl fun a hA => ?_
        refine o_nil ?_
        exact ⟨m2, Nat.lt_succ_self _, s2 ++ ([IntKind.u8.wrap (sR .u64 (sL .u64 (IntKind.u64.wrap x0.n) 3) (IntKind.i64.wrap (8 * s3)))] : List Int), IntKind.i64.wrap (s3 - 1), v4, ccs2 ++ cs8, H, hE10, (wrap_in _ _), hA.sub ⟨rfl, rfl, rfl, rfl, trivial⟩, (hI.sel [1, 2, 3, 4, 5] (by decide) rfl)⟩
      · have hc20 := hc2; have hc2 := of_decide_eq_false hc2; have H := bF H hc2
        refine w_exit rfl ?_
        have H : some s2 = some z2 := H
        obtain rfl := Option.some.inj H
        have H := Hk4
        cases Option.some.inj (bS H)
        exact ⟨vvs2, ccs2, ws2, hA.sub ⟨rfl, rfl, rfl, trivial⟩, hI⟩
    · rintro a w ⟨vvc2, ccc2, wc2, hA, hI⟩
      have H := Hk3
      refine w_seq fun _ hN9 => ?_
      refine w_reg ?_
      refine stp hA (r_mv hA rfl) rfl fun a hA => ?_
      obtain ⟨r2, hr2, H⟩ := bB H
      have hI := hI.sel [3, 4, 0, 1, 2] (by decide) rfl
      refine o_call _ cf156 hA rfl (digest_Writer_state.c μ _ hI.agr (⟨x0.s, x0.rest, x0.n⟩ : digestWriter) vp1 cp1 g0 hp1 hp2 hp3 (hI.handN 2) r2 hr2) rfl fun v5 a w hz6 hA => ?_
      obtain ⟨rfl, hw1, hi2⟩ := hz6
      have hI := hI.backN 2 hi2
      have hI : Iv w0 (many [cel g0 [av .u32 8 x0.s, [vp1], [.int .i64 x0.n]] 194, row 5 1 vp1 x0.rest.length cp1]).foot μ μ [cel g0 [av .u32 8 x0.s, [vp1], [.int .i64 x0.n]] 194, row 5 1 vp1 x0.rest.length cp1, row 5 1 vvc2 c2.length ccc2, row 5 1 (.slice (some ⟨g2, 0, none⟩) 1 1) ([128] : List Int).length cs2, cel g1 [av .u8 32 (List.replicate 32 0)] 55] w := hI
      refine o_new [av .u32 8 (List.replicate 8 0)] zr192 hI hA rfl fun g5 a w hA hI hg5 => 
        o_st (j := 0) [] [av .u32 8 (List.replicate 8 0)] [av .u32 8 r2] [] sz192 rfl rfl (fl_cons (one_av _ _ _) fl_nil) hI rfl hA rfl rfl rfl rfl fun w hI => ?_
      refine o_nil ?_
      refine hN9 _ _ ?_
      obtain ⟨⟨c3, c4⟩, hz7, Hk5⟩ := bB H
      refine w_cut (fun a w => ∃ (μ2 : Store) (vvc3 : Value), μ.le μ2 ∧ Slc (RI .u8) 1 μ2 vvc3 c3 ∧ Arr .u32 8 c4 ∧ Fr a 79 [(0, .pointer (some ⟨g0, 0, none⟩)), (2, .pointer (some ⟨g1, 0, none⟩)), (3, vvc3), (5, .pointer (some ⟨g5, 0, none⟩))] ∧ Iv w0 (many [cel g0 [av .u32 8 x0.s, [vp1], [.int .i64 x0.n]] 194, row 5 1 vp1 x0.rest.length cp1]).foot μ μ2 [cel g5 [av .u32 8 c4] 192, cel g0 [av .u32 8 x0.s, [vp1], [.int .i64 x0.n]] 194, row 5 1 vp1 x0.rest.length cp1, row 5 1 (.slice (some ⟨g2, 0, none⟩) 1 1) ([128] : List Int).length cs2, cel g1 [av .u8 32 (List.replicate 32 0)] 55] w) ?_ ?_
      · have H := bI hz7
        refine w_seq fun _ hN10 => ?_
        refine w_reg ?_
        refine stp hA (r_as hA rfl) rfl fun a hA => ?_
        refine o_nil ?_
        refine hN10 _ _ ?_
        refine w_block ?_
        obtain ⟨μ3, hle3, hsv5, hI⟩ := hI.freezeRow 3 rfl
        have hS2 : Slc (RI .u8) 1 μ3 vvc2 c2 := ⟨_, wc2, hsv5⟩
        obtain ⟨z3, hz8, Hk6⟩ := bind_some H
        obtain ⟨n3, hn3⟩ := loopO_some hz8
        refine w_loop (fun n a w => ∃ (s4 : List Int) (s5 : Int) (s6 : List Int) (μ4 : Store) (vvs4 : Value), loopN (digest_Writer_Sum.s2) n (s4, s5, s6) = some z3 ∧ μ3.le μ4 ∧ Slc (RI .u8) 1 μ4 vvs4 s4 ∧ InR .i64 s5 ∧ Arr .u32 8 s6 ∧ Fr a 79 [(0, .pointer (some ⟨g0, 0, none⟩)), (2, .pointer (some ⟨g1, 0, none⟩)), (3, vvs4), (5, .pointer (some ⟨g5, 0, none⟩)), (6, .int .i64 s5)] ∧ Iv w0 (many [cel g0 [av .u32 8 x0.s, [vp1], [.int .i64 x0.n]] 194, row 5 1 vp1 x0.rest.length cp1]).foot μ μ4 [cel g5 [av .u32 8 s6] 192, cel g0 [av .u32 8 x0.s, [vp1], [.int .i64 x0.n]] 194, row 5 1 vp1 x0.rest.length cp1, row 5 1 (.slice (some ⟨g2, 0, none⟩) 1 1) ([128] : List Int).length cs2, cel g1 [av .u8 32 (List.replicate 32 0)] 55] w) n3 ⟨c2, 0, r2, μ3, vvc2, hn3, (Store.le.refl _), hS2, (in_lit .i64 0 rfl), hw1, hA.sub ⟨rfl, rfl, rfl, rfl, rfl, trivial⟩, hI⟩ ?_
        clear hA hI
        rintro n a w ⟨s4, s5, s6, μ4, vvs4, hn3, hle4, ws4, ws5, ws6, hA, hI⟩
        obtain ⟨m3, rfl, H⟩ := loopN_bind hn3
        clear hn3
        refine w_seq fun _ hN11 => ?_
        refine w_seq fun _ hN12 => ?_
        refine w_reg ?_
        refine stp hA (r_mv hA rfl) rfl fun a hA => 
          stp hA (r_mv hA rfl) rfl fun a hA => ?_
        obtain ⟨_, hsl1⟩ := Slc.sv ws4
        refine stp hA (r_slen Tryd.underlying23 hsl1 hA rfl) rfl fun a hA => 
          stp hA (r_lss hA rfl rfl) rfl fun a hA => ?_
        refine o_nil ?_
        refine hN12 _ _ ?_
        refine w_cond hA rfl (fun hc3 => ?_) (fun hc3 => ?_)
        · have hc30 := hc3; have hc3 := of_decide_eq_true hc3; have H := bT H hc3
          refine w_skip ?_
          refine hN11 _ _ ?_
          refine w_seq fun _ hN13 => ?_
          refine w_block ?_
          refine w_any [7] mo hI fun w hI => ?_
          refine g_take (i := 0) hA rfl rfl (by kernel_rfl) hI (fun w hI => r_ldA (j := 0) [] [av .u32 8 s6] [] Tryd.underlying192 rfl sz192 rfl hI rfl hA rfl rfl) rfl fun a hA => ?_
          refine g_easy (i := 1) hA rfl rfl (by kernel_rfl) (.inr hI) (fun _ => r_mv hA rfl) rfl fun a hA => ?_
          refine g_easy (i := 2) hA rfl rfl (by kernel_rfl) (.inr hI) (fun _ => r_mv hA rfl) rfl fun a hA => ?_
          refine g_easy (i := 3) hA rfl rfl (by kernel_rfl) (.inr hI) (fun _ => r_mv hA rfl) rfl fun a hA => ?_
          refine g_easy (i := 4) hA rfl rfl (by kernel_rfl) (.inr hI) (fun _ => r_add hA rfl rfl) rfl fun a hA => ?_
          obtain ⟨hb5, H⟩ := bG H
          obtain ⟨v6, hS3, hr3⟩ := r_sl (P := Tryd.prog) (t := 23) (x := .tmp 51) (l := (some (.tmp 52))) (h := (some (.tmp 54))) (i := s5) (j := IntKind.i64.wrap (s5 + 64)) Tryd.underlying23 sz5 ws4 hA rfl rfl rfl (by have hq := hb5; omega) (by have hq := hb5; omega) (by have hq := hb5; omega)
          refine g_easy (i := 5) hA rfl rfl (by kernel_rfl) (.inr hI) (fun _ => hr3 _ _ _ _ _ _) rfl fun a hA => ?_
          refine g_forced (i := 6) rfl (by kernel_rfl) ?_
          obtain ⟨r3, hr4, H⟩ := bB H
          refine o_callp (u := .agg [av .u32 8 r3].flatten.toArray) cf157 hA rfl hI (digest_mix.c μ4 _ hI.agr s6 ws6 ((s4.take (IntKind.i64.wrap (s5 + 64)).toNat).drop (s5).toNat) v6 hS3 r3 hr4) rfl fun a w hz9 hI hA => ?_
          refine o_nil ?_
          refine ⟨(.inr hI), ?_⟩
          refine g_forced (i := 7) rfl (by kernel_rfl) ?_
          refine o_st (j := 0) [] [av .u32 8 s6] [av .u32 8 r3] [] sz192 rfl rfl (fl_cons (one_av _ _ _) fl_nil) hI rfl hA rfl rfl rfl rfl fun w hI => ?_
          refine o_nil ?_
          refine ⟨(.inl (by kernel_rfl)), ?_⟩
          refine g_nil (by kernel_rfl) ?_
          refine hN13 _ _ ?_
          refine w_reg ?_
          refine stp hA (r_mv hA rfl) rfl fun a hA => 
            stp hA (r_add hA rfl rfl) rfl fun a hA => 
            stp hA (r_as hA rfl) rfl fun a hA => ?_
          refine o_nil ?_
          exact ⟨m3, Nat.lt_succ_self _, s4, IntKind.i64.wrap (s5 + 64), r3, μ4, vvs4, H, hle4, ws4, (wrap_in _ _), hz9, hA.sub ⟨rfl, rfl, rfl, rfl, rfl, trivial⟩, hI⟩
        · have hc30 := hc3; have hc3 := of_decide_eq_false hc3; have H := bF H hc3
          refine w_exit rfl ?_
          have H : some (s4, s6) = some z3 := H
          obtain rfl := Option.some.inj H
          have H := Hk6
          cases Option.some.inj (bS H)
          exact ⟨μ4, vvs4, (hle3.trans hle4), ws4, ws6, hA.sub ⟨rfl, rfl, rfl, rfl, trivial⟩, hI⟩
      · rintro a w ⟨μ2, vvc3, hle2, wc3, wc4, hA, hI⟩
        have H := Hk5
        refine w_seq fun _ hN14 => ?_
        refine w_reg ?_
        refine o_new [av .u8 32 (List.replicate 32 0)] zr55 hI hA rfl fun g6 a w hA hI hg6 => ?_
        refine o_nil ?_
        refine hN14 _ _ ?_
        obtain ⟨c5, hz10, Hk7⟩ := bB H
        refine w_cut (fun a w => Arr .u8 32 c5 ∧ Fr a 79 [(0, .pointer (some ⟨g0, 0, none⟩)), (2, .pointer (some ⟨g1, 0, none⟩)), (3, vvc3), (5, .pointer (some ⟨g5, 0, none⟩)), (7, .pointer (some ⟨g6, 0, none⟩))] ∧ Iv w0 (many [cel g0 [av .u32 8 x0.s, [vp1], [.int .i64 x0.n]] 194, row 5 1 vp1 x0.rest.length cp1]).foot μ μ2 [cel g6 [av .u8 32 c5] 55, cel g5 [av .u32 8 c4] 192, cel g0 [av .u32 8 x0.s, [vp1], [.int .i64 x0.n]] 194, row 5 1 vp1 x0.rest.length cp1, row 5 1 (.slice (some ⟨g2, 0, none⟩) 1 1) ([128] : List Int).length cs2, cel g1 [av .u8 32 (List.replicate 32 0)] 55] w) ?_ ?_
        · have H := bI hz10
          refine w_seq fun _ hN15 => ?_
          refine w_reg ?_
          refine stp hA (r_ldA (j := 1) [] [av .u32 8 c4] [] Tryd.underlying192 rfl sz192 rfl hI rfl hA rfl rfl) rfl fun a hA => 
            stp hA (r_mv hA rfl) rfl fun a hA => ?_
          refine o_nil ?_
          refine hN15 _ _ ?_
          refine w_block ?_
          obtain ⟨z4, hz11, Hk8⟩ := bind_some H
          obtain ⟨n4, hn4⟩ := loopO_some hz11
          refine w_loop (fun n a w => ∃ (s7 : Int) (s8 : List Int), loopN (digest_Writer_Sum.s3 c4) n (s7, s8) = some z4 ∧ InR .i64 s7 ∧ Arr .u8 32 s8 ∧ Fr a 79 [(0, .pointer (some ⟨g0, 0, none⟩)), (2, .pointer (some ⟨g1, 0, none⟩)), (3, vvc3), (5, .pointer (some ⟨g5, 0, none⟩)), (7, .pointer (some ⟨g6, 0, none⟩)), (57, .agg [av .u32 8 c4].flatten.toArray), (58, .int .i64 s7)] ∧ Iv w0 (many [cel g0 [av .u32 8 x0.s, [vp1], [.int .i64 x0.n]] 194, row 5 1 vp1 x0.rest.length cp1]).foot μ μ2 [cel g6 [av .u8 32 s8] 55, cel g5 [av .u32 8 c4] 192, cel g0 [av .u32 8 x0.s, [vp1], [.int .i64 x0.n]] 194, row 5 1 vp1 x0.rest.length cp1, row 5 1 (.slice (some ⟨g2, 0, none⟩) 1 1) ([128] : List Int).length cs2, cel g1 [av .u8 32 (List.replicate 32 0)] 55] w) n4 ⟨0, (List.replicate 32 0), hn4, (in_lit .i64 0 rfl), (arr_zero _ _), hA.sub ⟨rfl, rfl, rfl, rfl, rfl, rfl, rfl, trivial⟩, hI⟩ ?_
          clear hA hI
          rintro n a w ⟨s7, s8, hn4, ws7, ws8, hA, hI⟩
          obtain ⟨m4, rfl, H⟩ := loopN_bind hn4
          clear hn4
          refine w_seq fun _ hN16 => ?_
          refine w_reg ?_
          refine stp hA (r_lss hA rfl rfl) rfl fun a hA => ?_
          refine o_nil ?_
          refine hN16 _ _ ?_
          refine w_seq fun _ hN17 => ?_
          refine w_cond hA rfl (fun hc4 => ?_) (fun hc4 => ?_)
          · have hc40 := hc4; have hc4 := of_decide_eq_true hc4; have H := bT H hc4
            refine w_skip ?_
            refine hN17 _ _ ?_
            obtain ⟨c6, hz12, Hk9⟩ := bB H
            refine w_cut (fun a w => Arr .u8 32 c6 ∧ Fr a 79 [(0, .pointer (some ⟨g0, 0, none⟩)), (2, .pointer (some ⟨g1, 0, none⟩)), (3, vvc3), (5, .pointer (some ⟨g5, 0, none⟩)), (7, .pointer (some ⟨g6, 0, none⟩)), (57, .agg [av .u32 8 c4].flatten.toArray), (58, .int .i64 s7), (59, .bool (decide (s7 < 8)))] ∧ Iv w0 (many [cel g0 [av .u32 8 x0.s, [vp1], [.int .i64 x0.n]] 194, row 5 1 vp1 x0.rest.length cp1]).foot μ μ2 [cel g6 [av .u8 32 c6] 55, cel g5 [av .u32 8 c4] 192, cel g0 [av .u32 8 x0.s, [vp1], [.int .i64 x0.n]] 194, row 5 1 vp1 x0.rest.length cp1, row 5 1 (.slice (some ⟨g2, 0, none⟩) 1 1) ([128] : List Int).length cs2, cel g1 [av .u8 32 (List.replicate 32 0)] 55] w) ?_ ?_
            · have H := bI hz12
              refine w_block ?_
              refine w_seq fun _ hN18 => ?_
              refine w_reg ?_
              refine stp hA (r_mv hA rfl) rfl fun a hA => ?_
              obtain ⟨hb6, H⟩ := bG H
              refine stp hA (r_aidx Tryd.underlying192 Tryd.underlying39 sz39 hA rfl rfl hb6.1 hb6.2) rfl fun a hA => 
                stp hA (r_as hA rfl) rfl fun a hA => 
                stp hA (r_as hA rfl) rfl fun a hA => ?_
              refine o_nil ?_
              refine hN18 _ _ ?_
              refine w_seq fun _ hN19 => ?_
              refine w_reg ?_
              refine stp hA (r_mv hA rfl) rfl fun a hA => ?_
              refine o_nil ?_
              refine hN19 _ _ ?_
              refine w_block ?_
              obtain ⟨z5, hz13, Hk10⟩ := bind_some H
              obtain ⟨n5, hn5⟩ := loopO_some hz13
              refine w_loop (fun n a w => ∃ (s9 : Int) (s10 : List Int), loopN (digest_Writer_Sum.s4 c4 s7) n (s9, s10) = some z5 ∧ InR .i64 s9 ∧ Arr .u8 32 s10 ∧ Fr a 79 [(0, .pointer (some ⟨g0, 0, none⟩)), (2, .pointer (some ⟨g1, 0, none⟩)), (3, vvc3), (5, .pointer (some ⟨g5, 0, none⟩)), (7, .pointer (some ⟨g6, 0, none⟩)), (8, .int .i64 s7), (9, .int .u32 (c4.getD s7.toNat 0)), (57, .agg [av .u32 8 c4].flatten.toArray), (58, .int .i64 s7), (59, .bool (decide (s7 < 8))), (62, .int .i64 s9)] ∧ Iv w0 (many [cel g0 [av .u32 8 x0.s, [vp1], [.int .i64 x0.n]] 194, row 5 1 vp1 x0.rest.length cp1]).foot μ μ2 [cel g6 [av .u8 32 s10] 55, cel g5 [av .u32 8 c4] 192, cel g0 [av .u32 8 x0.s, [vp1], [.int .i64 x0.n]] 194, row 5 1 vp1 x0.rest.length cp1, row 5 1 (.slice (some ⟨g2, 0, none⟩) 1 1) ([128] : List Int).length cs2, cel g1 [av .u8 32 (List.replicate 32 0)] 55] w) n5 ⟨0, s8, hn5, (in_lit .i64 0 rfl), ws8, hA.sub ⟨rfl, rfl, rfl, rfl, rfl, rfl, rfl, rfl, rfl, rfl, rfl, trivial⟩, hI⟩ ?_
              clear hA hI
              rintro n a w ⟨s9, s10, hn5, ws9, ws10, hA, hI⟩
              obtain ⟨m5, rfl, H⟩ := loopN_bind hn5
              clear hn5
              refine w_seq fun _ hN20 => ?_
              refine w_reg ?_
              refine stp hA (r_lss hA rfl rfl) rfl fun a hA => ?_
              refine o_nil ?_
              refine hN20 _ _ ?_
              refine w_seq fun _ hN21 => ?_
              refine w_cond hA rfl (fun hc5 => ?_) (fun hc5 => ?_)
              · have hc50 := hc5; have hc5 := of_decide_eq_true hc5; have H := bT H hc5
                refine w_skip ?_
                refine hN21 _ _ ?_
                refine w_seq fun _ hN22 => ?_
                refine w_block ?_
                refine w_seq fun _ hN23 => ?_
                refine w_reg ?_
                refine stp hA (r_mv hA rfl) rfl fun a hA => 
                  stp hA (r_as hA rfl) rfl fun a hA => ?_
                refine o_nil ?_
                refine hN23 _ _ ?_
                refine w_reg ?_
                refine stp hA (r_mv hA rfl) rfl fun a hA => 
                  stp hA (r_mul hA rfl rfl) rfl fun a hA => 
                  stp hA (r_mv hA rfl) rfl fun a hA => 
                  stp hA (r_add hA rfl rfl) rfl fun a hA => 
                  stp hA (r_mv hA rfl) rfl fun a hA => 
                  stp hA (r_mv hA rfl) rfl fun a hA => 
                  stp hA (r_mul hA rfl rfl) rfl fun a hA => 
                  stp hA (r_sub hA rfl rfl) rfl fun a hA => ?_
                obtain ⟨hb7, H⟩ := bG H
                refine stp hA (r_shr hA rfl rfl hb7) rfl fun a hA => 
                  stp hA (r_conv Tryd.underlying39 Tryd.underlying5 hA rfl) rfl fun a hA => ?_
                obtain ⟨hb8, H⟩ := bG H
                refine stp hA (r_ixar1 Tryd.underlying55 sz5 hA rfl rfl hb8.1 hb8.2) rfl fun a hA => 
                  o_stE (j := 0) [] [] sz5 ws10.1 hI rfl hA rfl rfl rfl (by omega) fun w hI => ?_
                refine o_nil ?_
                refine hN22 _ _ ?_
                refine w_reg ?_
                refine stp hA (r_add hA rfl rfl) rfl fun a hA => 
                  stp hA (r_mv hA rfl) rfl fun a hA => ?_
                refine o_nil ?_
                exact ⟨m5, Nat.lt_succ_self _, IntKind.i64.wrap (s9 + 1), s10.set (IntKind.i64.wrap ((IntKind.i64.wrap (4 * s7)) + s9)).toNat (IntKind.u8.wrap (sR .u32 (c4.getD s7.toNat 0) (IntKind.i64.wrap (24 - (IntKind.i64.wrap (8 * s9)))))), H, (wrap_in _ _), (arr_set ws10 _ (wrap_in _ _)), hA.sub ⟨rfl, rfl, rfl, rfl, rfl, rfl, rfl, rfl, rfl, rfl, rfl, trivial⟩, hI⟩
              · have hc50 := hc5; have hc5 := of_decide_eq_false hc5; have H := bF H hc5
                refine w_exit rfl ?_
                have H : some s10 = some z5 := H
                obtain rfl := Option.some.inj H
                have H := Hk10
                cases Option.some.inj (bS H)
                exact ⟨ws10, hA.sub ⟨rfl, rfl, rfl, rfl, rfl, rfl, rfl, rfl, trivial⟩, hI⟩
            · rintro a w ⟨wc6, hA, hI⟩
              have H := Hk9
              refine w_reg ?_
              refine stp hA (r_add hA rfl rfl) rfl fun a hA => 
                stp hA (r_mv hA rfl) rfl fun a hA => ?_
              refine o_nil ?_
              exact ⟨m4, Nat.lt_succ_self _, IntKind.i64.wrap (s7 + 1), c6, H, (wrap_in _ _), wc6, hA.sub ⟨rfl, rfl, rfl, rfl, rfl, rfl, rfl, trivial⟩, hI⟩
          · have hc40 := hc4; have hc4 := of_decide_eq_false hc4; have H := bF H hc4
            refine w_exit rfl ?_
            have H : some s8 = some z4 := H
            obtain rfl := Option.some.inj H
            have H := Hk8
            cases Option.some.inj (bS H)
            exact ⟨ws8, hA.sub ⟨rfl, rfl, rfl, rfl, rfl, trivial⟩, hI⟩
        · rintro a w ⟨wc5, hA, hI⟩
          have H := Hk7
          refine w_seq fun _ hN24 => ?_
          refine w_reg ?_
          refine stp hA (r_ldA (j := 0) [] [av .u8 32 c5] [] Tryd.underlying55 rfl sz55 rfl hI rfl hA rfl rfl) rfl fun a hA => 
            o_st (j := 5) [] [av .u8 32 (List.replicate 32 0)] [av .u8 32 c5] [] sz55 rfl rfl (fl_cons (one_av _ _ _) fl_nil) hI rfl hA rfl rfl rfl rfl fun w hI => ?_
          refine o_nil ?_
          refine hN24 _ _ ?_
          refine w_ret ?_
          obtain rfl := Option.some.inj (bS H)
          exact retc Tryd.underlying55 rfl sz55 rfl hI (j := 5) rfl hA Tryd.results153 rfl ⟨_, rfl, rfl, wc5, ((hI.sel [2, 3] (by decide) rfl).less (Store.le.refl _) hI.le)⟩
set_option maxRecDepth 20000 in
theorem digest_Sha.c (μ : Store) (w0 : World) (hμ : Agr μ w0) (x0 : List Int) (u0 : Value) (hx0 : Slc (RI .u8) 1 μ u0 x0) (r : List Int) (H : digest_Sha.f x0 = some r) :
    Calls Tryd.prog 145 [u0].toArray w0 (fun e w' => ∃ v, e = .returned v ∧ v = .agg [av .u8 32 r].flatten.toArray ∧ Arr .u8 32 r ∧ Iv w0 [] μ μ [] w') := by
  refine enter Tryd.func145 rfl Tryd.ntmps145 rfl fun a hA => ?_
  have hI := Iv.start hμ
  have H := bI H
  refine w_seq fun _ hN1 => ?_
  refine w_reg ?_
  refine o_new [av .u8 32 (List.replicate 32 0)] zr55 hI hA rfl fun g1 a w hA hI hg1 => ?_
  refine o_nil ?_
  refine hN1 _ _ ?_
  refine w_seq fun _ hN2 => ?_
  refine w_reg ?_
  refine o_new [av .u32 8 (List.replicate 8 0), [(.slice none 0 0)], [.int .i64 0]] zr194 hI hA rfl fun g2 a w hA hI hg2 => ?_
  refine o_nil ?_
  refine hN2 _ _ ?_
  refine w_seq fun _ hN3 => ?_
  refine w_reg ?_
  refine stp hA (r_mv hA rfl) rfl fun a hA => ?_
  have hI := hI.nilRow 5 1
  obtain ⟨r1, hr1, H⟩ := bB H
  have hI := hI.sel [1, 0, 2] (by decide) rfl
  refine o_call _ cf152 hA rfl (digest_Writer_Write.c μ _ hI.agr (⟨(List.replicate 8 0), [], 0⟩ : digestWriter) (.slice none 0 0) [] g2 (arr_zero _ _) (Els.nil (RE := (RI .u8)) (sz := 1)) (in_lit .i64 0 rfl) (hI.handN 2) x0 u0 hx0 r1 hr1) rfl fun v1 a w hz1 hA => ?_
  obtain ⟨vp1, cp1, rfl, hp1, hp2, hp3, hi1⟩ := hz1
  have hI := hI.backN 2 hi1
  have hI : Iv w0 [] μ μ [cel g2 [av .u32 8 r1.s, [vp1], [.int .i64 r1.n]] 194, row 5 1 vp1 r1.rest.length cp1, cel g1 [av .u8 32 (List.replicate 32 0)] 55] w := hI
  refine o_nil ?_
  refine hN3 _ _ ?_
  refine w_seq fun _ hN4 => ?_
  refine w_reg ?_
  obtain ⟨r2, hr2, H⟩ := bB H
  refine o_call _ cf153 hA rfl (digest_Writer_Sum.c μ _ hI.agr (⟨r1.s, r1.rest, r1.n⟩ : digestWriter) vp1 cp1 g2 hp1 hp2 hp3 (hI.handN 2) r2 hr2) rfl fun v2 a w hz2 hA => ?_
  obtain ⟨rfl, hw1, hi2⟩ := hz2
  have hI := hI.backN 2 hi2
  have hI : Iv w0 [] μ μ [cel g2 [av .u32 8 r1.s, [vp1], [.int .i64 r1.n]] 194, row 5 1 vp1 r1.rest.length cp1, cel g1 [av .u8 32 (List.replicate 32 0)] 55] w := hI
  refine o_st (j := 2) [] [av .u8 32 (List.replicate 32 0)] [av .u8 32 r2] [] sz55 rfl rfl (fl_cons (one_av _ _ _) fl_nil) hI rfl hA rfl rfl rfl rfl fun w hI => ?_
  refine o_nil ?_
  refine hN4 _ _ ?_
  refine w_ret ?_
  obtain rfl := Option.some.inj (bS H)
  exact retc Tryd.underlying55 rfl sz55 rfl hI (j := 2) rfl hA Tryd.results145 rfl ⟨_, rfl, rfl, hw1, hI.forget0⟩
set_option maxRecDepth 20000 in
theorem sargassoref1_k.c (μ : Store) (w0 : World) (hμ : Agr μ w0) (r : List Int) (H : sargassoref1_k.f = some r) :
    Calls Tryd.prog 125 [].toArray w0 (fun e w' => ∃ v, e = .returned v ∧ ∃ (v0 : Value) (c0 : List Value), v = v0 ∧ Els (RI .u32) 1 r c0 ∧ Iv w0 [] μ μ [row 39 1 v0 r.length c0] w') := by
  refine enter Tryd.func125 rfl Tryd.ntmps125 rfl fun a hA => ?_
  have hI := Iv.start hμ
  have H := bI H
  refine w_seq fun _ hN1 => ?_
  refine w_reg ?_
  refine stp hA (r_as hA rfl) rfl fun a hA => ?_
  refine o_nil ?_
  refine hN1 _ _ ?_
  refine w_seq fun _ hN2 => ?_
  refine w_reg ?_
  have hE1 : Els (RI .u32) 1 sargassoref1_k.lit0 ((sargassoref1_k.lit0).map (.int .u32)) := els_ints sargassoref1_k.lit0_in
  refine o_bsl (mm := 64) (pv := numbered .u32 sargassoref1_k.lit0) ((sargassoref1_k.lit0).map (.int .u32)) te39 zr39 Tryd.underlying164 hI hA (by kernel_rfl) rfl rfl (by kernel_rfl) (by kernel_rfl) rfl fun g1 a w hA hI => ?_
  generalize hcs : ((sargassoref1_k.lit0).map (.int .u32) : List Value) = cs1 at hE1 hI
  clear hcs
  have hlencs1 : 64 = (sargassoref1_k.lit0).length := by kernel_rfl
  rw [hlencs1] at hI hA
  refine stp hA (r_as hA rfl) rfl fun a hA => ?_
  refine o_nil ?_
  refine hN2 _ _ ?_
  refine w_ret ?_
  obtain rfl := Option.some.inj (bS H)
  exact ret1 hA Tryd.results125 rfl ⟨_, rfl, (.slice (some ⟨g1, 0, none⟩) sargassoref1_k.lit0.length sargassoref1_k.lit0.length), cs1, rfl, hE1, (hI.less (Store.le.refl _) hI.le)⟩
set_option maxRecDepth 20000 in
theorem sargassoref1_right.c (μ : Store) (w0 : World) (hμ : Agr μ w0) (x0 : Int) (hx0 : InR .u32 x0) (x1 : Int) (hx1 : InR .u64 x1) (r : Int) (H : sargassoref1_right.f x0 x1 = some r) :
    Calls Tryd.prog 126 [.int .u32 x0, .int .u64 x1].toArray w0 (fun e w' => ∃ v, e = .returned v ∧ v = .int .u32 r ∧ InR .u32 r ∧ Iv w0 [] μ μ [] w') := by
  refine enter Tryd.func126 rfl Tryd.ntmps126 rfl fun a hA => ?_
  have hI := Iv.start hμ
  have H := bI H
  refine w_seq fun _ hN1 => ?_
  refine w_reg ?_
  refine stp hA (r_as hA rfl) rfl fun a hA => ?_
  refine o_nil ?_
  refine hN1 _ _ ?_
  refine w_seq fun _ hN2 => ?_
  refine w_reg ?_
  refine stp hA (r_mv hA rfl) rfl fun a hA => 
    stp hA (r_mv hA rfl) rfl fun a hA => ?_
  obtain ⟨hb1, H⟩ := bG H
  refine stp hA (r_shr hA rfl rfl hb1) rfl fun a hA => 
    stp hA (r_mv hA rfl) rfl fun a hA => 
    stp hA (r_mv hA rfl) rfl fun a hA => 
    stp hA (r_sub hA rfl rfl) rfl fun a hA => ?_
  obtain ⟨hb2, H⟩ := bG H
  refine stp hA (r_shl hA rfl rfl hb2) rfl fun a hA => 
    stp hA (r_or hA rfl rfl) rfl fun a hA => 
    stp hA (r_as hA rfl) rfl fun a hA => ?_
  refine o_nil ?_
  refine hN2 _ _ ?_
  refine w_ret ?_
  obtain rfl := Option.some.inj (bS H)
  exact ret1 hA Tryd.results126 rfl ⟨_, rfl, rfl, (wrap_in _ _), hI.forget0⟩
set_option maxRecDepth 20000 in
theorem sargassoref1_Sha.c (μ : Store) (w0 : World) (hμ : Agr μ w0) (x0 : List Int) (u0 : Value) (hx0 : Slc (RI .u8) 1 μ u0 x0) (r : List Int) (H : sargassoref1_Sha.f x0 = some r) :
    Calls Tryd.prog 71 [u0].toArray w0 (fun e w' => ∃ v, e = .returned v ∧ v = .agg [av .u8 32 r].flatten.toArray ∧ Arr .u8 32 r ∧ Iv w0 [] μ μ [] w') := by
  refine enter Tryd.func71 rfl Tryd.ntmps71 rfl fun a hA => ?_
  have hI := Iv.start hμ
  have H := bI H
  refine w_seq fun _ hN1 => ?_
  refine w_reg ?_
  refine o_new [av .u8 32 (List.replicate 32 0)] zr55 hI hA rfl fun g1 a w hA hI hg1 => ?_
  refine o_nil ?_
  refine hN1 _ _ ?_
  refine w_seq fun _ hN2 => ?_
  refine w_reg ?_
  have hE1 : Els (RI .u32) 1 ([1779033703, 3144134277, 1013904242, 2773480762, 1359893119, 2600822924, 528734635, 1541459225] : List Int) ([[.int .u32 1779033703]].flatten ++ ([[.int .u32 3144134277]].flatten ++ ([[.int .u32 1013904242]].flatten ++ ([[.int .u32 2773480762]].flatten ++ ([[.int .u32 1359893119]].flatten ++ ([[.int .u32 2600822924]].flatten ++ ([[.int .u32 528734635]].flatten ++ ([[.int .u32 1541459225]].flatten ++ ([]))))))))) := (Els.cons (c := [[.int .u32 1779033703]].flatten) ⟨rfl, (in_lit .u32 1779033703 rfl)⟩ rfl (Els.cons (c := [[.int .u32 3144134277]].flatten) ⟨rfl, (in_lit .u32 3144134277 rfl)⟩ rfl (Els.cons (c := [[.int .u32 1013904242]].flatten) ⟨rfl, (in_lit .u32 1013904242 rfl)⟩ rfl (Els.cons (c := [[.int .u32 2773480762]].flatten) ⟨rfl, (in_lit .u32 2773480762 rfl)⟩ rfl (Els.cons (c := [[.int .u32 1359893119]].flatten) ⟨rfl, (in_lit .u32 1359893119 rfl)⟩ rfl (Els.cons (c := [[.int .u32 2600822924]].flatten) ⟨rfl, (in_lit .u32 2600822924 rfl)⟩ rfl (Els.cons (c := [[.int .u32 528734635]].flatten) ⟨rfl, (in_lit .u32 528734635 rfl)⟩ rfl (Els.cons (c := [[.int .u32 1541459225]].flatten) ⟨rfl, (in_lit .u32 1541459225 rfl)⟩ rfl Els.nil))))))))
  refine o_bsl ([[.int .u32 1779033703]].flatten ++ ([[.int .u32 3144134277]].flatten ++ ([[.int .u32 1013904242]].flatten ++ ([[.int .u32 2773480762]].flatten ++ ([[.int .u32 1359893119]].flatten ++ ([[.int .u32 2600822924]].flatten ++ ([[.int .u32 528734635]].flatten ++ ([[.int .u32 1541459225]].flatten ++ ([]))))))))) te39 zr39 Tryd.underlying164 hI hA rfl rfl rfl rfl (by kernel_rfl) rfl fun g2 a w hA hI => ?_
  generalize hcs : ([[.int .u32 1779033703]].flatten ++ ([[.int .u32 3144134277]].flatten ++ ([[.int .u32 1013904242]].flatten ++ ([[.int .u32 2773480762]].flatten ++ ([[.int .u32 1359893119]].flatten ++ ([[.int .u32 2600822924]].flatten ++ ([[.int .u32 528734635]].flatten ++ ([[.int .u32 1541459225]].flatten ++ ([])))))))) : List Value) = cs1 at hE1 hI
  clear hcs
  refine stp hA (r_as hA rfl) rfl fun a hA => ?_
  refine o_nil ?_
  refine hN2 _ _ ?_
  refine w_seq fun _ hN3 => ?_
  refine w_reg ?_
  refine stp hA (r_mv hA rfl) rfl fun a hA => ?_
  obtain ⟨r1, hr1, H⟩ := bB H
  refine o_call _ cf26 hA rfl (sargassoref_Bytes.c μ _ hI.agr x0 u0 hx0 r1 hr1) rfl fun v1 a w hz1 hA => ?_
  obtain ⟨_, cs2, rfl, hE2, hi1⟩ := hz1
  have hI := hI.call hi1
  have hE3 : Els (RI .u8) 1 ([128] : List Int) ([[.int .u8 128]].flatten ++ ([])) := (Els.cons (c := [[.int .u8 128]].flatten) ⟨rfl, (in_lit .u8 128 rfl)⟩ rfl Els.nil)
  refine o_bsl ([[.int .u8 128]].flatten ++ ([])) te5 zr5 Tryd.underlying23 hI hA rfl rfl rfl rfl (by kernel_rfl) rfl fun g3 a w hA hI => ?_
  generalize hcs : ([[.int .u8 128]].flatten ++ ([]) : List Value) = cs3 at hE3 hI
  clear hcs
  obtain ⟨hb1, H⟩ := bG H
  have hE5 := hE2.app hE3
  refine o_appL (xs := (r1 : List Int)) (ys := (([128] : List Int) : List Int)) (j := 1) te5 Tryd.underlying23 hI rfl hA rfl rfl (src_row hI (j := 0) rfl) hE3.len (hE3.ones (one_RI _)) (by first | decide | (have hq := hb1; (try simp only [List.length_cons, List.length_nil] at hq); (try simp only [List.length_cons, List.length_nil]); (try simp only [maxLen]); omega)) (by first | decide | (have hq := hb1; (try simp only [List.length_cons, List.length_nil] at hq); (try simp only [List.length_cons, List.length_nil]); (try simp only [maxLen]); omega)) rfl fun v2 a w hA hI => 
    stp hA (r_as hA rfl) rfl fun a hA => ?_
  refine o_nil ?_
  refine hN3 _ _ ?_
  obtain ⟨c1, hz2, Hk1⟩ := bB H
  refine w_cut (fun a w => ∃ (vvc1 : Value) (ccc1 : List Value), Els (RI .u8) 1 c1 ccc1 ∧ Fr a 282 [(0, u0), (2, .pointer (some ⟨g1, 0, none⟩)), (3, (.slice (some ⟨g2, 0, none⟩) 8 8)), (4, vvc1)] ∧ Iv w0 [] μ μ [row 5 1 vvc1 c1.length ccc1, row 5 1 (.slice (some ⟨g3, 0, none⟩) 1 1) ([128] : List Int).length cs3, row 39 1 (.slice (some ⟨g2, 0, none⟩) 8 8) ([1779033703, 3144134277, 1013904242, 2773480762, 1359893119, 2600822924, 528734635, 1541459225] : List Int).length cs1, cel g1 [av .u8 32 (List.replicate 32 0)] 55] w) ?_ ?_
  · have H := bI hz2
    refine w_block ?_
    obtain ⟨z1, hz3, Hk2⟩ := bind_some H
    obtain ⟨n1, hn1⟩ := loopO_some hz3
    refine w_loop (fun n a w => ∃ (s1 : List Int) (vvs1 : Value) (ccs1 : List Value), loopN (sargassoref1_Sha.s0) n s1 = some z1 ∧ Els (RI .u8) 1 s1 ccs1 ∧ Fr a 282 [(0, u0), (2, .pointer (some ⟨g1, 0, none⟩)), (3, (.slice (some ⟨g2, 0, none⟩) 8 8)), (4, vvs1)] ∧ Iv w0 [] μ μ [row 5 1 (.slice (some ⟨g3, 0, none⟩) 1 1) ([128] : List Int).length cs3, row 5 1 vvs1 s1.length ccs1, row 39 1 (.slice (some ⟨g2, 0, none⟩) 8 8) ([1779033703, 3144134277, 1013904242, 2773480762, 1359893119, 2600822924, 528734635, 1541459225] : List Int).length cs1, cel g1 [av .u8 32 (List.replicate 32 0)] 55] w) n1 ⟨r1 ++ ([128] : List Int), v2, cs2 ++ cs3, hn1, hE5, hA.sub ⟨rfl, rfl, rfl, rfl, trivial⟩, hI⟩ ?_
    clear hA hI
    rintro n a w ⟨s1, vvs1, ccs1, hn1, ws1, hA, hI⟩
    obtain ⟨m1, rfl, H⟩ := loopN_bind hn1
    clear hn1
    refine w_seq fun _ hN4 => ?_
    refine w_seq fun _ hN5 => ?_
    refine w_reg ?_
    refine stp hA (r_mv hA rfl) rfl fun a hA => ?_
    have hlen1 := Iv.row_in hI (j := 1) rfl
    refine stp hA (r_rlen (xs := 0) Tryd.underlying23 hI (j := 1) rfl hA rfl) rfl fun a hA => 
      stp hA (r_rem hA rfl rfl (by decide)) rfl fun a hA => 
      stp hA (r_neq hA rfl rfl) rfl fun a hA => ?_
    refine o_nil ?_
    refine hN5 _ _ ?_
    refine w_cond hA rfl (fun hc1 => ?_) (fun hc1 => ?_)
    · have hc10 := hc1; have hc1 := of_decide_eq_true hc1; have H := bT H hc1
      refine w_skip ?_
      refine hN4 _ _ ?_
      refine w_block ?_
      refine w_reg ?_
      refine stp hA (r_mv hA rfl) rfl fun a hA => ?_
      have hE6 : Els (RI .u8) 1 ([0] : List Int) ([[.int .u8 0]].flatten ++ ([])) := (Els.cons (c := [[.int .u8 0]].flatten) ⟨rfl, (in_lit .u8 0 rfl)⟩ rfl Els.nil)
      refine o_bsl ([[.int .u8 0]].flatten ++ ([])) te5 zr5 Tryd.underlying23 hI hA rfl rfl rfl rfl (by kernel_rfl) rfl fun g4 a w hA hI => ?_
      generalize hcs : ([[.int .u8 0]].flatten ++ ([]) : List Value) = cs6 at hE6 hI
      clear hcs
      obtain ⟨hb2, H⟩ := bG H
      have hE8 := ws1.app hE6
      refine o_appL (xs := (s1 : List Int)) (ys := (([0] : List Int) : List Int)) (j := 2) te5 Tryd.underlying23 hI rfl hA rfl rfl (src_row hI (j := 0) rfl) hE6.len (hE6.ones (one_RI _)) (by first | decide | (have hq := hb2; (try simp only [List.length_cons, List.length_nil] at hq); (try simp only [List.length_cons, List.length_nil]); (try simp only [maxLen]); omega)) (by first | decide | (have hq := hb2; (try simp only [List.length_cons, List.length_nil] at hq); (try simp only [List.length_cons, List.length_nil]); (try simp only [maxLen]); omega)) rfl fun v3 a w hA hI => 
        stp hA (r_as hA rfl) rfl fun a hA => ?_
      refine o_nil ?_
      exact ⟨m1, Nat.lt_succ_self _, s1 ++ ([0] : List Int), v3, ccs1 ++ cs6, H, hE8, hA.sub ⟨rfl, rfl, rfl, rfl, trivial⟩, (hI.sel [1, 2, 3, 4] (by decide) rfl)⟩
    · have hc10 := hc1; have hc1 := of_decide_eq_false hc1; have H := bF H hc1
      refine w_exit rfl ?_
      have H : some s1 = some z1 := H
      obtain rfl := Option.some.inj H
      have H := Hk2
      cases Option.some.inj (bS H)
      exact ⟨vvs1, ccs1, ws1, hA.sub ⟨rfl, rfl, rfl, rfl, trivial⟩, (hI.sel [1, 0, 2, 3] (by decide) rfl)⟩
  · rintro a w ⟨vvc1, ccc1, wc1, hA, hI⟩
    have H := Hk1
    refine w_seq fun _ hN6 => ?_
    refine w_reg ?_
    refine stp hA (r_mv hA rfl) rfl fun a hA => ?_
    obtain ⟨_, hsl1⟩ := Slc.sv hx0
    refine stp hA (r_slen Tryd.underlying23 hsl1 hA rfl) rfl fun a hA => 
      stp hA (r_conv Tryd.underlying3 Tryd.underlying22 hA rfl) rfl fun a hA => 
      stp hA (r_mul hA rfl rfl) rfl fun a hA => 
      stp hA (r_as hA rfl) rfl fun a hA => ?_
    refine o_nil ?_
    refine hN6 _ _ ?_
    obtain ⟨c2, hz4, Hk3⟩ := bB H
    refine w_cut (fun a w => ∃ (vvc2 : Value) (ccc2 : List Value), Els (RI .u8) 1 c2 ccc2 ∧ Fr a 282 [(0, u0), (2, .pointer (some ⟨g1, 0, none⟩)), (3, (.slice (some ⟨g2, 0, none⟩) 8 8)), (4, vvc2), (5, .int .u64 (IntKind.u64.wrap (8 * (IntKind.u64.wrap (x0.length : Int)))))] ∧ Iv w0 [] μ μ [row 5 1 vvc2 c2.length ccc2, row 5 1 (.slice (some ⟨g3, 0, none⟩) 1 1) ([128] : List Int).length cs3, row 39 1 (.slice (some ⟨g2, 0, none⟩) 8 8) ([1779033703, 3144134277, 1013904242, 2773480762, 1359893119, 2600822924, 528734635, 1541459225] : List Int).length cs1, cel g1 [av .u8 32 (List.replicate 32 0)] 55] w) ?_ ?_
    · have H := bI hz4
      refine w_seq fun _ hN7 => ?_
      refine w_reg ?_
      refine stp hA (r_as hA rfl) rfl fun a hA => ?_
      refine o_nil ?_
      refine hN7 _ _ ?_
      refine w_block ?_
      obtain ⟨z2, hz5, Hk4⟩ := bind_some H
      obtain ⟨n2, hn2⟩ := loopO_some hz5
      refine w_loop (fun n a w => ∃ (s2 : List Int) (s3 : Int) (vvs2 : Value) (ccs2 : List Value), loopN (sargassoref1_Sha.s1 x0) n (s2, s3) = some z2 ∧ Els (RI .u8) 1 s2 ccs2 ∧ InR .i64 s3 ∧ Fr a 282 [(0, u0), (2, .pointer (some ⟨g1, 0, none⟩)), (3, (.slice (some ⟨g2, 0, none⟩) 8 8)), (4, vvs2), (5, .int .u64 (IntKind.u64.wrap (8 * (IntKind.u64.wrap (x0.length : Int))))), (6, .int .i64 s3)] ∧ Iv w0 [] μ μ [row 5 1 vvs2 s2.length ccs2, row 5 1 (.slice (some ⟨g3, 0, none⟩) 1 1) ([128] : List Int).length cs3, row 39 1 (.slice (some ⟨g2, 0, none⟩) 8 8) ([1779033703, 3144134277, 1013904242, 2773480762, 1359893119, 2600822924, 528734635, 1541459225] : List Int).length cs1, cel g1 [av .u8 32 (List.replicate 32 0)] 55] w) n2 ⟨c1, 7, vvc1, ccc1, hn2, wc1, (in_lit .i64 7 rfl), hA.sub ⟨rfl, rfl, rfl, rfl, rfl, rfl, trivial⟩, hI⟩ ?_
      clear hA hI
      rintro n a w ⟨s2, s3, vvs2, ccs2, hn2, ws2, ws3, hA, hI⟩
      obtain ⟨m2, rfl, H⟩ := loopN_bind hn2
      clear hn2
      refine w_seq fun _ hN8 => ?_
      refine w_seq fun _ hN9 => ?_
      refine w_reg ?_
      refine stp hA (r_mv hA rfl) rfl fun a hA => 
        stp hA (r_geq hA rfl rfl) rfl fun a hA => ?_
      refine o_nil ?_
      refine hN9 _ _ ?_
      refine w_cond hA rfl (fun hc2 => ?_) (fun hc2 => ?_)
      · have hc20 := hc2; have hc2 := of_decide_eq_true hc2; have H := bT H hc2
        refine w_skip ?_
        refine hN8 _ _ ?_
        refine w_seq fun _ hN10 => ?_
        refine w_block ?_
        refine w_reg ?_
        refine stp hA (r_mv hA rfl) rfl fun a hA => 
          stp hA (r_mv hA rfl) rfl fun a hA => 
          stp hA (r_mv hA rfl) rfl fun a hA => 
          stp hA (r_mul hA rfl rfl) rfl fun a hA => 
          stp hA (r_conv Tryd.underlying3 Tryd.underlying81 hA rfl) rfl fun a hA => ?_
        obtain ⟨hb3, H⟩ := bG H
        refine stp hA (r_shr hA rfl rfl hb3) rfl fun a hA => 
          stp hA (r_conv Tryd.underlying22 Tryd.underlying5 hA rfl) rfl fun a hA => ?_
        have hE9 : Els (RI .u8) 1 ([IntKind.u8.wrap (sR .u64 (IntKind.u64.wrap (8 * (IntKind.u64.wrap (x0.length : Int)))) (IntKind.u64.wrap (IntKind.i64.wrap (8 * s3))))] : List Int) ([[.int .u8 (IntKind.u8.wrap (sR .u64 (IntKind.u64.wrap (8 * (IntKind.u64.wrap (x0.length : Int)))) (IntKind.u64.wrap (IntKind.i64.wrap (8 * s3)))))]].flatten ++ ([])) := (Els.cons (c := [[.int .u8 (IntKind.u8.wrap (sR .u64 (IntKind.u64.wrap (8 * (IntKind.u64.wrap (x0.length : Int)))) (IntKind.u64.wrap (IntKind.i64.wrap (8 * s3)))))]].flatten) ⟨rfl, (wrap_in _ _)⟩ rfl Els.nil)
        refine o_bsl ([[.int .u8 (IntKind.u8.wrap (sR .u64 (IntKind.u64.wrap (8 * (IntKind.u64.wrap (x0.length : Int)))) (IntKind.u64.wrap (IntKind.i64.wrap (8 * s3)))))]].flatten ++ ([])) te5 zr5 Tryd.underlying23 hI hA rfl rfl rfl rfl (by kernel_rfl) rfl fun g5 a w hA hI => ?_
        generalize hcs : ([[.int .u8 (IntKind.u8.wrap (sR .u64 (IntKind.u64.wrap (8 * (IntKind.u64.wrap (x0.length : Int)))) (IntKind.u64.wrap (IntKind.i64.wrap (8 * s3)))))]].flatten ++ ([]) : List Value) = cs9 at hE9 hI
        clear hcs
        obtain ⟨hb4, H⟩ := bG H
        have hE11 := ws2.app hE9
        refine o_appL (xs := (s2 : List Int)) (ys := (([IntKind.u8.wrap (sR .u64 (IntKind.u64.wrap (8 * (IntKind.u64.wrap (x0.length : Int)))) (IntKind.u64.wrap (IntKind.i64.wrap (8 * s3))))] : List Int) : List Int)) (j := 1) te5 Tryd.underlying23 hI rfl hA rfl rfl (src_row hI (j := 0) rfl) hE9.len (hE9.ones (one_RI _)) (by first | decide | (have hq := hb4; (try simp only [List.length_cons, List.length_nil] at hq); (try simp only [List.length_cons, List.length_nil]); (try simp only [maxLen]); omega)) (by first | decide | (have hq := hb4; (try simp only [List.length_cons, List.length_nil] at hq); (try simp only [List.length_cons, List.length_nil]); (try simp only [maxLen]); omega)) rfl fun v4 a w hA hI => 
          stp hA (r_as hA rfl) rfl fun a hA => ?_
        refine o_nil ?_
        refine hN10 _ _ ?_
        refine w_reg ?_
        refine stp hA (r_mv hA rfl) rfl fun a hA => 
          stp hA (r_sub hA rfl rfl) rfl fun a hA => 
          stp hA (r_as hA rfl) rfl fun a hA => ?_
        refine o_nil ?_
        exact ⟨m2, Nat.lt_succ_self _, s2 ++ ([IntKind.u8.wrap (sR .u64 (IntKind.u64.wrap (8 * (IntKind.u64.wrap (x0.length : Int)))) (IntKind.u64.wrap (IntKind.i64.wrap (8 * s3))))] : List Int), IntKind.i64.wrap (s3 - 1), v4, ccs2 ++ cs9, H, hE11, (wrap_in _ _), hA.sub ⟨rfl, rfl, rfl, rfl, rfl, rfl, trivial⟩, (hI.sel [1, 2, 3, 4] (by decide) rfl)⟩
      · have hc20 := hc2; have hc2 := of_decide_eq_false hc2; have H := bF H hc2
        refine w_exit rfl ?_
        have H : some s2 = some z2 := H
        obtain rfl := Option.some.inj H
        have H := Hk4
        cases Option.some.inj (bS H)
        exact ⟨vvs2, ccs2, ws2, hA.sub ⟨rfl, rfl, rfl, rfl, rfl, trivial⟩, hI⟩
    · rintro a w ⟨vvc2, ccc2, wc2, hA, hI⟩
      have H := Hk3
      refine w_seq fun _ hN11 => ?_
      refine w_reg ?_
      obtain ⟨r2, hr2, H⟩ := bB H
      refine o_call _ cf125 hA rfl (sargassoref1_k.c μ _ hI.agr  r2 hr2) rfl fun v5 a w hz6 hA => ?_
      obtain ⟨_, cs12, rfl, hE12, hi2⟩ := hz6
      have hI := hI.call hi2
      refine stp hA (r_as hA rfl) rfl fun a hA => ?_
      refine o_nil ?_
      refine hN11 _ _ ?_
      obtain ⟨c3, hz7, Hk5⟩ := bB H
      refine w_cut (fun a w => ∃ (ccc3 : List Value), Els (RI .u32) 1 c3 ccc3 ∧ Fr a 282 [(0, u0), (2, .pointer (some ⟨g1, 0, none⟩)), (3, (.slice (some ⟨g2, 0, none⟩) 8 8)), (4, vvc2), (5, .int .u64 (IntKind.u64.wrap (8 * (IntKind.u64.wrap (x0.length : Int))))), (7, v5)] ∧ Iv w0 [] μ μ [row 39 1 v5 r2.length cs12, row 5 1 vvc2 c2.length ccc2, row 5 1 (.slice (some ⟨g3, 0, none⟩) 1 1) ([128] : List Int).length cs3, row 39 1 (.slice (some ⟨g2, 0, none⟩) 8 8) c3.length ccc3, cel g1 [av .u8 32 (List.replicate 32 0)] 55] w) ?_ ?_
      · have H := bI hz7
        refine w_seq fun _ hN12 => ?_
        refine w_reg ?_
        refine stp hA (r_as hA rfl) rfl fun a hA => ?_
        refine o_nil ?_
        refine hN12 _ _ ?_
        refine w_block ?_
        obtain ⟨z3, hz8, Hk6⟩ := bind_some H
        obtain ⟨n3, hn3⟩ := loopO_some hz8
        refine w_loop (fun n a w => ∃ (s4 : Int) (s5 : List Int) (ccs5 : List Value), loopN (sargassoref1_Sha.s2 c2 r2) n (s4, s5) = some z3 ∧ InR .i64 s4 ∧ Els (RI .u32) 1 s5 ccs5 ∧ Fr a 282 [(0, u0), (2, .pointer (some ⟨g1, 0, none⟩)), (3, (.slice (some ⟨g2, 0, none⟩) 8 8)), (4, vvc2), (5, .int .u64 (IntKind.u64.wrap (8 * (IntKind.u64.wrap (x0.length : Int))))), (7, v5), (8, .int .i64 s4)] ∧ Iv w0 [] μ μ [row 39 1 v5 r2.length cs12, row 5 1 vvc2 c2.length ccc2, row 5 1 (.slice (some ⟨g3, 0, none⟩) 1 1) ([128] : List Int).length cs3, row 39 1 (.slice (some ⟨g2, 0, none⟩) 8 8) s5.length ccs5, cel g1 [av .u8 32 (List.replicate 32 0)] 55] w) n3 ⟨0, ([1779033703, 3144134277, 1013904242, 2773480762, 1359893119, 2600822924, 528734635, 1541459225] : List Int), cs1, hn3, (in_lit .i64 0 rfl), hE1, hA.sub ⟨rfl, rfl, rfl, rfl, rfl, rfl, rfl, trivial⟩, hI⟩ ?_
        clear hA hI
        rintro n a w ⟨s4, s5, ccs5, hn3, ws4, ws5, hA, hI⟩
        obtain ⟨m3, rfl, H⟩ := loopN_bind hn3
        clear hn3
        refine w_seq fun _ hN13 => ?_
        refine w_seq fun _ hN14 => ?_
        refine w_reg ?_
        refine stp hA (r_mv hA rfl) rfl fun a hA => 
          stp hA (r_mv hA rfl) rfl fun a hA => ?_
        have hlen2 := Iv.row_in hI (j := 1) rfl
        refine stp hA (r_rlen (xs := 0) Tryd.underlying23 hI (j := 1) rfl hA rfl) rfl fun a hA => 
          stp hA (r_lss hA rfl rfl) rfl fun a hA => ?_
        refine o_nil ?_
        refine hN14 _ _ ?_
        refine w_cond hA rfl (fun hc3 => ?_) (fun hc3 => ?_)
        · have hc30 := hc3; have hc3 := of_decide_eq_true hc3; have H := bT H hc3
          refine w_skip ?_
          refine hN13 _ _ ?_
          obtain ⟨c4, hz9, Hk7⟩ := bB H
          refine w_cut (fun a w => ∃ (ccc4 : List Value), Els (RI .u32) 1 c4 ccc4 ∧ Fr a 282 [(0, u0), (2, .pointer (some ⟨g1, 0, none⟩)), (3, (.slice (some ⟨g2, 0, none⟩) 8 8)), (4, vvc2), (5, .int .u64 (IntKind.u64.wrap (8 * (IntKind.u64.wrap (x0.length : Int))))), (7, v5), (8, .int .i64 s4), (56, .bool (decide (s4 < (c2.length : Int))))] ∧ Iv w0 [] μ μ [row 39 1 v5 r2.length cs12, row 5 1 vvc2 c2.length ccc2, row 5 1 (.slice (some ⟨g3, 0, none⟩) 1 1) ([128] : List Int).length cs3, row 39 1 (.slice (some ⟨g2, 0, none⟩) 8 8) c4.length ccc4, cel g1 [av .u8 32 (List.replicate 32 0)] 55] w) ?_ ?_
          · have H := bI hz9
            refine w_block ?_
            refine w_seq fun _ hN15 => ?_
            refine w_reg ?_
            obtain ⟨hb5, H⟩ := bG H
            refine o_make (RE := (RI .u32)) (c0 := [[.int .u32 0]].flatten) (z0 := 0) ⟨rfl, (in_lit .u32 0 rfl)⟩ te39 rfl zr39 Tryd.underlying164 hI hA rfl rfl (by have hq := hb5; simp only [maxLen]; omega) rfl fun g6 cs13 a w hE13 hA hI => 
              stp hA (r_as hA rfl) rfl fun a hA => ?_
            refine o_nil ?_
            refine hN15 _ _ ?_
            obtain ⟨c5, hz10, Hk8⟩ := bB H
            refine w_cut (fun a w => ∃ (ccc5 : List Value), Els (RI .u32) 1 c5 ccc5 ∧ Fr a 282 [(0, u0), (2, .pointer (some ⟨g1, 0, none⟩)), (3, (.slice (some ⟨g2, 0, none⟩) 8 8)), (4, vvc2), (5, .int .u64 (IntKind.u64.wrap (8 * (IntKind.u64.wrap (x0.length : Int))))), (7, v5), (8, .int .i64 s4), (9, (.slice (some ⟨g6, 0, none⟩) ((64 : Int).toNat) ((64 : Int).toNat))), (56, .bool (decide (s4 < (c2.length : Int))))] ∧ Iv w0 [] μ μ [row 39 1 (.slice (some ⟨g6, 0, none⟩) ((64 : Int).toNat) ((64 : Int).toNat)) c5.length ccc5, row 39 1 v5 r2.length cs12, row 5 1 vvc2 c2.length ccc2, row 5 1 (.slice (some ⟨g3, 0, none⟩) 1 1) ([128] : List Int).length cs3, row 39 1 (.slice (some ⟨g2, 0, none⟩) 8 8) s5.length ccs5, cel g1 [av .u8 32 (List.replicate 32 0)] 55] w) ?_ ?_
            · have H := bI hz10
              refine w_seq fun _ hN16 => ?_
              refine w_reg ?_
              refine stp hA (r_as hA rfl) rfl fun a hA => ?_
              refine o_nil ?_
              refine hN16 _ _ ?_
              refine w_block ?_
              obtain ⟨z4, hz11, Hk9⟩ := bind_some H
              obtain ⟨n4, hn4⟩ := loopO_some hz11
              refine w_loop (fun n a w => ∃ (s6 : Int) (s7 : List Int) (ccs7 : List Value), loopN (sargassoref1_Sha.s3 c2 s4) n (s6, s7) = some z4 ∧ InR .i64 s6 ∧ Els (RI .u32) 1 s7 ccs7 ∧ Fr a 282 [(0, u0), (2, .pointer (some ⟨g1, 0, none⟩)), (3, (.slice (some ⟨g2, 0, none⟩) 8 8)), (4, vvc2), (5, .int .u64 (IntKind.u64.wrap (8 * (IntKind.u64.wrap (x0.length : Int))))), (7, v5), (8, .int .i64 s4), (9, (.slice (some ⟨g6, 0, none⟩) ((64 : Int).toNat) ((64 : Int).toNat))), (10, .int .i64 s6), (56, .bool (decide (s4 < (c2.length : Int))))] ∧ Iv w0 [] μ μ [row 39 1 (.slice (some ⟨g6, 0, none⟩) ((64 : Int).toNat) ((64 : Int).toNat)) s7.length ccs7, row 39 1 v5 r2.length cs12, row 5 1 vvc2 c2.length ccc2, row 5 1 (.slice (some ⟨g3, 0, none⟩) 1 1) ([128] : List Int).length cs3, row 39 1 (.slice (some ⟨g2, 0, none⟩) 8 8) s5.length ccs5, cel g1 [av .u8 32 (List.replicate 32 0)] 55] w) n4 ⟨0, (List.replicate ((64 : Int).toNat) 0 : List Int), cs13, hn4, (in_lit .i64 0 rfl), hE13, hA.sub ⟨rfl, rfl, rfl, rfl, rfl, rfl, rfl, rfl, rfl, rfl, trivial⟩, hI⟩ ?_
              clear hA hI
              rintro n a w ⟨s6, s7, ccs7, hn4, ws6, ws7, hA, hI⟩
              obtain ⟨m4, rfl, H⟩ := loopN_bind hn4
              clear hn4
              refine w_seq fun _ hN17 => ?_
              refine w_seq fun _ hN18 => ?_
              refine w_reg ?_
              refine stp hA (r_mv hA rfl) rfl fun a hA => 
                stp hA (r_lss hA rfl rfl) rfl fun a hA => ?_
              refine o_nil ?_
              refine hN18 _ _ ?_
              refine w_cond hA rfl (fun hc4 => ?_) (fun hc4 => ?_)
              · have hc40 := hc4; have hc4 := of_decide_eq_true hc4; have H := bT H hc4
                refine w_skip ?_
                refine hN17 _ _ ?_
                obtain ⟨c6, hz12, Hk10⟩ := bB H
                refine w_cut (fun a w => ∃ (ccc6 : List Value), Els (RI .u32) 1 c6 ccc6 ∧ Fr a 282 [(0, u0), (2, .pointer (some ⟨g1, 0, none⟩)), (3, (.slice (some ⟨g2, 0, none⟩) 8 8)), (4, vvc2), (5, .int .u64 (IntKind.u64.wrap (8 * (IntKind.u64.wrap (x0.length : Int))))), (7, v5), (8, .int .i64 s4), (9, (.slice (some ⟨g6, 0, none⟩) ((64 : Int).toNat) ((64 : Int).toNat))), (10, .int .i64 s6), (56, .bool (decide (s4 < (c2.length : Int)))), (61, .bool (decide (s6 < 64)))] ∧ Iv w0 [] μ μ [row 39 1 (.slice (some ⟨g6, 0, none⟩) ((64 : Int).toNat) ((64 : Int).toNat)) c6.length ccc6, row 39 1 v5 r2.length cs12, row 5 1 vvc2 c2.length ccc2, row 5 1 (.slice (some ⟨g3, 0, none⟩) 1 1) ([128] : List Int).length cs3, row 39 1 (.slice (some ⟨g2, 0, none⟩) 8 8) s5.length ccs5, cel g1 [av .u8 32 (List.replicate 32 0)] 55] w) ?_ ?_
                · have H := bI hz12
                  refine w_block ?_
                  refine w_seq fun _ hN19 => ?_
                  refine w_seq fun _ hN20 => ?_
                  refine w_reg ?_
                  refine stp hA (r_mv hA rfl) rfl fun a hA => 
                    stp hA (r_lss hA rfl rfl) rfl fun a hA => ?_
                  refine o_nil ?_
                  refine hN20 _ _ ?_
                  refine w_cond hA rfl (fun hc5 => ?_) (fun hc5 => ?_)
                  · have hc50 := hc5; have hc5 := of_decide_eq_true hc5; have H := bT H hc5
                    refine w_seq fun _ hN21 => ?_
                    refine w_reg ?_
                    refine stp hA (r_mv hA rfl) rfl fun a hA => 
                      stp hA (r_mv hA rfl) rfl fun a hA => 
                      stp hA (r_mul hA rfl rfl) rfl fun a hA => 
                      stp hA (r_add hA rfl rfl) rfl fun a hA => 
                      stp hA (r_as hA rfl) rfl fun a hA => ?_
                    refine o_nil ?_
                    refine hN21 _ _ ?_
                    refine w_seq fun _ hN22 => ?_
                    refine w_any [32] mo hI fun w hI => ?_
                    refine g_easy (i := 0) hA rfl rfl (by kernel_rfl) (.inr hI) (fun _ => r_mv hA rfl) rfl fun a hA => ?_
                    refine g_easy (i := 1) hA rfl rfl (by kernel_rfl) (.inr hI) (fun _ => r_mv hA rfl) rfl fun a hA => ?_
                    refine g_easy (i := 2) hA rfl rfl (by kernel_rfl) (.inr hI) (fun _ => r_mv hA rfl) rfl fun a hA => ?_
                    refine g_easy (i := 3) hA rfl rfl (by kernel_rfl) (.inr hI) (fun _ => r_mv hA rfl) rfl fun a hA => ?_
                    obtain ⟨hb6, H⟩ := bG H
                    refine g_take (i := 4) hA rfl rfl (by kernel_rfl) hI (fun w hI => r_rix (j := 2) Tryd.underlying23 sz5 hI rfl hA rfl rfl hb6.1 hb6.2) rfl fun a hA => ?_
                    have hq1 := els_get wc2 hb6.1 hb6.2
                    refine g_take (i := 5) hA rfl rfl (by kernel_rfl) hI (fun w hI => r_rld1 (j := 2) Tryd.underlying5 rfl hI rfl hq1 hA rfl (by simp only [Nat.mul_one])) rfl fun a hA => ?_
                    refine g_easy (i := 6) hA rfl rfl (by kernel_rfl) (.inr hI) (fun _ => r_conv Tryd.underlying5 Tryd.underlying39 hA rfl) rfl fun a hA => ?_
                    refine g_easy (i := 7) hA rfl rfl (by kernel_rfl) (.inr hI) (fun _ => r_shl hA rfl rfl (by decide)) rfl fun a hA => ?_
                    refine g_easy (i := 8) hA rfl rfl (by kernel_rfl) (.inr hI) (fun _ => r_mv hA rfl) rfl fun a hA => ?_
                    refine g_easy (i := 9) hA rfl rfl (by kernel_rfl) (.inr hI) (fun _ => r_mv hA rfl) rfl fun a hA => ?_
                    refine g_easy (i := 10) hA rfl rfl (by kernel_rfl) (.inr hI) (fun _ => r_add hA rfl rfl) rfl fun a hA => ?_
                    obtain ⟨hb7, H⟩ := bG H
                    refine g_take (i := 11) hA rfl rfl (by kernel_rfl) hI (fun w hI => r_rix (j := 2) Tryd.underlying23 sz5 hI rfl hA rfl rfl hb7.1 hb7.2) rfl fun a hA => ?_
                    have hq2 := els_get wc2 hb7.1 hb7.2
                    refine g_take (i := 12) hA rfl rfl (by kernel_rfl) hI (fun w hI => r_rld1 (j := 2) Tryd.underlying5 rfl hI rfl hq2 hA rfl (by simp only [Nat.mul_one])) rfl fun a hA => ?_
                    refine g_easy (i := 13) hA rfl rfl (by kernel_rfl) (.inr hI) (fun _ => r_conv Tryd.underlying5 Tryd.underlying39 hA rfl) rfl fun a hA => ?_
                    refine g_easy (i := 14) hA rfl rfl (by kernel_rfl) (.inr hI) (fun _ => r_shl hA rfl rfl (by decide)) rfl fun a hA => ?_
                    refine g_easy (i := 15) hA rfl rfl (by kernel_rfl) (.inr hI) (fun _ => r_or hA rfl rfl) rfl fun a hA => ?_
                    refine g_easy (i := 16) hA rfl rfl (by kernel_rfl) (.inr hI) (fun _ => r_mv hA rfl) rfl fun a hA => ?_
                    refine g_easy (i := 17) hA rfl rfl (by kernel_rfl) (.inr hI) (fun _ => r_mv hA rfl) rfl fun a hA => ?_
                    refine g_easy (i := 18) hA rfl rfl (by kernel_rfl) (.inr hI) (fun _ => r_add hA rfl rfl) rfl fun a hA => ?_
                    obtain ⟨hb8, H⟩ := bG H
                    refine g_take (i := 19) hA rfl rfl (by kernel_rfl) hI (fun w hI => r_rix (j := 2) Tryd.underlying23 sz5 hI rfl hA rfl rfl hb8.1 hb8.2) rfl fun a hA => ?_
                    have hq3 := els_get wc2 hb8.1 hb8.2
                    refine g_take (i := 20) hA rfl rfl (by kernel_rfl) hI (fun w hI => r_rld1 (j := 2) Tryd.underlying5 rfl hI rfl hq3 hA rfl (by simp only [Nat.mul_one])) rfl fun a hA => ?_
                    refine g_easy (i := 21) hA rfl rfl (by kernel_rfl) (.inr hI) (fun _ => r_conv Tryd.underlying5 Tryd.underlying39 hA rfl) rfl fun a hA => ?_
                    refine g_easy (i := 22) hA rfl rfl (by kernel_rfl) (.inr hI) (fun _ => r_shl hA rfl rfl (by decide)) rfl fun a hA => ?_
                    refine g_easy (i := 23) hA rfl rfl (by kernel_rfl) (.inr hI) (fun _ => r_or hA rfl rfl) rfl fun a hA => ?_
                    refine g_easy (i := 24) hA rfl rfl (by kernel_rfl) (.inr hI) (fun _ => r_mv hA rfl) rfl fun a hA => ?_
                    refine g_easy (i := 25) hA rfl rfl (by kernel_rfl) (.inr hI) (fun _ => r_mv hA rfl) rfl fun a hA => ?_
                    refine g_easy (i := 26) hA rfl rfl (by kernel_rfl) (.inr hI) (fun _ => r_add hA rfl rfl) rfl fun a hA => ?_
                    obtain ⟨hb9, H⟩ := bG H
                    refine g_take (i := 27) hA rfl rfl (by kernel_rfl) hI (fun w hI => r_rix (j := 2) Tryd.underlying23 sz5 hI rfl hA rfl rfl hb9.1 hb9.2) rfl fun a hA => ?_
                    have hq4 := els_get wc2 hb9.1 hb9.2
                    refine g_take (i := 28) hA rfl rfl (by kernel_rfl) hI (fun w hI => r_rld1 (j := 2) Tryd.underlying5 rfl hI rfl hq4 hA rfl (by simp only [Nat.mul_one])) rfl fun a hA => ?_
                    refine g_easy (i := 29) hA rfl rfl (by kernel_rfl) (.inr hI) (fun _ => r_conv Tryd.underlying5 Tryd.underlying39 hA rfl) rfl fun a hA => ?_
                    refine g_easy (i := 30) hA rfl rfl (by kernel_rfl) (.inr hI) (fun _ => r_or hA rfl rfl) rfl fun a hA => ?_
                    obtain ⟨hb10, H⟩ := bG H
                    refine g_take (i := 31) hA rfl rfl (by kernel_rfl) hI (fun w hI => r_rix (j := 0) Tryd.underlying164 sz39 hI rfl hA rfl rfl hb10.1 hb10.2) rfl fun a hA => ?_
                    refine g_forced (i := 32) rfl (by kernel_rfl) ?_
                    have hE14 := els_set (x := (bOr .u32 (bOr .u32 (bOr .u32 (sL .u32 (IntKind.u32.wrap (c2.getD (IntKind.i64.wrap (s4 + (IntKind.i64.wrap (4 * s6)))).toNat 0)) 24) (sL .u32 (IntKind.u32.wrap (c2.getD (IntKind.i64.wrap ((IntKind.i64.wrap (s4 + (IntKind.i64.wrap (4 * s6)))) + 1)).toNat 0)) 16)) (sL .u32 (IntKind.u32.wrap (c2.getD (IntKind.i64.wrap ((IntKind.i64.wrap (s4 + (IntKind.i64.wrap (4 * s6)))) + 2)).toNat 0)) 8)) (IntKind.u32.wrap (c2.getD (IntKind.i64.wrap ((IntKind.i64.wrap (s4 + (IntKind.i64.wrap (4 * s6)))) + 3)).toNat 0)))) ws7 s6.toNat (wrap_in _ _)
                    refine o_rst (j := 0) (q := s6.toNat) (z := (bOr .u32 (bOr .u32 (bOr .u32 (sL .u32 (IntKind.u32.wrap (c2.getD (IntKind.i64.wrap (s4 + (IntKind.i64.wrap (4 * s6)))).toNat 0)) 24) (sL .u32 (IntKind.u32.wrap (c2.getD (IntKind.i64.wrap ((IntKind.i64.wrap (s4 + (IntKind.i64.wrap (4 * s6)))) + 1)).toNat 0)) 16)) (sL .u32 (IntKind.u32.wrap (c2.getD (IntKind.i64.wrap ((IntKind.i64.wrap (s4 + (IntKind.i64.wrap (4 * s6)))) + 2)).toNat 0)) 8)) (IntKind.u32.wrap (c2.getD (IntKind.i64.wrap ((IntKind.i64.wrap (s4 + (IntKind.i64.wrap (4 * s6)))) + 3)).toNat 0)))) (xs := s7) sz39 hI rfl hA rfl rfl (by simp only [Nat.mul_one]) rfl (by omega) fun w hI => ?_
                    refine o_nil ?_
                    refine ⟨(.inl (by kernel_rfl)), ?_⟩
                    refine g_nil (by kernel_rfl) ?_
                    refine hN22 _ _ ?_
                    refine w_exit rfl ?_
                    cases Option.some.inj (bS H)
                    exact ⟨ccs7.set s6.toNat (.int .u32 (bOr .u32 (bOr .u32 (bOr .u32 (sL .u32 (IntKind.u32.wrap (c2.getD (IntKind.i64.wrap (s4 + (IntKind.i64.wrap (4 * s6)))).toNat 0)) 24) (sL .u32 (IntKind.u32.wrap (c2.getD (IntKind.i64.wrap ((IntKind.i64.wrap (s4 + (IntKind.i64.wrap (4 * s6)))) + 1)).toNat 0)) 16)) (sL .u32 (IntKind.u32.wrap (c2.getD (IntKind.i64.wrap ((IntKind.i64.wrap (s4 + (IntKind.i64.wrap (4 * s6)))) + 2)).toNat 0)) 8)) (IntKind.u32.wrap (c2.getD (IntKind.i64.wrap ((IntKind.i64.wrap (s4 + (IntKind.i64.wrap (4 * s6)))) + 3)).toNat 0)))), hE14, hA.sub ⟨rfl, rfl, rfl, rfl, rfl, rfl, rfl, rfl, rfl, rfl, rfl, trivial⟩, hI⟩
                  · have hc50 := hc5; have hc5 := of_decide_eq_false hc5; have H := bF H hc5
                    refine w_skip ?_
                    refine hN19 _ _ ?_
                    refine w_seq fun _ hN23 => ?_
                    refine w_reg ?_
                    refine stp hA (r_mv hA rfl) rfl fun a hA => 
                      stp hA (r_mv hA rfl) rfl fun a hA => 
                      stp hA (r_sub hA rfl rfl) rfl fun a hA => ?_
                    obtain ⟨hb11, H⟩ := bG H
                    refine stp hA (r_rix (j := 0) Tryd.underlying164 sz39 hI rfl hA rfl rfl hb11.1 hb11.2) rfl fun a hA => ?_
                    have hq5 := els_get ws7 hb11.1 hb11.2
                    refine stp hA (r_rld1 (j := 0) Tryd.underlying39 rfl hI rfl hq5 hA rfl (by simp only [Nat.mul_one])) rfl fun a hA => 
                      stp hA (r_as hA rfl) rfl fun a hA => ?_
                    refine o_nil ?_
                    refine hN23 _ _ ?_
                    refine w_seq fun _ hN24 => ?_
                    refine w_reg ?_
                    refine stp hA (r_mv hA rfl) rfl fun a hA => 
                      stp hA (r_mv hA rfl) rfl fun a hA => 
                      stp hA (r_sub hA rfl rfl) rfl fun a hA => ?_
                    obtain ⟨hb12, H⟩ := bG H
                    refine stp hA (r_rix (j := 0) Tryd.underlying164 sz39 hI rfl hA rfl rfl hb12.1 hb12.2) rfl fun a hA => ?_
                    have hq6 := els_get ws7 hb12.1 hb12.2
                    refine stp hA (r_rld1 (j := 0) Tryd.underlying39 rfl hI rfl hq6 hA rfl (by simp only [Nat.mul_one])) rfl fun a hA => 
                      stp hA (r_as hA rfl) rfl fun a hA => ?_
                    refine o_nil ?_
                    refine hN24 _ _ ?_
                    refine w_any [32] mo hI fun w hI => ?_
                    refine g_easy (i := 0) hA rfl rfl (by kernel_rfl) (.inr hI) (fun _ => r_mv hA rfl) rfl fun a hA => ?_
                    refine g_easy (i := 1) hA rfl rfl (by kernel_rfl) (.inr hI) (fun _ => r_mv hA rfl) rfl fun a hA => ?_
                    refine g_easy (i := 2) hA rfl rfl (by kernel_rfl) (.inr hI) (fun _ => r_mv hA rfl) rfl fun a hA => ?_
                    refine g_easy (i := 3) hA rfl rfl (by kernel_rfl) (.inr hI) (fun _ => r_mv hA rfl) rfl fun a hA => ?_
                    refine g_easy (i := 4) hA rfl rfl (by kernel_rfl) (.inr hI) (fun _ => r_sub hA rfl rfl) rfl fun a hA => ?_
                    obtain ⟨hb13, H⟩ := bG H
                    refine g_take (i := 5) hA rfl rfl (by kernel_rfl) hI (fun w hI => r_rix (j := 0) Tryd.underlying164 sz39 hI rfl hA rfl rfl hb13.1 hb13.2) rfl fun a hA => ?_
                    have hq7 := els_get ws7 hb13.1 hb13.2
                    refine g_take (i := 6) hA rfl rfl (by kernel_rfl) hI (fun w hI => r_rld1 (j := 0) Tryd.underlying39 rfl hI rfl hq7 hA rfl (by simp only [Nat.mul_one])) rfl fun a hA => ?_
                    refine g_easy (i := 7) hA rfl rfl (by kernel_rfl) (.inr hI) (fun _ => r_mv hA rfl) rfl fun a hA => ?_
                    refine g_easy (i := 9) hA rfl rfl (by kernel_rfl) (.inr hI) (fun _ => r_mv hA rfl) rfl fun a hA => ?_
                    refine g_easy (i := 12) hA rfl rfl (by kernel_rfl) (.inr hI) (fun _ => r_mv hA rfl) rfl fun a hA => ?_
                    refine g_easy (i := 13) hA rfl rfl (by kernel_rfl) (.inr hI) (fun _ => r_shr hA rfl rfl (by decide)) rfl fun a hA => ?_
                    refine g_easy (i := 16) hA rfl rfl (by kernel_rfl) (.inr hI) (fun _ => r_mv hA rfl) rfl fun a hA => ?_
                    refine g_easy (i := 17) hA rfl rfl (by kernel_rfl) (.inr hI) (fun _ => r_mv hA rfl) rfl fun a hA => ?_
                    refine g_easy (i := 18) hA rfl rfl (by kernel_rfl) (.inr hI) (fun _ => r_sub hA rfl rfl) rfl fun a hA => ?_
                    obtain ⟨hb14, H⟩ := bG H
                    refine g_take (i := 19) hA rfl rfl (by kernel_rfl) hI (fun w hI => r_rix (j := 0) Tryd.underlying164 sz39 hI rfl hA rfl rfl hb14.1 hb14.2) rfl fun a hA => ?_
                    have hq8 := els_get ws7 hb14.1 hb14.2
                    refine g_take (i := 20) hA rfl rfl (by kernel_rfl) hI (fun w hI => r_rld1 (j := 0) Tryd.underlying39 rfl hI rfl hq8 hA rfl (by simp only [Nat.mul_one])) rfl fun a hA => ?_
                    refine g_easy (i := 22) hA rfl rfl (by kernel_rfl) (.inr hI) (fun _ => r_mv hA rfl) rfl fun a hA => ?_
                    refine g_easy (i := 24) hA rfl rfl (by kernel_rfl) (.inr hI) (fun _ => r_mv hA rfl) rfl fun a hA => ?_
                    refine g_easy (i := 27) hA rfl rfl (by kernel_rfl) (.inr hI) (fun _ => r_mv hA rfl) rfl fun a hA => ?_
                    refine g_easy (i := 28) hA rfl rfl (by kernel_rfl) (.inr hI) (fun _ => r_shr hA rfl rfl (by decide)) rfl fun a hA => ?_
                    refine g_forced (i := 8) rfl (by kernel_rfl) ?_
                    obtain ⟨r3, hr3, H⟩ := bB H
                    refine o_callp (u := .int .u32 r3) cf126 hA rfl hI (sargassoref1_right.c μ _ hI.agr (s7.getD (IntKind.i64.wrap (s6 - 15)).toNat 0) (getD_in (els_int_cs ws7).2 _) 7 (in_lit .u64 7 rfl) r3 hr3) rfl fun a w hz13 hI hA => ?_
                    refine o_nil ?_
                    refine ⟨(.inr hI), ?_⟩
                    refine g_forced (i := 10) rfl (by kernel_rfl) ?_
                    obtain ⟨r4, hr4, H⟩ := bB H
                    refine o_callp (u := .int .u32 r4) cf126 hA rfl hI (sargassoref1_right.c μ _ hI.agr (s7.getD (IntKind.i64.wrap (s6 - 15)).toNat 0) (getD_in (els_int_cs ws7).2 _) 18 (in_lit .u64 18 rfl) r4 hr4) rfl fun a w hz14 hI hA => ?_
                    refine o_nil ?_
                    refine ⟨(.inr hI), ?_⟩
                    refine g_easy (i := 11) hA rfl rfl (by kernel_rfl) (.inr hI) (fun _ => r_xor hA rfl rfl) rfl fun a hA => ?_
                    refine g_easy (i := 14) hA rfl rfl (by kernel_rfl) (.inr hI) (fun _ => r_xor hA rfl rfl) rfl fun a hA => ?_
                    refine g_easy (i := 15) hA rfl rfl (by kernel_rfl) (.inr hI) (fun _ => r_add hA rfl rfl) rfl fun a hA => ?_
                    refine g_easy (i := 21) hA rfl rfl (by kernel_rfl) (.inr hI) (fun _ => r_add hA rfl rfl) rfl fun a hA => ?_
                    refine g_forced (i := 23) rfl (by kernel_rfl) ?_
                    obtain ⟨r5, hr5, H⟩ := bB H
                    refine o_callp (u := .int .u32 r5) cf126 hA rfl hI (sargassoref1_right.c μ _ hI.agr (s7.getD (IntKind.i64.wrap (s6 - 2)).toNat 0) (getD_in (els_int_cs ws7).2 _) 17 (in_lit .u64 17 rfl) r5 hr5) rfl fun a w hz15 hI hA => ?_
                    refine o_nil ?_
                    refine ⟨(.inr hI), ?_⟩
                    refine g_forced (i := 25) rfl (by kernel_rfl) ?_
                    obtain ⟨r6, hr6, H⟩ := bB H
                    refine o_callp (u := .int .u32 r6) cf126 hA rfl hI (sargassoref1_right.c μ _ hI.agr (s7.getD (IntKind.i64.wrap (s6 - 2)).toNat 0) (getD_in (els_int_cs ws7).2 _) 19 (in_lit .u64 19 rfl) r6 hr6) rfl fun a w hz16 hI hA => ?_
                    refine o_nil ?_
                    refine ⟨(.inr hI), ?_⟩
                    refine g_easy (i := 26) hA rfl rfl (by kernel_rfl) (.inr hI) (fun _ => r_xor hA rfl rfl) rfl fun a hA => ?_
                    refine g_easy (i := 29) hA rfl rfl (by kernel_rfl) (.inr hI) (fun _ => r_xor hA rfl rfl) rfl fun a hA => ?_
                    refine g_easy (i := 30) hA rfl rfl (by kernel_rfl) (.inr hI) (fun _ => r_add hA rfl rfl) rfl fun a hA => ?_
                    obtain ⟨hb15, H⟩ := bG H
                    refine g_take (i := 31) hA rfl rfl (by kernel_rfl) hI (fun w hI => r_rix (j := 0) Tryd.underlying164 sz39 hI rfl hA rfl rfl hb15.1 hb15.2) rfl fun a hA => ?_
                    refine g_forced (i := 32) rfl (by kernel_rfl) ?_
                    have hE15 := els_set (x := (IntKind.u32.wrap ((IntKind.u32.wrap ((IntKind.u32.wrap ((s7.getD (IntKind.i64.wrap (s6 - 16)).toNat 0) + (bXor .u32 (bXor .u32 r3 r4) (sR .u32 (s7.getD (IntKind.i64.wrap (s6 - 15)).toNat 0) 3)))) + (s7.getD (IntKind.i64.wrap (s6 - 7)).toNat 0))) + (bXor .u32 (bXor .u32 r5 r6) (sR .u32 (s7.getD (IntKind.i64.wrap (s6 - 2)).toNat 0) 10))))) ws7 s6.toNat (wrap_in _ _)
                    refine o_rst (j := 0) (q := s6.toNat) (z := (IntKind.u32.wrap ((IntKind.u32.wrap ((IntKind.u32.wrap ((s7.getD (IntKind.i64.wrap (s6 - 16)).toNat 0) + (bXor .u32 (bXor .u32 r3 r4) (sR .u32 (s7.getD (IntKind.i64.wrap (s6 - 15)).toNat 0) 3)))) + (s7.getD (IntKind.i64.wrap (s6 - 7)).toNat 0))) + (bXor .u32 (bXor .u32 r5 r6) (sR .u32 (s7.getD (IntKind.i64.wrap (s6 - 2)).toNat 0) 10))))) (xs := s7) sz39 hI rfl hA rfl rfl (by simp only [Nat.mul_one]) rfl (by omega) fun w hI => ?_
                    refine o_nil ?_
                    refine ⟨(.inl (by kernel_rfl)), ?_⟩
                    refine g_nil (by kernel_rfl) ?_
                    cases Option.some.inj (bS H)
                    exact ⟨ccs7.set s6.toNat (.int .u32 (IntKind.u32.wrap ((IntKind.u32.wrap ((IntKind.u32.wrap ((s7.getD (IntKind.i64.wrap (s6 - 16)).toNat 0) + (bXor .u32 (bXor .u32 r3 r4) (sR .u32 (s7.getD (IntKind.i64.wrap (s6 - 15)).toNat 0) 3)))) + (s7.getD (IntKind.i64.wrap (s6 - 7)).toNat 0))) + (bXor .u32 (bXor .u32 r5 r6) (sR .u32 (s7.getD (IntKind.i64.wrap (s6 - 2)).toNat 0) 10))))), hE15, hA.sub ⟨rfl, rfl, rfl, rfl, rfl, rfl, rfl, rfl, rfl, rfl, rfl, trivial⟩, hI⟩
                · rintro a w ⟨ccc6, wc6, hA, hI⟩
                  have H := Hk10
                  refine w_reg ?_
                  refine stp hA (r_mv hA rfl) rfl fun a hA => 
                    stp hA (r_add hA rfl rfl) rfl fun a hA => 
                    stp hA (r_as hA rfl) rfl fun a hA => ?_
                  refine o_nil ?_
                  exact ⟨m4, Nat.lt_succ_self _, IntKind.i64.wrap (s6 + 1), c6, ccc6, H, (wrap_in _ _), wc6, hA.sub ⟨rfl, rfl, rfl, rfl, rfl, rfl, rfl, rfl, rfl, rfl, trivial⟩, hI⟩
              · have hc40 := hc4; have hc4 := of_decide_eq_false hc4; have H := bF H hc4
                refine w_exit rfl ?_
                have H : some s7 = some z4 := H
                obtain rfl := Option.some.inj H
                have H := Hk9
                cases Option.some.inj (bS H)
                exact ⟨ccs7, ws7, hA.sub ⟨rfl, rfl, rfl, rfl, rfl, rfl, rfl, rfl, rfl, trivial⟩, hI⟩
            · rintro a w ⟨ccc5, wc5, hA, hI⟩
              have H := Hk8
              refine w_seq fun _ hN25 => ?_
              refine w_reg ?_
              have hE16 : Els (RI .u32) 1 ([] : List Int) ([]) := Els.nil
              refine o_bsl ([]) te39 zr39 Tryd.underlying164 hI hA rfl rfl rfl rfl (by kernel_rfl) rfl fun g7 a w hA hI => ?_
              generalize hcs : ([] : List Value) = cs14 at hE16 hI
              clear hcs
              refine stp hA (r_mv hA rfl) rfl fun a hA => ?_
              obtain ⟨hb16, H⟩ := bG H
              have hE18 := hE16.app ws5
              refine o_appL (xs := (([] : List Int) : List Int)) (ys := (s5 : List Int)) (j := 0) te39 Tryd.underlying164 hI rfl hA rfl rfl (src_row hI (j := 5) rfl) ws5.len (ws5.ones (one_RI _)) (by first | decide | (have hq := hb16; (try simp only [List.length_cons, List.length_nil] at hq); (try simp only [List.length_cons, List.length_nil]); (try simp only [maxLen]); omega)) (by first | decide | (have hq := hb16; (try simp only [List.length_cons, List.length_nil] at hq); (try simp only [List.length_cons, List.length_nil]); (try simp only [maxLen]); omega)) rfl fun v6 a w hA hI => 
                stp hA (r_as hA rfl) rfl fun a hA => ?_
              refine o_nil ?_
              refine hN25 _ _ ?_
              obtain ⟨c7, hz17, Hk11⟩ := bB H
              refine w_cut (fun a w => ∃ (vvc7 : Value) (ccc7 : List Value), Els (RI .u32) 1 c7 ccc7 ∧ Fr a 282 [(0, u0), (2, .pointer (some ⟨g1, 0, none⟩)), (3, (.slice (some ⟨g2, 0, none⟩) 8 8)), (4, vvc2), (5, .int .u64 (IntKind.u64.wrap (8 * (IntKind.u64.wrap (x0.length : Int))))), (7, v5), (8, .int .i64 s4), (9, (.slice (some ⟨g6, 0, none⟩) ((64 : Int).toNat) ((64 : Int).toNat))), (14, vvc7), (56, .bool (decide (s4 < (c2.length : Int))))] ∧ Iv w0 [] μ μ [row 39 1 vvc7 c7.length ccc7, row 39 1 (.slice (some ⟨g6, 0, none⟩) ((64 : Int).toNat) ((64 : Int).toNat)) c5.length ccc5, row 39 1 v5 r2.length cs12, row 5 1 vvc2 c2.length ccc2, row 5 1 (.slice (some ⟨g3, 0, none⟩) 1 1) ([128] : List Int).length cs3, row 39 1 (.slice (some ⟨g2, 0, none⟩) 8 8) s5.length ccs5, cel g1 [av .u8 32 (List.replicate 32 0)] 55] w) ?_ ?_
              · have H := bI hz17
                refine w_seq fun _ hN26 => ?_
                refine w_reg ?_
                refine stp hA (r_as hA rfl) rfl fun a hA => ?_
                refine o_nil ?_
                refine hN26 _ _ ?_
                refine w_block ?_
                obtain ⟨z5, hz18, Hk12⟩ := bind_some H
                obtain ⟨n5, hn5⟩ := loopO_some hz18
                refine w_loop (fun n a w => ∃ (s8 : List Int) (s9 : Int) (vvs8 : Value) (ccs8 : List Value), loopN (sargassoref1_Sha.s4 r2 c5) n (s8, s9) = some z5 ∧ Els (RI .u32) 1 s8 ccs8 ∧ InR .i64 s9 ∧ Fr a 282 [(0, u0), (2, .pointer (some ⟨g1, 0, none⟩)), (3, (.slice (some ⟨g2, 0, none⟩) 8 8)), (4, vvc2), (5, .int .u64 (IntKind.u64.wrap (8 * (IntKind.u64.wrap (x0.length : Int))))), (7, v5), (8, .int .i64 s4), (9, (.slice (some ⟨g6, 0, none⟩) ((64 : Int).toNat) ((64 : Int).toNat))), (14, vvs8), (15, .int .i64 s9), (56, .bool (decide (s4 < (c2.length : Int))))] ∧ Iv w0 [] μ μ [row 39 1 vvs8 s8.length ccs8, row 39 1 (.slice (some ⟨g6, 0, none⟩) ((64 : Int).toNat) ((64 : Int).toNat)) c5.length ccc5, row 39 1 v5 r2.length cs12, row 5 1 vvc2 c2.length ccc2, row 5 1 (.slice (some ⟨g3, 0, none⟩) 1 1) ([128] : List Int).length cs3, row 39 1 (.slice (some ⟨g2, 0, none⟩) 8 8) s5.length ccs5, cel g1 [av .u8 32 (List.replicate 32 0)] 55] w) n5 ⟨([] : List Int) ++ s5, 0, v6, cs14 ++ ccs5, hn5, hE18, (in_lit .i64 0 rfl), hA.sub ⟨rfl, rfl, rfl, rfl, rfl, rfl, rfl, rfl, rfl, rfl, rfl, trivial⟩, hI⟩ ?_
                clear hA hI
                rintro n a w ⟨s8, s9, vvs8, ccs8, hn5, ws8, ws9, hA, hI⟩
                obtain ⟨m5, rfl, H⟩ := loopN_bind hn5
                clear hn5
                refine w_seq fun _ hN27 => ?_
                refine w_seq fun _ hN28 => ?_
                refine w_reg ?_
                refine stp hA (r_mv hA rfl) rfl fun a hA => 
                  stp hA (r_lss hA rfl rfl) rfl fun a hA => ?_
                refine o_nil ?_
                refine hN28 _ _ ?_
                refine w_cond hA rfl (fun hc6 => ?_) (fun hc6 => ?_)
                · have hc60 := hc6; have hc6 := of_decide_eq_true hc6; have H := bT H hc6
                  refine w_skip ?_
                  refine hN27 _ _ ?_
                  refine w_seq fun _ hN29 => ?_
                  refine w_block ?_
                  refine w_seq fun _ hN30 => ?_
                  refine w_reg ?_
                  refine stp hA (r_mv hA rfl) rfl fun a hA => ?_
                  obtain ⟨hb17, H⟩ := bG H
                  refine stp hA (r_rix (j := 0) Tryd.underlying164 sz39 hI rfl hA rfl rfl (by decide) hb17) rfl fun a hA => ?_
                  have hq9 := els_get ws8 (by decide) hb17
                  refine stp hA (r_rld1 (j := 0) Tryd.underlying39 rfl hI rfl hq9 hA rfl (by simp only [Nat.mul_one])) rfl fun a hA => 
                    stp hA (r_as hA rfl) rfl fun a hA => ?_
                  refine o_nil ?_
                  refine hN30 _ _ ?_
                  refine w_seq fun _ hN31 => ?_
                  refine w_reg ?_
                  refine stp hA (r_mv hA rfl) rfl fun a hA => ?_
                  obtain ⟨hb18, H⟩ := bG H
                  refine stp hA (r_rix (j := 0) Tryd.underlying164 sz39 hI rfl hA rfl rfl (by decide) hb18) rfl fun a hA => ?_
                  have hq10 := els_get ws8 (by decide) hb18
                  refine stp hA (r_rld1 (j := 0) Tryd.underlying39 rfl hI rfl hq10 hA rfl (by simp only [Nat.mul_one])) rfl fun a hA => 
                    stp hA (r_as hA rfl) rfl fun a hA => ?_
                  refine o_nil ?_
                  refine hN31 _ _ ?_
                  refine w_seq fun _ hN32 => ?_
                  refine w_draw mo (by kernel_rfl) hI ?_
                  refine qtp hA (fun _ hI => r_mv hA rfl) rfl fun a hA => ?_
                  obtain ⟨hb19, H⟩ := bG H
                  refine qtp hA (fun _ hI => r_rix (j := 0) Tryd.underlying164 sz39 hI rfl hA rfl rfl (by decide) hb19) rfl fun a hA => ?_
                  have hq11 := els_get ws8 (by decide) hb19
                  refine qtp hA (fun _ hI => r_rld1 (j := 0) Tryd.underlying39 rfl hI rfl hq11 hA rfl (by simp only [Nat.mul_one])) rfl fun a hA => 
                    qtp hA (fun _ hI => r_mv hA rfl) rfl fun a hA => ?_
                  obtain ⟨r7, hr7, H⟩ := bB H
                  refine qcall (v := .int .u32 r7) cf126 hA rfl (fun _ hI => plq (sargassoref1_right.c μ _ hI.agr (s8.getD (4 : Int).toNat 0) (getD_in (els_int_cs ws8).2 _) 6 (in_lit .u64 6 rfl) r7 hr7) hI) rfl fun a hA => 
                    qtp hA (fun _ hI => r_mv hA rfl) rfl fun a hA => ?_
                  obtain ⟨r8, hr8, H⟩ := bB H
                  refine qcall (v := .int .u32 r8) cf126 hA rfl (fun _ hI => plq (sargassoref1_right.c μ _ hI.agr (s8.getD (4 : Int).toNat 0) (getD_in (els_int_cs ws8).2 _) 11 (in_lit .u64 11 rfl) r8 hr8) hI) rfl fun a hA => 
                    qtp hA (fun _ hI => r_xor hA rfl rfl) rfl fun a hA => 
                    qtp hA (fun _ hI => r_mv hA rfl) rfl fun a hA => ?_
                  obtain ⟨r9, hr9, H⟩ := bB H
                  refine qcall (v := .int .u32 r9) cf126 hA rfl (fun _ hI => plq (sargassoref1_right.c μ _ hI.agr (s8.getD (4 : Int).toNat 0) (getD_in (els_int_cs ws8).2 _) 25 (in_lit .u64 25 rfl) r9 hr9) hI) rfl fun a hA => 
                    qtp hA (fun _ hI => r_xor hA rfl rfl) rfl fun a hA => 
                    qtp hA (fun _ hI => r_add hA rfl rfl) rfl fun a hA => 
                    qtp hA (fun _ hI => r_mv hA rfl) rfl fun a hA => 
                    qtp hA (fun _ hI => r_mv hA rfl) rfl fun a hA => ?_
                  obtain ⟨hb20, H⟩ := bG H
                  refine qtp hA (fun _ hI => r_rix (j := 0) Tryd.underlying164 sz39 hI rfl hA rfl rfl (by decide) hb20) rfl fun a hA => ?_
                  have hq12 := els_get ws8 (by decide) hb20
                  refine qtp hA (fun _ hI => r_rld1 (j := 0) Tryd.underlying39 rfl hI rfl hq12 hA rfl (by simp only [Nat.mul_one])) rfl fun a hA => 
                    qtp hA (fun _ hI => r_and hA rfl rfl) rfl fun a hA => 
                    qtp hA (fun _ hI => r_mv hA rfl) rfl fun a hA => 
                    qtp hA (fun _ hI => r_inv hA rfl) rfl fun a hA => 
                    qtp hA (fun _ hI => r_mv hA rfl) rfl fun a hA => ?_
                  obtain ⟨hb21, H⟩ := bG H
                  refine qtp hA (fun _ hI => r_rix (j := 0) Tryd.underlying164 sz39 hI rfl hA rfl rfl (by decide) hb21) rfl fun a hA => ?_
                  have hq13 := els_get ws8 (by decide) hb21
                  refine qtp hA (fun _ hI => r_rld1 (j := 0) Tryd.underlying39 rfl hI rfl hq13 hA rfl (by simp only [Nat.mul_one])) rfl fun a hA => 
                    qtp hA (fun _ hI => r_and hA rfl rfl) rfl fun a hA => 
                    qtp hA (fun _ hI => r_xor hA rfl rfl) rfl fun a hA => 
                    qtp hA (fun _ hI => r_add hA rfl rfl) rfl fun a hA => 
                    qtp hA (fun _ hI => r_mv hA rfl) rfl fun a hA => 
                    qtp hA (fun _ hI => r_mv hA rfl) rfl fun a hA => ?_
                  obtain ⟨hb22, H⟩ := bG H
                  refine qtp hA (fun _ hI => r_rix (j := 2) Tryd.underlying164 sz39 hI rfl hA rfl rfl hb22.1 hb22.2) rfl fun a hA => ?_
                  have hq14 := els_get hE12 hb22.1 hb22.2
                  refine qtp hA (fun _ hI => r_rld1 (j := 2) Tryd.underlying39 rfl hI rfl hq14 hA rfl (by simp only [Nat.mul_one])) rfl fun a hA => 
                    qtp hA (fun _ hI => r_add hA rfl rfl) rfl fun a hA => 
                    qtp hA (fun _ hI => r_mv hA rfl) rfl fun a hA => 
                    qtp hA (fun _ hI => r_mv hA rfl) rfl fun a hA => ?_
                  obtain ⟨hb23, H⟩ := bG H
                  refine qtp hA (fun _ hI => r_rix (j := 1) Tryd.underlying164 sz39 hI rfl hA rfl rfl hb23.1 hb23.2) rfl fun a hA => ?_
                  have hq15 := els_get wc5 hb23.1 hb23.2
                  refine qtp hA (fun _ hI => r_rld1 (j := 1) Tryd.underlying39 rfl hI rfl hq15 hA rfl (by simp only [Nat.mul_one])) rfl fun a hA => 
                    qtp hA (fun _ hI => r_add hA rfl rfl) rfl fun a hA => 
                    qtp hA (fun _ hI => r_as hA rfl) rfl fun a hA => ?_
                  refine q_nil fun w hI => ?_
                  refine hN32 _ _ ?_
                  refine w_seq fun _ hN33 => ?_
                  refine w_draw mo (by kernel_rfl) hI ?_
                  refine qtp hA (fun _ hI => r_mv hA rfl) rfl fun a hA => ?_
                  obtain ⟨r10, hr10, H⟩ := bB H
                  refine qcall (v := .int .u32 r10) cf126 hA rfl (fun _ hI => plq (sargassoref1_right.c μ _ hI.agr (s8.getD (0 : Int).toNat 0) (getD_in (els_int_cs ws8).2 _) 2 (in_lit .u64 2 rfl) r10 hr10) hI) rfl fun a hA => 
                    qtp hA (fun _ hI => r_mv hA rfl) rfl fun a hA => ?_
                  obtain ⟨r11, hr11, H⟩ := bB H
                  refine qcall (v := .int .u32 r11) cf126 hA rfl (fun _ hI => plq (sargassoref1_right.c μ _ hI.agr (s8.getD (0 : Int).toNat 0) (getD_in (els_int_cs ws8).2 _) 13 (in_lit .u64 13 rfl) r11 hr11) hI) rfl fun a hA => 
                    qtp hA (fun _ hI => r_xor hA rfl rfl) rfl fun a hA => 
                    qtp hA (fun _ hI => r_mv hA rfl) rfl fun a hA => ?_
                  obtain ⟨r12, hr12, H⟩ := bB H
                  refine qcall (v := .int .u32 r12) cf126 hA rfl (fun _ hI => plq (sargassoref1_right.c μ _ hI.agr (s8.getD (0 : Int).toNat 0) (getD_in (els_int_cs ws8).2 _) 22 (in_lit .u64 22 rfl) r12 hr12) hI) rfl fun a hA => 
                    qtp hA (fun _ hI => r_xor hA rfl rfl) rfl fun a hA => 
                    qtp hA (fun _ hI => r_mv hA rfl) rfl fun a hA => 
                    qtp hA (fun _ hI => r_mv hA rfl) rfl fun a hA => ?_
                  obtain ⟨hb24, H⟩ := bG H
                  refine qtp hA (fun _ hI => r_rix (j := 0) Tryd.underlying164 sz39 hI rfl hA rfl rfl (by decide) hb24) rfl fun a hA => ?_
                  have hq16 := els_get ws8 (by decide) hb24
                  refine qtp hA (fun _ hI => r_rld1 (j := 0) Tryd.underlying39 rfl hI rfl hq16 hA rfl (by simp only [Nat.mul_one])) rfl fun a hA => 
                    qtp hA (fun _ hI => r_and hA rfl rfl) rfl fun a hA => 
                    qtp hA (fun _ hI => r_mv hA rfl) rfl fun a hA => 
                    qtp hA (fun _ hI => r_mv hA rfl) rfl fun a hA => ?_
                  obtain ⟨hb25, H⟩ := bG H
                  refine qtp hA (fun _ hI => r_rix (j := 0) Tryd.underlying164 sz39 hI rfl hA rfl rfl (by decide) hb25) rfl fun a hA => ?_
                  have hq17 := els_get ws8 (by decide) hb25
                  refine qtp hA (fun _ hI => r_rld1 (j := 0) Tryd.underlying39 rfl hI rfl hq17 hA rfl (by simp only [Nat.mul_one])) rfl fun a hA => 
                    qtp hA (fun _ hI => r_and hA rfl rfl) rfl fun a hA => 
                    qtp hA (fun _ hI => r_xor hA rfl rfl) rfl fun a hA => 
                    qtp hA (fun _ hI => r_mv hA rfl) rfl fun a hA => 
                    qtp hA (fun _ hI => r_rix (j := 0) Tryd.underlying164 sz39 hI rfl hA rfl rfl (by decide) hb24) rfl fun a hA => ?_
                  have hq18 := els_get ws8 (by decide) hb24
                  refine qtp hA (fun _ hI => r_rld1 (j := 0) Tryd.underlying39 rfl hI rfl hq18 hA rfl (by simp only [Nat.mul_one])) rfl fun a hA => 
                    qtp hA (fun _ hI => r_mv hA rfl) rfl fun a hA => 
                    qtp hA (fun _ hI => r_rix (j := 0) Tryd.underlying164 sz39 hI rfl hA rfl rfl (by decide) hb25) rfl fun a hA => ?_
                  have hq19 := els_get ws8 (by decide) hb25
                  refine qtp hA (fun _ hI => r_rld1 (j := 0) Tryd.underlying39 rfl hI rfl hq19 hA rfl (by simp only [Nat.mul_one])) rfl fun a hA => 
                    qtp hA (fun _ hI => r_and hA rfl rfl) rfl fun a hA => 
                    qtp hA (fun _ hI => r_xor hA rfl rfl) rfl fun a hA => 
                    qtp hA (fun _ hI => r_add hA rfl rfl) rfl fun a hA => 
                    qtp hA (fun _ hI => r_as hA rfl) rfl fun a hA => ?_
                  refine q_nil fun w hI => ?_
                  refine hN33 _ _ ?_
                  refine w_any [] mo hI fun w hI => ?_
                  refine g_easy (i := 0) hA rfl rfl (by kernel_rfl) (.inr hI) (fun _ => r_mv hA rfl) rfl fun a hA => ?_
                  refine g_easy (i := 1) hA rfl rfl (by kernel_rfl) (.inr hI) (fun _ => r_mv hA rfl) rfl fun a hA => ?_
                  refine g_easy (i := 2) hA rfl rfl (by kernel_rfl) (.inr hI) (fun _ => r_add hA rfl rfl) rfl fun a hA => ?_
                  refine g_easy (i := 3) hA rfl rfl (by kernel_rfl) (.inr hI) (fun _ => r_mv hA rfl) rfl fun a hA => ?_
                  refine g_take (i := 4) hA rfl rfl (by kernel_rfl) hI (fun w hI => r_rix (j := 0) Tryd.underlying164 sz39 hI rfl hA rfl rfl (by decide) hb18) rfl fun a hA => ?_
                  have hq20 := els_get ws8 (by decide) hb18
                  refine g_take (i := 5) hA rfl rfl (by kernel_rfl) hI (fun w hI => r_rld1 (j := 0) Tryd.underlying39 rfl hI rfl hq20 hA rfl (by simp only [Nat.mul_one])) rfl fun a hA => ?_
                  refine g_easy (i := 6) hA rfl rfl (by kernel_rfl) (.inr hI) (fun _ => r_mv hA rfl) rfl fun a hA => ?_
                  refine g_take (i := 7) hA rfl rfl (by kernel_rfl) hI (fun w hI => r_rix (j := 0) Tryd.underlying164 sz39 hI rfl hA rfl rfl (by decide) hb24) rfl fun a hA => ?_
                  have hq21 := els_get ws8 (by decide) hb24
                  refine g_take (i := 8) hA rfl rfl (by kernel_rfl) hI (fun w hI => r_rld1 (j := 0) Tryd.underlying39 rfl hI rfl hq21 hA rfl (by simp only [Nat.mul_one])) rfl fun a hA => ?_
                  refine g_easy (i := 9) hA rfl rfl (by kernel_rfl) (.inr hI) (fun _ => r_mv hA rfl) rfl fun a hA => ?_
                  refine g_take (i := 10) hA rfl rfl (by kernel_rfl) hI (fun w hI => r_rix (j := 0) Tryd.underlying164 sz39 hI rfl hA rfl rfl (by decide) hb25) rfl fun a hA => ?_
                  have hq22 := els_get ws8 (by decide) hb25
                  refine g_take (i := 11) hA rfl rfl (by kernel_rfl) hI (fun w hI => r_rld1 (j := 0) Tryd.underlying39 rfl hI rfl hq22 hA rfl (by simp only [Nat.mul_one])) rfl fun a hA => ?_
                  refine g_easy (i := 12) hA rfl rfl (by kernel_rfl) (.inr hI) (fun _ => r_mv hA rfl) rfl fun a hA => ?_
                  obtain ⟨hb26, H⟩ := bG H
                  refine g_take (i := 13) hA rfl rfl (by kernel_rfl) hI (fun w hI => r_rix (j := 0) Tryd.underlying164 sz39 hI rfl hA rfl rfl (by decide) hb26) rfl fun a hA => ?_
                  have hq23 := els_get ws8 (by decide) hb26
                  refine g_take (i := 14) hA rfl rfl (by kernel_rfl) hI (fun w hI => r_rld1 (j := 0) Tryd.underlying39 rfl hI rfl hq23 hA rfl (by simp only [Nat.mul_one])) rfl fun a hA => ?_
                  refine g_easy (i := 15) hA rfl rfl (by kernel_rfl) (.inr hI) (fun _ => r_mv hA rfl) rfl fun a hA => ?_
                  refine g_easy (i := 16) hA rfl rfl (by kernel_rfl) (.inr hI) (fun _ => r_add hA rfl rfl) rfl fun a hA => ?_
                  refine g_easy (i := 17) hA rfl rfl (by kernel_rfl) (.inr hI) (fun _ => r_mv hA rfl) rfl fun a hA => ?_
                  refine g_take (i := 18) hA rfl rfl (by kernel_rfl) hI (fun w hI => r_rix (j := 0) Tryd.underlying164 sz39 hI rfl hA rfl rfl (by decide) hb17) rfl fun a hA => ?_
                  have hq24 := els_get ws8 (by decide) hb17
                  refine g_take (i := 19) hA rfl rfl (by kernel_rfl) hI (fun w hI => r_rld1 (j := 0) Tryd.underlying39 rfl hI rfl hq24 hA rfl (by simp only [Nat.mul_one])) rfl fun a hA => ?_
                  refine g_easy (i := 20) hA rfl rfl (by kernel_rfl) (.inr hI) (fun _ => r_mv hA rfl) rfl fun a hA => ?_
                  refine g_take (i := 21) hA rfl rfl (by kernel_rfl) hI (fun w hI => r_rix (j := 0) Tryd.underlying164 sz39 hI rfl hA rfl rfl (by decide) hb20) rfl fun a hA => ?_
                  have hq25 := els_get ws8 (by decide) hb20
                  refine g_take (i := 22) hA rfl rfl (by kernel_rfl) hI (fun w hI => r_rld1 (j := 0) Tryd.underlying39 rfl hI rfl hq25 hA rfl (by simp only [Nat.mul_one])) rfl fun a hA => ?_
                  refine g_easy (i := 23) hA rfl rfl (by kernel_rfl) (.inr hI) (fun _ => r_mv hA rfl) rfl fun a hA => ?_
                  refine g_take (i := 24) hA rfl rfl (by kernel_rfl) hI (fun w hI => r_rix (j := 0) Tryd.underlying164 sz39 hI rfl hA rfl rfl (by decide) hb21) rfl fun a hA => ?_
                  have hq26 := els_get ws8 (by decide) hb21
                  refine g_take (i := 25) hA rfl rfl (by kernel_rfl) hI (fun w hI => r_rld1 (j := 0) Tryd.underlying39 rfl hI rfl hq26 hA rfl (by simp only [Nat.mul_one])) rfl fun a hA => ?_
                  refine g_forced (i := 26) rfl (by kernel_rfl) ?_
                  have hE19 : Els (RI .u32) 1 ([IntKind.u32.wrap ((IntKind.u32.wrap ((IntKind.u32.wrap ((IntKind.u32.wrap ((IntKind.u32.wrap ((s8.getD (7 : Int).toNat 0) + (bXor .u32 (bXor .u32 r7 r8) r9))) + (bXor .u32 (bAnd .u32 (s8.getD (4 : Int).toNat 0) (s8.getD (5 : Int).toNat 0)) (bAnd .u32 (bNot .u32 (s8.getD (4 : Int).toNat 0)) (s8.getD (6 : Int).toNat 0))))) + (r2.getD s9.toNat 0))) + (c5.getD s9.toNat 0))) + (IntKind.u32.wrap ((bXor .u32 (bXor .u32 r10 r11) r12) + (bXor .u32 (bXor .u32 (bAnd .u32 (s8.getD (0 : Int).toNat 0) (s8.getD (1 : Int).toNat 0)) (bAnd .u32 (s8.getD (0 : Int).toNat 0) (s8.getD (2 : Int).toNat 0))) (bAnd .u32 (s8.getD (1 : Int).toNat 0) (s8.getD (2 : Int).toNat 0)))))), s8.getD (0 : Int).toNat 0, s8.getD (1 : Int).toNat 0, s8.getD (2 : Int).toNat 0, IntKind.u32.wrap ((s8.getD (3 : Int).toNat 0) + (IntKind.u32.wrap ((IntKind.u32.wrap ((IntKind.u32.wrap ((IntKind.u32.wrap ((s8.getD (7 : Int).toNat 0) + (bXor .u32 (bXor .u32 r7 r8) r9))) + (bXor .u32 (bAnd .u32 (s8.getD (4 : Int).toNat 0) (s8.getD (5 : Int).toNat 0)) (bAnd .u32 (bNot .u32 (s8.getD (4 : Int).toNat 0)) (s8.getD (6 : Int).toNat 0))))) + (r2.getD s9.toNat 0))) + (c5.getD s9.toNat 0)))), s8.getD (4 : Int).toNat 0, s8.getD (5 : Int).toNat 0, s8.getD (6 : Int).toNat 0] : List Int) ([[.int .u32 (IntKind.u32.wrap ((IntKind.u32.wrap ((IntKind.u32.wrap ((IntKind.u32.wrap ((IntKind.u32.wrap ((s8.getD (7 : Int).toNat 0) + (bXor .u32 (bXor .u32 r7 r8) r9))) + (bXor .u32 (bAnd .u32 (s8.getD (4 : Int).toNat 0) (s8.getD (5 : Int).toNat 0)) (bAnd .u32 (bNot .u32 (s8.getD (4 : Int).toNat 0)) (s8.getD (6 : Int).toNat 0))))) + (r2.getD s9.toNat 0))) + (c5.getD s9.toNat 0))) + (IntKind.u32.wrap ((bXor .u32 (bXor .u32 r10 r11) r12) + (bXor .u32 (bXor .u32 (bAnd .u32 (s8.getD (0 : Int).toNat 0) (s8.getD (1 : Int).toNat 0)) (bAnd .u32 (s8.getD (0 : Int).toNat 0) (s8.getD (2 : Int).toNat 0))) (bAnd .u32 (s8.getD (1 : Int).toNat 0) (s8.getD (2 : Int).toNat 0)))))))]].flatten ++ ([[.int .u32 (s8.getD (0 : Int).toNat 0)]].flatten ++ ([[.int .u32 (s8.getD (1 : Int).toNat 0)]].flatten ++ ([[.int .u32 (s8.getD (2 : Int).toNat 0)]].flatten ++ ([[.int .u32 (IntKind.u32.wrap ((s8.getD (3 : Int).toNat 0) + (IntKind.u32.wrap ((IntKind.u32.wrap ((IntKind.u32.wrap ((IntKind.u32.wrap ((s8.getD (7 : Int).toNat 0) + (bXor .u32 (bXor .u32 r7 r8) r9))) + (bXor .u32 (bAnd .u32 (s8.getD (4 : Int).toNat 0) (s8.getD (5 : Int).toNat 0)) (bAnd .u32 (bNot .u32 (s8.getD (4 : Int).toNat 0)) (s8.getD (6 : Int).toNat 0))))) + (r2.getD s9.toNat 0))) + (c5.getD s9.toNat 0)))))]].flatten ++ ([[.int .u32 (s8.getD (4 : Int).toNat 0)]].flatten ++ ([[.int .u32 (s8.getD (5 : Int).toNat 0)]].flatten ++ ([[.int .u32 (s8.getD (6 : Int).toNat 0)]].flatten ++ ([]))))))))) := (Els.cons (c := [[.int .u32 (IntKind.u32.wrap ((IntKind.u32.wrap ((IntKind.u32.wrap ((IntKind.u32.wrap ((IntKind.u32.wrap ((s8.getD (7 : Int).toNat 0) + (bXor .u32 (bXor .u32 r7 r8) r9))) + (bXor .u32 (bAnd .u32 (s8.getD (4 : Int).toNat 0) (s8.getD (5 : Int).toNat 0)) (bAnd .u32 (bNot .u32 (s8.getD (4 : Int).toNat 0)) (s8.getD (6 : Int).toNat 0))))) + (r2.getD s9.toNat 0))) + (c5.getD s9.toNat 0))) + (IntKind.u32.wrap ((bXor .u32 (bXor .u32 r10 r11) r12) + (bXor .u32 (bXor .u32 (bAnd .u32 (s8.getD (0 : Int).toNat 0) (s8.getD (1 : Int).toNat 0)) (bAnd .u32 (s8.getD (0 : Int).toNat 0) (s8.getD (2 : Int).toNat 0))) (bAnd .u32 (s8.getD (1 : Int).toNat 0) (s8.getD (2 : Int).toNat 0)))))))]].flatten) ⟨rfl, (wrap_in _ _)⟩ rfl (Els.cons (c := [[.int .u32 (s8.getD (0 : Int).toNat 0)]].flatten) ⟨rfl, (getD_in (els_int_cs ws8).2 _)⟩ rfl (Els.cons (c := [[.int .u32 (s8.getD (1 : Int).toNat 0)]].flatten) ⟨rfl, (getD_in (els_int_cs ws8).2 _)⟩ rfl (Els.cons (c := [[.int .u32 (s8.getD (2 : Int).toNat 0)]].flatten) ⟨rfl, (getD_in (els_int_cs ws8).2 _)⟩ rfl (Els.cons (c := [[.int .u32 (IntKind.u32.wrap ((s8.getD (3 : Int).toNat 0) + (IntKind.u32.wrap ((IntKind.u32.wrap ((IntKind.u32.wrap ((IntKind.u32.wrap ((s8.getD (7 : Int).toNat 0) + (bXor .u32 (bXor .u32 r7 r8) r9))) + (bXor .u32 (bAnd .u32 (s8.getD (4 : Int).toNat 0) (s8.getD (5 : Int).toNat 0)) (bAnd .u32 (bNot .u32 (s8.getD (4 : Int).toNat 0)) (s8.getD (6 : Int).toNat 0))))) + (r2.getD s9.toNat 0))) + (c5.getD s9.toNat 0)))))]].flatten) ⟨rfl, (wrap_in _ _)⟩ rfl (Els.cons (c := [[.int .u32 (s8.getD (4 : Int).toNat 0)]].flatten) ⟨rfl, (getD_in (els_int_cs ws8).2 _)⟩ rfl (Els.cons (c := [[.int .u32 (s8.getD (5 : Int).toNat 0)]].flatten) ⟨rfl, (getD_in (els_int_cs ws8).2 _)⟩ rfl (Els.cons (c := [[.int .u32 (s8.getD (6 : Int).toNat 0)]].flatten) ⟨rfl, (getD_in (els_int_cs ws8).2 _)⟩ rfl Els.nil))))))))
                  refine o_bsl ([[.int .u32 (IntKind.u32.wrap ((IntKind.u32.wrap ((IntKind.u32.wrap ((IntKind.u32.wrap ((IntKind.u32.wrap ((s8.getD (7 : Int).toNat 0) + (bXor .u32 (bXor .u32 r7 r8) r9))) + (bXor .u32 (bAnd .u32 (s8.getD (4 : Int).toNat 0) (s8.getD (5 : Int).toNat 0)) (bAnd .u32 (bNot .u32 (s8.getD (4 : Int).toNat 0)) (s8.getD (6 : Int).toNat 0))))) + (r2.getD s9.toNat 0))) + (c5.getD s9.toNat 0))) + (IntKind.u32.wrap ((bXor .u32 (bXor .u32 r10 r11) r12) + (bXor .u32 (bXor .u32 (bAnd .u32 (s8.getD (0 : Int).toNat 0) (s8.getD (1 : Int).toNat 0)) (bAnd .u32 (s8.getD (0 : Int).toNat 0) (s8.getD (2 : Int).toNat 0))) (bAnd .u32 (s8.getD (1 : Int).toNat 0) (s8.getD (2 : Int).toNat 0)))))))]].flatten ++ ([[.int .u32 (s8.getD (0 : Int).toNat 0)]].flatten ++ ([[.int .u32 (s8.getD (1 : Int).toNat 0)]].flatten ++ ([[.int .u32 (s8.getD (2 : Int).toNat 0)]].flatten ++ ([[.int .u32 (IntKind.u32.wrap ((s8.getD (3 : Int).toNat 0) + (IntKind.u32.wrap ((IntKind.u32.wrap ((IntKind.u32.wrap ((IntKind.u32.wrap ((s8.getD (7 : Int).toNat 0) + (bXor .u32 (bXor .u32 r7 r8) r9))) + (bXor .u32 (bAnd .u32 (s8.getD (4 : Int).toNat 0) (s8.getD (5 : Int).toNat 0)) (bAnd .u32 (bNot .u32 (s8.getD (4 : Int).toNat 0)) (s8.getD (6 : Int).toNat 0))))) + (r2.getD s9.toNat 0))) + (c5.getD s9.toNat 0)))))]].flatten ++ ([[.int .u32 (s8.getD (4 : Int).toNat 0)]].flatten ++ ([[.int .u32 (s8.getD (5 : Int).toNat 0)]].flatten ++ ([[.int .u32 (s8.getD (6 : Int).toNat 0)]].flatten ++ ([]))))))))) te39 zr39 Tryd.underlying164 hI hA rfl rfl rfl rfl (by kernel_rfl) rfl fun g8 a w hA hI => ?_
                  generalize hcs : ([[.int .u32 (IntKind.u32.wrap ((IntKind.u32.wrap ((IntKind.u32.wrap ((IntKind.u32.wrap ((IntKind.u32.wrap ((s8.getD (7 : Int).toNat 0) + (bXor .u32 (bXor .u32 r7 r8) r9))) + (bXor .u32 (bAnd .u32 (s8.getD (4 : Int).toNat 0) (s8.getD (5 : Int).toNat 0)) (bAnd .u32 (bNot .u32 (s8.getD (4 : Int).toNat 0)) (s8.getD (6 : Int).toNat 0))))) + (r2.getD s9.toNat 0))) + (c5.getD s9.toNat 0))) + (IntKind.u32.wrap ((bXor .u32 (bXor .u32 r10 r11) r12) + (bXor .u32 (bXor .u32 (bAnd .u32 (s8.getD (0 : Int).toNat 0) (s8.getD (1 : Int).toNat 0)) (bAnd .u32 (s8.getD (0 : Int).toNat 0) (s8.getD (2 : Int).toNat 0))) (bAnd .u32 (s8.getD (1 : Int).toNat 0) (s8.getD (2 : Int).toNat 0)))))))]].flatten ++ ([[.int .u32 (s8.getD (0 : Int).toNat 0)]].flatten ++ ([[.int .u32 (s8.getD (1 : Int).toNat 0)]].flatten ++ ([[.int .u32 (s8.getD (2 : Int).toNat 0)]].flatten ++ ([[.int .u32 (IntKind.u32.wrap ((s8.getD (3 : Int).toNat 0) + (IntKind.u32.wrap ((IntKind.u32.wrap ((IntKind.u32.wrap ((IntKind.u32.wrap ((s8.getD (7 : Int).toNat 0) + (bXor .u32 (bXor .u32 r7 r8) r9))) + (bXor .u32 (bAnd .u32 (s8.getD (4 : Int).toNat 0) (s8.getD (5 : Int).toNat 0)) (bAnd .u32 (bNot .u32 (s8.getD (4 : Int).toNat 0)) (s8.getD (6 : Int).toNat 0))))) + (r2.getD s9.toNat 0))) + (c5.getD s9.toNat 0)))))]].flatten ++ ([[.int .u32 (s8.getD (4 : Int).toNat 0)]].flatten ++ ([[.int .u32 (s8.getD (5 : Int).toNat 0)]].flatten ++ ([[.int .u32 (s8.getD (6 : Int).toNat 0)]].flatten ++ ([])))))))) : List Value) = cs17 at hE19 hI
                  clear hcs
                  refine o_nil ?_
                  refine ⟨(.inr (hI.sel [1, 2, 3, 4, 5, 6, 7] (by decide) rfl)), ?_⟩
                  refine g_easy (i := 27) hA rfl rfl (by kernel_rfl) (.inr (hI.sel [1, 2, 3, 4, 5, 6, 7] (by decide) rfl)) (fun _ => r_as hA rfl) rfl fun a hA => ?_
                  refine g_nil (by kernel_rfl) ?_
                  refine hN29 _ _ ?_
                  refine w_reg ?_
                  refine stp hA (r_mv hA rfl) rfl fun a hA => 
                    stp hA (r_add hA rfl rfl) rfl fun a hA => 
                    stp hA (r_as hA rfl) rfl fun a hA => ?_
                  refine o_nil ?_
                  exact ⟨m5, Nat.lt_succ_self _, ([IntKind.u32.wrap ((IntKind.u32.wrap ((IntKind.u32.wrap ((IntKind.u32.wrap ((IntKind.u32.wrap ((s8.getD (7 : Int).toNat 0) + (bXor .u32 (bXor .u32 r7 r8) r9))) + (bXor .u32 (bAnd .u32 (s8.getD (4 : Int).toNat 0) (s8.getD (5 : Int).toNat 0)) (bAnd .u32 (bNot .u32 (s8.getD (4 : Int).toNat 0)) (s8.getD (6 : Int).toNat 0))))) + (r2.getD s9.toNat 0))) + (c5.getD s9.toNat 0))) + (IntKind.u32.wrap ((bXor .u32 (bXor .u32 r10 r11) r12) + (bXor .u32 (bXor .u32 (bAnd .u32 (s8.getD (0 : Int).toNat 0) (s8.getD (1 : Int).toNat 0)) (bAnd .u32 (s8.getD (0 : Int).toNat 0) (s8.getD (2 : Int).toNat 0))) (bAnd .u32 (s8.getD (1 : Int).toNat 0) (s8.getD (2 : Int).toNat 0)))))), s8.getD (0 : Int).toNat 0, s8.getD (1 : Int).toNat 0, s8.getD (2 : Int).toNat 0, IntKind.u32.wrap ((s8.getD (3 : Int).toNat 0) + (IntKind.u32.wrap ((IntKind.u32.wrap ((IntKind.u32.wrap ((IntKind.u32.wrap ((s8.getD (7 : Int).toNat 0) + (bXor .u32 (bXor .u32 r7 r8) r9))) + (bXor .u32 (bAnd .u32 (s8.getD (4 : Int).toNat 0) (s8.getD (5 : Int).toNat 0)) (bAnd .u32 (bNot .u32 (s8.getD (4 : Int).toNat 0)) (s8.getD (6 : Int).toNat 0))))) + (r2.getD s9.toNat 0))) + (c5.getD s9.toNat 0)))), s8.getD (4 : Int).toNat 0, s8.getD (5 : Int).toNat 0, s8.getD (6 : Int).toNat 0] : List Int), IntKind.i64.wrap (s9 + 1), (.slice (some ⟨g8, 0, none⟩) 8 8), cs17, H, hE19, (wrap_in _ _), hA.sub ⟨rfl, rfl, rfl, rfl, rfl, rfl, rfl, rfl, rfl, rfl, rfl, trivial⟩, (hI.sel [0, 2, 3, 4, 5, 6, 7] (by decide) rfl)⟩
                · have hc60 := hc6; have hc6 := of_decide_eq_false hc6; have H := bF H hc6
                  refine w_exit rfl ?_
                  have H : some s8 = some z5 := H
                  obtain rfl := Option.some.inj H
                  have H := Hk12
                  cases Option.some.inj (bS H)
                  exact ⟨vvs8, ccs8, ws8, hA.sub ⟨rfl, rfl, rfl, rfl, rfl, rfl, rfl, rfl, rfl, rfl, trivial⟩, hI⟩
              · rintro a w ⟨vvc7, ccc7, wc7, hA, hI⟩
                have H := Hk11
                refine w_seq fun _ hN34 => ?_
                refine w_reg ?_
                refine stp hA (r_as hA rfl) rfl fun a hA => ?_
                refine o_nil ?_
                refine hN34 _ _ ?_
                refine w_block ?_
                obtain ⟨z6, hz25, Hk13⟩ := bind_some H
                obtain ⟨n6, hn6⟩ := loopO_some hz25
                refine w_loop (fun n a w => ∃ (s10 : Int) (s11 : List Int) (ccs11 : List Value), loopN (sargassoref1_Sha.s5 c7) n (s10, s11) = some z6 ∧ InR .i64 s10 ∧ Els (RI .u32) 1 s11 ccs11 ∧ Fr a 282 [(0, u0), (2, .pointer (some ⟨g1, 0, none⟩)), (3, (.slice (some ⟨g2, 0, none⟩) 8 8)), (4, vvc2), (5, .int .u64 (IntKind.u64.wrap (8 * (IntKind.u64.wrap (x0.length : Int))))), (7, v5), (8, .int .i64 s4), (9, (.slice (some ⟨g6, 0, none⟩) ((64 : Int).toNat) ((64 : Int).toNat))), (14, vvc7), (20, .int .i64 s10), (56, .bool (decide (s4 < (c2.length : Int))))] ∧ Iv w0 [] μ μ [row 39 1 vvc7 c7.length ccc7, row 39 1 (.slice (some ⟨g6, 0, none⟩) ((64 : Int).toNat) ((64 : Int).toNat)) c5.length ccc5, row 39 1 v5 r2.length cs12, row 5 1 vvc2 c2.length ccc2, row 5 1 (.slice (some ⟨g3, 0, none⟩) 1 1) ([128] : List Int).length cs3, row 39 1 (.slice (some ⟨g2, 0, none⟩) 8 8) s11.length ccs11, cel g1 [av .u8 32 (List.replicate 32 0)] 55] w) n6 ⟨0, s5, ccs5, hn6, (in_lit .i64 0 rfl), ws5, hA.sub ⟨rfl, rfl, rfl, rfl, rfl, rfl, rfl, rfl, rfl, rfl, rfl, trivial⟩, hI⟩ ?_
                clear hA hI
                rintro n a w ⟨s10, s11, ccs11, hn6, ws10, ws11, hA, hI⟩
                obtain ⟨m6, rfl, H⟩ := loopN_bind hn6
                clear hn6
                refine w_seq fun _ hN35 => ?_
                refine w_seq fun _ hN36 => ?_
                refine w_reg ?_
                refine stp hA (r_mv hA rfl) rfl fun a hA => 
                  stp hA (r_lss hA rfl rfl) rfl fun a hA => ?_
                refine o_nil ?_
                refine hN36 _ _ ?_
                refine w_cond hA rfl (fun hc7 => ?_) (fun hc7 => ?_)
                · have hc70 := hc7; have hc7 := of_decide_eq_true hc7; have H := bT H hc7
                  refine w_skip ?_
                  refine hN35 _ _ ?_
                  refine w_seq fun _ hN37 => ?_
                  refine w_block ?_
                  refine w_any [12] mo hI fun w hI => ?_
                  refine g_easy (i := 0) hA rfl rfl (by kernel_rfl) (.inr hI) (fun _ => r_mv hA rfl) rfl fun a hA => ?_
                  refine g_easy (i := 1) hA rfl rfl (by kernel_rfl) (.inr hI) (fun _ => r_mv hA rfl) rfl fun a hA => ?_
                  refine g_easy (i := 2) hA rfl rfl (by kernel_rfl) (.inr hI) (fun _ => r_mv hA rfl) rfl fun a hA => ?_
                  refine g_easy (i := 3) hA rfl rfl (by kernel_rfl) (.inr hI) (fun _ => r_mv hA rfl) rfl fun a hA => ?_
                  obtain ⟨hb27, H⟩ := bG H
                  refine g_take (i := 4) hA rfl rfl (by kernel_rfl) hI (fun w hI => r_rix (j := 5) Tryd.underlying164 sz39 hI rfl hA rfl rfl hb27.1 hb27.2) rfl fun a hA => ?_
                  have hq27 := els_get ws11 hb27.1 hb27.2
                  refine g_take (i := 5) hA rfl rfl (by kernel_rfl) hI (fun w hI => r_rld1 (j := 5) Tryd.underlying39 rfl hI rfl hq27 hA rfl (by simp only [Nat.mul_one])) rfl fun a hA => ?_
                  refine g_easy (i := 6) hA rfl rfl (by kernel_rfl) (.inr hI) (fun _ => r_mv hA rfl) rfl fun a hA => ?_
                  refine g_easy (i := 7) hA rfl rfl (by kernel_rfl) (.inr hI) (fun _ => r_mv hA rfl) rfl fun a hA => ?_
                  obtain ⟨hb28, H⟩ := bG H
                  refine g_take (i := 8) hA rfl rfl (by kernel_rfl) hI (fun w hI => r_rix (j := 0) Tryd.underlying164 sz39 hI rfl hA rfl rfl hb28.1 hb28.2) rfl fun a hA => ?_
                  have hq28 := els_get wc7 hb28.1 hb28.2
                  refine g_take (i := 9) hA rfl rfl (by kernel_rfl) hI (fun w hI => r_rld1 (j := 0) Tryd.underlying39 rfl hI rfl hq28 hA rfl (by simp only [Nat.mul_one])) rfl fun a hA => ?_
                  refine g_easy (i := 10) hA rfl rfl (by kernel_rfl) (.inr hI) (fun _ => r_add hA rfl rfl) rfl fun a hA => ?_
                  refine g_take (i := 11) hA rfl rfl (by kernel_rfl) hI (fun w hI => r_rix (j := 5) Tryd.underlying164 sz39 hI rfl hA rfl rfl hb27.1 hb27.2) rfl fun a hA => ?_
                  refine g_forced (i := 12) rfl (by kernel_rfl) ?_
                  have hE20 := els_set (x := (IntKind.u32.wrap ((s11.getD s10.toNat 0) + (c7.getD s10.toNat 0)))) ws11 s10.toNat (wrap_in _ _)
                  refine o_rst (j := 5) (q := s10.toNat) (z := (IntKind.u32.wrap ((s11.getD s10.toNat 0) + (c7.getD s10.toNat 0)))) (xs := s11) sz39 hI rfl hA rfl rfl (by simp only [Nat.mul_one]) rfl (by omega) fun w hI => ?_
                  refine o_nil ?_
                  refine ⟨(.inl (by kernel_rfl)), ?_⟩
                  refine g_nil (by kernel_rfl) ?_
                  refine hN37 _ _ ?_
                  refine w_reg ?_
                  refine stp hA (r_mv hA rfl) rfl fun a hA => 
                    stp hA (r_add hA rfl rfl) rfl fun a hA => 
                    stp hA (r_as hA rfl) rfl fun a hA => ?_
                  refine o_nil ?_
                  exact ⟨m6, Nat.lt_succ_self _, IntKind.i64.wrap (s10 + 1), s11.set s10.toNat (IntKind.u32.wrap ((s11.getD s10.toNat 0) + (c7.getD s10.toNat 0))), ccs11.set s10.toNat (.int .u32 (IntKind.u32.wrap ((s11.getD s10.toNat 0) + (c7.getD s10.toNat 0)))), H, (wrap_in _ _), hE20, hA.sub ⟨rfl, rfl, rfl, rfl, rfl, rfl, rfl, rfl, rfl, rfl, rfl, trivial⟩, hI⟩
                · have hc70 := hc7; have hc7 := of_decide_eq_false hc7; have H := bF H hc7
                  refine w_exit rfl ?_
                  have H : some s11 = some z6 := H
                  obtain rfl := Option.some.inj H
                  have H := Hk13
                  cases Option.some.inj (bS H)
                  exact ⟨ccs11, ws11, hA.sub ⟨rfl, rfl, rfl, rfl, rfl, rfl, rfl, rfl, trivial⟩, (hI.sel [2, 3, 4, 5, 6] (by decide) rfl)⟩
          · rintro a w ⟨ccc4, wc4, hA, hI⟩
            have H := Hk7
            refine w_reg ?_
            refine stp hA (r_mv hA rfl) rfl fun a hA => 
              stp hA (r_add hA rfl rfl) rfl fun a hA => 
              stp hA (r_as hA rfl) rfl fun a hA => ?_
            refine o_nil ?_
            exact ⟨m3, Nat.lt_succ_self _, IntKind.i64.wrap (s4 + 64), c4, ccc4, H, (wrap_in _ _), wc4, hA.sub ⟨rfl, rfl, rfl, rfl, rfl, rfl, rfl, trivial⟩, hI⟩
        · have hc30 := hc3; have hc3 := of_decide_eq_false hc3; have H := bF H hc3
          refine w_exit rfl ?_
          have H : some s5 = some z3 := H
          obtain rfl := Option.some.inj H
          have H := Hk6
          cases Option.some.inj (bS H)
          exact ⟨ccs5, ws5, hA.sub ⟨rfl, rfl, rfl, rfl, rfl, rfl, trivial⟩, hI⟩
      · rintro a w ⟨ccc3, wc3, hA, hI⟩
        have H := Hk5
        refine w_seq fun _ hN38 => ?_
        refine w_reg ?_
        refine o_new [av .u8 32 (List.replicate 32 0)] zr55 hI hA rfl fun g9 a w hA hI hg9 => ?_
        refine o_nil ?_
        refine hN38 _ _ ?_
        obtain ⟨c8, hz26, Hk14⟩ := bB H
        refine w_cut (fun a w => Arr .u8 32 c8 ∧ Fr a 282 [(0, u0), (2, .pointer (some ⟨g1, 0, none⟩)), (3, (.slice (some ⟨g2, 0, none⟩) 8 8)), (4, vvc2), (5, .int .u64 (IntKind.u64.wrap (8 * (IntKind.u64.wrap (x0.length : Int))))), (7, v5), (21, .pointer (some ⟨g9, 0, none⟩))] ∧ Iv w0 [] μ μ [cel g9 [av .u8 32 c8] 55, row 39 1 v5 r2.length cs12, row 5 1 vvc2 c2.length ccc2, row 5 1 (.slice (some ⟨g3, 0, none⟩) 1 1) ([128] : List Int).length cs3, row 39 1 (.slice (some ⟨g2, 0, none⟩) 8 8) c3.length ccc3, cel g1 [av .u8 32 (List.replicate 32 0)] 55] w) ?_ ?_
        · have H := bI hz26
          refine w_seq fun _ hN39 => ?_
          refine w_reg ?_
          refine stp hA (r_as hA rfl) rfl fun a hA => ?_
          refine o_nil ?_
          refine hN39 _ _ ?_
          refine w_block ?_
          obtain ⟨z7, hz27, Hk15⟩ := bind_some H
          obtain ⟨n7, hn7⟩ := loopO_some hz27
          refine w_loop (fun n a w => ∃ (s12 : Int) (s13 : List Int), loopN (sargassoref1_Sha.s6 c3) n (s12, s13) = some z7 ∧ InR .i64 s12 ∧ Arr .u8 32 s13 ∧ Fr a 282 [(0, u0), (2, .pointer (some ⟨g1, 0, none⟩)), (3, (.slice (some ⟨g2, 0, none⟩) 8 8)), (4, vvc2), (5, .int .u64 (IntKind.u64.wrap (8 * (IntKind.u64.wrap (x0.length : Int))))), (7, v5), (21, .pointer (some ⟨g9, 0, none⟩)), (22, .int .i64 s12)] ∧ Iv w0 [] μ μ [cel g9 [av .u8 32 s13] 55, row 39 1 v5 r2.length cs12, row 5 1 vvc2 c2.length ccc2, row 5 1 (.slice (some ⟨g3, 0, none⟩) 1 1) ([128] : List Int).length cs3, row 39 1 (.slice (some ⟨g2, 0, none⟩) 8 8) c3.length ccc3, cel g1 [av .u8 32 (List.replicate 32 0)] 55] w) n7 ⟨0, (List.replicate 32 0), hn7, (in_lit .i64 0 rfl), (arr_zero _ _), hA.sub ⟨rfl, rfl, rfl, rfl, rfl, rfl, rfl, rfl, trivial⟩, hI⟩ ?_
          clear hA hI
          rintro n a w ⟨s12, s13, hn7, ws12, ws13, hA, hI⟩
          obtain ⟨m7, rfl, H⟩ := loopN_bind hn7
          clear hn7
          refine w_seq fun _ hN40 => ?_
          refine w_seq fun _ hN41 => ?_
          refine w_reg ?_
          refine stp hA (r_mv hA rfl) rfl fun a hA => 
            stp hA (r_lss hA rfl rfl) rfl fun a hA => ?_
          refine o_nil ?_
          refine hN41 _ _ ?_
          refine w_cond hA rfl (fun hc8 => ?_) (fun hc8 => ?_)
          · have hc80 := hc8; have hc8 := of_decide_eq_true hc8; have H := bT H hc8
            refine w_skip ?_
            refine hN40 _ _ ?_
            refine w_seq fun _ hN42 => ?_
            refine w_block ?_
            refine w_reg ?_
            refine stp hA (r_mv hA rfl) rfl fun a hA => 
              stp hA (r_mv hA rfl) rfl fun a hA => 
              stp hA (r_mv hA rfl) rfl fun a hA => 
              stp hA (r_quo hA rfl rfl (by decide)) rfl fun a hA => ?_
            obtain ⟨hb29, H⟩ := bG H
            refine stp hA (r_rix (j := 4) Tryd.underlying164 sz39 hI rfl hA rfl rfl hb29.1 hb29.2) rfl fun a hA => ?_
            have hq29 := els_get wc3 hb29.1 hb29.2
            refine stp hA (r_rld1 (j := 4) Tryd.underlying39 rfl hI rfl hq29 hA rfl (by simp only [Nat.mul_one])) rfl fun a hA => 
              stp hA (r_mv hA rfl) rfl fun a hA => 
              stp hA (r_rem hA rfl rfl (by decide)) rfl fun a hA => 
              stp hA (r_mul hA rfl rfl) rfl fun a hA => 
              stp hA (r_sub hA rfl rfl) rfl fun a hA => 
              stp hA (r_conv Tryd.underlying3 Tryd.underlying81 hA rfl) rfl fun a hA => ?_
            obtain ⟨hb30, H⟩ := bG H
            refine stp hA (r_shr hA rfl rfl hb30) rfl fun a hA => 
              stp hA (r_conv Tryd.underlying39 Tryd.underlying5 hA rfl) rfl fun a hA => ?_
            obtain ⟨hb31, H⟩ := bG H
            refine stp hA (r_ixar1 Tryd.underlying55 sz5 hA rfl rfl hb31.1 hb31.2) rfl fun a hA => 
              o_stE (j := 0) [] [] sz5 ws13.1 hI rfl hA rfl rfl rfl (by omega) fun w hI => ?_
            refine o_nil ?_
            refine hN42 _ _ ?_
            refine w_reg ?_
            refine stp hA (r_mv hA rfl) rfl fun a hA => 
              stp hA (r_add hA rfl rfl) rfl fun a hA => 
              stp hA (r_as hA rfl) rfl fun a hA => ?_
            refine o_nil ?_
            exact ⟨m7, Nat.lt_succ_self _, IntKind.i64.wrap (s12 + 1), s13.set s12.toNat (IntKind.u8.wrap (sR .u32 (c3.getD (IntKind.i64.wrap (Int.tdiv s12 4)).toNat 0) (IntKind.u64.wrap (IntKind.i64.wrap (24 - (IntKind.i64.wrap (8 * (Int.tmod s12 4)))))))), H, (wrap_in _ _), (arr_set ws13 _ (wrap_in _ _)), hA.sub ⟨rfl, rfl, rfl, rfl, rfl, rfl, rfl, rfl, trivial⟩, hI⟩
          · have hc80 := hc8; have hc8 := of_decide_eq_false hc8; have H := bF H hc8
            refine w_exit rfl ?_
            have H : some s13 = some z7 := H
            obtain rfl := Option.some.inj H
            have H := Hk15
            cases Option.some.inj (bS H)
            exact ⟨ws13, hA.sub ⟨rfl, rfl, rfl, rfl, rfl, rfl, rfl, trivial⟩, hI⟩
        · rintro a w ⟨wc8, hA, hI⟩
          have H := Hk14
          refine w_seq fun _ hN43 => ?_
          refine w_reg ?_
          refine stp hA (r_ldA (j := 0) [] [av .u8 32 c8] [] Tryd.underlying55 rfl sz55 rfl hI rfl hA rfl rfl) rfl fun a hA => 
            o_st (j := 5) [] [av .u8 32 (List.replicate 32 0)] [av .u8 32 c8] [] sz55 rfl rfl (fl_cons (one_av _ _ _) fl_nil) hI rfl hA rfl rfl rfl rfl fun w hI => ?_
          refine o_nil ?_
          refine hN43 _ _ ?_
          refine w_ret ?_
          obtain rfl := Option.some.inj (bS H)
          exact retc Tryd.underlying55 rfl sz55 rfl hI (j := 5) rfl hA Tryd.results71 rfl ⟨_, rfl, rfl, wc8, hI.forget0⟩
end Go.Proofs.YtpeelghbhihgkaaDoor.T
namespace Go.Proofs.YtpeelghbhihgkaaDoor.T
open Go Go.Proofs Go.Proofs.YtpeelghbhihgkaaDoor.K
set_option linter.unusedVariables false
set_option linter.unusedSimpArgs false
noncomputable def spend_Lock.f (x0 : List Int) : Option (List Int) := ((digest_Sha.f x0).bind fun r1 => some r1)
noncomputable def spend_Opens.f (x0 : List Int) (x1 : List Int) : Option Bool := (((if (x0.length : Int) ≤ 80 then ((spend_Lock.f x0).bind fun r1 => some (decide (r1 = x1))) else some false)).bind fun c1 => some c1)
end Go.Proofs.YtpeelghbhihgkaaDoor.T
namespace Go.Proofs.YtpeelghbhihgkaaDoor.T
open Go Go.Proofs Go.Proofs.YtpeelghbhihgkaaDoor.K
set_option linter.unusedVariables false
set_option linter.unusedSimpArgs false
set_option maxRecDepth 20000 in
theorem spend_Lock.c (μ : Store) (w0 : World) (hμ : Agr μ w0) (x0 : List Int) (u0 : Value) (hx0 : Slc (RI .u8) 1 μ u0 x0) (r : List Int) (H : spend_Lock.f x0 = some r) :
    Calls Tryd.prog 147 [u0].toArray w0 (fun e w' => ∃ v, e = .returned v ∧ v = .agg [av .u8 32 r].flatten.toArray ∧ Arr .u8 32 r ∧ Iv w0 [] μ μ [] w') := by
  refine enter Tryd.func147 rfl Tryd.ntmps147 rfl fun a hA => ?_
  have hI := Iv.start hμ
  have H := bI H
  refine w_seq fun _ hN1 => ?_
  refine w_reg ?_
  refine o_new [av .u8 32 (List.replicate 32 0)] zr55 hI hA rfl fun g1 a w hA hI hg1 => ?_
  refine o_nil ?_
  refine hN1 _ _ ?_
  refine w_seq fun _ hN2 => ?_
  refine w_reg ?_
  refine stp hA (r_mv hA rfl) rfl fun a hA => ?_
  obtain ⟨r1, hr1, H⟩ := bB H
  refine o_callp (u := .agg [av .u8 32 r1].flatten.toArray) cf145 hA rfl hI (digest_Sha.c μ _ hI.agr x0 u0 hx0 r1 hr1) rfl fun a w hz1 hI hA => 
    o_st (j := 0) [] [av .u8 32 (List.replicate 32 0)] [av .u8 32 r1] [] sz55 rfl rfl (fl_cons (one_av _ _ _) fl_nil) hI rfl hA rfl rfl rfl rfl fun w hI => ?_
  refine o_nil ?_
  refine hN2 _ _ ?_
  refine w_ret ?_
  obtain rfl := Option.some.inj (bS H)
  exact retc Tryd.underlying55 rfl sz55 rfl hI (j := 0) rfl hA Tryd.results147 rfl ⟨_, rfl, rfl, hz1, hI.forget0⟩
set_option maxRecDepth 20000 in
theorem spend_Opens.c (μ : Store) (w0 : World) (hμ : Agr μ w0) (x0 : List Int) (u0 : Value) (hx0 : Slc (RI .u8) 1 μ u0 x0) (x1 : List Int) (hx1 : Arr .u8 32 x1) (r : Bool) (H : spend_Opens.f x0 x1 = some r) :
    Calls Tryd.prog 127 [u0, .agg [av .u8 32 x1].flatten.toArray].toArray w0 (fun e w' => ∃ v, e = .returned v ∧ v = .bool r ∧ True ∧ Iv w0 [] μ μ [] w') := by
  refine enter Tryd.func127 rfl Tryd.ntmps127 rfl fun a hA => ?_
  have hI := Iv.start hμ
  have H := bI H
  refine w_seq fun _ hN1 => ?_
  refine w_reg ?_
  refine o_box [av .u8 32 x1] hI hA rfl rfl rfl fun g1 a w hA hI hg1 => 
    stp hA (r_as hA rfl) rfl fun a hA => ?_
  refine o_nil ?_
  refine hN1 _ _ ?_
  obtain ⟨c1, hz1, Hk1⟩ := bB H
  refine w_cut (fun a w => Fr a 14 [(0, u0), (1, .agg [av .u8 32 x1].flatten.toArray), (3, .pointer (some ⟨g1, 0, none⟩)), (4, .bool c1)] ∧ Iv w0 [] μ μ [cel g1 [av .u8 32 x1] 55] w) ?_ ?_
  · have H := bI hz1
    refine w_any [] mo hI fun w hI => ?_
    refine g_easy (i := 0) hA rfl rfl (by kernel_rfl) (.inr hI) (fun _ => r_mv hA rfl) rfl fun a hA => ?_
    obtain ⟨_, hsl1⟩ := Slc.sv hx0
    refine g_easy (i := 1) hA rfl rfl (by kernel_rfl) (.inr hI) (fun _ => r_slen Tryd.underlying23 hsl1 hA rfl) rfl fun a hA => ?_
    refine g_easy (i := 2) hA rfl rfl (by kernel_rfl) (.inr hI) (fun _ => r_leq hA rfl rfl) rfl fun a hA => ?_
    refine g_easy (i := 3) hA rfl rfl (by kernel_rfl) (.inr hI) (fun _ => r_mv hA rfl) rfl fun a hA => ?_
    rcases Bool.eq_false_or_eq_true (decide ((x0.length : Int) ≤ 80)) with hc1 | hc1
    · have hc10 := hc1; have hc1 := of_decide_eq_true hc1; have H := bT H hc1
      refine g_easy (i := 4) hA rfl (wanted_yes hA rfl rfl hc10) (by kernel_rfl) (.inr hI) (fun _ => r_mv hA rfl) rfl fun a hA => ?_
      refine g_take (i := 6) hA rfl (wanted_yes hA rfl rfl hc10) (by kernel_rfl) hI (fun w hI => r_ldA (j := 0) [] [av .u8 32 x1] [] Tryd.underlying55 rfl sz55 rfl hI rfl hA rfl rfl) rfl fun a hA => ?_
      refine g_forced (i := 5) rfl (by kernel_rfl) ?_
      refine o_yes hA rfl rfl hc10 <| ?_
      obtain ⟨r1, hr1, H⟩ := bB H
      refine o_callp (u := .agg [av .u8 32 r1].flatten.toArray) cf147 hA rfl hI (spend_Lock.c μ _ hI.agr x0 u0 hx0 r1 hr1) rfl fun a w hz2 hI hA => ?_
      refine o_nil ?_
      refine ⟨(.inr hI), ?_⟩
      refine g_easy (i := 7) hA rfl (wanted_yes hA rfl rfl hc10) (by kernel_rfl) (.inr hI) (fun _ => r_eqS hA rfl rfl eg55 (eqv_arr Tryd.underlying55 Tryd.underlying5 sz5 hz2 hx1)) rfl fun a hA => ?_
      refine g_easy (i := 8) hA rfl rfl (by kernel_rfl) (.inr hI) (fun _ => r_pick_t hA rfl hc10 rfl) rfl fun a hA => ?_
      refine g_easy (i := 9) hA rfl rfl (by kernel_rfl) (.inr hI) (fun _ => r_as hA rfl) rfl fun a hA => ?_
      refine g_nil (by kernel_rfl) ?_
      cases Option.some.inj (bS H)
      exact ⟨hA.sub ⟨rfl, rfl, rfl, rfl, trivial⟩, hI⟩
    · have hc10 := hc1; have hc1 := of_decide_eq_false hc1; have H := bF H hc1
      refine g_skip (i := 4) hA rfl (wanted_no hA rfl rfl (by rw [hc10]; simp [vb])) (by kernel_rfl) (.inr hI) rfl fun a hA => ?_
      refine g_skip (i := 6) hA rfl (wanted_no hA rfl rfl (by rw [hc10]; simp [vb])) (by kernel_rfl) (.inr hI) rfl fun a hA => ?_
      refine g_skip (i := 5) hA rfl (wanted_no hA rfl rfl (by rw [hc10]; simp [vb])) (by kernel_rfl) (.inr hI) rfl fun a hA => ?_
      refine g_skip (i := 7) hA rfl (wanted_no hA rfl rfl (by rw [hc10]; simp [vb])) (by kernel_rfl) (.inr hI) rfl fun a hA => ?_
      refine g_easy (i := 8) hA rfl rfl (by kernel_rfl) (.inr hI) (fun _ => r_pick_f hA rfl hc10 rfl) rfl fun a hA => ?_
      refine g_easy (i := 9) hA rfl rfl (by kernel_rfl) (.inr hI) (fun _ => r_as hA rfl) rfl fun a hA => ?_
      refine g_nil (by kernel_rfl) ?_
      cases Option.some.inj (bS H)
      exact ⟨hA.sub ⟨rfl, rfl, rfl, rfl, trivial⟩, hI⟩
  · rintro a w ⟨hA, hI⟩
    have H := Hk1
    refine w_ret ?_
    obtain rfl := Option.some.inj (bS H)
    exact ret1 hA Tryd.results127 rfl ⟨_, rfl, rfl, trivial, hI.forget0⟩
end Go.Proofs.YtpeelghbhihgkaaDoor.T
namespace Go.Proofs.YtpeelghbhihgkaaDoor.T
open Go Go.Proofs Go.Proofs.YtpeelghbhihgkaaDoor.K
set_option linter.unusedVariables false
set_option linter.unusedSimpArgs false
noncomputable def tx_values.s0 (x0 : Tx) : ((List Int) × Int) → Option (((List Int) × Int) ⊕ (List Int)) := fun (s1, s2) => (if s2 < (x0.Outs.length : Int) then (if 0 ≤ s2 ∧ s2 < (x0.Outs.length : Int) then (if s1.length + 1 ≤ 17592186044416 then some (.inl (s1 ++ ([(x0.Outs.getD s2.toNat default).Value] : List Int), IntKind.i64.wrap (s2 + 1))) else none) else none) else some (.inr s1))
noncomputable def tx_values.f (x0 : Tx) : Option (List Int) := ((loopO (tx_values.s0 x0) ([], 0)).bind fun c1 => some c1)
noncomputable def tx_Sum.f (x0 : Tx) : Option (Int × Bool) := ((tx_values.f x0).bind fun r1 => ((compact_Sum.f r1).bind fun r2 => some (r2.1, r2.2)))
end Go.Proofs.YtpeelghbhihgkaaDoor.T
namespace Go.Proofs.YtpeelghbhihgkaaDoor.T
open Go Go.Proofs Go.Proofs.YtpeelghbhihgkaaDoor.K
set_option linter.unusedVariables false
set_option linter.unusedSimpArgs false
set_option maxRecDepth 20000 in
theorem tx_values.c (μ : Store) (w0 : World) (hμ : Agr μ w0) (x0 : Tx) (u0_0 : Value) (u0_1 : Value) (hx0 : TxW μ x0 u0_0 u0_1) (r : List Int) (H : tx_values.f x0 = some r) :
    Calls Tryd.prog 141 [.agg [[.int .u32 x0.Version], [u0_0], [u0_1], [.int .u32 x0.Time]].flatten.toArray].toArray w0 (fun e w' => ∃ v, e = .returned v ∧ ∃ (v0 : Value) (c0 : List Value), v = v0 ∧ Els (RI .u64) 1 r c0 ∧ Iv w0 [] μ μ [row 22 1 v0 r.length c0] w') := by
  refine enter Tryd.func141 rfl Tryd.ntmps141 rfl fun a hA => ?_
  have hI := Iv.start hμ
  have H := bI H
  refine w_seq fun _ hN1 => ?_
  refine w_reg ?_
  refine o_box [[.int .u32 x0.Version], [u0_0], [u0_1], [.int .u32 x0.Time]] hI hA rfl rfl rfl fun g1 a w hA hI hg1 => 
    stp hA (r_as hA rfl) rfl fun a hA => ?_
  refine o_nil ?_
  refine hN1 _ _ ?_
  refine w_seq fun _ hN2 => ?_
  refine w_reg ?_
  refine stp hA (r_as hA rfl) rfl fun a hA => ?_
  refine o_nil ?_
  refine hN2 _ _ ?_
  obtain ⟨c1, hz1, Hk1⟩ := bB H
  refine w_cut (fun a w => ∃ (vvc1 : Value) (ccc1 : List Value), Els (RI .u64) 1 c1 ccc1 ∧ Fr a 20 [(0, .agg [[.int .u32 x0.Version], [u0_0], [u0_1], [.int .u32 x0.Time]].flatten.toArray), (1, .pointer (some ⟨g1, 0, none⟩)), (2, (.slice none 0 0)), (3, vvc1)] ∧ Iv w0 [] μ μ [row 22 1 vvc1 c1.length ccc1, cel g1 [[.int .u32 x0.Version], [u0_0], [u0_1], [.int .u32 x0.Time]] 68] w) ?_ ?_
  · have H := bI hz1
    refine w_seq fun _ hN3 => ?_
    refine w_reg ?_
    refine stp hA (r_fd (k := 2) Tryd.underlying68 rfl sz66 hA rfl rfl) rfl fun a hA => 
      stp hA (r_ld1 (j := 0) [[.int .u32 x0.Version], [u0_0]] [[.int .u32 x0.Time]] Tryd.underlying66 rfl hI rfl hA rfl rfl) rfl fun a hA => ?_
    obtain ⟨_, hsl1⟩ := Slc.sv hx0.2.2.1
    refine stp hA (r_slen Tryd.underlying66 hsl1 hA rfl) rfl fun a hA => 
      stp hA (r_mv hA rfl) rfl fun a hA => ?_
    refine o_nil ?_
    refine hN3 _ _ ?_
    refine w_block ?_
    have hI := hI.nilRow 22 1
    obtain ⟨z1, hz2, Hk2⟩ := bind_some H
    obtain ⟨n1, hn1⟩ := loopO_some hz2
    refine w_loop (fun n a w => ∃ (s1 : List Int) (s2 : Int) (vvs1 : Value) (ccs1 : List Value), loopN (tx_values.s0 x0) n (s1, s2) = some z1 ∧ Els (RI .u64) 1 s1 ccs1 ∧ InR .i64 s2 ∧ Fr a 20 [(0, .agg [[.int .u32 x0.Version], [u0_0], [u0_1], [.int .u32 x0.Time]].flatten.toArray), (1, .pointer (some ⟨g1, 0, none⟩)), (2, (.slice none 0 0)), (3, vvs1), (7, u0_1), (8, .int .i64 (x0.Outs.length : Int)), (9, .int .i64 s2)] ∧ Iv w0 [] μ μ [row 22 1 vvs1 s1.length ccs1, cel g1 [[.int .u32 x0.Version], [u0_0], [u0_1], [.int .u32 x0.Time]] 68] w) n1 ⟨[], 0, (.slice none 0 0), [], hn1, (Els.nil (RE := (RI .u64)) (sz := 1)), (in_lit .i64 0 rfl), hA.sub ⟨rfl, rfl, rfl, rfl, rfl, rfl, rfl, trivial⟩, hI⟩ ?_
    clear hA hI
    rintro n a w ⟨s1, s2, vvs1, ccs1, hn1, ws1, ws2, hA, hI⟩
    obtain ⟨m1, rfl, H⟩ := loopN_bind hn1
    clear hn1
    refine w_seq fun _ hN4 => ?_
    refine w_reg ?_
    refine stp hA (r_lss hA rfl rfl) rfl fun a hA => ?_
    refine o_nil ?_
    refine hN4 _ _ ?_
    refine w_seq fun _ hN5 => ?_
    refine w_cond hA rfl (fun hc1 => ?_) (fun hc1 => ?_)
    · have hc10 := hc1; have hc1 := of_decide_eq_true hc1; have H := bT H hc1
      refine w_skip ?_
      refine hN5 _ _ ?_
      refine w_seq fun _ hN6 => ?_
      refine w_block ?_
      refine w_seq fun _ hN7 => ?_
      refine w_reg ?_
      obtain ⟨hb1, H⟩ := bG H
      obtain ⟨_, he1, _, hat1⟩ := Slc.elem hx0.2.2.1 (getD_some default hb1.1 hb1.2)
      obtain ⟨rfl, hw1⟩ := he1
      obtain ⟨_, hsl2⟩ := Slc.sv hx0.2.2.1
      refine stp hA (r_six Tryd.underlying66 sz65 hsl2 hA rfl rfl hb1.1 hb1.2) rfl fun a hA => 
        stp hA (r_ldmA [] [[.int .u64 ((x0.Outs.getD s2.toNat default).Value)], av .u8 32 ((x0.Outs.getD s2.toNat default).Lock)] [] Tryd.underlying65 rfl sz65 rfl hI.agr hat1 hA rfl rfl) rfl fun a hA => 
        o_new [[.int .u64 0], av .u8 32 (List.replicate 32 0)] zr65 hI hA rfl fun g2 a w hA hI hg2 => 
        o_st (j := 0) [] [[.int .u64 0], av .u8 32 (List.replicate 32 0)] [[.int .u64 ((x0.Outs.getD s2.toNat default).Value)], av .u8 32 ((x0.Outs.getD s2.toNat default).Lock)] [] sz65 rfl rfl (fl_cons (one_one rfl) (fl_cons (one_av _ _ _) fl_nil)) hI rfl hA rfl rfl rfl rfl fun w hI => ?_
      refine o_nil ?_
      refine hN7 _ _ ?_
      refine w_reg ?_
      refine stp hA (r_mv hA rfl) rfl fun a hA => 
        stp hA (r_fd (k := 0) Tryd.underlying65 rfl sz22 hA rfl rfl) rfl fun a hA => 
        stp hA (r_ld1 (j := 0) [] [av .u8 32 ((x0.Outs.getD s2.toNat default).Lock)] Tryd.underlying22 rfl hI rfl hA rfl rfl) rfl fun a hA => ?_
      have hE1 : Els (RI .u64) 1 ([(x0.Outs.getD s2.toNat default).Value] : List Int) ([[.int .u64 ((x0.Outs.getD s2.toNat default).Value)]].flatten ++ ([])) := (Els.cons (c := [[.int .u64 ((x0.Outs.getD s2.toNat default).Value)]].flatten) ⟨rfl, hw1.1⟩ rfl Els.nil)
      refine o_bsl ([[.int .u64 ((x0.Outs.getD s2.toNat default).Value)]].flatten ++ ([])) te22 zr22 Tryd.underlying42 hI hA rfl rfl rfl rfl (by kernel_rfl) rfl fun g3 a w hA hI => ?_
      generalize hcs : ([[.int .u64 ((x0.Outs.getD s2.toNat default).Value)]].flatten ++ ([]) : List Value) = cs1 at hE1 hI
      clear hcs
      obtain ⟨hb2, H⟩ := bG H
      have hE3 := ws1.app hE1
      refine o_appL (xs := (s1 : List Int)) (ys := (([(x0.Outs.getD s2.toNat default).Value] : List Int) : List Int)) (j := 2) te22 Tryd.underlying42 hI rfl hA rfl rfl (src_row hI (j := 0) rfl) hE1.len (hE1.ones (one_RI _)) (by first | decide | (have hq := hb2; (try simp only [List.length_cons, List.length_nil] at hq); (try simp only [List.length_cons, List.length_nil]); (try simp only [maxLen]); omega)) (by first | decide | (have hq := hb2; (try simp only [List.length_cons, List.length_nil] at hq); (try simp only [List.length_cons, List.length_nil]); (try simp only [maxLen]); omega)) rfl fun v1 a w hA hI => 
        stp hA (r_as hA rfl) rfl fun a hA => ?_
      refine o_nil ?_
      refine hN6 _ _ ?_
      refine w_reg ?_
      refine stp hA (r_add hA rfl rfl) rfl fun a hA => 
        stp hA (r_mv hA rfl) rfl fun a hA => ?_
      refine o_nil ?_
      exact ⟨m1, Nat.lt_succ_self _, s1 ++ ([(x0.Outs.getD s2.toNat default).Value] : List Int), IntKind.i64.wrap (s2 + 1), v1, ccs1 ++ cs1, H, hE3, (wrap_in _ _), hA.sub ⟨rfl, rfl, rfl, rfl, rfl, rfl, rfl, trivial⟩, (hI.sel [2, 3] (by decide) rfl)⟩
    · have hc10 := hc1; have hc1 := of_decide_eq_false hc1; have H := bF H hc1
      refine w_exit rfl ?_
      have H : some s1 = some z1 := H
      obtain rfl := Option.some.inj H
      have H := Hk2
      cases Option.some.inj (bS H)
      exact ⟨vvs1, ccs1, ws1, hA.sub ⟨rfl, rfl, rfl, rfl, trivial⟩, hI⟩
  · rintro a w ⟨vvc1, ccc1, wc1, hA, hI⟩
    have H := Hk1
    refine w_seq fun _ hN8 => ?_
    refine w_reg ?_
    refine stp hA (r_mv hA rfl) rfl fun a hA => 
      stp hA (r_as hA rfl) rfl fun a hA => ?_
    refine o_nil ?_
    refine hN8 _ _ ?_
    refine w_ret ?_
    obtain rfl := Option.some.inj (bS H)
    exact ret1 hA Tryd.results141 rfl ⟨_, rfl, vvc1, ccc1, rfl, wc1, ((hI.sel [0] (by decide) rfl).less (Store.le.refl _) hI.le)⟩
set_option maxRecDepth 20000 in
theorem tx_Sum.c (μ : Store) (w0 : World) (hμ : Agr μ w0) (x0 : Tx) (u0_0 : Value) (u0_1 : Value) (hx0 : TxW μ x0 u0_0 u0_1) (r : Int × Bool) (H : tx_Sum.f x0 = some r) :
    Calls Tryd.prog 103 [.agg [[.int .u32 x0.Version], [u0_0], [u0_1], [.int .u32 x0.Time]].flatten.toArray].toArray w0 (fun e w' => ∃ v, e = .returned v ∧ v = .tuple #[.int .u64 r.1, .bool r.2] ∧ (InR .u64 r.1 ∧ True) ∧ Iv w0 [] μ μ [] w') := by
  refine enter Tryd.func103 rfl Tryd.ntmps103 rfl fun a hA => ?_
  have hI := Iv.start hμ
  have H := bI H
  refine w_seq fun _ hN1 => ?_
  refine w_reg ?_
  refine o_box [[.int .u32 x0.Version], [u0_0], [u0_1], [.int .u32 x0.Time]] hI hA rfl rfl rfl fun g1 a w hA hI hg1 => 
    stp hA (r_as hA rfl) rfl fun a hA => 
    stp hA (r_as hA rfl) rfl fun a hA => ?_
  refine o_nil ?_
  refine hN1 _ _ ?_
  refine w_seq fun _ hN2 => ?_
  refine w_reg ?_
  refine stp hA (r_ldA (j := 0) [] [[.int .u32 x0.Version], [u0_0], [u0_1], [.int .u32 x0.Time]] [] Tryd.underlying68 rfl sz68 rfl hI rfl hA rfl rfl) rfl fun a hA => ?_
  obtain ⟨r1, hr1, H⟩ := bB H
  refine o_call _ cf141 hA rfl (tx_values.c μ _ hI.agr x0 u0_0 u0_1 ⟨hx0.1, hx0.2.1, hx0.2.2.1, hx0.2.2.2⟩ r1 hr1) rfl fun v1 a w hz1 hA => ?_
  obtain ⟨_, cs1, rfl, hE1, hi1⟩ := hz1
  have hI := hI.call hi1
  obtain ⟨r2, hr2, H⟩ := bB H
  refine o_callp (u := .tuple #[.int .u64 r2.1, .bool r2.2]) cf128 hA rfl hI ((by obtain ⟨μ1, hle1, hsv1, hI⟩ := hI.freezeRow 0 rfl; have hS1 : Slc (RI .u64) 1 μ1 v1 r1 := ⟨_, hE1, hsv1⟩; exact low_plain hle1 (compact_Sum.c μ1 _ hI.agr r1 v1 hS1 r2 hr2))) rfl fun a w hz2 hI hA => 
    stp hA (r_extr (vs := [.int .u64 r2.1, .bool r2.2]) hA rfl rfl) rfl fun a hA => 
    stp hA (r_extr (vs := [.int .u64 r2.1, .bool r2.2]) hA rfl rfl) rfl fun a hA => 
    stp hA (r_as hA rfl) rfl fun a hA => 
    stp hA (r_as hA rfl) rfl fun a hA => ?_
  refine o_nil ?_
  refine hN2 _ _ ?_
  refine w_ret ?_
  obtain rfl := Option.some.inj (bS H)
  exact ret2 hA Tryd.results103 rfl rfl ⟨_, rfl, rfl, ⟨hz2.1, trivial⟩, hI.forget0⟩
end Go.Proofs.YtpeelghbhihgkaaDoor.T
namespace Go.Proofs.YtpeelghbhihgkaaDoor.T
open Go Go.Proofs Go.Proofs.YtpeelghbhihgkaaDoor.K
set_option linter.unusedVariables false
set_option linter.unusedSimpArgs false
noncomputable def value_Reward.f (x0 : Int) (x1 : Int) : Option Int := (((if x0 < 0 then some true else (if x1 < 1 then some true else (if x1 ≠ 0 then some (decide (64 ≤ (IntKind.i64.wrap (Int.tdiv x0 x1)))) else none)))).bind fun c1 => (if c1 = true then some 0 else (if x1 ≠ 0 then (if 0 ≤ (IntKind.i64.wrap (Int.tdiv x0 x1)) then some (sR .u64 5000000000 (IntKind.i64.wrap (Int.tdiv x0 x1))) else none) else none)))
noncomputable def value_Fee.s0 (x0 : Tx) (x1 : List Money) : ((List Int) × Int) → Option (((List Int) × Int) ⊕ (Int × Er)) := fun (s1, s2) => (if s2 < (x0.Ins.length : Int) then (if 0 ≤ s2 ∧ s2 < (x0.Ins.length : Int) then (if 0 ≤ s2 ∧ s2 < (x1.length : Int) then ((spend_Opens.f ((x0.Ins.getD s2.toNat default).Key) ((x1.getD s2.toNat default).Lock)).bind fun r1 => (if r1 = true then (if s1.length + 1 ≤ 17592186044416 then some (.inl (s1 ++ ([(x1.getD s2.toNat default).Value] : List Int), IntKind.i64.wrap (s2 + 1))) else none) else some (.inr (0, (Er.pl s2 xErrKey))))) else none) else none) else ((compact_Sum.f s1).bind fun r2 => ((tx_Sum.f x0).bind fun r3 => (((if r2.2 = true then some (!r3.2) else some true)).bind fun c1 => (if c1 = true then some (.inr (0, xErrValue)) else (if r2.1 < r3.1 then some (.inr (0, xErrLess)) else some (.inr (IntKind.u64.wrap (r2.1 - r3.1), (Er.b 0)))))))))
noncomputable def value_Fee.f (x0 : Tx) (x1 : List Money) : Option (Int × Er) := (if (x1.length : Int) ≠ (x0.Ins.length : Int) then some (0, xErrShape) else loopO (value_Fee.s0 x0 x1) ([], 0))
end Go.Proofs.YtpeelghbhihgkaaDoor.T
namespace Go.Proofs.YtpeelghbhihgkaaDoor.T
open Go Go.Proofs Go.Proofs.YtpeelghbhihgkaaDoor.K
set_option linter.unusedVariables false
set_option linter.unusedSimpArgs false
set_option maxRecDepth 20000 in
theorem value_Reward.c (μ : Store) (w0 : World) (hμ : Agr μ w0) (x0 : Int) (hx0 : InR .i64 x0) (x1 : Int) (hx1 : InR .i64 x1) (r : Int) (H : value_Reward.f x0 x1 = some r) :
    Calls Tryd.prog 77 [.int .i64 x0, .int .i64 x1].toArray w0 (fun e w' => ∃ v, e = .returned v ∧ v = .int .u64 r ∧ InR .u64 r ∧ Iv w0 [] μ μ [] w') := by
  refine enter Tryd.func77 rfl Tryd.ntmps77 rfl fun a hA => ?_
  have hI := Iv.start hμ
  have H := bI H
  refine w_seq fun _ hN1 => ?_
  refine w_reg ?_
  refine stp hA (r_as hA rfl) rfl fun a hA => ?_
  refine o_nil ?_
  refine hN1 _ _ ?_
  refine w_seq fun _ hN2 => ?_
  obtain ⟨c1, hz1, Hk1⟩ := bB H
  refine w_cut (fun a w => Fr a 21 [(0, .int .i64 x0), (1, .int .i64 x1), (4, .int .u64 0), (16, .bool c1)] ∧ Iv w0 [] μ μ [] w) ?_ ?_
  · have H := bI hz1
    refine w_reg ?_
    refine stp hA (r_mv hA rfl) rfl fun a hA => 
      stp hA (r_lss hA rfl rfl) rfl fun a hA => 
      stp hA (r_mv hA rfl) rfl fun a hA => ?_
    rcases Bool.eq_false_or_eq_true (decide (x0 < 0)) with hc1 | hc1
    · have hc10 := hc1; have hc1 := of_decide_eq_true hc1; have H := bT H hc1
      refine o_no hA rfl rfl (by rw [hc10]; simp [vb]) rfl fun a hA => 
        o_no hA rfl rfl (by rw [hc10]; simp [vb]) rfl fun a hA => 
        stp hA (r_pick_t hA rfl hc10 rfl) rfl fun a hA => 
        stp hA (r_mv hA rfl) rfl fun a hA => 
        o_no hA rfl rfl (by simp [vb]) rfl fun a hA => 
        o_no hA rfl rfl (by simp [vb]) rfl fun a hA => 
        o_no hA rfl rfl (by simp [vb]) rfl fun a hA => 
        o_no hA rfl rfl (by simp [vb]) rfl fun a hA => 
        stp hA (r_pick_t hA rfl rfl rfl) rfl fun a hA => ?_
      refine o_nil ?_
      cases Option.some.inj (bS H)
      exact ⟨hA.sub ⟨rfl, rfl, rfl, rfl, trivial⟩, hI⟩
    · have hc10 := hc1; have hc1 := of_decide_eq_false hc1; have H := bF H hc1
      refine o_yes hA rfl rfl hc10 <| 
        stp hA (r_mv hA rfl) rfl fun a hA => 
        o_yes hA rfl rfl hc10 <| 
        stp hA (r_lss hA rfl rfl) rfl fun a hA => 
        stp hA (r_pick_f hA rfl hc10 rfl) rfl fun a hA => 
        stp hA (r_mv hA rfl) rfl fun a hA => ?_
      rcases Bool.eq_false_or_eq_true (decide (x1 < 1)) with hc2 | hc2
      · have hc20 := hc2; have hc2 := of_decide_eq_true hc2; have H := bT H hc2
        refine o_no hA rfl rfl (by rw [hc20]; simp [vb]) rfl fun a hA => 
          o_no hA rfl rfl (by rw [hc20]; simp [vb]) rfl fun a hA => 
          o_no hA rfl rfl (by rw [hc20]; simp [vb]) rfl fun a hA => 
          o_no hA rfl rfl (by rw [hc20]; simp [vb]) rfl fun a hA => 
          stp hA (r_pick_t hA rfl hc20 rfl) rfl fun a hA => ?_
        refine o_nil ?_
        cases Option.some.inj (bS H)
        exact ⟨hA.sub ⟨rfl, rfl, rfl, rfl, trivial⟩, hI⟩
      · have hc20 := hc2; have hc2 := of_decide_eq_false hc2; have H := bF H hc2
        refine o_yes hA rfl rfl hc20 <| 
          stp hA (r_mv hA rfl) rfl fun a hA => 
          o_yes hA rfl rfl hc20 <| 
          stp hA (r_mv hA rfl) rfl fun a hA => 
          o_yes hA rfl rfl hc20 <| ?_
        obtain ⟨hb1, H⟩ := bG H
        refine stp hA (r_quo hA rfl rfl hb1) rfl fun a hA => 
          o_yes hA rfl rfl hc20 <| 
          stp hA (r_geq hA rfl rfl) rfl fun a hA => 
          stp hA (r_pick_f hA rfl hc20 rfl) rfl fun a hA => ?_
        refine o_nil ?_
        cases Option.some.inj (bS H)
        exact ⟨hA.sub ⟨rfl, rfl, rfl, rfl, trivial⟩, hI⟩
  · rintro a w ⟨hA, hI⟩
    have H := Hk1
    refine w_cond hA rfl (fun hc3 => ?_) (fun hc3 => ?_)
    · have hc30 := hc3; have H := bT H hc3
      refine w_seq fun _ hN3 => ?_
      refine w_reg ?_
      refine stp hA (r_as hA rfl) rfl fun a hA => ?_
      refine o_nil ?_
      refine hN3 _ _ ?_
      refine w_ret ?_
      obtain rfl := Option.some.inj (bS H)
      exact ret1 hA Tryd.results77 rfl ⟨_, rfl, rfl, (in_lit .u64 0 rfl), hI.forget0⟩
    · have hc30 := hc3; have hc3 := ft hc3; have H := bF H hc3
      refine w_skip ?_
      refine hN2 _ _ ?_
      refine w_seq fun _ hN4 => ?_
      refine w_reg ?_
      refine stp hA (r_mv hA rfl) rfl fun a hA => 
        stp hA (r_mv hA rfl) rfl fun a hA => ?_
      obtain ⟨hb2, H⟩ := bG H
      refine stp hA (r_quo hA rfl rfl hb2) rfl fun a hA => ?_
      obtain ⟨hb3, H⟩ := bG H
      refine stp hA (r_shr hA rfl rfl hb3) rfl fun a hA => 
        stp hA (r_as hA rfl) rfl fun a hA => ?_
      refine o_nil ?_
      refine hN4 _ _ ?_
      refine w_ret ?_
      obtain rfl := Option.some.inj (bS H)
      exact ret1 hA Tryd.results77 rfl ⟨_, rfl, rfl, (sR_in rfl (in_lit .u64 5000000000 rfl) _), hI.forget0⟩
set_option maxRecDepth 20000 in
theorem value_Fee.c (μ : Store) (w0 : World) (hμ : Agr μ w0) (x0 : Tx) (u0_0 : Value) (u0_1 : Value) (hx0 : TxW μ x0 u0_0 u0_1) (x1 : List Money) (u1 : Value) (hx1 : Slc (RMoney μ) 35 μ u1 x1) (e0 : Value) (he0 : ErS μ e0 (Er.b 1)) (e3 : Value) (he3 : ErS μ e3 (Er.b 4)) (e4 : Value) (he4 : ErS μ e4 (Er.b 5)) (e7 : Value) (he7 : ErS μ e7 (Er.b 8)) (r : Int × Er) (H : value_Fee.f x0 x1 = some r) :
    Calls Tryd.prog 72 [.agg [[.int .u32 x0.Version], [u0_0], [u0_1], [.int .u32 x0.Time]].flatten.toArray, u1].toArray w0 (fun e w' => ∃ v, e = .returned v ∧ ∃ (v1 : Value) (μ' : Store), v = .tuple #[.int .u64 (r.1), v1] ∧ InR .u64 (r.1) ∧ ErS μ' v1 (r.2) ∧ Iv w0 [] μ μ' [] w') := by
  refine enter Tryd.func72 rfl Tryd.ntmps72 rfl fun a hA => ?_
  have hI := Iv.start hμ
  have H := bI H
  refine w_seq fun _ hN1 => ?_
  refine w_reg ?_
  refine o_box [[.int .u32 x0.Version], [u0_0], [u0_1], [.int .u32 x0.Time]] hI hA rfl rfl rfl fun g1 a w hA hI hg1 => 
    stp hA (r_as hA rfl) rfl fun a hA => 
    stp hA (r_as hA rfl) rfl fun a hA => ?_
  refine o_nil ?_
  refine hN1 _ _ ?_
  refine w_seq fun _ hN2 => ?_
  refine w_seq fun _ hN3 => ?_
  refine w_reg ?_
  refine stp hA (r_mv hA rfl) rfl fun a hA => ?_
  obtain ⟨_, hsl1⟩ := Slc.sv hx1
  refine stp hA (r_slen Tryd.underlying102 hsl1 hA rfl) rfl fun a hA => 
    stp hA (r_fd (k := 1) Tryd.underlying68 rfl sz63 hA rfl rfl) rfl fun a hA => 
    stp hA (r_ld1 (j := 0) [[.int .u32 x0.Version]] [[u0_1], [.int .u32 x0.Time]] Tryd.underlying63 rfl hI rfl hA rfl rfl) rfl fun a hA => ?_
  obtain ⟨_, hsl2⟩ := Slc.sv hx0.2.1
  refine stp hA (r_slen Tryd.underlying63 hsl2 hA rfl) rfl fun a hA => 
    stp hA (r_neq hA rfl rfl) rfl fun a hA => ?_
  refine o_nil ?_
  refine hN3 _ _ ?_
  refine w_cond hA rfl (fun hc1 => ?_) (fun hc1 => ?_)
  · have hc10 := hc1; have hc1 := of_decide_eq_true hc1; have H := bT H hc1
    refine w_seq fun _ hN4 => ?_
    refine w_draw mo (by kernel_rfl) hI ?_
    refine qtp hA (fun _ hI => r_ldG Tryd.underlying34 rfl hI.agr he0 hA) rfl fun a hA => 
      qtp hA (fun _ hI => r_as hA rfl) rfl fun a hA => 
      qtp hA (fun _ hI => r_as hA rfl) rfl fun a hA => ?_
    refine q_nil fun w hI => ?_
    refine hN4 _ _ ?_
    refine w_ret ?_
    obtain rfl := Option.some.inj (bS H)
    exact ret2 hA Tryd.results72 rfl rfl ⟨_, rfl, e0, μ, rfl, (in_lit .u64 0 rfl), he0, (hI.sel [] (by decide) rfl)⟩
  · have hc10 := hc1; have hc1 := of_decide_eq_false hc1; have H := bF H hc1
    refine w_skip ?_
    refine hN2 _ _ ?_
    refine w_seq fun _ hN5 => ?_
    refine w_reg ?_
    refine stp hA (r_as hA rfl) rfl fun a hA => ?_
    refine o_nil ?_
    refine hN5 _ _ ?_
    refine w_seq fun _ hN6 => ?_
    refine w_seq fun _ hN7 => ?_
    refine w_reg ?_
    refine stp hA (r_fd (k := 1) Tryd.underlying68 rfl sz63 hA rfl rfl) rfl fun a hA => 
      stp hA (r_ld1 (j := 0) [[.int .u32 x0.Version]] [[u0_1], [.int .u32 x0.Time]] Tryd.underlying63 rfl hI rfl hA rfl rfl) rfl fun a hA => ?_
    obtain ⟨_, hsl3⟩ := Slc.sv hx0.2.1
    refine stp hA (r_slen Tryd.underlying63 hsl3 hA rfl) rfl fun a hA => 
      stp hA (r_mv hA rfl) rfl fun a hA => ?_
    refine o_nil ?_
    refine hN7 _ _ ?_
    refine w_block ?_
    have hI := hI.nilRow 22 1
    obtain ⟨z1, hz1, Hk1⟩ := bind_some H
    obtain ⟨n1, hn1⟩ := loopO_some hz1
    refine w_loop (fun n a w => ∃ (s1 : List Int) (s2 : Int) (vvs1 : Value) (ccs1 : List Value), loopN (value_Fee.s0 x0 x1) n (s1, s2) = some z1 ∧ Els (RI .u64) 1 s1 ccs1 ∧ InR .i64 s2 ∧ Fr a 77 [(0, .agg [[.int .u32 x0.Version], [u0_0], [u0_1], [.int .u32 x0.Time]].flatten.toArray), (1, u1), (2, .pointer (some ⟨g1, 0, none⟩)), (4, .int .u64 0), (5, .nilIface), (6, vvs1), (18, .bool (decide ((x1.length : Int) ≠ (x0.Ins.length : Int)))), (21, u0_0), (22, .int .i64 (x0.Ins.length : Int)), (23, .int .i64 s2)] ∧ Iv w0 [] μ μ [row 22 1 vvs1 s1.length ccs1, cel g1 [[.int .u32 x0.Version], [u0_0], [u0_1], [.int .u32 x0.Time]] 68] w) n1 ⟨[], 0, (.slice none 0 0), [], hn1, (Els.nil (RE := (RI .u64)) (sz := 1)), (in_lit .i64 0 rfl), hA.sub ⟨rfl, rfl, rfl, rfl, rfl, rfl, rfl, rfl, rfl, rfl, trivial⟩, hI⟩ ?_
    clear hA hI
    rintro n a w ⟨s1, s2, vvs1, ccs1, hn1, ws1, ws2, hA, hI⟩
    obtain ⟨m1, rfl, H⟩ := loopN_bind hn1
    clear hn1
    refine w_seq fun _ hN8 => ?_
    refine w_reg ?_
    refine stp hA (r_lss hA rfl rfl) rfl fun a hA => ?_
    refine o_nil ?_
    refine hN8 _ _ ?_
    refine w_seq fun _ hN9 => ?_
    refine w_cond hA rfl (fun hc2 => ?_) (fun hc2 => ?_)
    · have hc20 := hc2; have hc2 := of_decide_eq_true hc2; have H := bT H hc2
      refine w_skip ?_
      refine hN9 _ _ ?_
      refine w_seq fun _ hN10 => ?_
      refine w_block ?_
      refine w_seq fun _ hN11 => ?_
      refine w_reg ?_
      refine stp hA (r_mv hA rfl) rfl fun a hA => ?_
      obtain ⟨hb1, H⟩ := bG H
      obtain ⟨_, he1, _, hat1⟩ := Slc.elem hx0.2.1 (getD_some default hb1.1 hb1.2)
      obtain ⟨v1, rfl, hw1⟩ := he1
      obtain ⟨_, hsl4⟩ := Slc.sv hx0.2.1
      refine stp hA (r_six Tryd.underlying63 sz62 hsl4 hA rfl rfl hb1.1 hb1.2) rfl fun a hA => 
        stp hA (r_ldmA [] [av .u8 32 ((x0.Ins.getD s2.toNat default).From.Tx), [.int .u32 ((x0.Ins.getD s2.toNat default).From.N)], [v1], [.int .u32 ((x0.Ins.getD s2.toNat default).Seq)]] [] Tryd.underlying62 rfl sz62 rfl hI.agr hat1 hA rfl rfl) rfl fun a hA => 
        o_new [av .u8 32 (List.replicate 32 0), [.int .u32 0], [(.slice none 0 0)], [.int .u32 0]] zr62 hI hA rfl fun g2 a w hA hI hg2 => 
        stp hA (r_as hA rfl) rfl fun a hA => ?_
      obtain ⟨_, hsl5⟩ := Slc.sv hw1.2.2.1
      refine o_st (j := 0) [] [av .u8 32 (List.replicate 32 0), [.int .u32 0], [(.slice none 0 0)], [.int .u32 0]] [av .u8 32 ((x0.Ins.getD s2.toNat default).From.Tx), [.int .u32 ((x0.Ins.getD s2.toNat default).From.N)], [v1], [.int .u32 ((x0.Ins.getD s2.toNat default).Seq)]] [] sz62 rfl rfl (fl_cons (one_av _ _ _) (fl_cons (one_one rfl) (fl_cons (one_one (one_sl hsl5)) (fl_cons (one_one rfl) fl_nil)))) hI rfl hA rfl rfl rfl rfl fun w hI => ?_
      refine o_nil ?_
      refine hN11 _ _ ?_
      refine w_seq fun _ hN12 => ?_
      refine w_seq fun _ hN13 => ?_
      refine w_draw mo (by kernel_rfl) hI ?_
      refine qtp hA (fun _ hI => r_fd (k := 33) Tryd.underlying62 rfl sz23 hA rfl rfl) rfl fun a hA => 
        qtp hA (fun _ hI => r_ld1 (j := 0) [av .u8 32 ((x0.Ins.getD s2.toNat default).From.Tx), [.int .u32 ((x0.Ins.getD s2.toNat default).From.N)]] [[.int .u32 ((x0.Ins.getD s2.toNat default).Seq)]] Tryd.underlying23 rfl hI rfl hA rfl rfl) rfl fun a hA => 
        qtp hA (fun _ hI => r_mv hA rfl) rfl fun a hA => 
        qtp hA (fun _ hI => r_mv hA rfl) rfl fun a hA => ?_
      obtain ⟨hb2, H⟩ := bG H
      obtain ⟨_, he2, _, hat2⟩ := Slc.elem hx1 (getD_some default hb2.1 hb2.2)
      obtain ⟨rfl, hw2⟩ := he2
      obtain ⟨_, hsl6⟩ := Slc.sv hx1
      refine qtp hA (fun _ hI => r_six Tryd.underlying102 sz104 hsl6 hA rfl rfl hb2.1 hb2.2) rfl fun a hA => 
        qtp hA (fun _ hI => r_fd (k := so u1 + s2.toNat * 35 + 1) Tryd.underlying104 rfl sz55 hA rfl rfl) rfl fun a hA => 
        qtp hA (fun _ hI => r_ldmA [[.int .u64 ((x1.getD s2.toNat default).Value)]] [av .u8 32 ((x1.getD s2.toNat default).Lock)] [[.int .i64 ((x1.getD s2.toNat default).Height)], [.bool ((x1.getD s2.toNat default).Base)]] Tryd.underlying55 rfl sz55 rfl hI.agr hat2 hA rfl rfl) rfl fun a hA => ?_
      obtain ⟨r1, hr1, H⟩ := bB H
      refine qcall (v := .bool r1) cf127 hA rfl (fun _ hI => plq (spend_Opens.c μ _ hI.agr ((x0.Ins.getD s2.toNat default).Key) v1 hw1.2.2.1 ((x1.getD s2.toNat default).Lock) hw2.2.1 r1 hr1) hI) rfl fun a hA => 
        qtp hA (fun _ hI => r_not hA rfl) rfl fun a hA => ?_
      refine q_nil fun w hI => ?_
      refine hN13 _ _ ?_
      refine w_cond hA rfl (fun hc3 => ?_) (fun hc3 => ?_)
      · have hc30 := hc3; have hc3 := nT hc3; have hc3 := ft hc3; have H := bF H hc3
        refine w_seq fun _ hN14 => ?_
        refine w_any [] mo hI fun w hI => ?_
        refine g_easy (i := 0) hA rfl rfl (by kernel_rfl) (.inr hI) (fun _ => r_mv hA rfl) rfl fun a hA => ?_
        refine g_take (i := 1) hA rfl rfl (by kernel_rfl) hI (fun w hI => r_ldG Tryd.underlying34 rfl hI.agr he3 hA) rfl fun a hA => ?_
        refine g_easy (i := 5) hA rfl rfl (by kernel_rfl) (.inr hI) (fun _ => r_as hA rfl) rfl fun a hA => ?_
        refine g_forced (i := 2) rfl (by kernel_rfl) ?_
        refine stp hA (r_bldS (cs := [[.int .i64 s2], [e3]].flatten.toArray) (pl := [(0, 1), (1, 1)]) zr170 Tryd.underlying170 ⟨rfl, sz3, rfl, sz34, trivial⟩ hA rfl ((fill_one rfl rfl (by kernel_rfl)).trans ((fill_one (cells_err he3) rfl (by kernel_rfl)).trans (by kernel_rfl)))) rfl fun a hA => ?_
        refine o_nil ?_
        refine ⟨(.inr hI), ?_⟩
        refine g_forced (i := 3) rfl (by kernel_rfl) ?_
        refine o_box [[.int .i64 s2], [e3]] hI hA rfl rfl rfl fun g3 a w hA hI hg3 => ?_
        refine o_nil ?_
        refine ⟨(.inr (hI.sel [1, 2, 3] (by decide) rfl)), ?_⟩
        refine g_forced (i := 4) rfl (by kernel_rfl) ?_
        obtain ⟨μ1, hle1, hat3, hI, hth1⟩ := hI.freezeCelT 0 rfl
        have he3 : ErS μ1 (.iface 168 (.pointer (some ⟨g3, 0, none⟩))) (Er.pl s2 xErrKey) := ⟨g3, e3, rfl, hat3, ws2, (ErV.le (fun _ _ h => h) hle1 he3)⟩
        refine stp hA (r_mkI Tryd.underlying168 hA rfl) rfl fun a hA => ?_
        refine o_nil ?_
        refine ⟨(.inr ((hth1 _ _ hI).sel [1, 2, 3] (by decide) rfl)), ?_⟩
        refine g_easy (i := 6) hA rfl rfl (by kernel_rfl) (.inr ((hth1 _ _ hI).sel [1, 2, 3] (by decide) rfl)) (fun _ => r_as hA rfl) rfl fun a hA => ?_
        refine g_nil (by kernel_rfl) ?_
        refine hN14 _ _ ?_
        refine w_ret ?_
        have H : some (0, (Er.pl s2 xErrKey)) = some z1 := H
        obtain rfl := Option.some.inj H
        have H := Hk1
        obtain rfl := Option.some.inj (bS H)
        exact ret2 hA Tryd.results72 rfl rfl ⟨_, rfl, (.iface 168 (.pointer (some ⟨g3, 0, none⟩))), μ1, rfl, (in_lit .u64 0 rfl), he3, (hI.sel [] (by decide) rfl)⟩
      · have hc30 := hc3; have hc3 := nF hc3; have H := bT H hc3
        refine w_skip ?_
        refine hN12 _ _ ?_
        refine w_reg ?_
        refine stp hA (r_mv hA rfl) rfl fun a hA => 
          stp hA (r_mv hA rfl) rfl fun a hA => 
          stp hA (r_mv hA rfl) rfl fun a hA => 
          stp hA (r_six Tryd.underlying102 sz104 hsl6 hA rfl rfl hb2.1 hb2.2) rfl fun a hA => 
          stp hA (r_fd (k := so u1 + s2.toNat * 35) Tryd.underlying104 rfl sz22 hA rfl rfl) rfl fun a hA => 
          stp hA (r_ldm1 [] [av .u8 32 ((x1.getD s2.toNat default).Lock), [.int .i64 ((x1.getD s2.toNat default).Height)], [.bool ((x1.getD s2.toNat default).Base)]] Tryd.underlying22 rfl hI.agr hat2 hA rfl rfl) rfl fun a hA => ?_
        have hE1 : Els (RI .u64) 1 ([(x1.getD s2.toNat default).Value] : List Int) ([[.int .u64 ((x1.getD s2.toNat default).Value)]].flatten ++ ([])) := (Els.cons (c := [[.int .u64 ((x1.getD s2.toNat default).Value)]].flatten) ⟨rfl, hw2.1⟩ rfl Els.nil)
        refine o_bsl ([[.int .u64 ((x1.getD s2.toNat default).Value)]].flatten ++ ([])) te22 zr22 Tryd.underlying42 hI hA rfl rfl rfl rfl (by kernel_rfl) rfl fun g4 a w hA hI => ?_
        generalize hcs : ([[.int .u64 ((x1.getD s2.toNat default).Value)]].flatten ++ ([]) : List Value) = cs1 at hE1 hI
        clear hcs
        obtain ⟨hb3, H⟩ := bG H
        have hE3 := ws1.app hE1
        refine o_appL (xs := (s1 : List Int)) (ys := (([(x1.getD s2.toNat default).Value] : List Int) : List Int)) (j := 2) te22 Tryd.underlying42 hI rfl hA rfl rfl (src_row hI (j := 0) rfl) hE1.len (hE1.ones (one_RI _)) (by first | decide | (have hq := hb3; (try simp only [List.length_cons, List.length_nil] at hq); (try simp only [List.length_cons, List.length_nil]); (try simp only [maxLen]); omega)) (by first | decide | (have hq := hb3; (try simp only [List.length_cons, List.length_nil] at hq); (try simp only [List.length_cons, List.length_nil]); (try simp only [maxLen]); omega)) rfl fun v2 a w hA hI => 
          stp hA (r_as hA rfl) rfl fun a hA => ?_
        refine o_nil ?_
        refine hN10 _ _ ?_
        refine w_reg ?_
        refine stp hA (r_add hA rfl rfl) rfl fun a hA => 
          stp hA (r_mv hA rfl) rfl fun a hA => ?_
        refine o_nil ?_
        exact ⟨m1, Nat.lt_succ_self _, s1 ++ ([(x1.getD s2.toNat default).Value] : List Int), IntKind.i64.wrap (s2 + 1), v2, ccs1 ++ cs1, H, hE3, (wrap_in _ _), hA.sub ⟨rfl, rfl, rfl, rfl, rfl, rfl, rfl, rfl, rfl, rfl, trivial⟩, (hI.sel [2, 3] (by decide) rfl)⟩
    · have hc20 := hc2; have hc2 := of_decide_eq_false hc2; have H := bF H hc2
      refine w_exit rfl ?_
      refine hN6 _ _ ?_
      refine w_seq fun _ hN15 => ?_
      refine w_reg ?_
      refine stp hA (r_mv hA rfl) rfl fun a hA => ?_
      obtain ⟨r2, hr2, H⟩ := bB H
      refine o_callp (u := .tuple #[.int .u64 r2.1, .bool r2.2]) cf128 hA rfl hI ((by obtain ⟨μ2, hle2, hsv2, hI⟩ := hI.freezeRow 0 rfl; have hS1 : Slc (RI .u64) 1 μ2 vvs1 s1 := ⟨_, ws1, hsv2⟩; exact low_plain hle2 (compact_Sum.c μ2 _ hI.agr s1 vvs1 hS1 r2 hr2))) rfl fun a w hz3 hI hA => 
        stp hA (r_mv hA rfl) rfl fun a hA => 
        stp hA (r_extr (vs := [.int .u64 r2.1, .bool r2.2]) hA rfl rfl) rfl fun a hA => 
        stp hA (r_extr (vs := [.int .u64 r2.1, .bool r2.2]) hA rfl rfl) rfl fun a hA => 
        stp hA (r_as hA rfl) rfl fun a hA => 
        stp hA (r_as hA rfl) rfl fun a hA => ?_
      refine o_nil ?_
      refine hN15 _ _ ?_
      refine w_seq fun _ hN16 => ?_
      refine w_reg ?_
      refine stp hA (r_ldA (j := 1) [] [[.int .u32 x0.Version], [u0_0], [u0_1], [.int .u32 x0.Time]] [] Tryd.underlying68 rfl sz68 rfl hI rfl hA rfl rfl) rfl fun a hA => ?_
      obtain ⟨r3, hr3, H⟩ := bB H
      refine o_callp (u := .tuple #[.int .u64 r3.1, .bool r3.2]) cf103 hA rfl hI (tx_Sum.c μ _ hI.agr x0 u0_0 u0_1 ⟨hx0.1, hx0.2.1, hx0.2.2.1, hx0.2.2.2⟩ r3 hr3) rfl fun a w hz4 hI hA => 
        stp hA (r_mv hA rfl) rfl fun a hA => 
        stp hA (r_extr (vs := [.int .u64 r3.1, .bool r3.2]) hA rfl rfl) rfl fun a hA => 
        stp hA (r_extr (vs := [.int .u64 r3.1, .bool r3.2]) hA rfl rfl) rfl fun a hA => 
        stp hA (r_as hA rfl) rfl fun a hA => 
        stp hA (r_as hA rfl) rfl fun a hA => ?_
      refine o_nil ?_
      refine hN16 _ _ ?_
      refine w_seq fun _ hN17 => ?_
      refine w_block ?_
      obtain ⟨c1, hz5, Hk2⟩ := bB H
      refine w_cut (fun a w => Fr a 77 [(0, .agg [[.int .u32 x0.Version], [u0_0], [u0_1], [.int .u32 x0.Time]].flatten.toArray), (1, u1), (2, .pointer (some ⟨g1, 0, none⟩)), (4, .int .u64 0), (5, .nilIface), (6, vvs1), (9, .int .u64 r2.1), (10, .bool r2.2), (11, .int .u64 r3.1), (12, .bool r3.2), (18, .bool (decide ((x1.length : Int) ≠ (x0.Ins.length : Int)))), (21, u0_0), (22, .int .i64 (x0.Ins.length : Int)), (23, .int .i64 s2), (24, .bool (decide (s2 < (x0.Ins.length : Int)))), (61, .bool c1)] ∧ Iv w0 [] μ μ [row 22 1 vvs1 s1.length ccs1, cel g1 [[.int .u32 x0.Version], [u0_0], [u0_1], [.int .u32 x0.Time]] 68] w) ?_ ?_
      · have H := bI hz5
        refine w_reg ?_
        refine stp hA (r_mv hA rfl) rfl fun a hA => 
          stp hA (r_not hA rfl) rfl fun a hA => 
          stp hA (r_mv hA rfl) rfl fun a hA => ?_
        rcases Bool.eq_false_or_eq_true (!r2.2) with hc4 | hc4
        · have hc40 := hc4; have hc4 := nT hc4; have hc4 := ft hc4; have H := bF H hc4
          refine o_no hA rfl rfl (by rw [hc40]; simp [vb]) rfl fun a hA => 
            o_no hA rfl rfl (by rw [hc40]; simp [vb]) rfl fun a hA => 
            stp hA (r_pick_t hA rfl hc40 rfl) rfl fun a hA => 
            stp hA (r_as hA rfl) rfl fun a hA => ?_
          refine o_nil ?_
          cases Option.some.inj (bS H)
          exact ⟨hA.sub ⟨rfl, rfl, rfl, rfl, rfl, rfl, rfl, rfl, rfl, rfl, rfl, rfl, rfl, rfl, rfl, rfl, trivial⟩, hI⟩
        · have hc40 := hc4; have hc4 := nF hc4; have H := bT H hc4
          refine o_yes hA rfl rfl hc40 <| 
            stp hA (r_mv hA rfl) rfl fun a hA => 
            o_yes hA rfl rfl hc40 <| 
            stp hA (r_not hA rfl) rfl fun a hA => 
            stp hA (r_pick_f hA rfl hc40 rfl) rfl fun a hA => 
            stp hA (r_as hA rfl) rfl fun a hA => ?_
          refine o_nil ?_
          cases Option.some.inj (bS H)
          exact ⟨hA.sub ⟨rfl, rfl, rfl, rfl, rfl, rfl, rfl, rfl, rfl, rfl, rfl, rfl, rfl, rfl, rfl, rfl, trivial⟩, hI⟩
      · rintro a w ⟨hA, hI⟩
        have H := Hk2
        refine w_cond hA rfl (fun hc5 => ?_) (fun hc5 => ?_)
        · have hc50 := hc5; have H := bT H hc5
          refine w_seq fun _ hN18 => ?_
          refine w_draw mo (by kernel_rfl) hI ?_
          refine qtp hA (fun _ hI => r_ldG Tryd.underlying34 rfl hI.agr he4 hA) rfl fun a hA => 
            qtp hA (fun _ hI => r_as hA rfl) rfl fun a hA => 
            qtp hA (fun _ hI => r_as hA rfl) rfl fun a hA => ?_
          refine q_nil fun w hI => ?_
          refine hN18 _ _ ?_
          refine w_ret ?_
          have H : some (0, xErrValue) = some z1 := H
          obtain rfl := Option.some.inj H
          have H := Hk1
          obtain rfl := Option.some.inj (bS H)
          exact ret2 hA Tryd.results72 rfl rfl ⟨_, rfl, e4, μ, rfl, (in_lit .u64 0 rfl), he4, (hI.sel [] (by decide) rfl)⟩
        · have hc50 := hc5; have hc5 := ft hc5; have H := bF H hc5
          refine w_seq fun _ hN19 => ?_
          refine w_reg ?_
          refine stp hA (r_mv hA rfl) rfl fun a hA => 
            stp hA (r_mv hA rfl) rfl fun a hA => 
            stp hA (r_lss hA rfl rfl) rfl fun a hA => 
            stp hA (r_as hA rfl) rfl fun a hA => ?_
          refine o_nil ?_
          refine hN19 _ _ ?_
          refine w_cond hA rfl (fun hc6 => ?_) (fun hc6 => ?_)
          · have hc60 := hc6; have hc6 := of_decide_eq_true hc6; have H := bT H hc6
            refine w_seq fun _ hN20 => ?_
            refine w_draw mo (by kernel_rfl) hI ?_
            refine qtp hA (fun _ hI => r_ldG Tryd.underlying34 rfl hI.agr he7 hA) rfl fun a hA => 
              qtp hA (fun _ hI => r_as hA rfl) rfl fun a hA => 
              qtp hA (fun _ hI => r_as hA rfl) rfl fun a hA => ?_
            refine q_nil fun w hI => ?_
            refine hN20 _ _ ?_
            refine w_ret ?_
            have H : some (0, xErrLess) = some z1 := H
            obtain rfl := Option.some.inj H
            have H := Hk1
            obtain rfl := Option.some.inj (bS H)
            exact ret2 hA Tryd.results72 rfl rfl ⟨_, rfl, e7, μ, rfl, (in_lit .u64 0 rfl), he7, (hI.sel [] (by decide) rfl)⟩
          · have hc60 := hc6; have hc6 := of_decide_eq_false hc6; have H := bF H hc6
            refine w_skip ?_
            refine hN17 _ _ ?_
            refine w_seq fun _ hN21 => ?_
            refine w_reg ?_
            refine stp hA (r_mv hA rfl) rfl fun a hA => 
              stp hA (r_mv hA rfl) rfl fun a hA => 
              stp hA (r_sub hA rfl rfl) rfl fun a hA => 
              stp hA (r_as hA rfl) rfl fun a hA => 
              stp hA (r_as hA rfl) rfl fun a hA => ?_
            refine o_nil ?_
            refine hN21 _ _ ?_
            refine w_ret ?_
            have H : some (IntKind.u64.wrap (r2.1 - r3.1), (Er.b 0)) = some z1 := H
            obtain rfl := Option.some.inj H
            have H := Hk1
            obtain rfl := Option.some.inj (bS H)
            exact ret2 hA Tryd.results72 rfl rfl ⟨_, rfl, .nilIface, μ, rfl, (wrap_in _ _), erv_nil, (hI.sel [] (by decide) rfl)⟩
end Go.Proofs.YtpeelghbhihgkaaDoor.T
namespace Go.Proofs.YtpeelghbhihgkaaDoor.T
open Go Go.Proofs Go.Proofs.YtpeelghbhihgkaaDoor.K
set_option linter.unusedVariables false
set_option linter.unusedSimpArgs false
noncomputable def sargassolaw15_first.f : Option Bool := ((((value_Reward.f 0 10).bind fun r1 => (if r1 = 5000000000 then ((value_Reward.f 10 10).bind fun r2 => some (decide (r2 = 2500000000))) else some false))).bind fun c1 => some c1)
end Go.Proofs.YtpeelghbhihgkaaDoor.T
namespace Go.Proofs.YtpeelghbhihgkaaDoor.T
open Go Go.Proofs Go.Proofs.YtpeelghbhihgkaaDoor.K
set_option linter.unusedVariables false
set_option linter.unusedSimpArgs false
set_option maxRecDepth 20000 in
theorem sargassolaw15_first.c (μ : Store) (w0 : World) (hμ : Agr μ w0) (r : Bool) (H : sargassolaw15_first.f = some r) :
    Calls Tryd.prog 67 [].toArray w0 (fun e w' => ∃ v, e = .returned v ∧ v = .bool r ∧ True ∧ Iv w0 [] μ μ [] w') := by
  refine enter Tryd.func67 rfl Tryd.ntmps67 rfl fun a hA => ?_
  have hI := Iv.start hμ
  have H := bI H
  refine w_seq fun _ hN1 => ?_
  refine w_reg ?_
  refine stp hA (r_as hA rfl) rfl fun a hA => ?_
  refine o_nil ?_
  refine hN1 _ _ ?_
  obtain ⟨c1, hz1, Hk1⟩ := bB H
  refine w_cut (fun a w => Fr a 7 [(0, .bool c1)] ∧ Iv w0 [] μ μ [] w) ?_ ?_
  · have H := bI hz1
    refine w_reg ?_
    obtain ⟨r1, hr1, H⟩ := bB H
    refine o_callp (u := .int .u64 r1) cf77 hA rfl hI (value_Reward.c μ _ hI.agr 0 (in_lit .i64 0 rfl) 10 (in_lit .i64 10 rfl) r1 hr1) rfl fun a w hz2 hI hA => 
      stp hA (r_eql hA rfl rfl) rfl fun a hA => 
      stp hA (r_mv hA rfl) rfl fun a hA => ?_
    rcases Bool.eq_false_or_eq_true (decide (r1 = 5000000000)) with hc1 | hc1
    · have hc10 := hc1; have hc1 := of_decide_eq_true hc1; have H := bT H hc1
      refine o_yes hA rfl rfl hc10 <| ?_
      obtain ⟨r2, hr2, H⟩ := bB H
      refine o_callp (u := .int .u64 r2) cf77 hA rfl hI (value_Reward.c μ _ hI.agr 10 (in_lit .i64 10 rfl) 10 (in_lit .i64 10 rfl) r2 hr2) rfl fun a w hz3 hI hA => 
        o_yes hA rfl rfl hc10 <| 
        stp hA (r_eql hA rfl rfl) rfl fun a hA => 
        stp hA (r_pick_t hA rfl hc10 rfl) rfl fun a hA => 
        stp hA (r_as hA rfl) rfl fun a hA => ?_
      refine o_nil ?_
      cases Option.some.inj (bS H)
      exact ⟨hA.sub ⟨rfl, trivial⟩, hI⟩
    · have hc10 := hc1; have hc1 := of_decide_eq_false hc1; have H := bF H hc1
      refine o_no hA rfl rfl (by rw [hc10]; simp [vb]) rfl fun a hA => 
        o_no hA rfl rfl (by rw [hc10]; simp [vb]) rfl fun a hA => 
        stp hA (r_pick_f hA rfl hc10 rfl) rfl fun a hA => 
        stp hA (r_as hA rfl) rfl fun a hA => ?_
      refine o_nil ?_
      cases Option.some.inj (bS H)
      exact ⟨hA.sub ⟨rfl, trivial⟩, hI⟩
  · rintro a w ⟨hA, hI⟩
    have H := Hk1
    refine w_ret ?_
    obtain rfl := Option.some.inj (bS H)
    exact ret1 hA Tryd.results67 rfl ⟨_, rfl, rfl, trivial, hI.forget0⟩
end Go.Proofs.YtpeelghbhihgkaaDoor.T
namespace Go.Proofs.YtpeelghbhihgkaaDoor.T
open Go Go.Proofs Go.Proofs.YtpeelghbhihgkaaDoor.K
set_option linter.unusedVariables false
set_option linter.unusedSimpArgs false
noncomputable def sargassolaw15_ValueKeeps.s0 (x0 : List Int) : ((List Money) × Int × Int × (List In)) → Option (((List Money) × Int × Int × (List In)) ⊕ ((List Money) × Int × (List In))) := fun (s1, s2, s3, s4) => (if s3 < (x0.length : Int) then (if 0 ≤ s3 ∧ s3 < (x0.length : Int) then (if s4.length + 1 ≤ 1954687338268 then ((sargassoref1_Sha.f ([IntKind.u8.wrap s3, 7] : List Int)).bind fun r2 => (if s1.length + 1 ≤ 2513169434916 then some (.inl (s1 ++ ([(⟨Int.tmod (x0.getD s3.toNat 0) 210000000000000, r2, 0, false⟩ : Money)] : List Money), IntKind.u64.wrap (s2 + (Int.tmod (x0.getD s3.toNat 0) 210000000000000)), IntKind.i64.wrap (s3 + 1), s4 ++ ([(⟨(⟨(List.replicate 32 0), 0⟩ : Point), ([IntKind.u8.wrap s3, 7] : List Int), 0⟩ : In)] : List In))) else none)) else none) else none) else some (.inr (s1, s2, s4)))
noncomputable def sargassolaw15_ValueKeeps.f (x0 : List Int) (x1 : Int) (x2 : Int) : Option Bool := ((sargassolaw15_first.f).bind fun r1 => (if r1 = true then (((if (x0.length : Int) = 0 then some true else some (decide (10 < (x0.length : Int))))).bind fun c1 => (if c1 = true then some r1 else ((loopO (sargassolaw15_ValueKeeps.s0 x0) ([], 0, 0, [])).bind fun (c2, c3, c4) => (if (IntKind.u64.wrap (c3 + 1)) ≠ 0 then ((value_Fee.f (⟨0, c4, ([(⟨IntKind.u64.wrap (c3 - (Int.tmod x1 (IntKind.u64.wrap (c3 + 1)))), (List.replicate 32 0)⟩ : Out)] : List Out), 0⟩ : Tx) c2).bind fun r3 => (if r3.2 ∈ ([(Er.b 0), xErrShape, xErrKey, xErrValue, xErrLess] : List Er) ∨ ((r3.2.isP = true ∧ r3.2.err ∈ ([(Er.b 0), xErrShape, xErrKey, xErrValue, xErrLess] : List Er)) ∧ 0 < (c2).length) then (if r3.2 ∈ ([(Er.b 0), xErrShape, xErrKey, xErrValue, xErrLess] : List Er) ∨ ((r3.2.isP = true ∧ r3.2.err ∈ ([(Er.b 0), xErrShape, xErrKey, xErrValue, xErrLess] : List Er)) ∧ 0 < (([(⟨IntKind.u64.wrap (c3 - (Int.tmod x1 (IntKind.u64.wrap (c3 + 1)))), (List.replicate 32 0)⟩ : Out)] : List Out)).length) then (if r3.2 ∈ ([(Er.b 0), xErrShape, xErrKey, xErrValue, xErrLess] : List Er) ∨ ((r3.2.isP = true ∧ r3.2.err ∈ ([(Er.b 0), xErrShape, xErrKey, xErrValue, xErrLess] : List Er)) ∧ 0 < (c4).length) then ((value_Fee.f (⟨0, c4, ([(⟨IntKind.u64.wrap (c3 - (Int.tmod x1 (IntKind.u64.wrap (c3 + 1)))), (List.replicate 32 0)⟩ : Out)] : List Out) ++ ([(⟨IntKind.u64.wrap ((Int.tmod x1 (IntKind.u64.wrap (c3 + 1))) + 1), (List.replicate 32 0)⟩ : Out)] : List Out), 0⟩ : Tx) c2).bind fun r4 => (if r4.2 ∈ ([(Er.b 0), xErrShape, xErrKey, xErrValue, xErrLess] : List Er) ∨ ((r4.2.isP = true ∧ r4.2.err ∈ ([(Er.b 0), xErrShape, xErrKey, xErrValue, xErrLess] : List Er)) ∧ 0 < (c2).length) then (if r4.2 ∈ ([(Er.b 0), xErrShape, xErrKey, xErrValue, xErrLess] : List Er) ∨ ((r4.2.isP = true ∧ r4.2.err ∈ ([(Er.b 0), xErrShape, xErrKey, xErrValue, xErrLess] : List Er)) ∧ 0 < (([(⟨IntKind.u64.wrap (c3 - (Int.tmod x1 (IntKind.u64.wrap (c3 + 1)))), (List.replicate 32 0)⟩ : Out)] : List Out) ++ ([(⟨IntKind.u64.wrap ((Int.tmod x1 (IntKind.u64.wrap (c3 + 1))) + 1), (List.replicate 32 0)⟩ : Out)] : List Out)).length) then (if r4.2 ∈ ([(Er.b 0), xErrShape, xErrKey, xErrValue, xErrLess] : List Er) ∨ ((r4.2.isP = true ∧ r4.2.err ∈ ([(Er.b 0), xErrShape, xErrKey, xErrValue, xErrLess] : List Er)) ∧ 0 < (c4).length) then ((sargassoworld_Number.f x2 (x0.length : Int)).bind fun r5 => (if 0 ≤ r5 ∧ r5 < (c4.length : Int) then ((value_Fee.f (⟨0, c4.set r5.toNat (⟨(c4.getD r5.toNat default).From, ([9] : List Int), (c4.getD r5.toNat default).Seq⟩ : In), ([(⟨IntKind.u64.wrap (c3 - (Int.tmod x1 (IntKind.u64.wrap (c3 + 1)))), (List.replicate 32 0)⟩ : Out)] : List Out) ++ ([(⟨IntKind.u64.wrap ((Int.tmod x1 (IntKind.u64.wrap (c3 + 1))) + 1), (List.replicate 32 0)⟩ : Out)] : List Out), 0⟩ : Tx) c2).bind fun r6 => (if r6.2 ∈ ([(Er.b 0), xErrShape, xErrKey, xErrValue, xErrLess] : List Er) ∨ ((r6.2.isP = true ∧ r6.2.err ∈ ([(Er.b 0), xErrShape, xErrKey, xErrValue, xErrLess] : List Er)) ∧ 0 < (c2).length) then (if r6.2 ∈ ([(Er.b 0), xErrShape, xErrKey, xErrValue, xErrLess] : List Er) ∨ ((r6.2.isP = true ∧ r6.2.err ∈ ([(Er.b 0), xErrShape, xErrKey, xErrValue, xErrLess] : List Er)) ∧ 0 < (([(⟨IntKind.u64.wrap (c3 - (Int.tmod x1 (IntKind.u64.wrap (c3 + 1)))), (List.replicate 32 0)⟩ : Out)] : List Out) ++ ([(⟨IntKind.u64.wrap ((Int.tmod x1 (IntKind.u64.wrap (c3 + 1))) + 1), (List.replicate 32 0)⟩ : Out)] : List Out)).length) then (if r6.2 ∈ ([(Er.b 0), xErrShape, xErrKey, xErrValue, xErrLess] : List Er) ∨ ((r6.2.isP = true ∧ r6.2.err ∈ ([(Er.b 0), xErrShape, xErrKey, xErrValue, xErrLess] : List Er)) ∧ 0 < (c4.set r5.toNat (⟨(c4.getD r5.toNat default).From, ([9] : List Int), (c4.getD r5.toNat default).Seq⟩ : In)).length) then (if 0 ≤ 1 ∧ 1 ≤ (c2.length : Int) then ((value_Fee.f (⟨0, c4.set r5.toNat (⟨(c4.getD r5.toNat default).From, ([9] : List Int), (c4.getD r5.toNat default).Seq⟩ : In), ([(⟨IntKind.u64.wrap (c3 - (Int.tmod x1 (IntKind.u64.wrap (c3 + 1)))), (List.replicate 32 0)⟩ : Out)] : List Out) ++ ([(⟨IntKind.u64.wrap ((Int.tmod x1 (IntKind.u64.wrap (c3 + 1))) + 1), (List.replicate 32 0)⟩ : Out)] : List Out), 0⟩ : Tx) ((c2.take ((c2.length : Int)).toNat).drop (1 : Int).toNat)).bind fun r7 => (if r7.2 ∈ ([(Er.b 0), xErrShape, xErrKey, xErrValue, xErrLess] : List Er) ∨ ((r7.2.isP = true ∧ r7.2.err ∈ ([(Er.b 0), xErrShape, xErrKey, xErrValue, xErrLess] : List Er)) ∧ 0 < (([(⟨IntKind.u64.wrap (c3 - (Int.tmod x1 (IntKind.u64.wrap (c3 + 1)))), (List.replicate 32 0)⟩ : Out)] : List Out) ++ ([(⟨IntKind.u64.wrap ((Int.tmod x1 (IntKind.u64.wrap (c3 + 1))) + 1), (List.replicate 32 0)⟩ : Out)] : List Out)).length) then (if r7.2 ∈ ([(Er.b 0), xErrShape, xErrKey, xErrValue, xErrLess] : List Er) ∨ ((r7.2.isP = true ∧ r7.2.err ∈ ([(Er.b 0), xErrShape, xErrKey, xErrValue, xErrLess] : List Er)) ∧ 0 < (c4.set r5.toNat (⟨(c4.getD r5.toNat default).From, ([9] : List Int), (c4.getD r5.toNat default).Seq⟩ : In)).length) then (((if 2100000000000000 < c3 then some true else some (decide (2100000000000000 < (IntKind.u64.wrap (c3 + 1)))))).bind fun c5 => (((if r1 = true then (if r3.2 = (Er.b 0) then (if r3.1 = (Int.tmod x1 (IntKind.u64.wrap (c3 + 1))) then (if c5 = true then ((sargassoref_Placed.f 114 r5).bind fun r8 => ((sargassosee_Same.f r6.2 r8).bind fun r9 => (if r9 = true then ((sargassosee_Is.f r7.2 102).bind fun r10 => some r10) else some false))) else ((sargassosee_Is.f r4.2 117).bind fun r11 => (if r11 = true then ((sargassoref_Placed.f 114 r5).bind fun r12 => ((sargassosee_Same.f r6.2 r12).bind fun r13 => (if r13 = true then ((sargassosee_Is.f r7.2 102).bind fun r14 => some r14) else some false))) else some false))) else some false) else some false) else some false)).bind fun c6 => some c6)) else none) else none)) else none) else none) else none) else none)) else none)) else none) else none) else none)) else none) else none) else none)) else none)))) else some false))
end Go.Proofs.YtpeelghbhihgkaaDoor.T
