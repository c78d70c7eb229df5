/- Proved: the statement BestGoes, as given (its conditions are those of the given row, and card where there is one; no others): the call ends, with true, and the input reads as it did. This file is one of its parts. -/
import Derived.Test.YtdngkgkkblfcjaaDoorPBestGoes2
namespace Go.Proofs.YtdngkgkkblfcjaaDoor.T
open Go Go.Proofs Go.Proofs.YtdngkgkkblfcjaaDoor.K
set_option linter.unusedVariables false
set_option linter.unusedSimpArgs false
set_option maxRecDepth 20000 in
theorem digest_begin.c (μ : Store) (w0 : World) (hμ : Agr μ w0) (r : List Int) (H : digest_begin.f = some r) :
    Calls Tryd.prog 136 [].toArray w0 (fun e w' => ∃ v, e = .returned v ∧ v = .agg [av .u32 8 r].flatten.toArray ∧ Arr .u32 8 r ∧ Iv w0 [] μ μ [] w') := by
  refine enter Tryd.func136 rfl Tryd.ntmps136 rfl fun a hA => ?_
  have hI := Iv.start hμ
  have H := bI H
  refine w_seq fun _ hN1 => w_reg <| o_new [av .u32 8 (List.replicate 8 0)] zr165 hI hA rfl fun g1 a w hA hI hg1 => ?_
  refine o_nil <| hN1 _ _ <| w_seq fun _ hN2 => w_reg <| stp hA (r_bldA (cs := [av .u32 8 ([1779033703, 3144134277, 1013904242, 2773480762, 1359893119, 2600822924, 528734635, 1541459225])].flatten.toArray) zr165 Tryd.underlying165 sz24 hA rfl (by kernel_rfl)) rfl fun a hA => 
    o_st (j := 0) [] [av .u32 8 (List.replicate 8 0)] [av .u32 8 ([1779033703, 3144134277, 1013904242, 2773480762, 1359893119, 2600822924, 528734635, 1541459225])] [] sz165 rfl rfl (fl_cons (one_av _ _ _) fl_nil) hI rfl hA rfl rfl rfl rfl fun w hI => ?_
  refine o_nil <| hN2 _ _ <| w_ret ?_
  obtain rfl := sJ H
  exact retc Tryd.underlying165 rfl sz165 rfl hI (j := 0) rfl hA Tryd.results136 rfl ⟨_, rfl, rfl, (arr_lit rfl (by simp only [List.forall_mem_cons]; exact ⟨(in_lit .u32 1779033703 rfl), (in_lit .u32 3144134277 rfl), (in_lit .u32 1013904242 rfl), (in_lit .u32 2773480762 rfl), (in_lit .u32 1359893119 rfl), (in_lit .u32 2600822924 rfl), (in_lit .u32 528734635 rfl), (in_lit .u32 1541459225 rfl), by simp⟩)), hI.forget0⟩
set_option maxRecDepth 20000 in
theorem digest_Writer_state.c (μ : Store) (w0 : World) (hμ : Agr μ w0) (x0 : digestWriter) (vp1 : Value) (cp1 : List Value) (g0 : Nat) (hp1 : Arr .u32 8 x0.s) (hp2 : Els (RI .u8) 1 x0.rest cp1) (hp3 : InR .i64 x0.n) (ho0 : Its μ w0 [cel g0 [av .u32 8 x0.s, [vp1], [.int .i64 x0.n]] 167, row 5 1 vp1 x0.rest.length cp1]) (r : List Int) (H : digest_Writer_state.f x0 = some r) :
    Calls Tryd.prog 122 [.pointer (some ⟨g0, 0, none⟩)].toArray w0 (fun e w' => ∃ v, e = .returned v ∧ v = .agg [av .u32 8 r].flatten.toArray ∧ Arr .u32 8 r ∧ Iv w0 (many [cel g0 [av .u32 8 x0.s, [vp1], [.int .i64 x0.n]] 167, row 5 1 vp1 x0.rest.length cp1]).foot μ μ [cel g0 [av .u32 8 x0.s, [vp1], [.int .i64 x0.n]] 167, row 5 1 vp1 x0.rest.length cp1] w') := by
  refine enter Tryd.func122 rfl Tryd.ntmps122 rfl fun a hA => ?_
  have hI := Iv.startN hμ ho0
  have H := bI H
  refine w_seq fun _ hN1 => w_reg <| o_new [av .u32 8 (List.replicate 8 0)] zr165 hI hA rfl fun g1 a w hA hI hg1 => ?_
  refine o_nil <| hN1 _ _ <| w_seq fun _ hN2 => w_seq fun _ hN3 => w_reg <| stm hA rfl rfl fun a hA => 
    stp hA (r_nilc hA rfl) rfl fun a hA => 
    stp hA (r_fd (k := 9) Tryd.underlying167 rfl sz2 hA rfl rfl) rfl fun a hA => 
    stp hA (r_ld1 (j := 1) [av .u32 8 x0.s, [vp1]] [] Tryd.underlying2 rfl hI rfl hA rfl rfl) rfl fun a hA => 
    stp hA (r_lss hA rfl rfl) rfl fun a hA => ?_
  refine o_nil <| hN3 _ _ <| w_cond hA rfl (fun hc1 => ?_) (fun hc1 => ?_)
  · obtain ⟨hc1, H⟩ := dT H hc1
    refine w_seq fun _ hN4 => w_reg ?_
    obtain ⟨r1, hr1, H⟩ := bB H
    refine o_callp (u := .agg [av .u32 8 r1].flatten.toArray) cf136 hA rfl hI (digest_begin.c μ _ hI.agr  r1 hr1) rfl fun a w hz1 hI hA => 
      o_st (j := 0) [] [av .u32 8 (List.replicate 8 0)] [av .u32 8 r1] [] sz165 rfl rfl (fl_cons (one_av _ _ _) fl_nil) hI rfl hA rfl rfl rfl rfl fun w hI => ?_
    refine o_nil <| hN4 _ _ <| w_ret ?_
    obtain rfl := sJ H
    exact retc Tryd.underlying165 rfl sz165 rfl hI (j := 0) rfl hA Tryd.results122 rfl ⟨_, rfl, rfl, hz1, ((hI.sl [1, 2] rfl).less (Store.le.refl _) hI.le)⟩
  · obtain ⟨hc1, H⟩ := dF H hc1
    refine w_skip <| hN2 _ _ <| w_seq fun _ hN5 => w_reg <| stm hA rfl rfl fun a hA => 
      stp hA (r_nilc hA rfl) rfl fun a hA => 
      stp hA (r_fd (k := 0) Tryd.underlying167 rfl sz165 hA rfl rfl) rfl fun a hA => 
      stp hA (r_ldA (j := 1) [] [av .u32 8 x0.s] [[vp1], [.int .i64 x0.n]] Tryd.underlying165 rfl sz165 rfl hI rfl hA rfl rfl) rfl fun a hA => 
      o_st (j := 0) [] [av .u32 8 (List.replicate 8 0)] [av .u32 8 x0.s] [] sz165 rfl rfl (fl_cons (one_av _ _ _) fl_nil) hI rfl hA rfl rfl rfl rfl fun w hI => ?_
    refine o_nil <| hN5 _ _ <| w_ret ?_
    obtain rfl := sJ H
    exact retc Tryd.underlying165 rfl sz165 rfl hI (j := 0) rfl hA Tryd.results122 rfl ⟨_, rfl, rfl, hp1, ((hI.sl [1, 2] rfl).less (Store.le.refl _) hI.le)⟩
set_option maxRecDepth 20000 in
theorem digest_turn.c (μ : Store) (w0 : World) (hμ : Agr μ w0) (x0 : Int) (hx0 : InR .u32 x0) (x1 : Int) (hx1 : InR .i64 x1) (r : Int) (H : digest_turn.f x0 x1 = some r) :
    Calls Tryd.prog 139 [.int .u32 x0, .int .i64 x1].toArray w0 (fun e w' => ∃ v, e = .returned v ∧ v = .int .u32 r ∧ InR .u32 r ∧ Iv w0 [] μ μ [] w') := by
  refine enter Tryd.func139 rfl Tryd.ntmps139 rfl fun a hA => ?_
  have hI := Iv.start hμ
  have H := bI H
  refine w_seq fun _ hN1 => w_reg <| sta hA rfl rfl fun a hA => ?_
  refine o_nil <| hN1 _ _ <| w_seq fun _ hN2 => w_reg <| stm hA rfl rfl fun a hA => 
    stm hA rfl rfl fun a hA => 
    stp hA (r_neg hA rfl) rfl fun a hA => ?_
  obtain ⟨r1, hr1, H⟩ := bB H
  refine o_callp (u := .int .u32 r1) cf146 hA rfl hI (math_bits_RotateLeft32.c μ _ hI.agr x0 hx0 (IntKind.i64.wrap (0 - x1)) (wrap_in _ _) r1 hr1) rfl fun a w hz1 hI hA => 
    sta hA rfl rfl fun a hA => ?_
  refine o_nil <| hN2 _ _ <| w_ret ?_
  obtain rfl := sJ H
  exact ret1 hA Tryd.results139 rfl ⟨_, rfl, rfl, hz1, hI.forget0⟩
set_option maxRecDepth 20000 in
theorem digest_spread.c (μ : Store) (w0 : World) (hμ : Agr μ w0) (x0 : List Int) (u0 : Value) (hx0 : Slc (RI .u8) 1 μ u0 x0) (r : List Int) (H : digest_spread.f x0 = some r) :
    Calls Tryd.prog 137 [u0].toArray w0 (fun e w' => ∃ v, e = .returned v ∧ v = .agg [av .u32 64 r].flatten.toArray ∧ Arr .u32 64 r ∧ Iv w0 [] μ μ [] w') := by
  refine enter Tryd.func137 rfl Tryd.ntmps137 rfl fun a hA => ?_
  have hI := Iv.start hμ
  have H := bI H
  refine w_seq fun _ hN1 => w_reg <| o_new [av .u32 64 (List.replicate 64 0)] zr188 hI hA rfl fun g1 a w hA hI hg1 => ?_
  refine o_nil <| hN1 _ _ <| w_seq fun _ hN2 => w_reg <| o_new [av .u32 64 (List.replicate 64 0)] zr188 hI hA rfl fun g2 a w hA hI hg2 => ?_
  refine o_nil <| hN2 _ _ ?_
  obtain ⟨c1, hz1, Hk1⟩ := bB H
  refine w_cut (fun a w => Arr .u32 64 c1 ∧ Fr a 80 [(2, .pointer (some ⟨g1, 0, none⟩)), (3, .pointer (some ⟨g2, 0, none⟩))] ∧ Iv w0 [] μ μ [cel g2 [av .u32 64 c1] 188, cel g1 [av .u32 64 (List.replicate 64 0)] 188] w) ?_ ?_
  · have H := bI hz1
    refine w_seq fun _ hN3 => w_reg <| stm hA rfl rfl fun a hA => ?_
    refine o_nil <| hN3 _ _ <| w_block ?_
    obtain ⟨z1, hz2, Hk2⟩ := bind_some H
    obtain ⟨n1, hn1⟩ := loopO_some hz2
    refine w_loop (fun n a w => ∃ (s1 : Int) (s2 : List Int), loopN (digest_spread.s0 x0) n (s1, s2) = some z1 ∧ InR .i64 s1 ∧ Arr .u32 64 s2 ∧ Fr a 80 [(0, u0), (2, .pointer (some ⟨g1, 0, none⟩)), (3, .pointer (some ⟨g2, 0, none⟩)), (8, .int .i64 s1)] ∧ Iv w0 [] μ μ [cel g2 [av .u32 64 s2] 188, cel g1 [av .u32 64 (List.replicate 64 0)] 188] w) n1 ⟨0, (List.replicate 64 0), hn1, (in_lit .i64 0 rfl), (arr_zero _ _), hA.sub ⟨rfl, rfl, rfl, rfl, trivial⟩, hI⟩ ?_
    clear hA hI
    rintro n a w ⟨s1, s2, hn1, ws1, ws2, hA, hI⟩
    obtain ⟨m1, rfl, H⟩ := loopN_bind hn1
    clear hn1
    refine w_seq fun _ hN4 => w_reg <| stp hA (r_lss hA rfl rfl) rfl fun a hA => ?_
    refine o_nil <| hN4 _ _ <| w_seq fun _ hN5 => w_cond hA rfl (fun hc1 => ?_) (fun hc1 => ?_)
    · obtain ⟨hc1, H⟩ := dT H hc1
      refine w_skip <| hN5 _ _ ?_
      obtain ⟨c2, hz3, Hk3⟩ := bB H
      refine w_cut (fun a w => Arr .u32 64 c2 ∧ Fr a 80 [(0, u0), (2, .pointer (some ⟨g1, 0, none⟩)), (3, .pointer (some ⟨g2, 0, none⟩)), (8, .int .i64 s1), (9, .bool (decide (s1 < 64)))] ∧ Iv w0 [] μ μ [cel g2 [av .u32 64 c2] 188, cel g1 [av .u32 64 (List.replicate 64 0)] 188] w) ?_ ?_
      · have H := bI hz3
        refine w_block <| w_seq fun _ hN6 => w_reg <| stm hA rfl rfl fun a hA => 
          sta hA rfl rfl fun a hA => ?_
        refine o_nil <| hN6 _ _ <| w_seq fun _ hN7 => w_seq fun _ hN8 => w_reg <| stm hA rfl rfl fun a hA => 
          stp hA (r_lss hA rfl rfl) rfl fun a hA => ?_
        refine o_nil <| hN8 _ _ <| w_cond hA rfl (fun hc2 => ?_) (fun hc2 => ?_)
        · obtain ⟨hc2, H⟩ := dT H hc2
          refine w_seq fun _ hN9 => w_reg <| stm hA rfl rfl fun a hA => 
            stm hA rfl rfl fun a hA => 
            stp hA (r_mul hA rfl rfl) rfl fun a hA => ?_
          obtain ⟨hb1, H⟩ := bG H
          obtain ⟨v1, hS1, hr1⟩ := r_sl (P := Tryd.prog) (t := 40) (x := .tmp 13) (l := (some (.tmp 15))) (h := none) (i := IntKind.i64.wrap (4 * s1)) (j := (x0.length : Int)) Tryd.underlying40 sz5 hx0 hA rfl rfl rfl (by have hq := hb1; omega) (by have hq := hb1; omega) (by have hq := hb1; omega)
          refine stp hA (hr1 _ _ _ _ _ _) rfl fun a hA => 
            sta hA rfl rfl fun a hA => ?_
          refine o_nil <| hN9 _ _ <| w_seq fun _ hN10 => ?_
          refine w_anyS [] mo (fun w (h : Iv w0 [] μ μ [cel g2 [av .u32 64 s2] 188, cel g1 [av .u32 64 (List.replicate 64 0)] 188] w) => (h.sl [1] rfl : Iv w0 [] μ μ [cel g1 [av .u32 64 (List.replicate 64 0)] 188] w)) hI fun w hI => ?_
          refine gE 0 hA rfl (.inr (hI.sl [1] rfl)) (fun _ => r_mv hA rfl) fun a hA => ?_
          refine gE 1 hA rfl (.inr (hI.sl [1] rfl)) (fun _ => r_mv hA rfl) fun a hA => ?_
          obtain ⟨hb2, H⟩ := bG H
          obtain ⟨_, he1, _, hat1⟩ := Slc.elem1 hS1 (getD_some 0 (by decide) hb2)
          obtain ⟨rfl, hw1⟩ := he1
          obtain ⟨_, hsl1⟩ := Slc.sv hS1
          refine gE 2 hA rfl (.inr (hI.sl [1] rfl)) (fun _ => r_six1 Tryd.underlying40 sz5 hsl1 hA rfl rfl (by decide) hb2) fun a hA => ?_
          refine gT 3 hA rfl (hI.sl [1] rfl) (fun w hI => r_ldm1 [] [] Tryd.underlying5 rfl hI.agr hat1 hA rfl rfl) fun a hA => ?_
          refine gE 4 hA rfl (.inr (hI.sl [1] rfl)) (fun _ => r_conv Tryd.underlying5 Tryd.underlying24 hA rfl) fun a hA => ?_
          refine gE 5 hA rfl (.inr (hI.sl [1] rfl)) (fun _ => r_shl hA rfl rfl (by decide)) fun a hA => ?_
          refine gE 6 hA rfl (.inr (hI.sl [1] rfl)) (fun _ => r_mv hA rfl) fun a hA => ?_
          obtain ⟨hb3, H⟩ := bG H
          obtain ⟨_, he2, _, hat2⟩ := Slc.elem1 hS1 (getD_some 0 (by decide) hb3)
          obtain ⟨rfl, hw2⟩ := he2
          obtain ⟨_, hsl2⟩ := Slc.sv hS1
          refine gE 7 hA rfl (.inr (hI.sl [1] rfl)) (fun _ => r_six1 Tryd.underlying40 sz5 hsl2 hA rfl rfl (by decide) hb3) fun a hA => ?_
          refine gT 8 hA rfl (hI.sl [1] rfl) (fun w hI => r_ldm1 [] [] Tryd.underlying5 rfl hI.agr hat2 hA rfl rfl) fun a hA => ?_
          refine gE 9 hA rfl (.inr (hI.sl [1] rfl)) (fun _ => r_conv Tryd.underlying5 Tryd.underlying24 hA rfl) fun a hA => ?_
          refine gE 10 hA rfl (.inr (hI.sl [1] rfl)) (fun _ => r_shl hA rfl rfl (by decide)) fun a hA => ?_
          refine gE 11 hA rfl (.inr (hI.sl [1] rfl)) (fun _ => r_or hA rfl rfl) fun a hA => ?_
          refine gE 12 hA rfl (.inr (hI.sl [1] rfl)) (fun _ => r_mv hA rfl) fun a hA => ?_
          obtain ⟨hb4, H⟩ := bG H
          obtain ⟨_, he3, _, hat3⟩ := Slc.elem1 hS1 (getD_some 0 (by decide) hb4)
          obtain ⟨rfl, hw3⟩ := he3
          obtain ⟨_, hsl3⟩ := Slc.sv hS1
          refine gE 13 hA rfl (.inr (hI.sl [1] rfl)) (fun _ => r_six1 Tryd.underlying40 sz5 hsl3 hA rfl rfl (by decide) hb4) fun a hA => ?_
          refine gT 14 hA rfl (hI.sl [1] rfl) (fun w hI => r_ldm1 [] [] Tryd.underlying5 rfl hI.agr hat3 hA rfl rfl) fun a hA => ?_
          refine gE 15 hA rfl (.inr (hI.sl [1] rfl)) (fun _ => r_conv Tryd.underlying5 Tryd.underlying24 hA rfl) fun a hA => ?_
          refine gE 16 hA rfl (.inr (hI.sl [1] rfl)) (fun _ => r_shl hA rfl rfl (by decide)) fun a hA => ?_
          refine gE 17 hA rfl (.inr (hI.sl [1] rfl)) (fun _ => r_or hA rfl rfl) fun a hA => ?_
          refine gE 18 hA rfl (.inr (hI.sl [1] rfl)) (fun _ => r_mv hA rfl) fun a hA => ?_
          obtain ⟨hb5, H⟩ := bG H
          obtain ⟨_, he4, _, hat4⟩ := Slc.elem1 hS1 (getD_some 0 (by decide) hb5)
          obtain ⟨rfl, hw4⟩ := he4
          obtain ⟨_, hsl4⟩ := Slc.sv hS1
          refine gE 19 hA rfl (.inr (hI.sl [1] rfl)) (fun _ => r_six1 Tryd.underlying40 sz5 hsl4 hA rfl rfl (by decide) hb5) fun a hA => ?_
          refine gT 20 hA rfl (hI.sl [1] rfl) (fun w hI => r_ldm1 [] [] Tryd.underlying5 rfl hI.agr hat4 hA rfl rfl) fun a hA => ?_
          refine gE 21 hA rfl (.inr (hI.sl [1] rfl)) (fun _ => r_conv Tryd.underlying5 Tryd.underlying24 hA rfl) fun a hA => ?_
          refine gE 22 hA rfl (.inr (hI.sl [1] rfl)) (fun _ => r_or hA rfl rfl) fun a hA => ?_
          obtain ⟨hb6, H⟩ := bG H
          refine gE 23 hA rfl (.inr (hI.sl [1] rfl)) (fun _ => r_ixar1 Tryd.underlying188 sz24 hA rfl rfl hb6.1 hb6.2) fun a hA => ?_
          refine gF 24 rfl ?_
          refine o_stE (j := 0) [] [] sz24 ws2.1 hI rfl hA rfl rfl rfl (by omega) fun w hI => ?_
          refine o_nil <| ⟨(.inr (hI.sl [1] rfl)), ?_⟩
          refine gN <| hN10 _ _ <| w_exit rfl ?_
          cases sJ H
          exact ⟨(arr_set ws2 _ (wrap_in _ _)), hA.sub ⟨rfl, rfl, rfl, rfl, rfl, trivial⟩, hI⟩
        · obtain ⟨hc2, H⟩ := dF H hc2
          refine w_skip <| hN7 _ _ <| w_seq fun _ hN11 => ?_
          refine w_draw mo (by kernel_rfl) hI ?_
          refine qtp hA (fun _ hI => r_mv hA rfl) rfl fun a hA => 
            qtp hA (fun _ hI => r_sub hA rfl rfl) rfl fun a hA => ?_
          obtain ⟨hb7, H⟩ := bG H
          refine qtp hA (fun _ hI => r_ixar1 Tryd.underlying188 sz24 hA rfl rfl hb7.1 hb7.2) rfl fun a hA => 
            qtp hA (fun _ hI => r_ldE (j := 0) [] [] Tryd.underlying24 rfl hI rfl hA rfl rfl (by omega)) rfl fun a hA => 
            qtp hA (fun _ hI => r_mv hA rfl) rfl fun a hA => 
            qtp hA (fun _ hI => r_sub hA rfl rfl) rfl fun a hA => ?_
          obtain ⟨hb8, H⟩ := bG H
          refine qtp hA (fun _ hI => r_ixar1 Tryd.underlying188 sz24 hA rfl rfl hb8.1 hb8.2) rfl fun a hA => 
            qtp hA (fun _ hI => r_ldE (j := 0) [] [] Tryd.underlying24 rfl hI rfl hA rfl rfl (by omega)) rfl fun a hA => 
            qtp hA (fun _ hI => r_as hA rfl) rfl fun a hA => 
            qtp hA (fun _ hI => r_as hA rfl) rfl fun a hA => ?_
          refine q_nil fun w hI => ?_
          refine hN11 _ _ ?_
          refine w_any [29] mo hI fun w hI => ?_
          refine gE 0 hA rfl (.inr hI) (fun _ => r_mv hA rfl) fun a hA => ?_
          refine gE 1 hA rfl (.inr hI) (fun _ => r_mv hA rfl) fun a hA => ?_
          refine gE 3 hA rfl (.inr hI) (fun _ => r_mv hA rfl) fun a hA => ?_
          refine gE 6 hA rfl (.inr hI) (fun _ => r_mv hA rfl) fun a hA => ?_
          refine gE 7 hA rfl (.inr hI) (fun _ => r_shr hA rfl rfl (by decide)) fun a hA => ?_
          refine gE 9 hA rfl (.inr hI) (fun _ => r_mv hA rfl) fun a hA => ?_
          refine gE 10 hA rfl (.inr hI) (fun _ => r_sub hA rfl rfl) fun a hA => ?_
          obtain ⟨hb9, H⟩ := bG H
          refine gE 11 hA rfl (.inr hI) (fun _ => r_ixar1 Tryd.underlying188 sz24 hA rfl rfl hb9.1 hb9.2) fun a hA => ?_
          refine gT 12 hA rfl hI (fun w hI => r_ldE (j := 0) [] [] Tryd.underlying24 rfl hI rfl hA rfl rfl (by omega)) fun a hA => ?_
          refine gE 14 hA rfl (.inr hI) (fun _ => r_mv hA rfl) fun a hA => ?_
          refine gE 16 hA rfl (.inr hI) (fun _ => r_mv hA rfl) fun a hA => ?_
          refine gE 19 hA rfl (.inr hI) (fun _ => r_mv hA rfl) fun a hA => ?_
          refine gE 20 hA rfl (.inr hI) (fun _ => r_shr hA rfl rfl (by decide)) fun a hA => ?_
          refine gE 23 hA rfl (.inr hI) (fun _ => r_mv hA rfl) fun a hA => ?_
          refine gE 24 hA rfl (.inr hI) (fun _ => r_sub hA rfl rfl) fun a hA => ?_
          obtain ⟨hb10, H⟩ := bG H
          refine gE 25 hA rfl (.inr hI) (fun _ => r_ixar1 Tryd.underlying188 sz24 hA rfl rfl hb10.1 hb10.2) fun a hA => ?_
          refine gT 26 hA rfl hI (fun w hI => r_ldE (j := 0) [] [] Tryd.underlying24 rfl hI rfl hA rfl rfl (by omega)) fun a hA => ?_
          refine gF 2 rfl ?_
          obtain ⟨r1, hr2, H⟩ := bB H
          refine o_callp (u := .int .u32 r1) cf139 hA rfl hI (digest_turn.c μ _ hI.agr (s2.getD (IntKind.i64.wrap (s1 - 2)).toNat 0) (arr_get ws2 _) 17 (in_lit .i64 17 rfl) r1 hr2) rfl fun a w hz4 hI hA => ?_
          refine o_nil <| ⟨(.inr hI), ?_⟩
          refine gF 4 rfl ?_
          obtain ⟨r2, hr3, H⟩ := bB H
          refine o_callp (u := .int .u32 r2) cf139 hA rfl hI (digest_turn.c μ _ hI.agr (s2.getD (IntKind.i64.wrap (s1 - 2)).toNat 0) (arr_get ws2 _) 19 (in_lit .i64 19 rfl) r2 hr3) rfl fun a w hz5 hI hA => ?_
          refine o_nil <| ⟨(.inr hI), ?_⟩
          refine gE 5 hA rfl (.inr hI) (fun _ => r_xor hA rfl rfl) fun a hA => ?_
          refine gE 8 hA rfl (.inr hI) (fun _ => r_xor hA rfl rfl) fun a hA => ?_
          refine gE 13 hA rfl (.inr hI) (fun _ => r_add hA rfl rfl) fun a hA => ?_
          refine gF 15 rfl ?_
          obtain ⟨r3, hr4, H⟩ := bB H
          refine o_callp (u := .int .u32 r3) cf139 hA rfl hI (digest_turn.c μ _ hI.agr (s2.getD (IntKind.i64.wrap (s1 - 15)).toNat 0) (arr_get ws2 _) 7 (in_lit .i64 7 rfl) r3 hr4) rfl fun a w hz6 hI hA => ?_
          refine o_nil <| ⟨(.inr hI), ?_⟩
          refine gF 17 rfl ?_
          obtain ⟨r4, hr5, H⟩ := bB H
          refine o_callp (u := .int .u32 r4) cf139 hA rfl hI (digest_turn.c μ _ hI.agr (s2.getD (IntKind.i64.wrap (s1 - 15)).toNat 0) (arr_get ws2 _) 18 (in_lit .i64 18 rfl) r4 hr5) rfl fun a w hz7 hI hA => ?_
          refine o_nil <| ⟨(.inr hI), ?_⟩
          refine gE 18 hA rfl (.inr hI) (fun _ => r_xor hA rfl rfl) fun a hA => ?_
          refine gE 21 hA rfl (.inr hI) (fun _ => r_xor hA rfl rfl) fun a hA => ?_
          refine gE 22 hA rfl (.inr hI) (fun _ => r_add hA rfl rfl) fun a hA => ?_
          refine gE 27 hA rfl (.inr hI) (fun _ => r_add hA rfl rfl) fun a hA => ?_
          obtain ⟨hb11, H⟩ := bG H
          refine gE 28 hA rfl (.inr hI) (fun _ => r_ixar1 Tryd.underlying188 sz24 hA rfl rfl hb11.1 hb11.2) fun a hA => ?_
          refine gF 29 rfl ?_
          refine o_stE (j := 0) [] [] sz24 ws2.1 hI rfl hA rfl rfl rfl (by omega) fun w hI => ?_
          refine o_nil <| ⟨(.inl (by kernel_rfl)), ?_⟩
          refine gN ?_
          cases sJ H
          exact ⟨(arr_set ws2 _ (wrap_in _ _)), hA.sub ⟨rfl, rfl, rfl, rfl, rfl, trivial⟩, hI⟩
      · rintro a w ⟨wc2, hA, hI⟩
        have H := Hk3
        refine w_reg <| stp hA (r_add hA rfl rfl) rfl fun a hA => 
          stm hA rfl rfl fun a hA => ?_
        refine o_nil <| ⟨m1, Nat.lt_succ_self _, IntKind.i64.wrap (s1 + 1), c2, H, (wrap_in _ _), wc2, hA.sub ⟨rfl, rfl, rfl, rfl, trivial⟩, hI⟩
    · obtain ⟨hc1, H⟩ := dF H hc1
      refine w_exit rfl ?_
      have H : some s2 = some z1 := H
      obtain rfl := sI H
      have H := Hk2
      cases sJ H
      exact ⟨ws2, hA.sub ⟨rfl, rfl, trivial⟩, hI⟩
  · rintro a w ⟨wc1, hA, hI⟩
    have H := Hk1
    refine w_seq fun _ hN12 => w_reg <| stp hA (r_ldA (j := 0) [] [av .u32 64 c1] [] Tryd.underlying188 rfl sz188 rfl hI rfl hA rfl rfl) rfl fun a hA => 
      o_st (j := 1) [] [av .u32 64 (List.replicate 64 0)] [av .u32 64 c1] [] sz188 rfl rfl (fl_cons (one_av _ _ _) fl_nil) hI rfl hA rfl rfl rfl rfl fun w hI => ?_
    refine o_nil <| hN12 _ _ <| w_ret ?_
    obtain rfl := sJ H
    exact retc Tryd.underlying188 rfl sz188 rfl hI (j := 1) rfl hA Tryd.results137 rfl ⟨_, rfl, rfl, wc1, hI.forget0⟩
set_option maxRecDepth 20000 in
theorem digest_keys.c (μ : Store) (w0 : World) (hμ : Agr μ w0) (r : List Int) (H : digest_keys.f = some r) :
    Calls Tryd.prog 138 [].toArray w0 (fun e w' => ∃ v, e = .returned v ∧ v = .agg [av .u32 64 r].flatten.toArray ∧ Arr .u32 64 r ∧ Iv w0 [] μ μ [] w') := by
  refine enter Tryd.func138 rfl Tryd.ntmps138 rfl fun a hA => ?_
  have hI := Iv.start hμ
  have H := bI H
  refine w_seq fun _ hN1 => w_reg <| o_new [av .u32 64 (List.replicate 64 0)] zr188 hI hA rfl fun g1 a w hA hI hg1 => ?_
  refine o_nil <| hN1 _ _ <| w_seq fun _ hN2 => w_reg <| stp hA (r_bldA (cs := [av .u32 64 digest_keys.lit0].flatten.toArray) (pv := numbered .u32 digest_keys.lit0) zr188 Tryd.underlying188 sz24 hA (by kernel_rfl) (by kernel_rfl)) rfl fun a hA => 
    o_st (j := 0) [] [av .u32 64 (List.replicate 64 0)] [av .u32 64 digest_keys.lit0] [] sz188 rfl rfl (fl_cons (one_av _ _ _) fl_nil) hI rfl hA rfl rfl rfl rfl fun w hI => ?_
  refine o_nil <| hN2 _ _ <| w_ret ?_
  obtain rfl := sJ H
  exact retc Tryd.underlying188 rfl sz188 rfl hI (j := 0) rfl hA Tryd.results138 rfl ⟨_, rfl, rfl, (arr_lit (by kernel_rfl) digest_keys.lit0_in), hI.forget0⟩
set_option maxRecDepth 20000 in
theorem digest_mix.c (μ : Store) (w0 : World) (hμ : Agr μ w0) (x0 : List Int) (hx0 : Arr .u32 8 x0) (x1 : List Int) (u1 : Value) (hx1 : Slc (RI .u8) 1 μ u1 x1) (r : List Int) (H : digest_mix.f x0 x1 = some r) :
    Calls Tryd.prog 123 [.agg [av .u32 8 x0].flatten.toArray, u1].toArray w0 (fun e w' => ∃ v, e = .returned v ∧ v = .agg [av .u32 8 r].flatten.toArray ∧ Arr .u32 8 r ∧ Iv w0 [] μ μ [] w') := by
  refine enter Tryd.func123 rfl Tryd.ntmps123 rfl fun a hA => ?_
  have hI := Iv.start hμ
  have H := bI H
  refine w_seq fun _ hN1 => w_reg <| o_box [av .u32 8 x0] hI hA rfl rfl rfl fun g1 a w hA hI hg1 => 
    o_new [av .u32 8 (List.replicate 8 0)] zr165 hI hA rfl fun g2 a w hA hI hg2 => ?_
  refine o_nil <| hN1 _ _ <| w_seq fun _ hN2 => w_reg <| stm hA rfl rfl fun a hA => ?_
  obtain ⟨r1, hr1, H⟩ := bB H
  refine o_callp (u := .agg [av .u32 64 r1].flatten.toArray) cf137 hA rfl hI (digest_spread.c μ _ hI.agr x1 u1 hx1 r1 hr1) rfl fun a w hz1 hI hA => ?_
  obtain ⟨r2, hr2, H⟩ := bB H
  refine o_callp (u := .agg [av .u32 64 r2].flatten.toArray) cf138 hA rfl hI (digest_keys.c μ _ hI.agr  r2 hr2) rfl fun a w hz2 hI hA => 
    o_new [av .u32 64 (List.replicate 64 0)] zr188 hI hA rfl fun g3 a w hA hI hg3 => 
    o_new [av .u32 64 (List.replicate 64 0)] zr188 hI hA rfl fun g4 a w hA hI hg4 => 
    o_st (j := 1) [] [av .u32 64 (List.replicate 64 0)] [av .u32 64 r1] [] sz188 rfl rfl (fl_cons (one_av _ _ _) fl_nil) hI rfl hA rfl rfl rfl rfl fun w hI => 
    o_st (j := 0) [] [av .u32 64 (List.replicate 64 0)] [av .u32 64 r2] [] sz188 rfl rfl (fl_cons (one_av _ _ _) fl_nil) hI rfl hA rfl rfl rfl rfl fun w hI => ?_
  refine o_nil <| hN2 _ _ <| w_seq fun _ hN3 => w_reg <| stp hA (r_ldA (j := 3) [] [av .u32 8 x0] [] Tryd.underlying165 rfl sz165 rfl hI rfl hA rfl rfl) rfl fun a hA => 
    o_new [av .u32 8 (List.replicate 8 0)] zr165 hI hA rfl fun g5 a w hA hI hg5 => 
    o_st (j := 0) [] [av .u32 8 (List.replicate 8 0)] [av .u32 8 x0] [] sz165 rfl rfl (fl_cons (one_av _ _ _) fl_nil) hI rfl hA rfl rfl rfl rfl fun w hI => ?_
  refine o_nil <| hN3 _ _ ?_
  obtain ⟨c1, hz3, Hk1⟩ := bB H
  refine w_cut (fun a w => Arr .u32 8 c1 ∧ Fr a 111 [(2, .pointer (some ⟨g1, 0, none⟩)), (4, .pointer (some ⟨g2, 0, none⟩)), (7, .pointer (some ⟨g5, 0, none⟩))] ∧ Iv w0 [] μ μ [cel g5 [av .u32 8 c1] 165, cel g4 [av .u32 64 r2] 188, cel g3 [av .u32 64 r1] 188, cel g2 [av .u32 8 (List.replicate 8 0)] 165, cel g1 [av .u32 8 x0] 165] w) ?_ ?_
  · have H := bI hz3
    refine w_seq fun _ hN4 => w_reg <| stm hA rfl rfl fun a hA => ?_
    refine o_nil <| hN4 _ _ <| w_block ?_
    obtain ⟨z1, hz4, Hk2⟩ := bind_some H
    obtain ⟨n1, hn1⟩ := loopO_some hz4
    refine w_loop (fun n a w => ∃ (s1 : Int) (s2 : List Int), loopN (digest_mix.s0 r1 r2) n (s1, s2) = some z1 ∧ InR .i64 s1 ∧ Arr .u32 8 s2 ∧ Fr a 111 [(2, .pointer (some ⟨g1, 0, none⟩)), (4, .pointer (some ⟨g2, 0, none⟩)), (5, .pointer (some ⟨g3, 0, none⟩)), (6, .pointer (some ⟨g4, 0, none⟩)), (7, .pointer (some ⟨g5, 0, none⟩)), (18, .int .i64 s1)] ∧ Iv w0 [] μ μ [cel g5 [av .u32 8 s2] 165, cel g4 [av .u32 64 r2] 188, cel g3 [av .u32 64 r1] 188, cel g2 [av .u32 8 (List.replicate 8 0)] 165, cel g1 [av .u32 8 x0] 165] w) n1 ⟨0, x0, hn1, (in_lit .i64 0 rfl), hx0, hA.sub ⟨rfl, rfl, rfl, rfl, rfl, rfl, trivial⟩, hI⟩ ?_
    clear hA hI
    rintro n a w ⟨s1, s2, hn1, ws1, ws2, hA, hI⟩
    obtain ⟨m1, rfl, H⟩ := loopN_bind hn1
    clear hn1
    refine w_seq fun _ hN5 => w_reg <| stp hA (r_lss hA rfl rfl) rfl fun a hA => ?_
    refine o_nil <| hN5 _ _ <| w_seq fun _ hN6 => w_cond hA rfl (fun hc1 => ?_) (fun hc1 => ?_)
    · obtain ⟨hc1, H⟩ := dT H hc1
      refine w_skip <| hN6 _ _ <| w_seq fun _ hN7 => w_block <| w_seq fun _ hN8 => w_reg <| stm hA rfl rfl fun a hA => 
        sta hA rfl rfl fun a hA => ?_
      refine o_nil <| hN8 _ _ <| w_seq fun _ hN9 => ?_
      refine w_draw mo (by kernel_rfl) hI ?_
      refine qtp hA (fun _ hI => r_ixar1 Tryd.underlying165 sz24 hA rfl rfl (by decide) (by decide)) rfl fun a hA => 
        qtp hA (fun _ hI => r_ldE (j := 0) [] [] Tryd.underlying24 rfl hI rfl hA rfl rfl (by decide)) rfl fun a hA => 
        qtp hA (fun _ hI => r_ixar1 Tryd.underlying165 sz24 hA rfl rfl (by decide) (by decide)) rfl fun a hA => 
        qtp hA (fun _ hI => r_ldE (j := 0) [] [] Tryd.underlying24 rfl hI rfl hA rfl rfl (by decide)) rfl fun a hA => 
        qtp hA (fun _ hI => r_as hA rfl) rfl fun a hA => 
        qtp hA (fun _ hI => r_as hA rfl) rfl fun a hA => ?_
      refine q_nil fun w hI => ?_
      refine hN9 _ _ <| w_seq fun _ hN10 => ?_
      refine w_draw mo (by kernel_rfl) hI ?_
      refine qtp hA (fun _ hI => r_ixar1 Tryd.underlying165 sz24 hA rfl rfl (by decide) (by decide)) rfl fun a hA => 
        qtp hA (fun _ hI => r_ldE (j := 0) [] [] Tryd.underlying24 rfl hI rfl hA rfl rfl (by decide)) rfl fun a hA => 
        qtp hA (fun _ hI => r_mv hA rfl) rfl fun a hA => ?_
      obtain ⟨r3, hr3, H⟩ := bB H
      refine qcall (v := .int .u32 r3) cf139 hA rfl (fun _ hI => plq (digest_turn.c μ _ hI.agr (s2.getD (4 : Int).toNat 0) (arr_get ws2 _) 6 (in_lit .i64 6 rfl) r3 hr3) hI) rfl fun a hA => 
        qtp hA (fun _ hI => r_mv hA rfl) rfl fun a hA => ?_
      obtain ⟨r4, hr4, H⟩ := bB H
      refine qcall (v := .int .u32 r4) cf139 hA rfl (fun _ hI => plq (digest_turn.c μ _ hI.agr (s2.getD (4 : Int).toNat 0) (arr_get ws2 _) 11 (in_lit .i64 11 rfl) r4 hr4) hI) rfl fun a hA => 
        qtp hA (fun _ hI => r_xor hA rfl rfl) rfl fun a hA => 
        qtp hA (fun _ hI => r_mv hA rfl) rfl fun a hA => ?_
      obtain ⟨r5, hr5, H⟩ := bB H
      refine qcall (v := .int .u32 r5) cf139 hA rfl (fun _ hI => plq (digest_turn.c μ _ hI.agr (s2.getD (4 : Int).toNat 0) (arr_get ws2 _) 25 (in_lit .i64 25 rfl) r5 hr5) hI) rfl fun a hA => 
        qtp hA (fun _ hI => r_xor hA rfl rfl) rfl fun a hA => 
        qtp hA (fun _ hI => r_add hA rfl rfl) rfl fun a hA => 
        qtp hA (fun _ hI => r_mv hA rfl) rfl fun a hA => 
        qtp hA (fun _ hI => r_ixar1 Tryd.underlying165 sz24 hA rfl rfl (by decide) (by decide)) rfl fun a hA => 
        qtp hA (fun _ hI => r_ldE (j := 0) [] [] Tryd.underlying24 rfl hI rfl hA rfl rfl (by decide)) rfl fun a hA => 
        qtp hA (fun _ hI => r_and hA rfl rfl) rfl fun a hA => 
        qtp hA (fun _ hI => r_mv hA rfl) rfl fun a hA => 
        qtp hA (fun _ hI => r_inv hA rfl) rfl fun a hA => 
        qtp hA (fun _ hI => r_ixar1 Tryd.underlying165 sz24 hA rfl rfl (by decide) (by decide)) rfl fun a hA => 
        qtp hA (fun _ hI => r_ldE (j := 0) [] [] Tryd.underlying24 rfl hI rfl hA rfl rfl (by decide)) rfl fun a hA => 
        qtp hA (fun _ hI => r_and hA rfl rfl) rfl fun a hA => 
        qtp hA (fun _ hI => r_xor hA rfl rfl) rfl fun a hA => 
        qtp hA (fun _ hI => r_add hA rfl rfl) rfl fun a hA => 
        qtp hA (fun _ hI => r_mv hA rfl) rfl fun a hA => ?_
      obtain ⟨hb1, H⟩ := bG H
      refine qtp hA (fun _ hI => r_ixar1 Tryd.underlying188 sz24 hA rfl rfl hb1.1 hb1.2) rfl fun a hA => 
        qtp hA (fun _ hI => r_ldE (j := 1) [] [] Tryd.underlying24 rfl hI rfl hA rfl rfl (by omega)) rfl fun a hA => 
        qtp hA (fun _ hI => r_add hA rfl rfl) rfl fun a hA => 
        qtp hA (fun _ hI => r_mv hA rfl) rfl fun a hA => 
        qtp hA (fun _ hI => r_ixar1 Tryd.underlying188 sz24 hA rfl rfl hb1.1 hb1.2) rfl fun a hA => 
        qtp hA (fun _ hI => r_ldE (j := 2) [] [] Tryd.underlying24 rfl hI rfl hA rfl rfl (by omega)) rfl fun a hA => 
        qtp hA (fun _ hI => r_add hA rfl rfl) rfl fun a hA => 
        qtp hA (fun _ hI => r_as hA rfl) rfl fun a hA => ?_
      refine q_nil fun w hI => ?_
      refine hN10 _ _ <| w_seq fun _ hN11 => ?_
      refine w_draw mo (by kernel_rfl) hI ?_
      refine qtp hA (fun _ hI => r_mv hA rfl) rfl fun a hA => ?_
      obtain ⟨r6, hr6, H⟩ := bB H
      refine qcall (v := .int .u32 r6) cf139 hA rfl (fun _ hI => plq (digest_turn.c μ _ hI.agr (s2.getD (0 : Int).toNat 0) (arr_get ws2 _) 2 (in_lit .i64 2 rfl) r6 hr6) hI) rfl fun a hA => 
        qtp hA (fun _ hI => r_mv hA rfl) rfl fun a hA => ?_
      obtain ⟨r7, hr7, H⟩ := bB H
      refine qcall (v := .int .u32 r7) cf139 hA rfl (fun _ hI => plq (digest_turn.c μ _ hI.agr (s2.getD (0 : Int).toNat 0) (arr_get ws2 _) 13 (in_lit .i64 13 rfl) r7 hr7) hI) rfl fun a hA => 
        qtp hA (fun _ hI => r_xor hA rfl rfl) rfl fun a hA => 
        qtp hA (fun _ hI => r_mv hA rfl) rfl fun a hA => ?_
      obtain ⟨r8, hr8, H⟩ := bB H
      refine qcall (v := .int .u32 r8) cf139 hA rfl (fun _ hI => plq (digest_turn.c μ _ hI.agr (s2.getD (0 : Int).toNat 0) (arr_get ws2 _) 22 (in_lit .i64 22 rfl) r8 hr8) hI) rfl fun a hA => 
        qtp hA (fun _ hI => r_xor hA rfl rfl) rfl fun a hA => 
        qtp hA (fun _ hI => r_mv hA rfl) rfl fun a hA => 
        qtp hA (fun _ hI => r_ixar1 Tryd.underlying165 sz24 hA rfl rfl (by decide) (by decide)) rfl fun a hA => 
        qtp hA (fun _ hI => r_ldE (j := 0) [] [] Tryd.underlying24 rfl hI rfl hA rfl rfl (by decide)) rfl fun a hA => 
        qtp hA (fun _ hI => r_and hA rfl rfl) rfl fun a hA => 
        qtp hA (fun _ hI => r_mv hA rfl) rfl fun a hA => 
        qtp hA (fun _ hI => r_ixar1 Tryd.underlying165 sz24 hA rfl rfl (by decide) (by decide)) rfl fun a hA => 
        qtp hA (fun _ hI => r_ldE (j := 0) [] [] Tryd.underlying24 rfl hI rfl hA rfl rfl (by decide)) rfl fun a hA => 
        qtp hA (fun _ hI => r_and hA rfl rfl) rfl fun a hA => 
        qtp hA (fun _ hI => r_xor hA rfl rfl) rfl fun a hA => 
        qtp hA (fun _ hI => r_ixar1 Tryd.underlying165 sz24 hA rfl rfl (by decide) (by decide)) rfl fun a hA => 
        qtp hA (fun _ hI => r_ldE (j := 0) [] [] Tryd.underlying24 rfl hI rfl hA rfl rfl (by decide)) rfl fun a hA => 
        qtp hA (fun _ hI => r_ixar1 Tryd.underlying165 sz24 hA rfl rfl (by decide) (by decide)) rfl fun a hA => 
        qtp hA (fun _ hI => r_ldE (j := 0) [] [] Tryd.underlying24 rfl hI rfl hA rfl rfl (by decide)) rfl fun a hA => 
        qtp hA (fun _ hI => r_and hA rfl rfl) rfl fun a hA => 
        qtp hA (fun _ hI => r_xor hA rfl rfl) rfl fun a hA => 
        qtp hA (fun _ hI => r_add hA rfl rfl) rfl fun a hA => 
        qtp hA (fun _ hI => r_as hA rfl) rfl fun a hA => ?_
      refine q_nil fun w hI => ?_
      refine hN11 _ _ <| w_reg <| stm hA rfl rfl fun a hA => 
        stm hA rfl rfl fun a hA => 
        stp hA (r_add hA rfl rfl) rfl fun a hA => 
        stm hA rfl rfl fun a hA => 
        stp hA (r_ixar1 Tryd.underlying165 sz24 hA rfl rfl (by decide) (by decide)) rfl fun a hA => 
        stp hA (r_ldE (j := 0) [] [] Tryd.underlying24 rfl hI rfl hA rfl rfl (by decide)) rfl fun a hA => 
        stp hA (r_ixar1 Tryd.underlying165 sz24 hA rfl rfl (by decide) (by decide)) rfl fun a hA => 
        stp hA (r_ldE (j := 0) [] [] Tryd.underlying24 rfl hI rfl hA rfl rfl (by decide)) rfl fun a hA => 
        stp hA (r_ixar1 Tryd.underlying165 sz24 hA rfl rfl (by decide) (by decide)) rfl fun a hA => 
        stp hA (r_ldE (j := 0) [] [] Tryd.underlying24 rfl hI rfl hA rfl rfl (by decide)) rfl fun a hA => 
        stm hA rfl rfl fun a hA => 
        stp hA (r_add hA rfl rfl) rfl fun a hA => 
        stm hA rfl rfl fun a hA => 
        stp hA (r_ixar1 Tryd.underlying165 sz24 hA rfl rfl (by decide) (by decide)) rfl fun a hA => 
        stp hA (r_ldE (j := 0) [] [] Tryd.underlying24 rfl hI rfl hA rfl rfl (by decide)) rfl fun a hA => 
        stp hA (r_ixar1 Tryd.underlying165 sz24 hA rfl rfl (by decide) (by decide)) rfl fun a hA => 
        stp hA (r_ldE (j := 0) [] [] Tryd.underlying24 rfl hI rfl hA rfl rfl (by decide)) rfl fun a hA => 
        stp hA (r_bldA (cs := [av .u32 8 ([IntKind.u32.wrap ((IntKind.u32.wrap ((IntKind.u32.wrap ((IntKind.u32.wrap ((IntKind.u32.wrap ((s2.getD (7 : Int).toNat 0) + (bXor .u32 (bXor .u32 r3 r4) r5))) + (bXor .u32 (bAnd .u32 (s2.getD (4 : Int).toNat 0) (s2.getD (5 : Int).toNat 0)) (bAnd .u32 (bNot .u32 (s2.getD (4 : Int).toNat 0)) (s2.getD (6 : Int).toNat 0))))) + (r2.getD s1.toNat 0))) + (r1.getD s1.toNat 0))) + (IntKind.u32.wrap ((bXor .u32 (bXor .u32 r6 r7) r8) + (bXor .u32 (bXor .u32 (bAnd .u32 (s2.getD (0 : Int).toNat 0) (s2.getD (1 : Int).toNat 0)) (bAnd .u32 (s2.getD (0 : Int).toNat 0) (s2.getD (2 : Int).toNat 0))) (bAnd .u32 (s2.getD (1 : Int).toNat 0) (s2.getD (2 : Int).toNat 0)))))), s2.getD (0 : Int).toNat 0, s2.getD (1 : Int).toNat 0, s2.getD (2 : Int).toNat 0, IntKind.u32.wrap ((s2.getD (3 : Int).toNat 0) + (IntKind.u32.wrap ((IntKind.u32.wrap ((IntKind.u32.wrap ((IntKind.u32.wrap ((s2.getD (7 : Int).toNat 0) + (bXor .u32 (bXor .u32 r3 r4) r5))) + (bXor .u32 (bAnd .u32 (s2.getD (4 : Int).toNat 0) (s2.getD (5 : Int).toNat 0)) (bAnd .u32 (bNot .u32 (s2.getD (4 : Int).toNat 0)) (s2.getD (6 : Int).toNat 0))))) + (r2.getD s1.toNat 0))) + (r1.getD s1.toNat 0)))), s2.getD (4 : Int).toNat 0, s2.getD (5 : Int).toNat 0, s2.getD (6 : Int).toNat 0])].flatten.toArray) zr165 Tryd.underlying165 sz24 hA rfl (by kernel_rfl)) rfl fun a hA => 
        o_st (j := 0) [] [av .u32 8 s2] [av .u32 8 ([IntKind.u32.wrap ((IntKind.u32.wrap ((IntKind.u32.wrap ((IntKind.u32.wrap ((IntKind.u32.wrap ((s2.getD (7 : Int).toNat 0) + (bXor .u32 (bXor .u32 r3 r4) r5))) + (bXor .u32 (bAnd .u32 (s2.getD (4 : Int).toNat 0) (s2.getD (5 : Int).toNat 0)) (bAnd .u32 (bNot .u32 (s2.getD (4 : Int).toNat 0)) (s2.getD (6 : Int).toNat 0))))) + (r2.getD s1.toNat 0))) + (r1.getD s1.toNat 0))) + (IntKind.u32.wrap ((bXor .u32 (bXor .u32 r6 r7) r8) + (bXor .u32 (bXor .u32 (bAnd .u32 (s2.getD (0 : Int).toNat 0) (s2.getD (1 : Int).toNat 0)) (bAnd .u32 (s2.getD (0 : Int).toNat 0) (s2.getD (2 : Int).toNat 0))) (bAnd .u32 (s2.getD (1 : Int).toNat 0) (s2.getD (2 : Int).toNat 0)))))), s2.getD (0 : Int).toNat 0, s2.getD (1 : Int).toNat 0, s2.getD (2 : Int).toNat 0, IntKind.u32.wrap ((s2.getD (3 : Int).toNat 0) + (IntKind.u32.wrap ((IntKind.u32.wrap ((IntKind.u32.wrap ((IntKind.u32.wrap ((s2.getD (7 : Int).toNat 0) + (bXor .u32 (bXor .u32 r3 r4) r5))) + (bXor .u32 (bAnd .u32 (s2.getD (4 : Int).toNat 0) (s2.getD (5 : Int).toNat 0)) (bAnd .u32 (bNot .u32 (s2.getD (4 : Int).toNat 0)) (s2.getD (6 : Int).toNat 0))))) + (r2.getD s1.toNat 0))) + (r1.getD s1.toNat 0)))), s2.getD (4 : Int).toNat 0, s2.getD (5 : Int).toNat 0, s2.getD (6 : Int).toNat 0])] [] sz165 rfl rfl (fl_cons (one_av _ _ _) fl_nil) hI rfl hA rfl rfl rfl rfl fun w hI => ?_
      refine o_nil <| hN7 _ _ <| w_reg <| stp hA (r_add hA rfl rfl) rfl fun a hA => 
        stm hA rfl rfl fun a hA => ?_
      refine o_nil <| ⟨m1, Nat.lt_succ_self _, IntKind.i64.wrap (s1 + 1), [IntKind.u32.wrap ((IntKind.u32.wrap ((IntKind.u32.wrap ((IntKind.u32.wrap ((IntKind.u32.wrap ((s2.getD (7 : Int).toNat 0) + (bXor .u32 (bXor .u32 r3 r4) r5))) + (bXor .u32 (bAnd .u32 (s2.getD (4 : Int).toNat 0) (s2.getD (5 : Int).toNat 0)) (bAnd .u32 (bNot .u32 (s2.getD (4 : Int).toNat 0)) (s2.getD (6 : Int).toNat 0))))) + (r2.getD s1.toNat 0))) + (r1.getD s1.toNat 0))) + (IntKind.u32.wrap ((bXor .u32 (bXor .u32 r6 r7) r8) + (bXor .u32 (bXor .u32 (bAnd .u32 (s2.getD (0 : Int).toNat 0) (s2.getD (1 : Int).toNat 0)) (bAnd .u32 (s2.getD (0 : Int).toNat 0) (s2.getD (2 : Int).toNat 0))) (bAnd .u32 (s2.getD (1 : Int).toNat 0) (s2.getD (2 : Int).toNat 0)))))), s2.getD (0 : Int).toNat 0, s2.getD (1 : Int).toNat 0, s2.getD (2 : Int).toNat 0, IntKind.u32.wrap ((s2.getD (3 : Int).toNat 0) + (IntKind.u32.wrap ((IntKind.u32.wrap ((IntKind.u32.wrap ((IntKind.u32.wrap ((s2.getD (7 : Int).toNat 0) + (bXor .u32 (bXor .u32 r3 r4) r5))) + (bXor .u32 (bAnd .u32 (s2.getD (4 : Int).toNat 0) (s2.getD (5 : Int).toNat 0)) (bAnd .u32 (bNot .u32 (s2.getD (4 : Int).toNat 0)) (s2.getD (6 : Int).toNat 0))))) + (r2.getD s1.toNat 0))) + (r1.getD s1.toNat 0)))), s2.getD (4 : Int).toNat 0, s2.getD (5 : Int).toNat 0, s2.getD (6 : Int).toNat 0], H, (wrap_in _ _), (arr_lit rfl (by simp only [List.forall_mem_cons]; exact ⟨(wrap_in _ _), (arr_get ws2 _), (arr_get ws2 _), (arr_get ws2 _), (wrap_in _ _), (arr_get ws2 _), (arr_get ws2 _), (arr_get ws2 _), by simp⟩)), hA.sub ⟨rfl, rfl, rfl, rfl, rfl, rfl, trivial⟩, hI⟩
    · obtain ⟨hc1, H⟩ := dF H hc1
      refine w_exit rfl ?_
      have H : some s2 = some z1 := H
      obtain rfl := sI H
      have H := Hk2
      cases sJ H
      exact ⟨ws2, hA.sub ⟨rfl, rfl, rfl, trivial⟩, hI⟩
  · rintro a w ⟨wc1, hA, hI⟩
    have H := Hk1
    obtain ⟨c2, hz11, Hk3⟩ := bB H
    refine w_cut (fun a w => Arr .u32 8 c2 ∧ Fr a 111 [(2, .pointer (some ⟨g1, 0, none⟩)), (4, .pointer (some ⟨g2, 0, none⟩))] ∧ Iv w0 [] μ μ [cel g5 [av .u32 8 c1] 165, cel g4 [av .u32 64 r2] 188, cel g3 [av .u32 64 r1] 188, cel g2 [av .u32 8 (List.replicate 8 0)] 165, cel g1 [av .u32 8 c2] 165] w) ?_ ?_
    · have H := bI hz11
      refine w_seq fun _ hN12 => w_reg <| stm hA rfl rfl fun a hA => ?_
      refine o_nil <| hN12 _ _ <| w_block ?_
      obtain ⟨z2, hz12, Hk4⟩ := bind_some H
      obtain ⟨n2, hn2⟩ := loopO_some hz12
      refine w_loop (fun n a w => ∃ (s3 : Int) (s4 : List Int), loopN (digest_mix.s1 c1) n (s3, s4) = some z2 ∧ InR .i64 s3 ∧ Arr .u32 8 s4 ∧ Fr a 111 [(2, .pointer (some ⟨g1, 0, none⟩)), (4, .pointer (some ⟨g2, 0, none⟩)), (7, .pointer (some ⟨g5, 0, none⟩)), (98, .int .i64 s3)] ∧ Iv w0 [] μ μ [cel g5 [av .u32 8 c1] 165, cel g4 [av .u32 64 r2] 188, cel g3 [av .u32 64 r1] 188, cel g2 [av .u32 8 (List.replicate 8 0)] 165, cel g1 [av .u32 8 s4] 165] w) n2 ⟨0, x0, hn2, (in_lit .i64 0 rfl), hx0, hA.sub ⟨rfl, rfl, rfl, rfl, trivial⟩, hI⟩ ?_
      clear hA hI
      rintro n a w ⟨s3, s4, hn2, ws3, ws4, hA, hI⟩
      obtain ⟨m2, rfl, H⟩ := loopN_bind hn2
      clear hn2
      refine w_seq fun _ hN13 => w_reg <| stp hA (r_lss hA rfl rfl) rfl fun a hA => ?_
      refine o_nil <| hN13 _ _ <| w_seq fun _ hN14 => w_cond hA rfl (fun hc2 => ?_) (fun hc2 => ?_)
      · obtain ⟨hc2, H⟩ := dT H hc2
        refine w_skip <| hN14 _ _ <| w_seq fun _ hN15 => w_block <| w_seq fun _ hN16 => w_reg <| stm hA rfl rfl fun a hA => 
          sta hA rfl rfl fun a hA => ?_
        refine o_nil <| hN16 _ _ ?_
        refine w_any [8] mo hI fun w hI => ?_
        refine gE 0 hA rfl (.inr hI) (fun _ => r_mv hA rfl) fun a hA => ?_
        obtain ⟨hb2, H⟩ := bG H
        refine gE 1 hA rfl (.inr hI) (fun _ => r_ixar1 Tryd.underlying165 sz24 hA rfl rfl hb2.1 hb2.2) fun a hA => ?_
        refine gT 2 hA rfl hI (fun w hI => r_ldE (j := 4) [] [] Tryd.underlying24 rfl hI rfl hA rfl rfl (by omega)) fun a hA => ?_
        refine gE 3 hA rfl (.inr hI) (fun _ => r_mv hA rfl) fun a hA => ?_
        refine gE 4 hA rfl (.inr hI) (fun _ => r_ixar1 Tryd.underlying165 sz24 hA rfl rfl hb2.1 hb2.2) fun a hA => ?_
        refine gT 5 hA rfl hI (fun w hI => r_ldE (j := 0) [] [] Tryd.underlying24 rfl hI rfl hA rfl rfl (by omega)) fun a hA => ?_
        refine gE 6 hA rfl (.inr hI) (fun _ => r_add hA rfl rfl) fun a hA => ?_
        refine gE 7 hA rfl (.inr hI) (fun _ => r_ixar1 Tryd.underlying165 sz24 hA rfl rfl hb2.1 hb2.2) fun a hA => ?_
        refine gF 8 rfl ?_
        refine o_stE (j := 4) [] [] sz24 ws4.1 hI rfl hA rfl rfl rfl (by omega) fun w hI => ?_
        refine o_nil <| ⟨(.inl (by kernel_rfl)), ?_⟩
        refine gN <| hN15 _ _ <| w_reg <| stp hA (r_add hA rfl rfl) rfl fun a hA => 
          stm hA rfl rfl fun a hA => ?_
        refine o_nil <| ⟨m2, Nat.lt_succ_self _, IntKind.i64.wrap (s3 + 1), s4.set s3.toNat (IntKind.u32.wrap ((s4.getD s3.toNat 0) + (c1.getD s3.toNat 0))), H, (wrap_in _ _), (arr_set ws4 _ (wrap_in _ _)), hA.sub ⟨rfl, rfl, rfl, rfl, trivial⟩, hI⟩
      · obtain ⟨hc2, H⟩ := dF H hc2
        refine w_exit rfl ?_
        have H : some s4 = some z2 := H
        obtain rfl := sI H
        have H := Hk4
        cases sJ H
        exact ⟨ws4, hA.sub ⟨rfl, rfl, trivial⟩, hI⟩
    · rintro a w ⟨wc2, hA, hI⟩
      have H := Hk3
      refine w_seq fun _ hN17 => w_reg <| stp hA (r_ldA (j := 4) [] [av .u32 8 c2] [] Tryd.underlying165 rfl sz165 rfl hI rfl hA rfl rfl) rfl fun a hA => 
        o_st (j := 3) [] [av .u32 8 (List.replicate 8 0)] [av .u32 8 c2] [] sz165 rfl rfl (fl_cons (one_av _ _ _) fl_nil) hI rfl hA rfl rfl rfl rfl fun w hI => ?_
      refine o_nil <| hN17 _ _ <| w_ret ?_
      obtain rfl := sJ H
      exact retc Tryd.underlying165 rfl sz165 rfl hI (j := 3) rfl hA Tryd.results123 rfl ⟨_, rfl, rfl, wc2, hI.forget0⟩
set_option maxRecDepth 20000 in
theorem digest_Writer_Write.c (μ : Store) (w0 : World) (hμ : Agr μ w0) (x0 : digestWriter) (vp1 : Value) (cp1 : List Value) (g0 : Nat) (hp1 : Arr .u32 8 x0.s) (hp2 : Els (RI .u8) 1 x0.rest cp1) (hp3 : InR .i64 x0.n) (ho0 : Its μ w0 [cel g0 [av .u32 8 x0.s, [vp1], [.int .i64 x0.n]] 167, row 5 1 vp1 x0.rest.length cp1]) (x1 : List Int) (u1 : Value) (hx1 : Slc (RI .u8) 1 μ u1 x1) (r : digestWriter) (H : digest_Writer_Write.f x0 x1 = some r) :
    Calls Tryd.prog 108 [.pointer (some ⟨g0, 0, none⟩), u1].toArray w0 (fun e w' => ∃ v, e = .returned v ∧ ∃ (vp_1 : Value) (cp_1 : List Value), v = .tuple #[] ∧ Arr .u32 8 r.s ∧ Els (RI .u8) 1 r.rest cp_1 ∧ InR .i64 r.n ∧ Iv w0 (many [cel g0 [av .u32 8 x0.s, [vp1], [.int .i64 x0.n]] 167, row 5 1 vp1 x0.rest.length cp1]).foot μ μ [cel g0 [av .u32 8 r.s, [vp_1], [.int .i64 r.n]] 167, row 5 1 vp_1 r.rest.length cp_1] w') := by
  refine enter Tryd.func108 rfl Tryd.ntmps108 rfl fun a hA => ?_
  have hI := Iv.startN hμ ho0
  have H := bI H
  refine w_seq fun _ hN1 => w_reg <| stm hA rfl rfl fun a hA => ?_
  obtain ⟨r1, hr1, H⟩ := bB H
  refine o_call _ cf122 hA rfl (digest_Writer_state.c μ _ hI.agr (⟨x0.s, x0.rest, x0.n⟩ : digestWriter) vp1 cp1 g0 hp1 hp2 hp3 (hI.handN 2) r1 hr1) rfl fun v1 a w hz1 hA => ?_
  obtain ⟨rfl, hw1, hi1⟩ := hz1
  have hI := hI.back2 hi1
  refine o_new [av .u32 8 (List.replicate 8 0)] zr165 hI hA rfl fun g1 a w hA hI hg1 => 
    o_st (j := 0) [] [av .u32 8 (List.replicate 8 0)] [av .u32 8 r1] [] sz165 rfl rfl (fl_cons (one_av _ _ _) fl_nil) hI rfl hA rfl rfl rfl rfl fun w hI => ?_
  refine o_nil <| hN1 _ _ <| w_seq fun _ hN2 => w_reg <| stm hA rfl rfl fun a hA => 
    stp hA (r_nilc hA rfl) rfl fun a hA => 
    stp hA (r_fd (k := 9) Tryd.underlying167 rfl sz2 hA rfl rfl) rfl fun a hA => 
    stp hA (r_ld1 (j := 1) [av .u32 8 x0.s, [vp1]] [] Tryd.underlying2 rfl hI rfl hA rfl rfl) rfl fun a hA => 
    stm hA rfl rfl fun a hA => ?_
  obtain ⟨_, hsl1⟩ := Slc.sv hx1
  refine stp hA (r_slen Tryd.underlying40 hsl1 hA rfl) rfl fun a hA => 
    stp hA (r_add hA rfl rfl) rfl fun a hA => 
    stp hA (r_nilc hA rfl) rfl fun a hA => 
    stp hA (r_fd (k := 9) Tryd.underlying167 rfl sz2 hA rfl rfl) rfl fun a hA => 
    o_st (j := 1) [av .u32 8 x0.s, [vp1]] [[.int .i64 x0.n]] [[.int .i64 (IntKind.i64.wrap (x0.n + (x1.length : Int)))]] [] sz2 rfl rfl (fl_cons (oneC rfl) fl_nil) hI rfl hA rfl rfl rfl rfl fun w hI => ?_
  refine o_nil <| hN2 _ _ <| w_seq fun _ hN3 => w_reg <| stm hA rfl rfl fun a hA => 
    stm hA rfl rfl fun a hA => 
    stp hA (r_nilc hA rfl) rfl fun a hA => 
    stp hA (r_fd (k := 8) Tryd.underlying167 rfl sz40 hA rfl rfl) rfl fun a hA => 
    stp hA (r_ld1 (j := 1) [av .u32 8 x0.s] [[.int .i64 (IntKind.i64.wrap (x0.n + (x1.length : Int)))]] Tryd.underlying40 rfl hI rfl hA rfl rfl) rfl fun a hA => 
    stm hA rfl rfl fun a hA => ?_
  obtain ⟨cs1, hE1, hsv1⟩ : Slc (RI .u8) 1 μ u1 x1 := id (hx1)
  obtain ⟨hb1, H⟩ := bG H
  have hE2 := hp2.app hE1
  refine o_appG (xs := (x0.rest : List Int)) (ys := (x1 : List Int)) (M := 140737488355328) 2 te5 Tryd.underlying40 hI rfl hA rfl rfl (src_sl hI.agr hsv1 hE1.len) hE1.len (hE1.ones (one_RI _)) hb1 rfl fun v2 a w hA hI => 
    stp hA (r_nilc hA rfl) rfl fun a hA => 
    stp hA (r_fd (k := 8) Tryd.underlying167 rfl sz40 hA rfl rfl) rfl fun a hA => ?_
  have hone := own_one hI (j := 2) rfl
  have hcel := own_cell hI (j := 2) rfl
  refine o_st (j := 1) [av .u32 8 x0.s] [[vp1]] [[v2]] [[.int .i64 (IntKind.i64.wrap (x0.n + (x1.length : Int)))]] sz40 rfl rfl (by intro c hc; simp at hc; subst hc; exact hone) hI rfl hA rfl rfl hcel rfl fun w hI => ?_
  refine o_nil <| hN3 _ _ <| w_seq fun _ hN4 => w_reg <| sta hA rfl rfl fun a hA => ?_
  refine o_nil <| hN4 _ _ ?_
  obtain ⟨⟨c1, c2, c3⟩, hz2, Hk1⟩ := bB H
  refine w_cut (fun a w => ∃ (μ1 : Store) (vvc3 : Value), μ.le μ1 ∧ InR .i64 c1 ∧ Arr .u32 8 c2 ∧ Slc (RI .u8) 1 μ1 vvc3 c3 ∧ Fr a 60 [(0, .pointer (some ⟨g0, 0, none⟩)), (4, .pointer (some ⟨g1, 0, none⟩)), (5, .int .i64 c1)] ∧ Iv w0 (many [cel g0 [av .u32 8 x0.s, [vp1], [.int .i64 x0.n]] 167, row 5 1 vp1 x0.rest.length cp1]).foot μ μ1 [cel g1 [av .u32 8 c2] 165, cel g0 [av .u32 8 x0.s, [vvc3], [.int .i64 (IntKind.i64.wrap (x0.n + (x1.length : Int)))]] 167] w) ?_ ?_
  · have H := bI hz2
    refine w_block ?_
    obtain ⟨μ2, hle2, hsv2, hI⟩ := hI.freezeRow 2 rfl
    have hS1 : Slc (RI .u8) 1 μ2 v2 (x0.rest ++ x1) := ⟨_, hE2, hsv2⟩
    obtain ⟨z1, hz3, Hk2⟩ := bind_some H
    obtain ⟨n1, hn1⟩ := loopO_some hz3
    refine w_loop (fun n a w => ∃ (s1 : Int) (s2 : List Int) (s3 : List Int) (μ3 : Store) (vvs3 : Value), loopN (digest_Writer_Write.s0) n (s1, s2, s3) = some z1 ∧ μ2.le μ3 ∧ InR .i64 s1 ∧ Arr .u32 8 s2 ∧ Slc (RI .u8) 1 μ3 vvs3 s3 ∧ Fr a 60 [(0, .pointer (some ⟨g0, 0, none⟩)), (4, .pointer (some ⟨g1, 0, none⟩)), (5, .int .i64 s1)] ∧ Iv w0 (many [cel g0 [av .u32 8 x0.s, [vp1], [.int .i64 x0.n]] 167, row 5 1 vp1 x0.rest.length cp1]).foot μ μ3 [cel g1 [av .u32 8 s2] 165, cel g0 [av .u32 8 x0.s, [vvs3], [.int .i64 (IntKind.i64.wrap (x0.n + (x1.length : Int)))]] 167] w) n1 ⟨0, r1, x0.rest ++ x1, μ2, v2, hn1, (Store.le.refl _), (in_lit .i64 0 rfl), hw1, hS1, hA.sub ⟨rfl, rfl, rfl, trivial⟩, hI⟩ ?_
    clear hA hI
    rintro n a w ⟨s1, s2, s3, μ3, vvs3, hn1, hle3, ws1, ws2, ws3, hA, hI⟩
    obtain ⟨m1, rfl, H⟩ := loopN_bind hn1
    clear hn1
    refine w_seq fun _ hN5 => w_seq fun _ hN6 => w_reg <| stm hA rfl rfl fun a hA => 
      stp hA (r_add hA rfl rfl) rfl fun a hA => 
      stm hA rfl rfl fun a hA => 
      stp hA (r_nilc hA rfl) rfl fun a hA => 
      stp hA (r_fd (k := 8) Tryd.underlying167 rfl sz40 hA rfl rfl) rfl fun a hA => 
      stp hA (r_ld1 (j := 1) [av .u32 8 x0.s] [[.int .i64 (IntKind.i64.wrap (x0.n + (x1.length : Int)))]] Tryd.underlying40 rfl hI rfl hA rfl rfl) rfl fun a hA => ?_
    obtain ⟨_, hsl2⟩ := Slc.sv ws3
    refine stp hA (r_slen Tryd.underlying40 hsl2 hA rfl) rfl fun a hA => 
      stp hA (r_leq hA rfl rfl) rfl fun a hA => ?_
    refine o_nil <| hN6 _ _ <| w_cond hA rfl (fun hc1 => ?_) (fun hc1 => ?_)
    · obtain ⟨hc1, H⟩ := dT H hc1
      refine w_skip <| hN5 _ _ <| w_seq fun _ hN7 => w_block ?_
      refine w_any [10] mo hI fun w hI => ?_
      refine gT 0 hA rfl hI (fun w hI => r_ldA (j := 0) [] [av .u32 8 s2] [] Tryd.underlying165 rfl sz165 rfl hI rfl hA rfl rfl) fun a hA => ?_
      refine gE 1 hA rfl (.inr hI) (fun _ => r_mv hA rfl) fun a hA => ?_
      refine gE 2 hA rfl (.inr hI) (fun _ => r_nilc hA rfl) fun a hA => ?_
      refine gE 3 hA rfl (.inr hI) (fun _ => r_fd (k := 8) Tryd.underlying167 rfl sz40 hA rfl rfl) fun a hA => ?_
      refine gT 4 hA rfl hI (fun w hI => r_ld1 (j := 1) [av .u32 8 x0.s] [[.int .i64 (IntKind.i64.wrap (x0.n + (x1.length : Int)))]] Tryd.underlying40 rfl hI rfl hA rfl rfl) fun a hA => ?_
      refine gE 5 hA rfl (.inr hI) (fun _ => r_mv hA rfl) fun a hA => ?_
      refine gE 6 hA rfl (.inr hI) (fun _ => r_mv hA rfl) fun a hA => ?_
      refine gE 7 hA rfl (.inr hI) (fun _ => r_add hA rfl rfl) fun a hA => ?_
      obtain ⟨hb2, H⟩ := bG H
      obtain ⟨v3, hS2, hr2⟩ := r_sl (P := Tryd.prog) (t := 40) (x := .tmp 40) (l := (some (.tmp 41))) (h := (some (.tmp 43))) (i := s1) (j := IntKind.i64.wrap (s1 + 64)) Tryd.underlying40 sz5 ws3 hA rfl rfl rfl (by have hq := hb2; omega) (by have hq := hb2; omega) (by have hq := hb2; omega)
      refine gE 8 hA rfl (.inr hI) (fun _ => hr2 _ _ _ _ _ _) fun a hA => ?_
      refine gF 9 rfl ?_
      obtain ⟨r2, hr3, H⟩ := bB H
      refine o_callp (u := .agg [av .u32 8 r2].flatten.toArray) cf123 hA rfl hI (digest_mix.c μ3 _ hI.agr s2 ws2 ((s3.take (IntKind.i64.wrap (s1 + 64)).toNat).drop (s1).toNat) v3 hS2 r2 hr3) rfl fun a w hz4 hI hA => ?_
      refine o_nil <| ⟨(.inr hI), ?_⟩
      refine gF 10 rfl ?_
      refine o_st (j := 0) [] [av .u32 8 s2] [av .u32 8 r2] [] sz165 rfl rfl (fl_cons (one_av _ _ _) fl_nil) hI rfl hA rfl rfl rfl rfl fun w hI => ?_
      refine o_nil <| ⟨(.inl (by kernel_rfl)), ?_⟩
      refine gN <| hN7 _ _ <| w_reg <| stm hA rfl rfl fun a hA => 
        stp hA (r_add hA rfl rfl) rfl fun a hA => 
        sta hA rfl rfl fun a hA => ?_
      refine o_nil <| ⟨m1, Nat.lt_succ_self _, IntKind.i64.wrap (s1 + 64), r2, s3, μ3, vvs3, H, hle3, (wrap_in _ _), hz4, ws3, hA.sub ⟨rfl, rfl, rfl, trivial⟩, hI⟩
    · obtain ⟨hc1, H⟩ := dF H hc1
      refine w_exit rfl ?_
      have H : some (s1, s2, s3) = some z1 := H
      obtain rfl := sI H
      have H := Hk2
      cases sJ H
      exact ⟨μ3, vvs3, (hle2.trans hle3), ws1, ws2, ws3, hA.sub ⟨rfl, rfl, rfl, trivial⟩, hI⟩
  · rintro a w ⟨μ1, vvc3, hle1, wc1, wc2, wc3, hA, hI⟩
    have H := Hk1
    refine w_any [12, 15] mo hI fun w hI => ?_
    refine gE 0 hA rfl (.inr hI) (fun _ => r_mv hA rfl) fun a hA => ?_
    refine gE 1 hA rfl (.inr hI) (fun _ => r_mv hA rfl) fun a hA => ?_
    refine gT 2 hA rfl hI (fun w hI => r_ldA (j := 0) [] [av .u32 8 c2] [] Tryd.underlying165 rfl sz165 rfl hI rfl hA rfl rfl) fun a hA => ?_
    refine gE 3 hA rfl (.inr hI) (fun _ => r_mv hA rfl) fun a hA => ?_
    refine gE 4 hA rfl (.inr hI) (fun _ => r_nilc hA rfl) fun a hA => ?_
    refine gE 5 hA rfl (.inr hI) (fun _ => r_fd (k := 8) Tryd.underlying167 rfl sz40 hA rfl rfl) fun a hA => ?_
    refine gT 6 hA rfl hI (fun w hI => r_ld1 (j := 1) [av .u32 8 x0.s] [[.int .i64 (IntKind.i64.wrap (x0.n + (x1.length : Int)))]] Tryd.underlying40 rfl hI rfl hA rfl rfl) fun a hA => ?_
    refine gE 7 hA rfl (.inr hI) (fun _ => r_mv hA rfl) fun a hA => ?_
    obtain ⟨hb3, H⟩ := bG H
    obtain ⟨v4, hS3, hr4⟩ := r_sl (P := Tryd.prog) (t := 40) (x := .tmp 52) (l := (some (.tmp 53))) (h := none) (i := c1) (j := (c3.length : Int)) Tryd.underlying40 sz5 wc3 hA rfl rfl rfl (by have hq := hb3; omega) (by have hq := hb3; omega) (by have hq := hb3; omega)
    refine gE 8 hA rfl (.inr hI) (fun _ => hr4 _ _ _ _ _ _) fun a hA => ?_
    refine gF 9 rfl ?_
    obtain ⟨r3, hr5, H⟩ := bB H
    refine o_call _ cf107 hA rfl (bytes_Clone.c μ1 _ hI.agr ((c3.take ((c3.length : Int)).toNat).drop (c1).toNat) v4 hS3 r3 hr5) rfl fun v5 a w hz5 hA => ?_
    obtain ⟨_, cs3, rfl, hE3, hi2⟩ := hz5
    have hI := hI.call hi2
    refine o_nil <| ⟨(.inr (hI.sl [1, 2] rfl)), ?_⟩
    refine gE 10 hA rfl (.inr (hI.sl [1, 2] rfl)) (fun _ => r_nilc hA rfl) fun a hA => ?_
    refine gE 11 hA rfl (.inr (hI.sl [1, 2] rfl)) (fun _ => r_fd (k := 0) Tryd.underlying167 rfl sz165 hA rfl rfl) fun a hA => ?_
    refine gF 12 rfl ?_
    refine o_st (j := 2) [] [av .u32 8 x0.s] [av .u32 8 c2] [[vvc3], [.int .i64 (IntKind.i64.wrap (x0.n + (x1.length : Int)))]] sz165 rfl rfl (fl_cons (one_av _ _ _) fl_nil) hI rfl hA rfl rfl rfl rfl fun w hI => ?_
    refine o_nil <| ⟨(.inl (by kernel_rfl)), ?_⟩
    refine gE 13 hA rfl (.inl (by kernel_rfl)) (fun _ => r_nilc hA rfl) fun a hA => ?_
    refine gE 14 hA rfl (.inl (by kernel_rfl)) (fun _ => r_fd (k := 8) Tryd.underlying167 rfl sz40 hA rfl rfl) fun a hA => ?_
    refine gF 15 rfl ?_
    have hone := own_one hI (j := 0) rfl
    have hcel := own_cell hI (j := 0) rfl
    refine o_st (j := 2) [av .u32 8 c2] [[vvc3]] [[v5]] [[.int .i64 (IntKind.i64.wrap (x0.n + (x1.length : Int)))]] sz40 rfl rfl (by intro c hc; simp at hc; subst hc; exact hone) hI rfl hA rfl rfl hcel rfl fun w hI => ?_
    refine o_nil <| ⟨(.inl (by kernel_rfl)), ?_⟩
    refine gN ?_
    obtain rfl := sJ H
    exact ret0 hA Tryd.results108 ⟨_, rfl, v5, cs3, rfl, wc2, hE3, (wrap_in _ _), ((hI.sl [2, 0] rfl).less (Store.le.refl _) hI.le)⟩
set_option maxRecDepth 20000 in
theorem digest_Writer_Sum.c (μ : Store) (w0 : World) (hμ : Agr μ w0) (x0 : digestWriter) (vp1 : Value) (cp1 : List Value) (g0 : Nat) (hp1 : Arr .u32 8 x0.s) (hp2 : Els (RI .u8) 1 x0.rest cp1) (hp3 : InR .i64 x0.n) (ho0 : Its μ w0 [cel g0 [av .u32 8 x0.s, [vp1], [.int .i64 x0.n]] 167, row 5 1 vp1 x0.rest.length cp1]) (r : List Int) (H : digest_Writer_Sum.f x0 = some r) :
    Calls Tryd.prog 109 [.pointer (some ⟨g0, 0, none⟩)].toArray w0 (fun e w' => ∃ v, e = .returned v ∧ v = .agg [av .u8 32 r].flatten.toArray ∧ Arr .u8 32 r ∧ Iv w0 (many [cel g0 [av .u32 8 x0.s, [vp1], [.int .i64 x0.n]] 167, row 5 1 vp1 x0.rest.length cp1]).foot μ μ [cel g0 [av .u32 8 x0.s, [vp1], [.int .i64 x0.n]] 167, row 5 1 vp1 x0.rest.length cp1] w') := by
  refine enter Tryd.func109 rfl Tryd.ntmps109 rfl fun a hA => ?_
  have hI := Iv.startN hμ ho0
  have H := bI H
  refine w_seq fun _ hN1 => w_reg <| o_new [av .u8 32 (List.replicate 32 0)] zr26 hI hA rfl fun g1 a w hA hI hg1 => ?_
  refine o_nil <| hN1 _ _ <| w_seq fun _ hN2 => w_reg <| stm hA rfl rfl fun a hA => 
    stp hA (r_nilc hA rfl) rfl fun a hA => 
    stp hA (r_fd (k := 8) Tryd.underlying167 rfl sz40 hA rfl rfl) rfl fun a hA => 
    stp hA (r_ld1 (j := 1) [av .u32 8 x0.s] [[.int .i64 x0.n]] Tryd.underlying40 rfl hI rfl hA rfl rfl) rfl fun a hA => ?_
  obtain ⟨r1, hr1, H⟩ := bB H
  refine o_callW (fun w v w' => ∃ (v0 : Value) (c0 : List Value), v = v0 ∧ Els (RI .u8) 1 r1 c0 ∧ Iv w [] μ μ [row 5 1 v0 r1.length c0] w') cf107 hA rfl ((by obtain ⟨μ1, hle1, hsv1, hI⟩ := hI.freezeRow 2 rfl; have hS1 : Slc (RI .u8) 1 μ1 vp1 x0.rest := ⟨_, hp2, hsv1⟩; exact (bytes_Clone.c μ1 _ hI.agr x0.rest vp1 hS1 r1 hr1).mono fun _ _ ⟨v, he, b0, b1, hv, f0, hi⟩ => ⟨v, he, b0, b1, hv, f0, hi.low hle1⟩)) rfl fun v1 a w hz1 hA => ?_
  obtain ⟨_, cs1, rfl, hE1, hi1⟩ := hz1
  have hI := hI.call hi1
  have hE2 : Els (RI .u8) 1 ([128] : List Int) _ := (Els.cons (c := [[.int .u8 128]].flatten) ⟨rfl, (in_lit .u8 128 rfl)⟩ rfl Els.nil)
  refine o_bsl ([[.int .u8 128]].flatten ++ ([])) te5 zr5 Tryd.underlying40 hI hA rfl rfl rfl rfl (by kernel_rfl) rfl fun g2 a w hA hI => ?_
  generalize hcs : ([[.int .u8 128]].flatten ++ ([]) : List Value) = cs2 at hE2 hI
  clear hcs
  obtain ⟨hb1, H⟩ := bG H
  have hE4 := hE1.app hE2
  refine o_appG (xs := (r1 : List Int)) (ys := (([128] : List Int) : List Int)) (M := 140737488355328) 1 te5 Tryd.underlying40 hI rfl hA rfl rfl (src_row hI (j := 0) rfl) hE2.len (hE2.ones (one_RI _)) hb1 rfl fun v2 a w hA hI => 
    sta hA rfl rfl fun a hA => ?_
  refine o_nil <| hN2 _ _ ?_
  obtain ⟨c1, hz2, Hk1⟩ := bB H
  refine w_cut (fun a w => ∃ (vvc1 : Value) (ccc1 : List Value), Els (RI .u8) 1 c1 ccc1 ∧ Fr a 79 [(0, .pointer (some ⟨g0, 0, none⟩)), (2, .pointer (some ⟨g1, 0, none⟩)), (3, vvc1)] ∧ Iv w0 (many [cel g0 [av .u32 8 x0.s, [vp1], [.int .i64 x0.n]] 167, row 5 1 vp1 x0.rest.length cp1]).foot μ μ [row 5 1 vvc1 c1.length ccc1, row 5 1 (.slice (some ⟨g2, 0, none⟩) 1 1) ([128] : List Int).length cs2, cel g1 [av .u8 32 (List.replicate 32 0)] 26, cel g0 [av .u32 8 x0.s, [vp1], [.int .i64 x0.n]] 167, row 5 1 vp1 x0.rest.length cp1] w) ?_ ?_
  · have H := bI hz2
    refine w_block ?_
    obtain ⟨z1, hz3, Hk2⟩ := bind_some H
    obtain ⟨n1, hn1⟩ := loopO_some hz3
    refine w_loop (fun n a w => ∃ (s1 : List Int) (vvs1 : Value) (ccs1 : List Value), loopN (digest_Writer_Sum.s0) n s1 = some z1 ∧ Els (RI .u8) 1 s1 ccs1 ∧ Fr a 79 [(0, .pointer (some ⟨g0, 0, none⟩)), (2, .pointer (some ⟨g1, 0, none⟩)), (3, vvs1)] ∧ Iv w0 (many [cel g0 [av .u32 8 x0.s, [vp1], [.int .i64 x0.n]] 167, row 5 1 vp1 x0.rest.length cp1]).foot μ μ [row 5 1 (.slice (some ⟨g2, 0, none⟩) 1 1) ([128] : List Int).length cs2, row 5 1 vvs1 s1.length ccs1, cel g1 [av .u8 32 (List.replicate 32 0)] 26, cel g0 [av .u32 8 x0.s, [vp1], [.int .i64 x0.n]] 167, row 5 1 vp1 x0.rest.length cp1] w) n1 ⟨r1 ++ ([128] : List Int), v2, cs1 ++ cs2, hn1, hE4, hA.sub ⟨rfl, rfl, rfl, trivial⟩, hI⟩ ?_
    clear hA hI
    rintro n a w ⟨s1, vvs1, ccs1, hn1, ws1, hA, hI⟩
    obtain ⟨m1, rfl, H⟩ := loopN_bind hn1
    clear hn1
    refine w_seq fun _ hN3 => w_seq fun _ hN4 => w_reg <| stm hA rfl rfl fun a hA => ?_
    have hlen1 := Iv.row_in hI (j := 1) rfl
    refine stp hA (r_rlen (xs := 0) Tryd.underlying40 hI (j := 1) rfl hA rfl) rfl fun a hA => 
      stp hA (r_rem hA rfl rfl (by decide)) rfl fun a hA => 
      stp hA (r_neq hA rfl rfl) rfl fun a hA => ?_
    refine o_nil <| hN4 _ _ <| w_cond hA rfl (fun hc1 => ?_) (fun hc1 => ?_)
    · obtain ⟨hc1, H⟩ := dT H hc1
      refine w_skip <| hN3 _ _ <| w_block <| w_reg <| stm hA rfl rfl fun a hA => ?_
      have hE5 : Els (RI .u8) 1 ([0] : List Int) _ := (Els.cons (c := [[.int .u8 0]].flatten) ⟨rfl, (in_lit .u8 0 rfl)⟩ rfl Els.nil)
      refine o_bsl ([[.int .u8 0]].flatten ++ ([])) te5 zr5 Tryd.underlying40 hI hA rfl rfl rfl rfl (by kernel_rfl) rfl fun g3 a w hA hI => ?_
      generalize hcs : ([[.int .u8 0]].flatten ++ ([]) : List Value) = cs5 at hE5 hI
      clear hcs
      obtain ⟨hb2, H⟩ := bG H
      have hE7 := ws1.app hE5
      refine o_appG (xs := (s1 : List Int)) (ys := (([0] : List Int) : List Int)) (M := 140737488355328) 2 te5 Tryd.underlying40 hI rfl hA rfl rfl (src_row hI (j := 0) rfl) hE5.len (hE5.ones (one_RI _)) hb2 rfl fun v3 a w hA hI => 
        sta hA rfl rfl fun a hA => ?_
      refine o_nil <| ⟨m1, Nat.lt_succ_self _, s1 ++ ([0] : List Int), v3, ccs1 ++ cs5, H, hE7, hA.sub ⟨rfl, rfl, rfl, trivial⟩, (hI.sl [1, 2, 3, 4, 5] rfl)⟩
    · obtain ⟨hc1, H⟩ := dF H hc1
      refine w_exit rfl ?_
      have H : some s1 = some z1 := H
      obtain rfl := sI H
      have H := Hk2
      cases sJ H
      exact ⟨vvs1, ccs1, ws1, hA.sub ⟨rfl, rfl, rfl, trivial⟩, (hI.sl [1, 0, 2, 3, 4] rfl)⟩
  · rintro a w ⟨vvc1, ccc1, wc1, hA, hI⟩
    have H := Hk1
    obtain ⟨c2, hz4, Hk3⟩ := bB H
    refine w_cut (fun a w => ∃ (vvc2 : Value) (ccc2 : List Value), Els (RI .u8) 1 c2 ccc2 ∧ Fr a 79 [(0, .pointer (some ⟨g0, 0, none⟩)), (2, .pointer (some ⟨g1, 0, none⟩)), (3, vvc2)] ∧ Iv w0 (many [cel g0 [av .u32 8 x0.s, [vp1], [.int .i64 x0.n]] 167, row 5 1 vp1 x0.rest.length cp1]).foot μ μ [row 5 1 vvc2 c2.length ccc2, row 5 1 (.slice (some ⟨g2, 0, none⟩) 1 1) ([128] : List Int).length cs2, cel g1 [av .u8 32 (List.replicate 32 0)] 26, cel g0 [av .u32 8 x0.s, [vp1], [.int .i64 x0.n]] 167, row 5 1 vp1 x0.rest.length cp1] w) ?_ ?_
    · have H := bI hz4
      refine w_seq fun _ hN5 => w_reg <| sta hA rfl rfl fun a hA => ?_
      refine o_nil <| hN5 _ _ <| w_block ?_
      obtain ⟨z2, hz5, Hk4⟩ := bind_some H
      obtain ⟨n2, hn2⟩ := loopO_some hz5
      refine w_loop (fun n a w => ∃ (s2 : List Int) (s3 : Int) (vvs2 : Value) (ccs2 : List Value), loopN (digest_Writer_Sum.s1 x0) n (s2, s3) = some z2 ∧ Els (RI .u8) 1 s2 ccs2 ∧ InR .i64 s3 ∧ Fr a 79 [(0, .pointer (some ⟨g0, 0, none⟩)), (2, .pointer (some ⟨g1, 0, none⟩)), (3, vvs2), (4, .int .i64 s3)] ∧ Iv w0 (many [cel g0 [av .u32 8 x0.s, [vp1], [.int .i64 x0.n]] 167, row 5 1 vp1 x0.rest.length cp1]).foot μ μ [row 5 1 vvs2 s2.length ccs2, row 5 1 (.slice (some ⟨g2, 0, none⟩) 1 1) ([128] : List Int).length cs2, cel g1 [av .u8 32 (List.replicate 32 0)] 26, cel g0 [av .u32 8 x0.s, [vp1], [.int .i64 x0.n]] 167, row 5 1 vp1 x0.rest.length cp1] w) n2 ⟨c1, 7, vvc1, ccc1, hn2, wc1, (in_lit .i64 7 rfl), hA.sub ⟨rfl, rfl, rfl, rfl, trivial⟩, hI⟩ ?_
      clear hA hI
      rintro n a w ⟨s2, s3, vvs2, ccs2, hn2, ws2, ws3, hA, hI⟩
      obtain ⟨m2, rfl, H⟩ := loopN_bind hn2
      clear hn2
      refine w_seq fun _ hN6 => w_seq fun _ hN7 => w_reg <| stm hA rfl rfl fun a hA => 
        stp hA (r_geq hA rfl rfl) rfl fun a hA => ?_
      refine o_nil <| hN7 _ _ <| w_cond hA rfl (fun hc2 => ?_) (fun hc2 => ?_)
      · obtain ⟨hc2, H⟩ := dT H hc2
        refine w_skip <| hN6 _ _ <| w_seq fun _ hN8 => w_block <| w_reg <| stm hA rfl rfl fun a hA => 
          stm hA rfl rfl fun a hA => 
          stp hA (r_nilc hA rfl) rfl fun a hA => 
          stp hA (r_fd (k := 9) Tryd.underlying167 rfl sz2 hA rfl rfl) rfl fun a hA => 
          stp hA (r_ld1 (j := 3) [av .u32 8 x0.s, [vp1]] [] Tryd.underlying2 rfl hI rfl hA rfl rfl) rfl fun a hA => 
          stp hA (r_conv Tryd.underlying2 Tryd.underlying34 hA rfl) rfl fun a hA => 
          stp hA (r_shl hA rfl rfl (by decide)) rfl fun a hA => 
          stm hA rfl rfl fun a hA => 
          stp hA (r_mul hA rfl rfl) rfl fun a hA => ?_
        obtain ⟨hb3, H⟩ := bG H
        refine stp hA (r_shr hA rfl rfl hb3) rfl fun a hA => 
          stp hA (r_conv Tryd.underlying34 Tryd.underlying5 hA rfl) rfl fun a hA => ?_
        have hE8 : Els (RI .u8) 1 ([IntKind.u8.wrap (sR .u64 (sL .u64 (IntKind.u64.wrap x0.n) 3) (IntKind.i64.wrap (8 * s3)))] : List Int) _ := (Els.cons (c := [[.int .u8 (IntKind.u8.wrap (sR .u64 (sL .u64 (IntKind.u64.wrap x0.n) 3) (IntKind.i64.wrap (8 * s3))))]].flatten) ⟨rfl, (wrap_in _ _)⟩ rfl Els.nil)
        refine o_bsl ([[.int .u8 (IntKind.u8.wrap (sR .u64 (sL .u64 (IntKind.u64.wrap x0.n) 3) (IntKind.i64.wrap (8 * s3))))]].flatten ++ ([])) te5 zr5 Tryd.underlying40 hI hA rfl rfl rfl rfl (by kernel_rfl) rfl fun g4 a w hA hI => ?_
        generalize hcs : ([[.int .u8 (IntKind.u8.wrap (sR .u64 (sL .u64 (IntKind.u64.wrap x0.n) 3) (IntKind.i64.wrap (8 * s3))))]].flatten ++ ([]) : List Value) = cs8 at hE8 hI
        clear hcs
        obtain ⟨hb4, H⟩ := bG H
        have hE10 := ws2.app hE8
        refine o_appG (xs := (s2 : List Int)) (ys := (([IntKind.u8.wrap (sR .u64 (sL .u64 (IntKind.u64.wrap x0.n) 3) (IntKind.i64.wrap (8 * s3)))] : List Int) : List Int)) (M := 140737488355328) 1 te5 Tryd.underlying40 hI rfl hA rfl rfl (src_row hI (j := 0) rfl) hE8.len (hE8.ones (one_RI _)) hb4 rfl fun v4 a w hA hI => 
          sta hA rfl rfl fun a hA => ?_
        refine o_nil <| hN8 _ _ <| w_reg <| stm hA rfl rfl fun a hA => 
          stp hA (r_sub hA rfl rfl) rfl fun a hA => 
          sta hA rfl rfl fun a hA => ?_
        refine o_nil <| ⟨m2, Nat.lt_succ_self _, s2 ++ ([IntKind.u8.wrap (sR .u64 (sL .u64 (IntKind.u64.wrap x0.n) 3) (IntKind.i64.wrap (8 * s3)))] : List Int), IntKind.i64.wrap (s3 - 1), v4, ccs2 ++ cs8, H, hE10, (wrap_in _ _), hA.sub ⟨rfl, rfl, rfl, rfl, trivial⟩, (hI.sl [1, 2, 3, 4, 5] rfl)⟩
      · obtain ⟨hc2, H⟩ := dF H hc2
        refine w_exit rfl ?_
        have H : some s2 = some z2 := H
        obtain rfl := sI H
        have H := Hk4
        cases sJ H
        exact ⟨vvs2, ccs2, ws2, hA.sub ⟨rfl, rfl, rfl, trivial⟩, hI⟩
    · rintro a w ⟨vvc2, ccc2, wc2, hA, hI⟩
      have H := Hk3
      refine w_seq fun _ hN9 => w_reg <| stm hA rfl rfl fun a hA => ?_
      obtain ⟨r2, hr2, H⟩ := bB H
      have hI := hI.sl [3, 4, 0, 1, 2] rfl
      refine o_call _ cf122 hA rfl (digest_Writer_state.c μ _ hI.agr (⟨x0.s, x0.rest, x0.n⟩ : digestWriter) vp1 cp1 g0 hp1 hp2 hp3 (hI.handN 2) r2 hr2) rfl fun v5 a w hz6 hA => ?_
      obtain ⟨rfl, hw1, hi2⟩ := hz6
      have hI := hI.back2 hi2
      refine o_new [av .u32 8 (List.replicate 8 0)] zr165 hI hA rfl fun g5 a w hA hI hg5 => 
        o_st (j := 0) [] [av .u32 8 (List.replicate 8 0)] [av .u32 8 r2] [] sz165 rfl rfl (fl_cons (one_av _ _ _) fl_nil) hI rfl hA rfl rfl rfl rfl fun w hI => ?_
      refine o_nil <| hN9 _ _ ?_
      obtain ⟨⟨c3, c4⟩, hz7, Hk5⟩ := bB H
      refine w_cut (fun a w => ∃ (μ2 : Store) (vvc3 : Value), μ.le μ2 ∧ Slc (RI .u8) 1 μ2 vvc3 c3 ∧ Arr .u32 8 c4 ∧ Fr a 79 [(2, .pointer (some ⟨g1, 0, none⟩)), (3, vvc3), (5, .pointer (some ⟨g5, 0, none⟩))] ∧ Iv w0 (many [cel g0 [av .u32 8 x0.s, [vp1], [.int .i64 x0.n]] 167, row 5 1 vp1 x0.rest.length cp1]).foot μ μ2 [cel g5 [av .u32 8 c4] 165, cel g0 [av .u32 8 x0.s, [vp1], [.int .i64 x0.n]] 167, row 5 1 vp1 x0.rest.length cp1, row 5 1 (.slice (some ⟨g2, 0, none⟩) 1 1) ([128] : List Int).length cs2, cel g1 [av .u8 32 (List.replicate 32 0)] 26] w) ?_ ?_
      · have H := bI hz7
        refine w_seq fun _ hN10 => w_reg <| sta hA rfl rfl fun a hA => ?_
        refine o_nil <| hN10 _ _ <| w_block ?_
        obtain ⟨μ3, hle3, hsv5, hI⟩ := hI.freezeRow 3 rfl
        have hS2 : Slc (RI .u8) 1 μ3 vvc2 c2 := ⟨_, wc2, hsv5⟩
        obtain ⟨z3, hz8, Hk6⟩ := bind_some H
        obtain ⟨n3, hn3⟩ := loopO_some hz8
        refine w_loop (fun n a w => ∃ (s4 : List Int) (s5 : Int) (s6 : List Int) (μ4 : Store) (vvs4 : Value), loopN (digest_Writer_Sum.s2) n (s4, s5, s6) = some z3 ∧ μ3.le μ4 ∧ Slc (RI .u8) 1 μ4 vvs4 s4 ∧ InR .i64 s5 ∧ Arr .u32 8 s6 ∧ Fr a 79 [(2, .pointer (some ⟨g1, 0, none⟩)), (3, vvs4), (5, .pointer (some ⟨g5, 0, none⟩)), (6, .int .i64 s5)] ∧ Iv w0 (many [cel g0 [av .u32 8 x0.s, [vp1], [.int .i64 x0.n]] 167, row 5 1 vp1 x0.rest.length cp1]).foot μ μ4 [cel g5 [av .u32 8 s6] 165, cel g0 [av .u32 8 x0.s, [vp1], [.int .i64 x0.n]] 167, row 5 1 vp1 x0.rest.length cp1, row 5 1 (.slice (some ⟨g2, 0, none⟩) 1 1) ([128] : List Int).length cs2, cel g1 [av .u8 32 (List.replicate 32 0)] 26] w) n3 ⟨c2, 0, r2, μ3, vvc2, hn3, (Store.le.refl _), hS2, (in_lit .i64 0 rfl), hw1, hA.sub ⟨rfl, rfl, rfl, rfl, trivial⟩, hI⟩ ?_
        clear hA hI
        rintro n a w ⟨s4, s5, s6, μ4, vvs4, hn3, hle4, ws4, ws5, ws6, hA, hI⟩
        obtain ⟨m3, rfl, H⟩ := loopN_bind hn3
        clear hn3
        refine w_seq fun _ hN11 => w_seq fun _ hN12 => w_reg <| stm hA rfl rfl fun a hA => 
          stm hA rfl rfl fun a hA => ?_
        obtain ⟨_, hsl1⟩ := Slc.sv ws4
        refine stp hA (r_slen Tryd.underlying40 hsl1 hA rfl) rfl fun a hA => 
          stp hA (r_lss hA rfl rfl) rfl fun a hA => ?_
        refine o_nil <| hN12 _ _ <| w_cond hA rfl (fun hc3 => ?_) (fun hc3 => ?_)
        · obtain ⟨hc3, H⟩ := dT H hc3
          refine w_skip <| hN11 _ _ <| w_seq fun _ hN13 => w_block ?_
          refine w_any [7] mo hI fun w hI => ?_
          refine gT 0 hA rfl hI (fun w hI => r_ldA (j := 0) [] [av .u32 8 s6] [] Tryd.underlying165 rfl sz165 rfl hI rfl hA rfl rfl) fun a hA => ?_
          refine gE 1 hA rfl (.inr hI) (fun _ => r_mv hA rfl) fun a hA => ?_
          refine gE 2 hA rfl (.inr hI) (fun _ => r_mv hA rfl) fun a hA => ?_
          refine gE 3 hA rfl (.inr hI) (fun _ => r_mv hA rfl) fun a hA => ?_
          refine gE 4 hA rfl (.inr hI) (fun _ => r_add hA rfl rfl) fun a hA => ?_
          obtain ⟨hb5, H⟩ := bG H
          obtain ⟨v6, hS3, hr3⟩ := r_sl (P := Tryd.prog) (t := 40) (x := .tmp 51) (l := (some (.tmp 52))) (h := (some (.tmp 54))) (i := s5) (j := IntKind.i64.wrap (s5 + 64)) Tryd.underlying40 sz5 ws4 hA rfl rfl rfl (by have hq := hb5; omega) (by have hq := hb5; omega) (by have hq := hb5; omega)
          refine gE 5 hA rfl (.inr hI) (fun _ => hr3 _ _ _ _ _ _) fun a hA => ?_
          refine gF 6 rfl ?_
          obtain ⟨r3, hr4, H⟩ := bB H
          refine o_callp (u := .agg [av .u32 8 r3].flatten.toArray) cf123 hA rfl hI (digest_mix.c μ4 _ hI.agr s6 ws6 ((s4.take (IntKind.i64.wrap (s5 + 64)).toNat).drop (s5).toNat) v6 hS3 r3 hr4) rfl fun a w hz9 hI hA => ?_
          refine o_nil <| ⟨(.inr hI), ?_⟩
          refine gF 7 rfl ?_
          refine o_st (j := 0) [] [av .u32 8 s6] [av .u32 8 r3] [] sz165 rfl rfl (fl_cons (one_av _ _ _) fl_nil) hI rfl hA rfl rfl rfl rfl fun w hI => ?_
          refine o_nil <| ⟨(.inl (by kernel_rfl)), ?_⟩
          refine gN <| hN13 _ _ <| w_reg <| stm hA rfl rfl fun a hA => 
            stp hA (r_add hA rfl rfl) rfl fun a hA => 
            sta hA rfl rfl fun a hA => ?_
          refine o_nil <| ⟨m3, Nat.lt_succ_self _, s4, IntKind.i64.wrap (s5 + 64), r3, μ4, vvs4, H, hle4, ws4, (wrap_in _ _), hz9, hA.sub ⟨rfl, rfl, rfl, rfl, trivial⟩, hI⟩
        · obtain ⟨hc3, H⟩ := dF H hc3
          refine w_exit rfl ?_
          have H : some (s4, s6) = some z3 := H
          obtain rfl := sI H
          have H := Hk6
          cases sJ H
          exact ⟨μ4, vvs4, (hle3.trans hle4), ws4, ws6, hA.sub ⟨rfl, rfl, rfl, trivial⟩, hI⟩
      · rintro a w ⟨μ2, vvc3, hle2, wc3, wc4, hA, hI⟩
        have H := Hk5
        refine w_seq fun _ hN14 => w_reg <| o_new [av .u8 32 (List.replicate 32 0)] zr26 hI hA rfl fun g6 a w hA hI hg6 => ?_
        refine o_nil <| hN14 _ _ ?_
        obtain ⟨c5, hz10, Hk7⟩ := bB H
        refine w_cut (fun a w => Arr .u8 32 c5 ∧ Fr a 79 [(2, .pointer (some ⟨g1, 0, none⟩)), (7, .pointer (some ⟨g6, 0, none⟩))] ∧ Iv w0 (many [cel g0 [av .u32 8 x0.s, [vp1], [.int .i64 x0.n]] 167, row 5 1 vp1 x0.rest.length cp1]).foot μ μ2 [cel g6 [av .u8 32 c5] 26, cel g5 [av .u32 8 c4] 165, cel g0 [av .u32 8 x0.s, [vp1], [.int .i64 x0.n]] 167, row 5 1 vp1 x0.rest.length cp1, row 5 1 (.slice (some ⟨g2, 0, none⟩) 1 1) ([128] : List Int).length cs2, cel g1 [av .u8 32 (List.replicate 32 0)] 26] w) ?_ ?_
        · have H := bI hz10
          refine w_seq fun _ hN15 => w_reg <| stp hA (r_ldA (j := 1) [] [av .u32 8 c4] [] Tryd.underlying165 rfl sz165 rfl hI rfl hA rfl rfl) rfl fun a hA => 
            stm hA rfl rfl fun a hA => ?_
          refine o_nil <| hN15 _ _ <| w_block ?_
          obtain ⟨z4, hz11, Hk8⟩ := bind_some H
          obtain ⟨n4, hn4⟩ := loopO_some hz11
          refine w_loop (fun n a w => ∃ (s7 : Int) (s8 : List Int), loopN (digest_Writer_Sum.s3 c4) n (s7, s8) = some z4 ∧ InR .i64 s7 ∧ Arr .u8 32 s8 ∧ Fr a 79 [(2, .pointer (some ⟨g1, 0, none⟩)), (7, .pointer (some ⟨g6, 0, none⟩)), (57, .agg [av .u32 8 c4].flatten.toArray), (58, .int .i64 s7)] ∧ Iv w0 (many [cel g0 [av .u32 8 x0.s, [vp1], [.int .i64 x0.n]] 167, row 5 1 vp1 x0.rest.length cp1]).foot μ μ2 [cel g6 [av .u8 32 s8] 26, cel g5 [av .u32 8 c4] 165, cel g0 [av .u32 8 x0.s, [vp1], [.int .i64 x0.n]] 167, row 5 1 vp1 x0.rest.length cp1, row 5 1 (.slice (some ⟨g2, 0, none⟩) 1 1) ([128] : List Int).length cs2, cel g1 [av .u8 32 (List.replicate 32 0)] 26] w) n4 ⟨0, (List.replicate 32 0), hn4, (in_lit .i64 0 rfl), (arr_zero _ _), hA.sub ⟨rfl, rfl, rfl, rfl, trivial⟩, hI⟩ ?_
          clear hA hI
          rintro n a w ⟨s7, s8, hn4, ws7, ws8, hA, hI⟩
          obtain ⟨m4, rfl, H⟩ := loopN_bind hn4
          clear hn4
          refine w_seq fun _ hN16 => w_reg <| stp hA (r_lss hA rfl rfl) rfl fun a hA => ?_
          refine o_nil <| hN16 _ _ <| w_seq fun _ hN17 => w_cond hA rfl (fun hc4 => ?_) (fun hc4 => ?_)
          · obtain ⟨hc4, H⟩ := dT H hc4
            refine w_skip <| hN17 _ _ ?_
            obtain ⟨c6, hz12, Hk9⟩ := bB H
            refine w_cut (fun a w => Arr .u8 32 c6 ∧ Fr a 79 [(2, .pointer (some ⟨g1, 0, none⟩)), (7, .pointer (some ⟨g6, 0, none⟩)), (57, .agg [av .u32 8 c4].flatten.toArray), (58, .int .i64 s7), (59, .bool (decide (s7 < 8)))] ∧ Iv w0 (many [cel g0 [av .u32 8 x0.s, [vp1], [.int .i64 x0.n]] 167, row 5 1 vp1 x0.rest.length cp1]).foot μ μ2 [cel g6 [av .u8 32 c6] 26, cel g5 [av .u32 8 c4] 165, cel g0 [av .u32 8 x0.s, [vp1], [.int .i64 x0.n]] 167, row 5 1 vp1 x0.rest.length cp1, row 5 1 (.slice (some ⟨g2, 0, none⟩) 1 1) ([128] : List Int).length cs2, cel g1 [av .u8 32 (List.replicate 32 0)] 26] w) ?_ ?_
            · have H := bI hz12
              refine w_block <| w_seq fun _ hN18 => w_reg <| stm hA rfl rfl fun a hA => ?_
              obtain ⟨hb6, H⟩ := bG H
              refine stp hA (r_aidx Tryd.underlying165 Tryd.underlying24 sz24 hA rfl rfl hb6.1 hb6.2) rfl fun a hA => 
                sta hA rfl rfl fun a hA => 
                sta hA rfl rfl fun a hA => ?_
              refine o_nil <| hN18 _ _ <| w_seq fun _ hN19 => w_reg <| stm hA rfl rfl fun a hA => ?_
              refine o_nil <| hN19 _ _ <| w_block ?_
              obtain ⟨z5, hz13, Hk10⟩ := bind_some H
              obtain ⟨n5, hn5⟩ := loopO_some hz13
              refine w_loop (fun n a w => ∃ (s9 : Int) (s10 : List Int), loopN (digest_Writer_Sum.s4 c4 s7) n (s9, s10) = some z5 ∧ InR .i64 s9 ∧ Arr .u8 32 s10 ∧ Fr a 79 [(2, .pointer (some ⟨g1, 0, none⟩)), (7, .pointer (some ⟨g6, 0, none⟩)), (8, .int .i64 s7), (9, .int .u32 (c4.getD s7.toNat 0)), (57, .agg [av .u32 8 c4].flatten.toArray), (58, .int .i64 s7), (59, .bool (decide (s7 < 8))), (62, .int .i64 s9)] ∧ Iv w0 (many [cel g0 [av .u32 8 x0.s, [vp1], [.int .i64 x0.n]] 167, row 5 1 vp1 x0.rest.length cp1]).foot μ μ2 [cel g6 [av .u8 32 s10] 26, cel g5 [av .u32 8 c4] 165, cel g0 [av .u32 8 x0.s, [vp1], [.int .i64 x0.n]] 167, row 5 1 vp1 x0.rest.length cp1, row 5 1 (.slice (some ⟨g2, 0, none⟩) 1 1) ([128] : List Int).length cs2, cel g1 [av .u8 32 (List.replicate 32 0)] 26] w) n5 ⟨0, s8, hn5, (in_lit .i64 0 rfl), ws8, hA.sub ⟨rfl, rfl, rfl, rfl, rfl, rfl, rfl, rfl, trivial⟩, hI⟩ ?_
              clear hA hI
              rintro n a w ⟨s9, s10, hn5, ws9, ws10, hA, hI⟩
              obtain ⟨m5, rfl, H⟩ := loopN_bind hn5
              clear hn5
              refine w_seq fun _ hN20 => w_reg <| stp hA (r_lss hA rfl rfl) rfl fun a hA => ?_
              refine o_nil <| hN20 _ _ <| w_seq fun _ hN21 => w_cond hA rfl (fun hc5 => ?_) (fun hc5 => ?_)
              · obtain ⟨hc5, H⟩ := dT H hc5
                refine w_skip <| hN21 _ _ <| w_seq fun _ hN22 => w_block <| w_seq fun _ hN23 => w_reg <| stm hA rfl rfl fun a hA => 
                  sta hA rfl rfl fun a hA => ?_
                refine o_nil <| hN23 _ _ <| w_reg <| stm hA rfl rfl fun a hA => 
                  stp hA (r_mul hA rfl rfl) rfl fun a hA => 
                  stm hA rfl rfl fun a hA => 
                  stp hA (r_add hA rfl rfl) rfl fun a hA => 
                  stm hA rfl rfl fun a hA => 
                  stm hA rfl rfl fun a hA => 
                  stp hA (r_mul hA rfl rfl) rfl fun a hA => 
                  stp hA (r_sub hA rfl rfl) rfl fun a hA => ?_
                obtain ⟨hb7, H⟩ := bG H
                refine stp hA (r_shr hA rfl rfl hb7) rfl fun a hA => 
                  stp hA (r_conv Tryd.underlying24 Tryd.underlying5 hA rfl) rfl fun a hA => ?_
                obtain ⟨hb8, H⟩ := bG H
                refine stp hA (r_ixar1 Tryd.underlying26 sz5 hA rfl rfl hb8.1 hb8.2) rfl fun a hA => 
                  o_stE (j := 0) [] [] sz5 ws10.1 hI rfl hA rfl rfl rfl (by omega) fun w hI => ?_
                refine o_nil <| hN22 _ _ <| w_reg <| stp hA (r_add hA rfl rfl) rfl fun a hA => 
                  stm hA rfl rfl fun a hA => ?_
                refine o_nil <| ⟨m5, Nat.lt_succ_self _, IntKind.i64.wrap (s9 + 1), s10.set (IntKind.i64.wrap ((IntKind.i64.wrap (4 * s7)) + s9)).toNat (IntKind.u8.wrap (sR .u32 (c4.getD s7.toNat 0) (IntKind.i64.wrap (24 - (IntKind.i64.wrap (8 * s9)))))), H, (wrap_in _ _), (arr_set ws10 _ (wrap_in _ _)), hA.sub ⟨rfl, rfl, rfl, rfl, rfl, rfl, rfl, rfl, trivial⟩, hI⟩
              · obtain ⟨hc5, H⟩ := dF H hc5
                refine w_exit rfl ?_
                have H : some s10 = some z5 := H
                obtain rfl := sI H
                have H := Hk10
                cases sJ H
                exact ⟨ws10, hA.sub ⟨rfl, rfl, rfl, rfl, rfl, trivial⟩, hI⟩
            · rintro a w ⟨wc6, hA, hI⟩
              have H := Hk9
              refine w_reg <| stp hA (r_add hA rfl rfl) rfl fun a hA => 
                stm hA rfl rfl fun a hA => ?_
              refine o_nil <| ⟨m4, Nat.lt_succ_self _, IntKind.i64.wrap (s7 + 1), c6, H, (wrap_in _ _), wc6, hA.sub ⟨rfl, rfl, rfl, rfl, trivial⟩, hI⟩
          · obtain ⟨hc4, H⟩ := dF H hc4
            refine w_exit rfl ?_
            have H : some s8 = some z4 := H
            obtain rfl := sI H
            have H := Hk8
            cases sJ H
            exact ⟨ws8, hA.sub ⟨rfl, rfl, trivial⟩, hI⟩
        · rintro a w ⟨wc5, hA, hI⟩
          have H := Hk7
          refine w_seq fun _ hN24 => w_reg <| stp hA (r_ldA (j := 0) [] [av .u8 32 c5] [] Tryd.underlying26 rfl sz26 rfl hI rfl hA rfl rfl) rfl fun a hA => 
            o_st (j := 5) [] [av .u8 32 (List.replicate 32 0)] [av .u8 32 c5] [] sz26 rfl rfl (fl_cons (one_av _ _ _) fl_nil) hI rfl hA rfl rfl rfl rfl fun w hI => ?_
          refine o_nil <| hN24 _ _ <| w_ret ?_
          obtain rfl := sJ H
          exact retc Tryd.underlying26 rfl sz26 rfl hI (j := 5) rfl hA Tryd.results109 rfl ⟨_, rfl, rfl, wc5, ((hI.sl [2, 3] rfl).less (Store.le.refl _) hI.le)⟩
set_option maxRecDepth 20000 in
theorem digest_Sha.c (μ : Store) (w0 : World) (hμ : Agr μ w0) (x0 : List Int) (u0 : Value) (hx0 : Slc (RI .u8) 1 μ u0 x0) (r : List Int) (H : digest_Sha.f x0 = some r) :
    Calls Tryd.prog 85 [u0].toArray w0 (fun e w' => ∃ v, e = .returned v ∧ v = .agg [av .u8 32 r].flatten.toArray ∧ Arr .u8 32 r ∧ Iv w0 [] μ μ [] w') := by
  refine enter Tryd.func85 rfl Tryd.ntmps85 rfl fun a hA => ?_
  have hI := Iv.start hμ
  have H := bI H
  refine w_seq fun _ hN1 => w_reg <| o_new [av .u8 32 (List.replicate 32 0)] zr26 hI hA rfl fun g1 a w hA hI hg1 => ?_
  refine o_nil <| hN1 _ _ <| w_seq fun _ hN2 => w_reg <| o_new [av .u32 8 (List.replicate 8 0), [(.slice none 0 0)], [.int .i64 0]] zr167 hI hA rfl fun g2 a w hA hI hg2 => ?_
  refine o_nil <| hN2 _ _ <| w_seq fun _ hN3 => w_reg <| stm hA rfl rfl fun a hA => ?_
  have hI := hI.nilRow 5 1
  obtain ⟨r1, hr1, H⟩ := bB H
  have hI := hI.sl [1, 0, 2] rfl
  refine o_call _ cf108 hA rfl (digest_Writer_Write.c μ _ hI.agr (⟨(List.replicate 8 0), ([] : List Int), 0⟩ : digestWriter) (.slice none 0 0) [] g2 (arr_zero _ _) (Els.nil (RE := (RI .u8)) (sz := 1)) (in_lit .i64 0 rfl) (hI.handN 2) x0 u0 hx0 r1 hr1) rfl fun v1 a w hz1 hA => ?_
  obtain ⟨vp1, cp1, rfl, hp1, hp2, hp3, hi1⟩ := hz1
  have hI := hI.back2 hi1
  refine o_nil <| hN3 _ _ <| w_seq fun _ hN4 => w_reg ?_
  obtain ⟨r2, hr2, H⟩ := bB H
  refine o_call _ cf109 hA rfl (digest_Writer_Sum.c μ _ hI.agr (⟨r1.s, r1.rest, r1.n⟩ : digestWriter) vp1 cp1 g2 hp1 hp2 hp3 (hI.handN 2) r2 hr2) rfl fun v2 a w hz2 hA => ?_
  obtain ⟨rfl, hw1, hi2⟩ := hz2
  have hI := hI.back2 hi2
  refine o_st (j := 2) [] [av .u8 32 (List.replicate 32 0)] [av .u8 32 r2] [] sz26 rfl rfl (fl_cons (one_av _ _ _) fl_nil) hI rfl hA rfl rfl rfl rfl fun w hI => ?_
  refine o_nil <| hN4 _ _ <| w_ret ?_
  obtain rfl := sJ H
  exact retc Tryd.underlying26 rfl sz26 rfl hI (j := 2) rfl hA Tryd.results85 rfl ⟨_, rfl, rfl, hw1, hI.forget0⟩
set_option maxRecDepth 20000 in
theorem digest_Twice.c (μ : Store) (w0 : World) (hμ : Agr μ w0) (x0 : List Int) (u0 : Value) (hx0 : Slc (RI .u8) 1 μ u0 x0) (r : List Int) (H : digest_Twice.f x0 = some r) :
    Calls Tryd.prog 70 [u0].toArray w0 (fun e w' => ∃ v, e = .returned v ∧ v = .agg [av .u8 32 r].flatten.toArray ∧ Arr .u8 32 r ∧ Iv w0 [] μ μ [] w') := by
  refine enter Tryd.func70 rfl Tryd.ntmps70 rfl fun a hA => ?_
  have hI := Iv.start hμ
  have H := bI H
  refine w_seq fun _ hN1 => w_reg <| o_new [av .u8 32 (List.replicate 32 0)] zr26 hI hA rfl fun g1 a w hA hI hg1 => ?_
  refine o_nil <| hN1 _ _ <| w_seq fun _ hN2 => w_reg <| stm hA rfl rfl fun a hA => ?_
  obtain ⟨r1, hr1, H⟩ := bB H
  refine o_callp (u := .agg [av .u8 32 r1].flatten.toArray) cf85 hA rfl hI (digest_Sha.c μ _ hI.agr x0 u0 hx0 r1 hr1) rfl fun a w hz1 hI hA => 
    o_new [av .u8 32 (List.replicate 32 0)] zr26 hI hA rfl fun g2 a w hA hI hg2 => 
    o_st (j := 0) [] [av .u8 32 (List.replicate 32 0)] [av .u8 32 r1] [] sz26 rfl rfl (fl_cons (one_av _ _ _) fl_nil) hI rfl hA rfl rfl rfl rfl fun w hI => ?_
  refine o_nil <| hN2 _ _ <| w_seq fun _ hN3 => w_reg <| stp hA (r_slv (i := 0) (j := 32) Tryd.underlying26 sz5 hA rfl rfl rfl (by decide) (by decide) (by decide) (by decide) rfl) rfl fun a hA => ?_
  obtain ⟨r2, hr2, H⟩ := bB H
  refine o_callp (u := .agg [av .u8 32 r2].flatten.toArray) cf85 hA rfl hI ((by obtain ⟨μ1, hle1, hat1, hI⟩ := hI.freezeCel 0 rfl; have hS1 : Slc (RI .u8) 1 μ1 (.slice (some ⟨g2, 0, none⟩) 32 32) (r1) := slc_view0 [] [] hat1 hz1 rfl (by decide); exact low_plain hle1 (digest_Sha.c μ1 _ hI.agr r1 (.slice (some ⟨g2, 0, none⟩) 32 32) hS1 r2 hr2))) rfl fun a w hz2 hI hA => 
    o_st (j := 1) [] [av .u8 32 (List.replicate 32 0)] [av .u8 32 r2] [] sz26 rfl rfl (fl_cons (one_av _ _ _) fl_nil) hI rfl hA rfl rfl rfl rfl fun w hI => ?_
  refine o_nil <| hN3 _ _ <| w_ret ?_
  obtain rfl := sJ H
  exact retc Tryd.underlying26 rfl sz26 rfl hI (j := 1) rfl hA Tryd.results70 rfl ⟨_, rfl, rfl, hz2, hI.forget0⟩
set_option maxRecDepth 20000 in
theorem sargassoref1_k.c (μ : Store) (w0 : World) (hμ : Agr μ w0) (r : List Int) (H : sargassoref1_k.f = some r) :
    Calls Tryd.prog 75 [].toArray w0 (fun e w' => ∃ v, e = .returned v ∧ ∃ (v0 : Value) (c0 : List Value), v = v0 ∧ Els (RI .u32) 1 r c0 ∧ Iv w0 [] μ μ [row 24 1 v0 r.length c0] w') := by
  refine enter Tryd.func75 rfl Tryd.ntmps75 rfl fun a hA => ?_
  have hI := Iv.start hμ
  have H := bI H
  refine w_seq fun _ hN1 => w_reg <| sta hA rfl rfl fun a hA => ?_
  refine o_nil <| hN1 _ _ <| w_seq fun _ hN2 => w_reg ?_
  have hE1 : Els (RI .u32) 1 sargassoref1_k.lit0 ((sargassoref1_k.lit0).map (.int .u32)) := els_ints sargassoref1_k.lit0_in
  refine o_bsl (mm := 64) (pv := numbered .u32 sargassoref1_k.lit0) ((sargassoref1_k.lit0).map (.int .u32)) te24 zr24 Tryd.underlying131 hI hA (by kernel_rfl) rfl rfl (by kernel_rfl) (by kernel_rfl) rfl fun g1 a w hA hI => ?_
  generalize hcs : ((sargassoref1_k.lit0).map (.int .u32) : List Value) = cs1 at hE1 hI
  clear hcs
  have hlencs1 : 64 = (sargassoref1_k.lit0).length := by kernel_rfl
  rw [hlencs1] at hI hA
  refine sta hA rfl rfl fun a hA => ?_
  refine o_nil <| hN2 _ _ <| w_ret ?_
  obtain rfl := sJ H
  exact ret1 hA Tryd.results75 rfl ⟨_, rfl, (.slice (some ⟨g1, 0, none⟩) sargassoref1_k.lit0.length sargassoref1_k.lit0.length), cs1, rfl, hE1, (hI.less (Store.le.refl _) hI.le)⟩
set_option maxRecDepth 20000 in
theorem sargassoref1_right.c (μ : Store) (w0 : World) (hμ : Agr μ w0) (x0 : Int) (hx0 : InR .u32 x0) (x1 : Int) (hx1 : InR .u64 x1) (r : Int) (H : sargassoref1_right.f x0 x1 = some r) :
    Calls Tryd.prog 76 [.int .u32 x0, .int .u64 x1].toArray w0 (fun e w' => ∃ v, e = .returned v ∧ v = .int .u32 r ∧ InR .u32 r ∧ Iv w0 [] μ μ [] w') := by
  refine enter Tryd.func76 rfl Tryd.ntmps76 rfl fun a hA => ?_
  have hI := Iv.start hμ
  have H := bI H
  refine w_seq fun _ hN1 => w_reg <| sta hA rfl rfl fun a hA => ?_
  refine o_nil <| hN1 _ _ <| w_seq fun _ hN2 => w_reg <| stm hA rfl rfl fun a hA => 
    stm hA rfl rfl fun a hA => ?_
  obtain ⟨hb1, H⟩ := bG H
  refine stp hA (r_shr hA rfl rfl hb1) rfl fun a hA => 
    stm hA rfl rfl fun a hA => 
    stm hA rfl rfl fun a hA => 
    stp hA (r_sub hA rfl rfl) rfl fun a hA => ?_
  obtain ⟨hb2, H⟩ := bG H
  refine stp hA (r_shl hA rfl rfl hb2) rfl fun a hA => 
    stp hA (r_or hA rfl rfl) rfl fun a hA => 
    sta hA rfl rfl fun a hA => ?_
  refine o_nil <| hN2 _ _ <| w_ret ?_
  obtain rfl := sJ H
  exact ret1 hA Tryd.results76 rfl ⟨_, rfl, rfl, (wrap_in _ _), hI.forget0⟩
set_option maxHeartbeats 4000000 in
set_option maxRecDepth 20000 in
theorem sargassoref1_Sha.c (μ : Store) (w0 : World) (hμ : Agr μ w0) (x0 : List Int) (u0 : Value) (hx0 : Slc (RI .u8) 1 μ u0 x0) (r : List Int) (H : sargassoref1_Sha.f x0 = some r) :
    Calls Tryd.prog 55 [u0].toArray w0 (fun e w' => ∃ v, e = .returned v ∧ v = .agg [av .u8 32 r].flatten.toArray ∧ Arr .u8 32 r ∧ Iv w0 [] μ μ [] w') := by
  refine enter Tryd.func55 rfl Tryd.ntmps55 rfl fun a hA => ?_
  have hI := Iv.start hμ
  have H := bI H
  refine w_seq fun _ hN1 => w_reg <| o_new [av .u8 32 (List.replicate 32 0)] zr26 hI hA rfl fun g1 a w hA hI hg1 => ?_
  refine o_nil <| hN1 _ _ <| w_seq fun _ hN2 => w_reg ?_
  have hE1 : Els (RI .u32) 1 ([1779033703, 3144134277, 1013904242, 2773480762, 1359893119, 2600822924, 528734635, 1541459225] : List Int) _ := (Els.cons (c := [[.int .u32 1779033703]].flatten) ⟨rfl, (in_lit .u32 1779033703 rfl)⟩ rfl (Els.cons (c := [[.int .u32 3144134277]].flatten) ⟨rfl, (in_lit .u32 3144134277 rfl)⟩ rfl (Els.cons (c := [[.int .u32 1013904242]].flatten) ⟨rfl, (in_lit .u32 1013904242 rfl)⟩ rfl (Els.cons (c := [[.int .u32 2773480762]].flatten) ⟨rfl, (in_lit .u32 2773480762 rfl)⟩ rfl (Els.cons (c := [[.int .u32 1359893119]].flatten) ⟨rfl, (in_lit .u32 1359893119 rfl)⟩ rfl (Els.cons (c := [[.int .u32 2600822924]].flatten) ⟨rfl, (in_lit .u32 2600822924 rfl)⟩ rfl (Els.cons (c := [[.int .u32 528734635]].flatten) ⟨rfl, (in_lit .u32 528734635 rfl)⟩ rfl (Els.cons (c := [[.int .u32 1541459225]].flatten) ⟨rfl, (in_lit .u32 1541459225 rfl)⟩ rfl Els.nil))))))))
  refine o_bsl ([[.int .u32 1779033703]].flatten ++ ([[.int .u32 3144134277]].flatten ++ ([[.int .u32 1013904242]].flatten ++ ([[.int .u32 2773480762]].flatten ++ ([[.int .u32 1359893119]].flatten ++ ([[.int .u32 2600822924]].flatten ++ ([[.int .u32 528734635]].flatten ++ ([[.int .u32 1541459225]].flatten ++ ([]))))))))) te24 zr24 Tryd.underlying131 hI hA rfl rfl rfl rfl (by kernel_rfl) rfl fun g2 a w hA hI => ?_
  generalize hcs : ([[.int .u32 1779033703]].flatten ++ ([[.int .u32 3144134277]].flatten ++ ([[.int .u32 1013904242]].flatten ++ ([[.int .u32 2773480762]].flatten ++ ([[.int .u32 1359893119]].flatten ++ ([[.int .u32 2600822924]].flatten ++ ([[.int .u32 528734635]].flatten ++ ([[.int .u32 1541459225]].flatten ++ ([])))))))) : List Value) = cs1 at hE1 hI
  clear hcs
  refine sta hA rfl rfl fun a hA => ?_
  refine o_nil <| hN2 _ _ <| w_seq fun _ hN3 => w_reg <| stm hA rfl rfl fun a hA => ?_
  obtain ⟨r1, hr1, H⟩ := bB H
  refine o_call _ cf74 hA rfl (sargassoref_Bytes.c μ _ hI.agr x0 u0 hx0 r1 hr1) rfl fun v1 a w hz1 hA => ?_
  obtain ⟨_, cs2, rfl, hE2, hi1⟩ := hz1
  have hI := hI.call hi1
  have hE3 : Els (RI .u8) 1 ([128] : List Int) _ := (Els.cons (c := [[.int .u8 128]].flatten) ⟨rfl, (in_lit .u8 128 rfl)⟩ rfl Els.nil)
  refine o_bsl ([[.int .u8 128]].flatten ++ ([])) te5 zr5 Tryd.underlying40 hI hA rfl rfl rfl rfl (by kernel_rfl) rfl fun g3 a w hA hI => ?_
  generalize hcs : ([[.int .u8 128]].flatten ++ ([]) : List Value) = cs3 at hE3 hI
  clear hcs
  obtain ⟨hb1, H⟩ := bG H
  have hE5 := hE2.app hE3
  refine o_appG (xs := (r1 : List Int)) (ys := (([128] : List Int) : List Int)) (M := 140737488355328) 1 te5 Tryd.underlying40 hI rfl hA rfl rfl (src_row hI (j := 0) rfl) hE3.len (hE3.ones (one_RI _)) hb1 rfl fun v2 a w hA hI => 
    sta hA rfl rfl fun a hA => ?_
  refine o_nil <| hN3 _ _ ?_
  obtain ⟨c1, hz2, Hk1⟩ := bB H
  refine w_cut (fun a w => ∃ (vvc1 : Value) (ccc1 : List Value), Els (RI .u8) 1 c1 ccc1 ∧ Fr a 282 [(0, u0), (2, .pointer (some ⟨g1, 0, none⟩)), (3, (.slice (some ⟨g2, 0, none⟩) 8 8)), (4, vvc1)] ∧ Iv w0 [] μ μ [row 5 1 vvc1 c1.length ccc1, row 5 1 (.slice (some ⟨g3, 0, none⟩) 1 1) ([128] : List Int).length cs3, row 24 1 (.slice (some ⟨g2, 0, none⟩) 8 8) ([1779033703, 3144134277, 1013904242, 2773480762, 1359893119, 2600822924, 528734635, 1541459225] : List Int).length cs1, cel g1 [av .u8 32 (List.replicate 32 0)] 26] w) ?_ ?_
  · have H := bI hz2
    refine w_block ?_
    obtain ⟨z1, hz3, Hk2⟩ := bind_some H
    obtain ⟨n1, hn1⟩ := loopO_some hz3
    refine w_loop (fun n a w => ∃ (s1 : List Int) (vvs1 : Value) (ccs1 : List Value), loopN (sargassoref1_Sha.s0) n s1 = some z1 ∧ Els (RI .u8) 1 s1 ccs1 ∧ Fr a 282 [(0, u0), (2, .pointer (some ⟨g1, 0, none⟩)), (3, (.slice (some ⟨g2, 0, none⟩) 8 8)), (4, vvs1)] ∧ Iv w0 [] μ μ [row 5 1 (.slice (some ⟨g3, 0, none⟩) 1 1) ([128] : List Int).length cs3, row 5 1 vvs1 s1.length ccs1, row 24 1 (.slice (some ⟨g2, 0, none⟩) 8 8) ([1779033703, 3144134277, 1013904242, 2773480762, 1359893119, 2600822924, 528734635, 1541459225] : List Int).length cs1, cel g1 [av .u8 32 (List.replicate 32 0)] 26] w) n1 ⟨r1 ++ ([128] : List Int), v2, cs2 ++ cs3, hn1, hE5, hA.sub ⟨rfl, rfl, rfl, rfl, trivial⟩, hI⟩ ?_
    clear hA hI
    rintro n a w ⟨s1, vvs1, ccs1, hn1, ws1, hA, hI⟩
    obtain ⟨m1, rfl, H⟩ := loopN_bind hn1
    clear hn1
    refine w_seq fun _ hN4 => w_seq fun _ hN5 => w_reg <| stm hA rfl rfl fun a hA => ?_
    have hlen1 := Iv.row_in hI (j := 1) rfl
    refine stp hA (r_rlen (xs := 0) Tryd.underlying40 hI (j := 1) rfl hA rfl) rfl fun a hA => 
      stp hA (r_rem hA rfl rfl (by decide)) rfl fun a hA => 
      stp hA (r_neq hA rfl rfl) rfl fun a hA => ?_
    refine o_nil <| hN5 _ _ <| w_cond hA rfl (fun hc1 => ?_) (fun hc1 => ?_)
    · obtain ⟨hc1, H⟩ := dT H hc1
      refine w_skip <| hN4 _ _ <| w_block <| w_reg <| stm hA rfl rfl fun a hA => ?_
      have hE6 : Els (RI .u8) 1 ([0] : List Int) _ := (Els.cons (c := [[.int .u8 0]].flatten) ⟨rfl, (in_lit .u8 0 rfl)⟩ rfl Els.nil)
      refine o_bsl ([[.int .u8 0]].flatten ++ ([])) te5 zr5 Tryd.underlying40 hI hA rfl rfl rfl rfl (by kernel_rfl) rfl fun g4 a w hA hI => ?_
      generalize hcs : ([[.int .u8 0]].flatten ++ ([]) : List Value) = cs6 at hE6 hI
      clear hcs
      obtain ⟨hb2, H⟩ := bG H
      have hE8 := ws1.app hE6
      refine o_appG (xs := (s1 : List Int)) (ys := (([0] : List Int) : List Int)) (M := 140737488355328) 2 te5 Tryd.underlying40 hI rfl hA rfl rfl (src_row hI (j := 0) rfl) hE6.len (hE6.ones (one_RI _)) hb2 rfl fun v3 a w hA hI => 
        sta hA rfl rfl fun a hA => ?_
      refine o_nil <| ⟨m1, Nat.lt_succ_self _, s1 ++ ([0] : List Int), v3, ccs1 ++ cs6, H, hE8, hA.sub ⟨rfl, rfl, rfl, rfl, trivial⟩, (hI.sl [1, 2, 3, 4] rfl)⟩
    · obtain ⟨hc1, H⟩ := dF H hc1
      refine w_exit rfl ?_
      have H : some s1 = some z1 := H
      obtain rfl := sI H
      have H := Hk2
      cases sJ H
      exact ⟨vvs1, ccs1, ws1, hA.sub ⟨rfl, rfl, rfl, rfl, trivial⟩, (hI.sl [1, 0, 2, 3] rfl)⟩
  · rintro a w ⟨vvc1, ccc1, wc1, hA, hI⟩
    have H := Hk1
    refine w_seq fun _ hN6 => w_reg <| stm hA rfl rfl fun a hA => ?_
    obtain ⟨_, hsl1⟩ := Slc.sv hx0
    refine stp hA (r_slen Tryd.underlying40 hsl1 hA rfl) rfl fun a hA => 
      stp hA (r_conv Tryd.underlying3 Tryd.underlying34 hA rfl) rfl fun a hA => 
      stp hA (r_mul hA rfl rfl) rfl fun a hA => 
      sta hA rfl rfl fun a hA => ?_
    refine o_nil <| hN6 _ _ ?_
    obtain ⟨c2, hz4, Hk3⟩ := bB H
    refine w_cut (fun a w => ∃ (vvc2 : Value) (ccc2 : List Value), Els (RI .u8) 1 c2 ccc2 ∧ Fr a 282 [(2, .pointer (some ⟨g1, 0, none⟩)), (3, (.slice (some ⟨g2, 0, none⟩) 8 8)), (4, vvc2)] ∧ Iv w0 [] μ μ [row 5 1 vvc2 c2.length ccc2, row 5 1 (.slice (some ⟨g3, 0, none⟩) 1 1) ([128] : List Int).length cs3, row 24 1 (.slice (some ⟨g2, 0, none⟩) 8 8) ([1779033703, 3144134277, 1013904242, 2773480762, 1359893119, 2600822924, 528734635, 1541459225] : List Int).length cs1, cel g1 [av .u8 32 (List.replicate 32 0)] 26] w) ?_ ?_
    · have H := bI hz4
      refine w_seq fun _ hN7 => w_reg <| sta hA rfl rfl fun a hA => ?_
      refine o_nil <| hN7 _ _ <| w_block ?_
      obtain ⟨z2, hz5, Hk4⟩ := bind_some H
      obtain ⟨n2, hn2⟩ := loopO_some hz5
      refine w_loop (fun n a w => ∃ (s2 : List Int) (s3 : Int) (vvs2 : Value) (ccs2 : List Value), loopN (sargassoref1_Sha.s1 x0) n (s2, s3) = some z2 ∧ Els (RI .u8) 1 s2 ccs2 ∧ InR .i64 s3 ∧ Fr a 282 [(2, .pointer (some ⟨g1, 0, none⟩)), (3, (.slice (some ⟨g2, 0, none⟩) 8 8)), (4, vvs2), (5, .int .u64 (IntKind.u64.wrap (8 * (IntKind.u64.wrap (x0.length : Int))))), (6, .int .i64 s3)] ∧ Iv w0 [] μ μ [row 5 1 vvs2 s2.length ccs2, row 5 1 (.slice (some ⟨g3, 0, none⟩) 1 1) ([128] : List Int).length cs3, row 24 1 (.slice (some ⟨g2, 0, none⟩) 8 8) ([1779033703, 3144134277, 1013904242, 2773480762, 1359893119, 2600822924, 528734635, 1541459225] : List Int).length cs1, cel g1 [av .u8 32 (List.replicate 32 0)] 26] w) n2 ⟨c1, 7, vvc1, ccc1, hn2, wc1, (in_lit .i64 7 rfl), hA.sub ⟨rfl, rfl, rfl, rfl, rfl, trivial⟩, hI⟩ ?_
      clear hA hI
      rintro n a w ⟨s2, s3, vvs2, ccs2, hn2, ws2, ws3, hA, hI⟩
      obtain ⟨m2, rfl, H⟩ := loopN_bind hn2
      clear hn2
      refine w_seq fun _ hN8 => w_seq fun _ hN9 => w_reg <| stm hA rfl rfl fun a hA => 
        stp hA (r_geq hA rfl rfl) rfl fun a hA => ?_
      refine o_nil <| hN9 _ _ <| w_cond hA rfl (fun hc2 => ?_) (fun hc2 => ?_)
      · obtain ⟨hc2, H⟩ := dT H hc2
        refine w_skip <| hN8 _ _ <| w_seq fun _ hN10 => w_block <| w_reg <| stm hA rfl rfl fun a hA => 
          stm hA rfl rfl fun a hA => 
          stm hA rfl rfl fun a hA => 
          stp hA (r_mul hA rfl rfl) rfl fun a hA => 
          stp hA (r_conv Tryd.underlying3 Tryd.underlying133 hA rfl) rfl fun a hA => ?_
        obtain ⟨hb3, H⟩ := bG H
        refine stp hA (r_shr hA rfl rfl hb3) rfl fun a hA => 
          stp hA (r_conv Tryd.underlying34 Tryd.underlying5 hA rfl) rfl fun a hA => ?_
        have hE9 : Els (RI .u8) 1 ([IntKind.u8.wrap (sR .u64 (IntKind.u64.wrap (8 * (IntKind.u64.wrap (x0.length : Int)))) (IntKind.u64.wrap (IntKind.i64.wrap (8 * s3))))] : List Int) _ := (Els.cons (c := [[.int .u8 (IntKind.u8.wrap (sR .u64 (IntKind.u64.wrap (8 * (IntKind.u64.wrap (x0.length : Int)))) (IntKind.u64.wrap (IntKind.i64.wrap (8 * s3)))))]].flatten) ⟨rfl, (wrap_in _ _)⟩ rfl Els.nil)
        refine o_bsl ([[.int .u8 (IntKind.u8.wrap (sR .u64 (IntKind.u64.wrap (8 * (IntKind.u64.wrap (x0.length : Int)))) (IntKind.u64.wrap (IntKind.i64.wrap (8 * s3)))))]].flatten ++ ([])) te5 zr5 Tryd.underlying40 hI hA rfl rfl rfl rfl (by kernel_rfl) rfl fun g5 a w hA hI => ?_
        generalize hcs : ([[.int .u8 (IntKind.u8.wrap (sR .u64 (IntKind.u64.wrap (8 * (IntKind.u64.wrap (x0.length : Int)))) (IntKind.u64.wrap (IntKind.i64.wrap (8 * s3)))))]].flatten ++ ([]) : List Value) = cs9 at hE9 hI
        clear hcs
        obtain ⟨hb4, H⟩ := bG H
        have hE11 := ws2.app hE9
        refine o_appG (xs := (s2 : List Int)) (ys := (([IntKind.u8.wrap (sR .u64 (IntKind.u64.wrap (8 * (IntKind.u64.wrap (x0.length : Int)))) (IntKind.u64.wrap (IntKind.i64.wrap (8 * s3))))] : List Int) : List Int)) (M := 140737488355328) 1 te5 Tryd.underlying40 hI rfl hA rfl rfl (src_row hI (j := 0) rfl) hE9.len (hE9.ones (one_RI _)) hb4 rfl fun v4 a w hA hI => 
          sta hA rfl rfl fun a hA => ?_
        refine o_nil <| hN10 _ _ <| w_reg <| stm hA rfl rfl fun a hA => 
          stp hA (r_sub hA rfl rfl) rfl fun a hA => 
          sta hA rfl rfl fun a hA => ?_
        refine o_nil <| ⟨m2, Nat.lt_succ_self _, s2 ++ ([IntKind.u8.wrap (sR .u64 (IntKind.u64.wrap (8 * (IntKind.u64.wrap (x0.length : Int)))) (IntKind.u64.wrap (IntKind.i64.wrap (8 * s3))))] : List Int), IntKind.i64.wrap (s3 - 1), v4, ccs2 ++ cs9, H, hE11, (wrap_in _ _), hA.sub ⟨rfl, rfl, rfl, rfl, rfl, trivial⟩, (hI.sl [1, 2, 3, 4] rfl)⟩
      · obtain ⟨hc2, H⟩ := dF H hc2
        refine w_exit rfl ?_
        have H : some s2 = some z2 := H
        obtain rfl := sI H
        have H := Hk4
        cases sJ H
        exact ⟨vvs2, ccs2, ws2, hA.sub ⟨rfl, rfl, rfl, trivial⟩, hI⟩
    · rintro a w ⟨vvc2, ccc2, wc2, hA, hI⟩
      have H := Hk3
      refine w_seq fun _ hN11 => w_reg ?_
      obtain ⟨r2, hr2, H⟩ := bB H
      refine o_call _ cf75 hA rfl (sargassoref1_k.c μ _ hI.agr  r2 hr2) rfl fun v5 a w hz6 hA => ?_
      obtain ⟨_, cs12, rfl, hE12, hi2⟩ := hz6
      have hI := hI.call hi2
      refine sta hA rfl rfl fun a hA => ?_
      refine o_nil <| hN11 _ _ ?_
      obtain ⟨c3, hz7, Hk5⟩ := bB H
      refine w_cut (fun a w => ∃ (ccc3 : List Value), Els (RI .u32) 1 c3 ccc3 ∧ Fr a 282 [(2, .pointer (some ⟨g1, 0, none⟩)), (3, (.slice (some ⟨g2, 0, none⟩) 8 8))] ∧ Iv w0 [] μ μ [row 24 1 v5 r2.length cs12, row 5 1 vvc2 c2.length ccc2, row 5 1 (.slice (some ⟨g3, 0, none⟩) 1 1) ([128] : List Int).length cs3, row 24 1 (.slice (some ⟨g2, 0, none⟩) 8 8) c3.length ccc3, cel g1 [av .u8 32 (List.replicate 32 0)] 26] w) ?_ ?_
      · have H := bI hz7
        refine w_seq fun _ hN12 => w_reg <| sta hA rfl rfl fun a hA => ?_
        refine o_nil <| hN12 _ _ <| w_block ?_
        obtain ⟨z3, hz8, Hk6⟩ := bind_some H
        obtain ⟨n3, hn3⟩ := loopO_some hz8
        refine w_loop (fun n a w => ∃ (s4 : Int) (s5 : List Int) (ccs5 : List Value), loopN (sargassoref1_Sha.s2 c2 r2) n (s4, s5) = some z3 ∧ InR .i64 s4 ∧ Els (RI .u32) 1 s5 ccs5 ∧ Fr a 282 [(2, .pointer (some ⟨g1, 0, none⟩)), (3, (.slice (some ⟨g2, 0, none⟩) 8 8)), (4, vvc2), (7, v5), (8, .int .i64 s4)] ∧ Iv w0 [] μ μ [row 24 1 v5 r2.length cs12, row 5 1 vvc2 c2.length ccc2, row 5 1 (.slice (some ⟨g3, 0, none⟩) 1 1) ([128] : List Int).length cs3, row 24 1 (.slice (some ⟨g2, 0, none⟩) 8 8) s5.length ccs5, cel g1 [av .u8 32 (List.replicate 32 0)] 26] w) n3 ⟨0, ([1779033703, 3144134277, 1013904242, 2773480762, 1359893119, 2600822924, 528734635, 1541459225] : List Int), cs1, hn3, (in_lit .i64 0 rfl), hE1, hA.sub ⟨rfl, rfl, rfl, rfl, rfl, trivial⟩, hI⟩ ?_
        clear hA hI
        rintro n a w ⟨s4, s5, ccs5, hn3, ws4, ws5, hA, hI⟩
        obtain ⟨m3, rfl, H⟩ := loopN_bind hn3
        clear hn3
        refine w_seq fun _ hN13 => w_seq fun _ hN14 => w_reg <| stm hA rfl rfl fun a hA => 
          stm hA rfl rfl fun a hA => ?_
        have hlen2 := Iv.row_in hI (j := 1) rfl
        refine stp hA (r_rlen (xs := 0) Tryd.underlying40 hI (j := 1) rfl hA rfl) rfl fun a hA => 
          stp hA (r_lss hA rfl rfl) rfl fun a hA => ?_
        refine o_nil <| hN14 _ _ <| w_cond hA rfl (fun hc3 => ?_) (fun hc3 => ?_)
        · obtain ⟨hc3, H⟩ := dT H hc3
          refine w_skip <| hN13 _ _ ?_
          obtain ⟨c4, hz9, Hk7⟩ := bB H
          refine w_cut (fun a w => ∃ (ccc4 : List Value), Els (RI .u32) 1 c4 ccc4 ∧ Fr a 282 [(2, .pointer (some ⟨g1, 0, none⟩)), (3, (.slice (some ⟨g2, 0, none⟩) 8 8)), (4, vvc2), (7, v5), (8, .int .i64 s4), (56, .bool (decide (s4 < (c2.length : Int))))] ∧ Iv w0 [] μ μ [row 24 1 v5 r2.length cs12, row 5 1 vvc2 c2.length ccc2, row 5 1 (.slice (some ⟨g3, 0, none⟩) 1 1) ([128] : List Int).length cs3, row 24 1 (.slice (some ⟨g2, 0, none⟩) 8 8) c4.length ccc4, cel g1 [av .u8 32 (List.replicate 32 0)] 26] w) ?_ ?_
          · have H := bI hz9
            refine w_block <| w_seq fun _ hN15 => w_reg ?_
            obtain ⟨hb5, H⟩ := bG H
            refine o_make (RE := (RI .u32)) (c0 := [[.int .u32 0]].flatten) (z0 := 0) ⟨rfl, (in_lit .u32 0 rfl)⟩ te24 rfl zr24 Tryd.underlying131 hI hA rfl rfl (by have hq := hb5; simp only [maxLen]; omega) rfl fun g6 cs13 a w hE13 hA hI => 
              sta hA rfl rfl fun a hA => ?_
            refine o_nil <| hN15 _ _ ?_
            obtain ⟨c5, hz10, Hk8⟩ := bB H
            refine w_cut (fun a w => ∃ (ccc5 : List Value), Els (RI .u32) 1 c5 ccc5 ∧ Fr a 282 [(2, .pointer (some ⟨g1, 0, none⟩)), (3, (.slice (some ⟨g2, 0, none⟩) 8 8)), (4, vvc2), (7, v5), (8, .int .i64 s4), (9, (.slice (some ⟨g6, 0, none⟩) ((64 : Int).toNat) ((64 : Int).toNat))), (56, .bool (decide (s4 < (c2.length : Int))))] ∧ Iv w0 [] μ μ [row 24 1 (.slice (some ⟨g6, 0, none⟩) ((64 : Int).toNat) ((64 : Int).toNat)) c5.length ccc5, row 24 1 v5 r2.length cs12, row 5 1 vvc2 c2.length ccc2, row 5 1 (.slice (some ⟨g3, 0, none⟩) 1 1) ([128] : List Int).length cs3, row 24 1 (.slice (some ⟨g2, 0, none⟩) 8 8) s5.length ccs5, cel g1 [av .u8 32 (List.replicate 32 0)] 26] w) ?_ ?_
            · have H := bI hz10
              refine w_seq fun _ hN16 => w_reg <| sta hA rfl rfl fun a hA => ?_
              refine o_nil <| hN16 _ _ <| w_block ?_
              obtain ⟨z4, hz11, Hk9⟩ := bind_some H
              obtain ⟨n4, hn4⟩ := loopO_some hz11
              refine w_loop (fun n a w => ∃ (s6 : Int) (s7 : List Int) (ccs7 : List Value), loopN (sargassoref1_Sha.s3 c2 s4) n (s6, s7) = some z4 ∧ InR .i64 s6 ∧ Els (RI .u32) 1 s7 ccs7 ∧ Fr a 282 [(2, .pointer (some ⟨g1, 0, none⟩)), (3, (.slice (some ⟨g2, 0, none⟩) 8 8)), (4, vvc2), (7, v5), (8, .int .i64 s4), (9, (.slice (some ⟨g6, 0, none⟩) ((64 : Int).toNat) ((64 : Int).toNat))), (10, .int .i64 s6), (56, .bool (decide (s4 < (c2.length : Int))))] ∧ Iv w0 [] μ μ [row 24 1 (.slice (some ⟨g6, 0, none⟩) ((64 : Int).toNat) ((64 : Int).toNat)) s7.length ccs7, row 24 1 v5 r2.length cs12, row 5 1 vvc2 c2.length ccc2, row 5 1 (.slice (some ⟨g3, 0, none⟩) 1 1) ([128] : List Int).length cs3, row 24 1 (.slice (some ⟨g2, 0, none⟩) 8 8) s5.length ccs5, cel g1 [av .u8 32 (List.replicate 32 0)] 26] w) n4 ⟨0, (List.replicate ((64 : Int).toNat) 0 : List Int), cs13, hn4, (in_lit .i64 0 rfl), hE13, hA.sub ⟨rfl, rfl, rfl, rfl, rfl, rfl, rfl, rfl, trivial⟩, hI⟩ ?_
              clear hA hI
              rintro n a w ⟨s6, s7, ccs7, hn4, ws6, ws7, hA, hI⟩
              obtain ⟨m4, rfl, H⟩ := loopN_bind hn4
              clear hn4
              refine w_seq fun _ hN17 => w_seq fun _ hN18 => w_reg <| stm hA rfl rfl fun a hA => 
                stp hA (r_lss hA rfl rfl) rfl fun a hA => ?_
              refine o_nil <| hN18 _ _ <| w_cond hA rfl (fun hc4 => ?_) (fun hc4 => ?_)
              · obtain ⟨hc4, H⟩ := dT H hc4
                refine w_skip <| hN17 _ _ ?_
                obtain ⟨c6, hz12, Hk10⟩ := bB H
                refine w_cut (fun a w => ∃ (ccc6 : List Value), Els (RI .u32) 1 c6 ccc6 ∧ Fr a 282 [(2, .pointer (some ⟨g1, 0, none⟩)), (3, (.slice (some ⟨g2, 0, none⟩) 8 8)), (4, vvc2), (7, v5), (8, .int .i64 s4), (9, (.slice (some ⟨g6, 0, none⟩) ((64 : Int).toNat) ((64 : Int).toNat))), (10, .int .i64 s6), (56, .bool (decide (s4 < (c2.length : Int)))), (61, .bool (decide (s6 < 64)))] ∧ Iv w0 [] μ μ [row 24 1 (.slice (some ⟨g6, 0, none⟩) ((64 : Int).toNat) ((64 : Int).toNat)) c6.length ccc6, row 24 1 v5 r2.length cs12, row 5 1 vvc2 c2.length ccc2, row 5 1 (.slice (some ⟨g3, 0, none⟩) 1 1) ([128] : List Int).length cs3, row 24 1 (.slice (some ⟨g2, 0, none⟩) 8 8) s5.length ccs5, cel g1 [av .u8 32 (List.replicate 32 0)] 26] w) ?_ ?_
                · have H := bI hz12
                  refine w_block <| w_seq fun _ hN19 => w_seq fun _ hN20 => w_reg <| stm hA rfl rfl fun a hA => 
                    stp hA (r_lss hA rfl rfl) rfl fun a hA => ?_
                  refine o_nil <| hN20 _ _ <| w_cond hA rfl (fun hc5 => ?_) (fun hc5 => ?_)
                  · obtain ⟨hc5, H⟩ := dT H hc5
                    refine w_seq fun _ hN21 => w_reg <| stm hA rfl rfl fun a hA => 
                      stm hA rfl rfl fun a hA => 
                      stp hA (r_mul hA rfl rfl) rfl fun a hA => 
                      stp hA (r_add hA rfl rfl) rfl fun a hA => 
                      sta hA rfl rfl fun a hA => ?_
                    refine o_nil <| hN21 _ _ <| w_seq fun _ hN22 => ?_
                    refine w_any [32] mo hI fun w hI => ?_
                    refine gE 0 hA rfl (.inr hI) (fun _ => r_mv hA rfl) fun a hA => ?_
                    refine gE 1 hA rfl (.inr hI) (fun _ => r_mv hA rfl) fun a hA => ?_
                    refine gE 2 hA rfl (.inr hI) (fun _ => r_mv hA rfl) fun a hA => ?_
                    refine gE 3 hA rfl (.inr hI) (fun _ => r_mv hA rfl) fun a hA => ?_
                    obtain ⟨hb6, H⟩ := bG H
                    refine gT 4 hA rfl hI (fun w hI => r_rix (j := 2) Tryd.underlying40 sz5 hI rfl hA rfl rfl hb6.1 hb6.2) fun a hA => ?_
                    have hq1 := els_get wc2 hb6.1 hb6.2
                    refine gT 5 hA rfl hI (fun w hI => r_rld1 (j := 2) Tryd.underlying5 rfl hI rfl hq1 hA rfl (by simp only [Nat.mul_one])) fun a hA => ?_
                    refine gE 6 hA rfl (.inr hI) (fun _ => r_conv Tryd.underlying5 Tryd.underlying24 hA rfl) fun a hA => ?_
                    refine gE 7 hA rfl (.inr hI) (fun _ => r_shl hA rfl rfl (by decide)) fun a hA => ?_
                    refine gE 8 hA rfl (.inr hI) (fun _ => r_mv hA rfl) fun a hA => ?_
                    refine gE 9 hA rfl (.inr hI) (fun _ => r_mv hA rfl) fun a hA => ?_
                    refine gE 10 hA rfl (.inr hI) (fun _ => r_add hA rfl rfl) fun a hA => ?_
                    obtain ⟨hb7, H⟩ := bG H
                    refine gT 11 hA rfl hI (fun w hI => r_rix (j := 2) Tryd.underlying40 sz5 hI rfl hA rfl rfl hb7.1 hb7.2) fun a hA => ?_
                    have hq2 := els_get wc2 hb7.1 hb7.2
                    refine gT 12 hA rfl hI (fun w hI => r_rld1 (j := 2) Tryd.underlying5 rfl hI rfl hq2 hA rfl (by simp only [Nat.mul_one])) fun a hA => ?_
                    refine gE 13 hA rfl (.inr hI) (fun _ => r_conv Tryd.underlying5 Tryd.underlying24 hA rfl) fun a hA => ?_
                    refine gE 14 hA rfl (.inr hI) (fun _ => r_shl hA rfl rfl (by decide)) fun a hA => ?_
                    refine gE 15 hA rfl (.inr hI) (fun _ => r_or hA rfl rfl) fun a hA => ?_
                    refine gE 16 hA rfl (.inr hI) (fun _ => r_mv hA rfl) fun a hA => ?_
                    refine gE 17 hA rfl (.inr hI) (fun _ => r_mv hA rfl) fun a hA => ?_
                    refine gE 18 hA rfl (.inr hI) (fun _ => r_add hA rfl rfl) fun a hA => ?_
                    obtain ⟨hb8, H⟩ := bG H
                    refine gT 19 hA rfl hI (fun w hI => r_rix (j := 2) Tryd.underlying40 sz5 hI rfl hA rfl rfl hb8.1 hb8.2) fun a hA => ?_
                    have hq3 := els_get wc2 hb8.1 hb8.2
                    refine gT 20 hA rfl hI (fun w hI => r_rld1 (j := 2) Tryd.underlying5 rfl hI rfl hq3 hA rfl (by simp only [Nat.mul_one])) fun a hA => ?_
                    refine gE 21 hA rfl (.inr hI) (fun _ => r_conv Tryd.underlying5 Tryd.underlying24 hA rfl) fun a hA => ?_
                    refine gE 22 hA rfl (.inr hI) (fun _ => r_shl hA rfl rfl (by decide)) fun a hA => ?_
                    refine gE 23 hA rfl (.inr hI) (fun _ => r_or hA rfl rfl) fun a hA => ?_
                    refine gE 24 hA rfl (.inr hI) (fun _ => r_mv hA rfl) fun a hA => ?_
                    refine gE 25 hA rfl (.inr hI) (fun _ => r_mv hA rfl) fun a hA => ?_
                    refine gE 26 hA rfl (.inr hI) (fun _ => r_add hA rfl rfl) fun a hA => ?_
                    obtain ⟨hb9, H⟩ := bG H
                    refine gT 27 hA rfl hI (fun w hI => r_rix (j := 2) Tryd.underlying40 sz5 hI rfl hA rfl rfl hb9.1 hb9.2) fun a hA => ?_
                    have hq4 := els_get wc2 hb9.1 hb9.2
                    refine gT 28 hA rfl hI (fun w hI => r_rld1 (j := 2) Tryd.underlying5 rfl hI rfl hq4 hA rfl (by simp only [Nat.mul_one])) fun a hA => ?_
                    refine gE 29 hA rfl (.inr hI) (fun _ => r_conv Tryd.underlying5 Tryd.underlying24 hA rfl) fun a hA => ?_
                    refine gE 30 hA rfl (.inr hI) (fun _ => r_or hA rfl rfl) fun a hA => ?_
                    obtain ⟨hb10, H⟩ := bG H
                    refine gT 31 hA rfl hI (fun w hI => r_rix (j := 0) Tryd.underlying131 sz24 hI rfl hA rfl rfl hb10.1 hb10.2) fun a hA => ?_
                    refine gF 32 rfl ?_
                    have hE14 := els_set (x := (bOr .u32 (bOr .u32 (bOr .u32 (sL .u32 (IntKind.u32.wrap (c2.getD (IntKind.i64.wrap (s4 + (IntKind.i64.wrap (4 * s6)))).toNat 0)) 24) (sL .u32 (IntKind.u32.wrap (c2.getD (IntKind.i64.wrap ((IntKind.i64.wrap (s4 + (IntKind.i64.wrap (4 * s6)))) + 1)).toNat 0)) 16)) (sL .u32 (IntKind.u32.wrap (c2.getD (IntKind.i64.wrap ((IntKind.i64.wrap (s4 + (IntKind.i64.wrap (4 * s6)))) + 2)).toNat 0)) 8)) (IntKind.u32.wrap (c2.getD (IntKind.i64.wrap ((IntKind.i64.wrap (s4 + (IntKind.i64.wrap (4 * s6)))) + 3)).toNat 0)))) ws7 s6.toNat (wrap_in _ _)
                    refine o_rst (j := 0) (q := s6.toNat) (z := (bOr .u32 (bOr .u32 (bOr .u32 (sL .u32 (IntKind.u32.wrap (c2.getD (IntKind.i64.wrap (s4 + (IntKind.i64.wrap (4 * s6)))).toNat 0)) 24) (sL .u32 (IntKind.u32.wrap (c2.getD (IntKind.i64.wrap ((IntKind.i64.wrap (s4 + (IntKind.i64.wrap (4 * s6)))) + 1)).toNat 0)) 16)) (sL .u32 (IntKind.u32.wrap (c2.getD (IntKind.i64.wrap ((IntKind.i64.wrap (s4 + (IntKind.i64.wrap (4 * s6)))) + 2)).toNat 0)) 8)) (IntKind.u32.wrap (c2.getD (IntKind.i64.wrap ((IntKind.i64.wrap (s4 + (IntKind.i64.wrap (4 * s6)))) + 3)).toNat 0)))) (xs := s7) sz24 hI rfl hA rfl rfl (by simp only [Nat.mul_one]) rfl (by omega) fun w hI => ?_
                    refine o_nil <| ⟨(.inl (by kernel_rfl)), ?_⟩
                    refine gN <| hN22 _ _ <| w_exit rfl ?_
                    cases sJ H
                    exact ⟨ccs7.set s6.toNat (.int .u32 (bOr .u32 (bOr .u32 (bOr .u32 (sL .u32 (IntKind.u32.wrap (c2.getD (IntKind.i64.wrap (s4 + (IntKind.i64.wrap (4 * s6)))).toNat 0)) 24) (sL .u32 (IntKind.u32.wrap (c2.getD (IntKind.i64.wrap ((IntKind.i64.wrap (s4 + (IntKind.i64.wrap (4 * s6)))) + 1)).toNat 0)) 16)) (sL .u32 (IntKind.u32.wrap (c2.getD (IntKind.i64.wrap ((IntKind.i64.wrap (s4 + (IntKind.i64.wrap (4 * s6)))) + 2)).toNat 0)) 8)) (IntKind.u32.wrap (c2.getD (IntKind.i64.wrap ((IntKind.i64.wrap (s4 + (IntKind.i64.wrap (4 * s6)))) + 3)).toNat 0)))), hE14, hA.sub ⟨rfl, rfl, rfl, rfl, rfl, rfl, rfl, rfl, rfl, trivial⟩, hI⟩
                  · obtain ⟨hc5, H⟩ := dF H hc5
                    refine w_skip <| hN19 _ _ <| w_seq fun _ hN23 => w_reg <| stm hA rfl rfl fun a hA => 
                      stm hA rfl rfl fun a hA => 
                      stp hA (r_sub hA rfl rfl) rfl fun a hA => ?_
                    obtain ⟨hb11, H⟩ := bG H
                    refine stp hA (r_rix (j := 0) Tryd.underlying131 sz24 hI rfl hA rfl rfl hb11.1 hb11.2) rfl fun a hA => ?_
                    have hq5 := els_get ws7 hb11.1 hb11.2
                    refine stp hA (r_rld1 (j := 0) Tryd.underlying24 rfl hI rfl hq5 hA rfl (by simp only [Nat.mul_one])) rfl fun a hA => 
                      sta hA rfl rfl fun a hA => ?_
                    refine o_nil <| hN23 _ _ <| w_seq fun _ hN24 => w_reg <| stm hA rfl rfl fun a hA => 
                      stm hA rfl rfl fun a hA => 
                      stp hA (r_sub hA rfl rfl) rfl fun a hA => ?_
                    obtain ⟨hb12, H⟩ := bG H
                    refine stp hA (r_rix (j := 0) Tryd.underlying131 sz24 hI rfl hA rfl rfl hb12.1 hb12.2) rfl fun a hA => ?_
                    have hq6 := els_get ws7 hb12.1 hb12.2
                    refine stp hA (r_rld1 (j := 0) Tryd.underlying24 rfl hI rfl hq6 hA rfl (by simp only [Nat.mul_one])) rfl fun a hA => 
                      sta hA rfl rfl fun a hA => ?_
                    refine o_nil <| hN24 _ _ ?_
                    refine w_any [32] mo hI fun w hI => ?_
                    refine gE 0 hA rfl (.inr hI) (fun _ => r_mv hA rfl) fun a hA => ?_
                    refine gE 1 hA rfl (.inr hI) (fun _ => r_mv hA rfl) fun a hA => ?_
                    refine gE 2 hA rfl (.inr hI) (fun _ => r_mv hA rfl) fun a hA => ?_
                    refine gE 3 hA rfl (.inr hI) (fun _ => r_mv hA rfl) fun a hA => ?_
                    refine gE 4 hA rfl (.inr hI) (fun _ => r_sub hA rfl rfl) fun a hA => ?_
                    obtain ⟨hb13, H⟩ := bG H
                    refine gT 5 hA rfl hI (fun w hI => r_rix (j := 0) Tryd.underlying131 sz24 hI rfl hA rfl rfl hb13.1 hb13.2) fun a hA => ?_
                    have hq7 := els_get ws7 hb13.1 hb13.2
                    refine gT 6 hA rfl hI (fun w hI => r_rld1 (j := 0) Tryd.underlying24 rfl hI rfl hq7 hA rfl (by simp only [Nat.mul_one])) fun a hA => ?_
                    refine gE 7 hA rfl (.inr hI) (fun _ => r_mv hA rfl) fun a hA => ?_
                    refine gE 9 hA rfl (.inr hI) (fun _ => r_mv hA rfl) fun a hA => ?_
                    refine gE 12 hA rfl (.inr hI) (fun _ => r_mv hA rfl) fun a hA => ?_
                    refine gE 13 hA rfl (.inr hI) (fun _ => r_shr hA rfl rfl (by decide)) fun a hA => ?_
                    refine gE 16 hA rfl (.inr hI) (fun _ => r_mv hA rfl) fun a hA => ?_
                    refine gE 17 hA rfl (.inr hI) (fun _ => r_mv hA rfl) fun a hA => ?_
                    refine gE 18 hA rfl (.inr hI) (fun _ => r_sub hA rfl rfl) fun a hA => ?_
                    obtain ⟨hb14, H⟩ := bG H
                    refine gT 19 hA rfl hI (fun w hI => r_rix (j := 0) Tryd.underlying131 sz24 hI rfl hA rfl rfl hb14.1 hb14.2) fun a hA => ?_
                    have hq8 := els_get ws7 hb14.1 hb14.2
                    refine gT 20 hA rfl hI (fun w hI => r_rld1 (j := 0) Tryd.underlying24 rfl hI rfl hq8 hA rfl (by simp only [Nat.mul_one])) fun a hA => ?_
                    refine gE 22 hA rfl (.inr hI) (fun _ => r_mv hA rfl) fun a hA => ?_
                    refine gE 24 hA rfl (.inr hI) (fun _ => r_mv hA rfl) fun a hA => ?_
                    refine gE 27 hA rfl (.inr hI) (fun _ => r_mv hA rfl) fun a hA => ?_
                    refine gE 28 hA rfl (.inr hI) (fun _ => r_shr hA rfl rfl (by decide)) fun a hA => ?_
                    refine gF 8 rfl ?_
                    obtain ⟨r3, hr3, H⟩ := bB H
                    refine o_callp (u := .int .u32 r3) cf76 hA rfl hI (sargassoref1_right.c μ _ hI.agr (s7.getD (IntKind.i64.wrap (s6 - 15)).toNat 0) (getD_in (els_int_cs ws7).2 _) 7 (in_lit .u64 7 rfl) r3 hr3) rfl fun a w hz13 hI hA => ?_
                    refine o_nil <| ⟨(.inr hI), ?_⟩
                    refine gF 10 rfl ?_
                    obtain ⟨r4, hr4, H⟩ := bB H
                    refine o_callp (u := .int .u32 r4) cf76 hA rfl hI (sargassoref1_right.c μ _ hI.agr (s7.getD (IntKind.i64.wrap (s6 - 15)).toNat 0) (getD_in (els_int_cs ws7).2 _) 18 (in_lit .u64 18 rfl) r4 hr4) rfl fun a w hz14 hI hA => ?_
                    refine o_nil <| ⟨(.inr hI), ?_⟩
                    refine gE 11 hA rfl (.inr hI) (fun _ => r_xor hA rfl rfl) fun a hA => ?_
                    refine gE 14 hA rfl (.inr hI) (fun _ => r_xor hA rfl rfl) fun a hA => ?_
                    refine gE 15 hA rfl (.inr hI) (fun _ => r_add hA rfl rfl) fun a hA => ?_
                    refine gE 21 hA rfl (.inr hI) (fun _ => r_add hA rfl rfl) fun a hA => ?_
                    refine gF 23 rfl ?_
                    obtain ⟨r5, hr5, H⟩ := bB H
                    refine o_callp (u := .int .u32 r5) cf76 hA rfl hI (sargassoref1_right.c μ _ hI.agr (s7.getD (IntKind.i64.wrap (s6 - 2)).toNat 0) (getD_in (els_int_cs ws7).2 _) 17 (in_lit .u64 17 rfl) r5 hr5) rfl fun a w hz15 hI hA => ?_
                    refine o_nil <| ⟨(.inr hI), ?_⟩
                    refine gF 25 rfl ?_
                    obtain ⟨r6, hr6, H⟩ := bB H
                    refine o_callp (u := .int .u32 r6) cf76 hA rfl hI (sargassoref1_right.c μ _ hI.agr (s7.getD (IntKind.i64.wrap (s6 - 2)).toNat 0) (getD_in (els_int_cs ws7).2 _) 19 (in_lit .u64 19 rfl) r6 hr6) rfl fun a w hz16 hI hA => ?_
                    refine o_nil <| ⟨(.inr hI), ?_⟩
                    refine gE 26 hA rfl (.inr hI) (fun _ => r_xor hA rfl rfl) fun a hA => ?_
                    refine gE 29 hA rfl (.inr hI) (fun _ => r_xor hA rfl rfl) fun a hA => ?_
                    refine gE 30 hA rfl (.inr hI) (fun _ => r_add hA rfl rfl) fun a hA => ?_
                    obtain ⟨hb15, H⟩ := bG H
                    refine gT 31 hA rfl hI (fun w hI => r_rix (j := 0) Tryd.underlying131 sz24 hI rfl hA rfl rfl hb15.1 hb15.2) fun a hA => ?_
                    refine gF 32 rfl ?_
                    have hE15 := els_set (x := (IntKind.u32.wrap ((IntKind.u32.wrap ((IntKind.u32.wrap ((s7.getD (IntKind.i64.wrap (s6 - 16)).toNat 0) + (bXor .u32 (bXor .u32 r3 r4) (sR .u32 (s7.getD (IntKind.i64.wrap (s6 - 15)).toNat 0) 3)))) + (s7.getD (IntKind.i64.wrap (s6 - 7)).toNat 0))) + (bXor .u32 (bXor .u32 r5 r6) (sR .u32 (s7.getD (IntKind.i64.wrap (s6 - 2)).toNat 0) 10))))) ws7 s6.toNat (wrap_in _ _)
                    refine o_rst (j := 0) (q := s6.toNat) (z := (IntKind.u32.wrap ((IntKind.u32.wrap ((IntKind.u32.wrap ((s7.getD (IntKind.i64.wrap (s6 - 16)).toNat 0) + (bXor .u32 (bXor .u32 r3 r4) (sR .u32 (s7.getD (IntKind.i64.wrap (s6 - 15)).toNat 0) 3)))) + (s7.getD (IntKind.i64.wrap (s6 - 7)).toNat 0))) + (bXor .u32 (bXor .u32 r5 r6) (sR .u32 (s7.getD (IntKind.i64.wrap (s6 - 2)).toNat 0) 10))))) (xs := s7) sz24 hI rfl hA rfl rfl (by simp only [Nat.mul_one]) rfl (by omega) fun w hI => ?_
                    refine o_nil <| ⟨(.inl (by kernel_rfl)), ?_⟩
                    refine gN ?_
                    cases sJ H
                    exact ⟨ccs7.set s6.toNat (.int .u32 (IntKind.u32.wrap ((IntKind.u32.wrap ((IntKind.u32.wrap ((s7.getD (IntKind.i64.wrap (s6 - 16)).toNat 0) + (bXor .u32 (bXor .u32 r3 r4) (sR .u32 (s7.getD (IntKind.i64.wrap (s6 - 15)).toNat 0) 3)))) + (s7.getD (IntKind.i64.wrap (s6 - 7)).toNat 0))) + (bXor .u32 (bXor .u32 r5 r6) (sR .u32 (s7.getD (IntKind.i64.wrap (s6 - 2)).toNat 0) 10))))), hE15, hA.sub ⟨rfl, rfl, rfl, rfl, rfl, rfl, rfl, rfl, rfl, trivial⟩, hI⟩
                · rintro a w ⟨ccc6, wc6, hA, hI⟩
                  have H := Hk10
                  refine w_reg <| stm hA rfl rfl fun a hA => 
                    stp hA (r_add hA rfl rfl) rfl fun a hA => 
                    sta hA rfl rfl fun a hA => ?_
                  refine o_nil <| ⟨m4, Nat.lt_succ_self _, IntKind.i64.wrap (s6 + 1), c6, ccc6, H, (wrap_in _ _), wc6, hA.sub ⟨rfl, rfl, rfl, rfl, rfl, rfl, rfl, rfl, trivial⟩, hI⟩
              · obtain ⟨hc4, H⟩ := dF H hc4
                refine w_exit rfl ?_
                have H : some s7 = some z4 := H
                obtain rfl := sI H
                have H := Hk9
                cases sJ H
                exact ⟨ccs7, ws7, hA.sub ⟨rfl, rfl, rfl, rfl, rfl, rfl, rfl, trivial⟩, hI⟩
            · rintro a w ⟨ccc5, wc5, hA, hI⟩
              have H := Hk8
              refine w_seq fun _ hN25 => w_reg ?_
              have hE16 : Els (RI .u32) 1 ([] : List Int) _ := Els.nil
              refine o_bsl ([]) te24 zr24 Tryd.underlying131 hI hA rfl rfl rfl rfl (by kernel_rfl) rfl fun g7 a w hA hI => ?_
              generalize hcs : ([] : List Value) = cs14 at hE16 hI
              clear hcs
              refine stm hA rfl rfl fun a hA => ?_
              obtain ⟨hb16, H⟩ := bG H
              have hE18 := hE16.app ws5
              refine o_appG (xs := (([] : List Int) : List Int)) (ys := (s5 : List Int)) (M := 35184372088832) 0 te24 Tryd.underlying131 hI rfl hA rfl rfl (src_row hI (j := 5) rfl) ws5.len (ws5.ones (one_RI _)) hb16 rfl fun v6 a w hA hI => 
                sta hA rfl rfl fun a hA => ?_
              refine o_nil <| hN25 _ _ ?_
              obtain ⟨c7, hz17, Hk11⟩ := bB H
              refine w_cut (fun a w => ∃ (vvc7 : Value) (ccc7 : List Value), Els (RI .u32) 1 c7 ccc7 ∧ Fr a 282 [(2, .pointer (some ⟨g1, 0, none⟩)), (3, (.slice (some ⟨g2, 0, none⟩) 8 8)), (4, vvc2), (7, v5), (8, .int .i64 s4), (9, (.slice (some ⟨g6, 0, none⟩) ((64 : Int).toNat) ((64 : Int).toNat))), (14, vvc7), (56, .bool (decide (s4 < (c2.length : Int))))] ∧ Iv w0 [] μ μ [row 24 1 vvc7 c7.length ccc7, row 24 1 (.slice (some ⟨g6, 0, none⟩) ((64 : Int).toNat) ((64 : Int).toNat)) c5.length ccc5, row 24 1 v5 r2.length cs12, row 5 1 vvc2 c2.length ccc2, row 5 1 (.slice (some ⟨g3, 0, none⟩) 1 1) ([128] : List Int).length cs3, row 24 1 (.slice (some ⟨g2, 0, none⟩) 8 8) s5.length ccs5, cel g1 [av .u8 32 (List.replicate 32 0)] 26] w) ?_ ?_
              · have H := bI hz17
                refine w_seq fun _ hN26 => w_reg <| sta hA rfl rfl fun a hA => ?_
                refine o_nil <| hN26 _ _ <| w_block ?_
                obtain ⟨z5, hz18, Hk12⟩ := bind_some H
                obtain ⟨n5, hn5⟩ := loopO_some hz18
                refine w_loop (fun n a w => ∃ (s8 : List Int) (s9 : Int) (vvs8 : Value) (ccs8 : List Value), loopN (sargassoref1_Sha.s4 r2 c5) n (s8, s9) = some z5 ∧ Els (RI .u32) 1 s8 ccs8 ∧ InR .i64 s9 ∧ Fr a 282 [(2, .pointer (some ⟨g1, 0, none⟩)), (3, (.slice (some ⟨g2, 0, none⟩) 8 8)), (4, vvc2), (7, v5), (8, .int .i64 s4), (9, (.slice (some ⟨g6, 0, none⟩) ((64 : Int).toNat) ((64 : Int).toNat))), (14, vvs8), (15, .int .i64 s9), (56, .bool (decide (s4 < (c2.length : Int))))] ∧ Iv w0 [] μ μ [row 24 1 vvs8 s8.length ccs8, row 24 1 (.slice (some ⟨g6, 0, none⟩) ((64 : Int).toNat) ((64 : Int).toNat)) c5.length ccc5, row 24 1 v5 r2.length cs12, row 5 1 vvc2 c2.length ccc2, row 5 1 (.slice (some ⟨g3, 0, none⟩) 1 1) ([128] : List Int).length cs3, row 24 1 (.slice (some ⟨g2, 0, none⟩) 8 8) s5.length ccs5, cel g1 [av .u8 32 (List.replicate 32 0)] 26] w) n5 ⟨([] : List Int) ++ s5, 0, v6, cs14 ++ ccs5, hn5, hE18, (in_lit .i64 0 rfl), hA.sub ⟨rfl, rfl, rfl, rfl, rfl, rfl, rfl, rfl, rfl, trivial⟩, hI⟩ ?_
                clear hA hI
                rintro n a w ⟨s8, s9, vvs8, ccs8, hn5, ws8, ws9, hA, hI⟩
                obtain ⟨m5, rfl, H⟩ := loopN_bind hn5
                clear hn5
                refine w_seq fun _ hN27 => w_seq fun _ hN28 => w_reg <| stm hA rfl rfl fun a hA => 
                  stp hA (r_lss hA rfl rfl) rfl fun a hA => ?_
                refine o_nil <| hN28 _ _ <| w_cond hA rfl (fun hc6 => ?_) (fun hc6 => ?_)
                · obtain ⟨hc6, H⟩ := dT H hc6
                  refine w_skip <| hN27 _ _ <| w_seq fun _ hN29 => w_block <| w_seq fun _ hN30 => w_reg <| stm hA rfl rfl fun a hA => ?_
                  obtain ⟨hb17, H⟩ := bG H
                  refine stp hA (r_rix (j := 0) Tryd.underlying131 sz24 hI rfl hA rfl rfl (by decide) hb17) rfl fun a hA => ?_
                  have hq9 := els_get ws8 (by decide) hb17
                  refine stp hA (r_rld1 (j := 0) Tryd.underlying24 rfl hI rfl hq9 hA rfl (by simp only [Nat.mul_one])) rfl fun a hA => 
                    sta hA rfl rfl fun a hA => ?_
                  refine o_nil <| hN30 _ _ <| w_seq fun _ hN31 => w_reg <| stm hA rfl rfl fun a hA => ?_
                  obtain ⟨hb18, H⟩ := bG H
                  refine stp hA (r_rix (j := 0) Tryd.underlying131 sz24 hI rfl hA rfl rfl (by decide) hb18) rfl fun a hA => ?_
                  have hq10 := els_get ws8 (by decide) hb18
                  refine stp hA (r_rld1 (j := 0) Tryd.underlying24 rfl hI rfl hq10 hA rfl (by simp only [Nat.mul_one])) rfl fun a hA => 
                    sta hA rfl rfl fun a hA => ?_
                  refine o_nil <| hN31 _ _ <| w_seq fun _ hN32 => ?_
                  refine w_draw mo (by kernel_rfl) hI ?_
                  refine qtp hA (fun _ hI => r_mv hA rfl) rfl fun a hA => ?_
                  obtain ⟨hb19, H⟩ := bG H
                  refine qtp hA (fun _ hI => r_rix (j := 0) Tryd.underlying131 sz24 hI rfl hA rfl rfl (by decide) hb19) rfl fun a hA => ?_
                  have hq11 := els_get ws8 (by decide) hb19
                  refine qtp hA (fun _ hI => r_rld1 (j := 0) Tryd.underlying24 rfl hI rfl hq11 hA rfl (by simp only [Nat.mul_one])) rfl fun a hA => 
                    qtp hA (fun _ hI => r_mv hA rfl) rfl fun a hA => ?_
                  obtain ⟨r7, hr7, H⟩ := bB H
                  refine qcall (v := .int .u32 r7) cf76 hA rfl (fun _ hI => plq (sargassoref1_right.c μ _ hI.agr (s8.getD (4 : Int).toNat 0) (getD_in (els_int_cs ws8).2 _) 6 (in_lit .u64 6 rfl) r7 hr7) hI) rfl fun a hA => 
                    qtp hA (fun _ hI => r_mv hA rfl) rfl fun a hA => ?_
                  obtain ⟨r8, hr8, H⟩ := bB H
                  refine qcall (v := .int .u32 r8) cf76 hA rfl (fun _ hI => plq (sargassoref1_right.c μ _ hI.agr (s8.getD (4 : Int).toNat 0) (getD_in (els_int_cs ws8).2 _) 11 (in_lit .u64 11 rfl) r8 hr8) hI) rfl fun a hA => 
                    qtp hA (fun _ hI => r_xor hA rfl rfl) rfl fun a hA => 
                    qtp hA (fun _ hI => r_mv hA rfl) rfl fun a hA => ?_
                  obtain ⟨r9, hr9, H⟩ := bB H
                  refine qcall (v := .int .u32 r9) cf76 hA rfl (fun _ hI => plq (sargassoref1_right.c μ _ hI.agr (s8.getD (4 : Int).toNat 0) (getD_in (els_int_cs ws8).2 _) 25 (in_lit .u64 25 rfl) r9 hr9) hI) rfl fun a hA => 
                    qtp hA (fun _ hI => r_xor hA rfl rfl) rfl fun a hA => 
                    qtp hA (fun _ hI => r_add hA rfl rfl) rfl fun a hA => 
                    qtp hA (fun _ hI => r_mv hA rfl) rfl fun a hA => 
                    qtp hA (fun _ hI => r_mv hA rfl) rfl fun a hA => ?_
                  obtain ⟨hb20, H⟩ := bG H
                  refine qtp hA (fun _ hI => r_rix (j := 0) Tryd.underlying131 sz24 hI rfl hA rfl rfl (by decide) hb20) rfl fun a hA => ?_
                  have hq12 := els_get ws8 (by decide) hb20
                  refine qtp hA (fun _ hI => r_rld1 (j := 0) Tryd.underlying24 rfl hI rfl hq12 hA rfl (by simp only [Nat.mul_one])) rfl fun a hA => 
                    qtp hA (fun _ hI => r_and hA rfl rfl) rfl fun a hA => 
                    qtp hA (fun _ hI => r_mv hA rfl) rfl fun a hA => 
                    qtp hA (fun _ hI => r_inv hA rfl) rfl fun a hA => 
                    qtp hA (fun _ hI => r_mv hA rfl) rfl fun a hA => ?_
                  obtain ⟨hb21, H⟩ := bG H
                  refine qtp hA (fun _ hI => r_rix (j := 0) Tryd.underlying131 sz24 hI rfl hA rfl rfl (by decide) hb21) rfl fun a hA => ?_
                  have hq13 := els_get ws8 (by decide) hb21
                  refine qtp hA (fun _ hI => r_rld1 (j := 0) Tryd.underlying24 rfl hI rfl hq13 hA rfl (by simp only [Nat.mul_one])) rfl fun a hA => 
                    qtp hA (fun _ hI => r_and hA rfl rfl) rfl fun a hA => 
                    qtp hA (fun _ hI => r_xor hA rfl rfl) rfl fun a hA => 
                    qtp hA (fun _ hI => r_add hA rfl rfl) rfl fun a hA => 
                    qtp hA (fun _ hI => r_mv hA rfl) rfl fun a hA => 
                    qtp hA (fun _ hI => r_mv hA rfl) rfl fun a hA => ?_
                  obtain ⟨hb22, H⟩ := bG H
                  refine qtp hA (fun _ hI => r_rix (j := 2) Tryd.underlying131 sz24 hI rfl hA rfl rfl hb22.1 hb22.2) rfl fun a hA => ?_
                  have hq14 := els_get hE12 hb22.1 hb22.2
                  refine qtp hA (fun _ hI => r_rld1 (j := 2) Tryd.underlying24 rfl hI rfl hq14 hA rfl (by simp only [Nat.mul_one])) rfl fun a hA => 
                    qtp hA (fun _ hI => r_add hA rfl rfl) rfl fun a hA => 
                    qtp hA (fun _ hI => r_mv hA rfl) rfl fun a hA => 
                    qtp hA (fun _ hI => r_mv hA rfl) rfl fun a hA => ?_
                  obtain ⟨hb23, H⟩ := bG H
                  refine qtp hA (fun _ hI => r_rix (j := 1) Tryd.underlying131 sz24 hI rfl hA rfl rfl hb23.1 hb23.2) rfl fun a hA => ?_
                  have hq15 := els_get wc5 hb23.1 hb23.2
                  refine qtp hA (fun _ hI => r_rld1 (j := 1) Tryd.underlying24 rfl hI rfl hq15 hA rfl (by simp only [Nat.mul_one])) rfl fun a hA => 
                    qtp hA (fun _ hI => r_add hA rfl rfl) rfl fun a hA => 
                    qtp hA (fun _ hI => r_as hA rfl) rfl fun a hA => ?_
                  refine q_nil fun w hI => ?_
                  refine hN32 _ _ <| w_seq fun _ hN33 => ?_
                  refine w_draw mo (by kernel_rfl) hI ?_
                  refine qtp hA (fun _ hI => r_mv hA rfl) rfl fun a hA => ?_
                  obtain ⟨r10, hr10, H⟩ := bB H
                  refine qcall (v := .int .u32 r10) cf76 hA rfl (fun _ hI => plq (sargassoref1_right.c μ _ hI.agr (s8.getD (0 : Int).toNat 0) (getD_in (els_int_cs ws8).2 _) 2 (in_lit .u64 2 rfl) r10 hr10) hI) rfl fun a hA => 
                    qtp hA (fun _ hI => r_mv hA rfl) rfl fun a hA => ?_
                  obtain ⟨r11, hr11, H⟩ := bB H
                  refine qcall (v := .int .u32 r11) cf76 hA rfl (fun _ hI => plq (sargassoref1_right.c μ _ hI.agr (s8.getD (0 : Int).toNat 0) (getD_in (els_int_cs ws8).2 _) 13 (in_lit .u64 13 rfl) r11 hr11) hI) rfl fun a hA => 
                    qtp hA (fun _ hI => r_xor hA rfl rfl) rfl fun a hA => 
                    qtp hA (fun _ hI => r_mv hA rfl) rfl fun a hA => ?_
                  obtain ⟨r12, hr12, H⟩ := bB H
                  refine qcall (v := .int .u32 r12) cf76 hA rfl (fun _ hI => plq (sargassoref1_right.c μ _ hI.agr (s8.getD (0 : Int).toNat 0) (getD_in (els_int_cs ws8).2 _) 22 (in_lit .u64 22 rfl) r12 hr12) hI) rfl fun a hA => 
                    qtp hA (fun _ hI => r_xor hA rfl rfl) rfl fun a hA => 
                    qtp hA (fun _ hI => r_mv hA rfl) rfl fun a hA => 
                    qtp hA (fun _ hI => r_mv hA rfl) rfl fun a hA => ?_
                  obtain ⟨hb24, H⟩ := bG H
                  refine qtp hA (fun _ hI => r_rix (j := 0) Tryd.underlying131 sz24 hI rfl hA rfl rfl (by decide) hb24) rfl fun a hA => ?_
                  have hq16 := els_get ws8 (by decide) hb24
                  refine qtp hA (fun _ hI => r_rld1 (j := 0) Tryd.underlying24 rfl hI rfl hq16 hA rfl (by simp only [Nat.mul_one])) rfl fun a hA => 
                    qtp hA (fun _ hI => r_and hA rfl rfl) rfl fun a hA => 
                    qtp hA (fun _ hI => r_mv hA rfl) rfl fun a hA => 
                    qtp hA (fun _ hI => r_mv hA rfl) rfl fun a hA => ?_
                  obtain ⟨hb25, H⟩ := bG H
                  refine qtp hA (fun _ hI => r_rix (j := 0) Tryd.underlying131 sz24 hI rfl hA rfl rfl (by decide) hb25) rfl fun a hA => ?_
                  have hq17 := els_get ws8 (by decide) hb25
                  refine qtp hA (fun _ hI => r_rld1 (j := 0) Tryd.underlying24 rfl hI rfl hq17 hA rfl (by simp only [Nat.mul_one])) rfl fun a hA => 
                    qtp hA (fun _ hI => r_and hA rfl rfl) rfl fun a hA => 
                    qtp hA (fun _ hI => r_xor hA rfl rfl) rfl fun a hA => 
                    qtp hA (fun _ hI => r_mv hA rfl) rfl fun a hA => 
                    qtp hA (fun _ hI => r_rix (j := 0) Tryd.underlying131 sz24 hI rfl hA rfl rfl (by decide) hb24) rfl fun a hA => ?_
                  have hq18 := els_get ws8 (by decide) hb24
                  refine qtp hA (fun _ hI => r_rld1 (j := 0) Tryd.underlying24 rfl hI rfl hq18 hA rfl (by simp only [Nat.mul_one])) rfl fun a hA => 
                    qtp hA (fun _ hI => r_mv hA rfl) rfl fun a hA => 
                    qtp hA (fun _ hI => r_rix (j := 0) Tryd.underlying131 sz24 hI rfl hA rfl rfl (by decide) hb25) rfl fun a hA => ?_
                  have hq19 := els_get ws8 (by decide) hb25
                  refine qtp hA (fun _ hI => r_rld1 (j := 0) Tryd.underlying24 rfl hI rfl hq19 hA rfl (by simp only [Nat.mul_one])) rfl fun a hA => 
                    qtp hA (fun _ hI => r_and hA rfl rfl) rfl fun a hA => 
                    qtp hA (fun _ hI => r_xor hA rfl rfl) rfl fun a hA => 
                    qtp hA (fun _ hI => r_add hA rfl rfl) rfl fun a hA => 
                    qtp hA (fun _ hI => r_as hA rfl) rfl fun a hA => ?_
                  refine q_nil fun w hI => ?_
                  refine hN33 _ _ ?_
                  refine w_any [] mo hI fun w hI => ?_
                  refine gE 0 hA rfl (.inr hI) (fun _ => r_mv hA rfl) fun a hA => ?_
                  refine gE 1 hA rfl (.inr hI) (fun _ => r_mv hA rfl) fun a hA => ?_
                  refine gE 2 hA rfl (.inr hI) (fun _ => r_add hA rfl rfl) fun a hA => ?_
                  refine gE 3 hA rfl (.inr hI) (fun _ => r_mv hA rfl) fun a hA => ?_
                  refine gT 4 hA rfl hI (fun w hI => r_rix (j := 0) Tryd.underlying131 sz24 hI rfl hA rfl rfl (by decide) hb18) fun a hA => ?_
                  have hq20 := els_get ws8 (by decide) hb18
                  refine gT 5 hA rfl hI (fun w hI => r_rld1 (j := 0) Tryd.underlying24 rfl hI rfl hq20 hA rfl (by simp only [Nat.mul_one])) fun a hA => ?_
                  refine gE 6 hA rfl (.inr hI) (fun _ => r_mv hA rfl) fun a hA => ?_
                  refine gT 7 hA rfl hI (fun w hI => r_rix (j := 0) Tryd.underlying131 sz24 hI rfl hA rfl rfl (by decide) hb24) fun a hA => ?_
                  have hq21 := els_get ws8 (by decide) hb24
                  refine gT 8 hA rfl hI (fun w hI => r_rld1 (j := 0) Tryd.underlying24 rfl hI rfl hq21 hA rfl (by simp only [Nat.mul_one])) fun a hA => ?_
                  refine gE 9 hA rfl (.inr hI) (fun _ => r_mv hA rfl) fun a hA => ?_
                  refine gT 10 hA rfl hI (fun w hI => r_rix (j := 0) Tryd.underlying131 sz24 hI rfl hA rfl rfl (by decide) hb25) fun a hA => ?_
                  have hq22 := els_get ws8 (by decide) hb25
                  refine gT 11 hA rfl hI (fun w hI => r_rld1 (j := 0) Tryd.underlying24 rfl hI rfl hq22 hA rfl (by simp only [Nat.mul_one])) fun a hA => ?_
                  refine gE 12 hA rfl (.inr hI) (fun _ => r_mv hA rfl) fun a hA => ?_
                  obtain ⟨hb26, H⟩ := bG H
                  refine gT 13 hA rfl hI (fun w hI => r_rix (j := 0) Tryd.underlying131 sz24 hI rfl hA rfl rfl (by decide) hb26) fun a hA => ?_
                  have hq23 := els_get ws8 (by decide) hb26
                  refine gT 14 hA rfl hI (fun w hI => r_rld1 (j := 0) Tryd.underlying24 rfl hI rfl hq23 hA rfl (by simp only [Nat.mul_one])) fun a hA => ?_
                  refine gE 15 hA rfl (.inr hI) (fun _ => r_mv hA rfl) fun a hA => ?_
                  refine gE 16 hA rfl (.inr hI) (fun _ => r_add hA rfl rfl) fun a hA => ?_
                  refine gE 17 hA rfl (.inr hI) (fun _ => r_mv hA rfl) fun a hA => ?_
                  refine gT 18 hA rfl hI (fun w hI => r_rix (j := 0) Tryd.underlying131 sz24 hI rfl hA rfl rfl (by decide) hb17) fun a hA => ?_
                  have hq24 := els_get ws8 (by decide) hb17
                  refine gT 19 hA rfl hI (fun w hI => r_rld1 (j := 0) Tryd.underlying24 rfl hI rfl hq24 hA rfl (by simp only [Nat.mul_one])) fun a hA => ?_
                  refine gE 20 hA rfl (.inr hI) (fun _ => r_mv hA rfl) fun a hA => ?_
                  refine gT 21 hA rfl hI (fun w hI => r_rix (j := 0) Tryd.underlying131 sz24 hI rfl hA rfl rfl (by decide) hb20) fun a hA => ?_
                  have hq25 := els_get ws8 (by decide) hb20
                  refine gT 22 hA rfl hI (fun w hI => r_rld1 (j := 0) Tryd.underlying24 rfl hI rfl hq25 hA rfl (by simp only [Nat.mul_one])) fun a hA => ?_
                  refine gE 23 hA rfl (.inr hI) (fun _ => r_mv hA rfl) fun a hA => ?_
                  refine gT 24 hA rfl hI (fun w hI => r_rix (j := 0) Tryd.underlying131 sz24 hI rfl hA rfl rfl (by decide) hb21) fun a hA => ?_
                  have hq26 := els_get ws8 (by decide) hb21
                  refine gT 25 hA rfl hI (fun w hI => r_rld1 (j := 0) Tryd.underlying24 rfl hI rfl hq26 hA rfl (by simp only [Nat.mul_one])) fun a hA => ?_
                  refine gF 26 rfl ?_
                  have hE19 : Els (RI .u32) 1 ([IntKind.u32.wrap ((IntKind.u32.wrap ((IntKind.u32.wrap ((IntKind.u32.wrap ((IntKind.u32.wrap ((s8.getD (7 : Int).toNat 0) + (bXor .u32 (bXor .u32 r7 r8) r9))) + (bXor .u32 (bAnd .u32 (s8.getD (4 : Int).toNat 0) (s8.getD (5 : Int).toNat 0)) (bAnd .u32 (bNot .u32 (s8.getD (4 : Int).toNat 0)) (s8.getD (6 : Int).toNat 0))))) + (r2.getD s9.toNat 0))) + (c5.getD s9.toNat 0))) + (IntKind.u32.wrap ((bXor .u32 (bXor .u32 r10 r11) r12) + (bXor .u32 (bXor .u32 (bAnd .u32 (s8.getD (0 : Int).toNat 0) (s8.getD (1 : Int).toNat 0)) (bAnd .u32 (s8.getD (0 : Int).toNat 0) (s8.getD (2 : Int).toNat 0))) (bAnd .u32 (s8.getD (1 : Int).toNat 0) (s8.getD (2 : Int).toNat 0)))))), s8.getD (0 : Int).toNat 0, s8.getD (1 : Int).toNat 0, s8.getD (2 : Int).toNat 0, IntKind.u32.wrap ((s8.getD (3 : Int).toNat 0) + (IntKind.u32.wrap ((IntKind.u32.wrap ((IntKind.u32.wrap ((IntKind.u32.wrap ((s8.getD (7 : Int).toNat 0) + (bXor .u32 (bXor .u32 r7 r8) r9))) + (bXor .u32 (bAnd .u32 (s8.getD (4 : Int).toNat 0) (s8.getD (5 : Int).toNat 0)) (bAnd .u32 (bNot .u32 (s8.getD (4 : Int).toNat 0)) (s8.getD (6 : Int).toNat 0))))) + (r2.getD s9.toNat 0))) + (c5.getD s9.toNat 0)))), s8.getD (4 : Int).toNat 0, s8.getD (5 : Int).toNat 0, s8.getD (6 : Int).toNat 0] : List Int) _ := (Els.cons (c := [[.int .u32 (IntKind.u32.wrap ((IntKind.u32.wrap ((IntKind.u32.wrap ((IntKind.u32.wrap ((IntKind.u32.wrap ((s8.getD (7 : Int).toNat 0) + (bXor .u32 (bXor .u32 r7 r8) r9))) + (bXor .u32 (bAnd .u32 (s8.getD (4 : Int).toNat 0) (s8.getD (5 : Int).toNat 0)) (bAnd .u32 (bNot .u32 (s8.getD (4 : Int).toNat 0)) (s8.getD (6 : Int).toNat 0))))) + (r2.getD s9.toNat 0))) + (c5.getD s9.toNat 0))) + (IntKind.u32.wrap ((bXor .u32 (bXor .u32 r10 r11) r12) + (bXor .u32 (bXor .u32 (bAnd .u32 (s8.getD (0 : Int).toNat 0) (s8.getD (1 : Int).toNat 0)) (bAnd .u32 (s8.getD (0 : Int).toNat 0) (s8.getD (2 : Int).toNat 0))) (bAnd .u32 (s8.getD (1 : Int).toNat 0) (s8.getD (2 : Int).toNat 0)))))))]].flatten) ⟨rfl, (wrap_in _ _)⟩ rfl (Els.cons (c := [[.int .u32 (s8.getD (0 : Int).toNat 0)]].flatten) ⟨rfl, (getD_in (els_int_cs ws8).2 _)⟩ rfl (Els.cons (c := [[.int .u32 (s8.getD (1 : Int).toNat 0)]].flatten) ⟨rfl, (getD_in (els_int_cs ws8).2 _)⟩ rfl (Els.cons (c := [[.int .u32 (s8.getD (2 : Int).toNat 0)]].flatten) ⟨rfl, (getD_in (els_int_cs ws8).2 _)⟩ rfl (Els.cons (c := [[.int .u32 (IntKind.u32.wrap ((s8.getD (3 : Int).toNat 0) + (IntKind.u32.wrap ((IntKind.u32.wrap ((IntKind.u32.wrap ((IntKind.u32.wrap ((s8.getD (7 : Int).toNat 0) + (bXor .u32 (bXor .u32 r7 r8) r9))) + (bXor .u32 (bAnd .u32 (s8.getD (4 : Int).toNat 0) (s8.getD (5 : Int).toNat 0)) (bAnd .u32 (bNot .u32 (s8.getD (4 : Int).toNat 0)) (s8.getD (6 : Int).toNat 0))))) + (r2.getD s9.toNat 0))) + (c5.getD s9.toNat 0)))))]].flatten) ⟨rfl, (wrap_in _ _)⟩ rfl (Els.cons (c := [[.int .u32 (s8.getD (4 : Int).toNat 0)]].flatten) ⟨rfl, (getD_in (els_int_cs ws8).2 _)⟩ rfl (Els.cons (c := [[.int .u32 (s8.getD (5 : Int).toNat 0)]].flatten) ⟨rfl, (getD_in (els_int_cs ws8).2 _)⟩ rfl (Els.cons (c := [[.int .u32 (s8.getD (6 : Int).toNat 0)]].flatten) ⟨rfl, (getD_in (els_int_cs ws8).2 _)⟩ rfl Els.nil))))))))
                  refine o_bsl ([[.int .u32 (IntKind.u32.wrap ((IntKind.u32.wrap ((IntKind.u32.wrap ((IntKind.u32.wrap ((IntKind.u32.wrap ((s8.getD (7 : Int).toNat 0) + (bXor .u32 (bXor .u32 r7 r8) r9))) + (bXor .u32 (bAnd .u32 (s8.getD (4 : Int).toNat 0) (s8.getD (5 : Int).toNat 0)) (bAnd .u32 (bNot .u32 (s8.getD (4 : Int).toNat 0)) (s8.getD (6 : Int).toNat 0))))) + (r2.getD s9.toNat 0))) + (c5.getD s9.toNat 0))) + (IntKind.u32.wrap ((bXor .u32 (bXor .u32 r10 r11) r12) + (bXor .u32 (bXor .u32 (bAnd .u32 (s8.getD (0 : Int).toNat 0) (s8.getD (1 : Int).toNat 0)) (bAnd .u32 (s8.getD (0 : Int).toNat 0) (s8.getD (2 : Int).toNat 0))) (bAnd .u32 (s8.getD (1 : Int).toNat 0) (s8.getD (2 : Int).toNat 0)))))))]].flatten ++ ([[.int .u32 (s8.getD (0 : Int).toNat 0)]].flatten ++ ([[.int .u32 (s8.getD (1 : Int).toNat 0)]].flatten ++ ([[.int .u32 (s8.getD (2 : Int).toNat 0)]].flatten ++ ([[.int .u32 (IntKind.u32.wrap ((s8.getD (3 : Int).toNat 0) + (IntKind.u32.wrap ((IntKind.u32.wrap ((IntKind.u32.wrap ((IntKind.u32.wrap ((s8.getD (7 : Int).toNat 0) + (bXor .u32 (bXor .u32 r7 r8) r9))) + (bXor .u32 (bAnd .u32 (s8.getD (4 : Int).toNat 0) (s8.getD (5 : Int).toNat 0)) (bAnd .u32 (bNot .u32 (s8.getD (4 : Int).toNat 0)) (s8.getD (6 : Int).toNat 0))))) + (r2.getD s9.toNat 0))) + (c5.getD s9.toNat 0)))))]].flatten ++ ([[.int .u32 (s8.getD (4 : Int).toNat 0)]].flatten ++ ([[.int .u32 (s8.getD (5 : Int).toNat 0)]].flatten ++ ([[.int .u32 (s8.getD (6 : Int).toNat 0)]].flatten ++ ([]))))))))) te24 zr24 Tryd.underlying131 hI hA rfl rfl rfl rfl (by kernel_rfl) rfl fun g8 a w hA hI => ?_
                  generalize hcs : ([[.int .u32 (IntKind.u32.wrap ((IntKind.u32.wrap ((IntKind.u32.wrap ((IntKind.u32.wrap ((IntKind.u32.wrap ((s8.getD (7 : Int).toNat 0) + (bXor .u32 (bXor .u32 r7 r8) r9))) + (bXor .u32 (bAnd .u32 (s8.getD (4 : Int).toNat 0) (s8.getD (5 : Int).toNat 0)) (bAnd .u32 (bNot .u32 (s8.getD (4 : Int).toNat 0)) (s8.getD (6 : Int).toNat 0))))) + (r2.getD s9.toNat 0))) + (c5.getD s9.toNat 0))) + (IntKind.u32.wrap ((bXor .u32 (bXor .u32 r10 r11) r12) + (bXor .u32 (bXor .u32 (bAnd .u32 (s8.getD (0 : Int).toNat 0) (s8.getD (1 : Int).toNat 0)) (bAnd .u32 (s8.getD (0 : Int).toNat 0) (s8.getD (2 : Int).toNat 0))) (bAnd .u32 (s8.getD (1 : Int).toNat 0) (s8.getD (2 : Int).toNat 0)))))))]].flatten ++ ([[.int .u32 (s8.getD (0 : Int).toNat 0)]].flatten ++ ([[.int .u32 (s8.getD (1 : Int).toNat 0)]].flatten ++ ([[.int .u32 (s8.getD (2 : Int).toNat 0)]].flatten ++ ([[.int .u32 (IntKind.u32.wrap ((s8.getD (3 : Int).toNat 0) + (IntKind.u32.wrap ((IntKind.u32.wrap ((IntKind.u32.wrap ((IntKind.u32.wrap ((s8.getD (7 : Int).toNat 0) + (bXor .u32 (bXor .u32 r7 r8) r9))) + (bXor .u32 (bAnd .u32 (s8.getD (4 : Int).toNat 0) (s8.getD (5 : Int).toNat 0)) (bAnd .u32 (bNot .u32 (s8.getD (4 : Int).toNat 0)) (s8.getD (6 : Int).toNat 0))))) + (r2.getD s9.toNat 0))) + (c5.getD s9.toNat 0)))))]].flatten ++ ([[.int .u32 (s8.getD (4 : Int).toNat 0)]].flatten ++ ([[.int .u32 (s8.getD (5 : Int).toNat 0)]].flatten ++ ([[.int .u32 (s8.getD (6 : Int).toNat 0)]].flatten ++ ([])))))))) : List Value) = cs17 at hE19 hI
                  clear hcs
                  refine o_nil <| ⟨(.inr (hI.sl [1, 2, 3, 4, 5, 6, 7] rfl)), ?_⟩
                  refine gE 27 hA rfl (.inr (hI.sl [1, 2, 3, 4, 5, 6, 7] rfl)) (fun _ => r_as hA rfl) fun a hA => ?_
                  refine gN <| hN29 _ _ <| w_reg <| stm hA rfl rfl fun a hA => 
                    stp hA (r_add hA rfl rfl) rfl fun a hA => 
                    sta hA rfl rfl fun a hA => ?_
                  refine o_nil <| ⟨m5, Nat.lt_succ_self _, ([IntKind.u32.wrap ((IntKind.u32.wrap ((IntKind.u32.wrap ((IntKind.u32.wrap ((IntKind.u32.wrap ((s8.getD (7 : Int).toNat 0) + (bXor .u32 (bXor .u32 r7 r8) r9))) + (bXor .u32 (bAnd .u32 (s8.getD (4 : Int).toNat 0) (s8.getD (5 : Int).toNat 0)) (bAnd .u32 (bNot .u32 (s8.getD (4 : Int).toNat 0)) (s8.getD (6 : Int).toNat 0))))) + (r2.getD s9.toNat 0))) + (c5.getD s9.toNat 0))) + (IntKind.u32.wrap ((bXor .u32 (bXor .u32 r10 r11) r12) + (bXor .u32 (bXor .u32 (bAnd .u32 (s8.getD (0 : Int).toNat 0) (s8.getD (1 : Int).toNat 0)) (bAnd .u32 (s8.getD (0 : Int).toNat 0) (s8.getD (2 : Int).toNat 0))) (bAnd .u32 (s8.getD (1 : Int).toNat 0) (s8.getD (2 : Int).toNat 0)))))), s8.getD (0 : Int).toNat 0, s8.getD (1 : Int).toNat 0, s8.getD (2 : Int).toNat 0, IntKind.u32.wrap ((s8.getD (3 : Int).toNat 0) + (IntKind.u32.wrap ((IntKind.u32.wrap ((IntKind.u32.wrap ((IntKind.u32.wrap ((s8.getD (7 : Int).toNat 0) + (bXor .u32 (bXor .u32 r7 r8) r9))) + (bXor .u32 (bAnd .u32 (s8.getD (4 : Int).toNat 0) (s8.getD (5 : Int).toNat 0)) (bAnd .u32 (bNot .u32 (s8.getD (4 : Int).toNat 0)) (s8.getD (6 : Int).toNat 0))))) + (r2.getD s9.toNat 0))) + (c5.getD s9.toNat 0)))), s8.getD (4 : Int).toNat 0, s8.getD (5 : Int).toNat 0, s8.getD (6 : Int).toNat 0] : List Int), IntKind.i64.wrap (s9 + 1), (.slice (some ⟨g8, 0, none⟩) 8 8), cs17, H, hE19, (wrap_in _ _), hA.sub ⟨rfl, rfl, rfl, rfl, rfl, rfl, rfl, rfl, rfl, trivial⟩, (hI.sl [0, 2, 3, 4, 5, 6, 7] rfl)⟩
                · obtain ⟨hc6, H⟩ := dF H hc6
                  refine w_exit rfl ?_
                  have H : some s8 = some z5 := H
                  obtain rfl := sI H
                  have H := Hk12
                  cases sJ H
                  exact ⟨vvs8, ccs8, ws8, hA.sub ⟨rfl, rfl, rfl, rfl, rfl, rfl, rfl, rfl, trivial⟩, hI⟩
              · rintro a w ⟨vvc7, ccc7, wc7, hA, hI⟩
                have H := Hk11
                refine w_seq fun _ hN34 => w_reg <| sta hA rfl rfl fun a hA => ?_
                refine o_nil <| hN34 _ _ <| w_block ?_
                obtain ⟨z6, hz25, Hk13⟩ := bind_some H
                obtain ⟨n6, hn6⟩ := loopO_some hz25
                refine w_loop (fun n a w => ∃ (s10 : Int) (s11 : List Int) (ccs11 : List Value), loopN (sargassoref1_Sha.s5 c7) n (s10, s11) = some z6 ∧ InR .i64 s10 ∧ Els (RI .u32) 1 s11 ccs11 ∧ Fr a 282 [(2, .pointer (some ⟨g1, 0, none⟩)), (3, (.slice (some ⟨g2, 0, none⟩) 8 8)), (4, vvc2), (7, v5), (8, .int .i64 s4), (9, (.slice (some ⟨g6, 0, none⟩) ((64 : Int).toNat) ((64 : Int).toNat))), (14, vvc7), (20, .int .i64 s10), (56, .bool (decide (s4 < (c2.length : Int))))] ∧ Iv w0 [] μ μ [row 24 1 vvc7 c7.length ccc7, row 24 1 (.slice (some ⟨g6, 0, none⟩) ((64 : Int).toNat) ((64 : Int).toNat)) c5.length ccc5, row 24 1 v5 r2.length cs12, row 5 1 vvc2 c2.length ccc2, row 5 1 (.slice (some ⟨g3, 0, none⟩) 1 1) ([128] : List Int).length cs3, row 24 1 (.slice (some ⟨g2, 0, none⟩) 8 8) s11.length ccs11, cel g1 [av .u8 32 (List.replicate 32 0)] 26] w) n6 ⟨0, s5, ccs5, hn6, (in_lit .i64 0 rfl), ws5, hA.sub ⟨rfl, rfl, rfl, rfl, rfl, rfl, rfl, rfl, rfl, trivial⟩, hI⟩ ?_
                clear hA hI
                rintro n a w ⟨s10, s11, ccs11, hn6, ws10, ws11, hA, hI⟩
                obtain ⟨m6, rfl, H⟩ := loopN_bind hn6
                clear hn6
                refine w_seq fun _ hN35 => w_seq fun _ hN36 => w_reg <| stm hA rfl rfl fun a hA => 
                  stp hA (r_lss hA rfl rfl) rfl fun a hA => ?_
                refine o_nil <| hN36 _ _ <| w_cond hA rfl (fun hc7 => ?_) (fun hc7 => ?_)
                · obtain ⟨hc7, H⟩ := dT H hc7
                  refine w_skip <| hN35 _ _ <| w_seq fun _ hN37 => w_block ?_
                  refine w_any [12] mo hI fun w hI => ?_
                  refine gE 0 hA rfl (.inr hI) (fun _ => r_mv hA rfl) fun a hA => ?_
                  refine gE 1 hA rfl (.inr hI) (fun _ => r_mv hA rfl) fun a hA => ?_
                  refine gE 2 hA rfl (.inr hI) (fun _ => r_mv hA rfl) fun a hA => ?_
                  refine gE 3 hA rfl (.inr hI) (fun _ => r_mv hA rfl) fun a hA => ?_
                  obtain ⟨hb27, H⟩ := bG H
                  refine gT 4 hA rfl hI (fun w hI => r_rix (j := 5) Tryd.underlying131 sz24 hI rfl hA rfl rfl hb27.1 hb27.2) fun a hA => ?_
                  have hq27 := els_get ws11 hb27.1 hb27.2
                  refine gT 5 hA rfl hI (fun w hI => r_rld1 (j := 5) Tryd.underlying24 rfl hI rfl hq27 hA rfl (by simp only [Nat.mul_one])) fun a hA => ?_
                  refine gE 6 hA rfl (.inr hI) (fun _ => r_mv hA rfl) fun a hA => ?_
                  refine gE 7 hA rfl (.inr hI) (fun _ => r_mv hA rfl) fun a hA => ?_
                  obtain ⟨hb28, H⟩ := bG H
                  refine gT 8 hA rfl hI (fun w hI => r_rix (j := 0) Tryd.underlying131 sz24 hI rfl hA rfl rfl hb28.1 hb28.2) fun a hA => ?_
                  have hq28 := els_get wc7 hb28.1 hb28.2
                  refine gT 9 hA rfl hI (fun w hI => r_rld1 (j := 0) Tryd.underlying24 rfl hI rfl hq28 hA rfl (by simp only [Nat.mul_one])) fun a hA => ?_
                  refine gE 10 hA rfl (.inr hI) (fun _ => r_add hA rfl rfl) fun a hA => ?_
                  refine gT 11 hA rfl hI (fun w hI => r_rix (j := 5) Tryd.underlying131 sz24 hI rfl hA rfl rfl hb27.1 hb27.2) fun a hA => ?_
                  refine gF 12 rfl ?_
                  have hE20 := els_set (x := (IntKind.u32.wrap ((s11.getD s10.toNat 0) + (c7.getD s10.toNat 0)))) ws11 s10.toNat (wrap_in _ _)
                  refine o_rst (j := 5) (q := s10.toNat) (z := (IntKind.u32.wrap ((s11.getD s10.toNat 0) + (c7.getD s10.toNat 0)))) (xs := s11) sz24 hI rfl hA rfl rfl (by simp only [Nat.mul_one]) rfl (by omega) fun w hI => ?_
                  refine o_nil <| ⟨(.inl (by kernel_rfl)), ?_⟩
                  refine gN <| hN37 _ _ <| w_reg <| stm hA rfl rfl fun a hA => 
                    stp hA (r_add hA rfl rfl) rfl fun a hA => 
                    sta hA rfl rfl fun a hA => ?_
                  refine o_nil <| ⟨m6, Nat.lt_succ_self _, IntKind.i64.wrap (s10 + 1), s11.set s10.toNat (IntKind.u32.wrap ((s11.getD s10.toNat 0) + (c7.getD s10.toNat 0))), ccs11.set s10.toNat (.int .u32 (IntKind.u32.wrap ((s11.getD s10.toNat 0) + (c7.getD s10.toNat 0)))), H, (wrap_in _ _), hE20, hA.sub ⟨rfl, rfl, rfl, rfl, rfl, rfl, rfl, rfl, rfl, trivial⟩, hI⟩
                · obtain ⟨hc7, H⟩ := dF H hc7
                  refine w_exit rfl ?_
                  have H : some s11 = some z6 := H
                  obtain rfl := sI H
                  have H := Hk13
                  cases sJ H
                  exact ⟨ccs11, ws11, hA.sub ⟨rfl, rfl, rfl, rfl, rfl, rfl, trivial⟩, (hI.sl [2, 3, 4, 5, 6] rfl)⟩
          · rintro a w ⟨ccc4, wc4, hA, hI⟩
            have H := Hk7
            refine w_reg <| stm hA rfl rfl fun a hA => 
              stp hA (r_add hA rfl rfl) rfl fun a hA => 
              sta hA rfl rfl fun a hA => ?_
            refine o_nil <| ⟨m3, Nat.lt_succ_self _, IntKind.i64.wrap (s4 + 64), c4, ccc4, H, (wrap_in _ _), wc4, hA.sub ⟨rfl, rfl, rfl, rfl, rfl, trivial⟩, hI⟩
        · obtain ⟨hc3, H⟩ := dF H hc3
          refine w_exit rfl ?_
          have H : some s5 = some z3 := H
          obtain rfl := sI H
          have H := Hk6
          cases sJ H
          exact ⟨ccs5, ws5, hA.sub ⟨rfl, rfl, trivial⟩, hI⟩
      · rintro a w ⟨ccc3, wc3, hA, hI⟩
        have H := Hk5
        refine w_seq fun _ hN38 => w_reg <| o_new [av .u8 32 (List.replicate 32 0)] zr26 hI hA rfl fun g9 a w hA hI hg9 => ?_
        refine o_nil <| hN38 _ _ ?_
        obtain ⟨c8, hz26, Hk14⟩ := bB H
        refine w_cut (fun a w => Arr .u8 32 c8 ∧ Fr a 282 [(2, .pointer (some ⟨g1, 0, none⟩)), (21, .pointer (some ⟨g9, 0, none⟩))] ∧ Iv w0 [] μ μ [cel g9 [av .u8 32 c8] 26, row 24 1 v5 r2.length cs12, row 5 1 vvc2 c2.length ccc2, row 5 1 (.slice (some ⟨g3, 0, none⟩) 1 1) ([128] : List Int).length cs3, row 24 1 (.slice (some ⟨g2, 0, none⟩) 8 8) c3.length ccc3, cel g1 [av .u8 32 (List.replicate 32 0)] 26] w) ?_ ?_
        · have H := bI hz26
          refine w_seq fun _ hN39 => w_reg <| sta hA rfl rfl fun a hA => ?_
          refine o_nil <| hN39 _ _ <| w_block ?_
          obtain ⟨z7, hz27, Hk15⟩ := bind_some H
          obtain ⟨n7, hn7⟩ := loopO_some hz27
          refine w_loop (fun n a w => ∃ (s12 : Int) (s13 : List Int), loopN (sargassoref1_Sha.s6 c3) n (s12, s13) = some z7 ∧ InR .i64 s12 ∧ Arr .u8 32 s13 ∧ Fr a 282 [(2, .pointer (some ⟨g1, 0, none⟩)), (3, (.slice (some ⟨g2, 0, none⟩) 8 8)), (21, .pointer (some ⟨g9, 0, none⟩)), (22, .int .i64 s12)] ∧ Iv w0 [] μ μ [cel g9 [av .u8 32 s13] 26, row 24 1 v5 r2.length cs12, row 5 1 vvc2 c2.length ccc2, row 5 1 (.slice (some ⟨g3, 0, none⟩) 1 1) ([128] : List Int).length cs3, row 24 1 (.slice (some ⟨g2, 0, none⟩) 8 8) c3.length ccc3, cel g1 [av .u8 32 (List.replicate 32 0)] 26] w) n7 ⟨0, (List.replicate 32 0), hn7, (in_lit .i64 0 rfl), (arr_zero _ _), hA.sub ⟨rfl, rfl, rfl, rfl, trivial⟩, hI⟩ ?_
          clear hA hI
          rintro n a w ⟨s12, s13, hn7, ws12, ws13, hA, hI⟩
          obtain ⟨m7, rfl, H⟩ := loopN_bind hn7
          clear hn7
          refine w_seq fun _ hN40 => w_seq fun _ hN41 => w_reg <| stm hA rfl rfl fun a hA => 
            stp hA (r_lss hA rfl rfl) rfl fun a hA => ?_
          refine o_nil <| hN41 _ _ <| w_cond hA rfl (fun hc8 => ?_) (fun hc8 => ?_)
          · obtain ⟨hc8, H⟩ := dT H hc8
            refine w_skip <| hN40 _ _ <| w_seq fun _ hN42 => w_block <| w_reg <| stm hA rfl rfl fun a hA => 
              stm hA rfl rfl fun a hA => 
              stm hA rfl rfl fun a hA => 
              stp hA (r_quo hA rfl rfl (by decide)) rfl fun a hA => ?_
            obtain ⟨hb29, H⟩ := bG H
            refine stp hA (r_rix (j := 4) Tryd.underlying131 sz24 hI rfl hA rfl rfl hb29.1 hb29.2) rfl fun a hA => ?_
            have hq29 := els_get wc3 hb29.1 hb29.2
            refine stp hA (r_rld1 (j := 4) Tryd.underlying24 rfl hI rfl hq29 hA rfl (by simp only [Nat.mul_one])) rfl fun a hA => 
              stm hA rfl rfl fun a hA => 
              stp hA (r_rem hA rfl rfl (by decide)) rfl fun a hA => 
              stp hA (r_mul hA rfl rfl) rfl fun a hA => 
              stp hA (r_sub hA rfl rfl) rfl fun a hA => 
              stp hA (r_conv Tryd.underlying3 Tryd.underlying133 hA rfl) rfl fun a hA => ?_
            obtain ⟨hb30, H⟩ := bG H
            refine stp hA (r_shr hA rfl rfl hb30) rfl fun a hA => 
              stp hA (r_conv Tryd.underlying24 Tryd.underlying5 hA rfl) rfl fun a hA => ?_
            obtain ⟨hb31, H⟩ := bG H
            refine stp hA (r_ixar1 Tryd.underlying26 sz5 hA rfl rfl hb31.1 hb31.2) rfl fun a hA => 
              o_stE (j := 0) [] [] sz5 ws13.1 hI rfl hA rfl rfl rfl (by omega) fun w hI => ?_
            refine o_nil <| hN42 _ _ <| w_reg <| stm hA rfl rfl fun a hA => 
              stp hA (r_add hA rfl rfl) rfl fun a hA => 
              sta hA rfl rfl fun a hA => ?_
            refine o_nil <| ⟨m7, Nat.lt_succ_self _, IntKind.i64.wrap (s12 + 1), s13.set s12.toNat (IntKind.u8.wrap (sR .u32 (c3.getD (IntKind.i64.wrap (Int.tdiv s12 4)).toNat 0) (IntKind.u64.wrap (IntKind.i64.wrap (24 - (IntKind.i64.wrap (8 * (Int.tmod s12 4)))))))), H, (wrap_in _ _), (arr_set ws13 _ (wrap_in _ _)), hA.sub ⟨rfl, rfl, rfl, rfl, trivial⟩, hI⟩
          · obtain ⟨hc8, H⟩ := dF H hc8
            refine w_exit rfl ?_
            have H : some s13 = some z7 := H
            obtain rfl := sI H
            have H := Hk15
            cases sJ H
            exact ⟨ws13, hA.sub ⟨rfl, rfl, trivial⟩, hI⟩
        · rintro a w ⟨wc8, hA, hI⟩
          have H := Hk14
          refine w_seq fun _ hN43 => w_reg <| stp hA (r_ldA (j := 0) [] [av .u8 32 c8] [] Tryd.underlying26 rfl sz26 rfl hI rfl hA rfl rfl) rfl fun a hA => 
            o_st (j := 5) [] [av .u8 32 (List.replicate 32 0)] [av .u8 32 c8] [] sz26 rfl rfl (fl_cons (one_av _ _ _) fl_nil) hI rfl hA rfl rfl rfl rfl fun w hI => ?_
          refine o_nil <| hN43 _ _ <| w_ret ?_
          obtain rfl := sJ H
          exact retc Tryd.underlying26 rfl sz26 rfl hI (j := 5) rfl hA Tryd.results55 rfl ⟨_, rfl, rfl, wc8, hI.forget0⟩
set_option maxRecDepth 20000 in
theorem sargassoref1_Twice.c (μ : Store) (w0 : World) (hμ : Agr μ w0) (x0 : List Int) (u0 : Value) (hx0 : Slc (RI .u8) 1 μ u0 x0) (r : List Int) (H : sargassoref1_Twice.f x0 = some r) :
    Calls Tryd.prog 50 [u0].toArray w0 (fun e w' => ∃ v, e = .returned v ∧ v = .agg [av .u8 32 r].flatten.toArray ∧ Arr .u8 32 r ∧ Iv w0 [] μ μ [] w') := by
  refine enter Tryd.func50 rfl Tryd.ntmps50 rfl fun a hA => ?_
  have hI := Iv.start hμ
  have H := bI H
  refine w_seq fun _ hN1 => w_reg <| o_new [av .u8 32 (List.replicate 32 0)] zr26 hI hA rfl fun g1 a w hA hI hg1 => ?_
  refine o_nil <| hN1 _ _ <| w_seq fun _ hN2 => w_reg <| stm hA rfl rfl fun a hA => ?_
  obtain ⟨r1, hr1, H⟩ := bB H
  refine o_callp (u := .agg [av .u8 32 r1].flatten.toArray) cf55 hA rfl hI (sargassoref1_Sha.c μ _ hI.agr x0 u0 hx0 r1 hr1) rfl fun a w hz1 hI hA => 
    o_new [av .u8 32 (List.replicate 32 0)] zr26 hI hA rfl fun g2 a w hA hI hg2 => 
    o_st (j := 0) [] [av .u8 32 (List.replicate 32 0)] [av .u8 32 r1] [] sz26 rfl rfl (fl_cons (one_av _ _ _) fl_nil) hI rfl hA rfl rfl rfl rfl fun w hI => ?_
  refine o_nil <| hN2 _ _ <| w_seq fun _ hN3 => w_reg <| stp hA (r_slv (i := 0) (j := 32) Tryd.underlying26 sz5 hA rfl rfl rfl (by decide) (by decide) (by decide) (by decide) rfl) rfl fun a hA => ?_
  obtain ⟨r2, hr2, H⟩ := bB H
  refine o_callp (u := .agg [av .u8 32 r2].flatten.toArray) cf55 hA rfl hI ((by obtain ⟨μ1, hle1, hat1, hI⟩ := hI.freezeCel 0 rfl; have hS1 : Slc (RI .u8) 1 μ1 (.slice (some ⟨g2, 0, none⟩) 32 32) (r1) := slc_view0 [] [] hat1 hz1 rfl (by decide); exact low_plain hle1 (sargassoref1_Sha.c μ1 _ hI.agr r1 (.slice (some ⟨g2, 0, none⟩) 32 32) hS1 r2 hr2))) rfl fun a w hz2 hI hA => 
    o_st (j := 1) [] [av .u8 32 (List.replicate 32 0)] [av .u8 32 r2] [] sz26 rfl rfl (fl_cons (one_av _ _ _) fl_nil) hI rfl hA rfl rfl rfl rfl fun w hI => ?_
  refine o_nil <| hN3 _ _ <| w_ret ?_
  obtain rfl := sJ H
  exact retc Tryd.underlying26 rfl sz26 rfl hI (j := 1) rfl hA Tryd.results50 rfl ⟨_, rfl, rfl, hz2, hI.forget0⟩
set_option maxRecDepth 20000 in
theorem bytes_Compare.c (μ : Store) (w0 : World) (hμ : Agr μ w0) (x0 : List Int) (u0 : Value) (hx0 : Slc (RI .u8) 1 μ u0 x0) (x1 : List Int) (u1 : Value) (hx1 : Slc (RI .u8) 1 μ u1 x1) (r : Int) (H : bytes_Compare.f x0 x1 = some r) :
    Calls Tryd.prog 104 [u0, u1].toArray w0 (fun e w' => ∃ v, e = .returned v ∧ v = .int .i64 r ∧ InR .i64 r ∧ Iv w0 [] μ μ [] w') := by
  refine enter Tryd.func104 rfl Tryd.ntmps104 rfl fun a hA => ?_
  have hI := Iv.start hμ
  have H := bI H
  refine w_seq fun _ hN1 => w_reg <| sta hA rfl rfl fun a hA => ?_
  refine o_nil <| hN1 _ _ <| w_seq fun _ hN2 => w_reg <| stm hA rfl rfl fun a hA => 
    stm hA rfl rfl fun a hA => 
    stp hA (r_cmp Tryd.func121 xc121.1 xc121.2.1 xc121.2.2 xe121 hA rfl rfl (rdb_sl hI.agr hx0) (rdb_sl hI.agr hx1) (Slc.rng hx0) (Slc.rng hx1)) rfl fun a hA => 
    sta hA rfl rfl fun a hA => ?_
  refine o_nil <| hN2 _ _ <| w_ret ?_
  obtain rfl := sJ H
  exact ret1 hA Tryd.results104 rfl ⟨_, rfl, rfl, (cmpI_in _ _), hI.forget0⟩
set_option maxRecDepth 20000 in
theorem digest_Compare.c (μ : Store) (w0 : World) (hμ : Agr μ w0) (x0 : List Int) (hx0 : Arr .u8 32 x0) (x1 : List Int) (hx1 : Arr .u8 32 x1) (r : Int) (H : digest_Compare.f x0 x1 = some r) :
    Calls Tryd.prog 80 [.agg [av .u8 32 x0].flatten.toArray, .agg [av .u8 32 x1].flatten.toArray].toArray w0 (fun e w' => ∃ v, e = .returned v ∧ v = .int .i64 r ∧ True ∧ Iv w0 [] μ μ [] w') := by
  refine enter Tryd.func80 rfl Tryd.ntmps80 rfl fun a hA => ?_
  have hI := Iv.start hμ
  have H := bI H
  refine w_seq fun _ hN1 => w_reg <| o_box [av .u8 32 x0] hI hA rfl rfl rfl fun g1 a w hA hI hg1 => 
    o_box [av .u8 32 x1] hI hA rfl rfl rfl fun g2 a w hA hI hg2 => 
    sta hA rfl rfl fun a hA => ?_
  refine o_nil <| hN1 _ _ <| w_seq fun _ hN2 => ?_
  refine w_draw mo (by kernel_rfl) hI ?_
  refine qtp hA (fun _ hI => r_slv (i := 0) (j := 32) Tryd.underlying26 sz5 hA rfl rfl rfl (by decide) (by decide) (by decide) (by decide) rfl) rfl fun a hA => 
    qtp hA (fun _ hI => r_slv (i := 0) (j := 32) Tryd.underlying26 sz5 hA rfl rfl rfl (by decide) (by decide) (by decide) (by decide) rfl) rfl fun a hA => ?_
  obtain ⟨r1, hr1, H⟩ := bB H
  refine qcall (v := .int .i64 r1) cf104 hA rfl (fun _ hI => plq ((by obtain ⟨μ1, hle1, hat1, hI⟩ := hI.freezeCel 1 rfl; have hS1 : Slc (RI .u8) 1 μ1 (.slice (some ⟨g1, 0, none⟩) 32 32) (x0) := slc_view0 [] [] hat1 hx0 rfl (by decide); obtain ⟨μ2, hle2, hat2, hI⟩ := hI.freezeCel 0 rfl; have hS2 : Slc (RI .u8) 1 μ2 (.slice (some ⟨g2, 0, none⟩) 32 32) (x1) := slc_view0 [] [] hat2 hx1 rfl (by decide); exact low_plain (hle1.trans hle2) (bytes_Compare.c μ2 _ hI.agr x0 (.slice (some ⟨g1, 0, none⟩) 32 32) (Slc.le hS1 (fun _ _ h => h) hle2) x1 (.slice (some ⟨g2, 0, none⟩) 32 32) hS2 r1 hr1))) hI) rfl fun a hA => 
    qtp hA (fun _ hI => r_as hA rfl) rfl fun a hA => ?_
  refine q_nil fun w hI => ?_
  refine hN2 _ _ <| w_ret ?_
  obtain rfl := sJ H
  exact ret1 hA Tryd.results80 rfl ⟨_, rfl, rfl, trivial, hI.forget0⟩
set_option maxRecDepth 20000 in
theorem digest_Less.c (μ : Store) (w0 : World) (hμ : Agr μ w0) (x0 : List Int) (hx0 : Arr .u8 32 x0) (x1 : List Int) (hx1 : Arr .u8 32 x1) (r : Bool) (H : digest_Less.f x0 x1 = some r) :
    Calls Tryd.prog 59 [.agg [av .u8 32 x0].flatten.toArray, .agg [av .u8 32 x1].flatten.toArray].toArray w0 (fun e w' => ∃ v, e = .returned v ∧ v = .bool r ∧ True ∧ Iv w0 [] μ μ [] w') := by
  refine enter Tryd.func59 rfl Tryd.ntmps59 rfl fun a hA => ?_
  have hI := Iv.start hμ
  have H := bI H
  refine w_seq fun _ hN1 => w_reg <| o_box [av .u8 32 x0] hI hA rfl rfl rfl fun g1 a w hA hI hg1 => 
    o_box [av .u8 32 x1] hI hA rfl rfl rfl fun g2 a w hA hI hg2 => 
    sta hA rfl rfl fun a hA => ?_
  refine o_nil <| hN1 _ _ <| w_seq fun _ hN2 => w_reg <| stp hA (r_ldA (j := 1) [] [av .u8 32 x0] [] Tryd.underlying26 rfl sz26 rfl hI rfl hA rfl rfl) rfl fun a hA => 
    stp hA (r_ldA (j := 0) [] [av .u8 32 x1] [] Tryd.underlying26 rfl sz26 rfl hI rfl hA rfl rfl) rfl fun a hA => ?_
  obtain ⟨r1, hr1, H⟩ := bB H
  refine o_callp (u := .int .i64 r1) cf80 hA rfl hI (digest_Compare.c μ _ hI.agr x0 hx0 x1 hx1 r1 hr1) rfl fun a w hz1 hI hA => 
    stp hA (r_lss hA rfl rfl) rfl fun a hA => 
    sta hA rfl rfl fun a hA => ?_
  refine o_nil <| hN2 _ _ <| w_ret ?_
  obtain rfl := sJ H
  exact ret1 hA Tryd.results59 rfl ⟨_, rfl, rfl, trivial, hI.forget0⟩
end Go.Proofs.YtdngkgkkblfcjaaDoor.T
namespace Go.Proofs.YtdngkgkkblfcjaaDoor.T
open Go Go.Proofs Go.Proofs.YtdngkgkkblfcjaaDoor.K
set_option linter.unusedVariables false
set_option linter.unusedSimpArgs false
def slices_Grow_byte_byte.f (x1 : Int) : Option (List Int) := if 0 ≤ x1 ∧ x1 ≤ 140737488355328 then some [] else none
noncomputable def slices_Concat_byte_byte.s1 (x0 : List (List Int)) : ((List Int) × Int) → Option (((List Int) × Int) ⊕ (List Int)) := fun (s3, s4) => (if s4 < (x0.length : Int) then (if 0 ≤ s4 ∧ s4 < (x0.length : Int) then (if s3.length + (x0.getD s4.toNat []).length ≤ 140737488355328 then some (.inl (s3 ++ (x0.getD s4.toNat []), IntKind.i64.wrap (s4 + 1))) else none) else none) else some (.inr s3))
noncomputable def slices_Concat_byte_byte.s0 (x0 : List (List Int)) : (Int × Int) → Option ((Int × Int) ⊕ Int) := fun (s1, s2) => (if s2 < (x0.length : Int) then (((if 0 ≤ s2 ∧ s2 < (x0.length : Int) then (if (IntKind.i64.wrap (s1 + ((x0.getD s2.toNat []).length : Int))) < 0 then none else some (IntKind.i64.wrap (s1 + ((x0.getD s2.toNat []).length : Int)))) else none)).bind fun c2 => some (.inl (c2, IntKind.i64.wrap (s2 + 1)))) else some (.inr s1))
noncomputable def slices_Concat_byte_byte.f (x0 : List (List Int)) : Option (List Int) := ((loopO (slices_Concat_byte_byte.s0 x0) (0, 0)).bind fun c1 => ((slices_Grow_byte_byte.f c1).bind fun r1 => ((loopO (slices_Concat_byte_byte.s1 x0) (r1, 0)).bind fun c3 => some c3)))
noncomputable def head_Bytes.f (x0 : Head) : Option (List Int) := ((compact_Four.f ([]) x0.Version).bind fun r1 => ((slices_Concat_byte_byte.f ([r1, x0.Prev, x0.Root] : List (List Int))).bind fun r2 => ((compact_Four.f r2 x0.Time).bind fun r3 => ((compact_Four.f r3 x0.Work).bind fun r4 => ((compact_Four.f r4 x0.Nonce).bind fun r5 => some r5)))))
noncomputable def sargassoref1_Null.f : Option Point := some (⟨(List.replicate 32 0), 4294967295⟩ : Point)
noncomputable def head_ID.f (x0 : Head) : Option (List Int) := ((head_Bytes.f x0).bind fun r1 => ((digest_Twice.f r1).bind fun r2 => some r2))
end Go.Proofs.YtdngkgkkblfcjaaDoor.T
namespace Go.Proofs.YtdngkgkkblfcjaaDoor.T
open Go Go.Proofs Go.Proofs.YtdngkgkkblfcjaaDoor.K
set_option linter.unusedVariables false
set_option linter.unusedSimpArgs false
set_option maxRecDepth 20000 in
theorem slices_Grow_byte_byte.c (μ : Store) (w0 : World) (hμ : Agr μ w0) (x1 : Int) (hx1 : InR .i64 x1) (r : List Int) (H : slices_Grow_byte_byte.f x1 = some r) :
    Calls Tryd.prog 105 [.slice none 0 0, .int .i64 x1].toArray w0 (fun e w' => ∃ v, e = .returned v ∧ ∃ (v0 : Value) (c0 : List Value), v = v0 ∧ Els (RI .u8) 1 r c0 ∧ Iv w0 [] μ μ [row 5 1 v0 r.length c0] w') := by
  obtain ⟨hb, H⟩ := guard_some H
  obtain rfl := sI H
  refine enter Tryd.func105 rfl Tryd.ntmps105 rfl fun a hA => ?_
  have hI := Iv.start hμ
  have e1 : IntKind.i64.wrap (x1 - IntKind.i64.wrap (((0 : Nat) : Int) - ((0 : Nat) : Int))) = x1 := by
    rw [wrap_id (k := .i64) (x := ((0 : Nat) : Int) - ((0 : Nat) : Int)) ⟨by omega, by omega⟩]
    simp only [Int.sub_self, Int.sub_zero, Int.natCast_zero]
    exact wrap_id hx1
  refine w_seq fun _ hN1 => w_reg (stp hA (r_as hA rfl) rfl fun a hA => o_nil (hN1 _ _ ?_))
  refine w_seq fun _ hN2 => w_seq fun _ hN3 => w_reg (stp hA (r_mv hA rfl) rfl fun a hA => stp hA (r_lss hA rfl rfl) rfl fun a hA => o_nil (hN3 _ _ ?_))
  refine w_cond hA rfl (fun hc => absurd (of_decide_eq_true hc) (by omega)) (fun _ => w_skip (hN2 _ _ ?_))
  refine w_cut (fun a w => ∃ v0 c0, Fr a 27 [(0, v0)] ∧ Iv w0 [] μ μ [row 5 1 v0 0 c0] w ∧ c0 = []) ?_ ?_
  · refine w_seq fun _ hN4 => w_reg ?_
    refine stp hA (r_mv hA rfl) rfl fun a hA => stp hA (r_mv hA rfl) rfl fun a hA => stp hA (r_cap Tryd.underlying40 hA rfl) rfl fun a hA => ?_
    refine stp hA (r_mv hA rfl) rfl fun a hA => stp hA (r_len Tryd.underlying40 hA rfl) rfl fun a hA => ?_
    refine stp hA (r_sub hA rfl rfl) rfl fun a hA => stp hA (r_sub hA rfl rfl) rfl fun a hA => ?_
    rw [e1] at hA
    refine stp hA (r_as hA rfl) rfl fun a hA => o_nil (hN4 _ _ ?_)
    refine w_seq fun _ hN5 => w_reg (stp hA (r_mv hA rfl) rfl fun a hA => stp hA (r_gtr hA rfl rfl) rfl fun a hA => o_nil (hN5 _ _ ?_))
    refine w_cond hA rfl (fun hc => ?_) (fun hc => ?_)
    · have hc := of_decide_eq_true hc
      refine w_reg ?_
      refine stp hA (r_mv hA rfl) rfl fun a hA => stp hA (r_mv hA rfl) rfl fun a hA => stp hA (r_cap Tryd.underlying40 hA rfl) rfl fun a hA => ?_
      refine stp hA (r_front Tryd.underlying40 sz5 hA rfl rfl (by decide) (by decide)) rfl fun a hA => stp hA (r_mv hA rfl) rfl fun a hA => ?_
      refine o_appmake te5 rfl Tryd.underlying40 Tryd.underlying3 hI hA rfl rfl (by omega) (by omega) (by omega) rfl fun g cap cur a w h1 h2 h3 hA hI hg => ?_
      refine stp hA (r_mv hA rfl) rfl fun a hA => stp hA (r_len Tryd.underlying40 hA rfl) rfl fun a hA => ?_
      refine stp hA (r_front Tryd.underlying40 sz5 hA rfl rfl (by decide) (by omega)) rfl fun a hA => stp hA (r_as hA rfl) rfl fun a hA => o_nil ?_
      have hI := hI (row 5 1 (.slice (some ⟨g, 0, none⟩) 0 cap) 0 []) (by simp [row, Value.ownBlock]) ⟨rfl, .inr ⟨g, cap, cur, rfl, Nat.zero_le _, hg, Nat.zero_le _, h2, h3, rfl⟩⟩
      exact ⟨_, _, hA.sub ⟨rfl, trivial⟩, hI, rfl⟩
    · exact w_skip ⟨_, _, hA.sub ⟨rfl, trivial⟩, hI.nilRow 5 1, rfl⟩
  · rintro a w ⟨v0, c0, hA, hI, rfl⟩
    refine w_seq fun _ hN6 => w_reg (stp hA (r_mv hA rfl) rfl fun a hA => stp hA (r_as hA rfl) rfl fun a hA => o_nil (hN6 _ _ ?_))
    refine w_ret ?_
    exact ret1 hA Tryd.results105 rfl ⟨_, rfl, v0, [], rfl, .nil, hI⟩
set_option maxRecDepth 20000 in
theorem slices_Concat_byte_byte.c (μ : Store) (w0 : World) (hμ : Agr μ w0) (x0 : List (List Int)) (u0 : Value) (hx0 : Slc (RS (RI .u8) 1 μ) 1 μ u0 x0) (r : List Int) (H : slices_Concat_byte_byte.f x0 = some r) :
    Calls Tryd.prog 82 [u0].toArray w0 (fun e w' => ∃ v, e = .returned v ∧ ∃ (v0 : Value) (c0 : List Value), v = v0 ∧ Els (RI .u8) 1 r c0 ∧ Iv w0 [] μ μ [row 5 1 v0 r.length c0] w') := by
  refine enter Tryd.func82 rfl Tryd.ntmps82 rfl fun a hA => ?_
  have hI := Iv.start hμ
  have H := bI H
  refine w_seq fun _ hN1 => w_reg <| sta hA rfl rfl fun a hA => ?_
  refine o_nil <| hN1 _ _ <| w_seq fun _ hN2 => w_reg <| sta hA rfl rfl fun a hA => ?_
  refine o_nil <| hN2 _ _ ?_
  obtain ⟨c1, hz1, Hk1⟩ := bB H
  refine w_cut (fun a w => InR .i64 c1 ∧ Fr a 36 [(0, u0), (2, (.slice none 0 0)), (3, .int .i64 c1)] ∧ Iv w0 [] μ μ [] w) ?_ ?_
  · have H := bI hz1
    refine w_seq fun _ hN3 => w_reg <| stm hA rfl rfl fun a hA => ?_
    obtain ⟨_, hsl1⟩ := Slc.sv hx0
    refine stp hA (r_slen Tryd.underlying163 hsl1 hA rfl) rfl fun a hA => 
      stm hA rfl rfl fun a hA => ?_
    refine o_nil <| hN3 _ _ <| w_block ?_
    obtain ⟨z1, hz2, Hk2⟩ := bind_some H
    obtain ⟨n1, hn1⟩ := loopO_some hz2
    refine w_loop (fun n a w => ∃ (s1 : Int) (s2 : Int), loopN (slices_Concat_byte_byte.s0 x0) n (s1, s2) = some z1 ∧ InR .i64 s1 ∧ InR .i64 s2 ∧ Fr a 36 [(0, u0), (2, (.slice none 0 0)), (3, .int .i64 s1), (9, u0), (10, .int .i64 (x0.length : Int)), (11, .int .i64 s2)] ∧ Iv w0 [] μ μ [] w) n1 ⟨0, 0, hn1, (in_lit .i64 0 rfl), (in_lit .i64 0 rfl), hA.sub ⟨rfl, rfl, rfl, rfl, rfl, rfl, trivial⟩, hI⟩ ?_
    clear hA hI
    rintro n a w ⟨s1, s2, hn1, ws1, ws2, hA, hI⟩
    obtain ⟨m1, rfl, H⟩ := loopN_bind hn1
    clear hn1
    refine w_seq fun _ hN4 => w_reg <| stp hA (r_lss hA rfl rfl) rfl fun a hA => ?_
    refine o_nil <| hN4 _ _ <| w_seq fun _ hN5 => w_cond hA rfl (fun hc1 => ?_) (fun hc1 => ?_)
    · obtain ⟨hc1, H⟩ := dT H hc1
      refine w_skip <| hN5 _ _ ?_
      obtain ⟨c2, hz3, Hk3⟩ := bB H
      refine w_cut (fun a w => InR .i64 c2 ∧ Fr a 36 [(0, u0), (2, (.slice none 0 0)), (3, .int .i64 c2), (9, u0), (10, .int .i64 (x0.length : Int)), (11, .int .i64 s2), (12, .bool (decide (s2 < (x0.length : Int))))] ∧ Iv w0 [] μ μ [] w) ?_ ?_
      · have H := bI hz3
        refine w_block <| w_seq fun _ hN6 => w_reg ?_
        obtain ⟨hb1, H⟩ := bG H
        obtain ⟨_, he1, _, hat1⟩ := Slc.elem1 hx0 (getD_some [] hb1.1 hb1.2)
        obtain ⟨v1, rfl, hw1⟩ := he1
        obtain ⟨_, hsl2⟩ := Slc.sv hx0
        refine stp hA (r_six1 Tryd.underlying163 sz40 hsl2 hA rfl rfl hb1.1 hb1.2) rfl fun a hA => 
          stp hA (r_ldm1 [] [] Tryd.underlying40 rfl hI.agr hat1 hA rfl rfl) rfl fun a hA => 
          sta hA rfl rfl fun a hA => ?_
        refine o_nil <| hN6 _ _ <| w_seq fun _ hN7 => w_reg <| stm hA rfl rfl fun a hA => 
          stm hA rfl rfl fun a hA => ?_
        obtain ⟨_, hsl3⟩ := Slc.sv hw1
        refine stp hA (r_slen Tryd.underlying40 hsl3 hA rfl) rfl fun a hA => 
          stp hA (r_add hA rfl rfl) rfl fun a hA => 
          sta hA rfl rfl fun a hA => ?_
        refine o_nil <| hN7 _ _ <| w_seq fun _ hN8 => w_reg <| stm hA rfl rfl fun a hA => 
          stp hA (r_lss hA rfl rfl) rfl fun a hA => ?_
        refine o_nil <| hN8 _ _ <| w_cond hA rfl (fun hc2 => ?_) (fun hc2 => ?_)
        · obtain ⟨hc2, H⟩ := dT H hc2
          exact (bN H).elim
        · obtain ⟨hc2, H⟩ := dF H hc2
          refine w_skip ?_
          cases sJ H
          exact ⟨(wrap_in _ _), hA.sub ⟨rfl, rfl, rfl, rfl, rfl, rfl, rfl, trivial⟩, hI⟩
      · rintro a w ⟨wc2, hA, hI⟩
        have H := Hk3
        refine w_reg <| stp hA (r_add hA rfl rfl) rfl fun a hA => 
          stm hA rfl rfl fun a hA => ?_
        refine o_nil <| ⟨m1, Nat.lt_succ_self _, c2, IntKind.i64.wrap (s2 + 1), H, wc2, (wrap_in _ _), hA.sub ⟨rfl, rfl, rfl, rfl, rfl, rfl, trivial⟩, hI⟩
    · obtain ⟨hc1, H⟩ := dF H hc1
      refine w_exit rfl ?_
      have H : some s1 = some z1 := H
      obtain rfl := sI H
      have H := Hk2
      cases sJ H
      exact ⟨ws1, hA.sub ⟨rfl, rfl, rfl, trivial⟩, hI⟩
  · rintro a w ⟨wc1, hA, hI⟩
    have H := Hk1
    refine w_seq fun _ hN9 => w_reg <| stm hA rfl rfl fun a hA => ?_
    obtain ⟨r1, hr1, H⟩ := bB H
    refine o_call _ cf105 hA rfl (slices_Grow_byte_byte.c μ _ hI.agr c1 wc1 r1 hr1) rfl fun v2 a w hz4 hA => ?_
    obtain ⟨_, cs1, rfl, hE1, hi1⟩ := hz4
    have hI := hI.call hi1
    refine sta hA rfl rfl fun a hA => ?_
    refine o_nil <| hN9 _ _ ?_
    obtain ⟨c3, hz5, Hk4⟩ := bB H
    refine w_cut (fun a w => ∃ (vvc3 : Value) (ccc3 : List Value), Els (RI .u8) 1 c3 ccc3 ∧ Fr a 36 [(2, (.slice none 0 0)), (6, vvc3)] ∧ Iv w0 [] μ μ [row 5 1 vvc3 c3.length ccc3] w) ?_ ?_
    · have H := bI hz5
      refine w_seq fun _ hN10 => w_reg <| stm hA rfl rfl fun a hA => ?_
      obtain ⟨_, hsl4⟩ := Slc.sv hx0
      refine stp hA (r_slen Tryd.underlying163 hsl4 hA rfl) rfl fun a hA => 
        stm hA rfl rfl fun a hA => ?_
      refine o_nil <| hN10 _ _ <| w_block ?_
      obtain ⟨z2, hz6, Hk5⟩ := bind_some H
      obtain ⟨n2, hn2⟩ := loopO_some hz6
      refine w_loop (fun n a w => ∃ (s3 : List Int) (s4 : Int) (vvs3 : Value) (ccs3 : List Value), loopN (slices_Concat_byte_byte.s1 x0) n (s3, s4) = some z2 ∧ Els (RI .u8) 1 s3 ccs3 ∧ InR .i64 s4 ∧ Fr a 36 [(2, (.slice none 0 0)), (6, vvs3), (25, u0), (26, .int .i64 (x0.length : Int)), (27, .int .i64 s4)] ∧ Iv w0 [] μ μ [row 5 1 vvs3 s3.length ccs3] w) n2 ⟨r1, 0, v2, cs1, hn2, hE1, (in_lit .i64 0 rfl), hA.sub ⟨rfl, rfl, rfl, rfl, rfl, trivial⟩, hI⟩ ?_
      clear hA hI
      rintro n a w ⟨s3, s4, vvs3, ccs3, hn2, ws3, ws4, hA, hI⟩
      obtain ⟨m2, rfl, H⟩ := loopN_bind hn2
      clear hn2
      refine w_seq fun _ hN11 => w_reg <| stp hA (r_lss hA rfl rfl) rfl fun a hA => ?_
      refine o_nil <| hN11 _ _ <| w_seq fun _ hN12 => w_cond hA rfl (fun hc3 => ?_) (fun hc3 => ?_)
      · obtain ⟨hc3, H⟩ := dT H hc3
        refine w_skip <| hN12 _ _ <| w_seq fun _ hN13 => w_block <| w_seq fun _ hN14 => w_reg ?_
        obtain ⟨hb2, H⟩ := bG H
        obtain ⟨_, he2, _, hat2⟩ := Slc.elem1 hx0 (getD_some [] hb2.1 hb2.2)
        obtain ⟨v3, rfl, hw2⟩ := he2
        obtain ⟨_, hsl5⟩ := Slc.sv hx0
        refine stp hA (r_six1 Tryd.underlying163 sz40 hsl5 hA rfl rfl hb2.1 hb2.2) rfl fun a hA => 
          stp hA (r_ldm1 [] [] Tryd.underlying40 rfl hI.agr hat2 hA rfl rfl) rfl fun a hA => 
          sta hA rfl rfl fun a hA => ?_
        refine o_nil <| hN14 _ _ <| w_reg <| stm hA rfl rfl fun a hA => 
          stm hA rfl rfl fun a hA => ?_
        obtain ⟨cs2, hE2, hsv1⟩ : Slc (RI .u8) 1 μ v3 (x0.getD s4.toNat []) := id (hw2)
        obtain ⟨hb3, H⟩ := bG H
        have hE3 := ws3.app hE2
        refine o_appG (xs := (s3 : List Int)) (ys := ((x0.getD s4.toNat []) : List Int)) (M := 140737488355328) 0 te5 Tryd.underlying40 hI rfl hA rfl rfl (src_sl hI.agr hsv1 hE2.len) hE2.len (hE2.ones (one_RI _)) hb3 rfl fun v4 a w hA hI => 
          sta hA rfl rfl fun a hA => ?_
        refine o_nil <| hN13 _ _ <| w_reg <| stp hA (r_add hA rfl rfl) rfl fun a hA => 
          stm hA rfl rfl fun a hA => ?_
        refine o_nil <| ⟨m2, Nat.lt_succ_self _, s3 ++ (x0.getD s4.toNat []), IntKind.i64.wrap (s4 + 1), v4, ccs3 ++ cs2, H, hE3, (wrap_in _ _), hA.sub ⟨rfl, rfl, rfl, rfl, rfl, trivial⟩, hI⟩
      · obtain ⟨hc3, H⟩ := dF H hc3
        refine w_exit rfl ?_
        have H : some s3 = some z2 := H
        obtain rfl := sI H
        have H := Hk5
        cases sJ H
        exact ⟨vvs3, ccs3, ws3, hA.sub ⟨rfl, rfl, trivial⟩, hI⟩
    · rintro a w ⟨vvc3, ccc3, wc3, hA, hI⟩
      have H := Hk4
      refine w_seq fun _ hN15 => w_reg <| stm hA rfl rfl fun a hA => 
        sta hA rfl rfl fun a hA => ?_
      refine o_nil <| hN15 _ _ <| w_ret ?_
      obtain rfl := sJ H
      exact ret1 hA Tryd.results82 rfl ⟨_, rfl, vvc3, ccc3, rfl, wc3, (hI.less (Store.le.refl _) hI.le)⟩
set_option maxRecDepth 20000 in
theorem head_Bytes.c (μ : Store) (w0 : World) (hμ : Agr μ w0) (x0 : Head) (hx0 : HeadW μ x0) (r : List Int) (H : head_Bytes.f x0 = some r) :
    Calls Tryd.prog 71 [.agg [[.int .u32 x0.Version], av .u8 32 x0.Prev, av .u8 32 x0.Root, [.int .u32 x0.Time], [.int .u32 x0.Work], [.int .u32 x0.Nonce]].flatten.toArray].toArray w0 (fun e w' => ∃ v, e = .returned v ∧ ∃ (v0 : Value) (c0 : List Value), v = v0 ∧ Els (RI .u8) 1 r c0 ∧ Iv w0 [] μ μ [row 5 1 v0 r.length c0] w') := by
  refine enter Tryd.func71 rfl Tryd.ntmps71 rfl fun a hA => ?_
  have hI := Iv.start hμ
  have H := bI H
  refine w_seq fun _ hN1 => w_reg <| o_box [[.int .u32 x0.Version], av .u8 32 x0.Prev, av .u8 32 x0.Root, [.int .u32 x0.Time], [.int .u32 x0.Work], [.int .u32 x0.Nonce]] hI hA rfl rfl rfl fun g1 a w hA hI hg1 => 
    sta hA rfl rfl fun a hA => ?_
  refine o_nil <| hN1 _ _ <| w_seq fun _ hN2 => ?_
  refine w_any [] mo hI fun w hI => ?_
  refine gE 0 hA rfl (.inr hI) (fun _ => r_fd (k := 0) Tryd.underlying28 rfl sz24 hA rfl rfl) fun a hA => ?_
  refine gT 1 hA rfl hI (fun w hI => r_ld1 (j := 0) [] [av .u8 32 x0.Prev, av .u8 32 x0.Root, [.int .u32 x0.Time], [.int .u32 x0.Work], [.int .u32 x0.Nonce]] Tryd.underlying24 rfl hI rfl hA rfl rfl) fun a hA => ?_
  refine gE 3 hA rfl (.inr hI) (fun _ => r_fd (k := 1) Tryd.underlying28 rfl sz26 hA rfl rfl) fun a hA => ?_
  refine gE 4 hA rfl (.inr hI) (fun _ => r_slv (i := 0) (j := 32) Tryd.underlying26 sz5 hA rfl rfl rfl (by decide) (by decide) (by decide) (by decide) rfl) fun a hA => ?_
  refine gE 5 hA rfl (.inr hI) (fun _ => r_fd (k := 33) Tryd.underlying28 rfl sz26 hA rfl rfl) fun a hA => ?_
  refine gE 6 hA rfl (.inr hI) (fun _ => r_slv (i := 0) (j := 32) Tryd.underlying26 sz5 hA rfl rfl rfl (by decide) (by decide) (by decide) (by decide) rfl) fun a hA => ?_
  refine gF 2 rfl ?_
  obtain ⟨r1, hr1, H⟩ := bB H
  refine o_call _ cf83 hA rfl (compact_Four.c μ _ hI.agr ([]) (.slice none 0 0) (slc_nil _ _ _) x0.Version hx0.1 r1 hr1) rfl fun v1 a w hz1 hA => ?_
  obtain ⟨_, cs1, rfl, hE1, hi1⟩ := hz1
  have hI := hI.call hi1
  refine o_nil <| ⟨(.inr (hI.sl [1] rfl)), ?_⟩
  refine gF 7 rfl ?_
  obtain ⟨μ1, hle1, hsv1, hI, hth1⟩ := hI.freezeRowT 0 rfl
  have hS1 : Slc (RI .u8) 1 μ1 v1 r1 := ⟨_, hE1, hsv1⟩
  obtain ⟨μ2, hle2, hat1, hI, hth2⟩ := hI.freezeCelT 0 rfl
  have hS2 : Slc (RI .u8) 1 μ2 (.slice (some ⟨g1, 1, none⟩) 32 32) (x0.Prev) := slc_view0 [[.int .u32 x0.Version]] [av .u8 32 x0.Root, [.int .u32 x0.Time], [.int .u32 x0.Work], [.int .u32 x0.Nonce]] hat1 hx0.2.1 rfl (by decide)
  have hS3 : Slc (RI .u8) 1 μ2 (.slice (some ⟨g1, 33, none⟩) 32 32) (x0.Root) := slc_view0 [[.int .u32 x0.Version], av .u8 32 x0.Prev] [[.int .u32 x0.Time], [.int .u32 x0.Work], [.int .u32 x0.Nonce]] hat1 hx0.2.2.1 rfl (by decide)
  have hE2 : Els (RS (RI .u8) 1 μ2) 1 ([r1, x0.Prev, x0.Root] : List (List Int)) _ := (Els.cons (c := [[v1]].flatten) ⟨_, rfl, (Slc.le hS1 (fun _ _ h => h) hle2)⟩ rfl (Els.cons (c := [[(.slice (some ⟨g1, 1, none⟩) 32 32)]].flatten) ⟨_, rfl, hS2⟩ rfl (Els.cons (c := [[(.slice (some ⟨g1, 33, none⟩) 32 32)]].flatten) ⟨_, rfl, hS3⟩ rfl Els.nil)))
  refine o_bsl ([[v1]].flatten ++ ([[(.slice (some ⟨g1, 1, none⟩) 32 32)]].flatten ++ ([[(.slice (some ⟨g1, 33, none⟩) 32 32)]].flatten ++ ([])))) te40 zr40 Tryd.underlying163 hI hA rfl rfl rfl rfl ((fill_one (cells1 (Slc.le hS1 (fun _ _ h => h) hle2)) rfl (by kernel_rfl)).trans ((fill_one (cells1 hS2) rfl (by kernel_rfl)).trans ((fill_one (cells1 hS3) rfl (by kernel_rfl)).trans (by kernel_rfl)))) rfl fun g2 a w hA hI => ?_
  generalize hcs : ([[v1]].flatten ++ ([[(.slice (some ⟨g1, 1, none⟩) 32 32)]].flatten ++ ([[(.slice (some ⟨g1, 33, none⟩) 32 32)]].flatten ++ ([]))) : List Value) = cs2 at hE2 hI
  clear hcs
  refine o_nil <| ⟨(.inr ((hth1 _ _ (hth2 _ _ hI)).sl [1] rfl)), ?_⟩
  refine gF 8 rfl ?_
  obtain ⟨r2, hr2, H⟩ := bB H
  refine o_callW (fun w v w' => ∃ (v0 : Value) (c0 : List Value), v = v0 ∧ Els (RI .u8) 1 r2 c0 ∧ Iv w [] μ2 μ2 [row 5 1 v0 r2.length c0] w') cf82 hA rfl ((by obtain ⟨μ3, hle3, hsv2, hI⟩ := hI.freezeRow 0 rfl; have hS4 : Slc (RS (RI .u8) 1 μ3) 1 μ3 (.slice (some ⟨g2, 0, none⟩) 3 3) ([r1, x0.Prev, x0.Root] : List (List Int)) := ⟨_, (Els.mono hE2 (fun _ _ h => RS.le (fun _ _ h => h) hle3 h)), hsv2⟩; exact (slices_Concat_byte_byte.c μ3 _ hI.agr ([r1, x0.Prev, x0.Root] : List (List Int)) (.slice (some ⟨g2, 0, none⟩) 3 3) hS4 r2 hr2).mono fun _ _ ⟨v, he, b0, b1, hv, f0, hi⟩ => ⟨v, he, b0, b1, hv, f0, hi.low hle3⟩)) rfl fun v2 a w hz2 hA => ?_
  obtain ⟨_, cs3, rfl, hE3, hi2⟩ := hz2
  have hI := hI.call hi2
  refine o_nil <| ⟨(.inr ((hth1 _ _ (hth2 _ _ hI)).sl [1] rfl)), ?_⟩
  refine gE 9 hA rfl (.inr ((hth1 _ _ (hth2 _ _ hI)).sl [1] rfl)) (fun _ => r_as hA rfl) fun a hA => ?_
  refine gN <| hN2 _ _ <| w_seq fun _ hN3 => ?_
  refine w_any [] mo hI fun w hI => ?_
  refine gE 0 hA rfl (.inr hI) (fun _ => r_mv hA rfl) fun a hA => ?_
  refine gE 1 hA rfl (.inr hI) (fun _ => r_fd (k := 0 + 65) Tryd.underlying28 rfl sz24 hA rfl rfl) fun a hA => ?_
  refine gT 2 hA rfl hI (fun w hI => r_ldm1 [[.int .u32 x0.Version], av .u8 32 x0.Prev, av .u8 32 x0.Root] [[.int .u32 x0.Work], [.int .u32 x0.Nonce]] Tryd.underlying24 rfl hI.agr hat1 hA rfl rfl) fun a hA => ?_
  refine gE 4 hA rfl (.inr hI) (fun _ => r_fd (k := 0 + 66) Tryd.underlying28 rfl sz24 hA rfl rfl) fun a hA => ?_
  refine gT 5 hA rfl hI (fun w hI => r_ldm1 [[.int .u32 x0.Version], av .u8 32 x0.Prev, av .u8 32 x0.Root, [.int .u32 x0.Time]] [[.int .u32 x0.Nonce]] Tryd.underlying24 rfl hI.agr hat1 hA rfl rfl) fun a hA => ?_
  refine gE 7 hA rfl (.inr hI) (fun _ => r_fd (k := 0 + 67) Tryd.underlying28 rfl sz24 hA rfl rfl) fun a hA => ?_
  refine gT 8 hA rfl hI (fun w hI => r_ldm1 [[.int .u32 x0.Version], av .u8 32 x0.Prev, av .u8 32 x0.Root, [.int .u32 x0.Time], [.int .u32 x0.Work]] [] Tryd.underlying24 rfl hI.agr hat1 hA rfl rfl) fun a hA => ?_
  refine gF 3 rfl ?_
  obtain ⟨r3, hr3, H⟩ := bB H
  refine o_callW (fun w v w' => ∃ (v0 : Value) (c0 : List Value), v = v0 ∧ Els (RI .u8) 1 r3 c0 ∧ Iv w [] μ2 μ2 [row 5 1 v0 r3.length c0] w') cf83 hA rfl ((by obtain ⟨μ4, hle4, hsv3, hI⟩ := hI.freezeRow 0 rfl; have hS5 : Slc (RI .u8) 1 μ4 v2 r2 := ⟨_, hE3, hsv3⟩; exact (compact_Four.c μ4 _ hI.agr r2 v2 hS5 x0.Time hx0.2.2.2.1 r3 hr3).mono fun _ _ ⟨v, he, b0, b1, hv, f0, hi⟩ => ⟨v, he, b0, b1, hv, f0, hi.low hle4⟩)) rfl fun v3 a w hz3 hA => ?_
  obtain ⟨_, cs4, rfl, hE4, hi3⟩ := hz3
  have hI := hI.call hi3
  refine o_nil <| ⟨(.inr (hI.sl [1, 2] rfl)), ?_⟩
  refine gF 6 rfl ?_
  obtain ⟨r4, hr4, H⟩ := bB H
  refine o_callW (fun w v w' => ∃ (v0 : Value) (c0 : List Value), v = v0 ∧ Els (RI .u8) 1 r4 c0 ∧ Iv w [] μ2 μ2 [row 5 1 v0 r4.length c0] w') cf83 hA rfl ((by obtain ⟨μ5, hle5, hsv4, hI⟩ := hI.freezeRow 0 rfl; have hS6 : Slc (RI .u8) 1 μ5 v3 r3 := ⟨_, hE4, hsv4⟩; exact (compact_Four.c μ5 _ hI.agr r3 v3 hS6 x0.Work hx0.2.2.2.2.1 r4 hr4).mono fun _ _ ⟨v, he, b0, b1, hv, f0, hi⟩ => ⟨v, he, b0, b1, hv, f0, hi.low hle5⟩)) rfl fun v4 a w hz4 hA => ?_
  obtain ⟨_, cs5, rfl, hE5, hi4⟩ := hz4
  have hI := hI.call hi4
  refine o_nil <| ⟨(.inr (hI.sl [2, 3] rfl)), ?_⟩
  refine gF 9 rfl ?_
  obtain ⟨r5, hr5, H⟩ := bB H
  refine o_callW (fun w v w' => ∃ (v0 : Value) (c0 : List Value), v = v0 ∧ Els (RI .u8) 1 r5 c0 ∧ Iv w [] μ2 μ2 [row 5 1 v0 r5.length c0] w') cf83 hA rfl ((by obtain ⟨μ6, hle6, hsv5, hI⟩ := hI.freezeRow 0 rfl; have hS7 : Slc (RI .u8) 1 μ6 v4 r4 := ⟨_, hE5, hsv5⟩; exact (compact_Four.c μ6 _ hI.agr r4 v4 hS7 x0.Nonce hx0.2.2.2.2.2 r5 hr5).mono fun _ _ ⟨v, he, b0, b1, hv, f0, hi⟩ => ⟨v, he, b0, b1, hv, f0, hi.low hle6⟩)) rfl fun v5 a w hz5 hA => ?_
  obtain ⟨_, cs6, rfl, hE6, hi5⟩ := hz5
  have hI := hI.call hi5
  refine o_nil <| ⟨(.inr (hI.sl [3, 4] rfl)), ?_⟩
  refine gE 10 hA rfl (.inr (hI.sl [3, 4] rfl)) (fun _ => r_as hA rfl) fun a hA => ?_
  refine gN <| hN3 _ _ <| w_ret ?_
  obtain rfl := sJ H
  exact ret1 hA Tryd.results71 rfl ⟨_, rfl, v5, cs6, rfl, hE6, ((hI.sl [0] rfl).less (Store.le.refl _) hI.le)⟩
set_option maxRecDepth 20000 in
theorem sargassoref1_Null.c (μ : Store) (w0 : World) (hμ : Agr μ w0) (r : Point) (H : sargassoref1_Null.f = some r) :
    Calls Tryd.prog 37 [].toArray w0 (fun e w' => ∃ v, e = .returned v ∧ v = .agg [av .u8 32 r.Tx, [.int .u32 r.N]].flatten.toArray ∧ PointW μ r ∧ Iv w0 [] μ μ [] w') := by
  refine enter Tryd.func37 rfl Tryd.ntmps37 rfl fun a hA => ?_
  have hI := Iv.start hμ
  have H := bI H
  refine w_seq fun _ hN1 => w_reg <| o_new [av .u8 32 (List.replicate 32 0), [.int .u32 0]] zr39 hI hA rfl fun g1 a w hA hI hg1 => ?_
  refine o_nil <| hN1 _ _ <| w_seq fun _ hN2 => w_reg <| stp hA (r_bldS (cs := [av .u8 32 (List.replicate 32 0), [.int .u32 4294967295]].flatten.toArray) (pl := [(0, 32), (32, 1)]) zr39 Tryd.underlying39 ⟨rfl, sz26, rfl, sz24, trivial⟩ hA rfl (by kernel_rfl)) rfl fun a hA => 
    o_st (j := 0) [] [av .u8 32 (List.replicate 32 0), [.int .u32 0]] [av .u8 32 (List.replicate 32 0), [.int .u32 4294967295]] [] sz39 rfl rfl (fl_cons (one_av _ _ _) (fl_cons (oneC rfl) fl_nil)) hI rfl hA rfl rfl rfl rfl fun w hI => ?_
  refine o_nil <| hN2 _ _ <| w_ret ?_
  obtain rfl := sJ H
  exact retc Tryd.underlying39 rfl sz39 rfl hI (j := 0) rfl hA Tryd.results37 rfl ⟨_, rfl, rfl, ⟨(arr_zero _ _), (in_lit .u32 4294967295 rfl)⟩, hI.forget0⟩
set_option maxRecDepth 20000 in
theorem head_ID.c (μ : Store) (w0 : World) (hμ : Agr μ w0) (x0 : Head) (hx0 : HeadW μ x0) (r : List Int) (H : head_ID.f x0 = some r) :
    Calls Tryd.prog 49 [.agg [[.int .u32 x0.Version], av .u8 32 x0.Prev, av .u8 32 x0.Root, [.int .u32 x0.Time], [.int .u32 x0.Work], [.int .u32 x0.Nonce]].flatten.toArray].toArray w0 (fun e w' => ∃ v, e = .returned v ∧ v = .agg [av .u8 32 r].flatten.toArray ∧ Arr .u8 32 r ∧ Iv w0 [] μ μ [] w') := by
  refine enter Tryd.func49 rfl Tryd.ntmps49 rfl fun a hA => ?_
  have hI := Iv.start hμ
  have H := bI H
  refine w_seq fun _ hN1 => w_reg <| o_box [[.int .u32 x0.Version], av .u8 32 x0.Prev, av .u8 32 x0.Root, [.int .u32 x0.Time], [.int .u32 x0.Work], [.int .u32 x0.Nonce]] hI hA rfl rfl rfl fun g1 a w hA hI hg1 => 
    o_new [av .u8 32 (List.replicate 32 0)] zr26 hI hA rfl fun g2 a w hA hI hg2 => ?_
  refine o_nil <| hN1 _ _ <| w_seq fun _ hN2 => w_reg <| stp hA (r_ldA (j := 1) [] [[.int .u32 x0.Version], av .u8 32 x0.Prev, av .u8 32 x0.Root, [.int .u32 x0.Time], [.int .u32 x0.Work], [.int .u32 x0.Nonce]] [] Tryd.underlying28 rfl sz28 rfl hI rfl hA rfl rfl) rfl fun a hA => ?_
  obtain ⟨r1, hr1, H⟩ := bB H
  refine o_call _ cf71 hA rfl (head_Bytes.c μ _ hI.agr x0 ⟨hx0.1, hx0.2.1, hx0.2.2.1, hx0.2.2.2.1, hx0.2.2.2.2.1, hx0.2.2.2.2.2⟩ r1 hr1) rfl fun v1 a w hz1 hA => ?_
  obtain ⟨_, cs1, rfl, hE1, hi1⟩ := hz1
  have hI := hI.call hi1
  obtain ⟨r2, hr2, H⟩ := bB H
  refine o_callp (u := .agg [av .u8 32 r2].flatten.toArray) cf70 hA rfl hI ((by obtain ⟨μ1, hle1, hsv1, hI⟩ := hI.freezeRow 0 rfl; have hS1 : Slc (RI .u8) 1 μ1 v1 r1 := ⟨_, hE1, hsv1⟩; exact low_plain hle1 (digest_Twice.c μ1 _ hI.agr r1 v1 hS1 r2 hr2))) rfl fun a w hz2 hI hA => 
    o_st (j := 1) [] [av .u8 32 (List.replicate 32 0)] [av .u8 32 r2] [] sz26 rfl rfl (fl_cons (one_av _ _ _) fl_nil) hI rfl hA rfl rfl rfl rfl fun w hI => ?_
  refine o_nil <| hN2 _ _ <| w_ret ?_
  obtain rfl := sJ H
  exact retc Tryd.underlying26 rfl sz26 rfl hI (j := 1) rfl hA Tryd.results49 rfl ⟨_, rfl, rfl, hz2, hI.forget0⟩
end Go.Proofs.YtdngkgkkblfcjaaDoor.T
namespace Go.Proofs.YtdngkgkkblfcjaaDoor.T
open Go Go.Proofs Go.Proofs.YtdngkgkkblfcjaaDoor.K
set_option linter.unusedVariables false
set_option linter.unusedSimpArgs false
noncomputable def sargassoref1_pair.f (x0 : List Int) (x1 : List Int) : Option (List Int) := ((sargassoref_Bytes.f x0).bind fun r1 => (if r1.length + x1.length ≤ 140737488355328 then ((sargassoref1_Twice.f (r1 ++ x1)).bind fun r2 => some r2) else none))
noncomputable def sargassoref1_row.s0 (x0 : List (List Int)) : ((List (List Int)) × Int) → Option (((List (List Int)) × Int) ⊕ (List (List Int))) := fun (s1, s2) => (if s2 < (x0.length : Int) then (if 0 ≤ s2 ∧ s2 < (x0.length : Int) then (if 0 ≤ iMin (IntKind.i64.wrap (s2 + 1)) (IntKind.i64.wrap ((x0.length : Int) - 1)) ∧ iMin (IntKind.i64.wrap (s2 + 1)) (IntKind.i64.wrap ((x0.length : Int) - 1)) < (x0.length : Int) then ((sargassoref1_pair.f (x0.getD s2.toNat []) (x0.getD (iMin (IntKind.i64.wrap (s2 + 1)) (IntKind.i64.wrap ((x0.length : Int) - 1))).toNat [])).bind fun r1 => (if s1.length + 1 ≤ 4398046511104 then some (.inl (s1 ++ ([r1] : List (List Int)), IntKind.i64.wrap (s2 + 2))) else none)) else none) else none) else some (.inr s1))
noncomputable def sargassoref1_row.f (x0 : List (List Int)) : Option (List (List Int)) := ((loopO (sargassoref1_row.s0 x0) (([] : List (List Int)), 0)).bind fun c1 => some c1)
noncomputable def sargassoref1_Root.s0 : (List (List Int)) → Option ((List (List Int)) ⊕ (List (List Int))) := fun s1 => (if 1 < (s1.length : Int) then ((sargassoref1_row.f s1).bind fun r1 => some (.inl r1)) else some (.inr s1))
noncomputable def sargassoref1_Root.f (x0 : List (List Int)) : Option (List Int) := (if (x0.length : Int) = 0 then some ([0, 0, 0, 0, 0, 0, 0, 0, 0, 0, 0, 0, 0, 0, 0, 0, 0, 0, 0, 0, 0, 0, 0, 0, 0, 0, 0, 0, 0, 0, 0, 0]) else ((loopO (sargassoref1_Root.s0) x0).bind fun c1 => (if 0 < (c1.length : Int) then some (c1.getD (0 : Int).toNat []) else none)))
end Go.Proofs.YtdngkgkkblfcjaaDoor.T
namespace Go.Proofs.YtdngkgkkblfcjaaDoor.T
open Go Go.Proofs Go.Proofs.YtdngkgkkblfcjaaDoor.K
set_option linter.unusedVariables false
set_option linter.unusedSimpArgs false
set_option maxRecDepth 20000 in
theorem sargassoref1_pair.c (μ : Store) (w0 : World) (hμ : Agr μ w0) (x0 : List Int) (hx0 : Arr .u8 32 x0) (x1 : List Int) (hx1 : Arr .u8 32 x1) (r : List Int) (H : sargassoref1_pair.f x0 x1 = some r) :
    Calls Tryd.prog 116 [.agg [av .u8 32 x0].flatten.toArray, .agg [av .u8 32 x1].flatten.toArray].toArray w0 (fun e w' => ∃ v, e = .returned v ∧ v = .agg [av .u8 32 r].flatten.toArray ∧ Arr .u8 32 r ∧ Iv w0 [] μ μ [] w') := by
  refine enter Tryd.func116 rfl Tryd.ntmps116 rfl fun a hA => ?_
  have hI := Iv.start hμ
  have H := bI H
  refine w_seq fun _ hN1 => w_reg <| o_box [av .u8 32 x0] hI hA rfl rfl rfl fun g1 a w hA hI hg1 => 
    o_box [av .u8 32 x1] hI hA rfl rfl rfl fun g2 a w hA hI hg2 => 
    o_new [av .u8 32 (List.replicate 32 0)] zr26 hI hA rfl fun g3 a w hA hI hg3 => ?_
  refine o_nil <| hN1 _ _ <| w_seq fun _ hN2 => ?_
  refine w_anyS [] mo (fun w (h : Iv w0 [] μ μ [cel g3 [av .u8 32 (List.replicate 32 0)] 26, cel g2 [av .u8 32 x1] 26, cel g1 [av .u8 32 x0] 26] w) => (h.sl [1, 2] rfl : Iv w0 [] μ μ [cel g2 [av .u8 32 x1] 26, cel g1 [av .u8 32 x0] 26] w)) hI fun w hI => ?_
  refine gE 0 hA rfl (.inr (hI.sl [1, 2] rfl)) (fun _ => r_slv (i := 0) (j := 32) Tryd.underlying26 sz5 hA rfl rfl rfl (by decide) (by decide) (by decide) (by decide) rfl) fun a hA => ?_
  refine gE 2 hA rfl (.inr (hI.sl [1, 2] rfl)) (fun _ => r_slv (i := 0) (j := 32) Tryd.underlying26 sz5 hA rfl rfl rfl (by decide) (by decide) (by decide) (by decide) rfl) fun a hA => ?_
  refine gF 1 rfl ?_
  obtain ⟨r1, hr1, H⟩ := bB H
  refine o_callW (fun w v w' => ∃ (v0 : Value) (c0 : List Value), v = v0 ∧ Els (RI .u8) 1 r1 c0 ∧ Iv w [] μ μ [row 5 1 v0 r1.length c0] w') cf74 hA rfl ((by obtain ⟨μ1, hle1, hat1, hI⟩ := hI.freezeCel 2 rfl; have hS1 : Slc (RI .u8) 1 μ1 (.slice (some ⟨g1, 0, none⟩) 32 32) (x0) := slc_view0 [] [] hat1 hx0 rfl (by decide); exact (sargassoref_Bytes.c μ1 _ hI.agr x0 (.slice (some ⟨g1, 0, none⟩) 32 32) hS1 r1 hr1).mono fun _ _ ⟨v, he, b0, b1, hv, f0, hi⟩ => ⟨v, he, b0, b1, hv, f0, hi.low hle1⟩)) rfl fun v1 a w hz1 hA => ?_
  obtain ⟨_, cs1, rfl, hE1, hi1⟩ := hz1
  have hI := hI.call hi1
  refine o_nil <| ⟨(.inr (hI.sl [2, 3] rfl)), ?_⟩
  refine gF 3 rfl ?_
  have hE2 := els_av hx1
  obtain ⟨hb1, H⟩ := bG H
  have hE3 := hE1.app hE2
  refine o_appG (xs := (r1 : List Int)) (ys := (x1 : List Int)) (M := 140737488355328) 0 te5 Tryd.underlying40 hI rfl hA rfl rfl (by simpa using src_cel [] [] hI (j := 2) rfl hx1 rfl) hE2.len (hE2.ones (one_RI _)) hb1 rfl fun v2 a w hA hI => ?_
  refine o_nil <| ⟨(.inr (hI.sl [2, 3] rfl)), ?_⟩
  refine gF 4 rfl ?_
  obtain ⟨r2, hr2, H⟩ := bB H
  refine o_callp (u := .agg [av .u8 32 r2].flatten.toArray) cf50 hA rfl hI ((by obtain ⟨μ2, hle2, hsv2, hI⟩ := hI.freezeRow 0 rfl; have hS2 : Slc (RI .u8) 1 μ2 v2 (r1 ++ x1) := ⟨_, hE3, hsv2⟩; exact low_plain hle2 (sargassoref1_Twice.c μ2 _ hI.agr (r1 ++ x1) v2 hS2 r2 hr2))) rfl fun a w hz2 hI hA => ?_
  refine o_nil <| ⟨(.inr (hI.sl [2, 3] rfl)), ?_⟩
  refine gF 5 rfl ?_
  refine o_st (j := 1) [] [av .u8 32 (List.replicate 32 0)] [av .u8 32 r2] [] sz26 rfl rfl (fl_cons (one_av _ _ _) fl_nil) hI rfl hA rfl rfl rfl rfl fun w hI => ?_
  refine o_nil <| ⟨(.inr (hI.sl [2, 3] rfl)), ?_⟩
  refine gN <| hN2 _ _ <| w_ret ?_
  obtain rfl := sJ H
  exact retc Tryd.underlying26 rfl sz26 rfl hI (j := 1) rfl hA Tryd.results116 rfl ⟨_, rfl, rfl, hz2, hI.forget0⟩
set_option maxRecDepth 20000 in
theorem sargassoref1_row.c (μ : Store) (w0 : World) (hμ : Agr μ w0) (x0 : List (List Int)) (u0 : Value) (hx0 : Slc (RA .u8 32) 32 μ u0 x0) (r : List (List Int)) (H : sargassoref1_row.f x0 = some r) :
    Calls Tryd.prog 99 [u0].toArray w0 (fun e w' => ∃ v, e = .returned v ∧ ∃ (v0 : Value) (c0 : List Value), v = v0 ∧ Els (RA .u8 32) 32 r c0 ∧ Iv w0 [] μ μ [row 26 32 v0 r.length c0] w') := by
  refine enter Tryd.func99 rfl Tryd.ntmps99 rfl fun a hA => ?_
  have hI := Iv.start hμ
  have H := bI H
  refine w_seq fun _ hN1 => w_reg <| sta hA rfl rfl fun a hA => ?_
  refine o_nil <| hN1 _ _ <| w_seq fun _ hN2 => w_reg <| sta hA rfl rfl fun a hA => ?_
  refine o_nil <| hN2 _ _ ?_
  obtain ⟨c1, hz1, Hk1⟩ := bB H
  refine w_cut (fun a w => ∃ (vvc1 : Value) (ccc1 : List Value), Els (RA .u8 32) 32 c1 ccc1 ∧ Fr a 29 [(2, (.slice none 0 0)), (3, vvc1)] ∧ Iv w0 [] μ μ [row 26 32 vvc1 c1.length ccc1] w) ?_ ?_
  · have H := bI hz1
    refine w_seq fun _ hN3 => w_reg <| sta hA rfl rfl fun a hA => ?_
    refine o_nil <| hN3 _ _ <| w_block ?_
    have hI := hI.nilRow 26 32
    obtain ⟨z1, hz2, Hk2⟩ := bind_some H
    obtain ⟨n1, hn1⟩ := loopO_some hz2
    refine w_loop (fun n a w => ∃ (s1 : List (List Int)) (s2 : Int) (vvs1 : Value) (ccs1 : List Value), loopN (sargassoref1_row.s0 x0) n (s1, s2) = some z1 ∧ Els (RA .u8 32) 32 s1 ccs1 ∧ InR .i64 s2 ∧ Fr a 29 [(0, u0), (2, (.slice none 0 0)), (3, vvs1), (4, .int .i64 s2)] ∧ Iv w0 [] μ μ [row 26 32 vvs1 s1.length ccs1] w) n1 ⟨([] : List (List Int)), 0, (.slice none 0 0), [], hn1, (Els.nil (RE := (RA .u8 32)) (sz := 32)), (in_lit .i64 0 rfl), hA.sub ⟨rfl, rfl, rfl, rfl, trivial⟩, hI⟩ ?_
    clear hA hI
    rintro n a w ⟨s1, s2, vvs1, ccs1, hn1, ws1, ws2, hA, hI⟩
    obtain ⟨m1, rfl, H⟩ := loopN_bind hn1
    clear hn1
    refine w_seq fun _ hN4 => w_seq fun _ hN5 => w_reg <| stm hA rfl rfl fun a hA => 
      stm hA rfl rfl fun a hA => ?_
    obtain ⟨_, hsl1⟩ := Slc.sv hx0
    refine stp hA (r_slen Tryd.underlying62 hsl1 hA rfl) rfl fun a hA => 
      stp hA (r_lss hA rfl rfl) rfl fun a hA => ?_
    refine o_nil <| hN5 _ _ <| w_cond hA rfl (fun hc1 => ?_) (fun hc1 => ?_)
    · obtain ⟨hc1, H⟩ := dT H hc1
      refine w_skip <| hN4 _ _ <| w_seq fun _ hN6 => w_block ?_
      refine w_anyS [] mo (fun w (h : Iv w0 [] μ μ [row 26 32 vvs1 s1.length ccs1] w) => (h.sl [] rfl : Iv w0 [] μ μ [] w)) hI fun w hI => ?_
      refine gE 0 hA rfl (.inr (hI.sl [] rfl)) (fun _ => r_mv hA rfl) fun a hA => ?_
      refine gE 1 hA rfl (.inr (hI.sl [] rfl)) (fun _ => r_mv hA rfl) fun a hA => ?_
      refine gE 2 hA rfl (.inr (hI.sl [] rfl)) (fun _ => r_mv hA rfl) fun a hA => ?_
      obtain ⟨hb1, H⟩ := bG H
      obtain ⟨_, he1, _, hat1⟩ := Slc.elem hx0 (getD_some [] hb1.1 hb1.2)
      obtain ⟨rfl, hw1⟩ := he1
      obtain ⟨_, hsl2⟩ := Slc.sv hx0
      refine gE 3 hA rfl (.inr (hI.sl [] rfl)) (fun _ => r_six Tryd.underlying62 sz26 hsl2 hA rfl rfl hb1.1 hb1.2) fun a hA => ?_
      refine gT 4 hA rfl (hI.sl [] rfl) (fun w hI => r_ldmA [] [av .u8 32 (x0.getD s2.toNat [])] [] Tryd.underlying26 rfl sz26 rfl hI.agr hat1 hA rfl rfl) fun a hA => ?_
      refine gE 5 hA rfl (.inr (hI.sl [] rfl)) (fun _ => r_mv hA rfl) fun a hA => ?_
      refine gE 6 hA rfl (.inr (hI.sl [] rfl)) (fun _ => r_mv hA rfl) fun a hA => ?_
      refine gE 7 hA rfl (.inr (hI.sl [] rfl)) (fun _ => r_add hA rfl rfl) fun a hA => ?_
      refine gE 8 hA rfl (.inr (hI.sl [] rfl)) (fun _ => r_mv hA rfl) fun a hA => ?_
      obtain ⟨_, hsl3⟩ := Slc.sv hx0
      refine gE 9 hA rfl (.inr (hI.sl [] rfl)) (fun _ => r_slen Tryd.underlying62 hsl3 hA rfl) fun a hA => ?_
      refine gE 10 hA rfl (.inr (hI.sl [] rfl)) (fun _ => r_sub hA rfl rfl) fun a hA => ?_
      refine gE 11 hA rfl (.inr (hI.sl [] rfl)) (fun _ => r_min hA rfl rfl) fun a hA => ?_
      obtain ⟨hb2, H⟩ := bG H
      obtain ⟨_, he2, _, hat2⟩ := Slc.elem hx0 (getD_some [] hb2.1 hb2.2)
      obtain ⟨rfl, hw2⟩ := he2
      obtain ⟨_, hsl4⟩ := Slc.sv hx0
      refine gE 12 hA rfl (.inr (hI.sl [] rfl)) (fun _ => r_six Tryd.underlying62 sz26 hsl4 hA rfl rfl hb2.1 hb2.2) fun a hA => ?_
      refine gT 13 hA rfl (hI.sl [] rfl) (fun w hI => r_ldmA [] [av .u8 32 (x0.getD (iMin (IntKind.i64.wrap (s2 + 1)) (IntKind.i64.wrap ((x0.length : Int) - 1))).toNat [])] [] Tryd.underlying26 rfl sz26 rfl hI.agr hat2 hA rfl rfl) fun a hA => ?_
      refine gF 14 rfl ?_
      obtain ⟨r1, hr1, H⟩ := bB H
      refine o_callp (u := .agg [av .u8 32 r1].flatten.toArray) cf116 hA rfl hI (sargassoref1_pair.c μ _ hI.agr (x0.getD s2.toNat []) hw1 (x0.getD (iMin (IntKind.i64.wrap (s2 + 1)) (IntKind.i64.wrap ((x0.length : Int) - 1))).toNat []) hw2 r1 hr1) rfl fun a w hz3 hI hA => ?_
      refine o_nil <| ⟨(.inr (hI.sl [] rfl)), ?_⟩
      refine gF 15 rfl ?_
      have hE1 : Els (RA .u8 32) 32 ([r1] : List (List Int)) _ := (Els.cons (c := [av .u8 32 r1].flatten) ⟨rfl, hz3⟩ rfl Els.nil)
      refine o_bsl ([av .u8 32 r1].flatten ++ ([])) te26 zr26 Tryd.underlying62 hI hA rfl rfl rfl rfl (by kernel_rfl) rfl fun g1 a w hA hI => ?_
      generalize hcs : ([av .u8 32 r1].flatten ++ ([]) : List Value) = cs1 at hE1 hI
      clear hcs
      refine o_nil <| ⟨(.inr (hI.sl [] rfl)), ?_⟩
      refine gF 16 rfl ?_
      obtain ⟨hb3, H⟩ := bG H
      have hE3 := ws1.app hE1
      refine o_appG (xs := (s1 : List (List Int))) (ys := (([r1] : List (List Int)) : List (List Int))) (M := 4398046511104) 1 te26 Tryd.underlying62 hI rfl hA rfl rfl (src_row hI (j := 0) rfl) hE1.len (hE1.ones (one_RA _ _)) hb3 rfl fun v1 a w hA hI => ?_
      refine o_nil <| ⟨(.inr (hI.sl [] rfl)), ?_⟩
      refine gE 17 hA rfl (.inr (hI.sl [] rfl)) (fun _ => r_as hA rfl) fun a hA => ?_
      refine gN <| hN6 _ _ <| w_reg <| stm hA rfl rfl fun a hA => 
        stp hA (r_add hA rfl rfl) rfl fun a hA => 
        sta hA rfl rfl fun a hA => ?_
      refine o_nil <| ⟨m1, Nat.lt_succ_self _, s1 ++ ([r1] : List (List Int)), IntKind.i64.wrap (s2 + 2), v1, ccs1 ++ cs1, H, hE3, (wrap_in _ _), hA.sub ⟨rfl, rfl, rfl, rfl, trivial⟩, (hI.sl [1] rfl)⟩
    · obtain ⟨hc1, H⟩ := dF H hc1
      refine w_exit rfl ?_
      have H : some s1 = some z1 := H
      obtain rfl := sI H
      have H := Hk2
      cases sJ H
      exact ⟨vvs1, ccs1, ws1, hA.sub ⟨rfl, rfl, trivial⟩, hI⟩
  · rintro a w ⟨vvc1, ccc1, wc1, hA, hI⟩
    have H := Hk1
    refine w_seq fun _ hN7 => w_reg <| stm hA rfl rfl fun a hA => 
      sta hA rfl rfl fun a hA => ?_
    refine o_nil <| hN7 _ _ <| w_ret ?_
    obtain rfl := sJ H
    exact ret1 hA Tryd.results99 rfl ⟨_, rfl, vvc1, ccc1, rfl, wc1, (hI.less (Store.le.refl _) hI.le)⟩
set_option maxRecDepth 20000 in
theorem sargassoref1_Root.c (μ : Store) (w0 : World) (hμ : Agr μ w0) (x0 : List (List Int)) (u0 : Value) (hx0 : Slc (RA .u8 32) 32 μ u0 x0) (r : List Int) (H : sargassoref1_Root.f x0 = some r) :
    Calls Tryd.prog 72 [u0].toArray w0 (fun e w' => ∃ v, e = .returned v ∧ v = .agg [av .u8 32 r].flatten.toArray ∧ Arr .u8 32 r ∧ Iv w0 [] μ μ [] w') := by
  refine enter Tryd.func72 rfl Tryd.ntmps72 rfl fun a hA => ?_
  have hI := Iv.start hμ
  have H := bI H
  refine w_seq fun _ hN1 => w_reg <| o_new [av .u8 32 (List.replicate 32 0)] zr26 hI hA rfl fun g1 a w hA hI hg1 => ?_
  refine o_nil <| hN1 _ _ <| w_seq fun _ hN2 => w_seq fun _ hN3 => w_reg <| stm hA rfl rfl fun a hA => ?_
  obtain ⟨_, hsl1⟩ := Slc.sv hx0
  refine stp hA (r_slen Tryd.underlying62 hsl1 hA rfl) rfl fun a hA => 
    stp hA (r_eql hA rfl rfl) rfl fun a hA => ?_
  refine o_nil <| hN3 _ _ <| w_cond hA rfl (fun hc1 => ?_) (fun hc1 => ?_)
  · obtain ⟨hc1, H⟩ := dT H hc1
    refine w_seq fun _ hN4 => w_reg <| stp hA (r_bldA (cs := [av .u8 32 ([0, 0, 0, 0, 0, 0, 0, 0, 0, 0, 0, 0, 0, 0, 0, 0, 0, 0, 0, 0, 0, 0, 0, 0, 0, 0, 0, 0, 0, 0, 0, 0])].flatten.toArray) zr26 Tryd.underlying26 sz5 hA rfl (by kernel_rfl)) rfl fun a hA => 
      o_st (j := 0) [] [av .u8 32 (List.replicate 32 0)] [av .u8 32 ([0, 0, 0, 0, 0, 0, 0, 0, 0, 0, 0, 0, 0, 0, 0, 0, 0, 0, 0, 0, 0, 0, 0, 0, 0, 0, 0, 0, 0, 0, 0, 0])] [] sz26 rfl rfl (fl_cons (one_av _ _ _) fl_nil) hI rfl hA rfl rfl rfl rfl fun w hI => ?_
    refine o_nil <| hN4 _ _ <| w_ret ?_
    obtain rfl := sJ H
    exact retc Tryd.underlying26 rfl sz26 rfl hI (j := 0) rfl hA Tryd.results72 rfl ⟨_, rfl, rfl, (arr_lit rfl (by simp only [List.forall_mem_cons]; exact ⟨(in_lit .u8 0 rfl), (in_lit .u8 0 rfl), (in_lit .u8 0 rfl), (in_lit .u8 0 rfl), (in_lit .u8 0 rfl), (in_lit .u8 0 rfl), (in_lit .u8 0 rfl), (in_lit .u8 0 rfl), (in_lit .u8 0 rfl), (in_lit .u8 0 rfl), (in_lit .u8 0 rfl), (in_lit .u8 0 rfl), (in_lit .u8 0 rfl), (in_lit .u8 0 rfl), (in_lit .u8 0 rfl), (in_lit .u8 0 rfl), (in_lit .u8 0 rfl), (in_lit .u8 0 rfl), (in_lit .u8 0 rfl), (in_lit .u8 0 rfl), (in_lit .u8 0 rfl), (in_lit .u8 0 rfl), (in_lit .u8 0 rfl), (in_lit .u8 0 rfl), (in_lit .u8 0 rfl), (in_lit .u8 0 rfl), (in_lit .u8 0 rfl), (in_lit .u8 0 rfl), (in_lit .u8 0 rfl), (in_lit .u8 0 rfl), (in_lit .u8 0 rfl), (in_lit .u8 0 rfl), by simp⟩)), hI.forget0⟩
  · obtain ⟨hc1, H⟩ := dF H hc1
    refine w_skip <| hN2 _ _ ?_
    obtain ⟨c1, hz1, Hk1⟩ := bB H
    refine w_cut (fun a w => ∃ (μ1 : Store) (vvc1 : Value), μ.le μ1 ∧ Slc (RA .u8 32) 32 μ1 vvc1 c1 ∧ Fr a 15 [(0, vvc1), (2, .pointer (some ⟨g1, 0, none⟩))] ∧ Iv w0 [] μ μ1 [cel g1 [av .u8 32 (List.replicate 32 0)] 26] w) ?_ ?_
    · have H := bI hz1
      refine w_block ?_
      obtain ⟨z1, hz2, Hk2⟩ := bind_some H
      obtain ⟨n1, hn1⟩ := loopO_some hz2
      refine w_loop (fun n a w => ∃ (s1 : List (List Int)) (μ2 : Store) (vvs1 : Value), loopN (sargassoref1_Root.s0) n s1 = some z1 ∧ μ.le μ2 ∧ Slc (RA .u8 32) 32 μ2 vvs1 s1 ∧ Fr a 15 [(0, vvs1), (2, .pointer (some ⟨g1, 0, none⟩))] ∧ Iv w0 [] μ μ2 [cel g1 [av .u8 32 (List.replicate 32 0)] 26] w) n1 ⟨x0, μ, u0, hn1, (Store.le.refl _), hx0, hA.sub ⟨rfl, rfl, trivial⟩, hI⟩ ?_
      clear hA hI
      rintro n a w ⟨s1, μ2, vvs1, hn1, hle2, ws1, hA, hI⟩
      obtain ⟨m1, rfl, H⟩ := loopN_bind hn1
      clear hn1
      refine w_seq fun _ hN5 => w_seq fun _ hN6 => w_reg <| stm hA rfl rfl fun a hA => ?_
      obtain ⟨_, hsl2⟩ := Slc.sv ws1
      refine stp hA (r_slen Tryd.underlying62 hsl2 hA rfl) rfl fun a hA => 
        stp hA (r_gtr hA rfl rfl) rfl fun a hA => ?_
      refine o_nil <| hN6 _ _ <| w_cond hA rfl (fun hc2 => ?_) (fun hc2 => ?_)
      · obtain ⟨hc2, H⟩ := dT H hc2
        refine w_skip <| hN5 _ _ <| w_block <| w_reg <| stm hA rfl rfl fun a hA => ?_
        obtain ⟨r1, hr1, H⟩ := bB H
        refine o_call _ cf99 hA rfl (sargassoref1_row.c μ2 _ hI.agr s1 vvs1 ws1 r1 hr1) rfl fun v1 a w hz3 hA => ?_
        obtain ⟨_, cs1, rfl, hE1, hi1⟩ := hz3
        have hI := hI.call hi1
        refine sta hA rfl rfl fun a hA => ?_
        refine o_nil ?_
        obtain ⟨μ3, hle3, hsv1, hI⟩ := hI.freezeRow 0 rfl
        have hS1 : Slc (RA .u8 32) 32 μ3 v1 r1 := ⟨_, hE1, hsv1⟩
        exact ⟨m1, Nat.lt_succ_self _, r1, μ3, v1, H, (hle2.trans hle3), hS1, hA.sub ⟨rfl, rfl, trivial⟩, hI⟩
      · obtain ⟨hc2, H⟩ := dF H hc2
        refine w_exit rfl ?_
        have H : some s1 = some z1 := H
        obtain rfl := sI H
        have H := Hk2
        cases sJ H
        exact ⟨μ2, vvs1, hle2, ws1, hA.sub ⟨rfl, rfl, trivial⟩, hI⟩
    · rintro a w ⟨μ1, vvc1, hle1, wc1, hA, hI⟩
      have H := Hk1
      refine w_seq fun _ hN7 => w_reg <| stm hA rfl rfl fun a hA => ?_
      obtain ⟨hb1, H⟩ := bG H
      obtain ⟨_, he1, _, hat1⟩ := Slc.elem wc1 (getD_some [] (by decide) hb1)
      obtain ⟨rfl, hw1⟩ := he1
      obtain ⟨_, hsl3⟩ := Slc.sv wc1
      refine stp hA (r_six Tryd.underlying62 sz26 hsl3 hA rfl rfl (by decide) hb1) rfl fun a hA => 
        stp hA (r_ldmA [] [av .u8 32 (c1.getD (0 : Int).toNat [])] [] Tryd.underlying26 rfl sz26 rfl hI.agr hat1 hA rfl rfl) rfl fun a hA => 
        o_st (j := 0) [] [av .u8 32 (List.replicate 32 0)] [av .u8 32 (c1.getD (0 : Int).toNat [])] [] sz26 rfl rfl (fl_cons (one_av _ _ _) fl_nil) hI rfl hA rfl rfl rfl rfl fun w hI => ?_
      refine o_nil <| hN7 _ _ <| w_ret ?_
      obtain rfl := sJ H
      exact retc Tryd.underlying26 rfl sz26 rfl hI (j := 0) rfl hA Tryd.results72 rfl ⟨_, rfl, rfl, hw1, hI.forget0⟩
end Go.Proofs.YtdngkgkkblfcjaaDoor.T
namespace Go.Proofs.YtdngkgkkblfcjaaDoor.T
open Go Go.Proofs Go.Proofs.YtdngkgkkblfcjaaDoor.K
set_option linter.unusedVariables false
set_option linter.unusedSimpArgs false
noncomputable def sargassoref1_First.f (x0 : Int) (x1 : Int) (x2 : List Int) (x3 : List Int) : Option Tx := ((sargassoref1_Four.f ([] : List Int) (IntKind.u32.wrap x0)).bind fun r1 => (if r1.length + x3.length ≤ 140737488355328 then ((((sargassoref1_Null.f).bind fun r2 => some (r1 ++ x3, 1, ([(⟨r2, r1 ++ x3, 4294967295⟩ : In)] : List In), ([(⟨x1, x2⟩ : Out)] : List Out)))).bind fun (c1, c2, c3, c4) => some (⟨c2, c3, c4, 0⟩ : Tx)) else none))
noncomputable def sargassoref1_TxBytes.s1 (x0 : Tx) : ((List Int) × Int) → Option (((List Int) × Int) ⊕ (List Int)) := fun (s3, s4) => (if s4 < (x0.Outs.length : Int) then (if 0 ≤ s4 ∧ s4 < (x0.Outs.length : Int) then ((sargassoref1_Eight.f s3 ((x0.Outs.getD s4.toNat default).Value)).bind fun r7 => (if r7.length + ((((x0.Outs.getD s4.toNat default).Lock).take (32 : Int).toNat).drop (0 : Int).toNat).length ≤ 140737488355328 then some (.inl (r7 ++ ((((x0.Outs.getD s4.toNat default).Lock).take (32 : Int).toNat).drop (0 : Int).toNat), IntKind.i64.wrap (s4 + 1))) else none)) else none) else some (.inr s3))
noncomputable def sargassoref1_TxBytes.s0 (x0 : Tx) : ((List Int) × Int) → Option (((List Int) × Int) ⊕ (List Int)) := fun (s1, s2) => (if s2 < (x0.Ins.length : Int) then (if 0 ≤ s2 ∧ s2 < (x0.Ins.length : Int) then (if s1.length + ((x0.Ins.getD s2.toNat default).From.Tx).length ≤ 140737488355328 then ((sargassoref1_Four.f (s1 ++ ((x0.Ins.getD s2.toNat default).From.Tx)) ((x0.Ins.getD s2.toNat default).From.N)).bind fun r3 => ((sargassoref1_Put.f r3 (IntKind.u64.wrap (((x0.Ins.getD s2.toNat default).Key).length : Int))).bind fun r4 => (if r4.length + ((x0.Ins.getD s2.toNat default).Key).length ≤ 140737488355328 then ((sargassoref1_Four.f (r4 ++ ((x0.Ins.getD s2.toNat default).Key)) ((x0.Ins.getD s2.toNat default).Seq)).bind fun r5 => some (.inl (r5, IntKind.i64.wrap (s2 + 1)))) else none))) else none) else none) else some (.inr s1))
noncomputable def sargassoref1_TxBytes.f (x0 : Tx) : Option (List Int) := ((sargassoref1_Four.f ([] : List Int) x0.Version).bind fun r1 => ((sargassoref1_Put.f r1 (IntKind.u64.wrap (x0.Ins.length : Int))).bind fun r2 => ((loopO (sargassoref1_TxBytes.s0 x0) (r2, 0)).bind fun c1 => ((sargassoref1_Put.f c1 (IntKind.u64.wrap (x0.Outs.length : Int))).bind fun r6 => ((loopO (sargassoref1_TxBytes.s1 x0) (r6, 0)).bind fun c2 => ((sargassoref1_Four.f c2 x0.Time).bind fun r8 => some r8))))))
noncomputable def sargassoref1_ID.f (x0 : Tx) : Option (List Int) := ((sargassoref1_TxBytes.f x0).bind fun r1 => ((sargassoref1_Twice.f r1).bind fun r2 => some r2))
noncomputable def sargassoref1_IDs.s0 (x0 : List Tx) : ((List (List Int)) × Int) → Option (((List (List Int)) × Int) ⊕ (List (List Int))) := fun (s1, s2) => (if s2 < (x0.length : Int) then (if 0 ≤ s2 ∧ s2 < (x0.length : Int) then ((sargassoref1_ID.f (x0.getD s2.toNat default)).bind fun r1 => (if s1.length + 1 ≤ 4398046511104 then some (.inl (s1 ++ ([r1] : List (List Int)), IntKind.i64.wrap (s2 + 1))) else none)) else none) else some (.inr s1))
noncomputable def sargassoref1_IDs.f (x0 : List Tx) : Option (List (List Int)) := ((loopO (sargassoref1_IDs.s0 x0) (([] : List (List Int)), 0)).bind fun c1 => some c1)
noncomputable def sargassoref1_Rooted.f (x0 : Block) : Option Block := ((sargassoref1_IDs.f x0.Txs).bind fun r1 => ((sargassoref1_Root.f r1).bind fun r2 => some (⟨(⟨x0.Head.Version, x0.Head.Prev, r2, x0.Head.Time, x0.Head.Work, x0.Head.Nonce⟩ : Head), x0.Txs⟩ : Block)))
noncomputable def sargassoref1_Start.f : Option Block := ((sargassoref1_Sha.f ([])).bind fun r1 => ((sargassoref1_First.f 0 0 r1 ([])).bind fun r2 => ((sargassoref1_Rooted.f (⟨(⟨1, (List.replicate 32 0), (List.replicate 32 0), 1000, 1, 0⟩ : Head), ([r2] : List Tx)⟩ : Block)).bind fun r3 => some r3)))
noncomputable def sargassoref1_HeadBytes.f (x0 : Head) : Option (List Int) := ((sargassoref1_Four.f ([] : List Int) x0.Version).bind fun r1 => (if r1.length + x0.Prev.length ≤ 140737488355328 then (if (r1 ++ x0.Prev).length + x0.Root.length ≤ 140737488355328 then ((sargassoref1_Four.f ((r1 ++ x0.Prev) ++ x0.Root) x0.Time).bind fun r2 => ((sargassoref1_Four.f r2 x0.Work).bind fun r3 => ((sargassoref1_Four.f r3 x0.Nonce).bind fun r4 => some r4))) else none) else none))
noncomputable def sargassoref1_HeadID.f (x0 : Head) : Option (List Int) := ((sargassoref1_HeadBytes.f x0).bind fun r1 => ((sargassoref1_Twice.f r1).bind fun r2 => some r2))
end Go.Proofs.YtdngkgkkblfcjaaDoor.T
