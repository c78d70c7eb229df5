/- Proved: the statement HeadBack, as given (its conditions are those of the given row, and card where there is one; no others): the call ends, with true, and the input reads as it did. This file is one of its parts. -/
import Derived.Test.YtpeelghbhihgkaaDoorPHeadBack1
namespace Go.Proofs.YtpeelghbhihgkaaDoor.T
open Go Go.Proofs Go.Proofs.YtpeelghbhihgkaaDoor.K
set_option linter.unusedVariables false
set_option linter.unusedSimpArgs false
set_option maxRecDepth 20000 in
theorem sargassoref_Bytes.c (μ : Store) (w0 : World) (hμ : Agr μ w0) (x0 : List Int) (u0 : Value) (hx0 : Slc (RI .u8) 1 μ u0 x0) (r : List Int) (H : sargassoref_Bytes.f x0 = some r) :
    Calls Tryd.prog 26 [u0].toArray w0 (fun e w' => ∃ v, e = .returned v ∧ ∃ (v0 : Value) (c0 : List Value), v = v0 ∧ Els (RI .u8) 1 r c0 ∧ Iv w0 [] μ μ [row 5 1 v0 r.length c0] w') := by
  refine enter Tryd.func26 rfl Tryd.ntmps26 rfl fun a hA => ?_
  have hI := Iv.start hμ
  have H := bI H
  refine w_seq fun _ hN1 => ?_
  refine w_reg ?_
  refine stp hA (r_as hA rfl) rfl fun a hA => ?_
  refine o_nil ?_
  refine hN1 _ _ ?_
  refine w_seq fun _ hN2 => ?_
  refine w_reg ?_
  refine stp hA (r_mv hA rfl) rfl fun a hA => ?_
  obtain ⟨_, hsl1⟩ := Slc.sv hx0
  refine stp hA (r_slen Tryd.underlying23 hsl1 hA rfl) rfl fun a hA => ?_
  obtain ⟨hb1, H⟩ := bG H
  refine o_make (RE := (RI .u8)) (c0 := [[.int .u8 0]].flatten) (z0 := 0) ⟨rfl, (in_lit .u8 0 rfl)⟩ te5 rfl zr5 Tryd.underlying23 hI hA rfl rfl (by have hq := hb1; simp only [maxLen]; omega) rfl fun g1 cs1 a w hE1 hA hI => 
    stp hA (r_as hA rfl) rfl fun a hA => ?_
  refine o_nil ?_
  refine hN2 _ _ ?_
  obtain ⟨c1, hz1, Hk1⟩ := bB H
  refine w_cut (fun a w => ∃ (vvc1 : Value) (ccc1 : List Value), Els (RI .u8) 1 c1 ccc1 ∧ Fr a 22 [(0, u0), (2, (.slice none 0 0)), (3, vvc1)] ∧ Iv w0 [] μ μ [row 5 1 vvc1 c1.length ccc1] w) ?_ ?_
  · have H := bI hz1
    refine w_seq fun _ hN3 => ?_
    refine w_reg ?_
    refine stp hA (r_as hA rfl) rfl fun a hA => ?_
    refine o_nil ?_
    refine hN3 _ _ ?_
    refine w_block ?_
    obtain ⟨z1, hz2, Hk2⟩ := bind_some H
    obtain ⟨n1, hn1⟩ := loopO_some hz2
    refine w_loop (fun n a w => ∃ (s1 : List Int) (s2 : Int) (vvs1 : Value) (ccs1 : List Value), loopN (sargassoref_Bytes.s0 x0) n (s1, s2) = some z1 ∧ Els (RI .u8) 1 s1 ccs1 ∧ InR .i64 s2 ∧ Fr a 22 [(0, u0), (2, (.slice none 0 0)), (3, vvs1), (4, .int .i64 s2)] ∧ Iv w0 [] μ μ [row 5 1 vvs1 s1.length ccs1] w) n1 ⟨(List.replicate ((0 : Int).toNat) 0 : List Int), 0, (.slice (some ⟨g1, 0, none⟩) ((0 : Int).toNat) (((x0.length : Int)).toNat)), cs1, hn1, hE1, (in_lit .i64 0 rfl), hA.sub ⟨rfl, rfl, rfl, rfl, trivial⟩, hI⟩ ?_
    clear hA hI
    rintro n a w ⟨s1, s2, vvs1, ccs1, hn1, ws1, ws2, hA, hI⟩
    obtain ⟨m1, rfl, H⟩ := loopN_bind hn1
    clear hn1
    refine w_seq fun _ hN4 => ?_
    refine w_seq fun _ hN5 => ?_
    refine w_reg ?_
    refine stp hA (r_mv hA rfl) rfl fun a hA => 
      stp hA (r_mv hA rfl) rfl fun a hA => ?_
    obtain ⟨_, hsl2⟩ := Slc.sv hx0
    refine stp hA (r_slen Tryd.underlying23 hsl2 hA rfl) rfl fun a hA => 
      stp hA (r_lss hA rfl rfl) rfl fun a hA => ?_
    refine o_nil ?_
    refine hN5 _ _ ?_
    refine w_cond hA rfl (fun hc1 => ?_) (fun hc1 => ?_)
    · have hc10 := hc1; have hc1 := of_decide_eq_true hc1; have H := bT H hc1
      refine w_skip ?_
      refine hN4 _ _ ?_
      refine w_seq fun _ hN6 => ?_
      refine w_block ?_
      refine w_reg ?_
      refine stp hA (r_mv hA rfl) rfl fun a hA => 
        stp hA (r_mv hA rfl) rfl fun a hA => 
        stp hA (r_mv hA rfl) rfl fun a hA => ?_
      obtain ⟨hb2, H⟩ := bG H
      obtain ⟨_, he1, _, hat1⟩ := Slc.elem1 hx0 (getD_some 0 hb2.1 hb2.2)
      obtain ⟨rfl, hw1⟩ := he1
      obtain ⟨_, hsl3⟩ := Slc.sv hx0
      refine stp hA (r_six1 Tryd.underlying23 sz5 hsl3 hA rfl rfl hb2.1 hb2.2) rfl fun a hA => 
        stp hA (r_ldm1 [] [] Tryd.underlying5 rfl hI.agr hat1 hA rfl rfl) rfl fun a hA => ?_
      have hE2 : Els (RI .u8) 1 ([(x0.getD s2.toNat 0)] : List Int) ([[.int .u8 (x0.getD s2.toNat 0)]].flatten ++ ([])) := (Els.cons (c := [[.int .u8 (x0.getD s2.toNat 0)]].flatten) ⟨rfl, hw1⟩ rfl Els.nil)
      refine o_bsl ([[.int .u8 (x0.getD s2.toNat 0)]].flatten ++ ([])) te5 zr5 Tryd.underlying23 hI hA rfl rfl rfl rfl (by kernel_rfl) rfl fun g2 a w hA hI => ?_
      generalize hcs : ([[.int .u8 (x0.getD s2.toNat 0)]].flatten ++ ([]) : List Value) = cs2 at hE2 hI
      clear hcs
      obtain ⟨hb3, H⟩ := bG H
      have hE4 := ws1.app hE2
      refine o_appL (xs := (s1 : List Int)) (ys := (([(x0.getD s2.toNat 0)] : List Int) : List Int)) (j := 1) te5 Tryd.underlying23 hI rfl hA rfl rfl (src_row hI (j := 0) rfl) hE2.len (hE2.ones (one_RI _)) (by first | decide | (have hq := hb3; (try simp only [List.length_cons, List.length_nil] at hq); (try simp only [List.length_cons, List.length_nil]); (try simp only [maxLen]); omega)) (by first | decide | (have hq := hb3; (try simp only [List.length_cons, List.length_nil] at hq); (try simp only [List.length_cons, List.length_nil]); (try simp only [maxLen]); omega)) rfl fun v1 a w hA hI => 
        stp hA (r_as hA rfl) rfl fun a hA => ?_
      refine o_nil ?_
      refine hN6 _ _ ?_
      refine w_reg ?_
      refine stp hA (r_mv hA rfl) rfl fun a hA => 
        stp hA (r_add hA rfl rfl) rfl fun a hA => 
        stp hA (r_as hA rfl) rfl fun a hA => ?_
      refine o_nil ?_
      exact ⟨m1, Nat.lt_succ_self _, s1 ++ ([(x0.getD s2.toNat 0)] : List Int), IntKind.i64.wrap (s2 + 1), v1, ccs1 ++ cs2, H, hE4, (wrap_in _ _), hA.sub ⟨rfl, rfl, rfl, rfl, trivial⟩, (hI.sel [1] (by decide) rfl)⟩
    · have hc10 := hc1; have hc1 := of_decide_eq_false hc1; have H := bF H hc1
      refine w_exit rfl ?_
      have H : some s1 = some z1 := H
      obtain rfl := Option.some.inj H
      have H := Hk2
      cases Option.some.inj (bS H)
      exact ⟨vvs1, ccs1, ws1, hA.sub ⟨rfl, rfl, rfl, trivial⟩, hI⟩
  · rintro a w ⟨vvc1, ccc1, wc1, hA, hI⟩
    have H := Hk1
    refine w_seq fun _ hN7 => ?_
    refine w_reg ?_
    refine stp hA (r_mv hA rfl) rfl fun a hA => 
      stp hA (r_as hA rfl) rfl fun a hA => ?_
    refine o_nil ?_
    refine hN7 _ _ ?_
    refine w_ret ?_
    obtain rfl := Option.some.inj (bS H)
    exact ret1 hA Tryd.results26 rfl ⟨_, rfl, vvc1, ccc1, rfl, wc1, (hI.less (Store.le.refl _) hI.le)⟩
set_option maxRecDepth 20000 in
theorem sargassoworld_Number.c (μ : Store) (w0 : World) (hμ : Agr μ w0) (x0 : Int) (hx0 : InR .i64 x0) (x1 : Int) (hx1 : InR .i64 x1) (r : Int) (H : sargassoworld_Number.f x0 x1 = some r) :
    Calls Tryd.prog 29 [.int .i64 x0, .int .i64 x1].toArray w0 (fun e w' => ∃ v, e = .returned v ∧ v = .int .i64 r ∧ InR .i64 r ∧ Iv w0 [] μ μ [] w') := by
  refine enter Tryd.func29 rfl Tryd.ntmps29 rfl fun a hA => ?_
  have hI := Iv.start hμ
  have H := bI H
  refine w_seq fun _ hN1 => ?_
  refine w_reg ?_
  refine stp hA (r_as hA rfl) rfl fun a hA => ?_
  refine o_nil ?_
  refine hN1 _ _ ?_
  refine w_seq fun _ hN2 => ?_
  refine w_reg ?_
  refine stp hA (r_mv hA rfl) rfl fun a hA => 
    stp hA (r_mv hA rfl) rfl fun a hA => ?_
  obtain ⟨hb1, H⟩ := bG H
  refine stp hA (r_rem hA rfl rfl hb1) rfl fun a hA => 
    stp hA (r_as hA rfl) rfl fun a hA => ?_
  refine o_nil ?_
  refine hN2 _ _ ?_
  obtain ⟨c1, hz1, Hk1⟩ := bB H
  refine w_cut (fun a w => InR .i64 c1 ∧ Fr a 15 [(0, .int .i64 x0), (1, .int .i64 x1), (4, .int .i64 0), (5, .int .i64 c1)] ∧ Iv w0 [] μ μ [] w) ?_ ?_
  · have H := bI hz1
    refine w_seq fun _ hN3 => ?_
    refine w_reg ?_
    refine stp hA (r_mv hA rfl) rfl fun a hA => 
      stp hA (r_lss hA rfl rfl) rfl fun a hA => ?_
    refine o_nil ?_
    refine hN3 _ _ ?_
    refine w_cond hA rfl (fun hc1 => ?_) (fun hc1 => ?_)
    · have hc10 := hc1; have hc1 := of_decide_eq_true hc1; have H := bT H hc1
      refine w_reg ?_
      refine stp hA (r_mv hA rfl) rfl fun a hA => 
        stp hA (r_mv hA rfl) rfl fun a hA => 
        stp hA (r_add hA rfl rfl) rfl fun a hA => 
        stp hA (r_as hA rfl) rfl fun a hA => ?_
      refine o_nil ?_
      cases Option.some.inj (bS H)
      exact ⟨(wrap_in _ _), hA.sub ⟨rfl, rfl, rfl, rfl, trivial⟩, hI⟩
    · have hc10 := hc1; have hc1 := of_decide_eq_false hc1; have H := bF H hc1
      refine w_skip ?_
      cases Option.some.inj (bS H)
      exact ⟨(tmod_in hx0 _), hA.sub ⟨rfl, rfl, rfl, rfl, trivial⟩, hI⟩
  · rintro a w ⟨wc1, hA, hI⟩
    have H := Hk1
    refine w_seq fun _ hN4 => ?_
    refine w_reg ?_
    refine stp hA (r_mv hA rfl) rfl fun a hA => 
      stp hA (r_as hA rfl) rfl fun a hA => ?_
    refine o_nil ?_
    refine hN4 _ _ ?_
    refine w_ret ?_
    obtain rfl := Option.some.inj (bS H)
    exact ret1 hA Tryd.results29 rfl ⟨_, rfl, rfl, wc1, hI.forget0⟩
set_option maxRecDepth 20000 in
theorem sargassoref_SameFault.c (μ : Store) (w0 : World) (hμ : Agr μ w0) (x0 : sargassorefFault) (hx0 : sargassorefFaultW μ x0) (x1 : sargassorefFault) (hx1 : sargassorefFaultW μ x1) (r : Bool) (H : sargassoref_SameFault.f x0 x1 = some r) :
    Calls Tryd.prog 129 [.agg [[.int .i64 x0.Code], [.bool x0.Placed], [.int .i64 x0.Pos], [.bool x0.Outer], [.int .i64 x0.At]].flatten.toArray, .agg [[.int .i64 x1.Code], [.bool x1.Placed], [.int .i64 x1.Pos], [.bool x1.Outer], [.int .i64 x1.At]].flatten.toArray].toArray w0 (fun e w' => ∃ v, e = .returned v ∧ v = .bool r ∧ True ∧ Iv w0 [] μ μ [] w') := by
  refine enter Tryd.func129 rfl Tryd.ntmps129 rfl fun a hA => ?_
  have hI := Iv.start hμ
  have H := bI H
  refine w_seq fun _ hN1 => ?_
  refine w_reg ?_
  refine o_box [[.int .i64 x0.Code], [.bool x0.Placed], [.int .i64 x0.Pos], [.bool x0.Outer], [.int .i64 x0.At]] hI hA rfl rfl rfl fun g1 a w hA hI hg1 => 
    o_box [[.int .i64 x1.Code], [.bool x1.Placed], [.int .i64 x1.Pos], [.bool x1.Outer], [.int .i64 x1.At]] hI hA rfl rfl rfl fun g2 a w hA hI hg2 => 
    stp hA (r_as hA rfl) rfl fun a hA => ?_
  refine o_nil ?_
  refine hN1 _ _ ?_
  obtain ⟨c1, hz1, Hk1⟩ := bB H
  refine w_cut (fun a w => Fr a 38 [(0, .agg [[.int .i64 x0.Code], [.bool x0.Placed], [.int .i64 x0.Pos], [.bool x0.Outer], [.int .i64 x0.At]].flatten.toArray), (1, .agg [[.int .i64 x1.Code], [.bool x1.Placed], [.int .i64 x1.Pos], [.bool x1.Outer], [.int .i64 x1.At]].flatten.toArray), (2, .pointer (some ⟨g1, 0, none⟩)), (3, .pointer (some ⟨g2, 0, none⟩)), (4, .bool c1)] ∧ Iv w0 [] μ μ [cel g2 [[.int .i64 x1.Code], [.bool x1.Placed], [.int .i64 x1.Pos], [.bool x1.Outer], [.int .i64 x1.At]] 109, cel g1 [[.int .i64 x0.Code], [.bool x0.Placed], [.int .i64 x0.Pos], [.bool x0.Outer], [.int .i64 x0.At]] 109] w) ?_ ?_
  · have H := bI hz1
    refine w_reg ?_
    refine stp hA (r_fd (k := 0) Tryd.underlying109 rfl sz3 hA rfl rfl) rfl fun a hA => 
      stp hA (r_ld1 (j := 1) [] [[.bool x0.Placed], [.int .i64 x0.Pos], [.bool x0.Outer], [.int .i64 x0.At]] Tryd.underlying3 rfl hI rfl hA rfl rfl) rfl fun a hA => 
      stp hA (r_fd (k := 0) Tryd.underlying109 rfl sz3 hA rfl rfl) rfl fun a hA => 
      stp hA (r_ld1 (j := 0) [] [[.bool x1.Placed], [.int .i64 x1.Pos], [.bool x1.Outer], [.int .i64 x1.At]] Tryd.underlying3 rfl hI rfl hA rfl rfl) rfl fun a hA => 
      stp hA (r_eql hA rfl rfl) rfl fun a hA => 
      stp hA (r_mv hA rfl) rfl fun a hA => ?_
    rcases Bool.eq_false_or_eq_true (decide (x0.Code = x1.Code)) with hc1 | hc1
    · have hc10 := hc1; have hc1 := of_decide_eq_true hc1; have H := bT H hc1
      refine o_yes hA rfl rfl hc10 <| 
        stp hA (r_fd (k := 1) Tryd.underlying109 rfl sz4 hA rfl rfl) rfl fun a hA => 
        o_yes hA rfl rfl hc10 <| 
        stp hA (r_ld1 (j := 1) [[.int .i64 x0.Code]] [[.int .i64 x0.Pos], [.bool x0.Outer], [.int .i64 x0.At]] Tryd.underlying4 rfl hI rfl hA rfl rfl) rfl fun a hA => 
        o_yes hA rfl rfl hc10 <| 
        stp hA (r_fd (k := 1) Tryd.underlying109 rfl sz4 hA rfl rfl) rfl fun a hA => 
        o_yes hA rfl rfl hc10 <| 
        stp hA (r_ld1 (j := 0) [[.int .i64 x1.Code]] [[.int .i64 x1.Pos], [.bool x1.Outer], [.int .i64 x1.At]] Tryd.underlying4 rfl hI rfl hA rfl rfl) rfl fun a hA => 
        o_yes hA rfl rfl hc10 <| 
        stp hA (r_eqlb Tryd.underlying4 hA rfl rfl) rfl fun a hA => 
        stp hA (r_pick_t hA rfl hc10 rfl) rfl fun a hA => 
        stp hA (r_mv hA rfl) rfl fun a hA => ?_
      rcases Bool.eq_false_or_eq_true (decide (x0.Placed = x1.Placed)) with hc2 | hc2
      · have hc20 := hc2; have hc2 := of_decide_eq_true hc2; have H := bT H hc2
        refine o_yes hA rfl rfl hc20 <| 
          stp hA (r_fd (k := 2) Tryd.underlying109 rfl sz3 hA rfl rfl) rfl fun a hA => 
          o_yes hA rfl rfl hc20 <| 
          stp hA (r_ld1 (j := 1) [[.int .i64 x0.Code], [.bool x0.Placed]] [[.bool x0.Outer], [.int .i64 x0.At]] Tryd.underlying3 rfl hI rfl hA rfl rfl) rfl fun a hA => 
          o_yes hA rfl rfl hc20 <| 
          stp hA (r_fd (k := 2) Tryd.underlying109 rfl sz3 hA rfl rfl) rfl fun a hA => 
          o_yes hA rfl rfl hc20 <| 
          stp hA (r_ld1 (j := 0) [[.int .i64 x1.Code], [.bool x1.Placed]] [[.bool x1.Outer], [.int .i64 x1.At]] Tryd.underlying3 rfl hI rfl hA rfl rfl) rfl fun a hA => 
          o_yes hA rfl rfl hc20 <| 
          stp hA (r_eql hA rfl rfl) rfl fun a hA => 
          stp hA (r_pick_t hA rfl hc20 rfl) rfl fun a hA => 
          stp hA (r_mv hA rfl) rfl fun a hA => ?_
        rcases Bool.eq_false_or_eq_true (decide (x0.Pos = x1.Pos)) with hc3 | hc3
        · have hc30 := hc3; have hc3 := of_decide_eq_true hc3; have H := bT H hc3
          refine o_yes hA rfl rfl hc30 <| 
            stp hA (r_fd (k := 3) Tryd.underlying109 rfl sz4 hA rfl rfl) rfl fun a hA => 
            o_yes hA rfl rfl hc30 <| 
            stp hA (r_ld1 (j := 1) [[.int .i64 x0.Code], [.bool x0.Placed], [.int .i64 x0.Pos]] [[.int .i64 x0.At]] Tryd.underlying4 rfl hI rfl hA rfl rfl) rfl fun a hA => 
            o_yes hA rfl rfl hc30 <| 
            stp hA (r_fd (k := 3) Tryd.underlying109 rfl sz4 hA rfl rfl) rfl fun a hA => 
            o_yes hA rfl rfl hc30 <| 
            stp hA (r_ld1 (j := 0) [[.int .i64 x1.Code], [.bool x1.Placed], [.int .i64 x1.Pos]] [[.int .i64 x1.At]] Tryd.underlying4 rfl hI rfl hA rfl rfl) rfl fun a hA => 
            o_yes hA rfl rfl hc30 <| 
            stp hA (r_eqlb Tryd.underlying4 hA rfl rfl) rfl fun a hA => 
            stp hA (r_pick_t hA rfl hc30 rfl) rfl fun a hA => 
            stp hA (r_mv hA rfl) rfl fun a hA => ?_
          rcases Bool.eq_false_or_eq_true (decide (x0.Outer = x1.Outer)) with hc4 | hc4
          · have hc40 := hc4; have hc4 := of_decide_eq_true hc4; have H := bT H hc4
            refine o_yes hA rfl rfl hc40 <| 
              stp hA (r_fd (k := 4) Tryd.underlying109 rfl sz3 hA rfl rfl) rfl fun a hA => 
              o_yes hA rfl rfl hc40 <| 
              stp hA (r_ld1 (j := 1) [[.int .i64 x0.Code], [.bool x0.Placed], [.int .i64 x0.Pos], [.bool x0.Outer]] [] Tryd.underlying3 rfl hI rfl hA rfl rfl) rfl fun a hA => 
              o_yes hA rfl rfl hc40 <| 
              stp hA (r_fd (k := 4) Tryd.underlying109 rfl sz3 hA rfl rfl) rfl fun a hA => 
              o_yes hA rfl rfl hc40 <| 
              stp hA (r_ld1 (j := 0) [[.int .i64 x1.Code], [.bool x1.Placed], [.int .i64 x1.Pos], [.bool x1.Outer]] [] Tryd.underlying3 rfl hI rfl hA rfl rfl) rfl fun a hA => 
              o_yes hA rfl rfl hc40 <| 
              stp hA (r_eql hA rfl rfl) rfl fun a hA => 
              stp hA (r_pick_t hA rfl hc40 rfl) rfl fun a hA => 
              stp hA (r_as hA rfl) rfl fun a hA => ?_
            refine o_nil ?_
            cases Option.some.inj (bS H)
            exact ⟨hA.sub ⟨rfl, rfl, rfl, rfl, rfl, trivial⟩, hI⟩
          · have hc40 := hc4; have hc4 := of_decide_eq_false hc4; have H := bF H hc4
            refine o_no hA rfl rfl (by rw [hc40]; simp [vb]) rfl fun a hA => 
              o_no hA rfl rfl (by rw [hc40]; simp [vb]) rfl fun a hA => 
              o_no hA rfl rfl (by rw [hc40]; simp [vb]) rfl fun a hA => 
              o_no hA rfl rfl (by rw [hc40]; simp [vb]) rfl fun a hA => 
              o_no hA rfl rfl (by rw [hc40]; simp [vb]) rfl fun a hA => 
              stp hA (r_pick_f hA rfl hc40 rfl) rfl fun a hA => 
              stp hA (r_as hA rfl) rfl fun a hA => ?_
            refine o_nil ?_
            cases Option.some.inj (bS H)
            exact ⟨hA.sub ⟨rfl, rfl, rfl, rfl, rfl, trivial⟩, hI⟩
        · have hc30 := hc3; have hc3 := of_decide_eq_false hc3; have H := bF H hc3
          refine o_no hA rfl rfl (by rw [hc30]; simp [vb]) rfl fun a hA => 
            o_no hA rfl rfl (by rw [hc30]; simp [vb]) rfl fun a hA => 
            o_no hA rfl rfl (by rw [hc30]; simp [vb]) rfl fun a hA => 
            o_no hA rfl rfl (by rw [hc30]; simp [vb]) rfl fun a hA => 
            o_no hA rfl rfl (by rw [hc30]; simp [vb]) rfl fun a hA => 
            stp hA (r_pick_f hA rfl hc30 rfl) rfl fun a hA => 
            stp hA (r_mv hA rfl) rfl fun a hA => 
            o_no hA rfl rfl (by simp [vb]) rfl fun a hA => 
            o_no hA rfl rfl (by simp [vb]) rfl fun a hA => 
            o_no hA rfl rfl (by simp [vb]) rfl fun a hA => 
            o_no hA rfl rfl (by simp [vb]) rfl fun a hA => 
            o_no hA rfl rfl (by simp [vb]) rfl fun a hA => 
            stp hA (r_pick_f hA rfl rfl rfl) rfl fun a hA => 
            stp hA (r_as hA rfl) rfl fun a hA => ?_
          refine o_nil ?_
          cases Option.some.inj (bS H)
          exact ⟨hA.sub ⟨rfl, rfl, rfl, rfl, rfl, trivial⟩, hI⟩
      · have hc20 := hc2; have hc2 := of_decide_eq_false hc2; have H := bF H hc2
        refine o_no hA rfl rfl (by rw [hc20]; simp [vb]) rfl fun a hA => 
          o_no hA rfl rfl (by rw [hc20]; simp [vb]) rfl fun a hA => 
          o_no hA rfl rfl (by rw [hc20]; simp [vb]) rfl fun a hA => 
          o_no hA rfl rfl (by rw [hc20]; simp [vb]) rfl fun a hA => 
          o_no hA rfl rfl (by rw [hc20]; simp [vb]) rfl fun a hA => 
          stp hA (r_pick_f hA rfl hc20 rfl) rfl fun a hA => 
          stp hA (r_mv hA rfl) rfl fun a hA => 
          o_no hA rfl rfl (by simp [vb]) rfl fun a hA => 
          o_no hA rfl rfl (by simp [vb]) rfl fun a hA => 
          o_no hA rfl rfl (by simp [vb]) rfl fun a hA => 
          o_no hA rfl rfl (by simp [vb]) rfl fun a hA => 
          o_no hA rfl rfl (by simp [vb]) rfl fun a hA => 
          stp hA (r_pick_f hA rfl rfl rfl) rfl fun a hA => 
          stp hA (r_mv hA rfl) rfl fun a hA => 
          o_no hA rfl rfl (by simp [vb]) rfl fun a hA => 
          o_no hA rfl rfl (by simp [vb]) rfl fun a hA => 
          o_no hA rfl rfl (by simp [vb]) rfl fun a hA => 
          o_no hA rfl rfl (by simp [vb]) rfl fun a hA => 
          o_no hA rfl rfl (by simp [vb]) rfl fun a hA => 
          stp hA (r_pick_f hA rfl rfl rfl) rfl fun a hA => 
          stp hA (r_as hA rfl) rfl fun a hA => ?_
        refine o_nil ?_
        cases Option.some.inj (bS H)
        exact ⟨hA.sub ⟨rfl, rfl, rfl, rfl, rfl, trivial⟩, hI⟩
    · have hc10 := hc1; have hc1 := of_decide_eq_false hc1; have H := bF H hc1
      refine o_no hA rfl rfl (by rw [hc10]; simp [vb]) rfl fun a hA => 
        o_no hA rfl rfl (by rw [hc10]; simp [vb]) rfl fun a hA => 
        o_no hA rfl rfl (by rw [hc10]; simp [vb]) rfl fun a hA => 
        o_no hA rfl rfl (by rw [hc10]; simp [vb]) rfl fun a hA => 
        o_no hA rfl rfl (by rw [hc10]; simp [vb]) rfl fun a hA => 
        stp hA (r_pick_f hA rfl hc10 rfl) rfl fun a hA => 
        stp hA (r_mv hA rfl) rfl fun a hA => 
        o_no hA rfl rfl (by simp [vb]) rfl fun a hA => 
        o_no hA rfl rfl (by simp [vb]) rfl fun a hA => 
        o_no hA rfl rfl (by simp [vb]) rfl fun a hA => 
        o_no hA rfl rfl (by simp [vb]) rfl fun a hA => 
        o_no hA rfl rfl (by simp [vb]) rfl fun a hA => 
        stp hA (r_pick_f hA rfl rfl rfl) rfl fun a hA => 
        stp hA (r_mv hA rfl) rfl fun a hA => 
        o_no hA rfl rfl (by simp [vb]) rfl fun a hA => 
        o_no hA rfl rfl (by simp [vb]) rfl fun a hA => 
        o_no hA rfl rfl (by simp [vb]) rfl fun a hA => 
        o_no hA rfl rfl (by simp [vb]) rfl fun a hA => 
        o_no hA rfl rfl (by simp [vb]) rfl fun a hA => 
        stp hA (r_pick_f hA rfl rfl rfl) rfl fun a hA => 
        stp hA (r_mv hA rfl) rfl fun a hA => 
        o_no hA rfl rfl (by simp [vb]) rfl fun a hA => 
        o_no hA rfl rfl (by simp [vb]) rfl fun a hA => 
        o_no hA rfl rfl (by simp [vb]) rfl fun a hA => 
        o_no hA rfl rfl (by simp [vb]) rfl fun a hA => 
        o_no hA rfl rfl (by simp [vb]) rfl fun a hA => 
        stp hA (r_pick_f hA rfl rfl rfl) rfl fun a hA => 
        stp hA (r_as hA rfl) rfl fun a hA => ?_
      refine o_nil ?_
      cases Option.some.inj (bS H)
      exact ⟨hA.sub ⟨rfl, rfl, rfl, rfl, rfl, trivial⟩, hI⟩
  · rintro a w ⟨hA, hI⟩
    have H := Hk1
    refine w_ret ?_
    obtain rfl := Option.some.inj (bS H)
    exact ret1 hA Tryd.results129 rfl ⟨_, rfl, rfl, trivial, hI.forget0⟩
set_option maxRecDepth 20000 in
theorem sargassoref_None.c (μ : Store) (w0 : World) (hμ : Agr μ w0) (r : sargassorefFault) (H : sargassoref_None.f = some r) :
    Calls Tryd.prog 131 [].toArray w0 (fun e w' => ∃ v, e = .returned v ∧ v = .agg [[.int .i64 r.Code], [.bool r.Placed], [.int .i64 r.Pos], [.bool r.Outer], [.int .i64 r.At]].flatten.toArray ∧ sargassorefFaultW μ r ∧ Iv w0 [] μ μ [] w') := by
  refine enter Tryd.func131 rfl Tryd.ntmps131 rfl fun a hA => ?_
  have hI := Iv.start hμ
  have H := bI H
  refine w_seq fun _ hN1 => ?_
  refine w_reg ?_
  refine o_new [[.int .i64 0], [.bool false], [.int .i64 0], [.bool false], [.int .i64 0]] zr109 hI hA rfl fun g1 a w hA hI hg1 => ?_
  refine o_nil ?_
  refine hN1 _ _ ?_
  refine w_seq fun _ hN2 => ?_
  refine w_reg ?_
  refine stp hA (r_bldS (cs := [[.int .i64 0], [.bool false], [.int .i64 0], [.bool false], [.int .i64 0]].flatten.toArray) (pl := [(0, 1), (1, 1), (2, 1), (3, 1), (4, 1)]) zr109 Tryd.underlying109 ⟨rfl, sz3, rfl, sz4, rfl, sz3, rfl, sz4, rfl, sz3, trivial⟩ hA rfl (by kernel_rfl)) rfl fun a hA => 
    o_st (j := 0) [] [[.int .i64 0], [.bool false], [.int .i64 0], [.bool false], [.int .i64 0]] [[.int .i64 0], [.bool false], [.int .i64 0], [.bool false], [.int .i64 0]] [] sz109 rfl rfl (fl_cons (one_one rfl) (fl_cons (one_one rfl) (fl_cons (one_one rfl) (fl_cons (one_one rfl) (fl_cons (one_one rfl) fl_nil))))) hI rfl hA rfl rfl rfl rfl fun w hI => ?_
  refine o_nil ?_
  refine hN2 _ _ ?_
  refine w_ret ?_
  obtain rfl := Option.some.inj (bS H)
  exact retc Tryd.underlying109 rfl sz109 rfl hI (j := 0) rfl hA Tryd.results131 rfl ⟨_, rfl, rfl, ⟨(in_lit .i64 0 rfl), (in_lit .i64 0 rfl), (in_lit .i64 0 rfl)⟩, hI.forget0⟩
set_option maxRecDepth 20000 in
theorem sargassoref_Placed.c (μ : Store) (w0 : World) (hμ : Agr μ w0) (x0 : Int) (hx0 : InR .i64 x0) (x1 : Int) (hx1 : InR .i64 x1) (r : sargassorefFault) (H : sargassoref_Placed.f x0 x1 = some r) :
    Calls Tryd.prog 74 [.int .i64 x0, .int .i64 x1].toArray w0 (fun e w' => ∃ v, e = .returned v ∧ v = .agg [[.int .i64 r.Code], [.bool r.Placed], [.int .i64 r.Pos], [.bool r.Outer], [.int .i64 r.At]].flatten.toArray ∧ sargassorefFaultW μ r ∧ Iv w0 [] μ μ [] w') := by
  refine enter Tryd.func74 rfl Tryd.ntmps74 rfl fun a hA => ?_
  have hI := Iv.start hμ
  have H := bI H
  refine w_seq fun _ hN1 => ?_
  refine w_reg ?_
  refine o_new [[.int .i64 0], [.bool false], [.int .i64 0], [.bool false], [.int .i64 0]] zr109 hI hA rfl fun g1 a w hA hI hg1 => ?_
  refine o_nil ?_
  refine hN1 _ _ ?_
  refine w_seq fun _ hN2 => ?_
  refine w_seq fun _ hN3 => ?_
  refine w_reg ?_
  refine stp hA (r_mv hA rfl) rfl fun a hA => 
    stp hA (r_eql hA rfl rfl) rfl fun a hA => ?_
  refine o_nil ?_
  refine hN3 _ _ ?_
  refine w_cond hA rfl (fun hc1 => ?_) (fun hc1 => ?_)
  · have hc10 := hc1; have hc1 := of_decide_eq_true hc1; have H := bT H hc1
    refine w_seq fun _ hN4 => ?_
    refine w_reg ?_
    obtain ⟨r1, hr1, H⟩ := bB H
    refine o_callp (u := .agg [[.int .i64 r1.Code], [.bool r1.Placed], [.int .i64 r1.Pos], [.bool r1.Outer], [.int .i64 r1.At]].flatten.toArray) cf131 hA rfl hI (sargassoref_None.c μ _ hI.agr  r1 hr1) rfl fun a w hz1 hI hA => 
      o_st (j := 0) [] [[.int .i64 0], [.bool false], [.int .i64 0], [.bool false], [.int .i64 0]] [[.int .i64 r1.Code], [.bool r1.Placed], [.int .i64 r1.Pos], [.bool r1.Outer], [.int .i64 r1.At]] [] sz109 rfl rfl (fl_cons (one_one rfl) (fl_cons (one_one rfl) (fl_cons (one_one rfl) (fl_cons (one_one rfl) (fl_cons (one_one rfl) fl_nil))))) hI rfl hA rfl rfl rfl rfl fun w hI => ?_
    refine o_nil ?_
    refine hN4 _ _ ?_
    refine w_ret ?_
    obtain rfl := Option.some.inj (bS H)
    exact retc Tryd.underlying109 rfl sz109 rfl hI (j := 0) rfl hA Tryd.results74 rfl ⟨_, rfl, rfl, ⟨hz1.1, hz1.2.1, hz1.2.2⟩, hI.forget0⟩
  · have hc10 := hc1; have hc1 := of_decide_eq_false hc1; have H := bF H hc1
    refine w_skip ?_
    refine hN2 _ _ ?_
    refine w_seq fun _ hN5 => ?_
    refine w_reg ?_
    refine stp hA (r_mv hA rfl) rfl fun a hA => 
      stp hA (r_mv hA rfl) rfl fun a hA => 
      stp hA (r_bldS (cs := [[.int .i64 x0], [.bool true], [.int .i64 x1], [.bool false], [.int .i64 0]].flatten.toArray) (pl := [(0, 1), (1, 1), (2, 1), (3, 1), (4, 1)]) zr109 Tryd.underlying109 ⟨rfl, sz3, rfl, sz4, rfl, sz3, rfl, sz4, rfl, sz3, trivial⟩ hA rfl (by kernel_rfl)) rfl fun a hA => 
      o_st (j := 0) [] [[.int .i64 0], [.bool false], [.int .i64 0], [.bool false], [.int .i64 0]] [[.int .i64 x0], [.bool true], [.int .i64 x1], [.bool false], [.int .i64 0]] [] sz109 rfl rfl (fl_cons (one_one rfl) (fl_cons (one_one rfl) (fl_cons (one_one rfl) (fl_cons (one_one rfl) (fl_cons (one_one rfl) fl_nil))))) hI rfl hA rfl rfl rfl rfl fun w hI => ?_
    refine o_nil ?_
    refine hN5 _ _ ?_
    refine w_ret ?_
    obtain rfl := Option.some.inj (bS H)
    exact retc Tryd.underlying109 rfl sz109 rfl hI (j := 0) rfl hA Tryd.results74 rfl ⟨_, rfl, rfl, ⟨hx0, hx1, (in_lit .i64 0 rfl)⟩, hI.forget0⟩
set_option maxRecDepth 20000 in
theorem sargassoref_Bare.c (μ : Store) (w0 : World) (hμ : Agr μ w0) (x0 : Int) (hx0 : InR .i64 x0) (r : sargassorefFault) (H : sargassoref_Bare.f x0 = some r) :
    Calls Tryd.prog 96 [.int .i64 x0].toArray w0 (fun e w' => ∃ v, e = .returned v ∧ v = .agg [[.int .i64 r.Code], [.bool r.Placed], [.int .i64 r.Pos], [.bool r.Outer], [.int .i64 r.At]].flatten.toArray ∧ sargassorefFaultW μ r ∧ Iv w0 [] μ μ [] w') := by
  refine enter Tryd.func96 rfl Tryd.ntmps96 rfl fun a hA => ?_
  have hI := Iv.start hμ
  have H := bI H
  refine w_seq fun _ hN1 => ?_
  refine w_reg ?_
  refine o_new [[.int .i64 0], [.bool false], [.int .i64 0], [.bool false], [.int .i64 0]] zr109 hI hA rfl fun g1 a w hA hI hg1 => ?_
  refine o_nil ?_
  refine hN1 _ _ ?_
  refine w_seq fun _ hN2 => ?_
  refine w_reg ?_
  refine stp hA (r_mv hA rfl) rfl fun a hA => 
    stp hA (r_bldS (cs := [[.int .i64 x0], [.bool false], [.int .i64 0], [.bool false], [.int .i64 0]].flatten.toArray) (pl := [(0, 1), (1, 1), (2, 1), (3, 1), (4, 1)]) zr109 Tryd.underlying109 ⟨rfl, sz3, rfl, sz4, rfl, sz3, rfl, sz4, rfl, sz3, trivial⟩ hA rfl (by kernel_rfl)) rfl fun a hA => 
    o_st (j := 0) [] [[.int .i64 0], [.bool false], [.int .i64 0], [.bool false], [.int .i64 0]] [[.int .i64 x0], [.bool false], [.int .i64 0], [.bool false], [.int .i64 0]] [] sz109 rfl rfl (fl_cons (one_one rfl) (fl_cons (one_one rfl) (fl_cons (one_one rfl) (fl_cons (one_one rfl) (fl_cons (one_one rfl) fl_nil))))) hI rfl hA rfl rfl rfl rfl fun w hI => ?_
  refine o_nil ?_
  refine hN2 _ _ ?_
  refine w_ret ?_
  obtain rfl := Option.some.inj (bS H)
  exact retc Tryd.underlying109 rfl sz109 rfl hI (j := 0) rfl hA Tryd.results96 rfl ⟨_, rfl, rfl, ⟨hx0, (in_lit .i64 0 rfl), (in_lit .i64 0 rfl)⟩, hI.forget0⟩
set_option maxRecDepth 20000 in
theorem sargassosee_sentinels.c (μ : Store) (w0 : World) (hμ : Agr μ w0) (hG : Gl μ) (r : List Er) (H : sargassosee_sentinels.f = some r) :
    Calls Tryd.prog 154 [].toArray w0 (fun e w' => ∃ v, e = .returned v ∧ ∃ (v0 : Value) (c0 : List Value) (μ' : Store), v = v0 ∧ Els (RErr μ') 1 r c0 ∧ Iv w0 [] μ μ' [row 34 1 v0 r.length c0] w') := by
  refine enter Tryd.func154 rfl Tryd.ntmps154 rfl fun a hA => ?_
  have hI := Iv.start hμ
  have H := bI H
  obtain ⟨e0, he0⟩ := hG.g0
  obtain ⟨e1, he1⟩ := hG.g1
  obtain ⟨e2, he2⟩ := hG.g2
  obtain ⟨e3, he3⟩ := hG.g3
  obtain ⟨e4, he4⟩ := hG.g4
  obtain ⟨e5, he5⟩ := hG.g5
  obtain ⟨e6, he6⟩ := hG.g6
  obtain ⟨e7, he7⟩ := hG.g7
  obtain ⟨e8, he8⟩ := hG.g8
  obtain ⟨e9, he9⟩ := hG.g9
  obtain ⟨e10, he10⟩ := hG.g10
  obtain ⟨e11, he11⟩ := hG.g11
  obtain ⟨e12, he12⟩ := hG.g12
  obtain ⟨e13, he13⟩ := hG.g13
  obtain ⟨e14, he14⟩ := hG.g14
  obtain ⟨e15, he15⟩ := hG.g15
  obtain ⟨e16, he16⟩ := hG.g16
  obtain ⟨e17, he17⟩ := hG.g17
  obtain ⟨e18, he18⟩ := hG.g18
  obtain ⟨e19, he19⟩ := hG.g19
  obtain ⟨e20, he20⟩ := hG.g20
  obtain ⟨e21, he21⟩ := hG.g21
  obtain ⟨e22, he22⟩ := hG.g22
  obtain ⟨e23, he23⟩ := hG.g23
  obtain ⟨e24, he24⟩ := hG.g24
  refine w_seq fun _ hN1 => ?_
  refine w_reg ?_
  refine stp hA (r_as hA rfl) rfl fun a hA => ?_
  refine o_nil ?_
  refine hN1 _ _ ?_
  refine w_seq fun _ hN2 => ?_
  refine w_reg ?_
  refine stp hA (r_ldG Tryd.underlying34 rfl hI.agr he8 hA) rfl fun a hA => 
    stp hA (r_ldG Tryd.underlying34 rfl hI.agr he0 hA) rfl fun a hA => 
    stp hA (r_ldG Tryd.underlying34 rfl hI.agr he2 hA) rfl fun a hA => 
    stp hA (r_ldG Tryd.underlying34 rfl hI.agr he1 hA) rfl fun a hA => 
    stp hA (r_ldG Tryd.underlying34 rfl hI.agr he4 hA) rfl fun a hA => 
    stp hA (r_ldG Tryd.underlying34 rfl hI.agr he5 hA) rfl fun a hA => 
    stp hA (r_ldG Tryd.underlying34 rfl hI.agr he9 hA) rfl fun a hA => 
    stp hA (r_ldG Tryd.underlying34 rfl hI.agr he10 hA) rfl fun a hA => 
    stp hA (r_ldG Tryd.underlying34 rfl hI.agr he11 hA) rfl fun a hA => 
    stp hA (r_ldG Tryd.underlying34 rfl hI.agr he12 hA) rfl fun a hA => 
    stp hA (r_ldG Tryd.underlying34 rfl hI.agr he13 hA) rfl fun a hA => 
    stp hA (r_ldG Tryd.underlying34 rfl hI.agr he14 hA) rfl fun a hA => 
    stp hA (r_ldG Tryd.underlying34 rfl hI.agr he15 hA) rfl fun a hA => 
    stp hA (r_ldG Tryd.underlying34 rfl hI.agr he3 hA) rfl fun a hA => 
    stp hA (r_ldG Tryd.underlying34 rfl hI.agr he16 hA) rfl fun a hA => 
    stp hA (r_ldG Tryd.underlying34 rfl hI.agr he17 hA) rfl fun a hA => 
    stp hA (r_ldG Tryd.underlying34 rfl hI.agr he7 hA) rfl fun a hA => 
    stp hA (r_ldG Tryd.underlying34 rfl hI.agr he18 hA) rfl fun a hA => 
    stp hA (r_ldG Tryd.underlying34 rfl hI.agr he19 hA) rfl fun a hA => 
    stp hA (r_ldG Tryd.underlying34 rfl hI.agr he20 hA) rfl fun a hA => 
    stp hA (r_ldG Tryd.underlying34 rfl hI.agr he21 hA) rfl fun a hA => 
    stp hA (r_ldG Tryd.underlying34 rfl hI.agr he6 hA) rfl fun a hA => 
    stp hA (r_ldG Tryd.underlying34 rfl hI.agr he22 hA) rfl fun a hA => 
    stp hA (r_ldG Tryd.underlying34 rfl hI.agr he23 hA) rfl fun a hA => 
    stp hA (r_ldG Tryd.underlying34 rfl hI.agr he24 hA) rfl fun a hA => ?_
  have hE1 : Els (RErr μ) 1 ([xErrEnd, xErrShape, xErrLong, xErrMany, xErrValue, xErrTwice, xErrBase, xErrRoot, xErrKnown, xErrParent, xErrInvalid, xErrTime, xErrMissing, xErrKey, xErrYoung, xErrEarly, xErrLess, xErrReward, xErrClash, xErrLimit, xErrFull, xErrRange, xErrNone, xErrWord, xErrNumber] : List Er) ([[e8]].flatten ++ ([[e0]].flatten ++ ([[e2]].flatten ++ ([[e1]].flatten ++ ([[e4]].flatten ++ ([[e5]].flatten ++ ([[e9]].flatten ++ ([[e10]].flatten ++ ([[e11]].flatten ++ ([[e12]].flatten ++ ([[e13]].flatten ++ ([[e14]].flatten ++ ([[e15]].flatten ++ ([[e3]].flatten ++ ([[e16]].flatten ++ ([[e17]].flatten ++ ([[e7]].flatten ++ ([[e18]].flatten ++ ([[e19]].flatten ++ ([[e20]].flatten ++ ([[e21]].flatten ++ ([[e6]].flatten ++ ([[e22]].flatten ++ ([[e23]].flatten ++ ([[e24]].flatten ++ ([])))))))))))))))))))))))))) := (Els.cons (c := [[e8]].flatten) ⟨_, rfl, he8⟩ rfl (Els.cons (c := [[e0]].flatten) ⟨_, rfl, he0⟩ rfl (Els.cons (c := [[e2]].flatten) ⟨_, rfl, he2⟩ rfl (Els.cons (c := [[e1]].flatten) ⟨_, rfl, he1⟩ rfl (Els.cons (c := [[e4]].flatten) ⟨_, rfl, he4⟩ rfl (Els.cons (c := [[e5]].flatten) ⟨_, rfl, he5⟩ rfl (Els.cons (c := [[e9]].flatten) ⟨_, rfl, he9⟩ rfl (Els.cons (c := [[e10]].flatten) ⟨_, rfl, he10⟩ rfl (Els.cons (c := [[e11]].flatten) ⟨_, rfl, he11⟩ rfl (Els.cons (c := [[e12]].flatten) ⟨_, rfl, he12⟩ rfl (Els.cons (c := [[e13]].flatten) ⟨_, rfl, he13⟩ rfl (Els.cons (c := [[e14]].flatten) ⟨_, rfl, he14⟩ rfl (Els.cons (c := [[e15]].flatten) ⟨_, rfl, he15⟩ rfl (Els.cons (c := [[e3]].flatten) ⟨_, rfl, he3⟩ rfl (Els.cons (c := [[e16]].flatten) ⟨_, rfl, he16⟩ rfl (Els.cons (c := [[e17]].flatten) ⟨_, rfl, he17⟩ rfl (Els.cons (c := [[e7]].flatten) ⟨_, rfl, he7⟩ rfl (Els.cons (c := [[e18]].flatten) ⟨_, rfl, he18⟩ rfl (Els.cons (c := [[e19]].flatten) ⟨_, rfl, he19⟩ rfl (Els.cons (c := [[e20]].flatten) ⟨_, rfl, he20⟩ rfl (Els.cons (c := [[e21]].flatten) ⟨_, rfl, he21⟩ rfl (Els.cons (c := [[e6]].flatten) ⟨_, rfl, he6⟩ rfl (Els.cons (c := [[e22]].flatten) ⟨_, rfl, he22⟩ rfl (Els.cons (c := [[e23]].flatten) ⟨_, rfl, he23⟩ rfl (Els.cons (c := [[e24]].flatten) ⟨_, rfl, he24⟩ rfl Els.nil)))))))))))))))))))))))))
  refine o_bsl ([[e8]].flatten ++ ([[e0]].flatten ++ ([[e2]].flatten ++ ([[e1]].flatten ++ ([[e4]].flatten ++ ([[e5]].flatten ++ ([[e9]].flatten ++ ([[e10]].flatten ++ ([[e11]].flatten ++ ([[e12]].flatten ++ ([[e13]].flatten ++ ([[e14]].flatten ++ ([[e15]].flatten ++ ([[e3]].flatten ++ ([[e16]].flatten ++ ([[e17]].flatten ++ ([[e7]].flatten ++ ([[e18]].flatten ++ ([[e19]].flatten ++ ([[e20]].flatten ++ ([[e21]].flatten ++ ([[e6]].flatten ++ ([[e22]].flatten ++ ([[e23]].flatten ++ ([[e24]].flatten ++ ([])))))))))))))))))))))))))) te34 zr34 Tryd.underlying196 hI hA rfl rfl rfl rfl ((fill_one (cells_err1 he8) rfl (by kernel_rfl)).trans ((fill_one (cells_err1 he0) rfl (by kernel_rfl)).trans ((fill_one (cells_err1 he2) rfl (by kernel_rfl)).trans ((fill_one (cells_err1 he1) rfl (by kernel_rfl)).trans ((fill_one (cells_err1 he4) rfl (by kernel_rfl)).trans ((fill_one (cells_err1 he5) rfl (by kernel_rfl)).trans ((fill_one (cells_err1 he9) rfl (by kernel_rfl)).trans ((fill_one (cells_err1 he10) rfl (by kernel_rfl)).trans ((fill_one (cells_err1 he11) rfl (by kernel_rfl)).trans ((fill_one (cells_err1 he12) rfl (by kernel_rfl)).trans ((fill_one (cells_err1 he13) rfl (by kernel_rfl)).trans ((fill_one (cells_err1 he14) rfl (by kernel_rfl)).trans ((fill_one (cells_err1 he15) rfl (by kernel_rfl)).trans ((fill_one (cells_err1 he3) rfl (by kernel_rfl)).trans ((fill_one (cells_err1 he16) rfl (by kernel_rfl)).trans ((fill_one (cells_err1 he17) rfl (by kernel_rfl)).trans ((fill_one (cells_err1 he7) rfl (by kernel_rfl)).trans ((fill_one (cells_err1 he18) rfl (by kernel_rfl)).trans ((fill_one (cells_err1 he19) rfl (by kernel_rfl)).trans ((fill_one (cells_err1 he20) rfl (by kernel_rfl)).trans ((fill_one (cells_err1 he21) rfl (by kernel_rfl)).trans ((fill_one (cells_err1 he6) rfl (by kernel_rfl)).trans ((fill_one (cells_err1 he22) rfl (by kernel_rfl)).trans ((fill_one (cells_err1 he23) rfl (by kernel_rfl)).trans ((fill_one (cells_err1 he24) rfl (by kernel_rfl)).trans (by kernel_rfl)))))))))))))))))))))))))) rfl fun g1 a w hA hI => ?_
  generalize hcs : ([[e8]].flatten ++ ([[e0]].flatten ++ ([[e2]].flatten ++ ([[e1]].flatten ++ ([[e4]].flatten ++ ([[e5]].flatten ++ ([[e9]].flatten ++ ([[e10]].flatten ++ ([[e11]].flatten ++ ([[e12]].flatten ++ ([[e13]].flatten ++ ([[e14]].flatten ++ ([[e15]].flatten ++ ([[e3]].flatten ++ ([[e16]].flatten ++ ([[e17]].flatten ++ ([[e7]].flatten ++ ([[e18]].flatten ++ ([[e19]].flatten ++ ([[e20]].flatten ++ ([[e21]].flatten ++ ([[e6]].flatten ++ ([[e22]].flatten ++ ([[e23]].flatten ++ ([[e24]].flatten ++ ([]))))))))))))))))))))))))) : List Value) = cs1 at hE1 hI
  clear hcs
  refine stp hA (r_as hA rfl) rfl fun a hA => ?_
  refine o_nil ?_
  refine hN2 _ _ ?_
  refine w_ret ?_
  obtain rfl := Option.some.inj (bS H)
  exact ret1 hA Tryd.results154 rfl ⟨_, rfl, (.slice (some ⟨g1, 0, none⟩) 25 25), cs1, μ, rfl, hE1, hI⟩
set_option maxRecDepth 20000 in
theorem sargassosee_Alike.c (μ : Store) (w0 : World) (hμ : Agr μ w0) (x0 : Er) (u0 : Value) (hx0 : ErS μ u0 x0) (x1 : Er) (u1 : Value) (hx1 : ErS μ u1 x1) (r : Bool) (H : sargassosee_Alike.f x0 x1 = some r) :
    Calls Tryd.prog 155 [u0, u1].toArray w0 (fun e w' => ∃ v, e = .returned v ∧ v = .bool r ∧ True ∧ Iv w0 [] μ μ [] w') := by
  refine enter Tryd.func155 rfl Tryd.ntmps155 rfl fun a hA => ?_
  have hI := Iv.start hμ
  have H := bI H
  refine w_seq fun _ hN1 => ?_
  refine w_reg ?_
  refine stp hA (r_as hA rfl) rfl fun a hA => ?_
  refine o_nil ?_
  refine hN1 _ _ ?_
  refine w_seq fun _ hN2 => ?_
  obtain ⟨c1, hz1, Hk1⟩ := bB H
  refine w_cut (fun a w => Fr a 20 [(0, u0), (1, u1), (4, .bool false), (10, .bool c1)] ∧ Iv w0 [] μ μ [] w) ?_ ?_
  · have H := bI hz1
    refine w_reg ?_
    refine stp hA (r_mv hA rfl) rfl fun a hA => 
      stp hA (r_eqE erF hI.agr hx0 erv_nil (.inl ⟨.inr ⟨_, rfl⟩, Er.fitR⟩) hA rfl rfl) rfl fun a hA => 
      stp hA (r_mv hA rfl) rfl fun a hA => ?_
    rcases Bool.eq_false_or_eq_true (decide (x0 = (Er.b 0))) with hc1 | hc1
    · have hc10 := hc1; have hc1 := of_decide_eq_true hc1; have H := bT H hc1
      refine o_no hA rfl rfl (by rw [hc10]; simp [vb]) rfl fun a hA => 
        o_no hA rfl rfl (by rw [hc10]; simp [vb]) rfl fun a hA => 
        stp hA (r_pick_t hA rfl hc10 rfl) rfl fun a hA => ?_
      refine o_nil ?_
      cases Option.some.inj (bS H)
      exact ⟨hA.sub ⟨rfl, rfl, rfl, rfl, trivial⟩, hI⟩
    · have hc10 := hc1; have hc1 := of_decide_eq_false hc1; have H := bF H hc1
      refine o_yes hA rfl rfl hc10 <| 
        stp hA (r_mv hA rfl) rfl fun a hA => 
        o_yes hA rfl rfl hc10 <| 
        stp hA (r_eqE erF hI.agr hx1 erv_nil (.inl ⟨.inr ⟨_, rfl⟩, Er.fitR⟩) hA rfl rfl) rfl fun a hA => 
        stp hA (r_pick_f hA rfl hc10 rfl) rfl fun a hA => ?_
      refine o_nil ?_
      cases Option.some.inj (bS H)
      exact ⟨hA.sub ⟨rfl, rfl, rfl, rfl, trivial⟩, hI⟩
  · rintro a w ⟨hA, hI⟩
    have H := Hk1
    refine w_cond hA rfl (fun hc2 => ?_) (fun hc2 => ?_)
    · have hc20 := hc2; have H := bT H hc2
      obtain ⟨c2, hz2, Hk2⟩ := bB H
      refine w_cut (fun a w => Fr a 20 [(0, u0), (1, u1), (4, .bool c2), (10, .bool c1)] ∧ Iv w0 [] μ μ [] w) ?_ ?_
      · have H := bI hz2
        refine w_reg ?_
        refine stp hA (r_mv hA rfl) rfl fun a hA => 
          stp hA (r_eqE erF hI.agr hx0 erv_nil (.inl ⟨.inr ⟨_, rfl⟩, Er.fitR⟩) hA rfl rfl) rfl fun a hA => 
          stp hA (r_mv hA rfl) rfl fun a hA => ?_
        rcases Bool.eq_false_or_eq_true (decide (x0 = (Er.b 0))) with hc3 | hc3
        · have hc30 := hc3; have hc3 := of_decide_eq_true hc3; have H := bT H hc3
          refine o_yes hA rfl rfl hc30 <| 
            stp hA (r_mv hA rfl) rfl fun a hA => 
            o_yes hA rfl rfl hc30 <| 
            stp hA (r_eqE erF hI.agr hx1 erv_nil (.inl ⟨.inr ⟨_, rfl⟩, Er.fitR⟩) hA rfl rfl) rfl fun a hA => 
            stp hA (r_pick_t hA rfl hc30 rfl) rfl fun a hA => 
            stp hA (r_as hA rfl) rfl fun a hA => ?_
          refine o_nil ?_
          cases Option.some.inj (bS H)
          exact ⟨hA.sub ⟨rfl, rfl, rfl, rfl, trivial⟩, hI⟩
        · have hc30 := hc3; have hc3 := of_decide_eq_false hc3; have H := bF H hc3
          refine o_no hA rfl rfl (by rw [hc30]; simp [vb]) rfl fun a hA => 
            o_no hA rfl rfl (by rw [hc30]; simp [vb]) rfl fun a hA => 
            stp hA (r_pick_f hA rfl hc30 rfl) rfl fun a hA => 
            stp hA (r_as hA rfl) rfl fun a hA => ?_
          refine o_nil ?_
          cases Option.some.inj (bS H)
          exact ⟨hA.sub ⟨rfl, rfl, rfl, rfl, trivial⟩, hI⟩
      · rintro a w ⟨hA, hI⟩
        have H := Hk2
        refine w_ret ?_
        obtain rfl := Option.some.inj (bS H)
        exact ret1 hA Tryd.results155 rfl ⟨_, rfl, rfl, trivial, hI.forget0⟩
    · have hc20 := hc2; have hc2 := ft hc2; have H := bF H hc2
      refine w_skip ?_
      refine hN2 _ _ ?_
      refine w_seq fun _ hN3 => ?_
      refine w_reg ?_
      refine stp hA (r_mv hA rfl) rfl fun a hA => 
        stp hA (r_mv hA rfl) rfl fun a hA => ?_
      obtain ⟨hb1, H⟩ := bG H
      refine stp hA (r_eqE erF hI.agr hx0 hx1 (.inr hb1) hA rfl rfl) rfl fun a hA => 
        stp hA (r_as hA rfl) rfl fun a hA => ?_
      refine o_nil ?_
      refine hN3 _ _ ?_
      refine w_ret ?_
      obtain rfl := Option.some.inj (bS H)
      exact ret1 hA Tryd.results155 rfl ⟨_, rfl, rfl, trivial, hI.forget0⟩
set_option maxRecDepth 20000 in
theorem sargassosee_sentinel.c (μ : Store) (w0 : World) (hμ : Agr μ w0) (x0 : Er) (u0 : Value) (hx0 : ErS μ u0 x0) (hG : Gl μ) (r : Int) (H : sargassosee_sentinel.f x0 = some r) :
    Calls Tryd.prog 148 [u0].toArray w0 (fun e w' => ∃ v, e = .returned v ∧ v = .int .i64 r ∧ InR .i64 r ∧ Iv w0 [] μ μ [] w') := by
  refine enter Tryd.func148 rfl Tryd.ntmps148 rfl fun a hA => ?_
  have hI := Iv.start hμ
  have H := bI H
  refine w_seq fun _ hN1 => ?_
  refine w_reg ?_
  refine stp hA (r_as hA rfl) rfl fun a hA => ?_
  refine o_nil ?_
  refine hN1 _ _ ?_
  refine w_seq fun _ hN2 => ?_
  refine w_reg ?_
  obtain ⟨r1, hr1, H⟩ := bB H
  refine o_call _ cf154 hA rfl (sargassosee_sentinels.c μ _ hI.agr hG r1 hr1) rfl fun v1 a w hz1 hA => ?_
  obtain ⟨_, cs1, μ1, rfl, hE1, hi1⟩ := hz1
  have hI := hI.call hi1
  refine stp hA (r_as hA rfl) rfl fun a hA => ?_
  refine o_nil ?_
  refine hN2 _ _ ?_
  refine w_seq fun _ hN3 => ?_
  refine w_seq fun _ hN4 => ?_
  refine w_reg ?_
  refine stp hA (r_as hA rfl) rfl fun a hA => ?_
  refine o_nil ?_
  refine hN4 _ _ ?_
  refine w_block ?_
  obtain ⟨z1, hz2, Hk1⟩ := bind_some H
  obtain ⟨n1, hn1⟩ := loopO_some hz2
  refine w_loop (fun n a w => ∃ (s1 : Int), loopN (sargassosee_sentinel.s0 x0 r1) n s1 = some z1 ∧ InR .i64 s1 ∧ Fr a 20 [(0, u0), (2, .int .i64 0), (3, v1), (4, .int .i64 s1)] ∧ Iv w0 [] μ μ1 [row 34 1 v1 r1.length cs1] w) n1 ⟨0, hn1, (in_lit .i64 0 rfl), hA.sub ⟨rfl, rfl, rfl, rfl, trivial⟩, hI⟩ ?_
  clear hA hI
  rintro n a w ⟨s1, hn1, ws1, hA, hI⟩
  obtain ⟨m1, rfl, H⟩ := loopN_bind hn1
  clear hn1
  refine w_seq fun _ hN5 => ?_
  refine w_seq fun _ hN6 => ?_
  refine w_reg ?_
  refine stp hA (r_mv hA rfl) rfl fun a hA => 
    stp hA (r_mv hA rfl) rfl fun a hA => ?_
  have hlen1 := Iv.row_in hI (j := 0) rfl
  refine stp hA (r_rlen (xs := 0) Tryd.underlying196 hI (j := 0) rfl hA rfl) rfl fun a hA => 
    stp hA (r_lss hA rfl rfl) rfl fun a hA => ?_
  refine o_nil ?_
  refine hN6 _ _ ?_
  refine w_cond hA rfl (fun hc1 => ?_) (fun hc1 => ?_)
  · have hc10 := hc1; have hc1 := of_decide_eq_true hc1; have H := bT H hc1
    refine w_skip ?_
    refine hN5 _ _ ?_
    refine w_seq fun _ hN7 => ?_
    refine w_block ?_
    refine w_seq fun _ hN8 => ?_
    refine w_reg ?_
    refine stp hA (r_mv hA rfl) rfl fun a hA => 
      stp hA (r_mv hA rfl) rfl fun a hA => 
      stp hA (r_mv hA rfl) rfl fun a hA => ?_
    obtain ⟨hb1, H⟩ := bG H
    refine stp hA (r_rix (j := 0) Tryd.underlying196 sz34 hI rfl hA rfl rfl hb1.1 hb1.2) rfl fun a hA => ?_
    obtain ⟨A1, _, B1, hc2, hl1, _, he1⟩ := Els.at_ hE1 (getD_some (Er.b 0) hb1.1 hb1.2)
    obtain ⟨v2, rfl, hw1⟩ := he1
    refine stp hA (r_rldQ (j := 0) (q := s1.toNat * 1) (off := 0) A1 B1 [] [] hc2 hl1 rfl Tryd.underlying34 rfl hI rfl hA rfl) rfl fun a hA => ?_
    obtain ⟨r2, hr2, H⟩ := bB H
    refine o_callp (u := .bool r2) cf155 hA rfl hI (sargassosee_Alike.c μ1 _ hI.agr x0 u0 (ErV.le (fun _ _ h => h) hi1.le hx0) (r1.getD s1.toNat (Er.b 0)) v2 hw1 r2 hr2) rfl fun a w hz3 hI hA => ?_
    refine o_nil ?_
    refine hN8 _ _ ?_
    refine w_cond hA rfl (fun hc3 => ?_) (fun hc3 => ?_)
    · have hc30 := hc3; have H := bT H hc3
      refine w_seq fun _ hN9 => ?_
      refine w_reg ?_
      refine stp hA (r_mv hA rfl) rfl fun a hA => 
        stp hA (r_add hA rfl rfl) rfl fun a hA => 
        stp hA (r_as hA rfl) rfl fun a hA => ?_
      refine o_nil ?_
      refine hN9 _ _ ?_
      refine w_ret ?_
      have H : some (IntKind.i64.wrap (101 + s1)) = some z1 := H
      obtain rfl := Option.some.inj H
      have H := Hk1
      obtain rfl := Option.some.inj (bS H)
      exact ret1 hA Tryd.results148 rfl ⟨_, rfl, rfl, (wrap_in _ _), hI.forget0⟩
    · have hc30 := hc3; have hc3 := ft hc3; have H := bF H hc3
      refine w_skip ?_
      refine hN7 _ _ ?_
      refine w_reg ?_
      refine stp hA (r_mv hA rfl) rfl fun a hA => 
        stp hA (r_add hA rfl rfl) rfl fun a hA => 
        stp hA (r_as hA rfl) rfl fun a hA => ?_
      refine o_nil ?_
      exact ⟨m1, Nat.lt_succ_self _, IntKind.i64.wrap (s1 + 1), H, (wrap_in _ _), hA.sub ⟨rfl, rfl, rfl, rfl, trivial⟩, hI⟩
  · have hc10 := hc1; have hc1 := of_decide_eq_false hc1; have H := bF H hc1
    refine w_exit rfl ?_
    refine hN3 _ _ ?_
    refine w_seq fun _ hN10 => ?_
    refine w_reg ?_
    refine stp hA (r_as hA rfl) rfl fun a hA => ?_
    refine o_nil ?_
    refine hN10 _ _ ?_
    refine w_ret ?_
    have H : some (-1) = some z1 := H
    obtain rfl := Option.some.inj H
    have H := Hk1
    obtain rfl := Option.some.inj (bS H)
    exact ret1 hA Tryd.results148 rfl ⟨_, rfl, rfl, (in_lit .i64 (-1) rfl), hI.forget0⟩
set_option maxRecDepth 20000 in
theorem sargassoref_Around.c (μ : Store) (w0 : World) (hμ : Agr μ w0) (x0 : sargassorefFault) (hx0 : sargassorefFaultW μ x0) (x1 : Int) (hx1 : InR .i64 x1) (r : sargassorefFault) (H : sargassoref_Around.f x0 x1 = some r) :
    Calls Tryd.prog 149 [.agg [[.int .i64 x0.Code], [.bool x0.Placed], [.int .i64 x0.Pos], [.bool x0.Outer], [.int .i64 x0.At]].flatten.toArray, .int .i64 x1].toArray w0 (fun e w' => ∃ v, e = .returned v ∧ v = .agg [[.int .i64 r.Code], [.bool r.Placed], [.int .i64 r.Pos], [.bool r.Outer], [.int .i64 r.At]].flatten.toArray ∧ sargassorefFaultW μ r ∧ Iv w0 [] μ μ [] w') := by
  refine enter Tryd.func149 rfl Tryd.ntmps149 rfl fun a hA => ?_
  have hI := Iv.start hμ
  have H := bI H
  refine w_seq fun _ hN1 => ?_
  refine w_reg ?_
  refine o_box [[.int .i64 x0.Code], [.bool x0.Placed], [.int .i64 x0.Pos], [.bool x0.Outer], [.int .i64 x0.At]] hI hA rfl rfl rfl fun g1 a w hA hI hg1 => 
    o_new [[.int .i64 0], [.bool false], [.int .i64 0], [.bool false], [.int .i64 0]] zr109 hI hA rfl fun g2 a w hA hI hg2 => ?_
  refine o_nil ?_
  refine hN1 _ _ ?_
  refine w_seq fun _ hN2 => ?_
  refine w_block ?_
  refine w_seq fun _ hN3 => ?_
  refine w_reg ?_
  refine stp hA (r_fd (k := 0) Tryd.underlying109 rfl sz3 hA rfl rfl) rfl fun a hA => 
    stp hA (r_ld1 (j := 1) [] [[.bool x0.Placed], [.int .i64 x0.Pos], [.bool x0.Outer], [.int .i64 x0.At]] Tryd.underlying3 rfl hI rfl hA rfl rfl) rfl fun a hA => 
    stp hA (r_eql hA rfl rfl) rfl fun a hA => 
    stp hA (r_as hA rfl) rfl fun a hA => ?_
  refine o_nil ?_
  refine hN3 _ _ ?_
  refine w_cond hA rfl (fun hc1 => ?_) (fun hc1 => ?_)
  · have hc10 := hc1; have hc1 := of_decide_eq_true hc1; have H := bT H hc1
    refine w_seq fun _ hN4 => ?_
    refine w_reg ?_
    refine stp hA (r_ldA (j := 1) [] [[.int .i64 x0.Code], [.bool x0.Placed], [.int .i64 x0.Pos], [.bool x0.Outer], [.int .i64 x0.At]] [] Tryd.underlying109 rfl sz109 rfl hI rfl hA rfl rfl) rfl fun a hA => 
      o_st (j := 0) [] [[.int .i64 0], [.bool false], [.int .i64 0], [.bool false], [.int .i64 0]] [[.int .i64 x0.Code], [.bool x0.Placed], [.int .i64 x0.Pos], [.bool x0.Outer], [.int .i64 x0.At]] [] sz109 rfl rfl (fl_cons (one_one rfl) (fl_cons (one_one rfl) (fl_cons (one_one rfl) (fl_cons (one_one rfl) (fl_cons (one_one rfl) fl_nil))))) hI rfl hA rfl rfl rfl rfl fun w hI => ?_
    refine o_nil ?_
    refine hN4 _ _ ?_
    refine w_ret ?_
    obtain rfl := Option.some.inj (bS H)
    exact retc Tryd.underlying109 rfl sz109 rfl hI (j := 0) rfl hA Tryd.results149 rfl ⟨_, rfl, rfl, ⟨hx0.1, hx0.2.1, hx0.2.2⟩, hI.forget0⟩
  · have hc10 := hc1; have hc1 := of_decide_eq_false hc1; have H := bF H hc1
    refine w_seq fun _ hN5 => ?_
    refine w_reg ?_
    refine stp hA (r_fd (k := 1) Tryd.underlying109 rfl sz4 hA rfl rfl) rfl fun a hA => 
      stp hA (r_ld1 (j := 1) [[.int .i64 x0.Code]] [[.int .i64 x0.Pos], [.bool x0.Outer], [.int .i64 x0.At]] Tryd.underlying4 rfl hI rfl hA rfl rfl) rfl fun a hA => 
      stp hA (r_not hA rfl) rfl fun a hA => 
      stp hA (r_as hA rfl) rfl fun a hA => ?_
    refine o_nil ?_
    refine hN5 _ _ ?_
    refine w_cond hA rfl (fun hc2 => ?_) (fun hc2 => ?_)
    · have hc20 := hc2; have hc2 := nT hc2; have hc2 := ft hc2; have H := bF H hc2
      refine w_seq fun _ hN6 => ?_
      refine w_reg ?_
      refine stp hA (r_fd (k := 0) Tryd.underlying109 rfl sz3 hA rfl rfl) rfl fun a hA => 
        stp hA (r_ld1 (j := 1) [] [[.bool x0.Placed], [.int .i64 x0.Pos], [.bool x0.Outer], [.int .i64 x0.At]] Tryd.underlying3 rfl hI rfl hA rfl rfl) rfl fun a hA => 
        stp hA (r_mv hA rfl) rfl fun a hA => ?_
      obtain ⟨r1, hr1, H⟩ := bB H
      refine o_callp (u := .agg [[.int .i64 r1.Code], [.bool r1.Placed], [.int .i64 r1.Pos], [.bool r1.Outer], [.int .i64 r1.At]].flatten.toArray) cf74 hA rfl hI (sargassoref_Placed.c μ _ hI.agr x0.Code hx0.1 x1 hx1 r1 hr1) rfl fun a w hz1 hI hA => 
        o_st (j := 0) [] [[.int .i64 0], [.bool false], [.int .i64 0], [.bool false], [.int .i64 0]] [[.int .i64 r1.Code], [.bool r1.Placed], [.int .i64 r1.Pos], [.bool r1.Outer], [.int .i64 r1.At]] [] sz109 rfl rfl (fl_cons (one_one rfl) (fl_cons (one_one rfl) (fl_cons (one_one rfl) (fl_cons (one_one rfl) (fl_cons (one_one rfl) fl_nil))))) hI rfl hA rfl rfl rfl rfl fun w hI => ?_
      refine o_nil ?_
      refine hN6 _ _ ?_
      refine w_ret ?_
      obtain rfl := Option.some.inj (bS H)
      exact retc Tryd.underlying109 rfl sz109 rfl hI (j := 0) rfl hA Tryd.results149 rfl ⟨_, rfl, rfl, ⟨hz1.1, hz1.2.1, hz1.2.2⟩, hI.forget0⟩
    · have hc20 := hc2; have hc2 := nF hc2; have H := bT H hc2
      refine w_skip ?_
      refine hN2 _ _ ?_
      refine w_seq fun _ hN7 => ?_
      refine w_reg ?_
      refine stp hA (r_fd (k := 3) Tryd.underlying109 rfl sz4 hA rfl rfl) rfl fun a hA => 
        o_st (j := 1) [[.int .i64 x0.Code], [.bool x0.Placed], [.int .i64 x0.Pos]] [[.bool x0.Outer]] [[.bool true]] [[.int .i64 x0.At]] sz4 rfl rfl (fl_cons (one_one rfl) fl_nil) hI rfl hA rfl rfl rfl rfl fun w hI => ?_
      refine o_nil ?_
      refine hN7 _ _ ?_
      refine w_seq fun _ hN8 => ?_
      refine w_reg ?_
      refine stp hA (r_mv hA rfl) rfl fun a hA => 
        stp hA (r_fd (k := 4) Tryd.underlying109 rfl sz3 hA rfl rfl) rfl fun a hA => 
        o_st (j := 1) [[.int .i64 x0.Code], [.bool x0.Placed], [.int .i64 x0.Pos], [.bool true]] [[.int .i64 x0.At]] [[.int .i64 x1]] [] sz3 rfl rfl (fl_cons (one_one rfl) fl_nil) hI rfl hA rfl rfl rfl rfl fun w hI => ?_
      refine o_nil ?_
      refine hN8 _ _ ?_
      refine w_seq fun _ hN9 => ?_
      refine w_reg ?_
      refine stp hA (r_ldA (j := 1) [] [[.int .i64 x0.Code], [.bool x0.Placed], [.int .i64 x0.Pos], [.bool true], [.int .i64 x1]] [] Tryd.underlying109 rfl sz109 rfl hI rfl hA rfl rfl) rfl fun a hA => 
        o_st (j := 0) [] [[.int .i64 0], [.bool false], [.int .i64 0], [.bool false], [.int .i64 0]] [[.int .i64 x0.Code], [.bool x0.Placed], [.int .i64 x0.Pos], [.bool true], [.int .i64 x1]] [] sz109 rfl rfl (fl_cons (one_one rfl) (fl_cons (one_one rfl) (fl_cons (one_one rfl) (fl_cons (one_one rfl) (fl_cons (one_one rfl) fl_nil))))) hI rfl hA rfl rfl rfl rfl fun w hI => ?_
      refine o_nil ?_
      refine hN9 _ _ ?_
      refine w_ret ?_
      obtain rfl := Option.some.inj (bS H)
      exact retc Tryd.underlying109 rfl sz109 rfl hI (j := 0) rfl hA Tryd.results149 rfl ⟨_, rfl, rfl, ⟨hx0.1, hx0.2.1, hx1⟩, hI.forget0⟩
set_option maxRecDepth 20000 in
theorem sargassosee_Fault.c (μ : Store) (w0 : World) (hμ : Agr μ w0) (x0 : Er) (u0 : Value) (hx0 : ErS μ u0 x0) (hG : Gl μ) (r : sargassorefFault) (H : sargassosee_Fault.f x0 = some r) :
    Calls Tryd.prog 130 [u0].toArray w0 (fun e w' => ∃ v, e = .returned v ∧ v = .agg [[.int .i64 r.Code], [.bool r.Placed], [.int .i64 r.Pos], [.bool r.Outer], [.int .i64 r.At]].flatten.toArray ∧ sargassorefFaultW μ r ∧ Iv w0 [] μ μ [] w') := by
  refine enter Tryd.func130 rfl Tryd.ntmps130 rfl fun a hA => ?_
  have hI := Iv.start hμ
  have H := bI H
  refine w_seq fun _ hN1 => ?_
  refine w_reg ?_
  refine o_new [[.int .i64 0], [.bool false], [.int .i64 0], [.bool false], [.int .i64 0]] zr109 hI hA rfl fun g1 a w hA hI hg1 => ?_
  refine o_nil ?_
  refine hN1 _ _ ?_
  refine w_seq fun _ hN2 => ?_
  refine w_seq fun _ hN3 => ?_
  refine w_reg ?_
  refine stp hA (r_mv hA rfl) rfl fun a hA => 
    stp hA (r_eqE erF hI.agr hx0 erv_nil (.inl ⟨.inr ⟨_, rfl⟩, Er.fitR⟩) hA rfl rfl) rfl fun a hA => ?_
  refine o_nil ?_
  refine hN3 _ _ ?_
  refine w_cond hA rfl (fun hc1 => ?_) (fun hc1 => ?_)
  · have hc10 := hc1; have hc1 := of_decide_eq_true hc1; have H := bT H hc1
    refine w_seq fun _ hN4 => ?_
    refine w_reg ?_
    obtain ⟨r1, hr1, H⟩ := bB H
    refine o_callp (u := .agg [[.int .i64 r1.Code], [.bool r1.Placed], [.int .i64 r1.Pos], [.bool r1.Outer], [.int .i64 r1.At]].flatten.toArray) cf131 hA rfl hI (sargassoref_None.c μ _ hI.agr  r1 hr1) rfl fun a w hz1 hI hA => 
      o_st (j := 0) [] [[.int .i64 0], [.bool false], [.int .i64 0], [.bool false], [.int .i64 0]] [[.int .i64 r1.Code], [.bool r1.Placed], [.int .i64 r1.Pos], [.bool r1.Outer], [.int .i64 r1.At]] [] sz109 rfl rfl (fl_cons (one_one rfl) (fl_cons (one_one rfl) (fl_cons (one_one rfl) (fl_cons (one_one rfl) (fl_cons (one_one rfl) fl_nil))))) hI rfl hA rfl rfl rfl rfl fun w hI => ?_
    refine o_nil ?_
    refine hN4 _ _ ?_
    refine w_ret ?_
    obtain rfl := Option.some.inj (bS H)
    exact retc Tryd.underlying109 rfl sz109 rfl hI (j := 0) rfl hA Tryd.results130 rfl ⟨_, rfl, rfl, ⟨hz1.1, hz1.2.1, hz1.2.2⟩, hI.forget0⟩
  · have hc10 := hc1; have hc1 := of_decide_eq_false hc1; have H := bF H hc1
    refine w_skip ?_
    refine hN2 _ _ ?_
    refine w_seq fun _ hN5 => ?_
    refine w_reg ?_
    refine stp hA (r_mv hA rfl) rfl fun a hA => 
      stp hA (r_asP (by decide) Tryd.underlying168 zrA hx0 hA rfl) rfl fun a hA => 
      stp hA (r_mv hA rfl) rfl fun a hA => 
      stp hA (r_extr (vs := [aP 168 u0, .bool x0.isP]) hA rfl rfl) rfl fun a hA => 
      stp hA (r_extr (vs := [aP 168 u0, .bool x0.isP]) hA rfl rfl) rfl fun a hA => 
      stp hA (r_as hA rfl) rfl fun a hA => 
      stp hA (r_as hA rfl) rfl fun a hA => ?_
    refine o_nil ?_
    refine hN5 _ _ ?_
    refine w_seq fun _ hN6 => ?_
    refine w_seq fun _ hN7 => ?_
    refine w_reg ?_
    refine stp hA (r_mv hA rfl) rfl fun a hA => 
      stp hA (r_not hA rfl) rfl fun a hA => ?_
    refine o_nil ?_
    refine hN7 _ _ ?_
    refine w_cond hA rfl (fun hc2 => ?_) (fun hc2 => ?_)
    · have hc20 := hc2; have hc2 := nT hc2; have hc2 := ft hc2; have H := bF H hc2; have hc2P : x0.isP = false := by simpa using hc20
      refine w_seq fun _ hN8 => ?_
      refine w_reg ?_
      refine stp hA (r_mv hA rfl) rfl fun a hA => ?_
      obtain ⟨r2, hr2, H⟩ := bB H
      refine o_callp (u := .int .i64 r2) cf148 hA rfl hI (sargassosee_sentinel.c μ _ hI.agr x0 u0 hx0 hG r2 hr2) rfl fun a w hz2 hI hA => ?_
      obtain ⟨r3, hr3, H⟩ := bB H
      refine o_callp (u := .agg [[.int .i64 r3.Code], [.bool r3.Placed], [.int .i64 r3.Pos], [.bool r3.Outer], [.int .i64 r3.At]].flatten.toArray) cf96 hA rfl hI (sargassoref_Bare.c μ _ hI.agr r2 hz2 r3 hr3) rfl fun a w hz3 hI hA => 
        o_st (j := 0) [] [[.int .i64 0], [.bool false], [.int .i64 0], [.bool false], [.int .i64 0]] [[.int .i64 r3.Code], [.bool r3.Placed], [.int .i64 r3.Pos], [.bool r3.Outer], [.int .i64 r3.At]] [] sz109 rfl rfl (fl_cons (one_one rfl) (fl_cons (one_one rfl) (fl_cons (one_one rfl) (fl_cons (one_one rfl) (fl_cons (one_one rfl) fl_nil))))) hI rfl hA rfl rfl rfl rfl fun w hI => ?_
      refine o_nil ?_
      refine hN8 _ _ ?_
      refine w_ret ?_
      obtain rfl := Option.some.inj (bS H)
      exact retc Tryd.underlying109 rfl sz109 rfl hI (j := 0) rfl hA Tryd.results130 rfl ⟨_, rfl, rfl, ⟨hz3.1, hz3.2.1, hz3.2.2⟩, hI.forget0⟩
    · have hc20 := hc2; have hc2 := nF hc2; have H := bT H hc2; have hc2P : x0.isP = true := by simpa using hc20
      refine w_skip ?_
      refine hN6 _ _ ?_
      refine w_seq fun _ hN9 => ?_
      obtain ⟨g2, v1, hv1, hat1, hw1, hE1⟩ := ErV.isP hx0 hc2P
      rw [hv1] at hA
      obtain ⟨c1, hz4, Hk1⟩ := bB H
      refine w_cut (fun a w => Fr a 75 [(0, u0), (2, .pointer (some ⟨g1, 0, none⟩)), (3, .pointer (some ⟨g2, 0, none⟩)), (4, .bool x0.isP), (8, .bool (decide (x0 = (Er.b 0)))), (16, .bool (!x0.isP)), (28, .bool c1)] ∧ Iv w0 [] μ μ [cel g1 [[.int .i64 0], [.bool false], [.int .i64 0], [.bool false], [.int .i64 0]] 109] w) ?_ ?_
      · have H := bI hz4
        refine w_reg ?_
        refine stp hA (r_mv hA rfl) rfl fun a hA => 
          stp hA (r_ptrnil_eql Tryd.underlying168 hA rfl rfl) rfl fun a hA => 
          stp hA (r_mv hA rfl) rfl fun a hA => 
          o_yes hA rfl rfl rfl <| 
          stp hA (r_mv hA rfl) rfl fun a hA => 
          o_yes hA rfl rfl rfl <| 
          stp hA (r_nilc hA rfl) rfl fun a hA => 
          o_yes hA rfl rfl rfl <| 
          stp hA (r_fd (k := 0 + 1) Tryd.underlying170 rfl sz34 hA rfl rfl) rfl fun a hA => 
          o_yes hA rfl rfl rfl <| 
          stp hA (r_ldm1 [[.int .i64 x0.pos]] [] Tryd.underlying34 rfl hI.agr hat1 hA rfl rfl) rfl fun a hA => 
          o_yes hA rfl rfl rfl <| 
          stp hA (r_eqE erF hI.agr hE1 erv_nil (.inl ⟨.inr ⟨_, rfl⟩, Er.fitR⟩) hA rfl rfl) rfl fun a hA => 
          stp hA (r_pick_f hA rfl rfl rfl) rfl fun a hA => ?_
        refine o_nil ?_
        cases Option.some.inj (bS H)
        exact ⟨hA.sub ⟨rfl, rfl, rfl, rfl, rfl, rfl, rfl, trivial⟩, hI⟩
      · rintro a w ⟨hA, hI⟩
        have H := Hk1
        refine w_cond hA rfl (fun hc3 => ?_) (fun hc3 => ?_)
        · have hc30 := hc3; have H := bT H hc3
          refine w_seq fun _ hN10 => ?_
          refine w_reg ?_
          obtain ⟨r4, hr4, H⟩ := bB H
          refine o_callp (u := .agg [[.int .i64 r4.Code], [.bool r4.Placed], [.int .i64 r4.Pos], [.bool r4.Outer], [.int .i64 r4.At]].flatten.toArray) cf96 hA rfl hI (sargassoref_Bare.c μ _ hI.agr (-1) (in_lit .i64 (-1) rfl) r4 hr4) rfl fun a w hz5 hI hA => 
            o_st (j := 0) [] [[.int .i64 0], [.bool false], [.int .i64 0], [.bool false], [.int .i64 0]] [[.int .i64 r4.Code], [.bool r4.Placed], [.int .i64 r4.Pos], [.bool r4.Outer], [.int .i64 r4.At]] [] sz109 rfl rfl (fl_cons (one_one rfl) (fl_cons (one_one rfl) (fl_cons (one_one rfl) (fl_cons (one_one rfl) (fl_cons (one_one rfl) fl_nil))))) hI rfl hA rfl rfl rfl rfl fun w hI => ?_
          refine o_nil ?_
          refine hN10 _ _ ?_
          refine w_ret ?_
          obtain rfl := Option.some.inj (bS H)
          exact retc Tryd.underlying109 rfl sz109 rfl hI (j := 0) rfl hA Tryd.results130 rfl ⟨_, rfl, rfl, ⟨hz5.1, hz5.2.1, hz5.2.2⟩, hI.forget0⟩
        · have hc30 := hc3; have hc3 := ft hc3; have H := bF H hc3
          refine w_skip ?_
          refine hN9 _ _ ?_
          refine w_seq fun _ hN11 => ?_
          refine w_reg ?_
          refine stp hA (r_mv hA rfl) rfl fun a hA => 
            stp hA (r_nilc hA rfl) rfl fun a hA => 
            stp hA (r_fd (k := 0 + 1) Tryd.underlying170 rfl sz34 hA rfl rfl) rfl fun a hA => 
            stp hA (r_ldm1 [[.int .i64 x0.pos]] [] Tryd.underlying34 rfl hI.agr hat1 hA rfl rfl) rfl fun a hA => 
            stp hA (r_asP (by decide) Tryd.underlying168 zrA hE1 hA rfl) rfl fun a hA => 
            stp hA (r_mv hA rfl) rfl fun a hA => 
            stp hA (r_extr (vs := [aP 168 v1, .bool x0.err.isP]) hA rfl rfl) rfl fun a hA => 
            stp hA (r_extr (vs := [aP 168 v1, .bool x0.err.isP]) hA rfl rfl) rfl fun a hA => 
            stp hA (r_as hA rfl) rfl fun a hA => 
            stp hA (r_as hA rfl) rfl fun a hA => ?_
          refine o_nil ?_
          refine hN11 _ _ ?_
          refine w_seq fun _ hN12 => ?_
          refine w_seq fun _ hN13 => ?_
          refine w_reg ?_
          refine stp hA (r_mv hA rfl) rfl fun a hA => 
            stp hA (r_not hA rfl) rfl fun a hA => ?_
          refine o_nil ?_
          refine hN13 _ _ ?_
          refine w_cond hA rfl (fun hc4 => ?_) (fun hc4 => ?_)
          · have hc40 := hc4; have hc4 := nT hc4; have hc4 := ft hc4; have H := bF H hc4; have hc4P : x0.err.isP = false := by simpa using hc40
            refine w_seq fun _ hN14 => ?_
            refine w_anyS [] mo (fun w (h : Iv w0 [] μ μ [cel g1 [[.int .i64 0], [.bool false], [.int .i64 0], [.bool false], [.int .i64 0]] 109] w) => (h.sel [] (by decide) rfl : Iv w0 [] μ μ [] w)) hI fun w hI => ?_
            refine g_easy (i := 0) hA rfl rfl (by kernel_rfl) (.inr (hI.sel [] (by decide) rfl)) (fun _ => r_mv hA rfl) rfl fun a hA => ?_
            refine g_easy (i := 1) hA rfl rfl (by kernel_rfl) (.inr (hI.sel [] (by decide) rfl)) (fun _ => r_nilc hA rfl) rfl fun a hA => ?_
            refine g_easy (i := 2) hA rfl rfl (by kernel_rfl) (.inr (hI.sel [] (by decide) rfl)) (fun _ => r_fd (k := 0 + 1) Tryd.underlying170 rfl sz34 hA rfl rfl) rfl fun a hA => ?_
            refine g_take (i := 3) hA rfl rfl (by kernel_rfl) (hI.sel [] (by decide) rfl) (fun w hI => r_ldm1 [[.int .i64 x0.pos]] [] Tryd.underlying34 rfl hI.agr hat1 hA rfl rfl) rfl fun a hA => ?_
            refine g_easy (i := 5) hA rfl rfl (by kernel_rfl) (.inr (hI.sel [] (by decide) rfl)) (fun _ => r_mv hA rfl) rfl fun a hA => ?_
            refine g_easy (i := 6) hA rfl rfl (by kernel_rfl) (.inr (hI.sel [] (by decide) rfl)) (fun _ => r_nilc hA rfl) rfl fun a hA => ?_
            refine g_easy (i := 7) hA rfl rfl (by kernel_rfl) (.inr (hI.sel [] (by decide) rfl)) (fun _ => r_fd (k := 0) Tryd.underlying170 rfl sz3 hA rfl rfl) rfl fun a hA => ?_
            refine g_take (i := 8) hA rfl rfl (by kernel_rfl) (hI.sel [] (by decide) rfl) (fun w hI => r_ldm1 [] [[v1]] Tryd.underlying3 rfl hI.agr hat1 hA rfl rfl) rfl fun a hA => ?_
            refine g_forced (i := 4) rfl (by kernel_rfl) ?_
            obtain ⟨r5, hr5, H⟩ := bB H
            refine o_callp (u := .int .i64 r5) cf148 hA rfl hI (sargassosee_sentinel.c μ _ hI.agr x0.err v1 hE1 hG r5 hr5) rfl fun a w hz6 hI hA => ?_
            refine o_nil ?_
            refine ⟨(.inr (hI.sel [] (by decide) rfl)), ?_⟩
            refine g_forced (i := 9) rfl (by kernel_rfl) ?_
            obtain ⟨r6, hr6, H⟩ := bB H
            refine o_callp (u := .agg [[.int .i64 r6.Code], [.bool r6.Placed], [.int .i64 r6.Pos], [.bool r6.Outer], [.int .i64 r6.At]].flatten.toArray) cf74 hA rfl hI (sargassoref_Placed.c μ _ hI.agr r5 hz6 x0.pos hw1 r6 hr6) rfl fun a w hz7 hI hA => ?_
            refine o_nil ?_
            refine ⟨(.inr (hI.sel [] (by decide) rfl)), ?_⟩
            refine g_forced (i := 10) rfl (by kernel_rfl) ?_
            refine o_st (j := 0) [] [[.int .i64 0], [.bool false], [.int .i64 0], [.bool false], [.int .i64 0]] [[.int .i64 r6.Code], [.bool r6.Placed], [.int .i64 r6.Pos], [.bool r6.Outer], [.int .i64 r6.At]] [] sz109 rfl rfl (fl_cons (one_one rfl) (fl_cons (one_one rfl) (fl_cons (one_one rfl) (fl_cons (one_one rfl) (fl_cons (one_one rfl) fl_nil))))) hI rfl hA rfl rfl rfl rfl fun w hI => ?_
            refine o_nil ?_
            refine ⟨(.inr (hI.sel [] (by decide) rfl)), ?_⟩
            refine g_nil (by kernel_rfl) ?_
            refine hN14 _ _ ?_
            refine w_ret ?_
            obtain rfl := Option.some.inj (bS H)
            exact retc Tryd.underlying109 rfl sz109 rfl hI (j := 0) rfl hA Tryd.results130 rfl ⟨_, rfl, rfl, ⟨hz7.1, hz7.2.1, hz7.2.2⟩, hI.forget0⟩
          · have hc40 := hc4; have hc4 := nF hc4; have H := bT H hc4; have hc4P : x0.err.isP = true := by simpa using hc40
            refine w_skip ?_
            refine hN12 _ _ ?_
            refine w_seq fun _ hN15 => ?_
            obtain ⟨g3, v2, hv2, hat2, hw2, hE2⟩ := ErV.isP hE1 hc4P
            rw [hv2] at hA
            obtain ⟨c2, hz8, Hk2⟩ := bB H
            refine w_cut (fun a w => Fr a 75 [(0, u0), (2, .pointer (some ⟨g1, 0, none⟩)), (3, .pointer (some ⟨g2, 0, none⟩)), (4, .bool x0.isP), (5, .pointer (some ⟨g3, 0, none⟩)), (6, .bool x0.err.isP), (8, .bool (decide (x0 = (Er.b 0)))), (16, .bool (!x0.isP)), (28, .bool c1), (39, .bool (!x0.err.isP)), (58, .bool c2)] ∧ Iv w0 [] μ μ [cel g1 [[.int .i64 0], [.bool false], [.int .i64 0], [.bool false], [.int .i64 0]] 109] w) ?_ ?_
            · have H := bI hz8
              refine w_reg ?_
              refine stp hA (r_mv hA rfl) rfl fun a hA => 
                stp hA (r_ptrnil_eql Tryd.underlying168 hA rfl rfl) rfl fun a hA => 
                stp hA (r_mv hA rfl) rfl fun a hA => 
                o_yes hA rfl rfl rfl <| 
                stp hA (r_mv hA rfl) rfl fun a hA => 
                o_yes hA rfl rfl rfl <| 
                stp hA (r_nilc hA rfl) rfl fun a hA => 
                o_yes hA rfl rfl rfl <| 
                stp hA (r_fd (k := 0 + 1) Tryd.underlying170 rfl sz34 hA rfl rfl) rfl fun a hA => 
                o_yes hA rfl rfl rfl <| 
                stp hA (r_ldm1 [[.int .i64 x0.err.pos]] [] Tryd.underlying34 rfl hI.agr hat2 hA rfl rfl) rfl fun a hA => 
                o_yes hA rfl rfl rfl <| 
                stp hA (r_eqE erF hI.agr hE2 erv_nil (.inl ⟨.inr ⟨_, rfl⟩, Er.fitR⟩) hA rfl rfl) rfl fun a hA => 
                stp hA (r_pick_f hA rfl rfl rfl) rfl fun a hA => ?_
              refine o_nil ?_
              cases Option.some.inj (bS H)
              exact ⟨hA.sub ⟨rfl, rfl, rfl, rfl, rfl, rfl, rfl, rfl, rfl, rfl, rfl, trivial⟩, hI⟩
            · rintro a w ⟨hA, hI⟩
              have H := Hk2
              refine w_cond hA rfl (fun hc5 => ?_) (fun hc5 => ?_)
              · have hc50 := hc5; have H := bT H hc5
                refine w_seq fun _ hN16 => ?_
                refine w_reg ?_
                obtain ⟨r7, hr7, H⟩ := bB H
                refine o_callp (u := .agg [[.int .i64 r7.Code], [.bool r7.Placed], [.int .i64 r7.Pos], [.bool r7.Outer], [.int .i64 r7.At]].flatten.toArray) cf96 hA rfl hI (sargassoref_Bare.c μ _ hI.agr (-1) (in_lit .i64 (-1) rfl) r7 hr7) rfl fun a w hz9 hI hA => 
                  o_st (j := 0) [] [[.int .i64 0], [.bool false], [.int .i64 0], [.bool false], [.int .i64 0]] [[.int .i64 r7.Code], [.bool r7.Placed], [.int .i64 r7.Pos], [.bool r7.Outer], [.int .i64 r7.At]] [] sz109 rfl rfl (fl_cons (one_one rfl) (fl_cons (one_one rfl) (fl_cons (one_one rfl) (fl_cons (one_one rfl) (fl_cons (one_one rfl) fl_nil))))) hI rfl hA rfl rfl rfl rfl fun w hI => ?_
                refine o_nil ?_
                refine hN16 _ _ ?_
                refine w_ret ?_
                obtain rfl := Option.some.inj (bS H)
                exact retc Tryd.underlying109 rfl sz109 rfl hI (j := 0) rfl hA Tryd.results130 rfl ⟨_, rfl, rfl, ⟨hz9.1, hz9.2.1, hz9.2.2⟩, hI.forget0⟩
              · have hc50 := hc5; have hc5 := ft hc5; have H := bF H hc5
                refine w_skip ?_
                refine hN15 _ _ ?_
                refine w_seq fun _ hN17 => ?_
                refine w_anyS [] mo (fun w (h : Iv w0 [] μ μ [cel g1 [[.int .i64 0], [.bool false], [.int .i64 0], [.bool false], [.int .i64 0]] 109] w) => (h.sel [] (by decide) rfl : Iv w0 [] μ μ [] w)) hI fun w hI => ?_
                refine g_easy (i := 0) hA rfl rfl (by kernel_rfl) (.inr (hI.sel [] (by decide) rfl)) (fun _ => r_mv hA rfl) rfl fun a hA => ?_
                refine g_easy (i := 1) hA rfl rfl (by kernel_rfl) (.inr (hI.sel [] (by decide) rfl)) (fun _ => r_nilc hA rfl) rfl fun a hA => ?_
                refine g_easy (i := 2) hA rfl rfl (by kernel_rfl) (.inr (hI.sel [] (by decide) rfl)) (fun _ => r_fd (k := 0 + 1) Tryd.underlying170 rfl sz34 hA rfl rfl) rfl fun a hA => ?_
                refine g_take (i := 3) hA rfl rfl (by kernel_rfl) (hI.sel [] (by decide) rfl) (fun w hI => r_ldm1 [[.int .i64 x0.err.pos]] [] Tryd.underlying34 rfl hI.agr hat2 hA rfl rfl) rfl fun a hA => ?_
                refine g_easy (i := 5) hA rfl rfl (by kernel_rfl) (.inr (hI.sel [] (by decide) rfl)) (fun _ => r_mv hA rfl) rfl fun a hA => ?_
                refine g_easy (i := 6) hA rfl rfl (by kernel_rfl) (.inr (hI.sel [] (by decide) rfl)) (fun _ => r_nilc hA rfl) rfl fun a hA => ?_
                refine g_easy (i := 7) hA rfl rfl (by kernel_rfl) (.inr (hI.sel [] (by decide) rfl)) (fun _ => r_fd (k := 0) Tryd.underlying170 rfl sz3 hA rfl rfl) rfl fun a hA => ?_
                refine g_take (i := 8) hA rfl rfl (by kernel_rfl) (hI.sel [] (by decide) rfl) (fun w hI => r_ldm1 [] [[v2]] Tryd.underlying3 rfl hI.agr hat2 hA rfl rfl) rfl fun a hA => ?_
                refine g_easy (i := 10) hA rfl rfl (by kernel_rfl) (.inr (hI.sel [] (by decide) rfl)) (fun _ => r_mv hA rfl) rfl fun a hA => ?_
                refine g_easy (i := 11) hA rfl rfl (by kernel_rfl) (.inr (hI.sel [] (by decide) rfl)) (fun _ => r_nilc hA rfl) rfl fun a hA => ?_
                refine g_easy (i := 12) hA rfl rfl (by kernel_rfl) (.inr (hI.sel [] (by decide) rfl)) (fun _ => r_fd (k := 0) Tryd.underlying170 rfl sz3 hA rfl rfl) rfl fun a hA => ?_
                refine g_take (i := 13) hA rfl rfl (by kernel_rfl) (hI.sel [] (by decide) rfl) (fun w hI => r_ldm1 [] [[v1]] Tryd.underlying3 rfl hI.agr hat1 hA rfl rfl) rfl fun a hA => ?_
                refine g_forced (i := 4) rfl (by kernel_rfl) ?_
                obtain ⟨r8, hr8, H⟩ := bB H
                refine o_callp (u := .int .i64 r8) cf148 hA rfl hI (sargassosee_sentinel.c μ _ hI.agr x0.err.err v2 hE2 hG r8 hr8) rfl fun a w hz10 hI hA => ?_
                refine o_nil ?_
                refine ⟨(.inr (hI.sel [] (by decide) rfl)), ?_⟩
                refine g_forced (i := 9) rfl (by kernel_rfl) ?_
                obtain ⟨r9, hr9, H⟩ := bB H
                refine o_callp (u := .agg [[.int .i64 r9.Code], [.bool r9.Placed], [.int .i64 r9.Pos], [.bool r9.Outer], [.int .i64 r9.At]].flatten.toArray) cf74 hA rfl hI (sargassoref_Placed.c μ _ hI.agr r8 hz10 x0.err.pos hw2 r9 hr9) rfl fun a w hz11 hI hA => ?_
                refine o_nil ?_
                refine ⟨(.inr (hI.sel [] (by decide) rfl)), ?_⟩
                refine g_forced (i := 14) rfl (by kernel_rfl) ?_
                obtain ⟨r10, hr10, H⟩ := bB H
                refine o_callp (u := .agg [[.int .i64 r10.Code], [.bool r10.Placed], [.int .i64 r10.Pos], [.bool r10.Outer], [.int .i64 r10.At]].flatten.toArray) cf149 hA rfl hI (sargassoref_Around.c μ _ hI.agr r9 ⟨hz11.1, hz11.2.1, hz11.2.2⟩ x0.pos hw1 r10 hr10) rfl fun a w hz12 hI hA => ?_
                refine o_nil ?_
                refine ⟨(.inr (hI.sel [] (by decide) rfl)), ?_⟩
                refine g_forced (i := 15) rfl (by kernel_rfl) ?_
                refine o_st (j := 0) [] [[.int .i64 0], [.bool false], [.int .i64 0], [.bool false], [.int .i64 0]] [[.int .i64 r10.Code], [.bool r10.Placed], [.int .i64 r10.Pos], [.bool r10.Outer], [.int .i64 r10.At]] [] sz109 rfl rfl (fl_cons (one_one rfl) (fl_cons (one_one rfl) (fl_cons (one_one rfl) (fl_cons (one_one rfl) (fl_cons (one_one rfl) fl_nil))))) hI rfl hA rfl rfl rfl rfl fun w hI => ?_
                refine o_nil ?_
                refine ⟨(.inr (hI.sel [] (by decide) rfl)), ?_⟩
                refine g_nil (by kernel_rfl) ?_
                refine hN17 _ _ ?_
                refine w_ret ?_
                obtain rfl := Option.some.inj (bS H)
                exact retc Tryd.underlying109 rfl sz109 rfl hI (j := 0) rfl hA Tryd.results130 rfl ⟨_, rfl, rfl, ⟨hz12.1, hz12.2.1, hz12.2.2⟩, hI.forget0⟩
set_option maxRecDepth 20000 in
theorem sargassosee_Same.c (μ : Store) (w0 : World) (hμ : Agr μ w0) (x0 : Er) (u0 : Value) (hx0 : ErS μ u0 x0) (x1 : sargassorefFault) (hx1 : sargassorefFaultW μ x1) (hG : Gl μ) (r : Bool) (H : sargassosee_Same.f x0 x1 = some r) :
    Calls Tryd.prog 73 [u0, .agg [[.int .i64 x1.Code], [.bool x1.Placed], [.int .i64 x1.Pos], [.bool x1.Outer], [.int .i64 x1.At]].flatten.toArray].toArray w0 (fun e w' => ∃ v, e = .returned v ∧ v = .bool r ∧ True ∧ Iv w0 [] μ μ [] w') := by
  refine enter Tryd.func73 rfl Tryd.ntmps73 rfl fun a hA => ?_
  have hI := Iv.start hμ
  have H := bI H
  refine w_seq fun _ hN1 => ?_
  refine w_reg ?_
  refine o_box [[.int .i64 x1.Code], [.bool x1.Placed], [.int .i64 x1.Pos], [.bool x1.Outer], [.int .i64 x1.At]] hI hA rfl rfl rfl fun g1 a w hA hI hg1 => 
    stp hA (r_as hA rfl) rfl fun a hA => ?_
  refine o_nil ?_
  refine hN1 _ _ ?_
  refine w_seq fun _ hN2 => ?_
  refine w_any [] mo hI fun w hI => ?_
  refine g_easy (i := 0) hA rfl rfl (by kernel_rfl) (.inr hI) (fun _ => r_mv hA rfl) rfl fun a hA => ?_
  refine g_take (i := 2) hA rfl rfl (by kernel_rfl) hI (fun w hI => r_ldA (j := 0) [] [[.int .i64 x1.Code], [.bool x1.Placed], [.int .i64 x1.Pos], [.bool x1.Outer], [.int .i64 x1.At]] [] Tryd.underlying109 rfl sz109 rfl hI rfl hA rfl rfl) rfl fun a hA => ?_
  refine g_forced (i := 1) rfl (by kernel_rfl) ?_
  obtain ⟨r1, hr1, H⟩ := bB H
  refine o_callp (u := .agg [[.int .i64 r1.Code], [.bool r1.Placed], [.int .i64 r1.Pos], [.bool r1.Outer], [.int .i64 r1.At]].flatten.toArray) cf130 hA rfl hI (sargassosee_Fault.c μ _ hI.agr x0 u0 hx0 hG r1 hr1) rfl fun a w hz1 hI hA => ?_
  refine o_nil ?_
  refine ⟨(.inr hI), ?_⟩
  refine g_forced (i := 3) rfl (by kernel_rfl) ?_
  obtain ⟨r2, hr2, H⟩ := bB H
  refine o_callp (u := .bool r2) cf129 hA rfl hI (sargassoref_SameFault.c μ _ hI.agr r1 ⟨hz1.1, hz1.2.1, hz1.2.2⟩ x1 ⟨hx1.1, hx1.2.1, hx1.2.2⟩ r2 hr2) rfl fun a w hz2 hI hA => ?_
  refine o_nil ?_
  refine ⟨(.inr hI), ?_⟩
  refine g_easy (i := 4) hA rfl rfl (by kernel_rfl) (.inr hI) (fun _ => r_as hA rfl) rfl fun a hA => ?_
  refine g_nil (by kernel_rfl) ?_
  refine hN2 _ _ ?_
  refine w_ret ?_
  obtain rfl := Option.some.inj (bS H)
  exact ret1 hA Tryd.results73 rfl ⟨_, rfl, rfl, trivial, hI.forget0⟩
set_option maxRecDepth 20000 in
theorem sargassosee_Is.c (μ : Store) (w0 : World) (hμ : Agr μ w0) (x0 : Er) (u0 : Value) (hx0 : ErS μ u0 x0) (x1 : Int) (hx1 : InR .i64 x1) (hG : Gl μ) (r : Bool) (H : sargassosee_Is.f x0 x1 = some r) :
    Calls Tryd.prog 31 [u0, .int .i64 x1].toArray w0 (fun e w' => ∃ v, e = .returned v ∧ v = .bool r ∧ True ∧ Iv w0 [] μ μ [] w') := by
  refine enter Tryd.func31 rfl Tryd.ntmps31 rfl fun a hA => ?_
  have hI := Iv.start hμ
  have H := bI H
  refine w_seq fun _ hN1 => ?_
  refine w_reg ?_
  refine stp hA (r_as hA rfl) rfl fun a hA => ?_
  refine o_nil ?_
  refine hN1 _ _ ?_
  refine w_seq fun _ hN2 => ?_
  refine w_reg ?_
  refine stp hA (r_mv hA rfl) rfl fun a hA => 
    stp hA (r_mv hA rfl) rfl fun a hA => ?_
  obtain ⟨r1, hr1, H⟩ := bB H
  refine o_callp (u := .agg [[.int .i64 r1.Code], [.bool r1.Placed], [.int .i64 r1.Pos], [.bool r1.Outer], [.int .i64 r1.At]].flatten.toArray) cf96 hA rfl hI (sargassoref_Bare.c μ _ hI.agr x1 hx1 r1 hr1) rfl fun a w hz1 hI hA => ?_
  obtain ⟨r2, hr2, H⟩ := bB H
  refine o_callp (u := .bool r2) cf73 hA rfl hI (sargassosee_Same.c μ _ hI.agr x0 u0 hx0 r1 ⟨hz1.1, hz1.2.1, hz1.2.2⟩ hG r2 hr2) rfl fun a w hz2 hI hA => 
    stp hA (r_as hA rfl) rfl fun a hA => ?_
  refine o_nil ?_
  refine hN2 _ _ ?_
  refine w_ret ?_
  obtain rfl := Option.some.inj (bS H)
  exact ret1 hA Tryd.results31 rfl ⟨_, rfl, rfl, trivial, hI.forget0⟩
set_option maxRecDepth 20000 in
theorem sargassoref_SameHash.c (μ : Store) (w0 : World) (hμ : Agr μ w0) (x0 : List Int) (hx0 : Arr .u8 32 x0) (x1 : List Int) (hx1 : Arr .u8 32 x1) (r : Bool) (H : sargassoref_SameHash.f x0 x1 = some r) :
    Calls Tryd.prog 41 [.agg [av .u8 32 x0].flatten.toArray, .agg [av .u8 32 x1].flatten.toArray].toArray w0 (fun e w' => ∃ v, e = .returned v ∧ v = .bool r ∧ True ∧ Iv w0 [] μ μ [] w') := by
  refine enter Tryd.func41 rfl Tryd.ntmps41 rfl fun a hA => ?_
  have hI := Iv.start hμ
  have H := bI H
  refine w_seq fun _ hN1 => ?_
  refine w_reg ?_
  refine o_box [av .u8 32 x0] hI hA rfl rfl rfl fun g1 a w hA hI hg1 => 
    o_box [av .u8 32 x1] hI hA rfl rfl rfl fun g2 a w hA hI hg2 => 
    stp hA (r_as hA rfl) rfl fun a hA => ?_
  refine o_nil ?_
  refine hN1 _ _ ?_
  refine w_seq fun _ hN2 => ?_
  refine w_seq fun _ hN3 => ?_
  refine w_reg ?_
  refine stp hA (r_as hA rfl) rfl fun a hA => ?_
  refine o_nil ?_
  refine hN3 _ _ ?_
  refine w_block ?_
  obtain ⟨z1, hz1, Hk1⟩ := bind_some H
  obtain ⟨n1, hn1⟩ := loopO_some hz1
  refine w_loop (fun n a w => ∃ (s1 : Int), loopN (sargassoref_SameHash.s0 x0 x1) n s1 = some z1 ∧ InR .i64 s1 ∧ Fr a 17 [(0, .agg [av .u8 32 x0].flatten.toArray), (1, .agg [av .u8 32 x1].flatten.toArray), (2, .pointer (some ⟨g1, 0, none⟩)), (3, .pointer (some ⟨g2, 0, none⟩)), (4, .bool false), (5, .int .i64 s1)] ∧ Iv w0 [] μ μ [cel g2 [av .u8 32 x1] 55, cel g1 [av .u8 32 x0] 55] w) n1 ⟨0, hn1, (in_lit .i64 0 rfl), hA.sub ⟨rfl, rfl, rfl, rfl, rfl, rfl, trivial⟩, hI⟩ ?_
  clear hA hI
  rintro n a w ⟨s1, hn1, ws1, hA, hI⟩
  obtain ⟨m1, rfl, H⟩ := loopN_bind hn1
  clear hn1
  refine w_seq fun _ hN4 => ?_
  refine w_seq fun _ hN5 => ?_
  refine w_reg ?_
  refine stp hA (r_mv hA rfl) rfl fun a hA => 
    stp hA (r_lss hA rfl rfl) rfl fun a hA => ?_
  refine o_nil ?_
  refine hN5 _ _ ?_
  refine w_cond hA rfl (fun hc1 => ?_) (fun hc1 => ?_)
  · have hc10 := hc1; have hc1 := of_decide_eq_true hc1; have H := bT H hc1
    refine w_skip ?_
    refine hN4 _ _ ?_
    refine w_seq fun _ hN6 => ?_
    refine w_block ?_
    refine w_seq fun _ hN7 => ?_
    refine w_draw mo (by kernel_rfl) hI ?_
    refine qtp hA (fun _ hI => r_mv hA rfl) rfl fun a hA => ?_
    obtain ⟨hb1, H⟩ := bG H
    refine qtp hA (fun _ hI => r_ixar1 Tryd.underlying55 sz5 hA rfl rfl hb1.1 hb1.2) rfl fun a hA => 
      qtp hA (fun _ hI => r_ldE (j := 1) [] [] Tryd.underlying5 rfl hI rfl hA rfl rfl (by omega)) rfl fun a hA => 
      qtp hA (fun _ hI => r_mv hA rfl) rfl fun a hA => 
      qtp hA (fun _ hI => r_ixar1 Tryd.underlying55 sz5 hA rfl rfl hb1.1 hb1.2) rfl fun a hA => 
      qtp hA (fun _ hI => r_ldE (j := 0) [] [] Tryd.underlying5 rfl hI rfl hA rfl rfl (by omega)) rfl fun a hA => 
      qtp hA (fun _ hI => r_neq hA rfl rfl) rfl fun a hA => ?_
    refine q_nil fun w hI => ?_
    refine hN7 _ _ ?_
    refine w_cond hA rfl (fun hc2 => ?_) (fun hc2 => ?_)
    · have hc20 := hc2; have hc2 := of_decide_eq_true hc2; have H := bT H hc2
      refine w_seq fun _ hN8 => ?_
      refine w_reg ?_
      refine stp hA (r_as hA rfl) rfl fun a hA => ?_
      refine o_nil ?_
      refine hN8 _ _ ?_
      refine w_ret ?_
      have H : some false = some z1 := H
      obtain rfl := Option.some.inj H
      have H := Hk1
      obtain rfl := Option.some.inj (bS H)
      exact ret1 hA Tryd.results41 rfl ⟨_, rfl, rfl, trivial, hI.forget0⟩
    · have hc20 := hc2; have hc2 := of_decide_eq_false hc2; have H := bF H hc2
      refine w_skip ?_
      refine hN6 _ _ ?_
      refine w_reg ?_
      refine stp hA (r_mv hA rfl) rfl fun a hA => 
        stp hA (r_add hA rfl rfl) rfl fun a hA => 
        stp hA (r_as hA rfl) rfl fun a hA => ?_
      refine o_nil ?_
      exact ⟨m1, Nat.lt_succ_self _, IntKind.i64.wrap (s1 + 1), H, (wrap_in _ _), hA.sub ⟨rfl, rfl, rfl, rfl, rfl, rfl, trivial⟩, hI⟩
  · have hc10 := hc1; have hc1 := of_decide_eq_false hc1; have H := bF H hc1
    refine w_exit rfl ?_
    refine hN2 _ _ ?_
    refine w_seq fun _ hN9 => ?_
    refine w_reg ?_
    refine stp hA (r_as hA rfl) rfl fun a hA => ?_
    refine o_nil ?_
    refine hN9 _ _ ?_
    refine w_ret ?_
    have H : some true = some z1 := H
    obtain rfl := Option.some.inj H
    have H := Hk1
    obtain rfl := Option.some.inj (bS H)
    exact ret1 hA Tryd.results41 rfl ⟨_, rfl, rfl, trivial, hI.forget0⟩
set_option maxRecDepth 20000 in
theorem sargassoref_SameHead.c (μ : Store) (w0 : World) (hμ : Agr μ w0) (x0 : Head) (hx0 : HeadW μ x0) (x1 : Head) (hx1 : HeadW μ x1) (r : Bool) (H : sargassoref_SameHead.f x0 x1 = some r) :
    Calls Tryd.prog 66 [.agg [[.int .u32 x0.Version], av .u8 32 x0.Prev, av .u8 32 x0.Root, [.int .u32 x0.Time], [.int .u32 x0.Work], [.int .u32 x0.Nonce]].flatten.toArray, .agg [[.int .u32 x1.Version], av .u8 32 x1.Prev, av .u8 32 x1.Root, [.int .u32 x1.Time], [.int .u32 x1.Work], [.int .u32 x1.Nonce]].flatten.toArray].toArray w0 (fun e w' => ∃ v, e = .returned v ∧ v = .bool r ∧ True ∧ Iv w0 [] μ μ [] w') := by
  refine enter Tryd.func66 rfl Tryd.ntmps66 rfl fun a hA => ?_
  have hI := Iv.start hμ
  have H := bI H
  refine w_seq fun _ hN1 => ?_
  refine w_reg ?_
  refine o_box [[.int .u32 x0.Version], av .u8 32 x0.Prev, av .u8 32 x0.Root, [.int .u32 x0.Time], [.int .u32 x0.Work], [.int .u32 x0.Nonce]] hI hA rfl rfl rfl fun g1 a w hA hI hg1 => 
    o_box [[.int .u32 x1.Version], av .u8 32 x1.Prev, av .u8 32 x1.Root, [.int .u32 x1.Time], [.int .u32 x1.Work], [.int .u32 x1.Nonce]] hI hA rfl rfl rfl fun g2 a w hA hI hg2 => 
    stp hA (r_as hA rfl) rfl fun a hA => ?_
  refine o_nil ?_
  refine hN1 _ _ ?_
  obtain ⟨c1, hz1, Hk1⟩ := bB H
  refine w_cut (fun a w => Fr a 45 [(0, .agg [[.int .u32 x0.Version], av .u8 32 x0.Prev, av .u8 32 x0.Root, [.int .u32 x0.Time], [.int .u32 x0.Work], [.int .u32 x0.Nonce]].flatten.toArray), (1, .agg [[.int .u32 x1.Version], av .u8 32 x1.Prev, av .u8 32 x1.Root, [.int .u32 x1.Time], [.int .u32 x1.Work], [.int .u32 x1.Nonce]].flatten.toArray), (2, .pointer (some ⟨g1, 0, none⟩)), (3, .pointer (some ⟨g2, 0, none⟩)), (4, .bool c1)] ∧ Iv w0 [] μ μ [cel g2 [[.int .u32 x1.Version], av .u8 32 x1.Prev, av .u8 32 x1.Root, [.int .u32 x1.Time], [.int .u32 x1.Work], [.int .u32 x1.Nonce]] 87, cel g1 [[.int .u32 x0.Version], av .u8 32 x0.Prev, av .u8 32 x0.Root, [.int .u32 x0.Time], [.int .u32 x0.Work], [.int .u32 x0.Nonce]] 87] w) ?_ ?_
  · have H := bI hz1
    refine w_reg ?_
    refine stp hA (r_fd (k := 0) Tryd.underlying87 rfl sz39 hA rfl rfl) rfl fun a hA => 
      stp hA (r_ld1 (j := 1) [] [av .u8 32 x0.Prev, av .u8 32 x0.Root, [.int .u32 x0.Time], [.int .u32 x0.Work], [.int .u32 x0.Nonce]] Tryd.underlying39 rfl hI rfl hA rfl rfl) rfl fun a hA => 
      stp hA (r_fd (k := 0) Tryd.underlying87 rfl sz39 hA rfl rfl) rfl fun a hA => 
      stp hA (r_ld1 (j := 0) [] [av .u8 32 x1.Prev, av .u8 32 x1.Root, [.int .u32 x1.Time], [.int .u32 x1.Work], [.int .u32 x1.Nonce]] Tryd.underlying39 rfl hI rfl hA rfl rfl) rfl fun a hA => 
      stp hA (r_eql hA rfl rfl) rfl fun a hA => 
      stp hA (r_mv hA rfl) rfl fun a hA => ?_
    rcases Bool.eq_false_or_eq_true (decide (x0.Version = x1.Version)) with hc1 | hc1
    · have hc10 := hc1; have hc1 := of_decide_eq_true hc1; have H := bT H hc1
      refine o_yes hA rfl rfl hc10 <| 
        stp hA (r_fd (k := 1) Tryd.underlying87 rfl sz55 hA rfl rfl) rfl fun a hA => 
        o_yes hA rfl rfl hc10 <| 
        stp hA (r_ldA (j := 1) [[.int .u32 x0.Version]] [av .u8 32 x0.Prev] [av .u8 32 x0.Root, [.int .u32 x0.Time], [.int .u32 x0.Work], [.int .u32 x0.Nonce]] Tryd.underlying55 rfl sz55 rfl hI rfl hA rfl rfl) rfl fun a hA => 
        o_yes hA rfl rfl hc10 <| 
        stp hA (r_fd (k := 1) Tryd.underlying87 rfl sz55 hA rfl rfl) rfl fun a hA => 
        o_yes hA rfl rfl hc10 <| 
        stp hA (r_ldA (j := 0) [[.int .u32 x1.Version]] [av .u8 32 x1.Prev] [av .u8 32 x1.Root, [.int .u32 x1.Time], [.int .u32 x1.Work], [.int .u32 x1.Nonce]] Tryd.underlying55 rfl sz55 rfl hI rfl hA rfl rfl) rfl fun a hA => 
        o_yes hA rfl rfl hc10 <| ?_
      obtain ⟨r1, hr1, H⟩ := bB H
      refine o_callp (u := .bool r1) cf41 hA rfl hI (sargassoref_SameHash.c μ _ hI.agr x0.Prev hx0.2.1 x1.Prev hx1.2.1 r1 hr1) rfl fun a w hz2 hI hA => 
        stp hA (r_pick_t hA rfl hc10 rfl) rfl fun a hA => 
        stp hA (r_mv hA rfl) rfl fun a hA => ?_
      rcases Bool.eq_false_or_eq_true r1 with hc2 | hc2
      · have hc20 := hc2; have H := bT H hc2
        refine o_yes hA rfl rfl hc20 <| 
          stp hA (r_fd (k := 33) Tryd.underlying87 rfl sz55 hA rfl rfl) rfl fun a hA => 
          o_yes hA rfl rfl hc20 <| 
          stp hA (r_ldA (j := 1) [[.int .u32 x0.Version], av .u8 32 x0.Prev] [av .u8 32 x0.Root] [[.int .u32 x0.Time], [.int .u32 x0.Work], [.int .u32 x0.Nonce]] Tryd.underlying55 rfl sz55 rfl hI rfl hA rfl rfl) rfl fun a hA => 
          o_yes hA rfl rfl hc20 <| 
          stp hA (r_fd (k := 33) Tryd.underlying87 rfl sz55 hA rfl rfl) rfl fun a hA => 
          o_yes hA rfl rfl hc20 <| 
          stp hA (r_ldA (j := 0) [[.int .u32 x1.Version], av .u8 32 x1.Prev] [av .u8 32 x1.Root] [[.int .u32 x1.Time], [.int .u32 x1.Work], [.int .u32 x1.Nonce]] Tryd.underlying55 rfl sz55 rfl hI rfl hA rfl rfl) rfl fun a hA => 
          o_yes hA rfl rfl hc20 <| ?_
        obtain ⟨r2, hr2, H⟩ := bB H
        refine o_callp (u := .bool r2) cf41 hA rfl hI (sargassoref_SameHash.c μ _ hI.agr x0.Root hx0.2.2.1 x1.Root hx1.2.2.1 r2 hr2) rfl fun a w hz3 hI hA => 
          stp hA (r_pick_t hA rfl hc20 rfl) rfl fun a hA => 
          stp hA (r_mv hA rfl) rfl fun a hA => ?_
        rcases Bool.eq_false_or_eq_true r2 with hc3 | hc3
        · have hc30 := hc3; have H := bT H hc3
          refine o_yes hA rfl rfl hc30 <| 
            stp hA (r_fd (k := 65) Tryd.underlying87 rfl sz39 hA rfl rfl) rfl fun a hA => 
            o_yes hA rfl rfl hc30 <| 
            stp hA (r_ld1 (j := 1) [[.int .u32 x0.Version], av .u8 32 x0.Prev, av .u8 32 x0.Root] [[.int .u32 x0.Work], [.int .u32 x0.Nonce]] Tryd.underlying39 rfl hI rfl hA rfl rfl) rfl fun a hA => 
            o_yes hA rfl rfl hc30 <| 
            stp hA (r_fd (k := 65) Tryd.underlying87 rfl sz39 hA rfl rfl) rfl fun a hA => 
            o_yes hA rfl rfl hc30 <| 
            stp hA (r_ld1 (j := 0) [[.int .u32 x1.Version], av .u8 32 x1.Prev, av .u8 32 x1.Root] [[.int .u32 x1.Work], [.int .u32 x1.Nonce]] Tryd.underlying39 rfl hI rfl hA rfl rfl) rfl fun a hA => 
            o_yes hA rfl rfl hc30 <| 
            stp hA (r_eql hA rfl rfl) rfl fun a hA => 
            stp hA (r_pick_t hA rfl hc30 rfl) rfl fun a hA => 
            stp hA (r_mv hA rfl) rfl fun a hA => ?_
          rcases Bool.eq_false_or_eq_true (decide (x0.Time = x1.Time)) with hc4 | hc4
          · have hc40 := hc4; have hc4 := of_decide_eq_true hc4; have H := bT H hc4
            refine o_yes hA rfl rfl hc40 <| 
              stp hA (r_fd (k := 66) Tryd.underlying87 rfl sz39 hA rfl rfl) rfl fun a hA => 
              o_yes hA rfl rfl hc40 <| 
              stp hA (r_ld1 (j := 1) [[.int .u32 x0.Version], av .u8 32 x0.Prev, av .u8 32 x0.Root, [.int .u32 x0.Time]] [[.int .u32 x0.Nonce]] Tryd.underlying39 rfl hI rfl hA rfl rfl) rfl fun a hA => 
              o_yes hA rfl rfl hc40 <| 
              stp hA (r_fd (k := 66) Tryd.underlying87 rfl sz39 hA rfl rfl) rfl fun a hA => 
              o_yes hA rfl rfl hc40 <| 
              stp hA (r_ld1 (j := 0) [[.int .u32 x1.Version], av .u8 32 x1.Prev, av .u8 32 x1.Root, [.int .u32 x1.Time]] [[.int .u32 x1.Nonce]] Tryd.underlying39 rfl hI rfl hA rfl rfl) rfl fun a hA => 
              o_yes hA rfl rfl hc40 <| 
              stp hA (r_eql hA rfl rfl) rfl fun a hA => 
              stp hA (r_pick_t hA rfl hc40 rfl) rfl fun a hA => 
              stp hA (r_mv hA rfl) rfl fun a hA => ?_
            rcases Bool.eq_false_or_eq_true (decide (x0.Work = x1.Work)) with hc5 | hc5
            · have hc50 := hc5; have hc5 := of_decide_eq_true hc5; have H := bT H hc5
              refine o_yes hA rfl rfl hc50 <| 
                stp hA (r_fd (k := 67) Tryd.underlying87 rfl sz39 hA rfl rfl) rfl fun a hA => 
                o_yes hA rfl rfl hc50 <| 
                stp hA (r_ld1 (j := 1) [[.int .u32 x0.Version], av .u8 32 x0.Prev, av .u8 32 x0.Root, [.int .u32 x0.Time], [.int .u32 x0.Work]] [] Tryd.underlying39 rfl hI rfl hA rfl rfl) rfl fun a hA => 
                o_yes hA rfl rfl hc50 <| 
                stp hA (r_fd (k := 67) Tryd.underlying87 rfl sz39 hA rfl rfl) rfl fun a hA => 
                o_yes hA rfl rfl hc50 <| 
                stp hA (r_ld1 (j := 0) [[.int .u32 x1.Version], av .u8 32 x1.Prev, av .u8 32 x1.Root, [.int .u32 x1.Time], [.int .u32 x1.Work]] [] Tryd.underlying39 rfl hI rfl hA rfl rfl) rfl fun a hA => 
                o_yes hA rfl rfl hc50 <| 
                stp hA (r_eql hA rfl rfl) rfl fun a hA => 
                stp hA (r_pick_t hA rfl hc50 rfl) rfl fun a hA => 
                stp hA (r_as hA rfl) rfl fun a hA => ?_
              refine o_nil ?_
              cases Option.some.inj (bS H)
              exact ⟨hA.sub ⟨rfl, rfl, rfl, rfl, rfl, trivial⟩, hI⟩
            · have hc50 := hc5; have hc5 := of_decide_eq_false hc5; have H := bF H hc5
              refine o_no hA rfl rfl (by rw [hc50]; simp [vb]) rfl fun a hA => 
                o_no hA rfl rfl (by rw [hc50]; simp [vb]) rfl fun a hA => 
                o_no hA rfl rfl (by rw [hc50]; simp [vb]) rfl fun a hA => 
                o_no hA rfl rfl (by rw [hc50]; simp [vb]) rfl fun a hA => 
                o_no hA rfl rfl (by rw [hc50]; simp [vb]) rfl fun a hA => 
                stp hA (r_pick_f hA rfl hc50 rfl) rfl fun a hA => 
                stp hA (r_as hA rfl) rfl fun a hA => ?_
              refine o_nil ?_
              cases Option.some.inj (bS H)
              exact ⟨hA.sub ⟨rfl, rfl, rfl, rfl, rfl, trivial⟩, hI⟩
          · have hc40 := hc4; have hc4 := of_decide_eq_false hc4; have H := bF H hc4
            refine o_no hA rfl rfl (by rw [hc40]; simp [vb]) rfl fun a hA => 
              o_no hA rfl rfl (by rw [hc40]; simp [vb]) rfl fun a hA => 
              o_no hA rfl rfl (by rw [hc40]; simp [vb]) rfl fun a hA => 
              o_no hA rfl rfl (by rw [hc40]; simp [vb]) rfl fun a hA => 
              o_no hA rfl rfl (by rw [hc40]; simp [vb]) rfl fun a hA => 
              stp hA (r_pick_f hA rfl hc40 rfl) rfl fun a hA => 
              stp hA (r_mv hA rfl) rfl fun a hA => 
              o_no hA rfl rfl (by simp [vb]) rfl fun a hA => 
              o_no hA rfl rfl (by simp [vb]) rfl fun a hA => 
              o_no hA rfl rfl (by simp [vb]) rfl fun a hA => 
              o_no hA rfl rfl (by simp [vb]) rfl fun a hA => 
              o_no hA rfl rfl (by simp [vb]) rfl fun a hA => 
              stp hA (r_pick_f hA rfl rfl rfl) rfl fun a hA => 
              stp hA (r_as hA rfl) rfl fun a hA => ?_
            refine o_nil ?_
            cases Option.some.inj (bS H)
            exact ⟨hA.sub ⟨rfl, rfl, rfl, rfl, rfl, trivial⟩, hI⟩
        · have hc30 := hc3; have hc3 := ft hc3; have H := bF H hc3
          refine o_no hA rfl rfl (by rw [hc30]; simp [vb]) rfl fun a hA => 
            o_no hA rfl rfl (by rw [hc30]; simp [vb]) rfl fun a hA => 
            o_no hA rfl rfl (by rw [hc30]; simp [vb]) rfl fun a hA => 
            o_no hA rfl rfl (by rw [hc30]; simp [vb]) rfl fun a hA => 
            o_no hA rfl rfl (by rw [hc30]; simp [vb]) rfl fun a hA => 
            stp hA (r_pick_f hA rfl hc30 rfl) rfl fun a hA => 
            stp hA (r_mv hA rfl) rfl fun a hA => 
            o_no hA rfl rfl (by simp [vb]) rfl fun a hA => 
            o_no hA rfl rfl (by simp [vb]) rfl fun a hA => 
            o_no hA rfl rfl (by simp [vb]) rfl fun a hA => 
            o_no hA rfl rfl (by simp [vb]) rfl fun a hA => 
            o_no hA rfl rfl (by simp [vb]) rfl fun a hA => 
            stp hA (r_pick_f hA rfl rfl rfl) rfl fun a hA => 
            stp hA (r_mv hA rfl) rfl fun a hA => 
            o_no hA rfl rfl (by simp [vb]) rfl fun a hA => 
            o_no hA rfl rfl (by simp [vb]) rfl fun a hA => 
            o_no hA rfl rfl (by simp [vb]) rfl fun a hA => 
            o_no hA rfl rfl (by simp [vb]) rfl fun a hA => 
            o_no hA rfl rfl (by simp [vb]) rfl fun a hA => 
            stp hA (r_pick_f hA rfl rfl rfl) rfl fun a hA => 
            stp hA (r_as hA rfl) rfl fun a hA => ?_
          refine o_nil ?_
          cases Option.some.inj (bS H)
          exact ⟨hA.sub ⟨rfl, rfl, rfl, rfl, rfl, trivial⟩, hI⟩
      · have hc20 := hc2; have hc2 := ft hc2; have H := bF H hc2
        refine o_no hA rfl rfl (by rw [hc20]; simp [vb]) rfl fun a hA => 
          o_no hA rfl rfl (by rw [hc20]; simp [vb]) rfl fun a hA => 
          o_no hA rfl rfl (by rw [hc20]; simp [vb]) rfl fun a hA => 
          o_no hA rfl rfl (by rw [hc20]; simp [vb]) rfl fun a hA => 
          o_no hA rfl rfl (by rw [hc20]; simp [vb]) rfl fun a hA => 
          stp hA (r_pick_f hA rfl hc20 rfl) rfl fun a hA => 
          stp hA (r_mv hA rfl) rfl fun a hA => 
          o_no hA rfl rfl (by simp [vb]) rfl fun a hA => 
          o_no hA rfl rfl (by simp [vb]) rfl fun a hA => 
          o_no hA rfl rfl (by simp [vb]) rfl fun a hA => 
          o_no hA rfl rfl (by simp [vb]) rfl fun a hA => 
          o_no hA rfl rfl (by simp [vb]) rfl fun a hA => 
          stp hA (r_pick_f hA rfl rfl rfl) rfl fun a hA => 
          stp hA (r_mv hA rfl) rfl fun a hA => 
          o_no hA rfl rfl (by simp [vb]) rfl fun a hA => 
          o_no hA rfl rfl (by simp [vb]) rfl fun a hA => 
          o_no hA rfl rfl (by simp [vb]) rfl fun a hA => 
          o_no hA rfl rfl (by simp [vb]) rfl fun a hA => 
          o_no hA rfl rfl (by simp [vb]) rfl fun a hA => 
          stp hA (r_pick_f hA rfl rfl rfl) rfl fun a hA => 
          stp hA (r_mv hA rfl) rfl fun a hA => 
          o_no hA rfl rfl (by simp [vb]) rfl fun a hA => 
          o_no hA rfl rfl (by simp [vb]) rfl fun a hA => 
          o_no hA rfl rfl (by simp [vb]) rfl fun a hA => 
          o_no hA rfl rfl (by simp [vb]) rfl fun a hA => 
          o_no hA rfl rfl (by simp [vb]) rfl fun a hA => 
          stp hA (r_pick_f hA rfl rfl rfl) rfl fun a hA => 
          stp hA (r_as hA rfl) rfl fun a hA => ?_
        refine o_nil ?_
        cases Option.some.inj (bS H)
        exact ⟨hA.sub ⟨rfl, rfl, rfl, rfl, rfl, trivial⟩, hI⟩
    · have hc10 := hc1; have hc1 := of_decide_eq_false hc1; have H := bF H hc1
      refine o_no hA rfl rfl (by rw [hc10]; simp [vb]) rfl fun a hA => 
        o_no hA rfl rfl (by rw [hc10]; simp [vb]) rfl fun a hA => 
        o_no hA rfl rfl (by rw [hc10]; simp [vb]) rfl fun a hA => 
        o_no hA rfl rfl (by rw [hc10]; simp [vb]) rfl fun a hA => 
        o_no hA rfl rfl (by rw [hc10]; simp [vb]) rfl fun a hA => 
        stp hA (r_pick_f hA rfl hc10 rfl) rfl fun a hA => 
        stp hA (r_mv hA rfl) rfl fun a hA => 
        o_no hA rfl rfl (by simp [vb]) rfl fun a hA => 
        o_no hA rfl rfl (by simp [vb]) rfl fun a hA => 
        o_no hA rfl rfl (by simp [vb]) rfl fun a hA => 
        o_no hA rfl rfl (by simp [vb]) rfl fun a hA => 
        o_no hA rfl rfl (by simp [vb]) rfl fun a hA => 
        stp hA (r_pick_f hA rfl rfl rfl) rfl fun a hA => 
        stp hA (r_mv hA rfl) rfl fun a hA => 
        o_no hA rfl rfl (by simp [vb]) rfl fun a hA => 
        o_no hA rfl rfl (by simp [vb]) rfl fun a hA => 
        o_no hA rfl rfl (by simp [vb]) rfl fun a hA => 
        o_no hA rfl rfl (by simp [vb]) rfl fun a hA => 
        o_no hA rfl rfl (by simp [vb]) rfl fun a hA => 
        stp hA (r_pick_f hA rfl rfl rfl) rfl fun a hA => 
        stp hA (r_mv hA rfl) rfl fun a hA => 
        o_no hA rfl rfl (by simp [vb]) rfl fun a hA => 
        o_no hA rfl rfl (by simp [vb]) rfl fun a hA => 
        o_no hA rfl rfl (by simp [vb]) rfl fun a hA => 
        o_no hA rfl rfl (by simp [vb]) rfl fun a hA => 
        o_no hA rfl rfl (by simp [vb]) rfl fun a hA => 
        stp hA (r_pick_f hA rfl rfl rfl) rfl fun a hA => 
        stp hA (r_mv hA rfl) rfl fun a hA => 
        o_no hA rfl rfl (by simp [vb]) rfl fun a hA => 
        o_no hA rfl rfl (by simp [vb]) rfl fun a hA => 
        o_no hA rfl rfl (by simp [vb]) rfl fun a hA => 
        o_no hA rfl rfl (by simp [vb]) rfl fun a hA => 
        o_no hA rfl rfl (by simp [vb]) rfl fun a hA => 
        stp hA (r_pick_f hA rfl rfl rfl) rfl fun a hA => 
        stp hA (r_as hA rfl) rfl fun a hA => ?_
      refine o_nil ?_
      cases Option.some.inj (bS H)
      exact ⟨hA.sub ⟨rfl, rfl, rfl, rfl, rfl, trivial⟩, hI⟩
  · rintro a w ⟨hA, hI⟩
    have H := Hk1
    refine w_ret ?_
    obtain rfl := Option.some.inj (bS H)
    exact ret1 hA Tryd.results66 rfl ⟨_, rfl, rfl, trivial, hI.forget0⟩
end Go.Proofs.YtpeelghbhihgkaaDoor.T
namespace Go.Proofs.YtpeelghbhihgkaaDoor.T
open Go Go.Proofs Go.Proofs.YtpeelghbhihgkaaDoor.K
set_option linter.unusedVariables false
set_option linter.unusedSimpArgs false
def bytes_Clone.f (x0 : List Int) : Option (List Int) := if x0.length ≤ 140737488355328 then some x0 else none
noncomputable def compact_number.s0 (x2 : Int) : ((List Int) × Int × Int) → Option (((List Int) × Int × Int) ⊕ ((List Int) × Int)) := fun (s1, s2, s3) => (if s3 < x2 then (if s1.length + 1 ≤ 140737488355328 then some (.inl (s1 ++ ([IntKind.u8.wrap s2] : List Int), sR .u64 s2 8, IntKind.i64.wrap (s3 + 1))) else none) else some (.inr (s1, s2)))
noncomputable def compact_number.f (x0 : List Int) (x1 : Int) (x2 : Int) : Option (List Int) := ((loopO (compact_number.s0 x2) (x0, x1, 0)).bind fun (c1, c2) => some c1)
noncomputable def compact_Read.f (x0 : List Int) : Option compactReader := ((bytes_Clone.f x0).bind fun r1 => some (⟨r1, 0, (Er.b 0)⟩ : compactReader))
noncomputable def compact_Reader_next.f (x0 : compactReader) (x1 : Int) : Option ((List Int) × compactReader) := (if x0.err ≠ (Er.b 0) then some ([], x0) else (if (IntKind.i64.wrap ((x0.b.length : Int) - x0.at_)) < x1 then some ([], (⟨x0.b, x0.at_, xErrEnd⟩ : compactReader)) else (if 0 ≤ (IntKind.i64.wrap ((IntKind.i64.wrap (x0.at_ + x1)) - x1)) ∧ (IntKind.i64.wrap ((IntKind.i64.wrap (x0.at_ + x1)) - x1)) ≤ (IntKind.i64.wrap (x0.at_ + x1)) ∧ (IntKind.i64.wrap (x0.at_ + x1)) ≤ (x0.b.length : Int) then some ((x0.b.take (IntKind.i64.wrap (x0.at_ + x1)).toNat).drop (IntKind.i64.wrap ((IntKind.i64.wrap (x0.at_ + x1)) - x1)).toNat, (⟨x0.b, IntKind.i64.wrap (x0.at_ + x1), x0.err⟩ : compactReader)) else none)))
noncomputable def compact_Reader_whole.s0 (r1 : (List Int) × compactReader) : (Int × Int) → Option ((Int × Int) ⊕ (Int × (List Int) × Int × Er)) := fun (s1, s2) => (if s2 < (r1.1.length : Int) then (if 0 ≤ s2 ∧ s2 < (r1.1.length : Int) then (if 0 ≤ (IntKind.i64.wrap (8 * s2)) then some (.inl (bOr .u64 s1 (sL .u64 (IntKind.u64.wrap (r1.1.getD s2.toNat 0)) (IntKind.i64.wrap (8 * s2))), IntKind.i64.wrap (s2 + 1))) else none) else none) else some (.inr (s1, r1.2.b, r1.2.at_, r1.2.err)))
noncomputable def compact_Reader_whole.f (x0 : compactReader) (x1 : Int) : Option (Int × compactReader) := ((((compact_Reader_next.f x0 x1).bind fun r1 => loopO (compact_Reader_whole.s0 r1) (0, 0))).bind fun (c1, c2, c3, c4) => some (c1, (⟨c2, c3, c4⟩ : compactReader)))
noncomputable def compact_Reader_Left.f (x0 : compactReader) : Option Int := some (IntKind.i64.wrap ((x0.b.length : Int) - x0.at_))
noncomputable def compact_Reader_Err.f (x0 : compactReader) : Option Er := some x0.err
noncomputable def compact_Four.f (x0 : List Int) (x1 : Int) : Option (List Int) := ((bytes_Clone.f x0).bind fun r1 => ((compact_number.f r1 (IntKind.u64.wrap x1) 4).bind fun r2 => some r2))
noncomputable def compact_Reader_Four.f (x0 : compactReader) : Option (Int × compactReader) := ((compact_Reader_whole.f x0 4).bind fun r1 => some (IntKind.u32.wrap r1.1, r1.2))
noncomputable def compact_Reader_Hash.f (x0 : compactReader) : Option ((List Int) × compactReader) := ((compact_Reader_next.f x0 32).bind fun r1 => some (cpy (List.replicate 32 0) r1.1, r1.2))
end Go.Proofs.YtpeelghbhihgkaaDoor.T
namespace Go.Proofs.YtpeelghbhihgkaaDoor.T
open Go Go.Proofs Go.Proofs.YtpeelghbhihgkaaDoor.K
set_option linter.unusedVariables false
set_option linter.unusedSimpArgs false
set_option maxRecDepth 20000 in
theorem bytes_Clone.c (μ : Store) (w0 : World) (hμ : Agr μ w0) (x0 : List Int) (u0 : Value) (hx0 : Slc (RI .u8) 1 μ u0 x0) (r : List Int) (H : bytes_Clone.f x0 = some r) :
    Calls Tryd.prog 93 [u0].toArray w0 (fun e w' => ∃ v, e = .returned v ∧ ∃ (v0 : Value) (c0 : List Value), v = v0 ∧ Els (RI .u8) 1 r c0 ∧ Iv w0 [] μ μ [row 5 1 v0 r.length c0] w') := by
  obtain ⟨hb, H⟩ := guard_some H
  obtain rfl := Option.some.inj H
  obtain ⟨cs, hE, A, cp, rfl, h2, h3, h4, h5⟩ := hx0
  refine enter Tryd.func93 rfl Tryd.ntmps93 rfl fun a hA => ?_
  have hI := Iv.start hμ
  refine w_seq fun _ hN1 => w_reg (stp hA (r_as hA rfl) rfl fun a hA => o_nil (hN1 _ _ ?_))
  refine w_seq fun _ hN2 => w_seq fun _ hN3 => w_reg (stp hA (r_mv hA rfl) rfl fun a hA => stp hA (r_eqnil Tryd.underlying23 hA rfl rfl) rfl fun a hA => o_nil (hN3 _ _ ?_))
  refine w_cond hA rfl (fun hc => ?_) (fun hc => ?_)
  · have hx : x0 = [] := List.eq_nil_of_length_eq_zero (by
      rcases Nat.eq_zero_or_pos x0.length with h | h
      · exact h
      · rw [h4 (by omega)] at hc; cases hc)
    subst hx
    cases hE
    refine w_seq fun _ hN4 => w_reg (stp hA (r_as hA rfl) rfl fun a hA => o_nil (hN4 _ _ ?_))
    refine w_ret ?_
    have hI := hI.nilRow 5 1
    exact ret1 hA Tryd.results93 rfl ⟨_, rfl, .slice none 0 0, [], rfl, .nil, hI⟩
  · refine w_skip (hN2 _ _ ?_)
    refine w_seq fun _ hN5 => w_reg ?_
    refine o_bsl [] te5 zr5 Tryd.underlying23 hI hA rfl rfl rfl rfl (by kernel_rfl) rfl fun g a w hA hI => ?_
    refine stp hA (r_mv hA rfl) rfl fun a hA => ?_
    refine o_appL (xs := ([] : List Int)) (ys := x0) (j := 0) te5 Tryd.underlying23 hI rfl hA rfl rfl (src_sl hI.agr ⟨A, cp, rfl, h2, h3, h4, h5⟩ hE.len) hE.len (hE.ones (one_RI _)) (by simp only [List.length_nil, maxLen]; omega) (by simp only [List.length_nil]; omega) rfl fun v a w hA hI => ?_
    refine stp hA (r_as hA rfl) rfl fun a hA => o_nil (hN5 _ _ (w_ret ?_))
    exact ret1 hA Tryd.results93 rfl ⟨_, rfl, v, cs, rfl, hE, hI⟩
set_option maxRecDepth 20000 in
theorem compact_number.c (μ : Store) (w0 : World) (hμ : Agr μ w0) (x0 : List Int) (u0 : Value) (k0 : List Value) (hx0 : Els (RI .u8) 1 x0 k0) (ho0 : RowOK μ w0 5 1 u0 x0.length k0) (x1 : Int) (hx1 : InR .u64 x1) (x2 : Int) (hx2 : InR .i64 x2) (r : List Int) (H : compact_number.f x0 x1 x2 = some r) :
    Calls Tryd.prog 94 [u0, .int .u64 x1, .int .i64 x2].toArray w0 (fun e w' => ∃ v, e = .returned v ∧ ∃ (v0 : Value) (c0 : List Value), v = v0 ∧ Els (RI .u8) 1 r c0 ∧ Iv w0 (row 5 1 u0 x0.length k0).foot μ μ [row 5 1 v0 r.length c0] w') := by
  refine enter Tryd.func94 rfl Tryd.ntmps94 rfl fun a hA => ?_
  have hI := ho0.start hμ
  have H := bI H
  refine w_seq fun _ hN1 => ?_
  refine w_reg ?_
  refine stp hA (r_as hA rfl) rfl fun a hA => ?_
  refine o_nil ?_
  refine hN1 _ _ ?_
  obtain ⟨⟨c1, c2⟩, hz1, Hk1⟩ := bB H
  refine w_cut (fun a w => ∃ (vvc1 : Value) (ccc1 : List Value), Els (RI .u8) 1 c1 ccc1 ∧ InR .u64 c2 ∧ Fr a 19 [(0, vvc1), (1, .int .u64 c2), (2, .int .i64 x2), (6, (.slice none 0 0))] ∧ Iv w0 (row 5 1 u0 x0.length k0).foot μ μ [row 5 1 vvc1 c1.length ccc1] w) ?_ ?_
  · have H := bI hz1
    refine w_seq fun _ hN2 => ?_
    refine w_reg ?_
    refine stp hA (r_mv hA rfl) rfl fun a hA => 
      stp hA (r_mv hA rfl) rfl fun a hA => ?_
    refine o_nil ?_
    refine hN2 _ _ ?_
    refine w_block ?_
    obtain ⟨z1, hz2, Hk2⟩ := bind_some H
    obtain ⟨n1, hn1⟩ := loopO_some hz2
    refine w_loop (fun n a w => ∃ (s1 : List Int) (s2 : Int) (s3 : Int) (vvs1 : Value) (ccs1 : List Value), loopN (compact_number.s0 x2) n (s1, s2, s3) = some z1 ∧ Els (RI .u8) 1 s1 ccs1 ∧ InR .u64 s2 ∧ InR .i64 s3 ∧ Fr a 19 [(0, vvs1), (1, .int .u64 s2), (2, .int .i64 x2), (6, (.slice none 0 0)), (7, .int .i64 x2), (8, .int .i64 s3)] ∧ Iv w0 (row 5 1 u0 x0.length k0).foot μ μ [row 5 1 vvs1 s1.length ccs1] w) n1 ⟨x0, x1, 0, u0, k0, hn1, hx0, hx1, (in_lit .i64 0 rfl), hA.sub ⟨rfl, rfl, rfl, rfl, rfl, rfl, trivial⟩, hI⟩ ?_
    clear hA hI
    rintro n a w ⟨s1, s2, s3, vvs1, ccs1, hn1, ws1, ws2, ws3, hA, hI⟩
    obtain ⟨m1, rfl, H⟩ := loopN_bind hn1
    clear hn1
    refine w_seq fun _ hN3 => ?_
    refine w_reg ?_
    refine stp hA (r_lss hA rfl rfl) rfl fun a hA => ?_
    refine o_nil ?_
    refine hN3 _ _ ?_
    refine w_seq fun _ hN4 => ?_
    refine w_cond hA rfl (fun hc1 => ?_) (fun hc1 => ?_)
    · have hc10 := hc1; have hc1 := of_decide_eq_true hc1; have H := bT H hc1
      refine w_skip ?_
      refine hN4 _ _ ?_
      refine w_seq fun _ hN5 => ?_
      refine w_block ?_
      refine w_seq fun _ hN6 => ?_
      refine w_reg ?_
      refine stp hA (r_mv hA rfl) rfl fun a hA => 
        stp hA (r_mv hA rfl) rfl fun a hA => 
        stp hA (r_conv Tryd.underlying22 Tryd.underlying5 hA rfl) rfl fun a hA => ?_
      have hE1 : Els (RI .u8) 1 ([IntKind.u8.wrap s2] : List Int) ([[.int .u8 (IntKind.u8.wrap s2)]].flatten ++ ([])) := (Els.cons (c := [[.int .u8 (IntKind.u8.wrap s2)]].flatten) ⟨rfl, (wrap_in _ _)⟩ rfl Els.nil)
      refine o_bsl ([[.int .u8 (IntKind.u8.wrap s2)]].flatten ++ ([])) te5 zr5 Tryd.underlying23 hI hA rfl rfl rfl rfl (by kernel_rfl) rfl fun g1 a w hA hI => ?_
      generalize hcs : ([[.int .u8 (IntKind.u8.wrap s2)]].flatten ++ ([]) : List Value) = cs1 at hE1 hI
      clear hcs
      obtain ⟨hb1, H⟩ := bG H
      have hE3 := ws1.app hE1
      refine o_appL (xs := (s1 : List Int)) (ys := (([IntKind.u8.wrap s2] : List Int) : List Int)) (j := 1) te5 Tryd.underlying23 hI rfl hA rfl rfl (src_row hI (j := 0) rfl) hE1.len (hE1.ones (one_RI _)) (by first | decide | (have hq := hb1; (try simp only [List.length_cons, List.length_nil] at hq); (try simp only [List.length_cons, List.length_nil]); (try simp only [maxLen]); omega)) (by first | decide | (have hq := hb1; (try simp only [List.length_cons, List.length_nil] at hq); (try simp only [List.length_cons, List.length_nil]); (try simp only [maxLen]); omega)) rfl fun v1 a w hA hI => 
        stp hA (r_as hA rfl) rfl fun a hA => ?_
      refine o_nil ?_
      refine hN6 _ _ ?_
      refine w_reg ?_
      refine stp hA (r_mv hA rfl) rfl fun a hA => 
        stp hA (r_shr hA rfl rfl (by decide)) rfl fun a hA => 
        stp hA (r_as hA rfl) rfl fun a hA => ?_
      refine o_nil ?_
      refine hN5 _ _ ?_
      refine w_reg ?_
      refine stp hA (r_add hA rfl rfl) rfl fun a hA => 
        stp hA (r_mv hA rfl) rfl fun a hA => ?_
      refine o_nil ?_
      exact ⟨m1, Nat.lt_succ_self _, s1 ++ ([IntKind.u8.wrap s2] : List Int), sR .u64 s2 8, IntKind.i64.wrap (s3 + 1), v1, ccs1 ++ cs1, H, hE3, (sR_in rfl ws2 _), (wrap_in _ _), hA.sub ⟨rfl, rfl, rfl, rfl, rfl, rfl, trivial⟩, (hI.sel [1] (by decide) rfl)⟩
    · have hc10 := hc1; have hc1 := of_decide_eq_false hc1; have H := bF H hc1
      refine w_exit rfl ?_
      have H : some (s1, s2) = some z1 := H
      obtain rfl := Option.some.inj H
      have H := Hk2
      cases Option.some.inj (bS H)
      exact ⟨vvs1, ccs1, ws1, ws2, hA.sub ⟨rfl, rfl, rfl, rfl, trivial⟩, hI⟩
  · rintro a w ⟨vvc1, ccc1, wc1, wc2, hA, hI⟩
    have H := Hk1
    refine w_seq fun _ hN7 => ?_
    refine w_reg ?_
    refine stp hA (r_mv hA rfl) rfl fun a hA => 
      stp hA (r_as hA rfl) rfl fun a hA => ?_
    refine o_nil ?_
    refine hN7 _ _ ?_
    refine w_ret ?_
    obtain rfl := Option.some.inj (bS H)
    exact ret1 hA Tryd.results94 rfl ⟨_, rfl, vvc1, ccc1, rfl, wc1, (hI.less (Store.le.refl _) hI.le)⟩
set_option maxRecDepth 20000 in
theorem compact_Read.c (μ : Store) (w0 : World) (hμ : Agr μ w0) (x0 : List Int) (u0 : Value) (hx0 : Slc (RI .u8) 1 μ u0 x0) (r : compactReader) (H : compact_Read.f x0 = some r) :
    Calls Tryd.prog 25 [u0].toArray w0 (fun e w' => ∃ v, e = .returned v ∧ ∃ (gq_1 : Nat) (vp_1 : Value) (vp_2 : Value) (μ' : Store), v = .pointer (some ⟨gq_1, 0, none⟩) ∧ Slc (RI .u8) 1 μ' vp_1 r.b ∧ InR .i64 r.at_ ∧ ErS μ' vp_2 r.err ∧ Iv w0 [] μ μ' [cel gq_1 [[vp_1], [.int .i64 r.at_], [vp_2]] 143] w') := by
  refine enter Tryd.func25 rfl Tryd.ntmps25 rfl fun a hA => ?_
  have hI := Iv.start hμ
  have H := bI H
  refine w_seq fun _ hN1 => ?_
  refine w_reg ?_
  refine stp hA (r_as hA rfl) rfl fun a hA => ?_
  refine o_nil ?_
  refine hN1 _ _ ?_
  refine w_seq fun _ hN2 => ?_
  refine w_reg ?_
  refine stp hA (r_mv hA rfl) rfl fun a hA => ?_
  obtain ⟨r1, hr1, H⟩ := bB H
  refine o_call _ cf93 hA rfl (bytes_Clone.c μ _ hI.agr x0 u0 hx0 r1 hr1) rfl fun v1 a w hz1 hA => ?_
  obtain ⟨_, cs1, rfl, hE1, hi1⟩ := hz1
  have hI := hI.call hi1
  refine stp hA (r_bldS (cs := [[v1], [.int .i64 0], [.nilIface]].flatten.toArray) (pl := [(0, 1), (1, 1), (2, 1)]) zr143 Tryd.underlying143 ⟨rfl, sz23, rfl, sz3, rfl, sz34, trivial⟩ hA rfl ((fill_one (own_cell hI (j := 0) rfl) rfl (by kernel_rfl)).trans (by kernel_rfl))) rfl fun a hA => 
    o_box [[v1], [.int .i64 0], [.nilIface]] hI hA rfl rfl rfl fun g1 a w hA hI hg1 => 
    stp hA (r_as hA rfl) rfl fun a hA => ?_
  refine o_nil ?_
  refine hN2 _ _ ?_
  refine w_ret ?_
  obtain ⟨μ1, hle1, hsv1, hI⟩ := hI.freezeRow 1 rfl
  have hS1 : Slc (RI .u8) 1 μ1 v1 r1 := ⟨_, hE1, hsv1⟩
  obtain rfl := Option.some.inj (bS H)
  exact ret1 hA Tryd.results25 rfl ⟨_, rfl, g1, v1, .nilIface, μ1, rfl, hS1, (in_lit .i64 0 rfl), erv_nil, hI⟩
set_option maxRecDepth 20000 in
theorem compact_Reader_next.c (μ : Store) (w0 : World) (hμ : Agr μ w0) (x0 : compactReader) (vp1 : Value) (vp2 : Value) (g0 : Nat) (hp1 : Slc (RI .u8) 1 μ vp1 x0.b) (hp2 : InR .i64 x0.at_) (hp3 : ErS μ vp2 x0.err) (ho0 : Its μ w0 [cel g0 [[vp1], [.int .i64 x0.at_], [vp2]] 143]) (x1 : Int) (hx1 : InR .i64 x1) (e8 : Value) (he8 : ErS μ e8 (Er.b 9)) (r : (List Int) × compactReader) (H : compact_Reader_next.f x0 x1 = some r) :
    Calls Tryd.prog 97 [.pointer (some ⟨g0, 0, none⟩), .int .i64 x1].toArray w0 (fun e w' => ∃ v, e = .returned v ∧ ∃ (v0 : Value) (vp_1 : Value) (vp_2 : Value) (μ' : Store), v = v0 ∧ Slc (RI .u8) 1 μ' v0 (r.1) ∧ Slc (RI .u8) 1 μ' vp_1 (r.2).b ∧ InR .i64 (r.2).at_ ∧ ErS μ' vp_2 (r.2).err ∧ Iv w0 (many [cel g0 [[vp1], [.int .i64 x0.at_], [vp2]] 143]).foot μ μ' [cel g0 [[vp_1], [.int .i64 ((r.2).at_)], [vp_2]] 143] w') := by
  refine enter Tryd.func97 rfl Tryd.ntmps97 rfl fun a hA => ?_
  have hI := Iv.startN hμ ho0
  have H := bI H
  refine w_seq fun _ hN1 => ?_
  refine w_reg ?_
  refine stp hA (r_as hA rfl) rfl fun a hA => ?_
  refine o_nil ?_
  refine hN1 _ _ ?_
  refine w_seq fun _ hN2 => ?_
  refine w_seq fun _ hN3 => ?_
  refine w_reg ?_
  refine stp hA (r_mv hA rfl) rfl fun a hA => 
    stp hA (r_nilc hA rfl) rfl fun a hA => 
    stp hA (r_fd (k := 2) Tryd.underlying143 rfl sz34 hA rfl rfl) rfl fun a hA => 
    stp hA (r_ld1 (j := 0) [[vp1], [.int .i64 x0.at_]] [] Tryd.underlying34 rfl hI rfl hA rfl rfl) rfl fun a hA => 
    stp hA (r_neE erF hI.agr hp3 erv_nil (.inl ⟨.inr ⟨_, rfl⟩, Er.fitR⟩) hA rfl rfl) rfl fun a hA => ?_
  refine o_nil ?_
  refine hN3 _ _ ?_
  refine w_cond hA rfl (fun hc1 => ?_) (fun hc1 => ?_)
  · have hc10 := hc1; have hc1 := of_decide_eq_true hc1; have H := bT H hc1
    refine w_seq fun _ hN4 => ?_
    refine w_reg ?_
    refine stp hA (r_as hA rfl) rfl fun a hA => ?_
    refine o_nil ?_
    refine hN4 _ _ ?_
    refine w_ret ?_
    obtain rfl := Option.some.inj (bS H)
    exact ret1 hA Tryd.results97 rfl ⟨_, rfl, (.slice none 0 0), vp1, vp2, μ, rfl, (slc_nil _ _ _), hp1, hp2, hp3, hI⟩
  · have hc10 := hc1; have hc1 := of_decide_eq_false hc1; have H := bF H hc1
    refine w_skip ?_
    refine hN2 _ _ ?_
    refine w_seq fun _ hN5 => ?_
    refine w_seq fun _ hN6 => ?_
    refine w_draw mo (by kernel_rfl) hI ?_
    refine qtp hA (fun _ hI => r_mv hA rfl) rfl fun a hA => 
      qtp hA (fun _ hI => r_mv hA rfl) rfl fun a hA => 
      qtp hA (fun _ hI => r_nilc hA rfl) rfl fun a hA => 
      qtp hA (fun _ hI => r_fd (k := 0) Tryd.underlying143 rfl sz23 hA rfl rfl) rfl fun a hA => 
      qtp hA (fun _ hI => r_ld1 (j := 0) [] [[.int .i64 x0.at_], [vp2]] Tryd.underlying23 rfl hI rfl hA rfl rfl) rfl fun a hA => ?_
    obtain ⟨_, hsl1⟩ := Slc.sv hp1
    refine qtp hA (fun _ hI => r_slen Tryd.underlying23 hsl1 hA rfl) rfl fun a hA => 
      qtp hA (fun _ hI => r_mv hA rfl) rfl fun a hA => 
      qtp hA (fun _ hI => r_nilc hA rfl) rfl fun a hA => 
      qtp hA (fun _ hI => r_fd (k := 1) Tryd.underlying143 rfl sz3 hA rfl rfl) rfl fun a hA => 
      qtp hA (fun _ hI => r_ld1 (j := 0) [[vp1]] [[vp2]] Tryd.underlying3 rfl hI rfl hA rfl rfl) rfl fun a hA => 
      qtp hA (fun _ hI => r_sub hA rfl rfl) rfl fun a hA => 
      qtp hA (fun _ hI => r_gtr hA rfl rfl) rfl fun a hA => ?_
    refine q_nil fun w hI => ?_
    refine hN6 _ _ ?_
    refine w_cond hA rfl (fun hc2 => ?_) (fun hc2 => ?_)
    · have hc20 := hc2; have hc2 := of_decide_eq_true hc2; have H := bT H hc2
      refine w_seq fun _ hN7 => ?_
      refine w_reg ?_
      refine stp hA (r_mv hA rfl) rfl fun a hA => 
        stp hA (r_ldG Tryd.underlying34 rfl hI.agr he8 hA) rfl fun a hA => 
        stp hA (r_nilc hA rfl) rfl fun a hA => 
        stp hA (r_fd (k := 2) Tryd.underlying143 rfl sz34 hA rfl rfl) rfl fun a hA => ?_
      have hsc : ErS μ e8 xErrEnd := he8
      refine o_st (j := 0) [[vp1], [.int .i64 x0.at_]] [[vp2]] [[e8]] [] sz34 rfl rfl (by intro c hc; simp at hc; subst hc; exact ErV.one hsc) hI rfl hA rfl rfl (cells_err hsc) rfl fun w hI => ?_
      refine o_nil ?_
      refine hN7 _ _ ?_
      refine w_seq fun _ hN8 => ?_
      refine w_reg ?_
      refine stp hA (r_as hA rfl) rfl fun a hA => ?_
      refine o_nil ?_
      refine hN8 _ _ ?_
      refine w_ret ?_
      obtain rfl := Option.some.inj (bS H)
      exact ret1 hA Tryd.results97 rfl ⟨_, rfl, (.slice none 0 0), vp1, e8, μ, rfl, (slc_nil _ _ _), hp1, hp2, he8, hI⟩
    · have hc20 := hc2; have hc2 := of_decide_eq_false hc2; have H := bF H hc2
      refine w_skip ?_
      refine hN5 _ _ ?_
      refine w_seq fun _ hN9 => ?_
      refine w_reg ?_
      refine stp hA (r_mv hA rfl) rfl fun a hA => 
        stp hA (r_nilc hA rfl) rfl fun a hA => 
        stp hA (r_fd (k := 1) Tryd.underlying143 rfl sz3 hA rfl rfl) rfl fun a hA => 
        stp hA (r_ld1 (j := 0) [[vp1]] [[vp2]] Tryd.underlying3 rfl hI rfl hA rfl rfl) rfl fun a hA => 
        stp hA (r_mv hA rfl) rfl fun a hA => 
        stp hA (r_add hA rfl rfl) rfl fun a hA => 
        stp hA (r_nilc hA rfl) rfl fun a hA => 
        stp hA (r_fd (k := 1) Tryd.underlying143 rfl sz3 hA rfl rfl) rfl fun a hA => 
        o_st (j := 0) [[vp1]] [[.int .i64 x0.at_]] [[.int .i64 (IntKind.i64.wrap (x0.at_ + x1))]] [[vp2]] sz3 rfl rfl (fl_cons (one_one rfl) fl_nil) hI rfl hA rfl rfl rfl rfl fun w hI => ?_
      refine o_nil ?_
      refine hN9 _ _ ?_
      refine w_seq fun _ hN10 => ?_
      refine w_draw mo (by kernel_rfl) hI ?_
      refine qtp hA (fun _ hI => r_mv hA rfl) rfl fun a hA => 
        qtp hA (fun _ hI => r_nilc hA rfl) rfl fun a hA => 
        qtp hA (fun _ hI => r_fd (k := 0) Tryd.underlying143 rfl sz23 hA rfl rfl) rfl fun a hA => 
        qtp hA (fun _ hI => r_ld1 (j := 0) [] [[.int .i64 (IntKind.i64.wrap (x0.at_ + x1))], [vp2]] Tryd.underlying23 rfl hI rfl hA rfl rfl) rfl fun a hA => 
        qtp hA (fun _ hI => r_mv hA rfl) rfl fun a hA => 
        qtp hA (fun _ hI => r_nilc hA rfl) rfl fun a hA => 
        qtp hA (fun _ hI => r_fd (k := 1) Tryd.underlying143 rfl sz3 hA rfl rfl) rfl fun a hA => 
        qtp hA (fun _ hI => r_ld1 (j := 0) [[vp1]] [[vp2]] Tryd.underlying3 rfl hI rfl hA rfl rfl) rfl fun a hA => 
        qtp hA (fun _ hI => r_mv hA rfl) rfl fun a hA => 
        qtp hA (fun _ hI => r_sub hA rfl rfl) rfl fun a hA => 
        qtp hA (fun _ hI => r_mv hA rfl) rfl fun a hA => 
        qtp hA (fun _ hI => r_nilc hA rfl) rfl fun a hA => 
        qtp hA (fun _ hI => r_fd (k := 1) Tryd.underlying143 rfl sz3 hA rfl rfl) rfl fun a hA => 
        qtp hA (fun _ hI => r_ld1 (j := 0) [[vp1]] [[vp2]] Tryd.underlying3 rfl hI rfl hA rfl rfl) rfl fun a hA => ?_
      obtain ⟨hb1, H⟩ := bG H
      obtain ⟨v1, hS1, hr1⟩ := r_sl (P := Tryd.prog) (t := 23) (x := .tmp 37) (l := (some (.tmp 43))) (h := (some (.tmp 47))) (i := IntKind.i64.wrap ((IntKind.i64.wrap (x0.at_ + x1)) - x1)) (j := IntKind.i64.wrap (x0.at_ + x1)) Tryd.underlying23 sz5 hp1 hA rfl rfl rfl (by have hq := hb1; omega) (by have hq := hb1; omega) (by have hq := hb1; omega)
      refine qtp hA (fun _ hI => hr1 _ _ _ _ _ _) rfl fun a hA => 
        qtp hA (fun _ hI => r_as hA rfl) rfl fun a hA => ?_
      refine q_nil fun w hI => ?_
      refine hN10 _ _ ?_
      refine w_ret ?_
      obtain rfl := Option.some.inj (bS H)
      exact ret1 hA Tryd.results97 rfl ⟨_, rfl, v1, vp1, vp2, μ, rfl, hS1, hp1, (wrap_in _ _), hp3, hI⟩
set_option maxRecDepth 20000 in
theorem compact_Reader_whole.c (μ : Store) (w0 : World) (hμ : Agr μ w0) (x0 : compactReader) (vp1 : Value) (vp2 : Value) (g0 : Nat) (hp1 : Slc (RI .u8) 1 μ vp1 x0.b) (hp2 : InR .i64 x0.at_) (hp3 : ErS μ vp2 x0.err) (ho0 : Its μ w0 [cel g0 [[vp1], [.int .i64 x0.at_], [vp2]] 143]) (x1 : Int) (hx1 : InR .i64 x1) (e8 : Value) (he8 : ErS μ e8 (Er.b 9)) (r : Int × compactReader) (H : compact_Reader_whole.f x0 x1 = some r) :
    Calls Tryd.prog 95 [.pointer (some ⟨g0, 0, none⟩), .int .i64 x1].toArray w0 (fun e w' => ∃ v, e = .returned v ∧ ∃ (vp_1 : Value) (vp_2 : Value) (μ' : Store), v = .int .u64 (r.1) ∧ InR .u64 (r.1) ∧ Slc (RI .u8) 1 μ' vp_1 (r.2).b ∧ InR .i64 (r.2).at_ ∧ ErS μ' vp_2 (r.2).err ∧ Iv w0 (many [cel g0 [[vp1], [.int .i64 x0.at_], [vp2]] 143]).foot μ μ' [cel g0 [[vp_1], [.int .i64 ((r.2).at_)], [vp_2]] 143] w') := by
  refine enter Tryd.func95 rfl Tryd.ntmps95 rfl fun a hA => ?_
  have hI := Iv.startN hμ ho0
  have H := bI H
  refine w_seq fun _ hN1 => ?_
  refine w_reg ?_
  refine stp hA (r_as hA rfl) rfl fun a hA => ?_
  refine o_nil ?_
  refine hN1 _ _ ?_
  refine w_seq fun _ hN2 => ?_
  refine w_reg ?_
  refine stp hA (r_as hA rfl) rfl fun a hA => ?_
  refine o_nil ?_
  refine hN2 _ _ ?_
  obtain ⟨⟨c1, c2, c3, c4⟩, hz1, Hk1⟩ := bB H
  refine w_cut (fun a w => ∃ (μ1 : Store) (vvc2 : Value) (vvc4 : Value), μ.le μ1 ∧ InR .u64 c1 ∧ Slc (RI .u8) 1 μ1 vvc2 c2 ∧ InR .i64 c3 ∧ ErS μ1 vvc4 c4 ∧ Fr a 26 [(0, .pointer (some ⟨g0, 0, none⟩)), (1, .int .i64 x1), (4, .int .u64 0), (5, .int .u64 c1)] ∧ Iv w0 (many [cel g0 [[vp1], [.int .i64 x0.at_], [vp2]] 143]).foot μ μ1 [cel g0 [[vvc2], [.int .i64 c3], [vvc4]] 143] w) ?_ ?_
  · have H := bI hz1
    refine w_seq fun _ hN3 => ?_
    refine w_reg ?_
    refine stp hA (r_mv hA rfl) rfl fun a hA => 
      stp hA (r_mv hA rfl) rfl fun a hA => ?_
    obtain ⟨r1, hr1, H⟩ := bB H
    refine o_call _ cf97 hA rfl (compact_Reader_next.c μ _ hI.agr x0 vp1 vp2 g0 hp1 hp2 hp3 (hI.handN 1) x1 hx1 e8 he8 r1 hr1) rfl fun v1 a w hz2 hA => ?_
    obtain ⟨_, vp3, vp4, μ2, rfl, hS1, hp4, hp5, hp6, hi1⟩ := hz2
    have hI := hI.backN 1 hi1
    have hI : Iv w0 (many [cel g0 [[vp1], [.int .i64 x0.at_], [vp2]] 143]).foot μ μ2 [cel g0 [[vp3], [.int .i64 r1.2.at_], [vp4]] 143] w := hI
    obtain ⟨_, hsl1⟩ := Slc.sv hS1
    refine stp hA (r_slen Tryd.underlying23 hsl1 hA rfl) rfl fun a hA => 
      stp hA (r_mv hA rfl) rfl fun a hA => ?_
    refine o_nil ?_
    refine hN3 _ _ ?_
    refine w_block ?_
    obtain ⟨z1, hz3, Hk2⟩ := bind_some H
    obtain ⟨n1, hn1⟩ := loopO_some hz3
    refine w_loop (fun n a w => ∃ (s1 : Int) (s2 : Int), loopN (compact_Reader_whole.s0 r1) n (s1, s2) = some z1 ∧ InR .u64 s1 ∧ InR .i64 s2 ∧ Fr a 26 [(0, .pointer (some ⟨g0, 0, none⟩)), (1, .int .i64 x1), (4, .int .u64 0), (5, .int .u64 s1), (10, v1), (11, .int .i64 (r1.1.length : Int)), (12, .int .i64 s2)] ∧ Iv w0 (many [cel g0 [[vp1], [.int .i64 x0.at_], [vp2]] 143]).foot μ μ2 [cel g0 [[vp3], [.int .i64 r1.2.at_], [vp4]] 143] w) n1 ⟨0, 0, hn1, (in_lit .u64 0 rfl), (in_lit .i64 0 rfl), hA.sub ⟨rfl, rfl, rfl, rfl, rfl, rfl, rfl, trivial⟩, hI⟩ ?_
    clear hA hI
    rintro n a w ⟨s1, s2, hn1, ws1, ws2, hA, hI⟩
    obtain ⟨m1, rfl, H⟩ := loopN_bind hn1
    clear hn1
    refine w_seq fun _ hN4 => ?_
    refine w_reg ?_
    refine stp hA (r_lss hA rfl rfl) rfl fun a hA => ?_
    refine o_nil ?_
    refine hN4 _ _ ?_
    refine w_seq fun _ hN5 => ?_
    refine w_cond hA rfl (fun hc1 => ?_) (fun hc1 => ?_)
    · have hc10 := hc1; have hc1 := of_decide_eq_true hc1; have H := bT H hc1
      refine w_skip ?_
      refine hN5 _ _ ?_
      refine w_seq fun _ hN6 => ?_
      refine w_block ?_
      refine w_seq fun _ hN7 => ?_
      refine w_reg ?_
      refine stp hA (r_mv hA rfl) rfl fun a hA => ?_
      obtain ⟨hb1, H⟩ := bG H
      obtain ⟨_, he1, _, hat1⟩ := Slc.elem1 hS1 (getD_some 0 hb1.1 hb1.2)
      obtain ⟨rfl, hw1⟩ := he1
      obtain ⟨_, hsl2⟩ := Slc.sv hS1
      refine stp hA (r_six1 Tryd.underlying23 sz5 hsl2 hA rfl rfl hb1.1 hb1.2) rfl fun a hA => 
        stp hA (r_ldm1 [] [] Tryd.underlying5 rfl hI.agr hat1 hA rfl rfl) rfl fun a hA => 
        stp hA (r_as hA rfl) rfl fun a hA => 
        stp hA (r_as hA rfl) rfl fun a hA => ?_
      refine o_nil ?_
      refine hN7 _ _ ?_
      refine w_reg ?_
      refine stp hA (r_mv hA rfl) rfl fun a hA => 
        stp hA (r_mv hA rfl) rfl fun a hA => 
        stp hA (r_conv Tryd.underlying5 Tryd.underlying22 hA rfl) rfl fun a hA => 
        stp hA (r_mv hA rfl) rfl fun a hA => 
        stp hA (r_mul hA rfl rfl) rfl fun a hA => ?_
      obtain ⟨hb2, H⟩ := bG H
      refine stp hA (r_shl hA rfl rfl hb2) rfl fun a hA => 
        stp hA (r_or hA rfl rfl) rfl fun a hA => 
        stp hA (r_as hA rfl) rfl fun a hA => ?_
      refine o_nil ?_
      refine hN6 _ _ ?_
      refine w_reg ?_
      refine stp hA (r_add hA rfl rfl) rfl fun a hA => 
        stp hA (r_mv hA rfl) rfl fun a hA => ?_
      refine o_nil ?_
      exact ⟨m1, Nat.lt_succ_self _, bOr .u64 s1 (sL .u64 (IntKind.u64.wrap (r1.1.getD s2.toNat 0)) (IntKind.i64.wrap (8 * s2))), IntKind.i64.wrap (s2 + 1), H, (wrap_in _ _), (wrap_in _ _), hA.sub ⟨rfl, rfl, rfl, rfl, rfl, rfl, rfl, trivial⟩, hI⟩
    · have hc10 := hc1; have hc1 := of_decide_eq_false hc1; have H := bF H hc1
      refine w_exit rfl ?_
      have H : some (s1, r1.2.b, r1.2.at_, r1.2.err) = some z1 := H
      obtain rfl := Option.some.inj H
      have H := Hk2
      cases Option.some.inj (bS H)
      exact ⟨μ2, vp3, vp4, hi1.le, ws1, hp4, hp5, hp6, hA.sub ⟨rfl, rfl, rfl, rfl, trivial⟩, hI⟩
  · rintro a w ⟨μ1, vvc2, vvc4, hle1, wc1, wc2, wc3, wc4, hA, hI⟩
    have H := Hk1
    refine w_seq fun _ hN8 => ?_
    refine w_reg ?_
    refine stp hA (r_mv hA rfl) rfl fun a hA => 
      stp hA (r_as hA rfl) rfl fun a hA => ?_
    refine o_nil ?_
    refine hN8 _ _ ?_
    refine w_ret ?_
    obtain rfl := Option.some.inj (bS H)
    exact ret1 hA Tryd.results95 rfl ⟨_, rfl, vvc2, vvc4, μ1, rfl, wc1, wc2, wc3, wc4, hI⟩
set_option maxRecDepth 20000 in
theorem compact_Reader_Left.c (μ : Store) (w0 : World) (hμ : Agr μ w0) (x0 : compactReader) (vp1 : Value) (vp2 : Value) (g0 : Nat) (hp1 : Slc (RI .u8) 1 μ vp1 x0.b) (hp2 : InR .i64 x0.at_) (hp3 : ErS μ vp2 x0.err) (ho0 : Its μ w0 [cel g0 [[vp1], [.int .i64 x0.at_], [vp2]] 143]) (r : Int) (H : compact_Reader_Left.f x0 = some r) :
    Calls Tryd.prog 28 [.pointer (some ⟨g0, 0, none⟩)].toArray w0 (fun e w' => ∃ v, e = .returned v ∧ v = .int .i64 r ∧ InR .i64 r ∧ Iv w0 (many [cel g0 [[vp1], [.int .i64 x0.at_], [vp2]] 143]).foot μ μ [cel g0 [[vp1], [.int .i64 x0.at_], [vp2]] 143] w') := by
  refine enter Tryd.func28 rfl Tryd.ntmps28 rfl fun a hA => ?_
  have hI := Iv.startN hμ ho0
  have H := bI H
  refine w_seq fun _ hN1 => ?_
  refine w_reg ?_
  refine stp hA (r_as hA rfl) rfl fun a hA => ?_
  refine o_nil ?_
  refine hN1 _ _ ?_
  refine w_seq fun _ hN2 => ?_
  refine w_draw mo (by kernel_rfl) hI ?_
  refine qtp hA (fun _ hI => r_mv hA rfl) rfl fun a hA => 
    qtp hA (fun _ hI => r_nilc hA rfl) rfl fun a hA => 
    qtp hA (fun _ hI => r_fd (k := 0) Tryd.underlying143 rfl sz23 hA rfl rfl) rfl fun a hA => 
    qtp hA (fun _ hI => r_ld1 (j := 0) [] [[.int .i64 x0.at_], [vp2]] Tryd.underlying23 rfl hI rfl hA rfl rfl) rfl fun a hA => ?_
  obtain ⟨_, hsl1⟩ := Slc.sv hp1
  refine qtp hA (fun _ hI => r_slen Tryd.underlying23 hsl1 hA rfl) rfl fun a hA => 
    qtp hA (fun _ hI => r_mv hA rfl) rfl fun a hA => 
    qtp hA (fun _ hI => r_nilc hA rfl) rfl fun a hA => 
    qtp hA (fun _ hI => r_fd (k := 1) Tryd.underlying143 rfl sz3 hA rfl rfl) rfl fun a hA => 
    qtp hA (fun _ hI => r_ld1 (j := 0) [[vp1]] [[vp2]] Tryd.underlying3 rfl hI rfl hA rfl rfl) rfl fun a hA => 
    qtp hA (fun _ hI => r_sub hA rfl rfl) rfl fun a hA => 
    qtp hA (fun _ hI => r_as hA rfl) rfl fun a hA => ?_
  refine q_nil fun w hI => ?_
  refine hN2 _ _ ?_
  refine w_ret ?_
  obtain rfl := Option.some.inj (bS H)
  exact ret1 hA Tryd.results28 rfl ⟨_, rfl, rfl, (wrap_in _ _), (hI.less (Store.le.refl _) hI.le)⟩
set_option maxRecDepth 20000 in
theorem compact_Reader_Err.c (μ : Store) (w0 : World) (hμ : Agr μ w0) (x0 : compactReader) (vp1 : Value) (vp2 : Value) (g0 : Nat) (hp1 : Slc (RI .u8) 1 μ vp1 x0.b) (hp2 : InR .i64 x0.at_) (hp3 : ErS μ vp2 x0.err) (ho0 : Its μ w0 [cel g0 [[vp1], [.int .i64 x0.at_], [vp2]] 143]) (r : Er) (H : compact_Reader_Err.f x0 = some r) :
    Calls Tryd.prog 30 [.pointer (some ⟨g0, 0, none⟩)].toArray w0 (fun e w' => ∃ v, e = .returned v ∧ ∃ (v0 : Value) (μ' : Store), v = v0 ∧ ErS μ' v0 r ∧ Iv w0 (many [cel g0 [[vp1], [.int .i64 x0.at_], [vp2]] 143]).foot μ μ' [cel g0 [[vp1], [.int .i64 x0.at_], [vp2]] 143] w') := by
  refine enter Tryd.func30 rfl Tryd.ntmps30 rfl fun a hA => ?_
  have hI := Iv.startN hμ ho0
  have H := bI H
  refine w_seq fun _ hN1 => ?_
  refine w_reg ?_
  refine stp hA (r_as hA rfl) rfl fun a hA => ?_
  refine o_nil ?_
  refine hN1 _ _ ?_
  refine w_seq fun _ hN2 => ?_
  refine w_reg ?_
  refine stp hA (r_mv hA rfl) rfl fun a hA => 
    stp hA (r_nilc hA rfl) rfl fun a hA => 
    stp hA (r_fd (k := 2) Tryd.underlying143 rfl sz34 hA rfl rfl) rfl fun a hA => 
    stp hA (r_ld1 (j := 0) [[vp1], [.int .i64 x0.at_]] [] Tryd.underlying34 rfl hI rfl hA rfl rfl) rfl fun a hA => 
    stp hA (r_as hA rfl) rfl fun a hA => ?_
  refine o_nil ?_
  refine hN2 _ _ ?_
  refine w_ret ?_
  obtain rfl := Option.some.inj (bS H)
  exact ret1 hA Tryd.results30 rfl ⟨_, rfl, vp2, μ, rfl, hp3, hI⟩
set_option maxRecDepth 20000 in
theorem compact_Four.c (μ : Store) (w0 : World) (hμ : Agr μ w0) (x0 : List Int) (u0 : Value) (hx0 : Slc (RI .u8) 1 μ u0 x0) (x1 : Int) (hx1 : InR .u32 x1) (r : List Int) (H : compact_Four.f x0 x1 = some r) :
    Calls Tryd.prog 32 [u0, .int .u32 x1].toArray w0 (fun e w' => ∃ v, e = .returned v ∧ ∃ (v0 : Value) (c0 : List Value), v = v0 ∧ Els (RI .u8) 1 r c0 ∧ Iv w0 [] μ μ [row 5 1 v0 r.length c0] w') := by
  refine enter Tryd.func32 rfl Tryd.ntmps32 rfl fun a hA => ?_
  have hI := Iv.start hμ
  have H := bI H
  refine w_seq fun _ hN1 => ?_
  refine w_reg ?_
  refine stp hA (r_as hA rfl) rfl fun a hA => ?_
  refine o_nil ?_
  refine hN1 _ _ ?_
  refine w_seq fun _ hN2 => ?_
  refine w_reg ?_
  refine stp hA (r_mv hA rfl) rfl fun a hA => ?_
  obtain ⟨r1, hr1, H⟩ := bB H
  refine o_call _ cf93 hA rfl (bytes_Clone.c μ _ hI.agr x0 u0 hx0 r1 hr1) rfl fun v1 a w hz1 hA => ?_
  obtain ⟨_, cs1, rfl, hE1, hi1⟩ := hz1
  have hI := hI.call hi1
  refine stp hA (r_mv hA rfl) rfl fun a hA => 
    stp hA (r_conv Tryd.underlying39 Tryd.underlying22 hA rfl) rfl fun a hA => ?_
  obtain ⟨r2, hr2, H⟩ := bB H
  refine o_call _ cf94 hA rfl (compact_number.c μ _ hI.agr r1 v1 cs1 hE1 (hI.item (j := 0) rfl) (IntKind.u64.wrap x1) (wrap_in _ _) 4 (in_lit .i64 4 rfl) r2 hr2) rfl fun v2 a w hz2 hA => ?_
  obtain ⟨_, cs2, rfl, hE2, hi2⟩ := hz2
  have hI := hI.call1 0 rfl hi2
  refine stp hA (r_as hA rfl) rfl fun a hA => ?_
  refine o_nil ?_
  refine hN2 _ _ ?_
  refine w_ret ?_
  obtain rfl := Option.some.inj (bS H)
  exact ret1 hA Tryd.results32 rfl ⟨_, rfl, v2, cs2, rfl, hE2, (hI.less (Store.le.refl _) hI.le)⟩
set_option maxRecDepth 20000 in
theorem compact_Reader_Four.c (μ : Store) (w0 : World) (hμ : Agr μ w0) (x0 : compactReader) (vp1 : Value) (vp2 : Value) (g0 : Nat) (hp1 : Slc (RI .u8) 1 μ vp1 x0.b) (hp2 : InR .i64 x0.at_) (hp3 : ErS μ vp2 x0.err) (ho0 : Its μ w0 [cel g0 [[vp1], [.int .i64 x0.at_], [vp2]] 143]) (e8 : Value) (he8 : ErS μ e8 (Er.b 9)) (r : Int × compactReader) (H : compact_Reader_Four.f x0 = some r) :
    Calls Tryd.prog 35 [.pointer (some ⟨g0, 0, none⟩)].toArray w0 (fun e w' => ∃ v, e = .returned v ∧ ∃ (vp_1 : Value) (vp_2 : Value) (μ' : Store), v = .int .u32 (r.1) ∧ InR .u32 (r.1) ∧ Slc (RI .u8) 1 μ' vp_1 (r.2).b ∧ InR .i64 (r.2).at_ ∧ ErS μ' vp_2 (r.2).err ∧ Iv w0 (many [cel g0 [[vp1], [.int .i64 x0.at_], [vp2]] 143]).foot μ μ' [cel g0 [[vp_1], [.int .i64 ((r.2).at_)], [vp_2]] 143] w') := by
  refine enter Tryd.func35 rfl Tryd.ntmps35 rfl fun a hA => ?_
  have hI := Iv.startN hμ ho0
  have H := bI H
  refine w_seq fun _ hN1 => ?_
  refine w_reg ?_
  refine stp hA (r_as hA rfl) rfl fun a hA => ?_
  refine o_nil ?_
  refine hN1 _ _ ?_
  refine w_seq fun _ hN2 => ?_
  refine w_reg ?_
  refine stp hA (r_mv hA rfl) rfl fun a hA => ?_
  obtain ⟨r1, hr1, H⟩ := bB H
  refine o_call _ cf95 hA rfl (compact_Reader_whole.c μ _ hI.agr x0 vp1 vp2 g0 hp1 hp2 hp3 (hI.handN 1) 4 (in_lit .i64 4 rfl) e8 he8 r1 hr1) rfl fun v1 a w hz1 hA => ?_
  obtain ⟨vp3, vp4, μ1, rfl, hw1, hp4, hp5, hp6, hi1⟩ := hz1
  have hI := hI.backN 1 hi1
  have hI : Iv w0 (many [cel g0 [[vp1], [.int .i64 x0.at_], [vp2]] 143]).foot μ μ1 [cel g0 [[vp3], [.int .i64 r1.2.at_], [vp4]] 143] w := hI
  refine stp hA (r_conv Tryd.underlying22 Tryd.underlying39 hA rfl) rfl fun a hA => 
    stp hA (r_as hA rfl) rfl fun a hA => ?_
  refine o_nil ?_
  refine hN2 _ _ ?_
  refine w_ret ?_
  obtain rfl := Option.some.inj (bS H)
  exact ret1 hA Tryd.results35 rfl ⟨_, rfl, vp3, vp4, μ1, rfl, (wrap_in _ _), hp4, hp5, hp6, hI⟩
set_option maxRecDepth 20000 in
theorem compact_Reader_Hash.c (μ : Store) (w0 : World) (hμ : Agr μ w0) (x0 : compactReader) (vp1 : Value) (vp2 : Value) (g0 : Nat) (hp1 : Slc (RI .u8) 1 μ vp1 x0.b) (hp2 : InR .i64 x0.at_) (hp3 : ErS μ vp2 x0.err) (ho0 : Its μ w0 [cel g0 [[vp1], [.int .i64 x0.at_], [vp2]] 143]) (e8 : Value) (he8 : ErS μ e8 (Er.b 9)) (r : (List Int) × compactReader) (H : compact_Reader_Hash.f x0 = some r) :
    Calls Tryd.prog 42 [.pointer (some ⟨g0, 0, none⟩)].toArray w0 (fun e w' => ∃ v, e = .returned v ∧ ∃ (vp_1 : Value) (vp_2 : Value) (μ' : Store), v = .agg [av .u8 32 (r.1)].flatten.toArray ∧ Arr .u8 32 (r.1) ∧ Slc (RI .u8) 1 μ' vp_1 (r.2).b ∧ InR .i64 (r.2).at_ ∧ ErS μ' vp_2 (r.2).err ∧ Iv w0 (many [cel g0 [[vp1], [.int .i64 x0.at_], [vp2]] 143]).foot μ μ' [cel g0 [[vp_1], [.int .i64 ((r.2).at_)], [vp_2]] 143] w') := by
  refine enter Tryd.func42 rfl Tryd.ntmps42 rfl fun a hA => ?_
  have hI := Iv.startN hμ ho0
  have H := bI H
  refine w_seq fun _ hN1 => ?_
  refine w_reg ?_
  refine o_new [av .u8 32 (List.replicate 32 0)] zr55 hI hA rfl fun g1 a w hA hI hg1 => ?_
  refine o_nil ?_
  refine hN1 _ _ ?_
  refine w_seq fun _ hN2 => ?_
  refine w_reg ?_
  refine o_new [av .u8 32 (List.replicate 32 0)] zr55 hI hA rfl fun g2 a w hA hI hg2 => ?_
  refine o_nil ?_
  refine hN2 _ _ ?_
  refine w_seq fun _ hN3 => ?_
  refine w_any [2, 3] mo hI fun w hI => ?_
  refine g_easy (i := 0) hA rfl rfl (by kernel_rfl) (.inr hI) (fun _ => r_slv (i := 0) (j := 32) Tryd.underlying55 sz5 hA rfl rfl rfl (by decide) (by decide) (by decide) (by decide) rfl) rfl fun a hA => ?_
  refine g_easy (i := 1) hA rfl rfl (by kernel_rfl) (.inr hI) (fun _ => r_mv hA rfl) rfl fun a hA => ?_
  refine g_forced (i := 2) rfl (by kernel_rfl) ?_
  obtain ⟨r1, hr1, H⟩ := bB H
  have hI := hI.sel [2, 0, 1] (by decide) rfl
  refine o_call _ cf97 hA rfl (compact_Reader_next.c μ _ hI.agr x0 vp1 vp2 g0 hp1 hp2 hp3 (hI.handN 1) 32 (in_lit .i64 32 rfl) e8 he8 r1 hr1) rfl fun v1 a w hz1 hA => ?_
  obtain ⟨_, vp3, vp4, μ1, rfl, hS1, hp4, hp5, hp6, hi1⟩ := hz1
  have hI := hI.backN 1 hi1
  have hI : Iv w0 (many [cel g0 [[vp1], [.int .i64 x0.at_], [vp2]] 143]).foot μ μ1 [cel g0 [[vp3], [.int .i64 r1.2.at_], [vp4]] 143, cel g2 [av .u8 32 (List.replicate 32 0)] 55, cel g1 [av .u8 32 (List.replicate 32 0)] 55] w := hI
  refine o_nil ?_
  refine ⟨(.inl (by kernel_rfl)), ?_⟩
  refine g_forced (i := 3) rfl (by kernel_rfl) ?_
  have hz2 : Slc (RI .u8) 1 μ1 v1 r1.1 := hS1
  refine o_cpy (j := 1) [] [] Tryd.underlying23 sz5 (arr_zero _ _) hz2 hI rfl rfl hA rfl rfl rfl fun a w hI hA => ?_
  refine o_nil ?_
  refine ⟨(.inl (by kernel_rfl)), ?_⟩
  refine g_nil (by kernel_rfl) ?_
  refine hN3 _ _ ?_
  refine w_seq fun _ hN4 => ?_
  refine w_reg ?_
  refine stp hA (r_ldA (j := 1) [] [av .u8 32 (cpy (List.replicate 32 0) r1.1)] [] Tryd.underlying55 rfl sz55 rfl hI rfl hA rfl rfl) rfl fun a hA => 
    o_st (j := 2) [] [av .u8 32 (List.replicate 32 0)] [av .u8 32 (cpy (List.replicate 32 0) r1.1)] [] sz55 rfl rfl (fl_cons (one_av _ _ _) fl_nil) hI rfl hA rfl rfl rfl rfl fun w hI => ?_
  refine o_nil ?_
  refine hN4 _ _ ?_
  refine w_ret ?_
  obtain rfl := Option.some.inj (bS H)
  exact retc Tryd.underlying55 rfl sz55 rfl hI (j := 2) rfl hA Tryd.results42 rfl ⟨_, rfl, vp3, vp4, μ1, rfl, (cpy_arr (arr_zero _ _) (Slc.rng hz2)), hp4, hp5, hp6, (hI.sel [0] (by decide) rfl)⟩
end Go.Proofs.YtpeelghbhihgkaaDoor.T
namespace Go.Proofs.YtpeelghbhihgkaaDoor.T
open Go Go.Proofs Go.Proofs.YtpeelghbhihgkaaDoor.K
set_option linter.unusedVariables false
set_option linter.unusedSimpArgs false
def digest_keys.lit0 : List Int := [1116352408, 1899447441, 3049323471, 3921009573, 961987163, 1508970993, 2453635748, 2870763221, 3624381080, 310598401, 607225278, 1426881987, 1925078388, 2162078206, 2614888103, 3248222580, 3835390401, 4022224774, 264347078, 604807628, 770255983, 1249150122, 1555081692, 1996064986, 2554220882, 2821834349, 2952996808, 3210313671, 3336571891, 3584528711, 113926993, 338241895, 666307205, 773529912, 1294757372, 1396182291, 1695183700, 1986661051, 2177026350, 2456956037, 2730485921, 2820302411, 3259730800, 3345764771, 3516065817, 3600352804, 4094571909, 275423344, 430227734, 506948616, 659060556, 883997877, 958139571, 1322822218, 1537002063, 1747873779, 1955562222, 2024104815, 2227730452, 2361852424, 2428436474, 2756734187, 3204031479, 3329325298]
end Go.Proofs.YtpeelghbhihgkaaDoor.T
namespace Go.Proofs.YtpeelghbhihgkaaDoor.T
open Go Go.Proofs Go.Proofs.YtpeelghbhihgkaaDoor.K
set_option linter.unusedVariables false
set_option linter.unusedSimpArgs false
def slices_Grow_byte_byte.f (x1 : Int) : Option (List Int) := if 0 ≤ x1 ∧ x1 ≤ 140737488355328 then some [] else none
noncomputable def slices_Concat_byte_byte.s1 (x0 : List (List Int)) : ((List Int) × Int) → Option (((List Int) × Int) ⊕ (List Int)) := fun (s3, s4) => (if s4 < (x0.length : Int) then (if 0 ≤ s4 ∧ s4 < (x0.length : Int) then (if s3.length + (x0.getD s4.toNat []).length ≤ 140737488355328 then some (.inl (s3 ++ (x0.getD s4.toNat []), IntKind.i64.wrap (s4 + 1))) else none) else none) else some (.inr s3))
noncomputable def slices_Concat_byte_byte.s0 (x0 : List (List Int)) : (Int × Int) → Option ((Int × Int) ⊕ Int) := fun (s1, s2) => (if s2 < (x0.length : Int) then (((if 0 ≤ s2 ∧ s2 < (x0.length : Int) then (if (IntKind.i64.wrap (s1 + ((x0.getD s2.toNat []).length : Int))) < 0 then none else some (IntKind.i64.wrap (s1 + ((x0.getD s2.toNat []).length : Int)))) else none)).bind fun c2 => some (.inl (c2, IntKind.i64.wrap (s2 + 1)))) else some (.inr s1))
noncomputable def slices_Concat_byte_byte.f (x0 : List (List Int)) : Option (List Int) := ((loopO (slices_Concat_byte_byte.s0 x0) (0, 0)).bind fun c1 => ((slices_Grow_byte_byte.f c1).bind fun r1 => ((loopO (slices_Concat_byte_byte.s1 x0) (r1, 0)).bind fun c3 => some c3)))
noncomputable def head_Bytes.f (x0 : Head) : Option (List Int) := ((compact_Four.f ([]) x0.Version).bind fun r1 => ((slices_Concat_byte_byte.f ([r1, x0.Prev, x0.Root] : List (List Int))).bind fun r2 => ((compact_Four.f r2 x0.Time).bind fun r3 => ((compact_Four.f r3 x0.Work).bind fun r4 => ((compact_Four.f r4 x0.Nonce).bind fun r5 => some r5)))))
noncomputable def head_Take.f (x0 : compactReader) : Option (Head × compactReader) := ((compact_Reader_Four.f x0).bind fun r1 => ((compact_Reader_Hash.f r1.2).bind fun r2 => ((compact_Reader_Hash.f r2.2).bind fun r3 => ((compact_Reader_Four.f r3.2).bind fun r4 => ((compact_Reader_Four.f r4.2).bind fun r5 => ((compact_Reader_Four.f r5.2).bind fun r6 => ((compact_Reader_Err.f r6.2).bind fun r7 => (if r7 ≠ (Er.b 0) then some ((⟨0, (List.replicate 32 0), (List.replicate 32 0), 0, 0, 0⟩ : Head), r6.2) else some ((⟨r1.1, r2.1, r3.1, r4.1, r5.1, r6.1⟩ : Head), r6.2)))))))))
noncomputable def head_Read.f (x0 : List Int) : Option (Head × Er) := ((compact_Read.f x0).bind fun r1 => ((head_Take.f r1).bind fun r2 => ((compact_Reader_Err.f r2.2).bind fun r3 => (if r3 ≠ (Er.b 0) then ((compact_Reader_Err.f r2.2).bind fun r4 => (if r4 ∈ ([(Er.b 0), xErrShape, xErrEnd] : List Er) then some ((⟨0, (List.replicate 32 0), (List.replicate 32 0), 0, 0, 0⟩ : Head), r4) else none)) else ((compact_Reader_Left.f r2.2).bind fun r5 => (if 0 < r5 then (if xErrShape ∈ ([(Er.b 0), xErrShape, xErrEnd] : List Er) then some ((⟨0, (List.replicate 32 0), (List.replicate 32 0), 0, 0, 0⟩ : Head), xErrShape) else none) else (if (Er.b 0) ∈ ([(Er.b 0), xErrShape, xErrEnd] : List Er) then some (r2.1, (Er.b 0)) else none)))))))
end Go.Proofs.YtpeelghbhihgkaaDoor.T
namespace Go.Proofs.YtpeelghbhihgkaaDoor.T
open Go Go.Proofs Go.Proofs.YtpeelghbhihgkaaDoor.K
set_option linter.unusedVariables false
set_option linter.unusedSimpArgs false
set_option maxRecDepth 20000 in
theorem slices_Grow_byte_byte.c (μ : Store) (w0 : World) (hμ : Agr μ w0) (x1 : Int) (hx1 : InR .i64 x1) (r : List Int) (H : slices_Grow_byte_byte.f x1 = some r) :
    Calls Tryd.prog 146 [.slice none 0 0, .int .i64 x1].toArray w0 (fun e w' => ∃ v, e = .returned v ∧ ∃ (v0 : Value) (c0 : List Value), v = v0 ∧ Els (RI .u8) 1 r c0 ∧ Iv w0 [] μ μ [row 5 1 v0 r.length c0] w') := by
  obtain ⟨hb, H⟩ := guard_some H
  obtain rfl := Option.some.inj H
  refine enter Tryd.func146 rfl Tryd.ntmps146 rfl fun a hA => ?_
  have hI := Iv.start hμ
  have e1 : IntKind.i64.wrap (x1 - IntKind.i64.wrap (((0 : Nat) : Int) - ((0 : Nat) : Int))) = x1 := by
    rw [wrap_id (k := .i64) (x := ((0 : Nat) : Int) - ((0 : Nat) : Int)) ⟨by omega, by omega⟩]
    simp only [Int.sub_self, Int.sub_zero, Int.natCast_zero]
    exact wrap_id hx1
  refine w_seq fun _ hN1 => w_reg (stp hA (r_as hA rfl) rfl fun a hA => o_nil (hN1 _ _ ?_))
  refine w_seq fun _ hN2 => w_seq fun _ hN3 => w_reg (stp hA (r_mv hA rfl) rfl fun a hA => stp hA (r_lss hA rfl rfl) rfl fun a hA => o_nil (hN3 _ _ ?_))
  refine w_cond hA rfl (fun hc => absurd (of_decide_eq_true hc) (by omega)) (fun _ => w_skip (hN2 _ _ ?_))
  refine w_cut (fun a w => ∃ v0 c0, Fr a 27 [(0, v0)] ∧ Iv w0 [] μ μ [row 5 1 v0 0 c0] w ∧ c0 = []) ?_ ?_
  · refine w_seq fun _ hN4 => w_reg ?_
    refine stp hA (r_mv hA rfl) rfl fun a hA => stp hA (r_mv hA rfl) rfl fun a hA => stp hA (r_cap Tryd.underlying23 hA rfl) rfl fun a hA => ?_
    refine stp hA (r_mv hA rfl) rfl fun a hA => stp hA (r_len Tryd.underlying23 hA rfl) rfl fun a hA => ?_
    refine stp hA (r_sub hA rfl rfl) rfl fun a hA => stp hA (r_sub hA rfl rfl) rfl fun a hA => ?_
    rw [e1] at hA
    refine stp hA (r_as hA rfl) rfl fun a hA => o_nil (hN4 _ _ ?_)
    refine w_seq fun _ hN5 => w_reg (stp hA (r_mv hA rfl) rfl fun a hA => stp hA (r_gtr hA rfl rfl) rfl fun a hA => o_nil (hN5 _ _ ?_))
    refine w_cond hA rfl (fun hc => ?_) (fun hc => ?_)
    · have hc := of_decide_eq_true hc
      refine w_reg ?_
      refine stp hA (r_mv hA rfl) rfl fun a hA => stp hA (r_mv hA rfl) rfl fun a hA => stp hA (r_cap Tryd.underlying23 hA rfl) rfl fun a hA => ?_
      refine stp hA (r_front Tryd.underlying23 sz5 hA rfl rfl (by decide) (by decide)) rfl fun a hA => stp hA (r_mv hA rfl) rfl fun a hA => ?_
      refine o_appmake te5 rfl Tryd.underlying23 Tryd.underlying3 hI hA rfl rfl (by omega) (by omega) (by omega) rfl fun g cap cur a w h1 h2 h3 hA hI hg => ?_
      refine stp hA (r_mv hA rfl) rfl fun a hA => stp hA (r_len Tryd.underlying23 hA rfl) rfl fun a hA => ?_
      refine stp hA (r_front Tryd.underlying23 sz5 hA rfl rfl (by decide) (by omega)) rfl fun a hA => stp hA (r_as hA rfl) rfl fun a hA => o_nil ?_
      have hI := hI (row 5 1 (.slice (some ⟨g, 0, none⟩) 0 cap) 0 []) (by simp [row, Value.ownBlock]) ⟨rfl, .inr ⟨g, cap, cur, rfl, Nat.zero_le _, hg, Nat.zero_le _, h2, h3, rfl⟩⟩
      exact ⟨_, _, hA.sub ⟨rfl, trivial⟩, hI, rfl⟩
    · exact w_skip ⟨_, _, hA.sub ⟨rfl, trivial⟩, hI.nilRow 5 1, rfl⟩
  · rintro a w ⟨v0, c0, hA, hI, rfl⟩
    refine w_seq fun _ hN6 => w_reg (stp hA (r_mv hA rfl) rfl fun a hA => stp hA (r_as hA rfl) rfl fun a hA => o_nil (hN6 _ _ ?_))
    refine w_ret ?_
    exact ret1 hA Tryd.results146 rfl ⟨_, rfl, v0, [], rfl, .nil, hI⟩
set_option maxRecDepth 20000 in
theorem slices_Concat_byte_byte.c (μ : Store) (w0 : World) (hμ : Agr μ w0) (x0 : List (List Int)) (u0 : Value) (hx0 : Slc (RS (RI .u8) 1 μ) 1 μ u0 x0) (r : List Int) (H : slices_Concat_byte_byte.f x0 = some r) :
    Calls Tryd.prog 123 [u0].toArray w0 (fun e w' => ∃ v, e = .returned v ∧ ∃ (v0 : Value) (c0 : List Value), v = v0 ∧ Els (RI .u8) 1 r c0 ∧ Iv w0 [] μ μ [row 5 1 v0 r.length c0] w') := by
  refine enter Tryd.func123 rfl Tryd.ntmps123 rfl fun a hA => ?_
  have hI := Iv.start hμ
  have H := bI H
  refine w_seq fun _ hN1 => ?_
  refine w_reg ?_
  refine stp hA (r_as hA rfl) rfl fun a hA => ?_
  refine o_nil ?_
  refine hN1 _ _ ?_
  refine w_seq fun _ hN2 => ?_
  refine w_reg ?_
  refine stp hA (r_as hA rfl) rfl fun a hA => ?_
  refine o_nil ?_
  refine hN2 _ _ ?_
  obtain ⟨c1, hz1, Hk1⟩ := bB H
  refine w_cut (fun a w => InR .i64 c1 ∧ Fr a 36 [(0, u0), (2, (.slice none 0 0)), (3, .int .i64 c1)] ∧ Iv w0 [] μ μ [] w) ?_ ?_
  · have H := bI hz1
    refine w_seq fun _ hN3 => ?_
    refine w_reg ?_
    refine stp hA (r_mv hA rfl) rfl fun a hA => ?_
    obtain ⟨_, hsl1⟩ := Slc.sv hx0
    refine stp hA (r_slen Tryd.underlying185 hsl1 hA rfl) rfl fun a hA => 
      stp hA (r_mv hA rfl) rfl fun a hA => ?_
    refine o_nil ?_
    refine hN3 _ _ ?_
    refine w_block ?_
    obtain ⟨z1, hz2, Hk2⟩ := bind_some H
    obtain ⟨n1, hn1⟩ := loopO_some hz2
    refine w_loop (fun n a w => ∃ (s1 : Int) (s2 : Int), loopN (slices_Concat_byte_byte.s0 x0) n (s1, s2) = some z1 ∧ InR .i64 s1 ∧ InR .i64 s2 ∧ Fr a 36 [(0, u0), (2, (.slice none 0 0)), (3, .int .i64 s1), (9, u0), (10, .int .i64 (x0.length : Int)), (11, .int .i64 s2)] ∧ Iv w0 [] μ μ [] w) n1 ⟨0, 0, hn1, (in_lit .i64 0 rfl), (in_lit .i64 0 rfl), hA.sub ⟨rfl, rfl, rfl, rfl, rfl, rfl, trivial⟩, hI⟩ ?_
    clear hA hI
    rintro n a w ⟨s1, s2, hn1, ws1, ws2, hA, hI⟩
    obtain ⟨m1, rfl, H⟩ := loopN_bind hn1
    clear hn1
    refine w_seq fun _ hN4 => ?_
    refine w_reg ?_
    refine stp hA (r_lss hA rfl rfl) rfl fun a hA => ?_
    refine o_nil ?_
    refine hN4 _ _ ?_
    refine w_seq fun _ hN5 => ?_
    refine w_cond hA rfl (fun hc1 => ?_) (fun hc1 => ?_)
    · have hc10 := hc1; have hc1 := of_decide_eq_true hc1; have H := bT H hc1
      refine w_skip ?_
      refine hN5 _ _ ?_
      obtain ⟨c2, hz3, Hk3⟩ := bB H
      refine w_cut (fun a w => InR .i64 c2 ∧ Fr a 36 [(0, u0), (2, (.slice none 0 0)), (3, .int .i64 c2), (9, u0), (10, .int .i64 (x0.length : Int)), (11, .int .i64 s2), (12, .bool (decide (s2 < (x0.length : Int))))] ∧ Iv w0 [] μ μ [] w) ?_ ?_
      · have H := bI hz3
        refine w_block ?_
        refine w_seq fun _ hN6 => ?_
        refine w_reg ?_
        obtain ⟨hb1, H⟩ := bG H
        obtain ⟨_, he1, _, hat1⟩ := Slc.elem1 hx0 (getD_some [] hb1.1 hb1.2)
        obtain ⟨v1, rfl, hw1⟩ := he1
        obtain ⟨_, hsl2⟩ := Slc.sv hx0
        refine stp hA (r_six1 Tryd.underlying185 sz23 hsl2 hA rfl rfl hb1.1 hb1.2) rfl fun a hA => 
          stp hA (r_ldm1 [] [] Tryd.underlying23 rfl hI.agr hat1 hA rfl rfl) rfl fun a hA => 
          stp hA (r_as hA rfl) rfl fun a hA => ?_
        refine o_nil ?_
        refine hN6 _ _ ?_
        refine w_seq fun _ hN7 => ?_
        refine w_reg ?_
        refine stp hA (r_mv hA rfl) rfl fun a hA => 
          stp hA (r_mv hA rfl) rfl fun a hA => ?_
        obtain ⟨_, hsl3⟩ := Slc.sv hw1
        refine stp hA (r_slen Tryd.underlying23 hsl3 hA rfl) rfl fun a hA => 
          stp hA (r_add hA rfl rfl) rfl fun a hA => 
          stp hA (r_as hA rfl) rfl fun a hA => ?_
        refine o_nil ?_
        refine hN7 _ _ ?_
        refine w_seq fun _ hN8 => ?_
        refine w_reg ?_
        refine stp hA (r_mv hA rfl) rfl fun a hA => 
          stp hA (r_lss hA rfl rfl) rfl fun a hA => ?_
        refine o_nil ?_
        refine hN8 _ _ ?_
        refine w_cond hA rfl (fun hc2 => ?_) (fun hc2 => ?_)
        · have hc20 := hc2; have hc2 := of_decide_eq_true hc2; have H := bT H hc2
          exact (bN H).elim
        · have hc20 := hc2; have hc2 := of_decide_eq_false hc2; have H := bF H hc2
          refine w_skip ?_
          cases Option.some.inj (bS H)
          exact ⟨(wrap_in _ _), hA.sub ⟨rfl, rfl, rfl, rfl, rfl, rfl, rfl, trivial⟩, hI⟩
      · rintro a w ⟨wc2, hA, hI⟩
        have H := Hk3
        refine w_reg ?_
        refine stp hA (r_add hA rfl rfl) rfl fun a hA => 
          stp hA (r_mv hA rfl) rfl fun a hA => ?_
        refine o_nil ?_
        exact ⟨m1, Nat.lt_succ_self _, c2, IntKind.i64.wrap (s2 + 1), H, wc2, (wrap_in _ _), hA.sub ⟨rfl, rfl, rfl, rfl, rfl, rfl, trivial⟩, hI⟩
    · have hc10 := hc1; have hc1 := of_decide_eq_false hc1; have H := bF H hc1
      refine w_exit rfl ?_
      have H : some s1 = some z1 := H
      obtain rfl := Option.some.inj H
      have H := Hk2
      cases Option.some.inj (bS H)
      exact ⟨ws1, hA.sub ⟨rfl, rfl, rfl, trivial⟩, hI⟩
  · rintro a w ⟨wc1, hA, hI⟩
    have H := Hk1
    refine w_seq fun _ hN9 => ?_
    refine w_reg ?_
    refine stp hA (r_mv hA rfl) rfl fun a hA => ?_
    obtain ⟨r1, hr1, H⟩ := bB H
    refine o_call _ cf146 hA rfl (slices_Grow_byte_byte.c μ _ hI.agr c1 wc1 r1 hr1) rfl fun v2 a w hz4 hA => ?_
    obtain ⟨_, cs1, rfl, hE1, hi1⟩ := hz4
    have hI := hI.call hi1
    refine stp hA (r_as hA rfl) rfl fun a hA => ?_
    refine o_nil ?_
    refine hN9 _ _ ?_
    obtain ⟨c3, hz5, Hk4⟩ := bB H
    refine w_cut (fun a w => ∃ (vvc3 : Value) (ccc3 : List Value), Els (RI .u8) 1 c3 ccc3 ∧ Fr a 36 [(0, u0), (2, (.slice none 0 0)), (3, .int .i64 c1), (6, vvc3)] ∧ Iv w0 [] μ μ [row 5 1 vvc3 c3.length ccc3] w) ?_ ?_
    · have H := bI hz5
      refine w_seq fun _ hN10 => ?_
      refine w_reg ?_
      refine stp hA (r_mv hA rfl) rfl fun a hA => ?_
      obtain ⟨_, hsl4⟩ := Slc.sv hx0
      refine stp hA (r_slen Tryd.underlying185 hsl4 hA rfl) rfl fun a hA => 
        stp hA (r_mv hA rfl) rfl fun a hA => ?_
      refine o_nil ?_
      refine hN10 _ _ ?_
      refine w_block ?_
      obtain ⟨z2, hz6, Hk5⟩ := bind_some H
      obtain ⟨n2, hn2⟩ := loopO_some hz6
      refine w_loop (fun n a w => ∃ (s3 : List Int) (s4 : Int) (vvs3 : Value) (ccs3 : List Value), loopN (slices_Concat_byte_byte.s1 x0) n (s3, s4) = some z2 ∧ Els (RI .u8) 1 s3 ccs3 ∧ InR .i64 s4 ∧ Fr a 36 [(0, u0), (2, (.slice none 0 0)), (3, .int .i64 c1), (6, vvs3), (25, u0), (26, .int .i64 (x0.length : Int)), (27, .int .i64 s4)] ∧ Iv w0 [] μ μ [row 5 1 vvs3 s3.length ccs3] w) n2 ⟨r1, 0, v2, cs1, hn2, hE1, (in_lit .i64 0 rfl), hA.sub ⟨rfl, rfl, rfl, rfl, rfl, rfl, rfl, trivial⟩, hI⟩ ?_
      clear hA hI
      rintro n a w ⟨s3, s4, vvs3, ccs3, hn2, ws3, ws4, hA, hI⟩
      obtain ⟨m2, rfl, H⟩ := loopN_bind hn2
      clear hn2
      refine w_seq fun _ hN11 => ?_
      refine w_reg ?_
      refine stp hA (r_lss hA rfl rfl) rfl fun a hA => ?_
      refine o_nil ?_
      refine hN11 _ _ ?_
      refine w_seq fun _ hN12 => ?_
      refine w_cond hA rfl (fun hc3 => ?_) (fun hc3 => ?_)
      · have hc30 := hc3; have hc3 := of_decide_eq_true hc3; have H := bT H hc3
        refine w_skip ?_
        refine hN12 _ _ ?_
        refine w_seq fun _ hN13 => ?_
        refine w_block ?_
        refine w_seq fun _ hN14 => ?_
        refine w_reg ?_
        obtain ⟨hb2, H⟩ := bG H
        obtain ⟨_, he2, _, hat2⟩ := Slc.elem1 hx0 (getD_some [] hb2.1 hb2.2)
        obtain ⟨v3, rfl, hw2⟩ := he2
        obtain ⟨_, hsl5⟩ := Slc.sv hx0
        refine stp hA (r_six1 Tryd.underlying185 sz23 hsl5 hA rfl rfl hb2.1 hb2.2) rfl fun a hA => 
          stp hA (r_ldm1 [] [] Tryd.underlying23 rfl hI.agr hat2 hA rfl rfl) rfl fun a hA => 
          stp hA (r_as hA rfl) rfl fun a hA => ?_
        refine o_nil ?_
        refine hN14 _ _ ?_
        refine w_reg ?_
        refine stp hA (r_mv hA rfl) rfl fun a hA => 
          stp hA (r_mv hA rfl) rfl fun a hA => ?_
        obtain ⟨cs2, hE2, hsv1⟩ : Slc (RI .u8) 1 μ v3 (x0.getD s4.toNat []) := id (hw2)
        obtain ⟨hb3, H⟩ := bG H
        have hE3 := ws3.app hE2
        refine o_appL (xs := (s3 : List Int)) (ys := ((x0.getD s4.toNat []) : List Int)) (j := 0) te5 Tryd.underlying23 hI rfl hA rfl rfl (src_sl hI.agr hsv1 hE2.len) hE2.len (hE2.ones (one_RI _)) (by first | decide | (have hq := hb3; (try simp only [List.length_cons, List.length_nil] at hq); (try simp only [List.length_cons, List.length_nil]); (try simp only [maxLen]); omega)) (by first | decide | (have hq := hb3; (try simp only [List.length_cons, List.length_nil] at hq); (try simp only [List.length_cons, List.length_nil]); (try simp only [maxLen]); omega)) rfl fun v4 a w hA hI => 
          stp hA (r_as hA rfl) rfl fun a hA => ?_
        refine o_nil ?_
        refine hN13 _ _ ?_
        refine w_reg ?_
        refine stp hA (r_add hA rfl rfl) rfl fun a hA => 
          stp hA (r_mv hA rfl) rfl fun a hA => ?_
        refine o_nil ?_
        exact ⟨m2, Nat.lt_succ_self _, s3 ++ (x0.getD s4.toNat []), IntKind.i64.wrap (s4 + 1), v4, ccs3 ++ cs2, H, hE3, (wrap_in _ _), hA.sub ⟨rfl, rfl, rfl, rfl, rfl, rfl, rfl, trivial⟩, hI⟩
      · have hc30 := hc3; have hc3 := of_decide_eq_false hc3; have H := bF H hc3
        refine w_exit rfl ?_
        have H : some s3 = some z2 := H
        obtain rfl := Option.some.inj H
        have H := Hk5
        cases Option.some.inj (bS H)
        exact ⟨vvs3, ccs3, ws3, hA.sub ⟨rfl, rfl, rfl, rfl, trivial⟩, hI⟩
    · rintro a w ⟨vvc3, ccc3, wc3, hA, hI⟩
      have H := Hk4
      refine w_seq fun _ hN15 => ?_
      refine w_reg ?_
      refine stp hA (r_mv hA rfl) rfl fun a hA => 
        stp hA (r_as hA rfl) rfl fun a hA => ?_
      refine o_nil ?_
      refine hN15 _ _ ?_
      refine w_ret ?_
      obtain rfl := Option.some.inj (bS H)
      exact ret1 hA Tryd.results123 rfl ⟨_, rfl, vvc3, ccc3, rfl, wc3, (hI.less (Store.le.refl _) hI.le)⟩
set_option maxRecDepth 20000 in
theorem head_Bytes.c (μ : Store) (w0 : World) (hμ : Agr μ w0) (x0 : Head) (hx0 : HeadW μ x0) (r : List Int) (H : head_Bytes.f x0 = some r) :
    Calls Tryd.prog 64 [.agg [[.int .u32 x0.Version], av .u8 32 x0.Prev, av .u8 32 x0.Root, [.int .u32 x0.Time], [.int .u32 x0.Work], [.int .u32 x0.Nonce]].flatten.toArray].toArray w0 (fun e w' => ∃ v, e = .returned v ∧ ∃ (v0 : Value) (c0 : List Value), v = v0 ∧ Els (RI .u8) 1 r c0 ∧ Iv w0 [] μ μ [row 5 1 v0 r.length c0] w') := by
  refine enter Tryd.func64 rfl Tryd.ntmps64 rfl fun a hA => ?_
  have hI := Iv.start hμ
  have H := bI H
  refine w_seq fun _ hN1 => ?_
  refine w_reg ?_
  refine o_box [[.int .u32 x0.Version], av .u8 32 x0.Prev, av .u8 32 x0.Root, [.int .u32 x0.Time], [.int .u32 x0.Work], [.int .u32 x0.Nonce]] hI hA rfl rfl rfl fun g1 a w hA hI hg1 => 
    stp hA (r_as hA rfl) rfl fun a hA => ?_
  refine o_nil ?_
  refine hN1 _ _ ?_
  refine w_seq fun _ hN2 => ?_
  refine w_any [] mo hI fun w hI => ?_
  refine g_easy (i := 0) hA rfl rfl (by kernel_rfl) (.inr hI) (fun _ => r_fd (k := 0) Tryd.underlying87 rfl sz39 hA rfl rfl) rfl fun a hA => ?_
  refine g_take (i := 1) hA rfl rfl (by kernel_rfl) hI (fun w hI => r_ld1 (j := 0) [] [av .u8 32 x0.Prev, av .u8 32 x0.Root, [.int .u32 x0.Time], [.int .u32 x0.Work], [.int .u32 x0.Nonce]] Tryd.underlying39 rfl hI rfl hA rfl rfl) rfl fun a hA => ?_
  refine g_easy (i := 3) hA rfl rfl (by kernel_rfl) (.inr hI) (fun _ => r_fd (k := 1) Tryd.underlying87 rfl sz55 hA rfl rfl) rfl fun a hA => ?_
  refine g_easy (i := 4) hA rfl rfl (by kernel_rfl) (.inr hI) (fun _ => r_slv (i := 0) (j := 32) Tryd.underlying55 sz5 hA rfl rfl rfl (by decide) (by decide) (by decide) (by decide) rfl) rfl fun a hA => ?_
  refine g_easy (i := 5) hA rfl rfl (by kernel_rfl) (.inr hI) (fun _ => r_fd (k := 33) Tryd.underlying87 rfl sz55 hA rfl rfl) rfl fun a hA => ?_
  refine g_easy (i := 6) hA rfl rfl (by kernel_rfl) (.inr hI) (fun _ => r_slv (i := 0) (j := 32) Tryd.underlying55 sz5 hA rfl rfl rfl (by decide) (by decide) (by decide) (by decide) rfl) rfl fun a hA => ?_
  refine g_forced (i := 2) rfl (by kernel_rfl) ?_
  obtain ⟨r1, hr1, H⟩ := bB H
  refine o_call _ cf32 hA rfl (compact_Four.c μ _ hI.agr ([]) (.slice none 0 0) (slc_nil _ _ _) x0.Version hx0.1 r1 hr1) rfl fun v1 a w hz1 hA => ?_
  obtain ⟨_, cs1, rfl, hE1, hi1⟩ := hz1
  have hI := hI.call hi1
  refine o_nil ?_
  refine ⟨(.inr (hI.sel [1] (by decide) rfl)), ?_⟩
  refine g_forced (i := 7) rfl (by kernel_rfl) ?_
  obtain ⟨μ1, hle1, hsv1, hI, hth1⟩ := hI.freezeRowT 0 rfl
  have hS1 : Slc (RI .u8) 1 μ1 v1 r1 := ⟨_, hE1, hsv1⟩
  obtain ⟨μ2, hle2, hat1, hI, hth2⟩ := hI.freezeCelT 0 rfl
  have hS2 : Slc (RI .u8) 1 μ2 (.slice (some ⟨g1, 1, none⟩) 32 32) (x0.Prev) := slc_view0 [[.int .u32 x0.Version]] [av .u8 32 x0.Root, [.int .u32 x0.Time], [.int .u32 x0.Work], [.int .u32 x0.Nonce]] hat1 hx0.2.1 rfl (by decide)
  have hS3 : Slc (RI .u8) 1 μ2 (.slice (some ⟨g1, 33, none⟩) 32 32) (x0.Root) := slc_view0 [[.int .u32 x0.Version], av .u8 32 x0.Prev] [[.int .u32 x0.Time], [.int .u32 x0.Work], [.int .u32 x0.Nonce]] hat1 hx0.2.2.1 rfl (by decide)
  have hE2 : Els (RS (RI .u8) 1 μ2) 1 ([r1, x0.Prev, x0.Root] : List (List Int)) ([[v1]].flatten ++ ([[(.slice (some ⟨g1, 1, none⟩) 32 32)]].flatten ++ ([[(.slice (some ⟨g1, 33, none⟩) 32 32)]].flatten ++ ([])))) := (Els.cons (c := [[v1]].flatten) ⟨_, rfl, (Slc.le hS1 (fun _ _ h => h) hle2)⟩ rfl (Els.cons (c := [[(.slice (some ⟨g1, 1, none⟩) 32 32)]].flatten) ⟨_, rfl, hS2⟩ rfl (Els.cons (c := [[(.slice (some ⟨g1, 33, none⟩) 32 32)]].flatten) ⟨_, rfl, hS3⟩ rfl Els.nil)))
  refine o_bsl ([[v1]].flatten ++ ([[(.slice (some ⟨g1, 1, none⟩) 32 32)]].flatten ++ ([[(.slice (some ⟨g1, 33, none⟩) 32 32)]].flatten ++ ([])))) te23 zr23 Tryd.underlying185 hI hA rfl rfl rfl rfl ((fill_one (cells1 (Slc.le hS1 (fun _ _ h => h) hle2)) rfl (by kernel_rfl)).trans ((fill_one (cells1 hS2) rfl (by kernel_rfl)).trans ((fill_one (cells1 hS3) rfl (by kernel_rfl)).trans (by kernel_rfl)))) rfl fun g2 a w hA hI => ?_
  generalize hcs : ([[v1]].flatten ++ ([[(.slice (some ⟨g1, 1, none⟩) 32 32)]].flatten ++ ([[(.slice (some ⟨g1, 33, none⟩) 32 32)]].flatten ++ ([]))) : List Value) = cs2 at hE2 hI
  clear hcs
  refine o_nil ?_
  refine ⟨(.inr ((hth1 _ _ (hth2 _ _ hI)).sel [1] (by decide) rfl)), ?_⟩
  refine g_forced (i := 8) rfl (by kernel_rfl) ?_
  obtain ⟨r2, hr2, H⟩ := bB H
  refine o_call (fun v w' => ∃ (v0 : Value) (c0 : List Value), v = v0 ∧ Els (RI .u8) 1 r2 c0 ∧ Iv w [] μ2 μ2 [row 5 1 v0 r2.length c0] w') cf123 hA rfl ((by obtain ⟨μ3, hle3, hsv2, hI⟩ := hI.freezeRow 0 rfl; have hS4 : Slc (RS (RI .u8) 1 μ3) 1 μ3 (.slice (some ⟨g2, 0, none⟩) 3 3) ([r1, x0.Prev, x0.Root] : List (List Int)) := ⟨_, (Els.mono hE2 (fun _ _ h => RS.le (fun _ _ h => h) hle3 h)), hsv2⟩; exact (slices_Concat_byte_byte.c μ3 _ hI.agr ([r1, x0.Prev, x0.Root] : List (List Int)) (.slice (some ⟨g2, 0, none⟩) 3 3) hS4 r2 hr2).mono fun _ _ ⟨v, he, b0, b1, hv, f0, hi⟩ => ⟨v, he, b0, b1, hv, f0, hi.low hle3⟩)) rfl fun v2 a w hz2 hA => ?_
  obtain ⟨_, cs3, rfl, hE3, hi2⟩ := hz2
  have hI := hI.call hi2
  refine o_nil ?_
  refine ⟨(.inr ((hth1 _ _ (hth2 _ _ hI)).sel [1] (by decide) rfl)), ?_⟩
  refine g_easy (i := 9) hA rfl rfl (by kernel_rfl) (.inr ((hth1 _ _ (hth2 _ _ hI)).sel [1] (by decide) rfl)) (fun _ => r_as hA rfl) rfl fun a hA => ?_
  refine g_nil (by kernel_rfl) ?_
  refine hN2 _ _ ?_
  refine w_seq fun _ hN3 => ?_
  refine w_any [] mo hI fun w hI => ?_
  refine g_easy (i := 0) hA rfl rfl (by kernel_rfl) (.inr hI) (fun _ => r_mv hA rfl) rfl fun a hA => ?_
  refine g_easy (i := 1) hA rfl rfl (by kernel_rfl) (.inr hI) (fun _ => r_fd (k := 0 + 65) Tryd.underlying87 rfl sz39 hA rfl rfl) rfl fun a hA => ?_
  refine g_take (i := 2) hA rfl rfl (by kernel_rfl) hI (fun w hI => r_ldm1 [[.int .u32 x0.Version], av .u8 32 x0.Prev, av .u8 32 x0.Root] [[.int .u32 x0.Work], [.int .u32 x0.Nonce]] Tryd.underlying39 rfl hI.agr hat1 hA rfl rfl) rfl fun a hA => ?_
  refine g_easy (i := 4) hA rfl rfl (by kernel_rfl) (.inr hI) (fun _ => r_fd (k := 0 + 66) Tryd.underlying87 rfl sz39 hA rfl rfl) rfl fun a hA => ?_
  refine g_take (i := 5) hA rfl rfl (by kernel_rfl) hI (fun w hI => r_ldm1 [[.int .u32 x0.Version], av .u8 32 x0.Prev, av .u8 32 x0.Root, [.int .u32 x0.Time]] [[.int .u32 x0.Nonce]] Tryd.underlying39 rfl hI.agr hat1 hA rfl rfl) rfl fun a hA => ?_
  refine g_easy (i := 7) hA rfl rfl (by kernel_rfl) (.inr hI) (fun _ => r_fd (k := 0 + 67) Tryd.underlying87 rfl sz39 hA rfl rfl) rfl fun a hA => ?_
  refine g_take (i := 8) hA rfl rfl (by kernel_rfl) hI (fun w hI => r_ldm1 [[.int .u32 x0.Version], av .u8 32 x0.Prev, av .u8 32 x0.Root, [.int .u32 x0.Time], [.int .u32 x0.Work]] [] Tryd.underlying39 rfl hI.agr hat1 hA rfl rfl) rfl fun a hA => ?_
  refine g_forced (i := 3) rfl (by kernel_rfl) ?_
  obtain ⟨r3, hr3, H⟩ := bB H
  refine o_call (fun v w' => ∃ (v0 : Value) (c0 : List Value), v = v0 ∧ Els (RI .u8) 1 r3 c0 ∧ Iv w [] μ2 μ2 [row 5 1 v0 r3.length c0] w') cf32 hA rfl ((by obtain ⟨μ4, hle4, hsv3, hI⟩ := hI.freezeRow 0 rfl; have hS5 : Slc (RI .u8) 1 μ4 v2 r2 := ⟨_, hE3, hsv3⟩; exact (compact_Four.c μ4 _ hI.agr r2 v2 hS5 x0.Time hx0.2.2.2.1 r3 hr3).mono fun _ _ ⟨v, he, b0, b1, hv, f0, hi⟩ => ⟨v, he, b0, b1, hv, f0, hi.low hle4⟩)) rfl fun v3 a w hz3 hA => ?_
  obtain ⟨_, cs4, rfl, hE4, hi3⟩ := hz3
  have hI := hI.call hi3
  refine o_nil ?_
  refine ⟨(.inr (hI.sel [1, 2] (by decide) rfl)), ?_⟩
  refine g_forced (i := 6) rfl (by kernel_rfl) ?_
  obtain ⟨r4, hr4, H⟩ := bB H
  refine o_call (fun v w' => ∃ (v0 : Value) (c0 : List Value), v = v0 ∧ Els (RI .u8) 1 r4 c0 ∧ Iv w [] μ2 μ2 [row 5 1 v0 r4.length c0] w') cf32 hA rfl ((by obtain ⟨μ5, hle5, hsv4, hI⟩ := hI.freezeRow 0 rfl; have hS6 : Slc (RI .u8) 1 μ5 v3 r3 := ⟨_, hE4, hsv4⟩; exact (compact_Four.c μ5 _ hI.agr r3 v3 hS6 x0.Work hx0.2.2.2.2.1 r4 hr4).mono fun _ _ ⟨v, he, b0, b1, hv, f0, hi⟩ => ⟨v, he, b0, b1, hv, f0, hi.low hle5⟩)) rfl fun v4 a w hz4 hA => ?_
  obtain ⟨_, cs5, rfl, hE5, hi4⟩ := hz4
  have hI := hI.call hi4
  refine o_nil ?_
  refine ⟨(.inr (hI.sel [2, 3] (by decide) rfl)), ?_⟩
  refine g_forced (i := 9) rfl (by kernel_rfl) ?_
  obtain ⟨r5, hr5, H⟩ := bB H
  refine o_call (fun v w' => ∃ (v0 : Value) (c0 : List Value), v = v0 ∧ Els (RI .u8) 1 r5 c0 ∧ Iv w [] μ2 μ2 [row 5 1 v0 r5.length c0] w') cf32 hA rfl ((by obtain ⟨μ6, hle6, hsv5, hI⟩ := hI.freezeRow 0 rfl; have hS7 : Slc (RI .u8) 1 μ6 v4 r4 := ⟨_, hE5, hsv5⟩; exact (compact_Four.c μ6 _ hI.agr r4 v4 hS7 x0.Nonce hx0.2.2.2.2.2 r5 hr5).mono fun _ _ ⟨v, he, b0, b1, hv, f0, hi⟩ => ⟨v, he, b0, b1, hv, f0, hi.low hle6⟩)) rfl fun v5 a w hz5 hA => ?_
  obtain ⟨_, cs6, rfl, hE6, hi5⟩ := hz5
  have hI := hI.call hi5
  refine o_nil ?_
  refine ⟨(.inr (hI.sel [3, 4] (by decide) rfl)), ?_⟩
  refine g_easy (i := 10) hA rfl rfl (by kernel_rfl) (.inr (hI.sel [3, 4] (by decide) rfl)) (fun _ => r_as hA rfl) rfl fun a hA => ?_
  refine g_nil (by kernel_rfl) ?_
  refine hN3 _ _ ?_
  refine w_ret ?_
  obtain rfl := Option.some.inj (bS H)
  exact ret1 hA Tryd.results64 rfl ⟨_, rfl, v5, cs6, rfl, hE6, ((hI.sel [0] (by decide) rfl).less (Store.le.refl _) hI.le)⟩
set_option maxRecDepth 20000 in
theorem head_Take.c (μ : Store) (w0 : World) (hμ : Agr μ w0) (x0 : compactReader) (vp1 : Value) (vp2 : Value) (g0 : Nat) (hp1 : Slc (RI .u8) 1 μ vp1 x0.b) (hp2 : InR .i64 x0.at_) (hp3 : ErS μ vp2 x0.err) (ho0 : Its μ w0 [cel g0 [[vp1], [.int .i64 x0.at_], [vp2]] 143]) (e8 : Value) (he8 : ErS μ e8 (Er.b 9)) (r : Head × compactReader) (H : head_Take.f x0 = some r) :
    Calls Tryd.prog 124 [.pointer (some ⟨g0, 0, none⟩)].toArray w0 (fun e w' => ∃ v, e = .returned v ∧ ∃ (vp_1 : Value) (vp_2 : Value) (μ' : Store), v = .agg [[.int .u32 ((r.1).Version)], av .u8 32 ((r.1).Prev), av .u8 32 ((r.1).Root), [.int .u32 ((r.1).Time)], [.int .u32 ((r.1).Work)], [.int .u32 ((r.1).Nonce)]].flatten.toArray ∧ HeadW μ (r.1) ∧ Slc (RI .u8) 1 μ' vp_1 (r.2).b ∧ InR .i64 (r.2).at_ ∧ ErS μ' vp_2 (r.2).err ∧ Iv w0 (many [cel g0 [[vp1], [.int .i64 x0.at_], [vp2]] 143]).foot μ μ' [cel g0 [[vp_1], [.int .i64 ((r.2).at_)], [vp_2]] 143] w') := by
  refine enter Tryd.func124 rfl Tryd.ntmps124 rfl fun a hA => ?_
  have hI := Iv.startN hμ ho0
  have H := bI H
  refine w_seq fun _ hN1 => ?_
  refine w_reg ?_
  refine o_new [[.int .u32 0], av .u8 32 (List.replicate 32 0), av .u8 32 (List.replicate 32 0), [.int .u32 0], [.int .u32 0], [.int .u32 0]] zr87 hI hA rfl fun g1 a w hA hI hg1 => ?_
  refine o_nil ?_
  refine hN1 _ _ ?_
  refine w_seq fun _ hN2 => ?_
  refine w_reg ?_
  refine stp hA (r_mv hA rfl) rfl fun a hA => ?_
  obtain ⟨r1, hr1, H⟩ := bB H
  have hI := hI.sel [1, 0] (by decide) rfl
  refine o_call _ cf35 hA rfl (compact_Reader_Four.c μ _ hI.agr x0 vp1 vp2 g0 hp1 hp2 hp3 (hI.handN 1) e8 he8 r1 hr1) rfl fun v1 a w hz1 hA => ?_
  obtain ⟨vp3, vp4, μ1, rfl, hw1, hp4, hp5, hp6, hi1⟩ := hz1
  have hI := hI.backN 1 hi1
  have hI : Iv w0 (many [cel g0 [[vp1], [.int .i64 x0.at_], [vp2]] 143]).foot μ μ1 [cel g0 [[vp3], [.int .i64 r1.2.at_], [vp4]] 143, cel g1 [[.int .u32 0], av .u8 32 (List.replicate 32 0), av .u8 32 (List.replicate 32 0), [.int .u32 0], [.int .u32 0], [.int .u32 0]] 87] w := hI
  refine stp hA (r_bldS (cs := [[.int .u32 r1.1], av .u8 32 (List.replicate 32 0), av .u8 32 (List.replicate 32 0), [.int .u32 0], [.int .u32 0], [.int .u32 0]].flatten.toArray) (pl := [(0, 1), (1, 32), (33, 32), (65, 1), (66, 1), (67, 1)]) zr87 Tryd.underlying87 ⟨rfl, sz39, rfl, sz55, rfl, sz55, rfl, sz39, rfl, sz39, rfl, sz39, trivial⟩ hA rfl (by kernel_rfl)) rfl fun a hA => 
    o_new [[.int .u32 0], av .u8 32 (List.replicate 32 0), av .u8 32 (List.replicate 32 0), [.int .u32 0], [.int .u32 0], [.int .u32 0]] zr87 hI hA rfl fun g2 a w hA hI hg2 => 
    o_st (j := 0) [] [[.int .u32 0], av .u8 32 (List.replicate 32 0), av .u8 32 (List.replicate 32 0), [.int .u32 0], [.int .u32 0], [.int .u32 0]] [[.int .u32 r1.1], av .u8 32 (List.replicate 32 0), av .u8 32 (List.replicate 32 0), [.int .u32 0], [.int .u32 0], [.int .u32 0]] [] sz87 rfl rfl (fl_cons (one_one rfl) (fl_cons (one_av _ _ _) (fl_cons (one_av _ _ _) (fl_cons (one_one rfl) (fl_cons (one_one rfl) (fl_cons (one_one rfl) fl_nil)))))) hI rfl hA rfl rfl rfl rfl fun w hI => ?_
  refine o_nil ?_
  refine hN2 _ _ ?_
  refine w_seq fun _ hN3 => ?_
  refine w_reg ?_
  refine stp hA (r_mv hA rfl) rfl fun a hA => ?_
  obtain ⟨r2, hr2, H⟩ := bB H
  have hI := hI.sel [1, 0, 2] (by decide) rfl
  refine o_call _ cf42 hA rfl (compact_Reader_Hash.c μ1 _ hI.agr r1.2 vp3 vp4 g0 hp4 hp5 hp6 (hI.handN 1) e8 (ErV.le (fun _ _ h => h) hi1.le he8) r2 hr2) rfl fun v2 a w hz2 hA => ?_
  obtain ⟨vp5, vp6, μ2, rfl, hw2, hp7, hp8, hp9, hi2⟩ := hz2
  have hI := hI.backN 1 hi2
  have hI : Iv w0 (many [cel g0 [[vp1], [.int .i64 x0.at_], [vp2]] 143]).foot μ μ2 [cel g0 [[vp5], [.int .i64 r2.2.at_], [vp6]] 143, cel g2 [[.int .u32 r1.1], av .u8 32 (List.replicate 32 0), av .u8 32 (List.replicate 32 0), [.int .u32 0], [.int .u32 0], [.int .u32 0]] 87, cel g1 [[.int .u32 0], av .u8 32 (List.replicate 32 0), av .u8 32 (List.replicate 32 0), [.int .u32 0], [.int .u32 0], [.int .u32 0]] 87] w := hI
  refine stp hA (r_fd (k := 1) Tryd.underlying87 rfl sz55 hA rfl rfl) rfl fun a hA => 
    o_st (j := 1) [[.int .u32 r1.1]] [av .u8 32 (List.replicate 32 0)] [av .u8 32 r2.1] [av .u8 32 (List.replicate 32 0), [.int .u32 0], [.int .u32 0], [.int .u32 0]] sz55 rfl rfl (fl_cons (one_av _ _ _) fl_nil) hI rfl hA rfl rfl rfl rfl fun w hI => ?_
  refine o_nil ?_
  refine hN3 _ _ ?_
  refine w_seq fun _ hN4 => ?_
  refine w_reg ?_
  refine stp hA (r_mv hA rfl) rfl fun a hA => ?_
  obtain ⟨r3, hr3, H⟩ := bB H
  refine o_call _ cf42 hA rfl (compact_Reader_Hash.c μ2 _ hI.agr r2.2 vp5 vp6 g0 hp7 hp8 hp9 (hI.handN 1) e8 (ErV.le (fun _ _ h => h) (hi1.le.trans hi2.le) he8) r3 hr3) rfl fun v3 a w hz3 hA => ?_
  obtain ⟨vp7, vp8, μ3, rfl, hw3, hp10, hp11, hp12, hi3⟩ := hz3
  have hI := hI.backN 1 hi3
  have hI : Iv w0 (many [cel g0 [[vp1], [.int .i64 x0.at_], [vp2]] 143]).foot μ μ3 [cel g0 [[vp7], [.int .i64 r3.2.at_], [vp8]] 143, cel g2 [[.int .u32 r1.1], av .u8 32 r2.1, av .u8 32 (List.replicate 32 0), [.int .u32 0], [.int .u32 0], [.int .u32 0]] 87, cel g1 [[.int .u32 0], av .u8 32 (List.replicate 32 0), av .u8 32 (List.replicate 32 0), [.int .u32 0], [.int .u32 0], [.int .u32 0]] 87] w := hI
  refine stp hA (r_fd (k := 33) Tryd.underlying87 rfl sz55 hA rfl rfl) rfl fun a hA => 
    o_st (j := 1) [[.int .u32 r1.1], av .u8 32 r2.1] [av .u8 32 (List.replicate 32 0)] [av .u8 32 r3.1] [[.int .u32 0], [.int .u32 0], [.int .u32 0]] sz55 rfl rfl (fl_cons (one_av _ _ _) fl_nil) hI rfl hA rfl rfl rfl rfl fun w hI => ?_
  refine o_nil ?_
  refine hN4 _ _ ?_
  refine w_seq fun _ hN5 => ?_
  refine w_reg ?_
  refine stp hA (r_mv hA rfl) rfl fun a hA => ?_
  obtain ⟨r4, hr4, H⟩ := bB H
  refine o_call _ cf35 hA rfl (compact_Reader_Four.c μ3 _ hI.agr r3.2 vp7 vp8 g0 hp10 hp11 hp12 (hI.handN 1) e8 (ErV.le (fun _ _ h => h) ((hi1.le.trans hi2.le).trans hi3.le) he8) r4 hr4) rfl fun v4 a w hz4 hA => ?_
  obtain ⟨vp9, vp10, μ4, rfl, hw4, hp13, hp14, hp15, hi4⟩ := hz4
  have hI := hI.backN 1 hi4
  have hI : Iv w0 (many [cel g0 [[vp1], [.int .i64 x0.at_], [vp2]] 143]).foot μ μ4 [cel g0 [[vp9], [.int .i64 r4.2.at_], [vp10]] 143, cel g2 [[.int .u32 r1.1], av .u8 32 r2.1, av .u8 32 r3.1, [.int .u32 0], [.int .u32 0], [.int .u32 0]] 87, cel g1 [[.int .u32 0], av .u8 32 (List.replicate 32 0), av .u8 32 (List.replicate 32 0), [.int .u32 0], [.int .u32 0], [.int .u32 0]] 87] w := hI
  refine stp hA (r_fd (k := 65) Tryd.underlying87 rfl sz39 hA rfl rfl) rfl fun a hA => 
    o_st (j := 1) [[.int .u32 r1.1], av .u8 32 r2.1, av .u8 32 r3.1] [[.int .u32 0]] [[.int .u32 r4.1]] [[.int .u32 0], [.int .u32 0]] sz39 rfl rfl (fl_cons (one_one rfl) fl_nil) hI rfl hA rfl rfl rfl rfl fun w hI => ?_
  refine o_nil ?_
  refine hN5 _ _ ?_
  refine w_seq fun _ hN6 => ?_
  refine w_reg ?_
  refine stp hA (r_mv hA rfl) rfl fun a hA => ?_
  obtain ⟨r5, hr5, H⟩ := bB H
  refine o_call _ cf35 hA rfl (compact_Reader_Four.c μ4 _ hI.agr r4.2 vp9 vp10 g0 hp13 hp14 hp15 (hI.handN 1) e8 (ErV.le (fun _ _ h => h) (((hi1.le.trans hi2.le).trans hi3.le).trans hi4.le) he8) r5 hr5) rfl fun v5 a w hz5 hA => ?_
  obtain ⟨vp11, vp12, μ5, rfl, hw5, hp16, hp17, hp18, hi5⟩ := hz5
  have hI := hI.backN 1 hi5
  have hI : Iv w0 (many [cel g0 [[vp1], [.int .i64 x0.at_], [vp2]] 143]).foot μ μ5 [cel g0 [[vp11], [.int .i64 r5.2.at_], [vp12]] 143, cel g2 [[.int .u32 r1.1], av .u8 32 r2.1, av .u8 32 r3.1, [.int .u32 r4.1], [.int .u32 0], [.int .u32 0]] 87, cel g1 [[.int .u32 0], av .u8 32 (List.replicate 32 0), av .u8 32 (List.replicate 32 0), [.int .u32 0], [.int .u32 0], [.int .u32 0]] 87] w := hI
  refine stp hA (r_fd (k := 66) Tryd.underlying87 rfl sz39 hA rfl rfl) rfl fun a hA => 
    o_st (j := 1) [[.int .u32 r1.1], av .u8 32 r2.1, av .u8 32 r3.1, [.int .u32 r4.1]] [[.int .u32 0]] [[.int .u32 r5.1]] [[.int .u32 0]] sz39 rfl rfl (fl_cons (one_one rfl) fl_nil) hI rfl hA rfl rfl rfl rfl fun w hI => ?_
  refine o_nil ?_
  refine hN6 _ _ ?_
  refine w_seq fun _ hN7 => ?_
  refine w_reg ?_
  refine stp hA (r_mv hA rfl) rfl fun a hA => ?_
  obtain ⟨r6, hr6, H⟩ := bB H
  refine o_call _ cf35 hA rfl (compact_Reader_Four.c μ5 _ hI.agr r5.2 vp11 vp12 g0 hp16 hp17 hp18 (hI.handN 1) e8 (ErV.le (fun _ _ h => h) ((((hi1.le.trans hi2.le).trans hi3.le).trans hi4.le).trans hi5.le) he8) r6 hr6) rfl fun v6 a w hz6 hA => ?_
  obtain ⟨vp13, vp14, μ6, rfl, hw6, hp19, hp20, hp21, hi6⟩ := hz6
  have hI := hI.backN 1 hi6
  have hI : Iv w0 (many [cel g0 [[vp1], [.int .i64 x0.at_], [vp2]] 143]).foot μ μ6 [cel g0 [[vp13], [.int .i64 r6.2.at_], [vp14]] 143, cel g2 [[.int .u32 r1.1], av .u8 32 r2.1, av .u8 32 r3.1, [.int .u32 r4.1], [.int .u32 r5.1], [.int .u32 0]] 87, cel g1 [[.int .u32 0], av .u8 32 (List.replicate 32 0), av .u8 32 (List.replicate 32 0), [.int .u32 0], [.int .u32 0], [.int .u32 0]] 87] w := hI
  refine stp hA (r_fd (k := 67) Tryd.underlying87 rfl sz39 hA rfl rfl) rfl fun a hA => 
    o_st (j := 1) [[.int .u32 r1.1], av .u8 32 r2.1, av .u8 32 r3.1, [.int .u32 r4.1], [.int .u32 r5.1]] [[.int .u32 0]] [[.int .u32 r6.1]] [] sz39 rfl rfl (fl_cons (one_one rfl) fl_nil) hI rfl hA rfl rfl rfl rfl fun w hI => ?_
  refine o_nil ?_
  refine hN7 _ _ ?_
  refine w_seq fun _ hN8 => ?_
  refine w_seq fun _ hN9 => ?_
  refine w_reg ?_
  refine stp hA (r_mv hA rfl) rfl fun a hA => ?_
  obtain ⟨r7, hr7, H⟩ := bB H
  refine o_call _ cf30 hA rfl (compact_Reader_Err.c μ6 _ hI.agr r6.2 vp13 vp14 g0 hp19 hp20 hp21 (hI.handN 1) r7 hr7) rfl fun v7 a w hz7 hA => ?_
  obtain ⟨_, μ7, rfl, hS1, hi7⟩ := hz7
  have hI := hI.backN 1 hi7
  have hI : Iv w0 (many [cel g0 [[vp1], [.int .i64 x0.at_], [vp2]] 143]).foot μ μ7 [cel g0 [[vp13], [.int .i64 r6.2.at_], [vp14]] 143, cel g2 [[.int .u32 r1.1], av .u8 32 r2.1, av .u8 32 r3.1, [.int .u32 r4.1], [.int .u32 r5.1], [.int .u32 r6.1]] 87, cel g1 [[.int .u32 0], av .u8 32 (List.replicate 32 0), av .u8 32 (List.replicate 32 0), [.int .u32 0], [.int .u32 0], [.int .u32 0]] 87] w := hI
  refine stp hA (r_neE erF hI.agr hS1 erv_nil (.inl ⟨.inr ⟨_, rfl⟩, Er.fitR⟩) hA rfl rfl) rfl fun a hA => ?_
  refine o_nil ?_
  refine hN9 _ _ ?_
  refine w_cond hA rfl (fun hc1 => ?_) (fun hc1 => ?_)
  · have hc10 := hc1; have hc1 := of_decide_eq_true hc1; have H := bT H hc1
    refine w_seq fun _ hN10 => ?_
    refine w_reg ?_
    refine stp hA (r_bldS (cs := [[.int .u32 0], av .u8 32 (List.replicate 32 0), av .u8 32 (List.replicate 32 0), [.int .u32 0], [.int .u32 0], [.int .u32 0]].flatten.toArray) (pl := [(0, 1), (1, 32), (33, 32), (65, 1), (66, 1), (67, 1)]) zr87 Tryd.underlying87 ⟨rfl, sz39, rfl, sz55, rfl, sz55, rfl, sz39, rfl, sz39, rfl, sz39, trivial⟩ hA rfl (by kernel_rfl)) rfl fun a hA => 
      o_st (j := 2) [] [[.int .u32 0], av .u8 32 (List.replicate 32 0), av .u8 32 (List.replicate 32 0), [.int .u32 0], [.int .u32 0], [.int .u32 0]] [[.int .u32 0], av .u8 32 (List.replicate 32 0), av .u8 32 (List.replicate 32 0), [.int .u32 0], [.int .u32 0], [.int .u32 0]] [] sz87 rfl rfl (fl_cons (one_one rfl) (fl_cons (one_av _ _ _) (fl_cons (one_av _ _ _) (fl_cons (one_one rfl) (fl_cons (one_one rfl) (fl_cons (one_one rfl) fl_nil)))))) hI rfl hA rfl rfl rfl rfl fun w hI => ?_
    refine o_nil ?_
    refine hN10 _ _ ?_
    refine w_ret ?_
    obtain rfl := Option.some.inj (bS H)
    exact retc Tryd.underlying87 rfl sz87 rfl hI (j := 2) rfl hA Tryd.results124 rfl ⟨_, rfl, vp13, vp14, μ7, rfl, ⟨(in_lit .u32 0 rfl), (arr_zero _ _), (arr_zero _ _), (in_lit .u32 0 rfl), (in_lit .u32 0 rfl), (in_lit .u32 0 rfl)⟩, (Slc.le hp19 (fun _ _ h => h) hi7.le), hp20, (ErV.le (fun _ _ h => h) hi7.le hp21), (hI.sel [0] (by decide) rfl)⟩
  · have hc10 := hc1; have hc1 := of_decide_eq_false hc1; have H := bF H hc1
    refine w_skip ?_
    refine hN8 _ _ ?_
    refine w_seq fun _ hN11 => ?_
    refine w_reg ?_
    refine stp hA (r_ldA (j := 1) [] [[.int .u32 r1.1], av .u8 32 r2.1, av .u8 32 r3.1, [.int .u32 r4.1], [.int .u32 r5.1], [.int .u32 r6.1]] [] Tryd.underlying87 rfl sz87 rfl hI rfl hA rfl rfl) rfl fun a hA => 
      o_st (j := 2) [] [[.int .u32 0], av .u8 32 (List.replicate 32 0), av .u8 32 (List.replicate 32 0), [.int .u32 0], [.int .u32 0], [.int .u32 0]] [[.int .u32 r1.1], av .u8 32 r2.1, av .u8 32 r3.1, [.int .u32 r4.1], [.int .u32 r5.1], [.int .u32 r6.1]] [] sz87 rfl rfl (fl_cons (one_one rfl) (fl_cons (one_av _ _ _) (fl_cons (one_av _ _ _) (fl_cons (one_one rfl) (fl_cons (one_one rfl) (fl_cons (one_one rfl) fl_nil)))))) hI rfl hA rfl rfl rfl rfl fun w hI => ?_
    refine o_nil ?_
    refine hN11 _ _ ?_
    refine w_ret ?_
    obtain rfl := Option.some.inj (bS H)
    exact retc Tryd.underlying87 rfl sz87 rfl hI (j := 2) rfl hA Tryd.results124 rfl ⟨_, rfl, vp13, vp14, μ7, rfl, ⟨hw1, hw2, hw3, hw4, hw5, hw6⟩, (Slc.le hp19 (fun _ _ h => h) hi7.le), hp20, (ErV.le (fun _ _ h => h) hi7.le hp21), (hI.sel [0] (by decide) rfl)⟩
set_option maxRecDepth 20000 in
theorem head_Read.c (μ : Store) (w0 : World) (hμ : Agr μ w0) (x0 : List Int) (u0 : Value) (hx0 : Slc (RI .u8) 1 μ u0 x0) (e0 : Value) (he0 : ErS μ e0 (Er.b 1)) (e8 : Value) (he8 : ErS μ e8 (Er.b 9)) (r : Head × Er) (H : head_Read.f x0 = some r) :
    Calls Tryd.prog 65 [u0].toArray w0 (fun e w' => ∃ v, e = .returned v ∧ ∃ (v1 : Value), v = .tuple #[.agg [[.int .u32 ((r.1).Version)], av .u8 32 ((r.1).Prev), av .u8 32 ((r.1).Root), [.int .u32 ((r.1).Time)], [.int .u32 ((r.1).Work)], [.int .u32 ((r.1).Nonce)]].flatten.toArray, v1] ∧ HeadW μ (r.1) ∧ ErS μ v1 (r.2) ∧ (r.2) ∈ ([(Er.b 0), xErrShape, xErrEnd] : List Er) ∧ Iv w0 [] μ μ [] w') := by
  refine enter Tryd.func65 rfl Tryd.ntmps65 rfl fun a hA => ?_
  have hI := Iv.start hμ
  have H := bI H
  refine w_seq fun _ hN1 => ?_
  refine w_reg ?_
  refine o_new [[.int .u32 0], av .u8 32 (List.replicate 32 0), av .u8 32 (List.replicate 32 0), [.int .u32 0], [.int .u32 0], [.int .u32 0]] zr87 hI hA rfl fun g1 a w hA hI hg1 => 
    stp hA (r_as hA rfl) rfl fun a hA => ?_
  refine o_nil ?_
  refine hN1 _ _ ?_
  refine w_seq fun _ hN2 => ?_
  refine w_reg ?_
  refine stp hA (r_mv hA rfl) rfl fun a hA => ?_
  obtain ⟨r1, hr1, H⟩ := bB H
  refine o_call _ cf25 hA rfl (compact_Read.c μ _ hI.agr x0 u0 hx0 r1 hr1) rfl fun v1 a w hz1 hA => ?_
  obtain ⟨g2, vp1, vp2, μ1, rfl, hp1, hp2, hp3, hi1⟩ := hz1
  have hI := hI.call hi1
  refine stp hA (r_as hA rfl) rfl fun a hA => ?_
  refine o_nil ?_
  refine hN2 _ _ ?_
  refine w_seq fun _ hN3 => ?_
  refine w_reg ?_
  refine stp hA (r_mv hA rfl) rfl fun a hA => ?_
  obtain ⟨r2, hr2, H⟩ := bB H
  refine o_call _ cf124 hA rfl (head_Take.c μ1 _ hI.agr r1 vp1 vp2 g2 hp1 hp2 hp3 (hI.handN 1) e8 (ErV.le (fun _ _ h => h) hi1.le he8) r2 hr2) rfl fun v2 a w hz2 hA => ?_
  obtain ⟨vp3, vp4, μ2, rfl, hw1, hp4, hp5, hp6, hi2⟩ := hz2
  have hI := hI.backN 1 hi2
  have hI : Iv w0 [] μ μ2 [cel g2 [[vp3], [.int .i64 r2.2.at_], [vp4]] 143, cel g1 [[.int .u32 0], av .u8 32 (List.replicate 32 0), av .u8 32 (List.replicate 32 0), [.int .u32 0], [.int .u32 0], [.int .u32 0]] 87] w := hI
  refine o_new [[.int .u32 0], av .u8 32 (List.replicate 32 0), av .u8 32 (List.replicate 32 0), [.int .u32 0], [.int .u32 0], [.int .u32 0]] zr87 hI hA rfl fun g3 a w hA hI hg3 => 
    o_st (j := 0) [] [[.int .u32 0], av .u8 32 (List.replicate 32 0), av .u8 32 (List.replicate 32 0), [.int .u32 0], [.int .u32 0], [.int .u32 0]] [[.int .u32 r2.1.Version], av .u8 32 r2.1.Prev, av .u8 32 r2.1.Root, [.int .u32 r2.1.Time], [.int .u32 r2.1.Work], [.int .u32 r2.1.Nonce]] [] sz87 rfl rfl (fl_cons (one_one rfl) (fl_cons (one_av _ _ _) (fl_cons (one_av _ _ _) (fl_cons (one_one rfl) (fl_cons (one_one rfl) (fl_cons (one_one rfl) fl_nil)))))) hI rfl hA rfl rfl rfl rfl fun w hI => ?_
  refine o_nil ?_
  refine hN3 _ _ ?_
  refine w_seq fun _ hN4 => ?_
  refine w_block ?_
  refine w_seq fun _ hN5 => ?_
  refine w_reg ?_
  refine stp hA (r_mv hA rfl) rfl fun a hA => ?_
  obtain ⟨r3, hr3, H⟩ := bB H
  have hI := hI.sel [1, 0, 2] (by decide) rfl
  refine o_call _ cf30 hA rfl (compact_Reader_Err.c μ2 _ hI.agr r2.2 vp3 vp4 g2 hp4 hp5 hp6 (hI.handN 1) r3 hr3) rfl fun v3 a w hz3 hA => ?_
  obtain ⟨_, μ3, rfl, hS1, hi3⟩ := hz3
  have hI := hI.backN 1 hi3
  have hI : Iv w0 [] μ μ3 [cel g2 [[vp3], [.int .i64 r2.2.at_], [vp4]] 143, cel g3 [[.int .u32 r2.1.Version], av .u8 32 r2.1.Prev, av .u8 32 r2.1.Root, [.int .u32 r2.1.Time], [.int .u32 r2.1.Work], [.int .u32 r2.1.Nonce]] 87, cel g1 [[.int .u32 0], av .u8 32 (List.replicate 32 0), av .u8 32 (List.replicate 32 0), [.int .u32 0], [.int .u32 0], [.int .u32 0]] 87] w := hI
  refine stp hA (r_neE erF hI.agr hS1 erv_nil (.inl ⟨.inr ⟨_, rfl⟩, Er.fitR⟩) hA rfl rfl) rfl fun a hA => 
    stp hA (r_as hA rfl) rfl fun a hA => ?_
  refine o_nil ?_
  refine hN5 _ _ ?_
  refine w_cond hA rfl (fun hc1 => ?_) (fun hc1 => ?_)
  · have hc10 := hc1; have hc1 := of_decide_eq_true hc1; have H := bT H hc1
    refine w_seq fun _ hN6 => ?_
    refine w_reg ?_
    refine stp hA (r_bldS (cs := [[.int .u32 0], av .u8 32 (List.replicate 32 0), av .u8 32 (List.replicate 32 0), [.int .u32 0], [.int .u32 0], [.int .u32 0]].flatten.toArray) (pl := [(0, 1), (1, 32), (33, 32), (65, 1), (66, 1), (67, 1)]) zr87 Tryd.underlying87 ⟨rfl, sz39, rfl, sz55, rfl, sz55, rfl, sz39, rfl, sz39, rfl, sz39, trivial⟩ hA rfl (by kernel_rfl)) rfl fun a hA => 
      stp hA (r_mv hA rfl) rfl fun a hA => ?_
    obtain ⟨r4, hr4, H⟩ := bB H
    refine o_call _ cf30 hA rfl (compact_Reader_Err.c μ3 _ hI.agr r2.2 vp3 vp4 g2 (Slc.le hp4 (fun _ _ h => h) hi3.le) hp5 (ErV.le (fun _ _ h => h) hi3.le hp6) (hI.handN 1) r4 hr4) rfl fun v4 a w hz4 hA => ?_
    obtain ⟨_, μ4, rfl, hS2, hi4⟩ := hz4
    have hI := hI.backN 1 hi4
    have hI : Iv w0 [] μ μ4 [cel g2 [[vp3], [.int .i64 r2.2.at_], [vp4]] 143, cel g3 [[.int .u32 r2.1.Version], av .u8 32 r2.1.Prev, av .u8 32 r2.1.Root, [.int .u32 r2.1.Time], [.int .u32 r2.1.Work], [.int .u32 r2.1.Nonce]] 87, cel g1 [[.int .u32 0], av .u8 32 (List.replicate 32 0), av .u8 32 (List.replicate 32 0), [.int .u32 0], [.int .u32 0], [.int .u32 0]] 87] w := hI
    refine o_st (j := 2) [] [[.int .u32 0], av .u8 32 (List.replicate 32 0), av .u8 32 (List.replicate 32 0), [.int .u32 0], [.int .u32 0], [.int .u32 0]] [[.int .u32 0], av .u8 32 (List.replicate 32 0), av .u8 32 (List.replicate 32 0), [.int .u32 0], [.int .u32 0], [.int .u32 0]] [] sz87 rfl rfl (fl_cons (one_one rfl) (fl_cons (one_av _ _ _) (fl_cons (one_av _ _ _) (fl_cons (one_one rfl) (fl_cons (one_one rfl) (fl_cons (one_one rfl) fl_nil)))))) hI rfl hA rfl rfl rfl rfl fun w hI => 
      stp hA (r_as hA rfl) rfl fun a hA => ?_
    refine o_nil ?_
    refine hN6 _ _ ?_
    refine w_ret ?_
    obtain ⟨hb1, H⟩ := bG H
    obtain rfl := Option.some.inj (bS H)
    exact retN hA Tryd.results65 (.cell rfl (cell_ld Tryd.underlying87 rfl sz87 rfl hI (j := 2) rfl) (.tmp rfl .nil)) ⟨_, rfl, v4, rfl, ⟨(in_lit .u32 0 rfl), (arr_zero _ _), (arr_zero _ _), (in_lit .u32 0 rfl), (in_lit .u32 0 rfl), (in_lit .u32 0 rfl)⟩, (ErV.low (((hi1.le.trans hi2.le).trans hi3.le).trans hi4.le) hS2 (show _ ∈ List.map Prod.fst [((Er.b 0 : Er), (.nilIface : Value)), (Er.b 1, e0), (Er.b 9, e8)] from hb1) (by simp only [List.forall_mem_cons]; exact ⟨⟨erv_nil, rfl⟩, ⟨he0, rfl⟩, ⟨he8, rfl⟩, by simp⟩)), hb1, ((hI.sel [] (by decide) rfl).less (Store.le.refl _) hI.le)⟩
  · have hc10 := hc1; have hc1 := of_decide_eq_false hc1; have H := bF H hc1
    refine w_seq fun _ hN7 => ?_
    refine w_reg ?_
    refine stp hA (r_mv hA rfl) rfl fun a hA => ?_
    obtain ⟨r5, hr5, H⟩ := bB H
    refine o_call _ cf28 hA rfl (compact_Reader_Left.c μ3 _ hI.agr r2.2 vp3 vp4 g2 (Slc.le hp4 (fun _ _ h => h) hi3.le) hp5 (ErV.le (fun _ _ h => h) hi3.le hp6) (hI.handN 1) r5 hr5) rfl fun v5 a w hz5 hA => ?_
    obtain ⟨rfl, hw2, hi5⟩ := hz5
    have hI := hI.backN 1 hi5
    have hI : Iv w0 [] μ μ3 [cel g2 [[vp3], [.int .i64 r2.2.at_], [vp4]] 143, cel g3 [[.int .u32 r2.1.Version], av .u8 32 r2.1.Prev, av .u8 32 r2.1.Root, [.int .u32 r2.1.Time], [.int .u32 r2.1.Work], [.int .u32 r2.1.Nonce]] 87, cel g1 [[.int .u32 0], av .u8 32 (List.replicate 32 0), av .u8 32 (List.replicate 32 0), [.int .u32 0], [.int .u32 0], [.int .u32 0]] 87] w := hI
    refine stp hA (r_gtr hA rfl rfl) rfl fun a hA => 
      stp hA (r_as hA rfl) rfl fun a hA => ?_
    refine o_nil ?_
    refine hN7 _ _ ?_
    refine w_cond hA rfl (fun hc2 => ?_) (fun hc2 => ?_)
    · have hc20 := hc2; have hc2 := of_decide_eq_true hc2; have H := bT H hc2
      refine w_seq fun _ hN8 => ?_
      refine w_anyS [] mo (fun w (h : Iv w0 [] μ μ3 [cel g2 [[vp3], [.int .i64 r2.2.at_], [vp4]] 143, cel g3 [[.int .u32 r2.1.Version], av .u8 32 r2.1.Prev, av .u8 32 r2.1.Root, [.int .u32 r2.1.Time], [.int .u32 r2.1.Work], [.int .u32 r2.1.Nonce]] 87, cel g1 [[.int .u32 0], av .u8 32 (List.replicate 32 0), av .u8 32 (List.replicate 32 0), [.int .u32 0], [.int .u32 0], [.int .u32 0]] 87] w) => (h.sel [0, 1, 2] (by decide) rfl : Iv w0 [] μ μ3 [cel g2 [[vp3], [.int .i64 r2.2.at_], [vp4]] 143, cel g3 [[.int .u32 r2.1.Version], av .u8 32 r2.1.Prev, av .u8 32 r2.1.Root, [.int .u32 r2.1.Time], [.int .u32 r2.1.Work], [.int .u32 r2.1.Nonce]] 87, cel g1 [[.int .u32 0], av .u8 32 (List.replicate 32 0), av .u8 32 (List.replicate 32 0), [.int .u32 0], [.int .u32 0], [.int .u32 0]] 87] w)) hI fun w hI => ?_
      refine g_take (i := 1) hA rfl rfl (by kernel_rfl) hI (fun w hI => r_ldG Tryd.underlying34 rfl hI.agr (ErV.le (fun _ _ h => h) ((hi1.le.trans hi2.le).trans hi3.le) he0) hA) rfl fun a hA => ?_
      refine g_forced (i := 0) rfl (by kernel_rfl) ?_
      refine stp hA (r_bldS (cs := [[.int .u32 0], av .u8 32 (List.replicate 32 0), av .u8 32 (List.replicate 32 0), [.int .u32 0], [.int .u32 0], [.int .u32 0]].flatten.toArray) (pl := [(0, 1), (1, 32), (33, 32), (65, 1), (66, 1), (67, 1)]) zr87 Tryd.underlying87 ⟨rfl, sz39, rfl, sz55, rfl, sz55, rfl, sz39, rfl, sz39, rfl, sz39, trivial⟩ hA rfl (by kernel_rfl)) rfl fun a hA => ?_
      refine o_nil ?_
      refine ⟨(.inr hI), ?_⟩
      refine g_forced (i := 2) rfl (by kernel_rfl) ?_
      refine o_st (j := 2) [] [[.int .u32 0], av .u8 32 (List.replicate 32 0), av .u8 32 (List.replicate 32 0), [.int .u32 0], [.int .u32 0], [.int .u32 0]] [[.int .u32 0], av .u8 32 (List.replicate 32 0), av .u8 32 (List.replicate 32 0), [.int .u32 0], [.int .u32 0], [.int .u32 0]] [] sz87 rfl rfl (fl_cons (one_one rfl) (fl_cons (one_av _ _ _) (fl_cons (one_av _ _ _) (fl_cons (one_one rfl) (fl_cons (one_one rfl) (fl_cons (one_one rfl) fl_nil)))))) hI rfl hA rfl rfl rfl rfl fun w hI => ?_
      refine o_nil ?_
      refine ⟨(.inr hI), ?_⟩
      refine g_easy (i := 3) hA rfl rfl (by kernel_rfl) (.inr hI) (fun _ => r_as hA rfl) rfl fun a hA => ?_
      refine g_nil (by kernel_rfl) ?_
      refine hN8 _ _ ?_
      refine w_ret ?_
      obtain ⟨hb2, H⟩ := bG H
      obtain rfl := Option.some.inj (bS H)
      exact retN hA Tryd.results65 (.cell rfl (cell_ld Tryd.underlying87 rfl sz87 rfl hI (j := 2) rfl) (.tmp rfl .nil)) ⟨_, rfl, e0, rfl, ⟨(in_lit .u32 0 rfl), (arr_zero _ _), (arr_zero _ _), (in_lit .u32 0 rfl), (in_lit .u32 0 rfl), (in_lit .u32 0 rfl)⟩, (ErV.low (Store.le.refl _) he0 (show _ ∈ List.map Prod.fst [((Er.b 0 : Er), (.nilIface : Value)), (Er.b 1, e0), (Er.b 9, e8)] from hb2) (by simp only [List.forall_mem_cons]; exact ⟨⟨erv_nil, rfl⟩, ⟨he0, rfl⟩, ⟨he8, rfl⟩, by simp⟩)), hb2, ((hI.sel [] (by decide) rfl).less (Store.le.refl _) hI.le)⟩
    · have hc20 := hc2; have hc2 := of_decide_eq_false hc2; have H := bF H hc2
      refine w_skip ?_
      refine hN4 _ _ ?_
      refine w_seq fun _ hN9 => ?_
      refine w_reg ?_
      refine stp hA (r_ldA (j := 1) [] [[.int .u32 r2.1.Version], av .u8 32 r2.1.Prev, av .u8 32 r2.1.Root, [.int .u32 r2.1.Time], [.int .u32 r2.1.Work], [.int .u32 r2.1.Nonce]] [] Tryd.underlying87 rfl sz87 rfl hI rfl hA rfl rfl) rfl fun a hA => 
        o_st (j := 2) [] [[.int .u32 0], av .u8 32 (List.replicate 32 0), av .u8 32 (List.replicate 32 0), [.int .u32 0], [.int .u32 0], [.int .u32 0]] [[.int .u32 r2.1.Version], av .u8 32 r2.1.Prev, av .u8 32 r2.1.Root, [.int .u32 r2.1.Time], [.int .u32 r2.1.Work], [.int .u32 r2.1.Nonce]] [] sz87 rfl rfl (fl_cons (one_one rfl) (fl_cons (one_av _ _ _) (fl_cons (one_av _ _ _) (fl_cons (one_one rfl) (fl_cons (one_one rfl) (fl_cons (one_one rfl) fl_nil)))))) hI rfl hA rfl rfl rfl rfl fun w hI => 
        stp hA (r_as hA rfl) rfl fun a hA => ?_
      refine o_nil ?_
      refine hN9 _ _ ?_
      refine w_ret ?_
      obtain ⟨hb3, H⟩ := bG H
      obtain rfl := Option.some.inj (bS H)
      exact retN hA Tryd.results65 (.cell rfl (cell_ld Tryd.underlying87 rfl sz87 rfl hI (j := 2) rfl) (.tmp rfl .nil)) ⟨_, rfl, .nilIface, rfl, ⟨hw1.1, hw1.2.1, hw1.2.2.1, hw1.2.2.2.1, hw1.2.2.2.2.1, hw1.2.2.2.2.2⟩, (ErV.low (Store.le.refl _) erv_nil (show _ ∈ List.map Prod.fst [((Er.b 0 : Er), (.nilIface : Value)), (Er.b 1, e0), (Er.b 9, e8)] from hb3) (by simp only [List.forall_mem_cons]; exact ⟨⟨erv_nil, rfl⟩, ⟨he0, rfl⟩, ⟨he8, rfl⟩, by simp⟩)), hb3, ((hI.sel [] (by decide) rfl).less (Store.le.refl _) hI.le)⟩
end Go.Proofs.YtpeelghbhihgkaaDoor.T
namespace Go.Proofs.YtpeelghbhihgkaaDoor.T
open Go Go.Proofs Go.Proofs.YtpeelghbhihgkaaDoor.K
set_option linter.unusedVariables false
set_option linter.unusedSimpArgs false
noncomputable def sargassolaw5_first.f : Option Bool := ((head_Bytes.f (⟨0, (List.replicate 32 0), (List.replicate 32 0), 0, 0, 0⟩ : Head)).bind fun r1 => some (decide ((r1.length : Int) = 80)))
end Go.Proofs.YtpeelghbhihgkaaDoor.T
namespace Go.Proofs.YtpeelghbhihgkaaDoor.T
open Go Go.Proofs Go.Proofs.YtpeelghbhihgkaaDoor.K
set_option linter.unusedVariables false
set_option linter.unusedSimpArgs false
set_option maxRecDepth 20000 in
theorem sargassolaw5_first.c (μ : Store) (w0 : World) (hμ : Agr μ w0) (r : Bool) (H : sargassolaw5_first.f = some r) :
    Calls Tryd.prog 62 [].toArray w0 (fun e w' => ∃ v, e = .returned v ∧ v = .bool r ∧ True ∧ Iv w0 [] μ μ [] w') := by
  refine enter Tryd.func62 rfl Tryd.ntmps62 rfl fun a hA => ?_
  have hI := Iv.start hμ
  have H := bI H
  refine w_seq fun _ hN1 => ?_
  refine w_reg ?_
  refine stp hA (r_as hA rfl) rfl fun a hA => ?_
  refine o_nil ?_
  refine hN1 _ _ ?_
  refine w_seq fun _ hN2 => ?_
  refine w_reg ?_
  refine stp hA (r_bldS (cs := [[.int .u32 0], av .u8 32 (List.replicate 32 0), av .u8 32 (List.replicate 32 0), [.int .u32 0], [.int .u32 0], [.int .u32 0]].flatten.toArray) (pl := [(0, 1), (1, 32), (33, 32), (65, 1), (66, 1), (67, 1)]) zr87 Tryd.underlying87 ⟨rfl, sz39, rfl, sz55, rfl, sz55, rfl, sz39, rfl, sz39, rfl, sz39, trivial⟩ hA rfl (by kernel_rfl)) rfl fun a hA => ?_
  obtain ⟨r1, hr1, H⟩ := bB H
  refine o_call _ cf64 hA rfl (head_Bytes.c μ _ hI.agr (⟨0, (List.replicate 32 0), (List.replicate 32 0), 0, 0, 0⟩ : Head) ⟨(in_lit .u32 0 rfl), (arr_zero _ _), (arr_zero _ _), (in_lit .u32 0 rfl), (in_lit .u32 0 rfl), (in_lit .u32 0 rfl)⟩ r1 hr1) rfl fun v1 a w hz1 hA => ?_
  obtain ⟨_, cs1, rfl, hE1, hi1⟩ := hz1
  have hI := hI.call hi1
  have hlen1 := Iv.row_in hI (j := 0) rfl
  refine stp hA (r_rlen (xs := 0) Tryd.underlying23 hI (j := 0) rfl hA rfl) rfl fun a hA => 
    stp hA (r_eql hA rfl rfl) rfl fun a hA => 
    stp hA (r_as hA rfl) rfl fun a hA => ?_
  refine o_nil ?_
  refine hN2 _ _ ?_
  refine w_ret ?_
  obtain rfl := Option.some.inj (bS H)
  exact ret1 hA Tryd.results62 rfl ⟨_, rfl, rfl, trivial, hI.forget0⟩
end Go.Proofs.YtpeelghbhihgkaaDoor.T
namespace Go.Proofs.YtpeelghbhihgkaaDoor.T
open Go Go.Proofs Go.Proofs.YtpeelghbhihgkaaDoor.K
set_option linter.unusedVariables false
set_option linter.unusedSimpArgs false
noncomputable def sargassolaw5_HeadBack.f (x0 : Head) (x1 : Int) (x2 : Int) : Option Bool := ((sargassolaw5_first.f).bind fun r1 => (if r1 = true then ((head_Bytes.f x0).bind fun r2 => (if (r2.length : Int) ≠ 80 then some false else ((head_Read.f r2).bind fun r3 => ((sargassoworld_Number.f x1 80).bind fun r4 => (if 0 ≤ r4 ∧ r4 ≤ (r2.length : Int) then ((head_Read.f ((r2.take (r4).toNat).drop (0 : Int).toNat)).bind fun r5 => ((sargassoref_Bytes.f r2).bind fun r6 => (if r6.length + 1 ≤ 140737488355328 then ((head_Read.f (r6 ++ ([1] : List Int))).bind fun r7 => ((sargassoworld_Number.f x2 640).bind fun r8 => (if 0 ≤ IntKind.i64.wrap (Int.tdiv r8 8) ∧ IntKind.i64.wrap (Int.tdiv r8 8) < (r2.length : Int) then (if 0 ≤ (IntKind.u64.wrap (Int.tmod r8 8)) then ((head_Read.f (r2.set (IntKind.i64.wrap (Int.tdiv r8 8)).toNat (bXor .u8 (r2.getD (IntKind.i64.wrap (Int.tdiv r8 8)).toNat 0) (sL .u8 1 (IntKind.u64.wrap (Int.tmod r8 8)))))).bind fun r9 => (((if r1 = true then (if r3.2 = (Er.b 0) then ((sargassoref_SameHead.f r3.1 x0).bind fun r10 => (if r10 = true then ((sargassosee_Is.f r5.2 101).bind fun r11 => (if r11 = true then ((sargassosee_Is.f r7.2 102).bind fun r12 => (if r12 = true then (if r9.2 = (Er.b 0) then ((sargassoref_SameHead.f r9.1 x0).bind fun r13 => some (!r13)) else some false) else some false)) else some false)) else some false)) else some false) else some false)).bind fun c1 => some c1)) else none) else none))) else none))) else none))))) else some false))
end Go.Proofs.YtpeelghbhihgkaaDoor.T
namespace Go.Proofs.YtpeelghbhihgkaaDoor.T
open Go Go.Proofs Go.Proofs.YtpeelghbhihgkaaDoor.K
set_option linter.unusedVariables false
set_option linter.unusedSimpArgs false
set_option maxRecDepth 20000 in
theorem sargassolaw5_HeadBack.c (μ : Store) (w0 : World) (hμ : Agr μ w0) (x0 : Head) (hx0 : HeadW μ x0) (x1 : Int) (hx1 : InR .i64 x1) (x2 : Int) (hx2 : InR .i64 x2) (hG : Gl μ) (r : Bool) (H : sargassolaw5_HeadBack.f x0 x1 x2 = some r) :
    Calls Tryd.prog 15 [.agg [[.int .u32 x0.Version], av .u8 32 x0.Prev, av .u8 32 x0.Root, [.int .u32 x0.Time], [.int .u32 x0.Work], [.int .u32 x0.Nonce]].flatten.toArray, .int .i64 x1, .int .i64 x2].toArray w0 (fun e w' => ∃ v, e = .returned v ∧ v = .bool r ∧ True ∧ Iv w0 [] μ μ [] w') := by
  refine enter Tryd.func15 rfl Tryd.ntmps15 rfl fun a hA => ?_
  have hI := Iv.start hμ
  have H := bI H
  obtain ⟨e0, he0⟩ := hG.g0
  obtain ⟨e8, he8⟩ := hG.g8
  refine w_seq fun _ hN1 => ?_
  refine w_reg ?_
  refine o_box [[.int .u32 x0.Version], av .u8 32 x0.Prev, av .u8 32 x0.Root, [.int .u32 x0.Time], [.int .u32 x0.Work], [.int .u32 x0.Nonce]] hI hA rfl rfl rfl fun g1 a w hA hI hg1 => 
    stp hA (r_as hA rfl) rfl fun a hA => ?_
  refine o_nil ?_
  refine hN1 _ _ ?_
  refine w_seq fun _ hN2 => ?_
  refine w_reg ?_
  obtain ⟨r1, hr1, H⟩ := bB H
  refine o_callp (u := .bool r1) cf62 hA rfl hI (sargassolaw5_first.c μ _ hI.agr  r1 hr1) rfl fun a w hz1 hI hA => 
    stp hA (r_as hA rfl) rfl fun a hA => ?_
  refine o_nil ?_
  refine hN2 _ _ ?_
  refine w_seq fun _ hN3 => ?_
  refine w_seq fun _ hN4 => ?_
  refine w_reg ?_
  refine stp hA (r_mv hA rfl) rfl fun a hA => 
    stp hA (r_not hA rfl) rfl fun a hA => ?_
  refine o_nil ?_
  refine hN4 _ _ ?_
  refine w_cond hA rfl (fun hc1 => ?_) (fun hc1 => ?_)
  · have hc10 := hc1; have hc1 := nT hc1; have hc1 := ft hc1; have H := bF H hc1
    refine w_seq fun _ hN5 => ?_
    refine w_reg ?_
    refine stp hA (r_as hA rfl) rfl fun a hA => ?_
    refine o_nil ?_
    refine hN5 _ _ ?_
    refine w_ret ?_
    obtain rfl := Option.some.inj (bS H)
    exact ret1 hA Tryd.results15 rfl ⟨_, rfl, rfl, trivial, hI.forget0⟩
  · have hc10 := hc1; have hc1 := nF hc1; have H := bT H hc1
    refine w_skip ?_
    refine hN3 _ _ ?_
    refine w_seq fun _ hN6 => ?_
    refine w_reg ?_
    refine stp hA (r_ldA (j := 0) [] [[.int .u32 x0.Version], av .u8 32 x0.Prev, av .u8 32 x0.Root, [.int .u32 x0.Time], [.int .u32 x0.Work], [.int .u32 x0.Nonce]] [] Tryd.underlying87 rfl sz87 rfl hI rfl hA rfl rfl) rfl fun a hA => ?_
    obtain ⟨r2, hr2, H⟩ := bB H
    refine o_call _ cf64 hA rfl (head_Bytes.c μ _ hI.agr x0 ⟨hx0.1, hx0.2.1, hx0.2.2.1, hx0.2.2.2.1, hx0.2.2.2.2.1, hx0.2.2.2.2.2⟩ r2 hr2) rfl fun v1 a w hz2 hA => ?_
    obtain ⟨_, cs1, rfl, hE1, hi1⟩ := hz2
    have hI := hI.call hi1
    refine stp hA (r_as hA rfl) rfl fun a hA => ?_
    refine o_nil ?_
    refine hN6 _ _ ?_
    refine w_seq fun _ hN7 => ?_
    refine w_seq fun _ hN8 => ?_
    refine w_reg ?_
    refine stp hA (r_mv hA rfl) rfl fun a hA => ?_
    have hlen1 := Iv.row_in hI (j := 0) rfl
    refine stp hA (r_rlen (xs := 0) Tryd.underlying23 hI (j := 0) rfl hA rfl) rfl fun a hA => 
      stp hA (r_neq hA rfl rfl) rfl fun a hA => ?_
    refine o_nil ?_
    refine hN8 _ _ ?_
    refine w_cond hA rfl (fun hc2 => ?_) (fun hc2 => ?_)
    · have hc20 := hc2; have hc2 := of_decide_eq_true hc2; have H := bT H hc2
      refine w_seq fun _ hN9 => ?_
      refine w_reg ?_
      refine stp hA (r_as hA rfl) rfl fun a hA => ?_
      refine o_nil ?_
      refine hN9 _ _ ?_
      refine w_ret ?_
      obtain rfl := Option.some.inj (bS H)
      exact ret1 hA Tryd.results15 rfl ⟨_, rfl, rfl, trivial, hI.forget0⟩
    · have hc20 := hc2; have hc2 := of_decide_eq_false hc2; have H := bF H hc2
      refine w_skip ?_
      refine hN7 _ _ ?_
      refine w_seq fun _ hN10 => ?_
      refine w_reg ?_
      refine stp hA (r_mv hA rfl) rfl fun a hA => ?_
      obtain ⟨r3, hr3, H⟩ := bB H
      refine o_call (fun v w' => ∃ (v1 : Value), v = .tuple #[.agg [[.int .u32 ((r3.1).Version)], av .u8 32 ((r3.1).Prev), av .u8 32 ((r3.1).Root), [.int .u32 ((r3.1).Time)], [.int .u32 ((r3.1).Work)], [.int .u32 ((r3.1).Nonce)]].flatten.toArray, v1] ∧ HeadW μ (r3.1) ∧ ErS μ v1 (r3.2) ∧ (r3.2) ∈ ([(Er.b 0), xErrShape, xErrEnd] : List Er) ∧ Iv w [] μ μ [] w') cf65 hA rfl ((by obtain ⟨μ1, hle1, hsv1, hI, hth1⟩ := hI.freezeRowT 0 rfl; have hS1 : Slc (RI .u8) 1 μ1 v1 r2 := ⟨_, hE1, hsv1⟩; exact (head_Read.c μ1 _ hI.agr r2 v1 hS1 e0 (ErV.le (fun _ _ h => h) hle1 he0) e8 (ErV.le (fun _ _ h => h) hle1 he8) r3 hr3).mono fun _ _ ⟨v, he, b0, hv, f0, f1, f2, hi⟩ => ⟨v, he, b0, hv, f0, (ErV.low hle1 f1 (show _ ∈ List.map Prod.fst [((Er.b 0 : Er), (.nilIface : Value)), (Er.b 1, e0), (Er.b 9, e8)] from f2) (by simp only [List.forall_mem_cons]; exact ⟨⟨erv_nil, rfl⟩, ⟨he0, rfl⟩, ⟨he8, rfl⟩, by simp⟩)), f2, hi.low hle1⟩)) rfl fun v2 a w hz3 hA => ?_
      obtain ⟨v3, rfl, hw1, hS2, hm1, hi2⟩ := hz3
      have hI := hI.call hi2
      refine stp hA (r_mv hA rfl) rfl fun a hA => 
        stp hA (r_extr (vs := [.agg [[.int .u32 r3.1.Version], av .u8 32 r3.1.Prev, av .u8 32 r3.1.Root, [.int .u32 r3.1.Time], [.int .u32 r3.1.Work], [.int .u32 r3.1.Nonce]].flatten.toArray, v3]) hA rfl rfl) rfl fun a hA => 
        stp hA (r_extr (vs := [.agg [[.int .u32 r3.1.Version], av .u8 32 r3.1.Prev, av .u8 32 r3.1.Root, [.int .u32 r3.1.Time], [.int .u32 r3.1.Work], [.int .u32 r3.1.Nonce]].flatten.toArray, v3]) hA rfl rfl) rfl fun a hA => 
        o_new [[.int .u32 0], av .u8 32 (List.replicate 32 0), av .u8 32 (List.replicate 32 0), [.int .u32 0], [.int .u32 0], [.int .u32 0]] zr87 hI hA rfl fun g2 a w hA hI hg2 => 
        o_st (j := 0) [] [[.int .u32 0], av .u8 32 (List.replicate 32 0), av .u8 32 (List.replicate 32 0), [.int .u32 0], [.int .u32 0], [.int .u32 0]] [[.int .u32 r3.1.Version], av .u8 32 r3.1.Prev, av .u8 32 r3.1.Root, [.int .u32 r3.1.Time], [.int .u32 r3.1.Work], [.int .u32 r3.1.Nonce]] [] sz87 rfl rfl (fl_cons (one_one rfl) (fl_cons (one_av _ _ _) (fl_cons (one_av _ _ _) (fl_cons (one_one rfl) (fl_cons (one_one rfl) (fl_cons (one_one rfl) fl_nil)))))) hI rfl hA rfl rfl rfl rfl fun w hI => 
        stp hA (r_as hA rfl) rfl fun a hA => ?_
      refine o_nil ?_
      refine hN10 _ _ ?_
      refine w_seq fun _ hN11 => ?_
      refine w_reg ?_
      refine stp hA (r_mv hA rfl) rfl fun a hA => 
        stp hA (r_mv hA rfl) rfl fun a hA => ?_
      obtain ⟨r4, hr4, H⟩ := bB H
      refine o_callp (u := .int .i64 r4) cf29 hA rfl hI (sargassoworld_Number.c μ _ hI.agr x1 hx1 80 (in_lit .i64 80 rfl) r4 hr4) rfl fun a w hz4 hI hA => ?_
      obtain ⟨μ2, hle2, hsv2, hI, hth2⟩ := hI.freezeRowT 1 rfl
      have hS3 : Slc (RI .u8) 1 μ2 v1 r2 := ⟨_, hE1, hsv2⟩
      obtain ⟨hb1, H⟩ := bG H
      obtain ⟨v4, hS4, hr5⟩ := r_sl (P := Tryd.prog) (t := 23) (x := .tmp 32) (l := none) (h := (some (.tmp 34))) (i := 0) (j := r4) Tryd.underlying23 sz5 hS3 hA rfl rfl rfl (by have hq := hb1; omega) (by have hq := hb1; omega) (by have hq := hb1; omega)
      refine stp hA (hr5 _ _ _ _ _ _) rfl fun a hA => ?_
      obtain ⟨r5, hr6, H⟩ := bB H
      refine o_call _ cf65 hA rfl (head_Read.c μ2 _ hI.agr ((r2.take (r4).toNat).drop (0 : Int).toNat) v4 hS4 e0 (ErV.le (fun _ _ h => h) hle2 he0) e8 (ErV.le (fun _ _ h => h) hle2 he8) r5 hr6) rfl fun v5 a w hz5 hA => ?_
      obtain ⟨v6, rfl, hw2, hS5, hm2, hi3⟩ := hz5
      have hI := hI.call hi3
      refine stp hA (r_mv hA rfl) rfl fun a hA => 
        stp hA (r_extr (vs := [.agg [[.int .u32 r5.1.Version], av .u8 32 r5.1.Prev, av .u8 32 r5.1.Root, [.int .u32 r5.1.Time], [.int .u32 r5.1.Work], [.int .u32 r5.1.Nonce]].flatten.toArray, v6]) hA rfl rfl) rfl fun a hA => 
        stp hA (r_extr (vs := [.agg [[.int .u32 r5.1.Version], av .u8 32 r5.1.Prev, av .u8 32 r5.1.Root, [.int .u32 r5.1.Time], [.int .u32 r5.1.Work], [.int .u32 r5.1.Nonce]].flatten.toArray, v6]) hA rfl rfl) rfl fun a hA => 
        o_new [[.int .u32 0], av .u8 32 (List.replicate 32 0), av .u8 32 (List.replicate 32 0), [.int .u32 0], [.int .u32 0], [.int .u32 0]] zr87 hI hA rfl fun g3 a w hA hI hg3 => 
        o_st (j := 0) [] [[.int .u32 0], av .u8 32 (List.replicate 32 0), av .u8 32 (List.replicate 32 0), [.int .u32 0], [.int .u32 0], [.int .u32 0]] [[.int .u32 r5.1.Version], av .u8 32 r5.1.Prev, av .u8 32 r5.1.Root, [.int .u32 r5.1.Time], [.int .u32 r5.1.Work], [.int .u32 r5.1.Nonce]] [] sz87 rfl rfl (fl_cons (one_one rfl) (fl_cons (one_av _ _ _) (fl_cons (one_av _ _ _) (fl_cons (one_one rfl) (fl_cons (one_one rfl) (fl_cons (one_one rfl) fl_nil)))))) hI rfl hA rfl rfl rfl rfl fun w hI => 
        stp hA (r_as hA rfl) rfl fun a hA => ?_
      refine o_nil ?_
      have hS6 : ErS μ v6 r5.2 := ErV.low hle2 hS5 (show _ ∈ List.map Prod.fst [((Er.b 0 : Er), (.nilIface : Value)), (Er.b 1, e0), (Er.b 9, e8)] from hm2) (by simp only [List.forall_mem_cons]; exact ⟨⟨erv_nil, rfl⟩, ⟨he0, rfl⟩, ⟨he8, rfl⟩, by simp⟩)
      have hS7 : ErS μ v6 r5.2 := ErV.low hle2 hS5 (show _ ∈ List.map Prod.fst [((Er.b 0 : Er), (.nilIface : Value)), (Er.b 1, e0), (Er.b 9, e8)] from hm2) (by simp only [List.forall_mem_cons]; exact ⟨⟨erv_nil, rfl⟩, ⟨he0, rfl⟩, ⟨he8, rfl⟩, by simp⟩)
      have hS8 : ErS μ v6 r5.2 := ErV.low hle2 hS5 (show _ ∈ List.map Prod.fst [((Er.b 0 : Er), (.nilIface : Value)), (Er.b 1, e0), (Er.b 9, e8)] from hm2) (by simp only [List.forall_mem_cons]; exact ⟨⟨erv_nil, rfl⟩, ⟨he0, rfl⟩, ⟨he8, rfl⟩, by simp⟩)
      have hS9 : ErS μ v6 r5.2 := ErV.low hle2 hS5 (show _ ∈ List.map Prod.fst [((Er.b 0 : Er), (.nilIface : Value)), (Er.b 1, e0), (Er.b 9, e8)] from hm2) (by simp only [List.forall_mem_cons]; exact ⟨⟨erv_nil, rfl⟩, ⟨he0, rfl⟩, ⟨he8, rfl⟩, by simp⟩)
      have hI := hth2 _ _ hI
      refine hN11 _ _ ?_
      refine w_seq fun _ hN12 => ?_
      refine w_reg ?_
      refine stp hA (r_mv hA rfl) rfl fun a hA => ?_
      obtain ⟨r6, hr7, H⟩ := bB H
      refine o_call (fun v w' => ∃ (v0 : Value) (c0 : List Value), v = v0 ∧ Els (RI .u8) 1 r6 c0 ∧ Iv w [] μ μ [row 5 1 v0 r6.length c0] w') cf26 hA rfl ((by obtain ⟨μ3, hle3, hsv3, hI, hth3⟩ := hI.freezeRowT 0 rfl; have hS10 : Slc (RI .u8) 1 μ3 v1 r2 := ⟨_, hE1, hsv3⟩; exact (sargassoref_Bytes.c μ3 _ hI.agr r2 v1 hS10 r6 hr7).mono fun _ _ ⟨v, he, b0, b1, hv, f0, hi⟩ => ⟨v, he, b0, b1, hv, f0, hi.low hle3⟩)) rfl fun v7 a w hz6 hA => ?_
      obtain ⟨_, cs2, rfl, hE2, hi4⟩ := hz6
      have hI := hI.call hi4
      have hE3 : Els (RI .u8) 1 ([1] : List Int) ([[.int .u8 1]].flatten ++ ([])) := (Els.cons (c := [[.int .u8 1]].flatten) ⟨rfl, (in_lit .u8 1 rfl)⟩ rfl Els.nil)
      refine o_bsl ([[.int .u8 1]].flatten ++ ([])) te5 zr5 Tryd.underlying23 hI hA rfl rfl rfl rfl (by kernel_rfl) rfl fun g4 a w hA hI => ?_
      generalize hcs : ([[.int .u8 1]].flatten ++ ([]) : List Value) = cs3 at hE3 hI
      clear hcs
      obtain ⟨hb2, H⟩ := bG H
      have hE5 := hE2.app hE3
      refine o_appL (xs := (r6 : List Int)) (ys := (([1] : List Int) : List Int)) (j := 1) te5 Tryd.underlying23 hI rfl hA rfl rfl (src_row hI (j := 0) rfl) hE3.len (hE3.ones (one_RI _)) (by first | decide | (have hq := hb2; (try simp only [List.length_cons, List.length_nil] at hq); (try simp only [List.length_cons, List.length_nil]); (try simp only [maxLen]); omega)) (by first | decide | (have hq := hb2; (try simp only [List.length_cons, List.length_nil] at hq); (try simp only [List.length_cons, List.length_nil]); (try simp only [maxLen]); omega)) rfl fun v8 a w hA hI => ?_
      obtain ⟨r7, hr8, H⟩ := bB H
      refine o_call (fun v w' => ∃ (v1 : Value), v = .tuple #[.agg [[.int .u32 ((r7.1).Version)], av .u8 32 ((r7.1).Prev), av .u8 32 ((r7.1).Root), [.int .u32 ((r7.1).Time)], [.int .u32 ((r7.1).Work)], [.int .u32 ((r7.1).Nonce)]].flatten.toArray, v1] ∧ HeadW μ (r7.1) ∧ ErS μ v1 (r7.2) ∧ (r7.2) ∈ ([(Er.b 0), xErrShape, xErrEnd] : List Er) ∧ Iv w [] μ μ [] w') cf65 hA rfl ((by obtain ⟨μ4, hle4, hsv5, hI, hth4⟩ := hI.freezeRowT 1 rfl; have hS11 : Slc (RI .u8) 1 μ4 v8 (r6 ++ ([1] : List Int)) := ⟨_, hE5, hsv5⟩; exact (head_Read.c μ4 _ hI.agr (r6 ++ ([1] : List Int)) v8 hS11 e0 (ErV.le (fun _ _ h => h) hle4 he0) e8 (ErV.le (fun _ _ h => h) hle4 he8) r7 hr8).mono fun _ _ ⟨v, he, b0, hv, f0, f1, f2, hi⟩ => ⟨v, he, b0, hv, f0, (ErV.low hle4 f1 (show _ ∈ List.map Prod.fst [((Er.b 0 : Er), (.nilIface : Value)), (Er.b 1, e0), (Er.b 9, e8)] from f2) (by simp only [List.forall_mem_cons]; exact ⟨⟨erv_nil, rfl⟩, ⟨he0, rfl⟩, ⟨he8, rfl⟩, by simp⟩)), f2, hi.low hle4⟩)) rfl fun v9 a w hz7 hA => ?_
      obtain ⟨v10, rfl, hw3, hS12, hm3, hi5⟩ := hz7
      have hI := hI.call hi5
      refine stp hA (r_mv hA rfl) rfl fun a hA => 
        stp hA (r_extr (vs := [.agg [[.int .u32 r7.1.Version], av .u8 32 r7.1.Prev, av .u8 32 r7.1.Root, [.int .u32 r7.1.Time], [.int .u32 r7.1.Work], [.int .u32 r7.1.Nonce]].flatten.toArray, v10]) hA rfl rfl) rfl fun a hA => 
        stp hA (r_extr (vs := [.agg [[.int .u32 r7.1.Version], av .u8 32 r7.1.Prev, av .u8 32 r7.1.Root, [.int .u32 r7.1.Time], [.int .u32 r7.1.Work], [.int .u32 r7.1.Nonce]].flatten.toArray, v10]) hA rfl rfl) rfl fun a hA => 
        o_new [[.int .u32 0], av .u8 32 (List.replicate 32 0), av .u8 32 (List.replicate 32 0), [.int .u32 0], [.int .u32 0], [.int .u32 0]] zr87 hI hA rfl fun g5 a w hA hI hg5 => 
        o_st (j := 0) [] [[.int .u32 0], av .u8 32 (List.replicate 32 0), av .u8 32 (List.replicate 32 0), [.int .u32 0], [.int .u32 0], [.int .u32 0]] [[.int .u32 r7.1.Version], av .u8 32 r7.1.Prev, av .u8 32 r7.1.Root, [.int .u32 r7.1.Time], [.int .u32 r7.1.Work], [.int .u32 r7.1.Nonce]] [] sz87 rfl rfl (fl_cons (one_one rfl) (fl_cons (one_av _ _ _) (fl_cons (one_av _ _ _) (fl_cons (one_one rfl) (fl_cons (one_one rfl) (fl_cons (one_one rfl) fl_nil)))))) hI rfl hA rfl rfl rfl rfl fun w hI => 
        stp hA (r_as hA rfl) rfl fun a hA => ?_
      refine o_nil ?_
      refine hN12 _ _ ?_
      refine w_seq fun _ hN13 => ?_
      refine w_reg ?_
      refine stp hA (r_mv hA rfl) rfl fun a hA => ?_
      obtain ⟨r8, hr9, H⟩ := bB H
      refine o_callp (u := .int .i64 r8) cf29 hA rfl hI (sargassoworld_Number.c μ _ hI.agr x2 hx2 640 (in_lit .i64 640 rfl) r8 hr9) rfl fun a w hz8 hI hA => 
        stp hA (r_as hA rfl) rfl fun a hA => ?_
      refine o_nil ?_
      refine hN13 _ _ ?_
      refine w_seq fun _ hN14 => ?_
      refine w_reg ?_
      refine stp hA (r_mv hA rfl) rfl fun a hA => 
        stp hA (r_mv hA rfl) rfl fun a hA => 
        stp hA (r_quo hA rfl rfl (by decide)) rfl fun a hA => 
        stp hA (r_mv hA rfl) rfl fun a hA => 
        stp hA (r_mv hA rfl) rfl fun a hA => 
        stp hA (r_quo hA rfl rfl (by decide)) rfl fun a hA => ?_
      obtain ⟨hb3, H⟩ := bG H
      refine stp hA (r_rix (j := 3) Tryd.underlying23 sz5 hI rfl hA rfl rfl hb3.1 hb3.2) rfl fun a hA => ?_
      have hq1 := els_get hE1 hb3.1 hb3.2
      refine stp hA (r_rld1 (j := 3) Tryd.underlying5 rfl hI rfl hq1 hA rfl (by simp only [Nat.mul_one])) rfl fun a hA => 
        stp hA (r_mv hA rfl) rfl fun a hA => 
        stp hA (r_rem hA rfl rfl (by decide)) rfl fun a hA => 
        stp hA (r_conv Tryd.underlying3 Tryd.underlying81 hA rfl) rfl fun a hA => ?_
      obtain ⟨hb4, H⟩ := bG H
      refine stp hA (r_shl hA rfl rfl hb4) rfl fun a hA => 
        stp hA (r_xor hA rfl rfl) rfl fun a hA => 
        stp hA (r_rix (j := 3) Tryd.underlying23 sz5 hI rfl hA rfl rfl hb3.1 hb3.2) rfl fun a hA => ?_
      have hE6 := els_set (x := (bXor .u8 (r2.getD (IntKind.i64.wrap (Int.tdiv r8 8)).toNat 0) (sL .u8 1 (IntKind.u64.wrap (Int.tmod r8 8))))) hE1 (IntKind.i64.wrap (Int.tdiv r8 8)).toNat (wrap_in _ _)
      refine o_rst (j := 3) (q := (IntKind.i64.wrap (Int.tdiv r8 8)).toNat) (z := (bXor .u8 (r2.getD (IntKind.i64.wrap (Int.tdiv r8 8)).toNat 0) (sL .u8 1 (IntKind.u64.wrap (Int.tmod r8 8))))) (xs := r2) sz5 hI rfl hA rfl rfl (by simp only [Nat.mul_one]) rfl (by omega) fun w hI => ?_
      refine o_nil ?_
      refine hN14 _ _ ?_
      refine w_seq fun _ hN15 => ?_
      refine w_reg ?_
      refine stp hA (r_mv hA rfl) rfl fun a hA => ?_
      obtain ⟨r9, hr10, H⟩ := bB H
      refine o_call (fun v w' => ∃ (v1 : Value), v = .tuple #[.agg [[.int .u32 ((r9.1).Version)], av .u8 32 ((r9.1).Prev), av .u8 32 ((r9.1).Root), [.int .u32 ((r9.1).Time)], [.int .u32 ((r9.1).Work)], [.int .u32 ((r9.1).Nonce)]].flatten.toArray, v1] ∧ HeadW μ (r9.1) ∧ ErS μ v1 (r9.2) ∧ (r9.2) ∈ ([(Er.b 0), xErrShape, xErrEnd] : List Er) ∧ Iv w [] μ μ [] w') cf65 hA rfl ((by obtain ⟨μ5, hle5, hsv6, hI, hth5⟩ := hI.freezeRowT 3 rfl; have hS13 : Slc (RI .u8) 1 μ5 v1 (r2.set (IntKind.i64.wrap (Int.tdiv r8 8)).toNat (bXor .u8 (r2.getD (IntKind.i64.wrap (Int.tdiv r8 8)).toNat 0) (sL .u8 1 (IntKind.u64.wrap (Int.tmod r8 8))))) := ⟨_, hE6, hsv6⟩; exact (head_Read.c μ5 _ hI.agr (r2.set (IntKind.i64.wrap (Int.tdiv r8 8)).toNat (bXor .u8 (r2.getD (IntKind.i64.wrap (Int.tdiv r8 8)).toNat 0) (sL .u8 1 (IntKind.u64.wrap (Int.tmod r8 8))))) v1 hS13 e0 (ErV.le (fun _ _ h => h) hle5 he0) e8 (ErV.le (fun _ _ h => h) hle5 he8) r9 hr10).mono fun _ _ ⟨v, he, b0, hv, f0, f1, f2, hi⟩ => ⟨v, he, b0, hv, f0, (ErV.low hle5 f1 (show _ ∈ List.map Prod.fst [((Er.b 0 : Er), (.nilIface : Value)), (Er.b 1, e0), (Er.b 9, e8)] from f2) (by simp only [List.forall_mem_cons]; exact ⟨⟨erv_nil, rfl⟩, ⟨he0, rfl⟩, ⟨he8, rfl⟩, by simp⟩)), f2, hi.low hle5⟩)) rfl fun v11 a w hz9 hA => ?_
      obtain ⟨v12, rfl, hw4, hS14, hm4, hi6⟩ := hz9
      have hI := hI.call hi6
      refine stp hA (r_mv hA rfl) rfl fun a hA => 
        stp hA (r_extr (vs := [.agg [[.int .u32 r9.1.Version], av .u8 32 r9.1.Prev, av .u8 32 r9.1.Root, [.int .u32 r9.1.Time], [.int .u32 r9.1.Work], [.int .u32 r9.1.Nonce]].flatten.toArray, v12]) hA rfl rfl) rfl fun a hA => 
        stp hA (r_extr (vs := [.agg [[.int .u32 r9.1.Version], av .u8 32 r9.1.Prev, av .u8 32 r9.1.Root, [.int .u32 r9.1.Time], [.int .u32 r9.1.Work], [.int .u32 r9.1.Nonce]].flatten.toArray, v12]) hA rfl rfl) rfl fun a hA => 
        o_new [[.int .u32 0], av .u8 32 (List.replicate 32 0), av .u8 32 (List.replicate 32 0), [.int .u32 0], [.int .u32 0], [.int .u32 0]] zr87 hI hA rfl fun g6 a w hA hI hg6 => 
        o_st (j := 0) [] [[.int .u32 0], av .u8 32 (List.replicate 32 0), av .u8 32 (List.replicate 32 0), [.int .u32 0], [.int .u32 0], [.int .u32 0]] [[.int .u32 r9.1.Version], av .u8 32 r9.1.Prev, av .u8 32 r9.1.Root, [.int .u32 r9.1.Time], [.int .u32 r9.1.Work], [.int .u32 r9.1.Nonce]] [] sz87 rfl rfl (fl_cons (one_one rfl) (fl_cons (one_av _ _ _) (fl_cons (one_av _ _ _) (fl_cons (one_one rfl) (fl_cons (one_one rfl) (fl_cons (one_one rfl) fl_nil)))))) hI rfl hA rfl rfl rfl rfl fun w hI => 
        stp hA (r_as hA rfl) rfl fun a hA => ?_
      refine o_nil ?_
      refine hN15 _ _ ?_
      obtain ⟨c1, hz10, Hk1⟩ := bB H
      refine w_cut (fun a w => Fr a 96 [(0, .agg [[.int .u32 x0.Version], av .u8 32 x0.Prev, av .u8 32 x0.Root, [.int .u32 x0.Time], [.int .u32 x0.Work], [.int .u32 x0.Nonce]].flatten.toArray), (1, .int .i64 x1), (2, .int .i64 x2), (3, .pointer (some ⟨g1, 0, none⟩)), (6, .bool c1), (7, .bool r1), (8, v1), (9, .pointer (some ⟨g2, 0, none⟩)), (10, v3), (12, v6), (14, v10), (15, .int .i64 r8), (16, .pointer (some ⟨g6, 0, none⟩)), (17, v12), (20, .bool (!r1)), (25, .bool (decide ((r2.length : Int) ≠ 80)))] ∧ Iv w0 [] μ μ [cel g6 [[.int .u32 r9.1.Version], av .u8 32 r9.1.Prev, av .u8 32 r9.1.Root, [.int .u32 r9.1.Time], [.int .u32 r9.1.Work], [.int .u32 r9.1.Nonce]] 87, cel g5 [[.int .u32 r7.1.Version], av .u8 32 r7.1.Prev, av .u8 32 r7.1.Root, [.int .u32 r7.1.Time], [.int .u32 r7.1.Work], [.int .u32 r7.1.Nonce]] 87, row 5 1 (.slice (some ⟨g4, 0, none⟩) 1 1) ([1] : List Int).length cs3, row 5 1 v8 (r6 ++ ([1] : List Int)).length (cs2 ++ cs3), row 5 1 v1 (r2.set (IntKind.i64.wrap (Int.tdiv r8 8)).toNat (bXor .u8 (r2.getD (IntKind.i64.wrap (Int.tdiv r8 8)).toNat 0) (sL .u8 1 (IntKind.u64.wrap (Int.tmod r8 8))))).length (cs1.set (IntKind.i64.wrap (Int.tdiv r8 8)).toNat (.int .u8 (bXor .u8 (r2.getD (IntKind.i64.wrap (Int.tdiv r8 8)).toNat 0) (sL .u8 1 (IntKind.u64.wrap (Int.tmod r8 8)))))), cel g3 [[.int .u32 r5.1.Version], av .u8 32 r5.1.Prev, av .u8 32 r5.1.Root, [.int .u32 r5.1.Time], [.int .u32 r5.1.Work], [.int .u32 r5.1.Nonce]] 87, cel g2 [[.int .u32 r3.1.Version], av .u8 32 r3.1.Prev, av .u8 32 r3.1.Root, [.int .u32 r3.1.Time], [.int .u32 r3.1.Work], [.int .u32 r3.1.Nonce]] 87, cel g1 [[.int .u32 x0.Version], av .u8 32 x0.Prev, av .u8 32 x0.Root, [.int .u32 x0.Time], [.int .u32 x0.Work], [.int .u32 x0.Nonce]] 87] w) ?_ ?_
      · have H := bI hz10
        refine w_reg ?_
        refine stp hA (r_mv hA rfl) rfl fun a hA => 
          stp hA (r_mv hA rfl) rfl fun a hA => ?_
        rcases Bool.eq_false_or_eq_true r1 with hc3 | hc3
        · have hc30 := hc3; have H := bT H hc3
          refine o_yes hA rfl rfl hc30 <| 
            stp hA (r_mv hA rfl) rfl fun a hA => 
            o_yes hA rfl rfl hc30 <| 
            stp hA (r_eqE erF hI.agr hS2 erv_nil (.inl ⟨.inr ⟨_, rfl⟩, Er.fitR⟩) hA rfl rfl) rfl fun a hA => 
            stp hA (r_pick_t hA rfl hc30 rfl) rfl fun a hA => 
            stp hA (r_mv hA rfl) rfl fun a hA => ?_
          rcases Bool.eq_false_or_eq_true (decide (r3.2 = (Er.b 0))) with hc4 | hc4
          · have hc40 := hc4; have hc4 := of_decide_eq_true hc4; have H := bT H hc4
            refine o_yes hA rfl rfl hc40 <| 
              stp hA (r_ldA (j := 6) [] [[.int .u32 r3.1.Version], av .u8 32 r3.1.Prev, av .u8 32 r3.1.Root, [.int .u32 r3.1.Time], [.int .u32 r3.1.Work], [.int .u32 r3.1.Nonce]] [] Tryd.underlying87 rfl sz87 rfl hI rfl hA rfl rfl) rfl fun a hA => 
              o_yes hA rfl rfl hc40 <| 
              stp hA (r_ldA (j := 7) [] [[.int .u32 x0.Version], av .u8 32 x0.Prev, av .u8 32 x0.Root, [.int .u32 x0.Time], [.int .u32 x0.Work], [.int .u32 x0.Nonce]] [] Tryd.underlying87 rfl sz87 rfl hI rfl hA rfl rfl) rfl fun a hA => 
              o_yes hA rfl rfl hc40 <| ?_
            obtain ⟨r10, hr11, H⟩ := bB H
            refine o_callp (u := .bool r10) cf66 hA rfl hI (sargassoref_SameHead.c μ _ hI.agr r3.1 ⟨hw1.1, hw1.2.1, hw1.2.2.1, hw1.2.2.2.1, hw1.2.2.2.2.1, hw1.2.2.2.2.2⟩ x0 ⟨hx0.1, hx0.2.1, hx0.2.2.1, hx0.2.2.2.1, hx0.2.2.2.2.1, hx0.2.2.2.2.2⟩ r10 hr11) rfl fun a w hz11 hI hA => 
              stp hA (r_pick_t hA rfl hc40 rfl) rfl fun a hA => 
              stp hA (r_mv hA rfl) rfl fun a hA => ?_
            rcases Bool.eq_false_or_eq_true r10 with hc5 | hc5
            · have hc50 := hc5; have H := bT H hc5
              refine o_yes hA rfl rfl hc50 <| 
                stp hA (r_mv hA rfl) rfl fun a hA => 
                o_yes hA rfl rfl hc50 <| ?_
              obtain ⟨r11, hr12, H⟩ := bB H
              refine o_callp (u := .bool r11) cf31 hA rfl hI (sargassosee_Is.c μ _ hI.agr r5.2 v6 hS9 101 (in_lit .i64 101 rfl) hG r11 hr12) rfl fun a w hz12 hI hA => 
                stp hA (r_pick_t hA rfl hc50 rfl) rfl fun a hA => 
                stp hA (r_mv hA rfl) rfl fun a hA => ?_
              rcases Bool.eq_false_or_eq_true r11 with hc6 | hc6
              · have hc60 := hc6; have H := bT H hc6
                refine o_yes hA rfl rfl hc60 <| 
                  stp hA (r_mv hA rfl) rfl fun a hA => 
                  o_yes hA rfl rfl hc60 <| ?_
                obtain ⟨r12, hr13, H⟩ := bB H
                refine o_callp (u := .bool r12) cf31 hA rfl hI (sargassosee_Is.c μ _ hI.agr r7.2 v10 hS12 102 (in_lit .i64 102 rfl) hG r12 hr13) rfl fun a w hz13 hI hA => 
                  stp hA (r_pick_t hA rfl hc60 rfl) rfl fun a hA => 
                  stp hA (r_mv hA rfl) rfl fun a hA => ?_
                rcases Bool.eq_false_or_eq_true r12 with hc7 | hc7
                · have hc70 := hc7; have H := bT H hc7
                  refine o_yes hA rfl rfl hc70 <| 
                    stp hA (r_mv hA rfl) rfl fun a hA => 
                    o_yes hA rfl rfl hc70 <| 
                    stp hA (r_eqE erF hI.agr hS14 erv_nil (.inl ⟨.inr ⟨_, rfl⟩, Er.fitR⟩) hA rfl rfl) rfl fun a hA => 
                    stp hA (r_pick_t hA rfl hc70 rfl) rfl fun a hA => 
                    stp hA (r_mv hA rfl) rfl fun a hA => ?_
                  rcases Bool.eq_false_or_eq_true (decide (r9.2 = (Er.b 0))) with hc8 | hc8
                  · have hc80 := hc8; have hc8 := of_decide_eq_true hc8; have H := bT H hc8
                    refine o_yes hA rfl rfl hc80 <| 
                      stp hA (r_ldA (j := 0) [] [[.int .u32 r9.1.Version], av .u8 32 r9.1.Prev, av .u8 32 r9.1.Root, [.int .u32 r9.1.Time], [.int .u32 r9.1.Work], [.int .u32 r9.1.Nonce]] [] Tryd.underlying87 rfl sz87 rfl hI rfl hA rfl rfl) rfl fun a hA => 
                      o_yes hA rfl rfl hc80 <| 
                      stp hA (r_ldA (j := 7) [] [[.int .u32 x0.Version], av .u8 32 x0.Prev, av .u8 32 x0.Root, [.int .u32 x0.Time], [.int .u32 x0.Work], [.int .u32 x0.Nonce]] [] Tryd.underlying87 rfl sz87 rfl hI rfl hA rfl rfl) rfl fun a hA => 
                      o_yes hA rfl rfl hc80 <| ?_
                    obtain ⟨r13, hr14, H⟩ := bB H
                    refine o_callp (u := .bool r13) cf66 hA rfl hI (sargassoref_SameHead.c μ _ hI.agr r9.1 ⟨hw4.1, hw4.2.1, hw4.2.2.1, hw4.2.2.2.1, hw4.2.2.2.2.1, hw4.2.2.2.2.2⟩ x0 ⟨hx0.1, hx0.2.1, hx0.2.2.1, hx0.2.2.2.1, hx0.2.2.2.2.1, hx0.2.2.2.2.2⟩ r13 hr14) rfl fun a w hz14 hI hA => 
                      o_yes hA rfl rfl hc80 <| 
                      stp hA (r_not hA rfl) rfl fun a hA => 
                      stp hA (r_pick_t hA rfl hc80 rfl) rfl fun a hA => 
                      stp hA (r_as hA rfl) rfl fun a hA => ?_
                    refine o_nil ?_
                    cases Option.some.inj (bS H)
                    exact ⟨hA.sub ⟨rfl, rfl, rfl, rfl, rfl, rfl, rfl, rfl, rfl, rfl, rfl, rfl, rfl, rfl, rfl, rfl, trivial⟩, hI⟩
                  · have hc80 := hc8; have hc8 := of_decide_eq_false hc8; have H := bF H hc8
                    refine o_no hA rfl rfl (by rw [hc80]; simp [vb]) rfl fun a hA => 
                      o_no hA rfl rfl (by rw [hc80]; simp [vb]) rfl fun a hA => 
                      o_no hA rfl rfl (by rw [hc80]; simp [vb]) rfl fun a hA => 
                      o_no hA rfl rfl (by rw [hc80]; simp [vb]) rfl fun a hA => 
                      stp hA (r_pick_f hA rfl hc80 rfl) rfl fun a hA => 
                      stp hA (r_as hA rfl) rfl fun a hA => ?_
                    refine o_nil ?_
                    cases Option.some.inj (bS H)
                    exact ⟨hA.sub ⟨rfl, rfl, rfl, rfl, rfl, rfl, rfl, rfl, rfl, rfl, rfl, rfl, rfl, rfl, rfl, rfl, trivial⟩, hI⟩
                · have hc70 := hc7; have hc7 := ft hc7; have H := bF H hc7
                  refine o_no hA rfl rfl (by rw [hc70]; simp [vb]) rfl fun a hA => 
                    o_no hA rfl rfl (by rw [hc70]; simp [vb]) rfl fun a hA => 
                    stp hA (r_pick_f hA rfl hc70 rfl) rfl fun a hA => 
                    stp hA (r_mv hA rfl) rfl fun a hA => 
                    o_no hA rfl rfl (by simp [vb]) rfl fun a hA => 
                    o_no hA rfl rfl (by simp [vb]) rfl fun a hA => 
                    o_no hA rfl rfl (by simp [vb]) rfl fun a hA => 
                    o_no hA rfl rfl (by simp [vb]) rfl fun a hA => 
                    stp hA (r_pick_f hA rfl rfl rfl) rfl fun a hA => 
                    stp hA (r_as hA rfl) rfl fun a hA => ?_
                  refine o_nil ?_
                  cases Option.some.inj (bS H)
                  exact ⟨hA.sub ⟨rfl, rfl, rfl, rfl, rfl, rfl, rfl, rfl, rfl, rfl, rfl, rfl, rfl, rfl, rfl, rfl, trivial⟩, hI⟩
              · have hc60 := hc6; have hc6 := ft hc6; have H := bF H hc6
                refine o_no hA rfl rfl (by rw [hc60]; simp [vb]) rfl fun a hA => 
                  o_no hA rfl rfl (by rw [hc60]; simp [vb]) rfl fun a hA => 
                  stp hA (r_pick_f hA rfl hc60 rfl) rfl fun a hA => 
                  stp hA (r_mv hA rfl) rfl fun a hA => 
                  o_no hA rfl rfl (by simp [vb]) rfl fun a hA => 
                  o_no hA rfl rfl (by simp [vb]) rfl fun a hA => 
                  stp hA (r_pick_f hA rfl rfl rfl) rfl fun a hA => 
                  stp hA (r_mv hA rfl) rfl fun a hA => 
                  o_no hA rfl rfl (by simp [vb]) rfl fun a hA => 
                  o_no hA rfl rfl (by simp [vb]) rfl fun a hA => 
                  o_no hA rfl rfl (by simp [vb]) rfl fun a hA => 
                  o_no hA rfl rfl (by simp [vb]) rfl fun a hA => 
                  stp hA (r_pick_f hA rfl rfl rfl) rfl fun a hA => 
                  stp hA (r_as hA rfl) rfl fun a hA => ?_
                refine o_nil ?_
                cases Option.some.inj (bS H)
                exact ⟨hA.sub ⟨rfl, rfl, rfl, rfl, rfl, rfl, rfl, rfl, rfl, rfl, rfl, rfl, rfl, rfl, rfl, rfl, trivial⟩, hI⟩
            · have hc50 := hc5; have hc5 := ft hc5; have H := bF H hc5
              refine o_no hA rfl rfl (by rw [hc50]; simp [vb]) rfl fun a hA => 
                o_no hA rfl rfl (by rw [hc50]; simp [vb]) rfl fun a hA => 
                stp hA (r_pick_f hA rfl hc50 rfl) rfl fun a hA => 
                stp hA (r_mv hA rfl) rfl fun a hA => 
                o_no hA rfl rfl (by simp [vb]) rfl fun a hA => 
                o_no hA rfl rfl (by simp [vb]) rfl fun a hA => 
                stp hA (r_pick_f hA rfl rfl rfl) rfl fun a hA => 
                stp hA (r_mv hA rfl) rfl fun a hA => 
                o_no hA rfl rfl (by simp [vb]) rfl fun a hA => 
                o_no hA rfl rfl (by simp [vb]) rfl fun a hA => 
                stp hA (r_pick_f hA rfl rfl rfl) rfl fun a hA => 
                stp hA (r_mv hA rfl) rfl fun a hA => 
                o_no hA rfl rfl (by simp [vb]) rfl fun a hA => 
                o_no hA rfl rfl (by simp [vb]) rfl fun a hA => 
                o_no hA rfl rfl (by simp [vb]) rfl fun a hA => 
                o_no hA rfl rfl (by simp [vb]) rfl fun a hA => 
                stp hA (r_pick_f hA rfl rfl rfl) rfl fun a hA => 
                stp hA (r_as hA rfl) rfl fun a hA => ?_
              refine o_nil ?_
              cases Option.some.inj (bS H)
              exact ⟨hA.sub ⟨rfl, rfl, rfl, rfl, rfl, rfl, rfl, rfl, rfl, rfl, rfl, rfl, rfl, rfl, rfl, rfl, trivial⟩, hI⟩
          · have hc40 := hc4; have hc4 := of_decide_eq_false hc4; have H := bF H hc4
            refine o_no hA rfl rfl (by rw [hc40]; simp [vb]) rfl fun a hA => 
              o_no hA rfl rfl (by rw [hc40]; simp [vb]) rfl fun a hA => 
              o_no hA rfl rfl (by rw [hc40]; simp [vb]) rfl fun a hA => 
              stp hA (r_pick_f hA rfl hc40 rfl) rfl fun a hA => 
              stp hA (r_mv hA rfl) rfl fun a hA => 
              o_no hA rfl rfl (by simp [vb]) rfl fun a hA => 
              o_no hA rfl rfl (by simp [vb]) rfl fun a hA => 
              stp hA (r_pick_f hA rfl rfl rfl) rfl fun a hA => 
              stp hA (r_mv hA rfl) rfl fun a hA => 
              o_no hA rfl rfl (by simp [vb]) rfl fun a hA => 
              o_no hA rfl rfl (by simp [vb]) rfl fun a hA => 
              stp hA (r_pick_f hA rfl rfl rfl) rfl fun a hA => 
              stp hA (r_mv hA rfl) rfl fun a hA => 
              o_no hA rfl rfl (by simp [vb]) rfl fun a hA => 
              o_no hA rfl rfl (by simp [vb]) rfl fun a hA => 
              stp hA (r_pick_f hA rfl rfl rfl) rfl fun a hA => 
              stp hA (r_mv hA rfl) rfl fun a hA => 
              o_no hA rfl rfl (by simp [vb]) rfl fun a hA => 
              o_no hA rfl rfl (by simp [vb]) rfl fun a hA => 
              o_no hA rfl rfl (by simp [vb]) rfl fun a hA => 
              o_no hA rfl rfl (by simp [vb]) rfl fun a hA => 
              stp hA (r_pick_f hA rfl rfl rfl) rfl fun a hA => 
              stp hA (r_as hA rfl) rfl fun a hA => ?_
            refine o_nil ?_
            cases Option.some.inj (bS H)
            exact ⟨hA.sub ⟨rfl, rfl, rfl, rfl, rfl, rfl, rfl, rfl, rfl, rfl, rfl, rfl, rfl, rfl, rfl, rfl, trivial⟩, hI⟩
        · have hc30 := hc3; have hc3 := ft hc3; have H := bF H hc3
          refine o_no hA rfl rfl (by rw [hc30]; simp [vb]) rfl fun a hA => 
            o_no hA rfl rfl (by rw [hc30]; simp [vb]) rfl fun a hA => 
            stp hA (r_pick_f hA rfl hc30 rfl) rfl fun a hA => 
            stp hA (r_mv hA rfl) rfl fun a hA => 
            o_no hA rfl rfl (by simp [vb]) rfl fun a hA => 
            o_no hA rfl rfl (by simp [vb]) rfl fun a hA => 
            o_no hA rfl rfl (by simp [vb]) rfl fun a hA => 
            stp hA (r_pick_f hA rfl rfl rfl) rfl fun a hA => 
            stp hA (r_mv hA rfl) rfl fun a hA => 
            o_no hA rfl rfl (by simp [vb]) rfl fun a hA => 
            o_no hA rfl rfl (by simp [vb]) rfl fun a hA => 
            stp hA (r_pick_f hA rfl rfl rfl) rfl fun a hA => 
            stp hA (r_mv hA rfl) rfl fun a hA => 
            o_no hA rfl rfl (by simp [vb]) rfl fun a hA => 
            o_no hA rfl rfl (by simp [vb]) rfl fun a hA => 
            stp hA (r_pick_f hA rfl rfl rfl) rfl fun a hA => 
            stp hA (r_mv hA rfl) rfl fun a hA => 
            o_no hA rfl rfl (by simp [vb]) rfl fun a hA => 
            o_no hA rfl rfl (by simp [vb]) rfl fun a hA => 
            stp hA (r_pick_f hA rfl rfl rfl) rfl fun a hA => 
            stp hA (r_mv hA rfl) rfl fun a hA => 
            o_no hA rfl rfl (by simp [vb]) rfl fun a hA => 
            o_no hA rfl rfl (by simp [vb]) rfl fun a hA => 
            o_no hA rfl rfl (by simp [vb]) rfl fun a hA => 
            o_no hA rfl rfl (by simp [vb]) rfl fun a hA => 
            stp hA (r_pick_f hA rfl rfl rfl) rfl fun a hA => 
            stp hA (r_as hA rfl) rfl fun a hA => ?_
          refine o_nil ?_
          cases Option.some.inj (bS H)
          exact ⟨hA.sub ⟨rfl, rfl, rfl, rfl, rfl, rfl, rfl, rfl, rfl, rfl, rfl, rfl, rfl, rfl, rfl, rfl, trivial⟩, hI⟩
      · rintro a w ⟨hA, hI⟩
        have H := Hk1
        refine w_ret ?_
        obtain rfl := Option.some.inj (bS H)
        exact ret1 hA Tryd.results15 rfl ⟨_, rfl, rfl, trivial, hI.forget0⟩
end Go.Proofs.YtpeelghbhihgkaaDoor.T
namespace Go.Proofs.YtpeelghbhihgkaaDoor.T
open Go Go.Proofs Go.Proofs.YtpeelghbhihgkaaDoor.K
set_option linter.unusedVariables false
theorem w64 {x : Int} (h0 : -9223372036854775808 ≤ x) (h1 : x < 9223372036854775808) : IntKind.i64.wrap x = x := wrap_id ⟨h0, h1⟩
theorem wu64 {x : Int} (h0 : 0 ≤ x) (h1 : x < 18446744073709551616) : IntKind.u64.wrap x = x := wrap_id ⟨h0, h1⟩
theorem wu32 {x : Int} (h0 : 0 ≤ x) (h1 : x < 4294967296) : IntKind.u32.wrap x = x := wrap_id ⟨h0, h1⟩
theorem number_eq {x n : Int} (hx : InR .i64 x) (h0 : 0 < n) (h1 : n < 9223372036854775808) : ∃ y, sargassoworld_Number.f x n = some y ∧ 0 ≤ y ∧ y < n := by
  obtain ⟨a, b⟩ := hx
  have hn : n ≠ 0 := by omega
  unfold sargassoworld_Number.f
  rw [if_pos hn]
  have hb : -n < Int.tmod x n ∧ Int.tmod x n < n := by
    rcases Int.le_total 0 x with h | h
    · rw [Int.tmod_eq_emod_of_nonneg h]; have := Int.emod_nonneg x hn; have := Int.emod_lt_of_pos x h0; omega
    · have e : Int.tmod x n = -(Int.tmod (-x) n) := by rw [Int.neg_tmod, Int.neg_neg]
      rw [e, Int.tmod_eq_emod_of_nonneg (by omega)]; have := Int.emod_nonneg (-x) hn; have := Int.emod_lt_of_pos (-x) h0; omega
  by_cases hc : Int.tmod x n < 0
  · rw [if_pos hc]
    exact ⟨_, rfl, by rw [w64 (by omega) (by omega)]; omega, by rw [w64 (by omega) (by omega)]; omega⟩
  · rw [if_neg hc]
    exact ⟨_, rfl, by omega, by omega⟩
end Go.Proofs.YtpeelghbhihgkaaDoor.T
namespace Go.Proofs.YtpeelghbhihgkaaDoor.T
open Go Go.Proofs Go.Proofs.YtpeelghbhihgkaaDoor.K
set_option linter.unusedVariables false
set_option linter.unusedSimpArgs false
theorem loop_idx {τ ρ : Type} {step : τ → Option (τ ⊕ ρ)} (st : Nat → τ) (n : Nat) (h : ∀ i, i < n → step (st i) = some (.inl (st (i + 1)))) : loopO step (st 0) = loopO step (st n) := by
  induction n with
  | zero => rfl
  | succ n ih => rw [ih (fun i hi => h i (by omega)), loopO_inl (h n (by omega))]
theorem loop_run {τ ρ : Type} {step : τ → Option (τ ⊕ ρ)} (st : Nat → τ) (n : Nat) {r : ρ} {s : τ} (h0 : s = st 0) (h : ∀ i, i < n → step (st i) = some (.inl (st (i + 1)))) (hn : step (st n) = some (.inr r)) : loopO step s = some r := by
  rw [h0, loop_idx st n h, loopO_inr hn]
theorem bv_nat (n a : Nat) (h : a < 2 ^ n) : (BitVec.ofInt n (a : Int)).toNat = a := by
  rw [BitVec.toNat_ofInt]
  have : ((a : Int) % ((2 ^ n : Nat) : Int)) = a := Int.emod_eq_of_lt (by omega) (by exact_mod_cast h)
  rw [this]
  rfl
theorem in_u (k : IntKind) (hk : k.signed = false) {a : Nat} (h : a < 2 ^ k.bits) : InR k (a : Int) := by
  cases k <;> simp [IntKind.signed] at hk <;> simp [IntKind.bits] at h <;> simp [InR] <;> omega
theorem bOr_nat (k : IntKind) (hk : k.signed = false) {a b : Nat} (ha : a < 2 ^ k.bits) (hb : b < 2 ^ k.bits) : bOr k a b = ((a ||| b : Nat) : Int) := by
  unfold bOr
  rw [BitVec.toNat_or, bv_nat _ _ ha, bv_nat _ _ hb]
  exact wrap_id (in_u k hk (Nat.or_lt_two_pow ha hb))
theorem bXor_nat (k : IntKind) (hk : k.signed = false) {a b : Nat} (ha : a < 2 ^ k.bits) (hb : b < 2 ^ k.bits) : bXor k a b = ((a ^^^ b : Nat) : Int) := by
  unfold bXor
  rw [BitVec.toNat_xor, bv_nat _ _ ha, bv_nat _ _ hb]
  exact wrap_id (in_u k hk (Nat.xor_lt_two_pow ha hb))
theorem sR_nat (k : IntKind) {a n : Nat} (hn : n ≤ k.bits) : sR k (a : Int) (n : Int) = ((a >>> n : Nat) : Int) := by
  unfold sR
  have e : min (n : Int).toNat k.bits = n := by simp; omega
  rw [e, Nat.shiftRight_eq_div_pow]
  rw [Int.fdiv_eq_ediv_of_nonneg _ (by exact Int.pow_nonneg (by omega))]
  push_cast
  rfl
theorem nat_of {k : IntKind} (hk : k.signed = false) {x : Int} (h : InR k x) : ∃ a : Nat, x = a ∧ a < 2 ^ k.bits := by
  refine ⟨x.toNat, ?_, ?_⟩
  · cases k <;> simp [IntKind.signed] at hk <;> simp [InR] at h <;> omega
  · cases k <;> simp [IntKind.signed] at hk <;> simp [InR] at h <;> simp [IntKind.bits] <;> omega
end Go.Proofs.YtpeelghbhihgkaaDoor.T
namespace Go.Proofs.YtpeelghbhihgkaaDoor.T
open Go Go.Proofs Go.Proofs.YtpeelghbhihgkaaDoor.K
set_option linter.unusedVariables false
set_option linter.unusedSimpArgs false
def kc : List Int := digest_keys.lit0
def zs (n : Nat) : Nat := (120 - n % 64) % 64
end Go.Proofs.YtpeelghbhihgkaaDoor.T
namespace Go.Proofs.YtpeelghbhihgkaaDoor.T
open Go Go.Proofs Go.Proofs.YtpeelghbhihgkaaDoor.K
set_option linter.unusedVariables false
set_option linter.unusedSimpArgs false
theorem range_map_succ {α : Type} (f : Nat → α) (i : Nat) : (List.range (i + 1)).map f = (List.range i).map f ++ [f i] := by rw [List.range_succ, List.map_append]; rfl
end Go.Proofs.YtpeelghbhihgkaaDoor.T
namespace Go.Proofs.YtpeelghbhihgkaaDoor.T
open Go Go.Proofs Go.Proofs.YtpeelghbhihgkaaDoor.K
set_option linter.unusedVariables false
set_option linter.unusedSimpArgs false
theorem winc (i : Nat) (hi : i < 9223372036854775807) : IntKind.i64.wrap ((i : Int) + 1) = ((i + 1 : Nat) : Int) := by
  rw [w64 (by omega) (by omega)]; omega
theorem take_next {α : Type} (xs : List α) (i : Nat) (d : α) (h : i < xs.length) : xs.take i ++ [xs.getD i d] = xs.take (i + 1) := by
  rw [List.take_add_one]
  simp [List.getD, h]
theorem copy_run {α : Type} {step : (List α × Int) → Option ((List α × Int) ⊕ List α)} (xs : List α) (d : α) (h : xs.length < 9223372036854775807)
    (hs : ∀ i, i < xs.length → step (xs.take i, (i : Int)) = some (.inl (xs.take i ++ [xs.getD i d], IntKind.i64.wrap ((i : Int) + 1)))) (hn : step (xs, (xs.length : Int)) = some (.inr xs)) : loopO step ([], 0) = some xs :=
  loop_run (fun i => (xs.take i, (i : Int))) xs.length rfl (fun i hi => by
    rw [hs i hi, take_next _ _ _ hi, winc i (by omega)]) (by simpa using hn)
theorem bytes_eq (xs : List Int) (h : xs.length ≤ 140737488355328) : sargassoref_Bytes.f xs = some xs := by
  unfold sargassoref_Bytes.f
  rw [if_pos ⟨by omega, by omega, by omega⟩]
  simp only [Int.toNat_zero, List.replicate_zero]
  rw [copy_run xs 0 (by omega) (fun i hi => by
    simp only [sargassoref_Bytes.s0]
    rw [if_pos (by omega), if_pos (by omega), if_pos (by simp; omega), Int.toNat_natCast]) (by simp [sargassoref_Bytes.s0])]
  rfl
theorem all_run {step : Int → Option (Int ⊕ Bool)} (n : Nat) (p : Nat → Prop) [DecidablePred p] (hn : n < 9223372036854775807)
    (hs : ∀ i, i < n → step (i : Int) = if p i then some (.inl (IntKind.i64.wrap ((i : Int) + 1))) else some (.inr false)) (he : step (n : Int) = some (.inr true)) : loopO step 0 = some (decide (∀ i, i < n → p i)) := by
  have key : ∀ m k, m + k = n → (∀ i, i < k → p i) → loopO step (k : Int) = some (decide (∀ i, i < n → p i)) := by
    intro m
    induction m with
    | zero =>
      intro k e h
      obtain rfl : k = n := by omega
      rw [loopO_inr he]
      congr 1
      exact (decide_eq_true h).symm
    | succ m ih =>
      intro k e h
      have h1 := hs k (by omega)
      by_cases hp : p k
      · rw [if_pos hp, winc k (by omega)] at h1
        rw [loopO_inl h1]
        refine ih (k + 1) (by omega) fun i hi => ?_
        rcases Nat.lt_or_ge i k with h2 | h2
        · exact h i h2
        · obtain rfl : i = k := by omega
          exact hp
      · rw [if_neg hp] at h1
        rw [loopO_inr h1]
        have : ¬ ∀ i, i < n → p i := fun h2 => hp (h2 k (by omega))
        simp [this]
  exact key n 0 (by omega) (by simp)
theorem ext_iff {α : Type} (xs ys : List α) (d : α) (h : xs.length = ys.length) : (∀ i, i < xs.length → xs.getD i d = ys.getD i d) ↔ xs = ys := by
  constructor
  · intro hh
    apply List.ext_getElem h
    intro i h1 h2
    have := hh i h1
    simpa [List.getD, h1, h2] using this
  · rintro rfl i _
    rfl
theorem samehash_eq (a b : List Int) (ha : a.length = 32) (hb : b.length = 32) : sargassoref_SameHash.f a b = some (decide (a = b)) := by
  unfold sargassoref_SameHash.f
  rw [all_run 32 (fun i => a.getD i 0 = b.getD i 0) (by omega) (fun i hi => by
    simp only [sargassoref_SameHash.s0, Int.toNat_natCast]
    rw [if_pos (by omega), if_pos (by omega)]
    by_cases h : a.getD i 0 = b.getD i 0
    · rw [if_neg (by simpa using h), if_pos h]
    · rw [if_pos h, if_neg h]) (by simp [sargassoref_SameHash.s0])]
  congr 2
  apply propext
  have := ext_iff a b 0 (by rw [ha, hb])
  rw [ha] at this
  exact this
end Go.Proofs.YtpeelghbhihgkaaDoor.T
namespace Go.Proofs.YtpeelghbhihgkaaDoor.T
open Go Go.Proofs Go.Proofs.YtpeelghbhihgkaaDoor.K
set_option linter.unusedVariables false
set_option linter.unusedSimpArgs false
def Hs (l : List (List Int)) : Prop := ∀ x ∈ l, x.length = 32
theorem Hs.at {l : List (List Int)} (h : Hs l) {i : Nat} (hi : i < l.length) : (l.getD i []).length = 32 := by
  have e : l.getD i [] = l[i] := by simp [List.getD, hi]
  rw [e]; exact h _ (List.getElem_mem hi)
theorem concat_eq (l : List (List Int)) (hn : l.length ≤ 1000) (hl : ∀ x ∈ l, x.length ≤ 1000) : slices_Concat_byte_byte.f l = some l.flatten := by
  have hpre : ∀ i, i ≤ l.length → ((l.take i).flatten.length ≤ 1000 * i) := by
    intro i
    induction i with
    | zero => intro _; simp
    | succ i ih =>
      intro hi
      have h1 := ih (by omega)
      have h2 : (l.getD i []).length ≤ 1000 := by
        have e : l.getD i [] = l[i] := by simp [List.getD, show i < l.length by omega]
        rw [e]; exact hl _ (List.getElem_mem _)
      rw [← take_next l i [] (by omega), List.flatten_append, List.length_append]
      simp only [List.flatten_cons, List.flatten_nil, List.append_nil]
      omega
  have hel : ∀ i, i < l.length → (l.getD i []).length ≤ 1000 := fun i hi => by
    have e : l.getD i [] = l[i] := by simp [List.getD, hi]
    rw [e]; exact hl _ (List.getElem_mem _)
  have hnext : ∀ i, i < l.length → (l.take (i + 1)).flatten = (l.take i).flatten ++ l.getD i [] := fun i hi => by
    rw [← take_next l i [] hi, List.flatten_append]; simp
  have h0 : loopO (slices_Concat_byte_byte.s0 l) (0, 0) = some ((l.flatten.length : Int)) := by
    refine loop_run (fun i => (((l.take i).flatten.length : Int), (i : Int))) l.length (by simp) (fun i hi => ?_) ?_
    · have a := hpre i (by omega)
      have b := hel i hi
      simp only [slices_Concat_byte_byte.s0, Int.toNat_natCast]
      rw [if_pos (by omega), if_pos (by omega), w64 (x := ((l.take i).flatten.length : Int) + ((l.getD i []).length : Int)) (by omega) (by omega), if_neg (by omega), Option.bind_some, winc i (by omega), hnext i hi, List.length_append]
      push_cast
      rfl
    · simp only [slices_Concat_byte_byte.s0]
      rw [if_neg (by omega), List.take_length]
  have h1 : loopO (slices_Concat_byte_byte.s1 l) ([], 0) = some l.flatten := by
    refine loop_run (fun i => ((l.take i).flatten, (i : Int))) l.length (by simp) (fun i hi => ?_) ?_
    · have a := hpre i (by omega)
      have b := hel i hi
      simp only [slices_Concat_byte_byte.s1, Int.toNat_natCast]
      rw [if_pos (by omega), if_pos (by omega), if_pos (by omega), winc i (by omega), hnext i hi]
    · simp only [slices_Concat_byte_byte.s1]
      rw [if_neg (by omega), List.take_length]
  have a := hpre l.length (by omega)
  rw [List.take_length] at a
  simp only [slices_Concat_byte_byte.f, slices_Grow_byte_byte.f, h0, Option.bind_some]
  rw [if_pos (by omega), Option.bind_some, h1, Option.bind_some]
end Go.Proofs.YtpeelghbhihgkaaDoor.T
