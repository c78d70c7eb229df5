/- Proved: the statement CompactBack, as given (its conditions are those of the given row, and card where there is one; no others): the call ends, with true, and the input reads as it did. This file is one of its parts. -/
import Derived.Test.YtpeelghbhihgkaaDoorPCompactBack1
import Derived.OpenShut
import Derived.ChangeArms
import Derived.DataReads
import Derived.WideShapes
import Derived.Below
import Derived.Carry
import Derived.ChangeOld
import Derived.LaidLaws
import Derived.Stop.ErrReads
import Derived.ChangeVars
namespace Go.Proofs.YtpeelghbhihgkaaDoor.T
open Go Go.Proofs Go.Proofs.YtpeelghbhihgkaaDoor.K
set_option linter.unusedVariables false
set_option linter.unusedSimpArgs false
set_option maxRecDepth 20000 in
theorem sargassoref_Bytes.c (μ : Store) (w0 : World) (hμ : Agr μ w0) (x0 : List Int) (u0 : Value) (hx0 : Slc (RI .u8) 1 μ u0 x0) (r : List Int) (H : sargassoref_Bytes.f x0 = some r) :
    Calls Tryd.prog 26 [u0].toArray w0 (fun e w' => ∃ v, e = .returned v ∧ ∃ (v0 : Value) (c0 : List Value), v = v0 ∧ Els (RI .u8) 1 r c0 ∧ Iv w0 [] μ μ [row 5 1 v0 r.length c0] w') := by
  refine enter Tryd.func26 rfl Tryd.ntmps26 rfl fun a hA => ?_
  have hI := Iv.start hμ
  have H := bI H
  refine w_seq fun _ hN1 => ?_
  refine w_reg ?_
  refine stp hA (r_as hA rfl) rfl fun a hA => ?_
  refine o_nil ?_
  refine hN1 _ _ ?_
  refine w_seq fun _ hN2 => ?_
  refine w_reg ?_
  refine stp hA (r_mv hA rfl) rfl fun a hA => ?_
  obtain ⟨_, hsl1⟩ := Slc.sv hx0
  refine stp hA (r_slen Tryd.underlying23 hsl1 hA rfl) rfl fun a hA => ?_
  obtain ⟨hb1, H⟩ := bG H
  refine o_make (RE := (RI .u8)) (c0 := [[.int .u8 0]].flatten) (z0 := 0) ⟨rfl, (in_lit .u8 0 rfl)⟩ te5 rfl zr5 Tryd.underlying23 hI hA rfl rfl (by have hq := hb1; simp only [maxLen]; omega) rfl fun g1 cs1 a w hE1 hA hI => 
    stp hA (r_as hA rfl) rfl fun a hA => ?_
  refine o_nil ?_
  refine hN2 _ _ ?_
  obtain ⟨c1, hz1, Hk1⟩ := bB H
  refine w_cut (fun a w => ∃ (vvc1 : Value) (ccc1 : List Value), Els (RI .u8) 1 c1 ccc1 ∧ Fr a 22 [(0, u0), (2, (.slice none 0 0)), (3, vvc1)] ∧ Iv w0 [] μ μ [row 5 1 vvc1 c1.length ccc1] w) ?_ ?_
  · have H := bI hz1
    refine w_seq fun _ hN3 => ?_
    refine w_reg ?_
    refine stp hA (r_as hA rfl) rfl fun a hA => ?_
    refine o_nil ?_
    refine hN3 _ _ ?_
    refine w_block ?_
    obtain ⟨z1, hz2, Hk2⟩ := bind_some H
    obtain ⟨n1, hn1⟩ := loopO_some hz2
    refine w_loop (fun n a w => ∃ (s1 : List Int) (s2 : Int) (vvs1 : Value) (ccs1 : List Value), loopN (sargassoref_Bytes.s0 x0) n (s1, s2) = some z1 ∧ Els (RI .u8) 1 s1 ccs1 ∧ InR .i64 s2 ∧ Fr a 22 [(0, u0), (2, (.slice none 0 0)), (3, vvs1), (4, .int .i64 s2)] ∧ Iv w0 [] μ μ [row 5 1 vvs1 s1.length ccs1] w) n1 ⟨(List.replicate ((0 : Int).toNat) 0 : List Int), 0, (.slice (some ⟨g1, 0, none⟩) ((0 : Int).toNat) (((x0.length : Int)).toNat)), cs1, hn1, hE1, (in_lit .i64 0 rfl), hA.sub ⟨rfl, rfl, rfl, rfl, trivial⟩, hI⟩ ?_
    clear hA hI
    rintro n a w ⟨s1, s2, vvs1, ccs1, hn1, ws1, ws2, hA, hI⟩
    obtain ⟨m1, rfl, H⟩ := loopN_bind hn1
    clear hn1
    refine w_seq fun _ hN4 => ?_
    refine w_seq fun _ hN5 => ?_
    refine w_reg ?_
    refine stp hA (r_mv hA rfl) rfl fun a hA => 
      stp hA (r_mv hA rfl) rfl fun a hA => ?_
    obtain ⟨_, hsl2⟩ := Slc.sv hx0
    refine stp hA (r_slen Tryd.underlying23 hsl2 hA rfl) rfl fun a hA => 
      stp hA (r_lss hA rfl rfl) rfl fun a hA => ?_
    refine o_nil ?_
    refine hN5 _ _ ?_
    refine w_cond hA rfl (fun hc1 => ?_) (fun hc1 => ?_)
    · have hc10 := hc1; have hc1 := of_decide_eq_true hc1; have H := bT H hc1
      refine w_skip ?_
      refine hN4 _ _ ?_
      refine w_seq fun _ hN6 => ?_
      refine w_block ?_
      refine w_reg ?_
      refine stp hA (r_mv hA rfl) rfl fun a hA => 
        stp hA (r_mv hA rfl) rfl fun a hA => 
        stp hA (r_mv hA rfl) rfl fun a hA => ?_
      obtain ⟨hb2, H⟩ := bG H
      obtain ⟨_, he1, _, hat1⟩ := Slc.elem1 hx0 (getD_some 0 hb2.1 hb2.2)
      obtain ⟨rfl, hw1⟩ := he1
      obtain ⟨_, hsl3⟩ := Slc.sv hx0
      refine stp hA (r_six1 Tryd.underlying23 sz5 hsl3 hA rfl rfl hb2.1 hb2.2) rfl fun a hA => 
        stp hA (r_ldm1 [] [] Tryd.underlying5 rfl hI.agr hat1 hA rfl rfl) rfl fun a hA => ?_
      have hE2 : Els (RI .u8) 1 ([(x0.getD s2.toNat 0)] : List Int) ([[.int .u8 (x0.getD s2.toNat 0)]].flatten ++ ([])) := (Els.cons (c := [[.int .u8 (x0.getD s2.toNat 0)]].flatten) ⟨rfl, hw1⟩ rfl Els.nil)
      refine o_bsl ([[.int .u8 (x0.getD s2.toNat 0)]].flatten ++ ([])) te5 zr5 Tryd.underlying23 hI hA rfl rfl rfl rfl (by kernel_rfl) rfl fun g2 a w hA hI => ?_
      generalize hcs : ([[.int .u8 (x0.getD s2.toNat 0)]].flatten ++ ([]) : List Value) = cs2 at hE2 hI
      clear hcs
      obtain ⟨hb3, H⟩ := bG H
      have hE4 := ws1.app hE2
      refine o_appL (xs := (s1 : List Int)) (ys := (([(x0.getD s2.toNat 0)] : List Int) : List Int)) (j := 1) te5 Tryd.underlying23 hI rfl hA rfl rfl (src_row hI (j := 0) rfl) hE2.len (hE2.ones (one_RI _)) (by first | decide | (have hq := hb3; (try simp only [List.length_cons, List.length_nil] at hq); (try simp only [List.length_cons, List.length_nil]); (try simp only [maxLen]); omega)) (by first | decide | (have hq := hb3; (try simp only [List.length_cons, List.length_nil] at hq); (try simp only [List.length_cons, List.length_nil]); (try simp only [maxLen]); omega)) rfl fun v1 a w hA hI => 
        stp hA (r_as hA rfl) rfl fun a hA => ?_
      refine o_nil ?_
      refine hN6 _ _ ?_
      refine w_reg ?_
      refine stp hA (r_mv hA rfl) rfl fun a hA => 
        stp hA (r_add hA rfl rfl) rfl fun a hA => 
        stp hA (r_as hA rfl) rfl fun a hA => ?_
      refine o_nil ?_
      exact ⟨m1, Nat.lt_succ_self _, s1 ++ ([(x0.getD s2.toNat 0)] : List Int), IntKind.i64.wrap (s2 + 1), v1, ccs1 ++ cs2, H, hE4, (wrap_in _ _), hA.sub ⟨rfl, rfl, rfl, rfl, trivial⟩, (hI.sel [1] (by decide) rfl)⟩
    · have hc10 := hc1; have hc1 := of_decide_eq_false hc1; have H := bF H hc1
      refine w_exit rfl ?_
      have H : some s1 = some z1 := H
      obtain rfl := Option.some.inj H
      have H := Hk2
      cases Option.some.inj (bS H)
      exact ⟨vvs1, ccs1, ws1, hA.sub ⟨rfl, rfl, rfl, trivial⟩, hI⟩
  · rintro a w ⟨vvc1, ccc1, wc1, hA, hI⟩
    have H := Hk1
    refine w_seq fun _ hN7 => ?_
    refine w_reg ?_
    refine stp hA (r_mv hA rfl) rfl fun a hA => 
      stp hA (r_as hA rfl) rfl fun a hA => ?_
    refine o_nil ?_
    refine hN7 _ _ ?_
    refine w_ret ?_
    obtain rfl := Option.some.inj (bS H)
    exact ret1 hA Tryd.results26 rfl ⟨_, rfl, vvc1, ccc1, rfl, wc1, (hI.less (Store.le.refl _) hI.le)⟩
set_option maxRecDepth 20000 in
theorem sargassoworld_Number.c (μ : Store) (w0 : World) (hμ : Agr μ w0) (x0 : Int) (hx0 : InR .i64 x0) (x1 : Int) (hx1 : InR .i64 x1) (r : Int) (H : sargassoworld_Number.f x0 x1 = some r) :
    Calls Tryd.prog 29 [.int .i64 x0, .int .i64 x1].toArray w0 (fun e w' => ∃ v, e = .returned v ∧ v = .int .i64 r ∧ InR .i64 r ∧ Iv w0 [] μ μ [] w') := by
  refine enter Tryd.func29 rfl Tryd.ntmps29 rfl fun a hA => ?_
  have hI := Iv.start hμ
  have H := bI H
  refine w_seq fun _ hN1 => ?_
  refine w_reg ?_
  refine stp hA (r_as hA rfl) rfl fun a hA => ?_
  refine o_nil ?_
  refine hN1 _ _ ?_
  refine w_seq fun _ hN2 => ?_
  refine w_reg ?_
  refine stp hA (r_mv hA rfl) rfl fun a hA => 
    stp hA (r_mv hA rfl) rfl fun a hA => ?_
  obtain ⟨hb1, H⟩ := bG H
  refine stp hA (r_rem hA rfl rfl hb1) rfl fun a hA => 
    stp hA (r_as hA rfl) rfl fun a hA => ?_
  refine o_nil ?_
  refine hN2 _ _ ?_
  obtain ⟨c1, hz1, Hk1⟩ := bB H
  refine w_cut (fun a w => InR .i64 c1 ∧ Fr a 15 [(0, .int .i64 x0), (1, .int .i64 x1), (4, .int .i64 0), (5, .int .i64 c1)] ∧ Iv w0 [] μ μ [] w) ?_ ?_
  · have H := bI hz1
    refine w_seq fun _ hN3 => ?_
    refine w_reg ?_
    refine stp hA (r_mv hA rfl) rfl fun a hA => 
      stp hA (r_lss hA rfl rfl) rfl fun a hA => ?_
    refine o_nil ?_
    refine hN3 _ _ ?_
    refine w_cond hA rfl (fun hc1 => ?_) (fun hc1 => ?_)
    · have hc10 := hc1; have hc1 := of_decide_eq_true hc1; have H := bT H hc1
      refine w_reg ?_
      refine stp hA (r_mv hA rfl) rfl fun a hA => 
        stp hA (r_mv hA rfl) rfl fun a hA => 
        stp hA (r_add hA rfl rfl) rfl fun a hA => 
        stp hA (r_as hA rfl) rfl fun a hA => ?_
      refine o_nil ?_
      cases Option.some.inj (bS H)
      exact ⟨(wrap_in _ _), hA.sub ⟨rfl, rfl, rfl, rfl, trivial⟩, hI⟩
    · have hc10 := hc1; have hc1 := of_decide_eq_false hc1; have H := bF H hc1
      refine w_skip ?_
      cases Option.some.inj (bS H)
      exact ⟨(tmod_in hx0 _), hA.sub ⟨rfl, rfl, rfl, rfl, trivial⟩, hI⟩
  · rintro a w ⟨wc1, hA, hI⟩
    have H := Hk1
    refine w_seq fun _ hN4 => ?_
    refine w_reg ?_
    refine stp hA (r_mv hA rfl) rfl fun a hA => 
      stp hA (r_as hA rfl) rfl fun a hA => ?_
    refine o_nil ?_
    refine hN4 _ _ ?_
    refine w_ret ?_
    obtain rfl := Option.some.inj (bS H)
    exact ret1 hA Tryd.results29 rfl ⟨_, rfl, rfl, wc1, hI.forget0⟩
set_option maxRecDepth 20000 in
theorem sargassoref_SameFault.c (μ : Store) (w0 : World) (hμ : Agr μ w0) (x0 : sargassorefFault) (hx0 : sargassorefFaultW μ x0) (x1 : sargassorefFault) (hx1 : sargassorefFaultW μ x1) (r : Bool) (H : sargassoref_SameFault.f x0 x1 = some r) :
    Calls Tryd.prog 129 [.agg [[.int .i64 x0.Code], [.bool x0.Placed], [.int .i64 x0.Pos], [.bool x0.Outer], [.int .i64 x0.At]].flatten.toArray, .agg [[.int .i64 x1.Code], [.bool x1.Placed], [.int .i64 x1.Pos], [.bool x1.Outer], [.int .i64 x1.At]].flatten.toArray].toArray w0 (fun e w' => ∃ v, e = .returned v ∧ v = .bool r ∧ True ∧ Iv w0 [] μ μ [] w') := by
  refine enter Tryd.func129 rfl Tryd.ntmps129 rfl fun a hA => ?_
  have hI := Iv.start hμ
  have H := bI H
  refine w_seq fun _ hN1 => ?_
  refine w_reg ?_
  refine o_box [[.int .i64 x0.Code], [.bool x0.Placed], [.int .i64 x0.Pos], [.bool x0.Outer], [.int .i64 x0.At]] hI hA rfl rfl rfl fun g1 a w hA hI hg1 => 
    o_box [[.int .i64 x1.Code], [.bool x1.Placed], [.int .i64 x1.Pos], [.bool x1.Outer], [.int .i64 x1.At]] hI hA rfl rfl rfl fun g2 a w hA hI hg2 => 
    stp hA (r_as hA rfl) rfl fun a hA => ?_
  refine o_nil ?_
  refine hN1 _ _ ?_
  obtain ⟨c1, hz1, Hk1⟩ := bB H
  refine w_cut (fun a w => Fr a 38 [(0, .agg [[.int .i64 x0.Code], [.bool x0.Placed], [.int .i64 x0.Pos], [.bool x0.Outer], [.int .i64 x0.At]].flatten.toArray), (1, .agg [[.int .i64 x1.Code], [.bool x1.Placed], [.int .i64 x1.Pos], [.bool x1.Outer], [.int .i64 x1.At]].flatten.toArray), (2, .pointer (some ⟨g1, 0, none⟩)), (3, .pointer (some ⟨g2, 0, none⟩)), (4, .bool c1)] ∧ Iv w0 [] μ μ [cel g2 [[.int .i64 x1.Code], [.bool x1.Placed], [.int .i64 x1.Pos], [.bool x1.Outer], [.int .i64 x1.At]] 109, cel g1 [[.int .i64 x0.Code], [.bool x0.Placed], [.int .i64 x0.Pos], [.bool x0.Outer], [.int .i64 x0.At]] 109] w) ?_ ?_
  · have H := bI hz1
    refine w_reg ?_
    refine stp hA (r_fd (k := 0) Tryd.underlying109 rfl sz3 hA rfl rfl) rfl fun a hA => 
      stp hA (r_ld1 (j := 1) [] [[.bool x0.Placed], [.int .i64 x0.Pos], [.bool x0.Outer], [.int .i64 x0.At]] Tryd.underlying3 rfl hI rfl hA rfl rfl) rfl fun a hA => 
      stp hA (r_fd (k := 0) Tryd.underlying109 rfl sz3 hA rfl rfl) rfl fun a hA => 
      stp hA (r_ld1 (j := 0) [] [[.bool x1.Placed], [.int .i64 x1.Pos], [.bool x1.Outer], [.int .i64 x1.At]] Tryd.underlying3 rfl hI rfl hA rfl rfl) rfl fun a hA => 
      stp hA (r_eql hA rfl rfl) rfl fun a hA => 
      stp hA (r_mv hA rfl) rfl fun a hA => ?_
    rcases Bool.eq_false_or_eq_true (decide (x0.Code = x1.Code)) with hc1 | hc1
    · have hc10 := hc1; have hc1 := of_decide_eq_true hc1; have H := bT H hc1
      refine o_yes hA rfl rfl hc10 <| 
        stp hA (r_fd (k := 1) Tryd.underlying109 rfl sz4 hA rfl rfl) rfl fun a hA => 
        o_yes hA rfl rfl hc10 <| 
        stp hA (r_ld1 (j := 1) [[.int .i64 x0.Code]] [[.int .i64 x0.Pos], [.bool x0.Outer], [.int .i64 x0.At]] Tryd.underlying4 rfl hI rfl hA rfl rfl) rfl fun a hA => 
        o_yes hA rfl rfl hc10 <| 
        stp hA (r_fd (k := 1) Tryd.underlying109 rfl sz4 hA rfl rfl) rfl fun a hA => 
        o_yes hA rfl rfl hc10 <| 
        stp hA (r_ld1 (j := 0) [[.int .i64 x1.Code]] [[.int .i64 x1.Pos], [.bool x1.Outer], [.int .i64 x1.At]] Tryd.underlying4 rfl hI rfl hA rfl rfl) rfl fun a hA => 
        o_yes hA rfl rfl hc10 <| 
        stp hA (r_eqlb Tryd.underlying4 hA rfl rfl) rfl fun a hA => 
        stp hA (r_pick_t hA rfl hc10 rfl) rfl fun a hA => 
        stp hA (r_mv hA rfl) rfl fun a hA => ?_
      rcases Bool.eq_false_or_eq_true (decide (x0.Placed = x1.Placed)) with hc2 | hc2
      · have hc20 := hc2; have hc2 := of_decide_eq_true hc2; have H := bT H hc2
        refine o_yes hA rfl rfl hc20 <| 
          stp hA (r_fd (k := 2) Tryd.underlying109 rfl sz3 hA rfl rfl) rfl fun a hA => 
          o_yes hA rfl rfl hc20 <| 
          stp hA (r_ld1 (j := 1) [[.int .i64 x0.Code], [.bool x0.Placed]] [[.bool x0.Outer], [.int .i64 x0.At]] Tryd.underlying3 rfl hI rfl hA rfl rfl) rfl fun a hA => 
          o_yes hA rfl rfl hc20 <| 
          stp hA (r_fd (k := 2) Tryd.underlying109 rfl sz3 hA rfl rfl) rfl fun a hA => 
          o_yes hA rfl rfl hc20 <| 
          stp hA (r_ld1 (j := 0) [[.int .i64 x1.Code], [.bool x1.Placed]] [[.bool x1.Outer], [.int .i64 x1.At]] Tryd.underlying3 rfl hI rfl hA rfl rfl) rfl fun a hA => 
          o_yes hA rfl rfl hc20 <| 
          stp hA (r_eql hA rfl rfl) rfl fun a hA => 
          stp hA (r_pick_t hA rfl hc20 rfl) rfl fun a hA => 
          stp hA (r_mv hA rfl) rfl fun a hA => ?_
        rcases Bool.eq_false_or_eq_true (decide (x0.Pos = x1.Pos)) with hc3 | hc3
        · have hc30 := hc3; have hc3 := of_decide_eq_true hc3; have H := bT H hc3
          refine o_yes hA rfl rfl hc30 <| 
            stp hA (r_fd (k := 3) Tryd.underlying109 rfl sz4 hA rfl rfl) rfl fun a hA => 
            o_yes hA rfl rfl hc30 <| 
            stp hA (r_ld1 (j := 1) [[.int .i64 x0.Code], [.bool x0.Placed], [.int .i64 x0.Pos]] [[.int .i64 x0.At]] Tryd.underlying4 rfl hI rfl hA rfl rfl) rfl fun a hA => 
            o_yes hA rfl rfl hc30 <| 
            stp hA (r_fd (k := 3) Tryd.underlying109 rfl sz4 hA rfl rfl) rfl fun a hA => 
            o_yes hA rfl rfl hc30 <| 
            stp hA (r_ld1 (j := 0) [[.int .i64 x1.Code], [.bool x1.Placed], [.int .i64 x1.Pos]] [[.int .i64 x1.At]] Tryd.underlying4 rfl hI rfl hA rfl rfl) rfl fun a hA => 
            o_yes hA rfl rfl hc30 <| 
            stp hA (r_eqlb Tryd.underlying4 hA rfl rfl) rfl fun a hA => 
            stp hA (r_pick_t hA rfl hc30 rfl) rfl fun a hA => 
            stp hA (r_mv hA rfl) rfl fun a hA => ?_
          rcases Bool.eq_false_or_eq_true (decide (x0.Outer = x1.Outer)) with hc4 | hc4
          · have hc40 := hc4; have hc4 := of_decide_eq_true hc4; have H := bT H hc4
            refine o_yes hA rfl rfl hc40 <| 
              stp hA (r_fd (k := 4) Tryd.underlying109 rfl sz3 hA rfl rfl) rfl fun a hA => 
              o_yes hA rfl rfl hc40 <| 
              stp hA (r_ld1 (j := 1) [[.int .i64 x0.Code], [.bool x0.Placed], [.int .i64 x0.Pos], [.bool x0.Outer]] [] Tryd.underlying3 rfl hI rfl hA rfl rfl) rfl fun a hA => 
              o_yes hA rfl rfl hc40 <| 
              stp hA (r_fd (k := 4) Tryd.underlying109 rfl sz3 hA rfl rfl) rfl fun a hA => 
              o_yes hA rfl rfl hc40 <| 
              stp hA (r_ld1 (j := 0) [[.int .i64 x1.Code], [.bool x1.Placed], [.int .i64 x1.Pos], [.bool x1.Outer]] [] Tryd.underlying3 rfl hI rfl hA rfl rfl) rfl fun a hA => 
              o_yes hA rfl rfl hc40 <| 
              stp hA (r_eql hA rfl rfl) rfl fun a hA => 
              stp hA (r_pick_t hA rfl hc40 rfl) rfl fun a hA => 
              stp hA (r_as hA rfl) rfl fun a hA => ?_
            refine o_nil ?_
            cases Option.some.inj (bS H)
            exact ⟨hA.sub ⟨rfl, rfl, rfl, rfl, rfl, trivial⟩, hI⟩
          · have hc40 := hc4; have hc4 := of_decide_eq_false hc4; have H := bF H hc4
            refine o_no hA rfl rfl (by rw [hc40]; simp [vb]) rfl fun a hA => 
              o_no hA rfl rfl (by rw [hc40]; simp [vb]) rfl fun a hA => 
              o_no hA rfl rfl (by rw [hc40]; simp [vb]) rfl fun a hA => 
              o_no hA rfl rfl (by rw [hc40]; simp [vb]) rfl fun a hA => 
              o_no hA rfl rfl (by rw [hc40]; simp [vb]) rfl fun a hA => 
              stp hA (r_pick_f hA rfl hc40 rfl) rfl fun a hA => 
              stp hA (r_as hA rfl) rfl fun a hA => ?_
            refine o_nil ?_
            cases Option.some.inj (bS H)
            exact ⟨hA.sub ⟨rfl, rfl, rfl, rfl, rfl, trivial⟩, hI⟩
        · have hc30 := hc3; have hc3 := of_decide_eq_false hc3; have H := bF H hc3
          refine o_no hA rfl rfl (by rw [hc30]; simp [vb]) rfl fun a hA => 
            o_no hA rfl rfl (by rw [hc30]; simp [vb]) rfl fun a hA => 
            o_no hA rfl rfl (by rw [hc30]; simp [vb]) rfl fun a hA => 
            o_no hA rfl rfl (by rw [hc30]; simp [vb]) rfl fun a hA => 
            o_no hA rfl rfl (by rw [hc30]; simp [vb]) rfl fun a hA => 
            stp hA (r_pick_f hA rfl hc30 rfl) rfl fun a hA => 
            stp hA (r_mv hA rfl) rfl fun a hA => 
            o_no hA rfl rfl (by simp [vb]) rfl fun a hA => 
            o_no hA rfl rfl (by simp [vb]) rfl fun a hA => 
            o_no hA rfl rfl (by simp [vb]) rfl fun a hA => 
            o_no hA rfl rfl (by simp [vb]) rfl fun a hA => 
            o_no hA rfl rfl (by simp [vb]) rfl fun a hA => 
            stp hA (r_pick_f hA rfl rfl rfl) rfl fun a hA => 
            stp hA (r_as hA rfl) rfl fun a hA => ?_
          refine o_nil ?_
          cases Option.some.inj (bS H)
          exact ⟨hA.sub ⟨rfl, rfl, rfl, rfl, rfl, trivial⟩, hI⟩
      · have hc20 := hc2; have hc2 := of_decide_eq_false hc2; have H := bF H hc2
        refine o_no hA rfl rfl (by rw [hc20]; simp [vb]) rfl fun a hA => 
          o_no hA rfl rfl (by rw [hc20]; simp [vb]) rfl fun a hA => 
          o_no hA rfl rfl (by rw [hc20]; simp [vb]) rfl fun a hA => 
          o_no hA rfl rfl (by rw [hc20]; simp [vb]) rfl fun a hA => 
          o_no hA rfl rfl (by rw [hc20]; simp [vb]) rfl fun a hA => 
          stp hA (r_pick_f hA rfl hc20 rfl) rfl fun a hA => 
          stp hA (r_mv hA rfl) rfl fun a hA => 
          o_no hA rfl rfl (by simp [vb]) rfl fun a hA => 
          o_no hA rfl rfl (by simp [vb]) rfl fun a hA => 
          o_no hA rfl rfl (by simp [vb]) rfl fun a hA => 
          o_no hA rfl rfl (by simp [vb]) rfl fun a hA => 
          o_no hA rfl rfl (by simp [vb]) rfl fun a hA => 
          stp hA (r_pick_f hA rfl rfl rfl) rfl fun a hA => 
          stp hA (r_mv hA rfl) rfl fun a hA => 
          o_no hA rfl rfl (by simp [vb]) rfl fun a hA => 
          o_no hA rfl rfl (by simp [vb]) rfl fun a hA => 
          o_no hA rfl rfl (by simp [vb]) rfl fun a hA => 
          o_no hA rfl rfl (by simp [vb]) rfl fun a hA => 
          o_no hA rfl rfl (by simp [vb]) rfl fun a hA => 
          stp hA (r_pick_f hA rfl rfl rfl) rfl fun a hA => 
          stp hA (r_as hA rfl) rfl fun a hA => ?_
        refine o_nil ?_
        cases Option.some.inj (bS H)
        exact ⟨hA.sub ⟨rfl, rfl, rfl, rfl, rfl, trivial⟩, hI⟩
    · have hc10 := hc1; have hc1 := of_decide_eq_false hc1; have H := bF H hc1
      refine o_no hA rfl rfl (by rw [hc10]; simp [vb]) rfl fun a hA => 
        o_no hA rfl rfl (by rw [hc10]; simp [vb]) rfl fun a hA => 
        o_no hA rfl rfl (by rw [hc10]; simp [vb]) rfl fun a hA => 
        o_no hA rfl rfl (by rw [hc10]; simp [vb]) rfl fun a hA => 
        o_no hA rfl rfl (by rw [hc10]; simp [vb]) rfl fun a hA => 
        stp hA (r_pick_f hA rfl hc10 rfl) rfl fun a hA => 
        stp hA (r_mv hA rfl) rfl fun a hA => 
        o_no hA rfl rfl (by simp [vb]) rfl fun a hA => 
        o_no hA rfl rfl (by simp [vb]) rfl fun a hA => 
        o_no hA rfl rfl (by simp [vb]) rfl fun a hA => 
        o_no hA rfl rfl (by simp [vb]) rfl fun a hA => 
        o_no hA rfl rfl (by simp [vb]) rfl fun a hA => 
        stp hA (r_pick_f hA rfl rfl rfl) rfl fun a hA => 
        stp hA (r_mv hA rfl) rfl fun a hA => 
        o_no hA rfl rfl (by simp [vb]) rfl fun a hA => 
        o_no hA rfl rfl (by simp [vb]) rfl fun a hA => 
        o_no hA rfl rfl (by simp [vb]) rfl fun a hA => 
        o_no hA rfl rfl (by simp [vb]) rfl fun a hA => 
        o_no hA rfl rfl (by simp [vb]) rfl fun a hA => 
        stp hA (r_pick_f hA rfl rfl rfl) rfl fun a hA => 
        stp hA (r_mv hA rfl) rfl fun a hA => 
        o_no hA rfl rfl (by simp [vb]) rfl fun a hA => 
        o_no hA rfl rfl (by simp [vb]) rfl fun a hA => 
        o_no hA rfl rfl (by simp [vb]) rfl fun a hA => 
        o_no hA rfl rfl (by simp [vb]) rfl fun a hA => 
        o_no hA rfl rfl (by simp [vb]) rfl fun a hA => 
        stp hA (r_pick_f hA rfl rfl rfl) rfl fun a hA => 
        stp hA (r_as hA rfl) rfl fun a hA => ?_
      refine o_nil ?_
      cases Option.some.inj (bS H)
      exact ⟨hA.sub ⟨rfl, rfl, rfl, rfl, rfl, trivial⟩, hI⟩
  · rintro a w ⟨hA, hI⟩
    have H := Hk1
    refine w_ret ?_
    obtain rfl := Option.some.inj (bS H)
    exact ret1 hA Tryd.results129 rfl ⟨_, rfl, rfl, trivial, hI.forget0⟩
set_option maxRecDepth 20000 in
theorem sargassoref_None.c (μ : Store) (w0 : World) (hμ : Agr μ w0) (r : sargassorefFault) (H : sargassoref_None.f = some r) :
    Calls Tryd.prog 131 [].toArray w0 (fun e w' => ∃ v, e = .returned v ∧ v = .agg [[.int .i64 r.Code], [.bool r.Placed], [.int .i64 r.Pos], [.bool r.Outer], [.int .i64 r.At]].flatten.toArray ∧ sargassorefFaultW μ r ∧ Iv w0 [] μ μ [] w') := by
  refine enter Tryd.func131 rfl Tryd.ntmps131 rfl fun a hA => ?_
  have hI := Iv.start hμ
  have H := bI H
  refine w_seq fun _ hN1 => ?_
  refine w_reg ?_
  refine o_new [[.int .i64 0], [.bool false], [.int .i64 0], [.bool false], [.int .i64 0]] zr109 hI hA rfl fun g1 a w hA hI hg1 => ?_
  refine o_nil ?_
  refine hN1 _ _ ?_
  refine w_seq fun _ hN2 => ?_
  refine w_reg ?_
  refine stp hA (r_bldS (cs := [[.int .i64 0], [.bool false], [.int .i64 0], [.bool false], [.int .i64 0]].flatten.toArray) (pl := [(0, 1), (1, 1), (2, 1), (3, 1), (4, 1)]) zr109 Tryd.underlying109 ⟨rfl, sz3, rfl, sz4, rfl, sz3, rfl, sz4, rfl, sz3, trivial⟩ hA rfl (by kernel_rfl)) rfl fun a hA => 
    o_st (j := 0) [] [[.int .i64 0], [.bool false], [.int .i64 0], [.bool false], [.int .i64 0]] [[.int .i64 0], [.bool false], [.int .i64 0], [.bool false], [.int .i64 0]] [] sz109 rfl rfl (fl_cons (one_one rfl) (fl_cons (one_one rfl) (fl_cons (one_one rfl) (fl_cons (one_one rfl) (fl_cons (one_one rfl) fl_nil))))) hI rfl hA rfl rfl rfl rfl fun w hI => ?_
  refine o_nil ?_
  refine hN2 _ _ ?_
  refine w_ret ?_
  obtain rfl := Option.some.inj (bS H)
  exact retc Tryd.underlying109 rfl sz109 rfl hI (j := 0) rfl hA Tryd.results131 rfl ⟨_, rfl, rfl, ⟨(in_lit .i64 0 rfl), (in_lit .i64 0 rfl), (in_lit .i64 0 rfl)⟩, hI.forget0⟩
set_option maxRecDepth 20000 in
theorem sargassoref_Placed.c (μ : Store) (w0 : World) (hμ : Agr μ w0) (x0 : Int) (hx0 : InR .i64 x0) (x1 : Int) (hx1 : InR .i64 x1) (r : sargassorefFault) (H : sargassoref_Placed.f x0 x1 = some r) :
    Calls Tryd.prog 74 [.int .i64 x0, .int .i64 x1].toArray w0 (fun e w' => ∃ v, e = .returned v ∧ v = .agg [[.int .i64 r.Code], [.bool r.Placed], [.int .i64 r.Pos], [.bool r.Outer], [.int .i64 r.At]].flatten.toArray ∧ sargassorefFaultW μ r ∧ Iv w0 [] μ μ [] w') := by
  refine enter Tryd.func74 rfl Tryd.ntmps74 rfl fun a hA => ?_
  have hI := Iv.start hμ
  have H := bI H
  refine w_seq fun _ hN1 => ?_
  refine w_reg ?_
  refine o_new [[.int .i64 0], [.bool false], [.int .i64 0], [.bool false], [.int .i64 0]] zr109 hI hA rfl fun g1 a w hA hI hg1 => ?_
  refine o_nil ?_
  refine hN1 _ _ ?_
  refine w_seq fun _ hN2 => ?_
  refine w_seq fun _ hN3 => ?_
  refine w_reg ?_
  refine stp hA (r_mv hA rfl) rfl fun a hA => 
    stp hA (r_eql hA rfl rfl) rfl fun a hA => ?_
  refine o_nil ?_
  refine hN3 _ _ ?_
  refine w_cond hA rfl (fun hc1 => ?_) (fun hc1 => ?_)
  · have hc10 := hc1; have hc1 := of_decide_eq_true hc1; have H := bT H hc1
    refine w_seq fun _ hN4 => ?_
    refine w_reg ?_
    obtain ⟨r1, hr1, H⟩ := bB H
    refine o_callp (u := .agg [[.int .i64 r1.Code], [.bool r1.Placed], [.int .i64 r1.Pos], [.bool r1.Outer], [.int .i64 r1.At]].flatten.toArray) cf131 hA rfl hI (sargassoref_None.c μ _ hI.agr  r1 hr1) rfl fun a w hz1 hI hA => 
      o_st (j := 0) [] [[.int .i64 0], [.bool false], [.int .i64 0], [.bool false], [.int .i64 0]] [[.int .i64 r1.Code], [.bool r1.Placed], [.int .i64 r1.Pos], [.bool r1.Outer], [.int .i64 r1.At]] [] sz109 rfl rfl (fl_cons (one_one rfl) (fl_cons (one_one rfl) (fl_cons (one_one rfl) (fl_cons (one_one rfl) (fl_cons (one_one rfl) fl_nil))))) hI rfl hA rfl rfl rfl rfl fun w hI => ?_
    refine o_nil ?_
    refine hN4 _ _ ?_
    refine w_ret ?_
    obtain rfl := Option.some.inj (bS H)
    exact retc Tryd.underlying109 rfl sz109 rfl hI (j := 0) rfl hA Tryd.results74 rfl ⟨_, rfl, rfl, ⟨hz1.1, hz1.2.1, hz1.2.2⟩, hI.forget0⟩
  · have hc10 := hc1; have hc1 := of_decide_eq_false hc1; have H := bF H hc1
    refine w_skip ?_
    refine hN2 _ _ ?_
    refine w_seq fun _ hN5 => ?_
    refine w_reg ?_
    refine stp hA (r_mv hA rfl) rfl fun a hA => 
      stp hA (r_mv hA rfl) rfl fun a hA => 
      stp hA (r_bldS (cs := [[.int .i64 x0], [.bool true], [.int .i64 x1], [.bool false], [.int .i64 0]].flatten.toArray) (pl := [(0, 1), (1, 1), (2, 1), (3, 1), (4, 1)]) zr109 Tryd.underlying109 ⟨rfl, sz3, rfl, sz4, rfl, sz3, rfl, sz4, rfl, sz3, trivial⟩ hA rfl (by kernel_rfl)) rfl fun a hA => 
      o_st (j := 0) [] [[.int .i64 0], [.bool false], [.int .i64 0], [.bool false], [.int .i64 0]] [[.int .i64 x0], [.bool true], [.int .i64 x1], [.bool false], [.int .i64 0]] [] sz109 rfl rfl (fl_cons (one_one rfl) (fl_cons (one_one rfl) (fl_cons (one_one rfl) (fl_cons (one_one rfl) (fl_cons (one_one rfl) fl_nil))))) hI rfl hA rfl rfl rfl rfl fun w hI => ?_
    refine o_nil ?_
    refine hN5 _ _ ?_
    refine w_ret ?_
    obtain rfl := Option.some.inj (bS H)
    exact retc Tryd.underlying109 rfl sz109 rfl hI (j := 0) rfl hA Tryd.results74 rfl ⟨_, rfl, rfl, ⟨hx0, hx1, (in_lit .i64 0 rfl)⟩, hI.forget0⟩
set_option maxRecDepth 20000 in
theorem sargassoref_Bare.c (μ : Store) (w0 : World) (hμ : Agr μ w0) (x0 : Int) (hx0 : InR .i64 x0) (r : sargassorefFault) (H : sargassoref_Bare.f x0 = some r) :
    Calls Tryd.prog 96 [.int .i64 x0].toArray w0 (fun e w' => ∃ v, e = .returned v ∧ v = .agg [[.int .i64 r.Code], [.bool r.Placed], [.int .i64 r.Pos], [.bool r.Outer], [.int .i64 r.At]].flatten.toArray ∧ sargassorefFaultW μ r ∧ Iv w0 [] μ μ [] w') := by
  refine enter Tryd.func96 rfl Tryd.ntmps96 rfl fun a hA => ?_
  have hI := Iv.start hμ
  have H := bI H
  refine w_seq fun _ hN1 => ?_
  refine w_reg ?_
  refine o_new [[.int .i64 0], [.bool false], [.int .i64 0], [.bool false], [.int .i64 0]] zr109 hI hA rfl fun g1 a w hA hI hg1 => ?_
  refine o_nil ?_
  refine hN1 _ _ ?_
  refine w_seq fun _ hN2 => ?_
  refine w_reg ?_
  refine stp hA (r_mv hA rfl) rfl fun a hA => 
    stp hA (r_bldS (cs := [[.int .i64 x0], [.bool false], [.int .i64 0], [.bool false], [.int .i64 0]].flatten.toArray) (pl := [(0, 1), (1, 1), (2, 1), (3, 1), (4, 1)]) zr109 Tryd.underlying109 ⟨rfl, sz3, rfl, sz4, rfl, sz3, rfl, sz4, rfl, sz3, trivial⟩ hA rfl (by kernel_rfl)) rfl fun a hA => 
    o_st (j := 0) [] [[.int .i64 0], [.bool false], [.int .i64 0], [.bool false], [.int .i64 0]] [[.int .i64 x0], [.bool false], [.int .i64 0], [.bool false], [.int .i64 0]] [] sz109 rfl rfl (fl_cons (one_one rfl) (fl_cons (one_one rfl) (fl_cons (one_one rfl) (fl_cons (one_one rfl) (fl_cons (one_one rfl) fl_nil))))) hI rfl hA rfl rfl rfl rfl fun w hI => ?_
  refine o_nil ?_
  refine hN2 _ _ ?_
  refine w_ret ?_
  obtain rfl := Option.some.inj (bS H)
  exact retc Tryd.underlying109 rfl sz109 rfl hI (j := 0) rfl hA Tryd.results96 rfl ⟨_, rfl, rfl, ⟨hx0, (in_lit .i64 0 rfl), (in_lit .i64 0 rfl)⟩, hI.forget0⟩
set_option maxRecDepth 20000 in
theorem sargassosee_sentinels.c (μ : Store) (w0 : World) (hμ : Agr μ w0) (hG : Gl μ) (r : List Er) (H : sargassosee_sentinels.f = some r) :
    Calls Tryd.prog 154 [].toArray w0 (fun e w' => ∃ v, e = .returned v ∧ ∃ (v0 : Value) (c0 : List Value) (μ' : Store), v = v0 ∧ Els (RErr μ') 1 r c0 ∧ Iv w0 [] μ μ' [row 34 1 v0 r.length c0] w') := by
  refine enter Tryd.func154 rfl Tryd.ntmps154 rfl fun a hA => ?_
  have hI := Iv.start hμ
  have H := bI H
  obtain ⟨e0, he0⟩ := hG.g0
  obtain ⟨e1, he1⟩ := hG.g1
  obtain ⟨e2, he2⟩ := hG.g2
  obtain ⟨e3, he3⟩ := hG.g3
  obtain ⟨e4, he4⟩ := hG.g4
  obtain ⟨e5, he5⟩ := hG.g5
  obtain ⟨e6, he6⟩ := hG.g6
  obtain ⟨e7, he7⟩ := hG.g7
  obtain ⟨e8, he8⟩ := hG.g8
  obtain ⟨e9, he9⟩ := hG.g9
  obtain ⟨e10, he10⟩ := hG.g10
  obtain ⟨e11, he11⟩ := hG.g11
  obtain ⟨e12, he12⟩ := hG.g12
  obtain ⟨e13, he13⟩ := hG.g13
  obtain ⟨e14, he14⟩ := hG.g14
  obtain ⟨e15, he15⟩ := hG.g15
  obtain ⟨e16, he16⟩ := hG.g16
  obtain ⟨e17, he17⟩ := hG.g17
  obtain ⟨e18, he18⟩ := hG.g18
  obtain ⟨e19, he19⟩ := hG.g19
  obtain ⟨e20, he20⟩ := hG.g20
  obtain ⟨e21, he21⟩ := hG.g21
  obtain ⟨e22, he22⟩ := hG.g22
  obtain ⟨e23, he23⟩ := hG.g23
  obtain ⟨e24, he24⟩ := hG.g24
  refine w_seq fun _ hN1 => ?_
  refine w_reg ?_
  refine stp hA (r_as hA rfl) rfl fun a hA => ?_
  refine o_nil ?_
  refine hN1 _ _ ?_
  refine w_seq fun _ hN2 => ?_
  refine w_reg ?_
  refine stp hA (r_ldG Tryd.underlying34 rfl hI.agr he8 hA) rfl fun a hA => 
    stp hA (r_ldG Tryd.underlying34 rfl hI.agr he0 hA) rfl fun a hA => 
    stp hA (r_ldG Tryd.underlying34 rfl hI.agr he2 hA) rfl fun a hA => 
    stp hA (r_ldG Tryd.underlying34 rfl hI.agr he1 hA) rfl fun a hA => 
    stp hA (r_ldG Tryd.underlying34 rfl hI.agr he4 hA) rfl fun a hA => 
    stp hA (r_ldG Tryd.underlying34 rfl hI.agr he5 hA) rfl fun a hA => 
    stp hA (r_ldG Tryd.underlying34 rfl hI.agr he9 hA) rfl fun a hA => 
    stp hA (r_ldG Tryd.underlying34 rfl hI.agr he10 hA) rfl fun a hA => 
    stp hA (r_ldG Tryd.underlying34 rfl hI.agr he11 hA) rfl fun a hA => 
    stp hA (r_ldG Tryd.underlying34 rfl hI.agr he12 hA) rfl fun a hA => 
    stp hA (r_ldG Tryd.underlying34 rfl hI.agr he13 hA) rfl fun a hA => 
    stp hA (r_ldG Tryd.underlying34 rfl hI.agr he14 hA) rfl fun a hA => 
    stp hA (r_ldG Tryd.underlying34 rfl hI.agr he15 hA) rfl fun a hA => 
    stp hA (r_ldG Tryd.underlying34 rfl hI.agr he3 hA) rfl fun a hA => 
    stp hA (r_ldG Tryd.underlying34 rfl hI.agr he16 hA) rfl fun a hA => 
    stp hA (r_ldG Tryd.underlying34 rfl hI.agr he17 hA) rfl fun a hA => 
    stp hA (r_ldG Tryd.underlying34 rfl hI.agr he7 hA) rfl fun a hA => 
    stp hA (r_ldG Tryd.underlying34 rfl hI.agr he18 hA) rfl fun a hA => 
    stp hA (r_ldG Tryd.underlying34 rfl hI.agr he19 hA) rfl fun a hA => 
    stp hA (r_ldG Tryd.underlying34 rfl hI.agr he20 hA) rfl fun a hA => 
    stp hA (r_ldG Tryd.underlying34 rfl hI.agr he21 hA) rfl fun a hA => 
    stp hA (r_ldG Tryd.underlying34 rfl hI.agr he6 hA) rfl fun a hA => 
    stp hA (r_ldG Tryd.underlying34 rfl hI.agr he22 hA) rfl fun a hA => 
    stp hA (r_ldG Tryd.underlying34 rfl hI.agr he23 hA) rfl fun a hA => 
    stp hA (r_ldG Tryd.underlying34 rfl hI.agr he24 hA) rfl fun a hA => ?_
  have hE1 : Els (RErr μ) 1 ([xErrEnd, xErrShape, xErrLong, xErrMany, xErrValue, xErrTwice, xErrBase, xErrRoot, xErrKnown, xErrParent, xErrInvalid, xErrTime, xErrMissing, xErrKey, xErrYoung, xErrEarly, xErrLess, xErrReward, xErrClash, xErrLimit, xErrFull, xErrRange, xErrNone, xErrWord, xErrNumber] : List Er) ([[e8]].flatten ++ ([[e0]].flatten ++ ([[e2]].flatten ++ ([[e1]].flatten ++ ([[e4]].flatten ++ ([[e5]].flatten ++ ([[e9]].flatten ++ ([[e10]].flatten ++ ([[e11]].flatten ++ ([[e12]].flatten ++ ([[e13]].flatten ++ ([[e14]].flatten ++ ([[e15]].flatten ++ ([[e3]].flatten ++ ([[e16]].flatten ++ ([[e17]].flatten ++ ([[e7]].flatten ++ ([[e18]].flatten ++ ([[e19]].flatten ++ ([[e20]].flatten ++ ([[e21]].flatten ++ ([[e6]].flatten ++ ([[e22]].flatten ++ ([[e23]].flatten ++ ([[e24]].flatten ++ ([])))))))))))))))))))))))))) := (Els.cons (c := [[e8]].flatten) ⟨_, rfl, he8⟩ rfl (Els.cons (c := [[e0]].flatten) ⟨_, rfl, he0⟩ rfl (Els.cons (c := [[e2]].flatten) ⟨_, rfl, he2⟩ rfl (Els.cons (c := [[e1]].flatten) ⟨_, rfl, he1⟩ rfl (Els.cons (c := [[e4]].flatten) ⟨_, rfl, he4⟩ rfl (Els.cons (c := [[e5]].flatten) ⟨_, rfl, he5⟩ rfl (Els.cons (c := [[e9]].flatten) ⟨_, rfl, he9⟩ rfl (Els.cons (c := [[e10]].flatten) ⟨_, rfl, he10⟩ rfl (Els.cons (c := [[e11]].flatten) ⟨_, rfl, he11⟩ rfl (Els.cons (c := [[e12]].flatten) ⟨_, rfl, he12⟩ rfl (Els.cons (c := [[e13]].flatten) ⟨_, rfl, he13⟩ rfl (Els.cons (c := [[e14]].flatten) ⟨_, rfl, he14⟩ rfl (Els.cons (c := [[e15]].flatten) ⟨_, rfl, he15⟩ rfl (Els.cons (c := [[e3]].flatten) ⟨_, rfl, he3⟩ rfl (Els.cons (c := [[e16]].flatten) ⟨_, rfl, he16⟩ rfl (Els.cons (c := [[e17]].flatten) ⟨_, rfl, he17⟩ rfl (Els.cons (c := [[e7]].flatten) ⟨_, rfl, he7⟩ rfl (Els.cons (c := [[e18]].flatten) ⟨_, rfl, he18⟩ rfl (Els.cons (c := [[e19]].flatten) ⟨_, rfl, he19⟩ rfl (Els.cons (c := [[e20]].flatten) ⟨_, rfl, he20⟩ rfl (Els.cons (c := [[e21]].flatten) ⟨_, rfl, he21⟩ rfl (Els.cons (c := [[e6]].flatten) ⟨_, rfl, he6⟩ rfl (Els.cons (c := [[e22]].flatten) ⟨_, rfl, he22⟩ rfl (Els.cons (c := [[e23]].flatten) ⟨_, rfl, he23⟩ rfl (Els.cons (c := [[e24]].flatten) ⟨_, rfl, he24⟩ rfl Els.nil)))))))))))))))))))))))))
  refine o_bsl ([[e8]].flatten ++ ([[e0]].flatten ++ ([[e2]].flatten ++ ([[e1]].flatten ++ ([[e4]].flatten ++ ([[e5]].flatten ++ ([[e9]].flatten ++ ([[e10]].flatten ++ ([[e11]].flatten ++ ([[e12]].flatten ++ ([[e13]].flatten ++ ([[e14]].flatten ++ ([[e15]].flatten ++ ([[e3]].flatten ++ ([[e16]].flatten ++ ([[e17]].flatten ++ ([[e7]].flatten ++ ([[e18]].flatten ++ ([[e19]].flatten ++ ([[e20]].flatten ++ ([[e21]].flatten ++ ([[e6]].flatten ++ ([[e22]].flatten ++ ([[e23]].flatten ++ ([[e24]].flatten ++ ([])))))))))))))))))))))))))) te34 zr34 Tryd.underlying196 hI hA rfl rfl rfl rfl ((fill_one (cells_err1 he8) rfl (by kernel_rfl)).trans ((fill_one (cells_err1 he0) rfl (by kernel_rfl)).trans ((fill_one (cells_err1 he2) rfl (by kernel_rfl)).trans ((fill_one (cells_err1 he1) rfl (by kernel_rfl)).trans ((fill_one (cells_err1 he4) rfl (by kernel_rfl)).trans ((fill_one (cells_err1 he5) rfl (by kernel_rfl)).trans ((fill_one (cells_err1 he9) rfl (by kernel_rfl)).trans ((fill_one (cells_err1 he10) rfl (by kernel_rfl)).trans ((fill_one (cells_err1 he11) rfl (by kernel_rfl)).trans ((fill_one (cells_err1 he12) rfl (by kernel_rfl)).trans ((fill_one (cells_err1 he13) rfl (by kernel_rfl)).trans ((fill_one (cells_err1 he14) rfl (by kernel_rfl)).trans ((fill_one (cells_err1 he15) rfl (by kernel_rfl)).trans ((fill_one (cells_err1 he3) rfl (by kernel_rfl)).trans ((fill_one (cells_err1 he16) rfl (by kernel_rfl)).trans ((fill_one (cells_err1 he17) rfl (by kernel_rfl)).trans ((fill_one (cells_err1 he7) rfl (by kernel_rfl)).trans ((fill_one (cells_err1 he18) rfl (by kernel_rfl)).trans ((fill_one (cells_err1 he19) rfl (by kernel_rfl)).trans ((fill_one (cells_err1 he20) rfl (by kernel_rfl)).trans ((fill_one (cells_err1 he21) rfl (by kernel_rfl)).trans ((fill_one (cells_err1 he6) rfl (by kernel_rfl)).trans ((fill_one (cells_err1 he22) rfl (by kernel_rfl)).trans ((fill_one (cells_err1 he23) rfl (by kernel_rfl)).trans ((fill_one (cells_err1 he24) rfl (by kernel_rfl)).trans (by kernel_rfl)))))))))))))))))))))))))) rfl fun g1 a w hA hI => ?_
  generalize hcs : ([[e8]].flatten ++ ([[e0]].flatten ++ ([[e2]].flatten ++ ([[e1]].flatten ++ ([[e4]].flatten ++ ([[e5]].flatten ++ ([[e9]].flatten ++ ([[e10]].flatten ++ ([[e11]].flatten ++ ([[e12]].flatten ++ ([[e13]].flatten ++ ([[e14]].flatten ++ ([[e15]].flatten ++ ([[e3]].flatten ++ ([[e16]].flatten ++ ([[e17]].flatten ++ ([[e7]].flatten ++ ([[e18]].flatten ++ ([[e19]].flatten ++ ([[e20]].flatten ++ ([[e21]].flatten ++ ([[e6]].flatten ++ ([[e22]].flatten ++ ([[e23]].flatten ++ ([[e24]].flatten ++ ([]))))))))))))))))))))))))) : List Value) = cs1 at hE1 hI
  clear hcs
  refine stp hA (r_as hA rfl) rfl fun a hA => ?_
  refine o_nil ?_
  refine hN2 _ _ ?_
  refine w_ret ?_
  obtain rfl := Option.some.inj (bS H)
  exact ret1 hA Tryd.results154 rfl ⟨_, rfl, (.slice (some ⟨g1, 0, none⟩) 25 25), cs1, μ, rfl, hE1, hI⟩
set_option maxRecDepth 20000 in
theorem sargassosee_Alike.c (μ : Store) (w0 : World) (hμ : Agr μ w0) (x0 : Er) (u0 : Value) (hx0 : ErS μ u0 x0) (x1 : Er) (u1 : Value) (hx1 : ErS μ u1 x1) (r : Bool) (H : sargassosee_Alike.f x0 x1 = some r) :
    Calls Tryd.prog 155 [u0, u1].toArray w0 (fun e w' => ∃ v, e = .returned v ∧ v = .bool r ∧ True ∧ Iv w0 [] μ μ [] w') := by
  refine enter Tryd.func155 rfl Tryd.ntmps155 rfl fun a hA => ?_
  have hI := Iv.start hμ
  have H := bI H
  refine w_seq fun _ hN1 => ?_
  refine w_reg ?_
  refine stp hA (r_as hA rfl) rfl fun a hA => ?_
  refine o_nil ?_
  refine hN1 _ _ ?_
  refine w_seq fun _ hN2 => ?_
  obtain ⟨c1, hz1, Hk1⟩ := bB H
  refine w_cut (fun a w => Fr a 20 [(0, u0), (1, u1), (4, .bool false), (10, .bool c1)] ∧ Iv w0 [] μ μ [] w) ?_ ?_
  · have H := bI hz1
    refine w_reg ?_
    refine stp hA (r_mv hA rfl) rfl fun a hA => 
      stp hA (r_eqE erF hI.agr hx0 erv_nil (.inl ⟨.inr ⟨_, rfl⟩, Er.fitR⟩) hA rfl rfl) rfl fun a hA => 
      stp hA (r_mv hA rfl) rfl fun a hA => ?_
    rcases Bool.eq_false_or_eq_true (decide (x0 = (Er.b 0))) with hc1 | hc1
    · have hc10 := hc1; have hc1 := of_decide_eq_true hc1; have H := bT H hc1
      refine o_no hA rfl rfl (by rw [hc10]; simp [vb]) rfl fun a hA => 
        o_no hA rfl rfl (by rw [hc10]; simp [vb]) rfl fun a hA => 
        stp hA (r_pick_t hA rfl hc10 rfl) rfl fun a hA => ?_
      refine o_nil ?_
      cases Option.some.inj (bS H)
      exact ⟨hA.sub ⟨rfl, rfl, rfl, rfl, trivial⟩, hI⟩
    · have hc10 := hc1; have hc1 := of_decide_eq_false hc1; have H := bF H hc1
      refine o_yes hA rfl rfl hc10 <| 
        stp hA (r_mv hA rfl) rfl fun a hA => 
        o_yes hA rfl rfl hc10 <| 
        stp hA (r_eqE erF hI.agr hx1 erv_nil (.inl ⟨.inr ⟨_, rfl⟩, Er.fitR⟩) hA rfl rfl) rfl fun a hA => 
        stp hA (r_pick_f hA rfl hc10 rfl) rfl fun a hA => ?_
      refine o_nil ?_
      cases Option.some.inj (bS H)
      exact ⟨hA.sub ⟨rfl, rfl, rfl, rfl, trivial⟩, hI⟩
  · rintro a w ⟨hA, hI⟩
    have H := Hk1
    refine w_cond hA rfl (fun hc2 => ?_) (fun hc2 => ?_)
    · have hc20 := hc2; have H := bT H hc2
      obtain ⟨c2, hz2, Hk2⟩ := bB H
      refine w_cut (fun a w => Fr a 20 [(0, u0), (1, u1), (4, .bool c2), (10, .bool c1)] ∧ Iv w0 [] μ μ [] w) ?_ ?_
      · have H := bI hz2
        refine w_reg ?_
        refine stp hA (r_mv hA rfl) rfl fun a hA => 
          stp hA (r_eqE erF hI.agr hx0 erv_nil (.inl ⟨.inr ⟨_, rfl⟩, Er.fitR⟩) hA rfl rfl) rfl fun a hA => 
          stp hA (r_mv hA rfl) rfl fun a hA => ?_
        rcases Bool.eq_false_or_eq_true (decide (x0 = (Er.b 0))) with hc3 | hc3
        · have hc30 := hc3; have hc3 := of_decide_eq_true hc3; have H := bT H hc3
          refine o_yes hA rfl rfl hc30 <| 
            stp hA (r_mv hA rfl) rfl fun a hA => 
            o_yes hA rfl rfl hc30 <| 
            stp hA (r_eqE erF hI.agr hx1 erv_nil (.inl ⟨.inr ⟨_, rfl⟩, Er.fitR⟩) hA rfl rfl) rfl fun a hA => 
            stp hA (r_pick_t hA rfl hc30 rfl) rfl fun a hA => 
            stp hA (r_as hA rfl) rfl fun a hA => ?_
          refine o_nil ?_
          cases Option.some.inj (bS H)
          exact ⟨hA.sub ⟨rfl, rfl, rfl, rfl, trivial⟩, hI⟩
        · have hc30 := hc3; have hc3 := of_decide_eq_false hc3; have H := bF H hc3
          refine o_no hA rfl rfl (by rw [hc30]; simp [vb]) rfl fun a hA => 
            o_no hA rfl rfl (by rw [hc30]; simp [vb]) rfl fun a hA => 
            stp hA (r_pick_f hA rfl hc30 rfl) rfl fun a hA => 
            stp hA (r_as hA rfl) rfl fun a hA => ?_
          refine o_nil ?_
          cases Option.some.inj (bS H)
          exact ⟨hA.sub ⟨rfl, rfl, rfl, rfl, trivial⟩, hI⟩
      · rintro a w ⟨hA, hI⟩
        have H := Hk2
        refine w_ret ?_
        obtain rfl := Option.some.inj (bS H)
        exact ret1 hA Tryd.results155 rfl ⟨_, rfl, rfl, trivial, hI.forget0⟩
    · have hc20 := hc2; have hc2 := ft hc2; have H := bF H hc2
      refine w_skip ?_
      refine hN2 _ _ ?_
      refine w_seq fun _ hN3 => ?_
      refine w_reg ?_
      refine stp hA (r_mv hA rfl) rfl fun a hA => 
        stp hA (r_mv hA rfl) rfl fun a hA => ?_
      obtain ⟨hb1, H⟩ := bG H
      refine stp hA (r_eqE erF hI.agr hx0 hx1 (.inr hb1) hA rfl rfl) rfl fun a hA => 
        stp hA (r_as hA rfl) rfl fun a hA => ?_
      refine o_nil ?_
      refine hN3 _ _ ?_
      refine w_ret ?_
      obtain rfl := Option.some.inj (bS H)
      exact ret1 hA Tryd.results155 rfl ⟨_, rfl, rfl, trivial, hI.forget0⟩
set_option maxRecDepth 20000 in
theorem sargassosee_sentinel.c (μ : Store) (w0 : World) (hμ : Agr μ w0) (x0 : Er) (u0 : Value) (hx0 : ErS μ u0 x0) (hG : Gl μ) (r : Int) (H : sargassosee_sentinel.f x0 = some r) :
    Calls Tryd.prog 148 [u0].toArray w0 (fun e w' => ∃ v, e = .returned v ∧ v = .int .i64 r ∧ InR .i64 r ∧ Iv w0 [] μ μ [] w') := by
  refine enter Tryd.func148 rfl Tryd.ntmps148 rfl fun a hA => ?_
  have hI := Iv.start hμ
  have H := bI H
  refine w_seq fun _ hN1 => ?_
  refine w_reg ?_
  refine stp hA (r_as hA rfl) rfl fun a hA => ?_
  refine o_nil ?_
  refine hN1 _ _ ?_
  refine w_seq fun _ hN2 => ?_
  refine w_reg ?_
  obtain ⟨r1, hr1, H⟩ := bB H
  refine o_call _ cf154 hA rfl (sargassosee_sentinels.c μ _ hI.agr hG r1 hr1) rfl fun v1 a w hz1 hA => ?_
  obtain ⟨_, cs1, μ1, rfl, hE1, hi1⟩ := hz1
  have hI := hI.call hi1
  refine stp hA (r_as hA rfl) rfl fun a hA => ?_
  refine o_nil ?_
  refine hN2 _ _ ?_
  refine w_seq fun _ hN3 => ?_
  refine w_seq fun _ hN4 => ?_
  refine w_reg ?_
  refine stp hA (r_as hA rfl) rfl fun a hA => ?_
  refine o_nil ?_
  refine hN4 _ _ ?_
  refine w_block ?_
  obtain ⟨z1, hz2, Hk1⟩ := bind_some H
  obtain ⟨n1, hn1⟩ := loopO_some hz2
  refine w_loop (fun n a w => ∃ (s1 : Int), loopN (sargassosee_sentinel.s0 x0 r1) n s1 = some z1 ∧ InR .i64 s1 ∧ Fr a 20 [(0, u0), (2, .int .i64 0), (3, v1), (4, .int .i64 s1)] ∧ Iv w0 [] μ μ1 [row 34 1 v1 r1.length cs1] w) n1 ⟨0, hn1, (in_lit .i64 0 rfl), hA.sub ⟨rfl, rfl, rfl, rfl, trivial⟩, hI⟩ ?_
  clear hA hI
  rintro n a w ⟨s1, hn1, ws1, hA, hI⟩
  obtain ⟨m1, rfl, H⟩ := loopN_bind hn1
  clear hn1
  refine w_seq fun _ hN5 => ?_
  refine w_seq fun _ hN6 => ?_
  refine w_reg ?_
  refine stp hA (r_mv hA rfl) rfl fun a hA => 
    stp hA (r_mv hA rfl) rfl fun a hA => ?_
  have hlen1 := Iv.row_in hI (j := 0) rfl
  refine stp hA (r_rlen (xs := 0) Tryd.underlying196 hI (j := 0) rfl hA rfl) rfl fun a hA => 
    stp hA (r_lss hA rfl rfl) rfl fun a hA => ?_
  refine o_nil ?_
  refine hN6 _ _ ?_
  refine w_cond hA rfl (fun hc1 => ?_) (fun hc1 => ?_)
  · have hc10 := hc1; have hc1 := of_decide_eq_true hc1; have H := bT H hc1
    refine w_skip ?_
    refine hN5 _ _ ?_
    refine w_seq fun _ hN7 => ?_
    refine w_block ?_
    refine w_seq fun _ hN8 => ?_
    refine w_reg ?_
    refine stp hA (r_mv hA rfl) rfl fun a hA => 
      stp hA (r_mv hA rfl) rfl fun a hA => 
      stp hA (r_mv hA rfl) rfl fun a hA => ?_
    obtain ⟨hb1, H⟩ := bG H
    refine stp hA (r_rix (j := 0) Tryd.underlying196 sz34 hI rfl hA rfl rfl hb1.1 hb1.2) rfl fun a hA => ?_
    obtain ⟨A1, _, B1, hc2, hl1, _, he1⟩ := Els.at_ hE1 (getD_some (Er.b 0) hb1.1 hb1.2)
    obtain ⟨v2, rfl, hw1⟩ := he1
    refine stp hA (r_rldQ (j := 0) (q := s1.toNat * 1) (off := 0) A1 B1 [] [] hc2 hl1 rfl Tryd.underlying34 rfl hI rfl hA rfl) rfl fun a hA => ?_
    obtain ⟨r2, hr2, H⟩ := bB H
    refine o_callp (u := .bool r2) cf155 hA rfl hI (sargassosee_Alike.c μ1 _ hI.agr x0 u0 (ErV.le (fun _ _ h => h) hi1.le hx0) (r1.getD s1.toNat (Er.b 0)) v2 hw1 r2 hr2) rfl fun a w hz3 hI hA => ?_
    refine o_nil ?_
    refine hN8 _ _ ?_
    refine w_cond hA rfl (fun hc3 => ?_) (fun hc3 => ?_)
    · have hc30 := hc3; have H := bT H hc3
      refine w_seq fun _ hN9 => ?_
      refine w_reg ?_
      refine stp hA (r_mv hA rfl) rfl fun a hA => 
        stp hA (r_add hA rfl rfl) rfl fun a hA => 
        stp hA (r_as hA rfl) rfl fun a hA => ?_
      refine o_nil ?_
      refine hN9 _ _ ?_
      refine w_ret ?_
      have H : some (IntKind.i64.wrap (101 + s1)) = some z1 := H
      obtain rfl := Option.some.inj H
      have H := Hk1
      obtain rfl := Option.some.inj (bS H)
      exact ret1 hA Tryd.results148 rfl ⟨_, rfl, rfl, (wrap_in _ _), hI.forget0⟩
    · have hc30 := hc3; have hc3 := ft hc3; have H := bF H hc3
      refine w_skip ?_
      refine hN7 _ _ ?_
      refine w_reg ?_
      refine stp hA (r_mv hA rfl) rfl fun a hA => 
        stp hA (r_add hA rfl rfl) rfl fun a hA => 
        stp hA (r_as hA rfl) rfl fun a hA => ?_
      refine o_nil ?_
      exact ⟨m1, Nat.lt_succ_self _, IntKind.i64.wrap (s1 + 1), H, (wrap_in _ _), hA.sub ⟨rfl, rfl, rfl, rfl, trivial⟩, hI⟩
  · have hc10 := hc1; have hc1 := of_decide_eq_false hc1; have H := bF H hc1
    refine w_exit rfl ?_
    refine hN3 _ _ ?_
    refine w_seq fun _ hN10 => ?_
    refine w_reg ?_
    refine stp hA (r_as hA rfl) rfl fun a hA => ?_
    refine o_nil ?_
    refine hN10 _ _ ?_
    refine w_ret ?_
    have H : some (-1) = some z1 := H
    obtain rfl := Option.some.inj H
    have H := Hk1
    obtain rfl := Option.some.inj (bS H)
    exact ret1 hA Tryd.results148 rfl ⟨_, rfl, rfl, (in_lit .i64 (-1) rfl), hI.forget0⟩
set_option maxRecDepth 20000 in
theorem sargassoref_Around.c (μ : Store) (w0 : World) (hμ : Agr μ w0) (x0 : sargassorefFault) (hx0 : sargassorefFaultW μ x0) (x1 : Int) (hx1 : InR .i64 x1) (r : sargassorefFault) (H : sargassoref_Around.f x0 x1 = some r) :
    Calls Tryd.prog 149 [.agg [[.int .i64 x0.Code], [.bool x0.Placed], [.int .i64 x0.Pos], [.bool x0.Outer], [.int .i64 x0.At]].flatten.toArray, .int .i64 x1].toArray w0 (fun e w' => ∃ v, e = .returned v ∧ v = .agg [[.int .i64 r.Code], [.bool r.Placed], [.int .i64 r.Pos], [.bool r.Outer], [.int .i64 r.At]].flatten.toArray ∧ sargassorefFaultW μ r ∧ Iv w0 [] μ μ [] w') := by
  refine enter Tryd.func149 rfl Tryd.ntmps149 rfl fun a hA => ?_
  have hI := Iv.start hμ
  have H := bI H
  refine w_seq fun _ hN1 => ?_
  refine w_reg ?_
  refine o_box [[.int .i64 x0.Code], [.bool x0.Placed], [.int .i64 x0.Pos], [.bool x0.Outer], [.int .i64 x0.At]] hI hA rfl rfl rfl fun g1 a w hA hI hg1 => 
    o_new [[.int .i64 0], [.bool false], [.int .i64 0], [.bool false], [.int .i64 0]] zr109 hI hA rfl fun g2 a w hA hI hg2 => ?_
  refine o_nil ?_
  refine hN1 _ _ ?_
  refine w_seq fun _ hN2 => ?_
  refine w_block ?_
  refine w_seq fun _ hN3 => ?_
  refine w_reg ?_
  refine stp hA (r_fd (k := 0) Tryd.underlying109 rfl sz3 hA rfl rfl) rfl fun a hA => 
    stp hA (r_ld1 (j := 1) [] [[.bool x0.Placed], [.int .i64 x0.Pos], [.bool x0.Outer], [.int .i64 x0.At]] Tryd.underlying3 rfl hI rfl hA rfl rfl) rfl fun a hA => 
    stp hA (r_eql hA rfl rfl) rfl fun a hA => 
    stp hA (r_as hA rfl) rfl fun a hA => ?_
  refine o_nil ?_
  refine hN3 _ _ ?_
  refine w_cond hA rfl (fun hc1 => ?_) (fun hc1 => ?_)
  · have hc10 := hc1; have hc1 := of_decide_eq_true hc1; have H := bT H hc1
    refine w_seq fun _ hN4 => ?_
    refine w_reg ?_
    refine stp hA (r_ldA (j := 1) [] [[.int .i64 x0.Code], [.bool x0.Placed], [.int .i64 x0.Pos], [.bool x0.Outer], [.int .i64 x0.At]] [] Tryd.underlying109 rfl sz109 rfl hI rfl hA rfl rfl) rfl fun a hA => 
      o_st (j := 0) [] [[.int .i64 0], [.bool false], [.int .i64 0], [.bool false], [.int .i64 0]] [[.int .i64 x0.Code], [.bool x0.Placed], [.int .i64 x0.Pos], [.bool x0.Outer], [.int .i64 x0.At]] [] sz109 rfl rfl (fl_cons (one_one rfl) (fl_cons (one_one rfl) (fl_cons (one_one rfl) (fl_cons (one_one rfl) (fl_cons (one_one rfl) fl_nil))))) hI rfl hA rfl rfl rfl rfl fun w hI => ?_
    refine o_nil ?_
    refine hN4 _ _ ?_
    refine w_ret ?_
    obtain rfl := Option.some.inj (bS H)
    exact retc Tryd.underlying109 rfl sz109 rfl hI (j := 0) rfl hA Tryd.results149 rfl ⟨_, rfl, rfl, ⟨hx0.1, hx0.2.1, hx0.2.2⟩, hI.forget0⟩
  · have hc10 := hc1; have hc1 := of_decide_eq_false hc1; have H := bF H hc1
    refine w_seq fun _ hN5 => ?_
    refine w_reg ?_
    refine stp hA (r_fd (k := 1) Tryd.underlying109 rfl sz4 hA rfl rfl) rfl fun a hA => 
      stp hA (r_ld1 (j := 1) [[.int .i64 x0.Code]] [[.int .i64 x0.Pos], [.bool x0.Outer], [.int .i64 x0.At]] Tryd.underlying4 rfl hI rfl hA rfl rfl) rfl fun a hA => 
      stp hA (r_not hA rfl) rfl fun a hA => 
      stp hA (r_as hA rfl) rfl fun a hA => ?_
    refine o_nil ?_
    refine hN5 _ _ ?_
    refine w_cond hA rfl (fun hc2 => ?_) (fun hc2 => ?_)
    · have hc20 := hc2; have hc2 := nT hc2; have hc2 := ft hc2; have H := bF H hc2
      refine w_seq fun _ hN6 => ?_
      refine w_reg ?_
      refine stp hA (r_fd (k := 0) Tryd.underlying109 rfl sz3 hA rfl rfl) rfl fun a hA => 
        stp hA (r_ld1 (j := 1) [] [[.bool x0.Placed], [.int .i64 x0.Pos], [.bool x0.Outer], [.int .i64 x0.At]] Tryd.underlying3 rfl hI rfl hA rfl rfl) rfl fun a hA => 
        stp hA (r_mv hA rfl) rfl fun a hA => ?_
      obtain ⟨r1, hr1, H⟩ := bB H
      refine o_callp (u := .agg [[.int .i64 r1.Code], [.bool r1.Placed], [.int .i64 r1.Pos], [.bool r1.Outer], [.int .i64 r1.At]].flatten.toArray) cf74 hA rfl hI (sargassoref_Placed.c μ _ hI.agr x0.Code hx0.1 x1 hx1 r1 hr1) rfl fun a w hz1 hI hA => 
        o_st (j := 0) [] [[.int .i64 0], [.bool false], [.int .i64 0], [.bool false], [.int .i64 0]] [[.int .i64 r1.Code], [.bool r1.Placed], [.int .i64 r1.Pos], [.bool r1.Outer], [.int .i64 r1.At]] [] sz109 rfl rfl (fl_cons (one_one rfl) (fl_cons (one_one rfl) (fl_cons (one_one rfl) (fl_cons (one_one rfl) (fl_cons (one_one rfl) fl_nil))))) hI rfl hA rfl rfl rfl rfl fun w hI => ?_
      refine o_nil ?_
      refine hN6 _ _ ?_
      refine w_ret ?_
      obtain rfl := Option.some.inj (bS H)
      exact retc Tryd.underlying109 rfl sz109 rfl hI (j := 0) rfl hA Tryd.results149 rfl ⟨_, rfl, rfl, ⟨hz1.1, hz1.2.1, hz1.2.2⟩, hI.forget0⟩
    · have hc20 := hc2; have hc2 := nF hc2; have H := bT H hc2
      refine w_skip ?_
      refine hN2 _ _ ?_
      refine w_seq fun _ hN7 => ?_
      refine w_reg ?_
      refine stp hA (r_fd (k := 3) Tryd.underlying109 rfl sz4 hA rfl rfl) rfl fun a hA => 
        o_st (j := 1) [[.int .i64 x0.Code], [.bool x0.Placed], [.int .i64 x0.Pos]] [[.bool x0.Outer]] [[.bool true]] [[.int .i64 x0.At]] sz4 rfl rfl (fl_cons (one_one rfl) fl_nil) hI rfl hA rfl rfl rfl rfl fun w hI => ?_
      refine o_nil ?_
      refine hN7 _ _ ?_
      refine w_seq fun _ hN8 => ?_
      refine w_reg ?_
      refine stp hA (r_mv hA rfl) rfl fun a hA => 
        stp hA (r_fd (k := 4) Tryd.underlying109 rfl sz3 hA rfl rfl) rfl fun a hA => 
        o_st (j := 1) [[.int .i64 x0.Code], [.bool x0.Placed], [.int .i64 x0.Pos], [.bool true]] [[.int .i64 x0.At]] [[.int .i64 x1]] [] sz3 rfl rfl (fl_cons (one_one rfl) fl_nil) hI rfl hA rfl rfl rfl rfl fun w hI => ?_
      refine o_nil ?_
      refine hN8 _ _ ?_
      refine w_seq fun _ hN9 => ?_
      refine w_reg ?_
      refine stp hA (r_ldA (j := 1) [] [[.int .i64 x0.Code], [.bool x0.Placed], [.int .i64 x0.Pos], [.bool true], [.int .i64 x1]] [] Tryd.underlying109 rfl sz109 rfl hI rfl hA rfl rfl) rfl fun a hA => 
        o_st (j := 0) [] [[.int .i64 0], [.bool false], [.int .i64 0], [.bool false], [.int .i64 0]] [[.int .i64 x0.Code], [.bool x0.Placed], [.int .i64 x0.Pos], [.bool true], [.int .i64 x1]] [] sz109 rfl rfl (fl_cons (one_one rfl) (fl_cons (one_one rfl) (fl_cons (one_one rfl) (fl_cons (one_one rfl) (fl_cons (one_one rfl) fl_nil))))) hI rfl hA rfl rfl rfl rfl fun w hI => ?_
      refine o_nil ?_
      refine hN9 _ _ ?_
      refine w_ret ?_
      obtain rfl := Option.some.inj (bS H)
      exact retc Tryd.underlying109 rfl sz109 rfl hI (j := 0) rfl hA Tryd.results149 rfl ⟨_, rfl, rfl, ⟨hx0.1, hx0.2.1, hx1⟩, hI.forget0⟩
set_option maxRecDepth 20000 in
theorem sargassosee_Fault.c (μ : Store) (w0 : World) (hμ : Agr μ w0) (x0 : Er) (u0 : Value) (hx0 : ErS μ u0 x0) (hG : Gl μ) (r : sargassorefFault) (H : sargassosee_Fault.f x0 = some r) :
    Calls Tryd.prog 130 [u0].toArray w0 (fun e w' => ∃ v, e = .returned v ∧ v = .agg [[.int .i64 r.Code], [.bool r.Placed], [.int .i64 r.Pos], [.bool r.Outer], [.int .i64 r.At]].flatten.toArray ∧ sargassorefFaultW μ r ∧ Iv w0 [] μ μ [] w') := by
  refine enter Tryd.func130 rfl Tryd.ntmps130 rfl fun a hA => ?_
  have hI := Iv.start hμ
  have H := bI H
  refine w_seq fun _ hN1 => ?_
  refine w_reg ?_
  refine o_new [[.int .i64 0], [.bool false], [.int .i64 0], [.bool false], [.int .i64 0]] zr109 hI hA rfl fun g1 a w hA hI hg1 => ?_
  refine o_nil ?_
  refine hN1 _ _ ?_
  refine w_seq fun _ hN2 => ?_
  refine w_seq fun _ hN3 => ?_
  refine w_reg ?_
  refine stp hA (r_mv hA rfl) rfl fun a hA => 
    stp hA (r_eqE erF hI.agr hx0 erv_nil (.inl ⟨.inr ⟨_, rfl⟩, Er.fitR⟩) hA rfl rfl) rfl fun a hA => ?_
  refine o_nil ?_
  refine hN3 _ _ ?_
  refine w_cond hA rfl (fun hc1 => ?_) (fun hc1 => ?_)
  · have hc10 := hc1; have hc1 := of_decide_eq_true hc1; have H := bT H hc1
    refine w_seq fun _ hN4 => ?_
    refine w_reg ?_
    obtain ⟨r1, hr1, H⟩ := bB H
    refine o_callp (u := .agg [[.int .i64 r1.Code], [.bool r1.Placed], [.int .i64 r1.Pos], [.bool r1.Outer], [.int .i64 r1.At]].flatten.toArray) cf131 hA rfl hI (sargassoref_None.c μ _ hI.agr  r1 hr1) rfl fun a w hz1 hI hA => 
      o_st (j := 0) [] [[.int .i64 0], [.bool false], [.int .i64 0], [.bool false], [.int .i64 0]] [[.int .i64 r1.Code], [.bool r1.Placed], [.int .i64 r1.Pos], [.bool r1.Outer], [.int .i64 r1.At]] [] sz109 rfl rfl (fl_cons (one_one rfl) (fl_cons (one_one rfl) (fl_cons (one_one rfl) (fl_cons (one_one rfl) (fl_cons (one_one rfl) fl_nil))))) hI rfl hA rfl rfl rfl rfl fun w hI => ?_
    refine o_nil ?_
    refine hN4 _ _ ?_
    refine w_ret ?_
    obtain rfl := Option.some.inj (bS H)
    exact retc Tryd.underlying109 rfl sz109 rfl hI (j := 0) rfl hA Tryd.results130 rfl ⟨_, rfl, rfl, ⟨hz1.1, hz1.2.1, hz1.2.2⟩, hI.forget0⟩
  · have hc10 := hc1; have hc1 := of_decide_eq_false hc1; have H := bF H hc1
    refine w_skip ?_
    refine hN2 _ _ ?_
    refine w_seq fun _ hN5 => ?_
    refine w_reg ?_
    refine stp hA (r_mv hA rfl) rfl fun a hA => 
      stp hA (r_asP (by decide) Tryd.underlying168 zrA hx0 hA rfl) rfl fun a hA => 
      stp hA (r_mv hA rfl) rfl fun a hA => 
      stp hA (r_extr (vs := [aP 168 u0, .bool x0.isP]) hA rfl rfl) rfl fun a hA => 
      stp hA (r_extr (vs := [aP 168 u0, .bool x0.isP]) hA rfl rfl) rfl fun a hA => 
      stp hA (r_as hA rfl) rfl fun a hA => 
      stp hA (r_as hA rfl) rfl fun a hA => ?_
    refine o_nil ?_
    refine hN5 _ _ ?_
    refine w_seq fun _ hN6 => ?_
    refine w_seq fun _ hN7 => ?_
    refine w_reg ?_
    refine stp hA (r_mv hA rfl) rfl fun a hA => 
      stp hA (r_not hA rfl) rfl fun a hA => ?_
    refine o_nil ?_
    refine hN7 _ _ ?_
    refine w_cond hA rfl (fun hc2 => ?_) (fun hc2 => ?_)
    · have hc20 := hc2; have hc2 := nT hc2; have hc2 := ft hc2; have H := bF H hc2; have hc2P : x0.isP = false := by simpa using hc20
      refine w_seq fun _ hN8 => ?_
      refine w_reg ?_
      refine stp hA (r_mv hA rfl) rfl fun a hA => ?_
      obtain ⟨r2, hr2, H⟩ := bB H
      refine o_callp (u := .int .i64 r2) cf148 hA rfl hI (sargassosee_sentinel.c μ _ hI.agr x0 u0 hx0 hG r2 hr2) rfl fun a w hz2 hI hA => ?_
      obtain ⟨r3, hr3, H⟩ := bB H
      refine o_callp (u := .agg [[.int .i64 r3.Code], [.bool r3.Placed], [.int .i64 r3.Pos], [.bool r3.Outer], [.int .i64 r3.At]].flatten.toArray) cf96 hA rfl hI (sargassoref_Bare.c μ _ hI.agr r2 hz2 r3 hr3) rfl fun a w hz3 hI hA => 
        o_st (j := 0) [] [[.int .i64 0], [.bool false], [.int .i64 0], [.bool false], [.int .i64 0]] [[.int .i64 r3.Code], [.bool r3.Placed], [.int .i64 r3.Pos], [.bool r3.Outer], [.int .i64 r3.At]] [] sz109 rfl rfl (fl_cons (one_one rfl) (fl_cons (one_one rfl) (fl_cons (one_one rfl) (fl_cons (one_one rfl) (fl_cons (one_one rfl) fl_nil))))) hI rfl hA rfl rfl rfl rfl fun w hI => ?_
      refine o_nil ?_
      refine hN8 _ _ ?_
      refine w_ret ?_
      obtain rfl := Option.some.inj (bS H)
      exact retc Tryd.underlying109 rfl sz109 rfl hI (j := 0) rfl hA Tryd.results130 rfl ⟨_, rfl, rfl, ⟨hz3.1, hz3.2.1, hz3.2.2⟩, hI.forget0⟩
    · have hc20 := hc2; have hc2 := nF hc2; have H := bT H hc2; have hc2P : x0.isP = true := by simpa using hc20
      refine w_skip ?_
      refine hN6 _ _ ?_
      refine w_seq fun _ hN9 => ?_
      obtain ⟨g2, v1, hv1, hat1, hw1, hE1⟩ := ErV.isP hx0 hc2P
      rw [hv1] at hA
      obtain ⟨c1, hz4, Hk1⟩ := bB H
      refine w_cut (fun a w => Fr a 75 [(0, u0), (2, .pointer (some ⟨g1, 0, none⟩)), (3, .pointer (some ⟨g2, 0, none⟩)), (4, .bool x0.isP), (8, .bool (decide (x0 = (Er.b 0)))), (16, .bool (!x0.isP)), (28, .bool c1)] ∧ Iv w0 [] μ μ [cel g1 [[.int .i64 0], [.bool false], [.int .i64 0], [.bool false], [.int .i64 0]] 109] w) ?_ ?_
      · have H := bI hz4
        refine w_reg ?_
        refine stp hA (r_mv hA rfl) rfl fun a hA => 
          stp hA (r_ptrnil_eql Tryd.underlying168 hA rfl rfl) rfl fun a hA => 
          stp hA (r_mv hA rfl) rfl fun a hA => 
          o_yes hA rfl rfl rfl <| 
          stp hA (r_mv hA rfl) rfl fun a hA => 
          o_yes hA rfl rfl rfl <| 
          stp hA (r_nilc hA rfl) rfl fun a hA => 
          o_yes hA rfl rfl rfl <| 
          stp hA (r_fd (k := 0 + 1) Tryd.underlying170 rfl sz34 hA rfl rfl) rfl fun a hA => 
          o_yes hA rfl rfl rfl <| 
          stp hA (r_ldm1 [[.int .i64 x0.pos]] [] Tryd.underlying34 rfl hI.agr hat1 hA rfl rfl) rfl fun a hA => 
          o_yes hA rfl rfl rfl <| 
          stp hA (r_eqE erF hI.agr hE1 erv_nil (.inl ⟨.inr ⟨_, rfl⟩, Er.fitR⟩) hA rfl rfl) rfl fun a hA => 
          stp hA (r_pick_f hA rfl rfl rfl) rfl fun a hA => ?_
        refine o_nil ?_
        cases Option.some.inj (bS H)
        exact ⟨hA.sub ⟨rfl, rfl, rfl, rfl, rfl, rfl, rfl, trivial⟩, hI⟩
      · rintro a w ⟨hA, hI⟩
        have H := Hk1
        refine w_cond hA rfl (fun hc3 => ?_) (fun hc3 => ?_)
        · have hc30 := hc3; have H := bT H hc3
          refine w_seq fun _ hN10 => ?_
          refine w_reg ?_
          obtain ⟨r4, hr4, H⟩ := bB H
          refine o_callp (u := .agg [[.int .i64 r4.Code], [.bool r4.Placed], [.int .i64 r4.Pos], [.bool r4.Outer], [.int .i64 r4.At]].flatten.toArray) cf96 hA rfl hI (sargassoref_Bare.c μ _ hI.agr (-1) (in_lit .i64 (-1) rfl) r4 hr4) rfl fun a w hz5 hI hA => 
            o_st (j := 0) [] [[.int .i64 0], [.bool false], [.int .i64 0], [.bool false], [.int .i64 0]] [[.int .i64 r4.Code], [.bool r4.Placed], [.int .i64 r4.Pos], [.bool r4.Outer], [.int .i64 r4.At]] [] sz109 rfl rfl (fl_cons (one_one rfl) (fl_cons (one_one rfl) (fl_cons (one_one rfl) (fl_cons (one_one rfl) (fl_cons (one_one rfl) fl_nil))))) hI rfl hA rfl rfl rfl rfl fun w hI => ?_
          refine o_nil ?_
          refine hN10 _ _ ?_
          refine w_ret ?_
          obtain rfl := Option.some.inj (bS H)
          exact retc Tryd.underlying109 rfl sz109 rfl hI (j := 0) rfl hA Tryd.results130 rfl ⟨_, rfl, rfl, ⟨hz5.1, hz5.2.1, hz5.2.2⟩, hI.forget0⟩
        · have hc30 := hc3; have hc3 := ft hc3; have H := bF H hc3
          refine w_skip ?_
          refine hN9 _ _ ?_
          refine w_seq fun _ hN11 => ?_
          refine w_reg ?_
          refine stp hA (r_mv hA rfl) rfl fun a hA => 
            stp hA (r_nilc hA rfl) rfl fun a hA => 
            stp hA (r_fd (k := 0 + 1) Tryd.underlying170 rfl sz34 hA rfl rfl) rfl fun a hA => 
            stp hA (r_ldm1 [[.int .i64 x0.pos]] [] Tryd.underlying34 rfl hI.agr hat1 hA rfl rfl) rfl fun a hA => 
            stp hA (r_asP (by decide) Tryd.underlying168 zrA hE1 hA rfl) rfl fun a hA => 
            stp hA (r_mv hA rfl) rfl fun a hA => 
            stp hA (r_extr (vs := [aP 168 v1, .bool x0.err.isP]) hA rfl rfl) rfl fun a hA => 
            stp hA (r_extr (vs := [aP 168 v1, .bool x0.err.isP]) hA rfl rfl) rfl fun a hA => 
            stp hA (r_as hA rfl) rfl fun a hA => 
            stp hA (r_as hA rfl) rfl fun a hA => ?_
          refine o_nil ?_
          refine hN11 _ _ ?_
          refine w_seq fun _ hN12 => ?_
          refine w_seq fun _ hN13 => ?_
          refine w_reg ?_
          refine stp hA (r_mv hA rfl) rfl fun a hA => 
            stp hA (r_not hA rfl) rfl fun a hA => ?_
          refine o_nil ?_
          refine hN13 _ _ ?_
          refine w_cond hA rfl (fun hc4 => ?_) (fun hc4 => ?_)
          · have hc40 := hc4; have hc4 := nT hc4; have hc4 := ft hc4; have H := bF H hc4; have hc4P : x0.err.isP = false := by simpa using hc40
            refine w_seq fun _ hN14 => ?_
            refine w_anyS [] mo (fun w (h : Iv w0 [] μ μ [cel g1 [[.int .i64 0], [.bool false], [.int .i64 0], [.bool false], [.int .i64 0]] 109] w) => (h.sel [] (by decide) rfl : Iv w0 [] μ μ [] w)) hI fun w hI => ?_
            refine g_easy (i := 0) hA rfl rfl (by kernel_rfl) (.inr (hI.sel [] (by decide) rfl)) (fun _ => r_mv hA rfl) rfl fun a hA => ?_
            refine g_easy (i := 1) hA rfl rfl (by kernel_rfl) (.inr (hI.sel [] (by decide) rfl)) (fun _ => r_nilc hA rfl) rfl fun a hA => ?_
            refine g_easy (i := 2) hA rfl rfl (by kernel_rfl) (.inr (hI.sel [] (by decide) rfl)) (fun _ => r_fd (k := 0 + 1) Tryd.underlying170 rfl sz34 hA rfl rfl) rfl fun a hA => ?_
            refine g_take (i := 3) hA rfl rfl (by kernel_rfl) (hI.sel [] (by decide) rfl) (fun w hI => r_ldm1 [[.int .i64 x0.pos]] [] Tryd.underlying34 rfl hI.agr hat1 hA rfl rfl) rfl fun a hA => ?_
            refine g_easy (i := 5) hA rfl rfl (by kernel_rfl) (.inr (hI.sel [] (by decide) rfl)) (fun _ => r_mv hA rfl) rfl fun a hA => ?_
            refine g_easy (i := 6) hA rfl rfl (by kernel_rfl) (.inr (hI.sel [] (by decide) rfl)) (fun _ => r_nilc hA rfl) rfl fun a hA => ?_
            refine g_easy (i := 7) hA rfl rfl (by kernel_rfl) (.inr (hI.sel [] (by decide) rfl)) (fun _ => r_fd (k := 0) Tryd.underlying170 rfl sz3 hA rfl rfl) rfl fun a hA => ?_
            refine g_take (i := 8) hA rfl rfl (by kernel_rfl) (hI.sel [] (by decide) rfl) (fun w hI => r_ldm1 [] [[v1]] Tryd.underlying3 rfl hI.agr hat1 hA rfl rfl) rfl fun a hA => ?_
            refine g_forced (i := 4) rfl (by kernel_rfl) ?_
            obtain ⟨r5, hr5, H⟩ := bB H
            refine o_callp (u := .int .i64 r5) cf148 hA rfl hI (sargassosee_sentinel.c μ _ hI.agr x0.err v1 hE1 hG r5 hr5) rfl fun a w hz6 hI hA => ?_
            refine o_nil ?_
            refine ⟨(.inr (hI.sel [] (by decide) rfl)), ?_⟩
            refine g_forced (i := 9) rfl (by kernel_rfl) ?_
            obtain ⟨r6, hr6, H⟩ := bB H
            refine o_callp (u := .agg [[.int .i64 r6.Code], [.bool r6.Placed], [.int .i64 r6.Pos], [.bool r6.Outer], [.int .i64 r6.At]].flatten.toArray) cf74 hA rfl hI (sargassoref_Placed.c μ _ hI.agr r5 hz6 x0.pos hw1 r6 hr6) rfl fun a w hz7 hI hA => ?_
            refine o_nil ?_
            refine ⟨(.inr (hI.sel [] (by decide) rfl)), ?_⟩
            refine g_forced (i := 10) rfl (by kernel_rfl) ?_
            refine o_st (j := 0) [] [[.int .i64 0], [.bool false], [.int .i64 0], [.bool false], [.int .i64 0]] [[.int .i64 r6.Code], [.bool r6.Placed], [.int .i64 r6.Pos], [.bool r6.Outer], [.int .i64 r6.At]] [] sz109 rfl rfl (fl_cons (one_one rfl) (fl_cons (one_one rfl) (fl_cons (one_one rfl) (fl_cons (one_one rfl) (fl_cons (one_one rfl) fl_nil))))) hI rfl hA rfl rfl rfl rfl fun w hI => ?_
            refine o_nil ?_
            refine ⟨(.inr (hI.sel [] (by decide) rfl)), ?_⟩
            refine g_nil (by kernel_rfl) ?_
            refine hN14 _ _ ?_
            refine w_ret ?_
            obtain rfl := Option.some.inj (bS H)
            exact retc Tryd.underlying109 rfl sz109 rfl hI (j := 0) rfl hA Tryd.results130 rfl ⟨_, rfl, rfl, ⟨hz7.1, hz7.2.1, hz7.2.2⟩, hI.forget0⟩
          · have hc40 := hc4; have hc4 := nF hc4; have H := bT H hc4; have hc4P : x0.err.isP = true := by simpa using hc40
            refine w_skip ?_
            refine hN12 _ _ ?_
            refine w_seq fun _ hN15 => ?_
            obtain ⟨g3, v2, hv2, hat2, hw2, hE2⟩ := ErV.isP hE1 hc4P
            rw [hv2] at hA
            obtain ⟨c2, hz8, Hk2⟩ := bB H
            refine w_cut (fun a w => Fr a 75 [(0, u0), (2, .pointer (some ⟨g1, 0, none⟩)), (3, .pointer (some ⟨g2, 0, none⟩)), (4, .bool x0.isP), (5, .pointer (some ⟨g3, 0, none⟩)), (6, .bool x0.err.isP), (8, .bool (decide (x0 = (Er.b 0)))), (16, .bool (!x0.isP)), (28, .bool c1), (39, .bool (!x0.err.isP)), (58, .bool c2)] ∧ Iv w0 [] μ μ [cel g1 [[.int .i64 0], [.bool false], [.int .i64 0], [.bool false], [.int .i64 0]] 109] w) ?_ ?_
            · have H := bI hz8
              refine w_reg ?_
              refine stp hA (r_mv hA rfl) rfl fun a hA => 
                stp hA (r_ptrnil_eql Tryd.underlying168 hA rfl rfl) rfl fun a hA => 
                stp hA (r_mv hA rfl) rfl fun a hA => 
                o_yes hA rfl rfl rfl <| 
                stp hA (r_mv hA rfl) rfl fun a hA => 
                o_yes hA rfl rfl rfl <| 
                stp hA (r_nilc hA rfl) rfl fun a hA => 
                o_yes hA rfl rfl rfl <| 
                stp hA (r_fd (k := 0 + 1) Tryd.underlying170 rfl sz34 hA rfl rfl) rfl fun a hA => 
                o_yes hA rfl rfl rfl <| 
                stp hA (r_ldm1 [[.int .i64 x0.err.pos]] [] Tryd.underlying34 rfl hI.agr hat2 hA rfl rfl) rfl fun a hA => 
                o_yes hA rfl rfl rfl <| 
                stp hA (r_eqE erF hI.agr hE2 erv_nil (.inl ⟨.inr ⟨_, rfl⟩, Er.fitR⟩) hA rfl rfl) rfl fun a hA => 
                stp hA (r_pick_f hA rfl rfl rfl) rfl fun a hA => ?_
              refine o_nil ?_
              cases Option.some.inj (bS H)
              exact ⟨hA.sub ⟨rfl, rfl, rfl, rfl, rfl, rfl, rfl, rfl, rfl, rfl, rfl, trivial⟩, hI⟩
            · rintro a w ⟨hA, hI⟩
              have H := Hk2
              refine w_cond hA rfl (fun hc5 => ?_) (fun hc5 => ?_)
              · have hc50 := hc5; have H := bT H hc5
                refine w_seq fun _ hN16 => ?_
                refine w_reg ?_
                obtain ⟨r7, hr7, H⟩ := bB H
                refine o_callp (u := .agg [[.int .i64 r7.Code], [.bool r7.Placed], [.int .i64 r7.Pos], [.bool r7.Outer], [.int .i64 r7.At]].flatten.toArray) cf96 hA rfl hI (sargassoref_Bare.c μ _ hI.agr (-1) (in_lit .i64 (-1) rfl) r7 hr7) rfl fun a w hz9 hI hA => 
                  o_st (j := 0) [] [[.int .i64 0], [.bool false], [.int .i64 0], [.bool false], [.int .i64 0]] [[.int .i64 r7.Code], [.bool r7.Placed], [.int .i64 r7.Pos], [.bool r7.Outer], [.int .i64 r7.At]] [] sz109 rfl rfl (fl_cons (one_one rfl) (fl_cons (one_one rfl) (fl_cons (one_one rfl) (fl_cons (one_one rfl) (fl_cons (one_one rfl) fl_nil))))) hI rfl hA rfl rfl rfl rfl fun w hI => ?_
                refine o_nil ?_
                refine hN16 _ _ ?_
                refine w_ret ?_
                obtain rfl := Option.some.inj (bS H)
                exact retc Tryd.underlying109 rfl sz109 rfl hI (j := 0) rfl hA Tryd.results130 rfl ⟨_, rfl, rfl, ⟨hz9.1, hz9.2.1, hz9.2.2⟩, hI.forget0⟩
              · have hc50 := hc5; have hc5 := ft hc5; have H := bF H hc5
                refine w_skip ?_
                refine hN15 _ _ ?_
                refine w_seq fun _ hN17 => ?_
                refine w_anyS [] mo (fun w (h : Iv w0 [] μ μ [cel g1 [[.int .i64 0], [.bool false], [.int .i64 0], [.bool false], [.int .i64 0]] 109] w) => (h.sel [] (by decide) rfl : Iv w0 [] μ μ [] w)) hI fun w hI => ?_
                refine g_easy (i := 0) hA rfl rfl (by kernel_rfl) (.inr (hI.sel [] (by decide) rfl)) (fun _ => r_mv hA rfl) rfl fun a hA => ?_
                refine g_easy (i := 1) hA rfl rfl (by kernel_rfl) (.inr (hI.sel [] (by decide) rfl)) (fun _ => r_nilc hA rfl) rfl fun a hA => ?_
                refine g_easy (i := 2) hA rfl rfl (by kernel_rfl) (.inr (hI.sel [] (by decide) rfl)) (fun _ => r_fd (k := 0 + 1) Tryd.underlying170 rfl sz34 hA rfl rfl) rfl fun a hA => ?_
                refine g_take (i := 3) hA rfl rfl (by kernel_rfl) (hI.sel [] (by decide) rfl) (fun w hI => r_ldm1 [[.int .i64 x0.err.pos]] [] Tryd.underlying34 rfl hI.agr hat2 hA rfl rfl) rfl fun a hA => ?_
                refine g_easy (i := 5) hA rfl rfl (by kernel_rfl) (.inr (hI.sel [] (by decide) rfl)) (fun _ => r_mv hA rfl) rfl fun a hA => ?_
                refine g_easy (i := 6) hA rfl rfl (by kernel_rfl) (.inr (hI.sel [] (by decide) rfl)) (fun _ => r_nilc hA rfl) rfl fun a hA => ?_
                refine g_easy (i := 7) hA rfl rfl (by kernel_rfl) (.inr (hI.sel [] (by decide) rfl)) (fun _ => r_fd (k := 0) Tryd.underlying170 rfl sz3 hA rfl rfl) rfl fun a hA => ?_
                refine g_take (i := 8) hA rfl rfl (by kernel_rfl) (hI.sel [] (by decide) rfl) (fun w hI => r_ldm1 [] [[v2]] Tryd.underlying3 rfl hI.agr hat2 hA rfl rfl) rfl fun a hA => ?_
                refine g_easy (i := 10) hA rfl rfl (by kernel_rfl) (.inr (hI.sel [] (by decide) rfl)) (fun _ => r_mv hA rfl) rfl fun a hA => ?_
                refine g_easy (i := 11) hA rfl rfl (by kernel_rfl) (.inr (hI.sel [] (by decide) rfl)) (fun _ => r_nilc hA rfl) rfl fun a hA => ?_
                refine g_easy (i := 12) hA rfl rfl (by kernel_rfl) (.inr (hI.sel [] (by decide) rfl)) (fun _ => r_fd (k := 0) Tryd.underlying170 rfl sz3 hA rfl rfl) rfl fun a hA => ?_
                refine g_take (i := 13) hA rfl rfl (by kernel_rfl) (hI.sel [] (by decide) rfl) (fun w hI => r_ldm1 [] [[v1]] Tryd.underlying3 rfl hI.agr hat1 hA rfl rfl) rfl fun a hA => ?_
                refine g_forced (i := 4) rfl (by kernel_rfl) ?_
                obtain ⟨r8, hr8, H⟩ := bB H
                refine o_callp (u := .int .i64 r8) cf148 hA rfl hI (sargassosee_sentinel.c μ _ hI.agr x0.err.err v2 hE2 hG r8 hr8) rfl fun a w hz10 hI hA => ?_
                refine o_nil ?_
                refine ⟨(.inr (hI.sel [] (by decide) rfl)), ?_⟩
                refine g_forced (i := 9) rfl (by kernel_rfl) ?_
                obtain ⟨r9, hr9, H⟩ := bB H
                refine o_callp (u := .agg [[.int .i64 r9.Code], [.bool r9.Placed], [.int .i64 r9.Pos], [.bool r9.Outer], [.int .i64 r9.At]].flatten.toArray) cf74 hA rfl hI (sargassoref_Placed.c μ _ hI.agr r8 hz10 x0.err.pos hw2 r9 hr9) rfl fun a w hz11 hI hA => ?_
                refine o_nil ?_
                refine ⟨(.inr (hI.sel [] (by decide) rfl)), ?_⟩
                refine g_forced (i := 14) rfl (by kernel_rfl) ?_
                obtain ⟨r10, hr10, H⟩ := bB H
                refine o_callp (u := .agg [[.int .i64 r10.Code], [.bool r10.Placed], [.int .i64 r10.Pos], [.bool r10.Outer], [.int .i64 r10.At]].flatten.toArray) cf149 hA rfl hI (sargassoref_Around.c μ _ hI.agr r9 ⟨hz11.1, hz11.2.1, hz11.2.2⟩ x0.pos hw1 r10 hr10) rfl fun a w hz12 hI hA => ?_
                refine o_nil ?_
                refine ⟨(.inr (hI.sel [] (by decide) rfl)), ?_⟩
                refine g_forced (i := 15) rfl (by kernel_rfl) ?_
                refine o_st (j := 0) [] [[.int .i64 0], [.bool false], [.int .i64 0], [.bool false], [.int .i64 0]] [[.int .i64 r10.Code], [.bool r10.Placed], [.int .i64 r10.Pos], [.bool r10.Outer], [.int .i64 r10.At]] [] sz109 rfl rfl (fl_cons (one_one rfl) (fl_cons (one_one rfl) (fl_cons (one_one rfl) (fl_cons (one_one rfl) (fl_cons (one_one rfl) fl_nil))))) hI rfl hA rfl rfl rfl rfl fun w hI => ?_
                refine o_nil ?_
                refine ⟨(.inr (hI.sel [] (by decide) rfl)), ?_⟩
                refine g_nil (by kernel_rfl) ?_
                refine hN17 _ _ ?_
                refine w_ret ?_
                obtain rfl := Option.some.inj (bS H)
                exact retc Tryd.underlying109 rfl sz109 rfl hI (j := 0) rfl hA Tryd.results130 rfl ⟨_, rfl, rfl, ⟨hz12.1, hz12.2.1, hz12.2.2⟩, hI.forget0⟩
set_option maxRecDepth 20000 in
theorem sargassosee_Same.c (μ : Store) (w0 : World) (hμ : Agr μ w0) (x0 : Er) (u0 : Value) (hx0 : ErS μ u0 x0) (x1 : sargassorefFault) (hx1 : sargassorefFaultW μ x1) (hG : Gl μ) (r : Bool) (H : sargassosee_Same.f x0 x1 = some r) :
    Calls Tryd.prog 73 [u0, .agg [[.int .i64 x1.Code], [.bool x1.Placed], [.int .i64 x1.Pos], [.bool x1.Outer], [.int .i64 x1.At]].flatten.toArray].toArray w0 (fun e w' => ∃ v, e = .returned v ∧ v = .bool r ∧ True ∧ Iv w0 [] μ μ [] w') := by
  refine enter Tryd.func73 rfl Tryd.ntmps73 rfl fun a hA => ?_
  have hI := Iv.start hμ
  have H := bI H
  refine w_seq fun _ hN1 => ?_
  refine w_reg ?_
  refine o_box [[.int .i64 x1.Code], [.bool x1.Placed], [.int .i64 x1.Pos], [.bool x1.Outer], [.int .i64 x1.At]] hI hA rfl rfl rfl fun g1 a w hA hI hg1 => 
    stp hA (r_as hA rfl) rfl fun a hA => ?_
  refine o_nil ?_
  refine hN1 _ _ ?_
  refine w_seq fun _ hN2 => ?_
  refine w_any [] mo hI fun w hI => ?_
  refine g_easy (i := 0) hA rfl rfl (by kernel_rfl) (.inr hI) (fun _ => r_mv hA rfl) rfl fun a hA => ?_
  refine g_take (i := 2) hA rfl rfl (by kernel_rfl) hI (fun w hI => r_ldA (j := 0) [] [[.int .i64 x1.Code], [.bool x1.Placed], [.int .i64 x1.Pos], [.bool x1.Outer], [.int .i64 x1.At]] [] Tryd.underlying109 rfl sz109 rfl hI rfl hA rfl rfl) rfl fun a hA => ?_
  refine g_forced (i := 1) rfl (by kernel_rfl) ?_
  obtain ⟨r1, hr1, H⟩ := bB H
  refine o_callp (u := .agg [[.int .i64 r1.Code], [.bool r1.Placed], [.int .i64 r1.Pos], [.bool r1.Outer], [.int .i64 r1.At]].flatten.toArray) cf130 hA rfl hI (sargassosee_Fault.c μ _ hI.agr x0 u0 hx0 hG r1 hr1) rfl fun a w hz1 hI hA => ?_
  refine o_nil ?_
  refine ⟨(.inr hI), ?_⟩
  refine g_forced (i := 3) rfl (by kernel_rfl) ?_
  obtain ⟨r2, hr2, H⟩ := bB H
  refine o_callp (u := .bool r2) cf129 hA rfl hI (sargassoref_SameFault.c μ _ hI.agr r1 ⟨hz1.1, hz1.2.1, hz1.2.2⟩ x1 ⟨hx1.1, hx1.2.1, hx1.2.2⟩ r2 hr2) rfl fun a w hz2 hI hA => ?_
  refine o_nil ?_
  refine ⟨(.inr hI), ?_⟩
  refine g_easy (i := 4) hA rfl rfl (by kernel_rfl) (.inr hI) (fun _ => r_as hA rfl) rfl fun a hA => ?_
  refine g_nil (by kernel_rfl) ?_
  refine hN2 _ _ ?_
  refine w_ret ?_
  obtain rfl := Option.some.inj (bS H)
  exact ret1 hA Tryd.results73 rfl ⟨_, rfl, rfl, trivial, hI.forget0⟩
set_option maxRecDepth 20000 in
theorem sargassosee_Is.c (μ : Store) (w0 : World) (hμ : Agr μ w0) (x0 : Er) (u0 : Value) (hx0 : ErS μ u0 x0) (x1 : Int) (hx1 : InR .i64 x1) (hG : Gl μ) (r : Bool) (H : sargassosee_Is.f x0 x1 = some r) :
    Calls Tryd.prog 31 [u0, .int .i64 x1].toArray w0 (fun e w' => ∃ v, e = .returned v ∧ v = .bool r ∧ True ∧ Iv w0 [] μ μ [] w') := by
  refine enter Tryd.func31 rfl Tryd.ntmps31 rfl fun a hA => ?_
  have hI := Iv.start hμ
  have H := bI H
  refine w_seq fun _ hN1 => ?_
  refine w_reg ?_
  refine stp hA (r_as hA rfl) rfl fun a hA => ?_
  refine o_nil ?_
  refine hN1 _ _ ?_
  refine w_seq fun _ hN2 => ?_
  refine w_reg ?_
  refine stp hA (r_mv hA rfl) rfl fun a hA => 
    stp hA (r_mv hA rfl) rfl fun a hA => ?_
  obtain ⟨r1, hr1, H⟩ := bB H
  refine o_callp (u := .agg [[.int .i64 r1.Code], [.bool r1.Placed], [.int .i64 r1.Pos], [.bool r1.Outer], [.int .i64 r1.At]].flatten.toArray) cf96 hA rfl hI (sargassoref_Bare.c μ _ hI.agr x1 hx1 r1 hr1) rfl fun a w hz1 hI hA => ?_
  obtain ⟨r2, hr2, H⟩ := bB H
  refine o_callp (u := .bool r2) cf73 hA rfl hI (sargassosee_Same.c μ _ hI.agr x0 u0 hx0 r1 ⟨hz1.1, hz1.2.1, hz1.2.2⟩ hG r2 hr2) rfl fun a w hz2 hI hA => 
    stp hA (r_as hA rfl) rfl fun a hA => ?_
  refine o_nil ?_
  refine hN2 _ _ ?_
  refine w_ret ?_
  obtain rfl := Option.some.inj (bS H)
  exact ret1 hA Tryd.results31 rfl ⟨_, rfl, rfl, trivial, hI.forget0⟩
end Go.Proofs.YtpeelghbhihgkaaDoor.T
namespace Go.Proofs.YtpeelghbhihgkaaDoor.T
open Go Go.Proofs Go.Proofs.YtpeelghbhihgkaaDoor.K
set_option linter.unusedVariables false
set_option linter.unusedSimpArgs false
noncomputable def compact_Len.f (x0 : Int) : Option Int := (if x0 < 253 then some 1 else (if x0 < 65536 then some 3 else (if x0 < 4294967296 then some 5 else some 9)))
def bytes_Clone.f (x0 : List Int) : Option (List Int) := if x0.length ≤ 140737488355328 then some x0 else none
noncomputable def compact_number.s0 (x2 : Int) : ((List Int) × Int × Int) → Option (((List Int) × Int × Int) ⊕ ((List Int) × Int)) := fun (s1, s2, s3) => (if s3 < x2 then (if s1.length + 1 ≤ 140737488355328 then some (.inl (s1 ++ ([IntKind.u8.wrap s2] : List Int), sR .u64 s2 8, IntKind.i64.wrap (s3 + 1))) else none) else some (.inr (s1, s2)))
noncomputable def compact_number.f (x0 : List Int) (x1 : Int) (x2 : Int) : Option (List Int) := ((loopO (compact_number.s0 x2) (x0, x1, 0)).bind fun (c1, c2) => some c1)
noncomputable def compact_Put.f (x0 : List Int) (x1 : Int) : Option (List Int) := ((bytes_Clone.f x0).bind fun r1 => ((compact_Len.f x1).bind fun r2 => (if r2 = 1 then (if r1.length + 1 ≤ 140737488355328 then some (r1 ++ ([IntKind.u8.wrap x1] : List Int)) else none) else (if r2 = 3 then (if r1.length + 1 ≤ 140737488355328 then ((compact_number.f (r1 ++ ([253] : List Int)) x1 2).bind fun r3 => some r3) else none) else (if r2 = 5 then (if r1.length + 1 ≤ 140737488355328 then ((compact_number.f (r1 ++ ([254] : List Int)) x1 4).bind fun r4 => some r4) else none) else (if r1.length + 1 ≤ 140737488355328 then ((compact_number.f (r1 ++ ([255] : List Int)) x1 8).bind fun r5 => some r5) else none))))))
noncomputable def compact_Read.f (x0 : List Int) : Option compactReader := ((bytes_Clone.f x0).bind fun r1 => some (⟨r1, 0, (Er.b 0)⟩ : compactReader))
noncomputable def compact_Reader_next.f (x0 : compactReader) (x1 : Int) : Option ((List Int) × compactReader) := (if x0.err ≠ (Er.b 0) then some ([], x0) else (if (IntKind.i64.wrap ((x0.b.length : Int) - x0.at_)) < x1 then some ([], (⟨x0.b, x0.at_, xErrEnd⟩ : compactReader)) else (if 0 ≤ (IntKind.i64.wrap ((IntKind.i64.wrap (x0.at_ + x1)) - x1)) ∧ (IntKind.i64.wrap ((IntKind.i64.wrap (x0.at_ + x1)) - x1)) ≤ (IntKind.i64.wrap (x0.at_ + x1)) ∧ (IntKind.i64.wrap (x0.at_ + x1)) ≤ (x0.b.length : Int) then some ((x0.b.take (IntKind.i64.wrap (x0.at_ + x1)).toNat).drop (IntKind.i64.wrap ((IntKind.i64.wrap (x0.at_ + x1)) - x1)).toNat, (⟨x0.b, IntKind.i64.wrap (x0.at_ + x1), x0.err⟩ : compactReader)) else none)))
noncomputable def compact_Reader_whole.s0 (r1 : (List Int) × compactReader) : (Int × Int) → Option ((Int × Int) ⊕ (Int × (List Int) × Int × Er)) := fun (s1, s2) => (if s2 < (r1.1.length : Int) then (if 0 ≤ s2 ∧ s2 < (r1.1.length : Int) then (if 0 ≤ (IntKind.i64.wrap (8 * s2)) then some (.inl (bOr .u64 s1 (sL .u64 (IntKind.u64.wrap (r1.1.getD s2.toNat 0)) (IntKind.i64.wrap (8 * s2))), IntKind.i64.wrap (s2 + 1))) else none) else none) else some (.inr (s1, r1.2.b, r1.2.at_, r1.2.err)))
noncomputable def compact_Reader_whole.f (x0 : compactReader) (x1 : Int) : Option (Int × compactReader) := ((((compact_Reader_next.f x0 x1).bind fun r1 => loopO (compact_Reader_whole.s0 r1) (0, 0))).bind fun (c1, c2, c3, c4) => some (c1, (⟨c2, c3, c4⟩ : compactReader)))
noncomputable def compact_Reader_Num.f (x0 : compactReader) (x1 : Int) : Option (Int × compactReader) := ((compact_Reader_whole.f x0 1).bind fun r1 => (((if r1.1 = 253 then some 2 else (if r1.1 = 254 then some 4 else (if r1.1 = 255 then some 8 else some 0)))).bind fun c1 => (((if 0 < c1 then ((compact_Reader_whole.f r1.2 c1).bind fun r2 => some (r2.1, r2.2.b, r2.2.at_, r2.2.err)) else some (r1.1, r1.2.b, r1.2.at_, r1.2.err))).bind fun (c2, c3, c4, c5) => (if c5 ≠ (Er.b 0) then some (0, (⟨c3, c4, c5⟩ : compactReader)) else ((compact_Len.f c2).bind fun r3 => (if r3 ≠ (IntKind.i64.wrap (1 + c1)) then some (0, (⟨c3, c4, xErrShape⟩ : compactReader)) else (if x1 < c2 then some (0, (⟨c3, c4, xErrMany⟩ : compactReader)) else some (c2, (⟨c3, c4, c5⟩ : compactReader)))))))))
noncomputable def compact_Reader_Left.f (x0 : compactReader) : Option Int := some (IntKind.i64.wrap ((x0.b.length : Int) - x0.at_))
noncomputable def compact_Reader_Err.f (x0 : compactReader) : Option Er := some x0.err
end Go.Proofs.YtpeelghbhihgkaaDoor.T
namespace Go.Proofs.YtpeelghbhihgkaaDoor.T
open Go Go.Proofs Go.Proofs.YtpeelghbhihgkaaDoor.K
set_option linter.unusedVariables false
set_option linter.unusedSimpArgs false
set_option maxRecDepth 20000 in
theorem compact_Len.c (μ : Store) (w0 : World) (hμ : Agr μ w0) (x0 : Int) (hx0 : InR .u64 x0) (r : Int) (H : compact_Len.f x0 = some r) :
    Calls Tryd.prog 24 [.int .u64 x0].toArray w0 (fun e w' => ∃ v, e = .returned v ∧ v = .int .i64 r ∧ InR .i64 r ∧ Iv w0 [] μ μ [] w') := by
  refine enter Tryd.func24 rfl Tryd.ntmps24 rfl fun a hA => ?_
  have hI := Iv.start hμ
  have H := bI H
  refine w_seq fun _ hN1 => ?_
  refine w_reg ?_
  refine stp hA (r_as hA rfl) rfl fun a hA => ?_
  refine o_nil ?_
  refine hN1 _ _ ?_
  refine w_seq fun _ hN2 => ?_
  refine w_block ?_
  refine w_seq fun _ hN3 => ?_
  refine w_reg ?_
  refine stp hA (r_mv hA rfl) rfl fun a hA => 
    stp hA (r_lss hA rfl rfl) rfl fun a hA => 
    stp hA (r_as hA rfl) rfl fun a hA => ?_
  refine o_nil ?_
  refine hN3 _ _ ?_
  refine w_cond hA rfl (fun hc1 => ?_) (fun hc1 => ?_)
  · have hc10 := hc1; have hc1 := of_decide_eq_true hc1; have H := bT H hc1
    refine w_seq fun _ hN4 => ?_
    refine w_reg ?_
    refine stp hA (r_as hA rfl) rfl fun a hA => ?_
    refine o_nil ?_
    refine hN4 _ _ ?_
    refine w_ret ?_
    obtain rfl := Option.some.inj (bS H)
    exact ret1 hA Tryd.results24 rfl ⟨_, rfl, rfl, (in_lit .i64 1 rfl), hI.forget0⟩
  · have hc10 := hc1; have hc1 := of_decide_eq_false hc1; have H := bF H hc1
    refine w_seq fun _ hN5 => ?_
    refine w_reg ?_
    refine stp hA (r_mv hA rfl) rfl fun a hA => 
      stp hA (r_lss hA rfl rfl) rfl fun a hA => 
      stp hA (r_as hA rfl) rfl fun a hA => ?_
    refine o_nil ?_
    refine hN5 _ _ ?_
    refine w_cond hA rfl (fun hc2 => ?_) (fun hc2 => ?_)
    · have hc20 := hc2; have hc2 := of_decide_eq_true hc2; have H := bT H hc2
      refine w_seq fun _ hN6 => ?_
      refine w_reg ?_
      refine stp hA (r_as hA rfl) rfl fun a hA => ?_
      refine o_nil ?_
      refine hN6 _ _ ?_
      refine w_ret ?_
      obtain rfl := Option.some.inj (bS H)
      exact ret1 hA Tryd.results24 rfl ⟨_, rfl, rfl, (in_lit .i64 3 rfl), hI.forget0⟩
    · have hc20 := hc2; have hc2 := of_decide_eq_false hc2; have H := bF H hc2
      refine w_seq fun _ hN7 => ?_
      refine w_reg ?_
      refine stp hA (r_mv hA rfl) rfl fun a hA => 
        stp hA (r_lss hA rfl rfl) rfl fun a hA => 
        stp hA (r_as hA rfl) rfl fun a hA => ?_
      refine o_nil ?_
      refine hN7 _ _ ?_
      refine w_cond hA rfl (fun hc3 => ?_) (fun hc3 => ?_)
      · have hc30 := hc3; have hc3 := of_decide_eq_true hc3; have H := bT H hc3
        refine w_seq fun _ hN8 => ?_
        refine w_reg ?_
        refine stp hA (r_as hA rfl) rfl fun a hA => ?_
        refine o_nil ?_
        refine hN8 _ _ ?_
        refine w_ret ?_
        obtain rfl := Option.some.inj (bS H)
        exact ret1 hA Tryd.results24 rfl ⟨_, rfl, rfl, (in_lit .i64 5 rfl), hI.forget0⟩
      · have hc30 := hc3; have hc3 := of_decide_eq_false hc3; have H := bF H hc3
        refine w_skip ?_
        refine hN2 _ _ ?_
        refine w_seq fun _ hN9 => ?_
        refine w_reg ?_
        refine stp hA (r_as hA rfl) rfl fun a hA => ?_
        refine o_nil ?_
        refine hN9 _ _ ?_
        refine w_ret ?_
        obtain rfl := Option.some.inj (bS H)
        exact ret1 hA Tryd.results24 rfl ⟨_, rfl, rfl, (in_lit .i64 9 rfl), hI.forget0⟩
set_option maxRecDepth 20000 in
theorem bytes_Clone.c (μ : Store) (w0 : World) (hμ : Agr μ w0) (x0 : List Int) (u0 : Value) (hx0 : Slc (RI .u8) 1 μ u0 x0) (r : List Int) (H : bytes_Clone.f x0 = some r) :
    Calls Tryd.prog 93 [u0].toArray w0 (fun e w' => ∃ v, e = .returned v ∧ ∃ (v0 : Value) (c0 : List Value), v = v0 ∧ Els (RI .u8) 1 r c0 ∧ Iv w0 [] μ μ [row 5 1 v0 r.length c0] w') := by
  obtain ⟨hb, H⟩ := guard_some H
  obtain rfl := Option.some.inj H
  obtain ⟨cs, hE, A, cp, rfl, h2, h3, h4, h5⟩ := hx0
  refine enter Tryd.func93 rfl Tryd.ntmps93 rfl fun a hA => ?_
  have hI := Iv.start hμ
  refine w_seq fun _ hN1 => w_reg (stp hA (r_as hA rfl) rfl fun a hA => o_nil (hN1 _ _ ?_))
  refine w_seq fun _ hN2 => w_seq fun _ hN3 => w_reg (stp hA (r_mv hA rfl) rfl fun a hA => stp hA (r_eqnil Tryd.underlying23 hA rfl rfl) rfl fun a hA => o_nil (hN3 _ _ ?_))
  refine w_cond hA rfl (fun hc => ?_) (fun hc => ?_)
  · have hx : x0 = [] := List.eq_nil_of_length_eq_zero (by
      rcases Nat.eq_zero_or_pos x0.length with h | h
      · exact h
      · rw [h4 (by omega)] at hc; cases hc)
    subst hx
    cases hE
    refine w_seq fun _ hN4 => w_reg (stp hA (r_as hA rfl) rfl fun a hA => o_nil (hN4 _ _ ?_))
    refine w_ret ?_
    have hI := hI.nilRow 5 1
    exact ret1 hA Tryd.results93 rfl ⟨_, rfl, .slice none 0 0, [], rfl, .nil, hI⟩
  · refine w_skip (hN2 _ _ ?_)
    refine w_seq fun _ hN5 => w_reg ?_
    refine o_bsl [] te5 zr5 Tryd.underlying23 hI hA rfl rfl rfl rfl (by kernel_rfl) rfl fun g a w hA hI => ?_
    refine stp hA (r_mv hA rfl) rfl fun a hA => ?_
    refine o_appL (xs := ([] : List Int)) (ys := x0) (j := 0) te5 Tryd.underlying23 hI rfl hA rfl rfl (src_sl hI.agr ⟨A, cp, rfl, h2, h3, h4, h5⟩ hE.len) hE.len (hE.ones (one_RI _)) (by simp only [List.length_nil, maxLen]; omega) (by simp only [List.length_nil]; omega) rfl fun v a w hA hI => ?_
    refine stp hA (r_as hA rfl) rfl fun a hA => o_nil (hN5 _ _ (w_ret ?_))
    exact ret1 hA Tryd.results93 rfl ⟨_, rfl, v, cs, rfl, hE, hI⟩
set_option maxRecDepth 20000 in
theorem compact_number.c (μ : Store) (w0 : World) (hμ : Agr μ w0) (x0 : List Int) (u0 : Value) (k0 : List Value) (hx0 : Els (RI .u8) 1 x0 k0) (ho0 : RowOK μ w0 5 1 u0 x0.length k0) (x1 : Int) (hx1 : InR .u64 x1) (x2 : Int) (hx2 : InR .i64 x2) (r : List Int) (H : compact_number.f x0 x1 x2 = some r) :
    Calls Tryd.prog 94 [u0, .int .u64 x1, .int .i64 x2].toArray w0 (fun e w' => ∃ v, e = .returned v ∧ ∃ (v0 : Value) (c0 : List Value), v = v0 ∧ Els (RI .u8) 1 r c0 ∧ Iv w0 (row 5 1 u0 x0.length k0).foot μ μ [row 5 1 v0 r.length c0] w') := by
  refine enter Tryd.func94 rfl Tryd.ntmps94 rfl fun a hA => ?_
  have hI := ho0.start hμ
  have H := bI H
  refine w_seq fun _ hN1 => ?_
  refine w_reg ?_
  refine stp hA (r_as hA rfl) rfl fun a hA => ?_
  refine o_nil ?_
  refine hN1 _ _ ?_
  obtain ⟨⟨c1, c2⟩, hz1, Hk1⟩ := bB H
  refine w_cut (fun a w => ∃ (vvc1 : Value) (ccc1 : List Value), Els (RI .u8) 1 c1 ccc1 ∧ InR .u64 c2 ∧ Fr a 19 [(0, vvc1), (1, .int .u64 c2), (2, .int .i64 x2), (6, (.slice none 0 0))] ∧ Iv w0 (row 5 1 u0 x0.length k0).foot μ μ [row 5 1 vvc1 c1.length ccc1] w) ?_ ?_
  · have H := bI hz1
    refine w_seq fun _ hN2 => ?_
    refine w_reg ?_
    refine stp hA (r_mv hA rfl) rfl fun a hA => 
      stp hA (r_mv hA rfl) rfl fun a hA => ?_
    refine o_nil ?_
    refine hN2 _ _ ?_
    refine w_block ?_
    obtain ⟨z1, hz2, Hk2⟩ := bind_some H
    obtain ⟨n1, hn1⟩ := loopO_some hz2
    refine w_loop (fun n a w => ∃ (s1 : List Int) (s2 : Int) (s3 : Int) (vvs1 : Value) (ccs1 : List Value), loopN (compact_number.s0 x2) n (s1, s2, s3) = some z1 ∧ Els (RI .u8) 1 s1 ccs1 ∧ InR .u64 s2 ∧ InR .i64 s3 ∧ Fr a 19 [(0, vvs1), (1, .int .u64 s2), (2, .int .i64 x2), (6, (.slice none 0 0)), (7, .int .i64 x2), (8, .int .i64 s3)] ∧ Iv w0 (row 5 1 u0 x0.length k0).foot μ μ [row 5 1 vvs1 s1.length ccs1] w) n1 ⟨x0, x1, 0, u0, k0, hn1, hx0, hx1, (in_lit .i64 0 rfl), hA.sub ⟨rfl, rfl, rfl, rfl, rfl, rfl, trivial⟩, hI⟩ ?_
    clear hA hI
    rintro n a w ⟨s1, s2, s3, vvs1, ccs1, hn1, ws1, ws2, ws3, hA, hI⟩
    obtain ⟨m1, rfl, H⟩ := loopN_bind hn1
    clear hn1
    refine w_seq fun _ hN3 => ?_
    refine w_reg ?_
    refine stp hA (r_lss hA rfl rfl) rfl fun a hA => ?_
    refine o_nil ?_
    refine hN3 _ _ ?_
    refine w_seq fun _ hN4 => ?_
    refine w_cond hA rfl (fun hc1 => ?_) (fun hc1 => ?_)
    · have hc10 := hc1; have hc1 := of_decide_eq_true hc1; have H := bT H hc1
      refine w_skip ?_
      refine hN4 _ _ ?_
      refine w_seq fun _ hN5 => ?_
      refine w_block ?_
      refine w_seq fun _ hN6 => ?_
      refine w_reg ?_
      refine stp hA (r_mv hA rfl) rfl fun a hA => 
        stp hA (r_mv hA rfl) rfl fun a hA => 
        stp hA (r_conv Tryd.underlying22 Tryd.underlying5 hA rfl) rfl fun a hA => ?_
      have hE1 : Els (RI .u8) 1 ([IntKind.u8.wrap s2] : List Int) ([[.int .u8 (IntKind.u8.wrap s2)]].flatten ++ ([])) := (Els.cons (c := [[.int .u8 (IntKind.u8.wrap s2)]].flatten) ⟨rfl, (wrap_in _ _)⟩ rfl Els.nil)
      refine o_bsl ([[.int .u8 (IntKind.u8.wrap s2)]].flatten ++ ([])) te5 zr5 Tryd.underlying23 hI hA rfl rfl rfl rfl (by kernel_rfl) rfl fun g1 a w hA hI => ?_
      generalize hcs : ([[.int .u8 (IntKind.u8.wrap s2)]].flatten ++ ([]) : List Value) = cs1 at hE1 hI
      clear hcs
      obtain ⟨hb1, H⟩ := bG H
      have hE3 := ws1.app hE1
      refine o_appL (xs := (s1 : List Int)) (ys := (([IntKind.u8.wrap s2] : List Int) : List Int)) (j := 1) te5 Tryd.underlying23 hI rfl hA rfl rfl (src_row hI (j := 0) rfl) hE1.len (hE1.ones (one_RI _)) (by first | decide | (have hq := hb1; (try simp only [List.length_cons, List.length_nil] at hq); (try simp only [List.length_cons, List.length_nil]); (try simp only [maxLen]); omega)) (by first | decide | (have hq := hb1; (try simp only [List.length_cons, List.length_nil] at hq); (try simp only [List.length_cons, List.length_nil]); (try simp only [maxLen]); omega)) rfl fun v1 a w hA hI => 
        stp hA (r_as hA rfl) rfl fun a hA => ?_
      refine o_nil ?_
      refine hN6 _ _ ?_
      refine w_reg ?_
      refine stp hA (r_mv hA rfl) rfl fun a hA => 
        stp hA (r_shr hA rfl rfl (by decide)) rfl fun a hA => 
        stp hA (r_as hA rfl) rfl fun a hA => ?_
      refine o_nil ?_
      refine hN5 _ _ ?_
      refine w_reg ?_
      refine stp hA (r_add hA rfl rfl) rfl fun a hA => 
        stp hA (r_mv hA rfl) rfl fun a hA => ?_
      refine o_nil ?_
      exact ⟨m1, Nat.lt_succ_self _, s1 ++ ([IntKind.u8.wrap s2] : List Int), sR .u64 s2 8, IntKind.i64.wrap (s3 + 1), v1, ccs1 ++ cs1, H, hE3, (sR_in rfl ws2 _), (wrap_in _ _), hA.sub ⟨rfl, rfl, rfl, rfl, rfl, rfl, trivial⟩, (hI.sel [1] (by decide) rfl)⟩
    · have hc10 := hc1; have hc1 := of_decide_eq_false hc1; have H := bF H hc1
      refine w_exit rfl ?_
      have H : some (s1, s2) = some z1 := H
      obtain rfl := Option.some.inj H
      have H := Hk2
      cases Option.some.inj (bS H)
      exact ⟨vvs1, ccs1, ws1, ws2, hA.sub ⟨rfl, rfl, rfl, rfl, trivial⟩, hI⟩
  · rintro a w ⟨vvc1, ccc1, wc1, wc2, hA, hI⟩
    have H := Hk1
    refine w_seq fun _ hN7 => ?_
    refine w_reg ?_
    refine stp hA (r_mv hA rfl) rfl fun a hA => 
      stp hA (r_as hA rfl) rfl fun a hA => ?_
    refine o_nil ?_
    refine hN7 _ _ ?_
    refine w_ret ?_
    obtain rfl := Option.some.inj (bS H)
    exact ret1 hA Tryd.results94 rfl ⟨_, rfl, vvc1, ccc1, rfl, wc1, (hI.less (Store.le.refl _) hI.le)⟩
set_option maxRecDepth 20000 in
theorem compact_Put.c (μ : Store) (w0 : World) (hμ : Agr μ w0) (x0 : List Int) (u0 : Value) (hx0 : Slc (RI .u8) 1 μ u0 x0) (x1 : Int) (hx1 : InR .u64 x1) (r : List Int) (H : compact_Put.f x0 x1 = some r) :
    Calls Tryd.prog 23 [u0, .int .u64 x1].toArray w0 (fun e w' => ∃ v, e = .returned v ∧ ∃ (v0 : Value) (c0 : List Value), v = v0 ∧ Els (RI .u8) 1 r c0 ∧ Iv w0 [] μ μ [row 5 1 v0 r.length c0] w') := by
  refine enter Tryd.func23 rfl Tryd.ntmps23 rfl fun a hA => ?_
  have hI := Iv.start hμ
  have H := bI H
  refine w_seq fun _ hN1 => ?_
  refine w_reg ?_
  refine stp hA (r_as hA rfl) rfl fun a hA => ?_
  refine o_nil ?_
  refine hN1 _ _ ?_
  refine w_seq fun _ hN2 => ?_
  refine w_reg ?_
  refine stp hA (r_mv hA rfl) rfl fun a hA => ?_
  obtain ⟨r1, hr1, H⟩ := bB H
  refine o_call _ cf93 hA rfl (bytes_Clone.c μ _ hI.agr x0 u0 hx0 r1 hr1) rfl fun v1 a w hz1 hA => ?_
  obtain ⟨_, cs1, rfl, hE1, hi1⟩ := hz1
  have hI := hI.call hi1
  refine stp hA (r_as hA rfl) rfl fun a hA => ?_
  refine o_nil ?_
  refine hN2 _ _ ?_
  refine w_seq fun _ hN3 => ?_
  refine w_seq fun _ hN4 => ?_
  refine w_reg ?_
  refine stp hA (r_mv hA rfl) rfl fun a hA => ?_
  obtain ⟨r2, hr2, H⟩ := bB H
  refine o_callp (u := .int .i64 r2) cf24 hA rfl hI (compact_Len.c μ _ hI.agr x1 hx1 r2 hr2) rfl fun a w hz2 hI hA => 
    stp hA (r_as hA rfl) rfl fun a hA => ?_
  refine o_nil ?_
  refine hN4 _ _ ?_
  refine w_seq fun _ hN5 => ?_
  refine w_reg ?_
  refine stp hA (r_mv hA rfl) rfl fun a hA => ?_
  refine o_nil ?_
  refine hN5 _ _ ?_
  refine w_block ?_
  refine w_seq fun _ hN6 => ?_
  refine w_reg ?_
  refine stp hA (r_eql hA rfl rfl) rfl fun a hA => 
    stp hA (r_as hA rfl) rfl fun a hA => ?_
  refine o_nil ?_
  refine hN6 _ _ ?_
  refine w_cond hA rfl (fun hc1 => ?_) (fun hc1 => ?_)
  · have hc10 := hc1; have hc1 := of_decide_eq_true hc1; have H := bT H hc1
    refine w_seq fun _ hN7 => ?_
    refine w_reg ?_
    refine stp hA (r_mv hA rfl) rfl fun a hA => 
      stp hA (r_mv hA rfl) rfl fun a hA => 
      stp hA (r_conv Tryd.underlying22 Tryd.underlying5 hA rfl) rfl fun a hA => ?_
    have hE2 : Els (RI .u8) 1 ([IntKind.u8.wrap x1] : List Int) ([[.int .u8 (IntKind.u8.wrap x1)]].flatten ++ ([])) := (Els.cons (c := [[.int .u8 (IntKind.u8.wrap x1)]].flatten) ⟨rfl, (wrap_in _ _)⟩ rfl Els.nil)
    refine o_bsl ([[.int .u8 (IntKind.u8.wrap x1)]].flatten ++ ([])) te5 zr5 Tryd.underlying23 hI hA rfl rfl rfl rfl (by kernel_rfl) rfl fun g1 a w hA hI => ?_
    generalize hcs : ([[.int .u8 (IntKind.u8.wrap x1)]].flatten ++ ([]) : List Value) = cs2 at hE2 hI
    clear hcs
    obtain ⟨hb1, H⟩ := bG H
    have hE4 := hE1.app hE2
    refine o_appL (xs := (r1 : List Int)) (ys := (([IntKind.u8.wrap x1] : List Int) : List Int)) (j := 1) te5 Tryd.underlying23 hI rfl hA rfl rfl (src_row hI (j := 0) rfl) hE2.len (hE2.ones (one_RI _)) (by first | decide | (have hq := hb1; (try simp only [List.length_cons, List.length_nil] at hq); (try simp only [List.length_cons, List.length_nil]); (try simp only [maxLen]); omega)) (by first | decide | (have hq := hb1; (try simp only [List.length_cons, List.length_nil] at hq); (try simp only [List.length_cons, List.length_nil]); (try simp only [maxLen]); omega)) rfl fun v2 a w hA hI => 
      stp hA (r_as hA rfl) rfl fun a hA => ?_
    refine o_nil ?_
    refine hN7 _ _ ?_
    refine w_ret ?_
    obtain rfl := Option.some.inj (bS H)
    exact ret1 hA Tryd.results23 rfl ⟨_, rfl, v2, cs1 ++ cs2, rfl, hE4, ((hI.sel [1] (by decide) rfl).less (Store.le.refl _) hI.le)⟩
  · have hc10 := hc1; have hc1 := of_decide_eq_false hc1; have H := bF H hc1
    refine w_seq fun _ hN8 => ?_
    refine w_reg ?_
    refine stp hA (r_eql hA rfl rfl) rfl fun a hA => 
      stp hA (r_as hA rfl) rfl fun a hA => ?_
    refine o_nil ?_
    refine hN8 _ _ ?_
    refine w_cond hA rfl (fun hc2 => ?_) (fun hc2 => ?_)
    · have hc20 := hc2; have hc2 := of_decide_eq_true hc2; have H := bT H hc2
      refine w_seq fun _ hN9 => ?_
      refine w_reg ?_
      refine stp hA (r_mv hA rfl) rfl fun a hA => ?_
      have hE5 : Els (RI .u8) 1 ([253] : List Int) ([[.int .u8 253]].flatten ++ ([])) := (Els.cons (c := [[.int .u8 253]].flatten) ⟨rfl, (in_lit .u8 253 rfl)⟩ rfl Els.nil)
      refine o_bsl ([[.int .u8 253]].flatten ++ ([])) te5 zr5 Tryd.underlying23 hI hA rfl rfl rfl rfl (by kernel_rfl) rfl fun g2 a w hA hI => ?_
      generalize hcs : ([[.int .u8 253]].flatten ++ ([]) : List Value) = cs5 at hE5 hI
      clear hcs
      obtain ⟨hb2, H⟩ := bG H
      have hE7 := hE1.app hE5
      refine o_appL (xs := (r1 : List Int)) (ys := (([253] : List Int) : List Int)) (j := 1) te5 Tryd.underlying23 hI rfl hA rfl rfl (src_row hI (j := 0) rfl) hE5.len (hE5.ones (one_RI _)) (by first | decide | (have hq := hb2; (try simp only [List.length_cons, List.length_nil] at hq); (try simp only [List.length_cons, List.length_nil]); (try simp only [maxLen]); omega)) (by first | decide | (have hq := hb2; (try simp only [List.length_cons, List.length_nil] at hq); (try simp only [List.length_cons, List.length_nil]); (try simp only [maxLen]); omega)) rfl fun v3 a w hA hI => 
        stp hA (r_mv hA rfl) rfl fun a hA => ?_
      obtain ⟨r3, hr3, H⟩ := bB H
      refine o_call _ cf94 hA rfl (compact_number.c μ _ hI.agr (r1 ++ ([253] : List Int)) v3 (cs1 ++ cs5) hE7 (hI.item (j := 1) rfl) x1 hx1 2 (in_lit .i64 2 rfl) r3 hr3) rfl fun v4 a w hz3 hA => ?_
      obtain ⟨_, cs8, rfl, hE8, hi2⟩ := hz3
      have hI := hI.call1 1 rfl hi2
      refine stp hA (r_as hA rfl) rfl fun a hA => ?_
      refine o_nil ?_
      refine hN9 _ _ ?_
      refine w_ret ?_
      obtain rfl := Option.some.inj (bS H)
      exact ret1 hA Tryd.results23 rfl ⟨_, rfl, v4, cs8, rfl, hE8, ((hI.sel [0] (by decide) rfl).less (Store.le.refl _) hI.le)⟩
    · have hc20 := hc2; have hc2 := of_decide_eq_false hc2; have H := bF H hc2
      refine w_seq fun _ hN10 => ?_
      refine w_reg ?_
      refine stp hA (r_eql hA rfl rfl) rfl fun a hA => 
        stp hA (r_as hA rfl) rfl fun a hA => ?_
      refine o_nil ?_
      refine hN10 _ _ ?_
      refine w_cond hA rfl (fun hc3 => ?_) (fun hc3 => ?_)
      · have hc30 := hc3; have hc3 := of_decide_eq_true hc3; have H := bT H hc3
        refine w_seq fun _ hN11 => ?_
        refine w_reg ?_
        refine stp hA (r_mv hA rfl) rfl fun a hA => ?_
        have hE9 : Els (RI .u8) 1 ([254] : List Int) ([[.int .u8 254]].flatten ++ ([])) := (Els.cons (c := [[.int .u8 254]].flatten) ⟨rfl, (in_lit .u8 254 rfl)⟩ rfl Els.nil)
        refine o_bsl ([[.int .u8 254]].flatten ++ ([])) te5 zr5 Tryd.underlying23 hI hA rfl rfl rfl rfl (by kernel_rfl) rfl fun g3 a w hA hI => ?_
        generalize hcs : ([[.int .u8 254]].flatten ++ ([]) : List Value) = cs9 at hE9 hI
        clear hcs
        obtain ⟨hb3, H⟩ := bG H
        have hE11 := hE1.app hE9
        refine o_appL (xs := (r1 : List Int)) (ys := (([254] : List Int) : List Int)) (j := 1) te5 Tryd.underlying23 hI rfl hA rfl rfl (src_row hI (j := 0) rfl) hE9.len (hE9.ones (one_RI _)) (by first | decide | (have hq := hb3; (try simp only [List.length_cons, List.length_nil] at hq); (try simp only [List.length_cons, List.length_nil]); (try simp only [maxLen]); omega)) (by first | decide | (have hq := hb3; (try simp only [List.length_cons, List.length_nil] at hq); (try simp only [List.length_cons, List.length_nil]); (try simp only [maxLen]); omega)) rfl fun v5 a w hA hI => 
          stp hA (r_mv hA rfl) rfl fun a hA => ?_
        obtain ⟨r4, hr4, H⟩ := bB H
        refine o_call _ cf94 hA rfl (compact_number.c μ _ hI.agr (r1 ++ ([254] : List Int)) v5 (cs1 ++ cs9) hE11 (hI.item (j := 1) rfl) x1 hx1 4 (in_lit .i64 4 rfl) r4 hr4) rfl fun v6 a w hz4 hA => ?_
        obtain ⟨_, cs12, rfl, hE12, hi3⟩ := hz4
        have hI := hI.call1 1 rfl hi3
        refine stp hA (r_as hA rfl) rfl fun a hA => ?_
        refine o_nil ?_
        refine hN11 _ _ ?_
        refine w_ret ?_
        obtain rfl := Option.some.inj (bS H)
        exact ret1 hA Tryd.results23 rfl ⟨_, rfl, v6, cs12, rfl, hE12, ((hI.sel [0] (by decide) rfl).less (Store.le.refl _) hI.le)⟩
      · have hc30 := hc3; have hc3 := of_decide_eq_false hc3; have H := bF H hc3
        refine w_skip ?_
        refine hN3 _ _ ?_
        refine w_seq fun _ hN12 => ?_
        refine w_reg ?_
        refine stp hA (r_mv hA rfl) rfl fun a hA => ?_
        have hE13 : Els (RI .u8) 1 ([255] : List Int) ([[.int .u8 255]].flatten ++ ([])) := (Els.cons (c := [[.int .u8 255]].flatten) ⟨rfl, (in_lit .u8 255 rfl)⟩ rfl Els.nil)
        refine o_bsl ([[.int .u8 255]].flatten ++ ([])) te5 zr5 Tryd.underlying23 hI hA rfl rfl rfl rfl (by kernel_rfl) rfl fun g4 a w hA hI => ?_
        generalize hcs : ([[.int .u8 255]].flatten ++ ([]) : List Value) = cs13 at hE13 hI
        clear hcs
        obtain ⟨hb4, H⟩ := bG H
        have hE15 := hE1.app hE13
        refine o_appL (xs := (r1 : List Int)) (ys := (([255] : List Int) : List Int)) (j := 1) te5 Tryd.underlying23 hI rfl hA rfl rfl (src_row hI (j := 0) rfl) hE13.len (hE13.ones (one_RI _)) (by first | decide | (have hq := hb4; (try simp only [List.length_cons, List.length_nil] at hq); (try simp only [List.length_cons, List.length_nil]); (try simp only [maxLen]); omega)) (by first | decide | (have hq := hb4; (try simp only [List.length_cons, List.length_nil] at hq); (try simp only [List.length_cons, List.length_nil]); (try simp only [maxLen]); omega)) rfl fun v7 a w hA hI => 
          stp hA (r_mv hA rfl) rfl fun a hA => ?_
        obtain ⟨r5, hr5, H⟩ := bB H
        refine o_call _ cf94 hA rfl (compact_number.c μ _ hI.agr (r1 ++ ([255] : List Int)) v7 (cs1 ++ cs13) hE15 (hI.item (j := 1) rfl) x1 hx1 8 (in_lit .i64 8 rfl) r5 hr5) rfl fun v8 a w hz5 hA => ?_
        obtain ⟨_, cs16, rfl, hE16, hi4⟩ := hz5
        have hI := hI.call1 1 rfl hi4
        refine stp hA (r_as hA rfl) rfl fun a hA => ?_
        refine o_nil ?_
        refine hN12 _ _ ?_
        refine w_ret ?_
        obtain rfl := Option.some.inj (bS H)
        exact ret1 hA Tryd.results23 rfl ⟨_, rfl, v8, cs16, rfl, hE16, ((hI.sel [0] (by decide) rfl).less (Store.le.refl _) hI.le)⟩
set_option maxRecDepth 20000 in
theorem compact_Read.c (μ : Store) (w0 : World) (hμ : Agr μ w0) (x0 : List Int) (u0 : Value) (hx0 : Slc (RI .u8) 1 μ u0 x0) (r : compactReader) (H : compact_Read.f x0 = some r) :
    Calls Tryd.prog 25 [u0].toArray w0 (fun e w' => ∃ v, e = .returned v ∧ ∃ (gq_1 : Nat) (vp_1 : Value) (vp_2 : Value) (μ' : Store), v = .pointer (some ⟨gq_1, 0, none⟩) ∧ Slc (RI .u8) 1 μ' vp_1 r.b ∧ InR .i64 r.at_ ∧ ErS μ' vp_2 r.err ∧ Iv w0 [] μ μ' [cel gq_1 [[vp_1], [.int .i64 r.at_], [vp_2]] 143] w') := by
  refine enter Tryd.func25 rfl Tryd.ntmps25 rfl fun a hA => ?_
  have hI := Iv.start hμ
  have H := bI H
  refine w_seq fun _ hN1 => ?_
  refine w_reg ?_
  refine stp hA (r_as hA rfl) rfl fun a hA => ?_
  refine o_nil ?_
  refine hN1 _ _ ?_
  refine w_seq fun _ hN2 => ?_
  refine w_reg ?_
  refine stp hA (r_mv hA rfl) rfl fun a hA => ?_
  obtain ⟨r1, hr1, H⟩ := bB H
  refine o_call _ cf93 hA rfl (bytes_Clone.c μ _ hI.agr x0 u0 hx0 r1 hr1) rfl fun v1 a w hz1 hA => ?_
  obtain ⟨_, cs1, rfl, hE1, hi1⟩ := hz1
  have hI := hI.call hi1
  refine stp hA (r_bldS (cs := [[v1], [.int .i64 0], [.nilIface]].flatten.toArray) (pl := [(0, 1), (1, 1), (2, 1)]) zr143 Tryd.underlying143 ⟨rfl, sz23, rfl, sz3, rfl, sz34, trivial⟩ hA rfl ((fill_one (own_cell hI (j := 0) rfl) rfl (by kernel_rfl)).trans (by kernel_rfl))) rfl fun a hA => 
    o_box [[v1], [.int .i64 0], [.nilIface]] hI hA rfl rfl rfl fun g1 a w hA hI hg1 => 
    stp hA (r_as hA rfl) rfl fun a hA => ?_
  refine o_nil ?_
  refine hN2 _ _ ?_
  refine w_ret ?_
  obtain ⟨μ1, hle1, hsv1, hI⟩ := hI.freezeRow 1 rfl
  have hS1 : Slc (RI .u8) 1 μ1 v1 r1 := ⟨_, hE1, hsv1⟩
  obtain rfl := Option.some.inj (bS H)
  exact ret1 hA Tryd.results25 rfl ⟨_, rfl, g1, v1, .nilIface, μ1, rfl, hS1, (in_lit .i64 0 rfl), erv_nil, hI⟩
set_option maxRecDepth 20000 in
theorem compact_Reader_next.c (μ : Store) (w0 : World) (hμ : Agr μ w0) (x0 : compactReader) (vp1 : Value) (vp2 : Value) (g0 : Nat) (hp1 : Slc (RI .u8) 1 μ vp1 x0.b) (hp2 : InR .i64 x0.at_) (hp3 : ErS μ vp2 x0.err) (ho0 : Its μ w0 [cel g0 [[vp1], [.int .i64 x0.at_], [vp2]] 143]) (x1 : Int) (hx1 : InR .i64 x1) (e8 : Value) (he8 : ErS μ e8 (Er.b 9)) (r : (List Int) × compactReader) (H : compact_Reader_next.f x0 x1 = some r) :
    Calls Tryd.prog 97 [.pointer (some ⟨g0, 0, none⟩), .int .i64 x1].toArray w0 (fun e w' => ∃ v, e = .returned v ∧ ∃ (v0 : Value) (vp_1 : Value) (vp_2 : Value) (μ' : Store), v = v0 ∧ Slc (RI .u8) 1 μ' v0 (r.1) ∧ Slc (RI .u8) 1 μ' vp_1 (r.2).b ∧ InR .i64 (r.2).at_ ∧ ErS μ' vp_2 (r.2).err ∧ Iv w0 (many [cel g0 [[vp1], [.int .i64 x0.at_], [vp2]] 143]).foot μ μ' [cel g0 [[vp_1], [.int .i64 ((r.2).at_)], [vp_2]] 143] w') := by
  refine enter Tryd.func97 rfl Tryd.ntmps97 rfl fun a hA => ?_
  have hI := Iv.startN hμ ho0
  have H := bI H
  refine w_seq fun _ hN1 => ?_
  refine w_reg ?_
  refine stp hA (r_as hA rfl) rfl fun a hA => ?_
  refine o_nil ?_
  refine hN1 _ _ ?_
  refine w_seq fun _ hN2 => ?_
  refine w_seq fun _ hN3 => ?_
  refine w_reg ?_
  refine stp hA (r_mv hA rfl) rfl fun a hA => 
    stp hA (r_nilc hA rfl) rfl fun a hA => 
    stp hA (r_fd (k := 2) Tryd.underlying143 rfl sz34 hA rfl rfl) rfl fun a hA => 
    stp hA (r_ld1 (j := 0) [[vp1], [.int .i64 x0.at_]] [] Tryd.underlying34 rfl hI rfl hA rfl rfl) rfl fun a hA => 
    stp hA (r_neE erF hI.agr hp3 erv_nil (.inl ⟨.inr ⟨_, rfl⟩, Er.fitR⟩) hA rfl rfl) rfl fun a hA => ?_
  refine o_nil ?_
  refine hN3 _ _ ?_
  refine w_cond hA rfl (fun hc1 => ?_) (fun hc1 => ?_)
  · have hc10 := hc1; have hc1 := of_decide_eq_true hc1; have H := bT H hc1
    refine w_seq fun _ hN4 => ?_
    refine w_reg ?_
    refine stp hA (r_as hA rfl) rfl fun a hA => ?_
    refine o_nil ?_
    refine hN4 _ _ ?_
    refine w_ret ?_
    obtain rfl := Option.some.inj (bS H)
    exact ret1 hA Tryd.results97 rfl ⟨_, rfl, (.slice none 0 0), vp1, vp2, μ, rfl, (slc_nil _ _ _), hp1, hp2, hp3, hI⟩
  · have hc10 := hc1; have hc1 := of_decide_eq_false hc1; have H := bF H hc1
    refine w_skip ?_
    refine hN2 _ _ ?_
    refine w_seq fun _ hN5 => ?_
    refine w_seq fun _ hN6 => ?_
    refine w_draw mo (by kernel_rfl) hI ?_
    refine qtp hA (fun _ hI => r_mv hA rfl) rfl fun a hA => 
      qtp hA (fun _ hI => r_mv hA rfl) rfl fun a hA => 
      qtp hA (fun _ hI => r_nilc hA rfl) rfl fun a hA => 
      qtp hA (fun _ hI => r_fd (k := 0) Tryd.underlying143 rfl sz23 hA rfl rfl) rfl fun a hA => 
      qtp hA (fun _ hI => r_ld1 (j := 0) [] [[.int .i64 x0.at_], [vp2]] Tryd.underlying23 rfl hI rfl hA rfl rfl) rfl fun a hA => ?_
    obtain ⟨_, hsl1⟩ := Slc.sv hp1
    refine qtp hA (fun _ hI => r_slen Tryd.underlying23 hsl1 hA rfl) rfl fun a hA => 
      qtp hA (fun _ hI => r_mv hA rfl) rfl fun a hA => 
      qtp hA (fun _ hI => r_nilc hA rfl) rfl fun a hA => 
      qtp hA (fun _ hI => r_fd (k := 1) Tryd.underlying143 rfl sz3 hA rfl rfl) rfl fun a hA => 
      qtp hA (fun _ hI => r_ld1 (j := 0) [[vp1]] [[vp2]] Tryd.underlying3 rfl hI rfl hA rfl rfl) rfl fun a hA => 
      qtp hA (fun _ hI => r_sub hA rfl rfl) rfl fun a hA => 
      qtp hA (fun _ hI => r_gtr hA rfl rfl) rfl fun a hA => ?_
    refine q_nil fun w hI => ?_
    refine hN6 _ _ ?_
    refine w_cond hA rfl (fun hc2 => ?_) (fun hc2 => ?_)
    · have hc20 := hc2; have hc2 := of_decide_eq_true hc2; have H := bT H hc2
      refine w_seq fun _ hN7 => ?_
      refine w_reg ?_
      refine stp hA (r_mv hA rfl) rfl fun a hA => 
        stp hA (r_ldG Tryd.underlying34 rfl hI.agr he8 hA) rfl fun a hA => 
        stp hA (r_nilc hA rfl) rfl fun a hA => 
        stp hA (r_fd (k := 2) Tryd.underlying143 rfl sz34 hA rfl rfl) rfl fun a hA => ?_
      have hsc : ErS μ e8 xErrEnd := he8
      refine o_st (j := 0) [[vp1], [.int .i64 x0.at_]] [[vp2]] [[e8]] [] sz34 rfl rfl (by intro c hc; simp at hc; subst hc; exact ErV.one hsc) hI rfl hA rfl rfl (cells_err hsc) rfl fun w hI => ?_
      refine o_nil ?_
      refine hN7 _ _ ?_
      refine w_seq fun _ hN8 => ?_
      refine w_reg ?_
      refine stp hA (r_as hA rfl) rfl fun a hA => ?_
      refine o_nil ?_
      refine hN8 _ _ ?_
      refine w_ret ?_
      obtain rfl := Option.some.inj (bS H)
      exact ret1 hA Tryd.results97 rfl ⟨_, rfl, (.slice none 0 0), vp1, e8, μ, rfl, (slc_nil _ _ _), hp1, hp2, he8, hI⟩
    · have hc20 := hc2; have hc2 := of_decide_eq_false hc2; have H := bF H hc2
      refine w_skip ?_
      refine hN5 _ _ ?_
      refine w_seq fun _ hN9 => ?_
      refine w_reg ?_
      refine stp hA (r_mv hA rfl) rfl fun a hA => 
        stp hA (r_nilc hA rfl) rfl fun a hA => 
        stp hA (r_fd (k := 1) Tryd.underlying143 rfl sz3 hA rfl rfl) rfl fun a hA => 
        stp hA (r_ld1 (j := 0) [[vp1]] [[vp2]] Tryd.underlying3 rfl hI rfl hA rfl rfl) rfl fun a hA => 
        stp hA (r_mv hA rfl) rfl fun a hA => 
        stp hA (r_add hA rfl rfl) rfl fun a hA => 
        stp hA (r_nilc hA rfl) rfl fun a hA => 
        stp hA (r_fd (k := 1) Tryd.underlying143 rfl sz3 hA rfl rfl) rfl fun a hA => 
        o_st (j := 0) [[vp1]] [[.int .i64 x0.at_]] [[.int .i64 (IntKind.i64.wrap (x0.at_ + x1))]] [[vp2]] sz3 rfl rfl (fl_cons (one_one rfl) fl_nil) hI rfl hA rfl rfl rfl rfl fun w hI => ?_
      refine o_nil ?_
      refine hN9 _ _ ?_
      refine w_seq fun _ hN10 => ?_
      refine w_draw mo (by kernel_rfl) hI ?_
      refine qtp hA (fun _ hI => r_mv hA rfl) rfl fun a hA => 
        qtp hA (fun _ hI => r_nilc hA rfl) rfl fun a hA => 
        qtp hA (fun _ hI => r_fd (k := 0) Tryd.underlying143 rfl sz23 hA rfl rfl) rfl fun a hA => 
        qtp hA (fun _ hI => r_ld1 (j := 0) [] [[.int .i64 (IntKind.i64.wrap (x0.at_ + x1))], [vp2]] Tryd.underlying23 rfl hI rfl hA rfl rfl) rfl fun a hA => 
        qtp hA (fun _ hI => r_mv hA rfl) rfl fun a hA => 
        qtp hA (fun _ hI => r_nilc hA rfl) rfl fun a hA => 
        qtp hA (fun _ hI => r_fd (k := 1) Tryd.underlying143 rfl sz3 hA rfl rfl) rfl fun a hA => 
        qtp hA (fun _ hI => r_ld1 (j := 0) [[vp1]] [[vp2]] Tryd.underlying3 rfl hI rfl hA rfl rfl) rfl fun a hA => 
        qtp hA (fun _ hI => r_mv hA rfl) rfl fun a hA => 
        qtp hA (fun _ hI => r_sub hA rfl rfl) rfl fun a hA => 
        qtp hA (fun _ hI => r_mv hA rfl) rfl fun a hA => 
        qtp hA (fun _ hI => r_nilc hA rfl) rfl fun a hA => 
        qtp hA (fun _ hI => r_fd (k := 1) Tryd.underlying143 rfl sz3 hA rfl rfl) rfl fun a hA => 
        qtp hA (fun _ hI => r_ld1 (j := 0) [[vp1]] [[vp2]] Tryd.underlying3 rfl hI rfl hA rfl rfl) rfl fun a hA => ?_
      obtain ⟨hb1, H⟩ := bG H
      obtain ⟨v1, hS1, hr1⟩ := r_sl (P := Tryd.prog) (t := 23) (x := .tmp 37) (l := (some (.tmp 43))) (h := (some (.tmp 47))) (i := IntKind.i64.wrap ((IntKind.i64.wrap (x0.at_ + x1)) - x1)) (j := IntKind.i64.wrap (x0.at_ + x1)) Tryd.underlying23 sz5 hp1 hA rfl rfl rfl (by have hq := hb1; omega) (by have hq := hb1; omega) (by have hq := hb1; omega)
      refine qtp hA (fun _ hI => hr1 _ _ _ _ _ _) rfl fun a hA => 
        qtp hA (fun _ hI => r_as hA rfl) rfl fun a hA => ?_
      refine q_nil fun w hI => ?_
      refine hN10 _ _ ?_
      refine w_ret ?_
      obtain rfl := Option.some.inj (bS H)
      exact ret1 hA Tryd.results97 rfl ⟨_, rfl, v1, vp1, vp2, μ, rfl, hS1, hp1, (wrap_in _ _), hp3, hI⟩
set_option maxRecDepth 20000 in
theorem compact_Reader_whole.c (μ : Store) (w0 : World) (hμ : Agr μ w0) (x0 : compactReader) (vp1 : Value) (vp2 : Value) (g0 : Nat) (hp1 : Slc (RI .u8) 1 μ vp1 x0.b) (hp2 : InR .i64 x0.at_) (hp3 : ErS μ vp2 x0.err) (ho0 : Its μ w0 [cel g0 [[vp1], [.int .i64 x0.at_], [vp2]] 143]) (x1 : Int) (hx1 : InR .i64 x1) (e8 : Value) (he8 : ErS μ e8 (Er.b 9)) (r : Int × compactReader) (H : compact_Reader_whole.f x0 x1 = some r) :
    Calls Tryd.prog 95 [.pointer (some ⟨g0, 0, none⟩), .int .i64 x1].toArray w0 (fun e w' => ∃ v, e = .returned v ∧ ∃ (vp_1 : Value) (vp_2 : Value) (μ' : Store), v = .int .u64 (r.1) ∧ InR .u64 (r.1) ∧ Slc (RI .u8) 1 μ' vp_1 (r.2).b ∧ InR .i64 (r.2).at_ ∧ ErS μ' vp_2 (r.2).err ∧ Iv w0 (many [cel g0 [[vp1], [.int .i64 x0.at_], [vp2]] 143]).foot μ μ' [cel g0 [[vp_1], [.int .i64 ((r.2).at_)], [vp_2]] 143] w') := by
  refine enter Tryd.func95 rfl Tryd.ntmps95 rfl fun a hA => ?_
  have hI := Iv.startN hμ ho0
  have H := bI H
  refine w_seq fun _ hN1 => ?_
  refine w_reg ?_
  refine stp hA (r_as hA rfl) rfl fun a hA => ?_
  refine o_nil ?_
  refine hN1 _ _ ?_
  refine w_seq fun _ hN2 => ?_
  refine w_reg ?_
  refine stp hA (r_as hA rfl) rfl fun a hA => ?_
  refine o_nil ?_
  refine hN2 _ _ ?_
  obtain ⟨⟨c1, c2, c3, c4⟩, hz1, Hk1⟩ := bB H
  refine w_cut (fun a w => ∃ (μ1 : Store) (vvc2 : Value) (vvc4 : Value), μ.le μ1 ∧ InR .u64 c1 ∧ Slc (RI .u8) 1 μ1 vvc2 c2 ∧ InR .i64 c3 ∧ ErS μ1 vvc4 c4 ∧ Fr a 26 [(0, .pointer (some ⟨g0, 0, none⟩)), (1, .int .i64 x1), (4, .int .u64 0), (5, .int .u64 c1)] ∧ Iv w0 (many [cel g0 [[vp1], [.int .i64 x0.at_], [vp2]] 143]).foot μ μ1 [cel g0 [[vvc2], [.int .i64 c3], [vvc4]] 143] w) ?_ ?_
  · have H := bI hz1
    refine w_seq fun _ hN3 => ?_
    refine w_reg ?_
    refine stp hA (r_mv hA rfl) rfl fun a hA => 
      stp hA (r_mv hA rfl) rfl fun a hA => ?_
    obtain ⟨r1, hr1, H⟩ := bB H
    refine o_call _ cf97 hA rfl (compact_Reader_next.c μ _ hI.agr x0 vp1 vp2 g0 hp1 hp2 hp3 (hI.handN 1) x1 hx1 e8 he8 r1 hr1) rfl fun v1 a w hz2 hA => ?_
    obtain ⟨_, vp3, vp4, μ2, rfl, hS1, hp4, hp5, hp6, hi1⟩ := hz2
    have hI := hI.backN 1 hi1
    have hI : Iv w0 (many [cel g0 [[vp1], [.int .i64 x0.at_], [vp2]] 143]).foot μ μ2 [cel g0 [[vp3], [.int .i64 r1.2.at_], [vp4]] 143] w := hI
    obtain ⟨_, hsl1⟩ := Slc.sv hS1
    refine stp hA (r_slen Tryd.underlying23 hsl1 hA rfl) rfl fun a hA => 
      stp hA (r_mv hA rfl) rfl fun a hA => ?_
    refine o_nil ?_
    refine hN3 _ _ ?_
    refine w_block ?_
    obtain ⟨z1, hz3, Hk2⟩ := bind_some H
    obtain ⟨n1, hn1⟩ := loopO_some hz3
    refine w_loop (fun n a w => ∃ (s1 : Int) (s2 : Int), loopN (compact_Reader_whole.s0 r1) n (s1, s2) = some z1 ∧ InR .u64 s1 ∧ InR .i64 s2 ∧ Fr a 26 [(0, .pointer (some ⟨g0, 0, none⟩)), (1, .int .i64 x1), (4, .int .u64 0), (5, .int .u64 s1), (10, v1), (11, .int .i64 (r1.1.length : Int)), (12, .int .i64 s2)] ∧ Iv w0 (many [cel g0 [[vp1], [.int .i64 x0.at_], [vp2]] 143]).foot μ μ2 [cel g0 [[vp3], [.int .i64 r1.2.at_], [vp4]] 143] w) n1 ⟨0, 0, hn1, (in_lit .u64 0 rfl), (in_lit .i64 0 rfl), hA.sub ⟨rfl, rfl, rfl, rfl, rfl, rfl, rfl, trivial⟩, hI⟩ ?_
    clear hA hI
    rintro n a w ⟨s1, s2, hn1, ws1, ws2, hA, hI⟩
    obtain ⟨m1, rfl, H⟩ := loopN_bind hn1
    clear hn1
    refine w_seq fun _ hN4 => ?_
    refine w_reg ?_
    refine stp hA (r_lss hA rfl rfl) rfl fun a hA => ?_
    refine o_nil ?_
    refine hN4 _ _ ?_
    refine w_seq fun _ hN5 => ?_
    refine w_cond hA rfl (fun hc1 => ?_) (fun hc1 => ?_)
    · have hc10 := hc1; have hc1 := of_decide_eq_true hc1; have H := bT H hc1
      refine w_skip ?_
      refine hN5 _ _ ?_
      refine w_seq fun _ hN6 => ?_
      refine w_block ?_
      refine w_seq fun _ hN7 => ?_
      refine w_reg ?_
      refine stp hA (r_mv hA rfl) rfl fun a hA => ?_
      obtain ⟨hb1, H⟩ := bG H
      obtain ⟨_, he1, _, hat1⟩ := Slc.elem1 hS1 (getD_some 0 hb1.1 hb1.2)
      obtain ⟨rfl, hw1⟩ := he1
      obtain ⟨_, hsl2⟩ := Slc.sv hS1
      refine stp hA (r_six1 Tryd.underlying23 sz5 hsl2 hA rfl rfl hb1.1 hb1.2) rfl fun a hA => 
        stp hA (r_ldm1 [] [] Tryd.underlying5 rfl hI.agr hat1 hA rfl rfl) rfl fun a hA => 
        stp hA (r_as hA rfl) rfl fun a hA => 
        stp hA (r_as hA rfl) rfl fun a hA => ?_
      refine o_nil ?_
      refine hN7 _ _ ?_
      refine w_reg ?_
      refine stp hA (r_mv hA rfl) rfl fun a hA => 
        stp hA (r_mv hA rfl) rfl fun a hA => 
        stp hA (r_conv Tryd.underlying5 Tryd.underlying22 hA rfl) rfl fun a hA => 
        stp hA (r_mv hA rfl) rfl fun a hA => 
        stp hA (r_mul hA rfl rfl) rfl fun a hA => ?_
      obtain ⟨hb2, H⟩ := bG H
      refine stp hA (r_shl hA rfl rfl hb2) rfl fun a hA => 
        stp hA (r_or hA rfl rfl) rfl fun a hA => 
        stp hA (r_as hA rfl) rfl fun a hA => ?_
      refine o_nil ?_
      refine hN6 _ _ ?_
      refine w_reg ?_
      refine stp hA (r_add hA rfl rfl) rfl fun a hA => 
        stp hA (r_mv hA rfl) rfl fun a hA => ?_
      refine o_nil ?_
      exact ⟨m1, Nat.lt_succ_self _, bOr .u64 s1 (sL .u64 (IntKind.u64.wrap (r1.1.getD s2.toNat 0)) (IntKind.i64.wrap (8 * s2))), IntKind.i64.wrap (s2 + 1), H, (wrap_in _ _), (wrap_in _ _), hA.sub ⟨rfl, rfl, rfl, rfl, rfl, rfl, rfl, trivial⟩, hI⟩
    · have hc10 := hc1; have hc1 := of_decide_eq_false hc1; have H := bF H hc1
      refine w_exit rfl ?_
      have H : some (s1, r1.2.b, r1.2.at_, r1.2.err) = some z1 := H
      obtain rfl := Option.some.inj H
      have H := Hk2
      cases Option.some.inj (bS H)
      exact ⟨μ2, vp3, vp4, hi1.le, ws1, hp4, hp5, hp6, hA.sub ⟨rfl, rfl, rfl, rfl, trivial⟩, hI⟩
  · rintro a w ⟨μ1, vvc2, vvc4, hle1, wc1, wc2, wc3, wc4, hA, hI⟩
    have H := Hk1
    refine w_seq fun _ hN8 => ?_
    refine w_reg ?_
    refine stp hA (r_mv hA rfl) rfl fun a hA => 
      stp hA (r_as hA rfl) rfl fun a hA => ?_
    refine o_nil ?_
    refine hN8 _ _ ?_
    refine w_ret ?_
    obtain rfl := Option.some.inj (bS H)
    exact ret1 hA Tryd.results95 rfl ⟨_, rfl, vvc2, vvc4, μ1, rfl, wc1, wc2, wc3, wc4, hI⟩
set_option maxRecDepth 20000 in
theorem compact_Reader_Num.c (μ : Store) (w0 : World) (hμ : Agr μ w0) (x0 : compactReader) (vp1 : Value) (vp2 : Value) (g0 : Nat) (hp1 : Slc (RI .u8) 1 μ vp1 x0.b) (hp2 : InR .i64 x0.at_) (hp3 : ErS μ vp2 x0.err) (ho0 : Its μ w0 [cel g0 [[vp1], [.int .i64 x0.at_], [vp2]] 143]) (x1 : Int) (hx1 : InR .u64 x1) (e0 : Value) (he0 : ErS μ e0 (Er.b 1)) (e1 : Value) (he1 : ErS μ e1 (Er.b 2)) (e8 : Value) (he8 : ErS μ e8 (Er.b 9)) (r : Int × compactReader) (H : compact_Reader_Num.f x0 x1 = some r) :
    Calls Tryd.prog 27 [.pointer (some ⟨g0, 0, none⟩), .int .u64 x1].toArray w0 (fun e w' => ∃ v, e = .returned v ∧ ∃ (vp_1 : Value) (vp_2 : Value) (μ' : Store), v = .int .u64 (r.1) ∧ InR .u64 (r.1) ∧ Slc (RI .u8) 1 μ' vp_1 (r.2).b ∧ InR .i64 (r.2).at_ ∧ ErS μ' vp_2 (r.2).err ∧ Iv w0 (many [cel g0 [[vp1], [.int .i64 x0.at_], [vp2]] 143]).foot μ μ' [cel g0 [[vp_1], [.int .i64 ((r.2).at_)], [vp_2]] 143] w') := by
  refine enter Tryd.func27 rfl Tryd.ntmps27 rfl fun a hA => ?_
  have hI := Iv.startN hμ ho0
  have H := bI H
  refine w_seq fun _ hN1 => ?_
  refine w_reg ?_
  refine stp hA (r_as hA rfl) rfl fun a hA => ?_
  refine o_nil ?_
  refine hN1 _ _ ?_
  refine w_seq fun _ hN2 => ?_
  refine w_reg ?_
  refine stp hA (r_mv hA rfl) rfl fun a hA => ?_
  obtain ⟨r1, hr1, H⟩ := bB H
  refine o_call _ cf95 hA rfl (compact_Reader_whole.c μ _ hI.agr x0 vp1 vp2 g0 hp1 hp2 hp3 (hI.handN 1) 1 (in_lit .i64 1 rfl) e8 he8 r1 hr1) rfl fun v1 a w hz1 hA => ?_
  obtain ⟨vp3, vp4, μ1, rfl, hw1, hp4, hp5, hp6, hi1⟩ := hz1
  have hI := hI.backN 1 hi1
  have hI : Iv w0 (many [cel g0 [[vp1], [.int .i64 x0.at_], [vp2]] 143]).foot μ μ1 [cel g0 [[vp3], [.int .i64 r1.2.at_], [vp4]] 143] w := hI
  refine stp hA (r_as hA rfl) rfl fun a hA => ?_
  refine o_nil ?_
  refine hN2 _ _ ?_
  refine w_seq fun _ hN3 => ?_
  refine w_reg ?_
  refine stp hA (r_as hA rfl) rfl fun a hA => ?_
  refine o_nil ?_
  refine hN3 _ _ ?_
  obtain ⟨c1, hz2, Hk1⟩ := bB H
  refine w_cut (fun a w => InR .i64 c1 ∧ Fr a 46 [(0, .pointer (some ⟨g0, 0, none⟩)), (1, .int .u64 x1), (4, .int .u64 0), (5, .int .u64 r1.1), (6, .int .i64 c1)] ∧ Iv w0 (many [cel g0 [[vp1], [.int .i64 x0.at_], [vp2]] 143]).foot μ μ1 [cel g0 [[vp3], [.int .i64 r1.2.at_], [vp4]] 143] w) ?_ ?_
  · have H := bI hz2
    refine w_seq fun _ hN4 => ?_
    refine w_reg ?_
    refine stp hA (r_mv hA rfl) rfl fun a hA => ?_
    refine o_nil ?_
    refine hN4 _ _ ?_
    refine w_block ?_
    refine w_seq fun _ hN5 => ?_
    refine w_reg ?_
    refine stp hA (r_eql hA rfl rfl) rfl fun a hA => 
      stp hA (r_as hA rfl) rfl fun a hA => ?_
    refine o_nil ?_
    refine hN5 _ _ ?_
    refine w_cond hA rfl (fun hc1 => ?_) (fun hc1 => ?_)
    · have hc10 := hc1; have hc1 := of_decide_eq_true hc1; have H := bT H hc1
      refine w_reg ?_
      refine stp hA (r_as hA rfl) rfl fun a hA => ?_
      refine o_nil ?_
      cases Option.some.inj (bS H)
      exact ⟨(in_lit .i64 2 rfl), hA.sub ⟨rfl, rfl, rfl, rfl, rfl, trivial⟩, hI⟩
    · have hc10 := hc1; have hc1 := of_decide_eq_false hc1; have H := bF H hc1
      refine w_seq fun _ hN6 => ?_
      refine w_reg ?_
      refine stp hA (r_eql hA rfl rfl) rfl fun a hA => 
        stp hA (r_as hA rfl) rfl fun a hA => ?_
      refine o_nil ?_
      refine hN6 _ _ ?_
      refine w_cond hA rfl (fun hc2 => ?_) (fun hc2 => ?_)
      · have hc20 := hc2; have hc2 := of_decide_eq_true hc2; have H := bT H hc2
        refine w_reg ?_
        refine stp hA (r_as hA rfl) rfl fun a hA => ?_
        refine o_nil ?_
        cases Option.some.inj (bS H)
        exact ⟨(in_lit .i64 4 rfl), hA.sub ⟨rfl, rfl, rfl, rfl, rfl, trivial⟩, hI⟩
      · have hc20 := hc2; have hc2 := of_decide_eq_false hc2; have H := bF H hc2
        refine w_seq fun _ hN7 => ?_
        refine w_reg ?_
        refine stp hA (r_eql hA rfl rfl) rfl fun a hA => 
          stp hA (r_as hA rfl) rfl fun a hA => ?_
        refine o_nil ?_
        refine hN7 _ _ ?_
        refine w_cond hA rfl (fun hc3 => ?_) (fun hc3 => ?_)
        · have hc30 := hc3; have hc3 := of_decide_eq_true hc3; have H := bT H hc3
          refine w_reg ?_
          refine stp hA (r_as hA rfl) rfl fun a hA => ?_
          refine o_nil ?_
          cases Option.some.inj (bS H)
          exact ⟨(in_lit .i64 8 rfl), hA.sub ⟨rfl, rfl, rfl, rfl, rfl, trivial⟩, hI⟩
        · have hc30 := hc3; have hc3 := of_decide_eq_false hc3; have H := bF H hc3
          refine w_skip ?_
          cases Option.some.inj (bS H)
          exact ⟨(in_lit .i64 0 rfl), hA.sub ⟨rfl, rfl, rfl, rfl, rfl, trivial⟩, hI⟩
  · rintro a w ⟨wc1, hA, hI⟩
    have H := Hk1
    obtain ⟨⟨c2, c3, c4, c5⟩, hz3, Hk2⟩ := bB H
    refine w_cut (fun a w => ∃ (μ2 : Store) (vvc3 : Value) (vvc5 : Value), μ1.le μ2 ∧ InR .u64 c2 ∧ Slc (RI .u8) 1 μ2 vvc3 c3 ∧ InR .i64 c4 ∧ ErS μ2 vvc5 c5 ∧ Fr a 46 [(0, .pointer (some ⟨g0, 0, none⟩)), (1, .int .u64 x1), (4, .int .u64 0), (5, .int .u64 c2), (6, .int .i64 c1)] ∧ Iv w0 (many [cel g0 [[vp1], [.int .i64 x0.at_], [vp2]] 143]).foot μ μ2 [cel g0 [[vvc3], [.int .i64 c4], [vvc5]] 143] w) ?_ ?_
    · have H := bI hz3
      refine w_seq fun _ hN8 => ?_
      refine w_reg ?_
      refine stp hA (r_mv hA rfl) rfl fun a hA => 
        stp hA (r_gtr hA rfl rfl) rfl fun a hA => ?_
      refine o_nil ?_
      refine hN8 _ _ ?_
      refine w_cond hA rfl (fun hc4 => ?_) (fun hc4 => ?_)
      · have hc40 := hc4; have hc4 := of_decide_eq_true hc4; have H := bT H hc4
        refine w_reg ?_
        refine stp hA (r_mv hA rfl) rfl fun a hA => 
          stp hA (r_mv hA rfl) rfl fun a hA => ?_
        obtain ⟨r2, hr2, H⟩ := bB H
        refine o_call _ cf95 hA rfl (compact_Reader_whole.c μ1 _ hI.agr r1.2 vp3 vp4 g0 hp4 hp5 hp6 (hI.handN 1) c1 wc1 e8 (ErV.le (fun _ _ h => h) hi1.le he8) r2 hr2) rfl fun v2 a w hz4 hA => ?_
        obtain ⟨vp5, vp6, μ3, rfl, hw2, hp7, hp8, hp9, hi2⟩ := hz4
        have hI := hI.backN 1 hi2
        have hI : Iv w0 (many [cel g0 [[vp1], [.int .i64 x0.at_], [vp2]] 143]).foot μ μ3 [cel g0 [[vp5], [.int .i64 r2.2.at_], [vp6]] 143] w := hI
        refine stp hA (r_as hA rfl) rfl fun a hA => ?_
        refine o_nil ?_
        cases Option.some.inj (bS H)
        exact ⟨μ3, vp5, vp6, hi2.le, hw2, hp7, hp8, hp9, hA.sub ⟨rfl, rfl, rfl, rfl, rfl, trivial⟩, hI⟩
      · have hc40 := hc4; have hc4 := of_decide_eq_false hc4; have H := bF H hc4
        refine w_skip ?_
        cases Option.some.inj (bS H)
        exact ⟨μ1, vp3, vp4, (Store.le.refl _), hw1, hp4, hp5, hp6, hA.sub ⟨rfl, rfl, rfl, rfl, rfl, trivial⟩, hI⟩
    · rintro a w ⟨μ2, vvc3, vvc5, hle1, wc2, wc3, wc4, wc5, hA, hI⟩
      have H := Hk2
      refine w_seq fun _ hN9 => ?_
      refine w_block ?_
      refine w_seq fun _ hN10 => ?_
      refine w_reg ?_
      refine stp hA (r_mv hA rfl) rfl fun a hA => 
        stp hA (r_nilc hA rfl) rfl fun a hA => 
        stp hA (r_fd (k := 2) Tryd.underlying143 rfl sz34 hA rfl rfl) rfl fun a hA => 
        stp hA (r_ld1 (j := 0) [[vvc3], [.int .i64 c4]] [] Tryd.underlying34 rfl hI rfl hA rfl rfl) rfl fun a hA => 
        stp hA (r_neE erF hI.agr wc5 erv_nil (.inl ⟨.inr ⟨_, rfl⟩, Er.fitR⟩) hA rfl rfl) rfl fun a hA => 
        stp hA (r_as hA rfl) rfl fun a hA => ?_
      refine o_nil ?_
      refine hN10 _ _ ?_
      refine w_cond hA rfl (fun hc5 => ?_) (fun hc5 => ?_)
      · have hc50 := hc5; have hc5 := of_decide_eq_true hc5; have H := bT H hc5
        refine w_skip ?_
        refine hN9 _ _ ?_
        refine w_seq fun _ hN11 => ?_
        refine w_reg ?_
        refine stp hA (r_as hA rfl) rfl fun a hA => ?_
        refine o_nil ?_
        refine hN11 _ _ ?_
        refine w_ret ?_
        obtain rfl := Option.some.inj (bS H)
        exact ret1 hA Tryd.results27 rfl ⟨_, rfl, vvc3, vvc5, μ2, rfl, (in_lit .u64 0 rfl), wc3, wc4, wc5, hI⟩
      · have hc50 := hc5; have hc5 := of_decide_eq_false hc5; have H := bF H hc5
        refine w_seq fun _ hN12 => ?_
        refine w_reg ?_
        refine stp hA (r_mv hA rfl) rfl fun a hA => ?_
        obtain ⟨r3, hr3, H⟩ := bB H
        refine o_callp (u := .int .i64 r3) cf24 hA rfl hI (compact_Len.c μ2 _ hI.agr c2 wc2 r3 hr3) rfl fun a w hz5 hI hA => 
          stp hA (r_mv hA rfl) rfl fun a hA => 
          stp hA (r_add hA rfl rfl) rfl fun a hA => 
          stp hA (r_neq hA rfl rfl) rfl fun a hA => 
          stp hA (r_as hA rfl) rfl fun a hA => ?_
        refine o_nil ?_
        refine hN12 _ _ ?_
        refine w_cond hA rfl (fun hc6 => ?_) (fun hc6 => ?_)
        · have hc60 := hc6; have hc6 := of_decide_eq_true hc6; have H := bT H hc6
          refine w_reg ?_
          refine stp hA (r_mv hA rfl) rfl fun a hA => 
            stp hA (r_ldG Tryd.underlying34 rfl hI.agr (ErV.le (fun _ _ h => h) (hi1.le.trans hle1) he0) hA) rfl fun a hA => 
            stp hA (r_nilc hA rfl) rfl fun a hA => 
            stp hA (r_fd (k := 2) Tryd.underlying143 rfl sz34 hA rfl rfl) rfl fun a hA => ?_
          have hsc : ErS μ2 e0 xErrShape := (ErV.le (fun _ _ h => h) (hi1.le.trans hle1) he0)
          refine o_st (j := 0) [[vvc3], [.int .i64 c4]] [[vvc5]] [[e0]] [] sz34 rfl rfl (by intro c hc; simp at hc; subst hc; exact ErV.one hsc) hI rfl hA rfl rfl (cells_err hsc) rfl fun w hI => ?_
          refine o_nil ?_
          refine hN9 _ _ ?_
          refine w_seq fun _ hN13 => ?_
          refine w_reg ?_
          refine stp hA (r_as hA rfl) rfl fun a hA => ?_
          refine o_nil ?_
          refine hN13 _ _ ?_
          refine w_ret ?_
          obtain rfl := Option.some.inj (bS H)
          exact ret1 hA Tryd.results27 rfl ⟨_, rfl, vvc3, e0, μ2, rfl, (in_lit .u64 0 rfl), wc3, wc4, (ErV.le (fun _ _ h => h) (hi1.le.trans hle1) he0), hI⟩
        · have hc60 := hc6; have hc6 := of_decide_eq_false hc6; have H := bF H hc6
          refine w_seq fun _ hN14 => ?_
          refine w_reg ?_
          refine stp hA (r_mv hA rfl) rfl fun a hA => 
            stp hA (r_mv hA rfl) rfl fun a hA => 
            stp hA (r_gtr hA rfl rfl) rfl fun a hA => 
            stp hA (r_as hA rfl) rfl fun a hA => ?_
          refine o_nil ?_
          refine hN14 _ _ ?_
          refine w_cond hA rfl (fun hc7 => ?_) (fun hc7 => ?_)
          · have hc70 := hc7; have hc7 := of_decide_eq_true hc7; have H := bT H hc7
            refine w_reg ?_
            refine stp hA (r_mv hA rfl) rfl fun a hA => 
              stp hA (r_ldG Tryd.underlying34 rfl hI.agr (ErV.le (fun _ _ h => h) (hi1.le.trans hle1) he1) hA) rfl fun a hA => 
              stp hA (r_nilc hA rfl) rfl fun a hA => 
              stp hA (r_fd (k := 2) Tryd.underlying143 rfl sz34 hA rfl rfl) rfl fun a hA => ?_
            have hsc : ErS μ2 e1 xErrMany := (ErV.le (fun _ _ h => h) (hi1.le.trans hle1) he1)
            refine o_st (j := 0) [[vvc3], [.int .i64 c4]] [[vvc5]] [[e1]] [] sz34 rfl rfl (by intro c hc; simp at hc; subst hc; exact ErV.one hsc) hI rfl hA rfl rfl (cells_err hsc) rfl fun w hI => ?_
            refine o_nil ?_
            refine hN9 _ _ ?_
            refine w_seq fun _ hN15 => ?_
            refine w_reg ?_
            refine stp hA (r_as hA rfl) rfl fun a hA => ?_
            refine o_nil ?_
            refine hN15 _ _ ?_
            refine w_ret ?_
            obtain rfl := Option.some.inj (bS H)
            exact ret1 hA Tryd.results27 rfl ⟨_, rfl, vvc3, e1, μ2, rfl, (in_lit .u64 0 rfl), wc3, wc4, (ErV.le (fun _ _ h => h) (hi1.le.trans hle1) he1), hI⟩
          · have hc70 := hc7; have hc7 := of_decide_eq_false hc7; have H := bF H hc7
            refine w_seq fun _ hN16 => ?_
            refine w_reg ?_
            refine stp hA (r_mv hA rfl) rfl fun a hA => 
              stp hA (r_as hA rfl) rfl fun a hA => ?_
            refine o_nil ?_
            refine hN16 _ _ ?_
            refine w_ret ?_
            obtain rfl := Option.some.inj (bS H)
            exact ret1 hA Tryd.results27 rfl ⟨_, rfl, vvc3, vvc5, μ2, rfl, wc2, wc3, wc4, wc5, hI⟩
set_option maxRecDepth 20000 in
theorem compact_Reader_Left.c (μ : Store) (w0 : World) (hμ : Agr μ w0) (x0 : compactReader) (vp1 : Value) (vp2 : Value) (g0 : Nat) (hp1 : Slc (RI .u8) 1 μ vp1 x0.b) (hp2 : InR .i64 x0.at_) (hp3 : ErS μ vp2 x0.err) (ho0 : Its μ w0 [cel g0 [[vp1], [.int .i64 x0.at_], [vp2]] 143]) (r : Int) (H : compact_Reader_Left.f x0 = some r) :
    Calls Tryd.prog 28 [.pointer (some ⟨g0, 0, none⟩)].toArray w0 (fun e w' => ∃ v, e = .returned v ∧ v = .int .i64 r ∧ InR .i64 r ∧ Iv w0 (many [cel g0 [[vp1], [.int .i64 x0.at_], [vp2]] 143]).foot μ μ [cel g0 [[vp1], [.int .i64 x0.at_], [vp2]] 143] w') := by
  refine enter Tryd.func28 rfl Tryd.ntmps28 rfl fun a hA => ?_
  have hI := Iv.startN hμ ho0
  have H := bI H
  refine w_seq fun _ hN1 => ?_
  refine w_reg ?_
  refine stp hA (r_as hA rfl) rfl fun a hA => ?_
  refine o_nil ?_
  refine hN1 _ _ ?_
  refine w_seq fun _ hN2 => ?_
  refine w_draw mo (by kernel_rfl) hI ?_
  refine qtp hA (fun _ hI => r_mv hA rfl) rfl fun a hA => 
    qtp hA (fun _ hI => r_nilc hA rfl) rfl fun a hA => 
    qtp hA (fun _ hI => r_fd (k := 0) Tryd.underlying143 rfl sz23 hA rfl rfl) rfl fun a hA => 
    qtp hA (fun _ hI => r_ld1 (j := 0) [] [[.int .i64 x0.at_], [vp2]] Tryd.underlying23 rfl hI rfl hA rfl rfl) rfl fun a hA => ?_
  obtain ⟨_, hsl1⟩ := Slc.sv hp1
  refine qtp hA (fun _ hI => r_slen Tryd.underlying23 hsl1 hA rfl) rfl fun a hA => 
    qtp hA (fun _ hI => r_mv hA rfl) rfl fun a hA => 
    qtp hA (fun _ hI => r_nilc hA rfl) rfl fun a hA => 
    qtp hA (fun _ hI => r_fd (k := 1) Tryd.underlying143 rfl sz3 hA rfl rfl) rfl fun a hA => 
    qtp hA (fun _ hI => r_ld1 (j := 0) [[vp1]] [[vp2]] Tryd.underlying3 rfl hI rfl hA rfl rfl) rfl fun a hA => 
    qtp hA (fun _ hI => r_sub hA rfl rfl) rfl fun a hA => 
    qtp hA (fun _ hI => r_as hA rfl) rfl fun a hA => ?_
  refine q_nil fun w hI => ?_
  refine hN2 _ _ ?_
  refine w_ret ?_
  obtain rfl := Option.some.inj (bS H)
  exact ret1 hA Tryd.results28 rfl ⟨_, rfl, rfl, (wrap_in _ _), (hI.less (Store.le.refl _) hI.le)⟩
set_option maxRecDepth 20000 in
theorem compact_Reader_Err.c (μ : Store) (w0 : World) (hμ : Agr μ w0) (x0 : compactReader) (vp1 : Value) (vp2 : Value) (g0 : Nat) (hp1 : Slc (RI .u8) 1 μ vp1 x0.b) (hp2 : InR .i64 x0.at_) (hp3 : ErS μ vp2 x0.err) (ho0 : Its μ w0 [cel g0 [[vp1], [.int .i64 x0.at_], [vp2]] 143]) (r : Er) (H : compact_Reader_Err.f x0 = some r) :
    Calls Tryd.prog 30 [.pointer (some ⟨g0, 0, none⟩)].toArray w0 (fun e w' => ∃ v, e = .returned v ∧ ∃ (v0 : Value) (μ' : Store), v = v0 ∧ ErS μ' v0 r ∧ Iv w0 (many [cel g0 [[vp1], [.int .i64 x0.at_], [vp2]] 143]).foot μ μ' [cel g0 [[vp1], [.int .i64 x0.at_], [vp2]] 143] w') := by
  refine enter Tryd.func30 rfl Tryd.ntmps30 rfl fun a hA => ?_
  have hI := Iv.startN hμ ho0
  have H := bI H
  refine w_seq fun _ hN1 => ?_
  refine w_reg ?_
  refine stp hA (r_as hA rfl) rfl fun a hA => ?_
  refine o_nil ?_
  refine hN1 _ _ ?_
  refine w_seq fun _ hN2 => ?_
  refine w_reg ?_
  refine stp hA (r_mv hA rfl) rfl fun a hA => 
    stp hA (r_nilc hA rfl) rfl fun a hA => 
    stp hA (r_fd (k := 2) Tryd.underlying143 rfl sz34 hA rfl rfl) rfl fun a hA => 
    stp hA (r_ld1 (j := 0) [[vp1], [.int .i64 x0.at_]] [] Tryd.underlying34 rfl hI rfl hA rfl rfl) rfl fun a hA => 
    stp hA (r_as hA rfl) rfl fun a hA => ?_
  refine o_nil ?_
  refine hN2 _ _ ?_
  refine w_ret ?_
  obtain rfl := Option.some.inj (bS H)
  exact ret1 hA Tryd.results30 rfl ⟨_, rfl, vp2, μ, rfl, hp3, hI⟩
end Go.Proofs.YtpeelghbhihgkaaDoor.T
namespace Go.Proofs.YtpeelghbhihgkaaDoor.T
open Go Go.Proofs Go.Proofs.YtpeelghbhihgkaaDoor.K
set_option linter.unusedVariables false
set_option linter.unusedSimpArgs false
noncomputable def sargassolaw2_first.f : Option Bool := ((compact_Put.f ([]) 253).bind fun r1 => (((if (r1.length : Int) = 3 then (if 0 < (r1.length : Int) then (if (r1.getD (0 : Int).toNat 0) = 253 then (if 1 < (r1.length : Int) then (if (r1.getD (1 : Int).toNat 0) = 253 then (if 2 < (r1.length : Int) then (if (r1.getD (2 : Int).toNat 0) = 0 then ((compact_Len.f 1).bind fun r2 => some (decide (r2 = 1))) else some false) else none) else some false) else none) else some false) else none) else some false)).bind fun c1 => some c1))
end Go.Proofs.YtpeelghbhihgkaaDoor.T
namespace Go.Proofs.YtpeelghbhihgkaaDoor.T
open Go Go.Proofs Go.Proofs.YtpeelghbhihgkaaDoor.K
set_option linter.unusedVariables false
set_option linter.unusedSimpArgs false
set_option maxRecDepth 20000 in
theorem sargassolaw2_first.c (μ : Store) (w0 : World) (hμ : Agr μ w0) (r : Bool) (H : sargassolaw2_first.f = some r) :
    Calls Tryd.prog 22 [].toArray w0 (fun e w' => ∃ v, e = .returned v ∧ v = .bool r ∧ True ∧ Iv w0 [] μ μ [] w') := by
  refine enter Tryd.func22 rfl Tryd.ntmps22 rfl fun a hA => ?_
  have hI := Iv.start hμ
  have H := bI H
  refine w_seq fun _ hN1 => ?_
  refine w_reg ?_
  refine stp hA (r_as hA rfl) rfl fun a hA => ?_
  refine o_nil ?_
  refine hN1 _ _ ?_
  refine w_seq fun _ hN2 => ?_
  refine w_reg ?_
  obtain ⟨r1, hr1, H⟩ := bB H
  refine o_call _ cf23 hA rfl (compact_Put.c μ _ hI.agr ([]) (.slice none 0 0) (slc_nil _ _ _) 253 (in_lit .u64 253 rfl) r1 hr1) rfl fun v1 a w hz1 hA => ?_
  obtain ⟨_, cs1, rfl, hE1, hi1⟩ := hz1
  have hI := hI.call hi1
  refine stp hA (r_as hA rfl) rfl fun a hA => ?_
  refine o_nil ?_
  refine hN2 _ _ ?_
  obtain ⟨c1, hz2, Hk1⟩ := bB H
  refine w_cut (fun a w => Fr a 28 [(0, .bool c1), (1, v1)] ∧ Iv w0 [] μ μ [row 5 1 v1 r1.length cs1] w) ?_ ?_
  · have H := bI hz2
    refine w_reg ?_
    refine stp hA (r_mv hA rfl) rfl fun a hA => ?_
    have hlen1 := Iv.row_in hI (j := 0) rfl
    refine stp hA (r_rlen (xs := 0) Tryd.underlying23 hI (j := 0) rfl hA rfl) rfl fun a hA => 
      stp hA (r_eql hA rfl rfl) rfl fun a hA => 
      stp hA (r_mv hA rfl) rfl fun a hA => ?_
    rcases Bool.eq_false_or_eq_true (decide ((r1.length : Int) = 3)) with hc1 | hc1
    · have hc10 := hc1; have hc1 := of_decide_eq_true hc1; have H := bT H hc1
      refine o_yes hA rfl rfl hc10 <| 
        stp hA (r_mv hA rfl) rfl fun a hA => 
        o_yes hA rfl rfl hc10 <| ?_
      obtain ⟨hb1, H⟩ := bG H
      refine stp hA (r_rix (j := 0) Tryd.underlying23 sz5 hI rfl hA rfl rfl (by decide) hb1) rfl fun a hA => 
        o_yes hA rfl rfl hc10 <| ?_
      have hq1 := els_get hE1 (by decide) hb1
      refine stp hA (r_rld1 (j := 0) Tryd.underlying5 rfl hI rfl hq1 hA rfl (by simp only [Nat.mul_one])) rfl fun a hA => 
        o_yes hA rfl rfl hc10 <| 
        stp hA (r_eql hA rfl rfl) rfl fun a hA => 
        stp hA (r_pick_t hA rfl hc10 rfl) rfl fun a hA => 
        stp hA (r_mv hA rfl) rfl fun a hA => ?_
      rcases Bool.eq_false_or_eq_true (decide ((r1.getD (0 : Int).toNat 0) = 253)) with hc2 | hc2
      · have hc20 := hc2; have hc2 := of_decide_eq_true hc2; have H := bT H hc2
        refine o_yes hA rfl rfl hc20 <| 
          stp hA (r_mv hA rfl) rfl fun a hA => 
          o_yes hA rfl rfl hc20 <| ?_
        obtain ⟨hb2, H⟩ := bG H
        refine stp hA (r_rix (j := 0) Tryd.underlying23 sz5 hI rfl hA rfl rfl (by decide) hb2) rfl fun a hA => 
          o_yes hA rfl rfl hc20 <| ?_
        have hq2 := els_get hE1 (by decide) hb2
        refine stp hA (r_rld1 (j := 0) Tryd.underlying5 rfl hI rfl hq2 hA rfl (by simp only [Nat.mul_one])) rfl fun a hA => 
          o_yes hA rfl rfl hc20 <| 
          stp hA (r_eql hA rfl rfl) rfl fun a hA => 
          stp hA (r_pick_t hA rfl hc20 rfl) rfl fun a hA => 
          stp hA (r_mv hA rfl) rfl fun a hA => ?_
        rcases Bool.eq_false_or_eq_true (decide ((r1.getD (1 : Int).toNat 0) = 253)) with hc3 | hc3
        · have hc30 := hc3; have hc3 := of_decide_eq_true hc3; have H := bT H hc3
          refine o_yes hA rfl rfl hc30 <| 
            stp hA (r_mv hA rfl) rfl fun a hA => 
            o_yes hA rfl rfl hc30 <| ?_
          obtain ⟨hb3, H⟩ := bG H
          refine stp hA (r_rix (j := 0) Tryd.underlying23 sz5 hI rfl hA rfl rfl (by decide) hb3) rfl fun a hA => 
            o_yes hA rfl rfl hc30 <| ?_
          have hq3 := els_get hE1 (by decide) hb3
          refine stp hA (r_rld1 (j := 0) Tryd.underlying5 rfl hI rfl hq3 hA rfl (by simp only [Nat.mul_one])) rfl fun a hA => 
            o_yes hA rfl rfl hc30 <| 
            stp hA (r_eql hA rfl rfl) rfl fun a hA => 
            stp hA (r_pick_t hA rfl hc30 rfl) rfl fun a hA => 
            stp hA (r_mv hA rfl) rfl fun a hA => ?_
          rcases Bool.eq_false_or_eq_true (decide ((r1.getD (2 : Int).toNat 0) = 0)) with hc4 | hc4
          · have hc40 := hc4; have hc4 := of_decide_eq_true hc4; have H := bT H hc4
            refine o_yes hA rfl rfl hc40 <| ?_
            obtain ⟨r2, hr2, H⟩ := bB H
            refine o_callp (u := .int .i64 r2) cf24 hA rfl hI (compact_Len.c μ _ hI.agr 1 (in_lit .u64 1 rfl) r2 hr2) rfl fun a w hz3 hI hA => 
              o_yes hA rfl rfl hc40 <| 
              stp hA (r_eql hA rfl rfl) rfl fun a hA => 
              stp hA (r_pick_t hA rfl hc40 rfl) rfl fun a hA => 
              stp hA (r_as hA rfl) rfl fun a hA => ?_
            refine o_nil ?_
            cases Option.some.inj (bS H)
            exact ⟨hA.sub ⟨rfl, rfl, trivial⟩, hI⟩
          · have hc40 := hc4; have hc4 := of_decide_eq_false hc4; have H := bF H hc4
            refine o_no hA rfl rfl (by rw [hc40]; simp [vb]) rfl fun a hA => 
              o_no hA rfl rfl (by rw [hc40]; simp [vb]) rfl fun a hA => 
              stp hA (r_pick_f hA rfl hc40 rfl) rfl fun a hA => 
              stp hA (r_as hA rfl) rfl fun a hA => ?_
            refine o_nil ?_
            cases Option.some.inj (bS H)
            exact ⟨hA.sub ⟨rfl, rfl, trivial⟩, hI⟩
        · have hc30 := hc3; have hc3 := of_decide_eq_false hc3; have H := bF H hc3
          refine o_no hA rfl rfl (by rw [hc30]; simp [vb]) rfl fun a hA => 
            o_no hA rfl rfl (by rw [hc30]; simp [vb]) rfl fun a hA => 
            o_no hA rfl rfl (by rw [hc30]; simp [vb]) rfl fun a hA => 
            o_no hA rfl rfl (by rw [hc30]; simp [vb]) rfl fun a hA => 
            stp hA (r_pick_f hA rfl hc30 rfl) rfl fun a hA => 
            stp hA (r_mv hA rfl) rfl fun a hA => 
            o_no hA rfl rfl (by simp [vb]) rfl fun a hA => 
            o_no hA rfl rfl (by simp [vb]) rfl fun a hA => 
            stp hA (r_pick_f hA rfl rfl rfl) rfl fun a hA => 
            stp hA (r_as hA rfl) rfl fun a hA => ?_
          refine o_nil ?_
          cases Option.some.inj (bS H)
          exact ⟨hA.sub ⟨rfl, rfl, trivial⟩, hI⟩
      · have hc20 := hc2; have hc2 := of_decide_eq_false hc2; have H := bF H hc2
        refine o_no hA rfl rfl (by rw [hc20]; simp [vb]) rfl fun a hA => 
          o_no hA rfl rfl (by rw [hc20]; simp [vb]) rfl fun a hA => 
          o_no hA rfl rfl (by rw [hc20]; simp [vb]) rfl fun a hA => 
          o_no hA rfl rfl (by rw [hc20]; simp [vb]) rfl fun a hA => 
          stp hA (r_pick_f hA rfl hc20 rfl) rfl fun a hA => 
          stp hA (r_mv hA rfl) rfl fun a hA => 
          o_no hA rfl rfl (by simp [vb]) rfl fun a hA => 
          o_no hA rfl rfl (by simp [vb]) rfl fun a hA => 
          o_no hA rfl rfl (by simp [vb]) rfl fun a hA => 
          o_no hA rfl rfl (by simp [vb]) rfl fun a hA => 
          stp hA (r_pick_f hA rfl rfl rfl) rfl fun a hA => 
          stp hA (r_mv hA rfl) rfl fun a hA => 
          o_no hA rfl rfl (by simp [vb]) rfl fun a hA => 
          o_no hA rfl rfl (by simp [vb]) rfl fun a hA => 
          stp hA (r_pick_f hA rfl rfl rfl) rfl fun a hA => 
          stp hA (r_as hA rfl) rfl fun a hA => ?_
        refine o_nil ?_
        cases Option.some.inj (bS H)
        exact ⟨hA.sub ⟨rfl, rfl, trivial⟩, hI⟩
    · have hc10 := hc1; have hc1 := of_decide_eq_false hc1; have H := bF H hc1
      refine o_no hA rfl rfl (by rw [hc10]; simp [vb]) rfl fun a hA => 
        o_no hA rfl rfl (by rw [hc10]; simp [vb]) rfl fun a hA => 
        o_no hA rfl rfl (by rw [hc10]; simp [vb]) rfl fun a hA => 
        o_no hA rfl rfl (by rw [hc10]; simp [vb]) rfl fun a hA => 
        stp hA (r_pick_f hA rfl hc10 rfl) rfl fun a hA => 
        stp hA (r_mv hA rfl) rfl fun a hA => 
        o_no hA rfl rfl (by simp [vb]) rfl fun a hA => 
        o_no hA rfl rfl (by simp [vb]) rfl fun a hA => 
        o_no hA rfl rfl (by simp [vb]) rfl fun a hA => 
        o_no hA rfl rfl (by simp [vb]) rfl fun a hA => 
        stp hA (r_pick_f hA rfl rfl rfl) rfl fun a hA => 
        stp hA (r_mv hA rfl) rfl fun a hA => 
        o_no hA rfl rfl (by simp [vb]) rfl fun a hA => 
        o_no hA rfl rfl (by simp [vb]) rfl fun a hA => 
        o_no hA rfl rfl (by simp [vb]) rfl fun a hA => 
        o_no hA rfl rfl (by simp [vb]) rfl fun a hA => 
        stp hA (r_pick_f hA rfl rfl rfl) rfl fun a hA => 
        stp hA (r_mv hA rfl) rfl fun a hA => 
        o_no hA rfl rfl (by simp [vb]) rfl fun a hA => 
        o_no hA rfl rfl (by simp [vb]) rfl fun a hA => 
        stp hA (r_pick_f hA rfl rfl rfl) rfl fun a hA => 
        stp hA (r_as hA rfl) rfl fun a hA => ?_
      refine o_nil ?_
      cases Option.some.inj (bS H)
      exact ⟨hA.sub ⟨rfl, rfl, trivial⟩, hI⟩
  · rintro a w ⟨hA, hI⟩
    have H := Hk1
    refine w_ret ?_
    obtain rfl := Option.some.inj (bS H)
    exact ret1 hA Tryd.results22 rfl ⟨_, rfl, rfl, trivial, hI.forget0⟩
end Go.Proofs.YtpeelghbhihgkaaDoor.T
namespace Go.Proofs.YtpeelghbhihgkaaDoor.T
open Go Go.Proofs Go.Proofs.YtpeelghbhihgkaaDoor.K
set_option linter.unusedVariables false
set_option linter.unusedSimpArgs false
noncomputable def sargassolaw2_CompactBack.f (x0 : Int) (x1 : List Int) (x2 : Int) : Option Bool := ((sargassolaw2_first.f).bind fun r1 => (if r1 = true then (if 40 < (x1.length : Int) then some r1 else ((compact_Put.f ([]) x0).bind fun r2 => ((((compact_Len.f x0).bind fun r3 => (if (r2.length : Int) ≠ r3 then some true else some (decide ((r2.length : Int) < 1))))).bind fun c1 => (if c1 = true then some false else ((sargassoref_Bytes.f r2).bind fun r4 => (if r4.length + x1.length ≤ 140737488355328 then ((compact_Read.f (r4 ++ x1)).bind fun r5 => ((compact_Reader_Num.f r5 x0).bind fun r6 => ((compact_Reader_Left.f r6.2).bind fun r7 => ((sargassoworld_Number.f x2 (r2.length : Int)).bind fun r8 => (if 0 ≤ r8 ∧ r8 ≤ (r2.length : Int) then ((compact_Read.f ((r2.take (r8).toNat).drop (0 : Int).toNat)).bind fun r9 => ((compact_Reader_Num.f r9 x0).bind fun r10 => ((compact_Read.f r2).bind fun r11 => (((if 0 < x0 then ((compact_Reader_Num.f r11 (IntKind.u64.wrap (x0 - 1))).bind fun r12 => some (r12.2.b, r12.2.at_, r12.2.err)) else some (r11.b, r11.at_, r11.err))).bind fun (c2, c3, c4) => (((if r1 = true then (if r6.1 = x0 then (if r7 = (x1.length : Int) then ((compact_Reader_Err.f r6.2).bind fun r13 => (if r13 = (Er.b 0) then (if r10.1 = 0 then ((compact_Reader_Err.f r10.2).bind fun r14 => ((sargassosee_Is.f r14 101).bind fun r15 => (if r15 = true then (if x0 = 0 then some true else ((compact_Reader_Err.f (⟨c2, c3, c4⟩ : compactReader)).bind fun r16 => ((sargassosee_Is.f r16 104).bind fun r17 => some r17))) else some false))) else some false) else some false)) else some false) else some false) else some false)).bind fun c5 => some c5))))) else none))))) else none)))))) else some false))
end Go.Proofs.YtpeelghbhihgkaaDoor.T
namespace Go.Proofs.YtpeelghbhihgkaaDoor.T
open Go Go.Proofs Go.Proofs.YtpeelghbhihgkaaDoor.K
set_option linter.unusedVariables false
set_option linter.unusedSimpArgs false
set_option maxRecDepth 20000 in
theorem sargassolaw2_CompactBack.c (μ : Store) (w0 : World) (hμ : Agr μ w0) (x0 : Int) (hx0 : InR .u64 x0) (x1 : List Int) (u1 : Value) (hx1 : Slc (RI .u8) 1 μ u1 x1) (x2 : Int) (hx2 : InR .i64 x2) (hG : Gl μ) (r : Bool) (H : sargassolaw2_CompactBack.f x0 x1 x2 = some r) :
    Calls Tryd.prog 3 [.int .u64 x0, u1, .int .i64 x2].toArray w0 (fun e w' => ∃ v, e = .returned v ∧ v = .bool r ∧ True ∧ Iv w0 [] μ μ [] w') := by
  refine enter Tryd.func3 rfl Tryd.ntmps3 rfl fun a hA => ?_
  have hI := Iv.start hμ
  have H := bI H
  obtain ⟨e0, he0⟩ := hG.g0
  obtain ⟨e1, he1⟩ := hG.g1
  obtain ⟨e8, he8⟩ := hG.g8
  refine w_seq fun _ hN1 => ?_
  refine w_reg ?_
  refine stp hA (r_as hA rfl) rfl fun a hA => ?_
  refine o_nil ?_
  refine hN1 _ _ ?_
  refine w_seq fun _ hN2 => ?_
  refine w_reg ?_
  obtain ⟨r1, hr1, H⟩ := bB H
  refine o_callp (u := .bool r1) cf22 hA rfl hI (sargassolaw2_first.c μ _ hI.agr  r1 hr1) rfl fun a w hz1 hI hA => 
    stp hA (r_as hA rfl) rfl fun a hA => ?_
  refine o_nil ?_
  refine hN2 _ _ ?_
  refine w_seq fun _ hN3 => ?_
  refine w_seq fun _ hN4 => ?_
  refine w_reg ?_
  refine stp hA (r_mv hA rfl) rfl fun a hA => 
    stp hA (r_not hA rfl) rfl fun a hA => ?_
  refine o_nil ?_
  refine hN4 _ _ ?_
  refine w_cond hA rfl (fun hc1 => ?_) (fun hc1 => ?_)
  · have hc10 := hc1; have hc1 := nT hc1; have hc1 := ft hc1; have H := bF H hc1
    refine w_seq fun _ hN5 => ?_
    refine w_reg ?_
    refine stp hA (r_as hA rfl) rfl fun a hA => ?_
    refine o_nil ?_
    refine hN5 _ _ ?_
    refine w_ret ?_
    obtain rfl := Option.some.inj (bS H)
    exact ret1 hA Tryd.results3 rfl ⟨_, rfl, rfl, trivial, hI.forget0⟩
  · have hc10 := hc1; have hc1 := nF hc1; have H := bT H hc1
    refine w_skip ?_
    refine hN3 _ _ ?_
    refine w_seq fun _ hN6 => ?_
    refine w_seq fun _ hN7 => ?_
    refine w_reg ?_
    refine stp hA (r_mv hA rfl) rfl fun a hA => ?_
    obtain ⟨_, hsl1⟩ := Slc.sv hx1
    refine stp hA (r_slen Tryd.underlying23 hsl1 hA rfl) rfl fun a hA => 
      stp hA (r_gtr hA rfl rfl) rfl fun a hA => ?_
    refine o_nil ?_
    refine hN7 _ _ ?_
    refine w_cond hA rfl (fun hc2 => ?_) (fun hc2 => ?_)
    · have hc20 := hc2; have hc2 := of_decide_eq_true hc2; have H := bT H hc2
      refine w_seq fun _ hN8 => ?_
      refine w_reg ?_
      refine stp hA (r_mv hA rfl) rfl fun a hA => 
        stp hA (r_as hA rfl) rfl fun a hA => ?_
      refine o_nil ?_
      refine hN8 _ _ ?_
      refine w_ret ?_
      obtain rfl := Option.some.inj (bS H)
      exact ret1 hA Tryd.results3 rfl ⟨_, rfl, rfl, trivial, hI.forget0⟩
    · have hc20 := hc2; have hc2 := of_decide_eq_false hc2; have H := bF H hc2
      refine w_skip ?_
      refine hN6 _ _ ?_
      refine w_seq fun _ hN9 => ?_
      refine w_reg ?_
      refine stp hA (r_mv hA rfl) rfl fun a hA => ?_
      obtain ⟨r2, hr2, H⟩ := bB H
      refine o_call _ cf23 hA rfl (compact_Put.c μ _ hI.agr ([]) (.slice none 0 0) (slc_nil _ _ _) x0 hx0 r2 hr2) rfl fun v1 a w hz2 hA => ?_
      obtain ⟨_, cs1, rfl, hE1, hi1⟩ := hz2
      have hI := hI.call hi1
      refine stp hA (r_as hA rfl) rfl fun a hA => ?_
      refine o_nil ?_
      refine hN9 _ _ ?_
      refine w_seq fun _ hN10 => ?_
      obtain ⟨c1, hz3, Hk1⟩ := bB H
      refine w_cut (fun a w => Fr a 97 [(0, .int .u64 x0), (1, u1), (2, .int .i64 x2), (6, .bool false), (7, .bool r1), (8, v1), (17, .bool (!r1)), (20, .bool (decide (40 < (x1.length : Int)))), (33, .bool c1)] ∧ Iv w0 [] μ μ [row 5 1 v1 r2.length cs1] w) ?_ ?_
      · have H := bI hz3
        refine w_reg ?_
        refine stp hA (r_mv hA rfl) rfl fun a hA => ?_
        have hlen1 := Iv.row_in hI (j := 0) rfl
        refine stp hA (r_rlen (xs := 0) Tryd.underlying23 hI (j := 0) rfl hA rfl) rfl fun a hA => 
          stp hA (r_mv hA rfl) rfl fun a hA => ?_
        obtain ⟨r3, hr3, H⟩ := bB H
        refine o_callp (u := .int .i64 r3) cf24 hA rfl hI (compact_Len.c μ _ hI.agr x0 hx0 r3 hr3) rfl fun a w hz4 hI hA => 
          stp hA (r_neq hA rfl rfl) rfl fun a hA => 
          stp hA (r_mv hA rfl) rfl fun a hA => ?_
        rcases Bool.eq_false_or_eq_true (decide ((r2.length : Int) ≠ r3)) with hc3 | hc3
        · have hc30 := hc3; have hc3 := of_decide_eq_true hc3; have H := bT H hc3
          refine o_no hA rfl rfl (by rw [hc30]; simp [vb]) rfl fun a hA => 
            o_no hA rfl rfl (by rw [hc30]; simp [vb]) rfl fun a hA => 
            o_no hA rfl rfl (by rw [hc30]; simp [vb]) rfl fun a hA => 
            stp hA (r_pick_t hA rfl hc30 rfl) rfl fun a hA => ?_
          refine o_nil ?_
          cases Option.some.inj (bS H)
          exact ⟨hA.sub ⟨rfl, rfl, rfl, rfl, rfl, rfl, rfl, rfl, rfl, trivial⟩, hI⟩
        · have hc30 := hc3; have hc3 := of_decide_eq_false hc3; have H := bF H hc3
          refine o_yes hA rfl rfl hc30 <| 
            stp hA (r_mv hA rfl) rfl fun a hA => 
            o_yes hA rfl rfl hc30 <| ?_
          have hlen2 := Iv.row_in hI (j := 0) rfl
          refine stp hA (r_rlen (xs := 0) Tryd.underlying23 hI (j := 0) rfl hA rfl) rfl fun a hA => 
            o_yes hA rfl rfl hc30 <| 
            stp hA (r_lss hA rfl rfl) rfl fun a hA => 
            stp hA (r_pick_f hA rfl hc30 rfl) rfl fun a hA => ?_
          refine o_nil ?_
          cases Option.some.inj (bS H)
          exact ⟨hA.sub ⟨rfl, rfl, rfl, rfl, rfl, rfl, rfl, rfl, rfl, trivial⟩, hI⟩
      · rintro a w ⟨hA, hI⟩
        have H := Hk1
        refine w_cond hA rfl (fun hc4 => ?_) (fun hc4 => ?_)
        · have hc40 := hc4; have H := bT H hc4
          refine w_seq fun _ hN11 => ?_
          refine w_reg ?_
          refine stp hA (r_as hA rfl) rfl fun a hA => ?_
          refine o_nil ?_
          refine hN11 _ _ ?_
          refine w_ret ?_
          obtain rfl := Option.some.inj (bS H)
          exact ret1 hA Tryd.results3 rfl ⟨_, rfl, rfl, trivial, hI.forget0⟩
        · have hc40 := hc4; have hc4 := ft hc4; have H := bF H hc4
          refine w_skip ?_
          refine hN10 _ _ ?_
          refine w_seq fun _ hN12 => ?_
          refine w_reg ?_
          refine stp hA (r_mv hA rfl) rfl fun a hA => ?_
          obtain ⟨r4, hr4, H⟩ := bB H
          refine o_call (fun v w' => ∃ (v0 : Value) (c0 : List Value), v = v0 ∧ Els (RI .u8) 1 r4 c0 ∧ Iv w [] μ μ [row 5 1 v0 r4.length c0] w') cf26 hA rfl ((by obtain ⟨μ1, hle1, hsv1, hI⟩ := hI.freezeRow 0 rfl; have hS1 : Slc (RI .u8) 1 μ1 v1 r2 := ⟨_, hE1, hsv1⟩; exact (sargassoref_Bytes.c μ1 _ hI.agr r2 v1 hS1 r4 hr4).mono fun _ _ ⟨v, he, b0, b1, hv, f0, hi⟩ => ⟨v, he, b0, b1, hv, f0, hi.low hle1⟩)) rfl fun v2 a w hz5 hA => ?_
          obtain ⟨_, cs2, rfl, hE2, hi2⟩ := hz5
          have hI := hI.call hi2
          refine stp hA (r_mv hA rfl) rfl fun a hA => ?_
          obtain ⟨cs3, hE3, hsv2⟩ : Slc (RI .u8) 1 μ u1 x1 := id (hx1)
          obtain ⟨hb1, H⟩ := bG H
          have hE4 := hE2.app hE3
          refine o_appL (xs := (r4 : List Int)) (ys := (x1 : List Int)) (j := 0) te5 Tryd.underlying23 hI rfl hA rfl rfl (src_sl hI.agr hsv2 hE3.len) hE3.len (hE3.ones (one_RI _)) (by first | decide | (have hq := hb1; (try simp only [List.length_cons, List.length_nil] at hq); (try simp only [List.length_cons, List.length_nil]); (try simp only [maxLen]); omega)) (by first | decide | (have hq := hb1; (try simp only [List.length_cons, List.length_nil] at hq); (try simp only [List.length_cons, List.length_nil]); (try simp only [maxLen]); omega)) rfl fun v3 a w hA hI => ?_
          obtain ⟨μ2, hle2, hsv3, hI⟩ := hI.freezeRow 0 rfl
          have hS2 : Slc (RI .u8) 1 μ2 v3 (r4 ++ x1) := ⟨_, hE4, hsv3⟩
          obtain ⟨r5, hr5, H⟩ := bB H
          refine o_call _ cf25 hA rfl (compact_Read.c μ2 _ hI.agr (r4 ++ x1) v3 hS2 r5 hr5) rfl fun v4 a w hz6 hA => ?_
          obtain ⟨g1, vp1, vp2, μ3, rfl, hp1, hp2, hp3, hi3⟩ := hz6
          have hI := hI.call hi3
          refine stp hA (r_as hA rfl) rfl fun a hA => ?_
          refine o_nil ?_
          refine hN12 _ _ ?_
          refine w_seq fun _ hN13 => ?_
          refine w_reg ?_
          refine stp hA (r_mv hA rfl) rfl fun a hA => 
            stp hA (r_mv hA rfl) rfl fun a hA => ?_
          obtain ⟨r6, hr6, H⟩ := bB H
          refine o_call _ cf27 hA rfl (compact_Reader_Num.c μ3 _ hI.agr r5 vp1 vp2 g1 hp1 hp2 hp3 (hI.handN 1) x0 hx0 e0 (ErV.le (fun _ _ h => h) (hle2.trans hi3.le) he0) e1 (ErV.le (fun _ _ h => h) (hle2.trans hi3.le) he1) e8 (ErV.le (fun _ _ h => h) (hle2.trans hi3.le) he8) r6 hr6) rfl fun v5 a w hz7 hA => ?_
          obtain ⟨vp3, vp4, μ4, rfl, hw1, hp4, hp5, hp6, hi4⟩ := hz7
          have hI := hI.backN 1 hi4
          have hI : Iv w0 [] μ μ4 [cel g1 [[vp3], [.int .i64 r6.2.at_], [vp4]] 143, row 5 1 v1 r2.length cs1] w := hI
          refine stp hA (r_as hA rfl) rfl fun a hA => ?_
          refine o_nil ?_
          refine hN13 _ _ ?_
          refine w_seq fun _ hN14 => ?_
          refine w_reg ?_
          refine stp hA (r_mv hA rfl) rfl fun a hA => ?_
          obtain ⟨r7, hr7, H⟩ := bB H
          refine o_call _ cf28 hA rfl (compact_Reader_Left.c μ4 _ hI.agr r6.2 vp3 vp4 g1 hp4 hp5 hp6 (hI.handN 1) r7 hr7) rfl fun v6 a w hz8 hA => ?_
          obtain ⟨rfl, hw2, hi5⟩ := hz8
          have hI := hI.backN 1 hi5
          have hI : Iv w0 [] μ μ4 [cel g1 [[vp3], [.int .i64 r6.2.at_], [vp4]] 143, row 5 1 v1 r2.length cs1] w := hI
          refine stp hA (r_as hA rfl) rfl fun a hA => ?_
          refine o_nil ?_
          refine hN14 _ _ ?_
          refine w_seq fun _ hN15 => ?_
          refine w_reg ?_
          refine stp hA (r_mv hA rfl) rfl fun a hA => 
            stp hA (r_mv hA rfl) rfl fun a hA => 
            stp hA (r_mv hA rfl) rfl fun a hA => ?_
          have hlen3 := Iv.row_in hI (j := 1) rfl
          refine stp hA (r_rlen (xs := 0) Tryd.underlying23 hI (j := 1) rfl hA rfl) rfl fun a hA => ?_
          obtain ⟨r8, hr8, H⟩ := bB H
          refine o_callp (u := .int .i64 r8) cf29 hA rfl hI (sargassoworld_Number.c μ4 _ hI.agr x2 hx2 (r2.length : Int) hlen3 r8 hr8) rfl fun a w hz9 hI hA => ?_
          obtain ⟨μ5, hle3, hsv4, hI⟩ := hI.freezeRow 1 rfl
          have hS3 : Slc (RI .u8) 1 μ5 v1 r2 := ⟨_, hE1, hsv4⟩
          obtain ⟨hb2, H⟩ := bG H
          obtain ⟨v7, hS4, hr9⟩ := r_sl (P := Tryd.prog) (t := 23) (x := .tmp 44) (l := none) (h := (some (.tmp 48))) (i := 0) (j := r8) Tryd.underlying23 sz5 hS3 hA rfl rfl rfl (by have hq := hb2; omega) (by have hq := hb2; omega) (by have hq := hb2; omega)
          refine stp hA (hr9 _ _ _ _ _ _) rfl fun a hA => ?_
          obtain ⟨r9, hr10, H⟩ := bB H
          refine o_call _ cf25 hA rfl (compact_Read.c μ5 _ hI.agr ((r2.take (r8).toNat).drop (0 : Int).toNat) v7 hS4 r9 hr10) rfl fun v8 a w hz10 hA => ?_
          obtain ⟨g2, vp5, vp6, μ6, rfl, hp7, hp8, hp9, hi6⟩ := hz10
          have hI := hI.call hi6
          refine stp hA (r_as hA rfl) rfl fun a hA => ?_
          refine o_nil ?_
          refine hN15 _ _ ?_
          refine w_seq fun _ hN16 => ?_
          refine w_reg ?_
          refine stp hA (r_mv hA rfl) rfl fun a hA => 
            stp hA (r_mv hA rfl) rfl fun a hA => ?_
          obtain ⟨r10, hr11, H⟩ := bB H
          refine o_call _ cf27 hA rfl (compact_Reader_Num.c μ6 _ hI.agr r9 vp5 vp6 g2 hp7 hp8 hp9 (hI.handN 1) x0 hx0 e0 (ErV.le (fun _ _ h => h) ((((hle2.trans hi3.le).trans hi4.le).trans hle3).trans hi6.le) he0) e1 (ErV.le (fun _ _ h => h) ((((hle2.trans hi3.le).trans hi4.le).trans hle3).trans hi6.le) he1) e8 (ErV.le (fun _ _ h => h) ((((hle2.trans hi3.le).trans hi4.le).trans hle3).trans hi6.le) he8) r10 hr11) rfl fun v9 a w hz11 hA => ?_
          obtain ⟨vp7, vp8, μ7, rfl, hw3, hp10, hp11, hp12, hi7⟩ := hz11
          have hI := hI.backN 1 hi7
          have hI : Iv w0 [] μ μ7 [cel g2 [[vp7], [.int .i64 r10.2.at_], [vp8]] 143, cel g1 [[vp3], [.int .i64 r6.2.at_], [vp4]] 143] w := hI
          refine stp hA (r_as hA rfl) rfl fun a hA => ?_
          refine o_nil ?_
          refine hN16 _ _ ?_
          refine w_seq fun _ hN17 => ?_
          refine w_reg ?_
          refine stp hA (r_mv hA rfl) rfl fun a hA => ?_
          obtain ⟨r11, hr12, H⟩ := bB H
          refine o_call _ cf25 hA rfl (compact_Read.c μ7 _ hI.agr r2 v1 (Slc.le hS3 (fun _ _ h => h) (hi6.le.trans hi7.le)) r11 hr12) rfl fun v10 a w hz12 hA => ?_
          obtain ⟨g3, vp9, vp10, μ8, rfl, hp13, hp14, hp15, hi8⟩ := hz12
          have hI := hI.call hi8
          refine stp hA (r_as hA rfl) rfl fun a hA => ?_
          refine o_nil ?_
          refine hN17 _ _ ?_
          obtain ⟨⟨c2, c3, c4⟩, hz13, Hk2⟩ := bB H
          refine w_cut (fun a w => ∃ (μ9 : Store) (vvc2 : Value) (vvc4 : Value), μ8.le μ9 ∧ Slc (RI .u8) 1 μ9 vvc2 c2 ∧ InR .i64 c3 ∧ ErS μ9 vvc4 c4 ∧ Fr a 97 [(0, .int .u64 x0), (1, u1), (2, .int .i64 x2), (6, .bool false), (7, .bool r1), (8, v1), (9, .pointer (some ⟨g1, 0, none⟩)), (10, .int .u64 r6.1), (11, .int .i64 r7), (12, .pointer (some ⟨g2, 0, none⟩)), (13, .int .u64 r10.1), (14, .pointer (some ⟨g3, 0, none⟩)), (17, .bool (!r1)), (20, .bool (decide (40 < (x1.length : Int)))), (33, .bool c1)] ∧ Iv w0 [] μ μ9 [cel g3 [[vvc2], [.int .i64 c3], [vvc4]] 143, cel g2 [[vp7], [.int .i64 r10.2.at_], [vp8]] 143, cel g1 [[vp3], [.int .i64 r6.2.at_], [vp4]] 143] w) ?_ ?_
          · have H := bI hz13
            refine w_seq fun _ hN18 => ?_
            refine w_reg ?_
            refine stp hA (r_mv hA rfl) rfl fun a hA => 
              stp hA (r_gtr hA rfl rfl) rfl fun a hA => ?_
            refine o_nil ?_
            refine hN18 _ _ ?_
            refine w_cond hA rfl (fun hc5 => ?_) (fun hc5 => ?_)
            · have hc50 := hc5; have hc5 := of_decide_eq_true hc5; have H := bT H hc5
              refine w_reg ?_
              refine stp hA (r_mv hA rfl) rfl fun a hA => 
                stp hA (r_mv hA rfl) rfl fun a hA => 
                stp hA (r_sub hA rfl rfl) rfl fun a hA => ?_
              obtain ⟨r12, hr13, H⟩ := bB H
              refine o_call _ cf27 hA rfl (compact_Reader_Num.c μ8 _ hI.agr r11 vp9 vp10 g3 hp13 hp14 hp15 (hI.handN 1) (IntKind.u64.wrap (x0 - 1)) (wrap_in _ _) e0 (ErV.le (fun _ _ h => h) ((((((hle2.trans hi3.le).trans hi4.le).trans hle3).trans hi6.le).trans hi7.le).trans hi8.le) he0) e1 (ErV.le (fun _ _ h => h) ((((((hle2.trans hi3.le).trans hi4.le).trans hle3).trans hi6.le).trans hi7.le).trans hi8.le) he1) e8 (ErV.le (fun _ _ h => h) ((((((hle2.trans hi3.le).trans hi4.le).trans hle3).trans hi6.le).trans hi7.le).trans hi8.le) he8) r12 hr13) rfl fun v11 a w hz14 hA => ?_
              obtain ⟨vp11, vp12, μ10, rfl, hw4, hp16, hp17, hp18, hi9⟩ := hz14
              have hI := hI.backN 1 hi9
              have hI : Iv w0 [] μ μ10 [cel g3 [[vp11], [.int .i64 r12.2.at_], [vp12]] 143, cel g2 [[vp7], [.int .i64 r10.2.at_], [vp8]] 143, cel g1 [[vp3], [.int .i64 r6.2.at_], [vp4]] 143] w := hI
              refine o_nil ?_
              cases Option.some.inj (bS H)
              exact ⟨μ10, vp11, vp12, hi9.le, hp16, hp17, hp18, hA.sub ⟨rfl, rfl, rfl, rfl, rfl, rfl, rfl, rfl, rfl, rfl, rfl, rfl, rfl, rfl, rfl, trivial⟩, hI⟩
            · have hc50 := hc5; have hc5 := of_decide_eq_false hc5; have H := bF H hc5
              refine w_skip ?_
              cases Option.some.inj (bS H)
              exact ⟨μ8, vp9, vp10, (Store.le.refl _), hp13, hp14, hp15, hA.sub ⟨rfl, rfl, rfl, rfl, rfl, rfl, rfl, rfl, rfl, rfl, rfl, rfl, rfl, rfl, rfl, trivial⟩, hI⟩
          · rintro a w ⟨μ9, vvc2, vvc4, hle4, wc2, wc3, wc4, hA, hI⟩
            have H := Hk2
            obtain ⟨c5, hz15, Hk3⟩ := bB H
            refine w_cut (fun a w => ∃ (μ11 : Store), μ9.le μ11 ∧ Fr a 97 [(0, .int .u64 x0), (1, u1), (2, .int .i64 x2), (6, .bool c5), (7, .bool r1), (8, v1), (9, .pointer (some ⟨g1, 0, none⟩)), (10, .int .u64 r6.1), (11, .int .i64 r7), (12, .pointer (some ⟨g2, 0, none⟩)), (13, .int .u64 r10.1), (14, .pointer (some ⟨g3, 0, none⟩)), (17, .bool (!r1)), (20, .bool (decide (40 < (x1.length : Int)))), (33, .bool c1)] ∧ Iv w0 [] μ μ11 [cel g3 [[vvc2], [.int .i64 c3], [vvc4]] 143, cel g2 [[vp7], [.int .i64 r10.2.at_], [vp8]] 143, cel g1 [[vp3], [.int .i64 r6.2.at_], [vp4]] 143] w) ?_ ?_
            · have H := bI hz15
              refine w_reg ?_
              refine stp hA (r_mv hA rfl) rfl fun a hA => 
                stp hA (r_mv hA rfl) rfl fun a hA => ?_
              rcases Bool.eq_false_or_eq_true r1 with hc6 | hc6
              · have hc60 := hc6; have H := bT H hc6
                refine o_yes hA rfl rfl hc60 <| 
                  stp hA (r_mv hA rfl) rfl fun a hA => 
                  o_yes hA rfl rfl hc60 <| 
                  stp hA (r_mv hA rfl) rfl fun a hA => 
                  o_yes hA rfl rfl hc60 <| 
                  stp hA (r_eql hA rfl rfl) rfl fun a hA => 
                  stp hA (r_pick_t hA rfl hc60 rfl) rfl fun a hA => 
                  stp hA (r_mv hA rfl) rfl fun a hA => ?_
                rcases Bool.eq_false_or_eq_true (decide (r6.1 = x0)) with hc7 | hc7
                · have hc70 := hc7; have hc7 := of_decide_eq_true hc7; have H := bT H hc7
                  refine o_yes hA rfl rfl hc70 <| 
                    stp hA (r_mv hA rfl) rfl fun a hA => 
                    o_yes hA rfl rfl hc70 <| 
                    stp hA (r_mv hA rfl) rfl fun a hA => 
                    o_yes hA rfl rfl hc70 <| ?_
                  obtain ⟨_, hsl2⟩ := Slc.sv (Slc.le hx1 (fun _ _ h => h) (((((((hle2.trans hi3.le).trans hi4.le).trans hle3).trans hi6.le).trans hi7.le).trans hi8.le).trans hle4))
                  refine stp hA (r_slen Tryd.underlying23 hsl2 hA rfl) rfl fun a hA => 
                    o_yes hA rfl rfl hc70 <| 
                    stp hA (r_eql hA rfl rfl) rfl fun a hA => 
                    stp hA (r_pick_t hA rfl hc70 rfl) rfl fun a hA => 
                    stp hA (r_mv hA rfl) rfl fun a hA => ?_
                  rcases Bool.eq_false_or_eq_true (decide (r7 = (x1.length : Int))) with hc8 | hc8
                  · have hc80 := hc8; have hc8 := of_decide_eq_true hc8; have H := bT H hc8
                    refine o_yes hA rfl rfl hc80 <| 
                      stp hA (r_mv hA rfl) rfl fun a hA => 
                      o_yes hA rfl rfl hc80 <| ?_
                    obtain ⟨r13, hr14, H⟩ := bB H
                    have hI := hI.sel [2, 0, 1] (by decide) rfl
                    refine o_call _ cf30 hA rfl (compact_Reader_Err.c μ9 _ hI.agr r6.2 vp3 vp4 g1 (Slc.le hp4 (fun _ _ h => h) ((((hle3.trans hi6.le).trans hi7.le).trans hi8.le).trans hle4)) hp5 (ErV.le (fun _ _ h => h) ((((hle3.trans hi6.le).trans hi7.le).trans hi8.le).trans hle4) hp6) (hI.handN 1) r13 hr14) rfl fun v12 a w hz16 hA => ?_
                    obtain ⟨_, μ12, rfl, hS5, hi10⟩ := hz16
                    have hI := hI.backN 1 hi10
                    have hI : Iv w0 [] μ μ12 [cel g1 [[vp3], [.int .i64 r6.2.at_], [vp4]] 143, cel g3 [[vvc2], [.int .i64 c3], [vvc4]] 143, cel g2 [[vp7], [.int .i64 r10.2.at_], [vp8]] 143] w := hI
                    refine o_yes hA rfl rfl hc80 <| 
                      stp hA (r_eqE erF hI.agr hS5 erv_nil (.inl ⟨.inr ⟨_, rfl⟩, Er.fitR⟩) hA rfl rfl) rfl fun a hA => 
                      stp hA (r_pick_t hA rfl hc80 rfl) rfl fun a hA => 
                      stp hA (r_mv hA rfl) rfl fun a hA => ?_
                    rcases Bool.eq_false_or_eq_true (decide (r13 = (Er.b 0))) with hc9 | hc9
                    · have hc90 := hc9; have hc9 := of_decide_eq_true hc9; have H := bT H hc9
                      refine o_yes hA rfl rfl hc90 <| 
                        stp hA (r_mv hA rfl) rfl fun a hA => 
                        o_yes hA rfl rfl hc90 <| 
                        stp hA (r_eql hA rfl rfl) rfl fun a hA => 
                        stp hA (r_pick_t hA rfl hc90 rfl) rfl fun a hA => 
                        stp hA (r_mv hA rfl) rfl fun a hA => ?_
                      rcases Bool.eq_false_or_eq_true (decide (r10.1 = 0)) with hc10 | hc10
                      · have hc100 := hc10; have hc10 := of_decide_eq_true hc10; have H := bT H hc10
                        refine o_yes hA rfl rfl hc100 <| 
                          stp hA (r_mv hA rfl) rfl fun a hA => 
                          o_yes hA rfl rfl hc100 <| ?_
                        obtain ⟨r14, hr15, H⟩ := bB H
                        have hI := hI.sel [2, 0, 1] (by decide) rfl
                        refine o_call _ cf30 hA rfl (compact_Reader_Err.c μ12 _ hI.agr r10.2 vp7 vp8 g2 (Slc.le hp10 (fun _ _ h => h) ((hi8.le.trans hle4).trans hi10.le)) hp11 (ErV.le (fun _ _ h => h) ((hi8.le.trans hle4).trans hi10.le) hp12) (hI.handN 1) r14 hr15) rfl fun v13 a w hz17 hA => ?_
                        obtain ⟨_, μ13, rfl, hS6, hi11⟩ := hz17
                        have hI := hI.backN 1 hi11
                        have hI : Iv w0 [] μ μ13 [cel g2 [[vp7], [.int .i64 r10.2.at_], [vp8]] 143, cel g1 [[vp3], [.int .i64 r6.2.at_], [vp4]] 143, cel g3 [[vvc2], [.int .i64 c3], [vvc4]] 143] w := hI
                        refine o_yes hA rfl rfl hc100 <| ?_
                        obtain ⟨r15, hr16, H⟩ := bB H
                        refine o_callp (u := .bool r15) cf31 hA rfl hI (sargassosee_Is.c μ13 _ hI.agr r14 v13 hS6 101 (in_lit .i64 101 rfl) (Gl.le (((((((((hle2.trans hi3.le).trans hi4.le).trans hle3).trans hi6.le).trans hi7.le).trans hi8.le).trans hle4).trans hi10.le).trans hi11.le) hG) r15 hr16) rfl fun a w hz18 hI hA => 
                          stp hA (r_pick_t hA rfl hc100 rfl) rfl fun a hA => 
                          stp hA (r_mv hA rfl) rfl fun a hA => ?_
                        rcases Bool.eq_false_or_eq_true r15 with hc11 | hc11
                        · have hc110 := hc11; have H := bT H hc11
                          refine o_yes hA rfl rfl hc110 <| 
                            stp hA (r_mv hA rfl) rfl fun a hA => 
                            o_yes hA rfl rfl hc110 <| 
                            stp hA (r_eql hA rfl rfl) rfl fun a hA => 
                            o_yes hA rfl rfl hc110 <| 
                            stp hA (r_mv hA rfl) rfl fun a hA => ?_
                          rcases Bool.eq_false_or_eq_true (decide (x0 = 0)) with hc12 | hc12
                          · have hc120 := hc12; have hc12 := of_decide_eq_true hc12; have H := bT H hc12
                            refine o_no hA rfl rfl (by rw [hc120]; simp [vb]) rfl fun a hA => 
                              o_no hA rfl rfl (by rw [hc120]; simp [vb]) rfl fun a hA => 
                              o_no hA rfl rfl (by rw [hc120]; simp [vb]) rfl fun a hA => 
                              o_yes hA rfl rfl hc110 <| 
                              stp hA (r_pick_t hA rfl hc120 rfl) rfl fun a hA => 
                              stp hA (r_pick_t hA rfl hc110 rfl) rfl fun a hA => 
                              stp hA (r_as hA rfl) rfl fun a hA => ?_
                            refine o_nil ?_
                            cases Option.some.inj (bS H)
                            exact ⟨μ13, (hi10.le.trans hi11.le), hA.sub ⟨rfl, rfl, rfl, rfl, rfl, rfl, rfl, rfl, rfl, rfl, rfl, rfl, rfl, rfl, rfl, trivial⟩, (hI.sel [2, 0, 1] (by decide) rfl)⟩
                          · have hc120 := hc12; have hc12 := of_decide_eq_false hc12; have H := bF H hc12
                            refine o_yes hA rfl rfl hc120 <| 
                              stp hA (r_mv hA rfl) rfl fun a hA => 
                              o_yes hA rfl rfl hc120 <| ?_
                            obtain ⟨r16, hr17, H⟩ := bB H
                            have hI := hI.sel [2, 0, 1] (by decide) rfl
                            refine o_call _ cf30 hA rfl (compact_Reader_Err.c μ13 _ hI.agr (⟨c2, c3, c4⟩ : compactReader) vvc2 vvc4 g3 (Slc.le wc2 (fun _ _ h => h) (hi10.le.trans hi11.le)) wc3 (ErV.le (fun _ _ h => h) (hi10.le.trans hi11.le) wc4) (hI.handN 1) r16 hr17) rfl fun v14 a w hz19 hA => ?_
                            obtain ⟨_, μ14, rfl, hS7, hi12⟩ := hz19
                            have hI := hI.backN 1 hi12
                            have hI : Iv w0 [] μ μ14 [cel g3 [[vvc2], [.int .i64 c3], [vvc4]] 143, cel g2 [[vp7], [.int .i64 r10.2.at_], [vp8]] 143, cel g1 [[vp3], [.int .i64 r6.2.at_], [vp4]] 143] w := hI
                            refine o_yes hA rfl rfl hc120 <| ?_
                            obtain ⟨r17, hr18, H⟩ := bB H
                            refine o_callp (u := .bool r17) cf31 hA rfl hI (sargassosee_Is.c μ14 _ hI.agr r16 v14 hS7 104 (in_lit .i64 104 rfl) (Gl.le ((((((((((hle2.trans hi3.le).trans hi4.le).trans hle3).trans hi6.le).trans hi7.le).trans hi8.le).trans hle4).trans hi10.le).trans hi11.le).trans hi12.le) hG) r17 hr18) rfl fun a w hz20 hI hA => 
                              o_yes hA rfl rfl hc110 <| 
                              stp hA (r_pick_f hA rfl hc120 rfl) rfl fun a hA => 
                              stp hA (r_pick_t hA rfl hc110 rfl) rfl fun a hA => 
                              stp hA (r_as hA rfl) rfl fun a hA => ?_
                            refine o_nil ?_
                            cases Option.some.inj (bS H)
                            exact ⟨μ14, ((hi10.le.trans hi11.le).trans hi12.le), hA.sub ⟨rfl, rfl, rfl, rfl, rfl, rfl, rfl, rfl, rfl, rfl, rfl, rfl, rfl, rfl, rfl, trivial⟩, hI⟩
                        · have hc110 := hc11; have hc11 := ft hc11; have H := bF H hc11
                          refine o_no hA rfl rfl (by rw [hc110]; simp [vb]) rfl fun a hA => 
                            o_no hA rfl rfl (by rw [hc110]; simp [vb]) rfl fun a hA => 
                            o_no hA rfl rfl (by rw [hc110]; simp [vb]) rfl fun a hA => 
                            o_no hA rfl rfl (by simp [vb, undef]) rfl fun a hA => 
                            o_no hA rfl rfl (by simp [vb, undef]) rfl fun a hA => 
                            o_no hA rfl rfl (by simp [vb, undef]) rfl fun a hA => 
                            o_no hA rfl rfl (by rw [hc110]; simp [vb]) rfl fun a hA => 
                            stp hA (r_pick_f hA rfl hc110 rfl) rfl fun a hA => 
                            stp hA (r_as hA rfl) rfl fun a hA => ?_
                          refine o_nil ?_
                          cases Option.some.inj (bS H)
                          exact ⟨μ13, (hi10.le.trans hi11.le), hA.sub ⟨rfl, rfl, rfl, rfl, rfl, rfl, rfl, rfl, rfl, rfl, rfl, rfl, rfl, rfl, rfl, trivial⟩, (hI.sel [2, 0, 1] (by decide) rfl)⟩
                      · have hc100 := hc10; have hc10 := of_decide_eq_false hc10; have H := bF H hc10
                        refine o_no hA rfl rfl (by rw [hc100]; simp [vb]) rfl fun a hA => 
                          o_no hA rfl rfl (by rw [hc100]; simp [vb]) rfl fun a hA => 
                          o_no hA rfl rfl (by rw [hc100]; simp [vb]) rfl fun a hA => 
                          stp hA (r_pick_f hA rfl hc100 rfl) rfl fun a hA => 
                          stp hA (r_mv hA rfl) rfl fun a hA => 
                          o_no hA rfl rfl (by simp [vb]) rfl fun a hA => 
                          o_no hA rfl rfl (by simp [vb]) rfl fun a hA => 
                          o_no hA rfl rfl (by simp [vb]) rfl fun a hA => 
                          o_no hA rfl rfl (by simp [vb, undef]) rfl fun a hA => 
                          o_no hA rfl rfl (by simp [vb, undef]) rfl fun a hA => 
                          o_no hA rfl rfl (by simp [vb, undef]) rfl fun a hA => 
                          o_no hA rfl rfl (by simp [vb]) rfl fun a hA => 
                          stp hA (r_pick_f hA rfl rfl rfl) rfl fun a hA => 
                          stp hA (r_as hA rfl) rfl fun a hA => ?_
                        refine o_nil ?_
                        cases Option.some.inj (bS H)
                        exact ⟨μ12, hi10.le, hA.sub ⟨rfl, rfl, rfl, rfl, rfl, rfl, rfl, rfl, rfl, rfl, rfl, rfl, rfl, rfl, rfl, trivial⟩, (hI.sel [1, 2, 0] (by decide) rfl)⟩
                    · have hc90 := hc9; have hc9 := of_decide_eq_false hc9; have H := bF H hc9
                      refine o_no hA rfl rfl (by rw [hc90]; simp [vb]) rfl fun a hA => 
                        o_no hA rfl rfl (by rw [hc90]; simp [vb]) rfl fun a hA => 
                        stp hA (r_pick_f hA rfl hc90 rfl) rfl fun a hA => 
                        stp hA (r_mv hA rfl) rfl fun a hA => 
                        o_no hA rfl rfl (by simp [vb]) rfl fun a hA => 
                        o_no hA rfl rfl (by simp [vb]) rfl fun a hA => 
                        o_no hA rfl rfl (by simp [vb]) rfl fun a hA => 
                        stp hA (r_pick_f hA rfl rfl rfl) rfl fun a hA => 
                        stp hA (r_mv hA rfl) rfl fun a hA => 
                        o_no hA rfl rfl (by simp [vb]) rfl fun a hA => 
                        o_no hA rfl rfl (by simp [vb]) rfl fun a hA => 
                        o_no hA rfl rfl (by simp [vb]) rfl fun a hA => 
                        o_no hA rfl rfl (by simp [vb, undef]) rfl fun a hA => 
                        o_no hA rfl rfl (by simp [vb, undef]) rfl fun a hA => 
                        o_no hA rfl rfl (by simp [vb, undef]) rfl fun a hA => 
                        o_no hA rfl rfl (by simp [vb]) rfl fun a hA => 
                        stp hA (r_pick_f hA rfl rfl rfl) rfl fun a hA => 
                        stp hA (r_as hA rfl) rfl fun a hA => ?_
                      refine o_nil ?_
                      cases Option.some.inj (bS H)
                      exact ⟨μ12, hi10.le, hA.sub ⟨rfl, rfl, rfl, rfl, rfl, rfl, rfl, rfl, rfl, rfl, rfl, rfl, rfl, rfl, rfl, trivial⟩, (hI.sel [1, 2, 0] (by decide) rfl)⟩
                  · have hc80 := hc8; have hc8 := of_decide_eq_false hc8; have H := bF H hc8
                    refine o_no hA rfl rfl (by rw [hc80]; simp [vb]) rfl fun a hA => 
                      o_no hA rfl rfl (by rw [hc80]; simp [vb]) rfl fun a hA => 
                      o_no hA rfl rfl (by rw [hc80]; simp [vb]) rfl fun a hA => 
                      stp hA (r_pick_f hA rfl hc80 rfl) rfl fun a hA => 
                      stp hA (r_mv hA rfl) rfl fun a hA => 
                      o_no hA rfl rfl (by simp [vb]) rfl fun a hA => 
                      o_no hA rfl rfl (by simp [vb]) rfl fun a hA => 
                      stp hA (r_pick_f hA rfl rfl rfl) rfl fun a hA => 
                      stp hA (r_mv hA rfl) rfl fun a hA => 
                      o_no hA rfl rfl (by simp [vb]) rfl fun a hA => 
                      o_no hA rfl rfl (by simp [vb]) rfl fun a hA => 
                      o_no hA rfl rfl (by simp [vb]) rfl fun a hA => 
                      stp hA (r_pick_f hA rfl rfl rfl) rfl fun a hA => 
                      stp hA (r_mv hA rfl) rfl fun a hA => 
                      o_no hA rfl rfl (by simp [vb]) rfl fun a hA => 
                      o_no hA rfl rfl (by simp [vb]) rfl fun a hA => 
                      o_no hA rfl rfl (by simp [vb]) rfl fun a hA => 
                      o_no hA rfl rfl (by simp [vb, undef]) rfl fun a hA => 
                      o_no hA rfl rfl (by simp [vb, undef]) rfl fun a hA => 
                      o_no hA rfl rfl (by simp [vb, undef]) rfl fun a hA => 
                      o_no hA rfl rfl (by simp [vb]) rfl fun a hA => 
                      stp hA (r_pick_f hA rfl rfl rfl) rfl fun a hA => 
                      stp hA (r_as hA rfl) rfl fun a hA => ?_
                    refine o_nil ?_
                    cases Option.some.inj (bS H)
                    exact ⟨μ9, (Store.le.refl _), hA.sub ⟨rfl, rfl, rfl, rfl, rfl, rfl, rfl, rfl, rfl, rfl, rfl, rfl, rfl, rfl, rfl, trivial⟩, hI⟩
                · have hc70 := hc7; have hc7 := of_decide_eq_false hc7; have H := bF H hc7
                  refine o_no hA rfl rfl (by rw [hc70]; simp [vb]) rfl fun a hA => 
                    o_no hA rfl rfl (by rw [hc70]; simp [vb]) rfl fun a hA => 
                    o_no hA rfl rfl (by rw [hc70]; simp [vb]) rfl fun a hA => 
                    o_no hA rfl rfl (by rw [hc70]; simp [vb]) rfl fun a hA => 
                    stp hA (r_pick_f hA rfl hc70 rfl) rfl fun a hA => 
                    stp hA (r_mv hA rfl) rfl fun a hA => 
                    o_no hA rfl rfl (by simp [vb]) rfl fun a hA => 
                    o_no hA rfl rfl (by simp [vb]) rfl fun a hA => 
                    o_no hA rfl rfl (by simp [vb]) rfl fun a hA => 
                    stp hA (r_pick_f hA rfl rfl rfl) rfl fun a hA => 
                    stp hA (r_mv hA rfl) rfl fun a hA => 
                    o_no hA rfl rfl (by simp [vb]) rfl fun a hA => 
                    o_no hA rfl rfl (by simp [vb]) rfl fun a hA => 
                    stp hA (r_pick_f hA rfl rfl rfl) rfl fun a hA => 
                    stp hA (r_mv hA rfl) rfl fun a hA => 
                    o_no hA rfl rfl (by simp [vb]) rfl fun a hA => 
                    o_no hA rfl rfl (by simp [vb]) rfl fun a hA => 
                    o_no hA rfl rfl (by simp [vb]) rfl fun a hA => 
                    stp hA (r_pick_f hA rfl rfl rfl) rfl fun a hA => 
                    stp hA (r_mv hA rfl) rfl fun a hA => 
                    o_no hA rfl rfl (by simp [vb]) rfl fun a hA => 
                    o_no hA rfl rfl (by simp [vb]) rfl fun a hA => 
                    o_no hA rfl rfl (by simp [vb]) rfl fun a hA => 
                    o_no hA rfl rfl (by simp [vb, undef]) rfl fun a hA => 
                    o_no hA rfl rfl (by simp [vb, undef]) rfl fun a hA => 
                    o_no hA rfl rfl (by simp [vb, undef]) rfl fun a hA => 
                    o_no hA rfl rfl (by simp [vb]) rfl fun a hA => 
                    stp hA (r_pick_f hA rfl rfl rfl) rfl fun a hA => 
                    stp hA (r_as hA rfl) rfl fun a hA => ?_
                  refine o_nil ?_
                  cases Option.some.inj (bS H)
                  exact ⟨μ9, (Store.le.refl _), hA.sub ⟨rfl, rfl, rfl, rfl, rfl, rfl, rfl, rfl, rfl, rfl, rfl, rfl, rfl, rfl, rfl, trivial⟩, hI⟩
              · have hc60 := hc6; have hc6 := ft hc6; have H := bF H hc6
                refine o_no hA rfl rfl (by rw [hc60]; simp [vb]) rfl fun a hA => 
                  o_no hA rfl rfl (by rw [hc60]; simp [vb]) rfl fun a hA => 
                  o_no hA rfl rfl (by rw [hc60]; simp [vb]) rfl fun a hA => 
                  stp hA (r_pick_f hA rfl hc60 rfl) rfl fun a hA => 
                  stp hA (r_mv hA rfl) rfl fun a hA => 
                  o_no hA rfl rfl (by simp [vb]) rfl fun a hA => 
                  o_no hA rfl rfl (by simp [vb]) rfl fun a hA => 
                  o_no hA rfl rfl (by simp [vb]) rfl fun a hA => 
                  o_no hA rfl rfl (by simp [vb]) rfl fun a hA => 
                  stp hA (r_pick_f hA rfl rfl rfl) rfl fun a hA => 
                  stp hA (r_mv hA rfl) rfl fun a hA => 
                  o_no hA rfl rfl (by simp [vb]) rfl fun a hA => 
                  o_no hA rfl rfl (by simp [vb]) rfl fun a hA => 
                  o_no hA rfl rfl (by simp [vb]) rfl fun a hA => 
                  stp hA (r_pick_f hA rfl rfl rfl) rfl fun a hA => 
                  stp hA (r_mv hA rfl) rfl fun a hA => 
                  o_no hA rfl rfl (by simp [vb]) rfl fun a hA => 
                  o_no hA rfl rfl (by simp [vb]) rfl fun a hA => 
                  stp hA (r_pick_f hA rfl rfl rfl) rfl fun a hA => 
                  stp hA (r_mv hA rfl) rfl fun a hA => 
                  o_no hA rfl rfl (by simp [vb]) rfl fun a hA => 
                  o_no hA rfl rfl (by simp [vb]) rfl fun a hA => 
                  o_no hA rfl rfl (by simp [vb]) rfl fun a hA => 
                  stp hA (r_pick_f hA rfl rfl rfl) rfl fun a hA => 
                  stp hA (r_mv hA rfl) rfl fun a hA => 
                  o_no hA rfl rfl (by simp [vb]) rfl fun a hA => 
                  o_no hA rfl rfl (by simp [vb]) rfl fun a hA => 
                  o_no hA rfl rfl (by simp [vb]) rfl fun a hA => 
                  o_no hA rfl rfl (by simp [vb, undef]) rfl fun a hA => 
                  o_no hA rfl rfl (by simp [vb, undef]) rfl fun a hA => 
                  o_no hA rfl rfl (by simp [vb, undef]) rfl fun a hA => 
                  o_no hA rfl rfl (by simp [vb]) rfl fun a hA => 
                  stp hA (r_pick_f hA rfl rfl rfl) rfl fun a hA => 
                  stp hA (r_as hA rfl) rfl fun a hA => ?_
                refine o_nil ?_
                cases Option.some.inj (bS H)
                exact ⟨μ9, (Store.le.refl _), hA.sub ⟨rfl, rfl, rfl, rfl, rfl, rfl, rfl, rfl, rfl, rfl, rfl, rfl, rfl, rfl, rfl, trivial⟩, hI⟩
            · rintro a w ⟨μ11, hle5, hA, hI⟩
              have H := Hk3
              refine w_ret ?_
              obtain rfl := Option.some.inj (bS H)
              exact ret1 hA Tryd.results3 rfl ⟨_, rfl, rfl, trivial, hI.forget0⟩
end Go.Proofs.YtpeelghbhihgkaaDoor.T
namespace Go.Proofs.YtpeelghbhihgkaaDoor.T
open Go Go.Proofs Go.Proofs.YtpeelghbhihgkaaDoor.K
set_option linter.unusedVariables false
set_option linter.unusedSimpArgs false
def digest_keys.lit0 : List Int := [1116352408, 1899447441, 3049323471, 3921009573, 961987163, 1508970993, 2453635748, 2870763221, 3624381080, 310598401, 607225278, 1426881987, 1925078388, 2162078206, 2614888103, 3248222580, 3835390401, 4022224774, 264347078, 604807628, 770255983, 1249150122, 1555081692, 1996064986, 2554220882, 2821834349, 2952996808, 3210313671, 3336571891, 3584528711, 113926993, 338241895, 666307205, 773529912, 1294757372, 1396182291, 1695183700, 1986661051, 2177026350, 2456956037, 2730485921, 2820302411, 3259730800, 3345764771, 3516065817, 3600352804, 4094571909, 275423344, 430227734, 506948616, 659060556, 883997877, 958139571, 1322822218, 1537002063, 1747873779, 1955562222, 2024104815, 2227730452, 2361852424, 2428436474, 2756734187, 3204031479, 3329325298]
end Go.Proofs.YtpeelghbhihgkaaDoor.T
namespace Go.Proofs.YtpeelghbhihgkaaDoor.T
open Go Go.Proofs Go.Proofs.YtpeelghbhihgkaaDoor.K
set_option linter.unusedVariables false
theorem w64 {x : Int} (h0 : -9223372036854775808 ≤ x) (h1 : x < 9223372036854775808) : IntKind.i64.wrap x = x := wrap_id ⟨h0, h1⟩
theorem wu64 {x : Int} (h0 : 0 ≤ x) (h1 : x < 18446744073709551616) : IntKind.u64.wrap x = x := wrap_id ⟨h0, h1⟩
theorem number_eq {x n : Int} (hx : InR .i64 x) (h0 : 0 < n) (h1 : n < 9223372036854775808) : ∃ y, sargassoworld_Number.f x n = some y ∧ 0 ≤ y ∧ y < n := by
  obtain ⟨a, b⟩ := hx
  have hn : n ≠ 0 := by omega
  unfold sargassoworld_Number.f
  rw [if_pos hn]
  have hb : -n < Int.tmod x n ∧ Int.tmod x n < n := by
    rcases Int.le_total 0 x with h | h
    · rw [Int.tmod_eq_emod_of_nonneg h]; have := Int.emod_nonneg x hn; have := Int.emod_lt_of_pos x h0; omega
    · have e : Int.tmod x n = -(Int.tmod (-x) n) := by rw [Int.neg_tmod, Int.neg_neg]
      rw [e, Int.tmod_eq_emod_of_nonneg (by omega)]; have := Int.emod_nonneg (-x) hn; have := Int.emod_lt_of_pos (-x) h0; omega
  by_cases hc : Int.tmod x n < 0
  · rw [if_pos hc]
    exact ⟨_, rfl, by rw [w64 (by omega) (by omega)]; omega, by rw [w64 (by omega) (by omega)]; omega⟩
  · rw [if_neg hc]
    exact ⟨_, rfl, by omega, by omega⟩
end Go.Proofs.YtpeelghbhihgkaaDoor.T
namespace Go.Proofs.YtpeelghbhihgkaaDoor.T
open Go Go.Proofs Go.Proofs.YtpeelghbhihgkaaDoor.K
set_option linter.unusedVariables false
set_option linter.unusedSimpArgs false
theorem loop_idx {τ ρ : Type} {step : τ → Option (τ ⊕ ρ)} (st : Nat → τ) (n : Nat) (h : ∀ i, i < n → step (st i) = some (.inl (st (i + 1)))) : loopO step (st 0) = loopO step (st n) := by
  induction n with
  | zero => rfl
  | succ n ih => rw [ih (fun i hi => h i (by omega)), loopO_inl (h n (by omega))]
theorem loop_run {τ ρ : Type} {step : τ → Option (τ ⊕ ρ)} (st : Nat → τ) (n : Nat) {r : ρ} {s : τ} (h0 : s = st 0) (h : ∀ i, i < n → step (st i) = some (.inl (st (i + 1)))) (hn : step (st n) = some (.inr r)) : loopO step s = some r := by
  rw [h0, loop_idx st n h, loopO_inr hn]
theorem bv_nat (n a : Nat) (h : a < 2 ^ n) : (BitVec.ofInt n (a : Int)).toNat = a := by
  rw [BitVec.toNat_ofInt]
  have : ((a : Int) % ((2 ^ n : Nat) : Int)) = a := Int.emod_eq_of_lt (by omega) (by exact_mod_cast h)
  rw [this]
  rfl
theorem in_u (k : IntKind) (hk : k.signed = false) {a : Nat} (h : a < 2 ^ k.bits) : InR k (a : Int) := by
  cases k <;> simp [IntKind.signed] at hk <;> simp [IntKind.bits] at h <;> simp [InR] <;> omega
theorem bOr_nat (k : IntKind) (hk : k.signed = false) {a b : Nat} (ha : a < 2 ^ k.bits) (hb : b < 2 ^ k.bits) : bOr k a b = ((a ||| b : Nat) : Int) := by
  unfold bOr
  rw [BitVec.toNat_or, bv_nat _ _ ha, bv_nat _ _ hb]
  exact wrap_id (in_u k hk (Nat.or_lt_two_pow ha hb))
theorem sR_nat (k : IntKind) {a n : Nat} (hn : n ≤ k.bits) : sR k (a : Int) (n : Int) = ((a >>> n : Nat) : Int) := by
  unfold sR
  have e : min (n : Int).toNat k.bits = n := by simp; omega
  rw [e, Nat.shiftRight_eq_div_pow]
  rw [Int.fdiv_eq_ediv_of_nonneg _ (by exact Int.pow_nonneg (by omega))]
  push_cast
  rfl
theorem nat_of {k : IntKind} (hk : k.signed = false) {x : Int} (h : InR k x) : ∃ a : Nat, x = a ∧ a < 2 ^ k.bits := by
  refine ⟨x.toNat, ?_, ?_⟩
  · cases k <;> simp [IntKind.signed] at hk <;> simp [InR] at h <;> omega
  · cases k <;> simp [IntKind.signed] at hk <;> simp [InR] at h <;> simp [IntKind.bits] <;> omega
end Go.Proofs.YtpeelghbhihgkaaDoor.T
namespace Go.Proofs.YtpeelghbhihgkaaDoor.T
open Go Go.Proofs Go.Proofs.YtpeelghbhihgkaaDoor.K
set_option linter.unusedVariables false
set_option linter.unusedSimpArgs false
def kc : List Int := digest_keys.lit0
def zs (n : Nat) : Nat := (120 - n % 64) % 64
end Go.Proofs.YtpeelghbhihgkaaDoor.T
namespace Go.Proofs.YtpeelghbhihgkaaDoor.T
open Go Go.Proofs Go.Proofs.YtpeelghbhihgkaaDoor.K
set_option linter.unusedVariables false
set_option linter.unusedSimpArgs false
theorem range_map_succ {α : Type} (f : Nat → α) (i : Nat) : (List.range (i + 1)).map f = (List.range i).map f ++ [f i] := by rw [List.range_succ, List.map_append]; rfl
end Go.Proofs.YtpeelghbhihgkaaDoor.T
namespace Go.Proofs.YtpeelghbhihgkaaDoor.T
open Go Go.Proofs Go.Proofs.YtpeelghbhihgkaaDoor.K
set_option linter.unusedVariables false
set_option linter.unusedSimpArgs false
theorem els_all {α : Type} {RE : α → List Value → Prop} {sz : Nat} {xs : List α} {cs : List Value} {Q : α → Prop} (h : Els RE sz xs cs) (f : ∀ x c, RE x c → Q x) : ∀ x ∈ xs, Q x := by
  induction h with
  | nil => simp
  | cons h _ _ ih =>
    intro y hy
    rcases List.mem_cons.1 hy with rfl | hy
    · exact f _ _ h
    · exact ih y hy
theorem slc_ints {k : IntKind} {μ : Store} {v : Value} {xs : List Int} (h : Slc (RI k) 1 μ v xs) : ∀ x ∈ xs, InR k x := by
  obtain ⟨cs, he, _⟩ := h
  exact els_all he fun x c hc => hc.2
theorem winc (i : Nat) (hi : i < 9223372036854775807) : IntKind.i64.wrap ((i : Int) + 1) = ((i + 1 : Nat) : Int) := by
  rw [w64 (by omega) (by omega)]; omega
theorem take_next {α : Type} (xs : List α) (i : Nat) (d : α) (h : i < xs.length) : xs.take i ++ [xs.getD i d] = xs.take (i + 1) := by
  rw [List.take_add_one]
  simp [List.getD, h]
theorem copy_run {α : Type} {step : (List α × Int) → Option ((List α × Int) ⊕ List α)} (xs : List α) (d : α) (h : xs.length < 9223372036854775807)
    (hs : ∀ i, i < xs.length → step (xs.take i, (i : Int)) = some (.inl (xs.take i ++ [xs.getD i d], IntKind.i64.wrap ((i : Int) + 1)))) (hn : step (xs, (xs.length : Int)) = some (.inr xs)) : loopO step ([], 0) = some xs :=
  loop_run (fun i => (xs.take i, (i : Int))) xs.length rfl (fun i hi => by
    rw [hs i hi, take_next _ _ _ hi, winc i (by omega)]) (by simpa using hn)
theorem bytes_eq (xs : List Int) (h : xs.length ≤ 140737488355328) : sargassoref_Bytes.f xs = some xs := by
  unfold sargassoref_Bytes.f
  rw [if_pos ⟨by omega, by omega, by omega⟩]
  simp only [Int.toNat_zero, List.replicate_zero]
  rw [copy_run xs 0 (by omega) (fun i hi => by
    simp only [sargassoref_Bytes.s0]
    rw [if_pos (by omega), if_pos (by omega), if_pos (by simp; omega), Int.toNat_natCast]) (by simp [sargassoref_Bytes.s0])]
  rfl
end Go.Proofs.YtpeelghbhihgkaaDoor.T
namespace Go.Proofs.YtpeelghbhihgkaaDoor.T
open Go Go.Proofs Go.Proofs.YtpeelghbhihgkaaDoor.K
set_option linter.unusedVariables false
set_option linter.unusedSimpArgs false
def Hs (l : List (List Int)) : Prop := ∀ x ∈ l, x.length = 32
theorem Hs.at {l : List (List Int)} (h : Hs l) {i : Nat} (hi : i < l.length) : (l.getD i []).length = 32 := by
  have e : l.getD i [] = l[i] := by simp [List.getD, hi]
  rw [e]; exact h _ (List.getElem_mem hi)
end Go.Proofs.YtpeelghbhihgkaaDoor.T
namespace Go.Proofs.YtpeelghbhihgkaaDoor.T
open Go Go.Proofs Go.Proofs.YtpeelghbhihgkaaDoor.K
set_option linter.unusedVariables false
set_option linter.unusedSimpArgs false
theorem u8e (x : Int) : IntKind.u8.wrap x = x % 256 := by simp [IntKind.wrap, IntKind.signed, IntKind.bits]
def lb (a m : Nat) : List Int := (List.range m).map fun j => ((a / 2 ^ (8 * j) % 256 : Nat) : Int)
theorem lb_len (a m : Nat) : (lb a m).length = m := by simp [lb]
theorem sR_div (k : IntKind) {a n : Nat} (hn : n ≤ k.bits) : sR k (a : Int) (n : Int) = ((a / 2 ^ n : Nat) : Int) := by
  rw [sR_nat k hn, Nat.shiftRight_eq_div_pow]
theorem number_eq' (r : List Int) (a k : Nat) (hk : k ≤ 100) (hl : r.length + k ≤ 140737488355328) : compact_number.f r (a : Int) (k : Int) = some (r ++ lb a k) := by
  simp only [compact_number.f]
  have h : loopO (compact_number.s0 (k : Int)) (r, (a : Int), 0) = some (r ++ lb a k, ((a / 2 ^ (8 * k) : Nat) : Int)) := by
    refine loop_run (fun j => (r ++ lb a j, ((a / 2 ^ (8 * j) : Nat) : Int), (j : Int))) k (by simp [lb]) (fun j hj => ?_) ?_
    · simp only [compact_number.s0]
      have e1 : IntKind.u8.wrap ((a / 2 ^ (8 * j) : Nat) : Int) = ((a / 2 ^ (8 * j) % 256 : Nat) : Int) := by rw [u8e]; generalize a / 2 ^ (8 * j) = q; omega
      have e2 : sR .u64 ((a / 2 ^ (8 * j) : Nat) : Int) 8 = ((a / 2 ^ (8 * (j + 1)) : Nat) : Int) := by
        have := sR_div .u64 (a := a / 2 ^ (8 * j)) (n := 8) (by decide)
        rw [Nat.div_div_eq_div_mul, ← Nat.pow_add] at this
        exact this
      rw [if_pos (by omega), if_pos (by simp [lb_len]; omega), e1, e2, winc j (by omega), List.append_assoc]
      have : lb a j ++ [((a / 2 ^ (8 * j) % 256 : Nat) : Int)] = lb a (j + 1) := by
        unfold lb; rw [range_map_succ]
      rw [this]
    · simp only [compact_number.s0]
      rw [if_neg (by omega)]
  rw [h, Option.bind_some]
structure HN where
  v : Nat
  p : List Int
  r : List Int
  t : Nat
  w : Nat
  n : Nat
deriving DecidableEq
def HN.h (h : HN) : Head := ⟨h.v, h.p, h.r, h.t, h.w, h.n⟩
def hb (h : HN) : List Int := lb h.v 4 ++ (h.p ++ (h.r ++ (lb h.t 4 ++ (lb h.w 4 ++ lb h.n 4))))
end Go.Proofs.YtpeelghbhihgkaaDoor.T
namespace Go.Proofs.YtpeelghbhihgkaaDoor.T
open Go Go.Proofs Go.Proofs.YtpeelghbhihgkaaDoor.K
set_option linter.unusedVariables false
set_option linter.unusedSimpArgs false
def sl : List Er := [xErrEnd, xErrShape, xErrLong, xErrMany, xErrValue, xErrTwice, xErrBase, xErrRoot, xErrKnown, xErrParent, xErrInvalid, xErrTime, xErrMissing, xErrKey, xErrYoung, xErrEarly, xErrLess, xErrReward, xErrClash, xErrLimit, xErrFull, xErrRange, xErrNone, xErrWord, xErrNumber]
theorem sl_plain : ∀ e ∈ sl, e ≠ .b 0 ∧ e.isP = false := by decide
theorem alike_eq {e f : Er} (he : e ≠ .b 0) (hf : f ≠ .b 0) (hp : e.isP = false) : sargassosee_Alike.f e f = some (decide (e = f)) := by
  simp only [sargassosee_Alike.f]
  rw [if_neg he, Option.bind_some, if_neg (by simpa using hf), if_pos]
  cases e with
  | pl _ _ => cases hp
  | b n =>
    cases f with
    | pl _ _ => cases n <;> rfl
    | b m =>
      cases n with
      | zero => exact absurd rfl he
      | succ n => rfl
theorem gd {α : Type} (l : List α) (d : α) {i : Nat} (h : i < l.length) : l.getD i d = l[i] := by simp [List.getD, h]
theorem sl_ne : ∀ i, i < 25 → ∀ j, j < 25 → i ≠ j → sl.getD i (.b 0) ≠ sl.getD j (.b 0) := by decide +kernel
theorem sentinel_at (k : Nat) (hk : k < 25) : sargassosee_sentinel.f (sl.getD k (.b 0)) = some (101 + (k : Int)) := by
  have hl : sl.length = 25 := rfl
  have hmem : ∀ i, i < 25 → sl.getD i (.b 0) ∈ sl := fun i hi => by
    have e := gd sl (.b 0) (i := i) (by omega)
    rw [e]; exact List.getElem_mem _
  have h0 : sargassosee_sentinels.f = some sl := rfl
  unfold sargassosee_sentinel.f
  rw [h0, Option.bind_some]
  have hs : ∀ i : Nat, i < 25 → sargassosee_sentinel.s0 (sl.getD k (.b 0)) sl (i : Int) = if k = i then some (.inr (IntKind.i64.wrap (101 + (i : Int)))) else some (.inl (IntKind.i64.wrap ((i : Int) + 1))) := fun i hi => by
    simp only [sargassosee_sentinel.s0]
    rw [if_pos (by omega), if_pos (by omega), Int.toNat_natCast, alike_eq (sl_plain _ (hmem k hk)).1 (sl_plain _ (hmem i hi)).1 (sl_plain _ (hmem k hk)).2, Option.bind_some]
    by_cases h : k = i
    · subst h; rw [if_pos (by simp), if_pos rfl]
    · rw [if_neg (by simpa using sl_ne k hk i hi h), if_neg h]
  have key := loop_idx (step := sargassosee_sentinel.s0 (sl.getD k (.b 0)) sl) (fun i => (i : Int)) k (fun i hi => by rw [hs i (by omega), if_neg (by omega), winc i (by omega)])
  have e0 : ((0 : Nat) : Int) = 0 := rfl
  simp only [e0] at key
  have h1 := hs k hk
  rw [if_pos rfl] at h1
  rw [key, loopO_inr h1, w64 (by omega) (by omega)]
theorem samefault_bare (a b : Int) : sargassoref_SameFault.f ⟨a, false, 0, false, 0⟩ ⟨b, false, 0, false, 0⟩ = some (decide (a = b)) := by
  simp only [sargassoref_SameFault.f]
  by_cases h : a = b
  · simp [h]
  · simp [h]
theorem fault_at (k : Nat) (hk : k < 25) : sargassosee_Fault.f (sl.getD k (.b 0)) = some ⟨101 + (k : Int), false, 0, false, 0⟩ := by
  have hm : sl.getD k (.b 0) ∈ sl := by
    have hl : sl.length = 25 := rfl
    have e := gd sl (.b 0) (i := k) (by omega)
    rw [e]; exact List.getElem_mem _
  obtain ⟨h1, h2⟩ := sl_plain _ hm
  simp only [sargassosee_Fault.f]
  rw [if_neg h1, if_neg (by rw [h2]; decide), sentinel_at k hk]
  rfl
theorem is_at (k : Nat) (hk : k < 25) (c : Int) : sargassosee_Is.f (sl.getD k (.b 0)) c = some (decide (101 + (k : Int) = c)) := by
  simp only [sargassosee_Is.f, sargassosee_Same.f, sargassoref_Bare.f, Option.bind_some]
  rw [fault_at k hk, Option.bind_some, samefault_bare, Option.bind_some, Option.bind_some]
theorem is_end (c : Int) : sargassosee_Is.f xErrEnd c = some (decide (101 = c)) := is_at 0 (by decide) c
theorem is_many (c : Int) : sargassosee_Is.f xErrMany c = some (decide (104 = c)) := is_at 3 (by decide) c
end Go.Proofs.YtpeelghbhihgkaaDoor.T
namespace Go.Proofs.YtpeelghbhihgkaaDoor.T
open Go Go.Proofs Go.Proofs.YtpeelghbhihgkaaDoor.K
set_option linter.unusedVariables false
set_option linter.unusedSimpArgs false
def Bs (l : List Int) : Prop := ∀ x ∈ l, InR .u8 x
theorem Bs.app {l m : List Int} (h : Bs l) (k : Bs m) : Bs (l ++ m) := fun x hx => (List.mem_append.1 hx).elim (h x) (k x)
theorem Bs.take {l : List Int} (h : Bs l) (n : Nat) : Bs (l.take n) := fun x hx => h x (List.mem_of_mem_take hx)
theorem Bs.drop {l : List Int} (h : Bs l) (n : Nat) : Bs (l.drop n) := fun x hx => h x (List.mem_of_mem_drop hx)
theorem bs_lb (a m : Nat) : Bs (lb a m) := fun x hx => by
  obtain ⟨j, _, rfl⟩ := List.mem_map.1 hx
  simp only [InR]
  omega
theorem bs_nil : Bs [] := fun x hx => by cases hx
theorem bs_slc {μ : Store} {v : Value} {l : List Int} (h : Slc (RI .u8) 1 μ v l) : Bs l := slc_ints h
def vl : List Int → Nat
  | [] => 0
  | b :: l => b.toNat + 256 * vl l
theorem vl_snoc (l : List Int) (b : Int) : vl (l ++ [b]) = vl l + 256 ^ l.length * b.toNat := by
  induction l with
  | nil => simp [vl]
  | cons x l ih => simp only [List.cons_append, vl, ih, List.length_cons, Nat.pow_succ]; rw [Nat.mul_add, Nat.mul_comm (256 ^ l.length) 256, Nat.mul_assoc]; omega
theorem vl_lt {l : List Int} (h : Bs l) : vl l < 256 ^ l.length := by
  induction l with
  | nil => simp [vl]
  | cons x l ih =>
    have h1 := ih fun y hy => h y (by simp [hy])
    obtain ⟨h2, h3⟩ := h x (by simp)
    simp only [vl, List.length_cons, Nat.pow_succ]
    omega
theorem vl_lb (a m : Nat) : vl (lb a m) = a % 256 ^ m := by
  induction m with
  | zero => simp [lb, vl, Nat.mod_one]
  | succ m ih =>
    have e : lb a (m + 1) = lb a m ++ [((a / 2 ^ (8 * m) % 256 : Nat) : Int)] := by unfold lb; rw [range_map_succ]
    rw [e, vl_snoc, ih, lb_len, Int.toNat_natCast, Nat.pow_mul]
    exact (Nat.mod_mul (x := a) (a := 256 ^ m) (b := 256)).symm
theorem or_shift (a b i : Nat) (ha : a < 256 ^ i) (hb : b < 256) (hi : i < 8) : bOr .u64 (a : Int) (sL .u64 (b : Int) ((8 * i : Nat) : Int)) = ((a + 256 ^ i * b : Nat) : Int) := by
  have e1 : (256 : Nat) ^ i = 2 ^ (8 * i) := by rw [Nat.pow_mul]
  have h64 : (256 : Nat) ^ i * 256 ≤ 2 ^ 64 := by
    rw [e1, show (256 : Nat) = 2 ^ 8 from rfl, ← Nat.pow_add]
    exact Nat.pow_le_pow_right (by decide) (by omega)
  have hlt : 256 ^ i * b < 2 ^ 64 := Nat.lt_of_lt_of_le (Nat.mul_lt_mul_of_pos_left hb (Nat.pow_pos (by decide))) h64
  have hs : sL .u64 (b : Int) ((8 * i : Nat) : Int) = ((256 ^ i * b : Nat) : Int) := by
    unfold sL
    have em : min ((8 * i : Nat) : Int).toNat IntKind.u64.bits = 8 * i := by simp [IntKind.bits]; omega
    rw [em]
    have e2 : (b : Int) * 2 ^ (8 * i) = ((256 ^ i * b : Nat) : Int) := by
      rw [e1]; push_cast; exact Int.mul_comm _ _
    rw [e2]
    exact wu64 (by omega) (by omega)
  rw [hs, bOr_nat .u64 rfl (by simp only [IntKind.bits]; exact Nat.lt_of_lt_of_le ha (by omega)) (by simpa [IntKind.bits] using hlt)]
  congr 1
  have := Nat.two_pow_add_eq_or_of_lt (i := 8 * i) (b := a) (by rw [← e1]; exact ha) b
  rw [← e1] at this
  rw [Nat.or_comm, ← this, Nat.add_comm]
def nx (n : Nat) (s : List Int × Er) : List Int × (List Int × Er) :=
  if s.2 ≠ .b 0 then ([], s) else if s.1.length < n then ([], (s.1, xErrEnd)) else (s.1.take n, (s.1.drop n, s.2))
def Rep (r : compactReader) (s : List Int × Er) : Prop := ∃ pre, r = ⟨pre ++ s.1, (pre.length : Int), s.2⟩ ∧ (pre ++ s.1).length ≤ 1000000 ∧ Bs s.1
theorem nx_bs {n : Nat} {s : List Int × Er} (h : Bs s.1) : Bs (nx n s).1 ∧ Bs (nx n s).2.1 := by
  unfold nx
  split
  · exact ⟨bs_nil, h⟩
  · split
    · exact ⟨bs_nil, h⟩
    · exact ⟨h.take _, h.drop _⟩
theorem nx_len (n : Nat) (s : List Int × Er) : (nx n s).1.length ≤ n := by
  unfold nx
  split
  · simp
  · split
    · simp
    · simp; omega
theorem next_eq {r : compactReader} {s : List Int × Er} (h : Rep r s) (n : Nat) : ∃ r', compact_Reader_next.f r (n : Int) = some ((nx n s).1, r') ∧ Rep r' (nx n s).2 := by
  obtain ⟨pre, rfl, hl, hbs⟩ := h
  obtain ⟨rest, e⟩ := s
  simp only at hl hbs ⊢
  rw [List.length_append] at hl
  simp only [compact_Reader_next.f, nx]
  by_cases he : e = .b 0
  · subst he
    rw [if_neg (show ¬ (Er.b 0 ≠ Er.b 0) from fun h => h rfl), if_neg (show ¬ (Er.b 0 ≠ Er.b 0) from fun h => h rfl)]
    have w1 : IntKind.i64.wrap (((pre ++ rest).length : Int) - (pre.length : Int)) = (rest.length : Int) := by
      rw [List.length_append, w64 (by omega) (by omega)]; omega
    rw [w1]
    by_cases hc : rest.length < n
    · rw [if_pos (by omega), if_pos hc]
      exact ⟨_, rfl, pre, rfl, by rw [List.length_append]; exact hl, hbs⟩
    · rw [if_neg (by omega), if_neg hc]
      have w2 : IntKind.i64.wrap ((pre.length : Int) + (n : Int)) = ((pre.length + n : Nat) : Int) := by rw [w64 (by omega) (by omega)]; omega
      have w3 : IntKind.i64.wrap (((pre.length + n : Nat) : Int) - (n : Int)) = (pre.length : Int) := by rw [w64 (by omega) (by omega)]; omega
      rw [w2, w3, if_pos (by rw [List.length_append]; omega), Int.toNat_natCast, Int.toNat_natCast]
      have e1 : ((pre ++ rest).take (pre.length + n)).drop pre.length = rest.take n := by
        rw [List.take_append, List.take_of_length_le (by omega), Nat.add_sub_cancel_left, List.drop_left' rfl]
      rw [e1]
      refine ⟨_, rfl, pre ++ rest.take n, ?_, ?_, hbs.drop n⟩
      · rw [List.append_assoc, List.take_append_drop, List.length_append, List.length_take, Nat.min_eq_left (by omega)]
      · rw [List.append_assoc, List.take_append_drop, List.length_append]; exact hl
  · rw [if_pos he, if_pos he]
    exact ⟨_, rfl, pre, rfl, by rw [List.length_append]; exact hl, hbs⟩
theorem left_eq {r : compactReader} {s : List Int × Er} (h : Rep r s) : compact_Reader_Left.f r = some (s.1.length : Int) := by
  obtain ⟨pre, rfl, hl, hbs⟩ := h
  rw [List.length_append] at hl
  simp only [compact_Reader_Left.f]
  rw [List.length_append, w64 (by omega) (by omega)]
  congr 1
  omega
theorem err_eq {r : compactReader} {s : List Int × Er} (h : Rep r s) : compact_Reader_Err.f r = some s.2 := by
  obtain ⟨pre, rfl, hl, hbs⟩ := h
  rfl
theorem rep_err {r : compactReader} {s : List Int × Er} (h : Rep r s) : r.err = s.2 := by
  obtain ⟨pre, rfl, hl, hbs⟩ := h
  rfl
theorem read_eq {b : List Int} (hb : Bs b) (hl : b.length ≤ 1000000) : ∃ r, compact_Read.f b = some r ∧ Rep r (b, .b 0) := by
  simp only [compact_Read.f, bytes_Clone.f]
  rw [if_pos (by omega), Option.bind_some]
  exact ⟨_, rfl, [], rfl, by simpa using hl, hb⟩
def wh (n : Nat) (s : List Int × Er) : Nat × (List Int × Er) := (vl (nx n s).1, (nx n s).2)
theorem vl_step (l : List Int) (hb : Bs l) (i : Nat) (hi : i < l.length) (h8 : l.length ≤ 8) : bOr .u64 ((vl (l.take i) : Nat) : Int) (sL .u64 (IntKind.u64.wrap (l.getD i 0)) ((8 * i : Nat) : Int)) = ((vl (l.take (i + 1)) : Nat) : Int) := by
  have hm : l.getD i 0 ∈ l := by
    have e : l.getD i 0 = l[i] := by simp [List.getD, hi]
    rw [e]; exact List.getElem_mem hi
  obtain ⟨h2, h3⟩ := hb _ hm
  have hlt := vl_lt (hb.take i)
  rw [List.length_take, Nat.min_eq_left (by omega)] at hlt
  rw [← take_next l i 0 hi, vl_snoc, List.length_take, Nat.min_eq_left (by omega), wu64 (by omega) (by omega)]
  have e : l.getD i 0 = (((l.getD i 0).toNat : Nat) : Int) := by omega
  have := or_shift (vl (l.take i)) (l.getD i 0).toNat i hlt (by omega) (by omega)
  rw [← e] at this
  exact this
theorem whole_eq {r : compactReader} {s : List Int × Er} (h : Rep r s) (n : Nat) (hn : n ≤ 8) : ∃ r', compact_Reader_whole.f r (n : Int) = some (((wh n s).1 : Int), r') ∧ Rep r' (wh n s).2 := by
  obtain ⟨r', h1, h2⟩ := next_eq h n
  have hb := (nx_bs (n := n) (show Bs s.1 from h.elim fun _ h => h.2.2)).1
  have hlen := nx_len n s
  refine ⟨r', ?_, h2⟩
  simp only [compact_Reader_whole.f, wh]
  rw [h1, Option.bind_some]
  generalize (nx n s).1 = l at *
  have hl : loopO (compact_Reader_whole.s0 (l, r')) (0, 0) = some ((vl l : Int), r'.b, r'.at_, r'.err) := by
    refine loop_run (fun i => (((vl (l.take i) : Nat) : Int), (i : Int))) l.length (by simp [vl]) (fun i hi => ?_) ?_
    · simp only [compact_Reader_whole.s0, Int.toNat_natCast]
      have w8 : IntKind.i64.wrap (8 * (i : Int)) = ((8 * i : Nat) : Int) := by rw [w64 (by omega) (by omega)]; omega
      rw [if_pos (by omega), if_pos (by omega), w8, if_pos (by omega), winc i (by omega), vl_step l hb i hi (by omega)]
    · simp only [compact_Reader_whole.s0]
      rw [if_neg (by omega), List.take_length]
  rw [hl, Option.bind_some]
def ln (n : Nat) : Nat := if n < 253 then 1 else if n < 65536 then 3 else if n < 4294967296 then 5 else 9
theorem len_eq (n : Nat) : compact_Len.f (n : Int) = some (ln n : Int) := by
  simp only [compact_Len.f, ln]
  by_cases h1 : n < 253
  · rw [if_pos (by omega), if_pos h1]; rfl
  · rw [if_neg (by omega), if_neg h1]
    by_cases h2 : n < 65536
    · rw [if_pos (by omega), if_pos h2]; rfl
    · rw [if_neg (by omega), if_neg h2]
      by_cases h3 : n < 4294967296
      · rw [if_pos (by omega), if_pos h3]; rfl
      · rw [if_neg (by omega), if_neg h3]; rfl
def my (n : Nat) : Nat := if n = 253 then 2 else if n = 254 then 4 else if n = 255 then 8 else 0
def nm (most : Int) (s : List Int × Er) : Nat × (List Int × Er) :=
  let a := wh 1 s
  let b := if 0 < my a.1 then wh (my a.1) a.2 else a
  if b.2.2 ≠ .b 0 then (0, b.2) else if ln b.1 ≠ 1 + my a.1 then (0, (b.2.1, xErrShape)) else if most < (b.1 : Int) then (0, (b.2.1, xErrMany)) else b
theorem my_le (n : Nat) : my n ≤ 8 := by unfold my; split <;> (try split) <;> (try split) <;> omega
theorem num_eq {r : compactReader} {s : List Int × Er} (h : Rep r s) (most : Int) : ∃ r', compact_Reader_Num.f r most = some (((nm most s).1 : Int), r') ∧ Rep r' (nm most s).2 := by
  obtain ⟨r1, h1, h2⟩ := whole_eq h 1 (by omega)
  simp only [compact_Reader_Num.f, nm]
  rw [show ((1 : Nat) : Int) = 1 from rfl] at h1
  rw [h1, Option.bind_some]
  generalize wh 1 s = a at *
  obtain ⟨a1, a2⟩ := a
  simp only at h1 h2 ⊢
  have hmy : (if (a1 : Int) = 253 then some (2 : Int) else if (a1 : Int) = 254 then some 4 else if (a1 : Int) = 255 then some 8 else some 0) = some ((my a1 : Nat) : Int) := by
    unfold my
    by_cases c1 : a1 = 253
    · rw [if_pos (by omega), if_pos c1]; rfl
    · rw [if_neg (by omega), if_neg c1]
      by_cases c2 : a1 = 254
      · rw [if_pos (by omega), if_pos c2]; rfl
      · rw [if_neg (by omega), if_neg c2]
        by_cases c3 : a1 = 255
        · rw [if_pos (by omega), if_pos c3]; rfl
        · rw [if_neg (by omega), if_neg c3]; rfl
  rw [hmy, Option.bind_some]
  have hmid : ∃ r2, (if 0 < ((my a1 : Nat) : Int) then (compact_Reader_whole.f r1 ((my a1 : Nat) : Int)).bind fun r2 => some (r2.1, r2.2.b, r2.2.at_, r2.2.err) else some ((a1 : Int), r1.b, r1.at_, r1.err)) = some ((((if 0 < my a1 then wh (my a1) a2 else (a1, a2)).1 : Nat) : Int), r2.b, r2.at_, r2.err) ∧ Rep r2 (if 0 < my a1 then wh (my a1) a2 else (a1, a2)).2 := by
    by_cases hp : 0 < my a1
    · obtain ⟨r2, h3, h4⟩ := whole_eq h2 (my a1) (my_le a1)
      rw [if_pos (by omega), if_pos hp, h3, Option.bind_some]
      exact ⟨r2, rfl, h4⟩
    · rw [if_neg (by omega), if_neg hp]
      exact ⟨r1, rfl, h2⟩
  obtain ⟨r2, h3, h4⟩ := hmid
  rw [h3, Option.bind_some]
  generalize (if 0 < my a1 then wh (my a1) a2 else (a1, a2)) = b at *
  obtain ⟨b1, b2⟩ := b
  simp only at h4 ⊢
  have he := rep_err h4
  have hw : IntKind.i64.wrap (1 + ((my a1 : Nat) : Int)) = ((1 + my a1 : Nat) : Int) := by have := my_le a1; rw [w64 (by omega) (by omega)]; omega
  rw [he, len_eq, Option.bind_some, hw]
  obtain ⟨pre, e1, hl, hbs⟩ := h4
  by_cases c1 : b2.2 = .b 0
  · rw [if_neg (show ¬ (b2.2 ≠ .b 0) from fun h => h c1), if_neg (show ¬ (b2.2 ≠ .b 0) from fun h => h c1)]
    by_cases c2 : ln b1 = 1 + my a1
    · rw [if_neg (show ¬ (((ln b1 : Nat) : Int) ≠ ((1 + my a1 : Nat) : Int)) from fun h => h (by rw [c2])), if_neg (show ¬ (ln b1 ≠ 1 + my a1) from fun h => h c2)]
      by_cases c3 : most < (b1 : Int)
      · rw [if_pos c3, if_pos c3]
        exact ⟨_, rfl, pre, by rw [e1], hl, hbs⟩
      · rw [if_neg c3, if_neg c3]
        exact ⟨_, rfl, pre, by rw [e1], hl, hbs⟩
    · rw [if_pos (by omega), if_pos c2]
      exact ⟨_, rfl, pre, by rw [e1], hl, hbs⟩
  · rw [if_pos c1, if_pos c1]
    exact ⟨_, rfl, pre, by rw [e1], hl, hbs⟩
def by_ (n : Int) (s : List Int × Er) : List Int × (List Int × Er) := if n ≤ 0 then ([], s) else nx n.toNat s
end Go.Proofs.YtpeelghbhihgkaaDoor.T
namespace Go.Proofs.YtpeelghbhihgkaaDoor.T
open Go Go.Proofs Go.Proofs.YtpeelghbhihgkaaDoor.K
set_option linter.unusedVariables false
set_option linter.unusedSimpArgs false
def pt (n : Nat) : List Int := if n < 253 then lb n 1 else if n < 65536 then 253 :: lb n 2 else if n < 4294967296 then 254 :: lb n 4 else 255 :: lb n 8
theorem pt_len (n : Nat) : (pt n).length = ln n := by
  unfold pt ln
  split
  · simp [lb_len]
  · split
    · simp [lb_len]
    · split <;> simp [lb_len]
theorem ln_le (n : Nat) : 1 ≤ ln n ∧ ln n ≤ 9 := by unfold ln; split <;> (try split) <;> (try split) <;> omega
theorem bs_pt (n : Nat) : Bs (pt n) := by
  have hc : ∀ (x : Int) (l : List Int), InR .u8 x → Bs l → Bs (x :: l) := fun x l hx hl y hy => by
    rcases List.mem_cons.1 hy with rfl | hy
    · exact hx
    · exact hl y hy
  unfold pt
  split
  · exact bs_lb _ _
  · split
    · exact hc _ _ (by simp [InR]) (bs_lb _ _)
    · split
      · exact hc _ _ (by simp [InR]) (bs_lb _ _)
      · exact hc _ _ (by simp [InR]) (bs_lb _ _)
theorem lb_one (n : Nat) : lb n 1 = [((n % 256 : Nat) : Int)] := by simp [lb, List.range_succ]
theorem put_eq (b : List Int) (n : Nat) (hn : n < 18446744073709551616) (hl : b.length ≤ 1000000) : compact_Put.f b (n : Int) = some (b ++ pt n) := by
  simp only [compact_Put.f, bytes_Clone.f]
  rw [if_pos (by omega), Option.bind_some, len_eq, Option.bind_some]
  unfold ln pt
  by_cases h1 : n < 253
  · rw [if_pos h1, if_pos h1, if_pos (by rfl), if_pos (by omega), u8e, lb_one]
    congr 3
  · rw [if_neg h1, if_neg h1]
    by_cases h2 : n < 65536
    · have := number_eq' (b ++ [253]) n 2 (by omega) (by simp; omega)
      rw [show ((2 : Nat) : Int) = 2 from rfl] at this
      rw [if_pos h2, if_pos h2, if_neg (by decide), if_pos (by rfl), if_pos (by omega), this, Option.bind_some, List.append_assoc]; rfl
    · rw [if_neg h2, if_neg h2]
      by_cases h3 : n < 4294967296
      · have := number_eq' (b ++ [254]) n 4 (by omega) (by simp; omega)
        rw [show ((4 : Nat) : Int) = 4 from rfl] at this
        rw [if_pos h3, if_pos h3, if_neg (by decide), if_neg (by decide), if_pos (by rfl), if_pos (by omega), this, Option.bind_some, List.append_assoc]; rfl
      · have := number_eq' (b ++ [255]) n 8 (by omega) (by simp; omega)
        rw [show ((8 : Nat) : Int) = 8 from rfl] at this
        rw [if_neg h3, if_neg h3, if_neg (by decide), if_neg (by decide), if_neg (by decide), if_pos (by omega), this, Option.bind_some, List.append_assoc]; rfl
theorem first2 : sargassolaw2_first.f = some true := by
  simp only [sargassolaw2_first.f]
  have h := put_eq [] 253 (by omega) (by simp)
  rw [show ((253 : Nat) : Int) = 253 from rfl] at h
  have h1 := len_eq 1
  rw [show ((1 : Nat) : Int) = 1 from rfl] at h1
  rw [h, Option.bind_some, h1]
  rfl
theorem nx_app {n : Nat} {l t : List Int} (h : l.length = n) : nx n (l ++ t, .b 0) = (l, (t, .b 0)) := by
  unfold nx
  rw [if_neg (fun h => h rfl), if_neg (by simp; omega)]
  simp only
  rw [List.take_left' h, List.drop_left' h]
theorem nx_end {n : Nat} {l : List Int} (h : l.length < n) : nx n (l, .b 0) = ([], (l, xErrEnd)) := by
  unfold nx
  rw [if_neg (fun h => h rfl), if_pos h]
theorem wh_app {n : Nat} {l t : List Int} (h : l.length = n) : wh n (l ++ t, .b 0) = (vl l, (t, .b 0)) := by rw [wh, nx_app h]
theorem wh_end {n : Nat} {l : List Int} (h : l.length < n) : wh n (l, .b 0) = (0, (l, xErrEnd)) := by rw [wh, nx_end h]; rfl
theorem wh_lb {n a : Nat} {t : List Int} (h : a < 256 ^ n) : wh n (lb a n ++ t, .b 0) = (a, (t, .b 0)) := by rw [wh_app (lb_len a n), vl_lb, Nat.mod_eq_of_lt h]
theorem wh_cons {b : Int} {t : List Int} : wh 1 (b :: t, .b 0) = (b.toNat, (t, .b 0)) := by
  have := wh_app (n := 1) (l := [b]) (t := t) rfl
  simpa [vl] using this
theorem nm_big (most : Int) (f : Int) (k : Nat) (t : List Int) (hk : my f.toNat = k) (h0 : 0 < k) : nm most (f :: t, .b 0) = (let b := wh k (t, .b 0); if b.2.2 ≠ .b 0 then (0, b.2) else if ln b.1 ≠ 1 + k then (0, (b.2.1, xErrShape)) else if most < (b.1 : Int) then (0, (b.2.1, xErrMany)) else b) := by
  unfold nm
  rw [wh_cons]
  simp only
  rw [hk, if_pos h0]
theorem nm_pt (most : Int) (n : Nat) (hn : n < 18446744073709551616) (t : List Int) : nm most (pt n ++ t, .b 0) = if most < (n : Int) then (0, (t, xErrMany)) else (n, (t, .b 0)) := by
  have big : ∀ (f : Int) (k : Nat), my f.toNat = k → 0 < k → ln n = 1 + k → n < 256 ^ k → nm most ((f :: lb n k) ++ t, .b 0) = if most < (n : Int) then (0, (t, xErrMany)) else (n, (t, .b 0)) := fun f k h1 h2 h3 h4 => by
    rw [List.cons_append, nm_big most f k _ h1 h2]
    simp only
    rw [wh_lb h4]
    simp only
    rw [if_neg (fun h => h rfl), if_neg (fun h => h h3)]
  unfold pt
  by_cases h1 : n < 253
  · rw [if_pos h1, lb_one]
    unfold nm
    rw [List.singleton_append, wh_cons, Int.toNat_natCast, Nat.mod_eq_of_lt (by omega)]
    have e : my n = 0 := by unfold my; rw [if_neg (by omega), if_neg (by omega), if_neg (by omega)]
    simp only
    rw [e, if_neg (Nat.lt_irrefl 0)]
    simp only
    rw [if_neg (fun h => h rfl), if_neg (fun h => h (by unfold ln; rw [if_pos h1]))]
  · rw [if_neg h1]
    by_cases h2 : n < 65536
    · rw [if_pos h2]; exact big 253 2 rfl (by omega) (by unfold ln; rw [if_neg h1, if_pos h2]) (by omega)
    · rw [if_neg h2]
      by_cases h3 : n < 4294967296
      · rw [if_pos h3]; exact big 254 4 rfl (by omega) (by unfold ln; rw [if_neg h1, if_neg h2, if_pos h3]) (by omega)
      · rw [if_neg h3]; exact big 255 8 rfl (by omega) (by unfold ln; rw [if_neg h1, if_neg h2, if_neg h3]) (by omega)
theorem nm_cut (most : Int) (n : Nat) (k : Nat) (hk : k < ln n) : ∃ l, nm most ((pt n).take k, .b 0) = (0, (l, xErrEnd)) := by
  cases k with
  | zero =>
    refine ⟨[], ?_⟩
    unfold nm
    rw [List.take_zero, wh_end (by simp)]
    simp only
    rw [if_neg (show ¬ 0 < my 0 by decide), if_pos (show xErrEnd ≠ .b 0 by decide)]
  | succ k =>
    have big : ∀ (f : Int) (m : Nat), my f.toNat = m → 0 < m → k < m → ∃ l, nm most ((f :: lb n m).take (k + 1), .b 0) = (0, (l, xErrEnd)) := fun f m h1 h2 h3 => by
      refine ⟨(lb n m).take k, ?_⟩
      rw [List.take_succ_cons, nm_big most f m _ h1 h2]
      simp only
      rw [wh_end (by rw [List.length_take, lb_len]; omega)]
      simp only
      rw [if_pos (show xErrEnd ≠ .b 0 by decide)]
    unfold ln at hk
    unfold pt
    by_cases h1 : n < 253
    · rw [if_pos h1] at hk; omega
    · rw [if_neg h1] at hk ⊢
      by_cases h2 : n < 65536
      · rw [if_pos h2] at hk ⊢; exact big 253 2 rfl (by omega) (by omega)
      · rw [if_neg h2] at hk ⊢
        by_cases h3 : n < 4294967296
        · rw [if_pos h3] at hk ⊢; exact big 254 4 rfl (by omega) (by omega)
        · rw [if_neg h3] at hk ⊢; exact big 255 8 rfl (by omega) (by omega)
end Go.Proofs.YtpeelghbhihgkaaDoor.T
namespace Go.Proofs.YtpeelghbhihgkaaDoor.T
open Go Go.Proofs Go.Proofs.YtpeelghbhihgkaaDoor.K
set_option linter.unusedVariables false
set_option linter.unusedSimpArgs false
theorem sargassolaw2_CompactBack.m (μ : Store) (x0 : Int) (h0 : InR .u64 x0) (x1 : List Int) (v1 : Value) (h1 : Slc (RI .u8) 1 μ v1 x1) (x2 : Int) (h2 : InR .i64 x2) : sargassolaw2_CompactBack.f x0 x1 x2 = some true := by
  obtain ⟨n, rfl, hn⟩ := nat_of (k := .u64) rfl h0
  simp only [IntKind.bits] at hn
  have hn : n < 18446744073709551616 := hn
  have hbt := bs_slc h1
  simp only [sargassolaw2_CompactBack.f, first2, Option.bind_some, if_true]
  by_cases hc : 40 < (x1.length : Int)
  · rw [if_pos hc]
  rw [if_neg hc, put_eq [] n hn (by simp), Option.bind_some, List.nil_append, len_eq, Option.bind_some]
  obtain ⟨l1, l2⟩ := ln_le n
  have hl := pt_len n
  rw [if_neg (fun h => h (by rw [hl])), Option.bind_some, if_neg (by simp; omega), bytes_eq _ (by omega), Option.bind_some, if_pos (by omega)]
  obtain ⟨r5, e5, p5⟩ := read_eq (b := pt n ++ x1) ((bs_pt n).app hbt) (by rw [List.length_append]; omega)
  rw [e5, Option.bind_some]
  obtain ⟨r6, e6, p6⟩ := num_eq p5 (n : Int)
  rw [nm_pt (n : Int) n hn, if_neg (Int.lt_irrefl _)] at e6 p6
  rw [e6, Option.bind_some]
  simp only
  rw [left_eq p6, Option.bind_some]
  obtain ⟨y, ey, y0, y1⟩ := number_eq (x := x2) (n := ((pt n).length : Int)) h2 (by omega) (by omega)
  rw [ey, Option.bind_some, if_pos (by omega)]
  obtain ⟨k, rfl⟩ : ∃ k : Nat, y = k := ⟨y.toNat, by omega⟩
  rw [Int.toNat_natCast, show (0 : Int).toNat = 0 from rfl, List.drop_zero]
  obtain ⟨r9, e9, p9⟩ := read_eq (b := (pt n).take k) ((bs_pt n).take k) (by rw [List.length_take]; omega)
  rw [e9, Option.bind_some]
  obtain ⟨r10, e10, p10⟩ := num_eq p9 (n : Int)
  obtain ⟨l, hcut⟩ := nm_cut (n : Int) n k (by omega)
  rw [hcut] at e10 p10
  rw [e10, Option.bind_some]
  obtain ⟨r11, e11, p11⟩ := read_eq (b := pt n) (bs_pt n) (by omega)
  rw [e11, Option.bind_some]
  have hf1 : compact_Reader_Err.f r6 = some (.b 0) := err_eq p6
  have hf2 : compact_Reader_Err.f r10 = some xErrEnd := err_eq p10
  have hs2 : sargassosee_Is.f xErrEnd 101 = some true := by rw [is_end]; rfl
  have hs3 : sargassosee_Is.f xErrMany 104 = some true := by rw [is_many]; rfl
  by_cases hz : n = 0
  · subst hz
    simp [hf1, hf2, hs2]
  · have h0 : ¬ ((n : Int) = 0) := by omega
    rw [if_pos (by omega)]
    obtain ⟨r12, e12, p12⟩ := num_eq p11 (IntKind.u64.wrap ((n : Int) - 1))
    have hap := nm_pt (IntKind.u64.wrap ((n : Int) - 1)) n hn []
    rw [List.append_nil, wu64 (by omega) (by omega), if_pos (by omega)] at hap
    rw [wu64 (by omega) (by omega)] at e12 p12 ⊢
    rw [hap] at e12 p12
    have hf3 : compact_Reader_Err.f (⟨r12.b, r12.at_, r12.err⟩ : compactReader) = some xErrMany := err_eq p12
    rw [e12, Option.bind_some, Option.bind_some]
    simp [hf1, hf2, hf3, hs2, hs3, h0]
end Go.Proofs.YtpeelghbhihgkaaDoor.T
namespace Go.Proofs.YtpeelghbhihgkaaDoor.K
open Go Go.Proofs Go.ChangeShapes Go.WideShapes Go.RowKit
def mem (w : World) : Store := fun k => w.heap[k]?
theorem agr_mem (w : World) : Agr (mem w) w := fun _ _ h => h
theorem mem_cell {w : World} {g i : Nat} {v : Value} (h : w.cell? ⟨g, i, none⟩ = some v) : (mem w).cell g i = some v := by
  unfold World.cell? at h
  unfold Store.cell mem
  cases hm : w.heap[g]? with
  | none => simp [hm] at h
  | some o => cases o <;> simp_all
theorem wf_in {k : IntKind} {n : Int} (h : (Lit.int k n).wf = true) : InR k n := by
  cases k <;> simp [Lit.wf, IntKind.min, IntKind.max, IntKind.signed, IntKind.bits] at h <;> simp [InR] <;> omega
section
variable {H : Type} {enc : TypeId × Value → H} {P : Program} {w : World} {base : Nat} {spare : Nat → Bool} {held : Bool} {t e : TypeId}
def Rd (enc : TypeId × Value → H) (P : Program) (w : World) (base : Nat) (spare : Nat → Bool) (held : Bool) (t : TypeId) (R : List Value → Prop) : Prop :=
  ∀ fuel cs x, DataW.trod enc P w base spare held fuel t cs = some x → R cs
theorem rd_int {k : IntKind} (ht : P.underlying t = some (.int k)) : Rd enc P w base spare held t (fun c => ∃ n, RI k n c) := by
  intro fuel cs x h
  obtain ⟨n, rfl, _, hw⟩ := DataW.trod_int ht h
  exact ⟨n, rfl, wf_in hw⟩
theorem els_of {α : Type} {RE : α → List Value → Prop} {sz : Nat} : ∀ {n : Nat} {Q : Nat → Value → Prop}, (∀ i, i < n → ∃ x c, RE x c ∧ c.length = sz ∧ ∀ j v, c[j]? = some v → Q (i * sz + j) v) →
    ∃ xs cs, xs.length = n ∧ Els RE sz xs cs ∧ ∀ j v, cs[j]? = some v → Q j v
  | 0, _, _ => ⟨[], [], rfl, .nil, fun j v h => by simp at h⟩
  | n + 1, Q, f => by
    obtain ⟨x, c, h1, h2, h3⟩ := f 0 (by omega)
    obtain ⟨xs, cs, e1, e2, e3⟩ := els_of (n := n) (Q := fun m v => Q (sz + m) v) (fun i hi => by
      obtain ⟨x, c, h1, h2, h3⟩ := f (i + 1) (by omega)
      refine ⟨x, c, h1, h2, fun j v hj => ?_⟩
      have := h3 j v hj
      rwa [Nat.add_mul, Nat.one_mul, Nat.add_comm (i * sz), Nat.add_assoc] at this)
    refine ⟨x :: xs, c ++ cs, by simp [e1], .cons h1 h2 e2, fun j v hj => ?_⟩
    rcases Nat.lt_or_ge j c.length with h | h
    · rw [List.getElem?_append_left h] at hj
      simpa using h3 j v hj
    · rw [List.getElem?_append_right h] at hj
      have := e3 _ _ hj
      rwa [h2, Nat.add_sub_cancel' (by omega)] at this
theorem rd_slice {α : Type} {RE : α → List Value → Prop} {sz : Nat} (ht : P.underlying t = some (.slice e)) (hc : P.cellsOf e = sz) (h0 : 0 < sz) (hr : Rd enc P w base spare held e (fun c => ∃ x, RE x c)) :
    Rd enc P w base spare held t (fun c => ∃ v xs, c = [v] ∧ Slc RE sz (mem w) v xs) := by
  intro fuel cs x h
  rcases DataW.trod_slice ht h with ⟨rfl, _⟩ | ⟨a, len, cap, elems, rest, n, _, rfl, _, _, hl, hm, hlen, hel, _, _⟩
  · exact ⟨_, [], rfl, [], .nil, none, 0, rfl, Nat.le_refl _, Nat.zero_le _, fun h => absurd rfl h, fun h => absurd rfl h⟩
  have each0 : ∀ i, i < len → ∃ x c, RE x c ∧ c.length = sz ∧ ∀ j, j < sz → w.cell? ((a.add (i * sz)).add j) = c[j]? := by
    intro i hi
    have h1 := hel i hi
    rw [List.getElem?_eq_getElem (by omega), hc] at h1
    obtain ⟨c, hc1, hc2⟩ := Option.bind_eq_some_iff.1 h1
    obtain ⟨_, l1, l2⟩ := World.cells?_some hc1
    obtain ⟨x, hx⟩ := hr _ _ _ hc2
    exact ⟨x, c, hx, l1, l2⟩
  have hs : 0 < len → a.spot = none := by
    intro hp
    obtain ⟨x, c, _, l1, l2⟩ := each0 0 hp
    have h2 := (l2 0 h0).trans (List.getElem?_eq_getElem (by omega))
    simpa [Addr.add] using World.cell?_spot h2
  obtain ⟨b, off, spot⟩ := a
  simp only at hs
  have each : ∀ i, i < len → ∃ x c, RE x c ∧ c.length = sz ∧ ∀ j v, c[j]? = some v → (fun m v => w.cell? ⟨b, off + m, none⟩ = some v) (i * sz + j) v := by
    intro i hi
    obtain ⟨x, c, hx, l1, l2⟩ := each0 i hi
    refine ⟨x, c, hx, l1, fun j v hj => ?_⟩
    have hjl : j < sz := by
      have := (List.getElem?_eq_some_iff.1 hj).1
      omega
    have h2 := (l2 j hjl).trans hj
    rw [hs (by omega), add_plain, add_plain] at h2
    simpa [Nat.add_assoc] using h2
  obtain ⟨xs, cs, e1, e2, e3⟩ := els_of (RE := RE) (sz := sz) (Q := fun m v => w.cell? ⟨b, off + m, none⟩ = some v) each
  refine ⟨_, xs, rfl, cs, e2, some ⟨b, off, spot⟩, cap, by rw [e1], by omega, hm, fun hn => by rw [hs (by omega)]; rfl, fun hn j v hj => mem_cell (e3 j v hj)⟩
theorem rd_at {R : List Value → Prop} {v : Value} {d : DataW H} {ps : List MemPlace} (hr : Rd enc P w base spare held t R) (h : DataW.Trod enc P w base spare held t v d ps) : R v.cells.toList := by
  obtain ⟨fuel, hf⟩ := h
  exact hr _ _ _ hf
theorem at_slice {α : Type} {RE : α → List Value → Prop} {sz : Nat} {r : Reach} {b0 : Nat} {v : Value} {d : DataW H} {ps : List MemPlace} (ht : P.underlying t = some (.slice e)) (hval : Value.okWide P w r b0 t v)
    (hr : Rd enc P w base spare held t (fun c => ∃ v xs, c = [v] ∧ Slc RE sz (mem w) v xs)) (h : DataW.Trod enc P w base spare held t v d ps) : ∃ xs, Slc RE sz (mem w) v xs := by
  obtain ⟨a, len, cap, rfl⟩ := okWide_slice ht hval
  obtain ⟨u, xs, e1, h2⟩ := rd_at hr h
  simp [Value.cells] at e1
  subst e1
  exact ⟨xs, h2⟩
theorem again {W W' : World} {v : Value} {d : DataW H} {ps : List MemPlace} (hl : laidOutB P = true) (hr : P.readableRec t = true) (hrow : t < P.types.size) (h : DataW.Trod enc P W 0 (fun _ => true) true t v d ps) (hb : Below W.heap.size W W') :
    DataW.Trod enc P W' 0 (fun b => decide (b < W.heap.size)) true t v d ps :=
  Below.trod hl hr hrow h hb (fun p hp => let ⟨n, hn⟩ := h; DataW.trod_lt n _ _ _ hn p hp)
end
end Go.Proofs.YtpeelghbhihgkaaDoor.K
namespace Go.Proofs.YtpeelghbhihgkaaDoor.K
open Go Go.Proofs
set_option linter.unusedVariables false
theorem laid_each {P : Program} {W : World} : ∀ {l : List (String × DataW Unit)} {ps : List MemPlace}, DataW.LaidVars P W l ps → ∀ {n : String} {d : DataW Unit}, (n, d) ∈ l →
    ∃ g t cs fuel p, P.globalNamed n = some g ∧ (P.globals[g]?).map (·.type) = some t ∧ W.var? P n = some cs ∧ DataW.trod (fun _ => ()) P W 0 (fun _ => true) false fuel t cs.toList = some (d, p) ∧ ∀ x ∈ MemPlace.row ⟨g, 0, none⟩ cs.size ++ p, x ∈ ps
  | [], ps, h, n, d, hm => by cases hm
  | (m, e) :: r, ps, h, n, d, hm => by
    obtain ⟨g, t, cs, fuel, p, q, hg, ht, hv, hd, hr, rfl⟩ := h
    rcases List.mem_cons.1 hm with e1 | hm
    · cases e1
      exact ⟨g, t, cs, fuel, p, hg, ht, hv, hd, fun x hx => List.mem_append_left _ hx⟩
    · obtain ⟨g', t', cs', fuel', p', a1, a2, a3, a4, a5⟩ := laid_each hr hm
      exact ⟨g', t', cs', fuel', p', a1, a2, a3, a4, fun x hx => List.mem_append_right _ (a5 x hx)⟩
theorem sent_of_laid {P : Program} {W : World} {laid : List (String × DataW Unit)} {code : ByteArray → Nat} {n : String} {text : List UInt8} {g : Nat} {ti tp ta te ts : TypeId} {ms : Array (String × TypeId)} {f : Field}
    (h : laidMet P laid W) (hm : (n, .iface "*errors.errorString" (.ptr (.agg [.lit (.string text)]))) ∈ laid) (hg : P.globalNamed n = some g) (ht : (P.globals[g]?).map (·.type) = some ti)
    (hi : P.underlying ti = some (.interface ms)) (hrow : ∀ u, P.typeName? 3 u = some "*errors.errorString" → u = tp) (hp : P.underlying tp = some (.pointer te)) (he : P.underlying te = some (.struct #[f])) (hft : f.type = ts) (hfo : f.offset = 0) (hs : P.underlying ts = some .string) (hc : P.cellsOf te = 1) (hcs : P.cellsOf ts = 1)
    (hcode : ∀ s : ByteArray, s.data.toList = text → code s = g + 1) : ∃ v, ErV tp ta code (mem W) (.b (g + 1)) v := by
  obtain ⟨ps, hl, hnd, hrows⟩ := h
  obtain ⟨g', t', cs, fuel, p, a1, a2, a3, a4, a5⟩ := laid_each hl hm
  obtain rfl := Option.some.inj (hg.symm.trans a1)
  obtain rfl := Option.some.inj (ht.symm.trans a2)
  obtain ⟨l⟩ := cs
  have ok : ∀ u v, l = [.iface u v] → Value.okWide P W .any 0 u v := fun u v e => by
    subst e
    exact (hrows g 0 (a5 _ (by simp [MemPlace.row]))).2 u v (by simpa using World.var?_cell hg a3 0)
  obtain ⟨a, s, rfl, hcell, hst, hz, rfl⟩ := errorString_of_trod hi hrow hp he hft hfo hs hc hcs a4 ok
  obtain ⟨c, t, hb⟩ := (hrows a.block a.off (a5 _ (by simp [MemPlace.row]))).1
  refine ⟨.iface tp (.pointer (some a)), .inr ⟨by omega, mem_cell (by simpa using World.var?_cell hg a3 0), a, s, c, t, rfl, hb, hcode s hst, fun w hw => ?_⟩⟩
  have e : w.heap[a.block]? = W.heap[a.block]? := (hw _ _ hb).trans hb.symm
  unfold World.cell? at hcell ⊢
  rw [e]
  exact hcell
end Go.Proofs.YtpeelghbhihgkaaDoor.K
