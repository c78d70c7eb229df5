/- Proved: the statement CompactStops, as given (its conditions are those of the given row, and card where there is one; no others): the call ends, with true, and the input reads as it did. This file is one of its parts. -/
import Derived.Test.YtpeelghbhihgkaaDoorPCompactStops1
import Derived.OpenShut
import Derived.ChangeArms
import Derived.DataReads
import Derived.WideShapes
import Derived.Below
import Derived.Carry
import Derived.ChangeOld
import Derived.LaidLaws
import Derived.Stop.ErrReads
import Derived.ChangeVars
namespace Go.Proofs.YtpeelghbhihgkaaDoor.T
open Go Go.Proofs Go.Proofs.YtpeelghbhihgkaaDoor.K
set_option linter.unusedVariables false
set_option linter.unusedSimpArgs false
set_option maxRecDepth 20000 in
theorem sargassoworld_Number.c (μ : Store) (w0 : World) (hμ : Agr μ w0) (x0 : Int) (hx0 : InR .i64 x0) (x1 : Int) (hx1 : InR .i64 x1) (r : Int) (H : sargassoworld_Number.f x0 x1 = some r) :
    Calls Tryd.prog 29 [.int .i64 x0, .int .i64 x1].toArray w0 (fun e w' => ∃ v, e = .returned v ∧ v = .int .i64 r ∧ InR .i64 r ∧ Iv w0 [] μ μ [] w') := by
  refine enter Tryd.func29 rfl Tryd.ntmps29 rfl fun a hA => ?_
  have hI := Iv.start hμ
  have H := bI H
  refine w_seq fun _ hN1 => ?_
  refine w_reg ?_
  refine stp hA (r_as hA rfl) rfl fun a hA => ?_
  refine o_nil ?_
  refine hN1 _ _ ?_
  refine w_seq fun _ hN2 => ?_
  refine w_reg ?_
  refine stp hA (r_mv hA rfl) rfl fun a hA => 
    stp hA (r_mv hA rfl) rfl fun a hA => ?_
  obtain ⟨hb1, H⟩ := bG H
  refine stp hA (r_rem hA rfl rfl hb1) rfl fun a hA => 
    stp hA (r_as hA rfl) rfl fun a hA => ?_
  refine o_nil ?_
  refine hN2 _ _ ?_
  obtain ⟨c1, hz1, Hk1⟩ := bB H
  refine w_cut (fun a w => InR .i64 c1 ∧ Fr a 15 [(0, .int .i64 x0), (1, .int .i64 x1), (4, .int .i64 0), (5, .int .i64 c1)] ∧ Iv w0 [] μ μ [] w) ?_ ?_
  · have H := bI hz1
    refine w_seq fun _ hN3 => ?_
    refine w_reg ?_
    refine stp hA (r_mv hA rfl) rfl fun a hA => 
      stp hA (r_lss hA rfl rfl) rfl fun a hA => ?_
    refine o_nil ?_
    refine hN3 _ _ ?_
    refine w_cond hA rfl (fun hc1 => ?_) (fun hc1 => ?_)
    · have hc10 := hc1; have hc1 := of_decide_eq_true hc1; have H := bT H hc1
      refine w_reg ?_
      refine stp hA (r_mv hA rfl) rfl fun a hA => 
        stp hA (r_mv hA rfl) rfl fun a hA => 
        stp hA (r_add hA rfl rfl) rfl fun a hA => 
        stp hA (r_as hA rfl) rfl fun a hA => ?_
      refine o_nil ?_
      cases Option.some.inj (bS H)
      exact ⟨(wrap_in _ _), hA.sub ⟨rfl, rfl, rfl, rfl, trivial⟩, hI⟩
    · have hc10 := hc1; have hc1 := of_decide_eq_false hc1; have H := bF H hc1
      refine w_skip ?_
      cases Option.some.inj (bS H)
      exact ⟨(tmod_in hx0 _), hA.sub ⟨rfl, rfl, rfl, rfl, trivial⟩, hI⟩
  · rintro a w ⟨wc1, hA, hI⟩
    have H := Hk1
    refine w_seq fun _ hN4 => ?_
    refine w_reg ?_
    refine stp hA (r_mv hA rfl) rfl fun a hA => 
      stp hA (r_as hA rfl) rfl fun a hA => ?_
    refine o_nil ?_
    refine hN4 _ _ ?_
    refine w_ret ?_
    obtain rfl := Option.some.inj (bS H)
    exact ret1 hA Tryd.results29 rfl ⟨_, rfl, rfl, wc1, hI.forget0⟩
set_option maxRecDepth 20000 in
theorem sargassoref_SameFault.c (μ : Store) (w0 : World) (hμ : Agr μ w0) (x0 : sargassorefFault) (hx0 : sargassorefFaultW μ x0) (x1 : sargassorefFault) (hx1 : sargassorefFaultW μ x1) (r : Bool) (H : sargassoref_SameFault.f x0 x1 = some r) :
    Calls Tryd.prog 129 [.agg [[.int .i64 x0.Code], [.bool x0.Placed], [.int .i64 x0.Pos], [.bool x0.Outer], [.int .i64 x0.At]].flatten.toArray, .agg [[.int .i64 x1.Code], [.bool x1.Placed], [.int .i64 x1.Pos], [.bool x1.Outer], [.int .i64 x1.At]].flatten.toArray].toArray w0 (fun e w' => ∃ v, e = .returned v ∧ v = .bool r ∧ True ∧ Iv w0 [] μ μ [] w') := by
  refine enter Tryd.func129 rfl Tryd.ntmps129 rfl fun a hA => ?_
  have hI := Iv.start hμ
  have H := bI H
  refine w_seq fun _ hN1 => ?_
  refine w_reg ?_
  refine o_box [[.int .i64 x0.Code], [.bool x0.Placed], [.int .i64 x0.Pos], [.bool x0.Outer], [.int .i64 x0.At]] hI hA rfl rfl rfl fun g1 a w hA hI hg1 => 
    o_box [[.int .i64 x1.Code], [.bool x1.Placed], [.int .i64 x1.Pos], [.bool x1.Outer], [.int .i64 x1.At]] hI hA rfl rfl rfl fun g2 a w hA hI hg2 => 
    stp hA (r_as hA rfl) rfl fun a hA => ?_
  refine o_nil ?_
  refine hN1 _ _ ?_
  obtain ⟨c1, hz1, Hk1⟩ := bB H
  refine w_cut (fun a w => Fr a 38 [(0, .agg [[.int .i64 x0.Code], [.bool x0.Placed], [.int .i64 x0.Pos], [.bool x0.Outer], [.int .i64 x0.At]].flatten.toArray), (1, .agg [[.int .i64 x1.Code], [.bool x1.Placed], [.int .i64 x1.Pos], [.bool x1.Outer], [.int .i64 x1.At]].flatten.toArray), (2, .pointer (some ⟨g1, 0, none⟩)), (3, .pointer (some ⟨g2, 0, none⟩)), (4, .bool c1)] ∧ Iv w0 [] μ μ [cel g2 [[.int .i64 x1.Code], [.bool x1.Placed], [.int .i64 x1.Pos], [.bool x1.Outer], [.int .i64 x1.At]] 109, cel g1 [[.int .i64 x0.Code], [.bool x0.Placed], [.int .i64 x0.Pos], [.bool x0.Outer], [.int .i64 x0.At]] 109] w) ?_ ?_
  · have H := bI hz1
    refine w_reg ?_
    refine stp hA (r_fd (k := 0) Tryd.underlying109 rfl sz3 hA rfl rfl) rfl fun a hA => 
      stp hA (r_ld1 (j := 1) [] [[.bool x0.Placed], [.int .i64 x0.Pos], [.bool x0.Outer], [.int .i64 x0.At]] Tryd.underlying3 rfl hI rfl hA rfl rfl) rfl fun a hA => 
      stp hA (r_fd (k := 0) Tryd.underlying109 rfl sz3 hA rfl rfl) rfl fun a hA => 
      stp hA (r_ld1 (j := 0) [] [[.bool x1.Placed], [.int .i64 x1.Pos], [.bool x1.Outer], [.int .i64 x1.At]] Tryd.underlying3 rfl hI rfl hA rfl rfl) rfl fun a hA => 
      stp hA (r_eql hA rfl rfl) rfl fun a hA => 
      stp hA (r_mv hA rfl) rfl fun a hA => ?_
    rcases Bool.eq_false_or_eq_true (decide (x0.Code = x1.Code)) with hc1 | hc1
    · have hc10 := hc1; have hc1 := of_decide_eq_true hc1; have H := bT H hc1
      refine o_yes hA rfl rfl hc10 <| 
        stp hA (r_fd (k := 1) Tryd.underlying109 rfl sz4 hA rfl rfl) rfl fun a hA => 
        o_yes hA rfl rfl hc10 <| 
        stp hA (r_ld1 (j := 1) [[.int .i64 x0.Code]] [[.int .i64 x0.Pos], [.bool x0.Outer], [.int .i64 x0.At]] Tryd.underlying4 rfl hI rfl hA rfl rfl) rfl fun a hA => 
        o_yes hA rfl rfl hc10 <| 
        stp hA (r_fd (k := 1) Tryd.underlying109 rfl sz4 hA rfl rfl) rfl fun a hA => 
        o_yes hA rfl rfl hc10 <| 
        stp hA (r_ld1 (j := 0) [[.int .i64 x1.Code]] [[.int .i64 x1.Pos], [.bool x1.Outer], [.int .i64 x1.At]] Tryd.underlying4 rfl hI rfl hA rfl rfl) rfl fun a hA => 
        o_yes hA rfl rfl hc10 <| 
        stp hA (r_eqlb Tryd.underlying4 hA rfl rfl) rfl fun a hA => 
        stp hA (r_pick_t hA rfl hc10 rfl) rfl fun a hA => 
        stp hA (r_mv hA rfl) rfl fun a hA => ?_
      rcases Bool.eq_false_or_eq_true (decide (x0.Placed = x1.Placed)) with hc2 | hc2
      · have hc20 := hc2; have hc2 := of_decide_eq_true hc2; have H := bT H hc2
        refine o_yes hA rfl rfl hc20 <| 
          stp hA (r_fd (k := 2) Tryd.underlying109 rfl sz3 hA rfl rfl) rfl fun a hA => 
          o_yes hA rfl rfl hc20 <| 
          stp hA (r_ld1 (j := 1) [[.int .i64 x0.Code], [.bool x0.Placed]] [[.bool x0.Outer], [.int .i64 x0.At]] Tryd.underlying3 rfl hI rfl hA rfl rfl) rfl fun a hA => 
          o_yes hA rfl rfl hc20 <| 
          stp hA (r_fd (k := 2) Tryd.underlying109 rfl sz3 hA rfl rfl) rfl fun a hA => 
          o_yes hA rfl rfl hc20 <| 
          stp hA (r_ld1 (j := 0) [[.int .i64 x1.Code], [.bool x1.Placed]] [[.bool x1.Outer], [.int .i64 x1.At]] Tryd.underlying3 rfl hI rfl hA rfl rfl) rfl fun a hA => 
          o_yes hA rfl rfl hc20 <| 
          stp hA (r_eql hA rfl rfl) rfl fun a hA => 
          stp hA (r_pick_t hA rfl hc20 rfl) rfl fun a hA => 
          stp hA (r_mv hA rfl) rfl fun a hA => ?_
        rcases Bool.eq_false_or_eq_true (decide (x0.Pos = x1.Pos)) with hc3 | hc3
        · have hc30 := hc3; have hc3 := of_decide_eq_true hc3; have H := bT H hc3
          refine o_yes hA rfl rfl hc30 <| 
            stp hA (r_fd (k := 3) Tryd.underlying109 rfl sz4 hA rfl rfl) rfl fun a hA => 
            o_yes hA rfl rfl hc30 <| 
            stp hA (r_ld1 (j := 1) [[.int .i64 x0.Code], [.bool x0.Placed], [.int .i64 x0.Pos]] [[.int .i64 x0.At]] Tryd.underlying4 rfl hI rfl hA rfl rfl) rfl fun a hA => 
            o_yes hA rfl rfl hc30 <| 
            stp hA (r_fd (k := 3) Tryd.underlying109 rfl sz4 hA rfl rfl) rfl fun a hA => 
            o_yes hA rfl rfl hc30 <| 
            stp hA (r_ld1 (j := 0) [[.int .i64 x1.Code], [.bool x1.Placed], [.int .i64 x1.Pos]] [[.int .i64 x1.At]] Tryd.underlying4 rfl hI rfl hA rfl rfl) rfl fun a hA => 
            o_yes hA rfl rfl hc30 <| 
            stp hA (r_eqlb Tryd.underlying4 hA rfl rfl) rfl fun a hA => 
            stp hA (r_pick_t hA rfl hc30 rfl) rfl fun a hA => 
            stp hA (r_mv hA rfl) rfl fun a hA => ?_
          rcases Bool.eq_false_or_eq_true (decide (x0.Outer = x1.Outer)) with hc4 | hc4
          · have hc40 := hc4; have hc4 := of_decide_eq_true hc4; have H := bT H hc4
            refine o_yes hA rfl rfl hc40 <| 
              stp hA (r_fd (k := 4) Tryd.underlying109 rfl sz3 hA rfl rfl) rfl fun a hA => 
              o_yes hA rfl rfl hc40 <| 
              stp hA (r_ld1 (j := 1) [[.int .i64 x0.Code], [.bool x0.Placed], [.int .i64 x0.Pos], [.bool x0.Outer]] [] Tryd.underlying3 rfl hI rfl hA rfl rfl) rfl fun a hA => 
              o_yes hA rfl rfl hc40 <| 
              stp hA (r_fd (k := 4) Tryd.underlying109 rfl sz3 hA rfl rfl) rfl fun a hA => 
              o_yes hA rfl rfl hc40 <| 
              stp hA (r_ld1 (j := 0) [[.int .i64 x1.Code], [.bool x1.Placed], [.int .i64 x1.Pos], [.bool x1.Outer]] [] Tryd.underlying3 rfl hI rfl hA rfl rfl) rfl fun a hA => 
              o_yes hA rfl rfl hc40 <| 
              stp hA (r_eql hA rfl rfl) rfl fun a hA => 
              stp hA (r_pick_t hA rfl hc40 rfl) rfl fun a hA => 
              stp hA (r_as hA rfl) rfl fun a hA => ?_
            refine o_nil ?_
            cases Option.some.inj (bS H)
            exact ⟨hA.sub ⟨rfl, rfl, rfl, rfl, rfl, trivial⟩, hI⟩
          · have hc40 := hc4; have hc4 := of_decide_eq_false hc4; have H := bF H hc4
            refine o_no hA rfl rfl (by rw [hc40]; simp [vb]) rfl fun a hA => 
              o_no hA rfl rfl (by rw [hc40]; simp [vb]) rfl fun a hA => 
              o_no hA rfl rfl (by rw [hc40]; simp [vb]) rfl fun a hA => 
              o_no hA rfl rfl (by rw [hc40]; simp [vb]) rfl fun a hA => 
              o_no hA rfl rfl (by rw [hc40]; simp [vb]) rfl fun a hA => 
              stp hA (r_pick_f hA rfl hc40 rfl) rfl fun a hA => 
              stp hA (r_as hA rfl) rfl fun a hA => ?_
            refine o_nil ?_
            cases Option.some.inj (bS H)
            exact ⟨hA.sub ⟨rfl, rfl, rfl, rfl, rfl, trivial⟩, hI⟩
        · have hc30 := hc3; have hc3 := of_decide_eq_false hc3; have H := bF H hc3
          refine o_no hA rfl rfl (by rw [hc30]; simp [vb]) rfl fun a hA => 
            o_no hA rfl rfl (by rw [hc30]; simp [vb]) rfl fun a hA => 
            o_no hA rfl rfl (by rw [hc30]; simp [vb]) rfl fun a hA => 
            o_no hA rfl rfl (by rw [hc30]; simp [vb]) rfl fun a hA => 
            o_no hA rfl rfl (by rw [hc30]; simp [vb]) rfl fun a hA => 
            stp hA (r_pick_f hA rfl hc30 rfl) rfl fun a hA => 
            stp hA (r_mv hA rfl) rfl fun a hA => 
            o_no hA rfl rfl (by simp [vb]) rfl fun a hA => 
            o_no hA rfl rfl (by simp [vb]) rfl fun a hA => 
            o_no hA rfl rfl (by simp [vb]) rfl fun a hA => 
            o_no hA rfl rfl (by simp [vb]) rfl fun a hA => 
            o_no hA rfl rfl (by simp [vb]) rfl fun a hA => 
            stp hA (r_pick_f hA rfl rfl rfl) rfl fun a hA => 
            stp hA (r_as hA rfl) rfl fun a hA => ?_
          refine o_nil ?_
          cases Option.some.inj (bS H)
          exact ⟨hA.sub ⟨rfl, rfl, rfl, rfl, rfl, trivial⟩, hI⟩
      · have hc20 := hc2; have hc2 := of_decide_eq_false hc2; have H := bF H hc2
        refine o_no hA rfl rfl (by rw [hc20]; simp [vb]) rfl fun a hA => 
          o_no hA rfl rfl (by rw [hc20]; simp [vb]) rfl fun a hA => 
          o_no hA rfl rfl (by rw [hc20]; simp [vb]) rfl fun a hA => 
          o_no hA rfl rfl (by rw [hc20]; simp [vb]) rfl fun a hA => 
          o_no hA rfl rfl (by rw [hc20]; simp [vb]) rfl fun a hA => 
          stp hA (r_pick_f hA rfl hc20 rfl) rfl fun a hA => 
          stp hA (r_mv hA rfl) rfl fun a hA => 
          o_no hA rfl rfl (by simp [vb]) rfl fun a hA => 
          o_no hA rfl rfl (by simp [vb]) rfl fun a hA => 
          o_no hA rfl rfl (by simp [vb]) rfl fun a hA => 
          o_no hA rfl rfl (by simp [vb]) rfl fun a hA => 
          o_no hA rfl rfl (by simp [vb]) rfl fun a hA => 
          stp hA (r_pick_f hA rfl rfl rfl) rfl fun a hA => 
          stp hA (r_mv hA rfl) rfl fun a hA => 
          o_no hA rfl rfl (by simp [vb]) rfl fun a hA => 
          o_no hA rfl rfl (by simp [vb]) rfl fun a hA => 
          o_no hA rfl rfl (by simp [vb]) rfl fun a hA => 
          o_no hA rfl rfl (by simp [vb]) rfl fun a hA => 
          o_no hA rfl rfl (by simp [vb]) rfl fun a hA => 
          stp hA (r_pick_f hA rfl rfl rfl) rfl fun a hA => 
          stp hA (r_as hA rfl) rfl fun a hA => ?_
        refine o_nil ?_
        cases Option.some.inj (bS H)
        exact ⟨hA.sub ⟨rfl, rfl, rfl, rfl, rfl, trivial⟩, hI⟩
    · have hc10 := hc1; have hc1 := of_decide_eq_false hc1; have H := bF H hc1
      refine o_no hA rfl rfl (by rw [hc10]; simp [vb]) rfl fun a hA => 
        o_no hA rfl rfl (by rw [hc10]; simp [vb]) rfl fun a hA => 
        o_no hA rfl rfl (by rw [hc10]; simp [vb]) rfl fun a hA => 
        o_no hA rfl rfl (by rw [hc10]; simp [vb]) rfl fun a hA => 
        o_no hA rfl rfl (by rw [hc10]; simp [vb]) rfl fun a hA => 
        stp hA (r_pick_f hA rfl hc10 rfl) rfl fun a hA => 
        stp hA (r_mv hA rfl) rfl fun a hA => 
        o_no hA rfl rfl (by simp [vb]) rfl fun a hA => 
        o_no hA rfl rfl (by simp [vb]) rfl fun a hA => 
        o_no hA rfl rfl (by simp [vb]) rfl fun a hA => 
        o_no hA rfl rfl (by simp [vb]) rfl fun a hA => 
        o_no hA rfl rfl (by simp [vb]) rfl fun a hA => 
        stp hA (r_pick_f hA rfl rfl rfl) rfl fun a hA => 
        stp hA (r_mv hA rfl) rfl fun a hA => 
        o_no hA rfl rfl (by simp [vb]) rfl fun a hA => 
        o_no hA rfl rfl (by simp [vb]) rfl fun a hA => 
        o_no hA rfl rfl (by simp [vb]) rfl fun a hA => 
        o_no hA rfl rfl (by simp [vb]) rfl fun a hA => 
        o_no hA rfl rfl (by simp [vb]) rfl fun a hA => 
        stp hA (r_pick_f hA rfl rfl rfl) rfl fun a hA => 
        stp hA (r_mv hA rfl) rfl fun a hA => 
        o_no hA rfl rfl (by simp [vb]) rfl fun a hA => 
        o_no hA rfl rfl (by simp [vb]) rfl fun a hA => 
        o_no hA rfl rfl (by simp [vb]) rfl fun a hA => 
        o_no hA rfl rfl (by simp [vb]) rfl fun a hA => 
        o_no hA rfl rfl (by simp [vb]) rfl fun a hA => 
        stp hA (r_pick_f hA rfl rfl rfl) rfl fun a hA => 
        stp hA (r_as hA rfl) rfl fun a hA => ?_
      refine o_nil ?_
      cases Option.some.inj (bS H)
      exact ⟨hA.sub ⟨rfl, rfl, rfl, rfl, rfl, trivial⟩, hI⟩
  · rintro a w ⟨hA, hI⟩
    have H := Hk1
    refine w_ret ?_
    obtain rfl := Option.some.inj (bS H)
    exact ret1 hA Tryd.results129 rfl ⟨_, rfl, rfl, trivial, hI.forget0⟩
set_option maxRecDepth 20000 in
theorem sargassoref_None.c (μ : Store) (w0 : World) (hμ : Agr μ w0) (r : sargassorefFault) (H : sargassoref_None.f = some r) :
    Calls Tryd.prog 131 [].toArray w0 (fun e w' => ∃ v, e = .returned v ∧ v = .agg [[.int .i64 r.Code], [.bool r.Placed], [.int .i64 r.Pos], [.bool r.Outer], [.int .i64 r.At]].flatten.toArray ∧ sargassorefFaultW μ r ∧ Iv w0 [] μ μ [] w') := by
  refine enter Tryd.func131 rfl Tryd.ntmps131 rfl fun a hA => ?_
  have hI := Iv.start hμ
  have H := bI H
  refine w_seq fun _ hN1 => ?_
  refine w_reg ?_
  refine o_new [[.int .i64 0], [.bool false], [.int .i64 0], [.bool false], [.int .i64 0]] zr109 hI hA rfl fun g1 a w hA hI hg1 => ?_
  refine o_nil ?_
  refine hN1 _ _ ?_
  refine w_seq fun _ hN2 => ?_
  refine w_reg ?_
  refine stp hA (r_bldS (cs := [[.int .i64 0], [.bool false], [.int .i64 0], [.bool false], [.int .i64 0]].flatten.toArray) (pl := [(0, 1), (1, 1), (2, 1), (3, 1), (4, 1)]) zr109 Tryd.underlying109 ⟨rfl, sz3, rfl, sz4, rfl, sz3, rfl, sz4, rfl, sz3, trivial⟩ hA rfl (by kernel_rfl)) rfl fun a hA => 
    o_st (j := 0) [] [[.int .i64 0], [.bool false], [.int .i64 0], [.bool false], [.int .i64 0]] [[.int .i64 0], [.bool false], [.int .i64 0], [.bool false], [.int .i64 0]] [] sz109 rfl rfl (fl_cons (one_one rfl) (fl_cons (one_one rfl) (fl_cons (one_one rfl) (fl_cons (one_one rfl) (fl_cons (one_one rfl) fl_nil))))) hI rfl hA rfl rfl rfl rfl fun w hI => ?_
  refine o_nil ?_
  refine hN2 _ _ ?_
  refine w_ret ?_
  obtain rfl := Option.some.inj (bS H)
  exact retc Tryd.underlying109 rfl sz109 rfl hI (j := 0) rfl hA Tryd.results131 rfl ⟨_, rfl, rfl, ⟨(in_lit .i64 0 rfl), (in_lit .i64 0 rfl), (in_lit .i64 0 rfl)⟩, hI.forget0⟩
set_option maxRecDepth 20000 in
theorem sargassoref_Placed.c (μ : Store) (w0 : World) (hμ : Agr μ w0) (x0 : Int) (hx0 : InR .i64 x0) (x1 : Int) (hx1 : InR .i64 x1) (r : sargassorefFault) (H : sargassoref_Placed.f x0 x1 = some r) :
    Calls Tryd.prog 74 [.int .i64 x0, .int .i64 x1].toArray w0 (fun e w' => ∃ v, e = .returned v ∧ v = .agg [[.int .i64 r.Code], [.bool r.Placed], [.int .i64 r.Pos], [.bool r.Outer], [.int .i64 r.At]].flatten.toArray ∧ sargassorefFaultW μ r ∧ Iv w0 [] μ μ [] w') := by
  refine enter Tryd.func74 rfl Tryd.ntmps74 rfl fun a hA => ?_
  have hI := Iv.start hμ
  have H := bI H
  refine w_seq fun _ hN1 => ?_
  refine w_reg ?_
  refine o_new [[.int .i64 0], [.bool false], [.int .i64 0], [.bool false], [.int .i64 0]] zr109 hI hA rfl fun g1 a w hA hI hg1 => ?_
  refine o_nil ?_
  refine hN1 _ _ ?_
  refine w_seq fun _ hN2 => ?_
  refine w_seq fun _ hN3 => ?_
  refine w_reg ?_
  refine stp hA (r_mv hA rfl) rfl fun a hA => 
    stp hA (r_eql hA rfl rfl) rfl fun a hA => ?_
  refine o_nil ?_
  refine hN3 _ _ ?_
  refine w_cond hA rfl (fun hc1 => ?_) (fun hc1 => ?_)
  · have hc10 := hc1; have hc1 := of_decide_eq_true hc1; have H := bT H hc1
    refine w_seq fun _ hN4 => ?_
    refine w_reg ?_
    obtain ⟨r1, hr1, H⟩ := bB H
    refine o_callp (u := .agg [[.int .i64 r1.Code], [.bool r1.Placed], [.int .i64 r1.Pos], [.bool r1.Outer], [.int .i64 r1.At]].flatten.toArray) cf131 hA rfl hI (sargassoref_None.c μ _ hI.agr  r1 hr1) rfl fun a w hz1 hI hA => 
      o_st (j := 0) [] [[.int .i64 0], [.bool false], [.int .i64 0], [.bool false], [.int .i64 0]] [[.int .i64 r1.Code], [.bool r1.Placed], [.int .i64 r1.Pos], [.bool r1.Outer], [.int .i64 r1.At]] [] sz109 rfl rfl (fl_cons (one_one rfl) (fl_cons (one_one rfl) (fl_cons (one_one rfl) (fl_cons (one_one rfl) (fl_cons (one_one rfl) fl_nil))))) hI rfl hA rfl rfl rfl rfl fun w hI => ?_
    refine o_nil ?_
    refine hN4 _ _ ?_
    refine w_ret ?_
    obtain rfl := Option.some.inj (bS H)
    exact retc Tryd.underlying109 rfl sz109 rfl hI (j := 0) rfl hA Tryd.results74 rfl ⟨_, rfl, rfl, ⟨hz1.1, hz1.2.1, hz1.2.2⟩, hI.forget0⟩
  · have hc10 := hc1; have hc1 := of_decide_eq_false hc1; have H := bF H hc1
    refine w_skip ?_
    refine hN2 _ _ ?_
    refine w_seq fun _ hN5 => ?_
    refine w_reg ?_
    refine stp hA (r_mv hA rfl) rfl fun a hA => 
      stp hA (r_mv hA rfl) rfl fun a hA => 
      stp hA (r_bldS (cs := [[.int .i64 x0], [.bool true], [.int .i64 x1], [.bool false], [.int .i64 0]].flatten.toArray) (pl := [(0, 1), (1, 1), (2, 1), (3, 1), (4, 1)]) zr109 Tryd.underlying109 ⟨rfl, sz3, rfl, sz4, rfl, sz3, rfl, sz4, rfl, sz3, trivial⟩ hA rfl (by kernel_rfl)) rfl fun a hA => 
      o_st (j := 0) [] [[.int .i64 0], [.bool false], [.int .i64 0], [.bool false], [.int .i64 0]] [[.int .i64 x0], [.bool true], [.int .i64 x1], [.bool false], [.int .i64 0]] [] sz109 rfl rfl (fl_cons (one_one rfl) (fl_cons (one_one rfl) (fl_cons (one_one rfl) (fl_cons (one_one rfl) (fl_cons (one_one rfl) fl_nil))))) hI rfl hA rfl rfl rfl rfl fun w hI => ?_
    refine o_nil ?_
    refine hN5 _ _ ?_
    refine w_ret ?_
    obtain rfl := Option.some.inj (bS H)
    exact retc Tryd.underlying109 rfl sz109 rfl hI (j := 0) rfl hA Tryd.results74 rfl ⟨_, rfl, rfl, ⟨hx0, hx1, (in_lit .i64 0 rfl)⟩, hI.forget0⟩
set_option maxRecDepth 20000 in
theorem sargassoref_Bare.c (μ : Store) (w0 : World) (hμ : Agr μ w0) (x0 : Int) (hx0 : InR .i64 x0) (r : sargassorefFault) (H : sargassoref_Bare.f x0 = some r) :
    Calls Tryd.prog 96 [.int .i64 x0].toArray w0 (fun e w' => ∃ v, e = .returned v ∧ v = .agg [[.int .i64 r.Code], [.bool r.Placed], [.int .i64 r.Pos], [.bool r.Outer], [.int .i64 r.At]].flatten.toArray ∧ sargassorefFaultW μ r ∧ Iv w0 [] μ μ [] w') := by
  refine enter Tryd.func96 rfl Tryd.ntmps96 rfl fun a hA => ?_
  have hI := Iv.start hμ
  have H := bI H
  refine w_seq fun _ hN1 => ?_
  refine w_reg ?_
  refine o_new [[.int .i64 0], [.bool false], [.int .i64 0], [.bool false], [.int .i64 0]] zr109 hI hA rfl fun g1 a w hA hI hg1 => ?_
  refine o_nil ?_
  refine hN1 _ _ ?_
  refine w_seq fun _ hN2 => ?_
  refine w_reg ?_
  refine stp hA (r_mv hA rfl) rfl fun a hA => 
    stp hA (r_bldS (cs := [[.int .i64 x0], [.bool false], [.int .i64 0], [.bool false], [.int .i64 0]].flatten.toArray) (pl := [(0, 1), (1, 1), (2, 1), (3, 1), (4, 1)]) zr109 Tryd.underlying109 ⟨rfl, sz3, rfl, sz4, rfl, sz3, rfl, sz4, rfl, sz3, trivial⟩ hA rfl (by kernel_rfl)) rfl fun a hA => 
    o_st (j := 0) [] [[.int .i64 0], [.bool false], [.int .i64 0], [.bool false], [.int .i64 0]] [[.int .i64 x0], [.bool false], [.int .i64 0], [.bool false], [.int .i64 0]] [] sz109 rfl rfl (fl_cons (one_one rfl) (fl_cons (one_one rfl) (fl_cons (one_one rfl) (fl_cons (one_one rfl) (fl_cons (one_one rfl) fl_nil))))) hI rfl hA rfl rfl rfl rfl fun w hI => ?_
  refine o_nil ?_
  refine hN2 _ _ ?_
  refine w_ret ?_
  obtain rfl := Option.some.inj (bS H)
  exact retc Tryd.underlying109 rfl sz109 rfl hI (j := 0) rfl hA Tryd.results96 rfl ⟨_, rfl, rfl, ⟨hx0, (in_lit .i64 0 rfl), (in_lit .i64 0 rfl)⟩, hI.forget0⟩
set_option maxRecDepth 20000 in
theorem sargassosee_sentinels.c (μ : Store) (w0 : World) (hμ : Agr μ w0) (hG : Gl μ) (r : List Er) (H : sargassosee_sentinels.f = some r) :
    Calls Tryd.prog 154 [].toArray w0 (fun e w' => ∃ v, e = .returned v ∧ ∃ (v0 : Value) (c0 : List Value) (μ' : Store), v = v0 ∧ Els (RErr μ') 1 r c0 ∧ Iv w0 [] μ μ' [row 34 1 v0 r.length c0] w') := by
  refine enter Tryd.func154 rfl Tryd.ntmps154 rfl fun a hA => ?_
  have hI := Iv.start hμ
  have H := bI H
  obtain ⟨e0, he0⟩ := hG.g0
  obtain ⟨e1, he1⟩ := hG.g1
  obtain ⟨e2, he2⟩ := hG.g2
  obtain ⟨e3, he3⟩ := hG.g3
  obtain ⟨e4, he4⟩ := hG.g4
  obtain ⟨e5, he5⟩ := hG.g5
  obtain ⟨e6, he6⟩ := hG.g6
  obtain ⟨e7, he7⟩ := hG.g7
  obtain ⟨e8, he8⟩ := hG.g8
  obtain ⟨e9, he9⟩ := hG.g9
  obtain ⟨e10, he10⟩ := hG.g10
  obtain ⟨e11, he11⟩ := hG.g11
  obtain ⟨e12, he12⟩ := hG.g12
  obtain ⟨e13, he13⟩ := hG.g13
  obtain ⟨e14, he14⟩ := hG.g14
  obtain ⟨e15, he15⟩ := hG.g15
  obtain ⟨e16, he16⟩ := hG.g16
  obtain ⟨e17, he17⟩ := hG.g17
  obtain ⟨e18, he18⟩ := hG.g18
  obtain ⟨e19, he19⟩ := hG.g19
  obtain ⟨e20, he20⟩ := hG.g20
  obtain ⟨e21, he21⟩ := hG.g21
  obtain ⟨e22, he22⟩ := hG.g22
  obtain ⟨e23, he23⟩ := hG.g23
  obtain ⟨e24, he24⟩ := hG.g24
  refine w_seq fun _ hN1 => ?_
  refine w_reg ?_
  refine stp hA (r_as hA rfl) rfl fun a hA => ?_
  refine o_nil ?_
  refine hN1 _ _ ?_
  refine w_seq fun _ hN2 => ?_
  refine w_reg ?_
  refine stp hA (r_ldG Tryd.underlying34 rfl hI.agr he8 hA) rfl fun a hA => 
    stp hA (r_ldG Tryd.underlying34 rfl hI.agr he0 hA) rfl fun a hA => 
    stp hA (r_ldG Tryd.underlying34 rfl hI.agr he2 hA) rfl fun a hA => 
    stp hA (r_ldG Tryd.underlying34 rfl hI.agr he1 hA) rfl fun a hA => 
    stp hA (r_ldG Tryd.underlying34 rfl hI.agr he4 hA) rfl fun a hA => 
    stp hA (r_ldG Tryd.underlying34 rfl hI.agr he5 hA) rfl fun a hA => 
    stp hA (r_ldG Tryd.underlying34 rfl hI.agr he9 hA) rfl fun a hA => 
    stp hA (r_ldG Tryd.underlying34 rfl hI.agr he10 hA) rfl fun a hA => 
    stp hA (r_ldG Tryd.underlying34 rfl hI.agr he11 hA) rfl fun a hA => 
    stp hA (r_ldG Tryd.underlying34 rfl hI.agr he12 hA) rfl fun a hA => 
    stp hA (r_ldG Tryd.underlying34 rfl hI.agr he13 hA) rfl fun a hA => 
    stp hA (r_ldG Tryd.underlying34 rfl hI.agr he14 hA) rfl fun a hA => 
    stp hA (r_ldG Tryd.underlying34 rfl hI.agr he15 hA) rfl fun a hA => 
    stp hA (r_ldG Tryd.underlying34 rfl hI.agr he3 hA) rfl fun a hA => 
    stp hA (r_ldG Tryd.underlying34 rfl hI.agr he16 hA) rfl fun a hA => 
    stp hA (r_ldG Tryd.underlying34 rfl hI.agr he17 hA) rfl fun a hA => 
    stp hA (r_ldG Tryd.underlying34 rfl hI.agr he7 hA) rfl fun a hA => 
    stp hA (r_ldG Tryd.underlying34 rfl hI.agr he18 hA) rfl fun a hA => 
    stp hA (r_ldG Tryd.underlying34 rfl hI.agr he19 hA) rfl fun a hA => 
    stp hA (r_ldG Tryd.underlying34 rfl hI.agr he20 hA) rfl fun a hA => 
    stp hA (r_ldG Tryd.underlying34 rfl hI.agr he21 hA) rfl fun a hA => 
    stp hA (r_ldG Tryd.underlying34 rfl hI.agr he6 hA) rfl fun a hA => 
    stp hA (r_ldG Tryd.underlying34 rfl hI.agr he22 hA) rfl fun a hA => 
    stp hA (r_ldG Tryd.underlying34 rfl hI.agr he23 hA) rfl fun a hA => 
    stp hA (r_ldG Tryd.underlying34 rfl hI.agr he24 hA) rfl fun a hA => ?_
  have hE1 : Els (RErr μ) 1 ([xErrEnd, xErrShape, xErrLong, xErrMany, xErrValue, xErrTwice, xErrBase, xErrRoot, xErrKnown, xErrParent, xErrInvalid, xErrTime, xErrMissing, xErrKey, xErrYoung, xErrEarly, xErrLess, xErrReward, xErrClash, xErrLimit, xErrFull, xErrRange, xErrNone, xErrWord, xErrNumber] : List Er) ([[e8]].flatten ++ ([[e0]].flatten ++ ([[e2]].flatten ++ ([[e1]].flatten ++ ([[e4]].flatten ++ ([[e5]].flatten ++ ([[e9]].flatten ++ ([[e10]].flatten ++ ([[e11]].flatten ++ ([[e12]].flatten ++ ([[e13]].flatten ++ ([[e14]].flatten ++ ([[e15]].flatten ++ ([[e3]].flatten ++ ([[e16]].flatten ++ ([[e17]].flatten ++ ([[e7]].flatten ++ ([[e18]].flatten ++ ([[e19]].flatten ++ ([[e20]].flatten ++ ([[e21]].flatten ++ ([[e6]].flatten ++ ([[e22]].flatten ++ ([[e23]].flatten ++ ([[e24]].flatten ++ ([])))))))))))))))))))))))))) := (Els.cons (c := [[e8]].flatten) ⟨_, rfl, he8⟩ rfl (Els.cons (c := [[e0]].flatten) ⟨_, rfl, he0⟩ rfl (Els.cons (c := [[e2]].flatten) ⟨_, rfl, he2⟩ rfl (Els.cons (c := [[e1]].flatten) ⟨_, rfl, he1⟩ rfl (Els.cons (c := [[e4]].flatten) ⟨_, rfl, he4⟩ rfl (Els.cons (c := [[e5]].flatten) ⟨_, rfl, he5⟩ rfl (Els.cons (c := [[e9]].flatten) ⟨_, rfl, he9⟩ rfl (Els.cons (c := [[e10]].flatten) ⟨_, rfl, he10⟩ rfl (Els.cons (c := [[e11]].flatten) ⟨_, rfl, he11⟩ rfl (Els.cons (c := [[e12]].flatten) ⟨_, rfl, he12⟩ rfl (Els.cons (c := [[e13]].flatten) ⟨_, rfl, he13⟩ rfl (Els.cons (c := [[e14]].flatten) ⟨_, rfl, he14⟩ rfl (Els.cons (c := [[e15]].flatten) ⟨_, rfl, he15⟩ rfl (Els.cons (c := [[e3]].flatten) ⟨_, rfl, he3⟩ rfl (Els.cons (c := [[e16]].flatten) ⟨_, rfl, he16⟩ rfl (Els.cons (c := [[e17]].flatten) ⟨_, rfl, he17⟩ rfl (Els.cons (c := [[e7]].flatten) ⟨_, rfl, he7⟩ rfl (Els.cons (c := [[e18]].flatten) ⟨_, rfl, he18⟩ rfl (Els.cons (c := [[e19]].flatten) ⟨_, rfl, he19⟩ rfl (Els.cons (c := [[e20]].flatten) ⟨_, rfl, he20⟩ rfl (Els.cons (c := [[e21]].flatten) ⟨_, rfl, he21⟩ rfl (Els.cons (c := [[e6]].flatten) ⟨_, rfl, he6⟩ rfl (Els.cons (c := [[e22]].flatten) ⟨_, rfl, he22⟩ rfl (Els.cons (c := [[e23]].flatten) ⟨_, rfl, he23⟩ rfl (Els.cons (c := [[e24]].flatten) ⟨_, rfl, he24⟩ rfl Els.nil)))))))))))))))))))))))))
  refine o_bsl ([[e8]].flatten ++ ([[e0]].flatten ++ ([[e2]].flatten ++ ([[e1]].flatten ++ ([[e4]].flatten ++ ([[e5]].flatten ++ ([[e9]].flatten ++ ([[e10]].flatten ++ ([[e11]].flatten ++ ([[e12]].flatten ++ ([[e13]].flatten ++ ([[e14]].flatten ++ ([[e15]].flatten ++ ([[e3]].flatten ++ ([[e16]].flatten ++ ([[e17]].flatten ++ ([[e7]].flatten ++ ([[e18]].flatten ++ ([[e19]].flatten ++ ([[e20]].flatten ++ ([[e21]].flatten ++ ([[e6]].flatten ++ ([[e22]].flatten ++ ([[e23]].flatten ++ ([[e24]].flatten ++ ([])))))))))))))))))))))))))) te34 zr34 Tryd.underlying196 hI hA rfl rfl rfl rfl ((fill_one (cells_err1 he8) rfl (by kernel_rfl)).trans ((fill_one (cells_err1 he0) rfl (by kernel_rfl)).trans ((fill_one (cells_err1 he2) rfl (by kernel_rfl)).trans ((fill_one (cells_err1 he1) rfl (by kernel_rfl)).trans ((fill_one (cells_err1 he4) rfl (by kernel_rfl)).trans ((fill_one (cells_err1 he5) rfl (by kernel_rfl)).trans ((fill_one (cells_err1 he9) rfl (by kernel_rfl)).trans ((fill_one (cells_err1 he10) rfl (by kernel_rfl)).trans ((fill_one (cells_err1 he11) rfl (by kernel_rfl)).trans ((fill_one (cells_err1 he12) rfl (by kernel_rfl)).trans ((fill_one (cells_err1 he13) rfl (by kernel_rfl)).trans ((fill_one (cells_err1 he14) rfl (by kernel_rfl)).trans ((fill_one (cells_err1 he15) rfl (by kernel_rfl)).trans ((fill_one (cells_err1 he3) rfl (by kernel_rfl)).trans ((fill_one (cells_err1 he16) rfl (by kernel_rfl)).trans ((fill_one (cells_err1 he17) rfl (by kernel_rfl)).trans ((fill_one (cells_err1 he7) rfl (by kernel_rfl)).trans ((fill_one (cells_err1 he18) rfl (by kernel_rfl)).trans ((fill_one (cells_err1 he19) rfl (by kernel_rfl)).trans ((fill_one (cells_err1 he20) rfl (by kernel_rfl)).trans ((fill_one (cells_err1 he21) rfl (by kernel_rfl)).trans ((fill_one (cells_err1 he6) rfl (by kernel_rfl)).trans ((fill_one (cells_err1 he22) rfl (by kernel_rfl)).trans ((fill_one (cells_err1 he23) rfl (by kernel_rfl)).trans ((fill_one (cells_err1 he24) rfl (by kernel_rfl)).trans (by kernel_rfl)))))))))))))))))))))))))) rfl fun g1 a w hA hI => ?_
  generalize hcs : ([[e8]].flatten ++ ([[e0]].flatten ++ ([[e2]].flatten ++ ([[e1]].flatten ++ ([[e4]].flatten ++ ([[e5]].flatten ++ ([[e9]].flatten ++ ([[e10]].flatten ++ ([[e11]].flatten ++ ([[e12]].flatten ++ ([[e13]].flatten ++ ([[e14]].flatten ++ ([[e15]].flatten ++ ([[e3]].flatten ++ ([[e16]].flatten ++ ([[e17]].flatten ++ ([[e7]].flatten ++ ([[e18]].flatten ++ ([[e19]].flatten ++ ([[e20]].flatten ++ ([[e21]].flatten ++ ([[e6]].flatten ++ ([[e22]].flatten ++ ([[e23]].flatten ++ ([[e24]].flatten ++ ([]))))))))))))))))))))))))) : List Value) = cs1 at hE1 hI
  clear hcs
  refine stp hA (r_as hA rfl) rfl fun a hA => ?_
  refine o_nil ?_
  refine hN2 _ _ ?_
  refine w_ret ?_
  obtain rfl := Option.some.inj (bS H)
  exact ret1 hA Tryd.results154 rfl ⟨_, rfl, (.slice (some ⟨g1, 0, none⟩) 25 25), cs1, μ, rfl, hE1, hI⟩
set_option maxRecDepth 20000 in
theorem sargassosee_Alike.c (μ : Store) (w0 : World) (hμ : Agr μ w0) (x0 : Er) (u0 : Value) (hx0 : ErS μ u0 x0) (x1 : Er) (u1 : Value) (hx1 : ErS μ u1 x1) (r : Bool) (H : sargassosee_Alike.f x0 x1 = some r) :
    Calls Tryd.prog 155 [u0, u1].toArray w0 (fun e w' => ∃ v, e = .returned v ∧ v = .bool r ∧ True ∧ Iv w0 [] μ μ [] w') := by
  refine enter Tryd.func155 rfl Tryd.ntmps155 rfl fun a hA => ?_
  have hI := Iv.start hμ
  have H := bI H
  refine w_seq fun _ hN1 => ?_
  refine w_reg ?_
  refine stp hA (r_as hA rfl) rfl fun a hA => ?_
  refine o_nil ?_
  refine hN1 _ _ ?_
  refine w_seq fun _ hN2 => ?_
  obtain ⟨c1, hz1, Hk1⟩ := bB H
  refine w_cut (fun a w => Fr a 20 [(0, u0), (1, u1), (4, .bool false), (10, .bool c1)] ∧ Iv w0 [] μ μ [] w) ?_ ?_
  · have H := bI hz1
    refine w_reg ?_
    refine stp hA (r_mv hA rfl) rfl fun a hA => 
      stp hA (r_eqE erF hI.agr hx0 erv_nil (.inl ⟨.inr ⟨_, rfl⟩, Er.fitR⟩) hA rfl rfl) rfl fun a hA => 
      stp hA (r_mv hA rfl) rfl fun a hA => ?_
    rcases Bool.eq_false_or_eq_true (decide (x0 = (Er.b 0))) with hc1 | hc1
    · have hc10 := hc1; have hc1 := of_decide_eq_true hc1; have H := bT H hc1
      refine o_no hA rfl rfl (by rw [hc10]; simp [vb]) rfl fun a hA => 
        o_no hA rfl rfl (by rw [hc10]; simp [vb]) rfl fun a hA => 
        stp hA (r_pick_t hA rfl hc10 rfl) rfl fun a hA => ?_
      refine o_nil ?_
      cases Option.some.inj (bS H)
      exact ⟨hA.sub ⟨rfl, rfl, rfl, rfl, trivial⟩, hI⟩
    · have hc10 := hc1; have hc1 := of_decide_eq_false hc1; have H := bF H hc1
      refine o_yes hA rfl rfl hc10 <| 
        stp hA (r_mv hA rfl) rfl fun a hA => 
        o_yes hA rfl rfl hc10 <| 
        stp hA (r_eqE erF hI.agr hx1 erv_nil (.inl ⟨.inr ⟨_, rfl⟩, Er.fitR⟩) hA rfl rfl) rfl fun a hA => 
        stp hA (r_pick_f hA rfl hc10 rfl) rfl fun a hA => ?_
      refine o_nil ?_
      cases Option.some.inj (bS H)
      exact ⟨hA.sub ⟨rfl, rfl, rfl, rfl, trivial⟩, hI⟩
  · rintro a w ⟨hA, hI⟩
    have H := Hk1
    refine w_cond hA rfl (fun hc2 => ?_) (fun hc2 => ?_)
    · have hc20 := hc2; have H := bT H hc2
      obtain ⟨c2, hz2, Hk2⟩ := bB H
      refine w_cut (fun a w => Fr a 20 [(0, u0), (1, u1), (4, .bool c2), (10, .bool c1)] ∧ Iv w0 [] μ μ [] w) ?_ ?_
      · have H := bI hz2
        refine w_reg ?_
        refine stp hA (r_mv hA rfl) rfl fun a hA => 
          stp hA (r_eqE erF hI.agr hx0 erv_nil (.inl ⟨.inr ⟨_, rfl⟩, Er.fitR⟩) hA rfl rfl) rfl fun a hA => 
          stp hA (r_mv hA rfl) rfl fun a hA => ?_
        rcases Bool.eq_false_or_eq_true (decide (x0 = (Er.b 0))) with hc3 | hc3
        · have hc30 := hc3; have hc3 := of_decide_eq_true hc3; have H := bT H hc3
          refine o_yes hA rfl rfl hc30 <| 
            stp hA (r_mv hA rfl) rfl fun a hA => 
            o_yes hA rfl rfl hc30 <| 
            stp hA (r_eqE erF hI.agr hx1 erv_nil (.inl ⟨.inr ⟨_, rfl⟩, Er.fitR⟩) hA rfl rfl) rfl fun a hA => 
            stp hA (r_pick_t hA rfl hc30 rfl) rfl fun a hA => 
            stp hA (r_as hA rfl) rfl fun a hA => ?_
          refine o_nil ?_
          cases Option.some.inj (bS H)
          exact ⟨hA.sub ⟨rfl, rfl, rfl, rfl, trivial⟩, hI⟩
        · have hc30 := hc3; have hc3 := of_decide_eq_false hc3; have H := bF H hc3
          refine o_no hA rfl rfl (by rw [hc30]; simp [vb]) rfl fun a hA => 
            o_no hA rfl rfl (by rw [hc30]; simp [vb]) rfl fun a hA => 
            stp hA (r_pick_f hA rfl hc30 rfl) rfl fun a hA => 
            stp hA (r_as hA rfl) rfl fun a hA => ?_
          refine o_nil ?_
          cases Option.some.inj (bS H)
          exact ⟨hA.sub ⟨rfl, rfl, rfl, rfl, trivial⟩, hI⟩
      · rintro a w ⟨hA, hI⟩
        have H := Hk2
        refine w_ret ?_
        obtain rfl := Option.some.inj (bS H)
        exact ret1 hA Tryd.results155 rfl ⟨_, rfl, rfl, trivial, hI.forget0⟩
    · have hc20 := hc2; have hc2 := ft hc2; have H := bF H hc2
      refine w_skip ?_
      refine hN2 _ _ ?_
      refine w_seq fun _ hN3 => ?_
      refine w_reg ?_
      refine stp hA (r_mv hA rfl) rfl fun a hA => 
        stp hA (r_mv hA rfl) rfl fun a hA => ?_
      obtain ⟨hb1, H⟩ := bG H
      refine stp hA (r_eqE erF hI.agr hx0 hx1 (.inr hb1) hA rfl rfl) rfl fun a hA => 
        stp hA (r_as hA rfl) rfl fun a hA => ?_
      refine o_nil ?_
      refine hN3 _ _ ?_
      refine w_ret ?_
      obtain rfl := Option.some.inj (bS H)
      exact ret1 hA Tryd.results155 rfl ⟨_, rfl, rfl, trivial, hI.forget0⟩
set_option maxRecDepth 20000 in
theorem sargassosee_sentinel.c (μ : Store) (w0 : World) (hμ : Agr μ w0) (x0 : Er) (u0 : Value) (hx0 : ErS μ u0 x0) (hG : Gl μ) (r : Int) (H : sargassosee_sentinel.f x0 = some r) :
    Calls Tryd.prog 148 [u0].toArray w0 (fun e w' => ∃ v, e = .returned v ∧ v = .int .i64 r ∧ InR .i64 r ∧ Iv w0 [] μ μ [] w') := by
  refine enter Tryd.func148 rfl Tryd.ntmps148 rfl fun a hA => ?_
  have hI := Iv.start hμ
  have H := bI H
  refine w_seq fun _ hN1 => ?_
  refine w_reg ?_
  refine stp hA (r_as hA rfl) rfl fun a hA => ?_
  refine o_nil ?_
  refine hN1 _ _ ?_
  refine w_seq fun _ hN2 => ?_
  refine w_reg ?_
  obtain ⟨r1, hr1, H⟩ := bB H
  refine o_call _ cf154 hA rfl (sargassosee_sentinels.c μ _ hI.agr hG r1 hr1) rfl fun v1 a w hz1 hA => ?_
  obtain ⟨_, cs1, μ1, rfl, hE1, hi1⟩ := hz1
  have hI := hI.call hi1
  refine stp hA (r_as hA rfl) rfl fun a hA => ?_
  refine o_nil ?_
  refine hN2 _ _ ?_
  refine w_seq fun _ hN3 => ?_
  refine w_seq fun _ hN4 => ?_
  refine w_reg ?_
  refine stp hA (r_as hA rfl) rfl fun a hA => ?_
  refine o_nil ?_
  refine hN4 _ _ ?_
  refine w_block ?_
  obtain ⟨z1, hz2, Hk1⟩ := bind_some H
  obtain ⟨n1, hn1⟩ := loopO_some hz2
  refine w_loop (fun n a w => ∃ (s1 : Int), loopN (sargassosee_sentinel.s0 x0 r1) n s1 = some z1 ∧ InR .i64 s1 ∧ Fr a 20 [(0, u0), (2, .int .i64 0), (3, v1), (4, .int .i64 s1)] ∧ Iv w0 [] μ μ1 [row 34 1 v1 r1.length cs1] w) n1 ⟨0, hn1, (in_lit .i64 0 rfl), hA.sub ⟨rfl, rfl, rfl, rfl, trivial⟩, hI⟩ ?_
  clear hA hI
  rintro n a w ⟨s1, hn1, ws1, hA, hI⟩
  obtain ⟨m1, rfl, H⟩ := loopN_bind hn1
  clear hn1
  refine w_seq fun _ hN5 => ?_
  refine w_seq fun _ hN6 => ?_
  refine w_reg ?_
  refine stp hA (r_mv hA rfl) rfl fun a hA => 
    stp hA (r_mv hA rfl) rfl fun a hA => ?_
  have hlen1 := Iv.row_in hI (j := 0) rfl
  refine stp hA (r_rlen (xs := 0) Tryd.underlying196 hI (j := 0) rfl hA rfl) rfl fun a hA => 
    stp hA (r_lss hA rfl rfl) rfl fun a hA => ?_
  refine o_nil ?_
  refine hN6 _ _ ?_
  refine w_cond hA rfl (fun hc1 => ?_) (fun hc1 => ?_)
  · have hc10 := hc1; have hc1 := of_decide_eq_true hc1; have H := bT H hc1
    refine w_skip ?_
    refine hN5 _ _ ?_
    refine w_seq fun _ hN7 => ?_
    refine w_block ?_
    refine w_seq fun _ hN8 => ?_
    refine w_reg ?_
    refine stp hA (r_mv hA rfl) rfl fun a hA => 
      stp hA (r_mv hA rfl) rfl fun a hA => 
      stp hA (r_mv hA rfl) rfl fun a hA => ?_
    obtain ⟨hb1, H⟩ := bG H
    refine stp hA (r_rix (j := 0) Tryd.underlying196 sz34 hI rfl hA rfl rfl hb1.1 hb1.2) rfl fun a hA => ?_
    obtain ⟨A1, _, B1, hc2, hl1, _, he1⟩ := Els.at_ hE1 (getD_some (Er.b 0) hb1.1 hb1.2)
    obtain ⟨v2, rfl, hw1⟩ := he1
    refine stp hA (r_rldQ (j := 0) (q := s1.toNat * 1) (off := 0) A1 B1 [] [] hc2 hl1 rfl Tryd.underlying34 rfl hI rfl hA rfl) rfl fun a hA => ?_
    obtain ⟨r2, hr2, H⟩ := bB H
    refine o_callp (u := .bool r2) cf155 hA rfl hI (sargassosee_Alike.c μ1 _ hI.agr x0 u0 (ErV.le (fun _ _ h => h) hi1.le hx0) (r1.getD s1.toNat (Er.b 0)) v2 hw1 r2 hr2) rfl fun a w hz3 hI hA => ?_
    refine o_nil ?_
    refine hN8 _ _ ?_
    refine w_cond hA rfl (fun hc3 => ?_) (fun hc3 => ?_)
    · have hc30 := hc3; have H := bT H hc3
      refine w_seq fun _ hN9 => ?_
      refine w_reg ?_
      refine stp hA (r_mv hA rfl) rfl fun a hA => 
        stp hA (r_add hA rfl rfl) rfl fun a hA => 
        stp hA (r_as hA rfl) rfl fun a hA => ?_
      refine o_nil ?_
      refine hN9 _ _ ?_
      refine w_ret ?_
      have H : some (IntKind.i64.wrap (101 + s1)) = some z1 := H
      obtain rfl := Option.some.inj H
      have H := Hk1
      obtain rfl := Option.some.inj (bS H)
      exact ret1 hA Tryd.results148 rfl ⟨_, rfl, rfl, (wrap_in _ _), hI.forget0⟩
    · have hc30 := hc3; have hc3 := ft hc3; have H := bF H hc3
      refine w_skip ?_
      refine hN7 _ _ ?_
      refine w_reg ?_
      refine stp hA (r_mv hA rfl) rfl fun a hA => 
        stp hA (r_add hA rfl rfl) rfl fun a hA => 
        stp hA (r_as hA rfl) rfl fun a hA => ?_
      refine o_nil ?_
      exact ⟨m1, Nat.lt_succ_self _, IntKind.i64.wrap (s1 + 1), H, (wrap_in _ _), hA.sub ⟨rfl, rfl, rfl, rfl, trivial⟩, hI⟩
  · have hc10 := hc1; have hc1 := of_decide_eq_false hc1; have H := bF H hc1
    refine w_exit rfl ?_
    refine hN3 _ _ ?_
    refine w_seq fun _ hN10 => ?_
    refine w_reg ?_
    refine stp hA (r_as hA rfl) rfl fun a hA => ?_
    refine o_nil ?_
    refine hN10 _ _ ?_
    refine w_ret ?_
    have H : some (-1) = some z1 := H
    obtain rfl := Option.some.inj H
    have H := Hk1
    obtain rfl := Option.some.inj (bS H)
    exact ret1 hA Tryd.results148 rfl ⟨_, rfl, rfl, (in_lit .i64 (-1) rfl), hI.forget0⟩
set_option maxRecDepth 20000 in
theorem sargassoref_Around.c (μ : Store) (w0 : World) (hμ : Agr μ w0) (x0 : sargassorefFault) (hx0 : sargassorefFaultW μ x0) (x1 : Int) (hx1 : InR .i64 x1) (r : sargassorefFault) (H : sargassoref_Around.f x0 x1 = some r) :
    Calls Tryd.prog 149 [.agg [[.int .i64 x0.Code], [.bool x0.Placed], [.int .i64 x0.Pos], [.bool x0.Outer], [.int .i64 x0.At]].flatten.toArray, .int .i64 x1].toArray w0 (fun e w' => ∃ v, e = .returned v ∧ v = .agg [[.int .i64 r.Code], [.bool r.Placed], [.int .i64 r.Pos], [.bool r.Outer], [.int .i64 r.At]].flatten.toArray ∧ sargassorefFaultW μ r ∧ Iv w0 [] μ μ [] w') := by
  refine enter Tryd.func149 rfl Tryd.ntmps149 rfl fun a hA => ?_
  have hI := Iv.start hμ
  have H := bI H
  refine w_seq fun _ hN1 => ?_
  refine w_reg ?_
  refine o_box [[.int .i64 x0.Code], [.bool x0.Placed], [.int .i64 x0.Pos], [.bool x0.Outer], [.int .i64 x0.At]] hI hA rfl rfl rfl fun g1 a w hA hI hg1 => 
    o_new [[.int .i64 0], [.bool false], [.int .i64 0], [.bool false], [.int .i64 0]] zr109 hI hA rfl fun g2 a w hA hI hg2 => ?_
  refine o_nil ?_
  refine hN1 _ _ ?_
  refine w_seq fun _ hN2 => ?_
  refine w_block ?_
  refine w_seq fun _ hN3 => ?_
  refine w_reg ?_
  refine stp hA (r_fd (k := 0) Tryd.underlying109 rfl sz3 hA rfl rfl) rfl fun a hA => 
    stp hA (r_ld1 (j := 1) [] [[.bool x0.Placed], [.int .i64 x0.Pos], [.bool x0.Outer], [.int .i64 x0.At]] Tryd.underlying3 rfl hI rfl hA rfl rfl) rfl fun a hA => 
    stp hA (r_eql hA rfl rfl) rfl fun a hA => 
    stp hA (r_as hA rfl) rfl fun a hA => ?_
  refine o_nil ?_
  refine hN3 _ _ ?_
  refine w_cond hA rfl (fun hc1 => ?_) (fun hc1 => ?_)
  · have hc10 := hc1; have hc1 := of_decide_eq_true hc1; have H := bT H hc1
    refine w_seq fun _ hN4 => ?_
    refine w_reg ?_
    refine stp hA (r_ldA (j := 1) [] [[.int .i64 x0.Code], [.bool x0.Placed], [.int .i64 x0.Pos], [.bool x0.Outer], [.int .i64 x0.At]] [] Tryd.underlying109 rfl sz109 rfl hI rfl hA rfl rfl) rfl fun a hA => 
      o_st (j := 0) [] [[.int .i64 0], [.bool false], [.int .i64 0], [.bool false], [.int .i64 0]] [[.int .i64 x0.Code], [.bool x0.Placed], [.int .i64 x0.Pos], [.bool x0.Outer], [.int .i64 x0.At]] [] sz109 rfl rfl (fl_cons (one_one rfl) (fl_cons (one_one rfl) (fl_cons (one_one rfl) (fl_cons (one_one rfl) (fl_cons (one_one rfl) fl_nil))))) hI rfl hA rfl rfl rfl rfl fun w hI => ?_
    refine o_nil ?_
    refine hN4 _ _ ?_
    refine w_ret ?_
    obtain rfl := Option.some.inj (bS H)
    exact retc Tryd.underlying109 rfl sz109 rfl hI (j := 0) rfl hA Tryd.results149 rfl ⟨_, rfl, rfl, ⟨hx0.1, hx0.2.1, hx0.2.2⟩, hI.forget0⟩
  · have hc10 := hc1; have hc1 := of_decide_eq_false hc1; have H := bF H hc1
    refine w_seq fun _ hN5 => ?_
    refine w_reg ?_
    refine stp hA (r_fd (k := 1) Tryd.underlying109 rfl sz4 hA rfl rfl) rfl fun a hA => 
      stp hA (r_ld1 (j := 1) [[.int .i64 x0.Code]] [[.int .i64 x0.Pos], [.bool x0.Outer], [.int .i64 x0.At]] Tryd.underlying4 rfl hI rfl hA rfl rfl) rfl fun a hA => 
      stp hA (r_not hA rfl) rfl fun a hA => 
      stp hA (r_as hA rfl) rfl fun a hA => ?_
    refine o_nil ?_
    refine hN5 _ _ ?_
    refine w_cond hA rfl (fun hc2 => ?_) (fun hc2 => ?_)
    · have hc20 := hc2; have hc2 := nT hc2; have hc2 := ft hc2; have H := bF H hc2
      refine w_seq fun _ hN6 => ?_
      refine w_reg ?_
      refine stp hA (r_fd (k := 0) Tryd.underlying109 rfl sz3 hA rfl rfl) rfl fun a hA => 
        stp hA (r_ld1 (j := 1) [] [[.bool x0.Placed], [.int .i64 x0.Pos], [.bool x0.Outer], [.int .i64 x0.At]] Tryd.underlying3 rfl hI rfl hA rfl rfl) rfl fun a hA => 
        stp hA (r_mv hA rfl) rfl fun a hA => ?_
      obtain ⟨r1, hr1, H⟩ := bB H
      refine o_callp (u := .agg [[.int .i64 r1.Code], [.bool r1.Placed], [.int .i64 r1.Pos], [.bool r1.Outer], [.int .i64 r1.At]].flatten.toArray) cf74 hA rfl hI (sargassoref_Placed.c μ _ hI.agr x0.Code hx0.1 x1 hx1 r1 hr1) rfl fun a w hz1 hI hA => 
        o_st (j := 0) [] [[.int .i64 0], [.bool false], [.int .i64 0], [.bool false], [.int .i64 0]] [[.int .i64 r1.Code], [.bool r1.Placed], [.int .i64 r1.Pos], [.bool r1.Outer], [.int .i64 r1.At]] [] sz109 rfl rfl (fl_cons (one_one rfl) (fl_cons (one_one rfl) (fl_cons (one_one rfl) (fl_cons (one_one rfl) (fl_cons (one_one rfl) fl_nil))))) hI rfl hA rfl rfl rfl rfl fun w hI => ?_
      refine o_nil ?_
      refine hN6 _ _ ?_
      refine w_ret ?_
      obtain rfl := Option.some.inj (bS H)
      exact retc Tryd.underlying109 rfl sz109 rfl hI (j := 0) rfl hA Tryd.results149 rfl ⟨_, rfl, rfl, ⟨hz1.1, hz1.2.1, hz1.2.2⟩, hI.forget0⟩
    · have hc20 := hc2; have hc2 := nF hc2; have H := bT H hc2
      refine w_skip ?_
      refine hN2 _ _ ?_
      refine w_seq fun _ hN7 => ?_
      refine w_reg ?_
      refine stp hA (r_fd (k := 3) Tryd.underlying109 rfl sz4 hA rfl rfl) rfl fun a hA => 
        o_st (j := 1) [[.int .i64 x0.Code], [.bool x0.Placed], [.int .i64 x0.Pos]] [[.bool x0.Outer]] [[.bool true]] [[.int .i64 x0.At]] sz4 rfl rfl (fl_cons (one_one rfl) fl_nil) hI rfl hA rfl rfl rfl rfl fun w hI => ?_
      refine o_nil ?_
      refine hN7 _ _ ?_
      refine w_seq fun _ hN8 => ?_
      refine w_reg ?_
      refine stp hA (r_mv hA rfl) rfl fun a hA => 
        stp hA (r_fd (k := 4) Tryd.underlying109 rfl sz3 hA rfl rfl) rfl fun a hA => 
        o_st (j := 1) [[.int .i64 x0.Code], [.bool x0.Placed], [.int .i64 x0.Pos], [.bool true]] [[.int .i64 x0.At]] [[.int .i64 x1]] [] sz3 rfl rfl (fl_cons (one_one rfl) fl_nil) hI rfl hA rfl rfl rfl rfl fun w hI => ?_
      refine o_nil ?_
      refine hN8 _ _ ?_
      refine w_seq fun _ hN9 => ?_
      refine w_reg ?_
      refine stp hA (r_ldA (j := 1) [] [[.int .i64 x0.Code], [.bool x0.Placed], [.int .i64 x0.Pos], [.bool true], [.int .i64 x1]] [] Tryd.underlying109 rfl sz109 rfl hI rfl hA rfl rfl) rfl fun a hA => 
        o_st (j := 0) [] [[.int .i64 0], [.bool false], [.int .i64 0], [.bool false], [.int .i64 0]] [[.int .i64 x0.Code], [.bool x0.Placed], [.int .i64 x0.Pos], [.bool true], [.int .i64 x1]] [] sz109 rfl rfl (fl_cons (one_one rfl) (fl_cons (one_one rfl) (fl_cons (one_one rfl) (fl_cons (one_one rfl) (fl_cons (one_one rfl) fl_nil))))) hI rfl hA rfl rfl rfl rfl fun w hI => ?_
      refine o_nil ?_
      refine hN9 _ _ ?_
      refine w_ret ?_
      obtain rfl := Option.some.inj (bS H)
      exact retc Tryd.underlying109 rfl sz109 rfl hI (j := 0) rfl hA Tryd.results149 rfl ⟨_, rfl, rfl, ⟨hx0.1, hx0.2.1, hx1⟩, hI.forget0⟩
set_option maxRecDepth 20000 in
theorem sargassosee_Fault.c (μ : Store) (w0 : World) (hμ : Agr μ w0) (x0 : Er) (u0 : Value) (hx0 : ErS μ u0 x0) (hG : Gl μ) (r : sargassorefFault) (H : sargassosee_Fault.f x0 = some r) :
    Calls Tryd.prog 130 [u0].toArray w0 (fun e w' => ∃ v, e = .returned v ∧ v = .agg [[.int .i64 r.Code], [.bool r.Placed], [.int .i64 r.Pos], [.bool r.Outer], [.int .i64 r.At]].flatten.toArray ∧ sargassorefFaultW μ r ∧ Iv w0 [] μ μ [] w') := by
  refine enter Tryd.func130 rfl Tryd.ntmps130 rfl fun a hA => ?_
  have hI := Iv.start hμ
  have H := bI H
  refine w_seq fun _ hN1 => ?_
  refine w_reg ?_
  refine o_new [[.int .i64 0], [.bool false], [.int .i64 0], [.bool false], [.int .i64 0]] zr109 hI hA rfl fun g1 a w hA hI hg1 => ?_
  refine o_nil ?_
  refine hN1 _ _ ?_
  refine w_seq fun _ hN2 => ?_
  refine w_seq fun _ hN3 => ?_
  refine w_reg ?_
  refine stp hA (r_mv hA rfl) rfl fun a hA => 
    stp hA (r_eqE erF hI.agr hx0 erv_nil (.inl ⟨.inr ⟨_, rfl⟩, Er.fitR⟩) hA rfl rfl) rfl fun a hA => ?_
  refine o_nil ?_
  refine hN3 _ _ ?_
  refine w_cond hA rfl (fun hc1 => ?_) (fun hc1 => ?_)
  · have hc10 := hc1; have hc1 := of_decide_eq_true hc1; have H := bT H hc1
    refine w_seq fun _ hN4 => ?_
    refine w_reg ?_
    obtain ⟨r1, hr1, H⟩ := bB H
    refine o_callp (u := .agg [[.int .i64 r1.Code], [.bool r1.Placed], [.int .i64 r1.Pos], [.bool r1.Outer], [.int .i64 r1.At]].flatten.toArray) cf131 hA rfl hI (sargassoref_None.c μ _ hI.agr  r1 hr1) rfl fun a w hz1 hI hA => 
      o_st (j := 0) [] [[.int .i64 0], [.bool false], [.int .i64 0], [.bool false], [.int .i64 0]] [[.int .i64 r1.Code], [.bool r1.Placed], [.int .i64 r1.Pos], [.bool r1.Outer], [.int .i64 r1.At]] [] sz109 rfl rfl (fl_cons (one_one rfl) (fl_cons (one_one rfl) (fl_cons (one_one rfl) (fl_cons (one_one rfl) (fl_cons (one_one rfl) fl_nil))))) hI rfl hA rfl rfl rfl rfl fun w hI => ?_
    refine o_nil ?_
    refine hN4 _ _ ?_
    refine w_ret ?_
    obtain rfl := Option.some.inj (bS H)
    exact retc Tryd.underlying109 rfl sz109 rfl hI (j := 0) rfl hA Tryd.results130 rfl ⟨_, rfl, rfl, ⟨hz1.1, hz1.2.1, hz1.2.2⟩, hI.forget0⟩
  · have hc10 := hc1; have hc1 := of_decide_eq_false hc1; have H := bF H hc1
    refine w_skip ?_
    refine hN2 _ _ ?_
    refine w_seq fun _ hN5 => ?_
    refine w_reg ?_
    refine stp hA (r_mv hA rfl) rfl fun a hA => 
      stp hA (r_asP (by decide) Tryd.underlying168 zrA hx0 hA rfl) rfl fun a hA => 
      stp hA (r_mv hA rfl) rfl fun a hA => 
      stp hA (r_extr (vs := [aP 168 u0, .bool x0.isP]) hA rfl rfl) rfl fun a hA => 
      stp hA (r_extr (vs := [aP 168 u0, .bool x0.isP]) hA rfl rfl) rfl fun a hA => 
      stp hA (r_as hA rfl) rfl fun a hA => 
      stp hA (r_as hA rfl) rfl fun a hA => ?_
    refine o_nil ?_
    refine hN5 _ _ ?_
    refine w_seq fun _ hN6 => ?_
    refine w_seq fun _ hN7 => ?_
    refine w_reg ?_
    refine stp hA (r_mv hA rfl) rfl fun a hA => 
      stp hA (r_not hA rfl) rfl fun a hA => ?_
    refine o_nil ?_
    refine hN7 _ _ ?_
    refine w_cond hA rfl (fun hc2 => ?_) (fun hc2 => ?_)
    · have hc20 := hc2; have hc2 := nT hc2; have hc2 := ft hc2; have H := bF H hc2; have hc2P : x0.isP = false := by simpa using hc20
      refine w_seq fun _ hN8 => ?_
      refine w_reg ?_
      refine stp hA (r_mv hA rfl) rfl fun a hA => ?_
      obtain ⟨r2, hr2, H⟩ := bB H
      refine o_callp (u := .int .i64 r2) cf148 hA rfl hI (sargassosee_sentinel.c μ _ hI.agr x0 u0 hx0 hG r2 hr2) rfl fun a w hz2 hI hA => ?_
      obtain ⟨r3, hr3, H⟩ := bB H
      refine o_callp (u := .agg [[.int .i64 r3.Code], [.bool r3.Placed], [.int .i64 r3.Pos], [.bool r3.Outer], [.int .i64 r3.At]].flatten.toArray) cf96 hA rfl hI (sargassoref_Bare.c μ _ hI.agr r2 hz2 r3 hr3) rfl fun a w hz3 hI hA => 
        o_st (j := 0) [] [[.int .i64 0], [.bool false], [.int .i64 0], [.bool false], [.int .i64 0]] [[.int .i64 r3.Code], [.bool r3.Placed], [.int .i64 r3.Pos], [.bool r3.Outer], [.int .i64 r3.At]] [] sz109 rfl rfl (fl_cons (one_one rfl) (fl_cons (one_one rfl) (fl_cons (one_one rfl) (fl_cons (one_one rfl) (fl_cons (one_one rfl) fl_nil))))) hI rfl hA rfl rfl rfl rfl fun w hI => ?_
      refine o_nil ?_
      refine hN8 _ _ ?_
      refine w_ret ?_
      obtain rfl := Option.some.inj (bS H)
      exact retc Tryd.underlying109 rfl sz109 rfl hI (j := 0) rfl hA Tryd.results130 rfl ⟨_, rfl, rfl, ⟨hz3.1, hz3.2.1, hz3.2.2⟩, hI.forget0⟩
    · have hc20 := hc2; have hc2 := nF hc2; have H := bT H hc2; have hc2P : x0.isP = true := by simpa using hc20
      refine w_skip ?_
      refine hN6 _ _ ?_
      refine w_seq fun _ hN9 => ?_
      obtain ⟨g2, v1, hv1, hat1, hw1, hE1⟩ := ErV.isP hx0 hc2P
      rw [hv1] at hA
      obtain ⟨c1, hz4, Hk1⟩ := bB H
      refine w_cut (fun a w => Fr a 75 [(0, u0), (2, .pointer (some ⟨g1, 0, none⟩)), (3, .pointer (some ⟨g2, 0, none⟩)), (4, .bool x0.isP), (8, .bool (decide (x0 = (Er.b 0)))), (16, .bool (!x0.isP)), (28, .bool c1)] ∧ Iv w0 [] μ μ [cel g1 [[.int .i64 0], [.bool false], [.int .i64 0], [.bool false], [.int .i64 0]] 109] w) ?_ ?_
      · have H := bI hz4
        refine w_reg ?_
        refine stp hA (r_mv hA rfl) rfl fun a hA => 
          stp hA (r_ptrnil_eql Tryd.underlying168 hA rfl rfl) rfl fun a hA => 
          stp hA (r_mv hA rfl) rfl fun a hA => 
          o_yes hA rfl rfl rfl <| 
          stp hA (r_mv hA rfl) rfl fun a hA => 
          o_yes hA rfl rfl rfl <| 
          stp hA (r_nilc hA rfl) rfl fun a hA => 
          o_yes hA rfl rfl rfl <| 
          stp hA (r_fd (k := 0 + 1) Tryd.underlying170 rfl sz34 hA rfl rfl) rfl fun a hA => 
          o_yes hA rfl rfl rfl <| 
          stp hA (r_ldm1 [[.int .i64 x0.pos]] [] Tryd.underlying34 rfl hI.agr hat1 hA rfl rfl) rfl fun a hA => 
          o_yes hA rfl rfl rfl <| 
          stp hA (r_eqE erF hI.agr hE1 erv_nil (.inl ⟨.inr ⟨_, rfl⟩, Er.fitR⟩) hA rfl rfl) rfl fun a hA => 
          stp hA (r_pick_f hA rfl rfl rfl) rfl fun a hA => ?_
        refine o_nil ?_
        cases Option.some.inj (bS H)
        exact ⟨hA.sub ⟨rfl, rfl, rfl, rfl, rfl, rfl, rfl, trivial⟩, hI⟩
      · rintro a w ⟨hA, hI⟩
        have H := Hk1
        refine w_cond hA rfl (fun hc3 => ?_) (fun hc3 => ?_)
        · have hc30 := hc3; have H := bT H hc3
          refine w_seq fun _ hN10 => ?_
          refine w_reg ?_
          obtain ⟨r4, hr4, H⟩ := bB H
          refine o_callp (u := .agg [[.int .i64 r4.Code], [.bool r4.Placed], [.int .i64 r4.Pos], [.bool r4.Outer], [.int .i64 r4.At]].flatten.toArray) cf96 hA rfl hI (sargassoref_Bare.c μ _ hI.agr (-1) (in_lit .i64 (-1) rfl) r4 hr4) rfl fun a w hz5 hI hA => 
            o_st (j := 0) [] [[.int .i64 0], [.bool false], [.int .i64 0], [.bool false], [.int .i64 0]] [[.int .i64 r4.Code], [.bool r4.Placed], [.int .i64 r4.Pos], [.bool r4.Outer], [.int .i64 r4.At]] [] sz109 rfl rfl (fl_cons (one_one rfl) (fl_cons (one_one rfl) (fl_cons (one_one rfl) (fl_cons (one_one rfl) (fl_cons (one_one rfl) fl_nil))))) hI rfl hA rfl rfl rfl rfl fun w hI => ?_
          refine o_nil ?_
          refine hN10 _ _ ?_
          refine w_ret ?_
          obtain rfl := Option.some.inj (bS H)
          exact retc Tryd.underlying109 rfl sz109 rfl hI (j := 0) rfl hA Tryd.results130 rfl ⟨_, rfl, rfl, ⟨hz5.1, hz5.2.1, hz5.2.2⟩, hI.forget0⟩
        · have hc30 := hc3; have hc3 := ft hc3; have H := bF H hc3
          refine w_skip ?_
          refine hN9 _ _ ?_
          refine w_seq fun _ hN11 => ?_
          refine w_reg ?_
          refine stp hA (r_mv hA rfl) rfl fun a hA => 
            stp hA (r_nilc hA rfl) rfl fun a hA => 
            stp hA (r_fd (k := 0 + 1) Tryd.underlying170 rfl sz34 hA rfl rfl) rfl fun a hA => 
            stp hA (r_ldm1 [[.int .i64 x0.pos]] [] Tryd.underlying34 rfl hI.agr hat1 hA rfl rfl) rfl fun a hA => 
            stp hA (r_asP (by decide) Tryd.underlying168 zrA hE1 hA rfl) rfl fun a hA => 
            stp hA (r_mv hA rfl) rfl fun a hA => 
            stp hA (r_extr (vs := [aP 168 v1, .bool x0.err.isP]) hA rfl rfl) rfl fun a hA => 
            stp hA (r_extr (vs := [aP 168 v1, .bool x0.err.isP]) hA rfl rfl) rfl fun a hA => 
            stp hA (r_as hA rfl) rfl fun a hA => 
            stp hA (r_as hA rfl) rfl fun a hA => ?_
          refine o_nil ?_
          refine hN11 _ _ ?_
          refine w_seq fun _ hN12 => ?_
          refine w_seq fun _ hN13 => ?_
          refine w_reg ?_
          refine stp hA (r_mv hA rfl) rfl fun a hA => 
            stp hA (r_not hA rfl) rfl fun a hA => ?_
          refine o_nil ?_
          refine hN13 _ _ ?_
          refine w_cond hA rfl (fun hc4 => ?_) (fun hc4 => ?_)
          · have hc40 := hc4; have hc4 := nT hc4; have hc4 := ft hc4; have H := bF H hc4; have hc4P : x0.err.isP = false := by simpa using hc40
            refine w_seq fun _ hN14 => ?_
            refine w_anyS [] mo (fun w (h : Iv w0 [] μ μ [cel g1 [[.int .i64 0], [.bool false], [.int .i64 0], [.bool false], [.int .i64 0]] 109] w) => (h.sel [] (by decide) rfl : Iv w0 [] μ μ [] w)) hI fun w hI => ?_
            refine g_easy (i := 0) hA rfl rfl (by kernel_rfl) (.inr (hI.sel [] (by decide) rfl)) (fun _ => r_mv hA rfl) rfl fun a hA => ?_
            refine g_easy (i := 1) hA rfl rfl (by kernel_rfl) (.inr (hI.sel [] (by decide) rfl)) (fun _ => r_nilc hA rfl) rfl fun a hA => ?_
            refine g_easy (i := 2) hA rfl rfl (by kernel_rfl) (.inr (hI.sel [] (by decide) rfl)) (fun _ => r_fd (k := 0 + 1) Tryd.underlying170 rfl sz34 hA rfl rfl) rfl fun a hA => ?_
            refine g_take (i := 3) hA rfl rfl (by kernel_rfl) (hI.sel [] (by decide) rfl) (fun w hI => r_ldm1 [[.int .i64 x0.pos]] [] Tryd.underlying34 rfl hI.agr hat1 hA rfl rfl) rfl fun a hA => ?_
            refine g_easy (i := 5) hA rfl rfl (by kernel_rfl) (.inr (hI.sel [] (by decide) rfl)) (fun _ => r_mv hA rfl) rfl fun a hA => ?_
            refine g_easy (i := 6) hA rfl rfl (by kernel_rfl) (.inr (hI.sel [] (by decide) rfl)) (fun _ => r_nilc hA rfl) rfl fun a hA => ?_
            refine g_easy (i := 7) hA rfl rfl (by kernel_rfl) (.inr (hI.sel [] (by decide) rfl)) (fun _ => r_fd (k := 0) Tryd.underlying170 rfl sz3 hA rfl rfl) rfl fun a hA => ?_
            refine g_take (i := 8) hA rfl rfl (by kernel_rfl) (hI.sel [] (by decide) rfl) (fun w hI => r_ldm1 [] [[v1]] Tryd.underlying3 rfl hI.agr hat1 hA rfl rfl) rfl fun a hA => ?_
            refine g_forced (i := 4) rfl (by kernel_rfl) ?_
            obtain ⟨r5, hr5, H⟩ := bB H
            refine o_callp (u := .int .i64 r5) cf148 hA rfl hI (sargassosee_sentinel.c μ _ hI.agr x0.err v1 hE1 hG r5 hr5) rfl fun a w hz6 hI hA => ?_
            refine o_nil ?_
            refine ⟨(.inr (hI.sel [] (by decide) rfl)), ?_⟩
            refine g_forced (i := 9) rfl (by kernel_rfl) ?_
            obtain ⟨r6, hr6, H⟩ := bB H
            refine o_callp (u := .agg [[.int .i64 r6.Code], [.bool r6.Placed], [.int .i64 r6.Pos], [.bool r6.Outer], [.int .i64 r6.At]].flatten.toArray) cf74 hA rfl hI (sargassoref_Placed.c μ _ hI.agr r5 hz6 x0.pos hw1 r6 hr6) rfl fun a w hz7 hI hA => ?_
            refine o_nil ?_
            refine ⟨(.inr (hI.sel [] (by decide) rfl)), ?_⟩
            refine g_forced (i := 10) rfl (by kernel_rfl) ?_
            refine o_st (j := 0) [] [[.int .i64 0], [.bool false], [.int .i64 0], [.bool false], [.int .i64 0]] [[.int .i64 r6.Code], [.bool r6.Placed], [.int .i64 r6.Pos], [.bool r6.Outer], [.int .i64 r6.At]] [] sz109 rfl rfl (fl_cons (one_one rfl) (fl_cons (one_one rfl) (fl_cons (one_one rfl) (fl_cons (one_one rfl) (fl_cons (one_one rfl) fl_nil))))) hI rfl hA rfl rfl rfl rfl fun w hI => ?_
            refine o_nil ?_
            refine ⟨(.inr (hI.sel [] (by decide) rfl)), ?_⟩
            refine g_nil (by kernel_rfl) ?_
            refine hN14 _ _ ?_
            refine w_ret ?_
            obtain rfl := Option.some.inj (bS H)
            exact retc Tryd.underlying109 rfl sz109 rfl hI (j := 0) rfl hA Tryd.results130 rfl ⟨_, rfl, rfl, ⟨hz7.1, hz7.2.1, hz7.2.2⟩, hI.forget0⟩
          · have hc40 := hc4; have hc4 := nF hc4; have H := bT H hc4; have hc4P : x0.err.isP = true := by simpa using hc40
            refine w_skip ?_
            refine hN12 _ _ ?_
            refine w_seq fun _ hN15 => ?_
            obtain ⟨g3, v2, hv2, hat2, hw2, hE2⟩ := ErV.isP hE1 hc4P
            rw [hv2] at hA
            obtain ⟨c2, hz8, Hk2⟩ := bB H
            refine w_cut (fun a w => Fr a 75 [(0, u0), (2, .pointer (some ⟨g1, 0, none⟩)), (3, .pointer (some ⟨g2, 0, none⟩)), (4, .bool x0.isP), (5, .pointer (some ⟨g3, 0, none⟩)), (6, .bool x0.err.isP), (8, .bool (decide (x0 = (Er.b 0)))), (16, .bool (!x0.isP)), (28, .bool c1), (39, .bool (!x0.err.isP)), (58, .bool c2)] ∧ Iv w0 [] μ μ [cel g1 [[.int .i64 0], [.bool false], [.int .i64 0], [.bool false], [.int .i64 0]] 109] w) ?_ ?_
            · have H := bI hz8
              refine w_reg ?_
              refine stp hA (r_mv hA rfl) rfl fun a hA => 
                stp hA (r_ptrnil_eql Tryd.underlying168 hA rfl rfl) rfl fun a hA => 
                stp hA (r_mv hA rfl) rfl fun a hA => 
                o_yes hA rfl rfl rfl <| 
                stp hA (r_mv hA rfl) rfl fun a hA => 
                o_yes hA rfl rfl rfl <| 
                stp hA (r_nilc hA rfl) rfl fun a hA => 
                o_yes hA rfl rfl rfl <| 
                stp hA (r_fd (k := 0 + 1) Tryd.underlying170 rfl sz34 hA rfl rfl) rfl fun a hA => 
                o_yes hA rfl rfl rfl <| 
                stp hA (r_ldm1 [[.int .i64 x0.err.pos]] [] Tryd.underlying34 rfl hI.agr hat2 hA rfl rfl) rfl fun a hA => 
                o_yes hA rfl rfl rfl <| 
                stp hA (r_eqE erF hI.agr hE2 erv_nil (.inl ⟨.inr ⟨_, rfl⟩, Er.fitR⟩) hA rfl rfl) rfl fun a hA => 
                stp hA (r_pick_f hA rfl rfl rfl) rfl fun a hA => ?_
              refine o_nil ?_
              cases Option.some.inj (bS H)
              exact ⟨hA.sub ⟨rfl, rfl, rfl, rfl, rfl, rfl, rfl, rfl, rfl, rfl, rfl, trivial⟩, hI⟩
            · rintro a w ⟨hA, hI⟩
              have H := Hk2
              refine w_cond hA rfl (fun hc5 => ?_) (fun hc5 => ?_)
              · have hc50 := hc5; have H := bT H hc5
                refine w_seq fun _ hN16 => ?_
                refine w_reg ?_
                obtain ⟨r7, hr7, H⟩ := bB H
                refine o_callp (u := .agg [[.int .i64 r7.Code], [.bool r7.Placed], [.int .i64 r7.Pos], [.bool r7.Outer], [.int .i64 r7.At]].flatten.toArray) cf96 hA rfl hI (sargassoref_Bare.c μ _ hI.agr (-1) (in_lit .i64 (-1) rfl) r7 hr7) rfl fun a w hz9 hI hA => 
                  o_st (j := 0) [] [[.int .i64 0], [.bool false], [.int .i64 0], [.bool false], [.int .i64 0]] [[.int .i64 r7.Code], [.bool r7.Placed], [.int .i64 r7.Pos], [.bool r7.Outer], [.int .i64 r7.At]] [] sz109 rfl rfl (fl_cons (one_one rfl) (fl_cons (one_one rfl) (fl_cons (one_one rfl) (fl_cons (one_one rfl) (fl_cons (one_one rfl) fl_nil))))) hI rfl hA rfl rfl rfl rfl fun w hI => ?_
                refine o_nil ?_
                refine hN16 _ _ ?_
                refine w_ret ?_
                obtain rfl := Option.some.inj (bS H)
                exact retc Tryd.underlying109 rfl sz109 rfl hI (j := 0) rfl hA Tryd.results130 rfl ⟨_, rfl, rfl, ⟨hz9.1, hz9.2.1, hz9.2.2⟩, hI.forget0⟩
              · have hc50 := hc5; have hc5 := ft hc5; have H := bF H hc5
                refine w_skip ?_
                refine hN15 _ _ ?_
                refine w_seq fun _ hN17 => ?_
                refine w_anyS [] mo (fun w (h : Iv w0 [] μ μ [cel g1 [[.int .i64 0], [.bool false], [.int .i64 0], [.bool false], [.int .i64 0]] 109] w) => (h.sel [] (by decide) rfl : Iv w0 [] μ μ [] w)) hI fun w hI => ?_
                refine g_easy (i := 0) hA rfl rfl (by kernel_rfl) (.inr (hI.sel [] (by decide) rfl)) (fun _ => r_mv hA rfl) rfl fun a hA => ?_
                refine g_easy (i := 1) hA rfl rfl (by kernel_rfl) (.inr (hI.sel [] (by decide) rfl)) (fun _ => r_nilc hA rfl) rfl fun a hA => ?_
                refine g_easy (i := 2) hA rfl rfl (by kernel_rfl) (.inr (hI.sel [] (by decide) rfl)) (fun _ => r_fd (k := 0 + 1) Tryd.underlying170 rfl sz34 hA rfl rfl) rfl fun a hA => ?_
                refine g_take (i := 3) hA rfl rfl (by kernel_rfl) (hI.sel [] (by decide) rfl) (fun w hI => r_ldm1 [[.int .i64 x0.err.pos]] [] Tryd.underlying34 rfl hI.agr hat2 hA rfl rfl) rfl fun a hA => ?_
                refine g_easy (i := 5) hA rfl rfl (by kernel_rfl) (.inr (hI.sel [] (by decide) rfl)) (fun _ => r_mv hA rfl) rfl fun a hA => ?_
                refine g_easy (i := 6) hA rfl rfl (by kernel_rfl) (.inr (hI.sel [] (by decide) rfl)) (fun _ => r_nilc hA rfl) rfl fun a hA => ?_
                refine g_easy (i := 7) hA rfl rfl (by kernel_rfl) (.inr (hI.sel [] (by decide) rfl)) (fun _ => r_fd (k := 0) Tryd.underlying170 rfl sz3 hA rfl rfl) rfl fun a hA => ?_
                refine g_take (i := 8) hA rfl rfl (by kernel_rfl) (hI.sel [] (by decide) rfl) (fun w hI => r_ldm1 [] [[v2]] Tryd.underlying3 rfl hI.agr hat2 hA rfl rfl) rfl fun a hA => ?_
                refine g_easy (i := 10) hA rfl rfl (by kernel_rfl) (.inr (hI.sel [] (by decide) rfl)) (fun _ => r_mv hA rfl) rfl fun a hA => ?_
                refine g_easy (i := 11) hA rfl rfl (by kernel_rfl) (.inr (hI.sel [] (by decide) rfl)) (fun _ => r_nilc hA rfl) rfl fun a hA => ?_
                refine g_easy (i := 12) hA rfl rfl (by kernel_rfl) (.inr (hI.sel [] (by decide) rfl)) (fun _ => r_fd (k := 0) Tryd.underlying170 rfl sz3 hA rfl rfl) rfl fun a hA => ?_
                refine g_take (i := 13) hA rfl rfl (by kernel_rfl) (hI.sel [] (by decide) rfl) (fun w hI => r_ldm1 [] [[v1]] Tryd.underlying3 rfl hI.agr hat1 hA rfl rfl) rfl fun a hA => ?_
                refine g_forced (i := 4) rfl (by kernel_rfl) ?_
                obtain ⟨r8, hr8, H⟩ := bB H
                refine o_callp (u := .int .i64 r8) cf148 hA rfl hI (sargassosee_sentinel.c μ _ hI.agr x0.err.err v2 hE2 hG r8 hr8) rfl fun a w hz10 hI hA => ?_
                refine o_nil ?_
                refine ⟨(.inr (hI.sel [] (by decide) rfl)), ?_⟩
                refine g_forced (i := 9) rfl (by kernel_rfl) ?_
                obtain ⟨r9, hr9, H⟩ := bB H
                refine o_callp (u := .agg [[.int .i64 r9.Code], [.bool r9.Placed], [.int .i64 r9.Pos], [.bool r9.Outer], [.int .i64 r9.At]].flatten.toArray) cf74 hA rfl hI (sargassoref_Placed.c μ _ hI.agr r8 hz10 x0.err.pos hw2 r9 hr9) rfl fun a w hz11 hI hA => ?_
                refine o_nil ?_
                refine ⟨(.inr (hI.sel [] (by decide) rfl)), ?_⟩
                refine g_forced (i := 14) rfl (by kernel_rfl) ?_
                obtain ⟨r10, hr10, H⟩ := bB H
                refine o_callp (u := .agg [[.int .i64 r10.Code], [.bool r10.Placed], [.int .i64 r10.Pos], [.bool r10.Outer], [.int .i64 r10.At]].flatten.toArray) cf149 hA rfl hI (sargassoref_Around.c μ _ hI.agr r9 ⟨hz11.1, hz11.2.1, hz11.2.2⟩ x0.pos hw1 r10 hr10) rfl fun a w hz12 hI hA => ?_
                refine o_nil ?_
                refine ⟨(.inr (hI.sel [] (by decide) rfl)), ?_⟩
                refine g_forced (i := 15) rfl (by kernel_rfl) ?_
                refine o_st (j := 0) [] [[.int .i64 0], [.bool false], [.int .i64 0], [.bool false], [.int .i64 0]] [[.int .i64 r10.Code], [.bool r10.Placed], [.int .i64 r10.Pos], [.bool r10.Outer], [.int .i64 r10.At]] [] sz109 rfl rfl (fl_cons (one_one rfl) (fl_cons (one_one rfl) (fl_cons (one_one rfl) (fl_cons (one_one rfl) (fl_cons (one_one rfl) fl_nil))))) hI rfl hA rfl rfl rfl rfl fun w hI => ?_
                refine o_nil ?_
                refine ⟨(.inr (hI.sel [] (by decide) rfl)), ?_⟩
                refine g_nil (by kernel_rfl) ?_
                refine hN17 _ _ ?_
                refine w_ret ?_
                obtain rfl := Option.some.inj (bS H)
                exact retc Tryd.underlying109 rfl sz109 rfl hI (j := 0) rfl hA Tryd.results130 rfl ⟨_, rfl, rfl, ⟨hz12.1, hz12.2.1, hz12.2.2⟩, hI.forget0⟩
set_option maxRecDepth 20000 in
theorem sargassosee_Same.c (μ : Store) (w0 : World) (hμ : Agr μ w0) (x0 : Er) (u0 : Value) (hx0 : ErS μ u0 x0) (x1 : sargassorefFault) (hx1 : sargassorefFaultW μ x1) (hG : Gl μ) (r : Bool) (H : sargassosee_Same.f x0 x1 = some r) :
    Calls Tryd.prog 73 [u0, .agg [[.int .i64 x1.Code], [.bool x1.Placed], [.int .i64 x1.Pos], [.bool x1.Outer], [.int .i64 x1.At]].flatten.toArray].toArray w0 (fun e w' => ∃ v, e = .returned v ∧ v = .bool r ∧ True ∧ Iv w0 [] μ μ [] w') := by
  refine enter Tryd.func73 rfl Tryd.ntmps73 rfl fun a hA => ?_
  have hI := Iv.start hμ
  have H := bI H
  refine w_seq fun _ hN1 => ?_
  refine w_reg ?_
  refine o_box [[.int .i64 x1.Code], [.bool x1.Placed], [.int .i64 x1.Pos], [.bool x1.Outer], [.int .i64 x1.At]] hI hA rfl rfl rfl fun g1 a w hA hI hg1 => 
    stp hA (r_as hA rfl) rfl fun a hA => ?_
  refine o_nil ?_
  refine hN1 _ _ ?_
  refine w_seq fun _ hN2 => ?_
  refine w_any [] mo hI fun w hI => ?_
  refine g_easy (i := 0) hA rfl rfl (by kernel_rfl) (.inr hI) (fun _ => r_mv hA rfl) rfl fun a hA => ?_
  refine g_take (i := 2) hA rfl rfl (by kernel_rfl) hI (fun w hI => r_ldA (j := 0) [] [[.int .i64 x1.Code], [.bool x1.Placed], [.int .i64 x1.Pos], [.bool x1.Outer], [.int .i64 x1.At]] [] Tryd.underlying109 rfl sz109 rfl hI rfl hA rfl rfl) rfl fun a hA => ?_
  refine g_forced (i := 1) rfl (by kernel_rfl) ?_
  obtain ⟨r1, hr1, H⟩ := bB H
  refine o_callp (u := .agg [[.int .i64 r1.Code], [.bool r1.Placed], [.int .i64 r1.Pos], [.bool r1.Outer], [.int .i64 r1.At]].flatten.toArray) cf130 hA rfl hI (sargassosee_Fault.c μ _ hI.agr x0 u0 hx0 hG r1 hr1) rfl fun a w hz1 hI hA => ?_
  refine o_nil ?_
  refine ⟨(.inr hI), ?_⟩
  refine g_forced (i := 3) rfl (by kernel_rfl) ?_
  obtain ⟨r2, hr2, H⟩ := bB H
  refine o_callp (u := .bool r2) cf129 hA rfl hI (sargassoref_SameFault.c μ _ hI.agr r1 ⟨hz1.1, hz1.2.1, hz1.2.2⟩ x1 ⟨hx1.1, hx1.2.1, hx1.2.2⟩ r2 hr2) rfl fun a w hz2 hI hA => ?_
  refine o_nil ?_
  refine ⟨(.inr hI), ?_⟩
  refine g_easy (i := 4) hA rfl rfl (by kernel_rfl) (.inr hI) (fun _ => r_as hA rfl) rfl fun a hA => ?_
  refine g_nil (by kernel_rfl) ?_
  refine hN2 _ _ ?_
  refine w_ret ?_
  obtain rfl := Option.some.inj (bS H)
  exact ret1 hA Tryd.results73 rfl ⟨_, rfl, rfl, trivial, hI.forget0⟩
set_option maxRecDepth 20000 in
theorem sargassosee_Is.c (μ : Store) (w0 : World) (hμ : Agr μ w0) (x0 : Er) (u0 : Value) (hx0 : ErS μ u0 x0) (x1 : Int) (hx1 : InR .i64 x1) (hG : Gl μ) (r : Bool) (H : sargassosee_Is.f x0 x1 = some r) :
    Calls Tryd.prog 31 [u0, .int .i64 x1].toArray w0 (fun e w' => ∃ v, e = .returned v ∧ v = .bool r ∧ True ∧ Iv w0 [] μ μ [] w') := by
  refine enter Tryd.func31 rfl Tryd.ntmps31 rfl fun a hA => ?_
  have hI := Iv.start hμ
  have H := bI H
  refine w_seq fun _ hN1 => ?_
  refine w_reg ?_
  refine stp hA (r_as hA rfl) rfl fun a hA => ?_
  refine o_nil ?_
  refine hN1 _ _ ?_
  refine w_seq fun _ hN2 => ?_
  refine w_reg ?_
  refine stp hA (r_mv hA rfl) rfl fun a hA => 
    stp hA (r_mv hA rfl) rfl fun a hA => ?_
  obtain ⟨r1, hr1, H⟩ := bB H
  refine o_callp (u := .agg [[.int .i64 r1.Code], [.bool r1.Placed], [.int .i64 r1.Pos], [.bool r1.Outer], [.int .i64 r1.At]].flatten.toArray) cf96 hA rfl hI (sargassoref_Bare.c μ _ hI.agr x1 hx1 r1 hr1) rfl fun a w hz1 hI hA => ?_
  obtain ⟨r2, hr2, H⟩ := bB H
  refine o_callp (u := .bool r2) cf73 hA rfl hI (sargassosee_Same.c μ _ hI.agr x0 u0 hx0 r1 ⟨hz1.1, hz1.2.1, hz1.2.2⟩ hG r2 hr2) rfl fun a w hz2 hI hA => 
    stp hA (r_as hA rfl) rfl fun a hA => ?_
  refine o_nil ?_
  refine hN2 _ _ ?_
  refine w_ret ?_
  obtain rfl := Option.some.inj (bS H)
  exact ret1 hA Tryd.results31 rfl ⟨_, rfl, rfl, trivial, hI.forget0⟩
end Go.Proofs.YtpeelghbhihgkaaDoor.T
namespace Go.Proofs.YtpeelghbhihgkaaDoor.T
open Go Go.Proofs Go.Proofs.YtpeelghbhihgkaaDoor.K
set_option linter.unusedVariables false
set_option linter.unusedSimpArgs false
noncomputable def compact_Len.f (x0 : Int) : Option Int := (if x0 < 253 then some 1 else (if x0 < 65536 then some 3 else (if x0 < 4294967296 then some 5 else some 9)))
def bytes_Clone.f (x0 : List Int) : Option (List Int) := if x0.length ≤ 140737488355328 then some x0 else none
noncomputable def compact_number.s0 (x2 : Int) : ((List Int) × Int × Int) → Option (((List Int) × Int × Int) ⊕ ((List Int) × Int)) := fun (s1, s2, s3) => (if s3 < x2 then (if s1.length + 1 ≤ 140737488355328 then some (.inl (s1 ++ ([IntKind.u8.wrap s2] : List Int), sR .u64 s2 8, IntKind.i64.wrap (s3 + 1))) else none) else some (.inr (s1, s2)))
noncomputable def compact_number.f (x0 : List Int) (x1 : Int) (x2 : Int) : Option (List Int) := ((loopO (compact_number.s0 x2) (x0, x1, 0)).bind fun (c1, c2) => some c1)
noncomputable def compact_Put.f (x0 : List Int) (x1 : Int) : Option (List Int) := ((bytes_Clone.f x0).bind fun r1 => ((compact_Len.f x1).bind fun r2 => (if r2 = 1 then (if r1.length + 1 ≤ 140737488355328 then some (r1 ++ ([IntKind.u8.wrap x1] : List Int)) else none) else (if r2 = 3 then (if r1.length + 1 ≤ 140737488355328 then ((compact_number.f (r1 ++ ([253] : List Int)) x1 2).bind fun r3 => some r3) else none) else (if r2 = 5 then (if r1.length + 1 ≤ 140737488355328 then ((compact_number.f (r1 ++ ([254] : List Int)) x1 4).bind fun r4 => some r4) else none) else (if r1.length + 1 ≤ 140737488355328 then ((compact_number.f (r1 ++ ([255] : List Int)) x1 8).bind fun r5 => some r5) else none))))))
noncomputable def compact_Read.f (x0 : List Int) : Option compactReader := ((bytes_Clone.f x0).bind fun r1 => some (⟨r1, 0, (Er.b 0)⟩ : compactReader))
noncomputable def compact_Reader_next.f (x0 : compactReader) (x1 : Int) : Option ((List Int) × compactReader) := (if x0.err ≠ (Er.b 0) then some ([], x0) else (if (IntKind.i64.wrap ((x0.b.length : Int) - x0.at_)) < x1 then some ([], (⟨x0.b, x0.at_, xErrEnd⟩ : compactReader)) else (if 0 ≤ (IntKind.i64.wrap ((IntKind.i64.wrap (x0.at_ + x1)) - x1)) ∧ (IntKind.i64.wrap ((IntKind.i64.wrap (x0.at_ + x1)) - x1)) ≤ (IntKind.i64.wrap (x0.at_ + x1)) ∧ (IntKind.i64.wrap (x0.at_ + x1)) ≤ (x0.b.length : Int) then some ((x0.b.take (IntKind.i64.wrap (x0.at_ + x1)).toNat).drop (IntKind.i64.wrap ((IntKind.i64.wrap (x0.at_ + x1)) - x1)).toNat, (⟨x0.b, IntKind.i64.wrap (x0.at_ + x1), x0.err⟩ : compactReader)) else none)))
noncomputable def compact_Reader_whole.s0 (r1 : (List Int) × compactReader) : (Int × Int) → Option ((Int × Int) ⊕ (Int × (List Int) × Int × Er)) := fun (s1, s2) => (if s2 < (r1.1.length : Int) then (if 0 ≤ s2 ∧ s2 < (r1.1.length : Int) then (if 0 ≤ (IntKind.i64.wrap (8 * s2)) then some (.inl (bOr .u64 s1 (sL .u64 (IntKind.u64.wrap (r1.1.getD s2.toNat 0)) (IntKind.i64.wrap (8 * s2))), IntKind.i64.wrap (s2 + 1))) else none) else none) else some (.inr (s1, r1.2.b, r1.2.at_, r1.2.err)))
noncomputable def compact_Reader_whole.f (x0 : compactReader) (x1 : Int) : Option (Int × compactReader) := ((((compact_Reader_next.f x0 x1).bind fun r1 => loopO (compact_Reader_whole.s0 r1) (0, 0))).bind fun (c1, c2, c3, c4) => some (c1, (⟨c2, c3, c4⟩ : compactReader)))
noncomputable def compact_Reader_Num.f (x0 : compactReader) (x1 : Int) : Option (Int × compactReader) := ((compact_Reader_whole.f x0 1).bind fun r1 => (((if r1.1 = 253 then some 2 else (if r1.1 = 254 then some 4 else (if r1.1 = 255 then some 8 else some 0)))).bind fun c1 => (((if 0 < c1 then ((compact_Reader_whole.f r1.2 c1).bind fun r2 => some (r2.1, r2.2.b, r2.2.at_, r2.2.err)) else some (r1.1, r1.2.b, r1.2.at_, r1.2.err))).bind fun (c2, c3, c4, c5) => (if c5 ≠ (Er.b 0) then some (0, (⟨c3, c4, c5⟩ : compactReader)) else ((compact_Len.f c2).bind fun r3 => (if r3 ≠ (IntKind.i64.wrap (1 + c1)) then some (0, (⟨c3, c4, xErrShape⟩ : compactReader)) else (if x1 < c2 then some (0, (⟨c3, c4, xErrMany⟩ : compactReader)) else some (c2, (⟨c3, c4, c5⟩ : compactReader)))))))))
noncomputable def compact_Reader_Left.f (x0 : compactReader) : Option Int := some (IntKind.i64.wrap ((x0.b.length : Int) - x0.at_))
noncomputable def compact_Reader_Err.f (x0 : compactReader) : Option Er := some x0.err
noncomputable def compact_Reader_Eight.f (x0 : compactReader) : Option (Int × compactReader) := ((compact_Reader_whole.f x0 8).bind fun r1 => some (r1.1, r1.2))
noncomputable def compact_Reader_Four.f (x0 : compactReader) : Option (Int × compactReader) := ((compact_Reader_whole.f x0 4).bind fun r1 => some (IntKind.u32.wrap r1.1, r1.2))
noncomputable def compact_Reader_Bytes.f (x0 : compactReader) (x1 : Int) : Option ((List Int) × compactReader) := (if x1 ≤ 0 then some ([], x0) else ((compact_Reader_next.f x0 x1).bind fun r1 => ((bytes_Clone.f r1.1).bind fun r2 => some (r2, r1.2))))
noncomputable def compact_Reader_Hash.f (x0 : compactReader) : Option ((List Int) × compactReader) := ((compact_Reader_next.f x0 32).bind fun r1 => some (cpy (List.replicate 32 0) r1.1, r1.2))
end Go.Proofs.YtpeelghbhihgkaaDoor.T
namespace Go.Proofs.YtpeelghbhihgkaaDoor.T
open Go Go.Proofs Go.Proofs.YtpeelghbhihgkaaDoor.K
set_option linter.unusedVariables false
set_option linter.unusedSimpArgs false
set_option maxRecDepth 20000 in
theorem compact_Len.c (μ : Store) (w0 : World) (hμ : Agr μ w0) (x0 : Int) (hx0 : InR .u64 x0) (r : Int) (H : compact_Len.f x0 = some r) :
    Calls Tryd.prog 24 [.int .u64 x0].toArray w0 (fun e w' => ∃ v, e = .returned v ∧ v = .int .i64 r ∧ InR .i64 r ∧ Iv w0 [] μ μ [] w') := by
  refine enter Tryd.func24 rfl Tryd.ntmps24 rfl fun a hA => ?_
  have hI := Iv.start hμ
  have H := bI H
  refine w_seq fun _ hN1 => ?_
  refine w_reg ?_
  refine stp hA (r_as hA rfl) rfl fun a hA => ?_
  refine o_nil ?_
  refine hN1 _ _ ?_
  refine w_seq fun _ hN2 => ?_
  refine w_block ?_
  refine w_seq fun _ hN3 => ?_
  refine w_reg ?_
  refine stp hA (r_mv hA rfl) rfl fun a hA => 
    stp hA (r_lss hA rfl rfl) rfl fun a hA => 
    stp hA (r_as hA rfl) rfl fun a hA => ?_
  refine o_nil ?_
  refine hN3 _ _ ?_
  refine w_cond hA rfl (fun hc1 => ?_) (fun hc1 => ?_)
  · have hc10 := hc1; have hc1 := of_decide_eq_true hc1; have H := bT H hc1
    refine w_seq fun _ hN4 => ?_
    refine w_reg ?_
    refine stp hA (r_as hA rfl) rfl fun a hA => ?_
    refine o_nil ?_
    refine hN4 _ _ ?_
    refine w_ret ?_
    obtain rfl := Option.some.inj (bS H)
    exact ret1 hA Tryd.results24 rfl ⟨_, rfl, rfl, (in_lit .i64 1 rfl), hI.forget0⟩
  · have hc10 := hc1; have hc1 := of_decide_eq_false hc1; have H := bF H hc1
    refine w_seq fun _ hN5 => ?_
    refine w_reg ?_
    refine stp hA (r_mv hA rfl) rfl fun a hA => 
      stp hA (r_lss hA rfl rfl) rfl fun a hA => 
      stp hA (r_as hA rfl) rfl fun a hA => ?_
    refine o_nil ?_
    refine hN5 _ _ ?_
    refine w_cond hA rfl (fun hc2 => ?_) (fun hc2 => ?_)
    · have hc20 := hc2; have hc2 := of_decide_eq_true hc2; have H := bT H hc2
      refine w_seq fun _ hN6 => ?_
      refine w_reg ?_
      refine stp hA (r_as hA rfl) rfl fun a hA => ?_
      refine o_nil ?_
      refine hN6 _ _ ?_
      refine w_ret ?_
      obtain rfl := Option.some.inj (bS H)
      exact ret1 hA Tryd.results24 rfl ⟨_, rfl, rfl, (in_lit .i64 3 rfl), hI.forget0⟩
    · have hc20 := hc2; have hc2 := of_decide_eq_false hc2; have H := bF H hc2
      refine w_seq fun _ hN7 => ?_
      refine w_reg ?_
      refine stp hA (r_mv hA rfl) rfl fun a hA => 
        stp hA (r_lss hA rfl rfl) rfl fun a hA => 
        stp hA (r_as hA rfl) rfl fun a hA => ?_
      refine o_nil ?_
      refine hN7 _ _ ?_
      refine w_cond hA rfl (fun hc3 => ?_) (fun hc3 => ?_)
      · have hc30 := hc3; have hc3 := of_decide_eq_true hc3; have H := bT H hc3
        refine w_seq fun _ hN8 => ?_
        refine w_reg ?_
        refine stp hA (r_as hA rfl) rfl fun a hA => ?_
        refine o_nil ?_
        refine hN8 _ _ ?_
        refine w_ret ?_
        obtain rfl := Option.some.inj (bS H)
        exact ret1 hA Tryd.results24 rfl ⟨_, rfl, rfl, (in_lit .i64 5 rfl), hI.forget0⟩
      · have hc30 := hc3; have hc3 := of_decide_eq_false hc3; have H := bF H hc3
        refine w_skip ?_
        refine hN2 _ _ ?_
        refine w_seq fun _ hN9 => ?_
        refine w_reg ?_
        refine stp hA (r_as hA rfl) rfl fun a hA => ?_
        refine o_nil ?_
        refine hN9 _ _ ?_
        refine w_ret ?_
        obtain rfl := Option.some.inj (bS H)
        exact ret1 hA Tryd.results24 rfl ⟨_, rfl, rfl, (in_lit .i64 9 rfl), hI.forget0⟩
set_option maxRecDepth 20000 in
theorem bytes_Clone.c (μ : Store) (w0 : World) (hμ : Agr μ w0) (x0 : List Int) (u0 : Value) (hx0 : Slc (RI .u8) 1 μ u0 x0) (r : List Int) (H : bytes_Clone.f x0 = some r) :
    Calls Tryd.prog 93 [u0].toArray w0 (fun e w' => ∃ v, e = .returned v ∧ ∃ (v0 : Value) (c0 : List Value), v = v0 ∧ Els (RI .u8) 1 r c0 ∧ Iv w0 [] μ μ [row 5 1 v0 r.length c0] w') := by
  obtain ⟨hb, H⟩ := guard_some H
  obtain rfl := Option.some.inj H
  obtain ⟨cs, hE, A, cp, rfl, h2, h3, h4, h5⟩ := hx0
  refine enter Tryd.func93 rfl Tryd.ntmps93 rfl fun a hA => ?_
  have hI := Iv.start hμ
  refine w_seq fun _ hN1 => w_reg (stp hA (r_as hA rfl) rfl fun a hA => o_nil (hN1 _ _ ?_))
  refine w_seq fun _ hN2 => w_seq fun _ hN3 => w_reg (stp hA (r_mv hA rfl) rfl fun a hA => stp hA (r_eqnil Tryd.underlying23 hA rfl rfl) rfl fun a hA => o_nil (hN3 _ _ ?_))
  refine w_cond hA rfl (fun hc => ?_) (fun hc => ?_)
  · have hx : x0 = [] := List.eq_nil_of_length_eq_zero (by
      rcases Nat.eq_zero_or_pos x0.length with h | h
      · exact h
      · rw [h4 (by omega)] at hc; cases hc)
    subst hx
    cases hE
    refine w_seq fun _ hN4 => w_reg (stp hA (r_as hA rfl) rfl fun a hA => o_nil (hN4 _ _ ?_))
    refine w_ret ?_
    have hI := hI.nilRow 5 1
    exact ret1 hA Tryd.results93 rfl ⟨_, rfl, .slice none 0 0, [], rfl, .nil, hI⟩
  · refine w_skip (hN2 _ _ ?_)
    refine w_seq fun _ hN5 => w_reg ?_
    refine o_bsl [] te5 zr5 Tryd.underlying23 hI hA rfl rfl rfl rfl (by kernel_rfl) rfl fun g a w hA hI => ?_
    refine stp hA (r_mv hA rfl) rfl fun a hA => ?_
    refine o_appL (xs := ([] : List Int)) (ys := x0) (j := 0) te5 Tryd.underlying23 hI rfl hA rfl rfl (src_sl hI.agr ⟨A, cp, rfl, h2, h3, h4, h5⟩ hE.len) hE.len (hE.ones (one_RI _)) (by simp only [List.length_nil, maxLen]; omega) (by simp only [List.length_nil]; omega) rfl fun v a w hA hI => ?_
    refine stp hA (r_as hA rfl) rfl fun a hA => o_nil (hN5 _ _ (w_ret ?_))
    exact ret1 hA Tryd.results93 rfl ⟨_, rfl, v, cs, rfl, hE, hI⟩
set_option maxRecDepth 20000 in
theorem compact_number.c (μ : Store) (w0 : World) (hμ : Agr μ w0) (x0 : List Int) (u0 : Value) (k0 : List Value) (hx0 : Els (RI .u8) 1 x0 k0) (ho0 : RowOK μ w0 5 1 u0 x0.length k0) (x1 : Int) (hx1 : InR .u64 x1) (x2 : Int) (hx2 : InR .i64 x2) (r : List Int) (H : compact_number.f x0 x1 x2 = some r) :
    Calls Tryd.prog 94 [u0, .int .u64 x1, .int .i64 x2].toArray w0 (fun e w' => ∃ v, e = .returned v ∧ ∃ (v0 : Value) (c0 : List Value), v = v0 ∧ Els (RI .u8) 1 r c0 ∧ Iv w0 (row 5 1 u0 x0.length k0).foot μ μ [row 5 1 v0 r.length c0] w') := by
  refine enter Tryd.func94 rfl Tryd.ntmps94 rfl fun a hA => ?_
  have hI := ho0.start hμ
  have H := bI H
  refine w_seq fun _ hN1 => ?_
  refine w_reg ?_
  refine stp hA (r_as hA rfl) rfl fun a hA => ?_
  refine o_nil ?_
  refine hN1 _ _ ?_
  obtain ⟨⟨c1, c2⟩, hz1, Hk1⟩ := bB H
  refine w_cut (fun a w => ∃ (vvc1 : Value) (ccc1 : List Value), Els (RI .u8) 1 c1 ccc1 ∧ InR .u64 c2 ∧ Fr a 19 [(0, vvc1), (1, .int .u64 c2), (2, .int .i64 x2), (6, (.slice none 0 0))] ∧ Iv w0 (row 5 1 u0 x0.length k0).foot μ μ [row 5 1 vvc1 c1.length ccc1] w) ?_ ?_
  · have H := bI hz1
    refine w_seq fun _ hN2 => ?_
    refine w_reg ?_
    refine stp hA (r_mv hA rfl) rfl fun a hA => 
      stp hA (r_mv hA rfl) rfl fun a hA => ?_
    refine o_nil ?_
    refine hN2 _ _ ?_
    refine w_block ?_
    obtain ⟨z1, hz2, Hk2⟩ := bind_some H
    obtain ⟨n1, hn1⟩ := loopO_some hz2
    refine w_loop (fun n a w => ∃ (s1 : List Int) (s2 : Int) (s3 : Int) (vvs1 : Value) (ccs1 : List Value), loopN (compact_number.s0 x2) n (s1, s2, s3) = some z1 ∧ Els (RI .u8) 1 s1 ccs1 ∧ InR .u64 s2 ∧ InR .i64 s3 ∧ Fr a 19 [(0, vvs1), (1, .int .u64 s2), (2, .int .i64 x2), (6, (.slice none 0 0)), (7, .int .i64 x2), (8, .int .i64 s3)] ∧ Iv w0 (row 5 1 u0 x0.length k0).foot μ μ [row 5 1 vvs1 s1.length ccs1] w) n1 ⟨x0, x1, 0, u0, k0, hn1, hx0, hx1, (in_lit .i64 0 rfl), hA.sub ⟨rfl, rfl, rfl, rfl, rfl, rfl, trivial⟩, hI⟩ ?_
    clear hA hI
    rintro n a w ⟨s1, s2, s3, vvs1, ccs1, hn1, ws1, ws2, ws3, hA, hI⟩
    obtain ⟨m1, rfl, H⟩ := loopN_bind hn1
    clear hn1
    refine w_seq fun _ hN3 => ?_
    refine w_reg ?_
    refine stp hA (r_lss hA rfl rfl) rfl fun a hA => ?_
    refine o_nil ?_
    refine hN3 _ _ ?_
    refine w_seq fun _ hN4 => ?_
    refine w_cond hA rfl (fun hc1 => ?_) (fun hc1 => ?_)
    · have hc10 := hc1; have hc1 := of_decide_eq_true hc1; have H := bT H hc1
      refine w_skip ?_
      refine hN4 _ _ ?_
      refine w_seq fun _ hN5 => ?_
      refine w_block ?_
      refine w_seq fun _ hN6 => ?_
      refine w_reg ?_
      refine stp hA (r_mv hA rfl) rfl fun a hA => 
        stp hA (r_mv hA rfl) rfl fun a hA => 
        stp hA (r_conv Tryd.underlying22 Tryd.underlying5 hA rfl) rfl fun a hA => ?_
      have hE1 : Els (RI .u8) 1 ([IntKind.u8.wrap s2] : List Int) ([[.int .u8 (IntKind.u8.wrap s2)]].flatten ++ ([])) := (Els.cons (c := [[.int .u8 (IntKind.u8.wrap s2)]].flatten) ⟨rfl, (wrap_in _ _)⟩ rfl Els.nil)
      refine o_bsl ([[.int .u8 (IntKind.u8.wrap s2)]].flatten ++ ([])) te5 zr5 Tryd.underlying23 hI hA rfl rfl rfl rfl (by kernel_rfl) rfl fun g1 a w hA hI => ?_
      generalize hcs : ([[.int .u8 (IntKind.u8.wrap s2)]].flatten ++ ([]) : List Value) = cs1 at hE1 hI
      clear hcs
      obtain ⟨hb1, H⟩ := bG H
      have hE3 := ws1.app hE1
      refine o_appL (xs := (s1 : List Int)) (ys := (([IntKind.u8.wrap s2] : List Int) : List Int)) (j := 1) te5 Tryd.underlying23 hI rfl hA rfl rfl (src_row hI (j := 0) rfl) hE1.len (hE1.ones (one_RI _)) (by first | decide | (have hq := hb1; (try simp only [List.length_cons, List.length_nil] at hq); (try simp only [List.length_cons, List.length_nil]); (try simp only [maxLen]); omega)) (by first | decide | (have hq := hb1; (try simp only [List.length_cons, List.length_nil] at hq); (try simp only [List.length_cons, List.length_nil]); (try simp only [maxLen]); omega)) rfl fun v1 a w hA hI => 
        stp hA (r_as hA rfl) rfl fun a hA => ?_
      refine o_nil ?_
      refine hN6 _ _ ?_
      refine w_reg ?_
      refine stp hA (r_mv hA rfl) rfl fun a hA => 
        stp hA (r_shr hA rfl rfl (by decide)) rfl fun a hA => 
        stp hA (r_as hA rfl) rfl fun a hA => ?_
      refine o_nil ?_
      refine hN5 _ _ ?_
      refine w_reg ?_
      refine stp hA (r_add hA rfl rfl) rfl fun a hA => 
        stp hA (r_mv hA rfl) rfl fun a hA => ?_
      refine o_nil ?_
      exact ⟨m1, Nat.lt_succ_self _, s1 ++ ([IntKind.u8.wrap s2] : List Int), sR .u64 s2 8, IntKind.i64.wrap (s3 + 1), v1, ccs1 ++ cs1, H, hE3, (sR_in rfl ws2 _), (wrap_in _ _), hA.sub ⟨rfl, rfl, rfl, rfl, rfl, rfl, trivial⟩, (hI.sel [1] (by decide) rfl)⟩
    · have hc10 := hc1; have hc1 := of_decide_eq_false hc1; have H := bF H hc1
      refine w_exit rfl ?_
      have H : some (s1, s2) = some z1 := H
      obtain rfl := Option.some.inj H
      have H := Hk2
      cases Option.some.inj (bS H)
      exact ⟨vvs1, ccs1, ws1, ws2, hA.sub ⟨rfl, rfl, rfl, rfl, trivial⟩, hI⟩
  · rintro a w ⟨vvc1, ccc1, wc1, wc2, hA, hI⟩
    have H := Hk1
    refine w_seq fun _ hN7 => ?_
    refine w_reg ?_
    refine stp hA (r_mv hA rfl) rfl fun a hA => 
      stp hA (r_as hA rfl) rfl fun a hA => ?_
    refine o_nil ?_
    refine hN7 _ _ ?_
    refine w_ret ?_
    obtain rfl := Option.some.inj (bS H)
    exact ret1 hA Tryd.results94 rfl ⟨_, rfl, vvc1, ccc1, rfl, wc1, (hI.less (Store.le.refl _) hI.le)⟩
set_option maxRecDepth 20000 in
theorem compact_Put.c (μ : Store) (w0 : World) (hμ : Agr μ w0) (x0 : List Int) (u0 : Value) (hx0 : Slc (RI .u8) 1 μ u0 x0) (x1 : Int) (hx1 : InR .u64 x1) (r : List Int) (H : compact_Put.f x0 x1 = some r) :
    Calls Tryd.prog 23 [u0, .int .u64 x1].toArray w0 (fun e w' => ∃ v, e = .returned v ∧ ∃ (v0 : Value) (c0 : List Value), v = v0 ∧ Els (RI .u8) 1 r c0 ∧ Iv w0 [] μ μ [row 5 1 v0 r.length c0] w') := by
  refine enter Tryd.func23 rfl Tryd.ntmps23 rfl fun a hA => ?_
  have hI := Iv.start hμ
  have H := bI H
  refine w_seq fun _ hN1 => ?_
  refine w_reg ?_
  refine stp hA (r_as hA rfl) rfl fun a hA => ?_
  refine o_nil ?_
  refine hN1 _ _ ?_
  refine w_seq fun _ hN2 => ?_
  refine w_reg ?_
  refine stp hA (r_mv hA rfl) rfl fun a hA => ?_
  obtain ⟨r1, hr1, H⟩ := bB H
  refine o_call _ cf93 hA rfl (bytes_Clone.c μ _ hI.agr x0 u0 hx0 r1 hr1) rfl fun v1 a w hz1 hA => ?_
  obtain ⟨_, cs1, rfl, hE1, hi1⟩ := hz1
  have hI := hI.call hi1
  refine stp hA (r_as hA rfl) rfl fun a hA => ?_
  refine o_nil ?_
  refine hN2 _ _ ?_
  refine w_seq fun _ hN3 => ?_
  refine w_seq fun _ hN4 => ?_
  refine w_reg ?_
  refine stp hA (r_mv hA rfl) rfl fun a hA => ?_
  obtain ⟨r2, hr2, H⟩ := bB H
  refine o_callp (u := .int .i64 r2) cf24 hA rfl hI (compact_Len.c μ _ hI.agr x1 hx1 r2 hr2) rfl fun a w hz2 hI hA => 
    stp hA (r_as hA rfl) rfl fun a hA => ?_
  refine o_nil ?_
  refine hN4 _ _ ?_
  refine w_seq fun _ hN5 => ?_
  refine w_reg ?_
  refine stp hA (r_mv hA rfl) rfl fun a hA => ?_
  refine o_nil ?_
  refine hN5 _ _ ?_
  refine w_block ?_
  refine w_seq fun _ hN6 => ?_
  refine w_reg ?_
  refine stp hA (r_eql hA rfl rfl) rfl fun a hA => 
    stp hA (r_as hA rfl) rfl fun a hA => ?_
  refine o_nil ?_
  refine hN6 _ _ ?_
  refine w_cond hA rfl (fun hc1 => ?_) (fun hc1 => ?_)
  · have hc10 := hc1; have hc1 := of_decide_eq_true hc1; have H := bT H hc1
    refine w_seq fun _ hN7 => ?_
    refine w_reg ?_
    refine stp hA (r_mv hA rfl) rfl fun a hA => 
      stp hA (r_mv hA rfl) rfl fun a hA => 
      stp hA (r_conv Tryd.underlying22 Tryd.underlying5 hA rfl) rfl fun a hA => ?_
    have hE2 : Els (RI .u8) 1 ([IntKind.u8.wrap x1] : List Int) ([[.int .u8 (IntKind.u8.wrap x1)]].flatten ++ ([])) := (Els.cons (c := [[.int .u8 (IntKind.u8.wrap x1)]].flatten) ⟨rfl, (wrap_in _ _)⟩ rfl Els.nil)
    refine o_bsl ([[.int .u8 (IntKind.u8.wrap x1)]].flatten ++ ([])) te5 zr5 Tryd.underlying23 hI hA rfl rfl rfl rfl (by kernel_rfl) rfl fun g1 a w hA hI => ?_
    generalize hcs : ([[.int .u8 (IntKind.u8.wrap x1)]].flatten ++ ([]) : List Value) = cs2 at hE2 hI
    clear hcs
    obtain ⟨hb1, H⟩ := bG H
    have hE4 := hE1.app hE2
    refine o_appL (xs := (r1 : List Int)) (ys := (([IntKind.u8.wrap x1] : List Int) : List Int)) (j := 1) te5 Tryd.underlying23 hI rfl hA rfl rfl (src_row hI (j := 0) rfl) hE2.len (hE2.ones (one_RI _)) (by first | decide | (have hq := hb1; (try simp only [List.length_cons, List.length_nil] at hq); (try simp only [List.length_cons, List.length_nil]); (try simp only [maxLen]); omega)) (by first | decide | (have hq := hb1; (try simp only [List.length_cons, List.length_nil] at hq); (try simp only [List.length_cons, List.length_nil]); (try simp only [maxLen]); omega)) rfl fun v2 a w hA hI => 
      stp hA (r_as hA rfl) rfl fun a hA => ?_
    refine o_nil ?_
    refine hN7 _ _ ?_
    refine w_ret ?_
    obtain rfl := Option.some.inj (bS H)
    exact ret1 hA Tryd.results23 rfl ⟨_, rfl, v2, cs1 ++ cs2, rfl, hE4, ((hI.sel [1] (by decide) rfl).less (Store.le.refl _) hI.le)⟩
  · have hc10 := hc1; have hc1 := of_decide_eq_false hc1; have H := bF H hc1
    refine w_seq fun _ hN8 => ?_
    refine w_reg ?_
    refine stp hA (r_eql hA rfl rfl) rfl fun a hA => 
      stp hA (r_as hA rfl) rfl fun a hA => ?_
    refine o_nil ?_
    refine hN8 _ _ ?_
    refine w_cond hA rfl (fun hc2 => ?_) (fun hc2 => ?_)
    · have hc20 := hc2; have hc2 := of_decide_eq_true hc2; have H := bT H hc2
      refine w_seq fun _ hN9 => ?_
      refine w_reg ?_
      refine stp hA (r_mv hA rfl) rfl fun a hA => ?_
      have hE5 : Els (RI .u8) 1 ([253] : List Int) ([[.int .u8 253]].flatten ++ ([])) := (Els.cons (c := [[.int .u8 253]].flatten) ⟨rfl, (in_lit .u8 253 rfl)⟩ rfl Els.nil)
      refine o_bsl ([[.int .u8 253]].flatten ++ ([])) te5 zr5 Tryd.underlying23 hI hA rfl rfl rfl rfl (by kernel_rfl) rfl fun g2 a w hA hI => ?_
      generalize hcs : ([[.int .u8 253]].flatten ++ ([]) : List Value) = cs5 at hE5 hI
      clear hcs
      obtain ⟨hb2, H⟩ := bG H
      have hE7 := hE1.app hE5
      refine o_appL (xs := (r1 : List Int)) (ys := (([253] : List Int) : List Int)) (j := 1) te5 Tryd.underlying23 hI rfl hA rfl rfl (src_row hI (j := 0) rfl) hE5.len (hE5.ones (one_RI _)) (by first | decide | (have hq := hb2; (try simp only [List.length_cons, List.length_nil] at hq); (try simp only [List.length_cons, List.length_nil]); (try simp only [maxLen]); omega)) (by first | decide | (have hq := hb2; (try simp only [List.length_cons, List.length_nil] at hq); (try simp only [List.length_cons, List.length_nil]); (try simp only [maxLen]); omega)) rfl fun v3 a w hA hI => 
        stp hA (r_mv hA rfl) rfl fun a hA => ?_
      obtain ⟨r3, hr3, H⟩ := bB H
      refine o_call _ cf94 hA rfl (compact_number.c μ _ hI.agr (r1 ++ ([253] : List Int)) v3 (cs1 ++ cs5) hE7 (hI.item (j := 1) rfl) x1 hx1 2 (in_lit .i64 2 rfl) r3 hr3) rfl fun v4 a w hz3 hA => ?_
      obtain ⟨_, cs8, rfl, hE8, hi2⟩ := hz3
      have hI := hI.call1 1 rfl hi2
      refine stp hA (r_as hA rfl) rfl fun a hA => ?_
      refine o_nil ?_
      refine hN9 _ _ ?_
      refine w_ret ?_
      obtain rfl := Option.some.inj (bS H)
      exact ret1 hA Tryd.results23 rfl ⟨_, rfl, v4, cs8, rfl, hE8, ((hI.sel [0] (by decide) rfl).less (Store.le.refl _) hI.le)⟩
    · have hc20 := hc2; have hc2 := of_decide_eq_false hc2; have H := bF H hc2
      refine w_seq fun _ hN10 => ?_
      refine w_reg ?_
      refine stp hA (r_eql hA rfl rfl) rfl fun a hA => 
        stp hA (r_as hA rfl) rfl fun a hA => ?_
      refine o_nil ?_
      refine hN10 _ _ ?_
      refine w_cond hA rfl (fun hc3 => ?_) (fun hc3 => ?_)
      · have hc30 := hc3; have hc3 := of_decide_eq_true hc3; have H := bT H hc3
        refine w_seq fun _ hN11 => ?_
        refine w_reg ?_
        refine stp hA (r_mv hA rfl) rfl fun a hA => ?_
        have hE9 : Els (RI .u8) 1 ([254] : List Int) ([[.int .u8 254]].flatten ++ ([])) := (Els.cons (c := [[.int .u8 254]].flatten) ⟨rfl, (in_lit .u8 254 rfl)⟩ rfl Els.nil)
        refine o_bsl ([[.int .u8 254]].flatten ++ ([])) te5 zr5 Tryd.underlying23 hI hA rfl rfl rfl rfl (by kernel_rfl) rfl fun g3 a w hA hI => ?_
        generalize hcs : ([[.int .u8 254]].flatten ++ ([]) : List Value) = cs9 at hE9 hI
        clear hcs
        obtain ⟨hb3, H⟩ := bG H
        have hE11 := hE1.app hE9
        refine o_appL (xs := (r1 : List Int)) (ys := (([254] : List Int) : List Int)) (j := 1) te5 Tryd.underlying23 hI rfl hA rfl rfl (src_row hI (j := 0) rfl) hE9.len (hE9.ones (one_RI _)) (by first | decide | (have hq := hb3; (try simp only [List.length_cons, List.length_nil] at hq); (try simp only [List.length_cons, List.length_nil]); (try simp only [maxLen]); omega)) (by first | decide | (have hq := hb3; (try simp only [List.length_cons, List.length_nil] at hq); (try simp only [List.length_cons, List.length_nil]); (try simp only [maxLen]); omega)) rfl fun v5 a w hA hI => 
          stp hA (r_mv hA rfl) rfl fun a hA => ?_
        obtain ⟨r4, hr4, H⟩ := bB H
        refine o_call _ cf94 hA rfl (compact_number.c μ _ hI.agr (r1 ++ ([254] : List Int)) v5 (cs1 ++ cs9) hE11 (hI.item (j := 1) rfl) x1 hx1 4 (in_lit .i64 4 rfl) r4 hr4) rfl fun v6 a w hz4 hA => ?_
        obtain ⟨_, cs12, rfl, hE12, hi3⟩ := hz4
        have hI := hI.call1 1 rfl hi3
        refine stp hA (r_as hA rfl) rfl fun a hA => ?_
        refine o_nil ?_
        refine hN11 _ _ ?_
        refine w_ret ?_
        obtain rfl := Option.some.inj (bS H)
        exact ret1 hA Tryd.results23 rfl ⟨_, rfl, v6, cs12, rfl, hE12, ((hI.sel [0] (by decide) rfl).less (Store.le.refl _) hI.le)⟩
      · have hc30 := hc3; have hc3 := of_decide_eq_false hc3; have H := bF H hc3
        refine w_skip ?_
        refine hN3 _ _ ?_
        refine w_seq fun _ hN12 => ?_
        refine w_reg ?_
        refine stp hA (r_mv hA rfl) rfl fun a hA => ?_
        have hE13 : Els (RI .u8) 1 ([255] : List Int) ([[.int .u8 255]].flatten ++ ([])) := (Els.cons (c := [[.int .u8 255]].flatten) ⟨rfl, (in_lit .u8 255 rfl)⟩ rfl Els.nil)
        refine o_bsl ([[.int .u8 255]].flatten ++ ([])) te5 zr5 Tryd.underlying23 hI hA rfl rfl rfl rfl (by kernel_rfl) rfl fun g4 a w hA hI => ?_
        generalize hcs : ([[.int .u8 255]].flatten ++ ([]) : List Value) = cs13 at hE13 hI
        clear hcs
        obtain ⟨hb4, H⟩ := bG H
        have hE15 := hE1.app hE13
        refine o_appL (xs := (r1 : List Int)) (ys := (([255] : List Int) : List Int)) (j := 1) te5 Tryd.underlying23 hI rfl hA rfl rfl (src_row hI (j := 0) rfl) hE13.len (hE13.ones (one_RI _)) (by first | decide | (have hq := hb4; (try simp only [List.length_cons, List.length_nil] at hq); (try simp only [List.length_cons, List.length_nil]); (try simp only [maxLen]); omega)) (by first | decide | (have hq := hb4; (try simp only [List.length_cons, List.length_nil] at hq); (try simp only [List.length_cons, List.length_nil]); (try simp only [maxLen]); omega)) rfl fun v7 a w hA hI => 
          stp hA (r_mv hA rfl) rfl fun a hA => ?_
        obtain ⟨r5, hr5, H⟩ := bB H
        refine o_call _ cf94 hA rfl (compact_number.c μ _ hI.agr (r1 ++ ([255] : List Int)) v7 (cs1 ++ cs13) hE15 (hI.item (j := 1) rfl) x1 hx1 8 (in_lit .i64 8 rfl) r5 hr5) rfl fun v8 a w hz5 hA => ?_
        obtain ⟨_, cs16, rfl, hE16, hi4⟩ := hz5
        have hI := hI.call1 1 rfl hi4
        refine stp hA (r_as hA rfl) rfl fun a hA => ?_
        refine o_nil ?_
        refine hN12 _ _ ?_
        refine w_ret ?_
        obtain rfl := Option.some.inj (bS H)
        exact ret1 hA Tryd.results23 rfl ⟨_, rfl, v8, cs16, rfl, hE16, ((hI.sel [0] (by decide) rfl).less (Store.le.refl _) hI.le)⟩
set_option maxRecDepth 20000 in
theorem compact_Read.c (μ : Store) (w0 : World) (hμ : Agr μ w0) (x0 : List Int) (u0 : Value) (hx0 : Slc (RI .u8) 1 μ u0 x0) (r : compactReader) (H : compact_Read.f x0 = some r) :
    Calls Tryd.prog 25 [u0].toArray w0 (fun e w' => ∃ v, e = .returned v ∧ ∃ (gq_1 : Nat) (vp_1 : Value) (vp_2 : Value) (μ' : Store), v = .pointer (some ⟨gq_1, 0, none⟩) ∧ Slc (RI .u8) 1 μ' vp_1 r.b ∧ InR .i64 r.at_ ∧ ErS μ' vp_2 r.err ∧ Iv w0 [] μ μ' [cel gq_1 [[vp_1], [.int .i64 r.at_], [vp_2]] 143] w') := by
  refine enter Tryd.func25 rfl Tryd.ntmps25 rfl fun a hA => ?_
  have hI := Iv.start hμ
  have H := bI H
  refine w_seq fun _ hN1 => ?_
  refine w_reg ?_
  refine stp hA (r_as hA rfl) rfl fun a hA => ?_
  refine o_nil ?_
  refine hN1 _ _ ?_
  refine w_seq fun _ hN2 => ?_
  refine w_reg ?_
  refine stp hA (r_mv hA rfl) rfl fun a hA => ?_
  obtain ⟨r1, hr1, H⟩ := bB H
  refine o_call _ cf93 hA rfl (bytes_Clone.c μ _ hI.agr x0 u0 hx0 r1 hr1) rfl fun v1 a w hz1 hA => ?_
  obtain ⟨_, cs1, rfl, hE1, hi1⟩ := hz1
  have hI := hI.call hi1
  refine stp hA (r_bldS (cs := [[v1], [.int .i64 0], [.nilIface]].flatten.toArray) (pl := [(0, 1), (1, 1), (2, 1)]) zr143 Tryd.underlying143 ⟨rfl, sz23, rfl, sz3, rfl, sz34, trivial⟩ hA rfl ((fill_one (own_cell hI (j := 0) rfl) rfl (by kernel_rfl)).trans (by kernel_rfl))) rfl fun a hA => 
    o_box [[v1], [.int .i64 0], [.nilIface]] hI hA rfl rfl rfl fun g1 a w hA hI hg1 => 
    stp hA (r_as hA rfl) rfl fun a hA => ?_
  refine o_nil ?_
  refine hN2 _ _ ?_
  refine w_ret ?_
  obtain ⟨μ1, hle1, hsv1, hI⟩ := hI.freezeRow 1 rfl
  have hS1 : Slc (RI .u8) 1 μ1 v1 r1 := ⟨_, hE1, hsv1⟩
  obtain rfl := Option.some.inj (bS H)
  exact ret1 hA Tryd.results25 rfl ⟨_, rfl, g1, v1, .nilIface, μ1, rfl, hS1, (in_lit .i64 0 rfl), erv_nil, hI⟩
set_option maxRecDepth 20000 in
theorem compact_Reader_next.c (μ : Store) (w0 : World) (hμ : Agr μ w0) (x0 : compactReader) (vp1 : Value) (vp2 : Value) (g0 : Nat) (hp1 : Slc (RI .u8) 1 μ vp1 x0.b) (hp2 : InR .i64 x0.at_) (hp3 : ErS μ vp2 x0.err) (ho0 : Its μ w0 [cel g0 [[vp1], [.int .i64 x0.at_], [vp2]] 143]) (x1 : Int) (hx1 : InR .i64 x1) (e8 : Value) (he8 : ErS μ e8 (Er.b 9)) (r : (List Int) × compactReader) (H : compact_Reader_next.f x0 x1 = some r) :
    Calls Tryd.prog 97 [.pointer (some ⟨g0, 0, none⟩), .int .i64 x1].toArray w0 (fun e w' => ∃ v, e = .returned v ∧ ∃ (v0 : Value) (vp_1 : Value) (vp_2 : Value) (μ' : Store), v = v0 ∧ Slc (RI .u8) 1 μ' v0 (r.1) ∧ Slc (RI .u8) 1 μ' vp_1 (r.2).b ∧ InR .i64 (r.2).at_ ∧ ErS μ' vp_2 (r.2).err ∧ Iv w0 (many [cel g0 [[vp1], [.int .i64 x0.at_], [vp2]] 143]).foot μ μ' [cel g0 [[vp_1], [.int .i64 ((r.2).at_)], [vp_2]] 143] w') := by
  refine enter Tryd.func97 rfl Tryd.ntmps97 rfl fun a hA => ?_
  have hI := Iv.startN hμ ho0
  have H := bI H
  refine w_seq fun _ hN1 => ?_
  refine w_reg ?_
  refine stp hA (r_as hA rfl) rfl fun a hA => ?_
  refine o_nil ?_
  refine hN1 _ _ ?_
  refine w_seq fun _ hN2 => ?_
  refine w_seq fun _ hN3 => ?_
  refine w_reg ?_
  refine stp hA (r_mv hA rfl) rfl fun a hA => 
    stp hA (r_nilc hA rfl) rfl fun a hA => 
    stp hA (r_fd (k := 2) Tryd.underlying143 rfl sz34 hA rfl rfl) rfl fun a hA => 
    stp hA (r_ld1 (j := 0) [[vp1], [.int .i64 x0.at_]] [] Tryd.underlying34 rfl hI rfl hA rfl rfl) rfl fun a hA => 
    stp hA (r_neE erF hI.agr hp3 erv_nil (.inl ⟨.inr ⟨_, rfl⟩, Er.fitR⟩) hA rfl rfl) rfl fun a hA => ?_
  refine o_nil ?_
  refine hN3 _ _ ?_
  refine w_cond hA rfl (fun hc1 => ?_) (fun hc1 => ?_)
  · have hc10 := hc1; have hc1 := of_decide_eq_true hc1; have H := bT H hc1
    refine w_seq fun _ hN4 => ?_
    refine w_reg ?_
    refine stp hA (r_as hA rfl) rfl fun a hA => ?_
    refine o_nil ?_
    refine hN4 _ _ ?_
    refine w_ret ?_
    obtain rfl := Option.some.inj (bS H)
    exact ret1 hA Tryd.results97 rfl ⟨_, rfl, (.slice none 0 0), vp1, vp2, μ, rfl, (slc_nil _ _ _), hp1, hp2, hp3, hI⟩
  · have hc10 := hc1; have hc1 := of_decide_eq_false hc1; have H := bF H hc1
    refine w_skip ?_
    refine hN2 _ _ ?_
    refine w_seq fun _ hN5 => ?_
    refine w_seq fun _ hN6 => ?_
    refine w_draw mo (by kernel_rfl) hI ?_
    refine qtp hA (fun _ hI => r_mv hA rfl) rfl fun a hA => 
      qtp hA (fun _ hI => r_mv hA rfl) rfl fun a hA => 
      qtp hA (fun _ hI => r_nilc hA rfl) rfl fun a hA => 
      qtp hA (fun _ hI => r_fd (k := 0) Tryd.underlying143 rfl sz23 hA rfl rfl) rfl fun a hA => 
      qtp hA (fun _ hI => r_ld1 (j := 0) [] [[.int .i64 x0.at_], [vp2]] Tryd.underlying23 rfl hI rfl hA rfl rfl) rfl fun a hA => ?_
    obtain ⟨_, hsl1⟩ := Slc.sv hp1
    refine qtp hA (fun _ hI => r_slen Tryd.underlying23 hsl1 hA rfl) rfl fun a hA => 
      qtp hA (fun _ hI => r_mv hA rfl) rfl fun a hA => 
      qtp hA (fun _ hI => r_nilc hA rfl) rfl fun a hA => 
      qtp hA (fun _ hI => r_fd (k := 1) Tryd.underlying143 rfl sz3 hA rfl rfl) rfl fun a hA => 
      qtp hA (fun _ hI => r_ld1 (j := 0) [[vp1]] [[vp2]] Tryd.underlying3 rfl hI rfl hA rfl rfl) rfl fun a hA => 
      qtp hA (fun _ hI => r_sub hA rfl rfl) rfl fun a hA => 
      qtp hA (fun _ hI => r_gtr hA rfl rfl) rfl fun a hA => ?_
    refine q_nil fun w hI => ?_
    refine hN6 _ _ ?_
    refine w_cond hA rfl (fun hc2 => ?_) (fun hc2 => ?_)
    · have hc20 := hc2; have hc2 := of_decide_eq_true hc2; have H := bT H hc2
      refine w_seq fun _ hN7 => ?_
      refine w_reg ?_
      refine stp hA (r_mv hA rfl) rfl fun a hA => 
        stp hA (r_ldG Tryd.underlying34 rfl hI.agr he8 hA) rfl fun a hA => 
        stp hA (r_nilc hA rfl) rfl fun a hA => 
        stp hA (r_fd (k := 2) Tryd.underlying143 rfl sz34 hA rfl rfl) rfl fun a hA => ?_
      have hsc : ErS μ e8 xErrEnd := he8
      refine o_st (j := 0) [[vp1], [.int .i64 x0.at_]] [[vp2]] [[e8]] [] sz34 rfl rfl (by intro c hc; simp at hc; subst hc; exact ErV.one hsc) hI rfl hA rfl rfl (cells_err hsc) rfl fun w hI => ?_
      refine o_nil ?_
      refine hN7 _ _ ?_
      refine w_seq fun _ hN8 => ?_
      refine w_reg ?_
      refine stp hA (r_as hA rfl) rfl fun a hA => ?_
      refine o_nil ?_
      refine hN8 _ _ ?_
      refine w_ret ?_
      obtain rfl := Option.some.inj (bS H)
      exact ret1 hA Tryd.results97 rfl ⟨_, rfl, (.slice none 0 0), vp1, e8, μ, rfl, (slc_nil _ _ _), hp1, hp2, he8, hI⟩
    · have hc20 := hc2; have hc2 := of_decide_eq_false hc2; have H := bF H hc2
      refine w_skip ?_
      refine hN5 _ _ ?_
      refine w_seq fun _ hN9 => ?_
      refine w_reg ?_
      refine stp hA (r_mv hA rfl) rfl fun a hA => 
        stp hA (r_nilc hA rfl) rfl fun a hA => 
        stp hA (r_fd (k := 1) Tryd.underlying143 rfl sz3 hA rfl rfl) rfl fun a hA => 
        stp hA (r_ld1 (j := 0) [[vp1]] [[vp2]] Tryd.underlying3 rfl hI rfl hA rfl rfl) rfl fun a hA => 
        stp hA (r_mv hA rfl) rfl fun a hA => 
        stp hA (r_add hA rfl rfl) rfl fun a hA => 
        stp hA (r_nilc hA rfl) rfl fun a hA => 
        stp hA (r_fd (k := 1) Tryd.underlying143 rfl sz3 hA rfl rfl) rfl fun a hA => 
        o_st (j := 0) [[vp1]] [[.int .i64 x0.at_]] [[.int .i64 (IntKind.i64.wrap (x0.at_ + x1))]] [[vp2]] sz3 rfl rfl (fl_cons (one_one rfl) fl_nil) hI rfl hA rfl rfl rfl rfl fun w hI => ?_
      refine o_nil ?_
      refine hN9 _ _ ?_
      refine w_seq fun _ hN10 => ?_
      refine w_draw mo (by kernel_rfl) hI ?_
      refine qtp hA (fun _ hI => r_mv hA rfl) rfl fun a hA => 
        qtp hA (fun _ hI => r_nilc hA rfl) rfl fun a hA => 
        qtp hA (fun _ hI => r_fd (k := 0) Tryd.underlying143 rfl sz23 hA rfl rfl) rfl fun a hA => 
        qtp hA (fun _ hI => r_ld1 (j := 0) [] [[.int .i64 (IntKind.i64.wrap (x0.at_ + x1))], [vp2]] Tryd.underlying23 rfl hI rfl hA rfl rfl) rfl fun a hA => 
        qtp hA (fun _ hI => r_mv hA rfl) rfl fun a hA => 
        qtp hA (fun _ hI => r_nilc hA rfl) rfl fun a hA => 
        qtp hA (fun _ hI => r_fd (k := 1) Tryd.underlying143 rfl sz3 hA rfl rfl) rfl fun a hA => 
        qtp hA (fun _ hI => r_ld1 (j := 0) [[vp1]] [[vp2]] Tryd.underlying3 rfl hI rfl hA rfl rfl) rfl fun a hA => 
        qtp hA (fun _ hI => r_mv hA rfl) rfl fun a hA => 
        qtp hA (fun _ hI => r_sub hA rfl rfl) rfl fun a hA => 
        qtp hA (fun _ hI => r_mv hA rfl) rfl fun a hA => 
        qtp hA (fun _ hI => r_nilc hA rfl) rfl fun a hA => 
        qtp hA (fun _ hI => r_fd (k := 1) Tryd.underlying143 rfl sz3 hA rfl rfl) rfl fun a hA => 
        qtp hA (fun _ hI => r_ld1 (j := 0) [[vp1]] [[vp2]] Tryd.underlying3 rfl hI rfl hA rfl rfl) rfl fun a hA => ?_
      obtain ⟨hb1, H⟩ := bG H
      obtain ⟨v1, hS1, hr1⟩ := r_sl (P := Tryd.prog) (t := 23) (x := .tmp 37) (l := (some (.tmp 43))) (h := (some (.tmp 47))) (i := IntKind.i64.wrap ((IntKind.i64.wrap (x0.at_ + x1)) - x1)) (j := IntKind.i64.wrap (x0.at_ + x1)) Tryd.underlying23 sz5 hp1 hA rfl rfl rfl (by have hq := hb1; omega) (by have hq := hb1; omega) (by have hq := hb1; omega)
      refine qtp hA (fun _ hI => hr1 _ _ _ _ _ _) rfl fun a hA => 
        qtp hA (fun _ hI => r_as hA rfl) rfl fun a hA => ?_
      refine q_nil fun w hI => ?_
      refine hN10 _ _ ?_
      refine w_ret ?_
      obtain rfl := Option.some.inj (bS H)
      exact ret1 hA Tryd.results97 rfl ⟨_, rfl, v1, vp1, vp2, μ, rfl, hS1, hp1, (wrap_in _ _), hp3, hI⟩
set_option maxRecDepth 20000 in
theorem compact_Reader_whole.c (μ : Store) (w0 : World) (hμ : Agr μ w0) (x0 : compactReader) (vp1 : Value) (vp2 : Value) (g0 : Nat) (hp1 : Slc (RI .u8) 1 μ vp1 x0.b) (hp2 : InR .i64 x0.at_) (hp3 : ErS μ vp2 x0.err) (ho0 : Its μ w0 [cel g0 [[vp1], [.int .i64 x0.at_], [vp2]] 143]) (x1 : Int) (hx1 : InR .i64 x1) (e8 : Value) (he8 : ErS μ e8 (Er.b 9)) (r : Int × compactReader) (H : compact_Reader_whole.f x0 x1 = some r) :
    Calls Tryd.prog 95 [.pointer (some ⟨g0, 0, none⟩), .int .i64 x1].toArray w0 (fun e w' => ∃ v, e = .returned v ∧ ∃ (vp_1 : Value) (vp_2 : Value) (μ' : Store), v = .int .u64 (r.1) ∧ InR .u64 (r.1) ∧ Slc (RI .u8) 1 μ' vp_1 (r.2).b ∧ InR .i64 (r.2).at_ ∧ ErS μ' vp_2 (r.2).err ∧ Iv w0 (many [cel g0 [[vp1], [.int .i64 x0.at_], [vp2]] 143]).foot μ μ' [cel g0 [[vp_1], [.int .i64 ((r.2).at_)], [vp_2]] 143] w') := by
  refine enter Tryd.func95 rfl Tryd.ntmps95 rfl fun a hA => ?_
  have hI := Iv.startN hμ ho0
  have H := bI H
  refine w_seq fun _ hN1 => ?_
  refine w_reg ?_
  refine stp hA (r_as hA rfl) rfl fun a hA => ?_
  refine o_nil ?_
  refine hN1 _ _ ?_
  refine w_seq fun _ hN2 => ?_
  refine w_reg ?_
  refine stp hA (r_as hA rfl) rfl fun a hA => ?_
  refine o_nil ?_
  refine hN2 _ _ ?_
  obtain ⟨⟨c1, c2, c3, c4⟩, hz1, Hk1⟩ := bB H
  refine w_cut (fun a w => ∃ (μ1 : Store) (vvc2 : Value) (vvc4 : Value), μ.le μ1 ∧ InR .u64 c1 ∧ Slc (RI .u8) 1 μ1 vvc2 c2 ∧ InR .i64 c3 ∧ ErS μ1 vvc4 c4 ∧ Fr a 26 [(0, .pointer (some ⟨g0, 0, none⟩)), (1, .int .i64 x1), (4, .int .u64 0), (5, .int .u64 c1)] ∧ Iv w0 (many [cel g0 [[vp1], [.int .i64 x0.at_], [vp2]] 143]).foot μ μ1 [cel g0 [[vvc2], [.int .i64 c3], [vvc4]] 143] w) ?_ ?_
  · have H := bI hz1
    refine w_seq fun _ hN3 => ?_
    refine w_reg ?_
    refine stp hA (r_mv hA rfl) rfl fun a hA => 
      stp hA (r_mv hA rfl) rfl fun a hA => ?_
    obtain ⟨r1, hr1, H⟩ := bB H
    refine o_call _ cf97 hA rfl (compact_Reader_next.c μ _ hI.agr x0 vp1 vp2 g0 hp1 hp2 hp3 (hI.handN 1) x1 hx1 e8 he8 r1 hr1) rfl fun v1 a w hz2 hA => ?_
    obtain ⟨_, vp3, vp4, μ2, rfl, hS1, hp4, hp5, hp6, hi1⟩ := hz2
    have hI := hI.backN 1 hi1
    have hI : Iv w0 (many [cel g0 [[vp1], [.int .i64 x0.at_], [vp2]] 143]).foot μ μ2 [cel g0 [[vp3], [.int .i64 r1.2.at_], [vp4]] 143] w := hI
    obtain ⟨_, hsl1⟩ := Slc.sv hS1
    refine stp hA (r_slen Tryd.underlying23 hsl1 hA rfl) rfl fun a hA => 
      stp hA (r_mv hA rfl) rfl fun a hA => ?_
    refine o_nil ?_
    refine hN3 _ _ ?_
    refine w_block ?_
    obtain ⟨z1, hz3, Hk2⟩ := bind_some H
    obtain ⟨n1, hn1⟩ := loopO_some hz3
    refine w_loop (fun n a w => ∃ (s1 : Int) (s2 : Int), loopN (compact_Reader_whole.s0 r1) n (s1, s2) = some z1 ∧ InR .u64 s1 ∧ InR .i64 s2 ∧ Fr a 26 [(0, .pointer (some ⟨g0, 0, none⟩)), (1, .int .i64 x1), (4, .int .u64 0), (5, .int .u64 s1), (10, v1), (11, .int .i64 (r1.1.length : Int)), (12, .int .i64 s2)] ∧ Iv w0 (many [cel g0 [[vp1], [.int .i64 x0.at_], [vp2]] 143]).foot μ μ2 [cel g0 [[vp3], [.int .i64 r1.2.at_], [vp4]] 143] w) n1 ⟨0, 0, hn1, (in_lit .u64 0 rfl), (in_lit .i64 0 rfl), hA.sub ⟨rfl, rfl, rfl, rfl, rfl, rfl, rfl, trivial⟩, hI⟩ ?_
    clear hA hI
    rintro n a w ⟨s1, s2, hn1, ws1, ws2, hA, hI⟩
    obtain ⟨m1, rfl, H⟩ := loopN_bind hn1
    clear hn1
    refine w_seq fun _ hN4 => ?_
    refine w_reg ?_
    refine stp hA (r_lss hA rfl rfl) rfl fun a hA => ?_
    refine o_nil ?_
    refine hN4 _ _ ?_
    refine w_seq fun _ hN5 => ?_
    refine w_cond hA rfl (fun hc1 => ?_) (fun hc1 => ?_)
    · have hc10 := hc1; have hc1 := of_decide_eq_true hc1; have H := bT H hc1
      refine w_skip ?_
      refine hN5 _ _ ?_
      refine w_seq fun _ hN6 => ?_
      refine w_block ?_
      refine w_seq fun _ hN7 => ?_
      refine w_reg ?_
      refine stp hA (r_mv hA rfl) rfl fun a hA => ?_
      obtain ⟨hb1, H⟩ := bG H
      obtain ⟨_, he1, _, hat1⟩ := Slc.elem1 hS1 (getD_some 0 hb1.1 hb1.2)
      obtain ⟨rfl, hw1⟩ := he1
      obtain ⟨_, hsl2⟩ := Slc.sv hS1
      refine stp hA (r_six1 Tryd.underlying23 sz5 hsl2 hA rfl rfl hb1.1 hb1.2) rfl fun a hA => 
        stp hA (r_ldm1 [] [] Tryd.underlying5 rfl hI.agr hat1 hA rfl rfl) rfl fun a hA => 
        stp hA (r_as hA rfl) rfl fun a hA => 
        stp hA (r_as hA rfl) rfl fun a hA => ?_
      refine o_nil ?_
      refine hN7 _ _ ?_
      refine w_reg ?_
      refine stp hA (r_mv hA rfl) rfl fun a hA => 
        stp hA (r_mv hA rfl) rfl fun a hA => 
        stp hA (r_conv Tryd.underlying5 Tryd.underlying22 hA rfl) rfl fun a hA => 
        stp hA (r_mv hA rfl) rfl fun a hA => 
        stp hA (r_mul hA rfl rfl) rfl fun a hA => ?_
      obtain ⟨hb2, H⟩ := bG H
      refine stp hA (r_shl hA rfl rfl hb2) rfl fun a hA => 
        stp hA (r_or hA rfl rfl) rfl fun a hA => 
        stp hA (r_as hA rfl) rfl fun a hA => ?_
      refine o_nil ?_
      refine hN6 _ _ ?_
      refine w_reg ?_
      refine stp hA (r_add hA rfl rfl) rfl fun a hA => 
        stp hA (r_mv hA rfl) rfl fun a hA => ?_
      refine o_nil ?_
      exact ⟨m1, Nat.lt_succ_self _, bOr .u64 s1 (sL .u64 (IntKind.u64.wrap (r1.1.getD s2.toNat 0)) (IntKind.i64.wrap (8 * s2))), IntKind.i64.wrap (s2 + 1), H, (wrap_in _ _), (wrap_in _ _), hA.sub ⟨rfl, rfl, rfl, rfl, rfl, rfl, rfl, trivial⟩, hI⟩
    · have hc10 := hc1; have hc1 := of_decide_eq_false hc1; have H := bF H hc1
      refine w_exit rfl ?_
      have H : some (s1, r1.2.b, r1.2.at_, r1.2.err) = some z1 := H
      obtain rfl := Option.some.inj H
      have H := Hk2
      cases Option.some.inj (bS H)
      exact ⟨μ2, vp3, vp4, hi1.le, ws1, hp4, hp5, hp6, hA.sub ⟨rfl, rfl, rfl, rfl, trivial⟩, hI⟩
  · rintro a w ⟨μ1, vvc2, vvc4, hle1, wc1, wc2, wc3, wc4, hA, hI⟩
    have H := Hk1
    refine w_seq fun _ hN8 => ?_
    refine w_reg ?_
    refine stp hA (r_mv hA rfl) rfl fun a hA => 
      stp hA (r_as hA rfl) rfl fun a hA => ?_
    refine o_nil ?_
    refine hN8 _ _ ?_
    refine w_ret ?_
    obtain rfl := Option.some.inj (bS H)
    exact ret1 hA Tryd.results95 rfl ⟨_, rfl, vvc2, vvc4, μ1, rfl, wc1, wc2, wc3, wc4, hI⟩
set_option maxRecDepth 20000 in
theorem compact_Reader_Num.c (μ : Store) (w0 : World) (hμ : Agr μ w0) (x0 : compactReader) (vp1 : Value) (vp2 : Value) (g0 : Nat) (hp1 : Slc (RI .u8) 1 μ vp1 x0.b) (hp2 : InR .i64 x0.at_) (hp3 : ErS μ vp2 x0.err) (ho0 : Its μ w0 [cel g0 [[vp1], [.int .i64 x0.at_], [vp2]] 143]) (x1 : Int) (hx1 : InR .u64 x1) (e0 : Value) (he0 : ErS μ e0 (Er.b 1)) (e1 : Value) (he1 : ErS μ e1 (Er.b 2)) (e8 : Value) (he8 : ErS μ e8 (Er.b 9)) (r : Int × compactReader) (H : compact_Reader_Num.f x0 x1 = some r) :
    Calls Tryd.prog 27 [.pointer (some ⟨g0, 0, none⟩), .int .u64 x1].toArray w0 (fun e w' => ∃ v, e = .returned v ∧ ∃ (vp_1 : Value) (vp_2 : Value) (μ' : Store), v = .int .u64 (r.1) ∧ InR .u64 (r.1) ∧ Slc (RI .u8) 1 μ' vp_1 (r.2).b ∧ InR .i64 (r.2).at_ ∧ ErS μ' vp_2 (r.2).err ∧ Iv w0 (many [cel g0 [[vp1], [.int .i64 x0.at_], [vp2]] 143]).foot μ μ' [cel g0 [[vp_1], [.int .i64 ((r.2).at_)], [vp_2]] 143] w') := by
  refine enter Tryd.func27 rfl Tryd.ntmps27 rfl fun a hA => ?_
  have hI := Iv.startN hμ ho0
  have H := bI H
  refine w_seq fun _ hN1 => ?_
  refine w_reg ?_
  refine stp hA (r_as hA rfl) rfl fun a hA => ?_
  refine o_nil ?_
  refine hN1 _ _ ?_
  refine w_seq fun _ hN2 => ?_
  refine w_reg ?_
  refine stp hA (r_mv hA rfl) rfl fun a hA => ?_
  obtain ⟨r1, hr1, H⟩ := bB H
  refine o_call _ cf95 hA rfl (compact_Reader_whole.c μ _ hI.agr x0 vp1 vp2 g0 hp1 hp2 hp3 (hI.handN 1) 1 (in_lit .i64 1 rfl) e8 he8 r1 hr1) rfl fun v1 a w hz1 hA => ?_
  obtain ⟨vp3, vp4, μ1, rfl, hw1, hp4, hp5, hp6, hi1⟩ := hz1
  have hI := hI.backN 1 hi1
  have hI : Iv w0 (many [cel g0 [[vp1], [.int .i64 x0.at_], [vp2]] 143]).foot μ μ1 [cel g0 [[vp3], [.int .i64 r1.2.at_], [vp4]] 143] w := hI
  refine stp hA (r_as hA rfl) rfl fun a hA => ?_
  refine o_nil ?_
  refine hN2 _ _ ?_
  refine w_seq fun _ hN3 => ?_
  refine w_reg ?_
  refine stp hA (r_as hA rfl) rfl fun a hA => ?_
  refine o_nil ?_
  refine hN3 _ _ ?_
  obtain ⟨c1, hz2, Hk1⟩ := bB H
  refine w_cut (fun a w => InR .i64 c1 ∧ Fr a 46 [(0, .pointer (some ⟨g0, 0, none⟩)), (1, .int .u64 x1), (4, .int .u64 0), (5, .int .u64 r1.1), (6, .int .i64 c1)] ∧ Iv w0 (many [cel g0 [[vp1], [.int .i64 x0.at_], [vp2]] 143]).foot μ μ1 [cel g0 [[vp3], [.int .i64 r1.2.at_], [vp4]] 143] w) ?_ ?_
  · have H := bI hz2
    refine w_seq fun _ hN4 => ?_
    refine w_reg ?_
    refine stp hA (r_mv hA rfl) rfl fun a hA => ?_
    refine o_nil ?_
    refine hN4 _ _ ?_
    refine w_block ?_
    refine w_seq fun _ hN5 => ?_
    refine w_reg ?_
    refine stp hA (r_eql hA rfl rfl) rfl fun a hA => 
      stp hA (r_as hA rfl) rfl fun a hA => ?_
    refine o_nil ?_
    refine hN5 _ _ ?_
    refine w_cond hA rfl (fun hc1 => ?_) (fun hc1 => ?_)
    · have hc10 := hc1; have hc1 := of_decide_eq_true hc1; have H := bT H hc1
      refine w_reg ?_
      refine stp hA (r_as hA rfl) rfl fun a hA => ?_
      refine o_nil ?_
      cases Option.some.inj (bS H)
      exact ⟨(in_lit .i64 2 rfl), hA.sub ⟨rfl, rfl, rfl, rfl, rfl, trivial⟩, hI⟩
    · have hc10 := hc1; have hc1 := of_decide_eq_false hc1; have H := bF H hc1
      refine w_seq fun _ hN6 => ?_
      refine w_reg ?_
      refine stp hA (r_eql hA rfl rfl) rfl fun a hA => 
        stp hA (r_as hA rfl) rfl fun a hA => ?_
      refine o_nil ?_
      refine hN6 _ _ ?_
      refine w_cond hA rfl (fun hc2 => ?_) (fun hc2 => ?_)
      · have hc20 := hc2; have hc2 := of_decide_eq_true hc2; have H := bT H hc2
        refine w_reg ?_
        refine stp hA (r_as hA rfl) rfl fun a hA => ?_
        refine o_nil ?_
        cases Option.some.inj (bS H)
        exact ⟨(in_lit .i64 4 rfl), hA.sub ⟨rfl, rfl, rfl, rfl, rfl, trivial⟩, hI⟩
      · have hc20 := hc2; have hc2 := of_decide_eq_false hc2; have H := bF H hc2
        refine w_seq fun _ hN7 => ?_
        refine w_reg ?_
        refine stp hA (r_eql hA rfl rfl) rfl fun a hA => 
          stp hA (r_as hA rfl) rfl fun a hA => ?_
        refine o_nil ?_
        refine hN7 _ _ ?_
        refine w_cond hA rfl (fun hc3 => ?_) (fun hc3 => ?_)
        · have hc30 := hc3; have hc3 := of_decide_eq_true hc3; have H := bT H hc3
          refine w_reg ?_
          refine stp hA (r_as hA rfl) rfl fun a hA => ?_
          refine o_nil ?_
          cases Option.some.inj (bS H)
          exact ⟨(in_lit .i64 8 rfl), hA.sub ⟨rfl, rfl, rfl, rfl, rfl, trivial⟩, hI⟩
        · have hc30 := hc3; have hc3 := of_decide_eq_false hc3; have H := bF H hc3
          refine w_skip ?_
          cases Option.some.inj (bS H)
          exact ⟨(in_lit .i64 0 rfl), hA.sub ⟨rfl, rfl, rfl, rfl, rfl, trivial⟩, hI⟩
  · rintro a w ⟨wc1, hA, hI⟩
    have H := Hk1
    obtain ⟨⟨c2, c3, c4, c5⟩, hz3, Hk2⟩ := bB H
    refine w_cut (fun a w => ∃ (μ2 : Store) (vvc3 : Value) (vvc5 : Value), μ1.le μ2 ∧ InR .u64 c2 ∧ Slc (RI .u8) 1 μ2 vvc3 c3 ∧ InR .i64 c4 ∧ ErS μ2 vvc5 c5 ∧ Fr a 46 [(0, .pointer (some ⟨g0, 0, none⟩)), (1, .int .u64 x1), (4, .int .u64 0), (5, .int .u64 c2), (6, .int .i64 c1)] ∧ Iv w0 (many [cel g0 [[vp1], [.int .i64 x0.at_], [vp2]] 143]).foot μ μ2 [cel g0 [[vvc3], [.int .i64 c4], [vvc5]] 143] w) ?_ ?_
    · have H := bI hz3
      refine w_seq fun _ hN8 => ?_
      refine w_reg ?_
      refine stp hA (r_mv hA rfl) rfl fun a hA => 
        stp hA (r_gtr hA rfl rfl) rfl fun a hA => ?_
      refine o_nil ?_
      refine hN8 _ _ ?_
      refine w_cond hA rfl (fun hc4 => ?_) (fun hc4 => ?_)
      · have hc40 := hc4; have hc4 := of_decide_eq_true hc4; have H := bT H hc4
        refine w_reg ?_
        refine stp hA (r_mv hA rfl) rfl fun a hA => 
          stp hA (r_mv hA rfl) rfl fun a hA => ?_
        obtain ⟨r2, hr2, H⟩ := bB H
        refine o_call _ cf95 hA rfl (compact_Reader_whole.c μ1 _ hI.agr r1.2 vp3 vp4 g0 hp4 hp5 hp6 (hI.handN 1) c1 wc1 e8 (ErV.le (fun _ _ h => h) hi1.le he8) r2 hr2) rfl fun v2 a w hz4 hA => ?_
        obtain ⟨vp5, vp6, μ3, rfl, hw2, hp7, hp8, hp9, hi2⟩ := hz4
        have hI := hI.backN 1 hi2
        have hI : Iv w0 (many [cel g0 [[vp1], [.int .i64 x0.at_], [vp2]] 143]).foot μ μ3 [cel g0 [[vp5], [.int .i64 r2.2.at_], [vp6]] 143] w := hI
        refine stp hA (r_as hA rfl) rfl fun a hA => ?_
        refine o_nil ?_
        cases Option.some.inj (bS H)
        exact ⟨μ3, vp5, vp6, hi2.le, hw2, hp7, hp8, hp9, hA.sub ⟨rfl, rfl, rfl, rfl, rfl, trivial⟩, hI⟩
      · have hc40 := hc4; have hc4 := of_decide_eq_false hc4; have H := bF H hc4
        refine w_skip ?_
        cases Option.some.inj (bS H)
        exact ⟨μ1, vp3, vp4, (Store.le.refl _), hw1, hp4, hp5, hp6, hA.sub ⟨rfl, rfl, rfl, rfl, rfl, trivial⟩, hI⟩
    · rintro a w ⟨μ2, vvc3, vvc5, hle1, wc2, wc3, wc4, wc5, hA, hI⟩
      have H := Hk2
      refine w_seq fun _ hN9 => ?_
      refine w_block ?_
      refine w_seq fun _ hN10 => ?_
      refine w_reg ?_
      refine stp hA (r_mv hA rfl) rfl fun a hA => 
        stp hA (r_nilc hA rfl) rfl fun a hA => 
        stp hA (r_fd (k := 2) Tryd.underlying143 rfl sz34 hA rfl rfl) rfl fun a hA => 
        stp hA (r_ld1 (j := 0) [[vvc3], [.int .i64 c4]] [] Tryd.underlying34 rfl hI rfl hA rfl rfl) rfl fun a hA => 
        stp hA (r_neE erF hI.agr wc5 erv_nil (.inl ⟨.inr ⟨_, rfl⟩, Er.fitR⟩) hA rfl rfl) rfl fun a hA => 
        stp hA (r_as hA rfl) rfl fun a hA => ?_
      refine o_nil ?_
      refine hN10 _ _ ?_
      refine w_cond hA rfl (fun hc5 => ?_) (fun hc5 => ?_)
      · have hc50 := hc5; have hc5 := of_decide_eq_true hc5; have H := bT H hc5
        refine w_skip ?_
        refine hN9 _ _ ?_
        refine w_seq fun _ hN11 => ?_
        refine w_reg ?_
        refine stp hA (r_as hA rfl) rfl fun a hA => ?_
        refine o_nil ?_
        refine hN11 _ _ ?_
        refine w_ret ?_
        obtain rfl := Option.some.inj (bS H)
        exact ret1 hA Tryd.results27 rfl ⟨_, rfl, vvc3, vvc5, μ2, rfl, (in_lit .u64 0 rfl), wc3, wc4, wc5, hI⟩
      · have hc50 := hc5; have hc5 := of_decide_eq_false hc5; have H := bF H hc5
        refine w_seq fun _ hN12 => ?_
        refine w_reg ?_
        refine stp hA (r_mv hA rfl) rfl fun a hA => ?_
        obtain ⟨r3, hr3, H⟩ := bB H
        refine o_callp (u := .int .i64 r3) cf24 hA rfl hI (compact_Len.c μ2 _ hI.agr c2 wc2 r3 hr3) rfl fun a w hz5 hI hA => 
          stp hA (r_mv hA rfl) rfl fun a hA => 
          stp hA (r_add hA rfl rfl) rfl fun a hA => 
          stp hA (r_neq hA rfl rfl) rfl fun a hA => 
          stp hA (r_as hA rfl) rfl fun a hA => ?_
        refine o_nil ?_
        refine hN12 _ _ ?_
        refine w_cond hA rfl (fun hc6 => ?_) (fun hc6 => ?_)
        · have hc60 := hc6; have hc6 := of_decide_eq_true hc6; have H := bT H hc6
          refine w_reg ?_
          refine stp hA (r_mv hA rfl) rfl fun a hA => 
            stp hA (r_ldG Tryd.underlying34 rfl hI.agr (ErV.le (fun _ _ h => h) (hi1.le.trans hle1) he0) hA) rfl fun a hA => 
            stp hA (r_nilc hA rfl) rfl fun a hA => 
            stp hA (r_fd (k := 2) Tryd.underlying143 rfl sz34 hA rfl rfl) rfl fun a hA => ?_
          have hsc : ErS μ2 e0 xErrShape := (ErV.le (fun _ _ h => h) (hi1.le.trans hle1) he0)
          refine o_st (j := 0) [[vvc3], [.int .i64 c4]] [[vvc5]] [[e0]] [] sz34 rfl rfl (by intro c hc; simp at hc; subst hc; exact ErV.one hsc) hI rfl hA rfl rfl (cells_err hsc) rfl fun w hI => ?_
          refine o_nil ?_
          refine hN9 _ _ ?_
          refine w_seq fun _ hN13 => ?_
          refine w_reg ?_
          refine stp hA (r_as hA rfl) rfl fun a hA => ?_
          refine o_nil ?_
          refine hN13 _ _ ?_
          refine w_ret ?_
          obtain rfl := Option.some.inj (bS H)
          exact ret1 hA Tryd.results27 rfl ⟨_, rfl, vvc3, e0, μ2, rfl, (in_lit .u64 0 rfl), wc3, wc4, (ErV.le (fun _ _ h => h) (hi1.le.trans hle1) he0), hI⟩
        · have hc60 := hc6; have hc6 := of_decide_eq_false hc6; have H := bF H hc6
          refine w_seq fun _ hN14 => ?_
          refine w_reg ?_
          refine stp hA (r_mv hA rfl) rfl fun a hA => 
            stp hA (r_mv hA rfl) rfl fun a hA => 
            stp hA (r_gtr hA rfl rfl) rfl fun a hA => 
            stp hA (r_as hA rfl) rfl fun a hA => ?_
          refine o_nil ?_
          refine hN14 _ _ ?_
          refine w_cond hA rfl (fun hc7 => ?_) (fun hc7 => ?_)
          · have hc70 := hc7; have hc7 := of_decide_eq_true hc7; have H := bT H hc7
            refine w_reg ?_
            refine stp hA (r_mv hA rfl) rfl fun a hA => 
              stp hA (r_ldG Tryd.underlying34 rfl hI.agr (ErV.le (fun _ _ h => h) (hi1.le.trans hle1) he1) hA) rfl fun a hA => 
              stp hA (r_nilc hA rfl) rfl fun a hA => 
              stp hA (r_fd (k := 2) Tryd.underlying143 rfl sz34 hA rfl rfl) rfl fun a hA => ?_
            have hsc : ErS μ2 e1 xErrMany := (ErV.le (fun _ _ h => h) (hi1.le.trans hle1) he1)
            refine o_st (j := 0) [[vvc3], [.int .i64 c4]] [[vvc5]] [[e1]] [] sz34 rfl rfl (by intro c hc; simp at hc; subst hc; exact ErV.one hsc) hI rfl hA rfl rfl (cells_err hsc) rfl fun w hI => ?_
            refine o_nil ?_
            refine hN9 _ _ ?_
            refine w_seq fun _ hN15 => ?_
            refine w_reg ?_
            refine stp hA (r_as hA rfl) rfl fun a hA => ?_
            refine o_nil ?_
            refine hN15 _ _ ?_
            refine w_ret ?_
            obtain rfl := Option.some.inj (bS H)
            exact ret1 hA Tryd.results27 rfl ⟨_, rfl, vvc3, e1, μ2, rfl, (in_lit .u64 0 rfl), wc3, wc4, (ErV.le (fun _ _ h => h) (hi1.le.trans hle1) he1), hI⟩
          · have hc70 := hc7; have hc7 := of_decide_eq_false hc7; have H := bF H hc7
            refine w_seq fun _ hN16 => ?_
            refine w_reg ?_
            refine stp hA (r_mv hA rfl) rfl fun a hA => 
              stp hA (r_as hA rfl) rfl fun a hA => ?_
            refine o_nil ?_
            refine hN16 _ _ ?_
            refine w_ret ?_
            obtain rfl := Option.some.inj (bS H)
            exact ret1 hA Tryd.results27 rfl ⟨_, rfl, vvc3, vvc5, μ2, rfl, wc2, wc3, wc4, wc5, hI⟩
set_option maxRecDepth 20000 in
theorem compact_Reader_Left.c (μ : Store) (w0 : World) (hμ : Agr μ w0) (x0 : compactReader) (vp1 : Value) (vp2 : Value) (g0 : Nat) (hp1 : Slc (RI .u8) 1 μ vp1 x0.b) (hp2 : InR .i64 x0.at_) (hp3 : ErS μ vp2 x0.err) (ho0 : Its μ w0 [cel g0 [[vp1], [.int .i64 x0.at_], [vp2]] 143]) (r : Int) (H : compact_Reader_Left.f x0 = some r) :
    Calls Tryd.prog 28 [.pointer (some ⟨g0, 0, none⟩)].toArray w0 (fun e w' => ∃ v, e = .returned v ∧ v = .int .i64 r ∧ InR .i64 r ∧ Iv w0 (many [cel g0 [[vp1], [.int .i64 x0.at_], [vp2]] 143]).foot μ μ [cel g0 [[vp1], [.int .i64 x0.at_], [vp2]] 143] w') := by
  refine enter Tryd.func28 rfl Tryd.ntmps28 rfl fun a hA => ?_
  have hI := Iv.startN hμ ho0
  have H := bI H
  refine w_seq fun _ hN1 => ?_
  refine w_reg ?_
  refine stp hA (r_as hA rfl) rfl fun a hA => ?_
  refine o_nil ?_
  refine hN1 _ _ ?_
  refine w_seq fun _ hN2 => ?_
  refine w_draw mo (by kernel_rfl) hI ?_
  refine qtp hA (fun _ hI => r_mv hA rfl) rfl fun a hA => 
    qtp hA (fun _ hI => r_nilc hA rfl) rfl fun a hA => 
    qtp hA (fun _ hI => r_fd (k := 0) Tryd.underlying143 rfl sz23 hA rfl rfl) rfl fun a hA => 
    qtp hA (fun _ hI => r_ld1 (j := 0) [] [[.int .i64 x0.at_], [vp2]] Tryd.underlying23 rfl hI rfl hA rfl rfl) rfl fun a hA => ?_
  obtain ⟨_, hsl1⟩ := Slc.sv hp1
  refine qtp hA (fun _ hI => r_slen Tryd.underlying23 hsl1 hA rfl) rfl fun a hA => 
    qtp hA (fun _ hI => r_mv hA rfl) rfl fun a hA => 
    qtp hA (fun _ hI => r_nilc hA rfl) rfl fun a hA => 
    qtp hA (fun _ hI => r_fd (k := 1) Tryd.underlying143 rfl sz3 hA rfl rfl) rfl fun a hA => 
    qtp hA (fun _ hI => r_ld1 (j := 0) [[vp1]] [[vp2]] Tryd.underlying3 rfl hI rfl hA rfl rfl) rfl fun a hA => 
    qtp hA (fun _ hI => r_sub hA rfl rfl) rfl fun a hA => 
    qtp hA (fun _ hI => r_as hA rfl) rfl fun a hA => ?_
  refine q_nil fun w hI => ?_
  refine hN2 _ _ ?_
  refine w_ret ?_
  obtain rfl := Option.some.inj (bS H)
  exact ret1 hA Tryd.results28 rfl ⟨_, rfl, rfl, (wrap_in _ _), (hI.less (Store.le.refl _) hI.le)⟩
set_option maxRecDepth 20000 in
theorem compact_Reader_Err.c (μ : Store) (w0 : World) (hμ : Agr μ w0) (x0 : compactReader) (vp1 : Value) (vp2 : Value) (g0 : Nat) (hp1 : Slc (RI .u8) 1 μ vp1 x0.b) (hp2 : InR .i64 x0.at_) (hp3 : ErS μ vp2 x0.err) (ho0 : Its μ w0 [cel g0 [[vp1], [.int .i64 x0.at_], [vp2]] 143]) (r : Er) (H : compact_Reader_Err.f x0 = some r) :
    Calls Tryd.prog 30 [.pointer (some ⟨g0, 0, none⟩)].toArray w0 (fun e w' => ∃ v, e = .returned v ∧ ∃ (v0 : Value) (μ' : Store), v = v0 ∧ ErS μ' v0 r ∧ Iv w0 (many [cel g0 [[vp1], [.int .i64 x0.at_], [vp2]] 143]).foot μ μ' [cel g0 [[vp1], [.int .i64 x0.at_], [vp2]] 143] w') := by
  refine enter Tryd.func30 rfl Tryd.ntmps30 rfl fun a hA => ?_
  have hI := Iv.startN hμ ho0
  have H := bI H
  refine w_seq fun _ hN1 => ?_
  refine w_reg ?_
  refine stp hA (r_as hA rfl) rfl fun a hA => ?_
  refine o_nil ?_
  refine hN1 _ _ ?_
  refine w_seq fun _ hN2 => ?_
  refine w_reg ?_
  refine stp hA (r_mv hA rfl) rfl fun a hA => 
    stp hA (r_nilc hA rfl) rfl fun a hA => 
    stp hA (r_fd (k := 2) Tryd.underlying143 rfl sz34 hA rfl rfl) rfl fun a hA => 
    stp hA (r_ld1 (j := 0) [[vp1], [.int .i64 x0.at_]] [] Tryd.underlying34 rfl hI rfl hA rfl rfl) rfl fun a hA => 
    stp hA (r_as hA rfl) rfl fun a hA => ?_
  refine o_nil ?_
  refine hN2 _ _ ?_
  refine w_ret ?_
  obtain rfl := Option.some.inj (bS H)
  exact ret1 hA Tryd.results30 rfl ⟨_, rfl, vp2, μ, rfl, hp3, hI⟩
set_option maxRecDepth 20000 in
theorem compact_Reader_Eight.c (μ : Store) (w0 : World) (hμ : Agr μ w0) (x0 : compactReader) (vp1 : Value) (vp2 : Value) (g0 : Nat) (hp1 : Slc (RI .u8) 1 μ vp1 x0.b) (hp2 : InR .i64 x0.at_) (hp3 : ErS μ vp2 x0.err) (ho0 : Its μ w0 [cel g0 [[vp1], [.int .i64 x0.at_], [vp2]] 143]) (e8 : Value) (he8 : ErS μ e8 (Er.b 9)) (r : Int × compactReader) (H : compact_Reader_Eight.f x0 = some r) :
    Calls Tryd.prog 34 [.pointer (some ⟨g0, 0, none⟩)].toArray w0 (fun e w' => ∃ v, e = .returned v ∧ ∃ (vp_1 : Value) (vp_2 : Value) (μ' : Store), v = .int .u64 (r.1) ∧ InR .u64 (r.1) ∧ Slc (RI .u8) 1 μ' vp_1 (r.2).b ∧ InR .i64 (r.2).at_ ∧ ErS μ' vp_2 (r.2).err ∧ Iv w0 (many [cel g0 [[vp1], [.int .i64 x0.at_], [vp2]] 143]).foot μ μ' [cel g0 [[vp_1], [.int .i64 ((r.2).at_)], [vp_2]] 143] w') := by
  refine enter Tryd.func34 rfl Tryd.ntmps34 rfl fun a hA => ?_
  have hI := Iv.startN hμ ho0
  have H := bI H
  refine w_seq fun _ hN1 => ?_
  refine w_reg ?_
  refine stp hA (r_as hA rfl) rfl fun a hA => ?_
  refine o_nil ?_
  refine hN1 _ _ ?_
  refine w_seq fun _ hN2 => ?_
  refine w_reg ?_
  refine stp hA (r_mv hA rfl) rfl fun a hA => ?_
  obtain ⟨r1, hr1, H⟩ := bB H
  refine o_call _ cf95 hA rfl (compact_Reader_whole.c μ _ hI.agr x0 vp1 vp2 g0 hp1 hp2 hp3 (hI.handN 1) 8 (in_lit .i64 8 rfl) e8 he8 r1 hr1) rfl fun v1 a w hz1 hA => ?_
  obtain ⟨vp3, vp4, μ1, rfl, hw1, hp4, hp5, hp6, hi1⟩ := hz1
  have hI := hI.backN 1 hi1
  have hI : Iv w0 (many [cel g0 [[vp1], [.int .i64 x0.at_], [vp2]] 143]).foot μ μ1 [cel g0 [[vp3], [.int .i64 r1.2.at_], [vp4]] 143] w := hI
  refine stp hA (r_as hA rfl) rfl fun a hA => ?_
  refine o_nil ?_
  refine hN2 _ _ ?_
  refine w_ret ?_
  obtain rfl := Option.some.inj (bS H)
  exact ret1 hA Tryd.results34 rfl ⟨_, rfl, vp3, vp4, μ1, rfl, hw1, hp4, hp5, hp6, hI⟩
set_option maxRecDepth 20000 in
theorem compact_Reader_Four.c (μ : Store) (w0 : World) (hμ : Agr μ w0) (x0 : compactReader) (vp1 : Value) (vp2 : Value) (g0 : Nat) (hp1 : Slc (RI .u8) 1 μ vp1 x0.b) (hp2 : InR .i64 x0.at_) (hp3 : ErS μ vp2 x0.err) (ho0 : Its μ w0 [cel g0 [[vp1], [.int .i64 x0.at_], [vp2]] 143]) (e8 : Value) (he8 : ErS μ e8 (Er.b 9)) (r : Int × compactReader) (H : compact_Reader_Four.f x0 = some r) :
    Calls Tryd.prog 35 [.pointer (some ⟨g0, 0, none⟩)].toArray w0 (fun e w' => ∃ v, e = .returned v ∧ ∃ (vp_1 : Value) (vp_2 : Value) (μ' : Store), v = .int .u32 (r.1) ∧ InR .u32 (r.1) ∧ Slc (RI .u8) 1 μ' vp_1 (r.2).b ∧ InR .i64 (r.2).at_ ∧ ErS μ' vp_2 (r.2).err ∧ Iv w0 (many [cel g0 [[vp1], [.int .i64 x0.at_], [vp2]] 143]).foot μ μ' [cel g0 [[vp_1], [.int .i64 ((r.2).at_)], [vp_2]] 143] w') := by
  refine enter Tryd.func35 rfl Tryd.ntmps35 rfl fun a hA => ?_
  have hI := Iv.startN hμ ho0
  have H := bI H
  refine w_seq fun _ hN1 => ?_
  refine w_reg ?_
  refine stp hA (r_as hA rfl) rfl fun a hA => ?_
  refine o_nil ?_
  refine hN1 _ _ ?_
  refine w_seq fun _ hN2 => ?_
  refine w_reg ?_
  refine stp hA (r_mv hA rfl) rfl fun a hA => ?_
  obtain ⟨r1, hr1, H⟩ := bB H
  refine o_call _ cf95 hA rfl (compact_Reader_whole.c μ _ hI.agr x0 vp1 vp2 g0 hp1 hp2 hp3 (hI.handN 1) 4 (in_lit .i64 4 rfl) e8 he8 r1 hr1) rfl fun v1 a w hz1 hA => ?_
  obtain ⟨vp3, vp4, μ1, rfl, hw1, hp4, hp5, hp6, hi1⟩ := hz1
  have hI := hI.backN 1 hi1
  have hI : Iv w0 (many [cel g0 [[vp1], [.int .i64 x0.at_], [vp2]] 143]).foot μ μ1 [cel g0 [[vp3], [.int .i64 r1.2.at_], [vp4]] 143] w := hI
  refine stp hA (r_conv Tryd.underlying22 Tryd.underlying39 hA rfl) rfl fun a hA => 
    stp hA (r_as hA rfl) rfl fun a hA => ?_
  refine o_nil ?_
  refine hN2 _ _ ?_
  refine w_ret ?_
  obtain rfl := Option.some.inj (bS H)
  exact ret1 hA Tryd.results35 rfl ⟨_, rfl, vp3, vp4, μ1, rfl, (wrap_in _ _), hp4, hp5, hp6, hI⟩
set_option maxRecDepth 20000 in
theorem compact_Reader_Bytes.c (μ : Store) (w0 : World) (hμ : Agr μ w0) (x0 : compactReader) (vp1 : Value) (vp2 : Value) (g0 : Nat) (hp1 : Slc (RI .u8) 1 μ vp1 x0.b) (hp2 : InR .i64 x0.at_) (hp3 : ErS μ vp2 x0.err) (ho0 : Its μ w0 [cel g0 [[vp1], [.int .i64 x0.at_], [vp2]] 143]) (x1 : Int) (hx1 : InR .i64 x1) (e8 : Value) (he8 : ErS μ e8 (Er.b 9)) (r : (List Int) × compactReader) (H : compact_Reader_Bytes.f x0 x1 = some r) :
    Calls Tryd.prog 37 [.pointer (some ⟨g0, 0, none⟩), .int .i64 x1].toArray w0 (fun e w' => ∃ v, e = .returned v ∧ ∃ (v0 : Value) (c0 : List Value) (vp_1 : Value) (vp_2 : Value) (μ' : Store), v = v0 ∧ Els (RI .u8) 1 (r.1) c0 ∧ Slc (RI .u8) 1 μ' vp_1 (r.2).b ∧ InR .i64 (r.2).at_ ∧ ErS μ' vp_2 (r.2).err ∧ Iv w0 (many [cel g0 [[vp1], [.int .i64 x0.at_], [vp2]] 143]).foot μ μ' [row 5 1 v0 (r.1).length c0, cel g0 [[vp_1], [.int .i64 ((r.2).at_)], [vp_2]] 143] w') := by
  refine enter Tryd.func37 rfl Tryd.ntmps37 rfl fun a hA => ?_
  have hI := Iv.startN hμ ho0
  have H := bI H
  refine w_seq fun _ hN1 => ?_
  refine w_reg ?_
  refine stp hA (r_as hA rfl) rfl fun a hA => ?_
  refine o_nil ?_
  refine hN1 _ _ ?_
  refine w_seq fun _ hN2 => ?_
  refine w_seq fun _ hN3 => ?_
  refine w_reg ?_
  refine stp hA (r_mv hA rfl) rfl fun a hA => 
    stp hA (r_leq hA rfl rfl) rfl fun a hA => ?_
  refine o_nil ?_
  refine hN3 _ _ ?_
  refine w_cond hA rfl (fun hc1 => ?_) (fun hc1 => ?_)
  · have hc10 := hc1; have hc1 := of_decide_eq_true hc1; have H := bT H hc1
    refine w_seq fun _ hN4 => ?_
    refine w_reg ?_
    refine stp hA (r_as hA rfl) rfl fun a hA => ?_
    refine o_nil ?_
    refine hN4 _ _ ?_
    refine w_ret ?_
    have hI := hI.nilRow 5 1
    obtain rfl := Option.some.inj (bS H)
    exact ret1 hA Tryd.results37 rfl ⟨_, rfl, (.slice none 0 0), [], vp1, vp2, μ, rfl, (Els.nil (RE := (RI .u8)) (sz := 1)), hp1, hp2, hp3, hI⟩
  · have hc10 := hc1; have hc1 := of_decide_eq_false hc1; have H := bF H hc1
    refine w_skip ?_
    refine hN2 _ _ ?_
    refine w_seq fun _ hN5 => ?_
    refine w_reg ?_
    refine stp hA (r_mv hA rfl) rfl fun a hA => 
      stp hA (r_mv hA rfl) rfl fun a hA => ?_
    obtain ⟨r1, hr1, H⟩ := bB H
    refine o_call _ cf97 hA rfl (compact_Reader_next.c μ _ hI.agr x0 vp1 vp2 g0 hp1 hp2 hp3 (hI.handN 1) x1 hx1 e8 he8 r1 hr1) rfl fun v1 a w hz1 hA => ?_
    obtain ⟨_, vp3, vp4, μ1, rfl, hS1, hp4, hp5, hp6, hi1⟩ := hz1
    have hI := hI.backN 1 hi1
    have hI : Iv w0 (many [cel g0 [[vp1], [.int .i64 x0.at_], [vp2]] 143]).foot μ μ1 [cel g0 [[vp3], [.int .i64 r1.2.at_], [vp4]] 143] w := hI
    obtain ⟨r2, hr2, H⟩ := bB H
    refine o_call _ cf93 hA rfl (bytes_Clone.c μ1 _ hI.agr r1.1 v1 hS1 r2 hr2) rfl fun v2 a w hz2 hA => ?_
    obtain ⟨_, cs1, rfl, hE1, hi2⟩ := hz2
    have hI := hI.call hi2
    refine stp hA (r_as hA rfl) rfl fun a hA => ?_
    refine o_nil ?_
    refine hN5 _ _ ?_
    refine w_ret ?_
    obtain rfl := Option.some.inj (bS H)
    exact ret1 hA Tryd.results37 rfl ⟨_, rfl, v2, cs1, vp3, vp4, μ1, rfl, hE1, hp4, hp5, hp6, hI⟩
set_option maxRecDepth 20000 in
theorem compact_Reader_Hash.c (μ : Store) (w0 : World) (hμ : Agr μ w0) (x0 : compactReader) (vp1 : Value) (vp2 : Value) (g0 : Nat) (hp1 : Slc (RI .u8) 1 μ vp1 x0.b) (hp2 : InR .i64 x0.at_) (hp3 : ErS μ vp2 x0.err) (ho0 : Its μ w0 [cel g0 [[vp1], [.int .i64 x0.at_], [vp2]] 143]) (e8 : Value) (he8 : ErS μ e8 (Er.b 9)) (r : (List Int) × compactReader) (H : compact_Reader_Hash.f x0 = some r) :
    Calls Tryd.prog 42 [.pointer (some ⟨g0, 0, none⟩)].toArray w0 (fun e w' => ∃ v, e = .returned v ∧ ∃ (vp_1 : Value) (vp_2 : Value) (μ' : Store), v = .agg [av .u8 32 (r.1)].flatten.toArray ∧ Arr .u8 32 (r.1) ∧ Slc (RI .u8) 1 μ' vp_1 (r.2).b ∧ InR .i64 (r.2).at_ ∧ ErS μ' vp_2 (r.2).err ∧ Iv w0 (many [cel g0 [[vp1], [.int .i64 x0.at_], [vp2]] 143]).foot μ μ' [cel g0 [[vp_1], [.int .i64 ((r.2).at_)], [vp_2]] 143] w') := by
  refine enter Tryd.func42 rfl Tryd.ntmps42 rfl fun a hA => ?_
  have hI := Iv.startN hμ ho0
  have H := bI H
  refine w_seq fun _ hN1 => ?_
  refine w_reg ?_
  refine o_new [av .u8 32 (List.replicate 32 0)] zr55 hI hA rfl fun g1 a w hA hI hg1 => ?_
  refine o_nil ?_
  refine hN1 _ _ ?_
  refine w_seq fun _ hN2 => ?_
  refine w_reg ?_
  refine o_new [av .u8 32 (List.replicate 32 0)] zr55 hI hA rfl fun g2 a w hA hI hg2 => ?_
  refine o_nil ?_
  refine hN2 _ _ ?_
  refine w_seq fun _ hN3 => ?_
  refine w_any [2, 3] mo hI fun w hI => ?_
  refine g_easy (i := 0) hA rfl rfl (by kernel_rfl) (.inr hI) (fun _ => r_slv (i := 0) (j := 32) Tryd.underlying55 sz5 hA rfl rfl rfl (by decide) (by decide) (by decide) (by decide) rfl) rfl fun a hA => ?_
  refine g_easy (i := 1) hA rfl rfl (by kernel_rfl) (.inr hI) (fun _ => r_mv hA rfl) rfl fun a hA => ?_
  refine g_forced (i := 2) rfl (by kernel_rfl) ?_
  obtain ⟨r1, hr1, H⟩ := bB H
  have hI := hI.sel [2, 0, 1] (by decide) rfl
  refine o_call _ cf97 hA rfl (compact_Reader_next.c μ _ hI.agr x0 vp1 vp2 g0 hp1 hp2 hp3 (hI.handN 1) 32 (in_lit .i64 32 rfl) e8 he8 r1 hr1) rfl fun v1 a w hz1 hA => ?_
  obtain ⟨_, vp3, vp4, μ1, rfl, hS1, hp4, hp5, hp6, hi1⟩ := hz1
  have hI := hI.backN 1 hi1
  have hI : Iv w0 (many [cel g0 [[vp1], [.int .i64 x0.at_], [vp2]] 143]).foot μ μ1 [cel g0 [[vp3], [.int .i64 r1.2.at_], [vp4]] 143, cel g2 [av .u8 32 (List.replicate 32 0)] 55, cel g1 [av .u8 32 (List.replicate 32 0)] 55] w := hI
  refine o_nil ?_
  refine ⟨(.inl (by kernel_rfl)), ?_⟩
  refine g_forced (i := 3) rfl (by kernel_rfl) ?_
  have hz2 : Slc (RI .u8) 1 μ1 v1 r1.1 := hS1
  refine o_cpy (j := 1) [] [] Tryd.underlying23 sz5 (arr_zero _ _) hz2 hI rfl rfl hA rfl rfl rfl fun a w hI hA => ?_
  refine o_nil ?_
  refine ⟨(.inl (by kernel_rfl)), ?_⟩
  refine g_nil (by kernel_rfl) ?_
  refine hN3 _ _ ?_
  refine w_seq fun _ hN4 => ?_
  refine w_reg ?_
  refine stp hA (r_ldA (j := 1) [] [av .u8 32 (cpy (List.replicate 32 0) r1.1)] [] Tryd.underlying55 rfl sz55 rfl hI rfl hA rfl rfl) rfl fun a hA => 
    o_st (j := 2) [] [av .u8 32 (List.replicate 32 0)] [av .u8 32 (cpy (List.replicate 32 0) r1.1)] [] sz55 rfl rfl (fl_cons (one_av _ _ _) fl_nil) hI rfl hA rfl rfl rfl rfl fun w hI => ?_
  refine o_nil ?_
  refine hN4 _ _ ?_
  refine w_ret ?_
  obtain rfl := Option.some.inj (bS H)
  exact retc Tryd.underlying55 rfl sz55 rfl hI (j := 2) rfl hA Tryd.results42 rfl ⟨_, rfl, vp3, vp4, μ1, rfl, (cpy_arr (arr_zero _ _) (Slc.rng hz2)), hp4, hp5, hp6, (hI.sel [0] (by decide) rfl)⟩
end Go.Proofs.YtpeelghbhihgkaaDoor.T
namespace Go.Proofs.YtpeelghbhihgkaaDoor.T
open Go Go.Proofs Go.Proofs.YtpeelghbhihgkaaDoor.K
set_option linter.unusedVariables false
set_option linter.unusedSimpArgs false
noncomputable def sargassolaw2_first.f : Option Bool := ((compact_Put.f ([]) 253).bind fun r1 => (((if (r1.length : Int) = 3 then (if 0 < (r1.length : Int) then (if (r1.getD (0 : Int).toNat 0) = 253 then (if 1 < (r1.length : Int) then (if (r1.getD (1 : Int).toNat 0) = 253 then (if 2 < (r1.length : Int) then (if (r1.getD (2 : Int).toNat 0) = 0 then ((compact_Len.f 1).bind fun r2 => some (decide (r2 = 1))) else some false) else none) else some false) else none) else some false) else none) else some false)).bind fun c1 => some c1))
end Go.Proofs.YtpeelghbhihgkaaDoor.T
namespace Go.Proofs.YtpeelghbhihgkaaDoor.T
open Go Go.Proofs Go.Proofs.YtpeelghbhihgkaaDoor.K
set_option linter.unusedVariables false
set_option linter.unusedSimpArgs false
set_option maxRecDepth 20000 in
theorem sargassolaw2_first.c (μ : Store) (w0 : World) (hμ : Agr μ w0) (r : Bool) (H : sargassolaw2_first.f = some r) :
    Calls Tryd.prog 22 [].toArray w0 (fun e w' => ∃ v, e = .returned v ∧ v = .bool r ∧ True ∧ Iv w0 [] μ μ [] w') := by
  refine enter Tryd.func22 rfl Tryd.ntmps22 rfl fun a hA => ?_
  have hI := Iv.start hμ
  have H := bI H
  refine w_seq fun _ hN1 => ?_
  refine w_reg ?_
  refine stp hA (r_as hA rfl) rfl fun a hA => ?_
  refine o_nil ?_
  refine hN1 _ _ ?_
  refine w_seq fun _ hN2 => ?_
  refine w_reg ?_
  obtain ⟨r1, hr1, H⟩ := bB H
  refine o_call _ cf23 hA rfl (compact_Put.c μ _ hI.agr ([]) (.slice none 0 0) (slc_nil _ _ _) 253 (in_lit .u64 253 rfl) r1 hr1) rfl fun v1 a w hz1 hA => ?_
  obtain ⟨_, cs1, rfl, hE1, hi1⟩ := hz1
  have hI := hI.call hi1
  refine stp hA (r_as hA rfl) rfl fun a hA => ?_
  refine o_nil ?_
  refine hN2 _ _ ?_
  obtain ⟨c1, hz2, Hk1⟩ := bB H
  refine w_cut (fun a w => Fr a 28 [(0, .bool c1), (1, v1)] ∧ Iv w0 [] μ μ [row 5 1 v1 r1.length cs1] w) ?_ ?_
  · have H := bI hz2
    refine w_reg ?_
    refine stp hA (r_mv hA rfl) rfl fun a hA => ?_
    have hlen1 := Iv.row_in hI (j := 0) rfl
    refine stp hA (r_rlen (xs := 0) Tryd.underlying23 hI (j := 0) rfl hA rfl) rfl fun a hA => 
      stp hA (r_eql hA rfl rfl) rfl fun a hA => 
      stp hA (r_mv hA rfl) rfl fun a hA => ?_
    rcases Bool.eq_false_or_eq_true (decide ((r1.length : Int) = 3)) with hc1 | hc1
    · have hc10 := hc1; have hc1 := of_decide_eq_true hc1; have H := bT H hc1
      refine o_yes hA rfl rfl hc10 <| 
        stp hA (r_mv hA rfl) rfl fun a hA => 
        o_yes hA rfl rfl hc10 <| ?_
      obtain ⟨hb1, H⟩ := bG H
      refine stp hA (r_rix (j := 0) Tryd.underlying23 sz5 hI rfl hA rfl rfl (by decide) hb1) rfl fun a hA => 
        o_yes hA rfl rfl hc10 <| ?_
      have hq1 := els_get hE1 (by decide) hb1
      refine stp hA (r_rld1 (j := 0) Tryd.underlying5 rfl hI rfl hq1 hA rfl (by simp only [Nat.mul_one])) rfl fun a hA => 
        o_yes hA rfl rfl hc10 <| 
        stp hA (r_eql hA rfl rfl) rfl fun a hA => 
        stp hA (r_pick_t hA rfl hc10 rfl) rfl fun a hA => 
        stp hA (r_mv hA rfl) rfl fun a hA => ?_
      rcases Bool.eq_false_or_eq_true (decide ((r1.getD (0 : Int).toNat 0) = 253)) with hc2 | hc2
      · have hc20 := hc2; have hc2 := of_decide_eq_true hc2; have H := bT H hc2
        refine o_yes hA rfl rfl hc20 <| 
          stp hA (r_mv hA rfl) rfl fun a hA => 
          o_yes hA rfl rfl hc20 <| ?_
        obtain ⟨hb2, H⟩ := bG H
        refine stp hA (r_rix (j := 0) Tryd.underlying23 sz5 hI rfl hA rfl rfl (by decide) hb2) rfl fun a hA => 
          o_yes hA rfl rfl hc20 <| ?_
        have hq2 := els_get hE1 (by decide) hb2
        refine stp hA (r_rld1 (j := 0) Tryd.underlying5 rfl hI rfl hq2 hA rfl (by simp only [Nat.mul_one])) rfl fun a hA => 
          o_yes hA rfl rfl hc20 <| 
          stp hA (r_eql hA rfl rfl) rfl fun a hA => 
          stp hA (r_pick_t hA rfl hc20 rfl) rfl fun a hA => 
          stp hA (r_mv hA rfl) rfl fun a hA => ?_
        rcases Bool.eq_false_or_eq_true (decide ((r1.getD (1 : Int).toNat 0) = 253)) with hc3 | hc3
        · have hc30 := hc3; have hc3 := of_decide_eq_true hc3; have H := bT H hc3
          refine o_yes hA rfl rfl hc30 <| 
            stp hA (r_mv hA rfl) rfl fun a hA => 
            o_yes hA rfl rfl hc30 <| ?_
          obtain ⟨hb3, H⟩ := bG H
          refine stp hA (r_rix (j := 0) Tryd.underlying23 sz5 hI rfl hA rfl rfl (by decide) hb3) rfl fun a hA => 
            o_yes hA rfl rfl hc30 <| ?_
          have hq3 := els_get hE1 (by decide) hb3
          refine stp hA (r_rld1 (j := 0) Tryd.underlying5 rfl hI rfl hq3 hA rfl (by simp only [Nat.mul_one])) rfl fun a hA => 
            o_yes hA rfl rfl hc30 <| 
            stp hA (r_eql hA rfl rfl) rfl fun a hA => 
            stp hA (r_pick_t hA rfl hc30 rfl) rfl fun a hA => 
            stp hA (r_mv hA rfl) rfl fun a hA => ?_
          rcases Bool.eq_false_or_eq_true (decide ((r1.getD (2 : Int).toNat 0) = 0)) with hc4 | hc4
          · have hc40 := hc4; have hc4 := of_decide_eq_true hc4; have H := bT H hc4
            refine o_yes hA rfl rfl hc40 <| ?_
            obtain ⟨r2, hr2, H⟩ := bB H
            refine o_callp (u := .int .i64 r2) cf24 hA rfl hI (compact_Len.c μ _ hI.agr 1 (in_lit .u64 1 rfl) r2 hr2) rfl fun a w hz3 hI hA => 
              o_yes hA rfl rfl hc40 <| 
              stp hA (r_eql hA rfl rfl) rfl fun a hA => 
              stp hA (r_pick_t hA rfl hc40 rfl) rfl fun a hA => 
              stp hA (r_as hA rfl) rfl fun a hA => ?_
            refine o_nil ?_
            cases Option.some.inj (bS H)
            exact ⟨hA.sub ⟨rfl, rfl, trivial⟩, hI⟩
          · have hc40 := hc4; have hc4 := of_decide_eq_false hc4; have H := bF H hc4
            refine o_no hA rfl rfl (by rw [hc40]; simp [vb]) rfl fun a hA => 
              o_no hA rfl rfl (by rw [hc40]; simp [vb]) rfl fun a hA => 
              stp hA (r_pick_f hA rfl hc40 rfl) rfl fun a hA => 
              stp hA (r_as hA rfl) rfl fun a hA => ?_
            refine o_nil ?_
            cases Option.some.inj (bS H)
            exact ⟨hA.sub ⟨rfl, rfl, trivial⟩, hI⟩
        · have hc30 := hc3; have hc3 := of_decide_eq_false hc3; have H := bF H hc3
          refine o_no hA rfl rfl (by rw [hc30]; simp [vb]) rfl fun a hA => 
            o_no hA rfl rfl (by rw [hc30]; simp [vb]) rfl fun a hA => 
            o_no hA rfl rfl (by rw [hc30]; simp [vb]) rfl fun a hA => 
            o_no hA rfl rfl (by rw [hc30]; simp [vb]) rfl fun a hA => 
            stp hA (r_pick_f hA rfl hc30 rfl) rfl fun a hA => 
            stp hA (r_mv hA rfl) rfl fun a hA => 
            o_no hA rfl rfl (by simp [vb]) rfl fun a hA => 
            o_no hA rfl rfl (by simp [vb]) rfl fun a hA => 
            stp hA (r_pick_f hA rfl rfl rfl) rfl fun a hA => 
            stp hA (r_as hA rfl) rfl fun a hA => ?_
          refine o_nil ?_
          cases Option.some.inj (bS H)
          exact ⟨hA.sub ⟨rfl, rfl, trivial⟩, hI⟩
      · have hc20 := hc2; have hc2 := of_decide_eq_false hc2; have H := bF H hc2
        refine o_no hA rfl rfl (by rw [hc20]; simp [vb]) rfl fun a hA => 
          o_no hA rfl rfl (by rw [hc20]; simp [vb]) rfl fun a hA => 
          o_no hA rfl rfl (by rw [hc20]; simp [vb]) rfl fun a hA => 
          o_no hA rfl rfl (by rw [hc20]; simp [vb]) rfl fun a hA => 
          stp hA (r_pick_f hA rfl hc20 rfl) rfl fun a hA => 
          stp hA (r_mv hA rfl) rfl fun a hA => 
          o_no hA rfl rfl (by simp [vb]) rfl fun a hA => 
          o_no hA rfl rfl (by simp [vb]) rfl fun a hA => 
          o_no hA rfl rfl (by simp [vb]) rfl fun a hA => 
          o_no hA rfl rfl (by simp [vb]) rfl fun a hA => 
          stp hA (r_pick_f hA rfl rfl rfl) rfl fun a hA => 
          stp hA (r_mv hA rfl) rfl fun a hA => 
          o_no hA rfl rfl (by simp [vb]) rfl fun a hA => 
          o_no hA rfl rfl (by simp [vb]) rfl fun a hA => 
          stp hA (r_pick_f hA rfl rfl rfl) rfl fun a hA => 
          stp hA (r_as hA rfl) rfl fun a hA => ?_
        refine o_nil ?_
        cases Option.some.inj (bS H)
        exact ⟨hA.sub ⟨rfl, rfl, trivial⟩, hI⟩
    · have hc10 := hc1; have hc1 := of_decide_eq_false hc1; have H := bF H hc1
      refine o_no hA rfl rfl (by rw [hc10]; simp [vb]) rfl fun a hA => 
        o_no hA rfl rfl (by rw [hc10]; simp [vb]) rfl fun a hA => 
        o_no hA rfl rfl (by rw [hc10]; simp [vb]) rfl fun a hA => 
        o_no hA rfl rfl (by rw [hc10]; simp [vb]) rfl fun a hA => 
        stp hA (r_pick_f hA rfl hc10 rfl) rfl fun a hA => 
        stp hA (r_mv hA rfl) rfl fun a hA => 
        o_no hA rfl rfl (by simp [vb]) rfl fun a hA => 
        o_no hA rfl rfl (by simp [vb]) rfl fun a hA => 
        o_no hA rfl rfl (by simp [vb]) rfl fun a hA => 
        o_no hA rfl rfl (by simp [vb]) rfl fun a hA => 
        stp hA (r_pick_f hA rfl rfl rfl) rfl fun a hA => 
        stp hA (r_mv hA rfl) rfl fun a hA => 
        o_no hA rfl rfl (by simp [vb]) rfl fun a hA => 
        o_no hA rfl rfl (by simp [vb]) rfl fun a hA => 
        o_no hA rfl rfl (by simp [vb]) rfl fun a hA => 
        o_no hA rfl rfl (by simp [vb]) rfl fun a hA => 
        stp hA (r_pick_f hA rfl rfl rfl) rfl fun a hA => 
        stp hA (r_mv hA rfl) rfl fun a hA => 
        o_no hA rfl rfl (by simp [vb]) rfl fun a hA => 
        o_no hA rfl rfl (by simp [vb]) rfl fun a hA => 
        stp hA (r_pick_f hA rfl rfl rfl) rfl fun a hA => 
        stp hA (r_as hA rfl) rfl fun a hA => ?_
      refine o_nil ?_
      cases Option.some.inj (bS H)
      exact ⟨hA.sub ⟨rfl, rfl, trivial⟩, hI⟩
  · rintro a w ⟨hA, hI⟩
    have H := Hk1
    refine w_ret ?_
    obtain rfl := Option.some.inj (bS H)
    exact ret1 hA Tryd.results22 rfl ⟨_, rfl, rfl, trivial, hI.forget0⟩
end Go.Proofs.YtpeelghbhihgkaaDoor.T
namespace Go.Proofs.YtpeelghbhihgkaaDoor.T
open Go Go.Proofs Go.Proofs.YtpeelghbhihgkaaDoor.K
set_option linter.unusedVariables false
set_option linter.unusedSimpArgs false
noncomputable def sargassolaw2_CompactStops.f (x0 : List Int) (x1 : Int) : Option Bool := ((sargassolaw2_first.f).bind fun r1 => (if r1 = true then (if 30 < (x0.length : Int) then some r1 else ((compact_Read.f x0).bind fun r2 => ((sargassoworld_Number.f x1 50).bind fun r3 => ((compact_Reader_Bytes.f r2 (IntKind.i64.wrap ((IntKind.i64.wrap ((x0.length : Int) + 1)) + r3))).bind fun r4 => ((compact_Reader_Err.f r4.2).bind fun r5 => ((compact_Reader_Left.f r4.2).bind fun r6 => ((compact_Reader_Hash.f r4.2).bind fun r7 => ((compact_Reader_Bytes.f r7.2 (x0.length : Int)).bind fun r8 => (((if r1 = true then (if (r4.1.length : Int) = 0 then ((sargassosee_Is.f r5 101).bind fun r9 => (if r9 = true then ((compact_Reader_Num.f r8.2 5).bind fun r10 => (if r10.1 = 0 then ((compact_Reader_Four.f r10.2).bind fun r11 => (if r11.1 = 0 then ((compact_Reader_Eight.f r11.2).bind fun r12 => (if r12.1 = 0 then (if (r7.1.getD (0 : Int).toNat 0) = 0 then (if (r7.1.getD (31 : Int).toNat 0) = 0 then (if (r8.1.length : Int) = 0 then ((compact_Reader_Err.f r12.2).bind fun r13 => ((sargassosee_Is.f r13 101).bind fun r14 => (if r14 = true then ((compact_Reader_Left.f r12.2).bind fun r15 => (if r15 = r6 then some (decide (r6 = (x0.length : Int)), r12.2.b, r12.2.at_, r12.2.err) else some (false, r12.2.b, r12.2.at_, r12.2.err))) else some (false, r12.2.b, r12.2.at_, r12.2.err)))) else some (false, r12.2.b, r12.2.at_, r12.2.err)) else some (false, r12.2.b, r12.2.at_, r12.2.err)) else some (false, r12.2.b, r12.2.at_, r12.2.err)) else some (false, r12.2.b, r12.2.at_, r12.2.err))) else some (false, r11.2.b, r11.2.at_, r11.2.err))) else some (false, r10.2.b, r10.2.at_, r10.2.err))) else some (false, r8.2.b, r8.2.at_, r8.2.err))) else some (false, r8.2.b, r8.2.at_, r8.2.err)) else some (false, r8.2.b, r8.2.at_, r8.2.err))).bind fun (c1, c2, c3, c4) => some c1))))))))) else some false))
end Go.Proofs.YtpeelghbhihgkaaDoor.T
namespace Go.Proofs.YtpeelghbhihgkaaDoor.T
open Go Go.Proofs Go.Proofs.YtpeelghbhihgkaaDoor.K
set_option linter.unusedVariables false
set_option linter.unusedSimpArgs false
set_option maxRecDepth 20000 in
theorem sargassolaw2_CompactStops.c (μ : Store) (w0 : World) (hμ : Agr μ w0) (x0 : List Int) (u0 : Value) (hx0 : Slc (RI .u8) 1 μ u0 x0) (x1 : Int) (hx1 : InR .i64 x1) (hG : Gl μ) (r : Bool) (H : sargassolaw2_CompactStops.f x0 x1 = some r) :
    Calls Tryd.prog 7 [u0, .int .i64 x1].toArray w0 (fun e w' => ∃ v, e = .returned v ∧ v = .bool r ∧ True ∧ Iv w0 [] μ μ [] w') := by
  refine enter Tryd.func7 rfl Tryd.ntmps7 rfl fun a hA => ?_
  have hI := Iv.start hμ
  have H := bI H
  obtain ⟨e0, he0⟩ := hG.g0
  obtain ⟨e1, he1⟩ := hG.g1
  obtain ⟨e8, he8⟩ := hG.g8
  refine w_seq fun _ hN1 => ?_
  refine w_reg ?_
  refine stp hA (r_as hA rfl) rfl fun a hA => ?_
  refine o_nil ?_
  refine hN1 _ _ ?_
  refine w_seq fun _ hN2 => ?_
  refine w_reg ?_
  obtain ⟨r1, hr1, H⟩ := bB H
  refine o_callp (u := .bool r1) cf22 hA rfl hI (sargassolaw2_first.c μ _ hI.agr  r1 hr1) rfl fun a w hz1 hI hA => 
    stp hA (r_as hA rfl) rfl fun a hA => ?_
  refine o_nil ?_
  refine hN2 _ _ ?_
  refine w_seq fun _ hN3 => ?_
  refine w_seq fun _ hN4 => ?_
  refine w_reg ?_
  refine stp hA (r_mv hA rfl) rfl fun a hA => 
    stp hA (r_not hA rfl) rfl fun a hA => ?_
  refine o_nil ?_
  refine hN4 _ _ ?_
  refine w_cond hA rfl (fun hc1 => ?_) (fun hc1 => ?_)
  · have hc10 := hc1; have hc1 := nT hc1; have hc1 := ft hc1; have H := bF H hc1
    refine w_seq fun _ hN5 => ?_
    refine w_reg ?_
    refine stp hA (r_as hA rfl) rfl fun a hA => ?_
    refine o_nil ?_
    refine hN5 _ _ ?_
    refine w_ret ?_
    obtain rfl := Option.some.inj (bS H)
    exact ret1 hA Tryd.results7 rfl ⟨_, rfl, rfl, trivial, hI.forget0⟩
  · have hc10 := hc1; have hc1 := nF hc1; have H := bT H hc1
    refine w_skip ?_
    refine hN3 _ _ ?_
    refine w_seq fun _ hN6 => ?_
    refine w_seq fun _ hN7 => ?_
    refine w_reg ?_
    refine stp hA (r_mv hA rfl) rfl fun a hA => ?_
    obtain ⟨_, hsl1⟩ := Slc.sv hx0
    refine stp hA (r_slen Tryd.underlying23 hsl1 hA rfl) rfl fun a hA => 
      stp hA (r_gtr hA rfl rfl) rfl fun a hA => ?_
    refine o_nil ?_
    refine hN7 _ _ ?_
    refine w_cond hA rfl (fun hc2 => ?_) (fun hc2 => ?_)
    · have hc20 := hc2; have hc2 := of_decide_eq_true hc2; have H := bT H hc2
      refine w_seq fun _ hN8 => ?_
      refine w_reg ?_
      refine stp hA (r_mv hA rfl) rfl fun a hA => 
        stp hA (r_as hA rfl) rfl fun a hA => ?_
      refine o_nil ?_
      refine hN8 _ _ ?_
      refine w_ret ?_
      obtain rfl := Option.some.inj (bS H)
      exact ret1 hA Tryd.results7 rfl ⟨_, rfl, rfl, trivial, hI.forget0⟩
    · have hc20 := hc2; have hc2 := of_decide_eq_false hc2; have H := bF H hc2
      refine w_skip ?_
      refine hN6 _ _ ?_
      refine w_seq fun _ hN9 => ?_
      refine w_reg ?_
      refine stp hA (r_mv hA rfl) rfl fun a hA => ?_
      obtain ⟨r2, hr2, H⟩ := bB H
      refine o_call _ cf25 hA rfl (compact_Read.c μ _ hI.agr x0 u0 hx0 r2 hr2) rfl fun v1 a w hz2 hA => ?_
      obtain ⟨g1, vp1, vp2, μ1, rfl, hp1, hp2, hp3, hi1⟩ := hz2
      have hI := hI.call hi1
      refine stp hA (r_as hA rfl) rfl fun a hA => ?_
      refine o_nil ?_
      refine hN9 _ _ ?_
      refine w_seq fun _ hN10 => ?_
      refine w_reg ?_
      refine stp hA (r_mv hA rfl) rfl fun a hA => 
        stp hA (r_mv hA rfl) rfl fun a hA => ?_
      obtain ⟨_, hsl2⟩ := Slc.sv (Slc.le hx0 (fun _ _ h => h) hi1.le)
      refine stp hA (r_slen Tryd.underlying23 hsl2 hA rfl) rfl fun a hA => 
        stp hA (r_add hA rfl rfl) rfl fun a hA => 
        stp hA (r_mv hA rfl) rfl fun a hA => ?_
      obtain ⟨r3, hr3, H⟩ := bB H
      refine o_callp (u := .int .i64 r3) cf29 hA rfl hI (sargassoworld_Number.c μ1 _ hI.agr x1 hx1 50 (in_lit .i64 50 rfl) r3 hr3) rfl fun a w hz3 hI hA => 
        stp hA (r_add hA rfl rfl) rfl fun a hA => ?_
      obtain ⟨r4, hr4, H⟩ := bB H
      refine o_call _ cf37 hA rfl (compact_Reader_Bytes.c μ1 _ hI.agr r2 vp1 vp2 g1 hp1 hp2 hp3 (hI.handN 1) (IntKind.i64.wrap ((IntKind.i64.wrap ((x0.length : Int) + 1)) + r3)) (wrap_in _ _) e8 (ErV.le (fun _ _ h => h) hi1.le he8) r4 hr4) rfl fun v2 a w hz4 hA => ?_
      obtain ⟨_, cs1, vp3, vp4, μ2, rfl, hE1, hp4, hp5, hp6, hi2⟩ := hz4
      have hI := hI.backN 1 hi2
      have hI : Iv w0 [] μ μ2 [row 5 1 v2 r4.1.length cs1, cel g1 [[vp3], [.int .i64 r4.2.at_], [vp4]] 143] w := hI
      refine stp hA (r_as hA rfl) rfl fun a hA => ?_
      refine o_nil ?_
      refine hN10 _ _ ?_
      refine w_seq fun _ hN11 => ?_
      refine w_reg ?_
      refine stp hA (r_mv hA rfl) rfl fun a hA => ?_
      obtain ⟨r5, hr5, H⟩ := bB H
      have hI := hI.sel [1, 0] (by decide) rfl
      refine o_call _ cf30 hA rfl (compact_Reader_Err.c μ2 _ hI.agr r4.2 vp3 vp4 g1 hp4 hp5 hp6 (hI.handN 1) r5 hr5) rfl fun v3 a w hz5 hA => ?_
      obtain ⟨_, μ3, rfl, hS1, hi3⟩ := hz5
      have hI := hI.backN 1 hi3
      have hI : Iv w0 [] μ μ3 [cel g1 [[vp3], [.int .i64 r4.2.at_], [vp4]] 143, row 5 1 v2 r4.1.length cs1] w := hI
      refine stp hA (r_as hA rfl) rfl fun a hA => ?_
      refine o_nil ?_
      refine hN11 _ _ ?_
      refine w_seq fun _ hN12 => ?_
      refine w_reg ?_
      refine stp hA (r_mv hA rfl) rfl fun a hA => ?_
      obtain ⟨r6, hr6, H⟩ := bB H
      refine o_call _ cf28 hA rfl (compact_Reader_Left.c μ3 _ hI.agr r4.2 vp3 vp4 g1 (Slc.le hp4 (fun _ _ h => h) hi3.le) hp5 (ErV.le (fun _ _ h => h) hi3.le hp6) (hI.handN 1) r6 hr6) rfl fun v4 a w hz6 hA => ?_
      obtain ⟨rfl, hw1, hi4⟩ := hz6
      have hI := hI.backN 1 hi4
      have hI : Iv w0 [] μ μ3 [cel g1 [[vp3], [.int .i64 r4.2.at_], [vp4]] 143, row 5 1 v2 r4.1.length cs1] w := hI
      refine stp hA (r_as hA rfl) rfl fun a hA => ?_
      refine o_nil ?_
      refine hN12 _ _ ?_
      refine w_seq fun _ hN13 => ?_
      refine w_reg ?_
      refine stp hA (r_mv hA rfl) rfl fun a hA => ?_
      obtain ⟨r7, hr7, H⟩ := bB H
      refine o_call _ cf42 hA rfl (compact_Reader_Hash.c μ3 _ hI.agr r4.2 vp3 vp4 g1 (Slc.le hp4 (fun _ _ h => h) hi3.le) hp5 (ErV.le (fun _ _ h => h) hi3.le hp6) (hI.handN 1) e8 (ErV.le (fun _ _ h => h) ((hi1.le.trans hi2.le).trans hi3.le) he8) r7 hr7) rfl fun v5 a w hz7 hA => ?_
      obtain ⟨vp5, vp6, μ4, rfl, hw2, hp7, hp8, hp9, hi5⟩ := hz7
      have hI := hI.backN 1 hi5
      have hI : Iv w0 [] μ μ4 [cel g1 [[vp5], [.int .i64 r7.2.at_], [vp6]] 143, row 5 1 v2 r4.1.length cs1] w := hI
      refine o_new [av .u8 32 (List.replicate 32 0)] zr55 hI hA rfl fun g2 a w hA hI hg2 => 
        o_st (j := 0) [] [av .u8 32 (List.replicate 32 0)] [av .u8 32 r7.1] [] sz55 rfl rfl (fl_cons (one_av _ _ _) fl_nil) hI rfl hA rfl rfl rfl rfl fun w hI => ?_
      refine o_nil ?_
      refine hN13 _ _ ?_
      refine w_seq fun _ hN14 => ?_
      refine w_reg ?_
      refine stp hA (r_mv hA rfl) rfl fun a hA => 
        stp hA (r_mv hA rfl) rfl fun a hA => ?_
      obtain ⟨_, hsl3⟩ := Slc.sv (Slc.le hx0 (fun _ _ h => h) (((hi1.le.trans hi2.le).trans hi3.le).trans hi5.le))
      refine stp hA (r_slen Tryd.underlying23 hsl3 hA rfl) rfl fun a hA => ?_
      obtain ⟨r8, hr8, H⟩ := bB H
      have hI := hI.sel [1, 0, 2] (by decide) rfl
      refine o_call _ cf37 hA rfl (compact_Reader_Bytes.c μ4 _ hI.agr r7.2 vp5 vp6 g1 hp7 hp8 hp9 (hI.handN 1) (x0.length : Int) (len_in (Slc.le hx0 (fun _ _ h => h) (((hi1.le.trans hi2.le).trans hi3.le).trans hi5.le))) e8 (ErV.le (fun _ _ h => h) (((hi1.le.trans hi2.le).trans hi3.le).trans hi5.le) he8) r8 hr8) rfl fun v6 a w hz8 hA => ?_
      obtain ⟨_, cs2, vp7, vp8, μ5, rfl, hE2, hp10, hp11, hp12, hi6⟩ := hz8
      have hI := hI.backN 1 hi6
      have hI : Iv w0 [] μ μ5 [row 5 1 v6 r8.1.length cs2, cel g1 [[vp7], [.int .i64 r8.2.at_], [vp8]] 143, cel g2 [av .u8 32 r7.1] 55, row 5 1 v2 r4.1.length cs1] w := hI
      refine stp hA (r_as hA rfl) rfl fun a hA => ?_
      refine o_nil ?_
      refine hN14 _ _ ?_
      obtain ⟨⟨c1, c2, c3, c4⟩, hz9, Hk1⟩ := bB H
      refine w_cut (fun a w => ∃ (μ6 : Store) (vvc2 : Value) (vvc4 : Value), μ5.le μ6 ∧ Slc (RI .u8) 1 μ6 vvc2 c2 ∧ InR .i64 c3 ∧ ErS μ6 vvc4 c4 ∧ Fr a 96 [(0, u0), (1, .int .i64 x1), (4, .bool c1), (5, .bool r1), (6, .pointer (some ⟨g1, 0, none⟩)), (7, v2), (8, v3), (9, .int .i64 r6), (10, .pointer (some ⟨g2, 0, none⟩)), (11, v6), (14, .bool (!r1)), (17, .bool (decide (30 < (x0.length : Int))))] ∧ Iv w0 [] μ μ6 [row 5 1 v6 r8.1.length cs2, cel g1 [[vvc2], [.int .i64 c3], [vvc4]] 143, cel g2 [av .u8 32 r7.1] 55, row 5 1 v2 r4.1.length cs1] w) ?_ ?_
      · have H := bI hz9
        refine w_reg ?_
        refine stp hA (r_mv hA rfl) rfl fun a hA => 
          stp hA (r_mv hA rfl) rfl fun a hA => ?_
        rcases Bool.eq_false_or_eq_true r1 with hc3 | hc3
        · have hc30 := hc3; have H := bT H hc3
          refine o_yes hA rfl rfl hc30 <| 
            stp hA (r_mv hA rfl) rfl fun a hA => 
            o_yes hA rfl rfl hc30 <| ?_
          have hlen1 := Iv.row_in hI (j := 3) rfl
          refine stp hA (r_rlen (xs := 0) Tryd.underlying23 hI (j := 3) rfl hA rfl) rfl fun a hA => 
            o_yes hA rfl rfl hc30 <| 
            stp hA (r_eql hA rfl rfl) rfl fun a hA => 
            stp hA (r_pick_t hA rfl hc30 rfl) rfl fun a hA => 
            stp hA (r_mv hA rfl) rfl fun a hA => ?_
          rcases Bool.eq_false_or_eq_true (decide ((r4.1.length : Int) = 0)) with hc4 | hc4
          · have hc40 := hc4; have hc4 := of_decide_eq_true hc4; have H := bT H hc4
            refine o_yes hA rfl rfl hc40 <| 
              stp hA (r_mv hA rfl) rfl fun a hA => 
              o_yes hA rfl rfl hc40 <| ?_
            obtain ⟨r9, hr9, H⟩ := bB H
            refine o_callp (u := .bool r9) cf31 hA rfl hI (sargassosee_Is.c μ5 _ hI.agr r5 v3 (ErV.le (fun _ _ h => h) (hi5.le.trans hi6.le) hS1) 101 (in_lit .i64 101 rfl) (Gl.le ((((hi1.le.trans hi2.le).trans hi3.le).trans hi5.le).trans hi6.le) hG) r9 hr9) rfl fun a w hz10 hI hA => 
              stp hA (r_pick_t hA rfl hc40 rfl) rfl fun a hA => 
              stp hA (r_mv hA rfl) rfl fun a hA => ?_
            rcases Bool.eq_false_or_eq_true r9 with hc5 | hc5
            · have hc50 := hc5; have H := bT H hc5
              refine o_yes hA rfl rfl hc50 <| 
                stp hA (r_mv hA rfl) rfl fun a hA => 
                o_yes hA rfl rfl hc50 <| ?_
              obtain ⟨r10, hr10, H⟩ := bB H
              have hI := hI.sel [1, 0, 2, 3] (by decide) rfl
              refine o_call _ cf27 hA rfl (compact_Reader_Num.c μ5 _ hI.agr r8.2 vp7 vp8 g1 hp10 hp11 hp12 (hI.handN 1) 5 (in_lit .u64 5 rfl) e0 (ErV.le (fun _ _ h => h) ((((hi1.le.trans hi2.le).trans hi3.le).trans hi5.le).trans hi6.le) he0) e1 (ErV.le (fun _ _ h => h) ((((hi1.le.trans hi2.le).trans hi3.le).trans hi5.le).trans hi6.le) he1) e8 (ErV.le (fun _ _ h => h) ((((hi1.le.trans hi2.le).trans hi3.le).trans hi5.le).trans hi6.le) he8) r10 hr10) rfl fun v7 a w hz11 hA => ?_
              obtain ⟨vp9, vp10, μ7, rfl, hw3, hp13, hp14, hp15, hi7⟩ := hz11
              have hI := hI.backN 1 hi7
              have hI : Iv w0 [] μ μ7 [cel g1 [[vp9], [.int .i64 r10.2.at_], [vp10]] 143, row 5 1 v6 r8.1.length cs2, cel g2 [av .u8 32 r7.1] 55, row 5 1 v2 r4.1.length cs1] w := hI
              refine o_yes hA rfl rfl hc50 <| 
                stp hA (r_eql hA rfl rfl) rfl fun a hA => 
                stp hA (r_pick_t hA rfl hc50 rfl) rfl fun a hA => 
                stp hA (r_mv hA rfl) rfl fun a hA => ?_
              rcases Bool.eq_false_or_eq_true (decide (r10.1 = 0)) with hc6 | hc6
              · have hc60 := hc6; have hc6 := of_decide_eq_true hc6; have H := bT H hc6
                refine o_yes hA rfl rfl hc60 <| 
                  stp hA (r_mv hA rfl) rfl fun a hA => 
                  o_yes hA rfl rfl hc60 <| ?_
                obtain ⟨r11, hr11, H⟩ := bB H
                refine o_call _ cf35 hA rfl (compact_Reader_Four.c μ7 _ hI.agr r10.2 vp9 vp10 g1 hp13 hp14 hp15 (hI.handN 1) e8 (ErV.le (fun _ _ h => h) (((((hi1.le.trans hi2.le).trans hi3.le).trans hi5.le).trans hi6.le).trans hi7.le) he8) r11 hr11) rfl fun v8 a w hz12 hA => ?_
                obtain ⟨vp11, vp12, μ8, rfl, hw4, hp16, hp17, hp18, hi8⟩ := hz12
                have hI := hI.backN 1 hi8
                have hI : Iv w0 [] μ μ8 [cel g1 [[vp11], [.int .i64 r11.2.at_], [vp12]] 143, row 5 1 v6 r8.1.length cs2, cel g2 [av .u8 32 r7.1] 55, row 5 1 v2 r4.1.length cs1] w := hI
                refine o_yes hA rfl rfl hc60 <| 
                  stp hA (r_eql hA rfl rfl) rfl fun a hA => 
                  stp hA (r_pick_t hA rfl hc60 rfl) rfl fun a hA => 
                  stp hA (r_mv hA rfl) rfl fun a hA => ?_
                rcases Bool.eq_false_or_eq_true (decide (r11.1 = 0)) with hc7 | hc7
                · have hc70 := hc7; have hc7 := of_decide_eq_true hc7; have H := bT H hc7
                  refine o_yes hA rfl rfl hc70 <| 
                    stp hA (r_mv hA rfl) rfl fun a hA => 
                    o_yes hA rfl rfl hc70 <| ?_
                  obtain ⟨r12, hr12, H⟩ := bB H
                  refine o_call _ cf34 hA rfl (compact_Reader_Eight.c μ8 _ hI.agr r11.2 vp11 vp12 g1 hp16 hp17 hp18 (hI.handN 1) e8 (ErV.le (fun _ _ h => h) ((((((hi1.le.trans hi2.le).trans hi3.le).trans hi5.le).trans hi6.le).trans hi7.le).trans hi8.le) he8) r12 hr12) rfl fun v9 a w hz13 hA => ?_
                  obtain ⟨vp13, vp14, μ9, rfl, hw5, hp19, hp20, hp21, hi9⟩ := hz13
                  have hI := hI.backN 1 hi9
                  have hI : Iv w0 [] μ μ9 [cel g1 [[vp13], [.int .i64 r12.2.at_], [vp14]] 143, row 5 1 v6 r8.1.length cs2, cel g2 [av .u8 32 r7.1] 55, row 5 1 v2 r4.1.length cs1] w := hI
                  refine o_yes hA rfl rfl hc70 <| 
                    stp hA (r_eql hA rfl rfl) rfl fun a hA => 
                    stp hA (r_pick_t hA rfl hc70 rfl) rfl fun a hA => 
                    stp hA (r_mv hA rfl) rfl fun a hA => ?_
                  rcases Bool.eq_false_or_eq_true (decide (r12.1 = 0)) with hc8 | hc8
                  · have hc80 := hc8; have hc8 := of_decide_eq_true hc8; have H := bT H hc8
                    refine o_yes hA rfl rfl hc80 <| 
                      stp hA (r_ixar1 Tryd.underlying55 sz5 hA rfl rfl (by decide) (by decide)) rfl fun a hA => 
                      o_yes hA rfl rfl hc80 <| 
                      stp hA (r_ldE (j := 2) [] [] Tryd.underlying5 rfl hI rfl hA rfl rfl (by decide)) rfl fun a hA => 
                      o_yes hA rfl rfl hc80 <| 
                      stp hA (r_eql hA rfl rfl) rfl fun a hA => 
                      stp hA (r_pick_t hA rfl hc80 rfl) rfl fun a hA => 
                      stp hA (r_mv hA rfl) rfl fun a hA => ?_
                    rcases Bool.eq_false_or_eq_true (decide ((r7.1.getD (0 : Int).toNat 0) = 0)) with hc9 | hc9
                    · have hc90 := hc9; have hc9 := of_decide_eq_true hc9; have H := bT H hc9
                      refine o_yes hA rfl rfl hc90 <| 
                        stp hA (r_ixar1 Tryd.underlying55 sz5 hA rfl rfl (by decide) (by decide)) rfl fun a hA => 
                        o_yes hA rfl rfl hc90 <| 
                        stp hA (r_ldE (j := 2) [] [] Tryd.underlying5 rfl hI rfl hA rfl rfl (by decide)) rfl fun a hA => 
                        o_yes hA rfl rfl hc90 <| 
                        stp hA (r_eql hA rfl rfl) rfl fun a hA => 
                        stp hA (r_pick_t hA rfl hc90 rfl) rfl fun a hA => 
                        stp hA (r_mv hA rfl) rfl fun a hA => ?_
                      rcases Bool.eq_false_or_eq_true (decide ((r7.1.getD (31 : Int).toNat 0) = 0)) with hc10 | hc10
                      · have hc100 := hc10; have hc10 := of_decide_eq_true hc10; have H := bT H hc10
                        refine o_yes hA rfl rfl hc100 <| 
                          stp hA (r_mv hA rfl) rfl fun a hA => 
                          o_yes hA rfl rfl hc100 <| ?_
                        have hlen2 := Iv.row_in hI (j := 1) rfl
                        refine stp hA (r_rlen (xs := 0) Tryd.underlying23 hI (j := 1) rfl hA rfl) rfl fun a hA => 
                          o_yes hA rfl rfl hc100 <| 
                          stp hA (r_eql hA rfl rfl) rfl fun a hA => 
                          stp hA (r_pick_t hA rfl hc100 rfl) rfl fun a hA => 
                          stp hA (r_mv hA rfl) rfl fun a hA => ?_
                        rcases Bool.eq_false_or_eq_true (decide ((r8.1.length : Int) = 0)) with hc11 | hc11
                        · have hc110 := hc11; have hc11 := of_decide_eq_true hc11; have H := bT H hc11
                          refine o_yes hA rfl rfl hc110 <| 
                            stp hA (r_mv hA rfl) rfl fun a hA => 
                            o_yes hA rfl rfl hc110 <| ?_
                          obtain ⟨r13, hr13, H⟩ := bB H
                          refine o_call _ cf30 hA rfl (compact_Reader_Err.c μ9 _ hI.agr r12.2 vp13 vp14 g1 hp19 hp20 hp21 (hI.handN 1) r13 hr13) rfl fun v10 a w hz14 hA => ?_
                          obtain ⟨_, μ10, rfl, hS2, hi10⟩ := hz14
                          have hI := hI.backN 1 hi10
                          have hI : Iv w0 [] μ μ10 [cel g1 [[vp13], [.int .i64 r12.2.at_], [vp14]] 143, row 5 1 v6 r8.1.length cs2, cel g2 [av .u8 32 r7.1] 55, row 5 1 v2 r4.1.length cs1] w := hI
                          refine o_yes hA rfl rfl hc110 <| ?_
                          obtain ⟨r14, hr14, H⟩ := bB H
                          refine o_callp (u := .bool r14) cf31 hA rfl hI (sargassosee_Is.c μ10 _ hI.agr r13 v10 hS2 101 (in_lit .i64 101 rfl) (Gl.le ((((((((hi1.le.trans hi2.le).trans hi3.le).trans hi5.le).trans hi6.le).trans hi7.le).trans hi8.le).trans hi9.le).trans hi10.le) hG) r14 hr14) rfl fun a w hz15 hI hA => 
                            stp hA (r_pick_t hA rfl hc110 rfl) rfl fun a hA => 
                            stp hA (r_mv hA rfl) rfl fun a hA => ?_
                          rcases Bool.eq_false_or_eq_true r14 with hc12 | hc12
                          · have hc120 := hc12; have H := bT H hc12
                            refine o_yes hA rfl rfl hc120 <| 
                              stp hA (r_mv hA rfl) rfl fun a hA => 
                              o_yes hA rfl rfl hc120 <| ?_
                            obtain ⟨r15, hr15, H⟩ := bB H
                            refine o_call _ cf28 hA rfl (compact_Reader_Left.c μ10 _ hI.agr r12.2 vp13 vp14 g1 (Slc.le hp19 (fun _ _ h => h) hi10.le) hp20 (ErV.le (fun _ _ h => h) hi10.le hp21) (hI.handN 1) r15 hr15) rfl fun v11 a w hz16 hA => ?_
                            obtain ⟨rfl, hw6, hi11⟩ := hz16
                            have hI := hI.backN 1 hi11
                            have hI : Iv w0 [] μ μ10 [cel g1 [[vp13], [.int .i64 r12.2.at_], [vp14]] 143, row 5 1 v6 r8.1.length cs2, cel g2 [av .u8 32 r7.1] 55, row 5 1 v2 r4.1.length cs1] w := hI
                            refine o_yes hA rfl rfl hc120 <| 
                              stp hA (r_mv hA rfl) rfl fun a hA => 
                              o_yes hA rfl rfl hc120 <| 
                              stp hA (r_eql hA rfl rfl) rfl fun a hA => 
                              stp hA (r_pick_t hA rfl hc120 rfl) rfl fun a hA => 
                              stp hA (r_mv hA rfl) rfl fun a hA => ?_
                            rcases Bool.eq_false_or_eq_true (decide (r15 = r6)) with hc13 | hc13
                            · have hc130 := hc13; have hc13 := of_decide_eq_true hc13; have H := bT H hc13
                              refine o_yes hA rfl rfl hc130 <| 
                                stp hA (r_mv hA rfl) rfl fun a hA => 
                                o_yes hA rfl rfl hc130 <| 
                                stp hA (r_mv hA rfl) rfl fun a hA => 
                                o_yes hA rfl rfl hc130 <| ?_
                              obtain ⟨_, hsl4⟩ := Slc.sv (Slc.le hx0 (fun _ _ h => h) ((((((((hi1.le.trans hi2.le).trans hi3.le).trans hi5.le).trans hi6.le).trans hi7.le).trans hi8.le).trans hi9.le).trans hi10.le))
                              refine stp hA (r_slen Tryd.underlying23 hsl4 hA rfl) rfl fun a hA => 
                                o_yes hA rfl rfl hc130 <| 
                                stp hA (r_eql hA rfl rfl) rfl fun a hA => 
                                stp hA (r_pick_t hA rfl hc130 rfl) rfl fun a hA => 
                                stp hA (r_as hA rfl) rfl fun a hA => ?_
                              refine o_nil ?_
                              cases Option.some.inj (bS H)
                              exact ⟨μ10, vp13, vp14, (((hi7.le.trans hi8.le).trans hi9.le).trans hi10.le), (Slc.le hp19 (fun _ _ h => h) hi10.le), hp20, (ErV.le (fun _ _ h => h) hi10.le hp21), hA.sub ⟨rfl, rfl, rfl, rfl, rfl, rfl, rfl, rfl, rfl, rfl, rfl, rfl, trivial⟩, (hI.sel [1, 0, 2, 3] (by decide) rfl)⟩
                            · have hc130 := hc13; have hc13 := of_decide_eq_false hc13; have H := bF H hc13
                              refine o_no hA rfl rfl (by rw [hc130]; simp [vb]) rfl fun a hA => 
                                o_no hA rfl rfl (by rw [hc130]; simp [vb]) rfl fun a hA => 
                                o_no hA rfl rfl (by rw [hc130]; simp [vb]) rfl fun a hA => 
                                o_no hA rfl rfl (by rw [hc130]; simp [vb]) rfl fun a hA => 
                                stp hA (r_pick_f hA rfl hc130 rfl) rfl fun a hA => 
                                stp hA (r_as hA rfl) rfl fun a hA => ?_
                              refine o_nil ?_
                              cases Option.some.inj (bS H)
                              exact ⟨μ10, vp13, vp14, (((hi7.le.trans hi8.le).trans hi9.le).trans hi10.le), (Slc.le hp19 (fun _ _ h => h) hi10.le), hp20, (ErV.le (fun _ _ h => h) hi10.le hp21), hA.sub ⟨rfl, rfl, rfl, rfl, rfl, rfl, rfl, rfl, rfl, rfl, rfl, rfl, trivial⟩, (hI.sel [1, 0, 2, 3] (by decide) rfl)⟩
                          · have hc120 := hc12; have hc12 := ft hc12; have H := bF H hc12
                            refine o_no hA rfl rfl (by rw [hc120]; simp [vb]) rfl fun a hA => 
                              o_no hA rfl rfl (by rw [hc120]; simp [vb]) rfl fun a hA => 
                              o_no hA rfl rfl (by rw [hc120]; simp [vb]) rfl fun a hA => 
                              o_no hA rfl rfl (by rw [hc120]; simp [vb]) rfl fun a hA => 
                              stp hA (r_pick_f hA rfl hc120 rfl) rfl fun a hA => 
                              stp hA (r_mv hA rfl) rfl fun a hA => 
                              o_no hA rfl rfl (by simp [vb]) rfl fun a hA => 
                              o_no hA rfl rfl (by simp [vb]) rfl fun a hA => 
                              o_no hA rfl rfl (by simp [vb]) rfl fun a hA => 
                              o_no hA rfl rfl (by simp [vb]) rfl fun a hA => 
                              stp hA (r_pick_f hA rfl rfl rfl) rfl fun a hA => 
                              stp hA (r_as hA rfl) rfl fun a hA => ?_
                            refine o_nil ?_
                            cases Option.some.inj (bS H)
                            exact ⟨μ10, vp13, vp14, (((hi7.le.trans hi8.le).trans hi9.le).trans hi10.le), (Slc.le hp19 (fun _ _ h => h) hi10.le), hp20, (ErV.le (fun _ _ h => h) hi10.le hp21), hA.sub ⟨rfl, rfl, rfl, rfl, rfl, rfl, rfl, rfl, rfl, rfl, rfl, rfl, trivial⟩, (hI.sel [1, 0, 2, 3] (by decide) rfl)⟩
                        · have hc110 := hc11; have hc11 := of_decide_eq_false hc11; have H := bF H hc11
                          refine o_no hA rfl rfl (by rw [hc110]; simp [vb]) rfl fun a hA => 
                            o_no hA rfl rfl (by rw [hc110]; simp [vb]) rfl fun a hA => 
                            o_no hA rfl rfl (by rw [hc110]; simp [vb]) rfl fun a hA => 
                            stp hA (r_pick_f hA rfl hc110 rfl) rfl fun a hA => 
                            stp hA (r_mv hA rfl) rfl fun a hA => 
                            o_no hA rfl rfl (by simp [vb]) rfl fun a hA => 
                            o_no hA rfl rfl (by simp [vb]) rfl fun a hA => 
                            o_no hA rfl rfl (by simp [vb]) rfl fun a hA => 
                            o_no hA rfl rfl (by simp [vb]) rfl fun a hA => 
                            stp hA (r_pick_f hA rfl rfl rfl) rfl fun a hA => 
                            stp hA (r_mv hA rfl) rfl fun a hA => 
                            o_no hA rfl rfl (by simp [vb]) rfl fun a hA => 
                            o_no hA rfl rfl (by simp [vb]) rfl fun a hA => 
                            o_no hA rfl rfl (by simp [vb]) rfl fun a hA => 
                            o_no hA rfl rfl (by simp [vb]) rfl fun a hA => 
                            stp hA (r_pick_f hA rfl rfl rfl) rfl fun a hA => 
                            stp hA (r_as hA rfl) rfl fun a hA => ?_
                          refine o_nil ?_
                          cases Option.some.inj (bS H)
                          exact ⟨μ9, vp13, vp14, ((hi7.le.trans hi8.le).trans hi9.le), hp19, hp20, hp21, hA.sub ⟨rfl, rfl, rfl, rfl, rfl, rfl, rfl, rfl, rfl, rfl, rfl, rfl, trivial⟩, (hI.sel [1, 0, 2, 3] (by decide) rfl)⟩
                      · have hc100 := hc10; have hc10 := of_decide_eq_false hc10; have H := bF H hc10
                        refine o_no hA rfl rfl (by rw [hc100]; simp [vb]) rfl fun a hA => 
                          o_no hA rfl rfl (by rw [hc100]; simp [vb]) rfl fun a hA => 
                          o_no hA rfl rfl (by rw [hc100]; simp [vb]) rfl fun a hA => 
                          stp hA (r_pick_f hA rfl hc100 rfl) rfl fun a hA => 
                          stp hA (r_mv hA rfl) rfl fun a hA => 
                          o_no hA rfl rfl (by simp [vb]) rfl fun a hA => 
                          o_no hA rfl rfl (by simp [vb]) rfl fun a hA => 
                          o_no hA rfl rfl (by simp [vb]) rfl fun a hA => 
                          stp hA (r_pick_f hA rfl rfl rfl) rfl fun a hA => 
                          stp hA (r_mv hA rfl) rfl fun a hA => 
                          o_no hA rfl rfl (by simp [vb]) rfl fun a hA => 
                          o_no hA rfl rfl (by simp [vb]) rfl fun a hA => 
                          o_no hA rfl rfl (by simp [vb]) rfl fun a hA => 
                          o_no hA rfl rfl (by simp [vb]) rfl fun a hA => 
                          stp hA (r_pick_f hA rfl rfl rfl) rfl fun a hA => 
                          stp hA (r_mv hA rfl) rfl fun a hA => 
                          o_no hA rfl rfl (by simp [vb]) rfl fun a hA => 
                          o_no hA rfl rfl (by simp [vb]) rfl fun a hA => 
                          o_no hA rfl rfl (by simp [vb]) rfl fun a hA => 
                          o_no hA rfl rfl (by simp [vb]) rfl fun a hA => 
                          stp hA (r_pick_f hA rfl rfl rfl) rfl fun a hA => 
                          stp hA (r_as hA rfl) rfl fun a hA => ?_
                        refine o_nil ?_
                        cases Option.some.inj (bS H)
                        exact ⟨μ9, vp13, vp14, ((hi7.le.trans hi8.le).trans hi9.le), hp19, hp20, hp21, hA.sub ⟨rfl, rfl, rfl, rfl, rfl, rfl, rfl, rfl, rfl, rfl, rfl, rfl, trivial⟩, (hI.sel [1, 0, 2, 3] (by decide) rfl)⟩
                    · have hc90 := hc9; have hc9 := of_decide_eq_false hc9; have H := bF H hc9
                      refine o_no hA rfl rfl (by rw [hc90]; simp [vb]) rfl fun a hA => 
                        o_no hA rfl rfl (by rw [hc90]; simp [vb]) rfl fun a hA => 
                        o_no hA rfl rfl (by rw [hc90]; simp [vb]) rfl fun a hA => 
                        stp hA (r_pick_f hA rfl hc90 rfl) rfl fun a hA => 
                        stp hA (r_mv hA rfl) rfl fun a hA => 
                        o_no hA rfl rfl (by simp [vb]) rfl fun a hA => 
                        o_no hA rfl rfl (by simp [vb]) rfl fun a hA => 
                        o_no hA rfl rfl (by simp [vb]) rfl fun a hA => 
                        stp hA (r_pick_f hA rfl rfl rfl) rfl fun a hA => 
                        stp hA (r_mv hA rfl) rfl fun a hA => 
                        o_no hA rfl rfl (by simp [vb]) rfl fun a hA => 
                        o_no hA rfl rfl (by simp [vb]) rfl fun a hA => 
                        o_no hA rfl rfl (by simp [vb]) rfl fun a hA => 
                        stp hA (r_pick_f hA rfl rfl rfl) rfl fun a hA => 
                        stp hA (r_mv hA rfl) rfl fun a hA => 
                        o_no hA rfl rfl (by simp [vb]) rfl fun a hA => 
                        o_no hA rfl rfl (by simp [vb]) rfl fun a hA => 
                        o_no hA rfl rfl (by simp [vb]) rfl fun a hA => 
                        o_no hA rfl rfl (by simp [vb]) rfl fun a hA => 
                        stp hA (r_pick_f hA rfl rfl rfl) rfl fun a hA => 
                        stp hA (r_mv hA rfl) rfl fun a hA => 
                        o_no hA rfl rfl (by simp [vb]) rfl fun a hA => 
                        o_no hA rfl rfl (by simp [vb]) rfl fun a hA => 
                        o_no hA rfl rfl (by simp [vb]) rfl fun a hA => 
                        o_no hA rfl rfl (by simp [vb]) rfl fun a hA => 
                        stp hA (r_pick_f hA rfl rfl rfl) rfl fun a hA => 
                        stp hA (r_as hA rfl) rfl fun a hA => ?_
                      refine o_nil ?_
                      cases Option.some.inj (bS H)
                      exact ⟨μ9, vp13, vp14, ((hi7.le.trans hi8.le).trans hi9.le), hp19, hp20, hp21, hA.sub ⟨rfl, rfl, rfl, rfl, rfl, rfl, rfl, rfl, rfl, rfl, rfl, rfl, trivial⟩, (hI.sel [1, 0, 2, 3] (by decide) rfl)⟩
                  · have hc80 := hc8; have hc8 := of_decide_eq_false hc8; have H := bF H hc8
                    refine o_no hA rfl rfl (by rw [hc80]; simp [vb]) rfl fun a hA => 
                      o_no hA rfl rfl (by rw [hc80]; simp [vb]) rfl fun a hA => 
                      o_no hA rfl rfl (by rw [hc80]; simp [vb]) rfl fun a hA => 
                      stp hA (r_pick_f hA rfl hc80 rfl) rfl fun a hA => 
                      stp hA (r_mv hA rfl) rfl fun a hA => 
                      o_no hA rfl rfl (by simp [vb]) rfl fun a hA => 
                      o_no hA rfl rfl (by simp [vb]) rfl fun a hA => 
                      o_no hA rfl rfl (by simp [vb]) rfl fun a hA => 
                      stp hA (r_pick_f hA rfl rfl rfl) rfl fun a hA => 
                      stp hA (r_mv hA rfl) rfl fun a hA => 
                      o_no hA rfl rfl (by simp [vb]) rfl fun a hA => 
                      o_no hA rfl rfl (by simp [vb]) rfl fun a hA => 
                      o_no hA rfl rfl (by simp [vb]) rfl fun a hA => 
                      stp hA (r_pick_f hA rfl rfl rfl) rfl fun a hA => 
                      stp hA (r_mv hA rfl) rfl fun a hA => 
                      o_no hA rfl rfl (by simp [vb]) rfl fun a hA => 
                      o_no hA rfl rfl (by simp [vb]) rfl fun a hA => 
                      o_no hA rfl rfl (by simp [vb]) rfl fun a hA => 
                      stp hA (r_pick_f hA rfl rfl rfl) rfl fun a hA => 
                      stp hA (r_mv hA rfl) rfl fun a hA => 
                      o_no hA rfl rfl (by simp [vb]) rfl fun a hA => 
                      o_no hA rfl rfl (by simp [vb]) rfl fun a hA => 
                      o_no hA rfl rfl (by simp [vb]) rfl fun a hA => 
                      o_no hA rfl rfl (by simp [vb]) rfl fun a hA => 
                      stp hA (r_pick_f hA rfl rfl rfl) rfl fun a hA => 
                      stp hA (r_mv hA rfl) rfl fun a hA => 
                      o_no hA rfl rfl (by simp [vb]) rfl fun a hA => 
                      o_no hA rfl rfl (by simp [vb]) rfl fun a hA => 
                      o_no hA rfl rfl (by simp [vb]) rfl fun a hA => 
                      o_no hA rfl rfl (by simp [vb]) rfl fun a hA => 
                      stp hA (r_pick_f hA rfl rfl rfl) rfl fun a hA => 
                      stp hA (r_as hA rfl) rfl fun a hA => ?_
                    refine o_nil ?_
                    cases Option.some.inj (bS H)
                    exact ⟨μ9, vp13, vp14, ((hi7.le.trans hi8.le).trans hi9.le), hp19, hp20, hp21, hA.sub ⟨rfl, rfl, rfl, rfl, rfl, rfl, rfl, rfl, rfl, rfl, rfl, rfl, trivial⟩, (hI.sel [1, 0, 2, 3] (by decide) rfl)⟩
                · have hc70 := hc7; have hc7 := of_decide_eq_false hc7; have H := bF H hc7
                  refine o_no hA rfl rfl (by rw [hc70]; simp [vb]) rfl fun a hA => 
                    o_no hA rfl rfl (by rw [hc70]; simp [vb]) rfl fun a hA => 
                    o_no hA rfl rfl (by rw [hc70]; simp [vb]) rfl fun a hA => 
                    stp hA (r_pick_f hA rfl hc70 rfl) rfl fun a hA => 
                    stp hA (r_mv hA rfl) rfl fun a hA => 
                    o_no hA rfl rfl (by simp [vb]) rfl fun a hA => 
                    o_no hA rfl rfl (by simp [vb]) rfl fun a hA => 
                    o_no hA rfl rfl (by simp [vb]) rfl fun a hA => 
                    stp hA (r_pick_f hA rfl rfl rfl) rfl fun a hA => 
                    stp hA (r_mv hA rfl) rfl fun a hA => 
                    o_no hA rfl rfl (by simp [vb]) rfl fun a hA => 
                    o_no hA rfl rfl (by simp [vb]) rfl fun a hA => 
                    o_no hA rfl rfl (by simp [vb]) rfl fun a hA => 
                    stp hA (r_pick_f hA rfl rfl rfl) rfl fun a hA => 
                    stp hA (r_mv hA rfl) rfl fun a hA => 
                    o_no hA rfl rfl (by simp [vb]) rfl fun a hA => 
                    o_no hA rfl rfl (by simp [vb]) rfl fun a hA => 
                    o_no hA rfl rfl (by simp [vb]) rfl fun a hA => 
                    stp hA (r_pick_f hA rfl rfl rfl) rfl fun a hA => 
                    stp hA (r_mv hA rfl) rfl fun a hA => 
                    o_no hA rfl rfl (by simp [vb]) rfl fun a hA => 
                    o_no hA rfl rfl (by simp [vb]) rfl fun a hA => 
                    o_no hA rfl rfl (by simp [vb]) rfl fun a hA => 
                    stp hA (r_pick_f hA rfl rfl rfl) rfl fun a hA => 
                    stp hA (r_mv hA rfl) rfl fun a hA => 
                    o_no hA rfl rfl (by simp [vb]) rfl fun a hA => 
                    o_no hA rfl rfl (by simp [vb]) rfl fun a hA => 
                    o_no hA rfl rfl (by simp [vb]) rfl fun a hA => 
                    o_no hA rfl rfl (by simp [vb]) rfl fun a hA => 
                    stp hA (r_pick_f hA rfl rfl rfl) rfl fun a hA => 
                    stp hA (r_mv hA rfl) rfl fun a hA => 
                    o_no hA rfl rfl (by simp [vb]) rfl fun a hA => 
                    o_no hA rfl rfl (by simp [vb]) rfl fun a hA => 
                    o_no hA rfl rfl (by simp [vb]) rfl fun a hA => 
                    o_no hA rfl rfl (by simp [vb]) rfl fun a hA => 
                    stp hA (r_pick_f hA rfl rfl rfl) rfl fun a hA => 
                    stp hA (r_as hA rfl) rfl fun a hA => ?_
                  refine o_nil ?_
                  cases Option.some.inj (bS H)
                  exact ⟨μ8, vp11, vp12, (hi7.le.trans hi8.le), hp16, hp17, hp18, hA.sub ⟨rfl, rfl, rfl, rfl, rfl, rfl, rfl, rfl, rfl, rfl, rfl, rfl, trivial⟩, (hI.sel [1, 0, 2, 3] (by decide) rfl)⟩
              · have hc60 := hc6; have hc6 := of_decide_eq_false hc6; have H := bF H hc6
                refine o_no hA rfl rfl (by rw [hc60]; simp [vb]) rfl fun a hA => 
                  o_no hA rfl rfl (by rw [hc60]; simp [vb]) rfl fun a hA => 
                  o_no hA rfl rfl (by rw [hc60]; simp [vb]) rfl fun a hA => 
                  stp hA (r_pick_f hA rfl hc60 rfl) rfl fun a hA => 
                  stp hA (r_mv hA rfl) rfl fun a hA => 
                  o_no hA rfl rfl (by simp [vb]) rfl fun a hA => 
                  o_no hA rfl rfl (by simp [vb]) rfl fun a hA => 
                  o_no hA rfl rfl (by simp [vb]) rfl fun a hA => 
                  stp hA (r_pick_f hA rfl rfl rfl) rfl fun a hA => 
                  stp hA (r_mv hA rfl) rfl fun a hA => 
                  o_no hA rfl rfl (by simp [vb]) rfl fun a hA => 
                  o_no hA rfl rfl (by simp [vb]) rfl fun a hA => 
                  o_no hA rfl rfl (by simp [vb]) rfl fun a hA => 
                  stp hA (r_pick_f hA rfl rfl rfl) rfl fun a hA => 
                  stp hA (r_mv hA rfl) rfl fun a hA => 
                  o_no hA rfl rfl (by simp [vb]) rfl fun a hA => 
                  o_no hA rfl rfl (by simp [vb]) rfl fun a hA => 
                  o_no hA rfl rfl (by simp [vb]) rfl fun a hA => 
                  stp hA (r_pick_f hA rfl rfl rfl) rfl fun a hA => 
                  stp hA (r_mv hA rfl) rfl fun a hA => 
                  o_no hA rfl rfl (by simp [vb]) rfl fun a hA => 
                  o_no hA rfl rfl (by simp [vb]) rfl fun a hA => 
                  o_no hA rfl rfl (by simp [vb]) rfl fun a hA => 
                  stp hA (r_pick_f hA rfl rfl rfl) rfl fun a hA => 
                  stp hA (r_mv hA rfl) rfl fun a hA => 
                  o_no hA rfl rfl (by simp [vb]) rfl fun a hA => 
                  o_no hA rfl rfl (by simp [vb]) rfl fun a hA => 
                  o_no hA rfl rfl (by simp [vb]) rfl fun a hA => 
                  stp hA (r_pick_f hA rfl rfl rfl) rfl fun a hA => 
                  stp hA (r_mv hA rfl) rfl fun a hA => 
                  o_no hA rfl rfl (by simp [vb]) rfl fun a hA => 
                  o_no hA rfl rfl (by simp [vb]) rfl fun a hA => 
                  o_no hA rfl rfl (by simp [vb]) rfl fun a hA => 
                  o_no hA rfl rfl (by simp [vb]) rfl fun a hA => 
                  stp hA (r_pick_f hA rfl rfl rfl) rfl fun a hA => 
                  stp hA (r_mv hA rfl) rfl fun a hA => 
                  o_no hA rfl rfl (by simp [vb]) rfl fun a hA => 
                  o_no hA rfl rfl (by simp [vb]) rfl fun a hA => 
                  o_no hA rfl rfl (by simp [vb]) rfl fun a hA => 
                  o_no hA rfl rfl (by simp [vb]) rfl fun a hA => 
                  stp hA (r_pick_f hA rfl rfl rfl) rfl fun a hA => 
                  stp hA (r_as hA rfl) rfl fun a hA => ?_
                refine o_nil ?_
                cases Option.some.inj (bS H)
                exact ⟨μ7, vp9, vp10, hi7.le, hp13, hp14, hp15, hA.sub ⟨rfl, rfl, rfl, rfl, rfl, rfl, rfl, rfl, rfl, rfl, rfl, rfl, trivial⟩, (hI.sel [1, 0, 2, 3] (by decide) rfl)⟩
            · have hc50 := hc5; have hc5 := ft hc5; have H := bF H hc5
              refine o_no hA rfl rfl (by rw [hc50]; simp [vb]) rfl fun a hA => 
                o_no hA rfl rfl (by rw [hc50]; simp [vb]) rfl fun a hA => 
                o_no hA rfl rfl (by rw [hc50]; simp [vb]) rfl fun a hA => 
                stp hA (r_pick_f hA rfl hc50 rfl) rfl fun a hA => 
                stp hA (r_mv hA rfl) rfl fun a hA => 
                o_no hA rfl rfl (by simp [vb]) rfl fun a hA => 
                o_no hA rfl rfl (by simp [vb]) rfl fun a hA => 
                o_no hA rfl rfl (by simp [vb]) rfl fun a hA => 
                stp hA (r_pick_f hA rfl rfl rfl) rfl fun a hA => 
                stp hA (r_mv hA rfl) rfl fun a hA => 
                o_no hA rfl rfl (by simp [vb]) rfl fun a hA => 
                o_no hA rfl rfl (by simp [vb]) rfl fun a hA => 
                o_no hA rfl rfl (by simp [vb]) rfl fun a hA => 
                stp hA (r_pick_f hA rfl rfl rfl) rfl fun a hA => 
                stp hA (r_mv hA rfl) rfl fun a hA => 
                o_no hA rfl rfl (by simp [vb]) rfl fun a hA => 
                o_no hA rfl rfl (by simp [vb]) rfl fun a hA => 
                o_no hA rfl rfl (by simp [vb]) rfl fun a hA => 
                stp hA (r_pick_f hA rfl rfl rfl) rfl fun a hA => 
                stp hA (r_mv hA rfl) rfl fun a hA => 
                o_no hA rfl rfl (by simp [vb]) rfl fun a hA => 
                o_no hA rfl rfl (by simp [vb]) rfl fun a hA => 
                o_no hA rfl rfl (by simp [vb]) rfl fun a hA => 
                stp hA (r_pick_f hA rfl rfl rfl) rfl fun a hA => 
                stp hA (r_mv hA rfl) rfl fun a hA => 
                o_no hA rfl rfl (by simp [vb]) rfl fun a hA => 
                o_no hA rfl rfl (by simp [vb]) rfl fun a hA => 
                o_no hA rfl rfl (by simp [vb]) rfl fun a hA => 
                stp hA (r_pick_f hA rfl rfl rfl) rfl fun a hA => 
                stp hA (r_mv hA rfl) rfl fun a hA => 
                o_no hA rfl rfl (by simp [vb]) rfl fun a hA => 
                o_no hA rfl rfl (by simp [vb]) rfl fun a hA => 
                o_no hA rfl rfl (by simp [vb]) rfl fun a hA => 
                stp hA (r_pick_f hA rfl rfl rfl) rfl fun a hA => 
                stp hA (r_mv hA rfl) rfl fun a hA => 
                o_no hA rfl rfl (by simp [vb]) rfl fun a hA => 
                o_no hA rfl rfl (by simp [vb]) rfl fun a hA => 
                o_no hA rfl rfl (by simp [vb]) rfl fun a hA => 
                o_no hA rfl rfl (by simp [vb]) rfl fun a hA => 
                stp hA (r_pick_f hA rfl rfl rfl) rfl fun a hA => 
                stp hA (r_mv hA rfl) rfl fun a hA => 
                o_no hA rfl rfl (by simp [vb]) rfl fun a hA => 
                o_no hA rfl rfl (by simp [vb]) rfl fun a hA => 
                o_no hA rfl rfl (by simp [vb]) rfl fun a hA => 
                o_no hA rfl rfl (by simp [vb]) rfl fun a hA => 
                stp hA (r_pick_f hA rfl rfl rfl) rfl fun a hA => 
                stp hA (r_as hA rfl) rfl fun a hA => ?_
              refine o_nil ?_
              cases Option.some.inj (bS H)
              exact ⟨μ5, vp7, vp8, (Store.le.refl _), hp10, hp11, hp12, hA.sub ⟨rfl, rfl, rfl, rfl, rfl, rfl, rfl, rfl, rfl, rfl, rfl, rfl, trivial⟩, hI⟩
          · have hc40 := hc4; have hc4 := of_decide_eq_false hc4; have H := bF H hc4
            refine o_no hA rfl rfl (by rw [hc40]; simp [vb]) rfl fun a hA => 
              o_no hA rfl rfl (by rw [hc40]; simp [vb]) rfl fun a hA => 
              stp hA (r_pick_f hA rfl hc40 rfl) rfl fun a hA => 
              stp hA (r_mv hA rfl) rfl fun a hA => 
              o_no hA rfl rfl (by simp [vb]) rfl fun a hA => 
              o_no hA rfl rfl (by simp [vb]) rfl fun a hA => 
              o_no hA rfl rfl (by simp [vb]) rfl fun a hA => 
              stp hA (r_pick_f hA rfl rfl rfl) rfl fun a hA => 
              stp hA (r_mv hA rfl) rfl fun a hA => 
              o_no hA rfl rfl (by simp [vb]) rfl fun a hA => 
              o_no hA rfl rfl (by simp [vb]) rfl fun a hA => 
              o_no hA rfl rfl (by simp [vb]) rfl fun a hA => 
              stp hA (r_pick_f hA rfl rfl rfl) rfl fun a hA => 
              stp hA (r_mv hA rfl) rfl fun a hA => 
              o_no hA rfl rfl (by simp [vb]) rfl fun a hA => 
              o_no hA rfl rfl (by simp [vb]) rfl fun a hA => 
              o_no hA rfl rfl (by simp [vb]) rfl fun a hA => 
              stp hA (r_pick_f hA rfl rfl rfl) rfl fun a hA => 
              stp hA (r_mv hA rfl) rfl fun a hA => 
              o_no hA rfl rfl (by simp [vb]) rfl fun a hA => 
              o_no hA rfl rfl (by simp [vb]) rfl fun a hA => 
              o_no hA rfl rfl (by simp [vb]) rfl fun a hA => 
              stp hA (r_pick_f hA rfl rfl rfl) rfl fun a hA => 
              stp hA (r_mv hA rfl) rfl fun a hA => 
              o_no hA rfl rfl (by simp [vb]) rfl fun a hA => 
              o_no hA rfl rfl (by simp [vb]) rfl fun a hA => 
              o_no hA rfl rfl (by simp [vb]) rfl fun a hA => 
              stp hA (r_pick_f hA rfl rfl rfl) rfl fun a hA => 
              stp hA (r_mv hA rfl) rfl fun a hA => 
              o_no hA rfl rfl (by simp [vb]) rfl fun a hA => 
              o_no hA rfl rfl (by simp [vb]) rfl fun a hA => 
              o_no hA rfl rfl (by simp [vb]) rfl fun a hA => 
              stp hA (r_pick_f hA rfl rfl rfl) rfl fun a hA => 
              stp hA (r_mv hA rfl) rfl fun a hA => 
              o_no hA rfl rfl (by simp [vb]) rfl fun a hA => 
              o_no hA rfl rfl (by simp [vb]) rfl fun a hA => 
              o_no hA rfl rfl (by simp [vb]) rfl fun a hA => 
              stp hA (r_pick_f hA rfl rfl rfl) rfl fun a hA => 
              stp hA (r_mv hA rfl) rfl fun a hA => 
              o_no hA rfl rfl (by simp [vb]) rfl fun a hA => 
              o_no hA rfl rfl (by simp [vb]) rfl fun a hA => 
              o_no hA rfl rfl (by simp [vb]) rfl fun a hA => 
              o_no hA rfl rfl (by simp [vb]) rfl fun a hA => 
              stp hA (r_pick_f hA rfl rfl rfl) rfl fun a hA => 
              stp hA (r_mv hA rfl) rfl fun a hA => 
              o_no hA rfl rfl (by simp [vb]) rfl fun a hA => 
              o_no hA rfl rfl (by simp [vb]) rfl fun a hA => 
              o_no hA rfl rfl (by simp [vb]) rfl fun a hA => 
              o_no hA rfl rfl (by simp [vb]) rfl fun a hA => 
              stp hA (r_pick_f hA rfl rfl rfl) rfl fun a hA => 
              stp hA (r_as hA rfl) rfl fun a hA => ?_
            refine o_nil ?_
            cases Option.some.inj (bS H)
            exact ⟨μ5, vp7, vp8, (Store.le.refl _), hp10, hp11, hp12, hA.sub ⟨rfl, rfl, rfl, rfl, rfl, rfl, rfl, rfl, rfl, rfl, rfl, rfl, trivial⟩, hI⟩
        · have hc30 := hc3; have hc3 := ft hc3; have H := bF H hc3
          refine o_no hA rfl rfl (by rw [hc30]; simp [vb]) rfl fun a hA => 
            o_no hA rfl rfl (by rw [hc30]; simp [vb]) rfl fun a hA => 
            o_no hA rfl rfl (by rw [hc30]; simp [vb]) rfl fun a hA => 
            stp hA (r_pick_f hA rfl hc30 rfl) rfl fun a hA => 
            stp hA (r_mv hA rfl) rfl fun a hA => 
            o_no hA rfl rfl (by simp [vb]) rfl fun a hA => 
            o_no hA rfl rfl (by simp [vb]) rfl fun a hA => 
            stp hA (r_pick_f hA rfl rfl rfl) rfl fun a hA => 
            stp hA (r_mv hA rfl) rfl fun a hA => 
            o_no hA rfl rfl (by simp [vb]) rfl fun a hA => 
            o_no hA rfl rfl (by simp [vb]) rfl fun a hA => 
            o_no hA rfl rfl (by simp [vb]) rfl fun a hA => 
            stp hA (r_pick_f hA rfl rfl rfl) rfl fun a hA => 
            stp hA (r_mv hA rfl) rfl fun a hA => 
            o_no hA rfl rfl (by simp [vb]) rfl fun a hA => 
            o_no hA rfl rfl (by simp [vb]) rfl fun a hA => 
            o_no hA rfl rfl (by simp [vb]) rfl fun a hA => 
            stp hA (r_pick_f hA rfl rfl rfl) rfl fun a hA => 
            stp hA (r_mv hA rfl) rfl fun a hA => 
            o_no hA rfl rfl (by simp [vb]) rfl fun a hA => 
            o_no hA rfl rfl (by simp [vb]) rfl fun a hA => 
            o_no hA rfl rfl (by simp [vb]) rfl fun a hA => 
            stp hA (r_pick_f hA rfl rfl rfl) rfl fun a hA => 
            stp hA (r_mv hA rfl) rfl fun a hA => 
            o_no hA rfl rfl (by simp [vb]) rfl fun a hA => 
            o_no hA rfl rfl (by simp [vb]) rfl fun a hA => 
            o_no hA rfl rfl (by simp [vb]) rfl fun a hA => 
            stp hA (r_pick_f hA rfl rfl rfl) rfl fun a hA => 
            stp hA (r_mv hA rfl) rfl fun a hA => 
            o_no hA rfl rfl (by simp [vb]) rfl fun a hA => 
            o_no hA rfl rfl (by simp [vb]) rfl fun a hA => 
            o_no hA rfl rfl (by simp [vb]) rfl fun a hA => 
            stp hA (r_pick_f hA rfl rfl rfl) rfl fun a hA => 
            stp hA (r_mv hA rfl) rfl fun a hA => 
            o_no hA rfl rfl (by simp [vb]) rfl fun a hA => 
            o_no hA rfl rfl (by simp [vb]) rfl fun a hA => 
            o_no hA rfl rfl (by simp [vb]) rfl fun a hA => 
            stp hA (r_pick_f hA rfl rfl rfl) rfl fun a hA => 
            stp hA (r_mv hA rfl) rfl fun a hA => 
            o_no hA rfl rfl (by simp [vb]) rfl fun a hA => 
            o_no hA rfl rfl (by simp [vb]) rfl fun a hA => 
            o_no hA rfl rfl (by simp [vb]) rfl fun a hA => 
            stp hA (r_pick_f hA rfl rfl rfl) rfl fun a hA => 
            stp hA (r_mv hA rfl) rfl fun a hA => 
            o_no hA rfl rfl (by simp [vb]) rfl fun a hA => 
            o_no hA rfl rfl (by simp [vb]) rfl fun a hA => 
            o_no hA rfl rfl (by simp [vb]) rfl fun a hA => 
            o_no hA rfl rfl (by simp [vb]) rfl fun a hA => 
            stp hA (r_pick_f hA rfl rfl rfl) rfl fun a hA => 
            stp hA (r_mv hA rfl) rfl fun a hA => 
            o_no hA rfl rfl (by simp [vb]) rfl fun a hA => 
            o_no hA rfl rfl (by simp [vb]) rfl fun a hA => 
            o_no hA rfl rfl (by simp [vb]) rfl fun a hA => 
            o_no hA rfl rfl (by simp [vb]) rfl fun a hA => 
            stp hA (r_pick_f hA rfl rfl rfl) rfl fun a hA => 
            stp hA (r_as hA rfl) rfl fun a hA => ?_
          refine o_nil ?_
          cases Option.some.inj (bS H)
          exact ⟨μ5, vp7, vp8, (Store.le.refl _), hp10, hp11, hp12, hA.sub ⟨rfl, rfl, rfl, rfl, rfl, rfl, rfl, rfl, rfl, rfl, rfl, rfl, trivial⟩, hI⟩
      · rintro a w ⟨μ6, vvc2, vvc4, hle1, wc2, wc3, wc4, hA, hI⟩
        have H := Hk1
        refine w_ret ?_
        obtain rfl := Option.some.inj (bS H)
        exact ret1 hA Tryd.results7 rfl ⟨_, rfl, rfl, trivial, hI.forget0⟩
end Go.Proofs.YtpeelghbhihgkaaDoor.T
namespace Go.Proofs.YtpeelghbhihgkaaDoor.T
open Go Go.Proofs Go.Proofs.YtpeelghbhihgkaaDoor.K
set_option linter.unusedVariables false
theorem w64 {x : Int} (h0 : -9223372036854775808 ≤ x) (h1 : x < 9223372036854775808) : IntKind.i64.wrap x = x := wrap_id ⟨h0, h1⟩
theorem wu64 {x : Int} (h0 : 0 ≤ x) (h1 : x < 18446744073709551616) : IntKind.u64.wrap x = x := wrap_id ⟨h0, h1⟩
theorem wu32 {x : Int} (h0 : 0 ≤ x) (h1 : x < 4294967296) : IntKind.u32.wrap x = x := wrap_id ⟨h0, h1⟩
theorem number_eq {x n : Int} (hx : InR .i64 x) (h0 : 0 < n) (h1 : n < 9223372036854775808) : ∃ y, sargassoworld_Number.f x n = some y ∧ 0 ≤ y ∧ y < n := by
  obtain ⟨a, b⟩ := hx
  have hn : n ≠ 0 := by omega
  unfold sargassoworld_Number.f
  rw [if_pos hn]
  have hb : -n < Int.tmod x n ∧ Int.tmod x n < n := by
    rcases Int.le_total 0 x with h | h
    · rw [Int.tmod_eq_emod_of_nonneg h]; have := Int.emod_nonneg x hn; have := Int.emod_lt_of_pos x h0; omega
    · have e : Int.tmod x n = -(Int.tmod (-x) n) := by rw [Int.neg_tmod, Int.neg_neg]
      rw [e, Int.tmod_eq_emod_of_nonneg (by omega)]; have := Int.emod_nonneg (-x) hn; have := Int.emod_lt_of_pos (-x) h0; omega
  by_cases hc : Int.tmod x n < 0
  · rw [if_pos hc]
    exact ⟨_, rfl, by rw [w64 (by omega) (by omega)]; omega, by rw [w64 (by omega) (by omega)]; omega⟩
  · rw [if_neg hc]
    exact ⟨_, rfl, by omega, by omega⟩
end Go.Proofs.YtpeelghbhihgkaaDoor.T
namespace Go.Proofs.YtpeelghbhihgkaaDoor.T
open Go Go.Proofs Go.Proofs.YtpeelghbhihgkaaDoor.K
set_option linter.unusedVariables false
set_option linter.unusedSimpArgs false
theorem loop_idx {τ ρ : Type} {step : τ → Option (τ ⊕ ρ)} (st : Nat → τ) (n : Nat) (h : ∀ i, i < n → step (st i) = some (.inl (st (i + 1)))) : loopO step (st 0) = loopO step (st n) := by
  induction n with
  | zero => rfl
  | succ n ih => rw [ih (fun i hi => h i (by omega)), loopO_inl (h n (by omega))]
theorem loop_run {τ ρ : Type} {step : τ → Option (τ ⊕ ρ)} (st : Nat → τ) (n : Nat) {r : ρ} {s : τ} (h0 : s = st 0) (h : ∀ i, i < n → step (st i) = some (.inl (st (i + 1)))) (hn : step (st n) = some (.inr r)) : loopO step s = some r := by
  rw [h0, loop_idx st n h, loopO_inr hn]
theorem bv_nat (n a : Nat) (h : a < 2 ^ n) : (BitVec.ofInt n (a : Int)).toNat = a := by
  rw [BitVec.toNat_ofInt]
  have : ((a : Int) % ((2 ^ n : Nat) : Int)) = a := Int.emod_eq_of_lt (by omega) (by exact_mod_cast h)
  rw [this]
  rfl
theorem in_u (k : IntKind) (hk : k.signed = false) {a : Nat} (h : a < 2 ^ k.bits) : InR k (a : Int) := by
  cases k <;> simp [IntKind.signed] at hk <;> simp [IntKind.bits] at h <;> simp [InR] <;> omega
theorem bOr_nat (k : IntKind) (hk : k.signed = false) {a b : Nat} (ha : a < 2 ^ k.bits) (hb : b < 2 ^ k.bits) : bOr k a b = ((a ||| b : Nat) : Int) := by
  unfold bOr
  rw [BitVec.toNat_or, bv_nat _ _ ha, bv_nat _ _ hb]
  exact wrap_id (in_u k hk (Nat.or_lt_two_pow ha hb))
theorem sR_nat (k : IntKind) {a n : Nat} (hn : n ≤ k.bits) : sR k (a : Int) (n : Int) = ((a >>> n : Nat) : Int) := by
  unfold sR
  have e : min (n : Int).toNat k.bits = n := by simp; omega
  rw [e, Nat.shiftRight_eq_div_pow]
  rw [Int.fdiv_eq_ediv_of_nonneg _ (by exact Int.pow_nonneg (by omega))]
  push_cast
  rfl
end Go.Proofs.YtpeelghbhihgkaaDoor.T
namespace Go.Proofs.YtpeelghbhihgkaaDoor.T
open Go Go.Proofs Go.Proofs.YtpeelghbhihgkaaDoor.K
set_option linter.unusedVariables false
set_option linter.unusedSimpArgs false
def zs (n : Nat) : Nat := (120 - n % 64) % 64
end Go.Proofs.YtpeelghbhihgkaaDoor.T
namespace Go.Proofs.YtpeelghbhihgkaaDoor.T
open Go Go.Proofs Go.Proofs.YtpeelghbhihgkaaDoor.K
set_option linter.unusedVariables false
set_option linter.unusedSimpArgs false
theorem range_map_succ {α : Type} (f : Nat → α) (i : Nat) : (List.range (i + 1)).map f = (List.range i).map f ++ [f i] := by rw [List.range_succ, List.map_append]; rfl
end Go.Proofs.YtpeelghbhihgkaaDoor.T
namespace Go.Proofs.YtpeelghbhihgkaaDoor.T
open Go Go.Proofs Go.Proofs.YtpeelghbhihgkaaDoor.K
set_option linter.unusedVariables false
set_option linter.unusedSimpArgs false
theorem els_all {α : Type} {RE : α → List Value → Prop} {sz : Nat} {xs : List α} {cs : List Value} {Q : α → Prop} (h : Els RE sz xs cs) (f : ∀ x c, RE x c → Q x) : ∀ x ∈ xs, Q x := by
  induction h with
  | nil => simp
  | cons h _ _ ih =>
    intro y hy
    rcases List.mem_cons.1 hy with rfl | hy
    · exact f _ _ h
    · exact ih y hy
theorem slc_ints {k : IntKind} {μ : Store} {v : Value} {xs : List Int} (h : Slc (RI k) 1 μ v xs) : ∀ x ∈ xs, InR k x := by
  obtain ⟨cs, he, _⟩ := h
  exact els_all he fun x c hc => hc.2
theorem winc (i : Nat) (hi : i < 9223372036854775807) : IntKind.i64.wrap ((i : Int) + 1) = ((i + 1 : Nat) : Int) := by
  rw [w64 (by omega) (by omega)]; omega
theorem take_next {α : Type} (xs : List α) (i : Nat) (d : α) (h : i < xs.length) : xs.take i ++ [xs.getD i d] = xs.take (i + 1) := by
  rw [List.take_add_one]
  simp [List.getD, h]
end Go.Proofs.YtpeelghbhihgkaaDoor.T
namespace Go.Proofs.YtpeelghbhihgkaaDoor.T
open Go Go.Proofs Go.Proofs.YtpeelghbhihgkaaDoor.K
set_option linter.unusedVariables false
set_option linter.unusedSimpArgs false
def Hs (l : List (List Int)) : Prop := ∀ x ∈ l, x.length = 32
theorem Hs.at {l : List (List Int)} (h : Hs l) {i : Nat} (hi : i < l.length) : (l.getD i []).length = 32 := by
  have e : l.getD i [] = l[i] := by simp [List.getD, hi]
  rw [e]; exact h _ (List.getElem_mem hi)
end Go.Proofs.YtpeelghbhihgkaaDoor.T
namespace Go.Proofs.YtpeelghbhihgkaaDoor.T
open Go Go.Proofs Go.Proofs.YtpeelghbhihgkaaDoor.K
set_option linter.unusedVariables false
set_option linter.unusedSimpArgs false
theorem u8e (x : Int) : IntKind.u8.wrap x = x % 256 := by simp [IntKind.wrap, IntKind.signed, IntKind.bits]
def lb (a m : Nat) : List Int := (List.range m).map fun j => ((a / 2 ^ (8 * j) % 256 : Nat) : Int)
theorem lb_len (a m : Nat) : (lb a m).length = m := by simp [lb]
theorem sR_div (k : IntKind) {a n : Nat} (hn : n ≤ k.bits) : sR k (a : Int) (n : Int) = ((a / 2 ^ n : Nat) : Int) := by
  rw [sR_nat k hn, Nat.shiftRight_eq_div_pow]
theorem number_eq' (r : List Int) (a k : Nat) (hk : k ≤ 100) (hl : r.length + k ≤ 140737488355328) : compact_number.f r (a : Int) (k : Int) = some (r ++ lb a k) := by
  simp only [compact_number.f]
  have h : loopO (compact_number.s0 (k : Int)) (r, (a : Int), 0) = some (r ++ lb a k, ((a / 2 ^ (8 * k) : Nat) : Int)) := by
    refine loop_run (fun j => (r ++ lb a j, ((a / 2 ^ (8 * j) : Nat) : Int), (j : Int))) k (by simp [lb]) (fun j hj => ?_) ?_
    · simp only [compact_number.s0]
      have e1 : IntKind.u8.wrap ((a / 2 ^ (8 * j) : Nat) : Int) = ((a / 2 ^ (8 * j) % 256 : Nat) : Int) := by rw [u8e]; generalize a / 2 ^ (8 * j) = q; omega
      have e2 : sR .u64 ((a / 2 ^ (8 * j) : Nat) : Int) 8 = ((a / 2 ^ (8 * (j + 1)) : Nat) : Int) := by
        have := sR_div .u64 (a := a / 2 ^ (8 * j)) (n := 8) (by decide)
        rw [Nat.div_div_eq_div_mul, ← Nat.pow_add] at this
        exact this
      rw [if_pos (by omega), if_pos (by simp [lb_len]; omega), e1, e2, winc j (by omega), List.append_assoc]
      have : lb a j ++ [((a / 2 ^ (8 * j) % 256 : Nat) : Int)] = lb a (j + 1) := by
        unfold lb; rw [range_map_succ]
      rw [this]
    · simp only [compact_number.s0]
      rw [if_neg (by omega)]
  rw [h, Option.bind_some]
structure HN where
  v : Nat
  p : List Int
  r : List Int
  t : Nat
  w : Nat
  n : Nat
deriving DecidableEq
def HN.h (h : HN) : Head := ⟨h.v, h.p, h.r, h.t, h.w, h.n⟩
def hb (h : HN) : List Int := lb h.v 4 ++ (h.p ++ (h.r ++ (lb h.t 4 ++ (lb h.w 4 ++ lb h.n 4))))
end Go.Proofs.YtpeelghbhihgkaaDoor.T
namespace Go.Proofs.YtpeelghbhihgkaaDoor.T
open Go Go.Proofs Go.Proofs.YtpeelghbhihgkaaDoor.K
set_option linter.unusedVariables false
set_option linter.unusedSimpArgs false
def sl : List Er := [xErrEnd, xErrShape, xErrLong, xErrMany, xErrValue, xErrTwice, xErrBase, xErrRoot, xErrKnown, xErrParent, xErrInvalid, xErrTime, xErrMissing, xErrKey, xErrYoung, xErrEarly, xErrLess, xErrReward, xErrClash, xErrLimit, xErrFull, xErrRange, xErrNone, xErrWord, xErrNumber]
theorem sl_plain : ∀ e ∈ sl, e ≠ .b 0 ∧ e.isP = false := by decide
theorem alike_eq {e f : Er} (he : e ≠ .b 0) (hf : f ≠ .b 0) (hp : e.isP = false) : sargassosee_Alike.f e f = some (decide (e = f)) := by
  simp only [sargassosee_Alike.f]
  rw [if_neg he, Option.bind_some, if_neg (by simpa using hf), if_pos]
  cases e with
  | pl _ _ => cases hp
  | b n =>
    cases f with
    | pl _ _ => cases n <;> rfl
    | b m =>
      cases n with
      | zero => exact absurd rfl he
      | succ n => rfl
theorem gd {α : Type} (l : List α) (d : α) {i : Nat} (h : i < l.length) : l.getD i d = l[i] := by simp [List.getD, h]
theorem sl_ne : ∀ i, i < 25 → ∀ j, j < 25 → i ≠ j → sl.getD i (.b 0) ≠ sl.getD j (.b 0) := by decide +kernel
theorem sentinel_at (k : Nat) (hk : k < 25) : sargassosee_sentinel.f (sl.getD k (.b 0)) = some (101 + (k : Int)) := by
  have hl : sl.length = 25 := rfl
  have hmem : ∀ i, i < 25 → sl.getD i (.b 0) ∈ sl := fun i hi => by
    have e := gd sl (.b 0) (i := i) (by omega)
    rw [e]; exact List.getElem_mem _
  have h0 : sargassosee_sentinels.f = some sl := rfl
  unfold sargassosee_sentinel.f
  rw [h0, Option.bind_some]
  have hs : ∀ i : Nat, i < 25 → sargassosee_sentinel.s0 (sl.getD k (.b 0)) sl (i : Int) = if k = i then some (.inr (IntKind.i64.wrap (101 + (i : Int)))) else some (.inl (IntKind.i64.wrap ((i : Int) + 1))) := fun i hi => by
    simp only [sargassosee_sentinel.s0]
    rw [if_pos (by omega), if_pos (by omega), Int.toNat_natCast, alike_eq (sl_plain _ (hmem k hk)).1 (sl_plain _ (hmem i hi)).1 (sl_plain _ (hmem k hk)).2, Option.bind_some]
    by_cases h : k = i
    · subst h; rw [if_pos (by simp), if_pos rfl]
    · rw [if_neg (by simpa using sl_ne k hk i hi h), if_neg h]
  have key := loop_idx (step := sargassosee_sentinel.s0 (sl.getD k (.b 0)) sl) (fun i => (i : Int)) k (fun i hi => by rw [hs i (by omega), if_neg (by omega), winc i (by omega)])
  have e0 : ((0 : Nat) : Int) = 0 := rfl
  simp only [e0] at key
  have h1 := hs k hk
  rw [if_pos rfl] at h1
  rw [key, loopO_inr h1, w64 (by omega) (by omega)]
theorem samefault_bare (a b : Int) : sargassoref_SameFault.f ⟨a, false, 0, false, 0⟩ ⟨b, false, 0, false, 0⟩ = some (decide (a = b)) := by
  simp only [sargassoref_SameFault.f]
  by_cases h : a = b
  · simp [h]
  · simp [h]
theorem fault_at (k : Nat) (hk : k < 25) : sargassosee_Fault.f (sl.getD k (.b 0)) = some ⟨101 + (k : Int), false, 0, false, 0⟩ := by
  have hm : sl.getD k (.b 0) ∈ sl := by
    have hl : sl.length = 25 := rfl
    have e := gd sl (.b 0) (i := k) (by omega)
    rw [e]; exact List.getElem_mem _
  obtain ⟨h1, h2⟩ := sl_plain _ hm
  simp only [sargassosee_Fault.f]
  rw [if_neg h1, if_neg (by rw [h2]; decide), sentinel_at k hk]
  rfl
theorem is_at (k : Nat) (hk : k < 25) (c : Int) : sargassosee_Is.f (sl.getD k (.b 0)) c = some (decide (101 + (k : Int) = c)) := by
  simp only [sargassosee_Is.f, sargassosee_Same.f, sargassoref_Bare.f, Option.bind_some]
  rw [fault_at k hk, Option.bind_some, samefault_bare, Option.bind_some, Option.bind_some]
theorem is_end (c : Int) : sargassosee_Is.f xErrEnd c = some (decide (101 = c)) := is_at 0 (by decide) c
end Go.Proofs.YtpeelghbhihgkaaDoor.T
namespace Go.Proofs.YtpeelghbhihgkaaDoor.T
open Go Go.Proofs Go.Proofs.YtpeelghbhihgkaaDoor.K
set_option linter.unusedVariables false
set_option linter.unusedSimpArgs false
def Bs (l : List Int) : Prop := ∀ x ∈ l, InR .u8 x
theorem Bs.app {l m : List Int} (h : Bs l) (k : Bs m) : Bs (l ++ m) := fun x hx => (List.mem_append.1 hx).elim (h x) (k x)
theorem Bs.take {l : List Int} (h : Bs l) (n : Nat) : Bs (l.take n) := fun x hx => h x (List.mem_of_mem_take hx)
theorem Bs.drop {l : List Int} (h : Bs l) (n : Nat) : Bs (l.drop n) := fun x hx => h x (List.mem_of_mem_drop hx)
theorem bs_nil : Bs [] := fun x hx => by cases hx
theorem bs_slc {μ : Store} {v : Value} {l : List Int} (h : Slc (RI .u8) 1 μ v l) : Bs l := slc_ints h
def vl : List Int → Nat
  | [] => 0
  | b :: l => b.toNat + 256 * vl l
theorem vl_snoc (l : List Int) (b : Int) : vl (l ++ [b]) = vl l + 256 ^ l.length * b.toNat := by
  induction l with
  | nil => simp [vl]
  | cons x l ih => simp only [List.cons_append, vl, ih, List.length_cons, Nat.pow_succ]; rw [Nat.mul_add, Nat.mul_comm (256 ^ l.length) 256, Nat.mul_assoc]; omega
theorem vl_lt {l : List Int} (h : Bs l) : vl l < 256 ^ l.length := by
  induction l with
  | nil => simp [vl]
  | cons x l ih =>
    have h1 := ih fun y hy => h y (by simp [hy])
    obtain ⟨h2, h3⟩ := h x (by simp)
    simp only [vl, List.length_cons, Nat.pow_succ]
    omega
theorem or_shift (a b i : Nat) (ha : a < 256 ^ i) (hb : b < 256) (hi : i < 8) : bOr .u64 (a : Int) (sL .u64 (b : Int) ((8 * i : Nat) : Int)) = ((a + 256 ^ i * b : Nat) : Int) := by
  have e1 : (256 : Nat) ^ i = 2 ^ (8 * i) := by rw [Nat.pow_mul]
  have h64 : (256 : Nat) ^ i * 256 ≤ 2 ^ 64 := by
    rw [e1, show (256 : Nat) = 2 ^ 8 from rfl, ← Nat.pow_add]
    exact Nat.pow_le_pow_right (by decide) (by omega)
  have hlt : 256 ^ i * b < 2 ^ 64 := Nat.lt_of_lt_of_le (Nat.mul_lt_mul_of_pos_left hb (Nat.pow_pos (by decide))) h64
  have hs : sL .u64 (b : Int) ((8 * i : Nat) : Int) = ((256 ^ i * b : Nat) : Int) := by
    unfold sL
    have em : min ((8 * i : Nat) : Int).toNat IntKind.u64.bits = 8 * i := by simp [IntKind.bits]; omega
    rw [em]
    have e2 : (b : Int) * 2 ^ (8 * i) = ((256 ^ i * b : Nat) : Int) := by
      rw [e1]; push_cast; exact Int.mul_comm _ _
    rw [e2]
    exact wu64 (by omega) (by omega)
  rw [hs, bOr_nat .u64 rfl (by simp only [IntKind.bits]; exact Nat.lt_of_lt_of_le ha (by omega)) (by simpa [IntKind.bits] using hlt)]
  congr 1
  have := Nat.two_pow_add_eq_or_of_lt (i := 8 * i) (b := a) (by rw [← e1]; exact ha) b
  rw [← e1] at this
  rw [Nat.or_comm, ← this, Nat.add_comm]
def nx (n : Nat) (s : List Int × Er) : List Int × (List Int × Er) :=
  if s.2 ≠ .b 0 then ([], s) else if s.1.length < n then ([], (s.1, xErrEnd)) else (s.1.take n, (s.1.drop n, s.2))
def Rep (r : compactReader) (s : List Int × Er) : Prop := ∃ pre, r = ⟨pre ++ s.1, (pre.length : Int), s.2⟩ ∧ (pre ++ s.1).length ≤ 1000000 ∧ Bs s.1
theorem nx_bs {n : Nat} {s : List Int × Er} (h : Bs s.1) : Bs (nx n s).1 ∧ Bs (nx n s).2.1 := by
  unfold nx
  split
  · exact ⟨bs_nil, h⟩
  · split
    · exact ⟨bs_nil, h⟩
    · exact ⟨h.take _, h.drop _⟩
theorem nx_len (n : Nat) (s : List Int × Er) : (nx n s).1.length ≤ n := by
  unfold nx
  split
  · simp
  · split
    · simp
    · simp; omega
theorem next_eq {r : compactReader} {s : List Int × Er} (h : Rep r s) (n : Nat) : ∃ r', compact_Reader_next.f r (n : Int) = some ((nx n s).1, r') ∧ Rep r' (nx n s).2 := by
  obtain ⟨pre, rfl, hl, hbs⟩ := h
  obtain ⟨rest, e⟩ := s
  simp only at hl hbs ⊢
  rw [List.length_append] at hl
  simp only [compact_Reader_next.f, nx]
  by_cases he : e = .b 0
  · subst he
    rw [if_neg (show ¬ (Er.b 0 ≠ Er.b 0) from fun h => h rfl), if_neg (show ¬ (Er.b 0 ≠ Er.b 0) from fun h => h rfl)]
    have w1 : IntKind.i64.wrap (((pre ++ rest).length : Int) - (pre.length : Int)) = (rest.length : Int) := by
      rw [List.length_append, w64 (by omega) (by omega)]; omega
    rw [w1]
    by_cases hc : rest.length < n
    · rw [if_pos (by omega), if_pos hc]
      exact ⟨_, rfl, pre, rfl, by rw [List.length_append]; exact hl, hbs⟩
    · rw [if_neg (by omega), if_neg hc]
      have w2 : IntKind.i64.wrap ((pre.length : Int) + (n : Int)) = ((pre.length + n : Nat) : Int) := by rw [w64 (by omega) (by omega)]; omega
      have w3 : IntKind.i64.wrap (((pre.length + n : Nat) : Int) - (n : Int)) = (pre.length : Int) := by rw [w64 (by omega) (by omega)]; omega
      rw [w2, w3, if_pos (by rw [List.length_append]; omega), Int.toNat_natCast, Int.toNat_natCast]
      have e1 : ((pre ++ rest).take (pre.length + n)).drop pre.length = rest.take n := by
        rw [List.take_append, List.take_of_length_le (by omega), Nat.add_sub_cancel_left, List.drop_left' rfl]
      rw [e1]
      refine ⟨_, rfl, pre ++ rest.take n, ?_, ?_, hbs.drop n⟩
      · rw [List.append_assoc, List.take_append_drop, List.length_append, List.length_take, Nat.min_eq_left (by omega)]
      · rw [List.append_assoc, List.take_append_drop, List.length_append]; exact hl
  · rw [if_pos he, if_pos he]
    exact ⟨_, rfl, pre, rfl, by rw [List.length_append]; exact hl, hbs⟩
theorem left_eq {r : compactReader} {s : List Int × Er} (h : Rep r s) : compact_Reader_Left.f r = some (s.1.length : Int) := by
  obtain ⟨pre, rfl, hl, hbs⟩ := h
  rw [List.length_append] at hl
  simp only [compact_Reader_Left.f]
  rw [List.length_append, w64 (by omega) (by omega)]
  congr 1
  omega
theorem err_eq {r : compactReader} {s : List Int × Er} (h : Rep r s) : compact_Reader_Err.f r = some s.2 := by
  obtain ⟨pre, rfl, hl, hbs⟩ := h
  rfl
theorem rep_err {r : compactReader} {s : List Int × Er} (h : Rep r s) : r.err = s.2 := by
  obtain ⟨pre, rfl, hl, hbs⟩ := h
  rfl
theorem read_eq {b : List Int} (hb : Bs b) (hl : b.length ≤ 1000000) : ∃ r, compact_Read.f b = some r ∧ Rep r (b, .b 0) := by
  simp only [compact_Read.f, bytes_Clone.f]
  rw [if_pos (by omega), Option.bind_some]
  exact ⟨_, rfl, [], rfl, by simpa using hl, hb⟩
def wh (n : Nat) (s : List Int × Er) : Nat × (List Int × Er) := (vl (nx n s).1, (nx n s).2)
theorem vl_step (l : List Int) (hb : Bs l) (i : Nat) (hi : i < l.length) (h8 : l.length ≤ 8) : bOr .u64 ((vl (l.take i) : Nat) : Int) (sL .u64 (IntKind.u64.wrap (l.getD i 0)) ((8 * i : Nat) : Int)) = ((vl (l.take (i + 1)) : Nat) : Int) := by
  have hm : l.getD i 0 ∈ l := by
    have e : l.getD i 0 = l[i] := by simp [List.getD, hi]
    rw [e]; exact List.getElem_mem hi
  obtain ⟨h2, h3⟩ := hb _ hm
  have hlt := vl_lt (hb.take i)
  rw [List.length_take, Nat.min_eq_left (by omega)] at hlt
  rw [← take_next l i 0 hi, vl_snoc, List.length_take, Nat.min_eq_left (by omega), wu64 (by omega) (by omega)]
  have e : l.getD i 0 = (((l.getD i 0).toNat : Nat) : Int) := by omega
  have := or_shift (vl (l.take i)) (l.getD i 0).toNat i hlt (by omega) (by omega)
  rw [← e] at this
  exact this
theorem whole_eq {r : compactReader} {s : List Int × Er} (h : Rep r s) (n : Nat) (hn : n ≤ 8) : ∃ r', compact_Reader_whole.f r (n : Int) = some (((wh n s).1 : Int), r') ∧ Rep r' (wh n s).2 := by
  obtain ⟨r', h1, h2⟩ := next_eq h n
  have hb := (nx_bs (n := n) (show Bs s.1 from h.elim fun _ h => h.2.2)).1
  have hlen := nx_len n s
  refine ⟨r', ?_, h2⟩
  simp only [compact_Reader_whole.f, wh]
  rw [h1, Option.bind_some]
  generalize (nx n s).1 = l at *
  have hl : loopO (compact_Reader_whole.s0 (l, r')) (0, 0) = some ((vl l : Int), r'.b, r'.at_, r'.err) := by
    refine loop_run (fun i => (((vl (l.take i) : Nat) : Int), (i : Int))) l.length (by simp [vl]) (fun i hi => ?_) ?_
    · simp only [compact_Reader_whole.s0, Int.toNat_natCast]
      have w8 : IntKind.i64.wrap (8 * (i : Int)) = ((8 * i : Nat) : Int) := by rw [w64 (by omega) (by omega)]; omega
      rw [if_pos (by omega), if_pos (by omega), w8, if_pos (by omega), winc i (by omega), vl_step l hb i hi (by omega)]
    · simp only [compact_Reader_whole.s0]
      rw [if_neg (by omega), List.take_length]
  rw [hl, Option.bind_some]
def ln (n : Nat) : Nat := if n < 253 then 1 else if n < 65536 then 3 else if n < 4294967296 then 5 else 9
theorem len_eq (n : Nat) : compact_Len.f (n : Int) = some (ln n : Int) := by
  simp only [compact_Len.f, ln]
  by_cases h1 : n < 253
  · rw [if_pos (by omega), if_pos h1]; rfl
  · rw [if_neg (by omega), if_neg h1]
    by_cases h2 : n < 65536
    · rw [if_pos (by omega), if_pos h2]; rfl
    · rw [if_neg (by omega), if_neg h2]
      by_cases h3 : n < 4294967296
      · rw [if_pos (by omega), if_pos h3]; rfl
      · rw [if_neg (by omega), if_neg h3]; rfl
def my (n : Nat) : Nat := if n = 253 then 2 else if n = 254 then 4 else if n = 255 then 8 else 0
def nm (most : Int) (s : List Int × Er) : Nat × (List Int × Er) :=
  let a := wh 1 s
  let b := if 0 < my a.1 then wh (my a.1) a.2 else a
  if b.2.2 ≠ .b 0 then (0, b.2) else if ln b.1 ≠ 1 + my a.1 then (0, (b.2.1, xErrShape)) else if most < (b.1 : Int) then (0, (b.2.1, xErrMany)) else b
theorem my_le (n : Nat) : my n ≤ 8 := by unfold my; split <;> (try split) <;> (try split) <;> omega
theorem num_eq {r : compactReader} {s : List Int × Er} (h : Rep r s) (most : Int) : ∃ r', compact_Reader_Num.f r most = some (((nm most s).1 : Int), r') ∧ Rep r' (nm most s).2 := by
  obtain ⟨r1, h1, h2⟩ := whole_eq h 1 (by omega)
  simp only [compact_Reader_Num.f, nm]
  rw [show ((1 : Nat) : Int) = 1 from rfl] at h1
  rw [h1, Option.bind_some]
  generalize wh 1 s = a at *
  obtain ⟨a1, a2⟩ := a
  simp only at h1 h2 ⊢
  have hmy : (if (a1 : Int) = 253 then some (2 : Int) else if (a1 : Int) = 254 then some 4 else if (a1 : Int) = 255 then some 8 else some 0) = some ((my a1 : Nat) : Int) := by
    unfold my
    by_cases c1 : a1 = 253
    · rw [if_pos (by omega), if_pos c1]; rfl
    · rw [if_neg (by omega), if_neg c1]
      by_cases c2 : a1 = 254
      · rw [if_pos (by omega), if_pos c2]; rfl
      · rw [if_neg (by omega), if_neg c2]
        by_cases c3 : a1 = 255
        · rw [if_pos (by omega), if_pos c3]; rfl
        · rw [if_neg (by omega), if_neg c3]; rfl
  rw [hmy, Option.bind_some]
  have hmid : ∃ r2, (if 0 < ((my a1 : Nat) : Int) then (compact_Reader_whole.f r1 ((my a1 : Nat) : Int)).bind fun r2 => some (r2.1, r2.2.b, r2.2.at_, r2.2.err) else some ((a1 : Int), r1.b, r1.at_, r1.err)) = some ((((if 0 < my a1 then wh (my a1) a2 else (a1, a2)).1 : Nat) : Int), r2.b, r2.at_, r2.err) ∧ Rep r2 (if 0 < my a1 then wh (my a1) a2 else (a1, a2)).2 := by
    by_cases hp : 0 < my a1
    · obtain ⟨r2, h3, h4⟩ := whole_eq h2 (my a1) (my_le a1)
      rw [if_pos (by omega), if_pos hp, h3, Option.bind_some]
      exact ⟨r2, rfl, h4⟩
    · rw [if_neg (by omega), if_neg hp]
      exact ⟨r1, rfl, h2⟩
  obtain ⟨r2, h3, h4⟩ := hmid
  rw [h3, Option.bind_some]
  generalize (if 0 < my a1 then wh (my a1) a2 else (a1, a2)) = b at *
  obtain ⟨b1, b2⟩ := b
  simp only at h4 ⊢
  have he := rep_err h4
  have hw : IntKind.i64.wrap (1 + ((my a1 : Nat) : Int)) = ((1 + my a1 : Nat) : Int) := by have := my_le a1; rw [w64 (by omega) (by omega)]; omega
  rw [he, len_eq, Option.bind_some, hw]
  obtain ⟨pre, e1, hl, hbs⟩ := h4
  by_cases c1 : b2.2 = .b 0
  · rw [if_neg (show ¬ (b2.2 ≠ .b 0) from fun h => h c1), if_neg (show ¬ (b2.2 ≠ .b 0) from fun h => h c1)]
    by_cases c2 : ln b1 = 1 + my a1
    · rw [if_neg (show ¬ (((ln b1 : Nat) : Int) ≠ ((1 + my a1 : Nat) : Int)) from fun h => h (by rw [c2])), if_neg (show ¬ (ln b1 ≠ 1 + my a1) from fun h => h c2)]
      by_cases c3 : most < (b1 : Int)
      · rw [if_pos c3, if_pos c3]
        exact ⟨_, rfl, pre, by rw [e1], hl, hbs⟩
      · rw [if_neg c3, if_neg c3]
        exact ⟨_, rfl, pre, by rw [e1], hl, hbs⟩
    · rw [if_pos (by omega), if_pos c2]
      exact ⟨_, rfl, pre, by rw [e1], hl, hbs⟩
  · rw [if_pos c1, if_pos c1]
    exact ⟨_, rfl, pre, by rw [e1], hl, hbs⟩
theorem rfour_eq {r : compactReader} {s : List Int × Er} (h : Rep r s) : ∃ r', compact_Reader_Four.f r = some (((wh 4 s).1 : Int), r') ∧ Rep r' (wh 4 s).2 := by
  obtain ⟨r1, h1, h2⟩ := whole_eq h 4 (by omega)
  refine ⟨r1, ?_, h2⟩
  simp only [compact_Reader_Four.f]
  rw [show ((4 : Nat) : Int) = 4 from rfl] at h1
  have hlt : (wh 4 s).1 < 4294967296 := by
    have h3 := vl_lt (nx_bs (n := 4) (show Bs s.1 from h.elim fun _ h => h.2.2)).1
    have h4 := nx_len 4 s
    have : 256 ^ (nx 4 s).1.length ≤ 256 ^ 4 := Nat.pow_le_pow_right (by decide) h4
    simp only [wh]
    omega
  rw [h1, Option.bind_some, wu32 (by omega) (by omega)]
theorem reight_eq {r : compactReader} {s : List Int × Er} (h : Rep r s) : ∃ r', compact_Reader_Eight.f r = some (((wh 8 s).1 : Int), r') ∧ Rep r' (wh 8 s).2 := by
  obtain ⟨r1, h1, h2⟩ := whole_eq h 8 (by omega)
  refine ⟨r1, ?_, h2⟩
  simp only [compact_Reader_Eight.f]
  rw [show ((8 : Nat) : Int) = 8 from rfl] at h1
  rw [h1, Option.bind_some]
def h32 (s : List Int × Er) : List Int × (List Int × Er) := (if (nx 32 s).1 = [] then List.replicate 32 0 else (nx 32 s).1, (nx 32 s).2)
theorem nx_full (n : Nat) (s : List Int × Er) : (nx n s).1 = [] ∨ (nx n s).1.length = n := by
  unfold nx
  split
  · exact .inl rfl
  · split
    · exact .inl rfl
    · rename_i h; exact .inr (by simp; omega)
theorem rhash_eq {r : compactReader} {s : List Int × Er} (h : Rep r s) : ∃ r', compact_Reader_Hash.f r = some ((h32 s).1, r') ∧ Rep r' (h32 s).2 := by
  obtain ⟨r1, h1, h2⟩ := next_eq h 32
  refine ⟨r1, ?_, h2⟩
  simp only [compact_Reader_Hash.f, h32]
  rw [show ((32 : Nat) : Int) = 32 from rfl] at h1
  rw [h1, Option.bind_some]
  rcases nx_full 32 s with e | e
  · rw [e, if_pos rfl]; simp [cpy]
  · rw [if_neg (fun h => by rw [h] at e; cases e)]
    simp only [cpy, List.length_replicate]
    rw [List.take_of_length_le (by omega), List.drop_of_length_le (by simp; omega), List.append_nil]
def by_ (n : Int) (s : List Int × Er) : List Int × (List Int × Er) := if n ≤ 0 then ([], s) else nx n.toNat s
theorem rbytes_eq {r : compactReader} {s : List Int × Er} (h : Rep r s) (n : Int) : ∃ r', compact_Reader_Bytes.f r n = some ((by_ n s).1, r') ∧ Rep r' (by_ n s).2 := by
  simp only [compact_Reader_Bytes.f, by_]
  by_cases h0 : n ≤ 0
  · rw [if_pos h0, if_pos h0]
    exact ⟨r, rfl, h⟩
  · rw [if_neg h0, if_neg h0]
    obtain ⟨r1, h1, h2⟩ := next_eq h n.toNat
    rw [Int.toNat_of_nonneg (by omega)] at h1
    have h3 : (nx n.toNat s).1.length ≤ 1000000 := by
      obtain ⟨pre, _, h4, _⟩ := h
      rw [List.length_append] at h4
      unfold nx
      split
      · simp
      · split
        · simp
        · simp; omega
    refine ⟨r1, ?_, h2⟩
    rw [h1, Option.bind_some]
    simp only [bytes_Clone.f]
    rw [if_pos (by omega), Option.bind_some]
end Go.Proofs.YtpeelghbhihgkaaDoor.T
namespace Go.Proofs.YtpeelghbhihgkaaDoor.T
open Go Go.Proofs Go.Proofs.YtpeelghbhihgkaaDoor.K
set_option linter.unusedVariables false
set_option linter.unusedSimpArgs false
def pt (n : Nat) : List Int := if n < 253 then lb n 1 else if n < 65536 then 253 :: lb n 2 else if n < 4294967296 then 254 :: lb n 4 else 255 :: lb n 8
theorem lb_one (n : Nat) : lb n 1 = [((n % 256 : Nat) : Int)] := by simp [lb, List.range_succ]
theorem put_eq (b : List Int) (n : Nat) (hn : n < 18446744073709551616) (hl : b.length ≤ 1000000) : compact_Put.f b (n : Int) = some (b ++ pt n) := by
  simp only [compact_Put.f, bytes_Clone.f]
  rw [if_pos (by omega), Option.bind_some, len_eq, Option.bind_some]
  unfold ln pt
  by_cases h1 : n < 253
  · rw [if_pos h1, if_pos h1, if_pos (by rfl), if_pos (by omega), u8e, lb_one]
    congr 3
  · rw [if_neg h1, if_neg h1]
    by_cases h2 : n < 65536
    · have := number_eq' (b ++ [253]) n 2 (by omega) (by simp; omega)
      rw [show ((2 : Nat) : Int) = 2 from rfl] at this
      rw [if_pos h2, if_pos h2, if_neg (by decide), if_pos (by rfl), if_pos (by omega), this, Option.bind_some, List.append_assoc]; rfl
    · rw [if_neg h2, if_neg h2]
      by_cases h3 : n < 4294967296
      · have := number_eq' (b ++ [254]) n 4 (by omega) (by simp; omega)
        rw [show ((4 : Nat) : Int) = 4 from rfl] at this
        rw [if_pos h3, if_pos h3, if_neg (by decide), if_neg (by decide), if_pos (by rfl), if_pos (by omega), this, Option.bind_some, List.append_assoc]; rfl
      · have := number_eq' (b ++ [255]) n 8 (by omega) (by simp; omega)
        rw [show ((8 : Nat) : Int) = 8 from rfl] at this
        rw [if_neg h3, if_neg h3, if_neg (by decide), if_neg (by decide), if_neg (by decide), if_pos (by omega), this, Option.bind_some, List.append_assoc]; rfl
theorem first2 : sargassolaw2_first.f = some true := by
  simp only [sargassolaw2_first.f]
  have h := put_eq [] 253 (by omega) (by simp)
  rw [show ((253 : Nat) : Int) = 253 from rfl] at h
  have h1 := len_eq 1
  rw [show ((1 : Nat) : Int) = 1 from rfl] at h1
  rw [h, Option.bind_some, h1]
  rfl
theorem nx_end {n : Nat} {l : List Int} (h : l.length < n) : nx n (l, .b 0) = ([], (l, xErrEnd)) := by
  unfold nx
  rw [if_neg (fun h => h rfl), if_pos h]
theorem nx_err {n : Nat} {l : List Int} {e : Er} (h : e ≠ .b 0) : nx n (l, e) = ([], (l, e)) := by
  unfold nx
  rw [if_pos h]
theorem wh_err {n : Nat} {l : List Int} {e : Er} (h : e ≠ .b 0) : wh n (l, e) = (0, (l, e)) := by rw [wh, nx_err h]; rfl
theorem nm_err {most : Int} {l : List Int} {e : Er} (h : e ≠ .b 0) : nm most (l, e) = (0, (l, e)) := by
  unfold nm
  rw [wh_err h]
  simp only
  rw [if_neg (show ¬ 0 < my 0 by decide)]
  simp only
  rw [if_pos h]
end Go.Proofs.YtpeelghbhihgkaaDoor.T
namespace Go.Proofs.YtpeelghbhihgkaaDoor.T
open Go Go.Proofs Go.Proofs.YtpeelghbhihgkaaDoor.K
set_option linter.unusedVariables false
set_option linter.unusedSimpArgs false
theorem sargassolaw2_CompactStops.m (μ : Store) (x0 : List Int) (v0 : Value) (h0 : Slc (RI .u8) 1 μ v0 x0) (x1 : Int) (h1 : InR .i64 x1) : sargassolaw2_CompactStops.f x0 x1 = some true := by
  simp only [sargassolaw2_CompactStops.f, first2, Option.bind_some, if_true]
  by_cases hc : 30 < (x0.length : Int)
  · rw [if_pos hc]
  have he : xErrEnd ≠ .b 0 := by decide
  obtain ⟨r2, e2, p2⟩ := read_eq (bs_slc h0) (by omega)
  obtain ⟨y, ey, y0, y1⟩ := number_eq (x := x1) (n := 50) h1 (by omega) (by omega)
  rw [if_neg hc, e2, Option.bind_some, ey, Option.bind_some, w64 (x := (x0.length : Int) + 1) (by omega) (by omega), w64 (by omega) (by omega)]
  obtain ⟨r4, e4, p4⟩ := rbytes_eq p2 ((x0.length : Int) + 1 + y)
  have hb : by_ ((x0.length : Int) + 1 + y) (x0, .b 0) = ([], (x0, xErrEnd)) := by
    unfold by_
    rw [if_neg (by omega), nx_end (by omega)]
  rw [hb] at e4 p4
  rw [e4, Option.bind_some]
  simp only
  rw [err_eq p4, Option.bind_some, left_eq p4, Option.bind_some]
  obtain ⟨r7, e7, p7⟩ := rhash_eq p4
  have hh : h32 (x0, xErrEnd) = (List.replicate 32 0, (x0, xErrEnd)) := by
    unfold h32
    rw [nx_err he, if_pos rfl]
  rw [hh] at e7 p7
  rw [e7, Option.bind_some]
  simp only
  obtain ⟨r8, e8, p8⟩ := rbytes_eq p7 (x0.length : Int)
  have hb2 : by_ (x0.length : Int) (x0, xErrEnd) = ([], (x0, xErrEnd)) := by
    unfold by_
    split
    · rfl
    · rw [nx_err he]
  rw [hb2] at e8 p8
  rw [e8, Option.bind_some]
  simp only
  obtain ⟨r10, e10, p10⟩ := num_eq p8 5
  rw [nm_err he] at e10 p10
  obtain ⟨r11, e11, p11⟩ := rfour_eq p10
  rw [wh_err he] at e11 p11
  obtain ⟨r12, e12, p12⟩ := reight_eq p11
  rw [wh_err he] at e12 p12
  rw [if_pos (show (([] : List Int).length : Int) = 0 from rfl), is_end, Option.bind_some, if_pos (by decide), e10, Option.bind_some, if_pos (show ((0 : Nat) : Int) = 0 from rfl), e11, Option.bind_some, if_pos (show ((0 : Nat) : Int) = 0 from rfl), e12, Option.bind_some, if_pos (show ((0 : Nat) : Int) = 0 from rfl), if_pos (show (List.replicate 32 (0 : Int)).getD (Int.toNat 0) 0 = 0 from rfl), if_pos (show (List.replicate 32 (0 : Int)).getD (Int.toNat 31) 0 = 0 from rfl), if_pos (show (([] : List Int).length : Int) = 0 from rfl), err_eq p12, Option.bind_some, is_end, Option.bind_some, if_pos (by decide), left_eq p12, Option.bind_some, if_pos rfl, Option.bind_some]
  simp
end Go.Proofs.YtpeelghbhihgkaaDoor.T
namespace Go.Proofs.YtpeelghbhihgkaaDoor.K
open Go Go.Proofs Go.ChangeShapes Go.WideShapes Go.RowKit
def mem (w : World) : Store := fun k => w.heap[k]?
theorem agr_mem (w : World) : Agr (mem w) w := fun _ _ h => h
theorem mem_cell {w : World} {g i : Nat} {v : Value} (h : w.cell? ⟨g, i, none⟩ = some v) : (mem w).cell g i = some v := by
  unfold World.cell? at h
  unfold Store.cell mem
  cases hm : w.heap[g]? with
  | none => simp [hm] at h
  | some o => cases o <;> simp_all
theorem wf_in {k : IntKind} {n : Int} (h : (Lit.int k n).wf = true) : InR k n := by
  cases k <;> simp [Lit.wf, IntKind.min, IntKind.max, IntKind.signed, IntKind.bits] at h <;> simp [InR] <;> omega
section
variable {H : Type} {enc : TypeId × Value → H} {P : Program} {w : World} {base : Nat} {spare : Nat → Bool} {held : Bool} {t e : TypeId}
def Rd (enc : TypeId × Value → H) (P : Program) (w : World) (base : Nat) (spare : Nat → Bool) (held : Bool) (t : TypeId) (R : List Value → Prop) : Prop :=
  ∀ fuel cs x, DataW.trod enc P w base spare held fuel t cs = some x → R cs
theorem rd_int {k : IntKind} (ht : P.underlying t = some (.int k)) : Rd enc P w base spare held t (fun c => ∃ n, RI k n c) := by
  intro fuel cs x h
  obtain ⟨n, rfl, _, hw⟩ := DataW.trod_int ht h
  exact ⟨n, rfl, wf_in hw⟩
theorem els_of {α : Type} {RE : α → List Value → Prop} {sz : Nat} : ∀ {n : Nat} {Q : Nat → Value → Prop}, (∀ i, i < n → ∃ x c, RE x c ∧ c.length = sz ∧ ∀ j v, c[j]? = some v → Q (i * sz + j) v) →
    ∃ xs cs, xs.length = n ∧ Els RE sz xs cs ∧ ∀ j v, cs[j]? = some v → Q j v
  | 0, _, _ => ⟨[], [], rfl, .nil, fun j v h => by simp at h⟩
  | n + 1, Q, f => by
    obtain ⟨x, c, h1, h2, h3⟩ := f 0 (by omega)
    obtain ⟨xs, cs, e1, e2, e3⟩ := els_of (n := n) (Q := fun m v => Q (sz + m) v) (fun i hi => by
      obtain ⟨x, c, h1, h2, h3⟩ := f (i + 1) (by omega)
      refine ⟨x, c, h1, h2, fun j v hj => ?_⟩
      have := h3 j v hj
      rwa [Nat.add_mul, Nat.one_mul, Nat.add_comm (i * sz), Nat.add_assoc] at this)
    refine ⟨x :: xs, c ++ cs, by simp [e1], .cons h1 h2 e2, fun j v hj => ?_⟩
    rcases Nat.lt_or_ge j c.length with h | h
    · rw [List.getElem?_append_left h] at hj
      simpa using h3 j v hj
    · rw [List.getElem?_append_right h] at hj
      have := e3 _ _ hj
      rwa [h2, Nat.add_sub_cancel' (by omega)] at this
theorem rd_slice {α : Type} {RE : α → List Value → Prop} {sz : Nat} (ht : P.underlying t = some (.slice e)) (hc : P.cellsOf e = sz) (h0 : 0 < sz) (hr : Rd enc P w base spare held e (fun c => ∃ x, RE x c)) :
    Rd enc P w base spare held t (fun c => ∃ v xs, c = [v] ∧ Slc RE sz (mem w) v xs) := by
  intro fuel cs x h
  rcases DataW.trod_slice ht h with ⟨rfl, _⟩ | ⟨a, len, cap, elems, rest, n, _, rfl, _, _, hl, hm, hlen, hel, _, _⟩
  · exact ⟨_, [], rfl, [], .nil, none, 0, rfl, Nat.le_refl _, Nat.zero_le _, fun h => absurd rfl h, fun h => absurd rfl h⟩
  have each0 : ∀ i, i < len → ∃ x c, RE x c ∧ c.length = sz ∧ ∀ j, j < sz → w.cell? ((a.add (i * sz)).add j) = c[j]? := by
    intro i hi
    have h1 := hel i hi
    rw [List.getElem?_eq_getElem (by omega), hc] at h1
    obtain ⟨c, hc1, hc2⟩ := Option.bind_eq_some_iff.1 h1
    obtain ⟨_, l1, l2⟩ := World.cells?_some hc1
    obtain ⟨x, hx⟩ := hr _ _ _ hc2
    exact ⟨x, c, hx, l1, l2⟩
  have hs : 0 < len → a.spot = none := by
    intro hp
    obtain ⟨x, c, _, l1, l2⟩ := each0 0 hp
    have h2 := (l2 0 h0).trans (List.getElem?_eq_getElem (by omega))
    simpa [Addr.add] using World.cell?_spot h2
  obtain ⟨b, off, spot⟩ := a
  simp only at hs
  have each : ∀ i, i < len → ∃ x c, RE x c ∧ c.length = sz ∧ ∀ j v, c[j]? = some v → (fun m v => w.cell? ⟨b, off + m, none⟩ = some v) (i * sz + j) v := by
    intro i hi
    obtain ⟨x, c, hx, l1, l2⟩ := each0 i hi
    refine ⟨x, c, hx, l1, fun j v hj => ?_⟩
    have hjl : j < sz := by
      have := (List.getElem?_eq_some_iff.1 hj).1
      omega
    have h2 := (l2 j hjl).trans hj
    rw [hs (by omega), add_plain, add_plain] at h2
    simpa [Nat.add_assoc] using h2
  obtain ⟨xs, cs, e1, e2, e3⟩ := els_of (RE := RE) (sz := sz) (Q := fun m v => w.cell? ⟨b, off + m, none⟩ = some v) each
  refine ⟨_, xs, rfl, cs, e2, some ⟨b, off, spot⟩, cap, by rw [e1], by omega, hm, fun hn => by rw [hs (by omega)]; rfl, fun hn j v hj => mem_cell (e3 j v hj)⟩
theorem rd_at {R : List Value → Prop} {v : Value} {d : DataW H} {ps : List MemPlace} (hr : Rd enc P w base spare held t R) (h : DataW.Trod enc P w base spare held t v d ps) : R v.cells.toList := by
  obtain ⟨fuel, hf⟩ := h
  exact hr _ _ _ hf
theorem at_slice {α : Type} {RE : α → List Value → Prop} {sz : Nat} {r : Reach} {b0 : Nat} {v : Value} {d : DataW H} {ps : List MemPlace} (ht : P.underlying t = some (.slice e)) (hval : Value.okWide P w r b0 t v)
    (hr : Rd enc P w base spare held t (fun c => ∃ v xs, c = [v] ∧ Slc RE sz (mem w) v xs)) (h : DataW.Trod enc P w base spare held t v d ps) : ∃ xs, Slc RE sz (mem w) v xs := by
  obtain ⟨a, len, cap, rfl⟩ := okWide_slice ht hval
  obtain ⟨u, xs, e1, h2⟩ := rd_at hr h
  simp [Value.cells] at e1
  subst e1
  exact ⟨xs, h2⟩
theorem again {W W' : World} {v : Value} {d : DataW H} {ps : List MemPlace} (hl : laidOutB P = true) (hr : P.readableRec t = true) (hrow : t < P.types.size) (h : DataW.Trod enc P W 0 (fun _ => true) true t v d ps) (hb : Below W.heap.size W W') :
    DataW.Trod enc P W' 0 (fun b => decide (b < W.heap.size)) true t v d ps :=
  Below.trod hl hr hrow h hb (fun p hp => let ⟨n, hn⟩ := h; DataW.trod_lt n _ _ _ hn p hp)
end
end Go.Proofs.YtpeelghbhihgkaaDoor.K
namespace Go.Proofs.YtpeelghbhihgkaaDoor.K
open Go Go.Proofs
set_option linter.unusedVariables false
theorem laid_each {P : Program} {W : World} : ∀ {l : List (String × DataW Unit)} {ps : List MemPlace}, DataW.LaidVars P W l ps → ∀ {n : String} {d : DataW Unit}, (n, d) ∈ l →
    ∃ g t cs fuel p, P.globalNamed n = some g ∧ (P.globals[g]?).map (·.type) = some t ∧ W.var? P n = some cs ∧ DataW.trod (fun _ => ()) P W 0 (fun _ => true) false fuel t cs.toList = some (d, p) ∧ ∀ x ∈ MemPlace.row ⟨g, 0, none⟩ cs.size ++ p, x ∈ ps
  | [], ps, h, n, d, hm => by cases hm
  | (m, e) :: r, ps, h, n, d, hm => by
    obtain ⟨g, t, cs, fuel, p, q, hg, ht, hv, hd, hr, rfl⟩ := h
    rcases List.mem_cons.1 hm with e1 | hm
    · cases e1
      exact ⟨g, t, cs, fuel, p, hg, ht, hv, hd, fun x hx => List.mem_append_left _ hx⟩
    · obtain ⟨g', t', cs', fuel', p', a1, a2, a3, a4, a5⟩ := laid_each hr hm
      exact ⟨g', t', cs', fuel', p', a1, a2, a3, a4, fun x hx => List.mem_append_right _ (a5 x hx)⟩
theorem sent_of_laid {P : Program} {W : World} {laid : List (String × DataW Unit)} {code : ByteArray → Nat} {n : String} {text : List UInt8} {g : Nat} {ti tp ta te ts : TypeId} {ms : Array (String × TypeId)} {f : Field}
    (h : laidMet P laid W) (hm : (n, .iface "*errors.errorString" (.ptr (.agg [.lit (.string text)]))) ∈ laid) (hg : P.globalNamed n = some g) (ht : (P.globals[g]?).map (·.type) = some ti)
    (hi : P.underlying ti = some (.interface ms)) (hrow : ∀ u, P.typeName? 3 u = some "*errors.errorString" → u = tp) (hp : P.underlying tp = some (.pointer te)) (he : P.underlying te = some (.struct #[f])) (hft : f.type = ts) (hfo : f.offset = 0) (hs : P.underlying ts = some .string) (hc : P.cellsOf te = 1) (hcs : P.cellsOf ts = 1)
    (hcode : ∀ s : ByteArray, s.data.toList = text → code s = g + 1) : ∃ v, ErV tp ta code (mem W) (.b (g + 1)) v := by
  obtain ⟨ps, hl, hnd, hrows⟩ := h
  obtain ⟨g', t', cs, fuel, p, a1, a2, a3, a4, a5⟩ := laid_each hl hm
  obtain rfl := Option.some.inj (hg.symm.trans a1)
  obtain rfl := Option.some.inj (ht.symm.trans a2)
  obtain ⟨l⟩ := cs
  have ok : ∀ u v, l = [.iface u v] → Value.okWide P W .any 0 u v := fun u v e => by
    subst e
    exact (hrows g 0 (a5 _ (by simp [MemPlace.row]))).2 u v (by simpa using World.var?_cell hg a3 0)
  obtain ⟨a, s, rfl, hcell, hst, hz, rfl⟩ := errorString_of_trod hi hrow hp he hft hfo hs hc hcs a4 ok
  obtain ⟨c, t, hb⟩ := (hrows a.block a.off (a5 _ (by simp [MemPlace.row]))).1
  refine ⟨.iface tp (.pointer (some a)), .inr ⟨by omega, mem_cell (by simpa using World.var?_cell hg a3 0), a, s, c, t, rfl, hb, hcode s hst, fun w hw => ?_⟩⟩
  have e : w.heap[a.block]? = W.heap[a.block]? := (hw _ _ hb).trans hb.symm
  unfold World.cell? at hcell ⊢
  rw [e]
  exact hcell
end Go.Proofs.YtpeelghbhihgkaaDoor.K
