/- Proved: the statement NotesPlay, as given (its conditions are those of the given row, and card where there is one; no others): the call ends, with true, and the input reads as it did. This file is one of its parts. -/
import Derived.Test.YtcpdnoochieecaaDoorPNotesPlay1
namespace Go.Proofs.YtcpdnoochieecaaDoor.T
open Go Go.Proofs Go.Proofs.YtcpdnoochieecaaDoor.K
set_option linter.unusedVariables false
set_option linter.unusedSimpArgs false
set_option maxRecDepth 20000 in
theorem sargassoref_SameFault.c (μ : Store) (w0 : World) (hμ : Agr μ w0) (x0 : sargassorefFault) (hx0 : sargassorefFaultW μ x0) (x1 : sargassorefFault) (hx1 : sargassorefFaultW μ x1) (r : Bool) (H : sargassoref_SameFault.f x0 x1 = some r) :
    Calls Tryd.prog 56 [.agg [[.int .i64 x0.Code], [.bool x0.Placed], [.int .i64 x0.Pos], [.bool x0.Outer], [.int .i64 x0.At]].flatten.toArray, .agg [[.int .i64 x1.Code], [.bool x1.Placed], [.int .i64 x1.Pos], [.bool x1.Outer], [.int .i64 x1.At]].flatten.toArray].toArray w0 (fun e w' => ∃ v, e = .returned v ∧ v = .bool r ∧ True ∧ Iv w0 [] μ μ [] w') := by
  refine enter Tryd.func56 rfl Tryd.ntmps56 rfl fun a hA => ?_
  have hI := Iv.start hμ
  have H := bI H
  refine w_seq fun _ hN1 => w_reg <| o_box [[.int .i64 x0.Code], [.bool x0.Placed], [.int .i64 x0.Pos], [.bool x0.Outer], [.int .i64 x0.At]] hI hA rfl rfl rfl fun g1 a w hA hI hg1 => 
    o_box [[.int .i64 x1.Code], [.bool x1.Placed], [.int .i64 x1.Pos], [.bool x1.Outer], [.int .i64 x1.At]] hI hA rfl rfl rfl fun g2 a w hA hI hg2 => 
    sta hA rfl rfl fun a hA => ?_
  refine o_nil <| hN1 _ _ ?_
  obtain ⟨c1, hz1, Hk1⟩ := bB H
  refine w_cut (fun a w => Fr a 38 [(4, .bool c1)] ∧ Iv w0 [] μ μ [cel g2 [[.int .i64 x1.Code], [.bool x1.Placed], [.int .i64 x1.Pos], [.bool x1.Outer], [.int .i64 x1.At]] 51, cel g1 [[.int .i64 x0.Code], [.bool x0.Placed], [.int .i64 x0.Pos], [.bool x0.Outer], [.int .i64 x0.At]] 51] w) ?_ ?_
  · have H := bI hz1
    refine w_reg <| stp hA (r_fd (k := 0) Tryd.underlying51 rfl sz3 hA rfl rfl) rfl fun a hA => 
      stp hA (r_ld1 (j := 1) [] [[.bool x0.Placed], [.int .i64 x0.Pos], [.bool x0.Outer], [.int .i64 x0.At]] Tryd.underlying3 rfl hI rfl hA rfl rfl) rfl fun a hA => 
      stp hA (r_fd (k := 0) Tryd.underlying51 rfl sz3 hA rfl rfl) rfl fun a hA => 
      stp hA (r_ld1 (j := 0) [] [[.bool x1.Placed], [.int .i64 x1.Pos], [.bool x1.Outer], [.int .i64 x1.At]] Tryd.underlying3 rfl hI rfl hA rfl rfl) rfl fun a hA => 
      stp hA (r_eql hA rfl rfl) rfl fun a hA => 
      stm hA rfl rfl fun a hA => ?_
    rcases Bool.eq_false_or_eq_true (decide (x0.Code = x1.Code)) with hc1 | hc1
    · have hc10 := hc1; obtain ⟨hc1, H⟩ := dT H hc1
      refine o_yes hA rfl rfl hc10 <| 
        stp hA (r_fd (k := 1) Tryd.underlying51 rfl sz4 hA rfl rfl) rfl fun a hA => 
        o_yes hA rfl rfl hc10 <| 
        stp hA (r_ld1 (j := 1) [[.int .i64 x0.Code]] [[.int .i64 x0.Pos], [.bool x0.Outer], [.int .i64 x0.At]] Tryd.underlying4 rfl hI rfl hA rfl rfl) rfl fun a hA => 
        o_yes hA rfl rfl hc10 <| 
        stp hA (r_fd (k := 1) Tryd.underlying51 rfl sz4 hA rfl rfl) rfl fun a hA => 
        o_yes hA rfl rfl hc10 <| 
        stp hA (r_ld1 (j := 0) [[.int .i64 x1.Code]] [[.int .i64 x1.Pos], [.bool x1.Outer], [.int .i64 x1.At]] Tryd.underlying4 rfl hI rfl hA rfl rfl) rfl fun a hA => 
        o_yes hA rfl rfl hc10 <| 
        stp hA (r_eqlb Tryd.underlying4 hA rfl rfl) rfl fun a hA => 
        stp hA (r_pick_t hA rfl hc10 rfl) rfl fun a hA => 
        stm hA rfl rfl fun a hA => ?_
      rcases Bool.eq_false_or_eq_true (decide (x0.Placed = x1.Placed)) with hc2 | hc2
      · have hc20 := hc2; obtain ⟨hc2, H⟩ := dT H hc2
        refine o_yes hA rfl rfl hc20 <| 
          stp hA (r_fd (k := 2) Tryd.underlying51 rfl sz3 hA rfl rfl) rfl fun a hA => 
          o_yes hA rfl rfl hc20 <| 
          stp hA (r_ld1 (j := 1) [[.int .i64 x0.Code], [.bool x0.Placed]] [[.bool x0.Outer], [.int .i64 x0.At]] Tryd.underlying3 rfl hI rfl hA rfl rfl) rfl fun a hA => 
          o_yes hA rfl rfl hc20 <| 
          stp hA (r_fd (k := 2) Tryd.underlying51 rfl sz3 hA rfl rfl) rfl fun a hA => 
          o_yes hA rfl rfl hc20 <| 
          stp hA (r_ld1 (j := 0) [[.int .i64 x1.Code], [.bool x1.Placed]] [[.bool x1.Outer], [.int .i64 x1.At]] Tryd.underlying3 rfl hI rfl hA rfl rfl) rfl fun a hA => 
          o_yes hA rfl rfl hc20 <| 
          stp hA (r_eql hA rfl rfl) rfl fun a hA => 
          stp hA (r_pick_t hA rfl hc20 rfl) rfl fun a hA => 
          stm hA rfl rfl fun a hA => ?_
        rcases Bool.eq_false_or_eq_true (decide (x0.Pos = x1.Pos)) with hc3 | hc3
        · have hc30 := hc3; obtain ⟨hc3, H⟩ := dT H hc3
          refine o_yes hA rfl rfl hc30 <| 
            stp hA (r_fd (k := 3) Tryd.underlying51 rfl sz4 hA rfl rfl) rfl fun a hA => 
            o_yes hA rfl rfl hc30 <| 
            stp hA (r_ld1 (j := 1) [[.int .i64 x0.Code], [.bool x0.Placed], [.int .i64 x0.Pos]] [[.int .i64 x0.At]] Tryd.underlying4 rfl hI rfl hA rfl rfl) rfl fun a hA => 
            o_yes hA rfl rfl hc30 <| 
            stp hA (r_fd (k := 3) Tryd.underlying51 rfl sz4 hA rfl rfl) rfl fun a hA => 
            o_yes hA rfl rfl hc30 <| 
            stp hA (r_ld1 (j := 0) [[.int .i64 x1.Code], [.bool x1.Placed], [.int .i64 x1.Pos]] [[.int .i64 x1.At]] Tryd.underlying4 rfl hI rfl hA rfl rfl) rfl fun a hA => 
            o_yes hA rfl rfl hc30 <| 
            stp hA (r_eqlb Tryd.underlying4 hA rfl rfl) rfl fun a hA => 
            stp hA (r_pick_t hA rfl hc30 rfl) rfl fun a hA => 
            stm hA rfl rfl fun a hA => ?_
          rcases Bool.eq_false_or_eq_true (decide (x0.Outer = x1.Outer)) with hc4 | hc4
          · have hc40 := hc4; obtain ⟨hc4, H⟩ := dT H hc4
            refine o_yes hA rfl rfl hc40 <| 
              stp hA (r_fd (k := 4) Tryd.underlying51 rfl sz3 hA rfl rfl) rfl fun a hA => 
              o_yes hA rfl rfl hc40 <| 
              stp hA (r_ld1 (j := 1) [[.int .i64 x0.Code], [.bool x0.Placed], [.int .i64 x0.Pos], [.bool x0.Outer]] [] Tryd.underlying3 rfl hI rfl hA rfl rfl) rfl fun a hA => 
              o_yes hA rfl rfl hc40 <| 
              stp hA (r_fd (k := 4) Tryd.underlying51 rfl sz3 hA rfl rfl) rfl fun a hA => 
              o_yes hA rfl rfl hc40 <| 
              stp hA (r_ld1 (j := 0) [[.int .i64 x1.Code], [.bool x1.Placed], [.int .i64 x1.Pos], [.bool x1.Outer]] [] Tryd.underlying3 rfl hI rfl hA rfl rfl) rfl fun a hA => 
              o_yes hA rfl rfl hc40 <| 
              stp hA (r_eql hA rfl rfl) rfl fun a hA => 
              stp hA (r_pick_t hA rfl hc40 rfl) rfl fun a hA => 
              sta hA rfl rfl fun a hA => ?_
            refine o_nil ?_
            cases sJ H
            exact ⟨hA.sub ⟨rfl, trivial⟩, hI⟩
          · have hc40 := hc4; obtain ⟨hc4, H⟩ := dF H hc4
            refine o_no hA rfl rfl (by rw [hc40]; simp [vb]) rfl fun a hA => 
              o_no hA rfl rfl (by rw [hc40]; simp [vb]) rfl fun a hA => 
              o_no hA rfl rfl (by rw [hc40]; simp [vb]) rfl fun a hA => 
              o_no hA rfl rfl (by rw [hc40]; simp [vb]) rfl fun a hA => 
              o_no hA rfl rfl (by rw [hc40]; simp [vb]) rfl fun a hA => 
              stp hA (r_pick_f hA rfl hc40 rfl) rfl fun a hA => 
              sta hA rfl rfl fun a hA => ?_
            refine o_nil ?_
            cases sJ H
            exact ⟨hA.sub ⟨rfl, trivial⟩, hI⟩
        · have hc30 := hc3; obtain ⟨hc3, H⟩ := dF H hc3
          refine o_no hA rfl rfl (by rw [hc30]; simp [vb]) rfl fun a hA => 
            o_no hA rfl rfl (by rw [hc30]; simp [vb]) rfl fun a hA => 
            o_no hA rfl rfl (by rw [hc30]; simp [vb]) rfl fun a hA => 
            o_no hA rfl rfl (by rw [hc30]; simp [vb]) rfl fun a hA => 
            o_no hA rfl rfl (by rw [hc30]; simp [vb]) rfl fun a hA => 
            stp hA (r_pick_f hA rfl hc30 rfl) rfl fun a hA => 
            stm hA rfl rfl fun a hA => 
            o_no hA rfl rfl (by simp [vb]) rfl fun a hA => 
            o_no hA rfl rfl (by simp [vb]) rfl fun a hA => 
            o_no hA rfl rfl (by simp [vb]) rfl fun a hA => 
            o_no hA rfl rfl (by simp [vb]) rfl fun a hA => 
            o_no hA rfl rfl (by simp [vb]) rfl fun a hA => 
            stp hA (r_pick_f hA rfl rfl rfl) rfl fun a hA => 
            sta hA rfl rfl fun a hA => ?_
          refine o_nil ?_
          cases sJ H
          exact ⟨hA.sub ⟨rfl, trivial⟩, hI⟩
      · have hc20 := hc2; obtain ⟨hc2, H⟩ := dF H hc2
        refine o_no hA rfl rfl (by rw [hc20]; simp [vb]) rfl fun a hA => 
          o_no hA rfl rfl (by rw [hc20]; simp [vb]) rfl fun a hA => 
          o_no hA rfl rfl (by rw [hc20]; simp [vb]) rfl fun a hA => 
          o_no hA rfl rfl (by rw [hc20]; simp [vb]) rfl fun a hA => 
          o_no hA rfl rfl (by rw [hc20]; simp [vb]) rfl fun a hA => 
          stp hA (r_pick_f hA rfl hc20 rfl) rfl fun a hA => 
          stm hA rfl rfl fun a hA => 
          o_no hA rfl rfl (by simp [vb]) rfl fun a hA => 
          o_no hA rfl rfl (by simp [vb]) rfl fun a hA => 
          o_no hA rfl rfl (by simp [vb]) rfl fun a hA => 
          o_no hA rfl rfl (by simp [vb]) rfl fun a hA => 
          o_no hA rfl rfl (by simp [vb]) rfl fun a hA => 
          stp hA (r_pick_f hA rfl rfl rfl) rfl fun a hA => 
          stm hA rfl rfl fun a hA => 
          o_no hA rfl rfl (by simp [vb]) rfl fun a hA => 
          o_no hA rfl rfl (by simp [vb]) rfl fun a hA => 
          o_no hA rfl rfl (by simp [vb]) rfl fun a hA => 
          o_no hA rfl rfl (by simp [vb]) rfl fun a hA => 
          o_no hA rfl rfl (by simp [vb]) rfl fun a hA => 
          stp hA (r_pick_f hA rfl rfl rfl) rfl fun a hA => 
          sta hA rfl rfl fun a hA => ?_
        refine o_nil ?_
        cases sJ H
        exact ⟨hA.sub ⟨rfl, trivial⟩, hI⟩
    · have hc10 := hc1; obtain ⟨hc1, H⟩ := dF H hc1
      refine o_no hA rfl rfl (by rw [hc10]; simp [vb]) rfl fun a hA => 
        o_no hA rfl rfl (by rw [hc10]; simp [vb]) rfl fun a hA => 
        o_no hA rfl rfl (by rw [hc10]; simp [vb]) rfl fun a hA => 
        o_no hA rfl rfl (by rw [hc10]; simp [vb]) rfl fun a hA => 
        o_no hA rfl rfl (by rw [hc10]; simp [vb]) rfl fun a hA => 
        stp hA (r_pick_f hA rfl hc10 rfl) rfl fun a hA => 
        stm hA rfl rfl fun a hA => 
        o_no hA rfl rfl (by simp [vb]) rfl fun a hA => 
        o_no hA rfl rfl (by simp [vb]) rfl fun a hA => 
        o_no hA rfl rfl (by simp [vb]) rfl fun a hA => 
        o_no hA rfl rfl (by simp [vb]) rfl fun a hA => 
        o_no hA rfl rfl (by simp [vb]) rfl fun a hA => 
        stp hA (r_pick_f hA rfl rfl rfl) rfl fun a hA => 
        stm hA rfl rfl fun a hA => 
        o_no hA rfl rfl (by simp [vb]) rfl fun a hA => 
        o_no hA rfl rfl (by simp [vb]) rfl fun a hA => 
        o_no hA rfl rfl (by simp [vb]) rfl fun a hA => 
        o_no hA rfl rfl (by simp [vb]) rfl fun a hA => 
        o_no hA rfl rfl (by simp [vb]) rfl fun a hA => 
        stp hA (r_pick_f hA rfl rfl rfl) rfl fun a hA => 
        stm hA rfl rfl fun a hA => 
        o_no hA rfl rfl (by simp [vb]) rfl fun a hA => 
        o_no hA rfl rfl (by simp [vb]) rfl fun a hA => 
        o_no hA rfl rfl (by simp [vb]) rfl fun a hA => 
        o_no hA rfl rfl (by simp [vb]) rfl fun a hA => 
        o_no hA rfl rfl (by simp [vb]) rfl fun a hA => 
        stp hA (r_pick_f hA rfl rfl rfl) rfl fun a hA => 
        sta hA rfl rfl fun a hA => ?_
      refine o_nil ?_
      cases sJ H
      exact ⟨hA.sub ⟨rfl, trivial⟩, hI⟩
  · rintro a w ⟨hA, hI⟩
    have H := Hk1
    refine w_ret ?_
    obtain rfl := sJ H
    exact ret1 hA Tryd.results56 rfl ⟨_, rfl, rfl, trivial, hI.forget0⟩
set_option maxRecDepth 20000 in
theorem sargassoref_None.c (μ : Store) (w0 : World) (hμ : Agr μ w0) (r : sargassorefFault) (H : sargassoref_None.f = some r) :
    Calls Tryd.prog 58 [].toArray w0 (fun e w' => ∃ v, e = .returned v ∧ v = .agg [[.int .i64 r.Code], [.bool r.Placed], [.int .i64 r.Pos], [.bool r.Outer], [.int .i64 r.At]].flatten.toArray ∧ sargassorefFaultW μ r ∧ Iv w0 [] μ μ [] w') := by
  refine enter Tryd.func58 rfl Tryd.ntmps58 rfl fun a hA => ?_
  have hI := Iv.start hμ
  have H := bI H
  refine w_seq fun _ hN1 => w_reg <| o_new [[.int .i64 0], [.bool false], [.int .i64 0], [.bool false], [.int .i64 0]] zr51 hI hA rfl fun g1 a w hA hI hg1 => ?_
  refine o_nil <| hN1 _ _ <| w_seq fun _ hN2 => w_reg <| stp hA (r_bldS (cs := [[.int .i64 0], [.bool false], [.int .i64 0], [.bool false], [.int .i64 0]].flatten.toArray) (pl := [(0, 1), (1, 1), (2, 1), (3, 1), (4, 1)]) zr51 Tryd.underlying51 ⟨rfl, sz3, rfl, sz4, rfl, sz3, rfl, sz4, rfl, sz3, trivial⟩ hA rfl (by kernel_rfl)) rfl fun a hA => 
    o_st (j := 0) [] [[.int .i64 0], [.bool false], [.int .i64 0], [.bool false], [.int .i64 0]] [[.int .i64 0], [.bool false], [.int .i64 0], [.bool false], [.int .i64 0]] [] sz51 rfl rfl (fl_cons (one_one rfl) (fl_cons (one_one rfl) (fl_cons (one_one rfl) (fl_cons (one_one rfl) (fl_cons (one_one rfl) fl_nil))))) hI rfl hA rfl rfl rfl rfl fun w hI => ?_
  refine o_nil <| hN2 _ _ <| w_ret ?_
  obtain rfl := sJ H
  exact retc Tryd.underlying51 rfl sz51 rfl hI (j := 0) rfl hA Tryd.results58 rfl ⟨_, rfl, rfl, ⟨(in_lit .i64 0 rfl), (in_lit .i64 0 rfl), (in_lit .i64 0 rfl)⟩, hI.forget0⟩
set_option maxRecDepth 20000 in
theorem sargassoref_Placed.c (μ : Store) (w0 : World) (hμ : Agr μ w0) (x0 : Int) (hx0 : InR .i64 x0) (x1 : Int) (hx1 : InR .i64 x1) (r : sargassorefFault) (H : sargassoref_Placed.f x0 x1 = some r) :
    Calls Tryd.prog 16 [.int .i64 x0, .int .i64 x1].toArray w0 (fun e w' => ∃ v, e = .returned v ∧ v = .agg [[.int .i64 r.Code], [.bool r.Placed], [.int .i64 r.Pos], [.bool r.Outer], [.int .i64 r.At]].flatten.toArray ∧ sargassorefFaultW μ r ∧ Iv w0 [] μ μ [] w') := by
  refine enter Tryd.func16 rfl Tryd.ntmps16 rfl fun a hA => ?_
  have hI := Iv.start hμ
  have H := bI H
  refine w_seq fun _ hN1 => w_reg <| o_new [[.int .i64 0], [.bool false], [.int .i64 0], [.bool false], [.int .i64 0]] zr51 hI hA rfl fun g1 a w hA hI hg1 => ?_
  refine o_nil <| hN1 _ _ <| w_seq fun _ hN2 => w_seq fun _ hN3 => w_reg <| stm hA rfl rfl fun a hA => 
    stp hA (r_eql hA rfl rfl) rfl fun a hA => ?_
  refine o_nil <| hN3 _ _ <| w_cond hA rfl (fun hc1 => ?_) (fun hc1 => ?_)
  · obtain ⟨hc1, H⟩ := dT H hc1
    refine w_seq fun _ hN4 => w_reg ?_
    obtain ⟨r1, hr1, H⟩ := bB H
    refine o_callp (u := .agg [[.int .i64 r1.Code], [.bool r1.Placed], [.int .i64 r1.Pos], [.bool r1.Outer], [.int .i64 r1.At]].flatten.toArray) cf58 hA rfl hI (sargassoref_None.c μ _ hI.agr  r1 hr1) rfl fun a w hz1 hI hA => 
      o_st (j := 0) [] [[.int .i64 0], [.bool false], [.int .i64 0], [.bool false], [.int .i64 0]] [[.int .i64 r1.Code], [.bool r1.Placed], [.int .i64 r1.Pos], [.bool r1.Outer], [.int .i64 r1.At]] [] sz51 rfl rfl (fl_cons (one_one rfl) (fl_cons (one_one rfl) (fl_cons (one_one rfl) (fl_cons (one_one rfl) (fl_cons (one_one rfl) fl_nil))))) hI rfl hA rfl rfl rfl rfl fun w hI => ?_
    refine o_nil <| hN4 _ _ <| w_ret ?_
    obtain rfl := sJ H
    exact retc Tryd.underlying51 rfl sz51 rfl hI (j := 0) rfl hA Tryd.results16 rfl ⟨_, rfl, rfl, ⟨hz1.1, hz1.2.1, hz1.2.2⟩, hI.forget0⟩
  · obtain ⟨hc1, H⟩ := dF H hc1
    refine w_skip <| hN2 _ _ <| w_seq fun _ hN5 => w_reg <| stm hA rfl rfl fun a hA => 
      stm hA rfl rfl fun a hA => 
      stp hA (r_bldS (cs := [[.int .i64 x0], [.bool true], [.int .i64 x1], [.bool false], [.int .i64 0]].flatten.toArray) (pl := [(0, 1), (1, 1), (2, 1), (3, 1), (4, 1)]) zr51 Tryd.underlying51 ⟨rfl, sz3, rfl, sz4, rfl, sz3, rfl, sz4, rfl, sz3, trivial⟩ hA rfl (by kernel_rfl)) rfl fun a hA => 
      o_st (j := 0) [] [[.int .i64 0], [.bool false], [.int .i64 0], [.bool false], [.int .i64 0]] [[.int .i64 x0], [.bool true], [.int .i64 x1], [.bool false], [.int .i64 0]] [] sz51 rfl rfl (fl_cons (one_one rfl) (fl_cons (one_one rfl) (fl_cons (one_one rfl) (fl_cons (one_one rfl) (fl_cons (one_one rfl) fl_nil))))) hI rfl hA rfl rfl rfl rfl fun w hI => ?_
    refine o_nil <| hN5 _ _ <| w_ret ?_
    obtain rfl := sJ H
    exact retc Tryd.underlying51 rfl sz51 rfl hI (j := 0) rfl hA Tryd.results16 rfl ⟨_, rfl, rfl, ⟨hx0, hx1, (in_lit .i64 0 rfl)⟩, hI.forget0⟩
set_option maxRecDepth 20000 in
theorem sargassoref_Bare.c (μ : Store) (w0 : World) (hμ : Agr μ w0) (x0 : Int) (hx0 : InR .i64 x0) (r : sargassorefFault) (H : sargassoref_Bare.f x0 = some r) :
    Calls Tryd.prog 59 [.int .i64 x0].toArray w0 (fun e w' => ∃ v, e = .returned v ∧ v = .agg [[.int .i64 r.Code], [.bool r.Placed], [.int .i64 r.Pos], [.bool r.Outer], [.int .i64 r.At]].flatten.toArray ∧ sargassorefFaultW μ r ∧ Iv w0 [] μ μ [] w') := by
  refine enter Tryd.func59 rfl Tryd.ntmps59 rfl fun a hA => ?_
  have hI := Iv.start hμ
  have H := bI H
  refine w_seq fun _ hN1 => w_reg <| o_new [[.int .i64 0], [.bool false], [.int .i64 0], [.bool false], [.int .i64 0]] zr51 hI hA rfl fun g1 a w hA hI hg1 => ?_
  refine o_nil <| hN1 _ _ <| w_seq fun _ hN2 => w_reg <| stm hA rfl rfl fun a hA => 
    stp hA (r_bldS (cs := [[.int .i64 x0], [.bool false], [.int .i64 0], [.bool false], [.int .i64 0]].flatten.toArray) (pl := [(0, 1), (1, 1), (2, 1), (3, 1), (4, 1)]) zr51 Tryd.underlying51 ⟨rfl, sz3, rfl, sz4, rfl, sz3, rfl, sz4, rfl, sz3, trivial⟩ hA rfl (by kernel_rfl)) rfl fun a hA => 
    o_st (j := 0) [] [[.int .i64 0], [.bool false], [.int .i64 0], [.bool false], [.int .i64 0]] [[.int .i64 x0], [.bool false], [.int .i64 0], [.bool false], [.int .i64 0]] [] sz51 rfl rfl (fl_cons (one_one rfl) (fl_cons (one_one rfl) (fl_cons (one_one rfl) (fl_cons (one_one rfl) (fl_cons (one_one rfl) fl_nil))))) hI rfl hA rfl rfl rfl rfl fun w hI => ?_
  refine o_nil <| hN2 _ _ <| w_ret ?_
  obtain rfl := sJ H
  exact retc Tryd.underlying51 rfl sz51 rfl hI (j := 0) rfl hA Tryd.results59 rfl ⟨_, rfl, rfl, ⟨hx0, (in_lit .i64 0 rfl), (in_lit .i64 0 rfl)⟩, hI.forget0⟩
set_option maxRecDepth 20000 in
theorem sargassosee_sentinels.c (μ : Store) (w0 : World) (hμ : Agr μ w0) (hG : Gl μ) (r : List Er) (H : sargassosee_sentinels.f = some r) :
    Calls Tryd.prog 119 [].toArray w0 (fun e w' => ∃ v, e = .returned v ∧ ∃ (v0 : Value) (c0 : List Value) (μ' : Store), v = v0 ∧ Els (RErr μ') 1 r c0 ∧ Iv w0 [] μ μ' [row 47 1 v0 r.length c0] w') := by
  refine enter Tryd.func119 rfl Tryd.ntmps119 rfl fun a hA => ?_
  have hI := Iv.start hμ
  have H := bI H
  obtain ⟨e0, he0⟩ := hG.g0
  obtain ⟨e1, he1⟩ := hG.g1
  obtain ⟨e2, he2⟩ := hG.g2
  obtain ⟨e3, he3⟩ := hG.g3
  obtain ⟨e4, he4⟩ := hG.g4
  obtain ⟨e5, he5⟩ := hG.g5
  obtain ⟨e6, he6⟩ := hG.g6
  obtain ⟨e7, he7⟩ := hG.g7
  obtain ⟨e8, he8⟩ := hG.g8
  obtain ⟨e9, he9⟩ := hG.g9
  obtain ⟨e10, he10⟩ := hG.g10
  obtain ⟨e11, he11⟩ := hG.g11
  obtain ⟨e12, he12⟩ := hG.g12
  obtain ⟨e13, he13⟩ := hG.g13
  obtain ⟨e14, he14⟩ := hG.g14
  obtain ⟨e15, he15⟩ := hG.g15
  obtain ⟨e16, he16⟩ := hG.g16
  obtain ⟨e17, he17⟩ := hG.g17
  obtain ⟨e18, he18⟩ := hG.g18
  obtain ⟨e19, he19⟩ := hG.g19
  obtain ⟨e20, he20⟩ := hG.g20
  obtain ⟨e21, he21⟩ := hG.g21
  obtain ⟨e22, he22⟩ := hG.g22
  obtain ⟨e23, he23⟩ := hG.g23
  obtain ⟨e24, he24⟩ := hG.g24
  refine w_seq fun _ hN1 => w_reg <| sta hA rfl rfl fun a hA => ?_
  refine o_nil <| hN1 _ _ <| w_seq fun _ hN2 => w_reg <| stp hA (r_ldG Tryd.underlying47 rfl hI.agr he11 hA) rfl fun a hA => 
    stp hA (r_ldG Tryd.underlying47 rfl hI.agr he12 hA) rfl fun a hA => 
    stp hA (r_ldG Tryd.underlying47 rfl hI.agr he1 hA) rfl fun a hA => 
    stp hA (r_ldG Tryd.underlying47 rfl hI.agr he0 hA) rfl fun a hA => 
    stp hA (r_ldG Tryd.underlying47 rfl hI.agr he10 hA) rfl fun a hA => 
    stp hA (r_ldG Tryd.underlying47 rfl hI.agr he2 hA) rfl fun a hA => 
    stp hA (r_ldG Tryd.underlying47 rfl hI.agr he8 hA) rfl fun a hA => 
    stp hA (r_ldG Tryd.underlying47 rfl hI.agr he3 hA) rfl fun a hA => 
    stp hA (r_ldG Tryd.underlying47 rfl hI.agr he4 hA) rfl fun a hA => 
    stp hA (r_ldG Tryd.underlying47 rfl hI.agr he5 hA) rfl fun a hA => 
    stp hA (r_ldG Tryd.underlying47 rfl hI.agr he13 hA) rfl fun a hA => 
    stp hA (r_ldG Tryd.underlying47 rfl hI.agr he14 hA) rfl fun a hA => 
    stp hA (r_ldG Tryd.underlying47 rfl hI.agr he15 hA) rfl fun a hA => 
    stp hA (r_ldG Tryd.underlying47 rfl hI.agr he9 hA) rfl fun a hA => 
    stp hA (r_ldG Tryd.underlying47 rfl hI.agr he16 hA) rfl fun a hA => 
    stp hA (r_ldG Tryd.underlying47 rfl hI.agr he17 hA) rfl fun a hA => 
    stp hA (r_ldG Tryd.underlying47 rfl hI.agr he18 hA) rfl fun a hA => 
    stp hA (r_ldG Tryd.underlying47 rfl hI.agr he19 hA) rfl fun a hA => 
    stp hA (r_ldG Tryd.underlying47 rfl hI.agr he20 hA) rfl fun a hA => 
    stp hA (r_ldG Tryd.underlying47 rfl hI.agr he21 hA) rfl fun a hA => 
    stp hA (r_ldG Tryd.underlying47 rfl hI.agr he6 hA) rfl fun a hA => 
    stp hA (r_ldG Tryd.underlying47 rfl hI.agr he7 hA) rfl fun a hA => 
    stp hA (r_ldG Tryd.underlying47 rfl hI.agr he22 hA) rfl fun a hA => 
    stp hA (r_ldG Tryd.underlying47 rfl hI.agr he23 hA) rfl fun a hA => 
    stp hA (r_ldG Tryd.underlying47 rfl hI.agr he24 hA) rfl fun a hA => ?_
  have hE1 : Els (RErr μ) 1 ([xErrEnd, xErrShape, xErrLong, xErrMany, xErrValue, xErrTwice, xErrBase, xErrRoot, xErrKnown, xErrParent, xErrInvalid, xErrTime, xErrMissing, xErrKey, xErrYoung, xErrEarly, xErrLess, xErrReward, xErrClash, xErrLimit, xErrFull, xErrRange, xErrNone, xErrWord, xErrNumber] : List Er) _ := (Els.cons (c := [[e11]].flatten) ⟨_, rfl, he11⟩ rfl (Els.cons (c := [[e12]].flatten) ⟨_, rfl, he12⟩ rfl (Els.cons (c := [[e1]].flatten) ⟨_, rfl, he1⟩ rfl (Els.cons (c := [[e0]].flatten) ⟨_, rfl, he0⟩ rfl (Els.cons (c := [[e10]].flatten) ⟨_, rfl, he10⟩ rfl (Els.cons (c := [[e2]].flatten) ⟨_, rfl, he2⟩ rfl (Els.cons (c := [[e8]].flatten) ⟨_, rfl, he8⟩ rfl (Els.cons (c := [[e3]].flatten) ⟨_, rfl, he3⟩ rfl (Els.cons (c := [[e4]].flatten) ⟨_, rfl, he4⟩ rfl (Els.cons (c := [[e5]].flatten) ⟨_, rfl, he5⟩ rfl (Els.cons (c := [[e13]].flatten) ⟨_, rfl, he13⟩ rfl (Els.cons (c := [[e14]].flatten) ⟨_, rfl, he14⟩ rfl (Els.cons (c := [[e15]].flatten) ⟨_, rfl, he15⟩ rfl (Els.cons (c := [[e9]].flatten) ⟨_, rfl, he9⟩ rfl (Els.cons (c := [[e16]].flatten) ⟨_, rfl, he16⟩ rfl (Els.cons (c := [[e17]].flatten) ⟨_, rfl, he17⟩ rfl (Els.cons (c := [[e18]].flatten) ⟨_, rfl, he18⟩ rfl (Els.cons (c := [[e19]].flatten) ⟨_, rfl, he19⟩ rfl (Els.cons (c := [[e20]].flatten) ⟨_, rfl, he20⟩ rfl (Els.cons (c := [[e21]].flatten) ⟨_, rfl, he21⟩ rfl (Els.cons (c := [[e6]].flatten) ⟨_, rfl, he6⟩ rfl (Els.cons (c := [[e7]].flatten) ⟨_, rfl, he7⟩ rfl (Els.cons (c := [[e22]].flatten) ⟨_, rfl, he22⟩ rfl (Els.cons (c := [[e23]].flatten) ⟨_, rfl, he23⟩ rfl (Els.cons (c := [[e24]].flatten) ⟨_, rfl, he24⟩ rfl Els.nil)))))))))))))))))))))))))
  refine o_bsl ([[e11]].flatten ++ ([[e12]].flatten ++ ([[e1]].flatten ++ ([[e0]].flatten ++ ([[e10]].flatten ++ ([[e2]].flatten ++ ([[e8]].flatten ++ ([[e3]].flatten ++ ([[e4]].flatten ++ ([[e5]].flatten ++ ([[e13]].flatten ++ ([[e14]].flatten ++ ([[e15]].flatten ++ ([[e9]].flatten ++ ([[e16]].flatten ++ ([[e17]].flatten ++ ([[e18]].flatten ++ ([[e19]].flatten ++ ([[e20]].flatten ++ ([[e21]].flatten ++ ([[e6]].flatten ++ ([[e7]].flatten ++ ([[e22]].flatten ++ ([[e23]].flatten ++ ([[e24]].flatten ++ ([])))))))))))))))))))))))))) te47 zr47 Tryd.underlying179 hI hA rfl rfl rfl rfl ((fill_one (cells_err1 he11) rfl (by kernel_rfl)).trans ((fill_one (cells_err1 he12) rfl (by kernel_rfl)).trans ((fill_one (cells_err1 he1) rfl (by kernel_rfl)).trans ((fill_one (cells_err1 he0) rfl (by kernel_rfl)).trans ((fill_one (cells_err1 he10) rfl (by kernel_rfl)).trans ((fill_one (cells_err1 he2) rfl (by kernel_rfl)).trans ((fill_one (cells_err1 he8) rfl (by kernel_rfl)).trans ((fill_one (cells_err1 he3) rfl (by kernel_rfl)).trans ((fill_one (cells_err1 he4) rfl (by kernel_rfl)).trans ((fill_one (cells_err1 he5) rfl (by kernel_rfl)).trans ((fill_one (cells_err1 he13) rfl (by kernel_rfl)).trans ((fill_one (cells_err1 he14) rfl (by kernel_rfl)).trans ((fill_one (cells_err1 he15) rfl (by kernel_rfl)).trans ((fill_one (cells_err1 he9) rfl (by kernel_rfl)).trans ((fill_one (cells_err1 he16) rfl (by kernel_rfl)).trans ((fill_one (cells_err1 he17) rfl (by kernel_rfl)).trans ((fill_one (cells_err1 he18) rfl (by kernel_rfl)).trans ((fill_one (cells_err1 he19) rfl (by kernel_rfl)).trans ((fill_one (cells_err1 he20) rfl (by kernel_rfl)).trans ((fill_one (cells_err1 he21) rfl (by kernel_rfl)).trans ((fill_one (cells_err1 he6) rfl (by kernel_rfl)).trans ((fill_one (cells_err1 he7) rfl (by kernel_rfl)).trans ((fill_one (cells_err1 he22) rfl (by kernel_rfl)).trans ((fill_one (cells_err1 he23) rfl (by kernel_rfl)).trans ((fill_one (cells_err1 he24) rfl (by kernel_rfl)).trans (by kernel_rfl)))))))))))))))))))))))))) rfl fun g1 a w hA hI => ?_
  generalize hcs : ([[e11]].flatten ++ ([[e12]].flatten ++ ([[e1]].flatten ++ ([[e0]].flatten ++ ([[e10]].flatten ++ ([[e2]].flatten ++ ([[e8]].flatten ++ ([[e3]].flatten ++ ([[e4]].flatten ++ ([[e5]].flatten ++ ([[e13]].flatten ++ ([[e14]].flatten ++ ([[e15]].flatten ++ ([[e9]].flatten ++ ([[e16]].flatten ++ ([[e17]].flatten ++ ([[e18]].flatten ++ ([[e19]].flatten ++ ([[e20]].flatten ++ ([[e21]].flatten ++ ([[e6]].flatten ++ ([[e7]].flatten ++ ([[e22]].flatten ++ ([[e23]].flatten ++ ([[e24]].flatten ++ ([]))))))))))))))))))))))))) : List Value) = cs1 at hE1 hI
  clear hcs
  refine sta hA rfl rfl fun a hA => ?_
  refine o_nil <| hN2 _ _ <| w_ret ?_
  obtain rfl := sJ H
  exact ret1 hA Tryd.results119 rfl ⟨_, rfl, (.slice (some ⟨g1, 0, none⟩) 25 25), cs1, μ, rfl, hE1, hI⟩
set_option maxRecDepth 20000 in
theorem sargassosee_Alike.c (μ : Store) (w0 : World) (hμ : Agr μ w0) (x0 : Er) (u0 : Value) (hx0 : ErS μ u0 x0) (x1 : Er) (u1 : Value) (hx1 : ErS μ u1 x1) (r : Bool) (H : sargassosee_Alike.f x0 x1 = some r) :
    Calls Tryd.prog 120 [u0, u1].toArray w0 (fun e w' => ∃ v, e = .returned v ∧ v = .bool r ∧ True ∧ Iv w0 [] μ μ [] w') := by
  refine enter Tryd.func120 rfl Tryd.ntmps120 rfl fun a hA => ?_
  have hI := Iv.start hμ
  have H := bI H
  refine w_seq fun _ hN1 => w_reg <| sta hA rfl rfl fun a hA => ?_
  refine o_nil <| hN1 _ _ <| w_seq fun _ hN2 => ?_
  obtain ⟨c1, hz1, Hk1⟩ := bB H
  refine w_cut (fun a w => Fr a 20 [(0, u0), (1, u1), (4, .bool false), (10, .bool c1)] ∧ Iv w0 [] μ μ [] w) ?_ ?_
  · have H := bI hz1
    refine w_reg <| stm hA rfl rfl fun a hA => 
      stp hA (r_eqE erF hI.agr hx0 erv_nil (.inl ⟨.inr ⟨_, rfl⟩, Er.fitR⟩) hA rfl rfl) rfl fun a hA => 
      stm hA rfl rfl fun a hA => ?_
    rcases Bool.eq_false_or_eq_true (decide (x0 = (Er.b 0))) with hc1 | hc1
    · have hc10 := hc1; obtain ⟨hc1, H⟩ := dT H hc1
      refine o_no hA rfl rfl (by rw [hc10]; simp [vb]) rfl fun a hA => 
        o_no hA rfl rfl (by rw [hc10]; simp [vb]) rfl fun a hA => 
        stp hA (r_pick_t hA rfl hc10 rfl) rfl fun a hA => ?_
      refine o_nil ?_
      cases sJ H
      exact ⟨hA.sub ⟨rfl, rfl, rfl, rfl, trivial⟩, hI⟩
    · have hc10 := hc1; obtain ⟨hc1, H⟩ := dF H hc1
      refine o_yes hA rfl rfl hc10 <| 
        stm hA rfl rfl fun a hA => 
        o_yes hA rfl rfl hc10 <| 
        stp hA (r_eqE erF hI.agr hx1 erv_nil (.inl ⟨.inr ⟨_, rfl⟩, Er.fitR⟩) hA rfl rfl) rfl fun a hA => 
        stp hA (r_pick_f hA rfl hc10 rfl) rfl fun a hA => ?_
      refine o_nil ?_
      cases sJ H
      exact ⟨hA.sub ⟨rfl, rfl, rfl, rfl, trivial⟩, hI⟩
  · rintro a w ⟨hA, hI⟩
    have H := Hk1
    refine w_cond hA rfl (fun hc2 => ?_) (fun hc2 => ?_)
    · have H := bT H hc2
      obtain ⟨c2, hz2, Hk2⟩ := bB H
      refine w_cut (fun a w => Fr a 20 [(0, u0), (1, u1), (4, .bool c2)] ∧ Iv w0 [] μ μ [] w) ?_ ?_
      · have H := bI hz2
        refine w_reg <| stm hA rfl rfl fun a hA => 
          stp hA (r_eqE erF hI.agr hx0 erv_nil (.inl ⟨.inr ⟨_, rfl⟩, Er.fitR⟩) hA rfl rfl) rfl fun a hA => 
          stm hA rfl rfl fun a hA => ?_
        rcases Bool.eq_false_or_eq_true (decide (x0 = (Er.b 0))) with hc3 | hc3
        · have hc30 := hc3; obtain ⟨hc3, H⟩ := dT H hc3
          refine o_yes hA rfl rfl hc30 <| 
            stm hA rfl rfl fun a hA => 
            o_yes hA rfl rfl hc30 <| 
            stp hA (r_eqE erF hI.agr hx1 erv_nil (.inl ⟨.inr ⟨_, rfl⟩, Er.fitR⟩) hA rfl rfl) rfl fun a hA => 
            stp hA (r_pick_t hA rfl hc30 rfl) rfl fun a hA => 
            sta hA rfl rfl fun a hA => ?_
          refine o_nil ?_
          cases sJ H
          exact ⟨hA.sub ⟨rfl, rfl, rfl, trivial⟩, hI⟩
        · have hc30 := hc3; obtain ⟨hc3, H⟩ := dF H hc3
          refine o_no hA rfl rfl (by rw [hc30]; simp [vb]) rfl fun a hA => 
            o_no hA rfl rfl (by rw [hc30]; simp [vb]) rfl fun a hA => 
            stp hA (r_pick_f hA rfl hc30 rfl) rfl fun a hA => 
            sta hA rfl rfl fun a hA => ?_
          refine o_nil ?_
          cases sJ H
          exact ⟨hA.sub ⟨rfl, rfl, rfl, trivial⟩, hI⟩
      · rintro a w ⟨hA, hI⟩
        have H := Hk2
        refine w_ret ?_
        obtain rfl := sJ H
        exact ret1 hA Tryd.results120 rfl ⟨_, rfl, rfl, trivial, hI.forget0⟩
    · have hc2 := ft hc2; have H := bF H hc2
      refine w_skip <| hN2 _ _ <| w_seq fun _ hN3 => w_reg <| stm hA rfl rfl fun a hA => 
        stm hA rfl rfl fun a hA => ?_
      obtain ⟨hb1, H⟩ := bG H
      refine stp hA (r_eqE erF hI.agr hx0 hx1 (.inr hb1) hA rfl rfl) rfl fun a hA => 
        sta hA rfl rfl fun a hA => ?_
      refine o_nil <| hN3 _ _ <| w_ret ?_
      obtain rfl := sJ H
      exact ret1 hA Tryd.results120 rfl ⟨_, rfl, rfl, trivial, hI.forget0⟩
set_option maxRecDepth 20000 in
theorem sargassosee_sentinel.c (μ : Store) (w0 : World) (hμ : Agr μ w0) (x0 : Er) (u0 : Value) (hx0 : ErS μ u0 x0) (hG : Gl μ) (r : Int) (H : sargassosee_sentinel.f x0 = some r) :
    Calls Tryd.prog 90 [u0].toArray w0 (fun e w' => ∃ v, e = .returned v ∧ v = .int .i64 r ∧ InR .i64 r ∧ Iv w0 [] μ μ [] w') := by
  refine enter Tryd.func90 rfl Tryd.ntmps90 rfl fun a hA => ?_
  have hI := Iv.start hμ
  have H := bI H
  refine w_seq fun _ hN1 => w_reg <| sta hA rfl rfl fun a hA => ?_
  refine o_nil <| hN1 _ _ <| w_seq fun _ hN2 => w_reg ?_
  obtain ⟨r1, hr1, H⟩ := bB H
  refine o_call _ cf119 hA rfl (sargassosee_sentinels.c μ _ hI.agr hG r1 hr1) rfl fun v1 a w hz1 hA => ?_
  obtain ⟨_, cs1, μ1, rfl, hE1, hi1⟩ := hz1
  have hI := hI.call hi1
  refine sta hA rfl rfl fun a hA => ?_
  refine o_nil <| hN2 _ _ <| w_seq fun _ hN3 => w_seq fun _ hN4 => w_reg <| sta hA rfl rfl fun a hA => ?_
  refine o_nil <| hN4 _ _ <| w_block ?_
  obtain ⟨z1, hz2, Hk1⟩ := bind_some H
  obtain ⟨n1, hn1⟩ := loopO_some hz2
  refine w_loop (fun n a w => ∃ (s1 : Int), loopN (sargassosee_sentinel.s0 x0 r1) n s1 = some z1 ∧ InR .i64 s1 ∧ Fr a 20 [(0, u0), (2, .int .i64 0), (3, v1), (4, .int .i64 s1)] ∧ Iv w0 [] μ μ1 [row 47 1 v1 r1.length cs1] w) n1 ⟨0, hn1, (in_lit .i64 0 rfl), hA.sub ⟨rfl, rfl, rfl, rfl, trivial⟩, hI⟩ ?_
  clear hA hI
  rintro n a w ⟨s1, hn1, ws1, hA, hI⟩
  obtain ⟨m1, rfl, H⟩ := loopN_bind hn1
  clear hn1
  refine w_seq fun _ hN5 => w_seq fun _ hN6 => w_reg <| stm hA rfl rfl fun a hA => 
    stm hA rfl rfl fun a hA => ?_
  have hlen1 := Iv.row_in hI (j := 0) rfl
  refine stp hA (r_rlen (xs := 0) Tryd.underlying179 hI (j := 0) rfl hA rfl) rfl fun a hA => 
    stp hA (r_lss hA rfl rfl) rfl fun a hA => ?_
  refine o_nil <| hN6 _ _ <| w_cond hA rfl (fun hc1 => ?_) (fun hc1 => ?_)
  · obtain ⟨hc1, H⟩ := dT H hc1
    refine w_skip <| hN5 _ _ <| w_seq fun _ hN7 => w_block <| w_seq fun _ hN8 => w_reg <| stm hA rfl rfl fun a hA => 
      stm hA rfl rfl fun a hA => 
      stm hA rfl rfl fun a hA => ?_
    obtain ⟨hb1, H⟩ := bG H
    refine stp hA (r_rix (j := 0) Tryd.underlying179 sz47 hI rfl hA rfl rfl hb1.1 hb1.2) rfl fun a hA => ?_
    obtain ⟨A1, _, B1, hc2, hl1, _, he1⟩ := Els.at_ hE1 (getD_some (Er.b 0) hb1.1 hb1.2)
    obtain ⟨v2, rfl, hw1⟩ := he1
    refine stp hA (r_rldQ (j := 0) (q := s1.toNat * 1) (off := 0) A1 B1 [] [] hc2 hl1 rfl Tryd.underlying47 rfl hI rfl hA rfl) rfl fun a hA => ?_
    obtain ⟨r2, hr2, H⟩ := bB H
    refine o_callp (u := .bool r2) cf120 hA rfl hI (sargassosee_Alike.c μ1 _ hI.agr x0 u0 (ErV.le (fun _ _ h => h) hi1.le hx0) (r1.getD s1.toNat (Er.b 0)) v2 hw1 r2 hr2) rfl fun a w hz3 hI hA => ?_
    refine o_nil <| hN8 _ _ <| w_cond hA rfl (fun hc3 => ?_) (fun hc3 => ?_)
    · have H := bT H hc3
      refine w_seq fun _ hN9 => w_reg <| stm hA rfl rfl fun a hA => 
        stp hA (r_add hA rfl rfl) rfl fun a hA => 
        sta hA rfl rfl fun a hA => ?_
      refine o_nil <| hN9 _ _ <| w_ret ?_
      have H : some (IntKind.i64.wrap (101 + s1)) = some z1 := H
      obtain rfl := sI H
      have H := Hk1
      obtain rfl := sJ H
      exact ret1 hA Tryd.results90 rfl ⟨_, rfl, rfl, (wrap_in _ _), hI.forget0⟩
    · have hc3 := ft hc3; have H := bF H hc3
      refine w_skip <| hN7 _ _ <| w_reg <| stm hA rfl rfl fun a hA => 
        stp hA (r_add hA rfl rfl) rfl fun a hA => 
        sta hA rfl rfl fun a hA => ?_
      refine o_nil <| ⟨m1, Nat.lt_succ_self _, IntKind.i64.wrap (s1 + 1), H, (wrap_in _ _), hA.sub ⟨rfl, rfl, rfl, rfl, trivial⟩, hI⟩
  · obtain ⟨hc1, H⟩ := dF H hc1
    refine w_exit rfl <| hN3 _ _ <| w_seq fun _ hN10 => w_reg <| sta hA rfl rfl fun a hA => ?_
    refine o_nil <| hN10 _ _ <| w_ret ?_
    have H : some (-1) = some z1 := H
    obtain rfl := sI H
    have H := Hk1
    obtain rfl := sJ H
    exact ret1 hA Tryd.results90 rfl ⟨_, rfl, rfl, (in_lit .i64 (-1) rfl), hI.forget0⟩
set_option maxRecDepth 20000 in
theorem sargassoref_Around.c (μ : Store) (w0 : World) (hμ : Agr μ w0) (x0 : sargassorefFault) (hx0 : sargassorefFaultW μ x0) (x1 : Int) (hx1 : InR .i64 x1) (r : sargassorefFault) (H : sargassoref_Around.f x0 x1 = some r) :
    Calls Tryd.prog 91 [.agg [[.int .i64 x0.Code], [.bool x0.Placed], [.int .i64 x0.Pos], [.bool x0.Outer], [.int .i64 x0.At]].flatten.toArray, .int .i64 x1].toArray w0 (fun e w' => ∃ v, e = .returned v ∧ v = .agg [[.int .i64 r.Code], [.bool r.Placed], [.int .i64 r.Pos], [.bool r.Outer], [.int .i64 r.At]].flatten.toArray ∧ sargassorefFaultW μ r ∧ Iv w0 [] μ μ [] w') := by
  refine enter Tryd.func91 rfl Tryd.ntmps91 rfl fun a hA => ?_
  have hI := Iv.start hμ
  have H := bI H
  refine w_seq fun _ hN1 => w_reg <| o_box [[.int .i64 x0.Code], [.bool x0.Placed], [.int .i64 x0.Pos], [.bool x0.Outer], [.int .i64 x0.At]] hI hA rfl rfl rfl fun g1 a w hA hI hg1 => 
    o_new [[.int .i64 0], [.bool false], [.int .i64 0], [.bool false], [.int .i64 0]] zr51 hI hA rfl fun g2 a w hA hI hg2 => ?_
  refine o_nil <| hN1 _ _ <| w_seq fun _ hN2 => w_block <| w_seq fun _ hN3 => w_reg <| stp hA (r_fd (k := 0) Tryd.underlying51 rfl sz3 hA rfl rfl) rfl fun a hA => 
    stp hA (r_ld1 (j := 1) [] [[.bool x0.Placed], [.int .i64 x0.Pos], [.bool x0.Outer], [.int .i64 x0.At]] Tryd.underlying3 rfl hI rfl hA rfl rfl) rfl fun a hA => 
    stp hA (r_eql hA rfl rfl) rfl fun a hA => 
    sta hA rfl rfl fun a hA => ?_
  refine o_nil <| hN3 _ _ <| w_cond hA rfl (fun hc1 => ?_) (fun hc1 => ?_)
  · obtain ⟨hc1, H⟩ := dT H hc1
    refine w_seq fun _ hN4 => w_reg <| stp hA (r_ldA (j := 1) [] [[.int .i64 x0.Code], [.bool x0.Placed], [.int .i64 x0.Pos], [.bool x0.Outer], [.int .i64 x0.At]] [] Tryd.underlying51 rfl sz51 rfl hI rfl hA rfl rfl) rfl fun a hA => 
      o_st (j := 0) [] [[.int .i64 0], [.bool false], [.int .i64 0], [.bool false], [.int .i64 0]] [[.int .i64 x0.Code], [.bool x0.Placed], [.int .i64 x0.Pos], [.bool x0.Outer], [.int .i64 x0.At]] [] sz51 rfl rfl (fl_cons (one_one rfl) (fl_cons (one_one rfl) (fl_cons (one_one rfl) (fl_cons (one_one rfl) (fl_cons (one_one rfl) fl_nil))))) hI rfl hA rfl rfl rfl rfl fun w hI => ?_
    refine o_nil <| hN4 _ _ <| w_ret ?_
    obtain rfl := sJ H
    exact retc Tryd.underlying51 rfl sz51 rfl hI (j := 0) rfl hA Tryd.results91 rfl ⟨_, rfl, rfl, ⟨hx0.1, hx0.2.1, hx0.2.2⟩, hI.forget0⟩
  · obtain ⟨hc1, H⟩ := dF H hc1
    refine w_seq fun _ hN5 => w_reg <| stp hA (r_fd (k := 1) Tryd.underlying51 rfl sz4 hA rfl rfl) rfl fun a hA => 
      stp hA (r_ld1 (j := 1) [[.int .i64 x0.Code]] [[.int .i64 x0.Pos], [.bool x0.Outer], [.int .i64 x0.At]] Tryd.underlying4 rfl hI rfl hA rfl rfl) rfl fun a hA => 
      stp hA (r_not hA rfl) rfl fun a hA => 
      sta hA rfl rfl fun a hA => ?_
    refine o_nil <| hN5 _ _ <| w_cond hA rfl (fun hc2 => ?_) (fun hc2 => ?_)
    · have hc2 := nT hc2; have hc2 := ft hc2; have H := bF H hc2
      refine w_seq fun _ hN6 => w_reg <| stp hA (r_fd (k := 0) Tryd.underlying51 rfl sz3 hA rfl rfl) rfl fun a hA => 
        stp hA (r_ld1 (j := 1) [] [[.bool x0.Placed], [.int .i64 x0.Pos], [.bool x0.Outer], [.int .i64 x0.At]] Tryd.underlying3 rfl hI rfl hA rfl rfl) rfl fun a hA => 
        stm hA rfl rfl fun a hA => ?_
      obtain ⟨r1, hr1, H⟩ := bB H
      refine o_callp (u := .agg [[.int .i64 r1.Code], [.bool r1.Placed], [.int .i64 r1.Pos], [.bool r1.Outer], [.int .i64 r1.At]].flatten.toArray) cf16 hA rfl hI (sargassoref_Placed.c μ _ hI.agr x0.Code hx0.1 x1 hx1 r1 hr1) rfl fun a w hz1 hI hA => 
        o_st (j := 0) [] [[.int .i64 0], [.bool false], [.int .i64 0], [.bool false], [.int .i64 0]] [[.int .i64 r1.Code], [.bool r1.Placed], [.int .i64 r1.Pos], [.bool r1.Outer], [.int .i64 r1.At]] [] sz51 rfl rfl (fl_cons (one_one rfl) (fl_cons (one_one rfl) (fl_cons (one_one rfl) (fl_cons (one_one rfl) (fl_cons (one_one rfl) fl_nil))))) hI rfl hA rfl rfl rfl rfl fun w hI => ?_
      refine o_nil <| hN6 _ _ <| w_ret ?_
      obtain rfl := sJ H
      exact retc Tryd.underlying51 rfl sz51 rfl hI (j := 0) rfl hA Tryd.results91 rfl ⟨_, rfl, rfl, ⟨hz1.1, hz1.2.1, hz1.2.2⟩, hI.forget0⟩
    · have hc2 := nF hc2; have H := bT H hc2
      refine w_skip <| hN2 _ _ <| w_seq fun _ hN7 => w_reg <| stp hA (r_fd (k := 3) Tryd.underlying51 rfl sz4 hA rfl rfl) rfl fun a hA => 
        o_st (j := 1) [[.int .i64 x0.Code], [.bool x0.Placed], [.int .i64 x0.Pos]] [[.bool x0.Outer]] [[.bool true]] [[.int .i64 x0.At]] sz4 rfl rfl (fl_cons (one_one rfl) fl_nil) hI rfl hA rfl rfl rfl rfl fun w hI => ?_
      refine o_nil <| hN7 _ _ <| w_seq fun _ hN8 => w_reg <| stm hA rfl rfl fun a hA => 
        stp hA (r_fd (k := 4) Tryd.underlying51 rfl sz3 hA rfl rfl) rfl fun a hA => 
        o_st (j := 1) [[.int .i64 x0.Code], [.bool x0.Placed], [.int .i64 x0.Pos], [.bool true]] [[.int .i64 x0.At]] [[.int .i64 x1]] [] sz3 rfl rfl (fl_cons (one_one rfl) fl_nil) hI rfl hA rfl rfl rfl rfl fun w hI => ?_
      refine o_nil <| hN8 _ _ <| w_seq fun _ hN9 => w_reg <| stp hA (r_ldA (j := 1) [] [[.int .i64 x0.Code], [.bool x0.Placed], [.int .i64 x0.Pos], [.bool true], [.int .i64 x1]] [] Tryd.underlying51 rfl sz51 rfl hI rfl hA rfl rfl) rfl fun a hA => 
        o_st (j := 0) [] [[.int .i64 0], [.bool false], [.int .i64 0], [.bool false], [.int .i64 0]] [[.int .i64 x0.Code], [.bool x0.Placed], [.int .i64 x0.Pos], [.bool true], [.int .i64 x1]] [] sz51 rfl rfl (fl_cons (one_one rfl) (fl_cons (one_one rfl) (fl_cons (one_one rfl) (fl_cons (one_one rfl) (fl_cons (one_one rfl) fl_nil))))) hI rfl hA rfl rfl rfl rfl fun w hI => ?_
      refine o_nil <| hN9 _ _ <| w_ret ?_
      obtain rfl := sJ H
      exact retc Tryd.underlying51 rfl sz51 rfl hI (j := 0) rfl hA Tryd.results91 rfl ⟨_, rfl, rfl, ⟨hx0.1, hx0.2.1, hx1⟩, hI.forget0⟩
set_option maxRecDepth 20000 in
theorem sargassosee_Fault.c (μ : Store) (w0 : World) (hμ : Agr μ w0) (x0 : Er) (u0 : Value) (hx0 : ErS μ u0 x0) (hG : Gl μ) (r : sargassorefFault) (H : sargassosee_Fault.f x0 = some r) :
    Calls Tryd.prog 57 [u0].toArray w0 (fun e w' => ∃ v, e = .returned v ∧ v = .agg [[.int .i64 r.Code], [.bool r.Placed], [.int .i64 r.Pos], [.bool r.Outer], [.int .i64 r.At]].flatten.toArray ∧ sargassorefFaultW μ r ∧ Iv w0 [] μ μ [] w') := by
  refine enter Tryd.func57 rfl Tryd.ntmps57 rfl fun a hA => ?_
  have hI := Iv.start hμ
  have H := bI H
  refine w_seq fun _ hN1 => w_reg <| o_new [[.int .i64 0], [.bool false], [.int .i64 0], [.bool false], [.int .i64 0]] zr51 hI hA rfl fun g1 a w hA hI hg1 => ?_
  refine o_nil <| hN1 _ _ <| w_seq fun _ hN2 => w_seq fun _ hN3 => w_reg <| stm hA rfl rfl fun a hA => 
    stp hA (r_eqE erF hI.agr hx0 erv_nil (.inl ⟨.inr ⟨_, rfl⟩, Er.fitR⟩) hA rfl rfl) rfl fun a hA => ?_
  refine o_nil <| hN3 _ _ <| w_cond hA rfl (fun hc1 => ?_) (fun hc1 => ?_)
  · obtain ⟨hc1, H⟩ := dT H hc1
    refine w_seq fun _ hN4 => w_reg ?_
    obtain ⟨r1, hr1, H⟩ := bB H
    refine o_callp (u := .agg [[.int .i64 r1.Code], [.bool r1.Placed], [.int .i64 r1.Pos], [.bool r1.Outer], [.int .i64 r1.At]].flatten.toArray) cf58 hA rfl hI (sargassoref_None.c μ _ hI.agr  r1 hr1) rfl fun a w hz1 hI hA => 
      o_st (j := 0) [] [[.int .i64 0], [.bool false], [.int .i64 0], [.bool false], [.int .i64 0]] [[.int .i64 r1.Code], [.bool r1.Placed], [.int .i64 r1.Pos], [.bool r1.Outer], [.int .i64 r1.At]] [] sz51 rfl rfl (fl_cons (one_one rfl) (fl_cons (one_one rfl) (fl_cons (one_one rfl) (fl_cons (one_one rfl) (fl_cons (one_one rfl) fl_nil))))) hI rfl hA rfl rfl rfl rfl fun w hI => ?_
    refine o_nil <| hN4 _ _ <| w_ret ?_
    obtain rfl := sJ H
    exact retc Tryd.underlying51 rfl sz51 rfl hI (j := 0) rfl hA Tryd.results57 rfl ⟨_, rfl, rfl, ⟨hz1.1, hz1.2.1, hz1.2.2⟩, hI.forget0⟩
  · obtain ⟨hc1, H⟩ := dF H hc1
    refine w_skip <| hN2 _ _ <| w_seq fun _ hN5 => w_reg <| stm hA rfl rfl fun a hA => 
      stp hA (r_asP (by decide) Tryd.underlying152 zrA hx0 hA rfl) rfl fun a hA => 
      stm hA rfl rfl fun a hA => 
      stp hA (r_extr (vs := [aP 152 u0, .bool x0.isP]) hA rfl rfl) rfl fun a hA => 
      stp hA (r_extr (vs := [aP 152 u0, .bool x0.isP]) hA rfl rfl) rfl fun a hA => 
      sta hA rfl rfl fun a hA => 
      sta hA rfl rfl fun a hA => ?_
    refine o_nil <| hN5 _ _ <| w_seq fun _ hN6 => w_seq fun _ hN7 => w_reg <| stm hA rfl rfl fun a hA => 
      stp hA (r_not hA rfl) rfl fun a hA => ?_
    refine o_nil <| hN7 _ _ <| w_cond hA rfl (fun hc2 => ?_) (fun hc2 => ?_)
    · have hc20 := hc2; have hc2 := nT hc2; have hc2 := ft hc2; have H := bF H hc2; have hc2P : x0.isP = false := by simpa using hc20
      refine w_seq fun _ hN8 => w_reg <| stm hA rfl rfl fun a hA => ?_
      obtain ⟨r2, hr2, H⟩ := bB H
      refine o_callp (u := .int .i64 r2) cf90 hA rfl hI (sargassosee_sentinel.c μ _ hI.agr x0 u0 hx0 hG r2 hr2) rfl fun a w hz2 hI hA => ?_
      obtain ⟨r3, hr3, H⟩ := bB H
      refine o_callp (u := .agg [[.int .i64 r3.Code], [.bool r3.Placed], [.int .i64 r3.Pos], [.bool r3.Outer], [.int .i64 r3.At]].flatten.toArray) cf59 hA rfl hI (sargassoref_Bare.c μ _ hI.agr r2 hz2 r3 hr3) rfl fun a w hz3 hI hA => 
        o_st (j := 0) [] [[.int .i64 0], [.bool false], [.int .i64 0], [.bool false], [.int .i64 0]] [[.int .i64 r3.Code], [.bool r3.Placed], [.int .i64 r3.Pos], [.bool r3.Outer], [.int .i64 r3.At]] [] sz51 rfl rfl (fl_cons (one_one rfl) (fl_cons (one_one rfl) (fl_cons (one_one rfl) (fl_cons (one_one rfl) (fl_cons (one_one rfl) fl_nil))))) hI rfl hA rfl rfl rfl rfl fun w hI => ?_
      refine o_nil <| hN8 _ _ <| w_ret ?_
      obtain rfl := sJ H
      exact retc Tryd.underlying51 rfl sz51 rfl hI (j := 0) rfl hA Tryd.results57 rfl ⟨_, rfl, rfl, ⟨hz3.1, hz3.2.1, hz3.2.2⟩, hI.forget0⟩
    · have hc20 := hc2; have hc2 := nF hc2; have H := bT H hc2; have hc2P : x0.isP = true := by simpa using hc20
      refine w_skip <| hN6 _ _ <| w_seq fun _ hN9 => ?_
      obtain ⟨g2, v1, hv1, hat1, hw1, hE1⟩ := ErV.isP hx0 hc2P
      rw [hv1] at hA
      obtain ⟨c1, hz4, Hk1⟩ := bB H
      refine w_cut (fun a w => Fr a 75 [(2, .pointer (some ⟨g1, 0, none⟩)), (3, .pointer (some ⟨g2, 0, none⟩)), (28, .bool c1)] ∧ Iv w0 [] μ μ [cel g1 [[.int .i64 0], [.bool false], [.int .i64 0], [.bool false], [.int .i64 0]] 51] w) ?_ ?_
      · have H := bI hz4
        refine w_reg <| stm hA rfl rfl fun a hA => 
          stp hA (r_ptrnil_eql Tryd.underlying152 hA rfl rfl) rfl fun a hA => 
          stm hA rfl rfl fun a hA => 
          o_yes hA rfl rfl rfl <| 
          stm hA rfl rfl fun a hA => 
          o_yes hA rfl rfl rfl <| 
          stp hA (r_nilc hA rfl) rfl fun a hA => 
          o_yes hA rfl rfl rfl <| 
          stp hA (r_fd (k := 0 + 1) Tryd.underlying154 rfl sz47 hA rfl rfl) rfl fun a hA => 
          o_yes hA rfl rfl rfl <| 
          stp hA (r_ldm1 [[.int .i64 x0.pos]] [] Tryd.underlying47 rfl hI.agr hat1 hA rfl rfl) rfl fun a hA => 
          o_yes hA rfl rfl rfl <| 
          stp hA (r_eqE erF hI.agr hE1 erv_nil (.inl ⟨.inr ⟨_, rfl⟩, Er.fitR⟩) hA rfl rfl) rfl fun a hA => 
          stp hA (r_pick_f hA rfl rfl rfl) rfl fun a hA => ?_
        refine o_nil ?_
        cases sJ H
        exact ⟨hA.sub ⟨rfl, rfl, rfl, trivial⟩, hI⟩
      · rintro a w ⟨hA, hI⟩
        have H := Hk1
        refine w_cond hA rfl (fun hc3 => ?_) (fun hc3 => ?_)
        · have H := bT H hc3
          refine w_seq fun _ hN10 => w_reg ?_
          obtain ⟨r4, hr4, H⟩ := bB H
          refine o_callp (u := .agg [[.int .i64 r4.Code], [.bool r4.Placed], [.int .i64 r4.Pos], [.bool r4.Outer], [.int .i64 r4.At]].flatten.toArray) cf59 hA rfl hI (sargassoref_Bare.c μ _ hI.agr (-1) (in_lit .i64 (-1) rfl) r4 hr4) rfl fun a w hz5 hI hA => 
            o_st (j := 0) [] [[.int .i64 0], [.bool false], [.int .i64 0], [.bool false], [.int .i64 0]] [[.int .i64 r4.Code], [.bool r4.Placed], [.int .i64 r4.Pos], [.bool r4.Outer], [.int .i64 r4.At]] [] sz51 rfl rfl (fl_cons (one_one rfl) (fl_cons (one_one rfl) (fl_cons (one_one rfl) (fl_cons (one_one rfl) (fl_cons (one_one rfl) fl_nil))))) hI rfl hA rfl rfl rfl rfl fun w hI => ?_
          refine o_nil <| hN10 _ _ <| w_ret ?_
          obtain rfl := sJ H
          exact retc Tryd.underlying51 rfl sz51 rfl hI (j := 0) rfl hA Tryd.results57 rfl ⟨_, rfl, rfl, ⟨hz5.1, hz5.2.1, hz5.2.2⟩, hI.forget0⟩
        · have hc3 := ft hc3; have H := bF H hc3
          refine w_skip <| hN9 _ _ <| w_seq fun _ hN11 => w_reg <| stm hA rfl rfl fun a hA => 
            stp hA (r_nilc hA rfl) rfl fun a hA => 
            stp hA (r_fd (k := 0 + 1) Tryd.underlying154 rfl sz47 hA rfl rfl) rfl fun a hA => 
            stp hA (r_ldm1 [[.int .i64 x0.pos]] [] Tryd.underlying47 rfl hI.agr hat1 hA rfl rfl) rfl fun a hA => 
            stp hA (r_asP (by decide) Tryd.underlying152 zrA hE1 hA rfl) rfl fun a hA => 
            stm hA rfl rfl fun a hA => 
            stp hA (r_extr (vs := [aP 152 v1, .bool x0.err.isP]) hA rfl rfl) rfl fun a hA => 
            stp hA (r_extr (vs := [aP 152 v1, .bool x0.err.isP]) hA rfl rfl) rfl fun a hA => 
            sta hA rfl rfl fun a hA => 
            sta hA rfl rfl fun a hA => ?_
          refine o_nil <| hN11 _ _ <| w_seq fun _ hN12 => w_seq fun _ hN13 => w_reg <| stm hA rfl rfl fun a hA => 
            stp hA (r_not hA rfl) rfl fun a hA => ?_
          refine o_nil <| hN13 _ _ <| w_cond hA rfl (fun hc4 => ?_) (fun hc4 => ?_)
          · have hc40 := hc4; have hc4 := nT hc4; have hc4 := ft hc4; have H := bF H hc4; have hc4P : x0.err.isP = false := by simpa using hc40
            refine w_seq fun _ hN14 => ?_
            refine w_anyS [] mo (fun w (h : Iv w0 [] μ μ [cel g1 [[.int .i64 0], [.bool false], [.int .i64 0], [.bool false], [.int .i64 0]] 51] w) => (h.sl [] rfl : Iv w0 [] μ μ [] w)) hI fun w hI => ?_
            refine gE 0 hA rfl (.inr (hI.sl [] rfl)) (fun _ => r_mv hA rfl) fun a hA => ?_
            refine gE 1 hA rfl (.inr (hI.sl [] rfl)) (fun _ => r_nilc hA rfl) fun a hA => ?_
            refine gE 2 hA rfl (.inr (hI.sl [] rfl)) (fun _ => r_fd (k := 0 + 1) Tryd.underlying154 rfl sz47 hA rfl rfl) fun a hA => ?_
            refine gT 3 hA rfl (hI.sl [] rfl) (fun w hI => r_ldm1 [[.int .i64 x0.pos]] [] Tryd.underlying47 rfl hI.agr hat1 hA rfl rfl) fun a hA => ?_
            refine gE 5 hA rfl (.inr (hI.sl [] rfl)) (fun _ => r_mv hA rfl) fun a hA => ?_
            refine gE 6 hA rfl (.inr (hI.sl [] rfl)) (fun _ => r_nilc hA rfl) fun a hA => ?_
            refine gE 7 hA rfl (.inr (hI.sl [] rfl)) (fun _ => r_fd (k := 0) Tryd.underlying154 rfl sz3 hA rfl rfl) fun a hA => ?_
            refine gT 8 hA rfl (hI.sl [] rfl) (fun w hI => r_ldm1 [] [[v1]] Tryd.underlying3 rfl hI.agr hat1 hA rfl rfl) fun a hA => ?_
            refine gF 4 rfl ?_
            obtain ⟨r5, hr5, H⟩ := bB H
            refine o_callp (u := .int .i64 r5) cf90 hA rfl hI (sargassosee_sentinel.c μ _ hI.agr x0.err v1 hE1 hG r5 hr5) rfl fun a w hz6 hI hA => ?_
            refine o_nil <| ⟨(.inr (hI.sl [] rfl)), ?_⟩
            refine gF 9 rfl ?_
            obtain ⟨r6, hr6, H⟩ := bB H
            refine o_callp (u := .agg [[.int .i64 r6.Code], [.bool r6.Placed], [.int .i64 r6.Pos], [.bool r6.Outer], [.int .i64 r6.At]].flatten.toArray) cf16 hA rfl hI (sargassoref_Placed.c μ _ hI.agr r5 hz6 x0.pos hw1 r6 hr6) rfl fun a w hz7 hI hA => ?_
            refine o_nil <| ⟨(.inr (hI.sl [] rfl)), ?_⟩
            refine gF 10 rfl ?_
            refine o_st (j := 0) [] [[.int .i64 0], [.bool false], [.int .i64 0], [.bool false], [.int .i64 0]] [[.int .i64 r6.Code], [.bool r6.Placed], [.int .i64 r6.Pos], [.bool r6.Outer], [.int .i64 r6.At]] [] sz51 rfl rfl (fl_cons (one_one rfl) (fl_cons (one_one rfl) (fl_cons (one_one rfl) (fl_cons (one_one rfl) (fl_cons (one_one rfl) fl_nil))))) hI rfl hA rfl rfl rfl rfl fun w hI => ?_
            refine o_nil <| ⟨(.inr (hI.sl [] rfl)), ?_⟩
            refine gN <| hN14 _ _ <| w_ret ?_
            obtain rfl := sJ H
            exact retc Tryd.underlying51 rfl sz51 rfl hI (j := 0) rfl hA Tryd.results57 rfl ⟨_, rfl, rfl, ⟨hz7.1, hz7.2.1, hz7.2.2⟩, hI.forget0⟩
          · have hc40 := hc4; have hc4 := nF hc4; have H := bT H hc4; have hc4P : x0.err.isP = true := by simpa using hc40
            refine w_skip <| hN12 _ _ <| w_seq fun _ hN15 => ?_
            obtain ⟨g3, v2, hv2, hat2, hw2, hE2⟩ := ErV.isP hE1 hc4P
            rw [hv2] at hA
            obtain ⟨c2, hz8, Hk2⟩ := bB H
            refine w_cut (fun a w => Fr a 75 [(2, .pointer (some ⟨g1, 0, none⟩)), (3, .pointer (some ⟨g2, 0, none⟩)), (5, .pointer (some ⟨g3, 0, none⟩)), (58, .bool c2)] ∧ Iv w0 [] μ μ [cel g1 [[.int .i64 0], [.bool false], [.int .i64 0], [.bool false], [.int .i64 0]] 51] w) ?_ ?_
            · have H := bI hz8
              refine w_reg <| stm hA rfl rfl fun a hA => 
                stp hA (r_ptrnil_eql Tryd.underlying152 hA rfl rfl) rfl fun a hA => 
                stm hA rfl rfl fun a hA => 
                o_yes hA rfl rfl rfl <| 
                stm hA rfl rfl fun a hA => 
                o_yes hA rfl rfl rfl <| 
                stp hA (r_nilc hA rfl) rfl fun a hA => 
                o_yes hA rfl rfl rfl <| 
                stp hA (r_fd (k := 0 + 1) Tryd.underlying154 rfl sz47 hA rfl rfl) rfl fun a hA => 
                o_yes hA rfl rfl rfl <| 
                stp hA (r_ldm1 [[.int .i64 x0.err.pos]] [] Tryd.underlying47 rfl hI.agr hat2 hA rfl rfl) rfl fun a hA => 
                o_yes hA rfl rfl rfl <| 
                stp hA (r_eqE erF hI.agr hE2 erv_nil (.inl ⟨.inr ⟨_, rfl⟩, Er.fitR⟩) hA rfl rfl) rfl fun a hA => 
                stp hA (r_pick_f hA rfl rfl rfl) rfl fun a hA => ?_
              refine o_nil ?_
              cases sJ H
              exact ⟨hA.sub ⟨rfl, rfl, rfl, rfl, trivial⟩, hI⟩
            · rintro a w ⟨hA, hI⟩
              have H := Hk2
              refine w_cond hA rfl (fun hc5 => ?_) (fun hc5 => ?_)
              · have H := bT H hc5
                refine w_seq fun _ hN16 => w_reg ?_
                obtain ⟨r7, hr7, H⟩ := bB H
                refine o_callp (u := .agg [[.int .i64 r7.Code], [.bool r7.Placed], [.int .i64 r7.Pos], [.bool r7.Outer], [.int .i64 r7.At]].flatten.toArray) cf59 hA rfl hI (sargassoref_Bare.c μ _ hI.agr (-1) (in_lit .i64 (-1) rfl) r7 hr7) rfl fun a w hz9 hI hA => 
                  o_st (j := 0) [] [[.int .i64 0], [.bool false], [.int .i64 0], [.bool false], [.int .i64 0]] [[.int .i64 r7.Code], [.bool r7.Placed], [.int .i64 r7.Pos], [.bool r7.Outer], [.int .i64 r7.At]] [] sz51 rfl rfl (fl_cons (one_one rfl) (fl_cons (one_one rfl) (fl_cons (one_one rfl) (fl_cons (one_one rfl) (fl_cons (one_one rfl) fl_nil))))) hI rfl hA rfl rfl rfl rfl fun w hI => ?_
                refine o_nil <| hN16 _ _ <| w_ret ?_
                obtain rfl := sJ H
                exact retc Tryd.underlying51 rfl sz51 rfl hI (j := 0) rfl hA Tryd.results57 rfl ⟨_, rfl, rfl, ⟨hz9.1, hz9.2.1, hz9.2.2⟩, hI.forget0⟩
              · have hc5 := ft hc5; have H := bF H hc5
                refine w_skip <| hN15 _ _ <| w_seq fun _ hN17 => ?_
                refine w_anyS [] mo (fun w (h : Iv w0 [] μ μ [cel g1 [[.int .i64 0], [.bool false], [.int .i64 0], [.bool false], [.int .i64 0]] 51] w) => (h.sl [] rfl : Iv w0 [] μ μ [] w)) hI fun w hI => ?_
                refine gE 0 hA rfl (.inr (hI.sl [] rfl)) (fun _ => r_mv hA rfl) fun a hA => ?_
                refine gE 1 hA rfl (.inr (hI.sl [] rfl)) (fun _ => r_nilc hA rfl) fun a hA => ?_
                refine gE 2 hA rfl (.inr (hI.sl [] rfl)) (fun _ => r_fd (k := 0 + 1) Tryd.underlying154 rfl sz47 hA rfl rfl) fun a hA => ?_
                refine gT 3 hA rfl (hI.sl [] rfl) (fun w hI => r_ldm1 [[.int .i64 x0.err.pos]] [] Tryd.underlying47 rfl hI.agr hat2 hA rfl rfl) fun a hA => ?_
                refine gE 5 hA rfl (.inr (hI.sl [] rfl)) (fun _ => r_mv hA rfl) fun a hA => ?_
                refine gE 6 hA rfl (.inr (hI.sl [] rfl)) (fun _ => r_nilc hA rfl) fun a hA => ?_
                refine gE 7 hA rfl (.inr (hI.sl [] rfl)) (fun _ => r_fd (k := 0) Tryd.underlying154 rfl sz3 hA rfl rfl) fun a hA => ?_
                refine gT 8 hA rfl (hI.sl [] rfl) (fun w hI => r_ldm1 [] [[v2]] Tryd.underlying3 rfl hI.agr hat2 hA rfl rfl) fun a hA => ?_
                refine gE 10 hA rfl (.inr (hI.sl [] rfl)) (fun _ => r_mv hA rfl) fun a hA => ?_
                refine gE 11 hA rfl (.inr (hI.sl [] rfl)) (fun _ => r_nilc hA rfl) fun a hA => ?_
                refine gE 12 hA rfl (.inr (hI.sl [] rfl)) (fun _ => r_fd (k := 0) Tryd.underlying154 rfl sz3 hA rfl rfl) fun a hA => ?_
                refine gT 13 hA rfl (hI.sl [] rfl) (fun w hI => r_ldm1 [] [[v1]] Tryd.underlying3 rfl hI.agr hat1 hA rfl rfl) fun a hA => ?_
                refine gF 4 rfl ?_
                obtain ⟨r8, hr8, H⟩ := bB H
                refine o_callp (u := .int .i64 r8) cf90 hA rfl hI (sargassosee_sentinel.c μ _ hI.agr x0.err.err v2 hE2 hG r8 hr8) rfl fun a w hz10 hI hA => ?_
                refine o_nil <| ⟨(.inr (hI.sl [] rfl)), ?_⟩
                refine gF 9 rfl ?_
                obtain ⟨r9, hr9, H⟩ := bB H
                refine o_callp (u := .agg [[.int .i64 r9.Code], [.bool r9.Placed], [.int .i64 r9.Pos], [.bool r9.Outer], [.int .i64 r9.At]].flatten.toArray) cf16 hA rfl hI (sargassoref_Placed.c μ _ hI.agr r8 hz10 x0.err.pos hw2 r9 hr9) rfl fun a w hz11 hI hA => ?_
                refine o_nil <| ⟨(.inr (hI.sl [] rfl)), ?_⟩
                refine gF 14 rfl ?_
                obtain ⟨r10, hr10, H⟩ := bB H
                refine o_callp (u := .agg [[.int .i64 r10.Code], [.bool r10.Placed], [.int .i64 r10.Pos], [.bool r10.Outer], [.int .i64 r10.At]].flatten.toArray) cf91 hA rfl hI (sargassoref_Around.c μ _ hI.agr r9 ⟨hz11.1, hz11.2.1, hz11.2.2⟩ x0.pos hw1 r10 hr10) rfl fun a w hz12 hI hA => ?_
                refine o_nil <| ⟨(.inr (hI.sl [] rfl)), ?_⟩
                refine gF 15 rfl ?_
                refine o_st (j := 0) [] [[.int .i64 0], [.bool false], [.int .i64 0], [.bool false], [.int .i64 0]] [[.int .i64 r10.Code], [.bool r10.Placed], [.int .i64 r10.Pos], [.bool r10.Outer], [.int .i64 r10.At]] [] sz51 rfl rfl (fl_cons (one_one rfl) (fl_cons (one_one rfl) (fl_cons (one_one rfl) (fl_cons (one_one rfl) (fl_cons (one_one rfl) fl_nil))))) hI rfl hA rfl rfl rfl rfl fun w hI => ?_
                refine o_nil <| ⟨(.inr (hI.sl [] rfl)), ?_⟩
                refine gN <| hN17 _ _ <| w_ret ?_
                obtain rfl := sJ H
                exact retc Tryd.underlying51 rfl sz51 rfl hI (j := 0) rfl hA Tryd.results57 rfl ⟨_, rfl, rfl, ⟨hz12.1, hz12.2.1, hz12.2.2⟩, hI.forget0⟩
set_option maxRecDepth 20000 in
theorem sargassosee_Same.c (μ : Store) (w0 : World) (hμ : Agr μ w0) (x0 : Er) (u0 : Value) (hx0 : ErS μ u0 x0) (x1 : sargassorefFault) (hx1 : sargassorefFaultW μ x1) (hG : Gl μ) (r : Bool) (H : sargassosee_Same.f x0 x1 = some r) :
    Calls Tryd.prog 15 [u0, .agg [[.int .i64 x1.Code], [.bool x1.Placed], [.int .i64 x1.Pos], [.bool x1.Outer], [.int .i64 x1.At]].flatten.toArray].toArray w0 (fun e w' => ∃ v, e = .returned v ∧ v = .bool r ∧ True ∧ Iv w0 [] μ μ [] w') := by
  refine enter Tryd.func15 rfl Tryd.ntmps15 rfl fun a hA => ?_
  have hI := Iv.start hμ
  have H := bI H
  refine w_seq fun _ hN1 => w_reg <| o_box [[.int .i64 x1.Code], [.bool x1.Placed], [.int .i64 x1.Pos], [.bool x1.Outer], [.int .i64 x1.At]] hI hA rfl rfl rfl fun g1 a w hA hI hg1 => 
    sta hA rfl rfl fun a hA => ?_
  refine o_nil <| hN1 _ _ <| w_seq fun _ hN2 => ?_
  refine w_any [] mo hI fun w hI => ?_
  refine gE 0 hA rfl (.inr hI) (fun _ => r_mv hA rfl) fun a hA => ?_
  refine gT 2 hA rfl hI (fun w hI => r_ldA (j := 0) [] [[.int .i64 x1.Code], [.bool x1.Placed], [.int .i64 x1.Pos], [.bool x1.Outer], [.int .i64 x1.At]] [] Tryd.underlying51 rfl sz51 rfl hI rfl hA rfl rfl) fun a hA => ?_
  refine gF 1 rfl ?_
  obtain ⟨r1, hr1, H⟩ := bB H
  refine o_callp (u := .agg [[.int .i64 r1.Code], [.bool r1.Placed], [.int .i64 r1.Pos], [.bool r1.Outer], [.int .i64 r1.At]].flatten.toArray) cf57 hA rfl hI (sargassosee_Fault.c μ _ hI.agr x0 u0 hx0 hG r1 hr1) rfl fun a w hz1 hI hA => ?_
  refine o_nil <| ⟨(.inr hI), ?_⟩
  refine gF 3 rfl ?_
  obtain ⟨r2, hr2, H⟩ := bB H
  refine o_callp (u := .bool r2) cf56 hA rfl hI (sargassoref_SameFault.c μ _ hI.agr r1 ⟨hz1.1, hz1.2.1, hz1.2.2⟩ x1 ⟨hx1.1, hx1.2.1, hx1.2.2⟩ r2 hr2) rfl fun a w hz2 hI hA => ?_
  refine o_nil <| ⟨(.inr hI), ?_⟩
  refine gE 4 hA rfl (.inr hI) (fun _ => r_as hA rfl) fun a hA => ?_
  refine gN <| hN2 _ _ <| w_ret ?_
  obtain rfl := sJ H
  exact ret1 hA Tryd.results15 rfl ⟨_, rfl, rfl, trivial, hI.forget0⟩
set_option maxRecDepth 20000 in
theorem sargassosee_Is.c (μ : Store) (w0 : World) (hμ : Agr μ w0) (x0 : Er) (u0 : Value) (hx0 : ErS μ u0 x0) (x1 : Int) (hx1 : InR .i64 x1) (hG : Gl μ) (r : Bool) (H : sargassosee_Is.f x0 x1 = some r) :
    Calls Tryd.prog 17 [u0, .int .i64 x1].toArray w0 (fun e w' => ∃ v, e = .returned v ∧ v = .bool r ∧ True ∧ Iv w0 [] μ μ [] w') := by
  refine enter Tryd.func17 rfl Tryd.ntmps17 rfl fun a hA => ?_
  have hI := Iv.start hμ
  have H := bI H
  refine w_seq fun _ hN1 => w_reg <| sta hA rfl rfl fun a hA => ?_
  refine o_nil <| hN1 _ _ <| w_seq fun _ hN2 => w_reg <| stm hA rfl rfl fun a hA => 
    stm hA rfl rfl fun a hA => ?_
  obtain ⟨r1, hr1, H⟩ := bB H
  refine o_callp (u := .agg [[.int .i64 r1.Code], [.bool r1.Placed], [.int .i64 r1.Pos], [.bool r1.Outer], [.int .i64 r1.At]].flatten.toArray) cf59 hA rfl hI (sargassoref_Bare.c μ _ hI.agr x1 hx1 r1 hr1) rfl fun a w hz1 hI hA => ?_
  obtain ⟨r2, hr2, H⟩ := bB H
  refine o_callp (u := .bool r2) cf15 hA rfl hI (sargassosee_Same.c μ _ hI.agr x0 u0 hx0 r1 ⟨hz1.1, hz1.2.1, hz1.2.2⟩ hG r2 hr2) rfl fun a w hz2 hI hA => 
    sta hA rfl rfl fun a hA => ?_
  refine o_nil <| hN2 _ _ <| w_ret ?_
  obtain rfl := sJ H
  exact ret1 hA Tryd.results17 rfl ⟨_, rfl, rfl, trivial, hI.forget0⟩
set_option maxRecDepth 20000 in
theorem sargassoref_SameHash.c (μ : Store) (w0 : World) (hμ : Agr μ w0) (x0 : List Int) (hx0 : Arr .u8 32 x0) (x1 : List Int) (hx1 : Arr .u8 32 x1) (r : Bool) (H : sargassoref_SameHash.f x0 x1 = some r) :
    Calls Tryd.prog 26 [.agg [av .u8 32 x0].flatten.toArray, .agg [av .u8 32 x1].flatten.toArray].toArray w0 (fun e w' => ∃ v, e = .returned v ∧ v = .bool r ∧ True ∧ Iv w0 [] μ μ [] w') := by
  refine enter Tryd.func26 rfl Tryd.ntmps26 rfl fun a hA => ?_
  have hI := Iv.start hμ
  have H := bI H
  refine w_seq fun _ hN1 => w_reg <| o_box [av .u8 32 x0] hI hA rfl rfl rfl fun g1 a w hA hI hg1 => 
    o_box [av .u8 32 x1] hI hA rfl rfl rfl fun g2 a w hA hI hg2 => 
    sta hA rfl rfl fun a hA => ?_
  refine o_nil <| hN1 _ _ <| w_seq fun _ hN2 => w_seq fun _ hN3 => w_reg <| sta hA rfl rfl fun a hA => ?_
  refine o_nil <| hN3 _ _ <| w_block ?_
  obtain ⟨z1, hz1, Hk1⟩ := bind_some H
  obtain ⟨n1, hn1⟩ := loopO_some hz1
  refine w_loop (fun n a w => ∃ (s1 : Int), loopN (sargassoref_SameHash.s0 x0 x1) n s1 = some z1 ∧ InR .i64 s1 ∧ Fr a 17 [(2, .pointer (some ⟨g1, 0, none⟩)), (3, .pointer (some ⟨g2, 0, none⟩)), (4, .bool false), (5, .int .i64 s1)] ∧ Iv w0 [] μ μ [cel g2 [av .u8 32 x1] 26, cel g1 [av .u8 32 x0] 26] w) n1 ⟨0, hn1, (in_lit .i64 0 rfl), hA.sub ⟨rfl, rfl, rfl, rfl, trivial⟩, hI⟩ ?_
  clear hA hI
  rintro n a w ⟨s1, hn1, ws1, hA, hI⟩
  obtain ⟨m1, rfl, H⟩ := loopN_bind hn1
  clear hn1
  refine w_seq fun _ hN4 => w_seq fun _ hN5 => w_reg <| stm hA rfl rfl fun a hA => 
    stp hA (r_lss hA rfl rfl) rfl fun a hA => ?_
  refine o_nil <| hN5 _ _ <| w_cond hA rfl (fun hc1 => ?_) (fun hc1 => ?_)
  · obtain ⟨hc1, H⟩ := dT H hc1
    refine w_skip <| hN4 _ _ <| w_seq fun _ hN6 => w_block <| w_seq fun _ hN7 => ?_
    refine w_draw mo (by kernel_rfl) hI ?_
    refine qtp hA (fun _ hI => r_mv hA rfl) rfl fun a hA => ?_
    obtain ⟨hb1, H⟩ := bG H
    refine qtp hA (fun _ hI => r_ixar1 Tryd.underlying26 sz5 hA rfl rfl hb1.1 hb1.2) rfl fun a hA => 
      qtp hA (fun _ hI => r_ldE (j := 1) [] [] Tryd.underlying5 rfl hI rfl hA rfl rfl (by omega)) rfl fun a hA => 
      qtp hA (fun _ hI => r_mv hA rfl) rfl fun a hA => 
      qtp hA (fun _ hI => r_ixar1 Tryd.underlying26 sz5 hA rfl rfl hb1.1 hb1.2) rfl fun a hA => 
      qtp hA (fun _ hI => r_ldE (j := 0) [] [] Tryd.underlying5 rfl hI rfl hA rfl rfl (by omega)) rfl fun a hA => 
      qtp hA (fun _ hI => r_neq hA rfl rfl) rfl fun a hA => ?_
    refine q_nil fun w hI => ?_
    refine hN7 _ _ <| w_cond hA rfl (fun hc2 => ?_) (fun hc2 => ?_)
    · obtain ⟨hc2, H⟩ := dT H hc2
      refine w_seq fun _ hN8 => w_reg <| sta hA rfl rfl fun a hA => ?_
      refine o_nil <| hN8 _ _ <| w_ret ?_
      have H : some false = some z1 := H
      obtain rfl := sI H
      have H := Hk1
      obtain rfl := sJ H
      exact ret1 hA Tryd.results26 rfl ⟨_, rfl, rfl, trivial, hI.forget0⟩
    · obtain ⟨hc2, H⟩ := dF H hc2
      refine w_skip <| hN6 _ _ <| w_reg <| stm hA rfl rfl fun a hA => 
        stp hA (r_add hA rfl rfl) rfl fun a hA => 
        sta hA rfl rfl fun a hA => ?_
      refine o_nil <| ⟨m1, Nat.lt_succ_self _, IntKind.i64.wrap (s1 + 1), H, (wrap_in _ _), hA.sub ⟨rfl, rfl, rfl, rfl, trivial⟩, hI⟩
  · obtain ⟨hc1, H⟩ := dF H hc1
    refine w_exit rfl <| hN2 _ _ <| w_seq fun _ hN9 => w_reg <| sta hA rfl rfl fun a hA => ?_
    refine o_nil <| hN9 _ _ <| w_ret ?_
    have H : some true = some z1 := H
    obtain rfl := sI H
    have H := Hk1
    obtain rfl := sJ H
    exact ret1 hA Tryd.results26 rfl ⟨_, rfl, rfl, trivial, hI.forget0⟩
set_option maxRecDepth 20000 in
theorem sargassoref_Notes.c (μ : Store) (w0 : World) (hμ : Agr μ w0) (x0 : List Note) (u0 : Value) (hx0 : Slc (RNote μ) 34 μ u0 x0) (r : List Note) (H : sargassoref_Notes.f x0 = some r) :
    Calls Tryd.prog 73 [u0].toArray w0 (fun e w' => ∃ v, e = .returned v ∧ ∃ (v0 : Value) (c0 : List Value), v = v0 ∧ Els (RNote μ) 34 r c0 ∧ Iv w0 [] μ μ [row 79 34 v0 r.length c0] w') := by
  refine enter Tryd.func73 rfl Tryd.ntmps73 rfl fun a hA => ?_
  have hI := Iv.start hμ
  have H := bI H
  refine w_seq fun _ hN1 => w_reg <| sta hA rfl rfl fun a hA => ?_
  refine o_nil <| hN1 _ _ <| w_seq fun _ hN2 => w_reg <| stm hA rfl rfl fun a hA => ?_
  obtain ⟨_, hsl1⟩ := Slc.sv hx0
  refine stp hA (r_slen Tryd.underlying76 hsl1 hA rfl) rfl fun a hA => ?_
  obtain ⟨hb1, H⟩ := bG H
  refine o_make (RE := (RNote μ)) (c0 := [[.int .i64 0], av .u8 32 (List.replicate 32 0), [.int .i64 0]].flatten) (z0 := (⟨0, (List.replicate 32 0), 0⟩ : Note)) ⟨rfl, ⟨(in_lit .i64 0 rfl), (arr_zero _ _), (in_lit .i64 0 rfl)⟩⟩ te79 rfl zr79 Tryd.underlying76 hI hA rfl rfl (by have hq := hb1; simp only [maxLen]; omega) rfl fun g1 cs1 a w hE1 hA hI => 
    sta hA rfl rfl fun a hA => ?_
  refine o_nil <| hN2 _ _ ?_
  obtain ⟨c1, hz1, Hk1⟩ := bB H
  refine w_cut (fun a w => ∃ (vvc1 : Value) (ccc1 : List Value), Els (RNote μ) 34 c1 ccc1 ∧ Fr a 22 [(2, (.slice none 0 0)), (3, vvc1)] ∧ Iv w0 [] μ μ [row 79 34 vvc1 c1.length ccc1] w) ?_ ?_
  · have H := bI hz1
    refine w_seq fun _ hN3 => w_reg <| sta hA rfl rfl fun a hA => ?_
    refine o_nil <| hN3 _ _ <| w_block ?_
    obtain ⟨z1, hz2, Hk2⟩ := bind_some H
    obtain ⟨n1, hn1⟩ := loopO_some hz2
    refine w_loop (fun n a w => ∃ (s1 : List Note) (s2 : Int) (vvs1 : Value) (ccs1 : List Value), loopN (sargassoref_Notes.s0 x0) n (s1, s2) = some z1 ∧ Els (RNote μ) 34 s1 ccs1 ∧ InR .i64 s2 ∧ Fr a 22 [(0, u0), (2, (.slice none 0 0)), (3, vvs1), (4, .int .i64 s2)] ∧ Iv w0 [] μ μ [row 79 34 vvs1 s1.length ccs1] w) n1 ⟨(List.replicate ((0 : Int).toNat) (⟨0, (List.replicate 32 0), 0⟩ : Note) : List Note), 0, (.slice (some ⟨g1, 0, none⟩) ((0 : Int).toNat) (((x0.length : Int)).toNat)), cs1, hn1, hE1, (in_lit .i64 0 rfl), hA.sub ⟨rfl, rfl, rfl, rfl, trivial⟩, hI⟩ ?_
    clear hA hI
    rintro n a w ⟨s1, s2, vvs1, ccs1, hn1, ws1, ws2, hA, hI⟩
    obtain ⟨m1, rfl, H⟩ := loopN_bind hn1
    clear hn1
    refine w_seq fun _ hN4 => w_seq fun _ hN5 => w_reg <| stm hA rfl rfl fun a hA => 
      stm hA rfl rfl fun a hA => ?_
    obtain ⟨_, hsl2⟩ := Slc.sv hx0
    refine stp hA (r_slen Tryd.underlying76 hsl2 hA rfl) rfl fun a hA => 
      stp hA (r_lss hA rfl rfl) rfl fun a hA => ?_
    refine o_nil <| hN5 _ _ <| w_cond hA rfl (fun hc1 => ?_) (fun hc1 => ?_)
    · obtain ⟨hc1, H⟩ := dT H hc1
      refine w_skip <| hN4 _ _ <| w_seq fun _ hN6 => w_block <| w_reg <| stm hA rfl rfl fun a hA => 
        stm hA rfl rfl fun a hA => 
        stm hA rfl rfl fun a hA => ?_
      obtain ⟨hb2, H⟩ := bG H
      obtain ⟨_, he1, _, hat1⟩ := Slc.elem hx0 (getD_some default hb2.1 hb2.2)
      obtain ⟨rfl, hw1⟩ := he1
      obtain ⟨_, hsl3⟩ := Slc.sv hx0
      refine stp hA (r_six Tryd.underlying76 sz79 hsl3 hA rfl rfl hb2.1 hb2.2) rfl fun a hA => 
        stp hA (r_ldmA [] [[.int .i64 ((x0.getD s2.toNat default).Op)], av .u8 32 ((x0.getD s2.toNat default).Tx), [.int .i64 ((x0.getD s2.toNat default).Reason)]] [] Tryd.underlying79 rfl sz79 rfl hI.agr hat1 hA rfl rfl) rfl fun a hA => ?_
      have hE2 : Els (RNote μ) 34 ([(x0.getD s2.toNat default)] : List Note) _ := (Els.cons (c := [[.int .i64 ((x0.getD s2.toNat default).Op)], av .u8 32 ((x0.getD s2.toNat default).Tx), [.int .i64 ((x0.getD s2.toNat default).Reason)]].flatten) ⟨rfl, ⟨hw1.1, hw1.2.1, hw1.2.2⟩⟩ rfl Els.nil)
      refine o_bsl ([[.int .i64 ((x0.getD s2.toNat default).Op)], av .u8 32 ((x0.getD s2.toNat default).Tx), [.int .i64 ((x0.getD s2.toNat default).Reason)]].flatten ++ ([])) te79 zr79 Tryd.underlying76 hI hA rfl rfl rfl rfl (by kernel_rfl) rfl fun g2 a w hA hI => ?_
      generalize hcs : ([[.int .i64 ((x0.getD s2.toNat default).Op)], av .u8 32 ((x0.getD s2.toNat default).Tx), [.int .i64 ((x0.getD s2.toNat default).Reason)]].flatten ++ ([]) : List Value) = cs2 at hE2 hI
      clear hcs
      obtain ⟨hb3, H⟩ := bG H
      have hE4 := ws1.app hE2
      refine o_appG (xs := (s1 : List Note)) (ys := (([(x0.getD s2.toNat default)] : List Note) : List Note)) (M := 2932031007402) 1 te79 Tryd.underlying76 hI rfl hA rfl rfl (src_row hI (j := 0) rfl) hE2.len (hE2.ones RNote.ones) hb3 rfl fun v1 a w hA hI => 
        sta hA rfl rfl fun a hA => ?_
      refine o_nil <| hN6 _ _ <| w_reg <| stm hA rfl rfl fun a hA => 
        stp hA (r_add hA rfl rfl) rfl fun a hA => 
        sta hA rfl rfl fun a hA => ?_
      refine o_nil <| ⟨m1, Nat.lt_succ_self _, s1 ++ ([(x0.getD s2.toNat default)] : List Note), IntKind.i64.wrap (s2 + 1), v1, ccs1 ++ cs2, H, hE4, (wrap_in _ _), hA.sub ⟨rfl, rfl, rfl, rfl, trivial⟩, (hI.sl [1] rfl)⟩
    · obtain ⟨hc1, H⟩ := dF H hc1
      refine w_exit rfl ?_
      have H : some s1 = some z1 := H
      obtain rfl := sI H
      have H := Hk2
      cases sJ H
      exact ⟨vvs1, ccs1, ws1, hA.sub ⟨rfl, rfl, trivial⟩, hI⟩
  · rintro a w ⟨vvc1, ccc1, wc1, hA, hI⟩
    have H := Hk1
    refine w_seq fun _ hN7 => w_reg <| stm hA rfl rfl fun a hA => 
      sta hA rfl rfl fun a hA => ?_
    refine o_nil <| hN7 _ _ <| w_ret ?_
    obtain rfl := sJ H
    exact ret1 hA Tryd.results73 rfl ⟨_, rfl, vvc1, ccc1, rfl, wc1, (hI.less (Store.le.refl _) hI.le)⟩
set_option maxRecDepth 20000 in
theorem sargassoref_SameNote1.c (μ : Store) (w0 : World) (hμ : Agr μ w0) (x0 : Note) (hx0 : NoteW μ x0) (x1 : Note) (hx1 : NoteW μ x1) (r : Bool) (H : sargassoref_SameNote1.f x0 x1 = some r) :
    Calls Tryd.prog 74 [.agg [[.int .i64 x0.Op], av .u8 32 x0.Tx, [.int .i64 x0.Reason]].flatten.toArray, .agg [[.int .i64 x1.Op], av .u8 32 x1.Tx, [.int .i64 x1.Reason]].flatten.toArray].toArray w0 (fun e w' => ∃ v, e = .returned v ∧ v = .bool r ∧ True ∧ Iv w0 [] μ μ [] w') := by
  refine enter Tryd.func74 rfl Tryd.ntmps74 rfl fun a hA => ?_
  have hI := Iv.start hμ
  have H := bI H
  refine w_seq fun _ hN1 => w_reg <| o_box [[.int .i64 x0.Op], av .u8 32 x0.Tx, [.int .i64 x0.Reason]] hI hA rfl rfl rfl fun g1 a w hA hI hg1 => 
    o_box [[.int .i64 x1.Op], av .u8 32 x1.Tx, [.int .i64 x1.Reason]] hI hA rfl rfl rfl fun g2 a w hA hI hg2 => 
    sta hA rfl rfl fun a hA => ?_
  refine o_nil <| hN1 _ _ ?_
  obtain ⟨c1, hz1, Hk1⟩ := bB H
  refine w_cut (fun a w => Fr a 24 [(4, .bool c1)] ∧ Iv w0 [] μ μ [cel g2 [[.int .i64 x1.Op], av .u8 32 x1.Tx, [.int .i64 x1.Reason]] 79, cel g1 [[.int .i64 x0.Op], av .u8 32 x0.Tx, [.int .i64 x0.Reason]] 79] w) ?_ ?_
  · have H := bI hz1
    refine w_reg <| stp hA (r_fd (k := 0) Tryd.underlying79 rfl sz3 hA rfl rfl) rfl fun a hA => 
      stp hA (r_ld1 (j := 1) [] [av .u8 32 x0.Tx, [.int .i64 x0.Reason]] Tryd.underlying3 rfl hI rfl hA rfl rfl) rfl fun a hA => 
      stp hA (r_fd (k := 0) Tryd.underlying79 rfl sz3 hA rfl rfl) rfl fun a hA => 
      stp hA (r_ld1 (j := 0) [] [av .u8 32 x1.Tx, [.int .i64 x1.Reason]] Tryd.underlying3 rfl hI rfl hA rfl rfl) rfl fun a hA => 
      stp hA (r_eql hA rfl rfl) rfl fun a hA => 
      stm hA rfl rfl fun a hA => ?_
    rcases Bool.eq_false_or_eq_true (decide (x0.Op = x1.Op)) with hc1 | hc1
    · have hc10 := hc1; obtain ⟨hc1, H⟩ := dT H hc1
      refine o_yes hA rfl rfl hc10 <| 
        stp hA (r_fd (k := 1) Tryd.underlying79 rfl sz26 hA rfl rfl) rfl fun a hA => 
        o_yes hA rfl rfl hc10 <| 
        stp hA (r_ldA (j := 1) [[.int .i64 x0.Op]] [av .u8 32 x0.Tx] [[.int .i64 x0.Reason]] Tryd.underlying26 rfl sz26 rfl hI rfl hA rfl rfl) rfl fun a hA => 
        o_yes hA rfl rfl hc10 <| 
        stp hA (r_fd (k := 1) Tryd.underlying79 rfl sz26 hA rfl rfl) rfl fun a hA => 
        o_yes hA rfl rfl hc10 <| 
        stp hA (r_ldA (j := 0) [[.int .i64 x1.Op]] [av .u8 32 x1.Tx] [[.int .i64 x1.Reason]] Tryd.underlying26 rfl sz26 rfl hI rfl hA rfl rfl) rfl fun a hA => 
        o_yes hA rfl rfl hc10 <| ?_
      obtain ⟨r1, hr1, H⟩ := bB H
      refine o_callp (u := .bool r1) cf26 hA rfl hI (sargassoref_SameHash.c μ _ hI.agr x0.Tx hx0.2.1 x1.Tx hx1.2.1 r1 hr1) rfl fun a w hz2 hI hA => 
        stp hA (r_pick_t hA rfl hc10 rfl) rfl fun a hA => 
        stm hA rfl rfl fun a hA => ?_
      rcases Bool.eq_false_or_eq_true r1 with hc2 | hc2
      · have hc20 := hc2; have H := bT H hc2
        refine o_yes hA rfl rfl hc20 <| 
          stp hA (r_fd (k := 33) Tryd.underlying79 rfl sz3 hA rfl rfl) rfl fun a hA => 
          o_yes hA rfl rfl hc20 <| 
          stp hA (r_ld1 (j := 1) [[.int .i64 x0.Op], av .u8 32 x0.Tx] [] Tryd.underlying3 rfl hI rfl hA rfl rfl) rfl fun a hA => 
          o_yes hA rfl rfl hc20 <| 
          stp hA (r_fd (k := 33) Tryd.underlying79 rfl sz3 hA rfl rfl) rfl fun a hA => 
          o_yes hA rfl rfl hc20 <| 
          stp hA (r_ld1 (j := 0) [[.int .i64 x1.Op], av .u8 32 x1.Tx] [] Tryd.underlying3 rfl hI rfl hA rfl rfl) rfl fun a hA => 
          o_yes hA rfl rfl hc20 <| 
          stp hA (r_eql hA rfl rfl) rfl fun a hA => 
          stp hA (r_pick_t hA rfl hc20 rfl) rfl fun a hA => 
          sta hA rfl rfl fun a hA => ?_
        refine o_nil ?_
        cases sJ H
        exact ⟨hA.sub ⟨rfl, trivial⟩, hI⟩
      · have hc20 := hc2; have hc2 := ft hc2; have H := bF H hc2
        refine o_no hA rfl rfl (by rw [hc20]; simp [vb]) rfl fun a hA => 
          o_no hA rfl rfl (by rw [hc20]; simp [vb]) rfl fun a hA => 
          o_no hA rfl rfl (by rw [hc20]; simp [vb]) rfl fun a hA => 
          o_no hA rfl rfl (by rw [hc20]; simp [vb]) rfl fun a hA => 
          o_no hA rfl rfl (by rw [hc20]; simp [vb]) rfl fun a hA => 
          stp hA (r_pick_f hA rfl hc20 rfl) rfl fun a hA => 
          sta hA rfl rfl fun a hA => ?_
        refine o_nil ?_
        cases sJ H
        exact ⟨hA.sub ⟨rfl, trivial⟩, hI⟩
    · have hc10 := hc1; obtain ⟨hc1, H⟩ := dF H hc1
      refine o_no hA rfl rfl (by rw [hc10]; simp [vb]) rfl fun a hA => 
        o_no hA rfl rfl (by rw [hc10]; simp [vb]) rfl fun a hA => 
        o_no hA rfl rfl (by rw [hc10]; simp [vb]) rfl fun a hA => 
        o_no hA rfl rfl (by rw [hc10]; simp [vb]) rfl fun a hA => 
        o_no hA rfl rfl (by rw [hc10]; simp [vb]) rfl fun a hA => 
        stp hA (r_pick_f hA rfl hc10 rfl) rfl fun a hA => 
        stm hA rfl rfl fun a hA => 
        o_no hA rfl rfl (by simp [vb]) rfl fun a hA => 
        o_no hA rfl rfl (by simp [vb]) rfl fun a hA => 
        o_no hA rfl rfl (by simp [vb]) rfl fun a hA => 
        o_no hA rfl rfl (by simp [vb]) rfl fun a hA => 
        o_no hA rfl rfl (by simp [vb]) rfl fun a hA => 
        stp hA (r_pick_f hA rfl rfl rfl) rfl fun a hA => 
        sta hA rfl rfl fun a hA => ?_
      refine o_nil ?_
      cases sJ H
      exact ⟨hA.sub ⟨rfl, trivial⟩, hI⟩
  · rintro a w ⟨hA, hI⟩
    have H := Hk1
    refine w_ret ?_
    obtain rfl := sJ H
    exact ret1 hA Tryd.results74 rfl ⟨_, rfl, rfl, trivial, hI.forget0⟩
set_option maxRecDepth 20000 in
theorem sargassoref_SameNotes.c (μ : Store) (w0 : World) (hμ : Agr μ w0) (x0 : List Note) (u0 : Value) (hx0 : Slc (RNote μ) 34 μ u0 x0) (x1 : List Note) (u1 : Value) (hx1 : Slc (RNote μ) 34 μ u1 x1) (r : Bool) (H : sargassoref_SameNotes.f x0 x1 = some r) :
    Calls Tryd.prog 37 [u0, u1].toArray w0 (fun e w' => ∃ v, e = .returned v ∧ v = .bool r ∧ True ∧ Iv w0 [] μ μ [] w') := by
  refine enter Tryd.func37 rfl Tryd.ntmps37 rfl fun a hA => ?_
  have hI := Iv.start hμ
  have H := bI H
  refine w_seq fun _ hN1 => w_reg <| sta hA rfl rfl fun a hA => ?_
  refine o_nil <| hN1 _ _ <| w_seq fun _ hN2 => w_seq fun _ hN3 => w_reg <| stm hA rfl rfl fun a hA => ?_
  obtain ⟨_, hsl1⟩ := Slc.sv hx0
  refine stp hA (r_slen Tryd.underlying76 hsl1 hA rfl) rfl fun a hA => 
    stm hA rfl rfl fun a hA => ?_
  obtain ⟨_, hsl2⟩ := Slc.sv hx1
  refine stp hA (r_slen Tryd.underlying76 hsl2 hA rfl) rfl fun a hA => 
    stp hA (r_neq hA rfl rfl) rfl fun a hA => ?_
  refine o_nil <| hN3 _ _ <| w_cond hA rfl (fun hc1 => ?_) (fun hc1 => ?_)
  · obtain ⟨hc1, H⟩ := dT H hc1
    refine w_seq fun _ hN4 => w_reg <| sta hA rfl rfl fun a hA => ?_
    refine o_nil <| hN4 _ _ <| w_ret ?_
    obtain rfl := sJ H
    exact ret1 hA Tryd.results37 rfl ⟨_, rfl, rfl, trivial, hI.forget0⟩
  · obtain ⟨hc1, H⟩ := dF H hc1
    refine w_skip <| hN2 _ _ <| w_seq fun _ hN5 => w_seq fun _ hN6 => w_reg <| sta hA rfl rfl fun a hA => ?_
    refine o_nil <| hN6 _ _ <| w_block ?_
    obtain ⟨z1, hz1, Hk1⟩ := bind_some H
    obtain ⟨n1, hn1⟩ := loopO_some hz1
    refine w_loop (fun n a w => ∃ (s1 : Int), loopN (sargassoref_SameNotes.s0 x0 x1) n s1 = some z1 ∧ InR .i64 s1 ∧ Fr a 29 [(0, u0), (1, u1), (4, .bool false), (5, .int .i64 s1)] ∧ Iv w0 [] μ μ [] w) n1 ⟨0, hn1, (in_lit .i64 0 rfl), hA.sub ⟨rfl, rfl, rfl, rfl, trivial⟩, hI⟩ ?_
    clear hA hI
    rintro n a w ⟨s1, hn1, ws1, hA, hI⟩
    obtain ⟨m1, rfl, H⟩ := loopN_bind hn1
    clear hn1
    refine w_seq fun _ hN7 => w_seq fun _ hN8 => w_reg <| stm hA rfl rfl fun a hA => 
      stm hA rfl rfl fun a hA => ?_
    obtain ⟨_, hsl3⟩ := Slc.sv hx0
    refine stp hA (r_slen Tryd.underlying76 hsl3 hA rfl) rfl fun a hA => 
      stp hA (r_lss hA rfl rfl) rfl fun a hA => ?_
    refine o_nil <| hN8 _ _ <| w_cond hA rfl (fun hc2 => ?_) (fun hc2 => ?_)
    · obtain ⟨hc2, H⟩ := dT H hc2
      refine w_skip <| hN7 _ _ <| w_seq fun _ hN9 => w_block <| w_seq fun _ hN10 => ?_
      refine w_draw mo (by kernel_rfl) hI ?_
      refine qtp hA (fun _ hI => r_mv hA rfl) rfl fun a hA => 
        qtp hA (fun _ hI => r_mv hA rfl) rfl fun a hA => ?_
      obtain ⟨hb1, H⟩ := bG H
      obtain ⟨_, he1, _, hat1⟩ := Slc.elem hx0 (getD_some default hb1.1 hb1.2)
      obtain ⟨rfl, hw1⟩ := he1
      obtain ⟨_, hsl4⟩ := Slc.sv hx0
      refine qtp hA (fun _ hI => r_six Tryd.underlying76 sz79 hsl4 hA rfl rfl hb1.1 hb1.2) rfl fun a hA => 
        qtp hA (fun _ hI => r_ldmA [] [[.int .i64 ((x0.getD s1.toNat default).Op)], av .u8 32 ((x0.getD s1.toNat default).Tx), [.int .i64 ((x0.getD s1.toNat default).Reason)]] [] Tryd.underlying79 rfl sz79 rfl hI.agr hat1 hA rfl rfl) rfl fun a hA => 
        qtp hA (fun _ hI => r_mv hA rfl) rfl fun a hA => 
        qtp hA (fun _ hI => r_mv hA rfl) rfl fun a hA => ?_
      obtain ⟨hb2, H⟩ := bG H
      obtain ⟨_, he2, _, hat2⟩ := Slc.elem hx1 (getD_some default hb2.1 hb2.2)
      obtain ⟨rfl, hw2⟩ := he2
      obtain ⟨_, hsl5⟩ := Slc.sv hx1
      refine qtp hA (fun _ hI => r_six Tryd.underlying76 sz79 hsl5 hA rfl rfl hb2.1 hb2.2) rfl fun a hA => 
        qtp hA (fun _ hI => r_ldmA [] [[.int .i64 ((x1.getD s1.toNat default).Op)], av .u8 32 ((x1.getD s1.toNat default).Tx), [.int .i64 ((x1.getD s1.toNat default).Reason)]] [] Tryd.underlying79 rfl sz79 rfl hI.agr hat2 hA rfl rfl) rfl fun a hA => ?_
      obtain ⟨r1, hr1, H⟩ := bB H
      refine qcall (v := .bool r1) cf74 hA rfl (fun _ hI => plq (sargassoref_SameNote1.c μ _ hI.agr (x0.getD s1.toNat default) ⟨hw1.1, hw1.2.1, hw1.2.2⟩ (x1.getD s1.toNat default) ⟨hw2.1, hw2.2.1, hw2.2.2⟩ r1 hr1) hI) rfl fun a hA => 
        qtp hA (fun _ hI => r_as hA rfl) rfl fun a hA => ?_
      refine q_nil fun w hI => ?_
      refine hN10 _ _ <| w_seq fun _ hN11 => w_reg <| stm hA rfl rfl fun a hA => 
        stp hA (r_not hA rfl) rfl fun a hA => ?_
      refine o_nil <| hN11 _ _ <| w_cond hA rfl (fun hc3 => ?_) (fun hc3 => ?_)
      · have hc3 := nT hc3; have hc3 := ft hc3; have H := bF H hc3
        refine w_seq fun _ hN12 => w_reg <| sta hA rfl rfl fun a hA => ?_
        refine o_nil <| hN12 _ _ <| w_ret ?_
        have H : some false = some z1 := H
        obtain rfl := sI H
        have H := Hk1
        obtain rfl := sJ H
        exact ret1 hA Tryd.results37 rfl ⟨_, rfl, rfl, trivial, hI.forget0⟩
      · have hc3 := nF hc3; have H := bT H hc3
        refine w_skip <| hN9 _ _ <| w_reg <| stm hA rfl rfl fun a hA => 
          stp hA (r_add hA rfl rfl) rfl fun a hA => 
          sta hA rfl rfl fun a hA => ?_
        refine o_nil <| ⟨m1, Nat.lt_succ_self _, IntKind.i64.wrap (s1 + 1), H, (wrap_in _ _), hA.sub ⟨rfl, rfl, rfl, rfl, trivial⟩, hI⟩
    · obtain ⟨hc2, H⟩ := dF H hc2
      refine w_exit rfl <| hN5 _ _ <| w_seq fun _ hN13 => w_reg <| sta hA rfl rfl fun a hA => ?_
      refine o_nil <| hN13 _ _ <| w_ret ?_
      have H : some true = some z1 := H
      obtain rfl := sI H
      have H := Hk1
      obtain rfl := sJ H
      exact ret1 hA Tryd.results37 rfl ⟨_, rfl, rfl, trivial, hI.forget0⟩
end Go.Proofs.YtcpdnoochieecaaDoor.T
namespace Go.Proofs.YtcpdnoochieecaaDoor.T
open Go Go.Proofs Go.Proofs.YtcpdnoochieecaaDoor.K
set_option linter.unusedVariables false
set_option linter.unusedSimpArgs false
noncomputable def notes_New.f (x0 : Int) : Option ((Option notesLog) × Er) := (((if x0 < 1 then some true else some (decide (65536 < x0)))).bind fun c1 => (if c1 = true then some (none, xErrRange) else some ((some (⟨x0, 0, [], ([] : List (Int × Int))⟩ : notesLog)), (Er.b 0))))
noncomputable def notes_Log_Begin.f (x0 : notesLog) : Option (Int × notesLog) := some (IntKind.i64.wrap (x0.op + 1), (⟨x0.most, IntKind.i64.wrap (x0.op + 1), x0.l, x0.lost⟩ : notesLog))
def slices_Clone_api_Note_api_Note.f (x0 : List Note) : Option (List Note) := if x0.length ≤ 2932031007402 then some x0 else none
noncomputable def notes_Log_All.f (x0 : notesLog) : Option (List Note) := ((slices_Clone_api_Note_api_Note.f x0.l).bind fun r1 => some r1)
noncomputable def notes_Log_Add.f (x0 : notesLog) (x1 : List Int) (x2 : Int) : Option (Er × notesLog) := (((if x2 < 1 then some true else some (decide (9 < x2)))).bind fun c1 => (if c1 = true then some (xErrRange, (⟨x0.most, x0.op, x0.l, x0.lost⟩ : notesLog)) else (if x0.l.length + 1 ≤ 2932031007402 then (((if x0.most < ((x0.l ++ ([(⟨x0.op, x1, x2⟩ : Note)] : List Note)).length : Int) then (if 0 < ((x0.l ++ ([(⟨x0.op, x1, x2⟩ : Note)] : List Note)).length : Int) then (if 0 ≤ 1 ∧ 1 ≤ ((x0.l ++ ([(⟨x0.op, x1, x2⟩ : Note)] : List Note)).length : Int) then ((slices_Clone_api_Note_api_Note.f (((x0.l ++ ([(⟨x0.op, x1, x2⟩ : Note)] : List Note)).take (((x0.l ++ ([(⟨x0.op, x1, x2⟩ : Note)] : List Note)).length : Int)).toNat).drop (1 : Int).toNat)).bind fun r1 => some (r1, mput x0.lost (((x0.l ++ ([(⟨x0.op, x1, x2⟩ : Note)] : List Note)).getD (0 : Int).toNat default).Op) (IntKind.i64.wrap (((mget x0.lost (((x0.l ++ ([(⟨x0.op, x1, x2⟩ : Note)] : List Note)).getD (0 : Int).toNat default).Op)).getD 0) + 1)))) else none) else none) else some (x0.l ++ ([(⟨x0.op, x1, x2⟩ : Note)] : List Note), x0.lost))).bind fun (c2, c3) => some ((Er.b 0), (⟨x0.most, x0.op, c2, c3⟩ : notesLog))) else none)))
noncomputable def notes_Log_Op.f (x0 : notesLog) : Option Int := some x0.op
noncomputable def notes_Log_Of_1.f (x0 : Note) (x1 : Int) : Option Bool := some (decide (x0.Op ≠ x1))
noncomputable def slices_IndexFunc_api_Note_api_Note_at_notes_Log_Of_1.s0 (x0 : List Note) (x1_0 : Int) : Int → Option (Int ⊕ Int) := fun s1 => (if s1 < (x0.length : Int) then (if 0 ≤ s1 ∧ s1 < (x0.length : Int) then ((notes_Log_Of_1.f (x0.getD s1.toNat default) x1_0).bind fun r1 => (if r1 = true then some (.inr s1) else some (.inl (IntKind.i64.wrap (s1 + 1))))) else none) else some (.inr (-1)))
noncomputable def slices_IndexFunc_api_Note_api_Note_at_notes_Log_Of_1.f (x0 : List Note) (x1_0 : Int) : Option Int := loopO (slices_IndexFunc_api_Note_api_Note_at_notes_Log_Of_1.s0 x0 x1_0) 0
noncomputable def slices_DeleteFunc_api_Note_api_Note_at_notes_Log_Of_1.s0 (x1_0 : Int) : (Int × Int × (List Note)) → Option ((Int × Int × (List Note)) ⊕ (Int × (List Note))) := fun (s1, s2, s3) => (if s2 < (s3.length : Int) then (((if 0 ≤ s2 ∧ s2 < (s3.length : Int) then ((notes_Log_Of_1.f (s3.getD s2.toNat default) x1_0).bind fun r2 => (if r2 = true then some (s1, s3) else (if 0 ≤ s1 ∧ s1 < (s3.length : Int) then some (IntKind.i64.wrap (s1 + 1), s3.set s1.toNat (s3.getD s2.toNat default)) else none))) else none)).bind fun (c3, c4) => some (.inl (c3, IntKind.i64.wrap (s2 + 1), c4))) else some (.inr (s1, s3)))
noncomputable def slices_DeleteFunc_api_Note_api_Note_at_notes_Log_Of_1.f (x0 : List Note) (x1_0 : Int) : Option (List Note) := ((slices_IndexFunc_api_Note_api_Note_at_notes_Log_Of_1.f x0 x1_0).bind fun r1 => (if r1 = (-1) then some x0 else ((loopO (slices_DeleteFunc_api_Note_api_Note_at_notes_Log_Of_1.s0 x1_0) (r1, IntKind.i64.wrap (r1 + 1), x0)).bind fun (c1, c2) => (if 0 ≤ c1 ∧ c1 ≤ (c2.length : Int) then some (c2.take ((c1).toNat)) else none))))
noncomputable def notes_Log_Of.f (x0 : notesLog) (x1 : Int) : Option (List Note) := ((notes_Log_All.f (⟨x0.most, x0.op, x0.l, x0.lost⟩ : notesLog)).bind fun r1 => ((slices_DeleteFunc_api_Note_api_Note_at_notes_Log_Of_1.f r1 x1).bind fun r2 => some r2))
noncomputable def notes_Log_Lost.f (x0 : notesLog) (x1 : Int) : Option Int := some ((mget x0.lost x1).getD 0)
def maps_Clone_map_intint_int_int.f (x0 : List (Int × Int)) : Option (List (Int × Int)) := some x0
noncomputable def notes_Log_Clone.f (x0 : notesLog) : Option notesLog := ((slices_Clone_api_Note_api_Note.f x0.l).bind fun r1 => ((maps_Clone_map_intint_int_int.f x0.lost).bind fun r2 => some (⟨x0.most, x0.op, r1, r2⟩ : notesLog)))
noncomputable def sargassoref18_Log_Add.f (x0 : sargassoref18Log) (x1 : List Int) (x2 : Int) : Option (Int × sargassoref18Log) := (((if x2 < 1 then some true else some (decide (9 < x2)))).bind fun c1 => (if c1 = true then some (122, (⟨x0.Most, x0.Op, x0.L, x0.Gone⟩ : sargassoref18Log)) else ((((sargassoref_Notes.f x0.L).bind fun r1 => (if r1.length + 1 ≤ 2932031007402 then some (r1 ++ ([(⟨x0.Op, x1, x2⟩ : Note)] : List Note)) else none))).bind fun c2 => (((if x0.Most < (c2.length : Int) then (if 0 < (c2.length : Int) then (if x0.Gone.length + 1 ≤ 2932031007402 then (if 0 ≤ 1 ∧ 1 ≤ (c2.length : Int) then some ((c2.take ((c2.length : Int)).toNat).drop (1 : Int).toNat, x0.Gone ++ ([(c2.getD (0 : Int).toNat default)] : List Note)) else none) else none) else none) else some (c2, x0.Gone))).bind fun (c3, c4) => some (0, (⟨x0.Most, x0.Op, c3, c4⟩ : sargassoref18Log))))))
noncomputable def sargassoref18_Of.s0 (x0 : List Note) (x1 : Int) : ((List Note) × Int) → Option (((List Note) × Int) ⊕ (List Note)) := fun (s1, s2) => (if s2 < (x0.length : Int) then (((if 0 ≤ s2 ∧ s2 < (x0.length : Int) then (if ((x0.getD s2.toNat default).Op) = x1 then (if s1.length + 1 ≤ 2932031007402 then some (s1 ++ ([(x0.getD s2.toNat default)] : List Note)) else none) else some s1) else none)).bind fun c2 => some (.inl (c2, IntKind.i64.wrap (s2 + 1)))) else some (.inr s1))
noncomputable def sargassoref18_Of.f (x0 : List Note) (x1 : Int) : Option (List Note) := ((loopO (sargassoref18_Of.s0 x0 x1) ([], 0)).bind fun c1 => some c1)
end Go.Proofs.YtcpdnoochieecaaDoor.T
namespace Go.Proofs.YtcpdnoochieecaaDoor.T
open Go Go.Proofs Go.Proofs.YtcpdnoochieecaaDoor.K
set_option linter.unusedVariables false
set_option linter.unusedSimpArgs false
set_option maxRecDepth 20000 in
theorem notes_New.c (μ : Store) (w0 : World) (hμ : Agr μ w0) (x0 : Int) (hx0 : InR .i64 x0) (e7 : Value) (he7 : ErS μ e7 (Er.b 8)) (r : (Option notesLog) × Er) (H : notes_New.f x0 = some r) :
    Calls Tryd.prog 28 [.int .i64 x0].toArray w0 (fun e w' => ∃ v, e = .returned v ∧ (((r.1) = none ∧ ∃ (v1 : Value) (μ' : Store), v = .tuple #[.pointer none, v1] ∧ ErS μ' v1 (r.2) ∧ Iv w0 [] μ μ' [] w') ∨ (∃ pq : notesLog, (r.1) = some pq ∧ ∃ (gq_1 : Nat) (vp_1 : Value) (cp_1 : List Value) (gm_1 : Nat) (v1 : Value) (μ' : Store), v = .tuple #[.pointer (some ⟨gq_1, 0, none⟩), v1] ∧ InR .i64 pq.most ∧ InR .i64 pq.op ∧ Els (RNote μ') 34 pq.l cp_1 ∧ mw131 pq.lost ∧ ErS μ' v1 (r.2) ∧ Iv w0 [] μ μ' [cel gq_1 [[.int .i64 pq.most], [.int .i64 pq.op], [vp_1], [.map (some gm_1)]] 133, row 79 34 vp_1 pq.l.length cp_1, mpI gm_1 (ent kv131 vv131 pq.lost)] w'))) := by
  refine enter Tryd.func28 rfl Tryd.ntmps28 rfl fun a hA => ?_
  have hI := Iv.start hμ
  have H := bI H
  refine w_seq fun _ hN1 => w_reg <| sta hA rfl rfl fun a hA => 
    sta hA rfl rfl fun a hA => ?_
  refine o_nil <| hN1 _ _ <| w_seq fun _ hN2 => ?_
  obtain ⟨c1, hz1, Hk1⟩ := bB H
  refine w_cut (fun a w => Fr a 15 [(0, .int .i64 x0), (2, .pointer none), (3, .nilIface), (9, .bool c1)] ∧ Iv w0 [] μ μ [] w) ?_ ?_
  · have H := bI hz1
    refine w_reg <| stm hA rfl rfl fun a hA => 
      stp hA (r_lss hA rfl rfl) rfl fun a hA => 
      stm hA rfl rfl fun a hA => ?_
    rcases Bool.eq_false_or_eq_true (decide (x0 < 1)) with hc1 | hc1
    · have hc10 := hc1; obtain ⟨hc1, H⟩ := dT H hc1
      refine o_no hA rfl rfl (by rw [hc10]; simp [vb]) rfl fun a hA => 
        o_no hA rfl rfl (by rw [hc10]; simp [vb]) rfl fun a hA => 
        stp hA (r_pick_t hA rfl hc10 rfl) rfl fun a hA => ?_
      refine o_nil ?_
      cases sJ H
      exact ⟨hA.sub ⟨rfl, rfl, rfl, rfl, trivial⟩, hI⟩
    · have hc10 := hc1; obtain ⟨hc1, H⟩ := dF H hc1
      refine o_yes hA rfl rfl hc10 <| 
        stm hA rfl rfl fun a hA => 
        o_yes hA rfl rfl hc10 <| 
        stp hA (r_gtr hA rfl rfl) rfl fun a hA => 
        stp hA (r_pick_f hA rfl hc10 rfl) rfl fun a hA => ?_
      refine o_nil ?_
      cases sJ H
      exact ⟨hA.sub ⟨rfl, rfl, rfl, rfl, trivial⟩, hI⟩
  · rintro a w ⟨hA, hI⟩
    have H := Hk1
    refine w_cond hA rfl (fun hc2 => ?_) (fun hc2 => ?_)
    · have H := bT H hc2
      refine w_seq fun _ hN3 => ?_
      refine w_draw mo (by kernel_rfl) hI ?_
      refine qtp hA (fun _ hI => r_ldG Tryd.underlying47 rfl hI.agr he7 hA) rfl fun a hA => 
        qtp hA (fun _ hI => r_as hA rfl) rfl fun a hA => 
        qtp hA (fun _ hI => r_as hA rfl) rfl fun a hA => ?_
      refine q_nil fun w hI => ?_
      refine hN3 _ _ <| w_ret ?_
      obtain rfl := sJ H
      exact ret2 hA Tryd.results28 rfl rfl ⟨_, rfl, .inl ⟨rfl, e7, μ, rfl, he7, hI⟩⟩
    · have hc2 := ft hc2; have H := bF H hc2
      refine w_skip <| hN2 _ _ <| w_seq fun _ hN4 => w_reg <| stm hA rfl rfl fun a hA => 
        o_mkmap kv131 vv131 hI hA rfl fun g1 a w hI hA => 
        stp hA (r_bldS (cs := [[.int .i64 x0], [.int .i64 0], [(.slice none 0 0)], [.map (some g1)]].flatten.toArray) (pl := [(0, 1), (1, 1), (2, 1), (3, 1)]) zr133 Tryd.underlying133 ⟨rfl, sz3, rfl, sz3, rfl, sz76, rfl, sz131, trivial⟩ hA rfl ((fill_seg [] [[.int .i64 0]] [[.int .i64 x0]] [[.int .i64 0], [(.slice none 0 0)], [.map none]] rfl rfl rfl rfl rfl).trans ((fill_seg [[.int .i64 x0], [.int .i64 0], [(.slice none 0 0)]] [[.map none]] [[.map (some g1)]] [] rfl rfl rfl rfl rfl).trans (rfl)))) rfl fun a hA => 
        o_box [[.int .i64 x0], [.int .i64 0], [(.slice none 0 0)], [.map (some g1)]] hI hA rfl rfl rfl fun g2 a w hA hI hg2 => 
        sta hA rfl rfl fun a hA => 
        sta hA rfl rfl fun a hA => ?_
      refine o_nil <| hN4 _ _ <| w_ret ?_
      have hI := hI.nilRow 79 34
      obtain rfl := sJ H
      exact ret2 hA Tryd.results28 rfl rfl ⟨_, rfl, .inr ⟨_, rfl, g2, (.slice none 0 0), [], g1, .nilIface, μ, rfl, hx0, (in_lit .i64 0 rfl), (Els.nil (RE := (RNote μ)) (sz := 34)), mw_nil, erv_nil, (hI.sl [1, 0, 2] rfl)⟩⟩
set_option maxRecDepth 20000 in
theorem notes_Log_Begin.c (μ : Store) (w0 : World) (hμ : Agr μ w0) (x0 : notesLog) (vp1 : Value) (cp1 : List Value) (gm1 : Nat) (g0 : Nat) (hp1 : InR .i64 x0.most) (hp2 : InR .i64 x0.op) (hp3 : Els (RNote μ) 34 x0.l cp1) (hp4 : mw131 x0.lost) (ho0 : Its μ w0 [cel g0 [[.int .i64 x0.most], [.int .i64 x0.op], [vp1], [.map (some gm1)]] 133, row 79 34 vp1 x0.l.length cp1, mpI gm1 (ent kv131 vv131 x0.lost)]) (r : Int × notesLog) (H : notes_Log_Begin.f x0 = some r) :
    Calls Tryd.prog 29 [.pointer (some ⟨g0, 0, none⟩)].toArray w0 (fun e w' => ∃ v, e = .returned v ∧ ∃ (vp_1 : Value) (cp_1 : List Value) (gm_1 : Nat), v = .int .i64 (r.1) ∧ InR .i64 (r.1) ∧ InR .i64 (r.2).most ∧ InR .i64 (r.2).op ∧ Els (RNote μ) 34 (r.2).l cp_1 ∧ mw131 (r.2).lost ∧ Iv w0 (many [cel g0 [[.int .i64 x0.most], [.int .i64 x0.op], [vp1], [.map (some gm1)]] 133, row 79 34 vp1 x0.l.length cp1, mpI gm1 (ent kv131 vv131 x0.lost)]).foot μ μ [cel g0 [[.int .i64 ((r.2).most)], [.int .i64 ((r.2).op)], [vp_1], [.map (some gm_1)]] 133, row 79 34 vp_1 ((r.2).l).length cp_1, mpI gm_1 (ent kv131 vv131 ((r.2).lost))] w') := by
  refine enter Tryd.func29 rfl Tryd.ntmps29 rfl fun a hA => ?_
  have hI := Iv.startN hμ ho0
  have H := bI H
  refine w_seq fun _ hN1 => w_reg <| sta hA rfl rfl fun a hA => ?_
  refine o_nil <| hN1 _ _ <| w_seq fun _ hN2 => w_reg <| stm hA rfl rfl fun a hA => 
    stp hA (r_nilc hA rfl) rfl fun a hA => 
    stp hA (r_fd (k := 1) Tryd.underlying133 rfl sz3 hA rfl rfl) rfl fun a hA => 
    stp hA (r_ld1 (j := 0) [[.int .i64 x0.most]] [[vp1], [.map (some gm1)]] Tryd.underlying3 rfl hI rfl hA rfl rfl) rfl fun a hA => 
    stp hA (r_add hA rfl rfl) rfl fun a hA => 
    stp hA (r_nilc hA rfl) rfl fun a hA => 
    stp hA (r_fd (k := 1) Tryd.underlying133 rfl sz3 hA rfl rfl) rfl fun a hA => 
    o_st (j := 0) [[.int .i64 x0.most]] [[.int .i64 x0.op]] [[.int .i64 (IntKind.i64.wrap (x0.op + 1))]] [[vp1], [.map (some gm1)]] sz3 rfl rfl (fl_cons (one_one rfl) fl_nil) hI rfl hA rfl rfl rfl rfl fun w hI => ?_
  refine o_nil <| hN2 _ _ <| w_seq fun _ hN3 => w_reg <| stm hA rfl rfl fun a hA => 
    stp hA (r_nilc hA rfl) rfl fun a hA => 
    stp hA (r_fd (k := 1) Tryd.underlying133 rfl sz3 hA rfl rfl) rfl fun a hA => 
    stp hA (r_ld1 (j := 0) [[.int .i64 x0.most]] [[vp1], [.map (some gm1)]] Tryd.underlying3 rfl hI rfl hA rfl rfl) rfl fun a hA => 
    sta hA rfl rfl fun a hA => ?_
  refine o_nil <| hN3 _ _ <| w_ret ?_
  obtain rfl := sJ H
  exact ret1 hA Tryd.results29 rfl ⟨_, rfl, vp1, cp1, gm1, rfl, (wrap_in _ _), hp1, (wrap_in _ _), hp3, hp4, (hI.less (Store.le.refl _) hI.le)⟩
set_option maxRecDepth 20000 in
theorem slices_Clone_api_Note_api_Note.c (μ : Store) (w0 : World) (hμ : Agr μ w0) (x0 : List Note) (u0 : Value) (hx0 : Slc (RNote μ) 34 μ u0 x0) (r : List Note) (H : slices_Clone_api_Note_api_Note.f x0 = some r) :
    Calls Tryd.prog 69 [u0].toArray w0 (fun e w' => ∃ v, e = .returned v ∧ ∃ (v0 : Value) (c0 : List Value), v = v0 ∧ Els (RNote μ) 34 r c0 ∧ Iv w0 [] μ μ [row 79 34 v0 r.length c0] w') := by
  obtain ⟨hb, H⟩ := guard_some H
  obtain rfl := sI H
  obtain ⟨cs, hE, A, cp, rfl, h2, h3, h4, h5⟩ := hx0
  refine enter Tryd.func69 rfl Tryd.ntmps69 rfl fun a hA => ?_
  have hI := Iv.start hμ
  refine w_seq fun _ hN1 => w_reg (stp hA (r_as hA rfl) rfl fun a hA => o_nil (hN1 _ _ ?_))
  refine w_seq fun _ hN2 => w_seq fun _ hN3 => w_reg (stp hA (r_mv hA rfl) rfl fun a hA => stp hA (r_eqnil Tryd.underlying76 hA rfl rfl) rfl fun a hA => o_nil (hN3 _ _ ?_))
  refine w_cond hA rfl (fun hc => ?_) (fun hc => ?_)
  · have hx : x0 = [] := List.eq_nil_of_length_eq_zero (by
      rcases Nat.eq_zero_or_pos x0.length with h | h
      · exact h
      · rw [h4 (by omega)] at hc; cases hc)
    subst hx
    cases hE
    refine w_seq fun _ hN4 => w_reg (stp hA (r_as hA rfl) rfl fun a hA => o_nil (hN4 _ _ ?_))
    refine w_ret ?_
    have hI := hI.nilRow 79 34
    exact ret1 hA Tryd.results69 rfl ⟨_, rfl, .slice none 0 0, [], rfl, .nil, hI⟩
  · refine w_skip (hN2 _ _ ?_)
    refine w_seq fun _ hN5 => w_reg ?_
    refine o_bsl [] te79 zr79 Tryd.underlying76 hI hA rfl rfl rfl rfl (by kernel_rfl) rfl fun g a w hA hI => ?_
    refine stp hA (r_mv hA rfl) rfl fun a hA => ?_
    refine o_appL (xs := ([] : List Note)) (ys := x0) (j := 0) te79 Tryd.underlying76 hI rfl hA rfl rfl (src_sl hI.agr ⟨A, cp, rfl, h2, h3, h4, h5⟩ hE.len) hE.len (hE.ones RNote.ones) (by simp only [List.length_nil, maxLen]; omega) (by simp only [List.length_nil]; omega) rfl fun v a w hA hI => ?_
    refine stp hA (r_as hA rfl) rfl fun a hA => o_nil (hN5 _ _ (w_ret ?_))
    exact ret1 hA Tryd.results69 rfl ⟨_, rfl, v, cs, rfl, hE, hI⟩
set_option maxRecDepth 20000 in
theorem notes_Log_All.c (μ : Store) (w0 : World) (hμ : Agr μ w0) (x0 : notesLog) (vp1 : Value) (cp1 : List Value) (gm1 : Nat) (g0 : Nat) (hp1 : InR .i64 x0.most) (hp2 : InR .i64 x0.op) (hp3 : Els (RNote μ) 34 x0.l cp1) (hp4 : mw131 x0.lost) (ho0 : Its μ w0 [cel g0 [[.int .i64 x0.most], [.int .i64 x0.op], [vp1], [.map (some gm1)]] 133, row 79 34 vp1 x0.l.length cp1, mpI gm1 (ent kv131 vv131 x0.lost)]) (r : List Note) (H : notes_Log_All.f x0 = some r) :
    Calls Tryd.prog 31 [.pointer (some ⟨g0, 0, none⟩)].toArray w0 (fun e w' => ∃ v, e = .returned v ∧ ∃ (v0 : Value) (c0 : List Value), v = v0 ∧ Els (RNote μ) 34 r c0 ∧ Iv w0 (many [cel g0 [[.int .i64 x0.most], [.int .i64 x0.op], [vp1], [.map (some gm1)]] 133, row 79 34 vp1 x0.l.length cp1, mpI gm1 (ent kv131 vv131 x0.lost)]).foot μ μ [row 79 34 v0 r.length c0, cel g0 [[.int .i64 x0.most], [.int .i64 x0.op], [vp1], [.map (some gm1)]] 133, row 79 34 vp1 x0.l.length cp1, mpI gm1 (ent kv131 vv131 x0.lost)] w') := by
  refine enter Tryd.func31 rfl Tryd.ntmps31 rfl fun a hA => ?_
  have hI := Iv.startN hμ ho0
  have H := bI H
  refine w_seq fun _ hN1 => w_reg <| sta hA rfl rfl fun a hA => ?_
  refine o_nil <| hN1 _ _ <| w_seq fun _ hN2 => w_reg <| stm hA rfl rfl fun a hA => 
    stp hA (r_nilc hA rfl) rfl fun a hA => 
    stp hA (r_fd (k := 2) Tryd.underlying133 rfl sz76 hA rfl rfl) rfl fun a hA => 
    stp hA (r_ld1 (j := 0) [[.int .i64 x0.most], [.int .i64 x0.op]] [[.map (some gm1)]] Tryd.underlying76 rfl hI rfl hA rfl rfl) rfl fun a hA => ?_
  obtain ⟨r1, hr1, H⟩ := bB H
  refine o_callW (fun w v w' => ∃ (v0 : Value) (c0 : List Value), v = v0 ∧ Els (RNote μ) 34 r1 c0 ∧ Iv w [] μ μ [row 79 34 v0 r1.length c0] w') cf69 hA rfl ((by obtain ⟨μ1, hle1, hsv1, hI⟩ := hI.freezeRow 1 rfl; have hS1 : Slc (RNote μ1) 34 μ1 vp1 x0.l := ⟨_, hp3, hsv1⟩; exact (slices_Clone_api_Note_api_Note.c μ1 _ hI.agr x0.l vp1 hS1 r1 hr1).mono fun _ _ ⟨v, he, b0, b1, hv, f0, hi⟩ => ⟨v, he, b0, b1, hv, f0, hi.low hle1⟩)) rfl fun v1 a w hz1 hA => ?_
  obtain ⟨_, cs1, rfl, hE1, hi1⟩ := hz1
  have hI := hI.call hi1
  refine sta hA rfl rfl fun a hA => ?_
  refine o_nil <| hN2 _ _ <| w_ret ?_
  obtain rfl := sJ H
  exact ret1 hA Tryd.results31 rfl ⟨_, rfl, v1, cs1, rfl, hE1, (hI.less (Store.le.refl _) hI.le)⟩
set_option maxRecDepth 20000 in
theorem notes_Log_Add.c (μ : Store) (w0 : World) (hμ : Agr μ w0) (x0 : notesLog) (vp1 : Value) (cp1 : List Value) (gm1 : Nat) (g0 : Nat) (hp1 : InR .i64 x0.most) (hp2 : InR .i64 x0.op) (hp3 : Els (RNote μ) 34 x0.l cp1) (hp4 : mw131 x0.lost) (ho0 : Its μ w0 [cel g0 [[.int .i64 x0.most], [.int .i64 x0.op], [vp1], [.map (some gm1)]] 133, row 79 34 vp1 x0.l.length cp1, mpI gm1 (ent kv131 vv131 x0.lost)]) (x1 : List Int) (hx1 : Arr .u8 32 x1) (x2 : Int) (hx2 : InR .i64 x2) (e7 : Value) (he7 : ErS μ e7 (Er.b 8)) (r : Er × notesLog) (H : notes_Log_Add.f x0 x1 x2 = some r) :
    Calls Tryd.prog 30 [.pointer (some ⟨g0, 0, none⟩), .agg [av .u8 32 x1].flatten.toArray, .int .i64 x2].toArray w0 (fun e w' => ∃ v, e = .returned v ∧ ∃ (v0 : Value) (vp_1 : Value) (cp_1 : List Value) (gm_1 : Nat) (μ' : Store), v = v0 ∧ ErS μ' v0 (r.1) ∧ InR .i64 (r.2).most ∧ InR .i64 (r.2).op ∧ Els (RNote μ') 34 (r.2).l cp_1 ∧ mw131 (r.2).lost ∧ Iv w0 (many [cel g0 [[.int .i64 x0.most], [.int .i64 x0.op], [vp1], [.map (some gm1)]] 133, row 79 34 vp1 x0.l.length cp1, mpI gm1 (ent kv131 vv131 x0.lost)]).foot μ μ' [cel g0 [[.int .i64 ((r.2).most)], [.int .i64 ((r.2).op)], [vp_1], [.map (some gm_1)]] 133, row 79 34 vp_1 ((r.2).l).length cp_1, mpI gm_1 (ent kv131 vv131 ((r.2).lost))] w') := by
  refine enter Tryd.func30 rfl Tryd.ntmps30 rfl fun a hA => ?_
  have hI := Iv.startN hμ ho0
  have H := bI H
  refine w_seq fun _ hN1 => w_reg <| o_box [av .u8 32 x1] hI hA rfl rfl rfl fun g1 a w hA hI hg1 => 
    sta hA rfl rfl fun a hA => ?_
  refine o_nil <| hN1 _ _ <| w_seq fun _ hN2 => ?_
  obtain ⟨c1, hz1, Hk1⟩ := bB H
  refine w_cut (fun a w => Fr a 62 [(0, .pointer (some ⟨g0, 0, none⟩)), (2, .int .i64 x2), (4, .pointer (some ⟨g1, 0, none⟩)), (6, .nilIface), (12, .bool c1)] ∧ Iv w0 (many [cel g0 [[.int .i64 x0.most], [.int .i64 x0.op], [vp1], [.map (some gm1)]] 133, row 79 34 vp1 x0.l.length cp1, mpI gm1 (ent kv131 vv131 x0.lost)]).foot μ μ [cel g1 [av .u8 32 x1] 26, cel g0 [[.int .i64 x0.most], [.int .i64 x0.op], [vp1], [.map (some gm1)]] 133, row 79 34 vp1 x0.l.length cp1, mpI gm1 (ent kv131 vv131 x0.lost)] w) ?_ ?_
  · have H := bI hz1
    refine w_reg <| stm hA rfl rfl fun a hA => 
      stp hA (r_lss hA rfl rfl) rfl fun a hA => 
      stm hA rfl rfl fun a hA => ?_
    rcases Bool.eq_false_or_eq_true (decide (x2 < 1)) with hc1 | hc1
    · have hc10 := hc1; obtain ⟨hc1, H⟩ := dT H hc1
      refine o_no hA rfl rfl (by rw [hc10]; simp [vb]) rfl fun a hA => 
        o_no hA rfl rfl (by rw [hc10]; simp [vb]) rfl fun a hA => 
        stp hA (r_pick_t hA rfl hc10 rfl) rfl fun a hA => ?_
      refine o_nil ?_
      cases sJ H
      exact ⟨hA.sub ⟨rfl, rfl, rfl, rfl, rfl, trivial⟩, hI⟩
    · have hc10 := hc1; obtain ⟨hc1, H⟩ := dF H hc1
      refine o_yes hA rfl rfl hc10 <| 
        stm hA rfl rfl fun a hA => 
        o_yes hA rfl rfl hc10 <| 
        stp hA (r_gtr hA rfl rfl) rfl fun a hA => 
        stp hA (r_pick_f hA rfl hc10 rfl) rfl fun a hA => ?_
      refine o_nil ?_
      cases sJ H
      exact ⟨hA.sub ⟨rfl, rfl, rfl, rfl, rfl, trivial⟩, hI⟩
  · rintro a w ⟨hA, hI⟩
    have H := Hk1
    refine w_cond hA rfl (fun hc2 => ?_) (fun hc2 => ?_)
    · have H := bT H hc2
      refine w_seq fun _ hN3 => w_reg <| stp hA (r_ldG Tryd.underlying47 rfl hI.agr he7 hA) rfl fun a hA => 
        sta hA rfl rfl fun a hA => ?_
      refine o_nil <| hN3 _ _ <| w_ret ?_
      obtain rfl := sJ H
      exact ret1 hA Tryd.results30 rfl ⟨_, rfl, e7, vp1, cp1, gm1, μ, rfl, he7, hp1, hp2, hp3, hp4, (hI.sl [1, 2, 3] rfl)⟩
    · have hc2 := ft hc2; have H := bF H hc2
      refine w_skip <| hN2 _ _ <| w_seq fun _ hN4 => ?_
      refine w_any [13, 16] mo hI fun w hI => ?_
      refine gE 0 hA rfl (.inr hI) (fun _ => r_mv hA rfl) fun a hA => ?_
      refine gE 1 hA rfl (.inr hI) (fun _ => r_mv hA rfl) fun a hA => ?_
      refine gE 2 hA rfl (.inr hI) (fun _ => r_nilc hA rfl) fun a hA => ?_
      refine gE 3 hA rfl (.inr hI) (fun _ => r_fd (k := 2) Tryd.underlying133 rfl sz76 hA rfl rfl) fun a hA => ?_
      refine gT 4 hA rfl hI (fun w hI => r_ld1 (j := 1) [[.int .i64 x0.most], [.int .i64 x0.op]] [[.map (some gm1)]] Tryd.underlying76 rfl hI rfl hA rfl rfl) fun a hA => ?_
      refine gE 5 hA rfl (.inr hI) (fun _ => r_mv hA rfl) fun a hA => ?_
      refine gE 6 hA rfl (.inr hI) (fun _ => r_nilc hA rfl) fun a hA => ?_
      refine gE 7 hA rfl (.inr hI) (fun _ => r_fd (k := 1) Tryd.underlying133 rfl sz3 hA rfl rfl) fun a hA => ?_
      refine gT 8 hA rfl hI (fun w hI => r_ld1 (j := 1) [[.int .i64 x0.most]] [[vp1], [.map (some gm1)]] Tryd.underlying3 rfl hI rfl hA rfl rfl) fun a hA => ?_
      refine gT 9 hA rfl hI (fun w hI => r_ldA (j := 0) [] [av .u8 32 x1] [] Tryd.underlying26 rfl sz26 rfl hI rfl hA rfl rfl) fun a hA => ?_
      refine gE 10 hA rfl (.inr hI) (fun _ => r_mv hA rfl) fun a hA => ?_
      refine gF 11 rfl ?_
      refine stp hA (r_bldS (cs := [[.int .i64 x0.op], av .u8 32 x1, [.int .i64 x2]].flatten.toArray) (pl := [(0, 1), (1, 32), (33, 1)]) zr79 Tryd.underlying79 ⟨rfl, sz3, rfl, sz26, rfl, sz3, trivial⟩ hA rfl (by kernel_rfl)) rfl fun a hA => ?_
      refine o_nil <| ⟨(.inr hI), ?_⟩
      refine gF 12 rfl ?_
      have hE1 : Els (RNote μ) 34 ([(⟨x0.op, x1, x2⟩ : Note)] : List Note) _ := (Els.cons (c := [[.int .i64 x0.op], av .u8 32 x1, [.int .i64 x2]].flatten) ⟨rfl, ⟨hp2, hx1, hx2⟩⟩ rfl Els.nil)
      refine o_bsl ([[.int .i64 x0.op], av .u8 32 x1, [.int .i64 x2]].flatten ++ ([])) te79 zr79 Tryd.underlying76 hI hA rfl rfl rfl rfl (by kernel_rfl) rfl fun g2 a w hA hI => ?_
      generalize hcs : ([[.int .i64 x0.op], av .u8 32 x1, [.int .i64 x2]].flatten ++ ([]) : List Value) = cs1 at hE1 hI
      clear hcs
      refine o_nil <| ⟨(.inr (hI.sl [1, 2, 3, 4] rfl)), ?_⟩
      refine gF 13 rfl ?_
      obtain ⟨hb1, H⟩ := bG H
      have hE3 := hp3.app hE1
      refine o_appG (xs := (x0.l : List Note)) (ys := (([(⟨x0.op, x1, x2⟩ : Note)] : List Note) : List Note)) (M := 2932031007402) 3 te79 Tryd.underlying76 hI rfl hA rfl rfl (src_row hI (j := 0) rfl) hE1.len (hE1.ones RNote.ones) hb1 rfl fun v1 a w hA hI => ?_
      refine o_nil <| ⟨(.inl (by kernel_rfl)), ?_⟩
      refine gE 14 hA rfl (.inl (by kernel_rfl)) (fun _ => r_nilc hA rfl) fun a hA => ?_
      refine gE 15 hA rfl (.inl (by kernel_rfl)) (fun _ => r_fd (k := 2) Tryd.underlying133 rfl sz76 hA rfl rfl) fun a hA => ?_
      refine gF 16 rfl ?_
      have hone := own_one hI (j := 3) rfl
      have hcel := own_cell hI (j := 3) rfl
      refine o_st (j := 2) [[.int .i64 x0.most], [.int .i64 x0.op]] [[vp1]] [[v1]] [[.map (some gm1)]] sz76 rfl rfl (by intro c hc; simp at hc; subst hc; exact hone) hI rfl hA rfl rfl hcel rfl fun w hI => ?_
      refine o_nil <| ⟨(.inl (by kernel_rfl)), ?_⟩
      refine gN <| hN4 _ _ ?_
      obtain ⟨⟨c2, c3⟩, hz2, Hk2⟩ := bB H
      refine w_cut (fun a w => ∃ (μ1 : Store) (vvc2 : Value) (ccc2 : List Value), μ.le μ1 ∧ Els (RNote μ1) 34 c2 ccc2 ∧ mw131 c3 ∧ Fr a 62 [(6, .nilIface)] ∧ Iv w0 (many [cel g0 [[.int .i64 x0.most], [.int .i64 x0.op], [vp1], [.map (some gm1)]] 133, row 79 34 vp1 x0.l.length cp1, mpI gm1 (ent kv131 vv131 x0.lost)]).foot μ μ1 [row 79 34 vvc2 c2.length ccc2, row 79 34 (.slice (some ⟨g2, 0, none⟩) 1 1) ([(⟨x0.op, x1, x2⟩ : Note)] : List Note).length cs1, cel g1 [av .u8 32 x1] 26, cel g0 [[.int .i64 x0.most], [.int .i64 x0.op], [vvc2], [.map (some gm1)]] 133, mpI gm1 (ent kv131 vv131 c3)] w) ?_ ?_
      · have H := bI hz2
        refine w_seq fun _ hN5 => ?_
        refine w_draw mo (by kernel_rfl) hI ?_
        refine qtp hA (fun _ hI => r_mv hA rfl) rfl fun a hA => 
          qtp hA (fun _ hI => r_nilc hA rfl) rfl fun a hA => 
          qtp hA (fun _ hI => r_fd (k := 2) Tryd.underlying133 rfl sz76 hA rfl rfl) rfl fun a hA => 
          qtp hA (fun _ hI => r_ld1 (j := 2) [[.int .i64 x0.most], [.int .i64 x0.op]] [[.map (some gm1)]] Tryd.underlying76 rfl hI rfl hA rfl rfl) rfl fun a hA => 
          qtp hA (fun _ hI => r_rlen (xs := 0) Tryd.underlying76 hI (j := 3) rfl hA rfl) rfl fun a hA => 
          qtp hA (fun _ hI => r_mv hA rfl) rfl fun a hA => 
          qtp hA (fun _ hI => r_nilc hA rfl) rfl fun a hA => 
          qtp hA (fun _ hI => r_fd (k := 0) Tryd.underlying133 rfl sz3 hA rfl rfl) rfl fun a hA => 
          qtp hA (fun _ hI => r_ld1 (j := 2) [] [[.int .i64 x0.op], [v1], [.map (some gm1)]] Tryd.underlying3 rfl hI rfl hA rfl rfl) rfl fun a hA => 
          qtp hA (fun _ hI => r_gtr hA rfl rfl) rfl fun a hA => ?_
        refine q_nil fun w hI => ?_
        refine hN5 _ _ <| w_cond hA rfl (fun hc3 => ?_) (fun hc3 => ?_)
        · obtain ⟨hc3, H⟩ := dT H hc3
          refine w_seq fun _ hN6 => ?_
          refine w_any [13] mo hI fun w hI => ?_
          refine gE 0 hA rfl (.inr hI) (fun _ => r_mv hA rfl) fun a hA => ?_
          refine gE 1 hA rfl (.inr hI) (fun _ => r_nilc hA rfl) fun a hA => ?_
          refine gE 2 hA rfl (.inr hI) (fun _ => r_fd (k := 3) Tryd.underlying133 rfl sz131 hA rfl rfl) fun a hA => ?_
          refine gT 3 hA rfl hI (fun w hI => r_ld1 (j := 2) [[.int .i64 x0.most], [.int .i64 x0.op], [v1]] [] Tryd.underlying131 rfl hI rfl hA rfl rfl) fun a hA => ?_
          refine gE 4 hA rfl (.inr hI) (fun _ => r_mv hA rfl) fun a hA => ?_
          refine gE 5 hA rfl (.inr hI) (fun _ => r_nilc hA rfl) fun a hA => ?_
          refine gE 6 hA rfl (.inr hI) (fun _ => r_fd (k := 2) Tryd.underlying133 rfl sz76 hA rfl rfl) fun a hA => ?_
          refine gT 7 hA rfl hI (fun w hI => r_ld1 (j := 2) [[.int .i64 x0.most], [.int .i64 x0.op]] [[.map (some gm1)]] Tryd.underlying76 rfl hI rfl hA rfl rfl) fun a hA => ?_
          obtain ⟨hb2, H⟩ := bG H
          refine gT 8 hA rfl hI (fun w hI => r_rix (j := 3) Tryd.underlying76 sz79 hI rfl hA rfl rfl (by decide) hb2) fun a hA => ?_
          refine gE 9 hA rfl (.inr hI) (fun _ => r_fd (k := so v1 + (0 : Int).toNat * 34) Tryd.underlying79 rfl sz3 hA rfl rfl) fun a hA => ?_
          obtain ⟨A1, _, B1, hc4, hl1, _, he1⟩ := Els.at_ hE3 (getD_some default (by decide) hb2)
          obtain ⟨rfl, hw1⟩ := he1
          refine gT 10 hA rfl hI (fun w hI => r_rldQ (j := 3) (q := (0 : Int).toNat * 34) (off := 0) A1 B1 [] [av .u8 32 (((x0.l ++ ([(⟨x0.op, x1, x2⟩ : Note)] : List Note)).getD (0 : Int).toNat default).Tx), [.int .i64 (((x0.l ++ ([(⟨x0.op, x1, x2⟩ : Note)] : List Note)).getD (0 : Int).toNat default).Reason)]] hc4 hl1 rfl Tryd.underlying3 rfl hI rfl hA rfl) fun a hA => ?_
          refine gT 11 hA rfl hI (fun w hI => r_look (j := 4) kn131 Tryd.underlying131 mz131 hp4 hw1.1 hI rfl hA rfl rfl) fun a hA => ?_
          refine gE 12 hA rfl (.inr hI) (fun _ => r_add hA rfl rfl) fun a hA => ?_
          refine gF 13 rfl ?_
          refine o_mput (j := 4) (k := (((x0.l ++ ([(⟨x0.op, x1, x2⟩ : Note)] : List Note)).getD (0 : Int).toNat default).Op)) (IntKind.i64.wrap (((mget x0.lost (((x0.l ++ ([(⟨x0.op, x1, x2⟩ : Note)] : List Note)).getD (0 : Int).toNat default).Op)).getD 0) + 1)) kn131 Tryd.underlying131 hp4 hw1.1 hI rfl hA rfl rfl rfl fun w hI => ?_
          refine o_nil <| ⟨(.inl (by kernel_rfl)), ?_⟩
          refine gN <| hN6 _ _ <| w_reg <| stm hA rfl rfl fun a hA => 
            stm hA rfl rfl fun a hA => 
            stp hA (r_nilc hA rfl) rfl fun a hA => 
            stp hA (r_fd (k := 2) Tryd.underlying133 rfl sz76 hA rfl rfl) rfl fun a hA => 
            stp hA (r_ld1 (j := 2) [[.int .i64 x0.most], [.int .i64 x0.op]] [[.map (some gm1)]] Tryd.underlying76 rfl hI rfl hA rfl rfl) rfl fun a hA => ?_
          obtain ⟨μ2, hle2, hsv2, hI⟩ := hI.freezeRow 3 rfl
          have hS1 : Slc (RNote μ2) 34 μ2 v1 (x0.l ++ ([(⟨x0.op, x1, x2⟩ : Note)] : List Note)) := ⟨_, hE3, hsv2⟩
          obtain ⟨hb3, H⟩ := bG H
          obtain ⟨v2, hS2, hr1⟩ := r_sl (P := Tryd.prog) (t := 76) (x := .tmp 57) (l := (some (.const (.int .i64 1)))) (h := none) (i := 1) (j := ((x0.l ++ ([(⟨x0.op, x1, x2⟩ : Note)] : List Note)).length : Int)) Tryd.underlying76 sz79 hS1 hA rfl rfl rfl (by have hq := hb3; omega) (by have hq := hb3; omega) (by have hq := hb3; omega)
          refine stp hA (hr1 _ _ _ _ _ _) rfl fun a hA => ?_
          obtain ⟨r1, hr2, H⟩ := bB H
          refine o_call _ cf69 hA rfl (slices_Clone_api_Note_api_Note.c μ2 _ hI.agr (((x0.l ++ ([(⟨x0.op, x1, x2⟩ : Note)] : List Note)).take (((x0.l ++ ([(⟨x0.op, x1, x2⟩ : Note)] : List Note)).length : Int)).toNat).drop (1 : Int).toNat) v2 hS2 r1 hr2) rfl fun v3 a w hz3 hA => ?_
          obtain ⟨_, cs4, rfl, hE4, hi1⟩ := hz3
          have hI := hI.call hi1
          refine stp hA (r_nilc hA rfl) rfl fun a hA => 
            stp hA (r_fd (k := 2) Tryd.underlying133 rfl sz76 hA rfl rfl) rfl fun a hA => ?_
          have hone := own_one hI (j := 0) rfl
          have hcel := own_cell hI (j := 0) rfl
          refine o_st (j := 3) [[.int .i64 x0.most], [.int .i64 x0.op]] [[v1]] [[v3]] [[.map (some gm1)]] sz76 rfl rfl (by intro c hc; simp at hc; subst hc; exact hone) hI rfl hA rfl rfl hcel rfl fun w hI => ?_
          refine o_nil ?_
          cases sJ H
          exact ⟨μ2, v3, cs4, hle2, hE4, (MW.put hp4 hw1.1 (wrap_in _ _)), hA.sub ⟨rfl, trivial⟩, hI⟩
        · obtain ⟨hc3, H⟩ := dF H hc3
          refine w_skip ?_
          cases sJ H
          exact ⟨μ, v1, cp1 ++ cs1, (Store.le.refl _), hE3, hp4, hA.sub ⟨rfl, trivial⟩, (hI.sl [3, 0, 1, 2, 4] rfl)⟩
      · rintro a w ⟨μ1, vvc2, ccc2, hle1, wc2, wc3, hA, hI⟩
        have H := Hk2
        refine w_seq fun _ hN7 => w_reg <| sta hA rfl rfl fun a hA => ?_
        refine o_nil <| hN7 _ _ <| w_ret ?_
        obtain rfl := sJ H
        exact ret1 hA Tryd.results30 rfl ⟨_, rfl, .nilIface, vvc2, ccc2, gm1, μ1, rfl, erv_nil, hp1, hp2, wc2, wc3, (hI.sl [3, 0, 4] rfl)⟩
set_option maxRecDepth 20000 in
theorem notes_Log_Op.c (μ : Store) (w0 : World) (hμ : Agr μ w0) (x0 : notesLog) (vp1 : Value) (cp1 : List Value) (gm1 : Nat) (g0 : Nat) (hp1 : InR .i64 x0.most) (hp2 : InR .i64 x0.op) (hp3 : Els (RNote μ) 34 x0.l cp1) (hp4 : mw131 x0.lost) (ho0 : Its μ w0 [cel g0 [[.int .i64 x0.most], [.int .i64 x0.op], [vp1], [.map (some gm1)]] 133, row 79 34 vp1 x0.l.length cp1, mpI gm1 (ent kv131 vv131 x0.lost)]) (r : Int) (H : notes_Log_Op.f x0 = some r) :
    Calls Tryd.prog 32 [.pointer (some ⟨g0, 0, none⟩)].toArray w0 (fun e w' => ∃ v, e = .returned v ∧ v = .int .i64 r ∧ InR .i64 r ∧ Iv w0 (many [cel g0 [[.int .i64 x0.most], [.int .i64 x0.op], [vp1], [.map (some gm1)]] 133, row 79 34 vp1 x0.l.length cp1, mpI gm1 (ent kv131 vv131 x0.lost)]).foot μ μ [cel g0 [[.int .i64 x0.most], [.int .i64 x0.op], [vp1], [.map (some gm1)]] 133, row 79 34 vp1 x0.l.length cp1, mpI gm1 (ent kv131 vv131 x0.lost)] w') := by
  refine enter Tryd.func32 rfl Tryd.ntmps32 rfl fun a hA => ?_
  have hI := Iv.startN hμ ho0
  have H := bI H
  refine w_seq fun _ hN1 => w_reg <| sta hA rfl rfl fun a hA => ?_
  refine o_nil <| hN1 _ _ <| w_seq fun _ hN2 => w_reg <| stm hA rfl rfl fun a hA => 
    stp hA (r_nilc hA rfl) rfl fun a hA => 
    stp hA (r_fd (k := 1) Tryd.underlying133 rfl sz3 hA rfl rfl) rfl fun a hA => 
    stp hA (r_ld1 (j := 0) [[.int .i64 x0.most]] [[vp1], [.map (some gm1)]] Tryd.underlying3 rfl hI rfl hA rfl rfl) rfl fun a hA => 
    sta hA rfl rfl fun a hA => ?_
  refine o_nil <| hN2 _ _ <| w_ret ?_
  obtain rfl := sJ H
  exact ret1 hA Tryd.results32 rfl ⟨_, rfl, rfl, hp2, (hI.less (Store.le.refl _) hI.le)⟩
set_option maxRecDepth 20000 in
theorem notes_Log_Of_1.c (μ : Store) (w0 : World) (hμ : Agr μ w0) (x0 : Note) (hx0 : NoteW μ x0) (x1 : Int) (gx1 : Nat) (hwx1 : InR .i64 x1) (hax1 : At μ gx1 0 [[.int .i64 x1]].flatten) (r : Bool) (H : notes_Log_Of_1.f x0 x1 = some r) :
    Calls Tryd.prog 71 [.agg [[.int .i64 x0.Op], av .u8 32 x0.Tx, [.int .i64 x0.Reason]].flatten.toArray, .pointer (some ⟨gx1, 0, none⟩)].toArray w0 (fun e w' => ∃ v, e = .returned v ∧ v = .bool r ∧ True ∧ Iv w0 [] μ μ [] w') := by
  refine enter Tryd.func71 rfl Tryd.ntmps71 rfl fun a hA => ?_
  have hI := Iv.start hμ
  have H := bI H
  refine w_seq fun _ hN1 => w_reg <| o_box [[.int .i64 x0.Op], av .u8 32 x0.Tx, [.int .i64 x0.Reason]] hI hA rfl rfl rfl fun g1 a w hA hI hg1 => 
    sta hA rfl rfl fun a hA => ?_
  refine o_nil <| hN1 _ _ <| w_seq fun _ hN2 => w_reg <| stp hA (r_fd (k := 0) Tryd.underlying79 rfl sz3 hA rfl rfl) rfl fun a hA => 
    stp hA (r_ld1 (j := 0) [] [av .u8 32 x0.Tx, [.int .i64 x0.Reason]] Tryd.underlying3 rfl hI rfl hA rfl rfl) rfl fun a hA => 
    stp hA (r_ldm1 [] [] Tryd.underlying3 rfl hI.agr hax1 hA rfl rfl) rfl fun a hA => 
    stp hA (r_neq hA rfl rfl) rfl fun a hA => 
    sta hA rfl rfl fun a hA => ?_
  refine o_nil <| hN2 _ _ <| w_ret ?_
  obtain rfl := sJ H
  exact ret1 hA Tryd.results71 rfl ⟨_, rfl, rfl, trivial, hI.forget0⟩
set_option maxRecDepth 20000 in
theorem slices_IndexFunc_api_Note_api_Note_at_notes_Log_Of_1.c (μ : Store) (w0 : World) (hμ : Agr μ w0) (x0 : List Note) (u0 : Value) (hx0 : Slc (RNote μ) 34 μ u0 x0) (x1_0 : Int) (gx1_0 : Nat) (hwx1_0 : InR .i64 x1_0) (hax1_0 : At μ gx1_0 0 [[.int .i64 x1_0]].flatten) (r : Int) (H : slices_IndexFunc_api_Note_api_Note_at_notes_Log_Of_1.f x0 x1_0 = some r) :
    Calls Tryd.prog 96 [u0, .func (.func 71) #[] [.pointer (some ⟨gx1_0, 0, none⟩)].toArray].toArray w0 (fun e w' => ∃ v, e = .returned v ∧ v = .int .i64 r ∧ InR .i64 r ∧ Iv w0 [] μ μ [] w') := by
  refine enter Tryd.func96 rfl Tryd.ntmps96 rfl fun a hA => ?_
  have hI := Iv.start hμ
  have H := bI H
  refine w_seq fun _ hN1 => w_reg <| sta hA rfl rfl fun a hA => ?_
  refine o_nil <| hN1 _ _ <| w_seq fun _ hN2 => w_seq fun _ hN3 => w_reg <| stm hA rfl rfl fun a hA => ?_
  obtain ⟨_, hsl1⟩ := Slc.sv hx0
  refine stp hA (r_slen Tryd.underlying76 hsl1 hA rfl) rfl fun a hA => 
    stm hA rfl rfl fun a hA => ?_
  refine o_nil <| hN3 _ _ <| w_block ?_
  obtain ⟨z1, hz1, Hk1⟩ := bind_some H
  obtain ⟨n1, hn1⟩ := loopO_some hz1
  refine w_loop (fun n a w => ∃ (s1 : Int), loopN (slices_IndexFunc_api_Note_api_Note_at_notes_Log_Of_1.s0 x0 x1_0) n s1 = some z1 ∧ InR .i64 s1 ∧ Fr a 19 [(0, u0), (1, .func (.func 71) #[] [.pointer (some ⟨gx1_0, 0, none⟩)].toArray), (4, .int .i64 0), (7, .int .i64 (x0.length : Int)), (8, .int .i64 s1)] ∧ Iv w0 [] μ μ [] w) n1 ⟨0, hn1, (in_lit .i64 0 rfl), hA.sub ⟨rfl, rfl, rfl, rfl, rfl, trivial⟩, hI⟩ ?_
  clear hA hI
  rintro n a w ⟨s1, hn1, ws1, hA, hI⟩
  obtain ⟨m1, rfl, H⟩ := loopN_bind hn1
  clear hn1
  refine w_seq fun _ hN4 => w_reg <| stp hA (r_lss hA rfl rfl) rfl fun a hA => ?_
  refine o_nil <| hN4 _ _ <| w_seq fun _ hN5 => w_cond hA rfl (fun hc1 => ?_) (fun hc1 => ?_)
  · obtain ⟨hc1, H⟩ := dT H hc1
    refine w_skip <| hN5 _ _ <| w_seq fun _ hN6 => w_block <| w_seq fun _ hN7 => w_reg <| stm hA rfl rfl fun a hA => 
      sta hA rfl rfl fun a hA => ?_
    refine o_nil <| hN7 _ _ <| w_seq fun _ hN8 => w_reg <| stm hA rfl rfl fun a hA => 
      stm hA rfl rfl fun a hA => 
      stm hA rfl rfl fun a hA => ?_
    obtain ⟨hb1, H⟩ := bG H
    obtain ⟨_, he1, _, hat1⟩ := Slc.elem hx0 (getD_some default hb1.1 hb1.2)
    obtain ⟨rfl, hw1⟩ := he1
    obtain ⟨_, hsl2⟩ := Slc.sv hx0
    refine stp hA (r_six Tryd.underlying76 sz79 hsl2 hA rfl rfl hb1.1 hb1.2) rfl fun a hA => 
      stp hA (r_ldmA [] [[.int .i64 ((x0.getD s1.toNat default).Op)], av .u8 32 ((x0.getD s1.toNat default).Tx), [.int .i64 ((x0.getD s1.toNat default).Reason)]] [] Tryd.underlying79 rfl sz79 rfl hI.agr hat1 hA rfl rfl) rfl fun a hA => ?_
    obtain ⟨r1, hr1, H⟩ := bB H
    refine o_callpcc (u := .bool r1) cf71 hA rfl rfl hI (notes_Log_Of_1.c μ _ hI.agr (x0.getD s1.toNat default) ⟨hw1.1, hw1.2.1, hw1.2.2⟩ x1_0 gx1_0 hwx1_0 hax1_0 r1 hr1) rfl fun a w hz2 hI hA => ?_
    refine o_nil <| hN8 _ _ <| w_cond hA rfl (fun hc2 => ?_) (fun hc2 => ?_)
    · have H := bT H hc2
      refine w_seq fun _ hN9 => w_reg <| stm hA rfl rfl fun a hA => 
        sta hA rfl rfl fun a hA => ?_
      refine o_nil <| hN9 _ _ <| w_ret ?_
      have H : some s1 = some z1 := H
      obtain rfl := sI H
      have H := Hk1
      obtain rfl := sJ H
      exact ret1 hA Tryd.results96 rfl ⟨_, rfl, rfl, ws1, hI.forget0⟩
    · have hc2 := ft hc2; have H := bF H hc2
      refine w_skip <| hN6 _ _ <| w_reg <| stp hA (r_add hA rfl rfl) rfl fun a hA => 
        stm hA rfl rfl fun a hA => ?_
      refine o_nil <| ⟨m1, Nat.lt_succ_self _, IntKind.i64.wrap (s1 + 1), H, (wrap_in _ _), hA.sub ⟨rfl, rfl, rfl, rfl, rfl, trivial⟩, hI⟩
  · obtain ⟨hc1, H⟩ := dF H hc1
    refine w_exit rfl <| hN2 _ _ <| w_seq fun _ hN10 => w_reg <| sta hA rfl rfl fun a hA => ?_
    refine o_nil <| hN10 _ _ <| w_ret ?_
    have H : some (-1) = some z1 := H
    obtain rfl := sI H
    have H := Hk1
    obtain rfl := sJ H
    exact ret1 hA Tryd.results96 rfl ⟨_, rfl, rfl, (in_lit .i64 (-1) rfl), hI.forget0⟩
set_option maxRecDepth 20000 in
theorem slices_DeleteFunc_api_Note_api_Note_at_notes_Log_Of_1.c (μ : Store) (w0 : World) (hμ : Agr μ w0) (x0 : List Note) (u0 : Value) (k0 : List Value) (hx0 : Els (RNote μ) 34 x0 k0) (ho0 : RowOK μ w0 79 34 u0 x0.length k0) (x1_0 : Int) (gx1_0 : Nat) (hwx1_0 : InR .i64 x1_0) (hax1_0 : At μ gx1_0 0 [[.int .i64 x1_0]].flatten) (r : List Note) (H : slices_DeleteFunc_api_Note_api_Note_at_notes_Log_Of_1.f x0 x1_0 = some r) :
    Calls Tryd.prog 70 [u0, .func (.func 71) #[] [.pointer (some ⟨gx1_0, 0, none⟩)].toArray].toArray w0 (fun e w' => ∃ v, e = .returned v ∧ ∃ (v0 : Value) (c0 : List Value), v = v0 ∧ Els (RNote μ) 34 r c0 ∧ Iv w0 (row 79 34 u0 x0.length k0).foot μ μ [row 79 34 v0 r.length c0] w') := by
  refine enter Tryd.func70 rfl Tryd.ntmps70 rfl fun a hA => ?_
  have hI := ho0.start hμ
  have H := bI H
  refine w_seq fun _ hN1 => w_reg <| sta hA rfl rfl fun a hA => ?_
  refine o_nil <| hN1 _ _ <| w_seq fun _ hN2 => w_reg <| stm hA rfl rfl fun a hA => 
    stm hA rfl rfl fun a hA => ?_
  obtain ⟨r1, hr1, H⟩ := bB H
  refine o_callp (u := .int .i64 r1) cf96 hA rfl hI ((by obtain ⟨μ1, hle1, hsv1, hI⟩ := hI.freezeRow 0 rfl; have hS1 : Slc (RNote μ1) 34 μ1 u0 x0 := ⟨_, hx0, hsv1⟩; exact low_plain hle1 (slices_IndexFunc_api_Note_api_Note_at_notes_Log_Of_1.c μ1 _ hI.agr x0 u0 hS1 x1_0 gx1_0 hwx1_0 (At.le hle1 hax1_0) r1 hr1))) rfl fun a w hz1 hI hA => 
    sta hA rfl rfl fun a hA => ?_
  refine o_nil <| hN2 _ _ <| w_seq fun _ hN3 => w_seq fun _ hN4 => w_reg <| stm hA rfl rfl fun a hA => 
    stp hA (r_eql hA rfl rfl) rfl fun a hA => ?_
  refine o_nil <| hN4 _ _ <| w_cond hA rfl (fun hc1 => ?_) (fun hc1 => ?_)
  · obtain ⟨hc1, H⟩ := dT H hc1
    refine w_seq fun _ hN5 => w_reg <| stm hA rfl rfl fun a hA => 
      sta hA rfl rfl fun a hA => ?_
    refine o_nil <| hN5 _ _ <| w_ret ?_
    obtain rfl := sJ H
    exact ret1 hA Tryd.results70 rfl ⟨_, rfl, u0, k0, rfl, hx0, (hI.less (Store.le.refl _) hI.le)⟩
  · obtain ⟨hc1, H⟩ := dF H hc1
    refine w_skip <| hN3 _ _ ?_
    obtain ⟨⟨c1, c2⟩, hz2, Hk1⟩ := bB H
    refine w_cut (fun a w => ∃ (ccc2 : List Value), InR .i64 c1 ∧ Els (RNote μ) 34 c2 ccc2 ∧ Fr a 42 [(0, u0), (1, .func (.func 71) #[] [.pointer (some ⟨gx1_0, 0, none⟩)].toArray), (4, (.slice none 0 0)), (5, .int .i64 c1), (12, .bool (decide (r1 = (-1))))] ∧ Iv w0 (row 79 34 u0 x0.length k0).foot μ μ [row 79 34 u0 c2.length ccc2] w) ?_ ?_
    · have H := bI hz2
      refine w_seq fun _ hN6 => w_reg <| stm hA rfl rfl fun a hA => 
        stp hA (r_add hA rfl rfl) rfl fun a hA => 
        sta hA rfl rfl fun a hA => ?_
      refine o_nil <| hN6 _ _ <| w_block ?_
      obtain ⟨z1, hz3, Hk2⟩ := bind_some H
      obtain ⟨n1, hn1⟩ := loopO_some hz3
      refine w_loop (fun n a w => ∃ (s1 : Int) (s2 : Int) (s3 : List Note) (ccs3 : List Value), loopN (slices_DeleteFunc_api_Note_api_Note_at_notes_Log_Of_1.s0 x1_0) n (s1, s2, s3) = some z1 ∧ InR .i64 s1 ∧ InR .i64 s2 ∧ Els (RNote μ) 34 s3 ccs3 ∧ Fr a 42 [(0, u0), (1, .func (.func 71) #[] [.pointer (some ⟨gx1_0, 0, none⟩)].toArray), (4, (.slice none 0 0)), (5, .int .i64 s1), (6, .int .i64 s2), (12, .bool (decide (r1 = (-1))))] ∧ Iv w0 (row 79 34 u0 x0.length k0).foot μ μ [row 79 34 u0 s3.length ccs3] w) n1 ⟨r1, IntKind.i64.wrap (r1 + 1), x0, k0, hn1, hz1, (wrap_in _ _), hx0, hA.sub ⟨rfl, rfl, rfl, rfl, rfl, rfl, trivial⟩, hI⟩ ?_
      clear hA hI
      rintro n a w ⟨s1, s2, s3, ccs3, hn1, ws1, ws2, ws3, hA, hI⟩
      obtain ⟨m1, rfl, H⟩ := loopN_bind hn1
      clear hn1
      refine w_seq fun _ hN7 => w_seq fun _ hN8 => w_reg <| stm hA rfl rfl fun a hA => 
        stm hA rfl rfl fun a hA => ?_
      have hlen1 := Iv.row_in hI (j := 0) rfl
      refine stp hA (r_rlen (xs := 0) Tryd.underlying76 hI (j := 0) rfl hA rfl) rfl fun a hA => 
        stp hA (r_lss hA rfl rfl) rfl fun a hA => ?_
      refine o_nil <| hN8 _ _ <| w_cond hA rfl (fun hc2 => ?_) (fun hc2 => ?_)
      · obtain ⟨hc2, H⟩ := dT H hc2
        refine w_skip <| hN7 _ _ ?_
        obtain ⟨⟨c3, c4⟩, hz4, Hk3⟩ := bB H
        refine w_cut (fun a w => ∃ (ccc4 : List Value), InR .i64 c3 ∧ Els (RNote μ) 34 c4 ccc4 ∧ Fr a 42 [(0, u0), (1, .func (.func 71) #[] [.pointer (some ⟨gx1_0, 0, none⟩)].toArray), (4, (.slice none 0 0)), (5, .int .i64 c3), (6, .int .i64 s2), (12, .bool (decide (r1 = (-1)))), (19, .bool (decide (s2 < (s3.length : Int))))] ∧ Iv w0 (row 79 34 u0 x0.length k0).foot μ μ [row 79 34 u0 c4.length ccc4] w) ?_ ?_
        · have H := bI hz4
          refine w_block <| w_seq fun _ hN9 => w_reg <| stm hA rfl rfl fun a hA => 
            stm hA rfl rfl fun a hA => ?_
          obtain ⟨hb1, H⟩ := bG H
          refine stp hA (r_rix (j := 0) Tryd.underlying76 sz79 hI rfl hA rfl rfl hb1.1 hb1.2) rfl fun a hA => ?_
          obtain ⟨A1, _, B1, hc3, hl1, _, he1⟩ := Els.at_ ws3 (getD_some default hb1.1 hb1.2)
          obtain ⟨rfl, hw1⟩ := he1
          refine stp hA (r_rldP (j := 0) (q := s2.toNat * 34) (off := 0) A1 B1 [] [[.int .i64 ((s3.getD s2.toNat default).Op)], av .u8 32 ((s3.getD s2.toNat default).Tx), [.int .i64 ((s3.getD s2.toNat default).Reason)]] [] hc3 hl1 rfl Tryd.underlying79 rfl sz79 rfl hI rfl hA rfl) rfl fun a hA => 
            o_new [[.int .i64 0], av .u8 32 (List.replicate 32 0), [.int .i64 0]] zr79 hI hA rfl fun g1 a w hA hI hg1 => 
            o_st (j := 0) [] [[.int .i64 0], av .u8 32 (List.replicate 32 0), [.int .i64 0]] [[.int .i64 ((s3.getD s2.toNat default).Op)], av .u8 32 ((s3.getD s2.toNat default).Tx), [.int .i64 ((s3.getD s2.toNat default).Reason)]] [] sz79 rfl rfl (fl_cons (one_one rfl) (fl_cons (one_av _ _ _) (fl_cons (one_one rfl) fl_nil))) hI rfl hA rfl rfl rfl rfl fun w hI => ?_
          refine o_nil <| hN9 _ _ <| w_seq fun _ hN10 => w_reg <| stm hA rfl rfl fun a hA => 
            stp hA (r_ldA (j := 0) [] [[.int .i64 ((s3.getD s2.toNat default).Op)], av .u8 32 ((s3.getD s2.toNat default).Tx), [.int .i64 ((s3.getD s2.toNat default).Reason)]] [] Tryd.underlying79 rfl sz79 rfl hI rfl hA rfl rfl) rfl fun a hA => ?_
          obtain ⟨r2, hr2, H⟩ := bB H
          refine o_callpcc (u := .bool r2) cf71 hA rfl rfl hI (notes_Log_Of_1.c μ _ hI.agr (s3.getD s2.toNat default) ⟨hw1.1, hw1.2.1, hw1.2.2⟩ x1_0 gx1_0 hwx1_0 hax1_0 r2 hr2) rfl fun a w hz5 hI hA => 
            stp hA (r_not hA rfl) rfl fun a hA => ?_
          refine o_nil <| hN10 _ _ <| w_cond hA rfl (fun hc4 => ?_) (fun hc4 => ?_)
          · have hc4 := nT hc4; have hc4 := ft hc4; have H := bF H hc4
            refine w_seq fun _ hN11 => w_reg <| stm hA rfl rfl fun a hA => 
              stm hA rfl rfl fun a hA => 
              stp hA (r_ldA (j := 0) [] [[.int .i64 ((s3.getD s2.toNat default).Op)], av .u8 32 ((s3.getD s2.toNat default).Tx), [.int .i64 ((s3.getD s2.toNat default).Reason)]] [] Tryd.underlying79 rfl sz79 rfl hI rfl hA rfl rfl) rfl fun a hA => ?_
            obtain ⟨hb2, H⟩ := bG H
            refine stp hA (r_rix (j := 1) Tryd.underlying76 sz79 hI rfl hA rfl rfl hb2.1 hb2.2) rfl fun a hA => ?_
            obtain ⟨A2, _, B2, hc5, hl2, hl3, he2⟩ := Els.at_ ws3 (getD_some default hb2.1 hb2.2)
            obtain ⟨rfl, hw2⟩ := he2
            have hE1 := Els.setAt (y := (s3.getD s2.toNat default)) (d := [[.int .i64 ((s3.getD s2.toNat default).Op)], av .u8 32 ((s3.getD s2.toNat default).Tx), [.int .i64 ((s3.getD s2.toNat default).Reason)]].flatten) ws3 hc5 (idx_lt hb2.1 hb2.2) hl2 hl3 ⟨rfl, ⟨hw1.1, hw1.2.1, hw1.2.2⟩⟩ rfl
            refine o_rstPL (j := 1) (q := s1.toNat * 34) (off := 0) (m' := (s3.set s1.toNat (s3.getD s2.toNat default)).length) A2 B2 [] [[.int .i64 ((s3.getD s1.toNat default).Op)], av .u8 32 ((s3.getD s1.toNat default).Tx), [.int .i64 ((s3.getD s1.toNat default).Reason)]] [[.int .i64 ((s3.getD s2.toNat default).Op)], av .u8 32 ((s3.getD s2.toNat default).Tx), [.int .i64 ((s3.getD s2.toNat default).Reason)]] [] hc5 hl2 rfl sz79 rfl rfl (fl_cons (one_one rfl) (fl_cons (one_av _ _ _) (fl_cons (one_one rfl) fl_nil))) hI rfl hA rfl rfl rfl (by omega) (by first | exact (List.length_set ..).symm | simp) fun w hI => ?_
            refine o_nil <| hN11 _ _ <| w_reg <| stm hA rfl rfl fun a hA => 
              stp hA (r_add hA rfl rfl) rfl fun a hA => 
              sta hA rfl rfl fun a hA => ?_
            refine o_nil ?_
            cases sJ H
            exact ⟨A2 ++ ([[.int .i64 ((s3.getD s2.toNat default).Op)], av .u8 32 ((s3.getD s2.toNat default).Tx), [.int .i64 ((s3.getD s2.toNat default).Reason)]].flatten ++ B2), (wrap_in _ _), hE1, hA.sub ⟨rfl, rfl, rfl, rfl, rfl, rfl, rfl, trivial⟩, (hI.sl [1] rfl)⟩
          · have hc4 := nF hc4; have H := bT H hc4
            refine w_skip ?_
            cases sJ H
            exact ⟨ccs3, ws1, ws3, hA.sub ⟨rfl, rfl, rfl, rfl, rfl, rfl, rfl, trivial⟩, (hI.sl [1] rfl)⟩
        · rintro a w ⟨ccc4, wc3, wc4, hA, hI⟩
          have H := Hk3
          refine w_reg <| stm hA rfl rfl fun a hA => 
            stp hA (r_add hA rfl rfl) rfl fun a hA => 
            sta hA rfl rfl fun a hA => ?_
          refine o_nil <| ⟨m1, Nat.lt_succ_self _, c3, IntKind.i64.wrap (s2 + 1), c4, ccc4, H, wc3, (wrap_in _ _), wc4, hA.sub ⟨rfl, rfl, rfl, rfl, rfl, rfl, trivial⟩, hI⟩
      · obtain ⟨hc2, H⟩ := dF H hc2
        refine w_exit rfl ?_
        have H : some (s1, s3) = some z1 := H
        obtain rfl := sI H
        have H := Hk2
        cases sJ H
        exact ⟨ccs3, ws1, ws3, hA.sub ⟨rfl, rfl, rfl, rfl, rfl, trivial⟩, hI⟩
    · rintro a w ⟨ccc2, wc1, wc2, hA, hI⟩
      have H := Hk1
      refine w_seq fun _ hN12 => w_reg <| stm hA rfl rfl fun a hA => 
        stm hA rfl rfl fun a hA => ?_
      obtain ⟨hb3, H⟩ := bG H
      refine stp hA (r_tailR (j := 0) Tryd.underlying76 sz79 hI rfl hA rfl rfl hb3.1 hb3.2) rfl fun a hA => ?_
      have hform1 := sl_form hI (j := 0) rfl
      obtain ⟨z2, hz6, hz7⟩ := zr79
      have hE2 := (wc2).take ((c1).toNat)
      refine o_clrL (j := 0) (i := ((c1).toNat)) Tryd.underlying76 hz6 (by rw [hz7]; kernel_rfl) rfl (by rw [hz7]; exact (fl_cons (one_one rfl) (fl_cons (one_av _ _ _) (fl_cons (one_one rfl) fl_nil)))) hI rfl (by omega) hA rfl fun w hI => ?_
      refine o_nil <| hN12 _ _ <| w_seq fun _ hN13 => w_reg <| stm hA rfl rfl fun a hA => 
        stm hA rfl rfl fun a hA => 
        stp hA (r_frontR (j := 0) Tryd.underlying76 sz79 hI rfl hform1 hA rfl rfl hb3.1) rfl fun a hA => 
        sta hA rfl rfl fun a hA => ?_
      refine o_nil <| hN13 _ _ <| w_ret ?_
      obtain rfl := sJ H
      exact ret1 hA Tryd.results70 rfl ⟨_, rfl, (slFront u0 ((c1).toNat)), ccc2.take ((c1).toNat * 34), rfl, hE2, (hI.less (Store.le.refl _) hI.le)⟩
set_option maxRecDepth 20000 in
theorem notes_Log_Of.c (μ : Store) (w0 : World) (hμ : Agr μ w0) (x0 : notesLog) (vp1 : Value) (cp1 : List Value) (gm1 : Nat) (g0 : Nat) (hp1 : InR .i64 x0.most) (hp2 : InR .i64 x0.op) (hp3 : Els (RNote μ) 34 x0.l cp1) (hp4 : mw131 x0.lost) (ho0 : Its μ w0 [cel g0 [[.int .i64 x0.most], [.int .i64 x0.op], [vp1], [.map (some gm1)]] 133, row 79 34 vp1 x0.l.length cp1, mpI gm1 (ent kv131 vv131 x0.lost)]) (x1 : Int) (hx1 : InR .i64 x1) (r : List Note) (H : notes_Log_Of.f x0 x1 = some r) :
    Calls Tryd.prog 33 [.pointer (some ⟨g0, 0, none⟩), .int .i64 x1].toArray w0 (fun e w' => ∃ v, e = .returned v ∧ ∃ (v0 : Value) (c0 : List Value), v = v0 ∧ Els (RNote μ) 34 r c0 ∧ Iv w0 (many [cel g0 [[.int .i64 x0.most], [.int .i64 x0.op], [vp1], [.map (some gm1)]] 133, row 79 34 vp1 x0.l.length cp1, mpI gm1 (ent kv131 vv131 x0.lost)]).foot μ μ [row 79 34 v0 r.length c0, cel g0 [[.int .i64 x0.most], [.int .i64 x0.op], [vp1], [.map (some gm1)]] 133, row 79 34 vp1 x0.l.length cp1, mpI gm1 (ent kv131 vv131 x0.lost)] w') := by
  refine enter Tryd.func33 rfl Tryd.ntmps33 rfl fun a hA => ?_
  have hI := Iv.startN hμ ho0
  have H := bI H
  refine w_seq fun _ hN1 => w_reg <| o_box [[.int .i64 x1]] hI hA rfl rfl rfl fun g1 a w hA hI hg1 => 
    sta hA rfl rfl fun a hA => ?_
  refine o_nil <| hN1 _ _ <| w_seq fun _ hN2 => w_reg <| stm hA rfl rfl fun a hA => ?_
  obtain ⟨r1, hr1, H⟩ := bB H
  have hI := hI.sl [1, 2, 3, 0] rfl
  refine o_call _ cf31 hA rfl (notes_Log_All.c μ _ hI.agr (⟨x0.most, x0.op, x0.l, x0.lost⟩ : notesLog) vp1 cp1 gm1 g0 hp1 hp2 hp3 hp4 (hI.handN 3) r1 hr1) rfl fun v1 a w hz1 hA => ?_
  obtain ⟨_, cs1, rfl, hE1, hi1⟩ := hz1
  have hI := hI.backN 3 hi1
  have hI : Iv w0 (many [cel g0 [[.int .i64 x0.most], [.int .i64 x0.op], [vp1], [.map (some gm1)]] 133, row 79 34 vp1 x0.l.length cp1, mpI gm1 (ent kv131 vv131 x0.lost)]).foot μ μ [row 79 34 v1 r1.length cs1, cel g0 [[.int .i64 x0.most], [.int .i64 x0.op], [vp1], [.map (some gm1)]] 133, row 79 34 vp1 x0.l.length cp1, mpI gm1 (ent kv131 vv131 x0.lost), cel g1 [[.int .i64 x1]] 3] w := hI
  obtain ⟨μ1, hle1, hat1, hI⟩ := hI.freezeCel 4 rfl
  refine stp hA (r_mkfn (vs := [.pointer (some ⟨g1, 0, none⟩)]) hA rfl) rfl fun a hA => ?_
  obtain ⟨r2, hr2, H⟩ := bB H
  refine o_call _ cf70 hA rfl (slices_DeleteFunc_api_Note_api_Note_at_notes_Log_Of_1.c μ1 _ hI.agr r1 v1 cs1 hE1 (hI.item (j := 0) rfl) x1 g1 hx1 hat1 r2 hr2) rfl fun v2 a w hz2 hA => ?_
  obtain ⟨_, cs2, rfl, hE2, hi2⟩ := hz2
  have hI := hI.call1 0 rfl hi2
  refine sta hA rfl rfl fun a hA => ?_
  refine o_nil <| hN2 _ _ <| w_ret ?_
  obtain rfl := sJ H
  exact ret1 hA Tryd.results33 rfl ⟨_, rfl, v2, cs2, rfl, hE2, (hI.less (Store.le.refl _) hI.le)⟩
set_option maxRecDepth 20000 in
theorem notes_Log_Lost.c (μ : Store) (w0 : World) (hμ : Agr μ w0) (x0 : notesLog) (vp1 : Value) (cp1 : List Value) (gm1 : Nat) (g0 : Nat) (hp1 : InR .i64 x0.most) (hp2 : InR .i64 x0.op) (hp3 : Els (RNote μ) 34 x0.l cp1) (hp4 : mw131 x0.lost) (ho0 : Its μ w0 [cel g0 [[.int .i64 x0.most], [.int .i64 x0.op], [vp1], [.map (some gm1)]] 133, row 79 34 vp1 x0.l.length cp1, mpI gm1 (ent kv131 vv131 x0.lost)]) (x1 : Int) (hx1 : InR .i64 x1) (r : Int) (H : notes_Log_Lost.f x0 x1 = some r) :
    Calls Tryd.prog 34 [.pointer (some ⟨g0, 0, none⟩), .int .i64 x1].toArray w0 (fun e w' => ∃ v, e = .returned v ∧ v = .int .i64 r ∧ InR .i64 r ∧ Iv w0 (many [cel g0 [[.int .i64 x0.most], [.int .i64 x0.op], [vp1], [.map (some gm1)]] 133, row 79 34 vp1 x0.l.length cp1, mpI gm1 (ent kv131 vv131 x0.lost)]).foot μ μ [cel g0 [[.int .i64 x0.most], [.int .i64 x0.op], [vp1], [.map (some gm1)]] 133, row 79 34 vp1 x0.l.length cp1, mpI gm1 (ent kv131 vv131 x0.lost)] w') := by
  refine enter Tryd.func34 rfl Tryd.ntmps34 rfl fun a hA => ?_
  have hI := Iv.startN hμ ho0
  have H := bI H
  refine w_seq fun _ hN1 => w_reg <| sta hA rfl rfl fun a hA => ?_
  refine o_nil <| hN1 _ _ <| w_seq fun _ hN2 => w_reg <| stm hA rfl rfl fun a hA => 
    stp hA (r_nilc hA rfl) rfl fun a hA => 
    stp hA (r_fd (k := 3) Tryd.underlying133 rfl sz131 hA rfl rfl) rfl fun a hA => 
    stp hA (r_ld1 (j := 0) [[.int .i64 x0.most], [.int .i64 x0.op], [vp1]] [] Tryd.underlying131 rfl hI rfl hA rfl rfl) rfl fun a hA => 
    stm hA rfl rfl fun a hA => 
    stp hA (r_look (j := 2) kn131 Tryd.underlying131 mz131 hp4 hx1 hI rfl hA rfl rfl) rfl fun a hA => 
    sta hA rfl rfl fun a hA => ?_
  refine o_nil <| hN2 _ _ <| w_ret ?_
  obtain rfl := sJ H
  exact ret1 hA Tryd.results34 rfl ⟨_, rfl, rfl, (MW.get hp4 _ (in_lit .i64 0 rfl)), (hI.less (Store.le.refl _) hI.le)⟩
set_option maxRecDepth 20000 in
theorem maps_Clone_map_intint_int_int.c (μ : Store) (w0 : World) (hμ : Agr μ w0) (x0 : List (Int × Int)) (g0 : Nat) (hx0 : mw131 x0) (ho0 : Its μ w0 [mpI g0 (ent kv131 vv131 x0)]) (r : List (Int × Int)) (H : maps_Clone_map_intint_int_int.f x0 = some r) :
    Calls Tryd.prog 72 [.map (some g0)].toArray w0 (fun e w' => ∃ v, e = .returned v ∧ ∃ (gm : Nat), v = .map (some gm) ∧ mw131 r ∧ Iv w0 (many [mpI g0 (ent kv131 vv131 x0)]).foot μ μ [mpI gm (ent kv131 vv131 r), mpI g0 (ent kv131 vv131 x0)] w') := by
  obtain rfl := Option.some.inj H
  refine enter Tryd.func72 rfl Tryd.ntmps72 rfl fun a hA => ?_
  have hI := Iv.startN hμ ho0
  refine w_seq fun _ hN1 => w_reg <| sta hA rfl rfl fun a hA => ?_
  refine o_nil <| hN1 _ _ <| w_seq fun _ hN2 => w_seq fun _ hN3 => w_reg <| stm hA rfl rfl fun a hA => stp hA (r_mapnil Tryd.underlying131 hA rfl rfl) rfl fun a hA => ?_
  refine o_nil <| hN3 _ _ <| w_cond hA rfl (fun hc => by cases hc) (fun hc => ?_)
  refine w_skip <| hN2 _ _ <| w_seq fun _ hN4 => w_reg <| stm hA rfl rfl fun a hA => stp hA (r_mkIm Tryd.underlying131 hA rfl) rfl fun a hA => ?_
  refine o_mclone (j := 0) Tryd.func97 xm97.1 xm97.2.1 xm97.2.2 xn97 hI rfl hA rfl rfl fun gm a w hI hA => ?_
  refine stp hA (r_asM Tryd.underlying131 hA rfl) rfl fun a hA => sta hA rfl rfl fun a hA => o_nil <| hN4 _ _ <| w_ret ?_
  exact ret1 hA Tryd.results72 rfl ⟨_, rfl, gm, rfl, hx0, hI⟩
set_option maxRecDepth 20000 in
theorem notes_Log_Clone.c (μ : Store) (w0 : World) (hμ : Agr μ w0) (x0 : notesLog) (vp1 : Value) (cp1 : List Value) (gm1 : Nat) (g0 : Nat) (hp1 : InR .i64 x0.most) (hp2 : InR .i64 x0.op) (hp3 : Els (RNote μ) 34 x0.l cp1) (hp4 : mw131 x0.lost) (ho0 : Its μ w0 [cel g0 [[.int .i64 x0.most], [.int .i64 x0.op], [vp1], [.map (some gm1)]] 133, row 79 34 vp1 x0.l.length cp1, mpI gm1 (ent kv131 vv131 x0.lost)]) (r : notesLog) (H : notes_Log_Clone.f x0 = some r) :
    Calls Tryd.prog 35 [.pointer (some ⟨g0, 0, none⟩)].toArray w0 (fun e w' => ∃ v, e = .returned v ∧ ∃ (gq_1 : Nat) (vp_1 : Value) (cp_1 : List Value) (gm_1 : Nat), v = .pointer (some ⟨gq_1, 0, none⟩) ∧ InR .i64 r.most ∧ InR .i64 r.op ∧ Els (RNote μ) 34 r.l cp_1 ∧ mw131 r.lost ∧ Iv w0 (many [cel g0 [[.int .i64 x0.most], [.int .i64 x0.op], [vp1], [.map (some gm1)]] 133, row 79 34 vp1 x0.l.length cp1, mpI gm1 (ent kv131 vv131 x0.lost)]).foot μ μ [cel gq_1 [[.int .i64 r.most], [.int .i64 r.op], [vp_1], [.map (some gm_1)]] 133, row 79 34 vp_1 r.l.length cp_1, mpI gm_1 (ent kv131 vv131 r.lost), cel g0 [[.int .i64 x0.most], [.int .i64 x0.op], [vp1], [.map (some gm1)]] 133, row 79 34 vp1 x0.l.length cp1, mpI gm1 (ent kv131 vv131 x0.lost)] w') := by
  refine enter Tryd.func35 rfl Tryd.ntmps35 rfl fun a hA => ?_
  have hI := Iv.startN hμ ho0
  have H := bI H
  refine w_seq fun _ hN1 => w_reg <| sta hA rfl rfl fun a hA => ?_
  refine o_nil <| hN1 _ _ <| w_seq fun _ hN2 => ?_
  refine w_any [] mo hI fun w hI => ?_
  refine gE 0 hA rfl (.inr hI) (fun _ => r_mv hA rfl) fun a hA => ?_
  refine gE 1 hA rfl (.inr hI) (fun _ => r_nilc hA rfl) fun a hA => ?_
  refine gE 2 hA rfl (.inr hI) (fun _ => r_fd (k := 0) Tryd.underlying133 rfl sz3 hA rfl rfl) fun a hA => ?_
  refine gT 3 hA rfl hI (fun w hI => r_ld1 (j := 0) [] [[.int .i64 x0.op], [vp1], [.map (some gm1)]] Tryd.underlying3 rfl hI rfl hA rfl rfl) fun a hA => ?_
  refine gE 4 hA rfl (.inr hI) (fun _ => r_mv hA rfl) fun a hA => ?_
  refine gE 5 hA rfl (.inr hI) (fun _ => r_nilc hA rfl) fun a hA => ?_
  refine gE 6 hA rfl (.inr hI) (fun _ => r_fd (k := 1) Tryd.underlying133 rfl sz3 hA rfl rfl) fun a hA => ?_
  refine gT 7 hA rfl hI (fun w hI => r_ld1 (j := 0) [[.int .i64 x0.most]] [[vp1], [.map (some gm1)]] Tryd.underlying3 rfl hI rfl hA rfl rfl) fun a hA => ?_
  refine gE 8 hA rfl (.inr hI) (fun _ => r_mv hA rfl) fun a hA => ?_
  refine gE 9 hA rfl (.inr hI) (fun _ => r_nilc hA rfl) fun a hA => ?_
  refine gE 10 hA rfl (.inr hI) (fun _ => r_fd (k := 2) Tryd.underlying133 rfl sz76 hA rfl rfl) fun a hA => ?_
  refine gT 11 hA rfl hI (fun w hI => r_ld1 (j := 0) [[.int .i64 x0.most], [.int .i64 x0.op]] [[.map (some gm1)]] Tryd.underlying76 rfl hI rfl hA rfl rfl) fun a hA => ?_
  refine gE 13 hA rfl (.inr hI) (fun _ => r_mv hA rfl) fun a hA => ?_
  refine gE 14 hA rfl (.inr hI) (fun _ => r_nilc hA rfl) fun a hA => ?_
  refine gE 15 hA rfl (.inr hI) (fun _ => r_fd (k := 3) Tryd.underlying133 rfl sz131 hA rfl rfl) fun a hA => ?_
  refine gT 16 hA rfl hI (fun w hI => r_ld1 (j := 0) [[.int .i64 x0.most], [.int .i64 x0.op], [vp1]] [] Tryd.underlying131 rfl hI rfl hA rfl rfl) fun a hA => ?_
  refine gF 12 rfl ?_
  obtain ⟨r1, hr1, H⟩ := bB H
  refine o_callW (fun w v w' => ∃ (v0 : Value) (c0 : List Value), v = v0 ∧ Els (RNote μ) 34 r1 c0 ∧ Iv w [] μ μ [row 79 34 v0 r1.length c0] w') cf69 hA rfl ((by obtain ⟨μ1, hle1, hsv1, hI⟩ := hI.freezeRow 1 rfl; have hS1 : Slc (RNote μ1) 34 μ1 vp1 x0.l := ⟨_, hp3, hsv1⟩; exact (slices_Clone_api_Note_api_Note.c μ1 _ hI.agr x0.l vp1 hS1 r1 hr1).mono fun _ _ ⟨v, he, b0, b1, hv, f0, hi⟩ => ⟨v, he, b0, b1, hv, f0, hi.low hle1⟩)) rfl fun v1 a w hz1 hA => ?_
  obtain ⟨_, cs1, rfl, hE1, hi1⟩ := hz1
  have hI := hI.call hi1
  refine o_nil <| ⟨(.inr (hI.sl [1, 2, 3] rfl)), ?_⟩
  refine gF 17 rfl ?_
  obtain ⟨r2, hr2, H⟩ := bB H
  have hI := hI.sl [3, 0, 1, 2] rfl
  refine o_call _ cf72 hA rfl (maps_Clone_map_intint_int_int.c μ _ hI.agr x0.lost gm1 hp4 (hI.handN 1) r2 hr2) rfl fun v2 a w hz2 hA => ?_
  obtain ⟨g1, rfl, hm1, hi2⟩ := hz2
  have hI := hI.backN 1 hi2
  have hI : Iv w0 (many [cel g0 [[.int .i64 x0.most], [.int .i64 x0.op], [vp1], [.map (some gm1)]] 133, row 79 34 vp1 x0.l.length cp1, mpI gm1 (ent kv131 vv131 x0.lost)]).foot μ μ [mpI g1 (ent kv131 vv131 r2), mpI gm1 (ent kv131 vv131 x0.lost), row 79 34 v1 r1.length cs1, cel g0 [[.int .i64 x0.most], [.int .i64 x0.op], [vp1], [.map (some gm1)]] 133, row 79 34 vp1 x0.l.length cp1] w := hI
  refine o_nil <| ⟨(.inr (hI.sl [3, 4, 1] rfl)), ?_⟩
  refine gF 18 rfl ?_
  refine stp hA (r_bldS (cs := [[.int .i64 x0.most], [.int .i64 x0.op], [v1], [.map (some g1)]].flatten.toArray) (pl := [(0, 1), (1, 1), (2, 1), (3, 1)]) zr133 Tryd.underlying133 ⟨rfl, sz3, rfl, sz3, rfl, sz76, rfl, sz131, trivial⟩ hA rfl ((fill_one rfl rfl (by kernel_rfl)).trans ((fill_one rfl rfl (by kernel_rfl)).trans ((fill_one (own_cell hI (j := 2) rfl) rfl (by kernel_rfl)).trans ((fill_one rfl rfl (by kernel_rfl)).trans (by kernel_rfl)))))) rfl fun a hA => ?_
  refine o_nil <| ⟨(.inr (hI.sl [3, 4, 1] rfl)), ?_⟩
  refine gF 19 rfl ?_
  refine o_box [[.int .i64 x0.most], [.int .i64 x0.op], [v1], [.map (some g1)]] hI hA rfl rfl rfl fun g2 a w hA hI hg2 => ?_
  refine o_nil <| ⟨(.inr (hI.sl [4, 5, 2] rfl)), ?_⟩
  refine gE 20 hA rfl (.inr (hI.sl [4, 5, 2] rfl)) (fun _ => r_as hA rfl) fun a hA => ?_
  refine gN <| hN2 _ _ <| w_ret ?_
  obtain rfl := sJ H
  exact ret1 hA Tryd.results35 rfl ⟨_, rfl, g2, v1, cs1, g1, rfl, hp1, hp2, hE1, hm1, ((hI.sl [0, 3, 1, 4, 5, 2] rfl).less (Store.le.refl _) hI.le)⟩
set_option maxRecDepth 20000 in
theorem sargassoref18_Log_Add.c (μ : Store) (w0 : World) (hμ : Agr μ w0) (x0 : sargassoref18Log) (vp1 : Value) (vp2 : Value) (cp1 : List Value) (g0 : Nat) (hp1 : InR .i64 x0.Most) (hp2 : InR .i64 x0.Op) (hp3 : Slc (RNote μ) 34 μ vp1 x0.L) (hp4 : Els (RNote μ) 34 x0.Gone cp1) (ho0 : Its μ w0 [cel g0 [[.int .i64 x0.Most], [.int .i64 x0.Op], [vp1], [vp2]] 85, row 79 34 vp2 x0.Gone.length cp1]) (x1 : List Int) (hx1 : Arr .u8 32 x1) (x2 : Int) (hx2 : InR .i64 x2) (r : Int × sargassoref18Log) (H : sargassoref18_Log_Add.f x0 x1 x2 = some r) :
    Calls Tryd.prog 36 [.pointer (some ⟨g0, 0, none⟩), .agg [av .u8 32 x1].flatten.toArray, .int .i64 x2].toArray w0 (fun e w' => ∃ v, e = .returned v ∧ ∃ (vp_1 : Value) (vp_2 : Value) (cp_1 : List Value) (μ' : Store), v = .int .i64 (r.1) ∧ InR .i64 (r.1) ∧ InR .i64 (r.2).Most ∧ InR .i64 (r.2).Op ∧ Slc (RNote μ') 34 μ' vp_1 (r.2).L ∧ Els (RNote μ') 34 (r.2).Gone cp_1 ∧ Iv w0 (many [cel g0 [[.int .i64 x0.Most], [.int .i64 x0.Op], [vp1], [vp2]] 85, row 79 34 vp2 x0.Gone.length cp1]).foot μ μ' [cel g0 [[.int .i64 ((r.2).Most)], [.int .i64 ((r.2).Op)], [vp_1], [vp_2]] 85, row 79 34 vp_2 ((r.2).Gone).length cp_1] w') := by
  refine enter Tryd.func36 rfl Tryd.ntmps36 rfl fun a hA => ?_
  have hI := Iv.startN hμ ho0
  have H := bI H
  refine w_seq fun _ hN1 => w_reg <| o_box [av .u8 32 x1] hI hA rfl rfl rfl fun g1 a w hA hI hg1 => 
    sta hA rfl rfl fun a hA => ?_
  refine o_nil <| hN1 _ _ <| w_seq fun _ hN2 => ?_
  obtain ⟨c1, hz1, Hk1⟩ := bB H
  refine w_cut (fun a w => Fr a 63 [(0, .pointer (some ⟨g0, 0, none⟩)), (2, .int .i64 x2), (4, .pointer (some ⟨g1, 0, none⟩)), (6, .int .i64 0), (12, .bool c1)] ∧ Iv w0 (many [cel g0 [[.int .i64 x0.Most], [.int .i64 x0.Op], [vp1], [vp2]] 85, row 79 34 vp2 x0.Gone.length cp1]).foot μ μ [cel g1 [av .u8 32 x1] 26, cel g0 [[.int .i64 x0.Most], [.int .i64 x0.Op], [vp1], [vp2]] 85, row 79 34 vp2 x0.Gone.length cp1] w) ?_ ?_
  · have H := bI hz1
    refine w_reg <| stm hA rfl rfl fun a hA => 
      stp hA (r_lss hA rfl rfl) rfl fun a hA => 
      stm hA rfl rfl fun a hA => ?_
    rcases Bool.eq_false_or_eq_true (decide (x2 < 1)) with hc1 | hc1
    · have hc10 := hc1; obtain ⟨hc1, H⟩ := dT H hc1
      refine o_no hA rfl rfl (by rw [hc10]; simp [vb]) rfl fun a hA => 
        o_no hA rfl rfl (by rw [hc10]; simp [vb]) rfl fun a hA => 
        stp hA (r_pick_t hA rfl hc10 rfl) rfl fun a hA => ?_
      refine o_nil ?_
      cases sJ H
      exact ⟨hA.sub ⟨rfl, rfl, rfl, rfl, rfl, trivial⟩, hI⟩
    · have hc10 := hc1; obtain ⟨hc1, H⟩ := dF H hc1
      refine o_yes hA rfl rfl hc10 <| 
        stm hA rfl rfl fun a hA => 
        o_yes hA rfl rfl hc10 <| 
        stp hA (r_gtr hA rfl rfl) rfl fun a hA => 
        stp hA (r_pick_f hA rfl hc10 rfl) rfl fun a hA => ?_
      refine o_nil ?_
      cases sJ H
      exact ⟨hA.sub ⟨rfl, rfl, rfl, rfl, rfl, trivial⟩, hI⟩
  · rintro a w ⟨hA, hI⟩
    have H := Hk1
    refine w_cond hA rfl (fun hc2 => ?_) (fun hc2 => ?_)
    · have H := bT H hc2
      refine w_seq fun _ hN3 => w_reg <| sta hA rfl rfl fun a hA => ?_
      refine o_nil <| hN3 _ _ <| w_ret ?_
      obtain rfl := sJ H
      exact ret1 hA Tryd.results36 rfl ⟨_, rfl, vp1, vp2, cp1, μ, rfl, (in_lit .i64 122 rfl), hp1, hp2, hp3, hp4, (hI.sl [1, 2] rfl)⟩
    · have hc2 := ft hc2; have H := bF H hc2
      refine w_skip <| hN2 _ _ ?_
      obtain ⟨c2, hz2, Hk2⟩ := bB H
      refine w_cut (fun a w => ∃ (vvc2 : Value) (ccc2 : List Value), Els (RNote μ) 34 c2 ccc2 ∧ Fr a 63 [(0, .pointer (some ⟨g0, 0, none⟩)), (6, .int .i64 0)] ∧ Iv w0 (many [cel g0 [[.int .i64 x0.Most], [.int .i64 x0.Op], [vp1], [vp2]] 85, row 79 34 vp2 x0.Gone.length cp1]).foot μ μ [row 79 34 vvc2 c2.length ccc2, cel g1 [av .u8 32 x1] 26, cel g0 [[.int .i64 x0.Most], [.int .i64 x0.Op], [vvc2], [vp2]] 85, row 79 34 vp2 x0.Gone.length cp1] w) ?_ ?_
      · have H := bI hz2
        refine w_any [14, 17] mo hI fun w hI => ?_
        refine gE 0 hA rfl (.inr hI) (fun _ => r_mv hA rfl) fun a hA => ?_
        refine gE 1 hA rfl (.inr hI) (fun _ => r_mv hA rfl) fun a hA => ?_
        refine gE 2 hA rfl (.inr hI) (fun _ => r_nilc hA rfl) fun a hA => ?_
        refine gE 3 hA rfl (.inr hI) (fun _ => r_fd (k := 2) Tryd.underlying85 rfl sz76 hA rfl rfl) fun a hA => ?_
        refine gT 4 hA rfl hI (fun w hI => r_ld1 (j := 1) [[.int .i64 x0.Most], [.int .i64 x0.Op]] [[vp2]] Tryd.underlying76 rfl hI rfl hA rfl rfl) fun a hA => ?_
        refine gE 6 hA rfl (.inr hI) (fun _ => r_mv hA rfl) fun a hA => ?_
        refine gE 7 hA rfl (.inr hI) (fun _ => r_nilc hA rfl) fun a hA => ?_
        refine gE 8 hA rfl (.inr hI) (fun _ => r_fd (k := 1) Tryd.underlying85 rfl sz3 hA rfl rfl) fun a hA => ?_
        refine gT 9 hA rfl hI (fun w hI => r_ld1 (j := 1) [[.int .i64 x0.Most]] [[vp1], [vp2]] Tryd.underlying3 rfl hI rfl hA rfl rfl) fun a hA => ?_
        refine gT 10 hA rfl hI (fun w hI => r_ldA (j := 0) [] [av .u8 32 x1] [] Tryd.underlying26 rfl sz26 rfl hI rfl hA rfl rfl) fun a hA => ?_
        refine gE 11 hA rfl (.inr hI) (fun _ => r_mv hA rfl) fun a hA => ?_
        refine g_fork (i := 5) (is := [12]) (by kernel_rfl) (List.forall_mem_cons.2 ⟨⟨_, rfl, ?_⟩, (List.forall_mem_cons.2 ⟨⟨_, rfl, ?_⟩, List.forall_mem_nil _⟩)⟩)
        · skip
          obtain ⟨r1, hr1, H⟩ := bB H
          refine o_call _ cf73 hA rfl (sargassoref_Notes.c μ _ hI.agr x0.L vp1 hp3 r1 hr1) rfl fun v1 a w hz3 hA => ?_
          obtain ⟨_, cs1, rfl, hE1, hi1⟩ := hz3
          have hI := hI.call hi1
          refine o_nil <| ⟨(.inr (hI.sl [1, 2, 3] rfl)), ?_⟩
          refine gF 12 rfl ?_
          refine stp hA (r_bldS (cs := [[.int .i64 x0.Op], av .u8 32 x1, [.int .i64 x2]].flatten.toArray) (pl := [(0, 1), (1, 32), (33, 1)]) zr79 Tryd.underlying79 ⟨rfl, sz3, rfl, sz26, rfl, sz3, trivial⟩ hA rfl (by kernel_rfl)) rfl fun a hA => ?_
          refine o_nil <| ⟨(.inr (hI.sl [1, 2, 3] rfl)), ?_⟩
          refine gF 13 rfl ?_
          have hE2 : Els (RNote μ) 34 ([(⟨x0.Op, x1, x2⟩ : Note)] : List Note) _ := (Els.cons (c := [[.int .i64 x0.Op], av .u8 32 x1, [.int .i64 x2]].flatten) ⟨rfl, ⟨hp2, hx1, hx2⟩⟩ rfl Els.nil)
          refine o_bsl ([[.int .i64 x0.Op], av .u8 32 x1, [.int .i64 x2]].flatten ++ ([])) te79 zr79 Tryd.underlying76 hI hA rfl rfl rfl rfl (by kernel_rfl) rfl fun g2 a w hA hI => ?_
          generalize hcs : ([[.int .i64 x0.Op], av .u8 32 x1, [.int .i64 x2]].flatten ++ ([]) : List Value) = cs2 at hE2 hI
          clear hcs
          refine o_nil <| ⟨(.inr (hI.sl [2, 3, 4] rfl)), ?_⟩
          refine gF 14 rfl ?_
          obtain ⟨hb1, H⟩ := bG H
          have hE4 := hE1.app hE2
          refine o_appG (xs := (r1 : List Note)) (ys := (([(⟨x0.Op, x1, x2⟩ : Note)] : List Note) : List Note)) (M := 2932031007402) 1 te79 Tryd.underlying76 hI rfl hA rfl rfl (src_row hI (j := 0) rfl) hE2.len (hE2.ones RNote.ones) hb1 rfl fun v2 a w hA hI => ?_
          refine o_nil <| ⟨(.inl (by kernel_rfl)), ?_⟩
          refine gE 15 hA rfl (.inl (by kernel_rfl)) (fun _ => r_nilc hA rfl) fun a hA => ?_
          refine gE 16 hA rfl (.inl (by kernel_rfl)) (fun _ => r_fd (k := 2) Tryd.underlying85 rfl sz76 hA rfl rfl) fun a hA => ?_
          refine gF 17 rfl ?_
          have hone := own_one hI (j := 1) rfl
          have hcel := own_cell hI (j := 1) rfl
          refine o_st (j := 3) [[.int .i64 x0.Most], [.int .i64 x0.Op]] [[vp1]] [[v2]] [[vp2]] sz76 rfl rfl (by intro c hc; simp at hc; subst hc; exact hone) hI rfl hA rfl rfl hcel rfl fun w hI => ?_
          refine o_nil <| ⟨(.inl (by kernel_rfl)), ?_⟩
          refine gN ?_
          cases sJ H
          exact ⟨v2, cs1 ++ cs2, hE4, hA.sub ⟨rfl, rfl, trivial⟩, (hI.sl [1, 2, 3, 4] rfl)⟩
        · skip
          refine stp hA (r_bldS (cs := [[.int .i64 x0.Op], av .u8 32 x1, [.int .i64 x2]].flatten.toArray) (pl := [(0, 1), (1, 32), (33, 1)]) zr79 Tryd.underlying79 ⟨rfl, sz3, rfl, sz26, rfl, sz3, trivial⟩ hA rfl (by kernel_rfl)) rfl fun a hA => ?_
          refine o_nil <| ⟨(.inr hI), ?_⟩
          refine g_fork (i := 5) (is := [13]) (by kernel_rfl) (List.forall_mem_cons.2 ⟨⟨_, rfl, ?_⟩, (List.forall_mem_cons.2 ⟨⟨_, rfl, ?_⟩, List.forall_mem_nil _⟩)⟩)
          · skip
            obtain ⟨r1, hr1, H⟩ := bB H
            refine o_call _ cf73 hA rfl (sargassoref_Notes.c μ _ hI.agr x0.L vp1 hp3 r1 hr1) rfl fun v1 a w hz3 hA => ?_
            obtain ⟨_, cs1, rfl, hE1, hi1⟩ := hz3
            have hI := hI.call hi1
            refine o_nil <| ⟨(.inr (hI.sl [1, 2, 3] rfl)), ?_⟩
            refine gF 13 rfl ?_
            have hE2 : Els (RNote μ) 34 ([(⟨x0.Op, x1, x2⟩ : Note)] : List Note) _ := (Els.cons (c := [[.int .i64 x0.Op], av .u8 32 x1, [.int .i64 x2]].flatten) ⟨rfl, ⟨hp2, hx1, hx2⟩⟩ rfl Els.nil)
            refine o_bsl ([[.int .i64 x0.Op], av .u8 32 x1, [.int .i64 x2]].flatten ++ ([])) te79 zr79 Tryd.underlying76 hI hA rfl rfl rfl rfl (by kernel_rfl) rfl fun g2 a w hA hI => ?_
            generalize hcs : ([[.int .i64 x0.Op], av .u8 32 x1, [.int .i64 x2]].flatten ++ ([]) : List Value) = cs2 at hE2 hI
            clear hcs
            refine o_nil <| ⟨(.inr (hI.sl [2, 3, 4] rfl)), ?_⟩
            refine gF 14 rfl ?_
            obtain ⟨hb1, H⟩ := bG H
            have hE4 := hE1.app hE2
            refine o_appG (xs := (r1 : List Note)) (ys := (([(⟨x0.Op, x1, x2⟩ : Note)] : List Note) : List Note)) (M := 2932031007402) 1 te79 Tryd.underlying76 hI rfl hA rfl rfl (src_row hI (j := 0) rfl) hE2.len (hE2.ones RNote.ones) hb1 rfl fun v2 a w hA hI => ?_
            refine o_nil <| ⟨(.inl (by kernel_rfl)), ?_⟩
            refine gE 15 hA rfl (.inl (by kernel_rfl)) (fun _ => r_nilc hA rfl) fun a hA => ?_
            refine gE 16 hA rfl (.inl (by kernel_rfl)) (fun _ => r_fd (k := 2) Tryd.underlying85 rfl sz76 hA rfl rfl) fun a hA => ?_
            refine gF 17 rfl ?_
            have hone := own_one hI (j := 1) rfl
            have hcel := own_cell hI (j := 1) rfl
            refine o_st (j := 3) [[.int .i64 x0.Most], [.int .i64 x0.Op]] [[vp1]] [[v2]] [[vp2]] sz76 rfl rfl (by intro c hc; simp at hc; subst hc; exact hone) hI rfl hA rfl rfl hcel rfl fun w hI => ?_
            refine o_nil <| ⟨(.inl (by kernel_rfl)), ?_⟩
            refine gN ?_
            cases sJ H
            exact ⟨v2, cs1 ++ cs2, hE4, hA.sub ⟨rfl, rfl, trivial⟩, (hI.sl [1, 2, 3, 4] rfl)⟩
          · skip
            have hE1 : Els (RNote μ) 34 ([(⟨x0.Op, x1, x2⟩ : Note)] : List Note) _ := (Els.cons (c := [[.int .i64 x0.Op], av .u8 32 x1, [.int .i64 x2]].flatten) ⟨rfl, ⟨hp2, hx1, hx2⟩⟩ rfl Els.nil)
            refine o_bsl ([[.int .i64 x0.Op], av .u8 32 x1, [.int .i64 x2]].flatten ++ ([])) te79 zr79 Tryd.underlying76 hI hA rfl rfl rfl rfl (by kernel_rfl) rfl fun g2 a w hA hI => ?_
            generalize hcs : ([[.int .i64 x0.Op], av .u8 32 x1, [.int .i64 x2]].flatten ++ ([]) : List Value) = cs1 at hE1 hI
            clear hcs
            refine o_nil <| ⟨(.inr (hI.sl [1, 2, 3] rfl)), ?_⟩
            refine gF 5 rfl ?_
            obtain ⟨r1, hr1, H⟩ := bB H
            refine o_call _ cf73 hA rfl (sargassoref_Notes.c μ _ hI.agr x0.L vp1 hp3 r1 hr1) rfl fun v1 a w hz3 hA => ?_
            obtain ⟨_, cs2, rfl, hE2, hi1⟩ := hz3
            have hI := hI.call hi1
            refine o_nil <| ⟨(.inr (hI.sl [2, 3, 4] rfl)), ?_⟩
            refine gF 14 rfl ?_
            obtain ⟨hb1, H⟩ := bG H
            have hE4 := hE2.app hE1
            refine o_appG (xs := (r1 : List Note)) (ys := (([(⟨x0.Op, x1, x2⟩ : Note)] : List Note) : List Note)) (M := 2932031007402) 0 te79 Tryd.underlying76 hI rfl hA rfl rfl (src_row hI (j := 1) rfl) hE1.len (hE1.ones RNote.ones) hb1 rfl fun v2 a w hA hI => ?_
            refine o_nil <| ⟨(.inl (by kernel_rfl)), ?_⟩
            refine gE 15 hA rfl (.inl (by kernel_rfl)) (fun _ => r_nilc hA rfl) fun a hA => ?_
            refine gE 16 hA rfl (.inl (by kernel_rfl)) (fun _ => r_fd (k := 2) Tryd.underlying85 rfl sz76 hA rfl rfl) fun a hA => ?_
            refine gF 17 rfl ?_
            have hone := own_one hI (j := 0) rfl
            have hcel := own_cell hI (j := 0) rfl
            refine o_st (j := 3) [[.int .i64 x0.Most], [.int .i64 x0.Op]] [[vp1]] [[v2]] [[vp2]] sz76 rfl rfl (by intro c hc; simp at hc; subst hc; exact hone) hI rfl hA rfl rfl hcel rfl fun w hI => ?_
            refine o_nil <| ⟨(.inl (by kernel_rfl)), ?_⟩
            refine gN ?_
            cases sJ H
            exact ⟨v2, cs2 ++ cs1, hE4, hA.sub ⟨rfl, rfl, trivial⟩, (hI.sl [0, 2, 3, 4] rfl)⟩
      · rintro a w ⟨vvc2, ccc2, wc2, hA, hI⟩
        have H := Hk2
        obtain ⟨⟨c3, c4⟩, hz4, Hk3⟩ := bB H
        refine w_cut (fun a w => ∃ (μ1 : Store) (vvc3 : Value) (vvc4 : Value) (ccc4 : List Value), μ.le μ1 ∧ Slc (RNote μ1) 34 μ1 vvc3 c3 ∧ Els (RNote μ1) 34 c4 ccc4 ∧ Fr a 63 [(6, .int .i64 0)] ∧ Iv w0 (many [cel g0 [[.int .i64 x0.Most], [.int .i64 x0.Op], [vp1], [vp2]] 85, row 79 34 vp2 x0.Gone.length cp1]).foot μ μ1 [row 79 34 vvc4 c4.length ccc4, cel g1 [av .u8 32 x1] 26, cel g0 [[.int .i64 x0.Most], [.int .i64 x0.Op], [vvc3], [vvc4]] 85] w) ?_ ?_
        · have H := bI hz4
          refine w_seq fun _ hN4 => ?_
          refine w_draw mo (by kernel_rfl) hI ?_
          refine qtp hA (fun _ hI => r_mv hA rfl) rfl fun a hA => 
            qtp hA (fun _ hI => r_nilc hA rfl) rfl fun a hA => 
            qtp hA (fun _ hI => r_fd (k := 2) Tryd.underlying85 rfl sz76 hA rfl rfl) rfl fun a hA => 
            qtp hA (fun _ hI => r_ld1 (j := 2) [[.int .i64 x0.Most], [.int .i64 x0.Op]] [[vp2]] Tryd.underlying76 rfl hI rfl hA rfl rfl) rfl fun a hA => 
            qtp hA (fun _ hI => r_rlen (xs := 0) Tryd.underlying76 hI (j := 0) rfl hA rfl) rfl fun a hA => 
            qtp hA (fun _ hI => r_mv hA rfl) rfl fun a hA => 
            qtp hA (fun _ hI => r_nilc hA rfl) rfl fun a hA => 
            qtp hA (fun _ hI => r_fd (k := 0) Tryd.underlying85 rfl sz3 hA rfl rfl) rfl fun a hA => 
            qtp hA (fun _ hI => r_ld1 (j := 2) [] [[.int .i64 x0.Op], [vvc2], [vp2]] Tryd.underlying3 rfl hI rfl hA rfl rfl) rfl fun a hA => 
            qtp hA (fun _ hI => r_gtr hA rfl rfl) rfl fun a hA => ?_
          refine q_nil fun w hI => ?_
          refine hN4 _ _ <| w_cond hA rfl (fun hc3 => ?_) (fun hc3 => ?_)
          · obtain ⟨hc3, H⟩ := dT H hc3
            refine w_seq fun _ hN5 => ?_
            refine w_any [12, 15] mo hI fun w hI => ?_
            refine gE 0 hA rfl (.inr hI) (fun _ => r_mv hA rfl) fun a hA => ?_
            refine gE 1 hA rfl (.inr hI) (fun _ => r_mv hA rfl) fun a hA => ?_
            refine gE 2 hA rfl (.inr hI) (fun _ => r_nilc hA rfl) fun a hA => ?_
            refine gE 3 hA rfl (.inr hI) (fun _ => r_fd (k := 3) Tryd.underlying85 rfl sz76 hA rfl rfl) fun a hA => ?_
            refine gT 4 hA rfl hI (fun w hI => r_ld1 (j := 2) [[.int .i64 x0.Most], [.int .i64 x0.Op], [vvc2]] [] Tryd.underlying76 rfl hI rfl hA rfl rfl) fun a hA => ?_
            refine gE 5 hA rfl (.inr hI) (fun _ => r_mv hA rfl) fun a hA => ?_
            refine gE 6 hA rfl (.inr hI) (fun _ => r_nilc hA rfl) fun a hA => ?_
            refine gE 7 hA rfl (.inr hI) (fun _ => r_fd (k := 2) Tryd.underlying85 rfl sz76 hA rfl rfl) fun a hA => ?_
            refine gT 8 hA rfl hI (fun w hI => r_ld1 (j := 2) [[.int .i64 x0.Most], [.int .i64 x0.Op]] [[vp2]] Tryd.underlying76 rfl hI rfl hA rfl rfl) fun a hA => ?_
            obtain ⟨hb2, H⟩ := bG H
            refine gT 9 hA rfl hI (fun w hI => r_rix (j := 0) Tryd.underlying76 sz79 hI rfl hA rfl rfl (by decide) hb2) fun a hA => ?_
            obtain ⟨A1, _, B1, hc4, hl1, _, he1⟩ := Els.at_ wc2 (getD_some default (by decide) hb2)
            obtain ⟨rfl, hw1⟩ := he1
            refine gT 10 hA rfl hI (fun w hI => r_rldP (j := 0) (q := (0 : Int).toNat * 34) (off := 0) A1 B1 [] [[.int .i64 ((c2.getD (0 : Int).toNat default).Op)], av .u8 32 ((c2.getD (0 : Int).toNat default).Tx), [.int .i64 ((c2.getD (0 : Int).toNat default).Reason)]] [] hc4 hl1 rfl Tryd.underlying79 rfl sz79 rfl hI rfl hA rfl) fun a hA => ?_
            refine gF 11 rfl ?_
            have hE5 : Els (RNote μ) 34 ([(c2.getD (0 : Int).toNat default)] : List Note) _ := (Els.cons (c := [[.int .i64 ((c2.getD (0 : Int).toNat default).Op)], av .u8 32 ((c2.getD (0 : Int).toNat default).Tx), [.int .i64 ((c2.getD (0 : Int).toNat default).Reason)]].flatten) ⟨rfl, ⟨hw1.1, hw1.2.1, hw1.2.2⟩⟩ rfl Els.nil)
            refine o_bsl ([[.int .i64 ((c2.getD (0 : Int).toNat default).Op)], av .u8 32 ((c2.getD (0 : Int).toNat default).Tx), [.int .i64 ((c2.getD (0 : Int).toNat default).Reason)]].flatten ++ ([])) te79 zr79 Tryd.underlying76 hI hA rfl rfl rfl rfl (by kernel_rfl) rfl fun g3 a w hA hI => ?_
            generalize hcs : ([[.int .i64 ((c2.getD (0 : Int).toNat default).Op)], av .u8 32 ((c2.getD (0 : Int).toNat default).Tx), [.int .i64 ((c2.getD (0 : Int).toNat default).Reason)]].flatten ++ ([]) : List Value) = cs5 at hE5 hI
            clear hcs
            refine o_nil <| ⟨(.inr (hI.sl [1, 2, 3, 4] rfl)), ?_⟩
            refine gF 12 rfl ?_
            obtain ⟨hb3, H⟩ := bG H
            have hE7 := hp4.app hE5
            refine o_appG (xs := (x0.Gone : List Note)) (ys := (([(c2.getD (0 : Int).toNat default)] : List Note) : List Note)) (M := 2932031007402) 4 te79 Tryd.underlying76 hI rfl hA rfl rfl (src_row hI (j := 0) rfl) hE5.len (hE5.ones RNote.ones) hb3 rfl fun v3 a w hA hI => ?_
            refine o_nil <| ⟨(.inl (by kernel_rfl)), ?_⟩
            refine gE 13 hA rfl (.inl (by kernel_rfl)) (fun _ => r_nilc hA rfl) fun a hA => ?_
            refine gE 14 hA rfl (.inl (by kernel_rfl)) (fun _ => r_fd (k := 3) Tryd.underlying85 rfl sz76 hA rfl rfl) fun a hA => ?_
            refine gF 15 rfl ?_
            have hone := own_one hI (j := 4) rfl
            have hcel := own_cell hI (j := 4) rfl
            refine o_st (j := 3) [[.int .i64 x0.Most], [.int .i64 x0.Op], [vvc2]] [[vp2]] [[v3]] [] sz76 rfl rfl (by intro c hc; simp at hc; subst hc; exact hone) hI rfl hA rfl rfl hcel rfl fun w hI => ?_
            refine o_nil <| ⟨(.inl (by kernel_rfl)), ?_⟩
            refine gN <| hN5 _ _ <| w_reg <| stm hA rfl rfl fun a hA => 
              stm hA rfl rfl fun a hA => 
              stp hA (r_nilc hA rfl) rfl fun a hA => 
              stp hA (r_fd (k := 2) Tryd.underlying85 rfl sz76 hA rfl rfl) rfl fun a hA => 
              stp hA (r_ld1 (j := 3) [[.int .i64 x0.Most], [.int .i64 x0.Op]] [[v3]] Tryd.underlying76 rfl hI rfl hA rfl rfl) rfl fun a hA => ?_
            obtain ⟨μ2, hle2, hsv3, hI⟩ := hI.freezeRow 1 rfl
            have hS1 : Slc (RNote μ2) 34 μ2 vvc2 c2 := ⟨_, wc2, hsv3⟩
            obtain ⟨hb4, H⟩ := bG H
            obtain ⟨v4, hS2, hr2⟩ := r_sl (P := Tryd.prog) (t := 76) (x := .tmp 59) (l := (some (.const (.int .i64 1)))) (h := none) (i := 1) (j := (c2.length : Int)) Tryd.underlying76 sz79 hS1 hA rfl rfl rfl (by have hq := hb4; omega) (by have hq := hb4; omega) (by have hq := hb4; omega)
            refine stp hA (hr2 _ _ _ _ _ _) rfl fun a hA => 
              stp hA (r_nilc hA rfl) rfl fun a hA => 
              stp hA (r_fd (k := 2) Tryd.underlying85 rfl sz76 hA rfl rfl) rfl fun a hA => ?_
            obtain ⟨_, hsc⟩ := Slc.sv hS2
            refine o_st (j := 2) [[.int .i64 x0.Most], [.int .i64 x0.Op]] [[vvc2]] [[v4]] [[v3]] sz76 rfl rfl (by intro c hc; simp at hc; subst hc; exact one_sl hsc) hI rfl hA rfl rfl (cells_sl hsc) rfl fun w hI => ?_
            refine o_nil ?_
            cases sJ H
            exact ⟨μ2, v4, v3, cp1 ++ cs5, hle2, hS2, hE7, hA.sub ⟨rfl, trivial⟩, (hI.sl [3, 1, 2] rfl)⟩
          · obtain ⟨hc3, H⟩ := dF H hc3
            refine w_skip ?_
            obtain ⟨μ3, hle3, hsv4, hI⟩ := hI.freezeRow 0 rfl
            have hS3 : Slc (RNote μ3) 34 μ3 vvc2 c2 := ⟨_, wc2, hsv4⟩
            cases sJ H
            exact ⟨μ3, vvc2, vp2, cp1, hle3, hS3, hp4, hA.sub ⟨rfl, trivial⟩, (hI.sl [2, 0, 1] rfl)⟩
        · rintro a w ⟨μ1, vvc3, vvc4, ccc4, hle1, wc3, wc4, hA, hI⟩
          have H := Hk3
          refine w_seq fun _ hN6 => w_reg <| sta hA rfl rfl fun a hA => ?_
          refine o_nil <| hN6 _ _ <| w_ret ?_
          obtain rfl := sJ H
          exact ret1 hA Tryd.results36 rfl ⟨_, rfl, vvc3, vvc4, ccc4, μ1, rfl, (in_lit .i64 0 rfl), hp1, hp2, wc3, wc4, (hI.sl [2, 0] rfl)⟩
set_option maxRecDepth 20000 in
theorem sargassoref18_Of.c (μ : Store) (w0 : World) (hμ : Agr μ w0) (x0 : List Note) (u0 : Value) (hx0 : Slc (RNote μ) 34 μ u0 x0) (x1 : Int) (hx1 : InR .i64 x1) (r : List Note) (H : sargassoref18_Of.f x0 x1 = some r) :
    Calls Tryd.prog 38 [u0, .int .i64 x1].toArray w0 (fun e w' => ∃ v, e = .returned v ∧ ∃ (v0 : Value) (c0 : List Value), v = v0 ∧ Els (RNote μ) 34 r c0 ∧ Iv w0 [] μ μ [row 79 34 v0 r.length c0] w') := by
  refine enter Tryd.func38 rfl Tryd.ntmps38 rfl fun a hA => ?_
  have hI := Iv.start hμ
  have H := bI H
  refine w_seq fun _ hN1 => w_reg <| sta hA rfl rfl fun a hA => ?_
  refine o_nil <| hN1 _ _ <| w_seq fun _ hN2 => w_reg <| sta hA rfl rfl fun a hA => ?_
  refine o_nil <| hN2 _ _ ?_
  obtain ⟨c1, hz1, Hk1⟩ := bB H
  refine w_cut (fun a w => ∃ (vvc1 : Value) (ccc1 : List Value), Els (RNote μ) 34 c1 ccc1 ∧ Fr a 28 [(4, (.slice none 0 0)), (5, vvc1)] ∧ Iv w0 [] μ μ [row 79 34 vvc1 c1.length ccc1] w) ?_ ?_
  · have H := bI hz1
    refine w_seq fun _ hN3 => w_reg <| sta hA rfl rfl fun a hA => ?_
    refine o_nil <| hN3 _ _ <| w_block ?_
    have hI := hI.nilRow 79 34
    obtain ⟨z1, hz2, Hk2⟩ := bind_some H
    obtain ⟨n1, hn1⟩ := loopO_some hz2
    refine w_loop (fun n a w => ∃ (s1 : List Note) (s2 : Int) (vvs1 : Value) (ccs1 : List Value), loopN (sargassoref18_Of.s0 x0 x1) n (s1, s2) = some z1 ∧ Els (RNote μ) 34 s1 ccs1 ∧ InR .i64 s2 ∧ Fr a 28 [(0, u0), (1, .int .i64 x1), (4, (.slice none 0 0)), (5, vvs1), (6, .int .i64 s2)] ∧ Iv w0 [] μ μ [row 79 34 vvs1 s1.length ccs1] w) n1 ⟨[], 0, (.slice none 0 0), [], hn1, (Els.nil (RE := (RNote μ)) (sz := 34)), (in_lit .i64 0 rfl), hA.sub ⟨rfl, rfl, rfl, rfl, rfl, trivial⟩, hI⟩ ?_
    clear hA hI
    rintro n a w ⟨s1, s2, vvs1, ccs1, hn1, ws1, ws2, hA, hI⟩
    obtain ⟨m1, rfl, H⟩ := loopN_bind hn1
    clear hn1
    refine w_seq fun _ hN4 => w_seq fun _ hN5 => w_reg <| stm hA rfl rfl fun a hA => 
      stm hA rfl rfl fun a hA => ?_
    obtain ⟨_, hsl1⟩ := Slc.sv hx0
    refine stp hA (r_slen Tryd.underlying76 hsl1 hA rfl) rfl fun a hA => 
      stp hA (r_lss hA rfl rfl) rfl fun a hA => ?_
    refine o_nil <| hN5 _ _ <| w_cond hA rfl (fun hc1 => ?_) (fun hc1 => ?_)
    · obtain ⟨hc1, H⟩ := dT H hc1
      refine w_skip <| hN4 _ _ ?_
      obtain ⟨c2, hz3, Hk3⟩ := bB H
      refine w_cut (fun a w => ∃ (vvc2 : Value) (ccc2 : List Value), Els (RNote μ) 34 c2 ccc2 ∧ Fr a 28 [(0, u0), (1, .int .i64 x1), (4, (.slice none 0 0)), (5, vvc2), (6, .int .i64 s2), (10, .bool (decide (s2 < (x0.length : Int))))] ∧ Iv w0 [] μ μ [row 79 34 vvc2 c2.length ccc2] w) ?_ ?_
      · have H := bI hz3
        refine w_block <| w_seq fun _ hN6 => w_reg <| stm hA rfl rfl fun a hA => 
          stm hA rfl rfl fun a hA => ?_
        obtain ⟨hb1, H⟩ := bG H
        obtain ⟨_, he1, _, hat1⟩ := Slc.elem hx0 (getD_some default hb1.1 hb1.2)
        obtain ⟨rfl, hw1⟩ := he1
        obtain ⟨_, hsl2⟩ := Slc.sv hx0
        refine stp hA (r_six Tryd.underlying76 sz79 hsl2 hA rfl rfl hb1.1 hb1.2) rfl fun a hA => 
          stp hA (r_fd (k := so u0 + s2.toNat * 34) Tryd.underlying79 rfl sz3 hA rfl rfl) rfl fun a hA => 
          stp hA (r_ldm1 [] [av .u8 32 ((x0.getD s2.toNat default).Tx), [.int .i64 ((x0.getD s2.toNat default).Reason)]] Tryd.underlying3 rfl hI.agr hat1 hA rfl rfl) rfl fun a hA => 
          stm hA rfl rfl fun a hA => 
          stp hA (r_eql hA rfl rfl) rfl fun a hA => ?_
        refine o_nil <| hN6 _ _ <| w_cond hA rfl (fun hc2 => ?_) (fun hc2 => ?_)
        · obtain ⟨hc2, H⟩ := dT H hc2
          refine w_reg <| stm hA rfl rfl fun a hA => 
            stm hA rfl rfl fun a hA => 
            stm hA rfl rfl fun a hA => 
            stp hA (r_six Tryd.underlying76 sz79 hsl2 hA rfl rfl hb1.1 hb1.2) rfl fun a hA => 
            stp hA (r_ldmA [] [[.int .i64 ((x0.getD s2.toNat default).Op)], av .u8 32 ((x0.getD s2.toNat default).Tx), [.int .i64 ((x0.getD s2.toNat default).Reason)]] [] Tryd.underlying79 rfl sz79 rfl hI.agr hat1 hA rfl rfl) rfl fun a hA => ?_
          have hE1 : Els (RNote μ) 34 ([(x0.getD s2.toNat default)] : List Note) _ := (Els.cons (c := [[.int .i64 ((x0.getD s2.toNat default).Op)], av .u8 32 ((x0.getD s2.toNat default).Tx), [.int .i64 ((x0.getD s2.toNat default).Reason)]].flatten) ⟨rfl, ⟨hw1.1, hw1.2.1, hw1.2.2⟩⟩ rfl Els.nil)
          refine o_bsl ([[.int .i64 ((x0.getD s2.toNat default).Op)], av .u8 32 ((x0.getD s2.toNat default).Tx), [.int .i64 ((x0.getD s2.toNat default).Reason)]].flatten ++ ([])) te79 zr79 Tryd.underlying76 hI hA rfl rfl rfl rfl (by kernel_rfl) rfl fun g1 a w hA hI => ?_
          generalize hcs : ([[.int .i64 ((x0.getD s2.toNat default).Op)], av .u8 32 ((x0.getD s2.toNat default).Tx), [.int .i64 ((x0.getD s2.toNat default).Reason)]].flatten ++ ([]) : List Value) = cs1 at hE1 hI
          clear hcs
          obtain ⟨hb2, H⟩ := bG H
          have hE3 := ws1.app hE1
          refine o_appG (xs := (s1 : List Note)) (ys := (([(x0.getD s2.toNat default)] : List Note) : List Note)) (M := 2932031007402) 1 te79 Tryd.underlying76 hI rfl hA rfl rfl (src_row hI (j := 0) rfl) hE1.len (hE1.ones RNote.ones) hb2 rfl fun v1 a w hA hI => 
            sta hA rfl rfl fun a hA => ?_
          refine o_nil ?_
          cases sJ H
          exact ⟨v1, ccs1 ++ cs1, hE3, hA.sub ⟨rfl, rfl, rfl, rfl, rfl, rfl, trivial⟩, (hI.sl [1] rfl)⟩
        · obtain ⟨hc2, H⟩ := dF H hc2
          refine w_skip ?_
          cases sJ H
          exact ⟨vvs1, ccs1, ws1, hA.sub ⟨rfl, rfl, rfl, rfl, rfl, rfl, trivial⟩, hI⟩
      · rintro a w ⟨vvc2, ccc2, wc2, hA, hI⟩
        have H := Hk3
        refine w_reg <| stm hA rfl rfl fun a hA => 
          stp hA (r_add hA rfl rfl) rfl fun a hA => 
          sta hA rfl rfl fun a hA => ?_
        refine o_nil <| ⟨m1, Nat.lt_succ_self _, c2, IntKind.i64.wrap (s2 + 1), vvc2, ccc2, H, wc2, (wrap_in _ _), hA.sub ⟨rfl, rfl, rfl, rfl, rfl, trivial⟩, hI⟩
    · obtain ⟨hc1, H⟩ := dF H hc1
      refine w_exit rfl ?_
      have H : some s1 = some z1 := H
      obtain rfl := sI H
      have H := Hk2
      cases sJ H
      exact ⟨vvs1, ccs1, ws1, hA.sub ⟨rfl, rfl, trivial⟩, hI⟩
  · rintro a w ⟨vvc1, ccc1, wc1, hA, hI⟩
    have H := Hk1
    refine w_seq fun _ hN7 => w_reg <| stm hA rfl rfl fun a hA => 
      sta hA rfl rfl fun a hA => ?_
    refine o_nil <| hN7 _ _ <| w_ret ?_
    obtain rfl := sJ H
    exact ret1 hA Tryd.results38 rfl ⟨_, rfl, vvc1, ccc1, rfl, wc1, (hI.less (Store.le.refl _) hI.le)⟩
end Go.Proofs.YtcpdnoochieecaaDoor.T
namespace Go.Proofs.YtcpdnoochieecaaDoor.T
open Go Go.Proofs Go.Proofs.YtcpdnoochieecaaDoor.K
set_option linter.unusedVariables false
set_option linter.unusedSimpArgs false
noncomputable def sargassolaw20_first.f : Option Bool := ((notes_New.f 3).bind fun r1 => (oM r1.1 ((some ()).bind fun _ => some false) fun p1 => (((if r1.2 = (Er.b 0) then ((notes_Log_All.f (⟨p1.most, p1.op, p1.l, p1.lost⟩ : notesLog)).bind fun r2 => (if (r2.length : Int) = 0 then ((notes_Log_Begin.f (⟨p1.most, p1.op, p1.l, p1.lost⟩ : notesLog)).bind fun r3 => some (decide (r3.1 = 1), r3.2.most, r3.2.op, r3.2.l, r3.2.lost)) else some (false, p1.most, p1.op, p1.l, p1.lost))) else some (false, p1.most, p1.op, p1.l, p1.lost))).bind fun (c1, c2, c3, c4, c5) => some c1)))
end Go.Proofs.YtcpdnoochieecaaDoor.T
namespace Go.Proofs.YtcpdnoochieecaaDoor.T
open Go Go.Proofs Go.Proofs.YtcpdnoochieecaaDoor.K
set_option linter.unusedVariables false
set_option linter.unusedSimpArgs false
set_option maxRecDepth 20000 in
theorem sargassolaw20_first.c (μ : Store) (w0 : World) (hμ : Agr μ w0) (e7 : Value) (he7 : ErS μ e7 (Er.b 8)) (r : Bool) (H : sargassolaw20_first.f = some r) :
    Calls Tryd.prog 27 [].toArray w0 (fun e w' => ∃ v, e = .returned v ∧ v = .bool r ∧ True ∧ Iv w0 [] μ μ [] w') := by
  refine enter Tryd.func27 rfl Tryd.ntmps27 rfl fun a hA => ?_
  have hI := Iv.start hμ
  have H := bI H
  refine w_seq fun _ hN1 => w_reg <| sta hA rfl rfl fun a hA => ?_
  refine o_nil <| hN1 _ _ <| w_seq fun _ hN2 => w_reg ?_
  obtain ⟨r1, hr1, H⟩ := bB H
  refine o_call _ cf28 hA rfl (notes_New.c μ _ hI.agr 3 (in_lit .i64 3 rfl) e7 he7 r1 hr1) rfl fun v1 a w hz1 hA => ?_
  rcases hz1 with ⟨ho1, hz2⟩ | ⟨p1, ho1, hz2⟩
  · skip
    have H := bON H ho1
    obtain ⟨v2, μ1, rfl, hS1, hi1⟩ := hz2
    have hI := hI.call hi1
    refine stm hA rfl rfl fun a hA => 
      stp hA (r_extr (vs := [.pointer none, v2]) hA rfl rfl) rfl fun a hA => 
      stp hA (r_extr (vs := [.pointer none, v2]) hA rfl rfl) rfl fun a hA => 
      sta hA rfl rfl fun a hA => 
      sta hA rfl rfl fun a hA => ?_
    refine o_nil <| hN2 _ _ ?_
    obtain ⟨⟨⟩, hz3, Hk1⟩ := bB H
    refine w_cut (fun a w => Fr a 24 [(0, .bool false)] ∧ Iv w0 [] μ μ1 [] w) ?_ ?_
    · have H := bI hz3
      refine w_reg <| stm hA rfl rfl fun a hA => 
        stp hA (r_nilnil_neq Tryd.underlying71 hA rfl rfl) rfl fun a hA => 
        stm hA rfl rfl fun a hA => 
        o_no hA rfl rfl (by simp [vb]) rfl fun a hA => 
        o_no hA rfl rfl (by simp [vb]) rfl fun a hA => 
        stp hA (r_pick_f hA rfl rfl rfl) rfl fun a hA => 
        stm hA rfl rfl fun a hA => 
        o_no hA rfl rfl (by simp [vb]) rfl fun a hA => 
        o_no hA rfl rfl (by simp [vb]) rfl fun a hA => 
        o_no hA rfl rfl (by simp [vb]) rfl fun a hA => 
        o_no hA rfl rfl (by simp [vb]) rfl fun a hA => 
        stp hA (r_pick_f hA rfl rfl rfl) rfl fun a hA => 
        stm hA rfl rfl fun a hA => 
        o_no hA rfl rfl (by simp [vb]) rfl fun a hA => 
        o_no hA rfl rfl (by simp [vb]) rfl fun a hA => 
        o_no hA rfl rfl (by simp [vb]) rfl fun a hA => 
        stp hA (r_pick_f hA rfl rfl rfl) rfl fun a hA => 
        sta hA rfl rfl fun a hA => ?_
      refine o_nil ?_
      cases sJ H
      exact ⟨hA.sub ⟨rfl, trivial⟩, hI⟩
    · rintro a w ⟨hA, hI⟩
      have H := Hk1
      refine w_ret ?_
      obtain rfl := sJ H
      exact ret1 hA Tryd.results27 rfl ⟨_, rfl, rfl, trivial, hI.forget0⟩
  · skip
    have H := bOS H ho1
    obtain ⟨g1, vp1, cp1, gm1, v3, μ2, rfl, hp1, hp2, hp3, hp4, hS2, hi2⟩ := hz2
    have hI := hI.call hi2
    refine stm hA rfl rfl fun a hA => 
      stp hA (r_extr (vs := [.pointer (some ⟨g1, 0, none⟩), v3]) hA rfl rfl) rfl fun a hA => 
      stp hA (r_extr (vs := [.pointer (some ⟨g1, 0, none⟩), v3]) hA rfl rfl) rfl fun a hA => 
      sta hA rfl rfl fun a hA => 
      sta hA rfl rfl fun a hA => ?_
    refine o_nil <| hN2 _ _ ?_
    obtain ⟨⟨c1, c2, c3, c4, c5⟩, hz4, Hk2⟩ := bB H
    refine w_cut (fun a w => ∃ (vvc4 : Value) (ccc4 : List Value) (ggc5 : Nat), InR .i64 c2 ∧ InR .i64 c3 ∧ Els (RNote μ2) 34 c4 ccc4 ∧ mw131 c5 ∧ Fr a 24 [(0, .bool c1)] ∧ Iv w0 [] μ μ2 [row 79 34 vvc4 c4.length ccc4, mpI ggc5 (ent kv131 vv131 c5), cel g1 [[.int .i64 c2], [.int .i64 c3], [vvc4], [.map (some ggc5)]] 133] w) ?_ ?_
    · have H := bI hz4
      refine w_reg <| stm hA rfl rfl fun a hA => 
        stp hA (r_ptrnil_neq Tryd.underlying71 hA rfl rfl) rfl fun a hA => 
        stm hA rfl rfl fun a hA => 
        o_yes hA rfl rfl rfl <| 
        stm hA rfl rfl fun a hA => 
        o_yes hA rfl rfl rfl <| 
        stp hA (r_eqE erF hI.agr hS2 erv_nil (.inl ⟨.inr ⟨_, rfl⟩, Er.fitR⟩) hA rfl rfl) rfl fun a hA => 
        stp hA (r_pick_t hA rfl rfl rfl) rfl fun a hA => 
        stm hA rfl rfl fun a hA => ?_
      rcases Bool.eq_false_or_eq_true (decide (r1.2 = (Er.b 0))) with hc1 | hc1
      · have hc10 := hc1; obtain ⟨hc1, H⟩ := dT H hc1
        refine o_yes hA rfl rfl hc10 <| 
          stm hA rfl rfl fun a hA => 
          o_yes hA rfl rfl hc10 <| ?_
        obtain ⟨r2, hr2, H⟩ := bB H
        refine o_call _ cf31 hA rfl (notes_Log_All.c μ2 _ hI.agr (⟨p1.most, p1.op, p1.l, p1.lost⟩ : notesLog) vp1 cp1 gm1 g1 hp1 hp2 hp3 hp4 (hI.handN 3) r2 hr2) rfl fun v4 a w hz5 hA => ?_
        obtain ⟨_, cs1, rfl, hE1, hi3⟩ := hz5
        have hI := hI.backN 3 hi3
        have hI : Iv w0 [] μ μ2 [row 79 34 v4 r2.length cs1, cel g1 [[.int .i64 p1.most], [.int .i64 p1.op], [vp1], [.map (some gm1)]] 133, row 79 34 vp1 p1.l.length cp1, mpI gm1 (ent kv131 vv131 p1.lost)] w := hI
        refine o_yes hA rfl rfl hc10 <| ?_
        have hlen1 := Iv.row_in hI (j := 0) rfl
        refine stp hA (r_rlen (xs := 0) Tryd.underlying76 hI (j := 0) rfl hA rfl) rfl fun a hA => 
          o_yes hA rfl rfl hc10 <| 
          stp hA (r_eql hA rfl rfl) rfl fun a hA => 
          stp hA (r_pick_t hA rfl hc10 rfl) rfl fun a hA => 
          stm hA rfl rfl fun a hA => ?_
        rcases Bool.eq_false_or_eq_true (decide ((r2.length : Int) = 0)) with hc2 | hc2
        · have hc20 := hc2; obtain ⟨hc2, H⟩ := dT H hc2
          refine o_yes hA rfl rfl hc20 <| 
            stm hA rfl rfl fun a hA => 
            o_yes hA rfl rfl hc20 <| ?_
          obtain ⟨r3, hr3, H⟩ := bB H
          have hI := hI.sl [1, 2, 3, 0] rfl
          refine o_call _ cf29 hA rfl (notes_Log_Begin.c μ2 _ hI.agr (⟨p1.most, p1.op, p1.l, p1.lost⟩ : notesLog) vp1 cp1 gm1 g1 hp1 hp2 hp3 hp4 (hI.handN 3) r3 hr3) rfl fun v5 a w hz6 hA => ?_
          obtain ⟨vp2, cp2, gm2, rfl, hw1, hp5, hp6, hp7, hp8, hi4⟩ := hz6
          have hI := hI.back3 hi4
          refine o_yes hA rfl rfl hc20 <| 
            stp hA (r_eql hA rfl rfl) rfl fun a hA => 
            stp hA (r_pick_t hA rfl hc20 rfl) rfl fun a hA => 
            sta hA rfl rfl fun a hA => ?_
          refine o_nil ?_
          cases sJ H
          exact ⟨vp2, cp2, gm2, hp5, hp6, hp7, hp8, hA.sub ⟨rfl, trivial⟩, (hI.sl [1, 2, 0] rfl)⟩
        · have hc20 := hc2; obtain ⟨hc2, H⟩ := dF H hc2
          refine o_no hA rfl rfl (by rw [hc20]; simp [vb]) rfl fun a hA => 
            o_no hA rfl rfl (by rw [hc20]; simp [vb]) rfl fun a hA => 
            o_no hA rfl rfl (by rw [hc20]; simp [vb]) rfl fun a hA => 
            stp hA (r_pick_f hA rfl hc20 rfl) rfl fun a hA => 
            sta hA rfl rfl fun a hA => ?_
          refine o_nil ?_
          cases sJ H
          exact ⟨vp1, cp1, gm1, hp1, hp2, hp3, hp4, hA.sub ⟨rfl, trivial⟩, (hI.sl [2, 3, 1] rfl)⟩
      · have hc10 := hc1; obtain ⟨hc1, H⟩ := dF H hc1
        refine o_no hA rfl rfl (by rw [hc10]; simp [vb]) rfl fun a hA => 
          o_no hA rfl rfl (by rw [hc10]; simp [vb]) rfl fun a hA => 
          o_no hA rfl rfl (by rw [hc10]; simp [vb]) rfl fun a hA => 
          o_no hA rfl rfl (by rw [hc10]; simp [vb]) rfl fun a hA => 
          stp hA (r_pick_f hA rfl hc10 rfl) rfl fun a hA => 
          stm hA rfl rfl fun a hA => 
          o_no hA rfl rfl (by simp [vb]) rfl fun a hA => 
          o_no hA rfl rfl (by simp [vb]) rfl fun a hA => 
          o_no hA rfl rfl (by simp [vb]) rfl fun a hA => 
          stp hA (r_pick_f hA rfl rfl rfl) rfl fun a hA => 
          sta hA rfl rfl fun a hA => ?_
        refine o_nil ?_
        cases sJ H
        exact ⟨vp1, cp1, gm1, hp1, hp2, hp3, hp4, hA.sub ⟨rfl, trivial⟩, (hI.sl [1, 2, 0] rfl)⟩
    · rintro a w ⟨vvc4, ccc4, ggc5, wc2, wc3, wc4, wc5, hA, hI⟩
      have H := Hk2
      refine w_ret ?_
      obtain rfl := sJ H
      exact ret1 hA Tryd.results27 rfl ⟨_, rfl, rfl, trivial, hI.forget0⟩
end Go.Proofs.YtcpdnoochieecaaDoor.T
namespace Go.Proofs.YtcpdnoochieecaaDoor.T
open Go Go.Proofs Go.Proofs.YtcpdnoochieecaaDoor.K
set_option linter.unusedVariables false
set_option linter.unusedSimpArgs false
noncomputable def sargassolaw20_NotesPlay.s1 (x1 : List sargassolaw20Do) (x2 : Int) (r1 : Bool) : (Int × Int × Int × (List Note) × (List Note) × Int × Int × (List Note) × (List (Int × Int))) → Option ((Int × Int × Int × (List Note) × (List Note) × Int × Int × (List Note) × (List (Int × Int))) ⊕ Bool) := fun (s1, s2, s3, s4, s5, s6, s7, s8, s9) => (if s1 < (x1.length : Int) then ((notes_Log_Clone.f (⟨s6, s7, s8, s9⟩ : notesLog)).bind fun r4 => ((notes_Log_All.f (⟨r4.most, r4.op, r4.l, r4.lost⟩ : notesLog)).bind fun r5 => (if 0 ≤ s1 ∧ s1 < (x1.length : Int) then (if ((x1.getD s1.toNat default).Kind) = 1 then ((notes_Log_Begin.f (⟨s6, s7, s8, s9⟩ : notesLog)).bind fun r6 => (if r6.1 ≠ (IntKind.i64.wrap (s3 + 1)) then some (.inr false) else ((((notes_Log_Op.f (⟨r6.2.most, r6.2.op, r6.2.l, r6.2.lost⟩ : notesLog)).bind fun r7 => (if r7 ≠ (IntKind.i64.wrap (s3 + 1)) then some true else ((notes_Log_All.f (⟨r6.2.most, r6.2.op, r6.2.l, r6.2.lost⟩ : notesLog)).bind fun r8 => ((sargassoref_SameNotes.f r8 s4).bind fun r9 => (if r9 = true then ((notes_Log_Of.f (⟨r6.2.most, r6.2.op, r6.2.l, r6.2.lost⟩ : notesLog) x2).bind fun r10 => ((sargassoref18_Of.f s4 x2).bind fun r11 => ((sargassoref_SameNotes.f r10 r11).bind fun r12 => (if r12 = true then ((notes_Log_Lost.f (⟨r6.2.most, r6.2.op, r6.2.l, r6.2.lost⟩ : notesLog) x2).bind fun r13 => ((sargassoref18_Of.f s5 x2).bind fun r14 => (if r13 ≠ (r14.length : Int) then some true else ((notes_Log_All.f (⟨r4.most, r4.op, r4.l, r4.lost⟩ : notesLog)).bind fun r15 => some (decide ((r15.length : Int) ≠ (r5.length : Int))))))) else some true)))) else some true)))))).bind fun c7 => (if c7 = true then some (.inr false) else some (.inl (IntKind.i64.wrap (s1 + 1), s2, IntKind.i64.wrap (s3 + 1), s4, s5, r6.2.most, r6.2.op, r6.2.l, r6.2.lost)))))) else ((notes_Log_Add.f (⟨s6, s7, s8, s9⟩ : notesLog) ((x1.getD s1.toNat default).Tx) ((x1.getD s1.toNat default).Reason)).bind fun r16 => ((sargassoref18_Log_Add.f (⟨s2, s3, s4, s5⟩ : sargassoref18Log) ((x1.getD s1.toNat default).Tx) ((x1.getD s1.toNat default).Reason)).bind fun r17 => ((sargassosee_Is.f r16.1 r17.1).bind fun r18 => (if r18 = true then ((((notes_Log_Op.f (⟨r16.2.most, r16.2.op, r16.2.l, r16.2.lost⟩ : notesLog)).bind fun r19 => (if r19 ≠ r17.2.Op then some true else ((notes_Log_All.f (⟨r16.2.most, r16.2.op, r16.2.l, r16.2.lost⟩ : notesLog)).bind fun r20 => ((sargassoref_SameNotes.f r20 r17.2.L).bind fun r21 => (if r21 = true then ((notes_Log_Of.f (⟨r16.2.most, r16.2.op, r16.2.l, r16.2.lost⟩ : notesLog) x2).bind fun r22 => ((sargassoref18_Of.f r17.2.L x2).bind fun r23 => ((sargassoref_SameNotes.f r22 r23).bind fun r24 => (if r24 = true then ((notes_Log_Lost.f (⟨r16.2.most, r16.2.op, r16.2.l, r16.2.lost⟩ : notesLog) x2).bind fun r25 => ((sargassoref18_Of.f r17.2.Gone x2).bind fun r26 => (if r25 ≠ (r26.length : Int) then some true else ((notes_Log_All.f (⟨r4.most, r4.op, r4.l, r4.lost⟩ : notesLog)).bind fun r27 => some (decide ((r27.length : Int) ≠ (r5.length : Int))))))) else some true)))) else some true)))))).bind fun c8 => (if c8 = true then some (.inr false) else some (.inl (IntKind.i64.wrap (s1 + 1), r17.2.Most, r17.2.Op, r17.2.L, r17.2.Gone, r16.2.most, r16.2.op, r16.2.l, r16.2.lost)))) else some (.inr false)))))) else none))) else some (.inr r1))
noncomputable def sargassolaw20_NotesPlay.s0 (x1 : List sargassolaw20Do) (r1 : Bool) : Unit → Option (Unit ⊕ Bool) := fun _ => (if 0 < (x1.length : Int) then none else some (.inr r1))
noncomputable def sargassolaw20_NotesPlay.f (x0 : Int) (x1 : List sargassolaw20Do) (x2 : Int) : Option Bool := ((sargassolaw20_first.f).bind fun r1 => (if r1 = true then ((notes_New.f x0).bind fun r2 => (oM r2.1 (((if x0 < 1 then some true else some (decide (65536 < x0)))).bind fun c1 => (if c1 = true then (((if r1 = true then ((sargassosee_Is.f r2.2 122).bind fun r3 => some r3) else some false)).bind fun c2 => some c2) else ((some true).bind fun c3 => (if c3 = true then (((if r1 = true then some () else some ())).bind fun _ => some false) else loopO (sargassolaw20_NotesPlay.s0 x1 r1) ())))) fun p1 => (((if x0 < 1 then some true else some (decide (65536 < x0)))).bind fun c4 => (if c4 = true then (((if r1 = true then some () else some ())).bind fun _ => some false) else (((if r2.2 ≠ (Er.b 0) then some true else some (decide (100 < (x1.length : Int))))).bind fun c5 => (if c5 = true then (((if r1 = true then some (decide (r2.2 = (Er.b 0))) else some false)).bind fun c6 => some c6) else loopO (sargassolaw20_NotesPlay.s1 x1 x2 r1) (0, x0, 0, [], [], p1.most, p1.op, p1.l, p1.lost))))))) else some false))
end Go.Proofs.YtcpdnoochieecaaDoor.T
