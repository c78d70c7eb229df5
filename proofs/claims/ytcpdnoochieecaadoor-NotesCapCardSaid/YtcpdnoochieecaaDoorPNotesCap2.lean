/- Proved: the statement NotesCap, as given (its conditions are those of the given row, and card where there is one; no others): the call ends, with true, and the input reads as it did. This file is one of its parts. -/
import Derived.Test.YtcpdnoochieecaaDoorPNotesCap1
import Derived.OpenShut
import Derived.ChangeArms
import Derived.DataReads
import Derived.WideShapes
import Derived.Below
import Derived.Carry
import Derived.ChangeOld
import Derived.LaidLaws
import Derived.Stop.ErrReads
import Derived.ChangeVars
import Derived.Test.YtcpdnoochieecaaDoorRows
import Derived.Test.YtcpdnoochieecaaDoorProg
namespace Go.Proofs.YtcpdnoochieecaaDoor.T
open Go Go.Proofs Go.Proofs.YtcpdnoochieecaaDoor.K
set_option linter.unusedVariables false
set_option linter.unusedSimpArgs false
set_option maxRecDepth 20000 in
theorem sargassoworld_Number.c (μ : Store) (w0 : World) (hμ : Agr μ w0) (x0 : Int) (hx0 : InR .i64 x0) (x1 : Int) (hx1 : InR .i64 x1) (r : Int) (H : sargassoworld_Number.f x0 x1 = some r) :
    Calls Tryd.prog 11 [.int .i64 x0, .int .i64 x1].toArray w0 (fun e w' => ∃ v, e = .returned v ∧ v = .int .i64 r ∧ InR .i64 r ∧ Iv w0 [] μ μ [] w') := by
  refine enter Tryd.func11 rfl Tryd.ntmps11 rfl fun a hA => ?_
  have hI := Iv.start hμ
  have H := bI H
  refine w_seq fun _ hN1 => w_reg <| sta hA rfl rfl fun a hA => ?_
  refine o_nil <| hN1 _ _ <| w_seq fun _ hN2 => w_reg <| stm hA rfl rfl fun a hA => 
    stm hA rfl rfl fun a hA => ?_
  obtain ⟨hb1, H⟩ := bG H
  refine stp hA (r_rem hA rfl rfl hb1) rfl fun a hA => 
    sta hA rfl rfl fun a hA => ?_
  refine o_nil <| hN2 _ _ ?_
  obtain ⟨c1, hz1, Hk1⟩ := bB H
  refine w_cut (fun a w => InR .i64 c1 ∧ Fr a 15 [(4, .int .i64 0), (5, .int .i64 c1)] ∧ Iv w0 [] μ μ [] w) ?_ ?_
  · have H := bI hz1
    refine w_seq fun _ hN3 => w_reg <| stm hA rfl rfl fun a hA => 
      stp hA (r_lss hA rfl rfl) rfl fun a hA => ?_
    refine o_nil <| hN3 _ _ <| w_cond hA rfl (fun hc1 => ?_) (fun hc1 => ?_)
    · obtain ⟨hc1, H⟩ := dT H hc1
      refine w_reg <| stm hA rfl rfl fun a hA => 
        stm hA rfl rfl fun a hA => 
        stp hA (r_add hA rfl rfl) rfl fun a hA => 
        sta hA rfl rfl fun a hA => ?_
      refine o_nil ?_
      cases sJ H
      exact ⟨(wrap_in _ _), hA.sub ⟨rfl, rfl, trivial⟩, hI⟩
    · obtain ⟨hc1, H⟩ := dF H hc1
      refine w_skip ?_
      cases sJ H
      exact ⟨(tmod_in hx0 _), hA.sub ⟨rfl, rfl, trivial⟩, hI⟩
  · rintro a w ⟨wc1, hA, hI⟩
    have H := Hk1
    refine w_seq fun _ hN4 => w_reg <| stm hA rfl rfl fun a hA => 
      sta hA rfl rfl fun a hA => ?_
    refine o_nil <| hN4 _ _ <| w_ret ?_
    obtain rfl := sJ H
    exact ret1 hA Tryd.results11 rfl ⟨_, rfl, rfl, wc1, hI.forget0⟩
set_option maxRecDepth 20000 in
theorem sargassoref_SameFault.c (μ : Store) (w0 : World) (hμ : Agr μ w0) (x0 : sargassorefFault) (hx0 : sargassorefFaultW μ x0) (x1 : sargassorefFault) (hx1 : sargassorefFaultW μ x1) (r : Bool) (H : sargassoref_SameFault.f x0 x1 = some r) :
    Calls Tryd.prog 56 [.agg [[.int .i64 x0.Code], [.bool x0.Placed], [.int .i64 x0.Pos], [.bool x0.Outer], [.int .i64 x0.At]].flatten.toArray, .agg [[.int .i64 x1.Code], [.bool x1.Placed], [.int .i64 x1.Pos], [.bool x1.Outer], [.int .i64 x1.At]].flatten.toArray].toArray w0 (fun e w' => ∃ v, e = .returned v ∧ v = .bool r ∧ True ∧ Iv w0 [] μ μ [] w') := by
  refine enter Tryd.func56 rfl Tryd.ntmps56 rfl fun a hA => ?_
  have hI := Iv.start hμ
  have H := bI H
  refine w_seq fun _ hN1 => w_reg <| o_box [[.int .i64 x0.Code], [.bool x0.Placed], [.int .i64 x0.Pos], [.bool x0.Outer], [.int .i64 x0.At]] hI hA rfl rfl rfl fun g1 a w hA hI hg1 => 
    o_box [[.int .i64 x1.Code], [.bool x1.Placed], [.int .i64 x1.Pos], [.bool x1.Outer], [.int .i64 x1.At]] hI hA rfl rfl rfl fun g2 a w hA hI hg2 => 
    sta hA rfl rfl fun a hA => ?_
  refine o_nil <| hN1 _ _ ?_
  obtain ⟨c1, hz1, Hk1⟩ := bB H
  refine w_cut (fun a w => Fr a 38 [(4, .bool c1)] ∧ Iv w0 [] μ μ [cel g2 [[.int .i64 x1.Code], [.bool x1.Placed], [.int .i64 x1.Pos], [.bool x1.Outer], [.int .i64 x1.At]] 51, cel g1 [[.int .i64 x0.Code], [.bool x0.Placed], [.int .i64 x0.Pos], [.bool x0.Outer], [.int .i64 x0.At]] 51] w) ?_ ?_
  · have H := bI hz1
    refine w_reg <| stp hA (r_fd (k := 0) Tryd.underlying51 rfl sz3 hA rfl rfl) rfl fun a hA => 
      stp hA (r_ld1 (j := 1) [] [[.bool x0.Placed], [.int .i64 x0.Pos], [.bool x0.Outer], [.int .i64 x0.At]] Tryd.underlying3 rfl hI rfl hA rfl rfl) rfl fun a hA => 
      stp hA (r_fd (k := 0) Tryd.underlying51 rfl sz3 hA rfl rfl) rfl fun a hA => 
      stp hA (r_ld1 (j := 0) [] [[.bool x1.Placed], [.int .i64 x1.Pos], [.bool x1.Outer], [.int .i64 x1.At]] Tryd.underlying3 rfl hI rfl hA rfl rfl) rfl fun a hA => 
      stp hA (r_eql hA rfl rfl) rfl fun a hA => 
      stm hA rfl rfl fun a hA => ?_
    rcases Bool.eq_false_or_eq_true (decide (x0.Code = x1.Code)) with hc1 | hc1
    · have hc10 := hc1; obtain ⟨hc1, H⟩ := dT H hc1
      refine o_yes hA rfl rfl hc10 <| 
        stp hA (r_fd (k := 1) Tryd.underlying51 rfl sz4 hA rfl rfl) rfl fun a hA => 
        o_yes hA rfl rfl hc10 <| 
        stp hA (r_ld1 (j := 1) [[.int .i64 x0.Code]] [[.int .i64 x0.Pos], [.bool x0.Outer], [.int .i64 x0.At]] Tryd.underlying4 rfl hI rfl hA rfl rfl) rfl fun a hA => 
        o_yes hA rfl rfl hc10 <| 
        stp hA (r_fd (k := 1) Tryd.underlying51 rfl sz4 hA rfl rfl) rfl fun a hA => 
        o_yes hA rfl rfl hc10 <| 
        stp hA (r_ld1 (j := 0) [[.int .i64 x1.Code]] [[.int .i64 x1.Pos], [.bool x1.Outer], [.int .i64 x1.At]] Tryd.underlying4 rfl hI rfl hA rfl rfl) rfl fun a hA => 
        o_yes hA rfl rfl hc10 <| 
        stp hA (r_eqlb Tryd.underlying4 hA rfl rfl) rfl fun a hA => 
        stp hA (r_pick_t hA rfl hc10 rfl) rfl fun a hA => 
        stm hA rfl rfl fun a hA => ?_
      rcases Bool.eq_false_or_eq_true (decide (x0.Placed = x1.Placed)) with hc2 | hc2
      · have hc20 := hc2; obtain ⟨hc2, H⟩ := dT H hc2
        refine o_yes hA rfl rfl hc20 <| 
          stp hA (r_fd (k := 2) Tryd.underlying51 rfl sz3 hA rfl rfl) rfl fun a hA => 
          o_yes hA rfl rfl hc20 <| 
          stp hA (r_ld1 (j := 1) [[.int .i64 x0.Code], [.bool x0.Placed]] [[.bool x0.Outer], [.int .i64 x0.At]] Tryd.underlying3 rfl hI rfl hA rfl rfl) rfl fun a hA => 
          o_yes hA rfl rfl hc20 <| 
          stp hA (r_fd (k := 2) Tryd.underlying51 rfl sz3 hA rfl rfl) rfl fun a hA => 
          o_yes hA rfl rfl hc20 <| 
          stp hA (r_ld1 (j := 0) [[.int .i64 x1.Code], [.bool x1.Placed]] [[.bool x1.Outer], [.int .i64 x1.At]] Tryd.underlying3 rfl hI rfl hA rfl rfl) rfl fun a hA => 
          o_yes hA rfl rfl hc20 <| 
          stp hA (r_eql hA rfl rfl) rfl fun a hA => 
          stp hA (r_pick_t hA rfl hc20 rfl) rfl fun a hA => 
          stm hA rfl rfl fun a hA => ?_
        rcases Bool.eq_false_or_eq_true (decide (x0.Pos = x1.Pos)) with hc3 | hc3
        · have hc30 := hc3; obtain ⟨hc3, H⟩ := dT H hc3
          refine o_yes hA rfl rfl hc30 <| 
            stp hA (r_fd (k := 3) Tryd.underlying51 rfl sz4 hA rfl rfl) rfl fun a hA => 
            o_yes hA rfl rfl hc30 <| 
            stp hA (r_ld1 (j := 1) [[.int .i64 x0.Code], [.bool x0.Placed], [.int .i64 x0.Pos]] [[.int .i64 x0.At]] Tryd.underlying4 rfl hI rfl hA rfl rfl) rfl fun a hA => 
            o_yes hA rfl rfl hc30 <| 
            stp hA (r_fd (k := 3) Tryd.underlying51 rfl sz4 hA rfl rfl) rfl fun a hA => 
            o_yes hA rfl rfl hc30 <| 
            stp hA (r_ld1 (j := 0) [[.int .i64 x1.Code], [.bool x1.Placed], [.int .i64 x1.Pos]] [[.int .i64 x1.At]] Tryd.underlying4 rfl hI rfl hA rfl rfl) rfl fun a hA => 
            o_yes hA rfl rfl hc30 <| 
            stp hA (r_eqlb Tryd.underlying4 hA rfl rfl) rfl fun a hA => 
            stp hA (r_pick_t hA rfl hc30 rfl) rfl fun a hA => 
            stm hA rfl rfl fun a hA => ?_
          rcases Bool.eq_false_or_eq_true (decide (x0.Outer = x1.Outer)) with hc4 | hc4
          · have hc40 := hc4; obtain ⟨hc4, H⟩ := dT H hc4
            refine o_yes hA rfl rfl hc40 <| 
              stp hA (r_fd (k := 4) Tryd.underlying51 rfl sz3 hA rfl rfl) rfl fun a hA => 
              o_yes hA rfl rfl hc40 <| 
              stp hA (r_ld1 (j := 1) [[.int .i64 x0.Code], [.bool x0.Placed], [.int .i64 x0.Pos], [.bool x0.Outer]] [] Tryd.underlying3 rfl hI rfl hA rfl rfl) rfl fun a hA => 
              o_yes hA rfl rfl hc40 <| 
              stp hA (r_fd (k := 4) Tryd.underlying51 rfl sz3 hA rfl rfl) rfl fun a hA => 
              o_yes hA rfl rfl hc40 <| 
              stp hA (r_ld1 (j := 0) [[.int .i64 x1.Code], [.bool x1.Placed], [.int .i64 x1.Pos], [.bool x1.Outer]] [] Tryd.underlying3 rfl hI rfl hA rfl rfl) rfl fun a hA => 
              o_yes hA rfl rfl hc40 <| 
              stp hA (r_eql hA rfl rfl) rfl fun a hA => 
              stp hA (r_pick_t hA rfl hc40 rfl) rfl fun a hA => 
              sta hA rfl rfl fun a hA => ?_
            refine o_nil ?_
            cases sJ H
            exact ⟨hA.sub ⟨rfl, trivial⟩, hI⟩
          · have hc40 := hc4; obtain ⟨hc4, H⟩ := dF H hc4
            refine o_no hA rfl rfl (by rw [hc40]; simp [vb]) rfl fun a hA => 
              o_no hA rfl rfl (by rw [hc40]; simp [vb]) rfl fun a hA => 
              o_no hA rfl rfl (by rw [hc40]; simp [vb]) rfl fun a hA => 
              o_no hA rfl rfl (by rw [hc40]; simp [vb]) rfl fun a hA => 
              o_no hA rfl rfl (by rw [hc40]; simp [vb]) rfl fun a hA => 
              stp hA (r_pick_f hA rfl hc40 rfl) rfl fun a hA => 
              sta hA rfl rfl fun a hA => ?_
            refine o_nil ?_
            cases sJ H
            exact ⟨hA.sub ⟨rfl, trivial⟩, hI⟩
        · have hc30 := hc3; obtain ⟨hc3, H⟩ := dF H hc3
          refine o_no hA rfl rfl (by rw [hc30]; simp [vb]) rfl fun a hA => 
            o_no hA rfl rfl (by rw [hc30]; simp [vb]) rfl fun a hA => 
            o_no hA rfl rfl (by rw [hc30]; simp [vb]) rfl fun a hA => 
            o_no hA rfl rfl (by rw [hc30]; simp [vb]) rfl fun a hA => 
            o_no hA rfl rfl (by rw [hc30]; simp [vb]) rfl fun a hA => 
            stp hA (r_pick_f hA rfl hc30 rfl) rfl fun a hA => 
            stm hA rfl rfl fun a hA => 
            o_no hA rfl rfl (by simp [vb]) rfl fun a hA => 
            o_no hA rfl rfl (by simp [vb]) rfl fun a hA => 
            o_no hA rfl rfl (by simp [vb]) rfl fun a hA => 
            o_no hA rfl rfl (by simp [vb]) rfl fun a hA => 
            o_no hA rfl rfl (by simp [vb]) rfl fun a hA => 
            stp hA (r_pick_f hA rfl rfl rfl) rfl fun a hA => 
            sta hA rfl rfl fun a hA => ?_
          refine o_nil ?_
          cases sJ H
          exact ⟨hA.sub ⟨rfl, trivial⟩, hI⟩
      · have hc20 := hc2; obtain ⟨hc2, H⟩ := dF H hc2
        refine o_no hA rfl rfl (by rw [hc20]; simp [vb]) rfl fun a hA => 
          o_no hA rfl rfl (by rw [hc20]; simp [vb]) rfl fun a hA => 
          o_no hA rfl rfl (by rw [hc20]; simp [vb]) rfl fun a hA => 
          o_no hA rfl rfl (by rw [hc20]; simp [vb]) rfl fun a hA => 
          o_no hA rfl rfl (by rw [hc20]; simp [vb]) rfl fun a hA => 
          stp hA (r_pick_f hA rfl hc20 rfl) rfl fun a hA => 
          stm hA rfl rfl fun a hA => 
          o_no hA rfl rfl (by simp [vb]) rfl fun a hA => 
          o_no hA rfl rfl (by simp [vb]) rfl fun a hA => 
          o_no hA rfl rfl (by simp [vb]) rfl fun a hA => 
          o_no hA rfl rfl (by simp [vb]) rfl fun a hA => 
          o_no hA rfl rfl (by simp [vb]) rfl fun a hA => 
          stp hA (r_pick_f hA rfl rfl rfl) rfl fun a hA => 
          stm hA rfl rfl fun a hA => 
          o_no hA rfl rfl (by simp [vb]) rfl fun a hA => 
          o_no hA rfl rfl (by simp [vb]) rfl fun a hA => 
          o_no hA rfl rfl (by simp [vb]) rfl fun a hA => 
          o_no hA rfl rfl (by simp [vb]) rfl fun a hA => 
          o_no hA rfl rfl (by simp [vb]) rfl fun a hA => 
          stp hA (r_pick_f hA rfl rfl rfl) rfl fun a hA => 
          sta hA rfl rfl fun a hA => ?_
        refine o_nil ?_
        cases sJ H
        exact ⟨hA.sub ⟨rfl, trivial⟩, hI⟩
    · have hc10 := hc1; obtain ⟨hc1, H⟩ := dF H hc1
      refine o_no hA rfl rfl (by rw [hc10]; simp [vb]) rfl fun a hA => 
        o_no hA rfl rfl (by rw [hc10]; simp [vb]) rfl fun a hA => 
        o_no hA rfl rfl (by rw [hc10]; simp [vb]) rfl fun a hA => 
        o_no hA rfl rfl (by rw [hc10]; simp [vb]) rfl fun a hA => 
        o_no hA rfl rfl (by rw [hc10]; simp [vb]) rfl fun a hA => 
        stp hA (r_pick_f hA rfl hc10 rfl) rfl fun a hA => 
        stm hA rfl rfl fun a hA => 
        o_no hA rfl rfl (by simp [vb]) rfl fun a hA => 
        o_no hA rfl rfl (by simp [vb]) rfl fun a hA => 
        o_no hA rfl rfl (by simp [vb]) rfl fun a hA => 
        o_no hA rfl rfl (by simp [vb]) rfl fun a hA => 
        o_no hA rfl rfl (by simp [vb]) rfl fun a hA => 
        stp hA (r_pick_f hA rfl rfl rfl) rfl fun a hA => 
        stm hA rfl rfl fun a hA => 
        o_no hA rfl rfl (by simp [vb]) rfl fun a hA => 
        o_no hA rfl rfl (by simp [vb]) rfl fun a hA => 
        o_no hA rfl rfl (by simp [vb]) rfl fun a hA => 
        o_no hA rfl rfl (by simp [vb]) rfl fun a hA => 
        o_no hA rfl rfl (by simp [vb]) rfl fun a hA => 
        stp hA (r_pick_f hA rfl rfl rfl) rfl fun a hA => 
        stm hA rfl rfl fun a hA => 
        o_no hA rfl rfl (by simp [vb]) rfl fun a hA => 
        o_no hA rfl rfl (by simp [vb]) rfl fun a hA => 
        o_no hA rfl rfl (by simp [vb]) rfl fun a hA => 
        o_no hA rfl rfl (by simp [vb]) rfl fun a hA => 
        o_no hA rfl rfl (by simp [vb]) rfl fun a hA => 
        stp hA (r_pick_f hA rfl rfl rfl) rfl fun a hA => 
        sta hA rfl rfl fun a hA => ?_
      refine o_nil ?_
      cases sJ H
      exact ⟨hA.sub ⟨rfl, trivial⟩, hI⟩
  · rintro a w ⟨hA, hI⟩
    have H := Hk1
    refine w_ret ?_
    obtain rfl := sJ H
    exact ret1 hA Tryd.results56 rfl ⟨_, rfl, rfl, trivial, hI.forget0⟩
set_option maxRecDepth 20000 in
theorem sargassoref_None.c (μ : Store) (w0 : World) (hμ : Agr μ w0) (r : sargassorefFault) (H : sargassoref_None.f = some r) :
    Calls Tryd.prog 58 [].toArray w0 (fun e w' => ∃ v, e = .returned v ∧ v = .agg [[.int .i64 r.Code], [.bool r.Placed], [.int .i64 r.Pos], [.bool r.Outer], [.int .i64 r.At]].flatten.toArray ∧ sargassorefFaultW μ r ∧ Iv w0 [] μ μ [] w') := by
  refine enter Tryd.func58 rfl Tryd.ntmps58 rfl fun a hA => ?_
  have hI := Iv.start hμ
  have H := bI H
  refine w_seq fun _ hN1 => w_reg <| o_new [[.int .i64 0], [.bool false], [.int .i64 0], [.bool false], [.int .i64 0]] zr51 hI hA rfl fun g1 a w hA hI hg1 => ?_
  refine o_nil <| hN1 _ _ <| w_seq fun _ hN2 => w_reg <| stp hA (r_bldS (cs := [[.int .i64 0], [.bool false], [.int .i64 0], [.bool false], [.int .i64 0]].flatten.toArray) (pl := [(0, 1), (1, 1), (2, 1), (3, 1), (4, 1)]) zr51 Tryd.underlying51 ⟨rfl, sz3, rfl, sz4, rfl, sz3, rfl, sz4, rfl, sz3, trivial⟩ hA rfl (by kernel_rfl)) rfl fun a hA => 
    o_st (j := 0) [] [[.int .i64 0], [.bool false], [.int .i64 0], [.bool false], [.int .i64 0]] [[.int .i64 0], [.bool false], [.int .i64 0], [.bool false], [.int .i64 0]] [] sz51 rfl rfl (fl_cons (one_one rfl) (fl_cons (one_one rfl) (fl_cons (one_one rfl) (fl_cons (one_one rfl) (fl_cons (one_one rfl) fl_nil))))) hI rfl hA rfl rfl rfl rfl fun w hI => ?_
  refine o_nil <| hN2 _ _ <| w_ret ?_
  obtain rfl := sJ H
  exact retc Tryd.underlying51 rfl sz51 rfl hI (j := 0) rfl hA Tryd.results58 rfl ⟨_, rfl, rfl, ⟨(in_lit .i64 0 rfl), (in_lit .i64 0 rfl), (in_lit .i64 0 rfl)⟩, hI.forget0⟩
set_option maxRecDepth 20000 in
theorem sargassoref_Placed.c (μ : Store) (w0 : World) (hμ : Agr μ w0) (x0 : Int) (hx0 : InR .i64 x0) (x1 : Int) (hx1 : InR .i64 x1) (r : sargassorefFault) (H : sargassoref_Placed.f x0 x1 = some r) :
    Calls Tryd.prog 16 [.int .i64 x0, .int .i64 x1].toArray w0 (fun e w' => ∃ v, e = .returned v ∧ v = .agg [[.int .i64 r.Code], [.bool r.Placed], [.int .i64 r.Pos], [.bool r.Outer], [.int .i64 r.At]].flatten.toArray ∧ sargassorefFaultW μ r ∧ Iv w0 [] μ μ [] w') := by
  refine enter Tryd.func16 rfl Tryd.ntmps16 rfl fun a hA => ?_
  have hI := Iv.start hμ
  have H := bI H
  refine w_seq fun _ hN1 => w_reg <| o_new [[.int .i64 0], [.bool false], [.int .i64 0], [.bool false], [.int .i64 0]] zr51 hI hA rfl fun g1 a w hA hI hg1 => ?_
  refine o_nil <| hN1 _ _ <| w_seq fun _ hN2 => w_seq fun _ hN3 => w_reg <| stm hA rfl rfl fun a hA => 
    stp hA (r_eql hA rfl rfl) rfl fun a hA => ?_
  refine o_nil <| hN3 _ _ <| w_cond hA rfl (fun hc1 => ?_) (fun hc1 => ?_)
  · obtain ⟨hc1, H⟩ := dT H hc1
    refine w_seq fun _ hN4 => w_reg ?_
    obtain ⟨r1, hr1, H⟩ := bB H
    refine o_callp (u := .agg [[.int .i64 r1.Code], [.bool r1.Placed], [.int .i64 r1.Pos], [.bool r1.Outer], [.int .i64 r1.At]].flatten.toArray) cf58 hA rfl hI (sargassoref_None.c μ _ hI.agr  r1 hr1) rfl fun a w hz1 hI hA => 
      o_st (j := 0) [] [[.int .i64 0], [.bool false], [.int .i64 0], [.bool false], [.int .i64 0]] [[.int .i64 r1.Code], [.bool r1.Placed], [.int .i64 r1.Pos], [.bool r1.Outer], [.int .i64 r1.At]] [] sz51 rfl rfl (fl_cons (one_one rfl) (fl_cons (one_one rfl) (fl_cons (one_one rfl) (fl_cons (one_one rfl) (fl_cons (one_one rfl) fl_nil))))) hI rfl hA rfl rfl rfl rfl fun w hI => ?_
    refine o_nil <| hN4 _ _ <| w_ret ?_
    obtain rfl := sJ H
    exact retc Tryd.underlying51 rfl sz51 rfl hI (j := 0) rfl hA Tryd.results16 rfl ⟨_, rfl, rfl, ⟨hz1.1, hz1.2.1, hz1.2.2⟩, hI.forget0⟩
  · obtain ⟨hc1, H⟩ := dF H hc1
    refine w_skip <| hN2 _ _ <| w_seq fun _ hN5 => w_reg <| stm hA rfl rfl fun a hA => 
      stm hA rfl rfl fun a hA => 
      stp hA (r_bldS (cs := [[.int .i64 x0], [.bool true], [.int .i64 x1], [.bool false], [.int .i64 0]].flatten.toArray) (pl := [(0, 1), (1, 1), (2, 1), (3, 1), (4, 1)]) zr51 Tryd.underlying51 ⟨rfl, sz3, rfl, sz4, rfl, sz3, rfl, sz4, rfl, sz3, trivial⟩ hA rfl (by kernel_rfl)) rfl fun a hA => 
      o_st (j := 0) [] [[.int .i64 0], [.bool false], [.int .i64 0], [.bool false], [.int .i64 0]] [[.int .i64 x0], [.bool true], [.int .i64 x1], [.bool false], [.int .i64 0]] [] sz51 rfl rfl (fl_cons (one_one rfl) (fl_cons (one_one rfl) (fl_cons (one_one rfl) (fl_cons (one_one rfl) (fl_cons (one_one rfl) fl_nil))))) hI rfl hA rfl rfl rfl rfl fun w hI => ?_
    refine o_nil <| hN5 _ _ <| w_ret ?_
    obtain rfl := sJ H
    exact retc Tryd.underlying51 rfl sz51 rfl hI (j := 0) rfl hA Tryd.results16 rfl ⟨_, rfl, rfl, ⟨hx0, hx1, (in_lit .i64 0 rfl)⟩, hI.forget0⟩
set_option maxRecDepth 20000 in
theorem sargassoref_Bare.c (μ : Store) (w0 : World) (hμ : Agr μ w0) (x0 : Int) (hx0 : InR .i64 x0) (r : sargassorefFault) (H : sargassoref_Bare.f x0 = some r) :
    Calls Tryd.prog 59 [.int .i64 x0].toArray w0 (fun e w' => ∃ v, e = .returned v ∧ v = .agg [[.int .i64 r.Code], [.bool r.Placed], [.int .i64 r.Pos], [.bool r.Outer], [.int .i64 r.At]].flatten.toArray ∧ sargassorefFaultW μ r ∧ Iv w0 [] μ μ [] w') := by
  refine enter Tryd.func59 rfl Tryd.ntmps59 rfl fun a hA => ?_
  have hI := Iv.start hμ
  have H := bI H
  refine w_seq fun _ hN1 => w_reg <| o_new [[.int .i64 0], [.bool false], [.int .i64 0], [.bool false], [.int .i64 0]] zr51 hI hA rfl fun g1 a w hA hI hg1 => ?_
  refine o_nil <| hN1 _ _ <| w_seq fun _ hN2 => w_reg <| stm hA rfl rfl fun a hA => 
    stp hA (r_bldS (cs := [[.int .i64 x0], [.bool false], [.int .i64 0], [.bool false], [.int .i64 0]].flatten.toArray) (pl := [(0, 1), (1, 1), (2, 1), (3, 1), (4, 1)]) zr51 Tryd.underlying51 ⟨rfl, sz3, rfl, sz4, rfl, sz3, rfl, sz4, rfl, sz3, trivial⟩ hA rfl (by kernel_rfl)) rfl fun a hA => 
    o_st (j := 0) [] [[.int .i64 0], [.bool false], [.int .i64 0], [.bool false], [.int .i64 0]] [[.int .i64 x0], [.bool false], [.int .i64 0], [.bool false], [.int .i64 0]] [] sz51 rfl rfl (fl_cons (one_one rfl) (fl_cons (one_one rfl) (fl_cons (one_one rfl) (fl_cons (one_one rfl) (fl_cons (one_one rfl) fl_nil))))) hI rfl hA rfl rfl rfl rfl fun w hI => ?_
  refine o_nil <| hN2 _ _ <| w_ret ?_
  obtain rfl := sJ H
  exact retc Tryd.underlying51 rfl sz51 rfl hI (j := 0) rfl hA Tryd.results59 rfl ⟨_, rfl, rfl, ⟨hx0, (in_lit .i64 0 rfl), (in_lit .i64 0 rfl)⟩, hI.forget0⟩
set_option maxRecDepth 20000 in
theorem sargassosee_sentinels.c (μ : Store) (w0 : World) (hμ : Agr μ w0) (hG : Gl μ) (r : List Er) (H : sargassosee_sentinels.f = some r) :
    Calls Tryd.prog 119 [].toArray w0 (fun e w' => ∃ v, e = .returned v ∧ ∃ (v0 : Value) (c0 : List Value) (μ' : Store), v = v0 ∧ Els (RErr μ') 1 r c0 ∧ Iv w0 [] μ μ' [row 47 1 v0 r.length c0] w') := by
  refine enter Tryd.func119 rfl Tryd.ntmps119 rfl fun a hA => ?_
  have hI := Iv.start hμ
  have H := bI H
  obtain ⟨e0, he0⟩ := hG.g0
  obtain ⟨e1, he1⟩ := hG.g1
  obtain ⟨e2, he2⟩ := hG.g2
  obtain ⟨e3, he3⟩ := hG.g3
  obtain ⟨e4, he4⟩ := hG.g4
  obtain ⟨e5, he5⟩ := hG.g5
  obtain ⟨e6, he6⟩ := hG.g6
  obtain ⟨e7, he7⟩ := hG.g7
  obtain ⟨e8, he8⟩ := hG.g8
  obtain ⟨e9, he9⟩ := hG.g9
  obtain ⟨e10, he10⟩ := hG.g10
  obtain ⟨e11, he11⟩ := hG.g11
  obtain ⟨e12, he12⟩ := hG.g12
  obtain ⟨e13, he13⟩ := hG.g13
  obtain ⟨e14, he14⟩ := hG.g14
  obtain ⟨e15, he15⟩ := hG.g15
  obtain ⟨e16, he16⟩ := hG.g16
  obtain ⟨e17, he17⟩ := hG.g17
  obtain ⟨e18, he18⟩ := hG.g18
  obtain ⟨e19, he19⟩ := hG.g19
  obtain ⟨e20, he20⟩ := hG.g20
  obtain ⟨e21, he21⟩ := hG.g21
  obtain ⟨e22, he22⟩ := hG.g22
  obtain ⟨e23, he23⟩ := hG.g23
  obtain ⟨e24, he24⟩ := hG.g24
  refine w_seq fun _ hN1 => w_reg <| sta hA rfl rfl fun a hA => ?_
  refine o_nil <| hN1 _ _ <| w_seq fun _ hN2 => w_reg <| stp hA (r_ldG Tryd.underlying47 rfl hI.agr he11 hA) rfl fun a hA => 
    stp hA (r_ldG Tryd.underlying47 rfl hI.agr he12 hA) rfl fun a hA => 
    stp hA (r_ldG Tryd.underlying47 rfl hI.agr he1 hA) rfl fun a hA => 
    stp hA (r_ldG Tryd.underlying47 rfl hI.agr he0 hA) rfl fun a hA => 
    stp hA (r_ldG Tryd.underlying47 rfl hI.agr he10 hA) rfl fun a hA => 
    stp hA (r_ldG Tryd.underlying47 rfl hI.agr he2 hA) rfl fun a hA => 
    stp hA (r_ldG Tryd.underlying47 rfl hI.agr he8 hA) rfl fun a hA => 
    stp hA (r_ldG Tryd.underlying47 rfl hI.agr he3 hA) rfl fun a hA => 
    stp hA (r_ldG Tryd.underlying47 rfl hI.agr he4 hA) rfl fun a hA => 
    stp hA (r_ldG Tryd.underlying47 rfl hI.agr he5 hA) rfl fun a hA => 
    stp hA (r_ldG Tryd.underlying47 rfl hI.agr he13 hA) rfl fun a hA => 
    stp hA (r_ldG Tryd.underlying47 rfl hI.agr he14 hA) rfl fun a hA => 
    stp hA (r_ldG Tryd.underlying47 rfl hI.agr he15 hA) rfl fun a hA => 
    stp hA (r_ldG Tryd.underlying47 rfl hI.agr he9 hA) rfl fun a hA => 
    stp hA (r_ldG Tryd.underlying47 rfl hI.agr he16 hA) rfl fun a hA => 
    stp hA (r_ldG Tryd.underlying47 rfl hI.agr he17 hA) rfl fun a hA => 
    stp hA (r_ldG Tryd.underlying47 rfl hI.agr he18 hA) rfl fun a hA => 
    stp hA (r_ldG Tryd.underlying47 rfl hI.agr he19 hA) rfl fun a hA => 
    stp hA (r_ldG Tryd.underlying47 rfl hI.agr he20 hA) rfl fun a hA => 
    stp hA (r_ldG Tryd.underlying47 rfl hI.agr he21 hA) rfl fun a hA => 
    stp hA (r_ldG Tryd.underlying47 rfl hI.agr he6 hA) rfl fun a hA => 
    stp hA (r_ldG Tryd.underlying47 rfl hI.agr he7 hA) rfl fun a hA => 
    stp hA (r_ldG Tryd.underlying47 rfl hI.agr he22 hA) rfl fun a hA => 
    stp hA (r_ldG Tryd.underlying47 rfl hI.agr he23 hA) rfl fun a hA => 
    stp hA (r_ldG Tryd.underlying47 rfl hI.agr he24 hA) rfl fun a hA => ?_
  have hE1 : Els (RErr μ) 1 ([xErrEnd, xErrShape, xErrLong, xErrMany, xErrValue, xErrTwice, xErrBase, xErrRoot, xErrKnown, xErrParent, xErrInvalid, xErrTime, xErrMissing, xErrKey, xErrYoung, xErrEarly, xErrLess, xErrReward, xErrClash, xErrLimit, xErrFull, xErrRange, xErrNone, xErrWord, xErrNumber] : List Er) _ := (Els.cons (c := [[e11]].flatten) ⟨_, rfl, he11⟩ rfl (Els.cons (c := [[e12]].flatten) ⟨_, rfl, he12⟩ rfl (Els.cons (c := [[e1]].flatten) ⟨_, rfl, he1⟩ rfl (Els.cons (c := [[e0]].flatten) ⟨_, rfl, he0⟩ rfl (Els.cons (c := [[e10]].flatten) ⟨_, rfl, he10⟩ rfl (Els.cons (c := [[e2]].flatten) ⟨_, rfl, he2⟩ rfl (Els.cons (c := [[e8]].flatten) ⟨_, rfl, he8⟩ rfl (Els.cons (c := [[e3]].flatten) ⟨_, rfl, he3⟩ rfl (Els.cons (c := [[e4]].flatten) ⟨_, rfl, he4⟩ rfl (Els.cons (c := [[e5]].flatten) ⟨_, rfl, he5⟩ rfl (Els.cons (c := [[e13]].flatten) ⟨_, rfl, he13⟩ rfl (Els.cons (c := [[e14]].flatten) ⟨_, rfl, he14⟩ rfl (Els.cons (c := [[e15]].flatten) ⟨_, rfl, he15⟩ rfl (Els.cons (c := [[e9]].flatten) ⟨_, rfl, he9⟩ rfl (Els.cons (c := [[e16]].flatten) ⟨_, rfl, he16⟩ rfl (Els.cons (c := [[e17]].flatten) ⟨_, rfl, he17⟩ rfl (Els.cons (c := [[e18]].flatten) ⟨_, rfl, he18⟩ rfl (Els.cons (c := [[e19]].flatten) ⟨_, rfl, he19⟩ rfl (Els.cons (c := [[e20]].flatten) ⟨_, rfl, he20⟩ rfl (Els.cons (c := [[e21]].flatten) ⟨_, rfl, he21⟩ rfl (Els.cons (c := [[e6]].flatten) ⟨_, rfl, he6⟩ rfl (Els.cons (c := [[e7]].flatten) ⟨_, rfl, he7⟩ rfl (Els.cons (c := [[e22]].flatten) ⟨_, rfl, he22⟩ rfl (Els.cons (c := [[e23]].flatten) ⟨_, rfl, he23⟩ rfl (Els.cons (c := [[e24]].flatten) ⟨_, rfl, he24⟩ rfl Els.nil)))))))))))))))))))))))))
  refine o_bsl ([[e11]].flatten ++ ([[e12]].flatten ++ ([[e1]].flatten ++ ([[e0]].flatten ++ ([[e10]].flatten ++ ([[e2]].flatten ++ ([[e8]].flatten ++ ([[e3]].flatten ++ ([[e4]].flatten ++ ([[e5]].flatten ++ ([[e13]].flatten ++ ([[e14]].flatten ++ ([[e15]].flatten ++ ([[e9]].flatten ++ ([[e16]].flatten ++ ([[e17]].flatten ++ ([[e18]].flatten ++ ([[e19]].flatten ++ ([[e20]].flatten ++ ([[e21]].flatten ++ ([[e6]].flatten ++ ([[e7]].flatten ++ ([[e22]].flatten ++ ([[e23]].flatten ++ ([[e24]].flatten ++ ([])))))))))))))))))))))))))) te47 zr47 Tryd.underlying179 hI hA rfl rfl rfl rfl ((fill_one (cells_err1 he11) rfl (by kernel_rfl)).trans ((fill_one (cells_err1 he12) rfl (by kernel_rfl)).trans ((fill_one (cells_err1 he1) rfl (by kernel_rfl)).trans ((fill_one (cells_err1 he0) rfl (by kernel_rfl)).trans ((fill_one (cells_err1 he10) rfl (by kernel_rfl)).trans ((fill_one (cells_err1 he2) rfl (by kernel_rfl)).trans ((fill_one (cells_err1 he8) rfl (by kernel_rfl)).trans ((fill_one (cells_err1 he3) rfl (by kernel_rfl)).trans ((fill_one (cells_err1 he4) rfl (by kernel_rfl)).trans ((fill_one (cells_err1 he5) rfl (by kernel_rfl)).trans ((fill_one (cells_err1 he13) rfl (by kernel_rfl)).trans ((fill_one (cells_err1 he14) rfl (by kernel_rfl)).trans ((fill_one (cells_err1 he15) rfl (by kernel_rfl)).trans ((fill_one (cells_err1 he9) rfl (by kernel_rfl)).trans ((fill_one (cells_err1 he16) rfl (by kernel_rfl)).trans ((fill_one (cells_err1 he17) rfl (by kernel_rfl)).trans ((fill_one (cells_err1 he18) rfl (by kernel_rfl)).trans ((fill_one (cells_err1 he19) rfl (by kernel_rfl)).trans ((fill_one (cells_err1 he20) rfl (by kernel_rfl)).trans ((fill_one (cells_err1 he21) rfl (by kernel_rfl)).trans ((fill_one (cells_err1 he6) rfl (by kernel_rfl)).trans ((fill_one (cells_err1 he7) rfl (by kernel_rfl)).trans ((fill_one (cells_err1 he22) rfl (by kernel_rfl)).trans ((fill_one (cells_err1 he23) rfl (by kernel_rfl)).trans ((fill_one (cells_err1 he24) rfl (by kernel_rfl)).trans (by kernel_rfl)))))))))))))))))))))))))) rfl fun g1 a w hA hI => ?_
  generalize hcs : ([[e11]].flatten ++ ([[e12]].flatten ++ ([[e1]].flatten ++ ([[e0]].flatten ++ ([[e10]].flatten ++ ([[e2]].flatten ++ ([[e8]].flatten ++ ([[e3]].flatten ++ ([[e4]].flatten ++ ([[e5]].flatten ++ ([[e13]].flatten ++ ([[e14]].flatten ++ ([[e15]].flatten ++ ([[e9]].flatten ++ ([[e16]].flatten ++ ([[e17]].flatten ++ ([[e18]].flatten ++ ([[e19]].flatten ++ ([[e20]].flatten ++ ([[e21]].flatten ++ ([[e6]].flatten ++ ([[e7]].flatten ++ ([[e22]].flatten ++ ([[e23]].flatten ++ ([[e24]].flatten ++ ([]))))))))))))))))))))))))) : List Value) = cs1 at hE1 hI
  clear hcs
  refine sta hA rfl rfl fun a hA => ?_
  refine o_nil <| hN2 _ _ <| w_ret ?_
  obtain rfl := sJ H
  exact ret1 hA Tryd.results119 rfl ⟨_, rfl, (.slice (some ⟨g1, 0, none⟩) 25 25), cs1, μ, rfl, hE1, hI⟩
set_option maxRecDepth 20000 in
theorem sargassosee_Alike.c (μ : Store) (w0 : World) (hμ : Agr μ w0) (x0 : Er) (u0 : Value) (hx0 : ErS μ u0 x0) (x1 : Er) (u1 : Value) (hx1 : ErS μ u1 x1) (r : Bool) (H : sargassosee_Alike.f x0 x1 = some r) :
    Calls Tryd.prog 120 [u0, u1].toArray w0 (fun e w' => ∃ v, e = .returned v ∧ v = .bool r ∧ True ∧ Iv w0 [] μ μ [] w') := by
  refine enter Tryd.func120 rfl Tryd.ntmps120 rfl fun a hA => ?_
  have hI := Iv.start hμ
  have H := bI H
  refine w_seq fun _ hN1 => w_reg <| sta hA rfl rfl fun a hA => ?_
  refine o_nil <| hN1 _ _ <| w_seq fun _ hN2 => ?_
  obtain ⟨c1, hz1, Hk1⟩ := bB H
  refine w_cut (fun a w => Fr a 20 [(0, u0), (1, u1), (4, .bool false), (10, .bool c1)] ∧ Iv w0 [] μ μ [] w) ?_ ?_
  · have H := bI hz1
    refine w_reg <| stm hA rfl rfl fun a hA => 
      stp hA (r_eqE erF hI.agr hx0 erv_nil (.inl ⟨.inr ⟨_, rfl⟩, Er.fitR⟩) hA rfl rfl) rfl fun a hA => 
      stm hA rfl rfl fun a hA => ?_
    rcases Bool.eq_false_or_eq_true (decide (x0 = (Er.b 0))) with hc1 | hc1
    · have hc10 := hc1; obtain ⟨hc1, H⟩ := dT H hc1
      refine o_no hA rfl rfl (by rw [hc10]; simp [vb]) rfl fun a hA => 
        o_no hA rfl rfl (by rw [hc10]; simp [vb]) rfl fun a hA => 
        stp hA (r_pick_t hA rfl hc10 rfl) rfl fun a hA => ?_
      refine o_nil ?_
      cases sJ H
      exact ⟨hA.sub ⟨rfl, rfl, rfl, rfl, trivial⟩, hI⟩
    · have hc10 := hc1; obtain ⟨hc1, H⟩ := dF H hc1
      refine o_yes hA rfl rfl hc10 <| 
        stm hA rfl rfl fun a hA => 
        o_yes hA rfl rfl hc10 <| 
        stp hA (r_eqE erF hI.agr hx1 erv_nil (.inl ⟨.inr ⟨_, rfl⟩, Er.fitR⟩) hA rfl rfl) rfl fun a hA => 
        stp hA (r_pick_f hA rfl hc10 rfl) rfl fun a hA => ?_
      refine o_nil ?_
      cases sJ H
      exact ⟨hA.sub ⟨rfl, rfl, rfl, rfl, trivial⟩, hI⟩
  · rintro a w ⟨hA, hI⟩
    have H := Hk1
    refine w_cond hA rfl (fun hc2 => ?_) (fun hc2 => ?_)
    · have H := bT H hc2
      obtain ⟨c2, hz2, Hk2⟩ := bB H
      refine w_cut (fun a w => Fr a 20 [(0, u0), (1, u1), (4, .bool c2)] ∧ Iv w0 [] μ μ [] w) ?_ ?_
      · have H := bI hz2
        refine w_reg <| stm hA rfl rfl fun a hA => 
          stp hA (r_eqE erF hI.agr hx0 erv_nil (.inl ⟨.inr ⟨_, rfl⟩, Er.fitR⟩) hA rfl rfl) rfl fun a hA => 
          stm hA rfl rfl fun a hA => ?_
        rcases Bool.eq_false_or_eq_true (decide (x0 = (Er.b 0))) with hc3 | hc3
        · have hc30 := hc3; obtain ⟨hc3, H⟩ := dT H hc3
          refine o_yes hA rfl rfl hc30 <| 
            stm hA rfl rfl fun a hA => 
            o_yes hA rfl rfl hc30 <| 
            stp hA (r_eqE erF hI.agr hx1 erv_nil (.inl ⟨.inr ⟨_, rfl⟩, Er.fitR⟩) hA rfl rfl) rfl fun a hA => 
            stp hA (r_pick_t hA rfl hc30 rfl) rfl fun a hA => 
            sta hA rfl rfl fun a hA => ?_
          refine o_nil ?_
          cases sJ H
          exact ⟨hA.sub ⟨rfl, rfl, rfl, trivial⟩, hI⟩
        · have hc30 := hc3; obtain ⟨hc3, H⟩ := dF H hc3
          refine o_no hA rfl rfl (by rw [hc30]; simp [vb]) rfl fun a hA => 
            o_no hA rfl rfl (by rw [hc30]; simp [vb]) rfl fun a hA => 
            stp hA (r_pick_f hA rfl hc30 rfl) rfl fun a hA => 
            sta hA rfl rfl fun a hA => ?_
          refine o_nil ?_
          cases sJ H
          exact ⟨hA.sub ⟨rfl, rfl, rfl, trivial⟩, hI⟩
      · rintro a w ⟨hA, hI⟩
        have H := Hk2
        refine w_ret ?_
        obtain rfl := sJ H
        exact ret1 hA Tryd.results120 rfl ⟨_, rfl, rfl, trivial, hI.forget0⟩
    · have hc2 := ft hc2; have H := bF H hc2
      refine w_skip <| hN2 _ _ <| w_seq fun _ hN3 => w_reg <| stm hA rfl rfl fun a hA => 
        stm hA rfl rfl fun a hA => ?_
      obtain ⟨hb1, H⟩ := bG H
      refine stp hA (r_eqE erF hI.agr hx0 hx1 (.inr hb1) hA rfl rfl) rfl fun a hA => 
        sta hA rfl rfl fun a hA => ?_
      refine o_nil <| hN3 _ _ <| w_ret ?_
      obtain rfl := sJ H
      exact ret1 hA Tryd.results120 rfl ⟨_, rfl, rfl, trivial, hI.forget0⟩
set_option maxRecDepth 20000 in
theorem sargassosee_sentinel.c (μ : Store) (w0 : World) (hμ : Agr μ w0) (x0 : Er) (u0 : Value) (hx0 : ErS μ u0 x0) (hG : Gl μ) (r : Int) (H : sargassosee_sentinel.f x0 = some r) :
    Calls Tryd.prog 90 [u0].toArray w0 (fun e w' => ∃ v, e = .returned v ∧ v = .int .i64 r ∧ InR .i64 r ∧ Iv w0 [] μ μ [] w') := by
  refine enter Tryd.func90 rfl Tryd.ntmps90 rfl fun a hA => ?_
  have hI := Iv.start hμ
  have H := bI H
  refine w_seq fun _ hN1 => w_reg <| sta hA rfl rfl fun a hA => ?_
  refine o_nil <| hN1 _ _ <| w_seq fun _ hN2 => w_reg ?_
  obtain ⟨r1, hr1, H⟩ := bB H
  refine o_call _ cf119 hA rfl (sargassosee_sentinels.c μ _ hI.agr hG r1 hr1) rfl fun v1 a w hz1 hA => ?_
  obtain ⟨_, cs1, μ1, rfl, hE1, hi1⟩ := hz1
  have hI := hI.call hi1
  refine sta hA rfl rfl fun a hA => ?_
  refine o_nil <| hN2 _ _ <| w_seq fun _ hN3 => w_seq fun _ hN4 => w_reg <| sta hA rfl rfl fun a hA => ?_
  refine o_nil <| hN4 _ _ <| w_block ?_
  obtain ⟨z1, hz2, Hk1⟩ := bind_some H
  obtain ⟨n1, hn1⟩ := loopO_some hz2
  refine w_loop (fun n a w => ∃ (s1 : Int), loopN (sargassosee_sentinel.s0 x0 r1) n s1 = some z1 ∧ InR .i64 s1 ∧ Fr a 20 [(0, u0), (2, .int .i64 0), (3, v1), (4, .int .i64 s1)] ∧ Iv w0 [] μ μ1 [row 47 1 v1 r1.length cs1] w) n1 ⟨0, hn1, (in_lit .i64 0 rfl), hA.sub ⟨rfl, rfl, rfl, rfl, trivial⟩, hI⟩ ?_
  clear hA hI
  rintro n a w ⟨s1, hn1, ws1, hA, hI⟩
  obtain ⟨m1, rfl, H⟩ := loopN_bind hn1
  clear hn1
  refine w_seq fun _ hN5 => w_seq fun _ hN6 => w_reg <| stm hA rfl rfl fun a hA => 
    stm hA rfl rfl fun a hA => ?_
  have hlen1 := Iv.row_in hI (j := 0) rfl
  refine stp hA (r_rlen (xs := 0) Tryd.underlying179 hI (j := 0) rfl hA rfl) rfl fun a hA => 
    stp hA (r_lss hA rfl rfl) rfl fun a hA => ?_
  refine o_nil <| hN6 _ _ <| w_cond hA rfl (fun hc1 => ?_) (fun hc1 => ?_)
  · obtain ⟨hc1, H⟩ := dT H hc1
    refine w_skip <| hN5 _ _ <| w_seq fun _ hN7 => w_block <| w_seq fun _ hN8 => w_reg <| stm hA rfl rfl fun a hA => 
      stm hA rfl rfl fun a hA => 
      stm hA rfl rfl fun a hA => ?_
    obtain ⟨hb1, H⟩ := bG H
    refine stp hA (r_rix (j := 0) Tryd.underlying179 sz47 hI rfl hA rfl rfl hb1.1 hb1.2) rfl fun a hA => ?_
    obtain ⟨A1, _, B1, hc2, hl1, _, he1⟩ := Els.at_ hE1 (getD_some (Er.b 0) hb1.1 hb1.2)
    obtain ⟨v2, rfl, hw1⟩ := he1
    refine stp hA (r_rldQ (j := 0) (q := s1.toNat * 1) (off := 0) A1 B1 [] [] hc2 hl1 rfl Tryd.underlying47 rfl hI rfl hA rfl) rfl fun a hA => ?_
    obtain ⟨r2, hr2, H⟩ := bB H
    refine o_callp (u := .bool r2) cf120 hA rfl hI (sargassosee_Alike.c μ1 _ hI.agr x0 u0 (ErV.le (fun _ _ h => h) hi1.le hx0) (r1.getD s1.toNat (Er.b 0)) v2 hw1 r2 hr2) rfl fun a w hz3 hI hA => ?_
    refine o_nil <| hN8 _ _ <| w_cond hA rfl (fun hc3 => ?_) (fun hc3 => ?_)
    · have H := bT H hc3
      refine w_seq fun _ hN9 => w_reg <| stm hA rfl rfl fun a hA => 
        stp hA (r_add hA rfl rfl) rfl fun a hA => 
        sta hA rfl rfl fun a hA => ?_
      refine o_nil <| hN9 _ _ <| w_ret ?_
      have H : some (IntKind.i64.wrap (101 + s1)) = some z1 := H
      obtain rfl := sI H
      have H := Hk1
      obtain rfl := sJ H
      exact ret1 hA Tryd.results90 rfl ⟨_, rfl, rfl, (wrap_in _ _), hI.forget0⟩
    · have hc3 := ft hc3; have H := bF H hc3
      refine w_skip <| hN7 _ _ <| w_reg <| stm hA rfl rfl fun a hA => 
        stp hA (r_add hA rfl rfl) rfl fun a hA => 
        sta hA rfl rfl fun a hA => ?_
      refine o_nil <| ⟨m1, Nat.lt_succ_self _, IntKind.i64.wrap (s1 + 1), H, (wrap_in _ _), hA.sub ⟨rfl, rfl, rfl, rfl, trivial⟩, hI⟩
  · obtain ⟨hc1, H⟩ := dF H hc1
    refine w_exit rfl <| hN3 _ _ <| w_seq fun _ hN10 => w_reg <| sta hA rfl rfl fun a hA => ?_
    refine o_nil <| hN10 _ _ <| w_ret ?_
    have H : some (-1) = some z1 := H
    obtain rfl := sI H
    have H := Hk1
    obtain rfl := sJ H
    exact ret1 hA Tryd.results90 rfl ⟨_, rfl, rfl, (in_lit .i64 (-1) rfl), hI.forget0⟩
set_option maxRecDepth 20000 in
theorem sargassoref_Around.c (μ : Store) (w0 : World) (hμ : Agr μ w0) (x0 : sargassorefFault) (hx0 : sargassorefFaultW μ x0) (x1 : Int) (hx1 : InR .i64 x1) (r : sargassorefFault) (H : sargassoref_Around.f x0 x1 = some r) :
    Calls Tryd.prog 91 [.agg [[.int .i64 x0.Code], [.bool x0.Placed], [.int .i64 x0.Pos], [.bool x0.Outer], [.int .i64 x0.At]].flatten.toArray, .int .i64 x1].toArray w0 (fun e w' => ∃ v, e = .returned v ∧ v = .agg [[.int .i64 r.Code], [.bool r.Placed], [.int .i64 r.Pos], [.bool r.Outer], [.int .i64 r.At]].flatten.toArray ∧ sargassorefFaultW μ r ∧ Iv w0 [] μ μ [] w') := by
  refine enter Tryd.func91 rfl Tryd.ntmps91 rfl fun a hA => ?_
  have hI := Iv.start hμ
  have H := bI H
  refine w_seq fun _ hN1 => w_reg <| o_box [[.int .i64 x0.Code], [.bool x0.Placed], [.int .i64 x0.Pos], [.bool x0.Outer], [.int .i64 x0.At]] hI hA rfl rfl rfl fun g1 a w hA hI hg1 => 
    o_new [[.int .i64 0], [.bool false], [.int .i64 0], [.bool false], [.int .i64 0]] zr51 hI hA rfl fun g2 a w hA hI hg2 => ?_
  refine o_nil <| hN1 _ _ <| w_seq fun _ hN2 => w_block <| w_seq fun _ hN3 => w_reg <| stp hA (r_fd (k := 0) Tryd.underlying51 rfl sz3 hA rfl rfl) rfl fun a hA => 
    stp hA (r_ld1 (j := 1) [] [[.bool x0.Placed], [.int .i64 x0.Pos], [.bool x0.Outer], [.int .i64 x0.At]] Tryd.underlying3 rfl hI rfl hA rfl rfl) rfl fun a hA => 
    stp hA (r_eql hA rfl rfl) rfl fun a hA => 
    sta hA rfl rfl fun a hA => ?_
  refine o_nil <| hN3 _ _ <| w_cond hA rfl (fun hc1 => ?_) (fun hc1 => ?_)
  · obtain ⟨hc1, H⟩ := dT H hc1
    refine w_seq fun _ hN4 => w_reg <| stp hA (r_ldA (j := 1) [] [[.int .i64 x0.Code], [.bool x0.Placed], [.int .i64 x0.Pos], [.bool x0.Outer], [.int .i64 x0.At]] [] Tryd.underlying51 rfl sz51 rfl hI rfl hA rfl rfl) rfl fun a hA => 
      o_st (j := 0) [] [[.int .i64 0], [.bool false], [.int .i64 0], [.bool false], [.int .i64 0]] [[.int .i64 x0.Code], [.bool x0.Placed], [.int .i64 x0.Pos], [.bool x0.Outer], [.int .i64 x0.At]] [] sz51 rfl rfl (fl_cons (one_one rfl) (fl_cons (one_one rfl) (fl_cons (one_one rfl) (fl_cons (one_one rfl) (fl_cons (one_one rfl) fl_nil))))) hI rfl hA rfl rfl rfl rfl fun w hI => ?_
    refine o_nil <| hN4 _ _ <| w_ret ?_
    obtain rfl := sJ H
    exact retc Tryd.underlying51 rfl sz51 rfl hI (j := 0) rfl hA Tryd.results91 rfl ⟨_, rfl, rfl, ⟨hx0.1, hx0.2.1, hx0.2.2⟩, hI.forget0⟩
  · obtain ⟨hc1, H⟩ := dF H hc1
    refine w_seq fun _ hN5 => w_reg <| stp hA (r_fd (k := 1) Tryd.underlying51 rfl sz4 hA rfl rfl) rfl fun a hA => 
      stp hA (r_ld1 (j := 1) [[.int .i64 x0.Code]] [[.int .i64 x0.Pos], [.bool x0.Outer], [.int .i64 x0.At]] Tryd.underlying4 rfl hI rfl hA rfl rfl) rfl fun a hA => 
      stp hA (r_not hA rfl) rfl fun a hA => 
      sta hA rfl rfl fun a hA => ?_
    refine o_nil <| hN5 _ _ <| w_cond hA rfl (fun hc2 => ?_) (fun hc2 => ?_)
    · have hc2 := nT hc2; have hc2 := ft hc2; have H := bF H hc2
      refine w_seq fun _ hN6 => w_reg <| stp hA (r_fd (k := 0) Tryd.underlying51 rfl sz3 hA rfl rfl) rfl fun a hA => 
        stp hA (r_ld1 (j := 1) [] [[.bool x0.Placed], [.int .i64 x0.Pos], [.bool x0.Outer], [.int .i64 x0.At]] Tryd.underlying3 rfl hI rfl hA rfl rfl) rfl fun a hA => 
        stm hA rfl rfl fun a hA => ?_
      obtain ⟨r1, hr1, H⟩ := bB H
      refine o_callp (u := .agg [[.int .i64 r1.Code], [.bool r1.Placed], [.int .i64 r1.Pos], [.bool r1.Outer], [.int .i64 r1.At]].flatten.toArray) cf16 hA rfl hI (sargassoref_Placed.c μ _ hI.agr x0.Code hx0.1 x1 hx1 r1 hr1) rfl fun a w hz1 hI hA => 
        o_st (j := 0) [] [[.int .i64 0], [.bool false], [.int .i64 0], [.bool false], [.int .i64 0]] [[.int .i64 r1.Code], [.bool r1.Placed], [.int .i64 r1.Pos], [.bool r1.Outer], [.int .i64 r1.At]] [] sz51 rfl rfl (fl_cons (one_one rfl) (fl_cons (one_one rfl) (fl_cons (one_one rfl) (fl_cons (one_one rfl) (fl_cons (one_one rfl) fl_nil))))) hI rfl hA rfl rfl rfl rfl fun w hI => ?_
      refine o_nil <| hN6 _ _ <| w_ret ?_
      obtain rfl := sJ H
      exact retc Tryd.underlying51 rfl sz51 rfl hI (j := 0) rfl hA Tryd.results91 rfl ⟨_, rfl, rfl, ⟨hz1.1, hz1.2.1, hz1.2.2⟩, hI.forget0⟩
    · have hc2 := nF hc2; have H := bT H hc2
      refine w_skip <| hN2 _ _ <| w_seq fun _ hN7 => w_reg <| stp hA (r_fd (k := 3) Tryd.underlying51 rfl sz4 hA rfl rfl) rfl fun a hA => 
        o_st (j := 1) [[.int .i64 x0.Code], [.bool x0.Placed], [.int .i64 x0.Pos]] [[.bool x0.Outer]] [[.bool true]] [[.int .i64 x0.At]] sz4 rfl rfl (fl_cons (one_one rfl) fl_nil) hI rfl hA rfl rfl rfl rfl fun w hI => ?_
      refine o_nil <| hN7 _ _ <| w_seq fun _ hN8 => w_reg <| stm hA rfl rfl fun a hA => 
        stp hA (r_fd (k := 4) Tryd.underlying51 rfl sz3 hA rfl rfl) rfl fun a hA => 
        o_st (j := 1) [[.int .i64 x0.Code], [.bool x0.Placed], [.int .i64 x0.Pos], [.bool true]] [[.int .i64 x0.At]] [[.int .i64 x1]] [] sz3 rfl rfl (fl_cons (one_one rfl) fl_nil) hI rfl hA rfl rfl rfl rfl fun w hI => ?_
      refine o_nil <| hN8 _ _ <| w_seq fun _ hN9 => w_reg <| stp hA (r_ldA (j := 1) [] [[.int .i64 x0.Code], [.bool x0.Placed], [.int .i64 x0.Pos], [.bool true], [.int .i64 x1]] [] Tryd.underlying51 rfl sz51 rfl hI rfl hA rfl rfl) rfl fun a hA => 
        o_st (j := 0) [] [[.int .i64 0], [.bool false], [.int .i64 0], [.bool false], [.int .i64 0]] [[.int .i64 x0.Code], [.bool x0.Placed], [.int .i64 x0.Pos], [.bool true], [.int .i64 x1]] [] sz51 rfl rfl (fl_cons (one_one rfl) (fl_cons (one_one rfl) (fl_cons (one_one rfl) (fl_cons (one_one rfl) (fl_cons (one_one rfl) fl_nil))))) hI rfl hA rfl rfl rfl rfl fun w hI => ?_
      refine o_nil <| hN9 _ _ <| w_ret ?_
      obtain rfl := sJ H
      exact retc Tryd.underlying51 rfl sz51 rfl hI (j := 0) rfl hA Tryd.results91 rfl ⟨_, rfl, rfl, ⟨hx0.1, hx0.2.1, hx1⟩, hI.forget0⟩
set_option maxRecDepth 20000 in
theorem sargassosee_Fault.c (μ : Store) (w0 : World) (hμ : Agr μ w0) (x0 : Er) (u0 : Value) (hx0 : ErS μ u0 x0) (hG : Gl μ) (r : sargassorefFault) (H : sargassosee_Fault.f x0 = some r) :
    Calls Tryd.prog 57 [u0].toArray w0 (fun e w' => ∃ v, e = .returned v ∧ v = .agg [[.int .i64 r.Code], [.bool r.Placed], [.int .i64 r.Pos], [.bool r.Outer], [.int .i64 r.At]].flatten.toArray ∧ sargassorefFaultW μ r ∧ Iv w0 [] μ μ [] w') := by
  refine enter Tryd.func57 rfl Tryd.ntmps57 rfl fun a hA => ?_
  have hI := Iv.start hμ
  have H := bI H
  refine w_seq fun _ hN1 => w_reg <| o_new [[.int .i64 0], [.bool false], [.int .i64 0], [.bool false], [.int .i64 0]] zr51 hI hA rfl fun g1 a w hA hI hg1 => ?_
  refine o_nil <| hN1 _ _ <| w_seq fun _ hN2 => w_seq fun _ hN3 => w_reg <| stm hA rfl rfl fun a hA => 
    stp hA (r_eqE erF hI.agr hx0 erv_nil (.inl ⟨.inr ⟨_, rfl⟩, Er.fitR⟩) hA rfl rfl) rfl fun a hA => ?_
  refine o_nil <| hN3 _ _ <| w_cond hA rfl (fun hc1 => ?_) (fun hc1 => ?_)
  · obtain ⟨hc1, H⟩ := dT H hc1
    refine w_seq fun _ hN4 => w_reg ?_
    obtain ⟨r1, hr1, H⟩ := bB H
    refine o_callp (u := .agg [[.int .i64 r1.Code], [.bool r1.Placed], [.int .i64 r1.Pos], [.bool r1.Outer], [.int .i64 r1.At]].flatten.toArray) cf58 hA rfl hI (sargassoref_None.c μ _ hI.agr  r1 hr1) rfl fun a w hz1 hI hA => 
      o_st (j := 0) [] [[.int .i64 0], [.bool false], [.int .i64 0], [.bool false], [.int .i64 0]] [[.int .i64 r1.Code], [.bool r1.Placed], [.int .i64 r1.Pos], [.bool r1.Outer], [.int .i64 r1.At]] [] sz51 rfl rfl (fl_cons (one_one rfl) (fl_cons (one_one rfl) (fl_cons (one_one rfl) (fl_cons (one_one rfl) (fl_cons (one_one rfl) fl_nil))))) hI rfl hA rfl rfl rfl rfl fun w hI => ?_
    refine o_nil <| hN4 _ _ <| w_ret ?_
    obtain rfl := sJ H
    exact retc Tryd.underlying51 rfl sz51 rfl hI (j := 0) rfl hA Tryd.results57 rfl ⟨_, rfl, rfl, ⟨hz1.1, hz1.2.1, hz1.2.2⟩, hI.forget0⟩
  · obtain ⟨hc1, H⟩ := dF H hc1
    refine w_skip <| hN2 _ _ <| w_seq fun _ hN5 => w_reg <| stm hA rfl rfl fun a hA => 
      stp hA (r_asP (by decide) Tryd.underlying152 zrA hx0 hA rfl) rfl fun a hA => 
      stm hA rfl rfl fun a hA => 
      stp hA (r_extr (vs := [aP 152 u0, .bool x0.isP]) hA rfl rfl) rfl fun a hA => 
      stp hA (r_extr (vs := [aP 152 u0, .bool x0.isP]) hA rfl rfl) rfl fun a hA => 
      sta hA rfl rfl fun a hA => 
      sta hA rfl rfl fun a hA => ?_
    refine o_nil <| hN5 _ _ <| w_seq fun _ hN6 => w_seq fun _ hN7 => w_reg <| stm hA rfl rfl fun a hA => 
      stp hA (r_not hA rfl) rfl fun a hA => ?_
    refine o_nil <| hN7 _ _ <| w_cond hA rfl (fun hc2 => ?_) (fun hc2 => ?_)
    · have hc20 := hc2; have hc2 := nT hc2; have hc2 := ft hc2; have H := bF H hc2; have hc2P : x0.isP = false := by simpa using hc20
      refine w_seq fun _ hN8 => w_reg <| stm hA rfl rfl fun a hA => ?_
      obtain ⟨r2, hr2, H⟩ := bB H
      refine o_callp (u := .int .i64 r2) cf90 hA rfl hI (sargassosee_sentinel.c μ _ hI.agr x0 u0 hx0 hG r2 hr2) rfl fun a w hz2 hI hA => ?_
      obtain ⟨r3, hr3, H⟩ := bB H
      refine o_callp (u := .agg [[.int .i64 r3.Code], [.bool r3.Placed], [.int .i64 r3.Pos], [.bool r3.Outer], [.int .i64 r3.At]].flatten.toArray) cf59 hA rfl hI (sargassoref_Bare.c μ _ hI.agr r2 hz2 r3 hr3) rfl fun a w hz3 hI hA => 
        o_st (j := 0) [] [[.int .i64 0], [.bool false], [.int .i64 0], [.bool false], [.int .i64 0]] [[.int .i64 r3.Code], [.bool r3.Placed], [.int .i64 r3.Pos], [.bool r3.Outer], [.int .i64 r3.At]] [] sz51 rfl rfl (fl_cons (one_one rfl) (fl_cons (one_one rfl) (fl_cons (one_one rfl) (fl_cons (one_one rfl) (fl_cons (one_one rfl) fl_nil))))) hI rfl hA rfl rfl rfl rfl fun w hI => ?_
      refine o_nil <| hN8 _ _ <| w_ret ?_
      obtain rfl := sJ H
      exact retc Tryd.underlying51 rfl sz51 rfl hI (j := 0) rfl hA Tryd.results57 rfl ⟨_, rfl, rfl, ⟨hz3.1, hz3.2.1, hz3.2.2⟩, hI.forget0⟩
    · have hc20 := hc2; have hc2 := nF hc2; have H := bT H hc2; have hc2P : x0.isP = true := by simpa using hc20
      refine w_skip <| hN6 _ _ <| w_seq fun _ hN9 => ?_
      obtain ⟨g2, v1, hv1, hat1, hw1, hE1⟩ := ErV.isP hx0 hc2P
      rw [hv1] at hA
      obtain ⟨c1, hz4, Hk1⟩ := bB H
      refine w_cut (fun a w => Fr a 75 [(2, .pointer (some ⟨g1, 0, none⟩)), (3, .pointer (some ⟨g2, 0, none⟩)), (28, .bool c1)] ∧ Iv w0 [] μ μ [cel g1 [[.int .i64 0], [.bool false], [.int .i64 0], [.bool false], [.int .i64 0]] 51] w) ?_ ?_
      · have H := bI hz4
        refine w_reg <| stm hA rfl rfl fun a hA => 
          stp hA (r_ptrnil_eql Tryd.underlying152 hA rfl rfl) rfl fun a hA => 
          stm hA rfl rfl fun a hA => 
          o_yes hA rfl rfl rfl <| 
          stm hA rfl rfl fun a hA => 
          o_yes hA rfl rfl rfl <| 
          stp hA (r_nilc hA rfl) rfl fun a hA => 
          o_yes hA rfl rfl rfl <| 
          stp hA (r_fd (k := 0 + 1) Tryd.underlying154 rfl sz47 hA rfl rfl) rfl fun a hA => 
          o_yes hA rfl rfl rfl <| 
          stp hA (r_ldm1 [[.int .i64 x0.pos]] [] Tryd.underlying47 rfl hI.agr hat1 hA rfl rfl) rfl fun a hA => 
          o_yes hA rfl rfl rfl <| 
          stp hA (r_eqE erF hI.agr hE1 erv_nil (.inl ⟨.inr ⟨_, rfl⟩, Er.fitR⟩) hA rfl rfl) rfl fun a hA => 
          stp hA (r_pick_f hA rfl rfl rfl) rfl fun a hA => ?_
        refine o_nil ?_
        cases sJ H
        exact ⟨hA.sub ⟨rfl, rfl, rfl, trivial⟩, hI⟩
      · rintro a w ⟨hA, hI⟩
        have H := Hk1
        refine w_cond hA rfl (fun hc3 => ?_) (fun hc3 => ?_)
        · have H := bT H hc3
          refine w_seq fun _ hN10 => w_reg ?_
          obtain ⟨r4, hr4, H⟩ := bB H
          refine o_callp (u := .agg [[.int .i64 r4.Code], [.bool r4.Placed], [.int .i64 r4.Pos], [.bool r4.Outer], [.int .i64 r4.At]].flatten.toArray) cf59 hA rfl hI (sargassoref_Bare.c μ _ hI.agr (-1) (in_lit .i64 (-1) rfl) r4 hr4) rfl fun a w hz5 hI hA => 
            o_st (j := 0) [] [[.int .i64 0], [.bool false], [.int .i64 0], [.bool false], [.int .i64 0]] [[.int .i64 r4.Code], [.bool r4.Placed], [.int .i64 r4.Pos], [.bool r4.Outer], [.int .i64 r4.At]] [] sz51 rfl rfl (fl_cons (one_one rfl) (fl_cons (one_one rfl) (fl_cons (one_one rfl) (fl_cons (one_one rfl) (fl_cons (one_one rfl) fl_nil))))) hI rfl hA rfl rfl rfl rfl fun w hI => ?_
          refine o_nil <| hN10 _ _ <| w_ret ?_
          obtain rfl := sJ H
          exact retc Tryd.underlying51 rfl sz51 rfl hI (j := 0) rfl hA Tryd.results57 rfl ⟨_, rfl, rfl, ⟨hz5.1, hz5.2.1, hz5.2.2⟩, hI.forget0⟩
        · have hc3 := ft hc3; have H := bF H hc3
          refine w_skip <| hN9 _ _ <| w_seq fun _ hN11 => w_reg <| stm hA rfl rfl fun a hA => 
            stp hA (r_nilc hA rfl) rfl fun a hA => 
            stp hA (r_fd (k := 0 + 1) Tryd.underlying154 rfl sz47 hA rfl rfl) rfl fun a hA => 
            stp hA (r_ldm1 [[.int .i64 x0.pos]] [] Tryd.underlying47 rfl hI.agr hat1 hA rfl rfl) rfl fun a hA => 
            stp hA (r_asP (by decide) Tryd.underlying152 zrA hE1 hA rfl) rfl fun a hA => 
            stm hA rfl rfl fun a hA => 
            stp hA (r_extr (vs := [aP 152 v1, .bool x0.err.isP]) hA rfl rfl) rfl fun a hA => 
            stp hA (r_extr (vs := [aP 152 v1, .bool x0.err.isP]) hA rfl rfl) rfl fun a hA => 
            sta hA rfl rfl fun a hA => 
            sta hA rfl rfl fun a hA => ?_
          refine o_nil <| hN11 _ _ <| w_seq fun _ hN12 => w_seq fun _ hN13 => w_reg <| stm hA rfl rfl fun a hA => 
            stp hA (r_not hA rfl) rfl fun a hA => ?_
          refine o_nil <| hN13 _ _ <| w_cond hA rfl (fun hc4 => ?_) (fun hc4 => ?_)
          · have hc40 := hc4; have hc4 := nT hc4; have hc4 := ft hc4; have H := bF H hc4; have hc4P : x0.err.isP = false := by simpa using hc40
            refine w_seq fun _ hN14 => ?_
            refine w_anyS [] mo (fun w (h : Iv w0 [] μ μ [cel g1 [[.int .i64 0], [.bool false], [.int .i64 0], [.bool false], [.int .i64 0]] 51] w) => (h.sl [] rfl : Iv w0 [] μ μ [] w)) hI fun w hI => ?_
            refine gE 0 hA rfl (.inr (hI.sl [] rfl)) (fun _ => r_mv hA rfl) fun a hA => ?_
            refine gE 1 hA rfl (.inr (hI.sl [] rfl)) (fun _ => r_nilc hA rfl) fun a hA => ?_
            refine gE 2 hA rfl (.inr (hI.sl [] rfl)) (fun _ => r_fd (k := 0 + 1) Tryd.underlying154 rfl sz47 hA rfl rfl) fun a hA => ?_
            refine gT 3 hA rfl (hI.sl [] rfl) (fun w hI => r_ldm1 [[.int .i64 x0.pos]] [] Tryd.underlying47 rfl hI.agr hat1 hA rfl rfl) fun a hA => ?_
            refine gE 5 hA rfl (.inr (hI.sl [] rfl)) (fun _ => r_mv hA rfl) fun a hA => ?_
            refine gE 6 hA rfl (.inr (hI.sl [] rfl)) (fun _ => r_nilc hA rfl) fun a hA => ?_
            refine gE 7 hA rfl (.inr (hI.sl [] rfl)) (fun _ => r_fd (k := 0) Tryd.underlying154 rfl sz3 hA rfl rfl) fun a hA => ?_
            refine gT 8 hA rfl (hI.sl [] rfl) (fun w hI => r_ldm1 [] [[v1]] Tryd.underlying3 rfl hI.agr hat1 hA rfl rfl) fun a hA => ?_
            refine gF 4 rfl ?_
            obtain ⟨r5, hr5, H⟩ := bB H
            refine o_callp (u := .int .i64 r5) cf90 hA rfl hI (sargassosee_sentinel.c μ _ hI.agr x0.err v1 hE1 hG r5 hr5) rfl fun a w hz6 hI hA => ?_
            refine o_nil <| ⟨(.inr (hI.sl [] rfl)), ?_⟩
            refine gF 9 rfl ?_
            obtain ⟨r6, hr6, H⟩ := bB H
            refine o_callp (u := .agg [[.int .i64 r6.Code], [.bool r6.Placed], [.int .i64 r6.Pos], [.bool r6.Outer], [.int .i64 r6.At]].flatten.toArray) cf16 hA rfl hI (sargassoref_Placed.c μ _ hI.agr r5 hz6 x0.pos hw1 r6 hr6) rfl fun a w hz7 hI hA => ?_
            refine o_nil <| ⟨(.inr (hI.sl [] rfl)), ?_⟩
            refine gF 10 rfl ?_
            refine o_st (j := 0) [] [[.int .i64 0], [.bool false], [.int .i64 0], [.bool false], [.int .i64 0]] [[.int .i64 r6.Code], [.bool r6.Placed], [.int .i64 r6.Pos], [.bool r6.Outer], [.int .i64 r6.At]] [] sz51 rfl rfl (fl_cons (one_one rfl) (fl_cons (one_one rfl) (fl_cons (one_one rfl) (fl_cons (one_one rfl) (fl_cons (one_one rfl) fl_nil))))) hI rfl hA rfl rfl rfl rfl fun w hI => ?_
            refine o_nil <| ⟨(.inr (hI.sl [] rfl)), ?_⟩
            refine gN <| hN14 _ _ <| w_ret ?_
            obtain rfl := sJ H
            exact retc Tryd.underlying51 rfl sz51 rfl hI (j := 0) rfl hA Tryd.results57 rfl ⟨_, rfl, rfl, ⟨hz7.1, hz7.2.1, hz7.2.2⟩, hI.forget0⟩
          · have hc40 := hc4; have hc4 := nF hc4; have H := bT H hc4; have hc4P : x0.err.isP = true := by simpa using hc40
            refine w_skip <| hN12 _ _ <| w_seq fun _ hN15 => ?_
            obtain ⟨g3, v2, hv2, hat2, hw2, hE2⟩ := ErV.isP hE1 hc4P
            rw [hv2] at hA
            obtain ⟨c2, hz8, Hk2⟩ := bB H
            refine w_cut (fun a w => Fr a 75 [(2, .pointer (some ⟨g1, 0, none⟩)), (3, .pointer (some ⟨g2, 0, none⟩)), (5, .pointer (some ⟨g3, 0, none⟩)), (58, .bool c2)] ∧ Iv w0 [] μ μ [cel g1 [[.int .i64 0], [.bool false], [.int .i64 0], [.bool false], [.int .i64 0]] 51] w) ?_ ?_
            · have H := bI hz8
              refine w_reg <| stm hA rfl rfl fun a hA => 
                stp hA (r_ptrnil_eql Tryd.underlying152 hA rfl rfl) rfl fun a hA => 
                stm hA rfl rfl fun a hA => 
                o_yes hA rfl rfl rfl <| 
                stm hA rfl rfl fun a hA => 
                o_yes hA rfl rfl rfl <| 
                stp hA (r_nilc hA rfl) rfl fun a hA => 
                o_yes hA rfl rfl rfl <| 
                stp hA (r_fd (k := 0 + 1) Tryd.underlying154 rfl sz47 hA rfl rfl) rfl fun a hA => 
                o_yes hA rfl rfl rfl <| 
                stp hA (r_ldm1 [[.int .i64 x0.err.pos]] [] Tryd.underlying47 rfl hI.agr hat2 hA rfl rfl) rfl fun a hA => 
                o_yes hA rfl rfl rfl <| 
                stp hA (r_eqE erF hI.agr hE2 erv_nil (.inl ⟨.inr ⟨_, rfl⟩, Er.fitR⟩) hA rfl rfl) rfl fun a hA => 
                stp hA (r_pick_f hA rfl rfl rfl) rfl fun a hA => ?_
              refine o_nil ?_
              cases sJ H
              exact ⟨hA.sub ⟨rfl, rfl, rfl, rfl, trivial⟩, hI⟩
            · rintro a w ⟨hA, hI⟩
              have H := Hk2
              refine w_cond hA rfl (fun hc5 => ?_) (fun hc5 => ?_)
              · have H := bT H hc5
                refine w_seq fun _ hN16 => w_reg ?_
                obtain ⟨r7, hr7, H⟩ := bB H
                refine o_callp (u := .agg [[.int .i64 r7.Code], [.bool r7.Placed], [.int .i64 r7.Pos], [.bool r7.Outer], [.int .i64 r7.At]].flatten.toArray) cf59 hA rfl hI (sargassoref_Bare.c μ _ hI.agr (-1) (in_lit .i64 (-1) rfl) r7 hr7) rfl fun a w hz9 hI hA => 
                  o_st (j := 0) [] [[.int .i64 0], [.bool false], [.int .i64 0], [.bool false], [.int .i64 0]] [[.int .i64 r7.Code], [.bool r7.Placed], [.int .i64 r7.Pos], [.bool r7.Outer], [.int .i64 r7.At]] [] sz51 rfl rfl (fl_cons (one_one rfl) (fl_cons (one_one rfl) (fl_cons (one_one rfl) (fl_cons (one_one rfl) (fl_cons (one_one rfl) fl_nil))))) hI rfl hA rfl rfl rfl rfl fun w hI => ?_
                refine o_nil <| hN16 _ _ <| w_ret ?_
                obtain rfl := sJ H
                exact retc Tryd.underlying51 rfl sz51 rfl hI (j := 0) rfl hA Tryd.results57 rfl ⟨_, rfl, rfl, ⟨hz9.1, hz9.2.1, hz9.2.2⟩, hI.forget0⟩
              · have hc5 := ft hc5; have H := bF H hc5
                refine w_skip <| hN15 _ _ <| w_seq fun _ hN17 => ?_
                refine w_anyS [] mo (fun w (h : Iv w0 [] μ μ [cel g1 [[.int .i64 0], [.bool false], [.int .i64 0], [.bool false], [.int .i64 0]] 51] w) => (h.sl [] rfl : Iv w0 [] μ μ [] w)) hI fun w hI => ?_
                refine gE 0 hA rfl (.inr (hI.sl [] rfl)) (fun _ => r_mv hA rfl) fun a hA => ?_
                refine gE 1 hA rfl (.inr (hI.sl [] rfl)) (fun _ => r_nilc hA rfl) fun a hA => ?_
                refine gE 2 hA rfl (.inr (hI.sl [] rfl)) (fun _ => r_fd (k := 0 + 1) Tryd.underlying154 rfl sz47 hA rfl rfl) fun a hA => ?_
                refine gT 3 hA rfl (hI.sl [] rfl) (fun w hI => r_ldm1 [[.int .i64 x0.err.pos]] [] Tryd.underlying47 rfl hI.agr hat2 hA rfl rfl) fun a hA => ?_
                refine gE 5 hA rfl (.inr (hI.sl [] rfl)) (fun _ => r_mv hA rfl) fun a hA => ?_
                refine gE 6 hA rfl (.inr (hI.sl [] rfl)) (fun _ => r_nilc hA rfl) fun a hA => ?_
                refine gE 7 hA rfl (.inr (hI.sl [] rfl)) (fun _ => r_fd (k := 0) Tryd.underlying154 rfl sz3 hA rfl rfl) fun a hA => ?_
                refine gT 8 hA rfl (hI.sl [] rfl) (fun w hI => r_ldm1 [] [[v2]] Tryd.underlying3 rfl hI.agr hat2 hA rfl rfl) fun a hA => ?_
                refine gE 10 hA rfl (.inr (hI.sl [] rfl)) (fun _ => r_mv hA rfl) fun a hA => ?_
                refine gE 11 hA rfl (.inr (hI.sl [] rfl)) (fun _ => r_nilc hA rfl) fun a hA => ?_
                refine gE 12 hA rfl (.inr (hI.sl [] rfl)) (fun _ => r_fd (k := 0) Tryd.underlying154 rfl sz3 hA rfl rfl) fun a hA => ?_
                refine gT 13 hA rfl (hI.sl [] rfl) (fun w hI => r_ldm1 [] [[v1]] Tryd.underlying3 rfl hI.agr hat1 hA rfl rfl) fun a hA => ?_
                refine gF 4 rfl ?_
                obtain ⟨r8, hr8, H⟩ := bB H
                refine o_callp (u := .int .i64 r8) cf90 hA rfl hI (sargassosee_sentinel.c μ _ hI.agr x0.err.err v2 hE2 hG r8 hr8) rfl fun a w hz10 hI hA => ?_
                refine o_nil <| ⟨(.inr (hI.sl [] rfl)), ?_⟩
                refine gF 9 rfl ?_
                obtain ⟨r9, hr9, H⟩ := bB H
                refine o_callp (u := .agg [[.int .i64 r9.Code], [.bool r9.Placed], [.int .i64 r9.Pos], [.bool r9.Outer], [.int .i64 r9.At]].flatten.toArray) cf16 hA rfl hI (sargassoref_Placed.c μ _ hI.agr r8 hz10 x0.err.pos hw2 r9 hr9) rfl fun a w hz11 hI hA => ?_
                refine o_nil <| ⟨(.inr (hI.sl [] rfl)), ?_⟩
                refine gF 14 rfl ?_
                obtain ⟨r10, hr10, H⟩ := bB H
                refine o_callp (u := .agg [[.int .i64 r10.Code], [.bool r10.Placed], [.int .i64 r10.Pos], [.bool r10.Outer], [.int .i64 r10.At]].flatten.toArray) cf91 hA rfl hI (sargassoref_Around.c μ _ hI.agr r9 ⟨hz11.1, hz11.2.1, hz11.2.2⟩ x0.pos hw1 r10 hr10) rfl fun a w hz12 hI hA => ?_
                refine o_nil <| ⟨(.inr (hI.sl [] rfl)), ?_⟩
                refine gF 15 rfl ?_
                refine o_st (j := 0) [] [[.int .i64 0], [.bool false], [.int .i64 0], [.bool false], [.int .i64 0]] [[.int .i64 r10.Code], [.bool r10.Placed], [.int .i64 r10.Pos], [.bool r10.Outer], [.int .i64 r10.At]] [] sz51 rfl rfl (fl_cons (one_one rfl) (fl_cons (one_one rfl) (fl_cons (one_one rfl) (fl_cons (one_one rfl) (fl_cons (one_one rfl) fl_nil))))) hI rfl hA rfl rfl rfl rfl fun w hI => ?_
                refine o_nil <| ⟨(.inr (hI.sl [] rfl)), ?_⟩
                refine gN <| hN17 _ _ <| w_ret ?_
                obtain rfl := sJ H
                exact retc Tryd.underlying51 rfl sz51 rfl hI (j := 0) rfl hA Tryd.results57 rfl ⟨_, rfl, rfl, ⟨hz12.1, hz12.2.1, hz12.2.2⟩, hI.forget0⟩
set_option maxRecDepth 20000 in
theorem sargassosee_Same.c (μ : Store) (w0 : World) (hμ : Agr μ w0) (x0 : Er) (u0 : Value) (hx0 : ErS μ u0 x0) (x1 : sargassorefFault) (hx1 : sargassorefFaultW μ x1) (hG : Gl μ) (r : Bool) (H : sargassosee_Same.f x0 x1 = some r) :
    Calls Tryd.prog 15 [u0, .agg [[.int .i64 x1.Code], [.bool x1.Placed], [.int .i64 x1.Pos], [.bool x1.Outer], [.int .i64 x1.At]].flatten.toArray].toArray w0 (fun e w' => ∃ v, e = .returned v ∧ v = .bool r ∧ True ∧ Iv w0 [] μ μ [] w') := by
  refine enter Tryd.func15 rfl Tryd.ntmps15 rfl fun a hA => ?_
  have hI := Iv.start hμ
  have H := bI H
  refine w_seq fun _ hN1 => w_reg <| o_box [[.int .i64 x1.Code], [.bool x1.Placed], [.int .i64 x1.Pos], [.bool x1.Outer], [.int .i64 x1.At]] hI hA rfl rfl rfl fun g1 a w hA hI hg1 => 
    sta hA rfl rfl fun a hA => ?_
  refine o_nil <| hN1 _ _ <| w_seq fun _ hN2 => ?_
  refine w_any [] mo hI fun w hI => ?_
  refine gE 0 hA rfl (.inr hI) (fun _ => r_mv hA rfl) fun a hA => ?_
  refine gT 2 hA rfl hI (fun w hI => r_ldA (j := 0) [] [[.int .i64 x1.Code], [.bool x1.Placed], [.int .i64 x1.Pos], [.bool x1.Outer], [.int .i64 x1.At]] [] Tryd.underlying51 rfl sz51 rfl hI rfl hA rfl rfl) fun a hA => ?_
  refine gF 1 rfl ?_
  obtain ⟨r1, hr1, H⟩ := bB H
  refine o_callp (u := .agg [[.int .i64 r1.Code], [.bool r1.Placed], [.int .i64 r1.Pos], [.bool r1.Outer], [.int .i64 r1.At]].flatten.toArray) cf57 hA rfl hI (sargassosee_Fault.c μ _ hI.agr x0 u0 hx0 hG r1 hr1) rfl fun a w hz1 hI hA => ?_
  refine o_nil <| ⟨(.inr hI), ?_⟩
  refine gF 3 rfl ?_
  obtain ⟨r2, hr2, H⟩ := bB H
  refine o_callp (u := .bool r2) cf56 hA rfl hI (sargassoref_SameFault.c μ _ hI.agr r1 ⟨hz1.1, hz1.2.1, hz1.2.2⟩ x1 ⟨hx1.1, hx1.2.1, hx1.2.2⟩ r2 hr2) rfl fun a w hz2 hI hA => ?_
  refine o_nil <| ⟨(.inr hI), ?_⟩
  refine gE 4 hA rfl (.inr hI) (fun _ => r_as hA rfl) fun a hA => ?_
  refine gN <| hN2 _ _ <| w_ret ?_
  obtain rfl := sJ H
  exact ret1 hA Tryd.results15 rfl ⟨_, rfl, rfl, trivial, hI.forget0⟩
set_option maxRecDepth 20000 in
theorem sargassosee_Is.c (μ : Store) (w0 : World) (hμ : Agr μ w0) (x0 : Er) (u0 : Value) (hx0 : ErS μ u0 x0) (x1 : Int) (hx1 : InR .i64 x1) (hG : Gl μ) (r : Bool) (H : sargassosee_Is.f x0 x1 = some r) :
    Calls Tryd.prog 17 [u0, .int .i64 x1].toArray w0 (fun e w' => ∃ v, e = .returned v ∧ v = .bool r ∧ True ∧ Iv w0 [] μ μ [] w') := by
  refine enter Tryd.func17 rfl Tryd.ntmps17 rfl fun a hA => ?_
  have hI := Iv.start hμ
  have H := bI H
  refine w_seq fun _ hN1 => w_reg <| sta hA rfl rfl fun a hA => ?_
  refine o_nil <| hN1 _ _ <| w_seq fun _ hN2 => w_reg <| stm hA rfl rfl fun a hA => 
    stm hA rfl rfl fun a hA => ?_
  obtain ⟨r1, hr1, H⟩ := bB H
  refine o_callp (u := .agg [[.int .i64 r1.Code], [.bool r1.Placed], [.int .i64 r1.Pos], [.bool r1.Outer], [.int .i64 r1.At]].flatten.toArray) cf59 hA rfl hI (sargassoref_Bare.c μ _ hI.agr x1 hx1 r1 hr1) rfl fun a w hz1 hI hA => ?_
  obtain ⟨r2, hr2, H⟩ := bB H
  refine o_callp (u := .bool r2) cf15 hA rfl hI (sargassosee_Same.c μ _ hI.agr x0 u0 hx0 r1 ⟨hz1.1, hz1.2.1, hz1.2.2⟩ hG r2 hr2) rfl fun a w hz2 hI hA => 
    sta hA rfl rfl fun a hA => ?_
  refine o_nil <| hN2 _ _ <| w_ret ?_
  obtain rfl := sJ H
  exact ret1 hA Tryd.results17 rfl ⟨_, rfl, rfl, trivial, hI.forget0⟩
end Go.Proofs.YtcpdnoochieecaaDoor.T
namespace Go.Proofs.YtcpdnoochieecaaDoor.T
open Go Go.Proofs Go.Proofs.YtcpdnoochieecaaDoor.K
set_option linter.unusedVariables false
set_option linter.unusedSimpArgs false
noncomputable def notes_New.f (x0 : Int) : Option ((Option notesLog) × Er) := (((if x0 < 1 then some true else some (decide (65536 < x0)))).bind fun c1 => (if c1 = true then some (none, xErrRange) else some ((some (⟨x0, 0, [], ([] : List (Int × Int))⟩ : notesLog)), (Er.b 0))))
noncomputable def notes_Log_Begin.f (x0 : notesLog) : Option (Int × notesLog) := some (IntKind.i64.wrap (x0.op + 1), (⟨x0.most, IntKind.i64.wrap (x0.op + 1), x0.l, x0.lost⟩ : notesLog))
def slices_Clone_api_Note_api_Note.f (x0 : List Note) : Option (List Note) := if x0.length ≤ 2932031007402 then some x0 else none
noncomputable def notes_Log_All.f (x0 : notesLog) : Option (List Note) := ((slices_Clone_api_Note_api_Note.f x0.l).bind fun r1 => some r1)
noncomputable def notes_Log_Add.f (x0 : notesLog) (x1 : List Int) (x2 : Int) : Option (Er × notesLog) := (((if x2 < 1 then some true else some (decide (9 < x2)))).bind fun c1 => (if c1 = true then some (xErrRange, (⟨x0.most, x0.op, x0.l, x0.lost⟩ : notesLog)) else (if x0.l.length + 1 ≤ 2932031007402 then (((if x0.most < ((x0.l ++ ([(⟨x0.op, x1, x2⟩ : Note)] : List Note)).length : Int) then (if 0 < ((x0.l ++ ([(⟨x0.op, x1, x2⟩ : Note)] : List Note)).length : Int) then (if 0 ≤ 1 ∧ 1 ≤ ((x0.l ++ ([(⟨x0.op, x1, x2⟩ : Note)] : List Note)).length : Int) then ((slices_Clone_api_Note_api_Note.f (((x0.l ++ ([(⟨x0.op, x1, x2⟩ : Note)] : List Note)).take (((x0.l ++ ([(⟨x0.op, x1, x2⟩ : Note)] : List Note)).length : Int)).toNat).drop (1 : Int).toNat)).bind fun r1 => some (r1, mput x0.lost (((x0.l ++ ([(⟨x0.op, x1, x2⟩ : Note)] : List Note)).getD (0 : Int).toNat default).Op) (IntKind.i64.wrap (((mget x0.lost (((x0.l ++ ([(⟨x0.op, x1, x2⟩ : Note)] : List Note)).getD (0 : Int).toNat default).Op)).getD 0) + 1)))) else none) else none) else some (x0.l ++ ([(⟨x0.op, x1, x2⟩ : Note)] : List Note), x0.lost))).bind fun (c2, c3) => some ((Er.b 0), (⟨x0.most, x0.op, c2, c3⟩ : notesLog))) else none)))
noncomputable def notes_Log_Op.f (x0 : notesLog) : Option Int := some x0.op
noncomputable def notes_Log_Of_1.f (x0 : Note) (x1 : Int) : Option Bool := some (decide (x0.Op ≠ x1))
noncomputable def slices_IndexFunc_api_Note_api_Note_at_notes_Log_Of_1.s0 (x0 : List Note) (x1_0 : Int) : Int → Option (Int ⊕ Int) := fun s1 => (if s1 < (x0.length : Int) then (if 0 ≤ s1 ∧ s1 < (x0.length : Int) then ((notes_Log_Of_1.f (x0.getD s1.toNat default) x1_0).bind fun r1 => (if r1 = true then some (.inr s1) else some (.inl (IntKind.i64.wrap (s1 + 1))))) else none) else some (.inr (-1)))
noncomputable def slices_IndexFunc_api_Note_api_Note_at_notes_Log_Of_1.f (x0 : List Note) (x1_0 : Int) : Option Int := loopO (slices_IndexFunc_api_Note_api_Note_at_notes_Log_Of_1.s0 x0 x1_0) 0
noncomputable def slices_DeleteFunc_api_Note_api_Note_at_notes_Log_Of_1.s0 (x1_0 : Int) : (Int × Int × (List Note)) → Option ((Int × Int × (List Note)) ⊕ (Int × (List Note))) := fun (s1, s2, s3) => (if s2 < (s3.length : Int) then (((if 0 ≤ s2 ∧ s2 < (s3.length : Int) then ((notes_Log_Of_1.f (s3.getD s2.toNat default) x1_0).bind fun r2 => (if r2 = true then some (s1, s3) else (if 0 ≤ s1 ∧ s1 < (s3.length : Int) then some (IntKind.i64.wrap (s1 + 1), s3.set s1.toNat (s3.getD s2.toNat default)) else none))) else none)).bind fun (c3, c4) => some (.inl (c3, IntKind.i64.wrap (s2 + 1), c4))) else some (.inr (s1, s3)))
noncomputable def slices_DeleteFunc_api_Note_api_Note_at_notes_Log_Of_1.f (x0 : List Note) (x1_0 : Int) : Option (List Note) := ((slices_IndexFunc_api_Note_api_Note_at_notes_Log_Of_1.f x0 x1_0).bind fun r1 => (if r1 = (-1) then some x0 else ((loopO (slices_DeleteFunc_api_Note_api_Note_at_notes_Log_Of_1.s0 x1_0) (r1, IntKind.i64.wrap (r1 + 1), x0)).bind fun (c1, c2) => (if 0 ≤ c1 ∧ c1 ≤ (c2.length : Int) then some (c2.take ((c1).toNat)) else none))))
noncomputable def notes_Log_Of.f (x0 : notesLog) (x1 : Int) : Option (List Note) := ((notes_Log_All.f (⟨x0.most, x0.op, x0.l, x0.lost⟩ : notesLog)).bind fun r1 => ((slices_DeleteFunc_api_Note_api_Note_at_notes_Log_Of_1.f r1 x1).bind fun r2 => some r2))
noncomputable def notes_Log_Lost.f (x0 : notesLog) (x1 : Int) : Option Int := some ((mget x0.lost x1).getD 0)
end Go.Proofs.YtcpdnoochieecaaDoor.T
namespace Go.Proofs.YtcpdnoochieecaaDoor.T
open Go Go.Proofs Go.Proofs.YtcpdnoochieecaaDoor.K
set_option linter.unusedVariables false
set_option linter.unusedSimpArgs false
set_option maxRecDepth 20000 in
theorem notes_New.c (μ : Store) (w0 : World) (hμ : Agr μ w0) (x0 : Int) (hx0 : InR .i64 x0) (e7 : Value) (he7 : ErS μ e7 (Er.b 8)) (r : (Option notesLog) × Er) (H : notes_New.f x0 = some r) :
    Calls Tryd.prog 28 [.int .i64 x0].toArray w0 (fun e w' => ∃ v, e = .returned v ∧ (((r.1) = none ∧ ∃ (v1 : Value) (μ' : Store), v = .tuple #[.pointer none, v1] ∧ ErS μ' v1 (r.2) ∧ Iv w0 [] μ μ' [] w') ∨ (∃ pq : notesLog, (r.1) = some pq ∧ ∃ (gq_1 : Nat) (vp_1 : Value) (cp_1 : List Value) (gm_1 : Nat) (v1 : Value) (μ' : Store), v = .tuple #[.pointer (some ⟨gq_1, 0, none⟩), v1] ∧ InR .i64 pq.most ∧ InR .i64 pq.op ∧ Els (RNote μ') 34 pq.l cp_1 ∧ mw131 pq.lost ∧ ErS μ' v1 (r.2) ∧ Iv w0 [] μ μ' [cel gq_1 [[.int .i64 pq.most], [.int .i64 pq.op], [vp_1], [.map (some gm_1)]] 133, row 79 34 vp_1 pq.l.length cp_1, mpI gm_1 (ent kv131 vv131 pq.lost)] w'))) := by
  refine enter Tryd.func28 rfl Tryd.ntmps28 rfl fun a hA => ?_
  have hI := Iv.start hμ
  have H := bI H
  refine w_seq fun _ hN1 => w_reg <| sta hA rfl rfl fun a hA => 
    sta hA rfl rfl fun a hA => ?_
  refine o_nil <| hN1 _ _ <| w_seq fun _ hN2 => ?_
  obtain ⟨c1, hz1, Hk1⟩ := bB H
  refine w_cut (fun a w => Fr a 15 [(0, .int .i64 x0), (2, .pointer none), (3, .nilIface), (9, .bool c1)] ∧ Iv w0 [] μ μ [] w) ?_ ?_
  · have H := bI hz1
    refine w_reg <| stm hA rfl rfl fun a hA => 
      stp hA (r_lss hA rfl rfl) rfl fun a hA => 
      stm hA rfl rfl fun a hA => ?_
    rcases Bool.eq_false_or_eq_true (decide (x0 < 1)) with hc1 | hc1
    · have hc10 := hc1; obtain ⟨hc1, H⟩ := dT H hc1
      refine o_no hA rfl rfl (by rw [hc10]; simp [vb]) rfl fun a hA => 
        o_no hA rfl rfl (by rw [hc10]; simp [vb]) rfl fun a hA => 
        stp hA (r_pick_t hA rfl hc10 rfl) rfl fun a hA => ?_
      refine o_nil ?_
      cases sJ H
      exact ⟨hA.sub ⟨rfl, rfl, rfl, rfl, trivial⟩, hI⟩
    · have hc10 := hc1; obtain ⟨hc1, H⟩ := dF H hc1
      refine o_yes hA rfl rfl hc10 <| 
        stm hA rfl rfl fun a hA => 
        o_yes hA rfl rfl hc10 <| 
        stp hA (r_gtr hA rfl rfl) rfl fun a hA => 
        stp hA (r_pick_f hA rfl hc10 rfl) rfl fun a hA => ?_
      refine o_nil ?_
      cases sJ H
      exact ⟨hA.sub ⟨rfl, rfl, rfl, rfl, trivial⟩, hI⟩
  · rintro a w ⟨hA, hI⟩
    have H := Hk1
    refine w_cond hA rfl (fun hc2 => ?_) (fun hc2 => ?_)
    · have H := bT H hc2
      refine w_seq fun _ hN3 => ?_
      refine w_draw mo (by kernel_rfl) hI ?_
      refine qtp hA (fun _ hI => r_ldG Tryd.underlying47 rfl hI.agr he7 hA) rfl fun a hA => 
        qtp hA (fun _ hI => r_as hA rfl) rfl fun a hA => 
        qtp hA (fun _ hI => r_as hA rfl) rfl fun a hA => ?_
      refine q_nil fun w hI => ?_
      refine hN3 _ _ <| w_ret ?_
      obtain rfl := sJ H
      exact ret2 hA Tryd.results28 rfl rfl ⟨_, rfl, .inl ⟨rfl, e7, μ, rfl, he7, hI⟩⟩
    · have hc2 := ft hc2; have H := bF H hc2
      refine w_skip <| hN2 _ _ <| w_seq fun _ hN4 => w_reg <| stm hA rfl rfl fun a hA => 
        o_mkmap kv131 vv131 hI hA rfl fun g1 a w hI hA => 
        stp hA (r_bldS (cs := [[.int .i64 x0], [.int .i64 0], [(.slice none 0 0)], [.map (some g1)]].flatten.toArray) (pl := [(0, 1), (1, 1), (2, 1), (3, 1)]) zr133 Tryd.underlying133 ⟨rfl, sz3, rfl, sz3, rfl, sz76, rfl, sz131, trivial⟩ hA rfl ((fill_seg [] [[.int .i64 0]] [[.int .i64 x0]] [[.int .i64 0], [(.slice none 0 0)], [.map none]] rfl rfl rfl rfl rfl).trans ((fill_seg [[.int .i64 x0], [.int .i64 0], [(.slice none 0 0)]] [[.map none]] [[.map (some g1)]] [] rfl rfl rfl rfl rfl).trans (rfl)))) rfl fun a hA => 
        o_box [[.int .i64 x0], [.int .i64 0], [(.slice none 0 0)], [.map (some g1)]] hI hA rfl rfl rfl fun g2 a w hA hI hg2 => 
        sta hA rfl rfl fun a hA => 
        sta hA rfl rfl fun a hA => ?_
      refine o_nil <| hN4 _ _ <| w_ret ?_
      have hI := hI.nilRow 79 34
      obtain rfl := sJ H
      exact ret2 hA Tryd.results28 rfl rfl ⟨_, rfl, .inr ⟨_, rfl, g2, (.slice none 0 0), [], g1, .nilIface, μ, rfl, hx0, (in_lit .i64 0 rfl), (Els.nil (RE := (RNote μ)) (sz := 34)), mw_nil, erv_nil, (hI.sl [1, 0, 2] rfl)⟩⟩
set_option maxRecDepth 20000 in
theorem notes_Log_Begin.c (μ : Store) (w0 : World) (hμ : Agr μ w0) (x0 : notesLog) (vp1 : Value) (cp1 : List Value) (gm1 : Nat) (g0 : Nat) (hp1 : InR .i64 x0.most) (hp2 : InR .i64 x0.op) (hp3 : Els (RNote μ) 34 x0.l cp1) (hp4 : mw131 x0.lost) (ho0 : Its μ w0 [cel g0 [[.int .i64 x0.most], [.int .i64 x0.op], [vp1], [.map (some gm1)]] 133, row 79 34 vp1 x0.l.length cp1, mpI gm1 (ent kv131 vv131 x0.lost)]) (r : Int × notesLog) (H : notes_Log_Begin.f x0 = some r) :
    Calls Tryd.prog 29 [.pointer (some ⟨g0, 0, none⟩)].toArray w0 (fun e w' => ∃ v, e = .returned v ∧ ∃ (vp_1 : Value) (cp_1 : List Value) (gm_1 : Nat), v = .int .i64 (r.1) ∧ InR .i64 (r.1) ∧ InR .i64 (r.2).most ∧ InR .i64 (r.2).op ∧ Els (RNote μ) 34 (r.2).l cp_1 ∧ mw131 (r.2).lost ∧ Iv w0 (many [cel g0 [[.int .i64 x0.most], [.int .i64 x0.op], [vp1], [.map (some gm1)]] 133, row 79 34 vp1 x0.l.length cp1, mpI gm1 (ent kv131 vv131 x0.lost)]).foot μ μ [cel g0 [[.int .i64 ((r.2).most)], [.int .i64 ((r.2).op)], [vp_1], [.map (some gm_1)]] 133, row 79 34 vp_1 ((r.2).l).length cp_1, mpI gm_1 (ent kv131 vv131 ((r.2).lost))] w') := by
  refine enter Tryd.func29 rfl Tryd.ntmps29 rfl fun a hA => ?_
  have hI := Iv.startN hμ ho0
  have H := bI H
  refine w_seq fun _ hN1 => w_reg <| sta hA rfl rfl fun a hA => ?_
  refine o_nil <| hN1 _ _ <| w_seq fun _ hN2 => w_reg <| stm hA rfl rfl fun a hA => 
    stp hA (r_nilc hA rfl) rfl fun a hA => 
    stp hA (r_fd (k := 1) Tryd.underlying133 rfl sz3 hA rfl rfl) rfl fun a hA => 
    stp hA (r_ld1 (j := 0) [[.int .i64 x0.most]] [[vp1], [.map (some gm1)]] Tryd.underlying3 rfl hI rfl hA rfl rfl) rfl fun a hA => 
    stp hA (r_add hA rfl rfl) rfl fun a hA => 
    stp hA (r_nilc hA rfl) rfl fun a hA => 
    stp hA (r_fd (k := 1) Tryd.underlying133 rfl sz3 hA rfl rfl) rfl fun a hA => 
    o_st (j := 0) [[.int .i64 x0.most]] [[.int .i64 x0.op]] [[.int .i64 (IntKind.i64.wrap (x0.op + 1))]] [[vp1], [.map (some gm1)]] sz3 rfl rfl (fl_cons (one_one rfl) fl_nil) hI rfl hA rfl rfl rfl rfl fun w hI => ?_
  refine o_nil <| hN2 _ _ <| w_seq fun _ hN3 => w_reg <| stm hA rfl rfl fun a hA => 
    stp hA (r_nilc hA rfl) rfl fun a hA => 
    stp hA (r_fd (k := 1) Tryd.underlying133 rfl sz3 hA rfl rfl) rfl fun a hA => 
    stp hA (r_ld1 (j := 0) [[.int .i64 x0.most]] [[vp1], [.map (some gm1)]] Tryd.underlying3 rfl hI rfl hA rfl rfl) rfl fun a hA => 
    sta hA rfl rfl fun a hA => ?_
  refine o_nil <| hN3 _ _ <| w_ret ?_
  obtain rfl := sJ H
  exact ret1 hA Tryd.results29 rfl ⟨_, rfl, vp1, cp1, gm1, rfl, (wrap_in _ _), hp1, (wrap_in _ _), hp3, hp4, (hI.less (Store.le.refl _) hI.le)⟩
set_option maxRecDepth 20000 in
theorem slices_Clone_api_Note_api_Note.c (μ : Store) (w0 : World) (hμ : Agr μ w0) (x0 : List Note) (u0 : Value) (hx0 : Slc (RNote μ) 34 μ u0 x0) (r : List Note) (H : slices_Clone_api_Note_api_Note.f x0 = some r) :
    Calls Tryd.prog 69 [u0].toArray w0 (fun e w' => ∃ v, e = .returned v ∧ ∃ (v0 : Value) (c0 : List Value), v = v0 ∧ Els (RNote μ) 34 r c0 ∧ Iv w0 [] μ μ [row 79 34 v0 r.length c0] w') := by
  obtain ⟨hb, H⟩ := guard_some H
  obtain rfl := sI H
  obtain ⟨cs, hE, A, cp, rfl, h2, h3, h4, h5⟩ := hx0
  refine enter Tryd.func69 rfl Tryd.ntmps69 rfl fun a hA => ?_
  have hI := Iv.start hμ
  refine w_seq fun _ hN1 => w_reg (stp hA (r_as hA rfl) rfl fun a hA => o_nil (hN1 _ _ ?_))
  refine w_seq fun _ hN2 => w_seq fun _ hN3 => w_reg (stp hA (r_mv hA rfl) rfl fun a hA => stp hA (r_eqnil Tryd.underlying76 hA rfl rfl) rfl fun a hA => o_nil (hN3 _ _ ?_))
  refine w_cond hA rfl (fun hc => ?_) (fun hc => ?_)
  · have hx : x0 = [] := List.eq_nil_of_length_eq_zero (by
      rcases Nat.eq_zero_or_pos x0.length with h | h
      · exact h
      · rw [h4 (by omega)] at hc; cases hc)
    subst hx
    cases hE
    refine w_seq fun _ hN4 => w_reg (stp hA (r_as hA rfl) rfl fun a hA => o_nil (hN4 _ _ ?_))
    refine w_ret ?_
    have hI := hI.nilRow 79 34
    exact ret1 hA Tryd.results69 rfl ⟨_, rfl, .slice none 0 0, [], rfl, .nil, hI⟩
  · refine w_skip (hN2 _ _ ?_)
    refine w_seq fun _ hN5 => w_reg ?_
    refine o_bsl [] te79 zr79 Tryd.underlying76 hI hA rfl rfl rfl rfl (by kernel_rfl) rfl fun g a w hA hI => ?_
    refine stp hA (r_mv hA rfl) rfl fun a hA => ?_
    refine o_appL (xs := ([] : List Note)) (ys := x0) (j := 0) te79 Tryd.underlying76 hI rfl hA rfl rfl (src_sl hI.agr ⟨A, cp, rfl, h2, h3, h4, h5⟩ hE.len) hE.len (hE.ones RNote.ones) (by simp only [List.length_nil, maxLen]; omega) (by simp only [List.length_nil]; omega) rfl fun v a w hA hI => ?_
    refine stp hA (r_as hA rfl) rfl fun a hA => o_nil (hN5 _ _ (w_ret ?_))
    exact ret1 hA Tryd.results69 rfl ⟨_, rfl, v, cs, rfl, hE, hI⟩
set_option maxRecDepth 20000 in
theorem notes_Log_All.c (μ : Store) (w0 : World) (hμ : Agr μ w0) (x0 : notesLog) (vp1 : Value) (cp1 : List Value) (gm1 : Nat) (g0 : Nat) (hp1 : InR .i64 x0.most) (hp2 : InR .i64 x0.op) (hp3 : Els (RNote μ) 34 x0.l cp1) (hp4 : mw131 x0.lost) (ho0 : Its μ w0 [cel g0 [[.int .i64 x0.most], [.int .i64 x0.op], [vp1], [.map (some gm1)]] 133, row 79 34 vp1 x0.l.length cp1, mpI gm1 (ent kv131 vv131 x0.lost)]) (r : List Note) (H : notes_Log_All.f x0 = some r) :
    Calls Tryd.prog 31 [.pointer (some ⟨g0, 0, none⟩)].toArray w0 (fun e w' => ∃ v, e = .returned v ∧ ∃ (v0 : Value) (c0 : List Value), v = v0 ∧ Els (RNote μ) 34 r c0 ∧ Iv w0 (many [cel g0 [[.int .i64 x0.most], [.int .i64 x0.op], [vp1], [.map (some gm1)]] 133, row 79 34 vp1 x0.l.length cp1, mpI gm1 (ent kv131 vv131 x0.lost)]).foot μ μ [row 79 34 v0 r.length c0, cel g0 [[.int .i64 x0.most], [.int .i64 x0.op], [vp1], [.map (some gm1)]] 133, row 79 34 vp1 x0.l.length cp1, mpI gm1 (ent kv131 vv131 x0.lost)] w') := by
  refine enter Tryd.func31 rfl Tryd.ntmps31 rfl fun a hA => ?_
  have hI := Iv.startN hμ ho0
  have H := bI H
  refine w_seq fun _ hN1 => w_reg <| sta hA rfl rfl fun a hA => ?_
  refine o_nil <| hN1 _ _ <| w_seq fun _ hN2 => w_reg <| stm hA rfl rfl fun a hA => 
    stp hA (r_nilc hA rfl) rfl fun a hA => 
    stp hA (r_fd (k := 2) Tryd.underlying133 rfl sz76 hA rfl rfl) rfl fun a hA => 
    stp hA (r_ld1 (j := 0) [[.int .i64 x0.most], [.int .i64 x0.op]] [[.map (some gm1)]] Tryd.underlying76 rfl hI rfl hA rfl rfl) rfl fun a hA => ?_
  obtain ⟨r1, hr1, H⟩ := bB H
  refine o_callW (fun w v w' => ∃ (v0 : Value) (c0 : List Value), v = v0 ∧ Els (RNote μ) 34 r1 c0 ∧ Iv w [] μ μ [row 79 34 v0 r1.length c0] w') cf69 hA rfl ((by obtain ⟨μ1, hle1, hsv1, hI⟩ := hI.freezeRow 1 rfl; have hS1 : Slc (RNote μ1) 34 μ1 vp1 x0.l := ⟨_, hp3, hsv1⟩; exact (slices_Clone_api_Note_api_Note.c μ1 _ hI.agr x0.l vp1 hS1 r1 hr1).mono fun _ _ ⟨v, he, b0, b1, hv, f0, hi⟩ => ⟨v, he, b0, b1, hv, f0, hi.low hle1⟩)) rfl fun v1 a w hz1 hA => ?_
  obtain ⟨_, cs1, rfl, hE1, hi1⟩ := hz1
  have hI := hI.call hi1
  refine sta hA rfl rfl fun a hA => ?_
  refine o_nil <| hN2 _ _ <| w_ret ?_
  obtain rfl := sJ H
  exact ret1 hA Tryd.results31 rfl ⟨_, rfl, v1, cs1, rfl, hE1, (hI.less (Store.le.refl _) hI.le)⟩
set_option maxRecDepth 20000 in
theorem notes_Log_Add.c (μ : Store) (w0 : World) (hμ : Agr μ w0) (x0 : notesLog) (vp1 : Value) (cp1 : List Value) (gm1 : Nat) (g0 : Nat) (hp1 : InR .i64 x0.most) (hp2 : InR .i64 x0.op) (hp3 : Els (RNote μ) 34 x0.l cp1) (hp4 : mw131 x0.lost) (ho0 : Its μ w0 [cel g0 [[.int .i64 x0.most], [.int .i64 x0.op], [vp1], [.map (some gm1)]] 133, row 79 34 vp1 x0.l.length cp1, mpI gm1 (ent kv131 vv131 x0.lost)]) (x1 : List Int) (hx1 : Arr .u8 32 x1) (x2 : Int) (hx2 : InR .i64 x2) (e7 : Value) (he7 : ErS μ e7 (Er.b 8)) (r : Er × notesLog) (H : notes_Log_Add.f x0 x1 x2 = some r) :
    Calls Tryd.prog 30 [.pointer (some ⟨g0, 0, none⟩), .agg [av .u8 32 x1].flatten.toArray, .int .i64 x2].toArray w0 (fun e w' => ∃ v, e = .returned v ∧ ∃ (v0 : Value) (vp_1 : Value) (cp_1 : List Value) (gm_1 : Nat) (μ' : Store), v = v0 ∧ ErS μ' v0 (r.1) ∧ InR .i64 (r.2).most ∧ InR .i64 (r.2).op ∧ Els (RNote μ') 34 (r.2).l cp_1 ∧ mw131 (r.2).lost ∧ Iv w0 (many [cel g0 [[.int .i64 x0.most], [.int .i64 x0.op], [vp1], [.map (some gm1)]] 133, row 79 34 vp1 x0.l.length cp1, mpI gm1 (ent kv131 vv131 x0.lost)]).foot μ μ' [cel g0 [[.int .i64 ((r.2).most)], [.int .i64 ((r.2).op)], [vp_1], [.map (some gm_1)]] 133, row 79 34 vp_1 ((r.2).l).length cp_1, mpI gm_1 (ent kv131 vv131 ((r.2).lost))] w') := by
  refine enter Tryd.func30 rfl Tryd.ntmps30 rfl fun a hA => ?_
  have hI := Iv.startN hμ ho0
  have H := bI H
  refine w_seq fun _ hN1 => w_reg <| o_box [av .u8 32 x1] hI hA rfl rfl rfl fun g1 a w hA hI hg1 => 
    sta hA rfl rfl fun a hA => ?_
  refine o_nil <| hN1 _ _ <| w_seq fun _ hN2 => ?_
  obtain ⟨c1, hz1, Hk1⟩ := bB H
  refine w_cut (fun a w => Fr a 62 [(0, .pointer (some ⟨g0, 0, none⟩)), (2, .int .i64 x2), (4, .pointer (some ⟨g1, 0, none⟩)), (6, .nilIface), (12, .bool c1)] ∧ Iv w0 (many [cel g0 [[.int .i64 x0.most], [.int .i64 x0.op], [vp1], [.map (some gm1)]] 133, row 79 34 vp1 x0.l.length cp1, mpI gm1 (ent kv131 vv131 x0.lost)]).foot μ μ [cel g1 [av .u8 32 x1] 26, cel g0 [[.int .i64 x0.most], [.int .i64 x0.op], [vp1], [.map (some gm1)]] 133, row 79 34 vp1 x0.l.length cp1, mpI gm1 (ent kv131 vv131 x0.lost)] w) ?_ ?_
  · have H := bI hz1
    refine w_reg <| stm hA rfl rfl fun a hA => 
      stp hA (r_lss hA rfl rfl) rfl fun a hA => 
      stm hA rfl rfl fun a hA => ?_
    rcases Bool.eq_false_or_eq_true (decide (x2 < 1)) with hc1 | hc1
    · have hc10 := hc1; obtain ⟨hc1, H⟩ := dT H hc1
      refine o_no hA rfl rfl (by rw [hc10]; simp [vb]) rfl fun a hA => 
        o_no hA rfl rfl (by rw [hc10]; simp [vb]) rfl fun a hA => 
        stp hA (r_pick_t hA rfl hc10 rfl) rfl fun a hA => ?_
      refine o_nil ?_
      cases sJ H
      exact ⟨hA.sub ⟨rfl, rfl, rfl, rfl, rfl, trivial⟩, hI⟩
    · have hc10 := hc1; obtain ⟨hc1, H⟩ := dF H hc1
      refine o_yes hA rfl rfl hc10 <| 
        stm hA rfl rfl fun a hA => 
        o_yes hA rfl rfl hc10 <| 
        stp hA (r_gtr hA rfl rfl) rfl fun a hA => 
        stp hA (r_pick_f hA rfl hc10 rfl) rfl fun a hA => ?_
      refine o_nil ?_
      cases sJ H
      exact ⟨hA.sub ⟨rfl, rfl, rfl, rfl, rfl, trivial⟩, hI⟩
  · rintro a w ⟨hA, hI⟩
    have H := Hk1
    refine w_cond hA rfl (fun hc2 => ?_) (fun hc2 => ?_)
    · have H := bT H hc2
      refine w_seq fun _ hN3 => w_reg <| stp hA (r_ldG Tryd.underlying47 rfl hI.agr he7 hA) rfl fun a hA => 
        sta hA rfl rfl fun a hA => ?_
      refine o_nil <| hN3 _ _ <| w_ret ?_
      obtain rfl := sJ H
      exact ret1 hA Tryd.results30 rfl ⟨_, rfl, e7, vp1, cp1, gm1, μ, rfl, he7, hp1, hp2, hp3, hp4, (hI.sl [1, 2, 3] rfl)⟩
    · have hc2 := ft hc2; have H := bF H hc2
      refine w_skip <| hN2 _ _ <| w_seq fun _ hN4 => ?_
      refine w_any [13, 16] mo hI fun w hI => ?_
      refine gE 0 hA rfl (.inr hI) (fun _ => r_mv hA rfl) fun a hA => ?_
      refine gE 1 hA rfl (.inr hI) (fun _ => r_mv hA rfl) fun a hA => ?_
      refine gE 2 hA rfl (.inr hI) (fun _ => r_nilc hA rfl) fun a hA => ?_
      refine gE 3 hA rfl (.inr hI) (fun _ => r_fd (k := 2) Tryd.underlying133 rfl sz76 hA rfl rfl) fun a hA => ?_
      refine gT 4 hA rfl hI (fun w hI => r_ld1 (j := 1) [[.int .i64 x0.most], [.int .i64 x0.op]] [[.map (some gm1)]] Tryd.underlying76 rfl hI rfl hA rfl rfl) fun a hA => ?_
      refine gE 5 hA rfl (.inr hI) (fun _ => r_mv hA rfl) fun a hA => ?_
      refine gE 6 hA rfl (.inr hI) (fun _ => r_nilc hA rfl) fun a hA => ?_
      refine gE 7 hA rfl (.inr hI) (fun _ => r_fd (k := 1) Tryd.underlying133 rfl sz3 hA rfl rfl) fun a hA => ?_
      refine gT 8 hA rfl hI (fun w hI => r_ld1 (j := 1) [[.int .i64 x0.most]] [[vp1], [.map (some gm1)]] Tryd.underlying3 rfl hI rfl hA rfl rfl) fun a hA => ?_
      refine gT 9 hA rfl hI (fun w hI => r_ldA (j := 0) [] [av .u8 32 x1] [] Tryd.underlying26 rfl sz26 rfl hI rfl hA rfl rfl) fun a hA => ?_
      refine gE 10 hA rfl (.inr hI) (fun _ => r_mv hA rfl) fun a hA => ?_
      refine gF 11 rfl ?_
      refine stp hA (r_bldS (cs := [[.int .i64 x0.op], av .u8 32 x1, [.int .i64 x2]].flatten.toArray) (pl := [(0, 1), (1, 32), (33, 1)]) zr79 Tryd.underlying79 ⟨rfl, sz3, rfl, sz26, rfl, sz3, trivial⟩ hA rfl (by kernel_rfl)) rfl fun a hA => ?_
      refine o_nil <| ⟨(.inr hI), ?_⟩
      refine gF 12 rfl ?_
      have hE1 : Els (RNote μ) 34 ([(⟨x0.op, x1, x2⟩ : Note)] : List Note) _ := (Els.cons (c := [[.int .i64 x0.op], av .u8 32 x1, [.int .i64 x2]].flatten) ⟨rfl, ⟨hp2, hx1, hx2⟩⟩ rfl Els.nil)
      refine o_bsl ([[.int .i64 x0.op], av .u8 32 x1, [.int .i64 x2]].flatten ++ ([])) te79 zr79 Tryd.underlying76 hI hA rfl rfl rfl rfl (by kernel_rfl) rfl fun g2 a w hA hI => ?_
      generalize hcs : ([[.int .i64 x0.op], av .u8 32 x1, [.int .i64 x2]].flatten ++ ([]) : List Value) = cs1 at hE1 hI
      clear hcs
      refine o_nil <| ⟨(.inr (hI.sl [1, 2, 3, 4] rfl)), ?_⟩
      refine gF 13 rfl ?_
      obtain ⟨hb1, H⟩ := bG H
      have hE3 := hp3.app hE1
      refine o_appG (xs := (x0.l : List Note)) (ys := (([(⟨x0.op, x1, x2⟩ : Note)] : List Note) : List Note)) (M := 2932031007402) 3 te79 Tryd.underlying76 hI rfl hA rfl rfl (src_row hI (j := 0) rfl) hE1.len (hE1.ones RNote.ones) hb1 rfl fun v1 a w hA hI => ?_
      refine o_nil <| ⟨(.inl (by kernel_rfl)), ?_⟩
      refine gE 14 hA rfl (.inl (by kernel_rfl)) (fun _ => r_nilc hA rfl) fun a hA => ?_
      refine gE 15 hA rfl (.inl (by kernel_rfl)) (fun _ => r_fd (k := 2) Tryd.underlying133 rfl sz76 hA rfl rfl) fun a hA => ?_
      refine gF 16 rfl ?_
      have hone := own_one hI (j := 3) rfl
      have hcel := own_cell hI (j := 3) rfl
      refine o_st (j := 2) [[.int .i64 x0.most], [.int .i64 x0.op]] [[vp1]] [[v1]] [[.map (some gm1)]] sz76 rfl rfl (by intro c hc; simp at hc; subst hc; exact hone) hI rfl hA rfl rfl hcel rfl fun w hI => ?_
      refine o_nil <| ⟨(.inl (by kernel_rfl)), ?_⟩
      refine gN <| hN4 _ _ ?_
      obtain ⟨⟨c2, c3⟩, hz2, Hk2⟩ := bB H
      refine w_cut (fun a w => ∃ (μ1 : Store) (vvc2 : Value) (ccc2 : List Value), μ.le μ1 ∧ Els (RNote μ1) 34 c2 ccc2 ∧ mw131 c3 ∧ Fr a 62 [(6, .nilIface)] ∧ Iv w0 (many [cel g0 [[.int .i64 x0.most], [.int .i64 x0.op], [vp1], [.map (some gm1)]] 133, row 79 34 vp1 x0.l.length cp1, mpI gm1 (ent kv131 vv131 x0.lost)]).foot μ μ1 [row 79 34 vvc2 c2.length ccc2, row 79 34 (.slice (some ⟨g2, 0, none⟩) 1 1) ([(⟨x0.op, x1, x2⟩ : Note)] : List Note).length cs1, cel g1 [av .u8 32 x1] 26, cel g0 [[.int .i64 x0.most], [.int .i64 x0.op], [vvc2], [.map (some gm1)]] 133, mpI gm1 (ent kv131 vv131 c3)] w) ?_ ?_
      · have H := bI hz2
        refine w_seq fun _ hN5 => ?_
        refine w_draw mo (by kernel_rfl) hI ?_
        refine qtp hA (fun _ hI => r_mv hA rfl) rfl fun a hA => 
          qtp hA (fun _ hI => r_nilc hA rfl) rfl fun a hA => 
          qtp hA (fun _ hI => r_fd (k := 2) Tryd.underlying133 rfl sz76 hA rfl rfl) rfl fun a hA => 
          qtp hA (fun _ hI => r_ld1 (j := 2) [[.int .i64 x0.most], [.int .i64 x0.op]] [[.map (some gm1)]] Tryd.underlying76 rfl hI rfl hA rfl rfl) rfl fun a hA => 
          qtp hA (fun _ hI => r_rlen (xs := 0) Tryd.underlying76 hI (j := 3) rfl hA rfl) rfl fun a hA => 
          qtp hA (fun _ hI => r_mv hA rfl) rfl fun a hA => 
          qtp hA (fun _ hI => r_nilc hA rfl) rfl fun a hA => 
          qtp hA (fun _ hI => r_fd (k := 0) Tryd.underlying133 rfl sz3 hA rfl rfl) rfl fun a hA => 
          qtp hA (fun _ hI => r_ld1 (j := 2) [] [[.int .i64 x0.op], [v1], [.map (some gm1)]] Tryd.underlying3 rfl hI rfl hA rfl rfl) rfl fun a hA => 
          qtp hA (fun _ hI => r_gtr hA rfl rfl) rfl fun a hA => ?_
        refine q_nil fun w hI => ?_
        refine hN5 _ _ <| w_cond hA rfl (fun hc3 => ?_) (fun hc3 => ?_)
        · obtain ⟨hc3, H⟩ := dT H hc3
          refine w_seq fun _ hN6 => ?_
          refine w_any [13] mo hI fun w hI => ?_
          refine gE 0 hA rfl (.inr hI) (fun _ => r_mv hA rfl) fun a hA => ?_
          refine gE 1 hA rfl (.inr hI) (fun _ => r_nilc hA rfl) fun a hA => ?_
          refine gE 2 hA rfl (.inr hI) (fun _ => r_fd (k := 3) Tryd.underlying133 rfl sz131 hA rfl rfl) fun a hA => ?_
          refine gT 3 hA rfl hI (fun w hI => r_ld1 (j := 2) [[.int .i64 x0.most], [.int .i64 x0.op], [v1]] [] Tryd.underlying131 rfl hI rfl hA rfl rfl) fun a hA => ?_
          refine gE 4 hA rfl (.inr hI) (fun _ => r_mv hA rfl) fun a hA => ?_
          refine gE 5 hA rfl (.inr hI) (fun _ => r_nilc hA rfl) fun a hA => ?_
          refine gE 6 hA rfl (.inr hI) (fun _ => r_fd (k := 2) Tryd.underlying133 rfl sz76 hA rfl rfl) fun a hA => ?_
          refine gT 7 hA rfl hI (fun w hI => r_ld1 (j := 2) [[.int .i64 x0.most], [.int .i64 x0.op]] [[.map (some gm1)]] Tryd.underlying76 rfl hI rfl hA rfl rfl) fun a hA => ?_
          obtain ⟨hb2, H⟩ := bG H
          refine gT 8 hA rfl hI (fun w hI => r_rix (j := 3) Tryd.underlying76 sz79 hI rfl hA rfl rfl (by decide) hb2) fun a hA => ?_
          refine gE 9 hA rfl (.inr hI) (fun _ => r_fd (k := so v1 + (0 : Int).toNat * 34) Tryd.underlying79 rfl sz3 hA rfl rfl) fun a hA => ?_
          obtain ⟨A1, _, B1, hc4, hl1, _, he1⟩ := Els.at_ hE3 (getD_some default (by decide) hb2)
          obtain ⟨rfl, hw1⟩ := he1
          refine gT 10 hA rfl hI (fun w hI => r_rldQ (j := 3) (q := (0 : Int).toNat * 34) (off := 0) A1 B1 [] [av .u8 32 (((x0.l ++ ([(⟨x0.op, x1, x2⟩ : Note)] : List Note)).getD (0 : Int).toNat default).Tx), [.int .i64 (((x0.l ++ ([(⟨x0.op, x1, x2⟩ : Note)] : List Note)).getD (0 : Int).toNat default).Reason)]] hc4 hl1 rfl Tryd.underlying3 rfl hI rfl hA rfl) fun a hA => ?_
          refine gT 11 hA rfl hI (fun w hI => r_look (j := 4) kn131 Tryd.underlying131 mz131 hp4 hw1.1 hI rfl hA rfl rfl) fun a hA => ?_
          refine gE 12 hA rfl (.inr hI) (fun _ => r_add hA rfl rfl) fun a hA => ?_
          refine gF 13 rfl ?_
          refine o_mput (j := 4) (k := (((x0.l ++ ([(⟨x0.op, x1, x2⟩ : Note)] : List Note)).getD (0 : Int).toNat default).Op)) (IntKind.i64.wrap (((mget x0.lost (((x0.l ++ ([(⟨x0.op, x1, x2⟩ : Note)] : List Note)).getD (0 : Int).toNat default).Op)).getD 0) + 1)) kn131 Tryd.underlying131 hp4 hw1.1 hI rfl hA rfl rfl rfl fun w hI => ?_
          refine o_nil <| ⟨(.inl (by kernel_rfl)), ?_⟩
          refine gN <| hN6 _ _ <| w_reg <| stm hA rfl rfl fun a hA => 
            stm hA rfl rfl fun a hA => 
            stp hA (r_nilc hA rfl) rfl fun a hA => 
            stp hA (r_fd (k := 2) Tryd.underlying133 rfl sz76 hA rfl rfl) rfl fun a hA => 
            stp hA (r_ld1 (j := 2) [[.int .i64 x0.most], [.int .i64 x0.op]] [[.map (some gm1)]] Tryd.underlying76 rfl hI rfl hA rfl rfl) rfl fun a hA => ?_
          obtain ⟨μ2, hle2, hsv2, hI⟩ := hI.freezeRow 3 rfl
          have hS1 : Slc (RNote μ2) 34 μ2 v1 (x0.l ++ ([(⟨x0.op, x1, x2⟩ : Note)] : List Note)) := ⟨_, hE3, hsv2⟩
          obtain ⟨hb3, H⟩ := bG H
          obtain ⟨v2, hS2, hr1⟩ := r_sl (P := Tryd.prog) (t := 76) (x := .tmp 57) (l := (some (.const (.int .i64 1)))) (h := none) (i := 1) (j := ((x0.l ++ ([(⟨x0.op, x1, x2⟩ : Note)] : List Note)).length : Int)) Tryd.underlying76 sz79 hS1 hA rfl rfl rfl (by have hq := hb3; omega) (by have hq := hb3; omega) (by have hq := hb3; omega)
          refine stp hA (hr1 _ _ _ _ _ _) rfl fun a hA => ?_
          obtain ⟨r1, hr2, H⟩ := bB H
          refine o_call _ cf69 hA rfl (slices_Clone_api_Note_api_Note.c μ2 _ hI.agr (((x0.l ++ ([(⟨x0.op, x1, x2⟩ : Note)] : List Note)).take (((x0.l ++ ([(⟨x0.op, x1, x2⟩ : Note)] : List Note)).length : Int)).toNat).drop (1 : Int).toNat) v2 hS2 r1 hr2) rfl fun v3 a w hz3 hA => ?_
          obtain ⟨_, cs4, rfl, hE4, hi1⟩ := hz3
          have hI := hI.call hi1
          refine stp hA (r_nilc hA rfl) rfl fun a hA => 
            stp hA (r_fd (k := 2) Tryd.underlying133 rfl sz76 hA rfl rfl) rfl fun a hA => ?_
          have hone := own_one hI (j := 0) rfl
          have hcel := own_cell hI (j := 0) rfl
          refine o_st (j := 3) [[.int .i64 x0.most], [.int .i64 x0.op]] [[v1]] [[v3]] [[.map (some gm1)]] sz76 rfl rfl (by intro c hc; simp at hc; subst hc; exact hone) hI rfl hA rfl rfl hcel rfl fun w hI => ?_
          refine o_nil ?_
          cases sJ H
          exact ⟨μ2, v3, cs4, hle2, hE4, (MW.put hp4 hw1.1 (wrap_in _ _)), hA.sub ⟨rfl, trivial⟩, hI⟩
        · obtain ⟨hc3, H⟩ := dF H hc3
          refine w_skip ?_
          cases sJ H
          exact ⟨μ, v1, cp1 ++ cs1, (Store.le.refl _), hE3, hp4, hA.sub ⟨rfl, trivial⟩, (hI.sl [3, 0, 1, 2, 4] rfl)⟩
      · rintro a w ⟨μ1, vvc2, ccc2, hle1, wc2, wc3, hA, hI⟩
        have H := Hk2
        refine w_seq fun _ hN7 => w_reg <| sta hA rfl rfl fun a hA => ?_
        refine o_nil <| hN7 _ _ <| w_ret ?_
        obtain rfl := sJ H
        exact ret1 hA Tryd.results30 rfl ⟨_, rfl, .nilIface, vvc2, ccc2, gm1, μ1, rfl, erv_nil, hp1, hp2, wc2, wc3, (hI.sl [3, 0, 4] rfl)⟩
set_option maxRecDepth 20000 in
theorem notes_Log_Op.c (μ : Store) (w0 : World) (hμ : Agr μ w0) (x0 : notesLog) (vp1 : Value) (cp1 : List Value) (gm1 : Nat) (g0 : Nat) (hp1 : InR .i64 x0.most) (hp2 : InR .i64 x0.op) (hp3 : Els (RNote μ) 34 x0.l cp1) (hp4 : mw131 x0.lost) (ho0 : Its μ w0 [cel g0 [[.int .i64 x0.most], [.int .i64 x0.op], [vp1], [.map (some gm1)]] 133, row 79 34 vp1 x0.l.length cp1, mpI gm1 (ent kv131 vv131 x0.lost)]) (r : Int) (H : notes_Log_Op.f x0 = some r) :
    Calls Tryd.prog 32 [.pointer (some ⟨g0, 0, none⟩)].toArray w0 (fun e w' => ∃ v, e = .returned v ∧ v = .int .i64 r ∧ InR .i64 r ∧ Iv w0 (many [cel g0 [[.int .i64 x0.most], [.int .i64 x0.op], [vp1], [.map (some gm1)]] 133, row 79 34 vp1 x0.l.length cp1, mpI gm1 (ent kv131 vv131 x0.lost)]).foot μ μ [cel g0 [[.int .i64 x0.most], [.int .i64 x0.op], [vp1], [.map (some gm1)]] 133, row 79 34 vp1 x0.l.length cp1, mpI gm1 (ent kv131 vv131 x0.lost)] w') := by
  refine enter Tryd.func32 rfl Tryd.ntmps32 rfl fun a hA => ?_
  have hI := Iv.startN hμ ho0
  have H := bI H
  refine w_seq fun _ hN1 => w_reg <| sta hA rfl rfl fun a hA => ?_
  refine o_nil <| hN1 _ _ <| w_seq fun _ hN2 => w_reg <| stm hA rfl rfl fun a hA => 
    stp hA (r_nilc hA rfl) rfl fun a hA => 
    stp hA (r_fd (k := 1) Tryd.underlying133 rfl sz3 hA rfl rfl) rfl fun a hA => 
    stp hA (r_ld1 (j := 0) [[.int .i64 x0.most]] [[vp1], [.map (some gm1)]] Tryd.underlying3 rfl hI rfl hA rfl rfl) rfl fun a hA => 
    sta hA rfl rfl fun a hA => ?_
  refine o_nil <| hN2 _ _ <| w_ret ?_
  obtain rfl := sJ H
  exact ret1 hA Tryd.results32 rfl ⟨_, rfl, rfl, hp2, (hI.less (Store.le.refl _) hI.le)⟩
set_option maxRecDepth 20000 in
theorem notes_Log_Of_1.c (μ : Store) (w0 : World) (hμ : Agr μ w0) (x0 : Note) (hx0 : NoteW μ x0) (x1 : Int) (gx1 : Nat) (hwx1 : InR .i64 x1) (hax1 : At μ gx1 0 [[.int .i64 x1]].flatten) (r : Bool) (H : notes_Log_Of_1.f x0 x1 = some r) :
    Calls Tryd.prog 71 [.agg [[.int .i64 x0.Op], av .u8 32 x0.Tx, [.int .i64 x0.Reason]].flatten.toArray, .pointer (some ⟨gx1, 0, none⟩)].toArray w0 (fun e w' => ∃ v, e = .returned v ∧ v = .bool r ∧ True ∧ Iv w0 [] μ μ [] w') := by
  refine enter Tryd.func71 rfl Tryd.ntmps71 rfl fun a hA => ?_
  have hI := Iv.start hμ
  have H := bI H
  refine w_seq fun _ hN1 => w_reg <| o_box [[.int .i64 x0.Op], av .u8 32 x0.Tx, [.int .i64 x0.Reason]] hI hA rfl rfl rfl fun g1 a w hA hI hg1 => 
    sta hA rfl rfl fun a hA => ?_
  refine o_nil <| hN1 _ _ <| w_seq fun _ hN2 => w_reg <| stp hA (r_fd (k := 0) Tryd.underlying79 rfl sz3 hA rfl rfl) rfl fun a hA => 
    stp hA (r_ld1 (j := 0) [] [av .u8 32 x0.Tx, [.int .i64 x0.Reason]] Tryd.underlying3 rfl hI rfl hA rfl rfl) rfl fun a hA => 
    stp hA (r_ldm1 [] [] Tryd.underlying3 rfl hI.agr hax1 hA rfl rfl) rfl fun a hA => 
    stp hA (r_neq hA rfl rfl) rfl fun a hA => 
    sta hA rfl rfl fun a hA => ?_
  refine o_nil <| hN2 _ _ <| w_ret ?_
  obtain rfl := sJ H
  exact ret1 hA Tryd.results71 rfl ⟨_, rfl, rfl, trivial, hI.forget0⟩
set_option maxRecDepth 20000 in
theorem slices_IndexFunc_api_Note_api_Note_at_notes_Log_Of_1.c (μ : Store) (w0 : World) (hμ : Agr μ w0) (x0 : List Note) (u0 : Value) (hx0 : Slc (RNote μ) 34 μ u0 x0) (x1_0 : Int) (gx1_0 : Nat) (hwx1_0 : InR .i64 x1_0) (hax1_0 : At μ gx1_0 0 [[.int .i64 x1_0]].flatten) (r : Int) (H : slices_IndexFunc_api_Note_api_Note_at_notes_Log_Of_1.f x0 x1_0 = some r) :
    Calls Tryd.prog 96 [u0, .func (.func 71) #[] [.pointer (some ⟨gx1_0, 0, none⟩)].toArray].toArray w0 (fun e w' => ∃ v, e = .returned v ∧ v = .int .i64 r ∧ InR .i64 r ∧ Iv w0 [] μ μ [] w') := by
  refine enter Tryd.func96 rfl Tryd.ntmps96 rfl fun a hA => ?_
  have hI := Iv.start hμ
  have H := bI H
  refine w_seq fun _ hN1 => w_reg <| sta hA rfl rfl fun a hA => ?_
  refine o_nil <| hN1 _ _ <| w_seq fun _ hN2 => w_seq fun _ hN3 => w_reg <| stm hA rfl rfl fun a hA => ?_
  obtain ⟨_, hsl1⟩ := Slc.sv hx0
  refine stp hA (r_slen Tryd.underlying76 hsl1 hA rfl) rfl fun a hA => 
    stm hA rfl rfl fun a hA => ?_
  refine o_nil <| hN3 _ _ <| w_block ?_
  obtain ⟨z1, hz1, Hk1⟩ := bind_some H
  obtain ⟨n1, hn1⟩ := loopO_some hz1
  refine w_loop (fun n a w => ∃ (s1 : Int), loopN (slices_IndexFunc_api_Note_api_Note_at_notes_Log_Of_1.s0 x0 x1_0) n s1 = some z1 ∧ InR .i64 s1 ∧ Fr a 19 [(0, u0), (1, .func (.func 71) #[] [.pointer (some ⟨gx1_0, 0, none⟩)].toArray), (4, .int .i64 0), (7, .int .i64 (x0.length : Int)), (8, .int .i64 s1)] ∧ Iv w0 [] μ μ [] w) n1 ⟨0, hn1, (in_lit .i64 0 rfl), hA.sub ⟨rfl, rfl, rfl, rfl, rfl, trivial⟩, hI⟩ ?_
  clear hA hI
  rintro n a w ⟨s1, hn1, ws1, hA, hI⟩
  obtain ⟨m1, rfl, H⟩ := loopN_bind hn1
  clear hn1
  refine w_seq fun _ hN4 => w_reg <| stp hA (r_lss hA rfl rfl) rfl fun a hA => ?_
  refine o_nil <| hN4 _ _ <| w_seq fun _ hN5 => w_cond hA rfl (fun hc1 => ?_) (fun hc1 => ?_)
  · obtain ⟨hc1, H⟩ := dT H hc1
    refine w_skip <| hN5 _ _ <| w_seq fun _ hN6 => w_block <| w_seq fun _ hN7 => w_reg <| stm hA rfl rfl fun a hA => 
      sta hA rfl rfl fun a hA => ?_
    refine o_nil <| hN7 _ _ <| w_seq fun _ hN8 => w_reg <| stm hA rfl rfl fun a hA => 
      stm hA rfl rfl fun a hA => 
      stm hA rfl rfl fun a hA => ?_
    obtain ⟨hb1, H⟩ := bG H
    obtain ⟨_, he1, _, hat1⟩ := Slc.elem hx0 (getD_some default hb1.1 hb1.2)
    obtain ⟨rfl, hw1⟩ := he1
    obtain ⟨_, hsl2⟩ := Slc.sv hx0
    refine stp hA (r_six Tryd.underlying76 sz79 hsl2 hA rfl rfl hb1.1 hb1.2) rfl fun a hA => 
      stp hA (r_ldmA [] [[.int .i64 ((x0.getD s1.toNat default).Op)], av .u8 32 ((x0.getD s1.toNat default).Tx), [.int .i64 ((x0.getD s1.toNat default).Reason)]] [] Tryd.underlying79 rfl sz79 rfl hI.agr hat1 hA rfl rfl) rfl fun a hA => ?_
    obtain ⟨r1, hr1, H⟩ := bB H
    refine o_callpcc (u := .bool r1) cf71 hA rfl rfl hI (notes_Log_Of_1.c μ _ hI.agr (x0.getD s1.toNat default) ⟨hw1.1, hw1.2.1, hw1.2.2⟩ x1_0 gx1_0 hwx1_0 hax1_0 r1 hr1) rfl fun a w hz2 hI hA => ?_
    refine o_nil <| hN8 _ _ <| w_cond hA rfl (fun hc2 => ?_) (fun hc2 => ?_)
    · have H := bT H hc2
      refine w_seq fun _ hN9 => w_reg <| stm hA rfl rfl fun a hA => 
        sta hA rfl rfl fun a hA => ?_
      refine o_nil <| hN9 _ _ <| w_ret ?_
      have H : some s1 = some z1 := H
      obtain rfl := sI H
      have H := Hk1
      obtain rfl := sJ H
      exact ret1 hA Tryd.results96 rfl ⟨_, rfl, rfl, ws1, hI.forget0⟩
    · have hc2 := ft hc2; have H := bF H hc2
      refine w_skip <| hN6 _ _ <| w_reg <| stp hA (r_add hA rfl rfl) rfl fun a hA => 
        stm hA rfl rfl fun a hA => ?_
      refine o_nil <| ⟨m1, Nat.lt_succ_self _, IntKind.i64.wrap (s1 + 1), H, (wrap_in _ _), hA.sub ⟨rfl, rfl, rfl, rfl, rfl, trivial⟩, hI⟩
  · obtain ⟨hc1, H⟩ := dF H hc1
    refine w_exit rfl <| hN2 _ _ <| w_seq fun _ hN10 => w_reg <| sta hA rfl rfl fun a hA => ?_
    refine o_nil <| hN10 _ _ <| w_ret ?_
    have H : some (-1) = some z1 := H
    obtain rfl := sI H
    have H := Hk1
    obtain rfl := sJ H
    exact ret1 hA Tryd.results96 rfl ⟨_, rfl, rfl, (in_lit .i64 (-1) rfl), hI.forget0⟩
set_option maxRecDepth 20000 in
theorem slices_DeleteFunc_api_Note_api_Note_at_notes_Log_Of_1.c (μ : Store) (w0 : World) (hμ : Agr μ w0) (x0 : List Note) (u0 : Value) (k0 : List Value) (hx0 : Els (RNote μ) 34 x0 k0) (ho0 : RowOK μ w0 79 34 u0 x0.length k0) (x1_0 : Int) (gx1_0 : Nat) (hwx1_0 : InR .i64 x1_0) (hax1_0 : At μ gx1_0 0 [[.int .i64 x1_0]].flatten) (r : List Note) (H : slices_DeleteFunc_api_Note_api_Note_at_notes_Log_Of_1.f x0 x1_0 = some r) :
    Calls Tryd.prog 70 [u0, .func (.func 71) #[] [.pointer (some ⟨gx1_0, 0, none⟩)].toArray].toArray w0 (fun e w' => ∃ v, e = .returned v ∧ ∃ (v0 : Value) (c0 : List Value), v = v0 ∧ Els (RNote μ) 34 r c0 ∧ Iv w0 (row 79 34 u0 x0.length k0).foot μ μ [row 79 34 v0 r.length c0] w') := by
  refine enter Tryd.func70 rfl Tryd.ntmps70 rfl fun a hA => ?_
  have hI := ho0.start hμ
  have H := bI H
  refine w_seq fun _ hN1 => w_reg <| sta hA rfl rfl fun a hA => ?_
  refine o_nil <| hN1 _ _ <| w_seq fun _ hN2 => w_reg <| stm hA rfl rfl fun a hA => 
    stm hA rfl rfl fun a hA => ?_
  obtain ⟨r1, hr1, H⟩ := bB H
  refine o_callp (u := .int .i64 r1) cf96 hA rfl hI ((by obtain ⟨μ1, hle1, hsv1, hI⟩ := hI.freezeRow 0 rfl; have hS1 : Slc (RNote μ1) 34 μ1 u0 x0 := ⟨_, hx0, hsv1⟩; exact low_plain hle1 (slices_IndexFunc_api_Note_api_Note_at_notes_Log_Of_1.c μ1 _ hI.agr x0 u0 hS1 x1_0 gx1_0 hwx1_0 (At.le hle1 hax1_0) r1 hr1))) rfl fun a w hz1 hI hA => 
    sta hA rfl rfl fun a hA => ?_
  refine o_nil <| hN2 _ _ <| w_seq fun _ hN3 => w_seq fun _ hN4 => w_reg <| stm hA rfl rfl fun a hA => 
    stp hA (r_eql hA rfl rfl) rfl fun a hA => ?_
  refine o_nil <| hN4 _ _ <| w_cond hA rfl (fun hc1 => ?_) (fun hc1 => ?_)
  · obtain ⟨hc1, H⟩ := dT H hc1
    refine w_seq fun _ hN5 => w_reg <| stm hA rfl rfl fun a hA => 
      sta hA rfl rfl fun a hA => ?_
    refine o_nil <| hN5 _ _ <| w_ret ?_
    obtain rfl := sJ H
    exact ret1 hA Tryd.results70 rfl ⟨_, rfl, u0, k0, rfl, hx0, (hI.less (Store.le.refl _) hI.le)⟩
  · obtain ⟨hc1, H⟩ := dF H hc1
    refine w_skip <| hN3 _ _ ?_
    obtain ⟨⟨c1, c2⟩, hz2, Hk1⟩ := bB H
    refine w_cut (fun a w => ∃ (ccc2 : List Value), InR .i64 c1 ∧ Els (RNote μ) 34 c2 ccc2 ∧ Fr a 42 [(0, u0), (1, .func (.func 71) #[] [.pointer (some ⟨gx1_0, 0, none⟩)].toArray), (4, (.slice none 0 0)), (5, .int .i64 c1), (12, .bool (decide (r1 = (-1))))] ∧ Iv w0 (row 79 34 u0 x0.length k0).foot μ μ [row 79 34 u0 c2.length ccc2] w) ?_ ?_
    · have H := bI hz2
      refine w_seq fun _ hN6 => w_reg <| stm hA rfl rfl fun a hA => 
        stp hA (r_add hA rfl rfl) rfl fun a hA => 
        sta hA rfl rfl fun a hA => ?_
      refine o_nil <| hN6 _ _ <| w_block ?_
      obtain ⟨z1, hz3, Hk2⟩ := bind_some H
      obtain ⟨n1, hn1⟩ := loopO_some hz3
      refine w_loop (fun n a w => ∃ (s1 : Int) (s2 : Int) (s3 : List Note) (ccs3 : List Value), loopN (slices_DeleteFunc_api_Note_api_Note_at_notes_Log_Of_1.s0 x1_0) n (s1, s2, s3) = some z1 ∧ InR .i64 s1 ∧ InR .i64 s2 ∧ Els (RNote μ) 34 s3 ccs3 ∧ Fr a 42 [(0, u0), (1, .func (.func 71) #[] [.pointer (some ⟨gx1_0, 0, none⟩)].toArray), (4, (.slice none 0 0)), (5, .int .i64 s1), (6, .int .i64 s2), (12, .bool (decide (r1 = (-1))))] ∧ Iv w0 (row 79 34 u0 x0.length k0).foot μ μ [row 79 34 u0 s3.length ccs3] w) n1 ⟨r1, IntKind.i64.wrap (r1 + 1), x0, k0, hn1, hz1, (wrap_in _ _), hx0, hA.sub ⟨rfl, rfl, rfl, rfl, rfl, rfl, trivial⟩, hI⟩ ?_
      clear hA hI
      rintro n a w ⟨s1, s2, s3, ccs3, hn1, ws1, ws2, ws3, hA, hI⟩
      obtain ⟨m1, rfl, H⟩ := loopN_bind hn1
      clear hn1
      refine w_seq fun _ hN7 => w_seq fun _ hN8 => w_reg <| stm hA rfl rfl fun a hA => 
        stm hA rfl rfl fun a hA => ?_
      have hlen1 := Iv.row_in hI (j := 0) rfl
      refine stp hA (r_rlen (xs := 0) Tryd.underlying76 hI (j := 0) rfl hA rfl) rfl fun a hA => 
        stp hA (r_lss hA rfl rfl) rfl fun a hA => ?_
      refine o_nil <| hN8 _ _ <| w_cond hA rfl (fun hc2 => ?_) (fun hc2 => ?_)
      · obtain ⟨hc2, H⟩ := dT H hc2
        refine w_skip <| hN7 _ _ ?_
        obtain ⟨⟨c3, c4⟩, hz4, Hk3⟩ := bB H
        refine w_cut (fun a w => ∃ (ccc4 : List Value), InR .i64 c3 ∧ Els (RNote μ) 34 c4 ccc4 ∧ Fr a 42 [(0, u0), (1, .func (.func 71) #[] [.pointer (some ⟨gx1_0, 0, none⟩)].toArray), (4, (.slice none 0 0)), (5, .int .i64 c3), (6, .int .i64 s2), (12, .bool (decide (r1 = (-1)))), (19, .bool (decide (s2 < (s3.length : Int))))] ∧ Iv w0 (row 79 34 u0 x0.length k0).foot μ μ [row 79 34 u0 c4.length ccc4] w) ?_ ?_
        · have H := bI hz4
          refine w_block <| w_seq fun _ hN9 => w_reg <| stm hA rfl rfl fun a hA => 
            stm hA rfl rfl fun a hA => ?_
          obtain ⟨hb1, H⟩ := bG H
          refine stp hA (r_rix (j := 0) Tryd.underlying76 sz79 hI rfl hA rfl rfl hb1.1 hb1.2) rfl fun a hA => ?_
          obtain ⟨A1, _, B1, hc3, hl1, _, he1⟩ := Els.at_ ws3 (getD_some default hb1.1 hb1.2)
          obtain ⟨rfl, hw1⟩ := he1
          refine stp hA (r_rldP (j := 0) (q := s2.toNat * 34) (off := 0) A1 B1 [] [[.int .i64 ((s3.getD s2.toNat default).Op)], av .u8 32 ((s3.getD s2.toNat default).Tx), [.int .i64 ((s3.getD s2.toNat default).Reason)]] [] hc3 hl1 rfl Tryd.underlying79 rfl sz79 rfl hI rfl hA rfl) rfl fun a hA => 
            o_new [[.int .i64 0], av .u8 32 (List.replicate 32 0), [.int .i64 0]] zr79 hI hA rfl fun g1 a w hA hI hg1 => 
            o_st (j := 0) [] [[.int .i64 0], av .u8 32 (List.replicate 32 0), [.int .i64 0]] [[.int .i64 ((s3.getD s2.toNat default).Op)], av .u8 32 ((s3.getD s2.toNat default).Tx), [.int .i64 ((s3.getD s2.toNat default).Reason)]] [] sz79 rfl rfl (fl_cons (one_one rfl) (fl_cons (one_av _ _ _) (fl_cons (one_one rfl) fl_nil))) hI rfl hA rfl rfl rfl rfl fun w hI => ?_
          refine o_nil <| hN9 _ _ <| w_seq fun _ hN10 => w_reg <| stm hA rfl rfl fun a hA => 
            stp hA (r_ldA (j := 0) [] [[.int .i64 ((s3.getD s2.toNat default).Op)], av .u8 32 ((s3.getD s2.toNat default).Tx), [.int .i64 ((s3.getD s2.toNat default).Reason)]] [] Tryd.underlying79 rfl sz79 rfl hI rfl hA rfl rfl) rfl fun a hA => ?_
          obtain ⟨r2, hr2, H⟩ := bB H
          refine o_callpcc (u := .bool r2) cf71 hA rfl rfl hI (notes_Log_Of_1.c μ _ hI.agr (s3.getD s2.toNat default) ⟨hw1.1, hw1.2.1, hw1.2.2⟩ x1_0 gx1_0 hwx1_0 hax1_0 r2 hr2) rfl fun a w hz5 hI hA => 
            stp hA (r_not hA rfl) rfl fun a hA => ?_
          refine o_nil <| hN10 _ _ <| w_cond hA rfl (fun hc4 => ?_) (fun hc4 => ?_)
          · have hc4 := nT hc4; have hc4 := ft hc4; have H := bF H hc4
            refine w_seq fun _ hN11 => w_reg <| stm hA rfl rfl fun a hA => 
              stm hA rfl rfl fun a hA => 
              stp hA (r_ldA (j := 0) [] [[.int .i64 ((s3.getD s2.toNat default).Op)], av .u8 32 ((s3.getD s2.toNat default).Tx), [.int .i64 ((s3.getD s2.toNat default).Reason)]] [] Tryd.underlying79 rfl sz79 rfl hI rfl hA rfl rfl) rfl fun a hA => ?_
            obtain ⟨hb2, H⟩ := bG H
            refine stp hA (r_rix (j := 1) Tryd.underlying76 sz79 hI rfl hA rfl rfl hb2.1 hb2.2) rfl fun a hA => ?_
            obtain ⟨A2, _, B2, hc5, hl2, hl3, he2⟩ := Els.at_ ws3 (getD_some default hb2.1 hb2.2)
            obtain ⟨rfl, hw2⟩ := he2
            have hE1 := Els.setAt (y := (s3.getD s2.toNat default)) (d := [[.int .i64 ((s3.getD s2.toNat default).Op)], av .u8 32 ((s3.getD s2.toNat default).Tx), [.int .i64 ((s3.getD s2.toNat default).Reason)]].flatten) ws3 hc5 (idx_lt hb2.1 hb2.2) hl2 hl3 ⟨rfl, ⟨hw1.1, hw1.2.1, hw1.2.2⟩⟩ rfl
            refine o_rstPL (j := 1) (q := s1.toNat * 34) (off := 0) (m' := (s3.set s1.toNat (s3.getD s2.toNat default)).length) A2 B2 [] [[.int .i64 ((s3.getD s1.toNat default).Op)], av .u8 32 ((s3.getD s1.toNat default).Tx), [.int .i64 ((s3.getD s1.toNat default).Reason)]] [[.int .i64 ((s3.getD s2.toNat default).Op)], av .u8 32 ((s3.getD s2.toNat default).Tx), [.int .i64 ((s3.getD s2.toNat default).Reason)]] [] hc5 hl2 rfl sz79 rfl rfl (fl_cons (one_one rfl) (fl_cons (one_av _ _ _) (fl_cons (one_one rfl) fl_nil))) hI rfl hA rfl rfl rfl (by omega) (by first | exact (List.length_set ..).symm | simp) fun w hI => ?_
            refine o_nil <| hN11 _ _ <| w_reg <| stm hA rfl rfl fun a hA => 
              stp hA (r_add hA rfl rfl) rfl fun a hA => 
              sta hA rfl rfl fun a hA => ?_
            refine o_nil ?_
            cases sJ H
            exact ⟨A2 ++ ([[.int .i64 ((s3.getD s2.toNat default).Op)], av .u8 32 ((s3.getD s2.toNat default).Tx), [.int .i64 ((s3.getD s2.toNat default).Reason)]].flatten ++ B2), (wrap_in _ _), hE1, hA.sub ⟨rfl, rfl, rfl, rfl, rfl, rfl, rfl, trivial⟩, (hI.sl [1] rfl)⟩
          · have hc4 := nF hc4; have H := bT H hc4
            refine w_skip ?_
            cases sJ H
            exact ⟨ccs3, ws1, ws3, hA.sub ⟨rfl, rfl, rfl, rfl, rfl, rfl, rfl, trivial⟩, (hI.sl [1] rfl)⟩
        · rintro a w ⟨ccc4, wc3, wc4, hA, hI⟩
          have H := Hk3
          refine w_reg <| stm hA rfl rfl fun a hA => 
            stp hA (r_add hA rfl rfl) rfl fun a hA => 
            sta hA rfl rfl fun a hA => ?_
          refine o_nil <| ⟨m1, Nat.lt_succ_self _, c3, IntKind.i64.wrap (s2 + 1), c4, ccc4, H, wc3, (wrap_in _ _), wc4, hA.sub ⟨rfl, rfl, rfl, rfl, rfl, rfl, trivial⟩, hI⟩
      · obtain ⟨hc2, H⟩ := dF H hc2
        refine w_exit rfl ?_
        have H : some (s1, s3) = some z1 := H
        obtain rfl := sI H
        have H := Hk2
        cases sJ H
        exact ⟨ccs3, ws1, ws3, hA.sub ⟨rfl, rfl, rfl, rfl, rfl, trivial⟩, hI⟩
    · rintro a w ⟨ccc2, wc1, wc2, hA, hI⟩
      have H := Hk1
      refine w_seq fun _ hN12 => w_reg <| stm hA rfl rfl fun a hA => 
        stm hA rfl rfl fun a hA => ?_
      obtain ⟨hb3, H⟩ := bG H
      refine stp hA (r_tailR (j := 0) Tryd.underlying76 sz79 hI rfl hA rfl rfl hb3.1 hb3.2) rfl fun a hA => ?_
      have hform1 := sl_form hI (j := 0) rfl
      obtain ⟨z2, hz6, hz7⟩ := zr79
      have hE2 := (wc2).take ((c1).toNat)
      refine o_clrL (j := 0) (i := ((c1).toNat)) Tryd.underlying76 hz6 (by rw [hz7]; kernel_rfl) rfl (by rw [hz7]; exact (fl_cons (one_one rfl) (fl_cons (one_av _ _ _) (fl_cons (one_one rfl) fl_nil)))) hI rfl (by omega) hA rfl fun w hI => ?_
      refine o_nil <| hN12 _ _ <| w_seq fun _ hN13 => w_reg <| stm hA rfl rfl fun a hA => 
        stm hA rfl rfl fun a hA => 
        stp hA (r_frontR (j := 0) Tryd.underlying76 sz79 hI rfl hform1 hA rfl rfl hb3.1) rfl fun a hA => 
        sta hA rfl rfl fun a hA => ?_
      refine o_nil <| hN13 _ _ <| w_ret ?_
      obtain rfl := sJ H
      exact ret1 hA Tryd.results70 rfl ⟨_, rfl, (slFront u0 ((c1).toNat)), ccc2.take ((c1).toNat * 34), rfl, hE2, (hI.less (Store.le.refl _) hI.le)⟩
set_option maxRecDepth 20000 in
theorem notes_Log_Of.c (μ : Store) (w0 : World) (hμ : Agr μ w0) (x0 : notesLog) (vp1 : Value) (cp1 : List Value) (gm1 : Nat) (g0 : Nat) (hp1 : InR .i64 x0.most) (hp2 : InR .i64 x0.op) (hp3 : Els (RNote μ) 34 x0.l cp1) (hp4 : mw131 x0.lost) (ho0 : Its μ w0 [cel g0 [[.int .i64 x0.most], [.int .i64 x0.op], [vp1], [.map (some gm1)]] 133, row 79 34 vp1 x0.l.length cp1, mpI gm1 (ent kv131 vv131 x0.lost)]) (x1 : Int) (hx1 : InR .i64 x1) (r : List Note) (H : notes_Log_Of.f x0 x1 = some r) :
    Calls Tryd.prog 33 [.pointer (some ⟨g0, 0, none⟩), .int .i64 x1].toArray w0 (fun e w' => ∃ v, e = .returned v ∧ ∃ (v0 : Value) (c0 : List Value), v = v0 ∧ Els (RNote μ) 34 r c0 ∧ Iv w0 (many [cel g0 [[.int .i64 x0.most], [.int .i64 x0.op], [vp1], [.map (some gm1)]] 133, row 79 34 vp1 x0.l.length cp1, mpI gm1 (ent kv131 vv131 x0.lost)]).foot μ μ [row 79 34 v0 r.length c0, cel g0 [[.int .i64 x0.most], [.int .i64 x0.op], [vp1], [.map (some gm1)]] 133, row 79 34 vp1 x0.l.length cp1, mpI gm1 (ent kv131 vv131 x0.lost)] w') := by
  refine enter Tryd.func33 rfl Tryd.ntmps33 rfl fun a hA => ?_
  have hI := Iv.startN hμ ho0
  have H := bI H
  refine w_seq fun _ hN1 => w_reg <| o_box [[.int .i64 x1]] hI hA rfl rfl rfl fun g1 a w hA hI hg1 => 
    sta hA rfl rfl fun a hA => ?_
  refine o_nil <| hN1 _ _ <| w_seq fun _ hN2 => w_reg <| stm hA rfl rfl fun a hA => ?_
  obtain ⟨r1, hr1, H⟩ := bB H
  have hI := hI.sl [1, 2, 3, 0] rfl
  refine o_call _ cf31 hA rfl (notes_Log_All.c μ _ hI.agr (⟨x0.most, x0.op, x0.l, x0.lost⟩ : notesLog) vp1 cp1 gm1 g0 hp1 hp2 hp3 hp4 (hI.handN 3) r1 hr1) rfl fun v1 a w hz1 hA => ?_
  obtain ⟨_, cs1, rfl, hE1, hi1⟩ := hz1
  have hI := hI.backN 3 hi1
  have hI : Iv w0 (many [cel g0 [[.int .i64 x0.most], [.int .i64 x0.op], [vp1], [.map (some gm1)]] 133, row 79 34 vp1 x0.l.length cp1, mpI gm1 (ent kv131 vv131 x0.lost)]).foot μ μ [row 79 34 v1 r1.length cs1, cel g0 [[.int .i64 x0.most], [.int .i64 x0.op], [vp1], [.map (some gm1)]] 133, row 79 34 vp1 x0.l.length cp1, mpI gm1 (ent kv131 vv131 x0.lost), cel g1 [[.int .i64 x1]] 3] w := hI
  obtain ⟨μ1, hle1, hat1, hI⟩ := hI.freezeCel 4 rfl
  refine stp hA (r_mkfn (vs := [.pointer (some ⟨g1, 0, none⟩)]) hA rfl) rfl fun a hA => ?_
  obtain ⟨r2, hr2, H⟩ := bB H
  refine o_call _ cf70 hA rfl (slices_DeleteFunc_api_Note_api_Note_at_notes_Log_Of_1.c μ1 _ hI.agr r1 v1 cs1 hE1 (hI.item (j := 0) rfl) x1 g1 hx1 hat1 r2 hr2) rfl fun v2 a w hz2 hA => ?_
  obtain ⟨_, cs2, rfl, hE2, hi2⟩ := hz2
  have hI := hI.call1 0 rfl hi2
  refine sta hA rfl rfl fun a hA => ?_
  refine o_nil <| hN2 _ _ <| w_ret ?_
  obtain rfl := sJ H
  exact ret1 hA Tryd.results33 rfl ⟨_, rfl, v2, cs2, rfl, hE2, (hI.less (Store.le.refl _) hI.le)⟩
set_option maxRecDepth 20000 in
theorem notes_Log_Lost.c (μ : Store) (w0 : World) (hμ : Agr μ w0) (x0 : notesLog) (vp1 : Value) (cp1 : List Value) (gm1 : Nat) (g0 : Nat) (hp1 : InR .i64 x0.most) (hp2 : InR .i64 x0.op) (hp3 : Els (RNote μ) 34 x0.l cp1) (hp4 : mw131 x0.lost) (ho0 : Its μ w0 [cel g0 [[.int .i64 x0.most], [.int .i64 x0.op], [vp1], [.map (some gm1)]] 133, row 79 34 vp1 x0.l.length cp1, mpI gm1 (ent kv131 vv131 x0.lost)]) (x1 : Int) (hx1 : InR .i64 x1) (r : Int) (H : notes_Log_Lost.f x0 x1 = some r) :
    Calls Tryd.prog 34 [.pointer (some ⟨g0, 0, none⟩), .int .i64 x1].toArray w0 (fun e w' => ∃ v, e = .returned v ∧ v = .int .i64 r ∧ InR .i64 r ∧ Iv w0 (many [cel g0 [[.int .i64 x0.most], [.int .i64 x0.op], [vp1], [.map (some gm1)]] 133, row 79 34 vp1 x0.l.length cp1, mpI gm1 (ent kv131 vv131 x0.lost)]).foot μ μ [cel g0 [[.int .i64 x0.most], [.int .i64 x0.op], [vp1], [.map (some gm1)]] 133, row 79 34 vp1 x0.l.length cp1, mpI gm1 (ent kv131 vv131 x0.lost)] w') := by
  refine enter Tryd.func34 rfl Tryd.ntmps34 rfl fun a hA => ?_
  have hI := Iv.startN hμ ho0
  have H := bI H
  refine w_seq fun _ hN1 => w_reg <| sta hA rfl rfl fun a hA => ?_
  refine o_nil <| hN1 _ _ <| w_seq fun _ hN2 => w_reg <| stm hA rfl rfl fun a hA => 
    stp hA (r_nilc hA rfl) rfl fun a hA => 
    stp hA (r_fd (k := 3) Tryd.underlying133 rfl sz131 hA rfl rfl) rfl fun a hA => 
    stp hA (r_ld1 (j := 0) [[.int .i64 x0.most], [.int .i64 x0.op], [vp1]] [] Tryd.underlying131 rfl hI rfl hA rfl rfl) rfl fun a hA => 
    stm hA rfl rfl fun a hA => 
    stp hA (r_look (j := 2) kn131 Tryd.underlying131 mz131 hp4 hx1 hI rfl hA rfl rfl) rfl fun a hA => 
    sta hA rfl rfl fun a hA => ?_
  refine o_nil <| hN2 _ _ <| w_ret ?_
  obtain rfl := sJ H
  exact ret1 hA Tryd.results34 rfl ⟨_, rfl, rfl, (MW.get hp4 _ (in_lit .i64 0 rfl)), (hI.less (Store.le.refl _) hI.le)⟩
end Go.Proofs.YtcpdnoochieecaaDoor.T
namespace Go.Proofs.YtcpdnoochieecaaDoor.T
open Go Go.Proofs Go.Proofs.YtcpdnoochieecaaDoor.K
set_option linter.unusedVariables false
set_option linter.unusedSimpArgs false
noncomputable def sargassolaw20_first.f : Option Bool := ((notes_New.f 3).bind fun r1 => (oM r1.1 ((some ()).bind fun _ => some false) fun p1 => (((if r1.2 = (Er.b 0) then ((notes_Log_All.f (⟨p1.most, p1.op, p1.l, p1.lost⟩ : notesLog)).bind fun r2 => (if (r2.length : Int) = 0 then ((notes_Log_Begin.f (⟨p1.most, p1.op, p1.l, p1.lost⟩ : notesLog)).bind fun r3 => some (decide (r3.1 = 1), r3.2.most, r3.2.op, r3.2.l, r3.2.lost)) else some (false, p1.most, p1.op, p1.l, p1.lost))) else some (false, p1.most, p1.op, p1.l, p1.lost))).bind fun (c1, c2, c3, c4, c5) => some c1)))
end Go.Proofs.YtcpdnoochieecaaDoor.T
namespace Go.Proofs.YtcpdnoochieecaaDoor.T
open Go Go.Proofs Go.Proofs.YtcpdnoochieecaaDoor.K
set_option linter.unusedVariables false
set_option linter.unusedSimpArgs false
set_option maxRecDepth 20000 in
theorem sargassolaw20_first.c (μ : Store) (w0 : World) (hμ : Agr μ w0) (e7 : Value) (he7 : ErS μ e7 (Er.b 8)) (r : Bool) (H : sargassolaw20_first.f = some r) :
    Calls Tryd.prog 27 [].toArray w0 (fun e w' => ∃ v, e = .returned v ∧ v = .bool r ∧ True ∧ Iv w0 [] μ μ [] w') := by
  refine enter Tryd.func27 rfl Tryd.ntmps27 rfl fun a hA => ?_
  have hI := Iv.start hμ
  have H := bI H
  refine w_seq fun _ hN1 => w_reg <| sta hA rfl rfl fun a hA => ?_
  refine o_nil <| hN1 _ _ <| w_seq fun _ hN2 => w_reg ?_
  obtain ⟨r1, hr1, H⟩ := bB H
  refine o_call _ cf28 hA rfl (notes_New.c μ _ hI.agr 3 (in_lit .i64 3 rfl) e7 he7 r1 hr1) rfl fun v1 a w hz1 hA => ?_
  rcases hz1 with ⟨ho1, hz2⟩ | ⟨p1, ho1, hz2⟩
  · skip
    have H := bON H ho1
    obtain ⟨v2, μ1, rfl, hS1, hi1⟩ := hz2
    have hI := hI.call hi1
    refine stm hA rfl rfl fun a hA => 
      stp hA (r_extr (vs := [.pointer none, v2]) hA rfl rfl) rfl fun a hA => 
      stp hA (r_extr (vs := [.pointer none, v2]) hA rfl rfl) rfl fun a hA => 
      sta hA rfl rfl fun a hA => 
      sta hA rfl rfl fun a hA => ?_
    refine o_nil <| hN2 _ _ ?_
    obtain ⟨⟨⟩, hz3, Hk1⟩ := bB H
    refine w_cut (fun a w => Fr a 24 [(0, .bool false)] ∧ Iv w0 [] μ μ1 [] w) ?_ ?_
    · have H := bI hz3
      refine w_reg <| stm hA rfl rfl fun a hA => 
        stp hA (r_nilnil_neq Tryd.underlying71 hA rfl rfl) rfl fun a hA => 
        stm hA rfl rfl fun a hA => 
        o_no hA rfl rfl (by simp [vb]) rfl fun a hA => 
        o_no hA rfl rfl (by simp [vb]) rfl fun a hA => 
        stp hA (r_pick_f hA rfl rfl rfl) rfl fun a hA => 
        stm hA rfl rfl fun a hA => 
        o_no hA rfl rfl (by simp [vb]) rfl fun a hA => 
        o_no hA rfl rfl (by simp [vb]) rfl fun a hA => 
        o_no hA rfl rfl (by simp [vb]) rfl fun a hA => 
        o_no hA rfl rfl (by simp [vb]) rfl fun a hA => 
        stp hA (r_pick_f hA rfl rfl rfl) rfl fun a hA => 
        stm hA rfl rfl fun a hA => 
        o_no hA rfl rfl (by simp [vb]) rfl fun a hA => 
        o_no hA rfl rfl (by simp [vb]) rfl fun a hA => 
        o_no hA rfl rfl (by simp [vb]) rfl fun a hA => 
        stp hA (r_pick_f hA rfl rfl rfl) rfl fun a hA => 
        sta hA rfl rfl fun a hA => ?_
      refine o_nil ?_
      cases sJ H
      exact ⟨hA.sub ⟨rfl, trivial⟩, hI⟩
    · rintro a w ⟨hA, hI⟩
      have H := Hk1
      refine w_ret ?_
      obtain rfl := sJ H
      exact ret1 hA Tryd.results27 rfl ⟨_, rfl, rfl, trivial, hI.forget0⟩
  · skip
    have H := bOS H ho1
    obtain ⟨g1, vp1, cp1, gm1, v3, μ2, rfl, hp1, hp2, hp3, hp4, hS2, hi2⟩ := hz2
    have hI := hI.call hi2
    refine stm hA rfl rfl fun a hA => 
      stp hA (r_extr (vs := [.pointer (some ⟨g1, 0, none⟩), v3]) hA rfl rfl) rfl fun a hA => 
      stp hA (r_extr (vs := [.pointer (some ⟨g1, 0, none⟩), v3]) hA rfl rfl) rfl fun a hA => 
      sta hA rfl rfl fun a hA => 
      sta hA rfl rfl fun a hA => ?_
    refine o_nil <| hN2 _ _ ?_
    obtain ⟨⟨c1, c2, c3, c4, c5⟩, hz4, Hk2⟩ := bB H
    refine w_cut (fun a w => ∃ (vvc4 : Value) (ccc4 : List Value) (ggc5 : Nat), InR .i64 c2 ∧ InR .i64 c3 ∧ Els (RNote μ2) 34 c4 ccc4 ∧ mw131 c5 ∧ Fr a 24 [(0, .bool c1)] ∧ Iv w0 [] μ μ2 [row 79 34 vvc4 c4.length ccc4, mpI ggc5 (ent kv131 vv131 c5), cel g1 [[.int .i64 c2], [.int .i64 c3], [vvc4], [.map (some ggc5)]] 133] w) ?_ ?_
    · have H := bI hz4
      refine w_reg <| stm hA rfl rfl fun a hA => 
        stp hA (r_ptrnil_neq Tryd.underlying71 hA rfl rfl) rfl fun a hA => 
        stm hA rfl rfl fun a hA => 
        o_yes hA rfl rfl rfl <| 
        stm hA rfl rfl fun a hA => 
        o_yes hA rfl rfl rfl <| 
        stp hA (r_eqE erF hI.agr hS2 erv_nil (.inl ⟨.inr ⟨_, rfl⟩, Er.fitR⟩) hA rfl rfl) rfl fun a hA => 
        stp hA (r_pick_t hA rfl rfl rfl) rfl fun a hA => 
        stm hA rfl rfl fun a hA => ?_
      rcases Bool.eq_false_or_eq_true (decide (r1.2 = (Er.b 0))) with hc1 | hc1
      · have hc10 := hc1; obtain ⟨hc1, H⟩ := dT H hc1
        refine o_yes hA rfl rfl hc10 <| 
          stm hA rfl rfl fun a hA => 
          o_yes hA rfl rfl hc10 <| ?_
        obtain ⟨r2, hr2, H⟩ := bB H
        refine o_call _ cf31 hA rfl (notes_Log_All.c μ2 _ hI.agr (⟨p1.most, p1.op, p1.l, p1.lost⟩ : notesLog) vp1 cp1 gm1 g1 hp1 hp2 hp3 hp4 (hI.handN 3) r2 hr2) rfl fun v4 a w hz5 hA => ?_
        obtain ⟨_, cs1, rfl, hE1, hi3⟩ := hz5
        have hI := hI.backN 3 hi3
        have hI : Iv w0 [] μ μ2 [row 79 34 v4 r2.length cs1, cel g1 [[.int .i64 p1.most], [.int .i64 p1.op], [vp1], [.map (some gm1)]] 133, row 79 34 vp1 p1.l.length cp1, mpI gm1 (ent kv131 vv131 p1.lost)] w := hI
        refine o_yes hA rfl rfl hc10 <| ?_
        have hlen1 := Iv.row_in hI (j := 0) rfl
        refine stp hA (r_rlen (xs := 0) Tryd.underlying76 hI (j := 0) rfl hA rfl) rfl fun a hA => 
          o_yes hA rfl rfl hc10 <| 
          stp hA (r_eql hA rfl rfl) rfl fun a hA => 
          stp hA (r_pick_t hA rfl hc10 rfl) rfl fun a hA => 
          stm hA rfl rfl fun a hA => ?_
        rcases Bool.eq_false_or_eq_true (decide ((r2.length : Int) = 0)) with hc2 | hc2
        · have hc20 := hc2; obtain ⟨hc2, H⟩ := dT H hc2
          refine o_yes hA rfl rfl hc20 <| 
            stm hA rfl rfl fun a hA => 
            o_yes hA rfl rfl hc20 <| ?_
          obtain ⟨r3, hr3, H⟩ := bB H
          have hI := hI.sl [1, 2, 3, 0] rfl
          refine o_call _ cf29 hA rfl (notes_Log_Begin.c μ2 _ hI.agr (⟨p1.most, p1.op, p1.l, p1.lost⟩ : notesLog) vp1 cp1 gm1 g1 hp1 hp2 hp3 hp4 (hI.handN 3) r3 hr3) rfl fun v5 a w hz6 hA => ?_
          obtain ⟨vp2, cp2, gm2, rfl, hw1, hp5, hp6, hp7, hp8, hi4⟩ := hz6
          have hI := hI.back3 hi4
          refine o_yes hA rfl rfl hc20 <| 
            stp hA (r_eql hA rfl rfl) rfl fun a hA => 
            stp hA (r_pick_t hA rfl hc20 rfl) rfl fun a hA => 
            sta hA rfl rfl fun a hA => ?_
          refine o_nil ?_
          cases sJ H
          exact ⟨vp2, cp2, gm2, hp5, hp6, hp7, hp8, hA.sub ⟨rfl, trivial⟩, (hI.sl [1, 2, 0] rfl)⟩
        · have hc20 := hc2; obtain ⟨hc2, H⟩ := dF H hc2
          refine o_no hA rfl rfl (by rw [hc20]; simp [vb]) rfl fun a hA => 
            o_no hA rfl rfl (by rw [hc20]; simp [vb]) rfl fun a hA => 
            o_no hA rfl rfl (by rw [hc20]; simp [vb]) rfl fun a hA => 
            stp hA (r_pick_f hA rfl hc20 rfl) rfl fun a hA => 
            sta hA rfl rfl fun a hA => ?_
          refine o_nil ?_
          cases sJ H
          exact ⟨vp1, cp1, gm1, hp1, hp2, hp3, hp4, hA.sub ⟨rfl, trivial⟩, (hI.sl [2, 3, 1] rfl)⟩
      · have hc10 := hc1; obtain ⟨hc1, H⟩ := dF H hc1
        refine o_no hA rfl rfl (by rw [hc10]; simp [vb]) rfl fun a hA => 
          o_no hA rfl rfl (by rw [hc10]; simp [vb]) rfl fun a hA => 
          o_no hA rfl rfl (by rw [hc10]; simp [vb]) rfl fun a hA => 
          o_no hA rfl rfl (by rw [hc10]; simp [vb]) rfl fun a hA => 
          stp hA (r_pick_f hA rfl hc10 rfl) rfl fun a hA => 
          stm hA rfl rfl fun a hA => 
          o_no hA rfl rfl (by simp [vb]) rfl fun a hA => 
          o_no hA rfl rfl (by simp [vb]) rfl fun a hA => 
          o_no hA rfl rfl (by simp [vb]) rfl fun a hA => 
          stp hA (r_pick_f hA rfl rfl rfl) rfl fun a hA => 
          sta hA rfl rfl fun a hA => ?_
        refine o_nil ?_
        cases sJ H
        exact ⟨vp1, cp1, gm1, hp1, hp2, hp3, hp4, hA.sub ⟨rfl, trivial⟩, (hI.sl [1, 2, 0] rfl)⟩
    · rintro a w ⟨vvc4, ccc4, ggc5, wc2, wc3, wc4, wc5, hA, hI⟩
      have H := Hk2
      refine w_ret ?_
      obtain rfl := sJ H
      exact ret1 hA Tryd.results27 rfl ⟨_, rfl, rfl, trivial, hI.forget0⟩
end Go.Proofs.YtcpdnoochieecaaDoor.T
namespace Go.Proofs.YtcpdnoochieecaaDoor.T
open Go Go.Proofs Go.Proofs.YtcpdnoochieecaaDoor.K
set_option linter.unusedVariables false
set_option linter.unusedSimpArgs false
noncomputable def sargassolaw20_NotesCap.s3 (s2 : Int) (s3 : Int) (s4 : List Note) (s5 : List (Int × Int)) : (Int × Int × Int) → Option ((Int × Int × Int) ⊕ (Int × Int)) := fun (s7, s8, s9) => ((notes_Log_Op.f (⟨s2, s3, s4, s5⟩ : notesLog)).bind fun r10 => (if s9 ≤ r10 then ((notes_Log_Of.f (⟨s2, s3, s4, s5⟩ : notesLog) s9).bind fun r11 => ((notes_Log_Lost.f (⟨s2, s3, s4, s5⟩ : notesLog) s9).bind fun r12 => some (.inl (IntKind.i64.wrap (s7 + (r11.length : Int)), IntKind.i64.wrap (s8 + r12), IntKind.i64.wrap (s9 + 1))))) else some (.inr (s7, s8))))
noncomputable def sargassolaw20_NotesCap.s2 (r1 : Bool) (r3 : Int) (r4 : Int) (s2 : Int) (s3 : Int) (s4 : List Note) (s5 : List (Int × Int)) (r9 : List Note) : Int → Option (Int ⊕ ((Int × Int × Int × (List Note) × (List (Int × Int))) ⊕ Bool)) := fun s6 => (if s6 < (r9.length : Int) then (((if 0 ≤ s6 ∧ s6 < (r9.length : Int) then (if (((r9.getD s6.toNat default).Tx).getD (0 : Int).toNat 0) ≠ (IntKind.u8.wrap (IntKind.i64.wrap ((IntKind.i64.wrap (r3 - (r9.length : Int))) + s6))) then some true else (if ((r9.getD s6.toNat default).Reason) ≠ (IntKind.i64.wrap ((Int.tmod (IntKind.i64.wrap ((IntKind.i64.wrap (r3 - (r9.length : Int))) + s6)) 9) + 1)) then some true else (if (IntKind.i64.wrap (r4 + 1)) ≠ 0 then some (decide (((r9.getD s6.toNat default).Op) ≠ (IntKind.i64.wrap ((IntKind.i64.wrap (Int.tdiv (IntKind.i64.wrap ((IntKind.i64.wrap (r3 - (r9.length : Int))) + s6)) (IntKind.i64.wrap (r4 + 1)))) + 1)))) else none))) else none)).bind fun c12 => (if c12 = true then some (.inr (.inr false)) else some (.inl (IntKind.i64.wrap (s6 + 1))))) else ((loopO (sargassolaw20_NotesCap.s3 s2 s3 s4 s5) (0, 0, 0)).bind fun (c13, c14) => (((if r1 = true then (if c13 = (r9.length : Int) then (if (IntKind.i64.wrap (c13 + c14)) = r3 then ((notes_Log_Add.f (⟨s2, s3, s4, s5⟩ : notesLog) ([0, 0, 0, 0, 0, 0, 0, 0, 0, 0, 0, 0, 0, 0, 0, 0, 0, 0, 0, 0, 0, 0, 0, 0, 0, 0, 0, 0, 0, 0, 0, 0]) 0).bind fun r13 => ((sargassosee_Is.f r13.1 122).bind fun r14 => (if r14 = true then ((notes_Log_Add.f (⟨r13.2.most, r13.2.op, r13.2.l, r13.2.lost⟩ : notesLog) ([0, 0, 0, 0, 0, 0, 0, 0, 0, 0, 0, 0, 0, 0, 0, 0, 0, 0, 0, 0, 0, 0, 0, 0, 0, 0, 0, 0, 0, 0, 0, 0]) 10).bind fun r15 => ((sargassosee_Is.f r15.1 122).bind fun r16 => some (r16, r15.2.most, r15.2.op, r15.2.l, r15.2.lost))) else some (false, r13.2.most, r13.2.op, r13.2.l, r13.2.lost)))) else some (false, s2, s3, s4, s5)) else some (false, s2, s3, s4, s5)) else some (false, s2, s3, s4, s5))).bind fun (c15, c16, c17, c18, c19) => some (.inr (.inr c15)))))
noncomputable def sargassolaw20_NotesCap.s1 (r1 : Bool) (r2 : Int) (r3 : Int) (r4 : Int) : (Int × Int × Int × (List Note) × (List (Int × Int))) → Option ((Int × Int × Int × (List Note) × (List (Int × Int))) ⊕ Bool) := fun (s1, s2, s3, s4, s5) => (if s1 < r3 then (((if (IntKind.i64.wrap (r4 + 1)) ≠ 0 then (if (Int.tmod s1 (IntKind.i64.wrap (r4 + 1))) = 0 then ((notes_Log_Begin.f (⟨s2, s3, s4, s5⟩ : notesLog)).bind fun r6 => some (r6.2.most, r6.2.op, r6.2.l, r6.2.lost)) else some (s2, s3, s4, s5)) else none)).bind fun (c3, c4, c5, c6) => ((((notes_Log_Add.f (⟨c3, c4, c5, c6⟩ : notesLog) ([IntKind.u8.wrap s1, 0, 0, 0, 0, 0, 0, 0, 0, 0, 0, 0, 0, 0, 0, 0, 0, 0, 0, 0, 0, 0, 0, 0, 0, 0, 0, 0, 0, 0, 0, 0]) (IntKind.i64.wrap ((Int.tmod s1 9) + 1))).bind fun r7 => (if r7.1 ≠ (Er.b 0) then some (r7.2.most, r7.2.op, r7.2.l, r7.2.lost, true) else ((notes_Log_All.f (⟨r7.2.most, r7.2.op, r7.2.l, r7.2.lost⟩ : notesLog)).bind fun r8 => some (r7.2.most, r7.2.op, r7.2.l, r7.2.lost, decide ((IntKind.i64.wrap (r2 + 1)) < (r8.length : Int))))))).bind fun (c7, c8, c9, c10, c11) => (if c11 = true then some (.inr false) else some (.inl (IntKind.i64.wrap (s1 + 1), c7, c8, c9, c10))))) else ((notes_Log_All.f (⟨s2, s3, s4, s5⟩ : notesLog)).bind fun r9 => (if (r9.length : Int) ≠ (iMin r3 (IntKind.i64.wrap (r2 + 1))) then some (.inr false) else loopO (sargassolaw20_NotesCap.s2 r1 r3 r4 s2 s3 s4 s5 r9) 0)))
noncomputable def sargassolaw20_NotesCap.s0 (r3 : Int) : Unit → Option (Unit ⊕ Bool) := fun _ => (if 0 < r3 then none else none)
noncomputable def sargassolaw20_NotesCap.f (x0 : Int) (x1 : Int) (x2 : Int) : Option Bool := ((sargassolaw20_first.f).bind fun r1 => (if r1 = true then ((sargassoworld_Number.f x0 20).bind fun r2 => ((sargassoworld_Number.f x1 100).bind fun r3 => ((sargassoworld_Number.f x2 5).bind fun r4 => ((notes_New.f (IntKind.i64.wrap (r2 + 1))).bind fun r5 => (oM r5.1 ((some true).bind fun c1 => (if c1 = true then some false else loopO (sargassolaw20_NotesCap.s0 r3) ())) fun p1 => ((some (decide (r5.2 ≠ (Er.b 0)))).bind fun c2 => (if c2 = true then some false else loopO (sargassolaw20_NotesCap.s1 r1 r2 r3 r4) (0, p1.most, p1.op, p1.l, p1.lost)))))))) else some false))
end Go.Proofs.YtcpdnoochieecaaDoor.T
namespace Go.Proofs.YtcpdnoochieecaaDoor.T
open Go Go.Proofs Go.Proofs.YtcpdnoochieecaaDoor.K
set_option linter.unusedVariables false
set_option linter.unusedSimpArgs false
set_option maxRecDepth 20000 in
theorem sargassolaw20_NotesCap.c (μ : Store) (w0 : World) (hμ : Agr μ w0) (x0 : Int) (hx0 : InR .i64 x0) (x1 : Int) (hx1 : InR .i64 x1) (x2 : Int) (hx2 : InR .i64 x2) (hG : Gl μ) (r : Bool) (H : sargassolaw20_NotesCap.f x0 x1 x2 = some r) :
    Calls Tryd.prog 5 [.int .i64 x0, .int .i64 x1, .int .i64 x2].toArray w0 (fun e w' => ∃ v, e = .returned v ∧ v = .bool r ∧ True ∧ Iv w0 [] μ μ [] w') := by
  refine enter Tryd.func5 rfl Tryd.ntmps5 rfl fun a hA => ?_
  have hI := Iv.start hμ
  have H := bI H
  obtain ⟨e7, he7⟩ := hG.g7
  refine w_seq fun _ hN1 => w_reg <| sta hA rfl rfl fun a hA => ?_
  refine o_nil <| hN1 _ _ <| w_seq fun _ hN2 => w_reg ?_
  obtain ⟨r1, hr1, H⟩ := bB H
  refine o_callp (u := .bool r1) cf27 hA rfl hI (sargassolaw20_first.c μ _ hI.agr e7 he7 r1 hr1) rfl fun a w hz1 hI hA => 
    sta hA rfl rfl fun a hA => ?_
  refine o_nil <| hN2 _ _ <| w_seq fun _ hN3 => w_seq fun _ hN4 => w_reg <| stm hA rfl rfl fun a hA => 
    stp hA (r_not hA rfl) rfl fun a hA => ?_
  refine o_nil <| hN4 _ _ <| w_cond hA rfl (fun hc1 => ?_) (fun hc1 => ?_)
  · have hc10 := hc1; have hc1 := nT hc1; have hc1 := ft hc1; have H := bF H hc1
    refine w_seq fun _ hN5 => w_reg <| sta hA rfl rfl fun a hA => ?_
    refine o_nil <| hN5 _ _ <| w_ret ?_
    obtain rfl := sJ H
    exact ret1 hA Tryd.results5 rfl ⟨_, rfl, rfl, trivial, hI.forget0⟩
  · have hc10 := hc1; have hc1 := nF hc1; have H := bT H hc1
    refine w_skip <| hN3 _ _ <| w_seq fun _ hN6 => w_reg <| stm hA rfl rfl fun a hA => ?_
    obtain ⟨r2, hr2, H⟩ := bB H
    refine o_callp (u := .int .i64 r2) cf11 hA rfl hI (sargassoworld_Number.c μ _ hI.agr x0 hx0 20 (in_lit .i64 20 rfl) r2 hr2) rfl fun a w hz2 hI hA => 
      stp hA (r_add hA rfl rfl) rfl fun a hA => 
      sta hA rfl rfl fun a hA => ?_
    refine o_nil <| hN6 _ _ <| w_seq fun _ hN7 => w_reg <| stm hA rfl rfl fun a hA => ?_
    obtain ⟨r3, hr3, H⟩ := bB H
    refine o_callp (u := .int .i64 r3) cf11 hA rfl hI (sargassoworld_Number.c μ _ hI.agr x1 hx1 100 (in_lit .i64 100 rfl) r3 hr3) rfl fun a w hz3 hI hA => 
      sta hA rfl rfl fun a hA => ?_
    refine o_nil <| hN7 _ _ <| w_seq fun _ hN8 => w_reg <| stm hA rfl rfl fun a hA => ?_
    obtain ⟨r4, hr4, H⟩ := bB H
    refine o_callp (u := .int .i64 r4) cf11 hA rfl hI (sargassoworld_Number.c μ _ hI.agr x2 hx2 5 (in_lit .i64 5 rfl) r4 hr4) rfl fun a w hz4 hI hA => 
      stp hA (r_add hA rfl rfl) rfl fun a hA => 
      sta hA rfl rfl fun a hA => ?_
    refine o_nil <| hN8 _ _ <| w_seq fun _ hN9 => w_reg <| stm hA rfl rfl fun a hA => ?_
    obtain ⟨r5, hr5, H⟩ := bB H
    refine o_call _ cf28 hA rfl (notes_New.c μ _ hI.agr (IntKind.i64.wrap (r2 + 1)) (wrap_in _ _) e7 he7 r5 hr5) rfl fun v1 a w hz5 hA => ?_
    rcases hz5 with ⟨ho1, hz6⟩ | ⟨p1, ho1, hz6⟩
    · skip
      have H := bON H ho1
      obtain ⟨v2, μ1, rfl, hS1, hi1⟩ := hz6
      have hI := hI.call hi1
      refine stm hA rfl rfl fun a hA => 
        stp hA (r_extr (vs := [.pointer none, v2]) hA rfl rfl) rfl fun a hA => 
        stp hA (r_extr (vs := [.pointer none, v2]) hA rfl rfl) rfl fun a hA => 
        sta hA rfl rfl fun a hA => 
        sta hA rfl rfl fun a hA => ?_
      refine o_nil <| hN9 _ _ <| w_seq fun _ hN10 => ?_
      obtain ⟨c1, hz7, Hk1⟩ := bB H
      refine w_cut (fun a w => Fr a 161 [(0, .int .i64 (IntKind.i64.wrap (r2 + 1))), (1, .int .i64 r3), (2, .int .i64 (IntKind.i64.wrap (r4 + 1))), (6, .bool false), (7, .bool r1), (8, .pointer none), (38, .bool c1)] ∧ Iv w0 [] μ μ1 [] w) ?_ ?_
      · have H := bI hz7
        refine w_reg <| stm hA rfl rfl fun a hA => 
          stp hA (r_nilnil_eql Tryd.underlying71 hA rfl rfl) rfl fun a hA => 
          stm hA rfl rfl fun a hA => 
          o_no hA rfl rfl (by simp [vb]) rfl fun a hA => 
          o_no hA rfl rfl (by simp [vb]) rfl fun a hA => 
          stp hA (r_pick_t hA rfl rfl rfl) rfl fun a hA => ?_
        refine o_nil ?_
        cases sJ H
        exact ⟨hA.sub ⟨rfl, rfl, rfl, rfl, rfl, rfl, rfl, trivial⟩, hI⟩
      · rintro a w ⟨hA, hI⟩
        have H := Hk1
        refine w_cond hA rfl (fun hc2 => ?_) (fun hc2 => ?_)
        · have hc20 := hc2; have H := bT H hc2
          refine w_seq fun _ hN11 => w_reg <| sta hA rfl rfl fun a hA => ?_
          refine o_nil <| hN11 _ _ <| w_ret ?_
          obtain rfl := sJ H
          exact ret1 hA Tryd.results5 rfl ⟨_, rfl, rfl, trivial, hI.forget0⟩
        · have hc20 := hc2; have hc2 := ft hc2; have H := bF H hc2
          refine w_skip <| hN10 _ _ <| w_seq fun _ hN12 => w_seq fun _ hN13 => w_reg <| sta hA rfl rfl fun a hA => ?_
          refine o_nil <| hN13 _ _ <| w_block ?_
          obtain ⟨z1, hz8, Hk2⟩ := bind_some H
          obtain ⟨n1, hn1⟩ := loopO_some hz8
          refine w_loop (fun n a w => loopN (sargassolaw20_NotesCap.s0 r3) n () = some z1 ∧ Fr a 161 [(0, .int .i64 (IntKind.i64.wrap (r2 + 1))), (1, .int .i64 r3), (2, .int .i64 (IntKind.i64.wrap (r4 + 1))), (6, .bool false), (7, .bool r1), (8, .pointer none), (10, .int .i64 0)] ∧ Iv w0 [] μ μ1 [] w) n1 ⟨hn1, hA.sub ⟨rfl, rfl, rfl, rfl, rfl, rfl, rfl, trivial⟩, hI⟩ ?_
          clear hA hI
          rintro n a w ⟨hn1, hA, hI⟩
          obtain ⟨m1, rfl, H⟩ := loopN_bind hn1
          clear hn1
          refine w_seq fun _ hN14 => w_seq fun _ hN15 => w_reg <| stm hA rfl rfl fun a hA => 
            stm hA rfl rfl fun a hA => 
            stp hA (r_lss hA rfl rfl) rfl fun a hA => ?_
          refine o_nil <| hN15 _ _ <| w_cond hA rfl (fun hc3 => ?_) (fun hc3 => ?_)
          · obtain ⟨hc3, H⟩ := dT H hc3
            exact (bN H).elim
          · obtain ⟨hc3, H⟩ := dF H hc3
            exact (bN H).elim
    · skip
      have H := bOS H ho1
      obtain ⟨g1, vp1, cp1, gm1, v3, μ2, rfl, hp1, hp2, hp3, hp4, hS2, hi2⟩ := hz6
      have hI := hI.call hi2
      refine stm hA rfl rfl fun a hA => 
        stp hA (r_extr (vs := [.pointer (some ⟨g1, 0, none⟩), v3]) hA rfl rfl) rfl fun a hA => 
        stp hA (r_extr (vs := [.pointer (some ⟨g1, 0, none⟩), v3]) hA rfl rfl) rfl fun a hA => 
        sta hA rfl rfl fun a hA => 
        sta hA rfl rfl fun a hA => ?_
      refine o_nil <| hN9 _ _ <| w_seq fun _ hN19 => ?_
      obtain ⟨c2, hz10, Hk4⟩ := bB H
      refine w_cut (fun a w => Fr a 161 [(0, .int .i64 (IntKind.i64.wrap (r2 + 1))), (1, .int .i64 r3), (2, .int .i64 (IntKind.i64.wrap (r4 + 1))), (6, .bool false), (7, .bool r1), (8, .pointer (some ⟨g1, 0, none⟩)), (38, .bool c2)] ∧ Iv w0 [] μ μ2 [cel g1 [[.int .i64 p1.most], [.int .i64 p1.op], [vp1], [.map (some gm1)]] 133, row 79 34 vp1 p1.l.length cp1, mpI gm1 (ent kv131 vv131 p1.lost)] w) ?_ ?_
      · have H := bI hz10
        refine w_reg <| stm hA rfl rfl fun a hA => 
          stp hA (r_ptrnil_eql Tryd.underlying71 hA rfl rfl) rfl fun a hA => 
          stm hA rfl rfl fun a hA => 
          o_yes hA rfl rfl rfl <| 
          stm hA rfl rfl fun a hA => 
          o_yes hA rfl rfl rfl <| 
          stp hA (r_neE erF hI.agr hS2 erv_nil (.inl ⟨.inr ⟨_, rfl⟩, Er.fitR⟩) hA rfl rfl) rfl fun a hA => 
          stp hA (r_pick_f hA rfl rfl rfl) rfl fun a hA => ?_
        refine o_nil ?_
        cases sJ H
        exact ⟨hA.sub ⟨rfl, rfl, rfl, rfl, rfl, rfl, rfl, trivial⟩, hI⟩
      · rintro a w ⟨hA, hI⟩
        have H := Hk4
        refine w_cond hA rfl (fun hc5 => ?_) (fun hc5 => ?_)
        · have H := bT H hc5
          refine w_seq fun _ hN20 => w_reg <| sta hA rfl rfl fun a hA => ?_
          refine o_nil <| hN20 _ _ <| w_ret ?_
          obtain rfl := sJ H
          exact ret1 hA Tryd.results5 rfl ⟨_, rfl, rfl, trivial, hI.forget0⟩
        · have hc5 := ft hc5; have H := bF H hc5
          refine w_skip <| hN19 _ _ <| w_seq fun _ hN21 => w_seq fun _ hN22 => w_reg <| sta hA rfl rfl fun a hA => ?_
          refine o_nil <| hN22 _ _ <| w_block ?_
          obtain ⟨z2, hz11, Hk5⟩ := bind_some H
          obtain ⟨n2, hn2⟩ := loopO_some hz11
          refine w_loop (fun n a w => ∃ (s1 : Int) (s2 : Int) (s3 : Int) (s4 : List Note) (s5 : List (Int × Int)) (μ3 : Store) (vvs4 : Value) (ccs4 : List Value) (ggs5 : Nat), loopN (sargassolaw20_NotesCap.s1 r1 r2 r3 r4) n (s1, s2, s3, s4, s5) = some z2 ∧ μ2.le μ3 ∧ InR .i64 s1 ∧ InR .i64 s2 ∧ InR .i64 s3 ∧ Els (RNote μ3) 34 s4 ccs4 ∧ mw131 s5 ∧ Fr a 161 [(0, .int .i64 (IntKind.i64.wrap (r2 + 1))), (1, .int .i64 r3), (2, .int .i64 (IntKind.i64.wrap (r4 + 1))), (6, .bool false), (7, .bool r1), (8, .pointer (some ⟨g1, 0, none⟩)), (10, .int .i64 s1)] ∧ Iv w0 [] μ μ3 [cel g1 [[.int .i64 s2], [.int .i64 s3], [vvs4], [.map (some ggs5)]] 133, row 79 34 vvs4 s4.length ccs4, mpI ggs5 (ent kv131 vv131 s5)] w) n2 ⟨0, p1.most, p1.op, p1.l, p1.lost, μ2, vp1, cp1, gm1, hn2, (Store.le.refl _), (in_lit .i64 0 rfl), hp1, hp2, hp3, hp4, hA.sub ⟨rfl, rfl, rfl, rfl, rfl, rfl, rfl, trivial⟩, hI⟩ ?_
          clear hA hI
          rintro n a w ⟨s1, s2, s3, s4, s5, μ3, vvs4, ccs4, ggs5, hn2, hle1, ws1, ws2, ws3, ws4, ws5, hA, hI⟩
          obtain ⟨m2, rfl, H⟩ := loopN_bind hn2
          clear hn2
          refine w_seq fun _ hN23 => w_seq fun _ hN24 => w_reg <| stm hA rfl rfl fun a hA => 
            stm hA rfl rfl fun a hA => 
            stp hA (r_lss hA rfl rfl) rfl fun a hA => ?_
          refine o_nil <| hN24 _ _ <| w_cond hA rfl (fun hc6 => ?_) (fun hc6 => ?_)
          · obtain ⟨hc6, H⟩ := dT H hc6
            refine w_skip <| hN23 _ _ <| w_seq fun _ hN25 => w_block ?_
            obtain ⟨⟨c3, c4, c5, c6⟩, hz12, Hk6⟩ := bB H
            refine w_cut (fun a w => ∃ (vvc5 : Value) (ccc5 : List Value) (ggc6 : Nat), InR .i64 c3 ∧ InR .i64 c4 ∧ Els (RNote μ3) 34 c5 ccc5 ∧ mw131 c6 ∧ Fr a 161 [(0, .int .i64 (IntKind.i64.wrap (r2 + 1))), (1, .int .i64 r3), (2, .int .i64 (IntKind.i64.wrap (r4 + 1))), (6, .bool false), (7, .bool r1), (8, .pointer (some ⟨g1, 0, none⟩)), (10, .int .i64 s1), (41, .bool (decide (s1 < r3)))] ∧ Iv w0 [] μ μ3 [row 79 34 vvc5 c5.length ccc5, mpI ggc6 (ent kv131 vv131 c6), cel g1 [[.int .i64 c3], [.int .i64 c4], [vvc5], [.map (some ggc6)]] 133] w) ?_ ?_
            · have H := bI hz12
              refine w_seq fun _ hN26 => w_reg <| stm hA rfl rfl fun a hA => 
                stm hA rfl rfl fun a hA => ?_
              obtain ⟨hb2, H⟩ := bG H
              refine stp hA (r_rem hA rfl rfl hb2) rfl fun a hA => 
                stp hA (r_eql hA rfl rfl) rfl fun a hA => ?_
              refine o_nil <| hN26 _ _ <| w_cond hA rfl (fun hc7 => ?_) (fun hc7 => ?_)
              · obtain ⟨hc7, H⟩ := dT H hc7
                refine w_reg <| stm hA rfl rfl fun a hA => ?_
                obtain ⟨r6, hr6, H⟩ := bB H
                refine o_call _ cf29 hA rfl (notes_Log_Begin.c μ3 _ hI.agr (⟨s2, s3, s4, s5⟩ : notesLog) vvs4 ccs4 ggs5 g1 ws2 ws3 ws4 ws5 (hI.handN 3) r6 hr6) rfl fun v4 a w hz13 hA => ?_
                obtain ⟨vp2, cp2, gm2, rfl, hw1, hp5, hp6, hp7, hp8, hi3⟩ := hz13
                have hI := hI.back3 hi3
                refine o_nil ?_
                cases sJ H
                exact ⟨vp2, cp2, gm2, hp5, hp6, hp7, hp8, hA.sub ⟨rfl, rfl, rfl, rfl, rfl, rfl, rfl, rfl, trivial⟩, (hI.sl [1, 2, 0] rfl)⟩
              · obtain ⟨hc7, H⟩ := dF H hc7
                refine w_skip ?_
                cases sJ H
                exact ⟨vvs4, ccs4, ggs5, ws2, ws3, ws4, ws5, hA.sub ⟨rfl, rfl, rfl, rfl, rfl, rfl, rfl, rfl, trivial⟩, (hI.sl [1, 2, 0] rfl)⟩
            · rintro a w ⟨vvc5, ccc5, ggc6, wc3, wc4, wc5, wc6, hA, hI⟩
              have H := Hk6
              obtain ⟨⟨c7, c8, c9, c10, c11⟩, hz14, Hk7⟩ := bB H
              refine w_cut (fun a w => ∃ (μ4 : Store) (vvc9 : Value) (ccc9 : List Value) (ggc10 : Nat), μ3.le μ4 ∧ InR .i64 c7 ∧ InR .i64 c8 ∧ Els (RNote μ4) 34 c9 ccc9 ∧ mw131 c10 ∧ Fr a 161 [(0, .int .i64 (IntKind.i64.wrap (r2 + 1))), (1, .int .i64 r3), (2, .int .i64 (IntKind.i64.wrap (r4 + 1))), (6, .bool false), (7, .bool r1), (8, .pointer (some ⟨g1, 0, none⟩)), (10, .int .i64 s1), (41, .bool (decide (s1 < r3))), (65, .bool c11)] ∧ Iv w0 [] μ μ4 [row 79 34 vvc9 c9.length ccc9, mpI ggc10 (ent kv131 vv131 c10), cel g1 [[.int .i64 c7], [.int .i64 c8], [vvc9], [.map (some ggc10)]] 133] w) ?_ ?_
              · have H := bI hz14
                refine w_reg <| stm hA rfl rfl fun a hA => 
                  stm hA rfl rfl fun a hA => 
                  stp hA (r_conv Tryd.underlying3 Tryd.underlying5 hA rfl) rfl fun a hA => 
                  stp hA (r_bldA (cs := [av .u8 32 ([IntKind.u8.wrap s1, 0, 0, 0, 0, 0, 0, 0, 0, 0, 0, 0, 0, 0, 0, 0, 0, 0, 0, 0, 0, 0, 0, 0, 0, 0, 0, 0, 0, 0, 0, 0])].flatten.toArray) zr26 Tryd.underlying26 sz5 hA rfl (by kernel_rfl)) rfl fun a hA => 
                  stm hA rfl rfl fun a hA => 
                  stp hA (r_rem hA rfl rfl (by decide)) rfl fun a hA => 
                  stp hA (r_add hA rfl rfl) rfl fun a hA => ?_
                obtain ⟨r7, hr7, H⟩ := bB H
                have hI := hI.sl [2, 0, 1] rfl
                refine o_call _ cf30 hA rfl (notes_Log_Add.c μ3 _ hI.agr (⟨c3, c4, c5, c6⟩ : notesLog) vvc5 ccc5 ggc6 g1 wc3 wc4 wc5 wc6 (hI.handN 3) ([IntKind.u8.wrap s1, 0, 0, 0, 0, 0, 0, 0, 0, 0, 0, 0, 0, 0, 0, 0, 0, 0, 0, 0, 0, 0, 0, 0, 0, 0, 0, 0, 0, 0, 0, 0]) (arr_lit rfl (by simp only [List.forall_mem_cons]; exact ⟨(wrap_in _ _), (in_lit .u8 0 rfl), (in_lit .u8 0 rfl), (in_lit .u8 0 rfl), (in_lit .u8 0 rfl), (in_lit .u8 0 rfl), (in_lit .u8 0 rfl), (in_lit .u8 0 rfl), (in_lit .u8 0 rfl), (in_lit .u8 0 rfl), (in_lit .u8 0 rfl), (in_lit .u8 0 rfl), (in_lit .u8 0 rfl), (in_lit .u8 0 rfl), (in_lit .u8 0 rfl), (in_lit .u8 0 rfl), (in_lit .u8 0 rfl), (in_lit .u8 0 rfl), (in_lit .u8 0 rfl), (in_lit .u8 0 rfl), (in_lit .u8 0 rfl), (in_lit .u8 0 rfl), (in_lit .u8 0 rfl), (in_lit .u8 0 rfl), (in_lit .u8 0 rfl), (in_lit .u8 0 rfl), (in_lit .u8 0 rfl), (in_lit .u8 0 rfl), (in_lit .u8 0 rfl), (in_lit .u8 0 rfl), (in_lit .u8 0 rfl), (in_lit .u8 0 rfl), by simp⟩)) (IntKind.i64.wrap ((Int.tmod s1 9) + 1)) (wrap_in _ _) e7 (ErV.le (fun _ _ h => h) (hi2.le.trans hle1) he7) r7 hr7) rfl fun v5 a w hz15 hA => ?_
                obtain ⟨_, vp3, cp3, gm3, μ5, rfl, hS3, hp9, hp10, hp11, hp12, hi4⟩ := hz15
                have hI := hI.back3 hi4
                refine stp hA (r_neE erF hI.agr hS3 erv_nil (.inl ⟨.inr ⟨_, rfl⟩, Er.fitR⟩) hA rfl rfl) rfl fun a hA => 
                  stm hA rfl rfl fun a hA => ?_
                rcases Bool.eq_false_or_eq_true (decide (r7.1 ≠ (Er.b 0))) with hc8 | hc8
                · have hc80 := hc8; obtain ⟨hc8, H⟩ := dT H hc8
                  refine o_no hA rfl rfl (by rw [hc80]; simp [vb]) rfl fun a hA => 
                    o_no hA rfl rfl (by rw [hc80]; simp [vb]) rfl fun a hA => 
                    o_no hA rfl rfl (by rw [hc80]; simp [vb]) rfl fun a hA => 
                    o_no hA rfl rfl (by rw [hc80]; simp [vb]) rfl fun a hA => 
                    o_no hA rfl rfl (by rw [hc80]; simp [vb]) rfl fun a hA => 
                    stp hA (r_pick_t hA rfl hc80 rfl) rfl fun a hA => ?_
                  refine o_nil ?_
                  cases sJ H
                  exact ⟨μ5, vp3, cp3, gm3, hi4.le, hp9, hp10, hp11, hp12, hA.sub ⟨rfl, rfl, rfl, rfl, rfl, rfl, rfl, rfl, rfl, trivial⟩, (hI.sl [1, 2, 0] rfl)⟩
                · have hc80 := hc8; obtain ⟨hc8, H⟩ := dF H hc8
                  refine o_yes hA rfl rfl hc80 <| 
                    stm hA rfl rfl fun a hA => 
                    o_yes hA rfl rfl hc80 <| ?_
                  obtain ⟨r8, hr8, H⟩ := bB H
                  refine o_call _ cf31 hA rfl (notes_Log_All.c μ5 _ hI.agr (⟨r7.2.most, r7.2.op, r7.2.l, r7.2.lost⟩ : notesLog) vp3 cp3 gm3 g1 hp9 hp10 hp11 hp12 (hI.handN 3) r8 hr8) rfl fun v6 a w hz16 hA => ?_
                  obtain ⟨_, cs1, rfl, hE1, hi5⟩ := hz16
                  have hI := hI.backN 3 hi5
                  have hI : Iv w0 [] μ μ5 [row 79 34 v6 r8.length cs1, cel g1 [[.int .i64 r7.2.most], [.int .i64 r7.2.op], [vp3], [.map (some gm3)]] 133, row 79 34 vp3 r7.2.l.length cp3, mpI gm3 (ent kv131 vv131 r7.2.lost)] w := hI
                  refine o_yes hA rfl rfl hc80 <| ?_
                  have hlen1 := Iv.row_in hI (j := 0) rfl
                  refine stp hA (r_rlen (xs := 0) Tryd.underlying76 hI (j := 0) rfl hA rfl) rfl fun a hA => 
                    o_yes hA rfl rfl hc80 <| 
                    stm hA rfl rfl fun a hA => 
                    o_yes hA rfl rfl hc80 <| 
                    stp hA (r_gtr hA rfl rfl) rfl fun a hA => 
                    stp hA (r_pick_f hA rfl hc80 rfl) rfl fun a hA => ?_
                  refine o_nil ?_
                  cases sJ H
                  exact ⟨μ5, vp3, cp3, gm3, hi4.le, hp9, hp10, hp11, hp12, hA.sub ⟨rfl, rfl, rfl, rfl, rfl, rfl, rfl, rfl, rfl, trivial⟩, (hI.sl [2, 3, 1] rfl)⟩
              · rintro a w ⟨μ4, vvc9, ccc9, ggc10, hle2, wc7, wc8, wc9, wc10, hA, hI⟩
                have H := Hk7
                refine w_cond hA rfl (fun hc9 => ?_) (fun hc9 => ?_)
                · have H := bT H hc9
                  refine w_seq fun _ hN27 => w_reg <| sta hA rfl rfl fun a hA => ?_
                  refine o_nil <| hN27 _ _ <| w_ret ?_
                  have H : some false = some z2 := H
                  obtain rfl := sI H
                  have H := Hk5
                  obtain rfl := sJ H
                  exact ret1 hA Tryd.results5 rfl ⟨_, rfl, rfl, trivial, hI.forget0⟩
                · have hc9 := ft hc9; have H := bF H hc9
                  refine w_skip <| hN25 _ _ <| w_reg <| stm hA rfl rfl fun a hA => 
                    stp hA (r_add hA rfl rfl) rfl fun a hA => 
                    sta hA rfl rfl fun a hA => ?_
                  refine o_nil <| ⟨m2, Nat.lt_succ_self _, IntKind.i64.wrap (s1 + 1), c7, c8, c9, c10, μ4, vvc9, ccc9, ggc10, H, (hle1.trans hle2), (wrap_in _ _), wc7, wc8, wc9, wc10, hA.sub ⟨rfl, rfl, rfl, rfl, rfl, rfl, rfl, trivial⟩, (hI.sl [2, 0, 1] rfl)⟩
          · obtain ⟨hc6, H⟩ := dF H hc6
            refine w_exit rfl <| hN21 _ _ <| w_seq fun _ hN28 => w_reg <| stm hA rfl rfl fun a hA => ?_
            obtain ⟨r9, hr9, H⟩ := bB H
            refine o_call _ cf31 hA rfl (notes_Log_All.c μ3 _ hI.agr (⟨s2, s3, s4, s5⟩ : notesLog) vvs4 ccs4 ggs5 g1 ws2 ws3 ws4 ws5 (hI.handN 3) r9 hr9) rfl fun v7 a w hz17 hA => ?_
            obtain ⟨_, cs2, rfl, hE2, hi6⟩ := hz17
            have hI := hI.backN 3 hi6
            have hI : Iv w0 [] μ μ3 [row 79 34 v7 r9.length cs2, cel g1 [[.int .i64 s2], [.int .i64 s3], [vvs4], [.map (some ggs5)]] 133, row 79 34 vvs4 s4.length ccs4, mpI ggs5 (ent kv131 vv131 s5)] w := hI
            refine sta hA rfl rfl fun a hA => ?_
            refine o_nil <| hN28 _ _ <| w_seq fun _ hN29 => w_seq fun _ hN30 => w_reg <| stm hA rfl rfl fun a hA => ?_
            have hlen2 := Iv.row_in hI (j := 0) rfl
            refine stp hA (r_rlen (xs := 0) Tryd.underlying76 hI (j := 0) rfl hA rfl) rfl fun a hA => 
              stm hA rfl rfl fun a hA => 
              stm hA rfl rfl fun a hA => 
              stp hA (r_min hA rfl rfl) rfl fun a hA => 
              stp hA (r_neq hA rfl rfl) rfl fun a hA => ?_
            refine o_nil <| hN30 _ _ <| w_cond hA rfl (fun hc10 => ?_) (fun hc10 => ?_)
            · obtain ⟨hc10, H⟩ := dT H hc10
              refine w_seq fun _ hN31 => w_reg <| sta hA rfl rfl fun a hA => ?_
              refine o_nil <| hN31 _ _ <| w_ret ?_
              have H : some false = some z2 := H
              obtain rfl := sI H
              have H := Hk5
              obtain rfl := sJ H
              exact ret1 hA Tryd.results5 rfl ⟨_, rfl, rfl, trivial, hI.forget0⟩
            · obtain ⟨hc10, H⟩ := dF H hc10
              refine w_skip <| hN29 _ _ <| w_seq fun _ hN32 => w_seq fun _ hN33 => w_reg <| sta hA rfl rfl fun a hA => ?_
              refine o_nil <| hN33 _ _ <| w_block ?_
              obtain ⟨z3, hz18, Hk8⟩ := bind_some H
              obtain ⟨n3, hn3⟩ := loopO_some hz18
              refine w_loop (fun n a w => ∃ (s6 : Int), loopN (sargassolaw20_NotesCap.s2 r1 r3 r4 s2 s3 s4 s5 r9) n s6 = some z3 ∧ InR .i64 s6 ∧ Fr a 161 [(1, .int .i64 r3), (2, .int .i64 (IntKind.i64.wrap (r4 + 1))), (6, .bool false), (7, .bool r1), (8, .pointer (some ⟨g1, 0, none⟩)), (11, v7), (12, .int .i64 s6)] ∧ Iv w0 [] μ μ3 [row 79 34 v7 r9.length cs2, cel g1 [[.int .i64 s2], [.int .i64 s3], [vvs4], [.map (some ggs5)]] 133, row 79 34 vvs4 s4.length ccs4, mpI ggs5 (ent kv131 vv131 s5)] w) n3 ⟨0, hn3, (in_lit .i64 0 rfl), hA.sub ⟨rfl, rfl, rfl, rfl, rfl, rfl, rfl, trivial⟩, hI⟩ ?_
              clear hA hI
              rintro n a w ⟨s6, hn3, ws6, hA, hI⟩
              obtain ⟨m3, rfl, H⟩ := loopN_bind hn3
              clear hn3
              refine w_seq fun _ hN34 => w_seq fun _ hN35 => w_reg <| stm hA rfl rfl fun a hA => 
                stm hA rfl rfl fun a hA => ?_
              have hlen3 := Iv.row_in hI (j := 0) rfl
              refine stp hA (r_rlen (xs := 0) Tryd.underlying76 hI (j := 0) rfl hA rfl) rfl fun a hA => 
                stp hA (r_lss hA rfl rfl) rfl fun a hA => ?_
              refine o_nil <| hN35 _ _ <| w_cond hA rfl (fun hc11 => ?_) (fun hc11 => ?_)
              · obtain ⟨hc11, H⟩ := dT H hc11
                refine w_skip <| hN34 _ _ <| w_seq fun _ hN36 => w_block <| w_seq fun _ hN37 => w_reg <| stm hA rfl rfl fun a hA => 
                  stm hA rfl rfl fun a hA => ?_
                have hlen4 := Iv.row_in hI (j := 0) rfl
                refine stp hA (r_rlen (xs := 0) Tryd.underlying76 hI (j := 0) rfl hA rfl) rfl fun a hA => 
                  stp hA (r_sub hA rfl rfl) rfl fun a hA => 
                  stm hA rfl rfl fun a hA => 
                  stp hA (r_add hA rfl rfl) rfl fun a hA => 
                  sta hA rfl rfl fun a hA => ?_
                refine o_nil <| hN37 _ _ ?_
                obtain ⟨c12, hz19, Hk9⟩ := bB H
                refine w_cut (fun a w => Fr a 161 [(1, .int .i64 r3), (2, .int .i64 (IntKind.i64.wrap (r4 + 1))), (6, .bool false), (7, .bool r1), (8, .pointer (some ⟨g1, 0, none⟩)), (11, v7), (12, .int .i64 s6), (13, .int .i64 (IntKind.i64.wrap ((IntKind.i64.wrap (r3 - (r9.length : Int))) + s6))), (77, .bool (decide (s6 < (r9.length : Int)))), (117, .bool c12)] ∧ Iv w0 [] μ μ3 [row 79 34 v7 r9.length cs2, cel g1 [[.int .i64 s2], [.int .i64 s3], [vvs4], [.map (some ggs5)]] 133, row 79 34 vvs4 s4.length ccs4, mpI ggs5 (ent kv131 vv131 s5)] w) ?_ ?_
                · have H := bI hz19
                  refine w_draw mo (by kernel_rfl) hI ?_
                  refine qtp hA (fun _ hI => r_mv hA rfl) rfl fun a hA => 
                    qtp hA (fun _ hI => r_mv hA rfl) rfl fun a hA => ?_
                  obtain ⟨hb3, H⟩ := bG H
                  refine qtp hA (fun _ hI => r_rix (j := 0) Tryd.underlying76 sz79 hI rfl hA rfl rfl hb3.1 hb3.2) rfl fun a hA => 
                    qtp hA (fun _ hI => r_fd (k := so v7 + s6.toNat * 34 + 1) Tryd.underlying79 rfl sz26 hA rfl rfl) rfl fun a hA => 
                    qtp hA (fun _ hI => r_ixar1 Tryd.underlying26 sz5 hA rfl rfl (by decide) (by decide)) rfl fun a hA => ?_
                  obtain ⟨A1, _, B1, hc12, hl1, _, he1⟩ := Els.at_ hE2 (getD_some default hb3.1 hb3.2)
                  obtain ⟨rfl, hw2⟩ := he1
                  refine qtp hA (fun _ hI => r_rldE (j := 0) (q := s6.toNat * 34) (off := 1) A1 B1 [[.int .i64 ((r9.getD s6.toNat default).Op)]] [[.int .i64 ((r9.getD s6.toNat default).Reason)]] hc12 hl1 rfl Tryd.underlying5 rfl (by decide) hI rfl hA rfl) rfl fun a hA => 
                    qtp hA (fun _ hI => r_mv hA rfl) rfl fun a hA => 
                    qtp hA (fun _ hI => r_conv Tryd.underlying3 Tryd.underlying5 hA rfl) rfl fun a hA => 
                    qtp hA (fun _ hI => r_neq hA rfl rfl) rfl fun a hA => 
                    qtp hA (fun _ hI => r_mv hA rfl) rfl fun a hA => ?_
                  rcases Bool.eq_false_or_eq_true (decide ((((r9.getD s6.toNat default).Tx).getD (0 : Int).toNat 0) ≠ (IntKind.u8.wrap (IntKind.i64.wrap ((IntKind.i64.wrap (r3 - (r9.length : Int))) + s6))))) with hc13 | hc13
                  · have hc130 := hc13; obtain ⟨hc13, H⟩ := dT H hc13
                    refine q_no hA rfl rfl (by rw [hc130]; simp [vb]) rfl fun a hA => 
                      q_no hA rfl rfl (by rw [hc130]; simp [vb]) rfl fun a hA => 
                      q_no hA rfl rfl (by rw [hc130]; simp [vb]) rfl fun a hA => 
                      q_no hA rfl rfl (by rw [hc130]; simp [vb]) rfl fun a hA => 
                      q_no hA rfl rfl (by rw [hc130]; simp [vb]) rfl fun a hA => 
                      q_no hA rfl rfl (by rw [hc130]; simp [vb]) rfl fun a hA => 
                      q_no hA rfl rfl (by rw [hc130]; simp [vb]) rfl fun a hA => 
                      q_no hA rfl rfl (by rw [hc130]; simp [vb]) rfl fun a hA => 
                      q_no hA rfl rfl (by rw [hc130]; simp [vb]) rfl fun a hA => 
                      qtp hA (fun _ hI => r_pick_t hA rfl hc130 rfl) rfl fun a hA => 
                      qtp hA (fun _ hI => r_mv hA rfl) rfl fun a hA => 
                      q_no hA rfl rfl (by simp [vb]) rfl fun a hA => 
                      q_no hA rfl rfl (by simp [vb]) rfl fun a hA => 
                      q_no hA rfl rfl (by simp [vb]) rfl fun a hA => 
                      q_no hA rfl rfl (by simp [vb]) rfl fun a hA => 
                      q_no hA rfl rfl (by simp [vb]) rfl fun a hA => 
                      q_no hA rfl rfl (by simp [vb]) rfl fun a hA => 
                      q_no hA rfl rfl (by simp [vb]) rfl fun a hA => 
                      q_no hA rfl rfl (by simp [vb]) rfl fun a hA => 
                      q_no hA rfl rfl (by simp [vb]) rfl fun a hA => 
                      q_no hA rfl rfl (by simp [vb]) rfl fun a hA => 
                      qtp hA (fun _ hI => r_pick_t hA rfl rfl rfl) rfl fun a hA => ?_
                    refine q_nil fun w hI => ?_
                    cases sJ H
                    exact ⟨hA.sub ⟨rfl, rfl, rfl, rfl, rfl, rfl, rfl, rfl, rfl, rfl, trivial⟩, hI⟩
                  · have hc130 := hc13; obtain ⟨hc13, H⟩ := dF H hc13
                    refine q_yes hA rfl rfl hc130 <| 
                      qtp hA (fun _ hI => r_mv hA rfl) rfl fun a hA => 
                      q_yes hA rfl rfl hc130 <| 
                      qtp hA (fun _ hI => r_mv hA rfl) rfl fun a hA => 
                      q_yes hA rfl rfl hc130 <| 
                      qtp hA (fun _ hI => r_rix (j := 0) Tryd.underlying76 sz79 hI rfl hA rfl rfl hb3.1 hb3.2) rfl fun a hA => 
                      q_yes hA rfl rfl hc130 <| 
                      qtp hA (fun _ hI => r_fd (k := so v7 + s6.toNat * 34 + 33) Tryd.underlying79 rfl sz3 hA rfl rfl) rfl fun a hA => 
                      q_yes hA rfl rfl hc130 <| ?_
                    obtain ⟨A2, _, B2, hc14, hl2, _, he2⟩ := Els.at_ hE2 (getD_some default hb3.1 hb3.2)
                    obtain ⟨rfl, hw3⟩ := he2
                    refine qtp hA (fun _ hI => r_rldQ (j := 0) (q := s6.toNat * 34) (off := 33) A2 B2 [[.int .i64 ((r9.getD s6.toNat default).Op)], av .u8 32 ((r9.getD s6.toNat default).Tx)] [] hc14 hl2 rfl Tryd.underlying3 rfl hI rfl hA rfl) rfl fun a hA => 
                      q_yes hA rfl rfl hc130 <| 
                      qtp hA (fun _ hI => r_mv hA rfl) rfl fun a hA => 
                      q_yes hA rfl rfl hc130 <| 
                      qtp hA (fun _ hI => r_rem hA rfl rfl (by decide)) rfl fun a hA => 
                      q_yes hA rfl rfl hc130 <| 
                      qtp hA (fun _ hI => r_add hA rfl rfl) rfl fun a hA => 
                      q_yes hA rfl rfl hc130 <| 
                      qtp hA (fun _ hI => r_neq hA rfl rfl) rfl fun a hA => 
                      qtp hA (fun _ hI => r_pick_f hA rfl hc130 rfl) rfl fun a hA => 
                      qtp hA (fun _ hI => r_mv hA rfl) rfl fun a hA => ?_
                    rcases Bool.eq_false_or_eq_true (decide (((r9.getD s6.toNat default).Reason) ≠ (IntKind.i64.wrap ((Int.tmod (IntKind.i64.wrap ((IntKind.i64.wrap (r3 - (r9.length : Int))) + s6)) 9) + 1)))) with hc15 | hc15
                    · have hc150 := hc15; obtain ⟨hc15, H⟩ := dT H hc15
                      refine q_no hA rfl rfl (by rw [hc150]; simp [vb]) rfl fun a hA => 
                        q_no hA rfl rfl (by rw [hc150]; simp [vb]) rfl fun a hA => 
                        q_no hA rfl rfl (by rw [hc150]; simp [vb]) rfl fun a hA => 
                        q_no hA rfl rfl (by rw [hc150]; simp [vb]) rfl fun a hA => 
                        q_no hA rfl rfl (by rw [hc150]; simp [vb]) rfl fun a hA => 
                        q_no hA rfl rfl (by rw [hc150]; simp [vb]) rfl fun a hA => 
                        q_no hA rfl rfl (by rw [hc150]; simp [vb]) rfl fun a hA => 
                        q_no hA rfl rfl (by rw [hc150]; simp [vb]) rfl fun a hA => 
                        q_no hA rfl rfl (by rw [hc150]; simp [vb]) rfl fun a hA => 
                        q_no hA rfl rfl (by rw [hc150]; simp [vb]) rfl fun a hA => 
                        qtp hA (fun _ hI => r_pick_t hA rfl hc150 rfl) rfl fun a hA => ?_
                      refine q_nil fun w hI => ?_
                      cases sJ H
                      exact ⟨hA.sub ⟨rfl, rfl, rfl, rfl, rfl, rfl, rfl, rfl, rfl, rfl, trivial⟩, hI⟩
                    · have hc150 := hc15; obtain ⟨hc15, H⟩ := dF H hc15
                      refine q_yes hA rfl rfl hc150 <| 
                        qtp hA (fun _ hI => r_mv hA rfl) rfl fun a hA => 
                        q_yes hA rfl rfl hc150 <| 
                        qtp hA (fun _ hI => r_mv hA rfl) rfl fun a hA => 
                        q_yes hA rfl rfl hc150 <| 
                        qtp hA (fun _ hI => r_rix (j := 0) Tryd.underlying76 sz79 hI rfl hA rfl rfl hb3.1 hb3.2) rfl fun a hA => 
                        q_yes hA rfl rfl hc150 <| 
                        qtp hA (fun _ hI => r_fd (k := so v7 + s6.toNat * 34) Tryd.underlying79 rfl sz3 hA rfl rfl) rfl fun a hA => 
                        q_yes hA rfl rfl hc150 <| ?_
                      obtain ⟨A3, _, B3, hc16, hl3, _, he3⟩ := Els.at_ hE2 (getD_some default hb3.1 hb3.2)
                      obtain ⟨rfl, hw4⟩ := he3
                      refine qtp hA (fun _ hI => r_rldQ (j := 0) (q := s6.toNat * 34) (off := 0) A3 B3 [] [av .u8 32 ((r9.getD s6.toNat default).Tx), [.int .i64 ((r9.getD s6.toNat default).Reason)]] hc16 hl3 rfl Tryd.underlying3 rfl hI rfl hA rfl) rfl fun a hA => 
                        q_yes hA rfl rfl hc150 <| 
                        qtp hA (fun _ hI => r_mv hA rfl) rfl fun a hA => 
                        q_yes hA rfl rfl hc150 <| 
                        qtp hA (fun _ hI => r_mv hA rfl) rfl fun a hA => 
                        q_yes hA rfl rfl hc150 <| ?_
                      obtain ⟨hb4, H⟩ := bG H
                      refine qtp hA (fun _ hI => r_quo hA rfl rfl hb4) rfl fun a hA => 
                        q_yes hA rfl rfl hc150 <| 
                        qtp hA (fun _ hI => r_add hA rfl rfl) rfl fun a hA => 
                        q_yes hA rfl rfl hc150 <| 
                        qtp hA (fun _ hI => r_neq hA rfl rfl) rfl fun a hA => 
                        qtp hA (fun _ hI => r_pick_f hA rfl hc150 rfl) rfl fun a hA => ?_
                      refine q_nil fun w hI => ?_
                      cases sJ H
                      exact ⟨hA.sub ⟨rfl, rfl, rfl, rfl, rfl, rfl, rfl, rfl, rfl, rfl, trivial⟩, hI⟩
                · rintro a w ⟨hA, hI⟩
                  have H := Hk9
                  refine w_cond hA rfl (fun hc17 => ?_) (fun hc17 => ?_)
                  · have H := bT H hc17
                    refine w_seq fun _ hN38 => w_reg <| sta hA rfl rfl fun a hA => ?_
                    refine o_nil <| hN38 _ _ <| w_ret ?_
                    have H : some (.inr false) = some z3 := H
                    obtain rfl := sI H
                    have H := Hk8
                    have H : some false = some z2 := H
                    obtain rfl := sI H
                    have H := Hk5
                    obtain rfl := sJ H
                    exact ret1 hA Tryd.results5 rfl ⟨_, rfl, rfl, trivial, hI.forget0⟩
                  · have hc17 := ft hc17; have H := bF H hc17
                    refine w_skip <| hN36 _ _ <| w_reg <| stm hA rfl rfl fun a hA => 
                      stp hA (r_add hA rfl rfl) rfl fun a hA => 
                      sta hA rfl rfl fun a hA => ?_
                    refine o_nil <| ⟨m3, Nat.lt_succ_self _, IntKind.i64.wrap (s6 + 1), H, (wrap_in _ _), hA.sub ⟨rfl, rfl, rfl, rfl, rfl, rfl, rfl, trivial⟩, hI⟩
              · obtain ⟨hc11, H⟩ := dF H hc11
                refine w_exit rfl <| hN32 _ _ <| w_seq fun _ hN39 => w_reg <| sta hA rfl rfl fun a hA => ?_
                refine o_nil <| hN39 _ _ <| w_seq fun _ hN40 => w_reg <| sta hA rfl rfl fun a hA => ?_
                refine o_nil <| hN40 _ _ ?_
                obtain ⟨⟨c13, c14⟩, hz20, Hk10⟩ := bB H
                refine w_cut (fun a w => InR .i64 c13 ∧ InR .i64 c14 ∧ Fr a 161 [(1, .int .i64 r3), (6, .bool false), (7, .bool r1), (8, .pointer (some ⟨g1, 0, none⟩)), (11, v7), (14, .int .i64 c13), (15, .int .i64 c14)] ∧ Iv w0 [] μ μ3 [row 79 34 v7 r9.length cs2, cel g1 [[.int .i64 s2], [.int .i64 s3], [vvs4], [.map (some ggs5)]] 133, row 79 34 vvs4 s4.length ccs4, mpI ggs5 (ent kv131 vv131 s5)] w) ?_ ?_
                · have H := bI hz20
                  refine w_seq fun _ hN41 => w_reg <| sta hA rfl rfl fun a hA => ?_
                  refine o_nil <| hN41 _ _ <| w_block ?_
                  obtain ⟨z4, hz21, Hk11⟩ := bind_some H
                  obtain ⟨n4, hn4⟩ := loopO_some hz21
                  refine w_loop (fun n a w => ∃ (s7 : Int) (s8 : Int) (s9 : Int), loopN (sargassolaw20_NotesCap.s3 s2 s3 s4 s5) n (s7, s8, s9) = some z4 ∧ InR .i64 s7 ∧ InR .i64 s8 ∧ InR .i64 s9 ∧ Fr a 161 [(1, .int .i64 r3), (6, .bool false), (7, .bool r1), (8, .pointer (some ⟨g1, 0, none⟩)), (11, v7), (14, .int .i64 s7), (15, .int .i64 s8), (16, .int .i64 s9)] ∧ Iv w0 [] μ μ3 [row 79 34 v7 r9.length cs2, cel g1 [[.int .i64 s2], [.int .i64 s3], [vvs4], [.map (some ggs5)]] 133, row 79 34 vvs4 s4.length ccs4, mpI ggs5 (ent kv131 vv131 s5)] w) n4 ⟨0, 0, 0, hn4, (in_lit .i64 0 rfl), (in_lit .i64 0 rfl), (in_lit .i64 0 rfl), hA.sub ⟨rfl, rfl, rfl, rfl, rfl, rfl, rfl, rfl, trivial⟩, hI⟩ ?_
                  clear hA hI
                  rintro n a w ⟨s7, s8, s9, hn4, ws7, ws8, ws9, hA, hI⟩
                  obtain ⟨m4, rfl, H⟩ := loopN_bind hn4
                  clear hn4
                  dsimp only [sargassolaw20_NotesCap.s3] at H
                  refine w_seq fun _ hN42 => w_seq fun _ hN43 => w_reg <| stm hA rfl rfl fun a hA => 
                    stm hA rfl rfl fun a hA => ?_
                  obtain ⟨r10, hr10, H⟩ := bB H
                  have hI := hI.sl [1, 2, 3, 0] rfl
                  refine o_call _ cf32 hA rfl (notes_Log_Op.c μ3 _ hI.agr (⟨s2, s3, s4, s5⟩ : notesLog) vvs4 ccs4 ggs5 g1 ws2 ws3 ws4 ws5 (hI.handN 3) r10 hr10) rfl fun v8 a w hz22 hA => ?_
                  obtain ⟨rfl, hw5, hi7⟩ := hz22
                  have hI := hI.back3 hi7
                  refine stp hA (r_leq hA rfl rfl) rfl fun a hA => ?_
                  refine o_nil <| hN43 _ _ <| w_cond hA rfl (fun hc18 => ?_) (fun hc18 => ?_)
                  · obtain ⟨hc18, H⟩ := dT H hc18
                    refine w_skip <| hN42 _ _ <| w_seq fun _ hN44 => w_block <| w_seq fun _ hN45 => w_reg <| stm hA rfl rfl fun a hA => 
                      stm hA rfl rfl fun a hA => 
                      stm hA rfl rfl fun a hA => ?_
                    obtain ⟨r11, hr11, H⟩ := bB H
                    refine o_call _ cf33 hA rfl (notes_Log_Of.c μ3 _ hI.agr (⟨s2, s3, s4, s5⟩ : notesLog) vvs4 ccs4 ggs5 g1 ws2 ws3 ws4 ws5 (hI.handN 3) s9 ws9 r11 hr11) rfl fun v9 a w hz23 hA => ?_
                    obtain ⟨_, cs3, rfl, hE3, hi8⟩ := hz23
                    have hI := hI.backN 3 hi8
                    have hI : Iv w0 [] μ μ3 [row 79 34 v9 r11.length cs3, cel g1 [[.int .i64 s2], [.int .i64 s3], [vvs4], [.map (some ggs5)]] 133, row 79 34 vvs4 s4.length ccs4, mpI ggs5 (ent kv131 vv131 s5), row 79 34 v7 r9.length cs2] w := hI
                    have hlen5 := Iv.row_in hI (j := 0) rfl
                    refine stp hA (r_rlen (xs := 0) Tryd.underlying76 hI (j := 0) rfl hA rfl) rfl fun a hA => 
                      stp hA (r_add hA rfl rfl) rfl fun a hA => 
                      sta hA rfl rfl fun a hA => ?_
                    refine o_nil <| hN45 _ _ <| w_reg <| stm hA rfl rfl fun a hA => 
                      stm hA rfl rfl fun a hA => 
                      stm hA rfl rfl fun a hA => ?_
                    obtain ⟨r12, hr12, H⟩ := bB H
                    have hI := hI.sl [1, 2, 3, 0, 4] rfl
                    refine o_call _ cf34 hA rfl (notes_Log_Lost.c μ3 _ hI.agr (⟨s2, s3, s4, s5⟩ : notesLog) vvs4 ccs4 ggs5 g1 ws2 ws3 ws4 ws5 (hI.handN 3) s9 ws9 r12 hr12) rfl fun v10 a w hz24 hA => ?_
                    obtain ⟨rfl, hw6, hi9⟩ := hz24
                    have hI := hI.back3 hi9
                    refine stp hA (r_add hA rfl rfl) rfl fun a hA => 
                      sta hA rfl rfl fun a hA => ?_
                    refine o_nil <| hN44 _ _ <| w_reg <| stm hA rfl rfl fun a hA => 
                      stp hA (r_add hA rfl rfl) rfl fun a hA => 
                      sta hA rfl rfl fun a hA => ?_
                    refine o_nil <| ⟨m4, Nat.lt_succ_self _, IntKind.i64.wrap (s7 + (r11.length : Int)), IntKind.i64.wrap (s8 + r12), IntKind.i64.wrap (s9 + 1), H, (wrap_in _ _), (wrap_in _ _), (wrap_in _ _), hA.sub ⟨rfl, rfl, rfl, rfl, rfl, rfl, rfl, rfl, trivial⟩, (hI.sl [4, 0, 1, 2] rfl)⟩
                  · obtain ⟨hc18, H⟩ := dF H hc18
                    refine w_exit rfl ?_
                    have H : some (s7, s8) = some z4 := H
                    obtain rfl := sI H
                    have H := Hk11
                    cases sJ H
                    exact ⟨ws7, ws8, hA.sub ⟨rfl, rfl, rfl, rfl, rfl, rfl, rfl, trivial⟩, (hI.sl [3, 0, 1, 2] rfl)⟩
                · rintro a w ⟨wc13, wc14, hA, hI⟩
                  have H := Hk10
                  obtain ⟨⟨c15, c16, c17, c18, c19⟩, hz25, Hk12⟩ := bB H
                  refine w_cut (fun a w => ∃ (μ6 : Store) (vvc18 : Value) (ccc18 : List Value) (ggc19 : Nat), μ3.le μ6 ∧ InR .i64 c16 ∧ InR .i64 c17 ∧ Els (RNote μ6) 34 c18 ccc18 ∧ mw131 c19 ∧ Fr a 161 [(6, .bool c15)] ∧ Iv w0 [] μ μ6 [row 79 34 vvc18 c18.length ccc18, mpI ggc19 (ent kv131 vv131 c19), row 79 34 v7 r9.length cs2, cel g1 [[.int .i64 c16], [.int .i64 c17], [vvc18], [.map (some ggc19)]] 133] w) ?_ ?_
                  · have H := bI hz25
                    refine w_reg <| stm hA rfl rfl fun a hA => 
                      stm hA rfl rfl fun a hA => ?_
                    rcases Bool.eq_false_or_eq_true r1 with hc19 | hc19
                    · have hc190 := hc19; have H := bT H hc19
                      refine o_yes hA rfl rfl hc190 <| 
                        stm hA rfl rfl fun a hA => 
                        o_yes hA rfl rfl hc190 <| 
                        stm hA rfl rfl fun a hA => 
                        o_yes hA rfl rfl hc190 <| ?_
                      have hlen6 := Iv.row_in hI (j := 0) rfl
                      refine stp hA (r_rlen (xs := 0) Tryd.underlying76 hI (j := 0) rfl hA rfl) rfl fun a hA => 
                        o_yes hA rfl rfl hc190 <| 
                        stp hA (r_eql hA rfl rfl) rfl fun a hA => 
                        stp hA (r_pick_t hA rfl hc190 rfl) rfl fun a hA => 
                        stm hA rfl rfl fun a hA => ?_
                      rcases Bool.eq_false_or_eq_true (decide (c13 = (r9.length : Int))) with hc20 | hc20
                      · have hc200 := hc20; obtain ⟨hc20, H⟩ := dT H hc20
                        refine o_yes hA rfl rfl hc200 <| 
                          stm hA rfl rfl fun a hA => 
                          o_yes hA rfl rfl hc200 <| 
                          stm hA rfl rfl fun a hA => 
                          o_yes hA rfl rfl hc200 <| 
                          stp hA (r_add hA rfl rfl) rfl fun a hA => 
                          o_yes hA rfl rfl hc200 <| 
                          stm hA rfl rfl fun a hA => 
                          o_yes hA rfl rfl hc200 <| 
                          stp hA (r_eql hA rfl rfl) rfl fun a hA => 
                          stp hA (r_pick_t hA rfl hc200 rfl) rfl fun a hA => 
                          stm hA rfl rfl fun a hA => ?_
                        rcases Bool.eq_false_or_eq_true (decide ((IntKind.i64.wrap (c13 + c14)) = r3)) with hc21 | hc21
                        · have hc210 := hc21; obtain ⟨hc21, H⟩ := dT H hc21
                          refine o_yes hA rfl rfl hc210 <| 
                            stm hA rfl rfl fun a hA => 
                            o_yes hA rfl rfl hc210 <| 
                            stp hA (r_bldA (cs := [av .u8 32 ([0, 0, 0, 0, 0, 0, 0, 0, 0, 0, 0, 0, 0, 0, 0, 0, 0, 0, 0, 0, 0, 0, 0, 0, 0, 0, 0, 0, 0, 0, 0, 0])].flatten.toArray) zr26 Tryd.underlying26 sz5 hA rfl (by kernel_rfl)) rfl fun a hA => 
                            o_yes hA rfl rfl hc210 <| ?_
                          obtain ⟨r13, hr13, H⟩ := bB H
                          have hI := hI.sl [1, 2, 3, 0] rfl
                          refine o_call _ cf30 hA rfl (notes_Log_Add.c μ3 _ hI.agr (⟨s2, s3, s4, s5⟩ : notesLog) vvs4 ccs4 ggs5 g1 ws2 ws3 ws4 ws5 (hI.handN 3) ([0, 0, 0, 0, 0, 0, 0, 0, 0, 0, 0, 0, 0, 0, 0, 0, 0, 0, 0, 0, 0, 0, 0, 0, 0, 0, 0, 0, 0, 0, 0, 0]) (arr_lit rfl (by simp only [List.forall_mem_cons]; exact ⟨(in_lit .u8 0 rfl), (in_lit .u8 0 rfl), (in_lit .u8 0 rfl), (in_lit .u8 0 rfl), (in_lit .u8 0 rfl), (in_lit .u8 0 rfl), (in_lit .u8 0 rfl), (in_lit .u8 0 rfl), (in_lit .u8 0 rfl), (in_lit .u8 0 rfl), (in_lit .u8 0 rfl), (in_lit .u8 0 rfl), (in_lit .u8 0 rfl), (in_lit .u8 0 rfl), (in_lit .u8 0 rfl), (in_lit .u8 0 rfl), (in_lit .u8 0 rfl), (in_lit .u8 0 rfl), (in_lit .u8 0 rfl), (in_lit .u8 0 rfl), (in_lit .u8 0 rfl), (in_lit .u8 0 rfl), (in_lit .u8 0 rfl), (in_lit .u8 0 rfl), (in_lit .u8 0 rfl), (in_lit .u8 0 rfl), (in_lit .u8 0 rfl), (in_lit .u8 0 rfl), (in_lit .u8 0 rfl), (in_lit .u8 0 rfl), (in_lit .u8 0 rfl), (in_lit .u8 0 rfl), by simp⟩)) 0 (in_lit .i64 0 rfl) e7 (ErV.le (fun _ _ h => h) (hi2.le.trans hle1) he7) r13 hr13) rfl fun v11 a w hz26 hA => ?_
                          obtain ⟨_, vp4, cp4, gm4, μ7, rfl, hS4, hp13, hp14, hp15, hp16, hi10⟩ := hz26
                          have hI := hI.back3 hi10
                          refine o_yes hA rfl rfl hc210 <| ?_
                          obtain ⟨r14, hr14, H⟩ := bB H
                          refine o_callp (u := .bool r14) cf17 hA rfl hI (sargassosee_Is.c μ7 _ hI.agr r13.1 v11 hS4 122 (in_lit .i64 122 rfl) (Gl.le ((hi2.le.trans hle1).trans hi10.le) hG) r14 hr14) rfl fun a w hz27 hI hA => 
                            stp hA (r_pick_t hA rfl hc210 rfl) rfl fun a hA => 
                            stm hA rfl rfl fun a hA => ?_
                          rcases Bool.eq_false_or_eq_true r14 with hc22 | hc22
                          · have hc220 := hc22; have H := bT H hc22
                            refine o_yes hA rfl rfl hc220 <| 
                              stm hA rfl rfl fun a hA => 
                              o_yes hA rfl rfl hc220 <| 
                              stp hA (r_bldA (cs := [av .u8 32 ([0, 0, 0, 0, 0, 0, 0, 0, 0, 0, 0, 0, 0, 0, 0, 0, 0, 0, 0, 0, 0, 0, 0, 0, 0, 0, 0, 0, 0, 0, 0, 0])].flatten.toArray) zr26 Tryd.underlying26 sz5 hA rfl (by kernel_rfl)) rfl fun a hA => 
                              o_yes hA rfl rfl hc220 <| ?_
                            obtain ⟨r15, hr15, H⟩ := bB H
                            refine o_call _ cf30 hA rfl (notes_Log_Add.c μ7 _ hI.agr (⟨r13.2.most, r13.2.op, r13.2.l, r13.2.lost⟩ : notesLog) vp4 cp4 gm4 g1 hp13 hp14 hp15 hp16 (hI.handN 3) ([0, 0, 0, 0, 0, 0, 0, 0, 0, 0, 0, 0, 0, 0, 0, 0, 0, 0, 0, 0, 0, 0, 0, 0, 0, 0, 0, 0, 0, 0, 0, 0]) (arr_lit rfl (by simp only [List.forall_mem_cons]; exact ⟨(in_lit .u8 0 rfl), (in_lit .u8 0 rfl), (in_lit .u8 0 rfl), (in_lit .u8 0 rfl), (in_lit .u8 0 rfl), (in_lit .u8 0 rfl), (in_lit .u8 0 rfl), (in_lit .u8 0 rfl), (in_lit .u8 0 rfl), (in_lit .u8 0 rfl), (in_lit .u8 0 rfl), (in_lit .u8 0 rfl), (in_lit .u8 0 rfl), (in_lit .u8 0 rfl), (in_lit .u8 0 rfl), (in_lit .u8 0 rfl), (in_lit .u8 0 rfl), (in_lit .u8 0 rfl), (in_lit .u8 0 rfl), (in_lit .u8 0 rfl), (in_lit .u8 0 rfl), (in_lit .u8 0 rfl), (in_lit .u8 0 rfl), (in_lit .u8 0 rfl), (in_lit .u8 0 rfl), (in_lit .u8 0 rfl), (in_lit .u8 0 rfl), (in_lit .u8 0 rfl), (in_lit .u8 0 rfl), (in_lit .u8 0 rfl), (in_lit .u8 0 rfl), (in_lit .u8 0 rfl), by simp⟩)) 10 (in_lit .i64 10 rfl) e7 (ErV.le (fun _ _ h => h) ((hi2.le.trans hle1).trans hi10.le) he7) r15 hr15) rfl fun v12 a w hz28 hA => ?_
                            obtain ⟨_, vp5, cp5, gm5, μ8, rfl, hS5, hp17, hp18, hp19, hp20, hi11⟩ := hz28
                            have hI := hI.back3 hi11
                            refine o_yes hA rfl rfl hc220 <| ?_
                            obtain ⟨r16, hr16, H⟩ := bB H
                            refine o_callp (u := .bool r16) cf17 hA rfl hI (sargassosee_Is.c μ8 _ hI.agr r15.1 v12 hS5 122 (in_lit .i64 122 rfl) (Gl.le (((hi2.le.trans hle1).trans hi10.le).trans hi11.le) hG) r16 hr16) rfl fun a w hz29 hI hA => 
                              stp hA (r_pick_t hA rfl hc220 rfl) rfl fun a hA => 
                              sta hA rfl rfl fun a hA => ?_
                            refine o_nil ?_
                            cases sJ H
                            exact ⟨μ8, vp5, cp5, gm5, (hi10.le.trans hi11.le), hp17, hp18, hp19, hp20, hA.sub ⟨rfl, trivial⟩, (hI.sl [1, 2, 3, 0] rfl)⟩
                          · have hc220 := hc22; have hc22 := ft hc22; have H := bF H hc22
                            refine o_no hA rfl rfl (by rw [hc220]; simp [vb]) rfl fun a hA => 
                              o_no hA rfl rfl (by rw [hc220]; simp [vb]) rfl fun a hA => 
                              o_no hA rfl rfl (by rw [hc220]; simp [vb]) rfl fun a hA => 
                              o_no hA rfl rfl (by rw [hc220]; simp [vb]) rfl fun a hA => 
                              stp hA (r_pick_f hA rfl hc220 rfl) rfl fun a hA => 
                              sta hA rfl rfl fun a hA => ?_
                            refine o_nil ?_
                            cases sJ H
                            exact ⟨μ7, vp4, cp4, gm4, hi10.le, hp13, hp14, hp15, hp16, hA.sub ⟨rfl, trivial⟩, (hI.sl [1, 2, 3, 0] rfl)⟩
                        · have hc210 := hc21; obtain ⟨hc21, H⟩ := dF H hc21
                          refine o_no hA rfl rfl (by rw [hc210]; simp [vb]) rfl fun a hA => 
                            o_no hA rfl rfl (by rw [hc210]; simp [vb]) rfl fun a hA => 
                            o_no hA rfl rfl (by rw [hc210]; simp [vb]) rfl fun a hA => 
                            o_no hA rfl rfl (by rw [hc210]; simp [vb]) rfl fun a hA => 
                            stp hA (r_pick_f hA rfl hc210 rfl) rfl fun a hA => 
                            stm hA rfl rfl fun a hA => 
                            o_no hA rfl rfl (by simp [vb]) rfl fun a hA => 
                            o_no hA rfl rfl (by simp [vb]) rfl fun a hA => 
                            o_no hA rfl rfl (by simp [vb]) rfl fun a hA => 
                            o_no hA rfl rfl (by simp [vb]) rfl fun a hA => 
                            stp hA (r_pick_f hA rfl rfl rfl) rfl fun a hA => 
                            sta hA rfl rfl fun a hA => ?_
                          refine o_nil ?_
                          cases sJ H
                          exact ⟨μ3, vvs4, ccs4, ggs5, (Store.le.refl _), ws2, ws3, ws4, ws5, hA.sub ⟨rfl, trivial⟩, (hI.sl [2, 3, 0, 1] rfl)⟩
                      · have hc200 := hc20; obtain ⟨hc20, H⟩ := dF H hc20
                        refine o_no hA rfl rfl (by rw [hc200]; simp [vb]) rfl fun a hA => 
                          o_no hA rfl rfl (by rw [hc200]; simp [vb]) rfl fun a hA => 
                          o_no hA rfl rfl (by rw [hc200]; simp [vb]) rfl fun a hA => 
                          o_no hA rfl rfl (by rw [hc200]; simp [vb]) rfl fun a hA => 
                          o_no hA rfl rfl (by rw [hc200]; simp [vb]) rfl fun a hA => 
                          stp hA (r_pick_f hA rfl hc200 rfl) rfl fun a hA => 
                          stm hA rfl rfl fun a hA => 
                          o_no hA rfl rfl (by simp [vb]) rfl fun a hA => 
                          o_no hA rfl rfl (by simp [vb]) rfl fun a hA => 
                          o_no hA rfl rfl (by simp [vb]) rfl fun a hA => 
                          o_no hA rfl rfl (by simp [vb]) rfl fun a hA => 
                          stp hA (r_pick_f hA rfl rfl rfl) rfl fun a hA => 
                          stm hA rfl rfl fun a hA => 
                          o_no hA rfl rfl (by simp [vb]) rfl fun a hA => 
                          o_no hA rfl rfl (by simp [vb]) rfl fun a hA => 
                          o_no hA rfl rfl (by simp [vb]) rfl fun a hA => 
                          o_no hA rfl rfl (by simp [vb]) rfl fun a hA => 
                          stp hA (r_pick_f hA rfl rfl rfl) rfl fun a hA => 
                          sta hA rfl rfl fun a hA => ?_
                        refine o_nil ?_
                        cases sJ H
                        exact ⟨μ3, vvs4, ccs4, ggs5, (Store.le.refl _), ws2, ws3, ws4, ws5, hA.sub ⟨rfl, trivial⟩, (hI.sl [2, 3, 0, 1] rfl)⟩
                    · have hc190 := hc19; have hc19 := ft hc19; have H := bF H hc19
                      refine o_no hA rfl rfl (by rw [hc190]; simp [vb]) rfl fun a hA => 
                        o_no hA rfl rfl (by rw [hc190]; simp [vb]) rfl fun a hA => 
                        o_no hA rfl rfl (by rw [hc190]; simp [vb]) rfl fun a hA => 
                        o_no hA rfl rfl (by rw [hc190]; simp [vb]) rfl fun a hA => 
                        stp hA (r_pick_f hA rfl hc190 rfl) rfl fun a hA => 
                        stm hA rfl rfl fun a hA => 
                        o_no hA rfl rfl (by simp [vb]) rfl fun a hA => 
                        o_no hA rfl rfl (by simp [vb]) rfl fun a hA => 
                        o_no hA rfl rfl (by simp [vb]) rfl fun a hA => 
                        o_no hA rfl rfl (by simp [vb]) rfl fun a hA => 
                        o_no hA rfl rfl (by simp [vb]) rfl fun a hA => 
                        stp hA (r_pick_f hA rfl rfl rfl) rfl fun a hA => 
                        stm hA rfl rfl fun a hA => 
                        o_no hA rfl rfl (by simp [vb]) rfl fun a hA => 
                        o_no hA rfl rfl (by simp [vb]) rfl fun a hA => 
                        o_no hA rfl rfl (by simp [vb]) rfl fun a hA => 
                        o_no hA rfl rfl (by simp [vb]) rfl fun a hA => 
                        stp hA (r_pick_f hA rfl rfl rfl) rfl fun a hA => 
                        stm hA rfl rfl fun a hA => 
                        o_no hA rfl rfl (by simp [vb]) rfl fun a hA => 
                        o_no hA rfl rfl (by simp [vb]) rfl fun a hA => 
                        o_no hA rfl rfl (by simp [vb]) rfl fun a hA => 
                        o_no hA rfl rfl (by simp [vb]) rfl fun a hA => 
                        stp hA (r_pick_f hA rfl rfl rfl) rfl fun a hA => 
                        sta hA rfl rfl fun a hA => ?_
                      refine o_nil ?_
                      cases sJ H
                      exact ⟨μ3, vvs4, ccs4, ggs5, (Store.le.refl _), ws2, ws3, ws4, ws5, hA.sub ⟨rfl, trivial⟩, (hI.sl [2, 3, 0, 1] rfl)⟩
                  · rintro a w ⟨μ6, vvc18, ccc18, ggc19, hle3, wc16, wc17, wc18, wc19, hA, hI⟩
                    have H := Hk12
                    refine w_ret ?_
                    have H : some (.inr c15) = some z3 := H
                    obtain rfl := sI H
                    have H := Hk8
                    have H : some c15 = some z2 := H
                    obtain rfl := sI H
                    have H := Hk5
                    obtain rfl := sJ H
                    exact ret1 hA Tryd.results5 rfl ⟨_, rfl, rfl, trivial, hI.forget0⟩
end Go.Proofs.YtcpdnoochieecaaDoor.T
namespace Go.Proofs.YtcpdnoochieecaaDoor.T
open Go Go.Proofs Go.Proofs.YtcpdnoochieecaaDoor.K
set_option linter.unusedVariables false
theorem w64 {x : Int} (h0 : -9223372036854775808 ≤ x) (h1 : x < 9223372036854775808) : IntKind.i64.wrap x = x := wrap_id ⟨h0, h1⟩
theorem number_eq {x n : Int} (hx : InR .i64 x) (h0 : 0 < n) (h1 : n < 9223372036854775808) : ∃ y, sargassoworld_Number.f x n = some y ∧ 0 ≤ y ∧ y < n := by
  obtain ⟨a, b⟩ := hx
  have hn : n ≠ 0 := by omega
  unfold sargassoworld_Number.f
  rw [if_pos hn]
  have hb : -n < Int.tmod x n ∧ Int.tmod x n < n := by
    rcases Int.le_total 0 x with h | h
    · rw [Int.tmod_eq_emod_of_nonneg h]; have := Int.emod_nonneg x hn; have := Int.emod_lt_of_pos x h0; omega
    · have e : Int.tmod x n = -(Int.tmod (-x) n) := by rw [Int.neg_tmod, Int.neg_neg]
      rw [e, Int.tmod_eq_emod_of_nonneg (by omega)]; have := Int.emod_nonneg (-x) hn; have := Int.emod_lt_of_pos (-x) h0; omega
  by_cases hc : Int.tmod x n < 0
  · rw [if_pos hc]
    exact ⟨_, rfl, by rw [w64 (by omega) (by omega)]; omega, by rw [w64 (by omega) (by omega)]; omega⟩
  · rw [if_neg hc]
    exact ⟨_, rfl, by omega, by omega⟩
end Go.Proofs.YtcpdnoochieecaaDoor.T
namespace Go.Proofs.YtcpdnoochieecaaDoor.T
open Go Go.Proofs Go.Proofs.YtcpdnoochieecaaDoor.K
set_option linter.unusedVariables false
set_option linter.unusedSimpArgs false
theorem loop_idx {τ ρ : Type} {step : τ → Option (τ ⊕ ρ)} (st : Nat → τ) (n : Nat) (h : ∀ i, i < n → step (st i) = some (.inl (st (i + 1)))) : loopO step (st 0) = loopO step (st n) := by
  induction n with
  | zero => rfl
  | succ n ih => rw [ih (fun i hi => h i (by omega)), loopO_inl (h n (by omega))]
theorem loop_run {τ ρ : Type} {step : τ → Option (τ ⊕ ρ)} (st : Nat → τ) (n : Nat) {r : ρ} {s : τ} (h0 : s = st 0) (h : ∀ i, i < n → step (st i) = some (.inl (st (i + 1)))) (hn : step (st n) = some (.inr r)) : loopO step s = some r := by
  rw [h0, loop_idx st n h, loopO_inr hn]
end Go.Proofs.YtcpdnoochieecaaDoor.T
namespace Go.Proofs.YtcpdnoochieecaaDoor.T
open Go Go.Proofs Go.Proofs.YtcpdnoochieecaaDoor.K
set_option linter.unusedVariables false
set_option linter.unusedSimpArgs false
theorem winc (i : Nat) (hi : i < 9223372036854775807) : IntKind.i64.wrap ((i : Int) + 1) = ((i + 1 : Nat) : Int) := by
  rw [w64 (by omega) (by omega)]; omega
theorem take_next {α : Type} (xs : List α) (i : Nat) (d : α) (h : i < xs.length) : xs.take i ++ [xs.getD i d] = xs.take (i + 1) := by
  rw [List.take_add_one]
  simp [List.getD, h]
end Go.Proofs.YtcpdnoochieecaaDoor.T
namespace Go.Proofs.YtcpdnoochieecaaDoor.T
open Go Go.Proofs Go.Proofs.YtcpdnoochieecaaDoor.K
set_option linter.unusedVariables false
set_option linter.unusedSimpArgs false
def sl : List Er := [xErrEnd, xErrShape, xErrLong, xErrMany, xErrValue, xErrTwice, xErrBase, xErrRoot, xErrKnown, xErrParent, xErrInvalid, xErrTime, xErrMissing, xErrKey, xErrYoung, xErrEarly, xErrLess, xErrReward, xErrClash, xErrLimit, xErrFull, xErrRange, xErrNone, xErrWord, xErrNumber]
theorem sl_plain : ∀ e ∈ sl, e ≠ .b 0 ∧ e.isP = false := by decide
theorem alike_eq {e f : Er} (he : e ≠ .b 0) (hf : f ≠ .b 0) (hp : e.isP = false) : sargassosee_Alike.f e f = some (decide (e = f)) := by
  simp only [sargassosee_Alike.f]
  rw [if_neg he, Option.bind_some, if_neg (by simpa using hf), if_pos]
  cases e with
  | pl _ _ => cases hp
  | b n =>
    cases f with
    | pl _ _ => cases n <;> rfl
    | b m =>
      cases n with
      | zero => exact absurd rfl he
      | succ n => rfl
theorem gd {α : Type} (l : List α) (d : α) {i : Nat} (h : i < l.length) : l.getD i d = l[i] := by simp [List.getD, h]
theorem sl_ne : ∀ i, i < 25 → ∀ j, j < 25 → i ≠ j → sl.getD i (.b 0) ≠ sl.getD j (.b 0) := by decide +kernel
theorem sentinel_at (k : Nat) (hk : k < 25) : sargassosee_sentinel.f (sl.getD k (.b 0)) = some (101 + (k : Int)) := by
  have hl : sl.length = 25 := rfl
  have hmem : ∀ i, i < 25 → sl.getD i (.b 0) ∈ sl := fun i hi => by
    have e := gd sl (.b 0) (i := i) (by omega)
    rw [e]; exact List.getElem_mem _
  have h0 : sargassosee_sentinels.f = some sl := rfl
  unfold sargassosee_sentinel.f
  rw [h0, Option.bind_some]
  have hs : ∀ i : Nat, i < 25 → sargassosee_sentinel.s0 (sl.getD k (.b 0)) sl (i : Int) = if k = i then some (.inr (IntKind.i64.wrap (101 + (i : Int)))) else some (.inl (IntKind.i64.wrap ((i : Int) + 1))) := fun i hi => by
    simp only [sargassosee_sentinel.s0]
    rw [if_pos (by omega), if_pos (by omega), Int.toNat_natCast, alike_eq (sl_plain _ (hmem k hk)).1 (sl_plain _ (hmem i hi)).1 (sl_plain _ (hmem k hk)).2, Option.bind_some]
    by_cases h : k = i
    · subst h; rw [if_pos (by simp), if_pos rfl]
    · rw [if_neg (by simpa using sl_ne k hk i hi h), if_neg h]
  have key := loop_idx (step := sargassosee_sentinel.s0 (sl.getD k (.b 0)) sl) (fun i => (i : Int)) k (fun i hi => by rw [hs i (by omega), if_neg (by omega), winc i (by omega)])
  have e0 : ((0 : Nat) : Int) = 0 := rfl
  simp only [e0] at key
  have h1 := hs k hk
  rw [if_pos rfl] at h1
  rw [key, loopO_inr h1, w64 (by omega) (by omega)]
theorem samefault_bare (a b : Int) : sargassoref_SameFault.f ⟨a, false, 0, false, 0⟩ ⟨b, false, 0, false, 0⟩ = some (decide (a = b)) := by
  simp only [sargassoref_SameFault.f]
  by_cases h : a = b
  · simp [h]
  · simp [h]
theorem fault_at (k : Nat) (hk : k < 25) : sargassosee_Fault.f (sl.getD k (.b 0)) = some ⟨101 + (k : Int), false, 0, false, 0⟩ := by
  have hm : sl.getD k (.b 0) ∈ sl := by
    have hl : sl.length = 25 := rfl
    have e := gd sl (.b 0) (i := k) (by omega)
    rw [e]; exact List.getElem_mem _
  obtain ⟨h1, h2⟩ := sl_plain _ hm
  simp only [sargassosee_Fault.f]
  rw [if_neg h1, if_neg (by rw [h2]; decide), sentinel_at k hk]
  rfl
theorem is_at (k : Nat) (hk : k < 25) (c : Int) : sargassosee_Is.f (sl.getD k (.b 0)) c = some (decide (101 + (k : Int) = c)) := by
  simp only [sargassosee_Is.f, sargassosee_Same.f, sargassoref_Bare.f, Option.bind_some]
  rw [fault_at k hk, Option.bind_some, samefault_bare, Option.bind_some, Option.bind_some]
theorem is_range (c : Int) : sargassosee_Is.f xErrRange c = some (decide (122 = c)) := is_at 21 (by decide) c
end Go.Proofs.YtcpdnoochieecaaDoor.T
namespace Go.Proofs.YtcpdnoochieecaaDoor.T
open Go Go.Proofs Go.Proofs.YtcpdnoochieecaaDoor.K
set_option linter.unusedVariables false
set_option linter.unusedSimpArgs false
theorem nt_ends {τ ρ : Type} {step : τ → Option (τ ⊕ ρ)} (I : Nat → τ → Prop) (Post : ρ → Prop) (n : Nat) {s : τ} (h0 : I 0 s) (h : ∀ i, i < n → ∀ s, I i s → (∃ s', step s = some (.inl s') ∧ I (i + 1) s') ∨ ∃ r, step s = some (.inr r) ∧ Post r) (hn : ∀ s, I n s → ∃ r, step s = some (.inr r) ∧ Post r) : ∃ r, loopO step s = some r ∧ Post r := by
  have key : ∀ m k s, k + m = n → I k s → ∃ r, loopO step s = some r ∧ Post r := by
    intro m
    induction m with
    | zero =>
      intro k s e hI
      obtain ⟨r, h1, h2⟩ := hn s (by rw [← e]; exact hI)
      exact ⟨r, loopO_inr h1, h2⟩
    | succ m ih =>
      intro k s e hI
      rcases h k (by omega) s hI with ⟨s', h1, h2⟩ | ⟨r, h1, h2⟩
      · rw [loopO_inl h1]
        exact ih (k + 1) s' (by omega) h2
      · exact ⟨r, loopO_inr h1, h2⟩
  exact key n 0 s (by omega) h0
theorem mget_mput {K V : Type} [DecidableEq K] (l : List (K × V)) (k k' : K) (v : V) : mget (mput l k v) k' = if k = k' then some v else mget l k' := by
  induction l with
  | nil => rfl
  | cons p l ih =>
    simp only [mput]
    by_cases h : p.1 = k
    · rw [if_pos h]
      simp only [mget]
      by_cases h2 : k = k'
      · rw [if_pos h2, if_pos h2]
      · rw [if_neg h2, if_neg h2, if_neg (fun e => h2 (h.symm.trans e))]
    · rw [if_neg h]
      simp only [mget]
      by_cases h2 : p.1 = k'
      · rw [if_pos h2, if_pos h2, if_neg (fun e => h (h2.trans e.symm))]
      · rw [if_neg h2, if_neg h2, ih]
def ofO (l : List Note) (o : Int) : List Note := l.filter fun n => decide (n.Op = o)
def cnt (l : List Note) (o : Int) : Int := ((ofO l o).length : Int)
theorem ofO_app (l l' : List Note) (o : Int) : ofO (l ++ l') o = ofO l o ++ ofO l' o := List.filter_append ..
theorem ofO_one (n : Note) (o : Int) : ofO [n] o = if n.Op = o then [n] else [] := by
  by_cases h : n.Op = o
  · simp [ofO, h]
  · simp [ofO, h]
theorem cnt_next (l : List Note) (n : Note) (o : Int) : cnt (l ++ [n]) o = cnt l o + if n.Op = o then 1 else 0 := by
  unfold cnt
  rw [ofO_app, ofO_one]
  by_cases h : n.Op = o
  · rw [if_pos h, if_pos h]; simp
  · rw [if_neg h, if_neg h]; simp
theorem cntn_le (l : List Note) (o : Int) : cnt l o ≤ (l.length : Int) := by
  have := List.length_filter_le (fun n : Note => decide (n.Op = o)) l
  simp only [cnt, ofO]
  omega
theorem cnt_nn (l : List Note) (o : Int) : 0 ≤ cnt l o := by simp [cnt]
structure St (most op : Int) (H : List Note) (x : notesLog) : Prop where
  m : x.most = most
  o : x.op = op
  l : x.l = H.drop (H.length - most.toNat)
  g : ∀ o, (mget x.lost o).getD 0 = cnt (H.take (H.length - most.toNat)) o
theorem st_new (most : Int) (h0 : 1 ≤ most) (h1 : most ≤ 65536) : notes_New.f most = some (some ⟨most, 0, [], []⟩, .b 0) ∧ St most 0 [] ⟨most, 0, [], []⟩ := by
  constructor
  · simp only [notes_New.f]
    rw [if_neg (by omega), Option.bind_some, if_neg (by simp only [decide_eq_true_eq]; omega)]
  · exact ⟨rfl, rfl, by simp, fun o => by simp [mget, cnt, ofO]⟩
theorem drop_tail (H : List Note) (n : Note) (m : Nat) (hm : 0 < m) (l1 : List Note) (hl : l1 = H.drop (H.length - m) ++ [n]) :
    (m < l1.length → l1.drop 1 = (H ++ [n]).drop ((H ++ [n]).length - m) ∧ (H ++ [n]).take ((H ++ [n]).length - m) = H.take (H.length - m) ++ [l1.getD 0 default]) ∧
    (¬ m < l1.length → l1 = (H ++ [n]).drop ((H ++ [n]).length - m) ∧ (H ++ [n]).take ((H ++ [n]).length - m) = H.take (H.length - m)) := by
  subst hl
  have hlen : (H.drop (H.length - m) ++ [n]).length = min H.length m + 1 := by simp; omega
  have happ : H.drop (H.length - m) ++ [n] = (H ++ [n]).drop (H.length - m) := by rw [List.drop_append_of_le_length (by omega)]
  constructor
  · intro h
    have hHm : m ≤ H.length := by omega
    have e1 : (H ++ [n]).length - m = (H.length - m) + 1 := by simp; omega
    rw [e1]
    refine ⟨by rw [happ, List.drop_drop], ?_⟩
    have hlt : H.length - m < H.length := by omega
    have := take_next (H ++ [n]) (H.length - m) default (by simp; omega)
    rw [← this, List.take_append_of_le_length (by omega)]
    congr 2
    rw [happ]
    simp [List.getD]
  · intro h
    have e1 : (H ++ [n]).length - m = H.length - m := by
      have : H.length < m := by omega
      simp; omega
    rw [e1]
    exact ⟨happ, by rw [List.take_append_of_le_length (by omega)]⟩
theorem nadd_eq {most op : Int} {H : List Note} {x : notesLog} (s : St most op H x) (h0 : 1 ≤ most) (h1 : most ≤ 65536) (hH : H.length ≤ 100000) (h : List Int) (r : Int) (r1 : 1 ≤ r) (r9 : r ≤ 9) :
    ∃ x', notes_Log_Add.f x h r = some (.b 0, x') ∧ St most op (H ++ [⟨op, h, r⟩]) x' := by
  obtain ⟨sm, so, sl_, sg⟩ := s
  obtain ⟨m, ho, xl, lost⟩ := x
  simp only at sm so sl_ sg
  subst sm so
  obtain ⟨l1, hl⟩ : ∃ l1, l1 = xl ++ [(⟨ho, h, r⟩ : Note)] := ⟨_, rfl⟩
  have hd := drop_tail H ⟨ho, h, r⟩ m.toNat (by omega) l1 (by rw [hl, sl_])
  have hxl : xl.length ≤ 100000 := by rw [sl_]; simp; omega
  have hl1 : l1.length = xl.length + 1 := by rw [hl]; simp
  simp only [notes_Log_Add.f]
  rw [if_neg (by omega), Option.bind_some, if_neg (by simp only [decide_eq_true_eq]; omega), if_pos (by omega), ← hl]
  by_cases hc : m.toNat < l1.length
  · obtain ⟨d1, d2⟩ := hd.1 hc
    have hcl : slices_Clone_api_Note_api_Note.f (((l1.take ((l1.length : Int)).toNat)).drop (1 : Int).toNat) = some (l1.drop 1) := by
      simp only [slices_Clone_api_Note_api_Note.f, Int.toNat_natCast, List.take_length]
      rw [show (1 : Int).toNat = 1 from rfl, if_pos (by simp; omega)]
    rw [if_pos (show m < (l1.length : Int) by omega), if_pos (by omega), if_pos (by omega), hcl, Option.bind_some, Option.bind_some]
    refine ⟨_, rfl, ⟨rfl, rfl, d1, fun o => ?_⟩⟩
    rw [d2, cnt_next]
    simp only [show (0 : Int).toNat = 0 from rfl]
    rw [mget_mput]
    by_cases e : (l1.getD 0 default).Op = o
    · rw [if_pos e, if_pos e, e, sg]
      have := cntn_le (H.take (H.length - m.toNat)) o
      have := cnt_nn (H.take (H.length - m.toNat)) o
      have hh : (H.take (H.length - m.toNat)).length ≤ 100000 := by simp; omega
      rw [w64 (by omega) (by omega)]
      rfl
    · rw [if_neg e, if_neg e, sg, Int.add_zero]
  · obtain ⟨d1, d2⟩ := hd.2 hc
    rw [if_neg (show ¬ m < (l1.length : Int) by omega), Option.bind_some]
    exact ⟨_, rfl, ⟨rfl, rfl, d1, fun o => by rw [d2]; exact sg o⟩⟩
theorem nadd_bad (x : notesLog) (h : List Int) (r : Int) (hr : r < 1 ∨ 9 < r) : notes_Log_Add.f x h r = some (xErrRange, x) := by
  simp only [notes_Log_Add.f]
  by_cases h0 : r < 1
  · rw [if_pos h0, Option.bind_some, if_pos rfl]
  · rw [if_neg h0, Option.bind_some, if_pos (decide_eq_true (by omega))]
theorem st_begin {most op : Int} {H : List Note} {x : notesLog} (s : St most op H x) (h0 : 0 ≤ op) (h1 : op < 9223372036854775807) : ∃ x', notes_Log_Begin.f x = some (op + 1, x') ∧ St most (op + 1) H x' := by
  obtain ⟨sm, so, sl_, sg⟩ := s
  simp only [notes_Log_Begin.f, so]
  rw [w64 (by omega) (by omega)]
  exact ⟨_, rfl, ⟨sm, rfl, sl_, sg⟩⟩
theorem st_len {most op : Int} {H : List Note} {x : notesLog} (s : St most op H x) : x.l.length = min H.length most.toNat := by
  rw [s.l]; simp; omega
theorem st_all {most op : Int} {H : List Note} {x : notesLog} (s : St most op H x) (h1 : most ≤ 65536) : notes_Log_All.f x = some x.l := by
  have := st_len s
  simp only [notes_Log_All.f, slices_Clone_api_Note_api_Note.f]
  rw [if_pos (by omega), Option.bind_some]
theorem ixf_eq (x : List Note) (o : Int) (hx : x.length ≤ 1000000) : ∃ r, slices_IndexFunc_api_Note_api_Note_at_notes_Log_Of_1.f x o = some r ∧ ((r = -1 ∧ ∀ j, j < x.length → (x.getD j default).Op = o) ∨ ∃ k : Nat, r = (k : Int) ∧ k < x.length ∧ (∀ j, j < k → (x.getD j default).Op = o) ∧ (x.getD k default).Op ≠ o) := by
  simp only [slices_IndexFunc_api_Note_api_Note_at_notes_Log_Of_1.f]
  refine nt_ends (step := slices_IndexFunc_api_Note_api_Note_at_notes_Log_Of_1.s0 x o) (fun i (s : Int) => s = (i : Int) ∧ ∀ j, j < i → (x.getD j default).Op = o) _ x.length ⟨rfl, fun j hj => by omega⟩ (fun i hi s hs => ?_) (fun s hs => ?_)
  · obtain ⟨rfl, hs⟩ := hs
    simp only [slices_IndexFunc_api_Note_api_Note_at_notes_Log_Of_1.s0, notes_Log_Of_1.f, Int.toNat_natCast]
    rw [if_pos (by omega), if_pos (by omega), Option.bind_some]
    by_cases c : (x.getD i default).Op = o
    · rw [if_neg (by simp only [decide_eq_true_eq]; exact fun h => h c), winc i (by omega)]
      refine .inl ⟨_, rfl, rfl, fun j hj => ?_⟩
      rcases Nat.lt_or_ge j i with h | h
      · exact hs j h
      · obtain rfl : j = i := by omega
        exact c
    · rw [if_pos (decide_eq_true c)]
      exact .inr ⟨_, rfl, .inr ⟨i, rfl, hi, hs, c⟩⟩
  · obtain ⟨rfl, hs⟩ := hs
    simp only [slices_IndexFunc_api_Note_api_Note_at_notes_Log_Of_1.s0]
    rw [if_neg (by omega)]
    exact ⟨_, rfl, .inl ⟨rfl, hs⟩⟩
theorem all_of {l : List Note} {o : Int} (h : ∀ j, j < l.length → (l.getD j default).Op = o) : ofO l o = l := by
  refine List.filter_eq_self.2 fun n hn => ?_
  obtain ⟨j, hj, rfl⟩ := List.getElem_of_mem hn
  have := h j hj
  rw [List.getD, List.getElem?_eq_getElem hj] at this
  exact decide_eq_true this
theorem set_take {α : Type} (l : List α) (i : Nat) (y : α) (h : i < l.length) : (l.set i y).take (i + 1) = l.take i ++ [y] := by
  rw [List.take_add_one, List.take_set_of_le (Nat.le_refl _)]
  simp [h]
theorem delf_eq (x : List Note) (o : Int) (hx : x.length ≤ 1000000) : slices_DeleteFunc_api_Note_api_Note_at_notes_Log_Of_1.f x o = some (ofO x o) := by
  simp only [slices_DeleteFunc_api_Note_api_Note_at_notes_Log_Of_1.f]
  obtain ⟨r, e, h⟩ := ixf_eq x o hx
  rw [e, Option.bind_some]
  rcases h with ⟨rfl, h⟩ | ⟨k, rfl, hk, h1, h2⟩
  · rw [if_pos rfl, all_of h]
  · rw [if_neg (by omega)]
    have ht : ofO (x.take k) o = x.take k := all_of fun j hj => by
      have hj' : j < k := by simp at hj; omega
      have := h1 j hj'
      rw [List.getD] at this ⊢
      rw [List.getElem?_take, if_pos hj']
      exact this
    obtain ⟨z, e2, hz⟩ := nt_ends (step := slices_DeleteFunc_api_Note_api_Note_at_notes_Log_Of_1.s0 o) (fun q (s : Int × Int × List Note) => s.2.1 = ((k + 1 + q : Nat) : Int) ∧ ∃ i : Nat, s.1 = (i : Int) ∧ i ≤ k + q ∧ s.2.2.length = x.length ∧ s.2.2.take i = ofO (x.take (k + 1 + q)) o ∧ ∀ j, k + 1 + q ≤ j → s.2.2.getD j default = x.getD j default) (fun z => ∃ i : Nat, z.1 = (i : Int) ∧ i ≤ z.2.length ∧ z.2.take i = ofO x o) (x.length - (k + 1)) (s := ((k : Int), IntKind.i64.wrap ((k : Int) + 1), x)) ⟨winc k (by omega), k, rfl, by omega, rfl, by
      rw [Nat.add_zero, ← take_next x k default hk, ofO_app, ht, ofO_one, if_neg h2, List.append_nil], fun j _ => rfl⟩ (fun q hq s hs => by
        obtain ⟨s1, s2, s3⟩ := s
        obtain ⟨e1, i, e2, hi, hl, htk, hge⟩ := hs
        simp only at e1 e2 hi hl htk hge
        subst e1 e2
        have hlt : k + 1 + q < x.length := by omega
        have hg := hge (k + 1 + q) (Nat.le_refl _)
        simp only [slices_DeleteFunc_api_Note_api_Note_at_notes_Log_Of_1.s0, notes_Log_Of_1.f, Int.toNat_natCast]
        rw [if_pos (by omega), if_pos (by omega), Option.bind_some]
        have hn := take_next x (k + 1 + q) default hlt
        rw [← hg] at hn
        by_cases c : (s3.getD (k + 1 + q) default).Op = o
        · rw [if_neg (by simp only [decide_eq_true_eq]; exact fun h => h c), if_pos (by omega), Option.bind_some, winc i (by omega), winc (k + 1 + q) (by omega)]
          refine .inl ⟨_, rfl, by simp only; omega, i + 1, rfl, by omega, by simp [hl], ?_, fun j hj => ?_⟩
          · rw [set_take _ _ _ (by omega), htk, show k + 1 + (q + 1) = k + 1 + q + 1 from by omega, ← hn, ofO_app, ofO_one, if_pos c]
          · rw [List.getD, List.getElem?_set_ne (by omega)]
            exact hge j (by omega)
        · rw [if_pos (decide_eq_true c), Option.bind_some, winc (k + 1 + q) (by omega)]
          refine .inl ⟨_, rfl, by simp only; omega, i, rfl, by omega, hl, ?_, fun j hj => hge j (by omega)⟩
          rw [show k + 1 + (q + 1) = k + 1 + q + 1 from by omega, ← hn, ofO_app, ofO_one, if_neg c, List.append_nil, htk]) (fun s hs => by
        obtain ⟨s1, s2, s3⟩ := s
        obtain ⟨e1, i, e2, hi, hl, htk, hge⟩ := hs
        simp only at e1 e2 hi hl htk hge
        subst e1 e2
        simp only [slices_DeleteFunc_api_Note_api_Note_at_notes_Log_Of_1.s0]
        rw [if_neg (by omega)]
        refine ⟨_, rfl, i, rfl, by simp only; omega, ?_⟩
        rw [htk, List.take_of_length_le (by omega)])
    obtain ⟨i, e3, h3, h4⟩ := hz
    obtain ⟨z1, z2⟩ := z
    simp only at e3 h3 h4
    subst e3
    rw [e2, Option.bind_some]
    simp only
    rw [if_pos (by omega), Int.toNat_natCast, h4]
theorem st_of {most op : Int} {H : List Note} {x : notesLog} (s : St most op H x) (h1 : most ≤ 65536) (o : Int) : notes_Log_Of.f x o = some (ofO x.l o) := by
  have := st_len s
  have e := st_all s h1
  simp only [notes_Log_Of.f]
  rw [e, Option.bind_some, delf_eq _ _ (by omega), Option.bind_some]
theorem st_lost {most op : Int} {H : List Note} {x : notesLog} (s : St most op H x) (o : Int) : notes_Log_Lost.f x o = some (cnt (H.take (H.length - most.toNat)) o) := by
  simp only [notes_Log_Lost.f]
  rw [s.g]
theorem st_op {most op : Int} {H : List Note} {x : notesLog} (s : St most op H x) : notes_Log_Op.f x = some op := by simp only [notes_Log_Op.f]; rw [s.o]
theorem first20 : sargassolaw20_first.f = some true := by
  obtain ⟨e, s⟩ := st_new 3 (by omega) (by omega)
  simp only [sargassolaw20_first.f]
  rw [e, Option.bind_some]
  simp only [oM]
  obtain ⟨x', e2, s2⟩ := st_begin s (by omega) (by omega)
  rw [if_pos trivial, st_all s (by omega), Option.bind_some]
  simp only [List.length_nil, Int.natCast_zero, if_true]
  rw [e2, Option.bind_some, Option.bind_some]
  rfl
end Go.Proofs.YtcpdnoochieecaaDoor.T
namespace Go.Proofs.YtcpdnoochieecaaDoor.T
open Go Go.Proofs Go.Proofs.YtcpdnoochieecaaDoor.K
set_option linter.unusedVariables false
set_option linter.unusedSimpArgs false
def ent (p i : Nat) : Note := ⟨((i / p + 1 : Nat) : Int), [IntKind.u8.wrap (i : Int), 0, 0, 0, 0, 0, 0, 0, 0, 0, 0, 0, 0, 0, 0, 0, 0, 0, 0, 0, 0, 0, 0, 0, 0, 0, 0, 0, 0, 0, 0, 0], ((i % 9 + 1 : Nat) : Int)⟩
def hist (p n : Nat) : List Note := (List.range n).map (ent p)
theorem hist_next (p n : Nat) : hist p (n + 1) = hist p n ++ [ent p n] := by simp [hist, List.range_succ]
theorem hist_len (p n : Nat) : (hist p n).length = n := by simp [hist]
theorem hist_get (p n i : Nat) (h : i < n) : (hist p n).getD i default = ent p i := by simp [hist, List.getD, h]
def opf (p : Nat) : Nat → Nat
  | 0 => 0
  | i + 1 => i / p + 1
def clt (l : List Note) (q : Int) : Int := ((l.filter fun n => decide (0 ≤ n.Op ∧ n.Op < q)).length : Int)
theorem clt_next (l : List Note) (q : Int) (hq : 0 ≤ q) : clt l (q + 1) = clt l q + cnt l q := by
  induction l with
  | nil => rfl
  | cons n l ih =>
    simp only [clt, cnt, ofO] at ih ⊢
    by_cases c : n.Op = q
    · rw [List.filter_cons_of_pos (by simp; omega), List.filter_cons_of_neg (by simp; omega), List.filter_cons_of_pos (by simp [c])]
      simp only [List.length_cons]
      omega
    · by_cases c2 : 0 ≤ n.Op ∧ n.Op < q
      · rw [List.filter_cons_of_pos (by simp; omega), List.filter_cons_of_pos (by simp; omega), List.filter_cons_of_neg (by simp [c])]
        simp only [List.length_cons]
        omega
      · rw [List.filter_cons_of_neg (by simp; omega), List.filter_cons_of_neg (by simp; omega), List.filter_cons_of_neg (by simp [c])]
        exact ih
theorem clt_all (l : List Note) (q : Int) (h : ∀ n ∈ l, 0 ≤ n.Op ∧ n.Op < q) : clt l q = (l.length : Int) := by
  simp only [clt]
  rw [List.filter_eq_self.2 fun n hn => decide_eq_true (h n hn)]
theorem clt_le (l : List Note) (q : Int) : clt l q ≤ (l.length : Int) := by
  have := List.length_filter_le (fun n : Note => decide (0 ≤ n.Op ∧ n.Op < q)) l
  simp only [clt]
  omega
theorem sargassolaw20_NotesCap.m (μ : Store) (x0 : Int) (h0 : InR .i64 x0) (x1 : Int) (h1 : InR .i64 x1) (x2 : Int) (h2 : InR .i64 x2) : sargassolaw20_NotesCap.f x0 x1 x2 = some true := by
  obtain ⟨y0, e0, p0, q0⟩ := number_eq h0 (n := 20) (by omega) (by omega)
  obtain ⟨y1, e1, p1, q1⟩ := number_eq h1 (n := 100) (by omega) (by omega)
  obtain ⟨y2, e2, p2, q2⟩ := number_eq h2 (n := 5) (by omega) (by omega)
  obtain ⟨n, rfl⟩ : ∃ n : Nat, y1 = n := ⟨y1.toNat, by omega⟩
  obtain ⟨p, hp⟩ : ∃ p : Nat, y2 + 1 = p := ⟨(y2 + 1).toNat, by omega⟩
  obtain ⟨m, hm⟩ : ∃ m : Nat, y0 + 1 = m := ⟨(y0 + 1).toNat, by omega⟩
  have w0 : IntKind.i64.wrap (y0 + 1) = (m : Int) := by rw [w64 (by omega) (by omega)]; exact hm
  have w2 : IntKind.i64.wrap (y2 + 1) = (p : Int) := by rw [w64 (by omega) (by omega)]; exact hp
  obtain ⟨en, sn⟩ := st_new (m : Int) (by omega) (by omega)
  simp only [sargassolaw20_NotesCap.f]
  rw [first20, Option.bind_some, if_pos rfl, e0, Option.bind_some, e1, Option.bind_some, e2, Option.bind_some, w0, en, Option.bind_some]
  simp only [oM]
  rw [Option.bind_some, if_neg (by simp)]
  obtain ⟨r, hr, rfl⟩ := nt_ends (step := sargassolaw20_NotesCap.s1 true y0 (n : Int) y2) (fun i s => s.1 = (i : Int) ∧ St (m : Int) (opf p i : Int) (hist p i) ⟨s.2.1, s.2.2.1, s.2.2.2.1, s.2.2.2.2⟩) (fun r => r = true) n (s := (0, (m : Int), 0, [], [])) ⟨rfl, sn⟩ (fun i hi s ih => by
    obtain ⟨s1, s2, s3, s4, s5⟩ := s
    obtain ⟨ei, st⟩ := ih
    simp only at ei st
    subst ei
    left
    have hb : ∃ z, (if (p : Int) ≠ 0 then (if (Int.tmod (i : Int) (p : Int)) = 0 then ((notes_Log_Begin.f (⟨s2, s3, s4, s5⟩ : notesLog)).bind fun r6 => some (r6.2.most, r6.2.op, r6.2.l, r6.2.lost)) else some (s2, s3, s4, s5)) else none) = some z ∧ St (m : Int) ((i / p + 1 : Nat) : Int) (hist p i) ⟨z.1, z.2.1, z.2.2.1, z.2.2.2⟩ := by
      rw [if_pos (by omega), Int.tmod_eq_emod_of_nonneg (by omega)]
      by_cases c : i % p = 0
      · have ho : opf p i = i / p := by
          cases i with
          | zero => simp [opf]
          | succ i =>
            simp only [opf]
            have := Nat.succ_div (a := i) (b := p)
            rw [if_pos (Nat.dvd_of_mod_eq_zero c)] at this
            exact this.symm
        rw [ho] at st
        have hle : i / p ≤ i := Nat.div_le_self i p
        obtain ⟨x', eb, sb⟩ := st_begin st (by omega) (by omega)
        rw [if_pos (by exact_mod_cast c), eb, Option.bind_some]
        exact ⟨_, rfl, by rw [show ((i / p + 1 : Nat) : Int) = ((i / p : Nat) : Int) + 1 by omega]; exact sb⟩
      · have ho : opf p i = i / p + 1 := by
          cases i with
          | zero => exact absurd (Nat.zero_mod p) c
          | succ i =>
            simp only [opf]
            have := Nat.succ_div (a := i) (b := p)
            rw [if_neg (fun h => c (Nat.mod_eq_zero_of_dvd h))] at this
            omega
        rw [ho] at st
        rw [if_neg (by exact_mod_cast c)]
        exact ⟨_, rfl, st⟩
    obtain ⟨⟨z1, z2, z3, z4⟩, eb, sb⟩ := hb
    simp only at sb
    have hr9 : IntKind.i64.wrap (Int.tmod (i : Int) 9 + 1) = ((i % 9 + 1 : Nat) : Int) := by
      rw [Int.tmod_eq_emod_of_nonneg (by omega), w64 (by omega) (by omega)]; omega
    obtain ⟨x', ea, sa⟩ := nadd_eq sb (by omega) (by omega) (by rw [hist_len]; omega) [IntKind.u8.wrap (i : Int), 0, 0, 0, 0, 0, 0, 0, 0, 0, 0, 0, 0, 0, 0, 0, 0, 0, 0, 0, 0, 0, 0, 0, 0, 0, 0, 0, 0, 0, 0, 0] ((i % 9 + 1 : Nat) : Int) (by omega) (by omega)
    have sa : St (m : Int) ((i / p + 1 : Nat) : Int) (hist p (i + 1)) x' := by rw [hist_next]; exact sa
    have hl := st_len sa
    have eal := st_all sa (by omega)
    simp only [sargassolaw20_NotesCap.s1]
    rw [if_pos (by omega), w2, eb, Option.bind_some]
    simp only
    rw [hr9, ea, Option.bind_some]
    simp only
    rw [if_neg (fun h => h rfl), show (⟨x'.most, x'.op, x'.l, x'.lost⟩ : notesLog) = x' from rfl, eal, Option.bind_some, w0, Option.bind_some]
    simp only
    rw [if_neg (by simp only [decide_eq_true_eq]; omega), winc i (by omega)]
    exact ⟨_, rfl, rfl, sa⟩) (fun s ih => by
    obtain ⟨s1, s2, s3, s4, s5⟩ := s
    obtain ⟨ei, st⟩ := ih
    simp only at ei st
    subst ei
    have hl := st_len st
    rw [hist_len] at hl
    have eal := st_all st (by omega)
    have hs4 := st.l
    rw [hist_len] at hs4
    simp only at hl hs4 eal
    simp only [sargassolaw20_NotesCap.s1]
    rw [if_neg (by omega), eal, Option.bind_some, w0, if_neg (by simp only [iMin]; split <;> omega)]
    have hk : ∀ j, j < s4.length → s4.getD j default = ent p (n - s4.length + j) := fun j hj => by
      have e : n - s4.length + j = n - m + j := by omega
      rw [e, ← hist_get p n (n - m + j) (by omega), hs4]
      simp only [List.getD, List.getElem?_drop, Int.toNat_natCast]
    have ople : ∀ x ∈ hist p n, 0 ≤ x.Op ∧ x.Op < (opf p n : Int) + 1 := fun x hx => by
      simp only [hist, List.mem_map, List.mem_range] at hx
      obtain ⟨i, hi, rfl⟩ := hx
      obtain ⟨q, rfl⟩ : ∃ q, n = q + 1 := ⟨n - 1, by omega⟩
      have : i / p ≤ q / p := Nat.div_le_div_right (by omega)
      simp only [ent, opf]
      generalize i / p = u at *
      generalize q / p = v at *
      omega
    have c4 : clt s4 ((opf p n : Int) + 1) = (s4.length : Int) := clt_all _ _ fun x hx => ople x (List.mem_of_mem_drop (hs4 ▸ hx))
    have cg : clt ((hist p n).take (n - m)) ((opf p n : Int) + 1) = ((n - m : Nat) : Int) := by
      rw [clt_all _ _ fun x hx => ople x (List.mem_of_mem_take hx)]
      simp [hist_len]
    have hop : opf p n ≤ 100 := by
      cases n with
      | zero => simp [opf]
      | succ q => simp only [opf]; have := Nat.div_le_self q p; omega
    have e3 : loopO (sargassolaw20_NotesCap.s3 s2 s3 s4 s5) (0, 0, 0) = some ((s4.length : Int), ((n - m : Nat) : Int)) := by
      refine loop_run (step := sargassolaw20_NotesCap.s3 s2 s3 s4 s5) (fun o => (clt s4 (o : Int), clt ((hist p n).take (n - m)) (o : Int), (o : Int))) (opf p n + 1) ?_ (fun o ho => ?_) ?_
      · have z : ∀ l, clt l ((0 : Nat) : Int) = 0 := fun l => by
          simp only [clt]
          rw [List.filter_eq_nil_iff.2 fun x _ => by simp <;> omega]
          try rfl
        rw [z, z]
        rfl
      · have b1 := clt_le s4 (o : Int)
        have b2 := clt_le ((hist p n).take (n - m)) (o : Int)
        have b3 := cntn_le s4 (o : Int)
        have b4 := cntn_le ((hist p n).take (n - m)) (o : Int)
        have b5 := cnt_nn s4 (o : Int)
        have b6 := cnt_nn ((hist p n).take (n - m)) (o : Int)
        have b7 : 0 ≤ clt s4 (o : Int) := by simp [clt]
        have b8 : 0 ≤ clt ((hist p n).take (n - m)) (o : Int) := by simp [clt]
        have b9 : ((hist p n).take (n - m)).length ≤ 100 := by simp [hist_len]; omega
        have elo := st_lost st (o : Int)
        rw [hist_len] at elo
        simp only [sargassolaw20_NotesCap.s3]
        rw [st_op st, Option.bind_some, if_pos (by omega), st_of st (by omega), Option.bind_some, elo, Option.bind_some]
        simp only [Int.toNat_natCast]
        rw [show ((ofO s4 (o : Int)).length : Int) = cnt s4 (o : Int) from rfl, w64 (x := clt s4 (o : Int) + cnt s4 (o : Int)) (by omega) (by omega), w64 (x := clt ((hist p n).take (n - m)) (o : Int) + cnt ((hist p n).take (n - m)) (o : Int)) (by omega) (by omega), winc o (by omega), ← clt_next _ _ (by omega), ← clt_next _ _ (by omega)]
        rfl
      · simp only [sargassolaw20_NotesCap.s3]
        rw [st_op st, Option.bind_some, if_neg (by omega), show ((opf p n + 1 : Nat) : Int) = (opf p n : Int) + 1 by omega, c4, cg]
    obtain ⟨r, er, hr⟩ := nt_ends (step := sargassolaw20_NotesCap.s2 true (n : Int) y2 s2 s3 s4 s5 s4) (fun i s => s = (i : Int)) (fun r => r = .inr true) s4.length (s := 0) rfl (fun j hj s hs => by
      subst hs
      left
      have wk : IntKind.i64.wrap (IntKind.i64.wrap ((n : Int) - (s4.length : Int)) + (j : Int)) = ((n - s4.length + j : Nat) : Int) := by
        rw [w64 (x := (n : Int) - (s4.length : Int)) (by omega) (by omega), w64 (by omega) (by omega)]; omega
      have hq := hk j hj
      have hkb : n - s4.length + j < 100 := by omega
      generalize n - s4.length + j = k at *
      have hkd : k / p ≤ k := Nat.div_le_self k p
      have hcd : (k : Int) / (p : Int) = ((k / p : Nat) : Int) := by simp
      have f1 : ((s4.getD j default).Tx).getD (0 : Int).toNat 0 = IntKind.u8.wrap (k : Int) := by rw [hq]; rfl
      have f2 : (s4.getD j default).Reason = IntKind.i64.wrap (Int.tmod (k : Int) 9 + 1) := by
        rw [hq, Int.tmod_eq_emod_of_nonneg (by omega), w64 (by omega) (by omega)]
        simp only [ent]; omega
      have f3 : (s4.getD j default).Op = IntKind.i64.wrap (IntKind.i64.wrap (Int.tdiv (k : Int) (p : Int)) + 1) := by
        rw [hq, Int.tdiv_eq_ediv_of_nonneg (by omega), hcd]
        simp only [ent]
        clear hq f1 f2 hcd
        generalize k / p = u at *
        rw [w64 (x := (u : Int)) (by omega) (by omega), w64 (by omega) (by omega)]
        omega
      simp only [sargassolaw20_NotesCap.s2, Int.toNat_natCast]
      rw [if_pos (by omega), if_pos (by omega), wk, if_neg (fun h => h f1), w2, if_neg (fun h => h f2), if_pos (by omega), decide_eq_false (fun h => h f3), Option.bind_some, if_neg (by decide), winc j (by omega)]
      exact ⟨_, rfl, rfl⟩) (fun s hs => by
      subst hs
      simp only [sargassolaw20_NotesCap.s2]
      rw [if_neg (by omega), e3, Option.bind_some]
      simp only
      rw [if_pos trivial, if_pos trivial, if_pos (by rw [w64 (by omega) (by omega)]; omega), nadd_bad _ _ _ (by omega), Option.bind_some]
      simp only
      rw [is_range, decide_eq_true rfl, Option.bind_some, if_pos rfl, nadd_bad _ _ _ (by omega), Option.bind_some]
      simp only
      rw [is_range, decide_eq_true rfl, Option.bind_some, Option.bind_some]
      exact ⟨_, rfl, rfl⟩)
    rw [er, hr]
    exact ⟨_, rfl, rfl⟩)
  exact hr
end Go.Proofs.YtcpdnoochieecaaDoor.T
namespace Go.Proofs.YtcpdnoochieecaaDoor.K
open Go Go.Proofs Go.ChangeShapes Go.WideShapes Go.RowKit
def mem (w : World) : Store := fun k => w.heap[k]?
theorem agr_mem (w : World) : Agr (mem w) w := fun _ _ h => h
theorem mem_cell {w : World} {g i : Nat} {v : Value} (h : w.cell? ⟨g, i, none⟩ = some v) : (mem w).cell g i = some v := by
  unfold World.cell? at h
  unfold Store.cell mem
  cases hm : w.heap[g]? with
  | none => simp [hm] at h
  | some o => cases o <;> simp_all
theorem wf_in {k : IntKind} {n : Int} (h : (Lit.int k n).wf = true) : InR k n := by
  cases k <;> simp [Lit.wf, IntKind.min, IntKind.max, IntKind.signed, IntKind.bits] at h <;> simp [InR] <;> omega
section
variable {H : Type} {enc : TypeId × Value → H} {P : Program} {w : World} {base : Nat} {spare : Nat → Bool} {held : Bool} {t e : TypeId}
theorem again {W W' : World} {v : Value} {d : DataW H} {ps : List MemPlace} (hl : laidOutB P = true) (hr : P.readableRec t = true) (hrow : t < P.types.size) (h : DataW.Trod enc P W 0 (fun _ => true) true t v d ps) (hb : Below W.heap.size W W') :
    DataW.Trod enc P W' 0 (fun b => decide (b < W.heap.size)) true t v d ps :=
  Below.trod hl hr hrow h hb (fun p hp => let ⟨n, hn⟩ := h; DataW.trod_lt n _ _ _ hn p hp)
end
end Go.Proofs.YtcpdnoochieecaaDoor.K
namespace Go.Proofs.YtcpdnoochieecaaDoor.K
open Go Go.Proofs
set_option linter.unusedVariables false
theorem laid_each {P : Program} {W : World} : ∀ {l : List (String × DataW Unit)} {ps : List MemPlace}, DataW.LaidVars P W l ps → ∀ {n : String} {d : DataW Unit}, (n, d) ∈ l →
    ∃ g t cs fuel p, P.globalNamed n = some g ∧ (P.globals[g]?).map (·.type) = some t ∧ W.var? P n = some cs ∧ DataW.trod (fun _ => ()) P W 0 (fun _ => true) false fuel t cs.toList = some (d, p) ∧ ∀ x ∈ MemPlace.row ⟨g, 0, none⟩ cs.size ++ p, x ∈ ps
  | [], ps, h, n, d, hm => by cases hm
  | (m, e) :: r, ps, h, n, d, hm => by
    obtain ⟨g, t, cs, fuel, p, q, hg, ht, hv, hd, hr, rfl⟩ := h
    rcases List.mem_cons.1 hm with e1 | hm
    · cases e1
      exact ⟨g, t, cs, fuel, p, hg, ht, hv, hd, fun x hx => List.mem_append_left _ hx⟩
    · obtain ⟨g', t', cs', fuel', p', a1, a2, a3, a4, a5⟩ := laid_each hr hm
      exact ⟨g', t', cs', fuel', p', a1, a2, a3, a4, fun x hx => List.mem_append_right _ (a5 x hx)⟩
theorem sent_of_laid {P : Program} {W : World} {laid : List (String × DataW Unit)} {code : ByteArray → Nat} {n : String} {text : List UInt8} {g : Nat} {ti tp ta te ts : TypeId} {ms : Array (String × TypeId)} {f : Field}
    (h : laidMet P laid W) (hm : (n, .iface "*errors.errorString" (.ptr (.agg [.lit (.string text)]))) ∈ laid) (hg : P.globalNamed n = some g) (ht : (P.globals[g]?).map (·.type) = some ti)
    (hi : P.underlying ti = some (.interface ms)) (hrow : ∀ u, P.typeName? 3 u = some "*errors.errorString" → u = tp) (hp : P.underlying tp = some (.pointer te)) (he : P.underlying te = some (.struct #[f])) (hft : f.type = ts) (hfo : f.offset = 0) (hs : P.underlying ts = some .string) (hc : P.cellsOf te = 1) (hcs : P.cellsOf ts = 1)
    (hcode : ∀ s : ByteArray, s.data.toList = text → code s = g + 1) : ∃ v, ErV tp ta code (mem W) (.b (g + 1)) v := by
  obtain ⟨ps, hl, hnd, hrows⟩ := h
  obtain ⟨g', t', cs, fuel, p, a1, a2, a3, a4, a5⟩ := laid_each hl hm
  obtain rfl := Option.some.inj (hg.symm.trans a1)
  obtain rfl := Option.some.inj (ht.symm.trans a2)
  obtain ⟨l⟩ := cs
  have ok : ∀ u v, l = [.iface u v] → Value.okWide P W .any 0 u v := fun u v e => by
    subst e
    exact (hrows g 0 (a5 _ (by simp [MemPlace.row]))).2 u v (by simpa using World.var?_cell hg a3 0)
  obtain ⟨a, s, rfl, hcell, hst, hz, rfl⟩ := errorString_of_trod hi hrow hp he hft hfo hs hc hcs a4 ok
  obtain ⟨c, t, hb⟩ := (hrows a.block a.off (a5 _ (by simp [MemPlace.row]))).1
  refine ⟨.iface tp (.pointer (some a)), .inr ⟨by omega, mem_cell (by simpa using World.var?_cell hg a3 0), a, s, c, t, rfl, hb, hcode s hst, fun w hw => ?_⟩⟩
  have e : w.heap[a.block]? = W.heap[a.block]? := (hw _ _ hb).trans hb.symm
  unfold World.cell? at hcell ⊢
  rw [e]
  exact hcell
end Go.Proofs.YtcpdnoochieecaaDoor.K
namespace Go.Proofs.YtcpdnoochieecaaDoor.T
open Go Go.Proofs Go.Proofs.YtcpdnoochieecaaDoor.K
set_option linter.unusedVariables false
set_option linter.unusedSimpArgs false
set_option maxRecDepth 100000
theorem own : ownKnob Tryd.prog.godebug = none := by kernel_rfl
noncomputable def low : Nat := (World.holding Tryd.prog default ⟨#[], #[], []⟩).heap.size
abbrev es0 : ByteArray := { data := #[116, 111, 111, 32, 109, 97, 110, 121, 44, 32, 111, 114, 32, 116, 111, 111, 32, 102, 101, 119] }
abbrev es1 : ByteArray := { data := #[116, 111, 111, 32, 108, 111, 110, 103] }
abbrev es2 : ByteArray := { data := #[111, 110, 101, 32, 116, 104, 105, 110, 103, 32, 116, 119, 105, 99, 101] }
abbrev es3 : ByteArray := { data := #[97, 32, 114, 111, 111, 116, 32, 116, 104, 97, 116, 32, 100, 111, 101, 115, 32, 110, 111, 116, 32, 102, 105, 116] }
abbrev es4 : ByteArray := { data := #[107, 110, 111, 119, 110, 32, 97, 108, 114, 101, 97, 100, 121] }
abbrev es5 : ByteArray := { data := #[110, 111, 32, 115, 117, 99, 104, 32, 112, 97, 114, 101, 110, 116] }
abbrev es6 : ByteArray := { data := #[116, 104, 101, 114, 101, 32, 105, 115, 32, 110, 111, 32, 114, 111, 111, 109] }
abbrev es7 : ByteArray := { data := #[97, 32, 110, 117, 109, 98, 101, 114, 32, 111, 117, 116, 32, 111, 102, 32, 105, 116, 115, 32, 114, 97, 110, 103, 101] }
abbrev es8 : ByteArray := { data := #[110, 111, 32, 102, 105, 114, 115, 116, 32, 116, 114, 97, 110, 115, 97, 99, 116, 105, 111, 110, 32, 119, 104, 101, 114, 101, 32, 116, 104, 101, 114, 101, 32, 104, 97, 115, 32, 116, 111, 32, 98, 101, 32, 111, 110, 101, 44, 32, 111, 114, 32, 111, 110, 101, 32, 119, 104, 101, 114, 101, 32, 116, 104, 101, 114, 101, 32, 109, 97, 121, 32, 98, 101, 32, 110, 111, 110, 101] }
abbrev es9 : ByteArray := { data := #[97, 32, 107, 101, 121, 32, 116, 104, 97, 116, 32, 100, 111, 101, 115, 32, 110, 111, 116, 32, 102, 105, 116] }
abbrev es10 : ByteArray := { data := #[97, 110, 32, 97, 109, 111, 117, 110, 116, 32, 116, 104, 97, 116, 32, 99, 97, 110, 39, 116, 32, 98, 101] }
abbrev es11 : ByteArray := { data := #[105, 116, 32, 101, 110, 100, 115, 32, 116, 111, 111, 32, 101, 97, 114, 108, 121] }
abbrev es12 : ByteArray := { data := #[110, 111, 116, 32, 97, 115, 32, 105, 116, 32, 104, 97, 115, 32, 116, 111, 32, 98, 101] }
abbrev es13 : ByteArray := { data := #[98, 101, 104, 105, 110, 100, 32, 119, 104, 97, 116, 32, 105, 115, 32, 110, 111, 116, 32, 118, 97, 108, 105, 100] }
abbrev es14 : ByteArray := { data := #[97, 32, 116, 105, 109, 101, 32, 116, 104, 97, 116, 32, 105, 115, 32, 116, 111, 111, 32, 101, 97, 114, 108, 121] }
abbrev es15 : ByteArray := { data := #[97, 32, 99, 111, 105, 110, 32, 116, 104, 97, 116, 32, 105, 115, 32, 110, 111, 116, 32, 116, 104, 101, 114, 101] }
abbrev es16 : ByteArray := { data := #[97, 32, 99, 111, 105, 110, 32, 116, 104, 97, 116, 32, 105, 115, 32, 116, 111, 111, 32, 121, 111, 117, 110, 103] }
abbrev es17 : ByteArray := { data := #[116, 111, 111, 32, 101, 97, 114, 108, 121, 32, 116, 111, 32, 98, 101, 32, 116, 97, 107, 101, 110] }
abbrev es18 : ByteArray := { data := #[108, 101, 115, 115, 32, 99, 111, 109, 101, 115, 32, 105, 110, 32, 116, 104, 97, 110, 32, 103, 111, 101, 115, 32, 111, 117, 116] }
abbrev es19 : ByteArray := { data := #[109, 111, 114, 101, 32, 116, 104, 97, 110, 32, 116, 104, 101, 32, 114, 101, 119, 97, 114, 100] }
abbrev es20 : ByteArray := { data := #[97, 32, 99, 111, 105, 110, 32, 116, 104, 97, 116, 32, 105, 115, 32, 115, 112, 101, 110, 116, 32, 105, 110, 32, 116, 104, 101, 32, 112, 111, 111, 108] }
abbrev es21 : ByteArray := { data := #[116, 111, 111, 32, 109, 97, 110, 121, 32, 116, 104, 97, 116, 32, 104, 97, 110, 103, 32, 116, 111, 103, 101, 116, 104, 101, 114] }
abbrev es22 : ByteArray := { data := #[116, 104, 101, 114, 101, 32, 105, 115, 32, 110, 111, 110, 101] }
abbrev es23 : ByteArray := { data := #[110, 111, 32, 115, 117, 99, 104, 32, 119, 111, 114, 100] }
abbrev es24 : ByteArray := { data := #[110, 111, 116, 32, 97, 32, 110, 117, 109, 98, 101, 114] }
def setC (v : Value) : Obj → Obj
  | .cells _ t frozen => .cells #[v] t frozen
  | x => x
noncomputable def laidWorld (os : Os) : World :=
  let w0 := World.holding Tryd.prog os ⟨#[.cells #[.string es0] 227, .cells #[.string es1] 227, .cells #[.string es2] 227, .cells #[.string es3] 227, .cells #[.string es4] 227, .cells #[.string es5] 227, .cells #[.string es6] 227, .cells #[.string es7] 227, .cells #[.string es8] 227, .cells #[.string es9] 227, .cells #[.string es10] 227, .cells #[.string es11] 227, .cells #[.string es12] 227, .cells #[.string es13] 227, .cells #[.string es14] 227, .cells #[.string es15] 227, .cells #[.string es16] 227, .cells #[.string es17] 227, .cells #[.string es18] 227, .cells #[.string es19] 227, .cells #[.string es20] 227, .cells #[.string es21] 227, .cells #[.string es22] 227, .cells #[.string es23] 227, .cells #[.string es24] 227], #[], []⟩
  { w0 with heap := (((((((((((((((((((((((((w0.heap.modify 0 (setC (.iface 210 (.pointer (some ⟨low + 0, 0, none⟩))))).modify 1 (setC (.iface 210 (.pointer (some ⟨low + 1, 0, none⟩))))).modify 2 (setC (.iface 210 (.pointer (some ⟨low + 2, 0, none⟩))))).modify 3 (setC (.iface 210 (.pointer (some ⟨low + 3, 0, none⟩))))).modify 4 (setC (.iface 210 (.pointer (some ⟨low + 4, 0, none⟩))))).modify 5 (setC (.iface 210 (.pointer (some ⟨low + 5, 0, none⟩))))).modify 6 (setC (.iface 210 (.pointer (some ⟨low + 6, 0, none⟩))))).modify 7 (setC (.iface 210 (.pointer (some ⟨low + 7, 0, none⟩))))).modify 8 (setC (.iface 210 (.pointer (some ⟨low + 8, 0, none⟩))))).modify 9 (setC (.iface 210 (.pointer (some ⟨low + 9, 0, none⟩))))).modify 10 (setC (.iface 210 (.pointer (some ⟨low + 10, 0, none⟩))))).modify 11 (setC (.iface 210 (.pointer (some ⟨low + 11, 0, none⟩))))).modify 12 (setC (.iface 210 (.pointer (some ⟨low + 12, 0, none⟩))))).modify 13 (setC (.iface 210 (.pointer (some ⟨low + 13, 0, none⟩))))).modify 14 (setC (.iface 210 (.pointer (some ⟨low + 14, 0, none⟩))))).modify 15 (setC (.iface 210 (.pointer (some ⟨low + 15, 0, none⟩))))).modify 16 (setC (.iface 210 (.pointer (some ⟨low + 16, 0, none⟩))))).modify 17 (setC (.iface 210 (.pointer (some ⟨low + 17, 0, none⟩))))).modify 18 (setC (.iface 210 (.pointer (some ⟨low + 18, 0, none⟩))))).modify 19 (setC (.iface 210 (.pointer (some ⟨low + 19, 0, none⟩))))).modify 20 (setC (.iface 210 (.pointer (some ⟨low + 20, 0, none⟩))))).modify 21 (setC (.iface 210 (.pointer (some ⟨low + 21, 0, none⟩))))).modify 22 (setC (.iface 210 (.pointer (some ⟨low + 22, 0, none⟩))))).modify 23 (setC (.iface 210 (.pointer (some ⟨low + 23, 0, none⟩))))).modify 24 (setC (.iface 210 (.pointer (some ⟨low + 24, 0, none⟩))))) }
theorem starE : "*" ++ "errors.errorString" = "*errors.errorString" := by decide
theorem rowE (u : TypeId) (h : Tryd.prog.typeName? 3 u = some "*errors.errorString") : u = 210 :=
  typeName_ptr_named (nm := "errors.errorString") (by rw [starE]; kernel_rfl) (by kernel_rfl) (by decide) u (by rw [starE]; exact h)
theorem ceE : Tryd.prog.cellsOf 227 = 1 := by kernel_rfl
theorem csE : Tryd.prog.cellsOf 9 = 1 := by kernel_rfl
theorem sent0 {W : World} {l : List (String × DataW Unit)} (h : laidMet Tryd.prog l W) (hm : ("sargasso/api.ErrMany", .iface "*errors.errorString" (.ptr (.agg [.lit (.string [116, 111, 111, 32, 109, 97, 110, 121, 44, 32, 111, 114, 32, 116, 111, 111, 32, 102, 101, 119])]))) ∈ l) : ∃ v, ErS (mem W) v (Er.b 1) :=
  sent_of_laid h hm (by kernel_rfl) (by kernel_rfl) Tryd.underlying47 rowE Tryd.underlying210 Tryd.underlying227 rfl rfl Tryd.underlying9 ceE csE (fun s hs => by unfold errCode; rw [hs]; kernel_rfl)
theorem sent1 {W : World} {l : List (String × DataW Unit)} (h : laidMet Tryd.prog l W) (hm : ("sargasso/api.ErrLong", .iface "*errors.errorString" (.ptr (.agg [.lit (.string [116, 111, 111, 32, 108, 111, 110, 103])]))) ∈ l) : ∃ v, ErS (mem W) v (Er.b 2) :=
  sent_of_laid h hm (by kernel_rfl) (by kernel_rfl) Tryd.underlying47 rowE Tryd.underlying210 Tryd.underlying227 rfl rfl Tryd.underlying9 ceE csE (fun s hs => by unfold errCode; rw [hs]; kernel_rfl)
theorem sent2 {W : World} {l : List (String × DataW Unit)} (h : laidMet Tryd.prog l W) (hm : ("sargasso/api.ErrTwice", .iface "*errors.errorString" (.ptr (.agg [.lit (.string [111, 110, 101, 32, 116, 104, 105, 110, 103, 32, 116, 119, 105, 99, 101])]))) ∈ l) : ∃ v, ErS (mem W) v (Er.b 3) :=
  sent_of_laid h hm (by kernel_rfl) (by kernel_rfl) Tryd.underlying47 rowE Tryd.underlying210 Tryd.underlying227 rfl rfl Tryd.underlying9 ceE csE (fun s hs => by unfold errCode; rw [hs]; kernel_rfl)
theorem sent3 {W : World} {l : List (String × DataW Unit)} (h : laidMet Tryd.prog l W) (hm : ("sargasso/api.ErrRoot", .iface "*errors.errorString" (.ptr (.agg [.lit (.string [97, 32, 114, 111, 111, 116, 32, 116, 104, 97, 116, 32, 100, 111, 101, 115, 32, 110, 111, 116, 32, 102, 105, 116])]))) ∈ l) : ∃ v, ErS (mem W) v (Er.b 4) :=
  sent_of_laid h hm (by kernel_rfl) (by kernel_rfl) Tryd.underlying47 rowE Tryd.underlying210 Tryd.underlying227 rfl rfl Tryd.underlying9 ceE csE (fun s hs => by unfold errCode; rw [hs]; kernel_rfl)
theorem sent4 {W : World} {l : List (String × DataW Unit)} (h : laidMet Tryd.prog l W) (hm : ("sargasso/api.ErrKnown", .iface "*errors.errorString" (.ptr (.agg [.lit (.string [107, 110, 111, 119, 110, 32, 97, 108, 114, 101, 97, 100, 121])]))) ∈ l) : ∃ v, ErS (mem W) v (Er.b 5) :=
  sent_of_laid h hm (by kernel_rfl) (by kernel_rfl) Tryd.underlying47 rowE Tryd.underlying210 Tryd.underlying227 rfl rfl Tryd.underlying9 ceE csE (fun s hs => by unfold errCode; rw [hs]; kernel_rfl)
theorem sent5 {W : World} {l : List (String × DataW Unit)} (h : laidMet Tryd.prog l W) (hm : ("sargasso/api.ErrParent", .iface "*errors.errorString" (.ptr (.agg [.lit (.string [110, 111, 32, 115, 117, 99, 104, 32, 112, 97, 114, 101, 110, 116])]))) ∈ l) : ∃ v, ErS (mem W) v (Er.b 6) :=
  sent_of_laid h hm (by kernel_rfl) (by kernel_rfl) Tryd.underlying47 rowE Tryd.underlying210 Tryd.underlying227 rfl rfl Tryd.underlying9 ceE csE (fun s hs => by unfold errCode; rw [hs]; kernel_rfl)
theorem sent6 {W : World} {l : List (String × DataW Unit)} (h : laidMet Tryd.prog l W) (hm : ("sargasso/api.ErrFull", .iface "*errors.errorString" (.ptr (.agg [.lit (.string [116, 104, 101, 114, 101, 32, 105, 115, 32, 110, 111, 32, 114, 111, 111, 109])]))) ∈ l) : ∃ v, ErS (mem W) v (Er.b 7) :=
  sent_of_laid h hm (by kernel_rfl) (by kernel_rfl) Tryd.underlying47 rowE Tryd.underlying210 Tryd.underlying227 rfl rfl Tryd.underlying9 ceE csE (fun s hs => by unfold errCode; rw [hs]; kernel_rfl)
theorem sent7 {W : World} {l : List (String × DataW Unit)} (h : laidMet Tryd.prog l W) (hm : ("sargasso/api.ErrRange", .iface "*errors.errorString" (.ptr (.agg [.lit (.string [97, 32, 110, 117, 109, 98, 101, 114, 32, 111, 117, 116, 32, 111, 102, 32, 105, 116, 115, 32, 114, 97, 110, 103, 101])]))) ∈ l) : ∃ v, ErS (mem W) v (Er.b 8) :=
  sent_of_laid h hm (by kernel_rfl) (by kernel_rfl) Tryd.underlying47 rowE Tryd.underlying210 Tryd.underlying227 rfl rfl Tryd.underlying9 ceE csE (fun s hs => by unfold errCode; rw [hs]; kernel_rfl)
theorem sent8 {W : World} {l : List (String × DataW Unit)} (h : laidMet Tryd.prog l W) (hm : ("sargasso/api.ErrBase", .iface "*errors.errorString" (.ptr (.agg [.lit (.string [110, 111, 32, 102, 105, 114, 115, 116, 32, 116, 114, 97, 110, 115, 97, 99, 116, 105, 111, 110, 32, 119, 104, 101, 114, 101, 32, 116, 104, 101, 114, 101, 32, 104, 97, 115, 32, 116, 111, 32, 98, 101, 32, 111, 110, 101, 44, 32, 111, 114, 32, 111, 110, 101, 32, 119, 104, 101, 114, 101, 32, 116, 104, 101, 114, 101, 32, 109, 97, 121, 32, 98, 101, 32, 110, 111, 110, 101])]))) ∈ l) : ∃ v, ErS (mem W) v (Er.b 9) :=
  sent_of_laid h hm (by kernel_rfl) (by kernel_rfl) Tryd.underlying47 rowE Tryd.underlying210 Tryd.underlying227 rfl rfl Tryd.underlying9 ceE csE (fun s hs => by unfold errCode; rw [hs]; kernel_rfl)
theorem sent9 {W : World} {l : List (String × DataW Unit)} (h : laidMet Tryd.prog l W) (hm : ("sargasso/api.ErrKey", .iface "*errors.errorString" (.ptr (.agg [.lit (.string [97, 32, 107, 101, 121, 32, 116, 104, 97, 116, 32, 100, 111, 101, 115, 32, 110, 111, 116, 32, 102, 105, 116])]))) ∈ l) : ∃ v, ErS (mem W) v (Er.b 10) :=
  sent_of_laid h hm (by kernel_rfl) (by kernel_rfl) Tryd.underlying47 rowE Tryd.underlying210 Tryd.underlying227 rfl rfl Tryd.underlying9 ceE csE (fun s hs => by unfold errCode; rw [hs]; kernel_rfl)
theorem sent10 {W : World} {l : List (String × DataW Unit)} (h : laidMet Tryd.prog l W) (hm : ("sargasso/api.ErrValue", .iface "*errors.errorString" (.ptr (.agg [.lit (.string [97, 110, 32, 97, 109, 111, 117, 110, 116, 32, 116, 104, 97, 116, 32, 99, 97, 110, 39, 116, 32, 98, 101])]))) ∈ l) : ∃ v, ErS (mem W) v (Er.b 11) :=
  sent_of_laid h hm (by kernel_rfl) (by kernel_rfl) Tryd.underlying47 rowE Tryd.underlying210 Tryd.underlying227 rfl rfl Tryd.underlying9 ceE csE (fun s hs => by unfold errCode; rw [hs]; kernel_rfl)
theorem sent11 {W : World} {l : List (String × DataW Unit)} (h : laidMet Tryd.prog l W) (hm : ("sargasso/api.ErrEnd", .iface "*errors.errorString" (.ptr (.agg [.lit (.string [105, 116, 32, 101, 110, 100, 115, 32, 116, 111, 111, 32, 101, 97, 114, 108, 121])]))) ∈ l) : ∃ v, ErS (mem W) v (Er.b 12) :=
  sent_of_laid h hm (by kernel_rfl) (by kernel_rfl) Tryd.underlying47 rowE Tryd.underlying210 Tryd.underlying227 rfl rfl Tryd.underlying9 ceE csE (fun s hs => by unfold errCode; rw [hs]; kernel_rfl)
theorem sent12 {W : World} {l : List (String × DataW Unit)} (h : laidMet Tryd.prog l W) (hm : ("sargasso/api.ErrShape", .iface "*errors.errorString" (.ptr (.agg [.lit (.string [110, 111, 116, 32, 97, 115, 32, 105, 116, 32, 104, 97, 115, 32, 116, 111, 32, 98, 101])]))) ∈ l) : ∃ v, ErS (mem W) v (Er.b 13) :=
  sent_of_laid h hm (by kernel_rfl) (by kernel_rfl) Tryd.underlying47 rowE Tryd.underlying210 Tryd.underlying227 rfl rfl Tryd.underlying9 ceE csE (fun s hs => by unfold errCode; rw [hs]; kernel_rfl)
theorem sent13 {W : World} {l : List (String × DataW Unit)} (h : laidMet Tryd.prog l W) (hm : ("sargasso/api.ErrInvalid", .iface "*errors.errorString" (.ptr (.agg [.lit (.string [98, 101, 104, 105, 110, 100, 32, 119, 104, 97, 116, 32, 105, 115, 32, 110, 111, 116, 32, 118, 97, 108, 105, 100])]))) ∈ l) : ∃ v, ErS (mem W) v (Er.b 14) :=
  sent_of_laid h hm (by kernel_rfl) (by kernel_rfl) Tryd.underlying47 rowE Tryd.underlying210 Tryd.underlying227 rfl rfl Tryd.underlying9 ceE csE (fun s hs => by unfold errCode; rw [hs]; kernel_rfl)
theorem sent14 {W : World} {l : List (String × DataW Unit)} (h : laidMet Tryd.prog l W) (hm : ("sargasso/api.ErrTime", .iface "*errors.errorString" (.ptr (.agg [.lit (.string [97, 32, 116, 105, 109, 101, 32, 116, 104, 97, 116, 32, 105, 115, 32, 116, 111, 111, 32, 101, 97, 114, 108, 121])]))) ∈ l) : ∃ v, ErS (mem W) v (Er.b 15) :=
  sent_of_laid h hm (by kernel_rfl) (by kernel_rfl) Tryd.underlying47 rowE Tryd.underlying210 Tryd.underlying227 rfl rfl Tryd.underlying9 ceE csE (fun s hs => by unfold errCode; rw [hs]; kernel_rfl)
theorem sent15 {W : World} {l : List (String × DataW Unit)} (h : laidMet Tryd.prog l W) (hm : ("sargasso/api.ErrMissing", .iface "*errors.errorString" (.ptr (.agg [.lit (.string [97, 32, 99, 111, 105, 110, 32, 116, 104, 97, 116, 32, 105, 115, 32, 110, 111, 116, 32, 116, 104, 101, 114, 101])]))) ∈ l) : ∃ v, ErS (mem W) v (Er.b 16) :=
  sent_of_laid h hm (by kernel_rfl) (by kernel_rfl) Tryd.underlying47 rowE Tryd.underlying210 Tryd.underlying227 rfl rfl Tryd.underlying9 ceE csE (fun s hs => by unfold errCode; rw [hs]; kernel_rfl)
theorem sent16 {W : World} {l : List (String × DataW Unit)} (h : laidMet Tryd.prog l W) (hm : ("sargasso/api.ErrYoung", .iface "*errors.errorString" (.ptr (.agg [.lit (.string [97, 32, 99, 111, 105, 110, 32, 116, 104, 97, 116, 32, 105, 115, 32, 116, 111, 111, 32, 121, 111, 117, 110, 103])]))) ∈ l) : ∃ v, ErS (mem W) v (Er.b 17) :=
  sent_of_laid h hm (by kernel_rfl) (by kernel_rfl) Tryd.underlying47 rowE Tryd.underlying210 Tryd.underlying227 rfl rfl Tryd.underlying9 ceE csE (fun s hs => by unfold errCode; rw [hs]; kernel_rfl)
theorem sent17 {W : World} {l : List (String × DataW Unit)} (h : laidMet Tryd.prog l W) (hm : ("sargasso/api.ErrEarly", .iface "*errors.errorString" (.ptr (.agg [.lit (.string [116, 111, 111, 32, 101, 97, 114, 108, 121, 32, 116, 111, 32, 98, 101, 32, 116, 97, 107, 101, 110])]))) ∈ l) : ∃ v, ErS (mem W) v (Er.b 18) :=
  sent_of_laid h hm (by kernel_rfl) (by kernel_rfl) Tryd.underlying47 rowE Tryd.underlying210 Tryd.underlying227 rfl rfl Tryd.underlying9 ceE csE (fun s hs => by unfold errCode; rw [hs]; kernel_rfl)
theorem sent18 {W : World} {l : List (String × DataW Unit)} (h : laidMet Tryd.prog l W) (hm : ("sargasso/api.ErrLess", .iface "*errors.errorString" (.ptr (.agg [.lit (.string [108, 101, 115, 115, 32, 99, 111, 109, 101, 115, 32, 105, 110, 32, 116, 104, 97, 110, 32, 103, 111, 101, 115, 32, 111, 117, 116])]))) ∈ l) : ∃ v, ErS (mem W) v (Er.b 19) :=
  sent_of_laid h hm (by kernel_rfl) (by kernel_rfl) Tryd.underlying47 rowE Tryd.underlying210 Tryd.underlying227 rfl rfl Tryd.underlying9 ceE csE (fun s hs => by unfold errCode; rw [hs]; kernel_rfl)
theorem sent19 {W : World} {l : List (String × DataW Unit)} (h : laidMet Tryd.prog l W) (hm : ("sargasso/api.ErrReward", .iface "*errors.errorString" (.ptr (.agg [.lit (.string [109, 111, 114, 101, 32, 116, 104, 97, 110, 32, 116, 104, 101, 32, 114, 101, 119, 97, 114, 100])]))) ∈ l) : ∃ v, ErS (mem W) v (Er.b 20) :=
  sent_of_laid h hm (by kernel_rfl) (by kernel_rfl) Tryd.underlying47 rowE Tryd.underlying210 Tryd.underlying227 rfl rfl Tryd.underlying9 ceE csE (fun s hs => by unfold errCode; rw [hs]; kernel_rfl)
theorem sent20 {W : World} {l : List (String × DataW Unit)} (h : laidMet Tryd.prog l W) (hm : ("sargasso/api.ErrClash", .iface "*errors.errorString" (.ptr (.agg [.lit (.string [97, 32, 99, 111, 105, 110, 32, 116, 104, 97, 116, 32, 105, 115, 32, 115, 112, 101, 110, 116, 32, 105, 110, 32, 116, 104, 101, 32, 112, 111, 111, 108])]))) ∈ l) : ∃ v, ErS (mem W) v (Er.b 21) :=
  sent_of_laid h hm (by kernel_rfl) (by kernel_rfl) Tryd.underlying47 rowE Tryd.underlying210 Tryd.underlying227 rfl rfl Tryd.underlying9 ceE csE (fun s hs => by unfold errCode; rw [hs]; kernel_rfl)
theorem sent21 {W : World} {l : List (String × DataW Unit)} (h : laidMet Tryd.prog l W) (hm : ("sargasso/api.ErrLimit", .iface "*errors.errorString" (.ptr (.agg [.lit (.string [116, 111, 111, 32, 109, 97, 110, 121, 32, 116, 104, 97, 116, 32, 104, 97, 110, 103, 32, 116, 111, 103, 101, 116, 104, 101, 114])]))) ∈ l) : ∃ v, ErS (mem W) v (Er.b 22) :=
  sent_of_laid h hm (by kernel_rfl) (by kernel_rfl) Tryd.underlying47 rowE Tryd.underlying210 Tryd.underlying227 rfl rfl Tryd.underlying9 ceE csE (fun s hs => by unfold errCode; rw [hs]; kernel_rfl)
theorem sent22 {W : World} {l : List (String × DataW Unit)} (h : laidMet Tryd.prog l W) (hm : ("sargasso/api.ErrNone", .iface "*errors.errorString" (.ptr (.agg [.lit (.string [116, 104, 101, 114, 101, 32, 105, 115, 32, 110, 111, 110, 101])]))) ∈ l) : ∃ v, ErS (mem W) v (Er.b 23) :=
  sent_of_laid h hm (by kernel_rfl) (by kernel_rfl) Tryd.underlying47 rowE Tryd.underlying210 Tryd.underlying227 rfl rfl Tryd.underlying9 ceE csE (fun s hs => by unfold errCode; rw [hs]; kernel_rfl)
theorem sent23 {W : World} {l : List (String × DataW Unit)} (h : laidMet Tryd.prog l W) (hm : ("sargasso/api.ErrWord", .iface "*errors.errorString" (.ptr (.agg [.lit (.string [110, 111, 32, 115, 117, 99, 104, 32, 119, 111, 114, 100])]))) ∈ l) : ∃ v, ErS (mem W) v (Er.b 24) :=
  sent_of_laid h hm (by kernel_rfl) (by kernel_rfl) Tryd.underlying47 rowE Tryd.underlying210 Tryd.underlying227 rfl rfl Tryd.underlying9 ceE csE (fun s hs => by unfold errCode; rw [hs]; kernel_rfl)
theorem sent24 {W : World} {l : List (String × DataW Unit)} (h : laidMet Tryd.prog l W) (hm : ("sargasso/api.ErrNumber", .iface "*errors.errorString" (.ptr (.agg [.lit (.string [110, 111, 116, 32, 97, 32, 110, 117, 109, 98, 101, 114])]))) ∈ l) : ∃ v, ErS (mem W) v (Er.b 25) :=
  sent_of_laid h hm (by kernel_rfl) (by kernel_rfl) Tryd.underlying47 rowE Tryd.underlying210 Tryd.underlying227 rfl rfl Tryd.underlying9 ceE csE (fun s hs => by unfold errCode; rw [hs]; kernel_rfl)
end Go.Proofs.YtcpdnoochieecaaDoor.T
namespace Go.Proofs.YtcpdnoochieecaaDoor.T
open Go Go.Proofs Go.Proofs.YtcpdnoochieecaaDoor.K
set_option linter.unusedVariables false
set_option linter.unusedSimpArgs false
theorem laid : laidOutB Tryd.prog = true := by kernel_rfl
theorem rr3 : Tryd.prog.readableRec 3 = true := by kernel_rfl
theorem tr3 : 3 < Tryd.prog.types.size := of_decide_eq_true (by kernel_rfl)
section
variable {H : Type} {enc : TypeId × Value → H} {w : World} {base : Nat} {spare : Nat → Bool} {held : Bool}
end
end Go.Proofs.YtcpdnoochieecaaDoor.T
