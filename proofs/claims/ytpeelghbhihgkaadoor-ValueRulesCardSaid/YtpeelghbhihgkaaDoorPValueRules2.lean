/- Proved: the statement ValueRules, as given (its conditions are those of the given row, and card where there is one; no others): the call ends, with true, and the input reads as it did. This file is one of its parts. -/
import Derived.Test.YtpeelghbhihgkaaDoorPValueRules1
import Derived.OpenShut
import Derived.ChangeArms
import Derived.DataReads
import Derived.WideShapes
import Derived.Below
import Derived.Carry
import Derived.ChangeOld
import Derived.LaidLaws
import Derived.Stop.ErrReads
import Derived.ChangeVars
import Derived.Test.YtpeelghbhihgkaaDoorRows
import Derived.Test.YtpeelghbhihgkaaDoorProg
import Derived.JoinedOf
import Derived.ProofKit
import Derived.WalkKit
import Derived.ShutString
import Derived.SizedLaws
import Derived.LaidHandle
import Derived.Handed
import Derived.SevenTiedAt
import Derived.Test.YtpeelghbhihgkaaDoorCards
import Derived.Test.YtpeelghbhihgkaaDoorTie
namespace Go.Proofs.YtpeelghbhihgkaaDoor.T
open Go Go.Proofs Go.Proofs.YtpeelghbhihgkaaDoor.K
set_option linter.unusedVariables false
set_option linter.unusedSimpArgs false
set_option maxRecDepth 20000 in
theorem value_Reward.c (μ : Store) (w0 : World) (hμ : Agr μ w0) (x0 : Int) (hx0 : InR .i64 x0) (x1 : Int) (hx1 : InR .i64 x1) (r : Int) (H : value_Reward.f x0 x1 = some r) :
    Calls Tryd.prog 77 [.int .i64 x0, .int .i64 x1].toArray w0 (fun e w' => ∃ v, e = .returned v ∧ v = .int .u64 r ∧ InR .u64 r ∧ Iv w0 [] μ μ [] w') := by
  refine enter Tryd.func77 rfl Tryd.ntmps77 rfl fun a hA => ?_
  have hI := Iv.start hμ
  have H := bI H
  refine w_seq fun _ hN1 => ?_
  refine w_reg ?_
  refine stp hA (r_as hA rfl) rfl fun a hA => ?_
  refine o_nil ?_
  refine hN1 _ _ ?_
  refine w_seq fun _ hN2 => ?_
  obtain ⟨c1, hz1, Hk1⟩ := bB H
  refine w_cut (fun a w => Fr a 21 [(0, .int .i64 x0), (1, .int .i64 x1), (4, .int .u64 0), (16, .bool c1)] ∧ Iv w0 [] μ μ [] w) ?_ ?_
  · have H := bI hz1
    refine w_reg ?_
    refine stp hA (r_mv hA rfl) rfl fun a hA => 
      stp hA (r_lss hA rfl rfl) rfl fun a hA => 
      stp hA (r_mv hA rfl) rfl fun a hA => ?_
    rcases Bool.eq_false_or_eq_true (decide (x0 < 0)) with hc1 | hc1
    · have hc10 := hc1; have hc1 := of_decide_eq_true hc1; have H := bT H hc1
      refine o_no hA rfl rfl (by rw [hc10]; simp [vb]) rfl fun a hA => 
        o_no hA rfl rfl (by rw [hc10]; simp [vb]) rfl fun a hA => 
        stp hA (r_pick_t hA rfl hc10 rfl) rfl fun a hA => 
        stp hA (r_mv hA rfl) rfl fun a hA => 
        o_no hA rfl rfl (by simp [vb]) rfl fun a hA => 
        o_no hA rfl rfl (by simp [vb]) rfl fun a hA => 
        o_no hA rfl rfl (by simp [vb]) rfl fun a hA => 
        o_no hA rfl rfl (by simp [vb]) rfl fun a hA => 
        stp hA (r_pick_t hA rfl rfl rfl) rfl fun a hA => ?_
      refine o_nil ?_
      cases Option.some.inj (bS H)
      exact ⟨hA.sub ⟨rfl, rfl, rfl, rfl, trivial⟩, hI⟩
    · have hc10 := hc1; have hc1 := of_decide_eq_false hc1; have H := bF H hc1
      refine o_yes hA rfl rfl hc10 <| 
        stp hA (r_mv hA rfl) rfl fun a hA => 
        o_yes hA rfl rfl hc10 <| 
        stp hA (r_lss hA rfl rfl) rfl fun a hA => 
        stp hA (r_pick_f hA rfl hc10 rfl) rfl fun a hA => 
        stp hA (r_mv hA rfl) rfl fun a hA => ?_
      rcases Bool.eq_false_or_eq_true (decide (x1 < 1)) with hc2 | hc2
      · have hc20 := hc2; have hc2 := of_decide_eq_true hc2; have H := bT H hc2
        refine o_no hA rfl rfl (by rw [hc20]; simp [vb]) rfl fun a hA => 
          o_no hA rfl rfl (by rw [hc20]; simp [vb]) rfl fun a hA => 
          o_no hA rfl rfl (by rw [hc20]; simp [vb]) rfl fun a hA => 
          o_no hA rfl rfl (by rw [hc20]; simp [vb]) rfl fun a hA => 
          stp hA (r_pick_t hA rfl hc20 rfl) rfl fun a hA => ?_
        refine o_nil ?_
        cases Option.some.inj (bS H)
        exact ⟨hA.sub ⟨rfl, rfl, rfl, rfl, trivial⟩, hI⟩
      · have hc20 := hc2; have hc2 := of_decide_eq_false hc2; have H := bF H hc2
        refine o_yes hA rfl rfl hc20 <| 
          stp hA (r_mv hA rfl) rfl fun a hA => 
          o_yes hA rfl rfl hc20 <| 
          stp hA (r_mv hA rfl) rfl fun a hA => 
          o_yes hA rfl rfl hc20 <| ?_
        obtain ⟨hb1, H⟩ := bG H
        refine stp hA (r_quo hA rfl rfl hb1) rfl fun a hA => 
          o_yes hA rfl rfl hc20 <| 
          stp hA (r_geq hA rfl rfl) rfl fun a hA => 
          stp hA (r_pick_f hA rfl hc20 rfl) rfl fun a hA => ?_
        refine o_nil ?_
        cases Option.some.inj (bS H)
        exact ⟨hA.sub ⟨rfl, rfl, rfl, rfl, trivial⟩, hI⟩
  · rintro a w ⟨hA, hI⟩
    have H := Hk1
    refine w_cond hA rfl (fun hc3 => ?_) (fun hc3 => ?_)
    · have hc30 := hc3; have H := bT H hc3
      refine w_seq fun _ hN3 => ?_
      refine w_reg ?_
      refine stp hA (r_as hA rfl) rfl fun a hA => ?_
      refine o_nil ?_
      refine hN3 _ _ ?_
      refine w_ret ?_
      obtain rfl := Option.some.inj (bS H)
      exact ret1 hA Tryd.results77 rfl ⟨_, rfl, rfl, (in_lit .u64 0 rfl), hI.forget0⟩
    · have hc30 := hc3; have hc3 := ft hc3; have H := bF H hc3
      refine w_skip ?_
      refine hN2 _ _ ?_
      refine w_seq fun _ hN4 => ?_
      refine w_reg ?_
      refine stp hA (r_mv hA rfl) rfl fun a hA => 
        stp hA (r_mv hA rfl) rfl fun a hA => ?_
      obtain ⟨hb2, H⟩ := bG H
      refine stp hA (r_quo hA rfl rfl hb2) rfl fun a hA => ?_
      obtain ⟨hb3, H⟩ := bG H
      refine stp hA (r_shr hA rfl rfl hb3) rfl fun a hA => 
        stp hA (r_as hA rfl) rfl fun a hA => ?_
      refine o_nil ?_
      refine hN4 _ _ ?_
      refine w_ret ?_
      obtain rfl := Option.some.inj (bS H)
      exact ret1 hA Tryd.results77 rfl ⟨_, rfl, rfl, (sR_in rfl (in_lit .u64 5000000000 rfl) _), hI.forget0⟩
set_option maxRecDepth 20000 in
theorem sargassomake_Rules.c (μ : Store) (w0 : World) (hμ : Agr μ w0) (x0 : Int) (hx0 : InR .i64 x0) (r : Rules) (H : sargassomake_Rules.f x0 = some r) :
    Calls Tryd.prog 68 [.int .i64 x0].toArray w0 (fun e w' => ∃ v, e = .returned v ∧ v = .agg [[.int .i64 r.Halving], [.int .i64 r.Maturity], [.int .i64 r.PoolBytes], [.int .i64 r.RedoBytes], [.int .i64 r.LogMost], [.int .i64 r.Ancestors], [.int .i64 r.AncestorBytes], [.int .i64 r.Descendants], [.int .i64 r.DescendantBytes]].flatten.toArray ∧ RulesW μ r ∧ Iv w0 [] μ μ [] w') := by
  refine enter Tryd.func68 rfl Tryd.ntmps68 rfl fun a hA => ?_
  have hI := Iv.start hμ
  have H := bI H
  refine w_seq fun _ hN1 => ?_
  refine w_reg ?_
  refine o_new [[.int .i64 0], [.int .i64 0], [.int .i64 0], [.int .i64 0], [.int .i64 0], [.int .i64 0], [.int .i64 0], [.int .i64 0], [.int .i64 0]] zr96 hI hA rfl fun g1 a w hA hI hg1 => ?_
  refine o_nil ?_
  refine hN1 _ _ ?_
  refine w_seq fun _ hN2 => ?_
  refine w_reg ?_
  refine stp hA (r_bldS (cs := [[.int .i64 5], [.int .i64 1], [.int .i64 3000], [.int .i64 2000], [.int .i64 200], [.int .i64 5], [.int .i64 2000], [.int .i64 5], [.int .i64 2000]].flatten.toArray) (pl := [(0, 1), (1, 1), (2, 1), (3, 1), (4, 1), (5, 1), (6, 1), (7, 1), (8, 1)]) zr96 Tryd.underlying96 ⟨rfl, sz3, rfl, sz3, rfl, sz3, rfl, sz3, rfl, sz3, rfl, sz3, rfl, sz3, rfl, sz3, rfl, sz3, trivial⟩ hA rfl (by kernel_rfl)) rfl fun a hA => 
    o_new [[.int .i64 0], [.int .i64 0], [.int .i64 0], [.int .i64 0], [.int .i64 0], [.int .i64 0], [.int .i64 0], [.int .i64 0], [.int .i64 0]] zr96 hI hA rfl fun g2 a w hA hI hg2 => 
    o_st (j := 0) [] [[.int .i64 0], [.int .i64 0], [.int .i64 0], [.int .i64 0], [.int .i64 0], [.int .i64 0], [.int .i64 0], [.int .i64 0], [.int .i64 0]] [[.int .i64 5], [.int .i64 1], [.int .i64 3000], [.int .i64 2000], [.int .i64 200], [.int .i64 5], [.int .i64 2000], [.int .i64 5], [.int .i64 2000]] [] sz96 rfl rfl (fl_cons (one_one rfl) (fl_cons (one_one rfl) (fl_cons (one_one rfl) (fl_cons (one_one rfl) (fl_cons (one_one rfl) (fl_cons (one_one rfl) (fl_cons (one_one rfl) (fl_cons (one_one rfl) (fl_cons (one_one rfl) fl_nil))))))))) hI rfl hA rfl rfl rfl rfl fun w hI => ?_
  refine o_nil ?_
  refine hN2 _ _ ?_
  obtain ⟨⟨c1, c2, c3, c4, c5, c6, c7, c8⟩, hz1, Hk1⟩ := bB H
  refine w_cut (fun a w => InR .i64 c1 ∧ InR .i64 c2 ∧ InR .i64 c3 ∧ InR .i64 c4 ∧ InR .i64 c5 ∧ InR .i64 c6 ∧ InR .i64 c7 ∧ InR .i64 c8 ∧ Fr a 34 [(0, .int .i64 x0), (2, .pointer (some ⟨g1, 0, none⟩)), (3, .pointer (some ⟨g2, 0, none⟩))] ∧ Iv w0 [] μ μ [cel g2 [[.int .i64 5], [.int .i64 c1], [.int .i64 c2], [.int .i64 c3], [.int .i64 c4], [.int .i64 c5], [.int .i64 c6], [.int .i64 c7], [.int .i64 c8]] 96, cel g1 [[.int .i64 0], [.int .i64 0], [.int .i64 0], [.int .i64 0], [.int .i64 0], [.int .i64 0], [.int .i64 0], [.int .i64 0], [.int .i64 0]] 96] w) ?_ ?_
  · have H := bI hz1
    refine w_seq fun _ hN3 => ?_
    refine w_reg ?_
    refine stp hA (r_mv hA rfl) rfl fun a hA => ?_
    obtain ⟨r1, hr1, H⟩ := bB H
    refine o_callp (u := .int .i64 r1) cf29 hA rfl hI (sargassoworld_Number.c μ _ hI.agr x0 hx0 6 (in_lit .i64 6 rfl) r1 hr1) rfl fun a w hz2 hI hA => ?_
    refine o_nil ?_
    refine hN3 _ _ ?_
    refine w_block ?_
    refine w_seq fun _ hN4 => ?_
    refine w_reg ?_
    refine stp hA (r_eql hA rfl rfl) rfl fun a hA => 
      stp hA (r_as hA rfl) rfl fun a hA => ?_
    refine o_nil ?_
    refine hN4 _ _ ?_
    refine w_cond hA rfl (fun hc1 => ?_) (fun hc1 => ?_)
    · have hc10 := hc1; have hc1 := of_decide_eq_true hc1; have H := bT H hc1
      refine w_seq fun _ hN5 => ?_
      refine w_reg ?_
      refine stp hA (r_fd (k := 1) Tryd.underlying96 rfl sz3 hA rfl rfl) rfl fun a hA => 
        o_st (j := 0) [[.int .i64 5]] [[.int .i64 1]] [[.int .i64 0]] [[.int .i64 3000], [.int .i64 2000], [.int .i64 200], [.int .i64 5], [.int .i64 2000], [.int .i64 5], [.int .i64 2000]] sz3 rfl rfl (fl_cons (one_one rfl) fl_nil) hI rfl hA rfl rfl rfl rfl fun w hI => ?_
      refine o_nil ?_
      refine hN5 _ _ ?_
      refine w_reg ?_
      refine stp hA (r_fd (k := 2) Tryd.underlying96 rfl sz3 hA rfl rfl) rfl fun a hA => 
        o_st (j := 0) [[.int .i64 5], [.int .i64 0]] [[.int .i64 3000]] [[.int .i64 700]] [[.int .i64 2000], [.int .i64 200], [.int .i64 5], [.int .i64 2000], [.int .i64 5], [.int .i64 2000]] sz3 rfl rfl (fl_cons (one_one rfl) fl_nil) hI rfl hA rfl rfl rfl rfl fun w hI => ?_
      refine o_nil ?_
      cases Option.some.inj (bS H)
      exact ⟨(in_lit .i64 0 rfl), (in_lit .i64 700 rfl), (in_lit .i64 2000 rfl), (in_lit .i64 200 rfl), (in_lit .i64 5 rfl), (in_lit .i64 2000 rfl), (in_lit .i64 5 rfl), (in_lit .i64 2000 rfl), hA.sub ⟨rfl, rfl, rfl, trivial⟩, hI⟩
    · have hc10 := hc1; have hc1 := of_decide_eq_false hc1; have H := bF H hc1
      refine w_seq fun _ hN6 => ?_
      refine w_reg ?_
      refine stp hA (r_eql hA rfl rfl) rfl fun a hA => 
        stp hA (r_as hA rfl) rfl fun a hA => ?_
      refine o_nil ?_
      refine hN6 _ _ ?_
      refine w_cond hA rfl (fun hc2 => ?_) (fun hc2 => ?_)
      · have hc20 := hc2; have hc2 := of_decide_eq_true hc2; have H := bT H hc2
        refine w_seq fun _ hN7 => ?_
        refine w_reg ?_
        refine stp hA (r_fd (k := 1) Tryd.underlying96 rfl sz3 hA rfl rfl) rfl fun a hA => 
          o_st (j := 0) [[.int .i64 5]] [[.int .i64 1]] [[.int .i64 2]] [[.int .i64 3000], [.int .i64 2000], [.int .i64 200], [.int .i64 5], [.int .i64 2000], [.int .i64 5], [.int .i64 2000]] sz3 rfl rfl (fl_cons (one_one rfl) fl_nil) hI rfl hA rfl rfl rfl rfl fun w hI => ?_
        refine o_nil ?_
        refine hN7 _ _ ?_
        refine w_seq fun _ hN8 => ?_
        refine w_reg ?_
        refine stp hA (r_fd (k := 3) Tryd.underlying96 rfl sz3 hA rfl rfl) rfl fun a hA => 
          o_st (j := 0) [[.int .i64 5], [.int .i64 2], [.int .i64 3000]] [[.int .i64 2000]] [[.int .i64 300]] [[.int .i64 200], [.int .i64 5], [.int .i64 2000], [.int .i64 5], [.int .i64 2000]] sz3 rfl rfl (fl_cons (one_one rfl) fl_nil) hI rfl hA rfl rfl rfl rfl fun w hI => ?_
        refine o_nil ?_
        refine hN8 _ _ ?_
        refine w_reg ?_
        refine stp hA (r_fd (k := 4) Tryd.underlying96 rfl sz3 hA rfl rfl) rfl fun a hA => 
          o_st (j := 0) [[.int .i64 5], [.int .i64 2], [.int .i64 3000], [.int .i64 300]] [[.int .i64 200]] [[.int .i64 4]] [[.int .i64 5], [.int .i64 2000], [.int .i64 5], [.int .i64 2000]] sz3 rfl rfl (fl_cons (one_one rfl) fl_nil) hI rfl hA rfl rfl rfl rfl fun w hI => ?_
        refine o_nil ?_
        cases Option.some.inj (bS H)
        exact ⟨(in_lit .i64 2 rfl), (in_lit .i64 3000 rfl), (in_lit .i64 300 rfl), (in_lit .i64 4 rfl), (in_lit .i64 5 rfl), (in_lit .i64 2000 rfl), (in_lit .i64 5 rfl), (in_lit .i64 2000 rfl), hA.sub ⟨rfl, rfl, rfl, trivial⟩, hI⟩
      · have hc20 := hc2; have hc2 := of_decide_eq_false hc2; have H := bF H hc2
        refine w_seq fun _ hN9 => ?_
        refine w_reg ?_
        refine stp hA (r_eql hA rfl rfl) rfl fun a hA => 
          stp hA (r_as hA rfl) rfl fun a hA => ?_
        refine o_nil ?_
        refine hN9 _ _ ?_
        refine w_cond hA rfl (fun hc3 => ?_) (fun hc3 => ?_)
        · have hc30 := hc3; have hc3 := of_decide_eq_true hc3; have H := bT H hc3
          refine w_seq fun _ hN10 => ?_
          refine w_reg ?_
          refine stp hA (r_fd (k := 5) Tryd.underlying96 rfl sz3 hA rfl rfl) rfl fun a hA => 
            o_st (j := 0) [[.int .i64 5], [.int .i64 1], [.int .i64 3000], [.int .i64 2000], [.int .i64 200]] [[.int .i64 5]] [[.int .i64 2]] [[.int .i64 2000], [.int .i64 5], [.int .i64 2000]] sz3 rfl rfl (fl_cons (one_one rfl) fl_nil) hI rfl hA rfl rfl rfl rfl fun w hI => ?_
          refine o_nil ?_
          refine hN10 _ _ ?_
          refine w_reg ?_
          refine stp hA (r_fd (k := 7) Tryd.underlying96 rfl sz3 hA rfl rfl) rfl fun a hA => 
            o_st (j := 0) [[.int .i64 5], [.int .i64 1], [.int .i64 3000], [.int .i64 2000], [.int .i64 200], [.int .i64 2], [.int .i64 2000]] [[.int .i64 5]] [[.int .i64 3]] [[.int .i64 2000]] sz3 rfl rfl (fl_cons (one_one rfl) fl_nil) hI rfl hA rfl rfl rfl rfl fun w hI => ?_
          refine o_nil ?_
          cases Option.some.inj (bS H)
          exact ⟨(in_lit .i64 1 rfl), (in_lit .i64 3000 rfl), (in_lit .i64 2000 rfl), (in_lit .i64 200 rfl), (in_lit .i64 2 rfl), (in_lit .i64 2000 rfl), (in_lit .i64 3 rfl), (in_lit .i64 2000 rfl), hA.sub ⟨rfl, rfl, rfl, trivial⟩, hI⟩
        · have hc30 := hc3; have hc3 := of_decide_eq_false hc3; have H := bF H hc3
          refine w_seq fun _ hN11 => ?_
          refine w_reg ?_
          refine stp hA (r_eql hA rfl rfl) rfl fun a hA => 
            stp hA (r_as hA rfl) rfl fun a hA => ?_
          refine o_nil ?_
          refine hN11 _ _ ?_
          refine w_cond hA rfl (fun hc4 => ?_) (fun hc4 => ?_)
          · have hc40 := hc4; have hc4 := of_decide_eq_true hc4; have H := bT H hc4
            refine w_seq fun _ hN12 => ?_
            refine w_reg ?_
            refine stp hA (r_fd (k := 6) Tryd.underlying96 rfl sz3 hA rfl rfl) rfl fun a hA => 
              o_st (j := 0) [[.int .i64 5], [.int .i64 1], [.int .i64 3000], [.int .i64 2000], [.int .i64 200], [.int .i64 5]] [[.int .i64 2000]] [[.int .i64 400]] [[.int .i64 5], [.int .i64 2000]] sz3 rfl rfl (fl_cons (one_one rfl) fl_nil) hI rfl hA rfl rfl rfl rfl fun w hI => ?_
            refine o_nil ?_
            refine hN12 _ _ ?_
            refine w_reg ?_
            refine stp hA (r_fd (k := 8) Tryd.underlying96 rfl sz3 hA rfl rfl) rfl fun a hA => 
              o_st (j := 0) [[.int .i64 5], [.int .i64 1], [.int .i64 3000], [.int .i64 2000], [.int .i64 200], [.int .i64 5], [.int .i64 400], [.int .i64 5]] [[.int .i64 2000]] [[.int .i64 500]] [] sz3 rfl rfl (fl_cons (one_one rfl) fl_nil) hI rfl hA rfl rfl rfl rfl fun w hI => ?_
            refine o_nil ?_
            cases Option.some.inj (bS H)
            exact ⟨(in_lit .i64 1 rfl), (in_lit .i64 3000 rfl), (in_lit .i64 2000 rfl), (in_lit .i64 200 rfl), (in_lit .i64 5 rfl), (in_lit .i64 400 rfl), (in_lit .i64 5 rfl), (in_lit .i64 500 rfl), hA.sub ⟨rfl, rfl, rfl, trivial⟩, hI⟩
          · have hc40 := hc4; have hc4 := of_decide_eq_false hc4; have H := bF H hc4
            refine w_seq fun _ hN13 => ?_
            refine w_reg ?_
            refine stp hA (r_eql hA rfl rfl) rfl fun a hA => 
              stp hA (r_as hA rfl) rfl fun a hA => ?_
            refine o_nil ?_
            refine hN13 _ _ ?_
            refine w_cond hA rfl (fun hc5 => ?_) (fun hc5 => ?_)
            · have hc50 := hc5; have hc5 := of_decide_eq_true hc5; have H := bT H hc5
              refine w_seq fun _ hN14 => ?_
              refine w_reg ?_
              refine stp hA (r_fd (k := 1) Tryd.underlying96 rfl sz3 hA rfl rfl) rfl fun a hA => 
                o_st (j := 0) [[.int .i64 5]] [[.int .i64 1]] [[.int .i64 0]] [[.int .i64 3000], [.int .i64 2000], [.int .i64 200], [.int .i64 5], [.int .i64 2000], [.int .i64 5], [.int .i64 2000]] sz3 rfl rfl (fl_cons (one_one rfl) fl_nil) hI rfl hA rfl rfl rfl rfl fun w hI => ?_
              refine o_nil ?_
              refine hN14 _ _ ?_
              refine w_seq fun _ hN15 => ?_
              refine w_reg ?_
              refine stp hA (r_fd (k := 2) Tryd.underlying96 rfl sz3 hA rfl rfl) rfl fun a hA => 
                o_st (j := 0) [[.int .i64 5], [.int .i64 0]] [[.int .i64 3000]] [[.int .i64 1048576]] [[.int .i64 2000], [.int .i64 200], [.int .i64 5], [.int .i64 2000], [.int .i64 5], [.int .i64 2000]] sz3 rfl rfl (fl_cons (one_one rfl) fl_nil) hI rfl hA rfl rfl rfl rfl fun w hI => ?_
              refine o_nil ?_
              refine hN15 _ _ ?_
              refine w_seq fun _ hN16 => ?_
              refine w_reg ?_
              refine stp hA (r_fd (k := 5) Tryd.underlying96 rfl sz3 hA rfl rfl) rfl fun a hA => 
                o_st (j := 0) [[.int .i64 5], [.int .i64 0], [.int .i64 1048576], [.int .i64 2000], [.int .i64 200]] [[.int .i64 5]] [[.int .i64 50]] [[.int .i64 2000], [.int .i64 5], [.int .i64 2000]] sz3 rfl rfl (fl_cons (one_one rfl) fl_nil) hI rfl hA rfl rfl rfl rfl fun w hI => ?_
              refine o_nil ?_
              refine hN16 _ _ ?_
              refine w_seq fun _ hN17 => ?_
              refine w_reg ?_
              refine stp hA (r_fd (k := 7) Tryd.underlying96 rfl sz3 hA rfl rfl) rfl fun a hA => 
                o_st (j := 0) [[.int .i64 5], [.int .i64 0], [.int .i64 1048576], [.int .i64 2000], [.int .i64 200], [.int .i64 50], [.int .i64 2000]] [[.int .i64 5]] [[.int .i64 50]] [[.int .i64 2000]] sz3 rfl rfl (fl_cons (one_one rfl) fl_nil) hI rfl hA rfl rfl rfl rfl fun w hI => ?_
              refine o_nil ?_
              refine hN17 _ _ ?_
              refine w_seq fun _ hN18 => ?_
              refine w_reg ?_
              refine stp hA (r_fd (k := 6) Tryd.underlying96 rfl sz3 hA rfl rfl) rfl fun a hA => 
                o_st (j := 0) [[.int .i64 5], [.int .i64 0], [.int .i64 1048576], [.int .i64 2000], [.int .i64 200], [.int .i64 50]] [[.int .i64 2000]] [[.int .i64 1048576]] [[.int .i64 50], [.int .i64 2000]] sz3 rfl rfl (fl_cons (one_one rfl) fl_nil) hI rfl hA rfl rfl rfl rfl fun w hI => ?_
              refine o_nil ?_
              refine hN18 _ _ ?_
              refine w_seq fun _ hN19 => ?_
              refine w_reg ?_
              refine stp hA (r_fd (k := 8) Tryd.underlying96 rfl sz3 hA rfl rfl) rfl fun a hA => 
                o_st (j := 0) [[.int .i64 5], [.int .i64 0], [.int .i64 1048576], [.int .i64 2000], [.int .i64 200], [.int .i64 50], [.int .i64 1048576], [.int .i64 50]] [[.int .i64 2000]] [[.int .i64 1048576]] [] sz3 rfl rfl (fl_cons (one_one rfl) fl_nil) hI rfl hA rfl rfl rfl rfl fun w hI => ?_
              refine o_nil ?_
              refine hN19 _ _ ?_
              refine w_reg ?_
              refine stp hA (r_fd (k := 3) Tryd.underlying96 rfl sz3 hA rfl rfl) rfl fun a hA => 
                o_st (j := 0) [[.int .i64 5], [.int .i64 0], [.int .i64 1048576]] [[.int .i64 2000]] [[.int .i64 1048576]] [[.int .i64 200], [.int .i64 50], [.int .i64 1048576], [.int .i64 50], [.int .i64 1048576]] sz3 rfl rfl (fl_cons (one_one rfl) fl_nil) hI rfl hA rfl rfl rfl rfl fun w hI => ?_
              refine o_nil ?_
              cases Option.some.inj (bS H)
              exact ⟨(in_lit .i64 0 rfl), (in_lit .i64 1048576 rfl), (in_lit .i64 1048576 rfl), (in_lit .i64 200 rfl), (in_lit .i64 50 rfl), (in_lit .i64 1048576 rfl), (in_lit .i64 50 rfl), (in_lit .i64 1048576 rfl), hA.sub ⟨rfl, rfl, rfl, trivial⟩, hI⟩
            · have hc50 := hc5; have hc5 := of_decide_eq_false hc5; have H := bF H hc5
              refine w_skip ?_
              cases Option.some.inj (bS H)
              exact ⟨(in_lit .i64 1 rfl), (in_lit .i64 3000 rfl), (in_lit .i64 2000 rfl), (in_lit .i64 200 rfl), (in_lit .i64 5 rfl), (in_lit .i64 2000 rfl), (in_lit .i64 5 rfl), (in_lit .i64 2000 rfl), hA.sub ⟨rfl, rfl, rfl, trivial⟩, hI⟩
  · rintro a w ⟨wc1, wc2, wc3, wc4, wc5, wc6, wc7, wc8, hA, hI⟩
    have H := Hk1
    refine w_seq fun _ hN20 => ?_
    refine w_reg ?_
    refine stp hA (r_ldA (j := 0) [] [[.int .i64 5], [.int .i64 c1], [.int .i64 c2], [.int .i64 c3], [.int .i64 c4], [.int .i64 c5], [.int .i64 c6], [.int .i64 c7], [.int .i64 c8]] [] Tryd.underlying96 rfl sz96 rfl hI rfl hA rfl rfl) rfl fun a hA => 
      o_st (j := 1) [] [[.int .i64 0], [.int .i64 0], [.int .i64 0], [.int .i64 0], [.int .i64 0], [.int .i64 0], [.int .i64 0], [.int .i64 0], [.int .i64 0]] [[.int .i64 5], [.int .i64 c1], [.int .i64 c2], [.int .i64 c3], [.int .i64 c4], [.int .i64 c5], [.int .i64 c6], [.int .i64 c7], [.int .i64 c8]] [] sz96 rfl rfl (fl_cons (one_one rfl) (fl_cons (one_one rfl) (fl_cons (one_one rfl) (fl_cons (one_one rfl) (fl_cons (one_one rfl) (fl_cons (one_one rfl) (fl_cons (one_one rfl) (fl_cons (one_one rfl) (fl_cons (one_one rfl) fl_nil))))))))) hI rfl hA rfl rfl rfl rfl fun w hI => ?_
    refine o_nil ?_
    refine hN20 _ _ ?_
    refine w_ret ?_
    obtain rfl := Option.some.inj (bS H)
    exact retc Tryd.underlying96 rfl sz96 rfl hI (j := 1) rfl hA Tryd.results68 rfl ⟨_, rfl, rfl, ⟨(in_lit .i64 5 rfl), wc1, wc2, wc3, wc4, wc5, wc6, wc7, wc8⟩, hI.forget0⟩
set_option maxRecDepth 20000 in
theorem value_Rules.c (μ : Store) (w0 : World) (hμ : Agr μ w0) (x0 : Rules) (hx0 : RulesW μ x0) (e6 : Value) (he6 : ErS μ e6 (Er.b 7)) (r : Er) (H : value_Rules.f x0 = some r) :
    Calls Tryd.prog 69 [.agg [[.int .i64 x0.Halving], [.int .i64 x0.Maturity], [.int .i64 x0.PoolBytes], [.int .i64 x0.RedoBytes], [.int .i64 x0.LogMost], [.int .i64 x0.Ancestors], [.int .i64 x0.AncestorBytes], [.int .i64 x0.Descendants], [.int .i64 x0.DescendantBytes]].flatten.toArray].toArray w0 (fun e w' => ∃ v, e = .returned v ∧ ∃ (v0 : Value) (μ' : Store), v = v0 ∧ ErS μ' v0 r ∧ Iv w0 [] μ μ' [] w') := by
  refine enter Tryd.func69 rfl Tryd.ntmps69 rfl fun a hA => ?_
  have hI := Iv.start hμ
  have H := bI H
  refine w_seq fun _ hN1 => ?_
  refine w_reg ?_
  refine o_box [[.int .i64 x0.Halving], [.int .i64 x0.Maturity], [.int .i64 x0.PoolBytes], [.int .i64 x0.RedoBytes], [.int .i64 x0.LogMost], [.int .i64 x0.Ancestors], [.int .i64 x0.AncestorBytes], [.int .i64 x0.Descendants], [.int .i64 x0.DescendantBytes]] hI hA rfl rfl rfl fun g1 a w hA hI hg1 => 
    stp hA (r_as hA rfl) rfl fun a hA => ?_
  refine o_nil ?_
  refine hN1 _ _ ?_
  refine w_seq fun _ hN2 => ?_
  refine w_seq fun _ hN3 => ?_
  refine w_reg ?_
  refine stp hA (r_fd (k := 0) Tryd.underlying96 rfl sz3 hA rfl rfl) rfl fun a hA => 
    stp hA (r_ld1 (j := 0) [] [[.int .i64 x0.Maturity], [.int .i64 x0.PoolBytes], [.int .i64 x0.RedoBytes], [.int .i64 x0.LogMost], [.int .i64 x0.Ancestors], [.int .i64 x0.AncestorBytes], [.int .i64 x0.Descendants], [.int .i64 x0.DescendantBytes]] Tryd.underlying3 rfl hI rfl hA rfl rfl) rfl fun a hA => 
    stp hA (r_bldA (cs := [av .i64 3 ([x0.Halving, 1, 1048576])].flatten.toArray) zr162 Tryd.underlying162 sz3 hA rfl (by kernel_rfl)) rfl fun a hA => 
    stp hA (r_fd (k := 1) Tryd.underlying96 rfl sz3 hA rfl rfl) rfl fun a hA => 
    stp hA (r_ld1 (j := 0) [[.int .i64 x0.Halving]] [[.int .i64 x0.PoolBytes], [.int .i64 x0.RedoBytes], [.int .i64 x0.LogMost], [.int .i64 x0.Ancestors], [.int .i64 x0.AncestorBytes], [.int .i64 x0.Descendants], [.int .i64 x0.DescendantBytes]] Tryd.underlying3 rfl hI rfl hA rfl rfl) rfl fun a hA => 
    stp hA (r_bldA (cs := [av .i64 3 ([x0.Maturity, 0, 1000])].flatten.toArray) zr162 Tryd.underlying162 sz3 hA rfl (by kernel_rfl)) rfl fun a hA => 
    stp hA (r_fd (k := 2) Tryd.underlying96 rfl sz3 hA rfl rfl) rfl fun a hA => 
    stp hA (r_ld1 (j := 0) [[.int .i64 x0.Halving], [.int .i64 x0.Maturity]] [[.int .i64 x0.RedoBytes], [.int .i64 x0.LogMost], [.int .i64 x0.Ancestors], [.int .i64 x0.AncestorBytes], [.int .i64 x0.Descendants], [.int .i64 x0.DescendantBytes]] Tryd.underlying3 rfl hI rfl hA rfl rfl) rfl fun a hA => 
    stp hA (r_bldA (cs := [av .i64 3 ([x0.PoolBytes, 1, 16777216])].flatten.toArray) zr162 Tryd.underlying162 sz3 hA rfl (by kernel_rfl)) rfl fun a hA => 
    stp hA (r_fd (k := 3) Tryd.underlying96 rfl sz3 hA rfl rfl) rfl fun a hA => 
    stp hA (r_ld1 (j := 0) [[.int .i64 x0.Halving], [.int .i64 x0.Maturity], [.int .i64 x0.PoolBytes]] [[.int .i64 x0.LogMost], [.int .i64 x0.Ancestors], [.int .i64 x0.AncestorBytes], [.int .i64 x0.Descendants], [.int .i64 x0.DescendantBytes]] Tryd.underlying3 rfl hI rfl hA rfl rfl) rfl fun a hA => 
    stp hA (r_bldA (cs := [av .i64 3 ([x0.RedoBytes, 1, 16777216])].flatten.toArray) zr162 Tryd.underlying162 sz3 hA rfl (by kernel_rfl)) rfl fun a hA => 
    stp hA (r_fd (k := 4) Tryd.underlying96 rfl sz3 hA rfl rfl) rfl fun a hA => 
    stp hA (r_ld1 (j := 0) [[.int .i64 x0.Halving], [.int .i64 x0.Maturity], [.int .i64 x0.PoolBytes], [.int .i64 x0.RedoBytes]] [[.int .i64 x0.Ancestors], [.int .i64 x0.AncestorBytes], [.int .i64 x0.Descendants], [.int .i64 x0.DescendantBytes]] Tryd.underlying3 rfl hI rfl hA rfl rfl) rfl fun a hA => 
    stp hA (r_bldA (cs := [av .i64 3 ([x0.LogMost, 1, 65536])].flatten.toArray) zr162 Tryd.underlying162 sz3 hA rfl (by kernel_rfl)) rfl fun a hA => 
    stp hA (r_fd (k := 5) Tryd.underlying96 rfl sz3 hA rfl rfl) rfl fun a hA => 
    stp hA (r_ld1 (j := 0) [[.int .i64 x0.Halving], [.int .i64 x0.Maturity], [.int .i64 x0.PoolBytes], [.int .i64 x0.RedoBytes], [.int .i64 x0.LogMost]] [[.int .i64 x0.AncestorBytes], [.int .i64 x0.Descendants], [.int .i64 x0.DescendantBytes]] Tryd.underlying3 rfl hI rfl hA rfl rfl) rfl fun a hA => 
    stp hA (r_bldA (cs := [av .i64 3 ([x0.Ancestors, 1, 1000])].flatten.toArray) zr162 Tryd.underlying162 sz3 hA rfl (by kernel_rfl)) rfl fun a hA => 
    stp hA (r_fd (k := 7) Tryd.underlying96 rfl sz3 hA rfl rfl) rfl fun a hA => 
    stp hA (r_ld1 (j := 0) [[.int .i64 x0.Halving], [.int .i64 x0.Maturity], [.int .i64 x0.PoolBytes], [.int .i64 x0.RedoBytes], [.int .i64 x0.LogMost], [.int .i64 x0.Ancestors], [.int .i64 x0.AncestorBytes]] [[.int .i64 x0.DescendantBytes]] Tryd.underlying3 rfl hI rfl hA rfl rfl) rfl fun a hA => 
    stp hA (r_bldA (cs := [av .i64 3 ([x0.Descendants, 1, 1000])].flatten.toArray) zr162 Tryd.underlying162 sz3 hA rfl (by kernel_rfl)) rfl fun a hA => 
    stp hA (r_fd (k := 6) Tryd.underlying96 rfl sz3 hA rfl rfl) rfl fun a hA => 
    stp hA (r_ld1 (j := 0) [[.int .i64 x0.Halving], [.int .i64 x0.Maturity], [.int .i64 x0.PoolBytes], [.int .i64 x0.RedoBytes], [.int .i64 x0.LogMost], [.int .i64 x0.Ancestors]] [[.int .i64 x0.Descendants], [.int .i64 x0.DescendantBytes]] Tryd.underlying3 rfl hI rfl hA rfl rfl) rfl fun a hA => 
    stp hA (r_bldA (cs := [av .i64 3 ([x0.AncestorBytes, 1, 16777216])].flatten.toArray) zr162 Tryd.underlying162 sz3 hA rfl (by kernel_rfl)) rfl fun a hA => 
    stp hA (r_fd (k := 8) Tryd.underlying96 rfl sz3 hA rfl rfl) rfl fun a hA => 
    stp hA (r_ld1 (j := 0) [[.int .i64 x0.Halving], [.int .i64 x0.Maturity], [.int .i64 x0.PoolBytes], [.int .i64 x0.RedoBytes], [.int .i64 x0.LogMost], [.int .i64 x0.Ancestors], [.int .i64 x0.AncestorBytes], [.int .i64 x0.Descendants]] [] Tryd.underlying3 rfl hI rfl hA rfl rfl) rfl fun a hA => 
    stp hA (r_bldA (cs := [av .i64 3 ([x0.DescendantBytes, 1, 16777216])].flatten.toArray) zr162 Tryd.underlying162 sz3 hA rfl (by kernel_rfl)) rfl fun a hA => ?_
  have hE1 : Els (RA .i64 3) 3 ([[x0.Halving, 1, 1048576], [x0.Maturity, 0, 1000], [x0.PoolBytes, 1, 16777216], [x0.RedoBytes, 1, 16777216], [x0.LogMost, 1, 65536], [x0.Ancestors, 1, 1000], [x0.Descendants, 1, 1000], [x0.AncestorBytes, 1, 16777216], [x0.DescendantBytes, 1, 16777216]] : List (List Int)) ([av .i64 3 ([x0.Halving, 1, 1048576])].flatten ++ ([av .i64 3 ([x0.Maturity, 0, 1000])].flatten ++ ([av .i64 3 ([x0.PoolBytes, 1, 16777216])].flatten ++ ([av .i64 3 ([x0.RedoBytes, 1, 16777216])].flatten ++ ([av .i64 3 ([x0.LogMost, 1, 65536])].flatten ++ ([av .i64 3 ([x0.Ancestors, 1, 1000])].flatten ++ ([av .i64 3 ([x0.Descendants, 1, 1000])].flatten ++ ([av .i64 3 ([x0.AncestorBytes, 1, 16777216])].flatten ++ ([av .i64 3 ([x0.DescendantBytes, 1, 16777216])].flatten ++ ([])))))))))) := (Els.cons (c := [av .i64 3 ([x0.Halving, 1, 1048576])].flatten) ⟨rfl, (arr_lit rfl (by simp only [List.forall_mem_cons]; exact ⟨hx0.1, (in_lit .i64 1 rfl), (in_lit .i64 1048576 rfl), by simp⟩))⟩ rfl (Els.cons (c := [av .i64 3 ([x0.Maturity, 0, 1000])].flatten) ⟨rfl, (arr_lit rfl (by simp only [List.forall_mem_cons]; exact ⟨hx0.2.1, (in_lit .i64 0 rfl), (in_lit .i64 1000 rfl), by simp⟩))⟩ rfl (Els.cons (c := [av .i64 3 ([x0.PoolBytes, 1, 16777216])].flatten) ⟨rfl, (arr_lit rfl (by simp only [List.forall_mem_cons]; exact ⟨hx0.2.2.1, (in_lit .i64 1 rfl), (in_lit .i64 16777216 rfl), by simp⟩))⟩ rfl (Els.cons (c := [av .i64 3 ([x0.RedoBytes, 1, 16777216])].flatten) ⟨rfl, (arr_lit rfl (by simp only [List.forall_mem_cons]; exact ⟨hx0.2.2.2.1, (in_lit .i64 1 rfl), (in_lit .i64 16777216 rfl), by simp⟩))⟩ rfl (Els.cons (c := [av .i64 3 ([x0.LogMost, 1, 65536])].flatten) ⟨rfl, (arr_lit rfl (by simp only [List.forall_mem_cons]; exact ⟨hx0.2.2.2.2.1, (in_lit .i64 1 rfl), (in_lit .i64 65536 rfl), by simp⟩))⟩ rfl (Els.cons (c := [av .i64 3 ([x0.Ancestors, 1, 1000])].flatten) ⟨rfl, (arr_lit rfl (by simp only [List.forall_mem_cons]; exact ⟨hx0.2.2.2.2.2.1, (in_lit .i64 1 rfl), (in_lit .i64 1000 rfl), by simp⟩))⟩ rfl (Els.cons (c := [av .i64 3 ([x0.Descendants, 1, 1000])].flatten) ⟨rfl, (arr_lit rfl (by simp only [List.forall_mem_cons]; exact ⟨hx0.2.2.2.2.2.2.2.1, (in_lit .i64 1 rfl), (in_lit .i64 1000 rfl), by simp⟩))⟩ rfl (Els.cons (c := [av .i64 3 ([x0.AncestorBytes, 1, 16777216])].flatten) ⟨rfl, (arr_lit rfl (by simp only [List.forall_mem_cons]; exact ⟨hx0.2.2.2.2.2.2.1, (in_lit .i64 1 rfl), (in_lit .i64 16777216 rfl), by simp⟩))⟩ rfl (Els.cons (c := [av .i64 3 ([x0.DescendantBytes, 1, 16777216])].flatten) ⟨rfl, (arr_lit rfl (by simp only [List.forall_mem_cons]; exact ⟨hx0.2.2.2.2.2.2.2.2, (in_lit .i64 1 rfl), (in_lit .i64 16777216 rfl), by simp⟩))⟩ rfl Els.nil)))))))))
  refine o_bsl ([av .i64 3 ([x0.Halving, 1, 1048576])].flatten ++ ([av .i64 3 ([x0.Maturity, 0, 1000])].flatten ++ ([av .i64 3 ([x0.PoolBytes, 1, 16777216])].flatten ++ ([av .i64 3 ([x0.RedoBytes, 1, 16777216])].flatten ++ ([av .i64 3 ([x0.LogMost, 1, 65536])].flatten ++ ([av .i64 3 ([x0.Ancestors, 1, 1000])].flatten ++ ([av .i64 3 ([x0.Descendants, 1, 1000])].flatten ++ ([av .i64 3 ([x0.AncestorBytes, 1, 16777216])].flatten ++ ([av .i64 3 ([x0.DescendantBytes, 1, 16777216])].flatten ++ ([])))))))))) te162 zr162 Tryd.underlying163 hI hA rfl rfl rfl rfl (by kernel_rfl) rfl fun g2 a w hA hI => ?_
  generalize hcs : ([av .i64 3 ([x0.Halving, 1, 1048576])].flatten ++ ([av .i64 3 ([x0.Maturity, 0, 1000])].flatten ++ ([av .i64 3 ([x0.PoolBytes, 1, 16777216])].flatten ++ ([av .i64 3 ([x0.RedoBytes, 1, 16777216])].flatten ++ ([av .i64 3 ([x0.LogMost, 1, 65536])].flatten ++ ([av .i64 3 ([x0.Ancestors, 1, 1000])].flatten ++ ([av .i64 3 ([x0.Descendants, 1, 1000])].flatten ++ ([av .i64 3 ([x0.AncestorBytes, 1, 16777216])].flatten ++ ([av .i64 3 ([x0.DescendantBytes, 1, 16777216])].flatten ++ ([]))))))))) : List Value) = cs1 at hE1 hI
  clear hcs
  have hlen1 := Iv.row_in hI (j := 0) rfl
  refine stp hA (r_rlen (xs := 0) Tryd.underlying163 hI (j := 0) rfl hA rfl) rfl fun a hA => 
    stp hA (r_mv hA rfl) rfl fun a hA => ?_
  refine o_nil ?_
  refine hN3 _ _ ?_
  refine w_block ?_
  obtain ⟨z1, hz1, Hk1⟩ := bind_some H
  obtain ⟨n1, hn1⟩ := loopO_some hz1
  refine w_loop (fun n a w => ∃ (s1 : Int), loopN (value_Rules.s0 x0) n s1 = some z1 ∧ InR .i64 s1 ∧ Fr a 52 [(0, .agg [[.int .i64 x0.Halving], [.int .i64 x0.Maturity], [.int .i64 x0.PoolBytes], [.int .i64 x0.RedoBytes], [.int .i64 x0.LogMost], [.int .i64 x0.Ancestors], [.int .i64 x0.AncestorBytes], [.int .i64 x0.Descendants], [.int .i64 x0.DescendantBytes]].flatten.toArray), (1, .pointer (some ⟨g1, 0, none⟩)), (2, .nilIface), (32, (.slice (some ⟨g2, 0, none⟩) 9 9)), (33, .int .i64 (([[x0.Halving, 1, 1048576], [x0.Maturity, 0, 1000], [x0.PoolBytes, 1, 16777216], [x0.RedoBytes, 1, 16777216], [x0.LogMost, 1, 65536], [x0.Ancestors, 1, 1000], [x0.Descendants, 1, 1000], [x0.AncestorBytes, 1, 16777216], [x0.DescendantBytes, 1, 16777216]] : List (List Int)).length : Int)), (34, .int .i64 s1)] ∧ Iv w0 [] μ μ [row 162 3 (.slice (some ⟨g2, 0, none⟩) 9 9) ([[x0.Halving, 1, 1048576], [x0.Maturity, 0, 1000], [x0.PoolBytes, 1, 16777216], [x0.RedoBytes, 1, 16777216], [x0.LogMost, 1, 65536], [x0.Ancestors, 1, 1000], [x0.Descendants, 1, 1000], [x0.AncestorBytes, 1, 16777216], [x0.DescendantBytes, 1, 16777216]] : List (List Int)).length cs1, cel g1 [[.int .i64 x0.Halving], [.int .i64 x0.Maturity], [.int .i64 x0.PoolBytes], [.int .i64 x0.RedoBytes], [.int .i64 x0.LogMost], [.int .i64 x0.Ancestors], [.int .i64 x0.AncestorBytes], [.int .i64 x0.Descendants], [.int .i64 x0.DescendantBytes]] 96] w) n1 ⟨0, hn1, (in_lit .i64 0 rfl), hA.sub ⟨rfl, rfl, rfl, rfl, rfl, rfl, trivial⟩, hI⟩ ?_
  clear hA hI
  rintro n a w ⟨s1, hn1, ws1, hA, hI⟩
  obtain ⟨m1, rfl, H⟩ := loopN_bind hn1
  clear hn1
  refine w_seq fun _ hN4 => ?_
  refine w_reg ?_
  refine stp hA (r_lss hA rfl rfl) rfl fun a hA => ?_
  refine o_nil ?_
  refine hN4 _ _ ?_
  refine w_seq fun _ hN5 => ?_
  refine w_cond hA rfl (fun hc1 => ?_) (fun hc1 => ?_)
  · have hc10 := hc1; have hc1 := of_decide_eq_true hc1; have H := bT H hc1
    refine w_skip ?_
    refine hN5 _ _ ?_
    refine w_seq fun _ hN6 => ?_
    refine w_block ?_
    refine w_seq fun _ hN7 => ?_
    refine w_reg ?_
    obtain ⟨hb1, H⟩ := bG H
    refine stp hA (r_rix (j := 0) Tryd.underlying163 sz162 hI rfl hA rfl rfl hb1.1 hb1.2) rfl fun a hA => ?_
    obtain ⟨A1, _, B1, hc2, hl1, _, he1⟩ := Els.at_ hE1 (getD_some [] hb1.1 hb1.2)
    obtain ⟨rfl, hw1⟩ := he1
    refine stp hA (r_rldP (j := 0) (q := s1.toNat * 3) (off := 0) A1 B1 [] [av .i64 3 (([[x0.Halving, 1, 1048576], [x0.Maturity, 0, 1000], [x0.PoolBytes, 1, 16777216], [x0.RedoBytes, 1, 16777216], [x0.LogMost, 1, 65536], [x0.Ancestors, 1, 1000], [x0.Descendants, 1, 1000], [x0.AncestorBytes, 1, 16777216], [x0.DescendantBytes, 1, 16777216]] : List (List Int)).getD s1.toNat [])] [] hc2 hl1 rfl Tryd.underlying162 rfl sz162 rfl hI rfl hA rfl) rfl fun a hA => 
      o_new [av .i64 3 (List.replicate 3 0)] zr162 hI hA rfl fun g3 a w hA hI hg3 => 
      o_st (j := 0) [] [av .i64 3 (List.replicate 3 0)] [av .i64 3 (([[x0.Halving, 1, 1048576], [x0.Maturity, 0, 1000], [x0.PoolBytes, 1, 16777216], [x0.RedoBytes, 1, 16777216], [x0.LogMost, 1, 65536], [x0.Ancestors, 1, 1000], [x0.Descendants, 1, 1000], [x0.AncestorBytes, 1, 16777216], [x0.DescendantBytes, 1, 16777216]] : List (List Int)).getD s1.toNat [])] [] sz162 rfl rfl (fl_cons (one_av _ _ _) fl_nil) hI rfl hA rfl rfl rfl rfl fun w hI => ?_
    refine o_nil ?_
    refine hN7 _ _ ?_
    obtain ⟨c1, hz2, Hk2⟩ := bB H
    refine w_cut (fun a w => Fr a 52 [(0, .agg [[.int .i64 x0.Halving], [.int .i64 x0.Maturity], [.int .i64 x0.PoolBytes], [.int .i64 x0.RedoBytes], [.int .i64 x0.LogMost], [.int .i64 x0.Ancestors], [.int .i64 x0.AncestorBytes], [.int .i64 x0.Descendants], [.int .i64 x0.DescendantBytes]].flatten.toArray), (1, .pointer (some ⟨g1, 0, none⟩)), (2, .nilIface), (4, .pointer (some ⟨g3, 0, none⟩)), (32, (.slice (some ⟨g2, 0, none⟩) 9 9)), (33, .int .i64 (([[x0.Halving, 1, 1048576], [x0.Maturity, 0, 1000], [x0.PoolBytes, 1, 16777216], [x0.RedoBytes, 1, 16777216], [x0.LogMost, 1, 65536], [x0.Ancestors, 1, 1000], [x0.Descendants, 1, 1000], [x0.AncestorBytes, 1, 16777216], [x0.DescendantBytes, 1, 16777216]] : List (List Int)).length : Int)), (34, .int .i64 s1), (35, .bool (decide (s1 < (([[x0.Halving, 1, 1048576], [x0.Maturity, 0, 1000], [x0.PoolBytes, 1, 16777216], [x0.RedoBytes, 1, 16777216], [x0.LogMost, 1, 65536], [x0.Ancestors, 1, 1000], [x0.Descendants, 1, 1000], [x0.AncestorBytes, 1, 16777216], [x0.DescendantBytes, 1, 16777216]] : List (List Int)).length : Int)))), (49, .bool c1)] ∧ Iv w0 [] μ μ [cel g3 [av .i64 3 (([[x0.Halving, 1, 1048576], [x0.Maturity, 0, 1000], [x0.PoolBytes, 1, 16777216], [x0.RedoBytes, 1, 16777216], [x0.LogMost, 1, 65536], [x0.Ancestors, 1, 1000], [x0.Descendants, 1, 1000], [x0.AncestorBytes, 1, 16777216], [x0.DescendantBytes, 1, 16777216]] : List (List Int)).getD s1.toNat [])] 162, row 162 3 (.slice (some ⟨g2, 0, none⟩) 9 9) ([[x0.Halving, 1, 1048576], [x0.Maturity, 0, 1000], [x0.PoolBytes, 1, 16777216], [x0.RedoBytes, 1, 16777216], [x0.LogMost, 1, 65536], [x0.Ancestors, 1, 1000], [x0.Descendants, 1, 1000], [x0.AncestorBytes, 1, 16777216], [x0.DescendantBytes, 1, 16777216]] : List (List Int)).length cs1, cel g1 [[.int .i64 x0.Halving], [.int .i64 x0.Maturity], [.int .i64 x0.PoolBytes], [.int .i64 x0.RedoBytes], [.int .i64 x0.LogMost], [.int .i64 x0.Ancestors], [.int .i64 x0.AncestorBytes], [.int .i64 x0.Descendants], [.int .i64 x0.DescendantBytes]] 96] w) ?_ ?_
    · have H := bI hz2
      refine w_reg ?_
      refine stp hA (r_ixar1 Tryd.underlying162 sz3 hA rfl rfl (by decide) (by decide)) rfl fun a hA => 
        stp hA (r_ldE (j := 0) [] [] Tryd.underlying3 rfl hI rfl hA rfl rfl (by decide)) rfl fun a hA => 
        stp hA (r_ixar1 Tryd.underlying162 sz3 hA rfl rfl (by decide) (by decide)) rfl fun a hA => 
        stp hA (r_ldE (j := 0) [] [] Tryd.underlying3 rfl hI rfl hA rfl rfl (by decide)) rfl fun a hA => 
        stp hA (r_lss hA rfl rfl) rfl fun a hA => 
        stp hA (r_mv hA rfl) rfl fun a hA => ?_
      rcases Bool.eq_false_or_eq_true (decide (((([[x0.Halving, 1, 1048576], [x0.Maturity, 0, 1000], [x0.PoolBytes, 1, 16777216], [x0.RedoBytes, 1, 16777216], [x0.LogMost, 1, 65536], [x0.Ancestors, 1, 1000], [x0.Descendants, 1, 1000], [x0.AncestorBytes, 1, 16777216], [x0.DescendantBytes, 1, 16777216]] : List (List Int)).getD s1.toNat []).getD (0 : Int).toNat 0) < ((([[x0.Halving, 1, 1048576], [x0.Maturity, 0, 1000], [x0.PoolBytes, 1, 16777216], [x0.RedoBytes, 1, 16777216], [x0.LogMost, 1, 65536], [x0.Ancestors, 1, 1000], [x0.Descendants, 1, 1000], [x0.AncestorBytes, 1, 16777216], [x0.DescendantBytes, 1, 16777216]] : List (List Int)).getD s1.toNat []).getD (1 : Int).toNat 0))) with hc3 | hc3
      · have hc30 := hc3; have hc3 := of_decide_eq_true hc3; have H := bT H hc3
        refine o_no hA rfl rfl (by rw [hc30]; simp [vb]) rfl fun a hA => 
          o_no hA rfl rfl (by rw [hc30]; simp [vb]) rfl fun a hA => 
          o_no hA rfl rfl (by rw [hc30]; simp [vb]) rfl fun a hA => 
          o_no hA rfl rfl (by rw [hc30]; simp [vb]) rfl fun a hA => 
          o_no hA rfl rfl (by rw [hc30]; simp [vb]) rfl fun a hA => 
          stp hA (r_pick_t hA rfl hc30 rfl) rfl fun a hA => ?_
        refine o_nil ?_
        cases Option.some.inj (bS H)
        exact ⟨hA.sub ⟨rfl, rfl, rfl, rfl, rfl, rfl, rfl, rfl, rfl, trivial⟩, hI⟩
      · have hc30 := hc3; have hc3 := of_decide_eq_false hc3; have H := bF H hc3
        refine o_yes hA rfl rfl hc30 <| 
          stp hA (r_ixar1 Tryd.underlying162 sz3 hA rfl rfl (by decide) (by decide)) rfl fun a hA => 
          o_yes hA rfl rfl hc30 <| 
          stp hA (r_ldE (j := 0) [] [] Tryd.underlying3 rfl hI rfl hA rfl rfl (by decide)) rfl fun a hA => 
          o_yes hA rfl rfl hc30 <| 
          stp hA (r_ixar1 Tryd.underlying162 sz3 hA rfl rfl (by decide) (by decide)) rfl fun a hA => 
          o_yes hA rfl rfl hc30 <| 
          stp hA (r_ldE (j := 0) [] [] Tryd.underlying3 rfl hI rfl hA rfl rfl (by decide)) rfl fun a hA => 
          o_yes hA rfl rfl hc30 <| 
          stp hA (r_gtr hA rfl rfl) rfl fun a hA => 
          stp hA (r_pick_f hA rfl hc30 rfl) rfl fun a hA => ?_
        refine o_nil ?_
        cases Option.some.inj (bS H)
        exact ⟨hA.sub ⟨rfl, rfl, rfl, rfl, rfl, rfl, rfl, rfl, rfl, trivial⟩, hI⟩
    · rintro a w ⟨hA, hI⟩
      have H := Hk2
      refine w_cond hA rfl (fun hc4 => ?_) (fun hc4 => ?_)
      · have hc40 := hc4; have H := bT H hc4
        refine w_seq fun _ hN8 => ?_
        refine w_reg ?_
        refine stp hA (r_ldG Tryd.underlying34 rfl hI.agr he6 hA) rfl fun a hA => 
          stp hA (r_as hA rfl) rfl fun a hA => ?_
        refine o_nil ?_
        refine hN8 _ _ ?_
        refine w_ret ?_
        have H : some xErrRange = some z1 := H
        obtain rfl := Option.some.inj H
        have H := Hk1
        obtain rfl := Option.some.inj (bS H)
        exact ret1 hA Tryd.results69 rfl ⟨_, rfl, e6, μ, rfl, he6, (hI.sel [] (by decide) rfl)⟩
      · have hc40 := hc4; have hc4 := ft hc4; have H := bF H hc4
        refine w_skip ?_
        refine hN6 _ _ ?_
        refine w_reg ?_
        refine stp hA (r_add hA rfl rfl) rfl fun a hA => 
          stp hA (r_mv hA rfl) rfl fun a hA => ?_
        refine o_nil ?_
        exact ⟨m1, Nat.lt_succ_self _, IntKind.i64.wrap (s1 + 1), H, (wrap_in _ _), hA.sub ⟨rfl, rfl, rfl, rfl, rfl, rfl, trivial⟩, (hI.sel [1, 2] (by decide) rfl)⟩
  · have hc10 := hc1; have hc1 := of_decide_eq_false hc1; have H := bF H hc1
    refine w_exit rfl ?_
    refine hN2 _ _ ?_
    refine w_seq fun _ hN9 => ?_
    refine w_reg ?_
    refine stp hA (r_as hA rfl) rfl fun a hA => ?_
    refine o_nil ?_
    refine hN9 _ _ ?_
    refine w_ret ?_
    have H : some (Er.b 0) = some z1 := H
    obtain rfl := Option.some.inj H
    have H := Hk1
    obtain rfl := Option.some.inj (bS H)
    exact ret1 hA Tryd.results69 rfl ⟨_, rfl, .nilIface, μ, rfl, erv_nil, (hI.sel [] (by decide) rfl)⟩
end Go.Proofs.YtpeelghbhihgkaaDoor.T
namespace Go.Proofs.YtpeelghbhihgkaaDoor.T
open Go Go.Proofs Go.Proofs.YtpeelghbhihgkaaDoor.K
set_option linter.unusedVariables false
set_option linter.unusedSimpArgs false
noncomputable def sargassolaw15_first.f : Option Bool := ((((value_Reward.f 0 10).bind fun r1 => (if r1 = 5000000000 then ((value_Reward.f 10 10).bind fun r2 => some (decide (r2 = 2500000000))) else some false))).bind fun c1 => some c1)
noncomputable def sargassolaw15_with.f (x0 : Rules) (x1 : Int) (x2 : Int) : Option Rules := (((if x1 = 0 then some (x2, x0.Maturity, x0.PoolBytes, x0.RedoBytes, x0.LogMost, x0.Ancestors, x0.AncestorBytes, x0.Descendants, x0.DescendantBytes) else (if x1 = 1 then some (x0.Halving, x2, x0.PoolBytes, x0.RedoBytes, x0.LogMost, x0.Ancestors, x0.AncestorBytes, x0.Descendants, x0.DescendantBytes) else (if x1 = 2 then some (x0.Halving, x0.Maturity, x2, x0.RedoBytes, x0.LogMost, x0.Ancestors, x0.AncestorBytes, x0.Descendants, x0.DescendantBytes) else (if x1 = 3 then some (x0.Halving, x0.Maturity, x0.PoolBytes, x2, x0.LogMost, x0.Ancestors, x0.AncestorBytes, x0.Descendants, x0.DescendantBytes) else (if x1 = 4 then some (x0.Halving, x0.Maturity, x0.PoolBytes, x0.RedoBytes, x2, x0.Ancestors, x0.AncestorBytes, x0.Descendants, x0.DescendantBytes) else (if x1 = 5 then some (x0.Halving, x0.Maturity, x0.PoolBytes, x0.RedoBytes, x0.LogMost, x2, x0.AncestorBytes, x0.Descendants, x0.DescendantBytes) else (if x1 = 6 then some (x0.Halving, x0.Maturity, x0.PoolBytes, x0.RedoBytes, x0.LogMost, x0.Ancestors, x2, x0.Descendants, x0.DescendantBytes) else (if x1 = 7 then some (x0.Halving, x0.Maturity, x0.PoolBytes, x0.RedoBytes, x0.LogMost, x0.Ancestors, x0.AncestorBytes, x2, x0.DescendantBytes) else some (x0.Halving, x0.Maturity, x0.PoolBytes, x0.RedoBytes, x0.LogMost, x0.Ancestors, x0.AncestorBytes, x0.Descendants, x2)))))))))).bind fun (c1, c2, c3, c4, c5, c6, c7, c8, c9) => some (⟨c1, c2, c3, c4, c5, c6, c7, c8, c9⟩ : Rules))
end Go.Proofs.YtpeelghbhihgkaaDoor.T
namespace Go.Proofs.YtpeelghbhihgkaaDoor.T
open Go Go.Proofs Go.Proofs.YtpeelghbhihgkaaDoor.K
set_option linter.unusedVariables false
set_option linter.unusedSimpArgs false
set_option maxRecDepth 20000 in
theorem sargassolaw15_first.c (μ : Store) (w0 : World) (hμ : Agr μ w0) (r : Bool) (H : sargassolaw15_first.f = some r) :
    Calls Tryd.prog 67 [].toArray w0 (fun e w' => ∃ v, e = .returned v ∧ v = .bool r ∧ True ∧ Iv w0 [] μ μ [] w') := by
  refine enter Tryd.func67 rfl Tryd.ntmps67 rfl fun a hA => ?_
  have hI := Iv.start hμ
  have H := bI H
  refine w_seq fun _ hN1 => ?_
  refine w_reg ?_
  refine stp hA (r_as hA rfl) rfl fun a hA => ?_
  refine o_nil ?_
  refine hN1 _ _ ?_
  obtain ⟨c1, hz1, Hk1⟩ := bB H
  refine w_cut (fun a w => Fr a 7 [(0, .bool c1)] ∧ Iv w0 [] μ μ [] w) ?_ ?_
  · have H := bI hz1
    refine w_reg ?_
    obtain ⟨r1, hr1, H⟩ := bB H
    refine o_callp (u := .int .u64 r1) cf77 hA rfl hI (value_Reward.c μ _ hI.agr 0 (in_lit .i64 0 rfl) 10 (in_lit .i64 10 rfl) r1 hr1) rfl fun a w hz2 hI hA => 
      stp hA (r_eql hA rfl rfl) rfl fun a hA => 
      stp hA (r_mv hA rfl) rfl fun a hA => ?_
    rcases Bool.eq_false_or_eq_true (decide (r1 = 5000000000)) with hc1 | hc1
    · have hc10 := hc1; have hc1 := of_decide_eq_true hc1; have H := bT H hc1
      refine o_yes hA rfl rfl hc10 <| ?_
      obtain ⟨r2, hr2, H⟩ := bB H
      refine o_callp (u := .int .u64 r2) cf77 hA rfl hI (value_Reward.c μ _ hI.agr 10 (in_lit .i64 10 rfl) 10 (in_lit .i64 10 rfl) r2 hr2) rfl fun a w hz3 hI hA => 
        o_yes hA rfl rfl hc10 <| 
        stp hA (r_eql hA rfl rfl) rfl fun a hA => 
        stp hA (r_pick_t hA rfl hc10 rfl) rfl fun a hA => 
        stp hA (r_as hA rfl) rfl fun a hA => ?_
      refine o_nil ?_
      cases Option.some.inj (bS H)
      exact ⟨hA.sub ⟨rfl, trivial⟩, hI⟩
    · have hc10 := hc1; have hc1 := of_decide_eq_false hc1; have H := bF H hc1
      refine o_no hA rfl rfl (by rw [hc10]; simp [vb]) rfl fun a hA => 
        o_no hA rfl rfl (by rw [hc10]; simp [vb]) rfl fun a hA => 
        stp hA (r_pick_f hA rfl hc10 rfl) rfl fun a hA => 
        stp hA (r_as hA rfl) rfl fun a hA => ?_
      refine o_nil ?_
      cases Option.some.inj (bS H)
      exact ⟨hA.sub ⟨rfl, trivial⟩, hI⟩
  · rintro a w ⟨hA, hI⟩
    have H := Hk1
    refine w_ret ?_
    obtain rfl := Option.some.inj (bS H)
    exact ret1 hA Tryd.results67 rfl ⟨_, rfl, rfl, trivial, hI.forget0⟩
set_option maxRecDepth 20000 in
theorem sargassolaw15_with.c (μ : Store) (w0 : World) (hμ : Agr μ w0) (x0 : Rules) (hx0 : RulesW μ x0) (x1 : Int) (hx1 : InR .i64 x1) (x2 : Int) (hx2 : InR .i64 x2) (r : Rules) (H : sargassolaw15_with.f x0 x1 x2 = some r) :
    Calls Tryd.prog 70 [.agg [[.int .i64 x0.Halving], [.int .i64 x0.Maturity], [.int .i64 x0.PoolBytes], [.int .i64 x0.RedoBytes], [.int .i64 x0.LogMost], [.int .i64 x0.Ancestors], [.int .i64 x0.AncestorBytes], [.int .i64 x0.Descendants], [.int .i64 x0.DescendantBytes]].flatten.toArray, .int .i64 x1, .int .i64 x2].toArray w0 (fun e w' => ∃ v, e = .returned v ∧ v = .agg [[.int .i64 r.Halving], [.int .i64 r.Maturity], [.int .i64 r.PoolBytes], [.int .i64 r.RedoBytes], [.int .i64 r.LogMost], [.int .i64 r.Ancestors], [.int .i64 r.AncestorBytes], [.int .i64 r.Descendants], [.int .i64 r.DescendantBytes]].flatten.toArray ∧ RulesW μ r ∧ Iv w0 [] μ μ [] w') := by
  refine enter Tryd.func70 rfl Tryd.ntmps70 rfl fun a hA => ?_
  have hI := Iv.start hμ
  have H := bI H
  refine w_seq fun _ hN1 => ?_
  refine w_reg ?_
  refine o_box [[.int .i64 x0.Halving], [.int .i64 x0.Maturity], [.int .i64 x0.PoolBytes], [.int .i64 x0.RedoBytes], [.int .i64 x0.LogMost], [.int .i64 x0.Ancestors], [.int .i64 x0.AncestorBytes], [.int .i64 x0.Descendants], [.int .i64 x0.DescendantBytes]] hI hA rfl rfl rfl fun g1 a w hA hI hg1 => 
    o_new [[.int .i64 0], [.int .i64 0], [.int .i64 0], [.int .i64 0], [.int .i64 0], [.int .i64 0], [.int .i64 0], [.int .i64 0], [.int .i64 0]] zr96 hI hA rfl fun g2 a w hA hI hg2 => ?_
  refine o_nil ?_
  refine hN1 _ _ ?_
  obtain ⟨⟨c1, c2, c3, c4, c5, c6, c7, c8, c9⟩, hz1, Hk1⟩ := bB H
  refine w_cut (fun a w => InR .i64 c1 ∧ InR .i64 c2 ∧ InR .i64 c3 ∧ InR .i64 c4 ∧ InR .i64 c5 ∧ InR .i64 c6 ∧ InR .i64 c7 ∧ InR .i64 c8 ∧ InR .i64 c9 ∧ Fr a 43 [(0, .agg [[.int .i64 x0.Halving], [.int .i64 x0.Maturity], [.int .i64 x0.PoolBytes], [.int .i64 x0.RedoBytes], [.int .i64 x0.LogMost], [.int .i64 x0.Ancestors], [.int .i64 x0.AncestorBytes], [.int .i64 x0.Descendants], [.int .i64 x0.DescendantBytes]].flatten.toArray), (1, .int .i64 x1), (2, .int .i64 x2), (3, .pointer (some ⟨g1, 0, none⟩)), (6, .pointer (some ⟨g2, 0, none⟩))] ∧ Iv w0 [] μ μ [cel g2 [[.int .i64 0], [.int .i64 0], [.int .i64 0], [.int .i64 0], [.int .i64 0], [.int .i64 0], [.int .i64 0], [.int .i64 0], [.int .i64 0]] 96, cel g1 [[.int .i64 c1], [.int .i64 c2], [.int .i64 c3], [.int .i64 c4], [.int .i64 c5], [.int .i64 c6], [.int .i64 c7], [.int .i64 c8], [.int .i64 c9]] 96] w) ?_ ?_
  · have H := bI hz1
    refine w_seq fun _ hN2 => ?_
    refine w_reg ?_
    refine stp hA (r_mv hA rfl) rfl fun a hA => ?_
    refine o_nil ?_
    refine hN2 _ _ ?_
    refine w_block ?_
    refine w_seq fun _ hN3 => ?_
    refine w_reg ?_
    refine stp hA (r_eql hA rfl rfl) rfl fun a hA => 
      stp hA (r_as hA rfl) rfl fun a hA => ?_
    refine o_nil ?_
    refine hN3 _ _ ?_
    refine w_cond hA rfl (fun hc1 => ?_) (fun hc1 => ?_)
    · have hc10 := hc1; have hc1 := of_decide_eq_true hc1; have H := bT H hc1
      refine w_reg ?_
      refine stp hA (r_mv hA rfl) rfl fun a hA => 
        stp hA (r_fd (k := 0) Tryd.underlying96 rfl sz3 hA rfl rfl) rfl fun a hA => 
        o_st (j := 1) [] [[.int .i64 x0.Halving]] [[.int .i64 x2]] [[.int .i64 x0.Maturity], [.int .i64 x0.PoolBytes], [.int .i64 x0.RedoBytes], [.int .i64 x0.LogMost], [.int .i64 x0.Ancestors], [.int .i64 x0.AncestorBytes], [.int .i64 x0.Descendants], [.int .i64 x0.DescendantBytes]] sz3 rfl rfl (fl_cons (one_one rfl) fl_nil) hI rfl hA rfl rfl rfl rfl fun w hI => ?_
      refine o_nil ?_
      cases Option.some.inj (bS H)
      exact ⟨hx2, hx0.2.1, hx0.2.2.1, hx0.2.2.2.1, hx0.2.2.2.2.1, hx0.2.2.2.2.2.1, hx0.2.2.2.2.2.2.1, hx0.2.2.2.2.2.2.2.1, hx0.2.2.2.2.2.2.2.2, hA.sub ⟨rfl, rfl, rfl, rfl, rfl, trivial⟩, hI⟩
    · have hc10 := hc1; have hc1 := of_decide_eq_false hc1; have H := bF H hc1
      refine w_seq fun _ hN4 => ?_
      refine w_reg ?_
      refine stp hA (r_eql hA rfl rfl) rfl fun a hA => 
        stp hA (r_as hA rfl) rfl fun a hA => ?_
      refine o_nil ?_
      refine hN4 _ _ ?_
      refine w_cond hA rfl (fun hc2 => ?_) (fun hc2 => ?_)
      · have hc20 := hc2; have hc2 := of_decide_eq_true hc2; have H := bT H hc2
        refine w_reg ?_
        refine stp hA (r_mv hA rfl) rfl fun a hA => 
          stp hA (r_fd (k := 1) Tryd.underlying96 rfl sz3 hA rfl rfl) rfl fun a hA => 
          o_st (j := 1) [[.int .i64 x0.Halving]] [[.int .i64 x0.Maturity]] [[.int .i64 x2]] [[.int .i64 x0.PoolBytes], [.int .i64 x0.RedoBytes], [.int .i64 x0.LogMost], [.int .i64 x0.Ancestors], [.int .i64 x0.AncestorBytes], [.int .i64 x0.Descendants], [.int .i64 x0.DescendantBytes]] sz3 rfl rfl (fl_cons (one_one rfl) fl_nil) hI rfl hA rfl rfl rfl rfl fun w hI => ?_
        refine o_nil ?_
        cases Option.some.inj (bS H)
        exact ⟨hx0.1, hx2, hx0.2.2.1, hx0.2.2.2.1, hx0.2.2.2.2.1, hx0.2.2.2.2.2.1, hx0.2.2.2.2.2.2.1, hx0.2.2.2.2.2.2.2.1, hx0.2.2.2.2.2.2.2.2, hA.sub ⟨rfl, rfl, rfl, rfl, rfl, trivial⟩, hI⟩
      · have hc20 := hc2; have hc2 := of_decide_eq_false hc2; have H := bF H hc2
        refine w_seq fun _ hN5 => ?_
        refine w_reg ?_
        refine stp hA (r_eql hA rfl rfl) rfl fun a hA => 
          stp hA (r_as hA rfl) rfl fun a hA => ?_
        refine o_nil ?_
        refine hN5 _ _ ?_
        refine w_cond hA rfl (fun hc3 => ?_) (fun hc3 => ?_)
        · have hc30 := hc3; have hc3 := of_decide_eq_true hc3; have H := bT H hc3
          refine w_reg ?_
          refine stp hA (r_mv hA rfl) rfl fun a hA => 
            stp hA (r_fd (k := 2) Tryd.underlying96 rfl sz3 hA rfl rfl) rfl fun a hA => 
            o_st (j := 1) [[.int .i64 x0.Halving], [.int .i64 x0.Maturity]] [[.int .i64 x0.PoolBytes]] [[.int .i64 x2]] [[.int .i64 x0.RedoBytes], [.int .i64 x0.LogMost], [.int .i64 x0.Ancestors], [.int .i64 x0.AncestorBytes], [.int .i64 x0.Descendants], [.int .i64 x0.DescendantBytes]] sz3 rfl rfl (fl_cons (one_one rfl) fl_nil) hI rfl hA rfl rfl rfl rfl fun w hI => ?_
          refine o_nil ?_
          cases Option.some.inj (bS H)
          exact ⟨hx0.1, hx0.2.1, hx2, hx0.2.2.2.1, hx0.2.2.2.2.1, hx0.2.2.2.2.2.1, hx0.2.2.2.2.2.2.1, hx0.2.2.2.2.2.2.2.1, hx0.2.2.2.2.2.2.2.2, hA.sub ⟨rfl, rfl, rfl, rfl, rfl, trivial⟩, hI⟩
        · have hc30 := hc3; have hc3 := of_decide_eq_false hc3; have H := bF H hc3
          refine w_seq fun _ hN6 => ?_
          refine w_reg ?_
          refine stp hA (r_eql hA rfl rfl) rfl fun a hA => 
            stp hA (r_as hA rfl) rfl fun a hA => ?_
          refine o_nil ?_
          refine hN6 _ _ ?_
          refine w_cond hA rfl (fun hc4 => ?_) (fun hc4 => ?_)
          · have hc40 := hc4; have hc4 := of_decide_eq_true hc4; have H := bT H hc4
            refine w_reg ?_
            refine stp hA (r_mv hA rfl) rfl fun a hA => 
              stp hA (r_fd (k := 3) Tryd.underlying96 rfl sz3 hA rfl rfl) rfl fun a hA => 
              o_st (j := 1) [[.int .i64 x0.Halving], [.int .i64 x0.Maturity], [.int .i64 x0.PoolBytes]] [[.int .i64 x0.RedoBytes]] [[.int .i64 x2]] [[.int .i64 x0.LogMost], [.int .i64 x0.Ancestors], [.int .i64 x0.AncestorBytes], [.int .i64 x0.Descendants], [.int .i64 x0.DescendantBytes]] sz3 rfl rfl (fl_cons (one_one rfl) fl_nil) hI rfl hA rfl rfl rfl rfl fun w hI => ?_
            refine o_nil ?_
            cases Option.some.inj (bS H)
            exact ⟨hx0.1, hx0.2.1, hx0.2.2.1, hx2, hx0.2.2.2.2.1, hx0.2.2.2.2.2.1, hx0.2.2.2.2.2.2.1, hx0.2.2.2.2.2.2.2.1, hx0.2.2.2.2.2.2.2.2, hA.sub ⟨rfl, rfl, rfl, rfl, rfl, trivial⟩, hI⟩
          · have hc40 := hc4; have hc4 := of_decide_eq_false hc4; have H := bF H hc4
            refine w_seq fun _ hN7 => ?_
            refine w_reg ?_
            refine stp hA (r_eql hA rfl rfl) rfl fun a hA => 
              stp hA (r_as hA rfl) rfl fun a hA => ?_
            refine o_nil ?_
            refine hN7 _ _ ?_
            refine w_cond hA rfl (fun hc5 => ?_) (fun hc5 => ?_)
            · have hc50 := hc5; have hc5 := of_decide_eq_true hc5; have H := bT H hc5
              refine w_reg ?_
              refine stp hA (r_mv hA rfl) rfl fun a hA => 
                stp hA (r_fd (k := 4) Tryd.underlying96 rfl sz3 hA rfl rfl) rfl fun a hA => 
                o_st (j := 1) [[.int .i64 x0.Halving], [.int .i64 x0.Maturity], [.int .i64 x0.PoolBytes], [.int .i64 x0.RedoBytes]] [[.int .i64 x0.LogMost]] [[.int .i64 x2]] [[.int .i64 x0.Ancestors], [.int .i64 x0.AncestorBytes], [.int .i64 x0.Descendants], [.int .i64 x0.DescendantBytes]] sz3 rfl rfl (fl_cons (one_one rfl) fl_nil) hI rfl hA rfl rfl rfl rfl fun w hI => ?_
              refine o_nil ?_
              cases Option.some.inj (bS H)
              exact ⟨hx0.1, hx0.2.1, hx0.2.2.1, hx0.2.2.2.1, hx2, hx0.2.2.2.2.2.1, hx0.2.2.2.2.2.2.1, hx0.2.2.2.2.2.2.2.1, hx0.2.2.2.2.2.2.2.2, hA.sub ⟨rfl, rfl, rfl, rfl, rfl, trivial⟩, hI⟩
            · have hc50 := hc5; have hc5 := of_decide_eq_false hc5; have H := bF H hc5
              refine w_seq fun _ hN8 => ?_
              refine w_reg ?_
              refine stp hA (r_eql hA rfl rfl) rfl fun a hA => 
                stp hA (r_as hA rfl) rfl fun a hA => ?_
              refine o_nil ?_
              refine hN8 _ _ ?_
              refine w_cond hA rfl (fun hc6 => ?_) (fun hc6 => ?_)
              · have hc60 := hc6; have hc6 := of_decide_eq_true hc6; have H := bT H hc6
                refine w_reg ?_
                refine stp hA (r_mv hA rfl) rfl fun a hA => 
                  stp hA (r_fd (k := 5) Tryd.underlying96 rfl sz3 hA rfl rfl) rfl fun a hA => 
                  o_st (j := 1) [[.int .i64 x0.Halving], [.int .i64 x0.Maturity], [.int .i64 x0.PoolBytes], [.int .i64 x0.RedoBytes], [.int .i64 x0.LogMost]] [[.int .i64 x0.Ancestors]] [[.int .i64 x2]] [[.int .i64 x0.AncestorBytes], [.int .i64 x0.Descendants], [.int .i64 x0.DescendantBytes]] sz3 rfl rfl (fl_cons (one_one rfl) fl_nil) hI rfl hA rfl rfl rfl rfl fun w hI => ?_
                refine o_nil ?_
                cases Option.some.inj (bS H)
                exact ⟨hx0.1, hx0.2.1, hx0.2.2.1, hx0.2.2.2.1, hx0.2.2.2.2.1, hx2, hx0.2.2.2.2.2.2.1, hx0.2.2.2.2.2.2.2.1, hx0.2.2.2.2.2.2.2.2, hA.sub ⟨rfl, rfl, rfl, rfl, rfl, trivial⟩, hI⟩
              · have hc60 := hc6; have hc6 := of_decide_eq_false hc6; have H := bF H hc6
                refine w_seq fun _ hN9 => ?_
                refine w_reg ?_
                refine stp hA (r_eql hA rfl rfl) rfl fun a hA => 
                  stp hA (r_as hA rfl) rfl fun a hA => ?_
                refine o_nil ?_
                refine hN9 _ _ ?_
                refine w_cond hA rfl (fun hc7 => ?_) (fun hc7 => ?_)
                · have hc70 := hc7; have hc7 := of_decide_eq_true hc7; have H := bT H hc7
                  refine w_reg ?_
                  refine stp hA (r_mv hA rfl) rfl fun a hA => 
                    stp hA (r_fd (k := 6) Tryd.underlying96 rfl sz3 hA rfl rfl) rfl fun a hA => 
                    o_st (j := 1) [[.int .i64 x0.Halving], [.int .i64 x0.Maturity], [.int .i64 x0.PoolBytes], [.int .i64 x0.RedoBytes], [.int .i64 x0.LogMost], [.int .i64 x0.Ancestors]] [[.int .i64 x0.AncestorBytes]] [[.int .i64 x2]] [[.int .i64 x0.Descendants], [.int .i64 x0.DescendantBytes]] sz3 rfl rfl (fl_cons (one_one rfl) fl_nil) hI rfl hA rfl rfl rfl rfl fun w hI => ?_
                  refine o_nil ?_
                  cases Option.some.inj (bS H)
                  exact ⟨hx0.1, hx0.2.1, hx0.2.2.1, hx0.2.2.2.1, hx0.2.2.2.2.1, hx0.2.2.2.2.2.1, hx2, hx0.2.2.2.2.2.2.2.1, hx0.2.2.2.2.2.2.2.2, hA.sub ⟨rfl, rfl, rfl, rfl, rfl, trivial⟩, hI⟩
                · have hc70 := hc7; have hc7 := of_decide_eq_false hc7; have H := bF H hc7
                  refine w_seq fun _ hN10 => ?_
                  refine w_reg ?_
                  refine stp hA (r_eql hA rfl rfl) rfl fun a hA => 
                    stp hA (r_as hA rfl) rfl fun a hA => ?_
                  refine o_nil ?_
                  refine hN10 _ _ ?_
                  refine w_cond hA rfl (fun hc8 => ?_) (fun hc8 => ?_)
                  · have hc80 := hc8; have hc8 := of_decide_eq_true hc8; have H := bT H hc8
                    refine w_reg ?_
                    refine stp hA (r_mv hA rfl) rfl fun a hA => 
                      stp hA (r_fd (k := 7) Tryd.underlying96 rfl sz3 hA rfl rfl) rfl fun a hA => 
                      o_st (j := 1) [[.int .i64 x0.Halving], [.int .i64 x0.Maturity], [.int .i64 x0.PoolBytes], [.int .i64 x0.RedoBytes], [.int .i64 x0.LogMost], [.int .i64 x0.Ancestors], [.int .i64 x0.AncestorBytes]] [[.int .i64 x0.Descendants]] [[.int .i64 x2]] [[.int .i64 x0.DescendantBytes]] sz3 rfl rfl (fl_cons (one_one rfl) fl_nil) hI rfl hA rfl rfl rfl rfl fun w hI => ?_
                    refine o_nil ?_
                    cases Option.some.inj (bS H)
                    exact ⟨hx0.1, hx0.2.1, hx0.2.2.1, hx0.2.2.2.1, hx0.2.2.2.2.1, hx0.2.2.2.2.2.1, hx0.2.2.2.2.2.2.1, hx2, hx0.2.2.2.2.2.2.2.2, hA.sub ⟨rfl, rfl, rfl, rfl, rfl, trivial⟩, hI⟩
                  · have hc80 := hc8; have hc8 := of_decide_eq_false hc8; have H := bF H hc8
                    refine w_reg ?_
                    refine stp hA (r_mv hA rfl) rfl fun a hA => 
                      stp hA (r_fd (k := 8) Tryd.underlying96 rfl sz3 hA rfl rfl) rfl fun a hA => 
                      o_st (j := 1) [[.int .i64 x0.Halving], [.int .i64 x0.Maturity], [.int .i64 x0.PoolBytes], [.int .i64 x0.RedoBytes], [.int .i64 x0.LogMost], [.int .i64 x0.Ancestors], [.int .i64 x0.AncestorBytes], [.int .i64 x0.Descendants]] [[.int .i64 x0.DescendantBytes]] [[.int .i64 x2]] [] sz3 rfl rfl (fl_cons (one_one rfl) fl_nil) hI rfl hA rfl rfl rfl rfl fun w hI => ?_
                    refine o_nil ?_
                    cases Option.some.inj (bS H)
                    exact ⟨hx0.1, hx0.2.1, hx0.2.2.1, hx0.2.2.2.1, hx0.2.2.2.2.1, hx0.2.2.2.2.2.1, hx0.2.2.2.2.2.2.1, hx0.2.2.2.2.2.2.2.1, hx2, hA.sub ⟨rfl, rfl, rfl, rfl, rfl, trivial⟩, hI⟩
  · rintro a w ⟨wc1, wc2, wc3, wc4, wc5, wc6, wc7, wc8, wc9, hA, hI⟩
    have H := Hk1
    refine w_seq fun _ hN11 => ?_
    refine w_reg ?_
    refine stp hA (r_ldA (j := 1) [] [[.int .i64 c1], [.int .i64 c2], [.int .i64 c3], [.int .i64 c4], [.int .i64 c5], [.int .i64 c6], [.int .i64 c7], [.int .i64 c8], [.int .i64 c9]] [] Tryd.underlying96 rfl sz96 rfl hI rfl hA rfl rfl) rfl fun a hA => 
      o_st (j := 0) [] [[.int .i64 0], [.int .i64 0], [.int .i64 0], [.int .i64 0], [.int .i64 0], [.int .i64 0], [.int .i64 0], [.int .i64 0], [.int .i64 0]] [[.int .i64 c1], [.int .i64 c2], [.int .i64 c3], [.int .i64 c4], [.int .i64 c5], [.int .i64 c6], [.int .i64 c7], [.int .i64 c8], [.int .i64 c9]] [] sz96 rfl rfl (fl_cons (one_one rfl) (fl_cons (one_one rfl) (fl_cons (one_one rfl) (fl_cons (one_one rfl) (fl_cons (one_one rfl) (fl_cons (one_one rfl) (fl_cons (one_one rfl) (fl_cons (one_one rfl) (fl_cons (one_one rfl) fl_nil))))))))) hI rfl hA rfl rfl rfl rfl fun w hI => ?_
    refine o_nil ?_
    refine hN11 _ _ ?_
    refine w_ret ?_
    obtain rfl := Option.some.inj (bS H)
    exact retc Tryd.underlying96 rfl sz96 rfl hI (j := 0) rfl hA Tryd.results70 rfl ⟨_, rfl, rfl, ⟨wc1, wc2, wc3, wc4, wc5, wc6, wc7, wc8, wc9⟩, hI.forget0⟩
end Go.Proofs.YtpeelghbhihgkaaDoor.T
namespace Go.Proofs.YtpeelghbhihgkaaDoor.T
open Go Go.Proofs Go.Proofs.YtpeelghbhihgkaaDoor.K
set_option linter.unusedVariables false
set_option linter.unusedSimpArgs false
noncomputable def sargassolaw15_ValueRules.f (x0 : Int) (x1 : Bool) : Option Bool := ((sargassolaw15_first.f).bind fun r1 => (if r1 = true then ((sargassomake_Rules.f 0).bind fun r2 => ((sargassoworld_Number.f x0 9).bind fun r3 => (if 0 ≤ r3 ∧ r3 < (([1, 0, 1, 1, 1, 1, 1, 1, 1] : List Int).length : Int) then (if 0 ≤ r3 ∧ r3 < (([1048576, 1000, 16777216, 16777216, 65536, 1000, 16777216, 1000, 16777216] : List Int).length : Int) then (((if x1 = true then some (([1048576, 1000, 16777216, 16777216, 65536, 1000, 16777216, 1000, 16777216] : List Int).getD r3.toNat 0, IntKind.i64.wrap ((([1048576, 1000, 16777216, 16777216, 65536, 1000, 16777216, 1000, 16777216] : List Int).getD r3.toNat 0) + 1)) else some (([1, 0, 1, 1, 1, 1, 1, 1, 1] : List Int).getD r3.toNat 0, IntKind.i64.wrap ((([1, 0, 1, 1, 1, 1, 1, 1, 1] : List Int).getD r3.toNat 0) - 1)))).bind fun (c1, c2) => ((sargassolaw15_with.f r2 r3 c1).bind fun r4 => ((value_Rules.f r4).bind fun r5 => ((sargassolaw15_with.f r2 r3 c2).bind fun r6 => ((value_Rules.f r6).bind fun r7 => (((if r1 = true then (if r5 = (Er.b 0) then ((sargassosee_Is.f r7 122).bind fun r8 => some r8) else some false) else some false)).bind fun c3 => some c3)))))) else none) else none))) else some false))
end Go.Proofs.YtpeelghbhihgkaaDoor.T
namespace Go.Proofs.YtpeelghbhihgkaaDoor.T
open Go Go.Proofs Go.Proofs.YtpeelghbhihgkaaDoor.K
set_option linter.unusedVariables false
set_option linter.unusedSimpArgs false
set_option maxRecDepth 20000 in
theorem sargassolaw15_ValueRules.c (μ : Store) (w0 : World) (hμ : Agr μ w0) (x0 : Int) (hx0 : InR .i64 x0) (x1 : Bool) (hG : Gl μ) (r : Bool) (H : sargassolaw15_ValueRules.f x0 x1 = some r) :
    Calls Tryd.prog 16 [.int .i64 x0, .bool x1].toArray w0 (fun e w' => ∃ v, e = .returned v ∧ v = .bool r ∧ True ∧ Iv w0 [] μ μ [] w') := by
  refine enter Tryd.func16 rfl Tryd.ntmps16 rfl fun a hA => ?_
  have hI := Iv.start hμ
  have H := bI H
  obtain ⟨e6, he6⟩ := hG.g6
  refine w_seq fun _ hN1 => ?_
  refine w_reg ?_
  refine stp hA (r_as hA rfl) rfl fun a hA => ?_
  refine o_nil ?_
  refine hN1 _ _ ?_
  refine w_seq fun _ hN2 => ?_
  refine w_reg ?_
  obtain ⟨r1, hr1, H⟩ := bB H
  refine o_callp (u := .bool r1) cf67 hA rfl hI (sargassolaw15_first.c μ _ hI.agr  r1 hr1) rfl fun a w hz1 hI hA => 
    stp hA (r_as hA rfl) rfl fun a hA => ?_
  refine o_nil ?_
  refine hN2 _ _ ?_
  refine w_seq fun _ hN3 => ?_
  refine w_seq fun _ hN4 => ?_
  refine w_reg ?_
  refine stp hA (r_mv hA rfl) rfl fun a hA => 
    stp hA (r_not hA rfl) rfl fun a hA => ?_
  refine o_nil ?_
  refine hN4 _ _ ?_
  refine w_cond hA rfl (fun hc1 => ?_) (fun hc1 => ?_)
  · have hc10 := hc1; have hc1 := nT hc1; have hc1 := ft hc1; have H := bF H hc1
    refine w_seq fun _ hN5 => ?_
    refine w_reg ?_
    refine stp hA (r_as hA rfl) rfl fun a hA => ?_
    refine o_nil ?_
    refine hN5 _ _ ?_
    refine w_ret ?_
    obtain rfl := Option.some.inj (bS H)
    exact ret1 hA Tryd.results16 rfl ⟨_, rfl, rfl, trivial, hI.forget0⟩
  · have hc10 := hc1; have hc1 := nF hc1; have H := bT H hc1
    refine w_skip ?_
    refine hN3 _ _ ?_
    refine w_seq fun _ hN6 => ?_
    refine w_reg ?_
    obtain ⟨r2, hr2, H⟩ := bB H
    refine o_callp (u := .agg [[.int .i64 r2.Halving], [.int .i64 r2.Maturity], [.int .i64 r2.PoolBytes], [.int .i64 r2.RedoBytes], [.int .i64 r2.LogMost], [.int .i64 r2.Ancestors], [.int .i64 r2.AncestorBytes], [.int .i64 r2.Descendants], [.int .i64 r2.DescendantBytes]].flatten.toArray) cf68 hA rfl hI (sargassomake_Rules.c μ _ hI.agr 0 (in_lit .i64 0 rfl) r2 hr2) rfl fun a w hz2 hI hA => 
      o_new [[.int .i64 0], [.int .i64 0], [.int .i64 0], [.int .i64 0], [.int .i64 0], [.int .i64 0], [.int .i64 0], [.int .i64 0], [.int .i64 0]] zr96 hI hA rfl fun g1 a w hA hI hg1 => 
      o_st (j := 0) [] [[.int .i64 0], [.int .i64 0], [.int .i64 0], [.int .i64 0], [.int .i64 0], [.int .i64 0], [.int .i64 0], [.int .i64 0], [.int .i64 0]] [[.int .i64 r2.Halving], [.int .i64 r2.Maturity], [.int .i64 r2.PoolBytes], [.int .i64 r2.RedoBytes], [.int .i64 r2.LogMost], [.int .i64 r2.Ancestors], [.int .i64 r2.AncestorBytes], [.int .i64 r2.Descendants], [.int .i64 r2.DescendantBytes]] [] sz96 rfl rfl (fl_cons (one_one rfl) (fl_cons (one_one rfl) (fl_cons (one_one rfl) (fl_cons (one_one rfl) (fl_cons (one_one rfl) (fl_cons (one_one rfl) (fl_cons (one_one rfl) (fl_cons (one_one rfl) (fl_cons (one_one rfl) fl_nil))))))))) hI rfl hA rfl rfl rfl rfl fun w hI => ?_
    refine o_nil ?_
    refine hN6 _ _ ?_
    refine w_seq fun _ hN7 => ?_
    refine w_reg ?_
    refine stp hA (r_mv hA rfl) rfl fun a hA => ?_
    obtain ⟨r3, hr3, H⟩ := bB H
    refine o_callp (u := .int .i64 r3) cf29 hA rfl hI (sargassoworld_Number.c μ _ hI.agr x0 hx0 9 (in_lit .i64 9 rfl) r3 hr3) rfl fun a w hz3 hI hA => 
      stp hA (r_as hA rfl) rfl fun a hA => ?_
    refine o_nil ?_
    refine hN7 _ _ ?_
    refine w_seq fun _ hN8 => ?_
    refine w_reg ?_
    have hE1 : Els (RI .i64) 1 ([1, 0, 1, 1, 1, 1, 1, 1, 1] : List Int) ([[.int .i64 1]].flatten ++ ([[.int .i64 0]].flatten ++ ([[.int .i64 1]].flatten ++ ([[.int .i64 1]].flatten ++ ([[.int .i64 1]].flatten ++ ([[.int .i64 1]].flatten ++ ([[.int .i64 1]].flatten ++ ([[.int .i64 1]].flatten ++ ([[.int .i64 1]].flatten ++ ([])))))))))) := (Els.cons (c := [[.int .i64 1]].flatten) ⟨rfl, (in_lit .i64 1 rfl)⟩ rfl (Els.cons (c := [[.int .i64 0]].flatten) ⟨rfl, (in_lit .i64 0 rfl)⟩ rfl (Els.cons (c := [[.int .i64 1]].flatten) ⟨rfl, (in_lit .i64 1 rfl)⟩ rfl (Els.cons (c := [[.int .i64 1]].flatten) ⟨rfl, (in_lit .i64 1 rfl)⟩ rfl (Els.cons (c := [[.int .i64 1]].flatten) ⟨rfl, (in_lit .i64 1 rfl)⟩ rfl (Els.cons (c := [[.int .i64 1]].flatten) ⟨rfl, (in_lit .i64 1 rfl)⟩ rfl (Els.cons (c := [[.int .i64 1]].flatten) ⟨rfl, (in_lit .i64 1 rfl)⟩ rfl (Els.cons (c := [[.int .i64 1]].flatten) ⟨rfl, (in_lit .i64 1 rfl)⟩ rfl (Els.cons (c := [[.int .i64 1]].flatten) ⟨rfl, (in_lit .i64 1 rfl)⟩ rfl Els.nil)))))))))
    refine o_bsl ([[.int .i64 1]].flatten ++ ([[.int .i64 0]].flatten ++ ([[.int .i64 1]].flatten ++ ([[.int .i64 1]].flatten ++ ([[.int .i64 1]].flatten ++ ([[.int .i64 1]].flatten ++ ([[.int .i64 1]].flatten ++ ([[.int .i64 1]].flatten ++ ([[.int .i64 1]].flatten ++ ([])))))))))) te3 zr3 Tryd.underlying98 hI hA rfl rfl rfl rfl (by kernel_rfl) rfl fun g2 a w hA hI => ?_
    generalize hcs : ([[.int .i64 1]].flatten ++ ([[.int .i64 0]].flatten ++ ([[.int .i64 1]].flatten ++ ([[.int .i64 1]].flatten ++ ([[.int .i64 1]].flatten ++ ([[.int .i64 1]].flatten ++ ([[.int .i64 1]].flatten ++ ([[.int .i64 1]].flatten ++ ([[.int .i64 1]].flatten ++ ([]))))))))) : List Value) = cs1 at hE1 hI
    clear hcs
    refine stp hA (r_mv hA rfl) rfl fun a hA => ?_
    obtain ⟨hb1, H⟩ := bG H
    refine stp hA (r_rix (j := 0) Tryd.underlying98 sz3 hI rfl hA rfl rfl hb1.1 hb1.2) rfl fun a hA => ?_
    have hq1 := els_get hE1 hb1.1 hb1.2
    refine stp hA (r_rld1 (j := 0) Tryd.underlying3 rfl hI rfl hq1 hA rfl (by simp only [Nat.mul_one])) rfl fun a hA => 
      stp hA (r_as hA rfl) rfl fun a hA => ?_
    refine o_nil ?_
    refine hN8 _ _ ?_
    refine w_seq fun _ hN9 => ?_
    refine w_reg ?_
    have hE2 : Els (RI .i64) 1 ([1048576, 1000, 16777216, 16777216, 65536, 1000, 16777216, 1000, 16777216] : List Int) ([[.int .i64 1048576]].flatten ++ ([[.int .i64 1000]].flatten ++ ([[.int .i64 16777216]].flatten ++ ([[.int .i64 16777216]].flatten ++ ([[.int .i64 65536]].flatten ++ ([[.int .i64 1000]].flatten ++ ([[.int .i64 16777216]].flatten ++ ([[.int .i64 1000]].flatten ++ ([[.int .i64 16777216]].flatten ++ ([])))))))))) := (Els.cons (c := [[.int .i64 1048576]].flatten) ⟨rfl, (in_lit .i64 1048576 rfl)⟩ rfl (Els.cons (c := [[.int .i64 1000]].flatten) ⟨rfl, (in_lit .i64 1000 rfl)⟩ rfl (Els.cons (c := [[.int .i64 16777216]].flatten) ⟨rfl, (in_lit .i64 16777216 rfl)⟩ rfl (Els.cons (c := [[.int .i64 16777216]].flatten) ⟨rfl, (in_lit .i64 16777216 rfl)⟩ rfl (Els.cons (c := [[.int .i64 65536]].flatten) ⟨rfl, (in_lit .i64 65536 rfl)⟩ rfl (Els.cons (c := [[.int .i64 1000]].flatten) ⟨rfl, (in_lit .i64 1000 rfl)⟩ rfl (Els.cons (c := [[.int .i64 16777216]].flatten) ⟨rfl, (in_lit .i64 16777216 rfl)⟩ rfl (Els.cons (c := [[.int .i64 1000]].flatten) ⟨rfl, (in_lit .i64 1000 rfl)⟩ rfl (Els.cons (c := [[.int .i64 16777216]].flatten) ⟨rfl, (in_lit .i64 16777216 rfl)⟩ rfl Els.nil)))))))))
    refine o_bsl ([[.int .i64 1048576]].flatten ++ ([[.int .i64 1000]].flatten ++ ([[.int .i64 16777216]].flatten ++ ([[.int .i64 16777216]].flatten ++ ([[.int .i64 65536]].flatten ++ ([[.int .i64 1000]].flatten ++ ([[.int .i64 16777216]].flatten ++ ([[.int .i64 1000]].flatten ++ ([[.int .i64 16777216]].flatten ++ ([])))))))))) te3 zr3 Tryd.underlying98 hI hA rfl rfl rfl rfl (by kernel_rfl) rfl fun g3 a w hA hI => ?_
    generalize hcs : ([[.int .i64 1048576]].flatten ++ ([[.int .i64 1000]].flatten ++ ([[.int .i64 16777216]].flatten ++ ([[.int .i64 16777216]].flatten ++ ([[.int .i64 65536]].flatten ++ ([[.int .i64 1000]].flatten ++ ([[.int .i64 16777216]].flatten ++ ([[.int .i64 1000]].flatten ++ ([[.int .i64 16777216]].flatten ++ ([]))))))))) : List Value) = cs2 at hE2 hI
    clear hcs
    refine stp hA (r_mv hA rfl) rfl fun a hA => ?_
    obtain ⟨hb2, H⟩ := bG H
    refine stp hA (r_rix (j := 0) Tryd.underlying98 sz3 hI rfl hA rfl rfl hb2.1 hb2.2) rfl fun a hA => ?_
    have hq2 := els_get hE2 hb2.1 hb2.2
    refine stp hA (r_rld1 (j := 0) Tryd.underlying3 rfl hI rfl hq2 hA rfl (by simp only [Nat.mul_one])) rfl fun a hA => 
      stp hA (r_as hA rfl) rfl fun a hA => ?_
    refine o_nil ?_
    refine hN9 _ _ ?_
    refine w_seq fun _ hN10 => ?_
    refine w_reg ?_
    refine stp hA (r_mv hA rfl) rfl fun a hA => 
      stp hA (r_as hA rfl) rfl fun a hA => ?_
    refine o_nil ?_
    refine hN10 _ _ ?_
    refine w_seq fun _ hN11 => ?_
    refine w_reg ?_
    refine stp hA (r_mv hA rfl) rfl fun a hA => 
      stp hA (r_sub hA rfl rfl) rfl fun a hA => 
      stp hA (r_as hA rfl) rfl fun a hA => ?_
    refine o_nil ?_
    refine hN11 _ _ ?_
    obtain ⟨⟨c1, c2⟩, hz4, Hk1⟩ := bB H
    refine w_cut (fun a w => InR .i64 c1 ∧ InR .i64 c2 ∧ Fr a 54 [(0, .int .i64 x0), (1, .bool x1), (4, .bool false), (5, .bool r1), (6, .pointer (some ⟨g1, 0, none⟩)), (7, .int .i64 r3), (8, .int .i64 (([1, 0, 1, 1, 1, 1, 1, 1, 1] : List Int).getD r3.toNat 0)), (9, .int .i64 (([1048576, 1000, 16777216, 16777216, 65536, 1000, 16777216, 1000, 16777216] : List Int).getD r3.toNat 0)), (10, .int .i64 c1), (11, .int .i64 c2), (16, .bool (!r1))] ∧ Iv w0 [] μ μ [row 3 1 (.slice (some ⟨g3, 0, none⟩) 9 9) ([1048576, 1000, 16777216, 16777216, 65536, 1000, 16777216, 1000, 16777216] : List Int).length cs2, row 3 1 (.slice (some ⟨g2, 0, none⟩) 9 9) ([1, 0, 1, 1, 1, 1, 1, 1, 1] : List Int).length cs1, cel g1 [[.int .i64 r2.Halving], [.int .i64 r2.Maturity], [.int .i64 r2.PoolBytes], [.int .i64 r2.RedoBytes], [.int .i64 r2.LogMost], [.int .i64 r2.Ancestors], [.int .i64 r2.AncestorBytes], [.int .i64 r2.Descendants], [.int .i64 r2.DescendantBytes]] 96] w) ?_ ?_
    · have H := bI hz4
      refine w_seq fun _ hN12 => ?_
      refine w_reg ?_
      refine stp hA (r_mv hA rfl) rfl fun a hA => ?_
      refine o_nil ?_
      refine hN12 _ _ ?_
      refine w_cond hA rfl (fun hc2 => ?_) (fun hc2 => ?_)
      · have hc20 := hc2; have H := bT H hc2
        refine w_seq fun _ hN13 => ?_
        refine w_reg ?_
        refine stp hA (r_mv hA rfl) rfl fun a hA => 
          stp hA (r_as hA rfl) rfl fun a hA => ?_
        refine o_nil ?_
        refine hN13 _ _ ?_
        refine w_reg ?_
        refine stp hA (r_mv hA rfl) rfl fun a hA => 
          stp hA (r_add hA rfl rfl) rfl fun a hA => 
          stp hA (r_as hA rfl) rfl fun a hA => ?_
        refine o_nil ?_
        cases Option.some.inj (bS H)
        exact ⟨(getD_in (els_int_cs hE2).2 _), (wrap_in _ _), hA.sub ⟨rfl, rfl, rfl, rfl, rfl, rfl, rfl, rfl, rfl, rfl, rfl, trivial⟩, hI⟩
      · have hc20 := hc2; have hc2 := ft hc2; have H := bF H hc2
        refine w_skip ?_
        cases Option.some.inj (bS H)
        exact ⟨(getD_in (els_int_cs hE1).2 _), (wrap_in _ _), hA.sub ⟨rfl, rfl, rfl, rfl, rfl, rfl, rfl, rfl, rfl, rfl, rfl, trivial⟩, hI⟩
    · rintro a w ⟨wc1, wc2, hA, hI⟩
      have H := Hk1
      refine w_seq fun _ hN14 => ?_
      refine w_reg ?_
      refine stp hA (r_ldA (j := 2) [] [[.int .i64 r2.Halving], [.int .i64 r2.Maturity], [.int .i64 r2.PoolBytes], [.int .i64 r2.RedoBytes], [.int .i64 r2.LogMost], [.int .i64 r2.Ancestors], [.int .i64 r2.AncestorBytes], [.int .i64 r2.Descendants], [.int .i64 r2.DescendantBytes]] [] Tryd.underlying96 rfl sz96 rfl hI rfl hA rfl rfl) rfl fun a hA => 
        stp hA (r_mv hA rfl) rfl fun a hA => 
        stp hA (r_mv hA rfl) rfl fun a hA => ?_
      obtain ⟨r4, hr4, H⟩ := bB H
      refine o_callp (u := .agg [[.int .i64 r4.Halving], [.int .i64 r4.Maturity], [.int .i64 r4.PoolBytes], [.int .i64 r4.RedoBytes], [.int .i64 r4.LogMost], [.int .i64 r4.Ancestors], [.int .i64 r4.AncestorBytes], [.int .i64 r4.Descendants], [.int .i64 r4.DescendantBytes]].flatten.toArray) cf70 hA rfl hI (sargassolaw15_with.c μ _ hI.agr r2 ⟨hz2.1, hz2.2.1, hz2.2.2.1, hz2.2.2.2.1, hz2.2.2.2.2.1, hz2.2.2.2.2.2.1, hz2.2.2.2.2.2.2.1, hz2.2.2.2.2.2.2.2.1, hz2.2.2.2.2.2.2.2.2⟩ r3 hz3 c1 wc1 r4 hr4) rfl fun a w hz5 hI hA => ?_
      obtain ⟨r5, hr5, H⟩ := bB H
      refine o_call _ cf69 hA rfl (value_Rules.c μ _ hI.agr r4 ⟨hz5.1, hz5.2.1, hz5.2.2.1, hz5.2.2.2.1, hz5.2.2.2.2.1, hz5.2.2.2.2.2.1, hz5.2.2.2.2.2.2.1, hz5.2.2.2.2.2.2.2.1, hz5.2.2.2.2.2.2.2.2⟩ e6 he6 r5 hr5) rfl fun v1 a w hz6 hA => ?_
      obtain ⟨_, μ1, rfl, hS1, hi1⟩ := hz6
      have hI := hI.call hi1
      refine stp hA (r_as hA rfl) rfl fun a hA => ?_
      refine o_nil ?_
      refine hN14 _ _ ?_
      refine w_seq fun _ hN15 => ?_
      refine w_reg ?_
      refine stp hA (r_ldA (j := 2) [] [[.int .i64 r2.Halving], [.int .i64 r2.Maturity], [.int .i64 r2.PoolBytes], [.int .i64 r2.RedoBytes], [.int .i64 r2.LogMost], [.int .i64 r2.Ancestors], [.int .i64 r2.AncestorBytes], [.int .i64 r2.Descendants], [.int .i64 r2.DescendantBytes]] [] Tryd.underlying96 rfl sz96 rfl hI rfl hA rfl rfl) rfl fun a hA => 
        stp hA (r_mv hA rfl) rfl fun a hA => 
        stp hA (r_mv hA rfl) rfl fun a hA => ?_
      obtain ⟨r6, hr6, H⟩ := bB H
      refine o_callp (u := .agg [[.int .i64 r6.Halving], [.int .i64 r6.Maturity], [.int .i64 r6.PoolBytes], [.int .i64 r6.RedoBytes], [.int .i64 r6.LogMost], [.int .i64 r6.Ancestors], [.int .i64 r6.AncestorBytes], [.int .i64 r6.Descendants], [.int .i64 r6.DescendantBytes]].flatten.toArray) cf70 hA rfl hI (sargassolaw15_with.c μ1 _ hI.agr r2 ⟨hz2.1, hz2.2.1, hz2.2.2.1, hz2.2.2.2.1, hz2.2.2.2.2.1, hz2.2.2.2.2.2.1, hz2.2.2.2.2.2.2.1, hz2.2.2.2.2.2.2.2.1, hz2.2.2.2.2.2.2.2.2⟩ r3 hz3 c2 wc2 r6 hr6) rfl fun a w hz7 hI hA => ?_
      obtain ⟨r7, hr7, H⟩ := bB H
      refine o_call _ cf69 hA rfl (value_Rules.c μ1 _ hI.agr r6 ⟨hz7.1, hz7.2.1, hz7.2.2.1, hz7.2.2.2.1, hz7.2.2.2.2.1, hz7.2.2.2.2.2.1, hz7.2.2.2.2.2.2.1, hz7.2.2.2.2.2.2.2.1, hz7.2.2.2.2.2.2.2.2⟩ e6 (ErV.le (fun _ _ h => h) hi1.le he6) r7 hr7) rfl fun v2 a w hz8 hA => ?_
      obtain ⟨_, μ2, rfl, hS2, hi2⟩ := hz8
      have hI := hI.call hi2
      refine stp hA (r_as hA rfl) rfl fun a hA => ?_
      refine o_nil ?_
      refine hN15 _ _ ?_
      obtain ⟨c3, hz9, Hk2⟩ := bB H
      refine w_cut (fun a w => Fr a 54 [(0, .int .i64 x0), (1, .bool x1), (4, .bool c3), (5, .bool r1), (6, .pointer (some ⟨g1, 0, none⟩)), (7, .int .i64 r3), (8, .int .i64 (([1, 0, 1, 1, 1, 1, 1, 1, 1] : List Int).getD r3.toNat 0)), (9, .int .i64 (([1048576, 1000, 16777216, 16777216, 65536, 1000, 16777216, 1000, 16777216] : List Int).getD r3.toNat 0)), (10, .int .i64 c1), (11, .int .i64 c2), (12, v1), (13, v2), (16, .bool (!r1))] ∧ Iv w0 [] μ μ2 [row 3 1 (.slice (some ⟨g3, 0, none⟩) 9 9) ([1048576, 1000, 16777216, 16777216, 65536, 1000, 16777216, 1000, 16777216] : List Int).length cs2, row 3 1 (.slice (some ⟨g2, 0, none⟩) 9 9) ([1, 0, 1, 1, 1, 1, 1, 1, 1] : List Int).length cs1, cel g1 [[.int .i64 r2.Halving], [.int .i64 r2.Maturity], [.int .i64 r2.PoolBytes], [.int .i64 r2.RedoBytes], [.int .i64 r2.LogMost], [.int .i64 r2.Ancestors], [.int .i64 r2.AncestorBytes], [.int .i64 r2.Descendants], [.int .i64 r2.DescendantBytes]] 96] w) ?_ ?_
      · have H := bI hz9
        refine w_reg ?_
        refine stp hA (r_mv hA rfl) rfl fun a hA => 
          stp hA (r_mv hA rfl) rfl fun a hA => ?_
        rcases Bool.eq_false_or_eq_true r1 with hc3 | hc3
        · have hc30 := hc3; have H := bT H hc3
          refine o_yes hA rfl rfl hc30 <| 
            stp hA (r_mv hA rfl) rfl fun a hA => 
            o_yes hA rfl rfl hc30 <| 
            stp hA (r_eqE erF hI.agr (ErV.le (fun _ _ h => h) hi2.le hS1) erv_nil (.inl ⟨.inr ⟨_, rfl⟩, Er.fitR⟩) hA rfl rfl) rfl fun a hA => 
            stp hA (r_pick_t hA rfl hc30 rfl) rfl fun a hA => 
            stp hA (r_mv hA rfl) rfl fun a hA => ?_
          rcases Bool.eq_false_or_eq_true (decide (r5 = (Er.b 0))) with hc4 | hc4
          · have hc40 := hc4; have hc4 := of_decide_eq_true hc4; have H := bT H hc4
            refine o_yes hA rfl rfl hc40 <| 
              stp hA (r_mv hA rfl) rfl fun a hA => 
              o_yes hA rfl rfl hc40 <| ?_
            obtain ⟨r8, hr8, H⟩ := bB H
            refine o_callp (u := .bool r8) cf31 hA rfl hI (sargassosee_Is.c μ2 _ hI.agr r7 v2 hS2 122 (in_lit .i64 122 rfl) (Gl.le (hi1.le.trans hi2.le) hG) r8 hr8) rfl fun a w hz10 hI hA => 
              stp hA (r_pick_t hA rfl hc40 rfl) rfl fun a hA => 
              stp hA (r_as hA rfl) rfl fun a hA => ?_
            refine o_nil ?_
            cases Option.some.inj (bS H)
            exact ⟨hA.sub ⟨rfl, rfl, rfl, rfl, rfl, rfl, rfl, rfl, rfl, rfl, rfl, rfl, rfl, trivial⟩, hI⟩
          · have hc40 := hc4; have hc4 := of_decide_eq_false hc4; have H := bF H hc4
            refine o_no hA rfl rfl (by rw [hc40]; simp [vb]) rfl fun a hA => 
              o_no hA rfl rfl (by rw [hc40]; simp [vb]) rfl fun a hA => 
              stp hA (r_pick_f hA rfl hc40 rfl) rfl fun a hA => 
              stp hA (r_as hA rfl) rfl fun a hA => ?_
            refine o_nil ?_
            cases Option.some.inj (bS H)
            exact ⟨hA.sub ⟨rfl, rfl, rfl, rfl, rfl, rfl, rfl, rfl, rfl, rfl, rfl, rfl, rfl, trivial⟩, hI⟩
        · have hc30 := hc3; have hc3 := ft hc3; have H := bF H hc3
          refine o_no hA rfl rfl (by rw [hc30]; simp [vb]) rfl fun a hA => 
            o_no hA rfl rfl (by rw [hc30]; simp [vb]) rfl fun a hA => 
            stp hA (r_pick_f hA rfl hc30 rfl) rfl fun a hA => 
            stp hA (r_mv hA rfl) rfl fun a hA => 
            o_no hA rfl rfl (by simp [vb]) rfl fun a hA => 
            o_no hA rfl rfl (by simp [vb]) rfl fun a hA => 
            stp hA (r_pick_f hA rfl rfl rfl) rfl fun a hA => 
            stp hA (r_as hA rfl) rfl fun a hA => ?_
          refine o_nil ?_
          cases Option.some.inj (bS H)
          exact ⟨hA.sub ⟨rfl, rfl, rfl, rfl, rfl, rfl, rfl, rfl, rfl, rfl, rfl, rfl, rfl, trivial⟩, hI⟩
      · rintro a w ⟨hA, hI⟩
        have H := Hk2
        refine w_ret ?_
        obtain rfl := Option.some.inj (bS H)
        exact ret1 hA Tryd.results16 rfl ⟨_, rfl, rfl, trivial, hI.forget0⟩
end Go.Proofs.YtpeelghbhihgkaaDoor.T
namespace Go.Proofs.YtpeelghbhihgkaaDoor.T
open Go Go.Proofs Go.Proofs.YtpeelghbhihgkaaDoor.K
set_option linter.unusedVariables false
theorem w64 {x : Int} (h0 : -9223372036854775808 ≤ x) (h1 : x < 9223372036854775808) : IntKind.i64.wrap x = x := wrap_id ⟨h0, h1⟩
theorem number_eq {x n : Int} (hx : InR .i64 x) (h0 : 0 < n) (h1 : n < 9223372036854775808) : ∃ y, sargassoworld_Number.f x n = some y ∧ 0 ≤ y ∧ y < n := by
  obtain ⟨a, b⟩ := hx
  have hn : n ≠ 0 := by omega
  unfold sargassoworld_Number.f
  rw [if_pos hn]
  have hb : -n < Int.tmod x n ∧ Int.tmod x n < n := by
    rcases Int.le_total 0 x with h | h
    · rw [Int.tmod_eq_emod_of_nonneg h]; have := Int.emod_nonneg x hn; have := Int.emod_lt_of_pos x h0; omega
    · have e : Int.tmod x n = -(Int.tmod (-x) n) := by rw [Int.neg_tmod, Int.neg_neg]
      rw [e, Int.tmod_eq_emod_of_nonneg (by omega)]; have := Int.emod_nonneg (-x) hn; have := Int.emod_lt_of_pos (-x) h0; omega
  by_cases hc : Int.tmod x n < 0
  · rw [if_pos hc]
    exact ⟨_, rfl, by rw [w64 (by omega) (by omega)]; omega, by rw [w64 (by omega) (by omega)]; omega⟩
  · rw [if_neg hc]
    exact ⟨_, rfl, by omega, by omega⟩
end Go.Proofs.YtpeelghbhihgkaaDoor.T
namespace Go.Proofs.YtpeelghbhihgkaaDoor.T
open Go Go.Proofs Go.Proofs.YtpeelghbhihgkaaDoor.K
set_option linter.unusedVariables false
theorem reward_eq {x0 x1 : Int} (h0 : InR .i64 x0) (h1 : InR .i64 x1) : value_Reward.f x0 x1 = some (if x0 < 0 ∨ x1 < 1 then 0 else if 64 ≤ x0 / x1 then 0 else 5000000000 / 2 ^ (x0 / x1).toNat) := by
  obtain ⟨a, b⟩ := h0
  obtain ⟨c, d⟩ := h1
  unfold value_Reward.f
  by_cases h : x0 < 0
  · simp [h]
  by_cases h' : x1 < 1
  · simp [h, h']
  have hq : Int.tdiv x0 x1 = x0 / x1 := Int.tdiv_eq_ediv_of_nonneg (by omega)
  have q0 : 0 ≤ x0 / x1 := Int.ediv_nonneg (by omega) (by omega)
  have q1 : x0 / x1 ≤ x0 := Int.ediv_le_self _ (by omega)
  have hn : x1 ≠ 0 := by omega
  rw [hq, w64 (by omega) (by omega)]
  simp only [h, h', hn, if_false, Option.bind_some, or_self, ne_eq, not_false_eq_true, if_true, q0]
  by_cases h6 : 64 ≤ x0 / x1
  · simp [h6]
  · simp only [h6, decide_false, if_false, Bool.false_eq_true, sR]
    rw [show min (x0 / x1).toNat IntKind.u64.bits = (x0 / x1).toNat by simp [IntKind.bits]; omega, Int.fdiv_eq_ediv_of_nonneg _ (Int.pow_nonneg (by omega))]
theorem first15 : sargassolaw15_first.f = some true := by
  unfold sargassolaw15_first.f
  rw [reward_eq ⟨by omega, by omega⟩ ⟨by omega, by omega⟩, reward_eq ⟨by omega, by omega⟩ ⟨by omega, by omega⟩]
  rfl
end Go.Proofs.YtpeelghbhihgkaaDoor.T
namespace Go.Proofs.YtpeelghbhihgkaaDoor.T
open Go Go.Proofs Go.Proofs.YtpeelghbhihgkaaDoor.K
set_option linter.unusedVariables false
set_option linter.unusedSimpArgs false
theorem loop_idx {τ ρ : Type} {step : τ → Option (τ ⊕ ρ)} (st : Nat → τ) (n : Nat) (h : ∀ i, i < n → step (st i) = some (.inl (st (i + 1)))) : loopO step (st 0) = loopO step (st n) := by
  induction n with
  | zero => rfl
  | succ n ih => rw [ih (fun i hi => h i (by omega)), loopO_inl (h n (by omega))]
end Go.Proofs.YtpeelghbhihgkaaDoor.T
namespace Go.Proofs.YtpeelghbhihgkaaDoor.T
open Go Go.Proofs Go.Proofs.YtpeelghbhihgkaaDoor.K
set_option linter.unusedVariables false
set_option linter.unusedSimpArgs false
theorem winc (i : Nat) (hi : i < 9223372036854775807) : IntKind.i64.wrap ((i : Int) + 1) = ((i + 1 : Nat) : Int) := by
  rw [w64 (by omega) (by omega)]; omega
end Go.Proofs.YtpeelghbhihgkaaDoor.T
namespace Go.Proofs.YtpeelghbhihgkaaDoor.T
open Go Go.Proofs Go.Proofs.YtpeelghbhihgkaaDoor.K
set_option linter.unusedVariables false
set_option linter.unusedSimpArgs false
def sl : List Er := [xErrEnd, xErrShape, xErrLong, xErrMany, xErrValue, xErrTwice, xErrBase, xErrRoot, xErrKnown, xErrParent, xErrInvalid, xErrTime, xErrMissing, xErrKey, xErrYoung, xErrEarly, xErrLess, xErrReward, xErrClash, xErrLimit, xErrFull, xErrRange, xErrNone, xErrWord, xErrNumber]
theorem sl_plain : ∀ e ∈ sl, e ≠ .b 0 ∧ e.isP = false := by decide
theorem alike_eq {e f : Er} (he : e ≠ .b 0) (hf : f ≠ .b 0) (hp : e.isP = false) : sargassosee_Alike.f e f = some (decide (e = f)) := by
  simp only [sargassosee_Alike.f]
  rw [if_neg he, Option.bind_some, if_neg (by simpa using hf), if_pos]
  cases e with
  | pl _ _ => cases hp
  | b n =>
    cases f with
    | pl _ _ => cases n <;> rfl
    | b m =>
      cases n with
      | zero => exact absurd rfl he
      | succ n => rfl
theorem gd {α : Type} (l : List α) (d : α) {i : Nat} (h : i < l.length) : l.getD i d = l[i] := by simp [List.getD, h]
theorem sl_ne : ∀ i, i < 25 → ∀ j, j < 25 → i ≠ j → sl.getD i (.b 0) ≠ sl.getD j (.b 0) := by decide +kernel
theorem sentinel_at (k : Nat) (hk : k < 25) : sargassosee_sentinel.f (sl.getD k (.b 0)) = some (101 + (k : Int)) := by
  have hl : sl.length = 25 := rfl
  have hmem : ∀ i, i < 25 → sl.getD i (.b 0) ∈ sl := fun i hi => by
    have e := gd sl (.b 0) (i := i) (by omega)
    rw [e]; exact List.getElem_mem _
  have h0 : sargassosee_sentinels.f = some sl := rfl
  unfold sargassosee_sentinel.f
  rw [h0, Option.bind_some]
  have hs : ∀ i : Nat, i < 25 → sargassosee_sentinel.s0 (sl.getD k (.b 0)) sl (i : Int) = if k = i then some (.inr (IntKind.i64.wrap (101 + (i : Int)))) else some (.inl (IntKind.i64.wrap ((i : Int) + 1))) := fun i hi => by
    simp only [sargassosee_sentinel.s0]
    rw [if_pos (by omega), if_pos (by omega), Int.toNat_natCast, alike_eq (sl_plain _ (hmem k hk)).1 (sl_plain _ (hmem i hi)).1 (sl_plain _ (hmem k hk)).2, Option.bind_some]
    by_cases h : k = i
    · subst h; rw [if_pos (by simp), if_pos rfl]
    · rw [if_neg (by simpa using sl_ne k hk i hi h), if_neg h]
  have key := loop_idx (step := sargassosee_sentinel.s0 (sl.getD k (.b 0)) sl) (fun i => (i : Int)) k (fun i hi => by rw [hs i (by omega), if_neg (by omega), winc i (by omega)])
  have e0 : ((0 : Nat) : Int) = 0 := rfl
  simp only [e0] at key
  have h1 := hs k hk
  rw [if_pos rfl] at h1
  rw [key, loopO_inr h1, w64 (by omega) (by omega)]
theorem samefault_bare (a b : Int) : sargassoref_SameFault.f ⟨a, false, 0, false, 0⟩ ⟨b, false, 0, false, 0⟩ = some (decide (a = b)) := by
  simp only [sargassoref_SameFault.f]
  by_cases h : a = b
  · simp [h]
  · simp [h]
theorem fault_at (k : Nat) (hk : k < 25) : sargassosee_Fault.f (sl.getD k (.b 0)) = some ⟨101 + (k : Int), false, 0, false, 0⟩ := by
  have hm : sl.getD k (.b 0) ∈ sl := by
    have hl : sl.length = 25 := rfl
    have e := gd sl (.b 0) (i := k) (by omega)
    rw [e]; exact List.getElem_mem _
  obtain ⟨h1, h2⟩ := sl_plain _ hm
  simp only [sargassosee_Fault.f]
  rw [if_neg h1, if_neg (by rw [h2]; decide), sentinel_at k hk]
  rfl
theorem is_at (k : Nat) (hk : k < 25) (c : Int) : sargassosee_Is.f (sl.getD k (.b 0)) c = some (decide (101 + (k : Int) = c)) := by
  simp only [sargassosee_Is.f, sargassosee_Same.f, sargassoref_Bare.f, Option.bind_some]
  rw [fault_at k hk, Option.bind_some, samefault_bare, Option.bind_some, Option.bind_some]
theorem is_range (c : Int) : sargassosee_Is.f xErrRange c = some (decide (122 = c)) := is_at 21 (by decide) c
end Go.Proofs.YtpeelghbhihgkaaDoor.T
namespace Go.Proofs.YtpeelghbhihgkaaDoor.T
open Go Go.Proofs Go.Proofs.YtpeelghbhihgkaaDoor.K
set_option linter.unusedVariables false
set_option linter.unusedSimpArgs false
def wi (a x b : Int) : Prop := a ≤ x ∧ x ≤ b
instance (a x b : Int) : Decidable (wi a x b) := inferInstanceAs (Decidable (_ ∧ _))
def inb (x : Rules) : Prop := wi 1 x.Halving 1048576 ∧ wi 0 x.Maturity 1000 ∧ wi 1 x.PoolBytes 16777216 ∧ wi 1 x.RedoBytes 16777216 ∧ wi 1 x.LogMost 65536 ∧ wi 1 x.Ancestors 1000 ∧ wi 1 x.Descendants 1000 ∧ wi 1 x.AncestorBytes 16777216 ∧ wi 1 x.DescendantBytes 16777216
instance (x : Rules) : Decidable (inb x) := inferInstanceAs (Decidable (_ ∧ _))
def tbl (x : Rules) : List (List Int) := [[x.Halving, 1, 1048576], [x.Maturity, 0, 1000], [x.PoolBytes, 1, 16777216], [x.RedoBytes, 1, 16777216], [x.LogMost, 1, 65536], [x.Ancestors, 1, 1000], [x.Descendants, 1, 1000], [x.AncestorBytes, 1, 16777216], [x.DescendantBytes, 1, 16777216]]
theorem rules_iff (x : Rules) : (∀ i, i < 9 → wi (((tbl x).getD i []).getD 1 0) (((tbl x).getD i []).getD 0 0) (((tbl x).getD i []).getD 2 0)) ↔ inb x := by
  constructor
  · intro h
    exact ⟨h 0 (by omega), h 1 (by omega), h 2 (by omega), h 3 (by omega), h 4 (by omega), h 5 (by omega), h 6 (by omega), h 7 (by omega), h 8 (by omega)⟩
  · rintro ⟨h0, h1, h2, h3, h4, h5, h6, h7, h8⟩ i hi
    have : i = 0 ∨ i = 1 ∨ i = 2 ∨ i = 3 ∨ i = 4 ∨ i = 5 ∨ i = 6 ∨ i = 7 ∨ i = 8 := by omega
    rcases this with rfl | rfl | rfl | rfl | rfl | rfl | rfl | rfl | rfl
    · exact h0
    · exact h1
    · exact h2
    · exact h3
    · exact h4
    · exact h5
    · exact h6
    · exact h7
    · exact h8
theorem look_run' {ρ : Type} {step : Int → Option (Int ⊕ ρ)} (n : Nat) (p : Nat → Prop) [DecidablePred p] (yes no : ρ) (hn : n < 9223372036854775807)
    (hs : ∀ i, i < n → step (i : Int) = if p i then some (.inl (IntKind.i64.wrap ((i : Int) + 1))) else some (.inr no)) (he : step (n : Int) = some (.inr yes)) : loopO step 0 = some (if ∀ i, i < n → p i then yes else no) := by
  have key : ∀ m k, m + k = n → (∀ i, i < k → p i) → loopO step (k : Int) = some (if ∀ i, i < n → p i then yes else no) := by
    intro m
    induction m with
    | zero =>
      intro k e h
      obtain rfl : k = n := by omega
      rw [loopO_inr he, if_pos h]
    | succ m ih =>
      intro k e h
      have h1 := hs k (by omega)
      by_cases hp : p k
      · rw [if_pos hp, winc k (by omega)] at h1
        rw [loopO_inl h1]
        refine ih (k + 1) (by omega) fun i hi => ?_
        rcases Nat.lt_or_ge i k with h2 | h2
        · exact h i h2
        · obtain rfl : i = k := by omega
          exact hp
      · rw [if_neg hp] at h1
        rw [loopO_inr h1, if_neg (fun h2 => hp (h2 k (by omega)))]
  exact key n 0 (by omega) (by simp)
noncomputable def vr (x : Rules) : Er := if inb x then .b 0 else xErrRange
theorem vrules_eq (x : Rules) : value_Rules.f x = some (vr x) := by
  have h := look_run' (step := value_Rules.s0 x) 9 (fun i => wi (((tbl x).getD i []).getD 1 0) (((tbl x).getD i []).getD 0 0) (((tbl x).getD i []).getD 2 0)) (Er.b 0) xErrRange (by omega) (fun i hi => by
    have hl : ((tbl x).length : Int) = 9 := rfl
    show (if (i : Int) < ((tbl x).length : Int) then (if 0 ≤ (i : Int) ∧ (i : Int) < ((tbl x).length : Int) then (((if (((tbl x).getD (i : Int).toNat []).getD (0 : Int).toNat 0) < (((tbl x).getD (i : Int).toNat []).getD (1 : Int).toNat 0) then some true else some (decide ((((tbl x).getD (i : Int).toNat []).getD (2 : Int).toNat 0) < (((tbl x).getD (i : Int).toNat []).getD (0 : Int).toNat 0))))).bind fun c1 => (if c1 = true then (some (.inr xErrRange) : Option (Int ⊕ Er)) else some (.inl (IntKind.i64.wrap ((i : Int) + 1))))) else none) else some (.inr (Er.b 0))) = _
    rw [if_pos (by omega), if_pos (by omega), Int.toNat_natCast, show (0 : Int).toNat = 0 from rfl, show (1 : Int).toNat = 1 from rfl, show (2 : Int).toNat = 2 from rfl]
    generalize (tbl x).getD i [] = r
    by_cases c1 : r.getD 0 0 < r.getD 1 0
    · rw [if_pos c1, Option.bind_some, if_pos rfl, if_neg (fun h => by have := h.1; omega)]
    · rw [if_neg c1, Option.bind_some]
      by_cases c2 : r.getD 2 0 < r.getD 0 0
      · rw [if_pos (decide_eq_true c2), if_neg (fun h => by have := h.2; omega)]
      · rw [if_neg (by simp only [decide_eq_true_eq]; exact c2), if_pos (show wi _ _ _ from ⟨by omega, by omega⟩)]) rfl
  unfold value_Rules.f vr
  rw [h]
  by_cases c : inb x
  · rw [if_pos ((rules_iff x).2 c), if_pos c]
  · rw [if_neg (fun h => c ((rules_iff x).1 h)), if_neg c]
end Go.Proofs.YtpeelghbhihgkaaDoor.T
namespace Go.Proofs.YtpeelghbhihgkaaDoor.T
open Go Go.Proofs Go.Proofs.YtpeelghbhihgkaaDoor.K
set_option linter.unusedVariables false
set_option linter.unusedSimpArgs false
def los : List Int := [1, 0, 1, 1, 1, 1, 1, 1, 1]
def his : List Int := [1048576, 1000, 16777216, 16777216, 65536, 1000, 16777216, 1000, 16777216]
def lim (b : Bool) (k : Nat) : Int × Int := if b then (his.getD k 0, IntKind.i64.wrap (his.getD k 0 + 1)) else (los.getD k 0, IntKind.i64.wrap (los.getD k 0 - 1))
theorem base_rules : sargassomake_Rules.f 0 = some ⟨5, 1, 3000, 2000, 200, 5, 2000, 5, 2000⟩ := by rfl
theorem with_all : ∀ k : Nat, k < 9 → ∀ b : Bool, ((sargassolaw15_with.f ⟨5, 1, 3000, 2000, 200, 5, 2000, 5, 2000⟩ (k : Int) (lim b k).1).map vr = some (.b 0)) ∧ ((sargassolaw15_with.f ⟨5, 1, 3000, 2000, 200, 5, 2000, 5, 2000⟩ (k : Int) (lim b k).2).map vr = some xErrRange) := by decide +kernel
theorem map_some {α β : Type} {o : Option α} {f : α → β} {y : β} (h : o.map f = some y) : ∃ x, o = some x ∧ f x = y := by
  cases o with
  | none => cases h
  | some x => exact ⟨x, rfl, Option.some.inj h⟩
theorem sargassolaw15_ValueRules.m (μ : Store) (x0 : Int) (h0 : InR .i64 x0) (x1 : Bool) : sargassolaw15_ValueRules.f x0 x1 = some true := by
  simp only [sargassolaw15_ValueRules.f]
  obtain ⟨y, ey, y0, y1⟩ := number_eq h0 (show (0 : Int) < 9 by omega) (by omega)
  obtain ⟨k, rfl⟩ : ∃ k : Nat, y = (k : Int) := ⟨y.toNat, by omega⟩
  rw [first15, Option.bind_some, if_pos rfl, base_rules, Option.bind_some, ey, Option.bind_some, if_pos (by simp; omega), if_pos (by simp; omega), Int.toNat_natCast]
  obtain ⟨w1, w2⟩ := with_all k (by omega) x1
  obtain ⟨r1, e1, v1⟩ := map_some w1
  obtain ⟨r2, e2, v2⟩ := map_some w2
  have hl : (if x1 = true then some (([1048576, 1000, 16777216, 16777216, 65536, 1000, 16777216, 1000, 16777216] : List Int).getD k 0, IntKind.i64.wrap ((([1048576, 1000, 16777216, 16777216, 65536, 1000, 16777216, 1000, 16777216] : List Int).getD k 0) + 1)) else some (([1, 0, 1, 1, 1, 1, 1, 1, 1] : List Int).getD k 0, IntKind.i64.wrap ((([1, 0, 1, 1, 1, 1, 1, 1, 1] : List Int).getD k 0) - 1))) = some (lim x1 k) := by
    cases x1 <;> rfl
  have s1 : sargassosee_Is.f xErrRange 122 = some true := by rw [is_range]; rfl
  rw [hl, Option.bind_some]
  simp only
  rw [e1, Option.bind_some, vrules_eq, v1, Option.bind_some, e2, Option.bind_some, vrules_eq, v2, Option.bind_some, if_pos rfl, if_pos trivial, s1]
  rfl
end Go.Proofs.YtpeelghbhihgkaaDoor.T
namespace Go.Proofs.YtpeelghbhihgkaaDoor.K
open Go Go.Proofs Go.ChangeShapes Go.WideShapes Go.RowKit
def mem (w : World) : Store := fun k => w.heap[k]?
theorem agr_mem (w : World) : Agr (mem w) w := fun _ _ h => h
theorem mem_cell {w : World} {g i : Nat} {v : Value} (h : w.cell? ⟨g, i, none⟩ = some v) : (mem w).cell g i = some v := by
  unfold World.cell? at h
  unfold Store.cell mem
  cases hm : w.heap[g]? with
  | none => simp [hm] at h
  | some o => cases o <;> simp_all
theorem wf_in {k : IntKind} {n : Int} (h : (Lit.int k n).wf = true) : InR k n := by
  cases k <;> simp [Lit.wf, IntKind.min, IntKind.max, IntKind.signed, IntKind.bits] at h <;> simp [InR] <;> omega
section
variable {H : Type} {enc : TypeId × Value → H} {P : Program} {w : World} {base : Nat} {spare : Nat → Bool} {held : Bool} {t e : TypeId}
theorem again {W W' : World} {v : Value} {d : DataW H} {ps : List MemPlace} (hl : laidOutB P = true) (hr : P.readableRec t = true) (hrow : t < P.types.size) (h : DataW.Trod enc P W 0 (fun _ => true) true t v d ps) (hb : Below W.heap.size W W') :
    DataW.Trod enc P W' 0 (fun b => decide (b < W.heap.size)) true t v d ps :=
  Below.trod hl hr hrow h hb (fun p hp => let ⟨n, hn⟩ := h; DataW.trod_lt n _ _ _ hn p hp)
end
end Go.Proofs.YtpeelghbhihgkaaDoor.K
namespace Go.Proofs.YtpeelghbhihgkaaDoor.K
open Go Go.Proofs
set_option linter.unusedVariables false
theorem laid_each {P : Program} {W : World} : ∀ {l : List (String × DataW Unit)} {ps : List MemPlace}, DataW.LaidVars P W l ps → ∀ {n : String} {d : DataW Unit}, (n, d) ∈ l →
    ∃ g t cs fuel p, P.globalNamed n = some g ∧ (P.globals[g]?).map (·.type) = some t ∧ W.var? P n = some cs ∧ DataW.trod (fun _ => ()) P W 0 (fun _ => true) false fuel t cs.toList = some (d, p) ∧ ∀ x ∈ MemPlace.row ⟨g, 0, none⟩ cs.size ++ p, x ∈ ps
  | [], ps, h, n, d, hm => by cases hm
  | (m, e) :: r, ps, h, n, d, hm => by
    obtain ⟨g, t, cs, fuel, p, q, hg, ht, hv, hd, hr, rfl⟩ := h
    rcases List.mem_cons.1 hm with e1 | hm
    · cases e1
      exact ⟨g, t, cs, fuel, p, hg, ht, hv, hd, fun x hx => List.mem_append_left _ hx⟩
    · obtain ⟨g', t', cs', fuel', p', a1, a2, a3, a4, a5⟩ := laid_each hr hm
      exact ⟨g', t', cs', fuel', p', a1, a2, a3, a4, fun x hx => List.mem_append_right _ (a5 x hx)⟩
theorem sent_of_laid {P : Program} {W : World} {laid : List (String × DataW Unit)} {code : ByteArray → Nat} {n : String} {text : List UInt8} {g : Nat} {ti tp ta te ts : TypeId} {ms : Array (String × TypeId)} {f : Field}
    (h : laidMet P laid W) (hm : (n, .iface "*errors.errorString" (.ptr (.agg [.lit (.string text)]))) ∈ laid) (hg : P.globalNamed n = some g) (ht : (P.globals[g]?).map (·.type) = some ti)
    (hi : P.underlying ti = some (.interface ms)) (hrow : ∀ u, P.typeName? 3 u = some "*errors.errorString" → u = tp) (hp : P.underlying tp = some (.pointer te)) (he : P.underlying te = some (.struct #[f])) (hft : f.type = ts) (hfo : f.offset = 0) (hs : P.underlying ts = some .string) (hc : P.cellsOf te = 1) (hcs : P.cellsOf ts = 1)
    (hcode : ∀ s : ByteArray, s.data.toList = text → code s = g + 1) : ∃ v, ErV tp ta code (mem W) (.b (g + 1)) v := by
  obtain ⟨ps, hl, hnd, hrows⟩ := h
  obtain ⟨g', t', cs, fuel, p, a1, a2, a3, a4, a5⟩ := laid_each hl hm
  obtain rfl := Option.some.inj (hg.symm.trans a1)
  obtain rfl := Option.some.inj (ht.symm.trans a2)
  obtain ⟨l⟩ := cs
  have ok : ∀ u v, l = [.iface u v] → Value.okWide P W .any 0 u v := fun u v e => by
    subst e
    exact (hrows g 0 (a5 _ (by simp [MemPlace.row]))).2 u v (by simpa using World.var?_cell hg a3 0)
  obtain ⟨a, s, rfl, hcell, hst, hz, rfl⟩ := errorString_of_trod hi hrow hp he hft hfo hs hc hcs a4 ok
  obtain ⟨c, t, hb⟩ := (hrows a.block a.off (a5 _ (by simp [MemPlace.row]))).1
  refine ⟨.iface tp (.pointer (some a)), .inr ⟨by omega, mem_cell (by simpa using World.var?_cell hg a3 0), a, s, c, t, rfl, hb, hcode s hst, fun w hw => ?_⟩⟩
  have e : w.heap[a.block]? = W.heap[a.block]? := (hw _ _ hb).trans hb.symm
  unfold World.cell? at hcell ⊢
  rw [e]
  exact hcell
end Go.Proofs.YtpeelghbhihgkaaDoor.K
namespace Go.Proofs.YtpeelghbhihgkaaDoor.T
open Go Go.Proofs Go.Proofs.YtpeelghbhihgkaaDoor.K
set_option linter.unusedVariables false
set_option linter.unusedSimpArgs false
set_option maxRecDepth 100000
theorem own : ownKnob Tryd.prog.godebug = none := by kernel_rfl
noncomputable def low : Nat := (World.holding Tryd.prog default ⟨#[], #[], []⟩).heap.size
abbrev es0 : ByteArray := { data := #[110, 111, 116, 32, 97, 115, 32, 105, 116, 32, 104, 97, 115, 32, 116, 111, 32, 98, 101] }
abbrev es1 : ByteArray := { data := #[116, 111, 111, 32, 109, 97, 110, 121, 44, 32, 111, 114, 32, 116, 111, 111, 32, 102, 101, 119] }
abbrev es2 : ByteArray := { data := #[116, 111, 111, 32, 108, 111, 110, 103] }
abbrev es3 : ByteArray := { data := #[97, 32, 107, 101, 121, 32, 116, 104, 97, 116, 32, 100, 111, 101, 115, 32, 110, 111, 116, 32, 102, 105, 116] }
abbrev es4 : ByteArray := { data := #[97, 110, 32, 97, 109, 111, 117, 110, 116, 32, 116, 104, 97, 116, 32, 99, 97, 110, 39, 116, 32, 98, 101] }
abbrev es5 : ByteArray := { data := #[111, 110, 101, 32, 116, 104, 105, 110, 103, 32, 116, 119, 105, 99, 101] }
abbrev es6 : ByteArray := { data := #[97, 32, 110, 117, 109, 98, 101, 114, 32, 111, 117, 116, 32, 111, 102, 32, 105, 116, 115, 32, 114, 97, 110, 103, 101] }
abbrev es7 : ByteArray := { data := #[108, 101, 115, 115, 32, 99, 111, 109, 101, 115, 32, 105, 110, 32, 116, 104, 97, 110, 32, 103, 111, 101, 115, 32, 111, 117, 116] }
abbrev es8 : ByteArray := { data := #[105, 116, 32, 101, 110, 100, 115, 32, 116, 111, 111, 32, 101, 97, 114, 108, 121] }
abbrev es9 : ByteArray := { data := #[110, 111, 32, 102, 105, 114, 115, 116, 32, 116, 114, 97, 110, 115, 97, 99, 116, 105, 111, 110, 32, 119, 104, 101, 114, 101, 32, 116, 104, 101, 114, 101, 32, 104, 97, 115, 32, 116, 111, 32, 98, 101, 32, 111, 110, 101, 44, 32, 111, 114, 32, 111, 110, 101, 32, 119, 104, 101, 114, 101, 32, 116, 104, 101, 114, 101, 32, 109, 97, 121, 32, 98, 101, 32, 110, 111, 110, 101] }
abbrev es10 : ByteArray := { data := #[97, 32, 114, 111, 111, 116, 32, 116, 104, 97, 116, 32, 100, 111, 101, 115, 32, 110, 111, 116, 32, 102, 105, 116] }
abbrev es11 : ByteArray := { data := #[107, 110, 111, 119, 110, 32, 97, 108, 114, 101, 97, 100, 121] }
abbrev es12 : ByteArray := { data := #[110, 111, 32, 115, 117, 99, 104, 32, 112, 97, 114, 101, 110, 116] }
abbrev es13 : ByteArray := { data := #[98, 101, 104, 105, 110, 100, 32, 119, 104, 97, 116, 32, 105, 115, 32, 110, 111, 116, 32, 118, 97, 108, 105, 100] }
abbrev es14 : ByteArray := { data := #[97, 32, 116, 105, 109, 101, 32, 116, 104, 97, 116, 32, 105, 115, 32, 116, 111, 111, 32, 101, 97, 114, 108, 121] }
abbrev es15 : ByteArray := { data := #[97, 32, 99, 111, 105, 110, 32, 116, 104, 97, 116, 32, 105, 115, 32, 110, 111, 116, 32, 116, 104, 101, 114, 101] }
abbrev es16 : ByteArray := { data := #[97, 32, 99, 111, 105, 110, 32, 116, 104, 97, 116, 32, 105, 115, 32, 116, 111, 111, 32, 121, 111, 117, 110, 103] }
abbrev es17 : ByteArray := { data := #[116, 111, 111, 32, 101, 97, 114, 108, 121, 32, 116, 111, 32, 98, 101, 32, 116, 97, 107, 101, 110] }
abbrev es18 : ByteArray := { data := #[109, 111, 114, 101, 32, 116, 104, 97, 110, 32, 116, 104, 101, 32, 114, 101, 119, 97, 114, 100] }
abbrev es19 : ByteArray := { data := #[97, 32, 99, 111, 105, 110, 32, 116, 104, 97, 116, 32, 105, 115, 32, 115, 112, 101, 110, 116, 32, 105, 110, 32, 116, 104, 101, 32, 112, 111, 111, 108] }
abbrev es20 : ByteArray := { data := #[116, 111, 111, 32, 109, 97, 110, 121, 32, 116, 104, 97, 116, 32, 104, 97, 110, 103, 32, 116, 111, 103, 101, 116, 104, 101, 114] }
abbrev es21 : ByteArray := { data := #[116, 104, 101, 114, 101, 32, 105, 115, 32, 110, 111, 32, 114, 111, 111, 109] }
abbrev es22 : ByteArray := { data := #[116, 104, 101, 114, 101, 32, 105, 115, 32, 110, 111, 110, 101] }
abbrev es23 : ByteArray := { data := #[110, 111, 32, 115, 117, 99, 104, 32, 119, 111, 114, 100] }
abbrev es24 : ByteArray := { data := #[110, 111, 116, 32, 97, 32, 110, 117, 109, 98, 101, 114] }
def setC (v : Value) : Obj → Obj
  | .cells _ t frozen => .cells #[v] t frozen
  | x => x
noncomputable def laidWorld (os : Os) : World :=
  let w0 := World.holding Tryd.prog os ⟨#[.cells #[.string es0] 223, .cells #[.string es1] 223, .cells #[.string es2] 223, .cells #[.string es3] 223, .cells #[.string es4] 223, .cells #[.string es5] 223, .cells #[.string es6] 223, .cells #[.string es7] 223, .cells #[.string es8] 223, .cells #[.string es9] 223, .cells #[.string es10] 223, .cells #[.string es11] 223, .cells #[.string es12] 223, .cells #[.string es13] 223, .cells #[.string es14] 223, .cells #[.string es15] 223, .cells #[.string es16] 223, .cells #[.string es17] 223, .cells #[.string es18] 223, .cells #[.string es19] 223, .cells #[.string es20] 223, .cells #[.string es21] 223, .cells #[.string es22] 223, .cells #[.string es23] 223, .cells #[.string es24] 223], #[], []⟩
  { w0 with heap := (((((((((((((((((((((((((w0.heap.modify 0 (setC (.iface 206 (.pointer (some ⟨low + 0, 0, none⟩))))).modify 1 (setC (.iface 206 (.pointer (some ⟨low + 1, 0, none⟩))))).modify 2 (setC (.iface 206 (.pointer (some ⟨low + 2, 0, none⟩))))).modify 3 (setC (.iface 206 (.pointer (some ⟨low + 3, 0, none⟩))))).modify 4 (setC (.iface 206 (.pointer (some ⟨low + 4, 0, none⟩))))).modify 5 (setC (.iface 206 (.pointer (some ⟨low + 5, 0, none⟩))))).modify 6 (setC (.iface 206 (.pointer (some ⟨low + 6, 0, none⟩))))).modify 7 (setC (.iface 206 (.pointer (some ⟨low + 7, 0, none⟩))))).modify 8 (setC (.iface 206 (.pointer (some ⟨low + 8, 0, none⟩))))).modify 9 (setC (.iface 206 (.pointer (some ⟨low + 9, 0, none⟩))))).modify 10 (setC (.iface 206 (.pointer (some ⟨low + 10, 0, none⟩))))).modify 11 (setC (.iface 206 (.pointer (some ⟨low + 11, 0, none⟩))))).modify 12 (setC (.iface 206 (.pointer (some ⟨low + 12, 0, none⟩))))).modify 13 (setC (.iface 206 (.pointer (some ⟨low + 13, 0, none⟩))))).modify 14 (setC (.iface 206 (.pointer (some ⟨low + 14, 0, none⟩))))).modify 15 (setC (.iface 206 (.pointer (some ⟨low + 15, 0, none⟩))))).modify 16 (setC (.iface 206 (.pointer (some ⟨low + 16, 0, none⟩))))).modify 17 (setC (.iface 206 (.pointer (some ⟨low + 17, 0, none⟩))))).modify 18 (setC (.iface 206 (.pointer (some ⟨low + 18, 0, none⟩))))).modify 19 (setC (.iface 206 (.pointer (some ⟨low + 19, 0, none⟩))))).modify 20 (setC (.iface 206 (.pointer (some ⟨low + 20, 0, none⟩))))).modify 21 (setC (.iface 206 (.pointer (some ⟨low + 21, 0, none⟩))))).modify 22 (setC (.iface 206 (.pointer (some ⟨low + 22, 0, none⟩))))).modify 23 (setC (.iface 206 (.pointer (some ⟨low + 23, 0, none⟩))))).modify 24 (setC (.iface 206 (.pointer (some ⟨low + 24, 0, none⟩))))) }
theorem starE : "*" ++ "errors.errorString" = "*errors.errorString" := by decide
theorem rowE (u : TypeId) (h : Tryd.prog.typeName? 3 u = some "*errors.errorString") : u = 206 :=
  typeName_ptr_named (nm := "errors.errorString") (by rw [starE]; kernel_rfl) (by kernel_rfl) (by decide) u (by rw [starE]; exact h)
theorem ceE : Tryd.prog.cellsOf 223 = 1 := by kernel_rfl
theorem csE : Tryd.prog.cellsOf 9 = 1 := by kernel_rfl
theorem sent0 {W : World} {l : List (String × DataW Unit)} (h : laidMet Tryd.prog l W) (hm : ("sargasso/api.ErrShape", .iface "*errors.errorString" (.ptr (.agg [.lit (.string [110, 111, 116, 32, 97, 115, 32, 105, 116, 32, 104, 97, 115, 32, 116, 111, 32, 98, 101])]))) ∈ l) : ∃ v, ErS (mem W) v (Er.b 1) :=
  sent_of_laid h hm (by kernel_rfl) (by kernel_rfl) Tryd.underlying34 rowE Tryd.underlying206 Tryd.underlying223 rfl rfl Tryd.underlying9 ceE csE (fun s hs => by unfold errCode; rw [hs]; kernel_rfl)
theorem sent1 {W : World} {l : List (String × DataW Unit)} (h : laidMet Tryd.prog l W) (hm : ("sargasso/api.ErrMany", .iface "*errors.errorString" (.ptr (.agg [.lit (.string [116, 111, 111, 32, 109, 97, 110, 121, 44, 32, 111, 114, 32, 116, 111, 111, 32, 102, 101, 119])]))) ∈ l) : ∃ v, ErS (mem W) v (Er.b 2) :=
  sent_of_laid h hm (by kernel_rfl) (by kernel_rfl) Tryd.underlying34 rowE Tryd.underlying206 Tryd.underlying223 rfl rfl Tryd.underlying9 ceE csE (fun s hs => by unfold errCode; rw [hs]; kernel_rfl)
theorem sent2 {W : World} {l : List (String × DataW Unit)} (h : laidMet Tryd.prog l W) (hm : ("sargasso/api.ErrLong", .iface "*errors.errorString" (.ptr (.agg [.lit (.string [116, 111, 111, 32, 108, 111, 110, 103])]))) ∈ l) : ∃ v, ErS (mem W) v (Er.b 3) :=
  sent_of_laid h hm (by kernel_rfl) (by kernel_rfl) Tryd.underlying34 rowE Tryd.underlying206 Tryd.underlying223 rfl rfl Tryd.underlying9 ceE csE (fun s hs => by unfold errCode; rw [hs]; kernel_rfl)
theorem sent3 {W : World} {l : List (String × DataW Unit)} (h : laidMet Tryd.prog l W) (hm : ("sargasso/api.ErrKey", .iface "*errors.errorString" (.ptr (.agg [.lit (.string [97, 32, 107, 101, 121, 32, 116, 104, 97, 116, 32, 100, 111, 101, 115, 32, 110, 111, 116, 32, 102, 105, 116])]))) ∈ l) : ∃ v, ErS (mem W) v (Er.b 4) :=
  sent_of_laid h hm (by kernel_rfl) (by kernel_rfl) Tryd.underlying34 rowE Tryd.underlying206 Tryd.underlying223 rfl rfl Tryd.underlying9 ceE csE (fun s hs => by unfold errCode; rw [hs]; kernel_rfl)
theorem sent4 {W : World} {l : List (String × DataW Unit)} (h : laidMet Tryd.prog l W) (hm : ("sargasso/api.ErrValue", .iface "*errors.errorString" (.ptr (.agg [.lit (.string [97, 110, 32, 97, 109, 111, 117, 110, 116, 32, 116, 104, 97, 116, 32, 99, 97, 110, 39, 116, 32, 98, 101])]))) ∈ l) : ∃ v, ErS (mem W) v (Er.b 5) :=
  sent_of_laid h hm (by kernel_rfl) (by kernel_rfl) Tryd.underlying34 rowE Tryd.underlying206 Tryd.underlying223 rfl rfl Tryd.underlying9 ceE csE (fun s hs => by unfold errCode; rw [hs]; kernel_rfl)
theorem sent5 {W : World} {l : List (String × DataW Unit)} (h : laidMet Tryd.prog l W) (hm : ("sargasso/api.ErrTwice", .iface "*errors.errorString" (.ptr (.agg [.lit (.string [111, 110, 101, 32, 116, 104, 105, 110, 103, 32, 116, 119, 105, 99, 101])]))) ∈ l) : ∃ v, ErS (mem W) v (Er.b 6) :=
  sent_of_laid h hm (by kernel_rfl) (by kernel_rfl) Tryd.underlying34 rowE Tryd.underlying206 Tryd.underlying223 rfl rfl Tryd.underlying9 ceE csE (fun s hs => by unfold errCode; rw [hs]; kernel_rfl)
theorem sent6 {W : World} {l : List (String × DataW Unit)} (h : laidMet Tryd.prog l W) (hm : ("sargasso/api.ErrRange", .iface "*errors.errorString" (.ptr (.agg [.lit (.string [97, 32, 110, 117, 109, 98, 101, 114, 32, 111, 117, 116, 32, 111, 102, 32, 105, 116, 115, 32, 114, 97, 110, 103, 101])]))) ∈ l) : ∃ v, ErS (mem W) v (Er.b 7) :=
  sent_of_laid h hm (by kernel_rfl) (by kernel_rfl) Tryd.underlying34 rowE Tryd.underlying206 Tryd.underlying223 rfl rfl Tryd.underlying9 ceE csE (fun s hs => by unfold errCode; rw [hs]; kernel_rfl)
theorem sent7 {W : World} {l : List (String × DataW Unit)} (h : laidMet Tryd.prog l W) (hm : ("sargasso/api.ErrLess", .iface "*errors.errorString" (.ptr (.agg [.lit (.string [108, 101, 115, 115, 32, 99, 111, 109, 101, 115, 32, 105, 110, 32, 116, 104, 97, 110, 32, 103, 111, 101, 115, 32, 111, 117, 116])]))) ∈ l) : ∃ v, ErS (mem W) v (Er.b 8) :=
  sent_of_laid h hm (by kernel_rfl) (by kernel_rfl) Tryd.underlying34 rowE Tryd.underlying206 Tryd.underlying223 rfl rfl Tryd.underlying9 ceE csE (fun s hs => by unfold errCode; rw [hs]; kernel_rfl)
theorem sent8 {W : World} {l : List (String × DataW Unit)} (h : laidMet Tryd.prog l W) (hm : ("sargasso/api.ErrEnd", .iface "*errors.errorString" (.ptr (.agg [.lit (.string [105, 116, 32, 101, 110, 100, 115, 32, 116, 111, 111, 32, 101, 97, 114, 108, 121])]))) ∈ l) : ∃ v, ErS (mem W) v (Er.b 9) :=
  sent_of_laid h hm (by kernel_rfl) (by kernel_rfl) Tryd.underlying34 rowE Tryd.underlying206 Tryd.underlying223 rfl rfl Tryd.underlying9 ceE csE (fun s hs => by unfold errCode; rw [hs]; kernel_rfl)
theorem sent9 {W : World} {l : List (String × DataW Unit)} (h : laidMet Tryd.prog l W) (hm : ("sargasso/api.ErrBase", .iface "*errors.errorString" (.ptr (.agg [.lit (.string [110, 111, 32, 102, 105, 114, 115, 116, 32, 116, 114, 97, 110, 115, 97, 99, 116, 105, 111, 110, 32, 119, 104, 101, 114, 101, 32, 116, 104, 101, 114, 101, 32, 104, 97, 115, 32, 116, 111, 32, 98, 101, 32, 111, 110, 101, 44, 32, 111, 114, 32, 111, 110, 101, 32, 119, 104, 101, 114, 101, 32, 116, 104, 101, 114, 101, 32, 109, 97, 121, 32, 98, 101, 32, 110, 111, 110, 101])]))) ∈ l) : ∃ v, ErS (mem W) v (Er.b 10) :=
  sent_of_laid h hm (by kernel_rfl) (by kernel_rfl) Tryd.underlying34 rowE Tryd.underlying206 Tryd.underlying223 rfl rfl Tryd.underlying9 ceE csE (fun s hs => by unfold errCode; rw [hs]; kernel_rfl)
theorem sent10 {W : World} {l : List (String × DataW Unit)} (h : laidMet Tryd.prog l W) (hm : ("sargasso/api.ErrRoot", .iface "*errors.errorString" (.ptr (.agg [.lit (.string [97, 32, 114, 111, 111, 116, 32, 116, 104, 97, 116, 32, 100, 111, 101, 115, 32, 110, 111, 116, 32, 102, 105, 116])]))) ∈ l) : ∃ v, ErS (mem W) v (Er.b 11) :=
  sent_of_laid h hm (by kernel_rfl) (by kernel_rfl) Tryd.underlying34 rowE Tryd.underlying206 Tryd.underlying223 rfl rfl Tryd.underlying9 ceE csE (fun s hs => by unfold errCode; rw [hs]; kernel_rfl)
theorem sent11 {W : World} {l : List (String × DataW Unit)} (h : laidMet Tryd.prog l W) (hm : ("sargasso/api.ErrKnown", .iface "*errors.errorString" (.ptr (.agg [.lit (.string [107, 110, 111, 119, 110, 32, 97, 108, 114, 101, 97, 100, 121])]))) ∈ l) : ∃ v, ErS (mem W) v (Er.b 12) :=
  sent_of_laid h hm (by kernel_rfl) (by kernel_rfl) Tryd.underlying34 rowE Tryd.underlying206 Tryd.underlying223 rfl rfl Tryd.underlying9 ceE csE (fun s hs => by unfold errCode; rw [hs]; kernel_rfl)
theorem sent12 {W : World} {l : List (String × DataW Unit)} (h : laidMet Tryd.prog l W) (hm : ("sargasso/api.ErrParent", .iface "*errors.errorString" (.ptr (.agg [.lit (.string [110, 111, 32, 115, 117, 99, 104, 32, 112, 97, 114, 101, 110, 116])]))) ∈ l) : ∃ v, ErS (mem W) v (Er.b 13) :=
  sent_of_laid h hm (by kernel_rfl) (by kernel_rfl) Tryd.underlying34 rowE Tryd.underlying206 Tryd.underlying223 rfl rfl Tryd.underlying9 ceE csE (fun s hs => by unfold errCode; rw [hs]; kernel_rfl)
theorem sent13 {W : World} {l : List (String × DataW Unit)} (h : laidMet Tryd.prog l W) (hm : ("sargasso/api.ErrInvalid", .iface "*errors.errorString" (.ptr (.agg [.lit (.string [98, 101, 104, 105, 110, 100, 32, 119, 104, 97, 116, 32, 105, 115, 32, 110, 111, 116, 32, 118, 97, 108, 105, 100])]))) ∈ l) : ∃ v, ErS (mem W) v (Er.b 14) :=
  sent_of_laid h hm (by kernel_rfl) (by kernel_rfl) Tryd.underlying34 rowE Tryd.underlying206 Tryd.underlying223 rfl rfl Tryd.underlying9 ceE csE (fun s hs => by unfold errCode; rw [hs]; kernel_rfl)
theorem sent14 {W : World} {l : List (String × DataW Unit)} (h : laidMet Tryd.prog l W) (hm : ("sargasso/api.ErrTime", .iface "*errors.errorString" (.ptr (.agg [.lit (.string [97, 32, 116, 105, 109, 101, 32, 116, 104, 97, 116, 32, 105, 115, 32, 116, 111, 111, 32, 101, 97, 114, 108, 121])]))) ∈ l) : ∃ v, ErS (mem W) v (Er.b 15) :=
  sent_of_laid h hm (by kernel_rfl) (by kernel_rfl) Tryd.underlying34 rowE Tryd.underlying206 Tryd.underlying223 rfl rfl Tryd.underlying9 ceE csE (fun s hs => by unfold errCode; rw [hs]; kernel_rfl)
theorem sent15 {W : World} {l : List (String × DataW Unit)} (h : laidMet Tryd.prog l W) (hm : ("sargasso/api.ErrMissing", .iface "*errors.errorString" (.ptr (.agg [.lit (.string [97, 32, 99, 111, 105, 110, 32, 116, 104, 97, 116, 32, 105, 115, 32, 110, 111, 116, 32, 116, 104, 101, 114, 101])]))) ∈ l) : ∃ v, ErS (mem W) v (Er.b 16) :=
  sent_of_laid h hm (by kernel_rfl) (by kernel_rfl) Tryd.underlying34 rowE Tryd.underlying206 Tryd.underlying223 rfl rfl Tryd.underlying9 ceE csE (fun s hs => by unfold errCode; rw [hs]; kernel_rfl)
theorem sent16 {W : World} {l : List (String × DataW Unit)} (h : laidMet Tryd.prog l W) (hm : ("sargasso/api.ErrYoung", .iface "*errors.errorString" (.ptr (.agg [.lit (.string [97, 32, 99, 111, 105, 110, 32, 116, 104, 97, 116, 32, 105, 115, 32, 116, 111, 111, 32, 121, 111, 117, 110, 103])]))) ∈ l) : ∃ v, ErS (mem W) v (Er.b 17) :=
  sent_of_laid h hm (by kernel_rfl) (by kernel_rfl) Tryd.underlying34 rowE Tryd.underlying206 Tryd.underlying223 rfl rfl Tryd.underlying9 ceE csE (fun s hs => by unfold errCode; rw [hs]; kernel_rfl)
theorem sent17 {W : World} {l : List (String × DataW Unit)} (h : laidMet Tryd.prog l W) (hm : ("sargasso/api.ErrEarly", .iface "*errors.errorString" (.ptr (.agg [.lit (.string [116, 111, 111, 32, 101, 97, 114, 108, 121, 32, 116, 111, 32, 98, 101, 32, 116, 97, 107, 101, 110])]))) ∈ l) : ∃ v, ErS (mem W) v (Er.b 18) :=
  sent_of_laid h hm (by kernel_rfl) (by kernel_rfl) Tryd.underlying34 rowE Tryd.underlying206 Tryd.underlying223 rfl rfl Tryd.underlying9 ceE csE (fun s hs => by unfold errCode; rw [hs]; kernel_rfl)
theorem sent18 {W : World} {l : List (String × DataW Unit)} (h : laidMet Tryd.prog l W) (hm : ("sargasso/api.ErrReward", .iface "*errors.errorString" (.ptr (.agg [.lit (.string [109, 111, 114, 101, 32, 116, 104, 97, 110, 32, 116, 104, 101, 32, 114, 101, 119, 97, 114, 100])]))) ∈ l) : ∃ v, ErS (mem W) v (Er.b 19) :=
  sent_of_laid h hm (by kernel_rfl) (by kernel_rfl) Tryd.underlying34 rowE Tryd.underlying206 Tryd.underlying223 rfl rfl Tryd.underlying9 ceE csE (fun s hs => by unfold errCode; rw [hs]; kernel_rfl)
theorem sent19 {W : World} {l : List (String × DataW Unit)} (h : laidMet Tryd.prog l W) (hm : ("sargasso/api.ErrClash", .iface "*errors.errorString" (.ptr (.agg [.lit (.string [97, 32, 99, 111, 105, 110, 32, 116, 104, 97, 116, 32, 105, 115, 32, 115, 112, 101, 110, 116, 32, 105, 110, 32, 116, 104, 101, 32, 112, 111, 111, 108])]))) ∈ l) : ∃ v, ErS (mem W) v (Er.b 20) :=
  sent_of_laid h hm (by kernel_rfl) (by kernel_rfl) Tryd.underlying34 rowE Tryd.underlying206 Tryd.underlying223 rfl rfl Tryd.underlying9 ceE csE (fun s hs => by unfold errCode; rw [hs]; kernel_rfl)
theorem sent20 {W : World} {l : List (String × DataW Unit)} (h : laidMet Tryd.prog l W) (hm : ("sargasso/api.ErrLimit", .iface "*errors.errorString" (.ptr (.agg [.lit (.string [116, 111, 111, 32, 109, 97, 110, 121, 32, 116, 104, 97, 116, 32, 104, 97, 110, 103, 32, 116, 111, 103, 101, 116, 104, 101, 114])]))) ∈ l) : ∃ v, ErS (mem W) v (Er.b 21) :=
  sent_of_laid h hm (by kernel_rfl) (by kernel_rfl) Tryd.underlying34 rowE Tryd.underlying206 Tryd.underlying223 rfl rfl Tryd.underlying9 ceE csE (fun s hs => by unfold errCode; rw [hs]; kernel_rfl)
theorem sent21 {W : World} {l : List (String × DataW Unit)} (h : laidMet Tryd.prog l W) (hm : ("sargasso/api.ErrFull", .iface "*errors.errorString" (.ptr (.agg [.lit (.string [116, 104, 101, 114, 101, 32, 105, 115, 32, 110, 111, 32, 114, 111, 111, 109])]))) ∈ l) : ∃ v, ErS (mem W) v (Er.b 22) :=
  sent_of_laid h hm (by kernel_rfl) (by kernel_rfl) Tryd.underlying34 rowE Tryd.underlying206 Tryd.underlying223 rfl rfl Tryd.underlying9 ceE csE (fun s hs => by unfold errCode; rw [hs]; kernel_rfl)
theorem sent22 {W : World} {l : List (String × DataW Unit)} (h : laidMet Tryd.prog l W) (hm : ("sargasso/api.ErrNone", .iface "*errors.errorString" (.ptr (.agg [.lit (.string [116, 104, 101, 114, 101, 32, 105, 115, 32, 110, 111, 110, 101])]))) ∈ l) : ∃ v, ErS (mem W) v (Er.b 23) :=
  sent_of_laid h hm (by kernel_rfl) (by kernel_rfl) Tryd.underlying34 rowE Tryd.underlying206 Tryd.underlying223 rfl rfl Tryd.underlying9 ceE csE (fun s hs => by unfold errCode; rw [hs]; kernel_rfl)
theorem sent23 {W : World} {l : List (String × DataW Unit)} (h : laidMet Tryd.prog l W) (hm : ("sargasso/api.ErrWord", .iface "*errors.errorString" (.ptr (.agg [.lit (.string [110, 111, 32, 115, 117, 99, 104, 32, 119, 111, 114, 100])]))) ∈ l) : ∃ v, ErS (mem W) v (Er.b 24) :=
  sent_of_laid h hm (by kernel_rfl) (by kernel_rfl) Tryd.underlying34 rowE Tryd.underlying206 Tryd.underlying223 rfl rfl Tryd.underlying9 ceE csE (fun s hs => by unfold errCode; rw [hs]; kernel_rfl)
theorem sent24 {W : World} {l : List (String × DataW Unit)} (h : laidMet Tryd.prog l W) (hm : ("sargasso/api.ErrNumber", .iface "*errors.errorString" (.ptr (.agg [.lit (.string [110, 111, 116, 32, 97, 32, 110, 117, 109, 98, 101, 114])]))) ∈ l) : ∃ v, ErS (mem W) v (Er.b 25) :=
  sent_of_laid h hm (by kernel_rfl) (by kernel_rfl) Tryd.underlying34 rowE Tryd.underlying206 Tryd.underlying223 rfl rfl Tryd.underlying9 ceE csE (fun s hs => by unfold errCode; rw [hs]; kernel_rfl)
end Go.Proofs.YtpeelghbhihgkaaDoor.T
namespace Go.Proofs.YtpeelghbhihgkaaDoor.T
open Go Go.Proofs Go.Proofs.YtpeelghbhihgkaaDoor.K
set_option linter.unusedVariables false
set_option linter.unusedSimpArgs false
theorem laid : laidOutB Tryd.prog = true := by kernel_rfl
theorem rr3 : Tryd.prog.readableRec 3 = true := by kernel_rfl
theorem tr3 : 3 < Tryd.prog.types.size := of_decide_eq_true (by kernel_rfl)
theorem rr4 : Tryd.prog.readableRec 4 = true := by kernel_rfl
theorem tr4 : 4 < Tryd.prog.types.size := of_decide_eq_true (by kernel_rfl)
section
variable {H : Type} {enc : TypeId × Value → H} {w : World} {base : Nat} {spare : Nat → Bool} {held : Bool}
end
end Go.Proofs.YtpeelghbhihgkaaDoor.T
namespace Go.Proofs.YtpeelghbhihgkaaDoor.J
open Go Go.Proofs
theorem words_cons : ∀ (w r : List Char), w.all (· != ' ') = true → wordsSigns (w ++ ' ' :: r) = w :: wordsSigns r
  | [], r, _ => rfl
  | c :: w, r, h => by
    simp only [List.all_cons, Bool.and_eq_true, bne_iff_ne, ne_eq] at h
    have ih := words_cons w r h.2
    rw [List.cons_append, wordsSigns, ih]
    exact fun e => h.1 e
set_option maxRecDepth 100000
def w0 : List Char := ['h', 'a', 'r', 'n', 'e', 's', 's']
def w1 : List Char := ['4', '4', 'c', '8', '7', '2', '5', '3', 'b', '6', 'd', '1', 'd', '6', '4', '9', 'e', 'a', '9', 'f', '3', '2', '0', '8', '1', 'a', '4', 'd', 'd', '5', 'f', 'b', 'f', 'f', '2', '1', '7', 'a', 'e', 'd', '9', 'a', 'b', '5', 'f', '6', '6', 'e', '5', 'b', '0', '9', '9', '1', 'c', '7', '7', 'e', 'b', '1', '8', 'b', '9', '7']
def w2 : List Char := ['c', 'u', 't']
def w3 : List Char := ['a', 't', ' ', 's', 'a', 'r', 'g', 'a', 's', 's', 'o', '/', 's', 'a', 'r', 'g', 'a', 's', 's', 'o', 'l', 'a', 'w', '2', '.', 'C', 'o', 'm', 'p', 'a', 'c', 't', 'B', 'a', 'c', 'k', ' ', 's', 'a', 'r', 'g', 'a', 's', 's', 'o', '/', 's', 'a', 'r', 'g', 'a', 's', 's', 'o', 'l', 'a', 'w', '2', '.', 'C', 'o', 'm', 'p', 'a', 'c', 't', 'F', 'e', 'w', 'e', 's', 't', ' ', 's', 'a', 'r', 'g', 'a', 's', 's', 'o', '/', 's', 'a', 'r', 'g', 'a', 's', 's', 'o', 'l', 'a', 'w', '2', '.', 'C', 'o', 'm', 'p', 'a', 'c', 't', 'R', 'o', 'w', 's', ' ', 's', 'a', 'r', 'g', 'a', 's', 's', 'o', '/', 's', 'a', 'r', 'g', 'a', 's', 's', 'o', 'l', 'a', 'w', '2', '.', 'C', 'o', 'm', 'p', 'a', 'c', 't', 'R', 'e', 'a', 'd', 's', ' ', 's', 'a', 'r', 'g', 'a', 's', 's', 'o', '/', 's', 'a', 'r', 'g', 'a', 's', 's', 'o', 'l', 'a', 'w', '2', '.', 'C', 'o', 'm', 'p', 'a', 'c', 't', 'S', 't', 'o', 'p', 's', ' ', 's', 'a', 'r', 'g', 'a', 's', 's', 'o', '/', 's', 'a', 'r', 'g', 'a', 's', 's', 'o', 'l', 'a', 'w', '4', '.', 'T', 'x', 'B', 'o', 'u', 'n', 'd', 's', ' ', 's', 'a', 'r', 'g', 'a', 's', 's', 'o', '/', 's', 'a', 'r', 'g', 'a', 's', 's', 'o', 'l', 'a', 'w', '4', '.', 'T', 'x', 'B', 'a', 's', 'e', 's', ' ', 's', 'a', 'r', 'g', 'a', 's', 's', 'o', '/', 's', 'a', 'r', 'g', 'a', 's', 's', 'o', 'l', 'a', 'w', '4', '.', 'T', 'x', 'B', 'a', 'c', 'k', ' ', 's', 'a', 'r', 'g', 'a', 's', 's', 'o', '/', 's', 'a', 'r', 'g', 'a', 's', 's', 'o', 'l', 'a', 'w', '4', '.', 'T', 'x', 'S', 'i', 'z', 'e', 's', ' ', 's', 'a', 'r', 'g', 'a', 's', 's', 'o', '/', 's', 'a', 'r', 'g', 'a', 's', 's', 'o', 'l', 'a', 'w', '4', '.', 'T', 'x', 'T', 'u', 'r', 'n', 'e', 'd', ' ', 's', 'a', 'r', 'g', 'a', 's', 's', 'o', '/', 's', 'a', 'r', 'g', 'a', 's', 's', 'o', 'l', 'a', 'w', '4', '.', 'T', 'x', 'S', 'a', 'y', 's', ' ', 's', 'a', 'r', 'g', 'a', 's', 's', 'o', '/', 's', 'a', 'r', 'g', 'a', 's', 's', 'o', 'l', 'a', 'w', '5', '.', 'H', 'e', 'a', 'd', 'W', 'o', 'r', 'k', ' ', 's', 'a', 'r', 'g', 'a', 's', 's', 'o', '/', 's', 'a', 'r', 'g', 'a', 's', 's', 'o', 'l', 'a', 'w', '5', '.', 'H', 'e', 'a', 'd', 'B', 'a', 'c', 'k', ' ', 's', 'a', 'r', 'g', 'a', 's', 's', 'o', '/', 's', 'a', 'r', 'g', 'a', 's', 's', 'o', 'l', 'a', 'w', '1', '5', '.', 'V', 'a', 'l', 'u', 'e', 'R', 'u', 'l', 'e', 's', ' ', 's', 'a', 'r', 'g', 'a', 's', 's', 'o', '/', 's', 'a', 'r', 'g', 'a', 's', 's', 'o', 'l', 'a', 'w', '1', '5', '.', 'V', 'a', 'l', 'u', 'e', 'K', 'e', 'e', 'p', 's', ' ', 's', 'a', 'r', 'g', 'a', 's', 's', 'o', '/', 's', 'a', 'r', 'g', 'a', 's', 's', 'o', 'l', 'a', 'w', '1', '5', '.', 'V', 'a', 'l', 'u', 'e', 'S', 'a', 'y', 's', ' ', 's', 'a', 'r', 'g', 'a', 's', 's', 'o', '/', 's', 'a', 'r', 'g', 'a', 's', 's', 'o', 'l', 'a', 'w', '2', '0', '.', 'N', 'o', 't', 'e', 's', 'C', 'a', 'p', ' ', 's', 'a', 'r', 'g', 'a', 's', 's', 'o', '/', 's', 'a', 'r', 'g', 'a', 's', 's', 'o', 'l', 'a', 'w', '2', '0', '.', 'N', 'o', 't', 'e', 's', 'P', 'l', 'a', 'y', ' ', 's', 'a', 'r', 'g', 'a', 's', 's', 'o', '/', 's', 'a', 'r', 'g', 'a', 's', 's', 'o', 'l', 'a', 'w', '2', '0', '.', 'N', 'o', 't', 'e', 's', 'O', 'p', 's']
theorem io0 : Tryd.prog.initOrder = String.ofList (w0 ++ ' ' :: (w1 ++ ' ' :: (w2 ++ ' ' :: w3))) := by kernel_rfl
theorem io : Tryd.prog.initOrder.toList = w0 ++ ' ' :: (w1 ++ ' ' :: (w2 ++ ' ' :: w3)) := (congrArg String.toList io0).trans String.toList_ofList
theorem ws : wordsSigns Tryd.prog.initOrder.toList = w0 :: w1 :: w2 :: wordsSigns w3 := by
  rw [io, words_cons _ _ (by kernel_rfl), words_cons _ _ (by kernel_rfl), words_cons _ _ (by kernel_rfl)]
theorem bm (R : List (List Char)) : behindMainWord (w0 :: w1 :: w2 :: R) = w2 :: R := by kernel_rfl
theorem main_of {P : Program} {R : List (List Char)} (h : wordsSigns P.initOrder.toList = w0 :: w1 :: R) : P.mainIs = some (true, w1) := by
  unfold Program.mainIs
  rw [h]
  kernel_rfl
theorem mainIs : Tryd.prog.mainIs = some (true, w1) := main_of ws
theorem bw : behindMainWord (wordsSigns Tryd.prog.initOrder.toList) = w2 :: wordsSigns w3 := by rw [ws, bm]
theorem st (R : List (List Char)) : stripLifts liftWords (w2 :: R) = ([], w2 :: R) := by kernel_rfl
theorem make_of {P : Program} {R : List (List Char)} (h : behindMainWord (wordsSigns P.initOrder.toList) = w2 :: R) : P.make = some .cut := by
  unfold Program.make
  rw [h]
  kernel_rfl
theorem head_of {P : Program} {R : List (List Char)} (h : behindMainWord (wordsSigns P.initOrder.toList) = w2 :: R) : P.headLifts = [] := by
  unfold Program.headLifts
  rw [h, st]
  kernel_rfl
theorem lifts_of {P : Program} {R : List (List Char)} (h : behindMainWord (wordsSigns P.initOrder.toList) = w2 :: R) : P.liftsFinal = false := by
  unfold Program.liftsFinal
  rw [h, head_of h]
  kernel_rfl
theorem may_of {P : Program} {R : List (List Char)} (h : behindMainWord (wordsSigns P.initOrder.toList) = w2 :: R) (h1 : P.laysLater = false) (h2 : P.bearsReflect = false) (h3 : P.doorFits [] = true) : P.mayEnter = true := by
  unfold Program.mayEnter
  rw [h]
  simp only [st, h1, h2, h3]
  kernel_rfl
theorem later : Tryd.prog.laysLater = false := by kernel_rfl
theorem reflect : Tryd.prog.bearsReflect = false := by kernel_rfl
theorem door : Tryd.prog.doorFits [] = true := by kernel_rfl
theorem make : Tryd.prog.make = some .cut := make_of bw
theorem lifts : Tryd.prog.liftsFinal = false := lifts_of bw
theorem may : Tryd.prog.mayEnter = true := may_of bw later reflect door
end Go.Proofs.YtpeelghbhihgkaaDoor.J
namespace Go.Proofs.YtpeelghbhihgkaaDoor.zValueRules
open Go Go.Proofs Go.Proofs.YtpeelghbhihgkaaDoor.K Go.Proofs.YtpeelghbhihgkaaDoor.T
open Go.ChangeShapes Go.WideShapes Go.ChangeAt Go.RowKit
set_option linter.unusedVariables false
theorem met (os : Os) (args : Array Value) : laidMetH Tryd.prog Rows.valueRulesRow.laid ((laidWorld os).forCall (fun _ _ => 0) ⟨#[], args, []⟩).memory :=
  laidMetH_of_parts (laidMet_of_run' 8 (by kernel_rfl) (by kernel_rfl)) (by kernel_rfl)
set_option maxRecDepth 100000 in
theorem lifted (os : Os) (started : os.Started) (H : Type) (enc : TypeId × Value → H) :
    ReturnsInHanded {} Tryd.checked os 16 .any (fun w args => (Rows.valueRulesSpec.pre enc Tryd.prog Tryd.f16 [] false w args ∧ laidMetH Tryd.prog Rows.valueRulesRow.laid w) ∧ sizedMet enc Tryd.prog Tryd.f16 (OpenSpec.ofChange Rows.valueRulesSpec) false w args) (Rows.valueRulesSpec.post enc Tryd.prog Tryd.f16 false true false false) := by
  refine returnsInHanded_of_change_and (C := Tryd.checked) (X := fun w _ => laidMetH Tryd.prog Rows.valueRulesRow.laid w) (fun _ _ _ hh h => h.of_heap hh) own started (by kernel_rfl) Tryd.func16
    (ChangeSpec.witness_at (enc := enc) (C := Tryd.checked) (os := os) (X := fun w _ => laidMetH Tryd.prog Rows.valueRulesRow.laid w) false (laidWorld os) #[.int .i64 0, .bool false] 8 rfl (by kernel_rfl) (by kernel_rfl) (by kernel_rfl) (by kernel_rfl) (by kernel_rfl) (met os _)) ?_
  intro W base args ds gs before hval0 hW hcnd hsz0 hL _
  have hL : laidMet Tryd.prog Rows.valueRulesRow.laid W := hL
  have hG : Gl (mem W) := ⟨sent0 hL (List.mem_of_getElem? (i := 1) rfl), sent1 hL (List.mem_of_getElem? (i := 3) rfl), sent2 hL (List.mem_of_getElem? (i := 2) rfl), sent3 hL (List.mem_of_getElem? (i := 13) rfl), sent4 hL (List.mem_of_getElem? (i := 4) rfl), sent5 hL (List.mem_of_getElem? (i := 5) rfl), sent6 hL (List.mem_of_getElem? (i := 21) rfl), sent7 hL (List.mem_of_getElem? (i := 16) rfl), sent8 hL (List.mem_of_getElem? (i := 0) rfl), sent9 hL (List.mem_of_getElem? (i := 6) rfl), sent10 hL (List.mem_of_getElem? (i := 7) rfl), sent11 hL (List.mem_of_getElem? (i := 8) rfl), sent12 hL (List.mem_of_getElem? (i := 9) rfl), sent13 hL (List.mem_of_getElem? (i := 10) rfl), sent14 hL (List.mem_of_getElem? (i := 11) rfl), sent15 hL (List.mem_of_getElem? (i := 12) rfl), sent16 hL (List.mem_of_getElem? (i := 14) rfl), sent17 hL (List.mem_of_getElem? (i := 15) rfl), sent18 hL (List.mem_of_getElem? (i := 17) rfl), sent19 hL (List.mem_of_getElem? (i := 18) rfl), sent20 hL (List.mem_of_getElem? (i := 19) rfl), sent21 hL (List.mem_of_getElem? (i := 20) rfl), sent22 hL (List.mem_of_getElem? (i := 22) rfl), sent23 hL (List.mem_of_getElem? (i := 23) rfl), sent24 hL (List.mem_of_getElem? (i := 24) rfl)⟩
  have hW' := hW
  obtain ⟨p, q, hA0, hV, rfl, hfz, hnd⟩ := hW
  have hA : DataW.TrodAll enc Tryd.prog W 0 (fun _ => true) true Tryd.f16.params.toList args.toList ds p := hA0
  have hval : ∀ (j : Nat) t v, Tryd.f16.params[j]? = some t → args[j]? = some v → Value.okWide Tryd.prog W .any base t v := hval0
  rw [Tryd.params16] at hA hval
  obtain ⟨v0, vs0, d0, ds0, p0, q0, hargs, rfl, rfl, h0, r0⟩ := trodAll_cons hA
  obtain ⟨v1, vs1, d1, ds1, p1, q1, rfl, rfl, rfl, h1, r1⟩ := trodAll_cons r0
  obtain ⟨rfl, rfl, rfl⟩ := trodAll_nil r1
  obtain rfl : args = #[v0, v1] := by cases args; simp_all
  obtain ⟨rfl, rfl⟩ := trodVars_none hV
  obtain ⟨x0, rfl, _, _, w0⟩ := open_int Tryd.underlying3 (hval 0 3 v0 rfl rfl) h0
  obtain ⟨x1, rfl, _, _⟩ := open_bool Tryd.underlying4 (hval 1 4 v1 rfl rfl) h1
  have hμ : Agr (mem W) W := agr_mem W
  have hm := sargassolaw15_ValueRules.m (mem W) x0 (wf_in w0) x1
  refine (sargassolaw15_ValueRules.c (mem W) W hμ x0 (wf_in w0) x1 hG true hm).mono fun e W' ⟨v, he, hv, _, hI⟩ => ?_
  subst hv
  subst he
  have bel : Below W.heap.size W W' := hI.below
  exact ⟨_, rfl, _, _, _, [], _, [], hW', trodAll_mk1 (shut_bool Tryd.underlying4 _), (trodAll_cons_mk (again laid rr3 tr3 h0 bel) (trodAll_cons_mk (again laid rr4 tr4 h1 bel) trodAll_mk0)), rfl, bel.frame _, fun h => by cases h⟩
theorem closed : joinedFacts Tryd.prog 16 Tryd.f16 Rows.valueRulesSpec Rows.valueRulesRow = true := by
  unfold joinedFacts
  rw [J.may, J.lifts, J.make]
  kernel_rfl
theorem over : Rows.valueRulesRow.holds Tryd.pinned (OpenSpec.ofChange Rows.valueRulesSpec) :=
  OpenClaim.holds_of_wide 16 Tryd.f16 rfl rfl rfl rfl rfl rfl rfl ⟨rfl, rfl, rfl, rfl, rfl⟩ rfl rfl rfl rfl rfl (by kernel_rfl) Tryd.func16 closed
    (of_decide_eq_true (by kernel_rfl)) (by unfold Func.isWrapper; first | (rw [if_pos (by decide +kernel)]; kernel_rfl) | (rw [if_neg (by decide +kernel)]; exact ⟨rfl, rfl⟩))
    (fun os started H enc _ => lifted os started H enc)
theorem card : Rows.ValueRulesCardSaid :=
  Claim7.holds_tied_plain_at .later [] [.sentinel, .sentinel, .sentinel, .sentinel, .sentinel, .sentinel, .sentinel, .sentinel, .sentinel, .sentinel, .sentinel, .sentinel, .sentinel, .sentinel, .sentinel, .sentinel, .sentinel, .sentinel, .sentinel, .sentinel, .sentinel, .sentinel, .sentinel, .sentinel, .sentinel] true (true, "44c87253b6d1d649ea9f32081a4dd5fbff217aed9ab5f66e5b0991c77eb18b97") true
    over (fun _ h => by cases h) (by kernel_rfl) (fun _ h => by cases h) valueRules_row_tie rfl ⟨rfl, rfl⟩ (J.mainIs.trans (congrArg (fun s => some (true, s)) (by kernel_rfl))) rfl
    (fun f fn hf hfn => by
      obtain rfl : f = 16 := Option.some.inj ((show Tryd.prog.funcNamed "sargasso/sargassolaw15.ValueRules" = some 16 by kernel_rfl).symm.trans hf) |>.symm
      obtain rfl : fn = Tryd.f16 := (Option.some.inj (Tryd.func16.symm.trans hfn)).symm
      exact ⟨by kernel_rfl, fun j t ht => by
        rw [Tryd.params16] at ht
        rcases j with _ | _ | j
        · obtain rfl : (3 : TypeId) = t := by simpa using ht
          exact (show Tryd.prog.wantsStandIn 3 = false by kernel_rfl)
        · obtain rfl : (4 : TypeId) = t := by simpa using ht
          exact (show Tryd.prog.wantsStandIn 4 = false by kernel_rfl)
        · simp at ht⟩)
    (by kernel_rfl)
end Go.Proofs.YtpeelghbhihgkaaDoor.zValueRules
namespace Go.Proofs.YtpeelghbhihgkaaDoor
theorem valueRules_holds : Rows.ValueRulesCardSaid := zValueRules.card
#print axioms valueRules_holds
end Go.Proofs.YtpeelghbhihgkaaDoor
