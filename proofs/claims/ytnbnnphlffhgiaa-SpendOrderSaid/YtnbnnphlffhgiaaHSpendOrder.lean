/- A helper of this seat's claims: printed by gen.py. It proves no statement by itself. -/
import Derived.Test.YtnbnnphlffhgiaaCH
import Derived.Test.YtnbnnphlffhgiaaGSpendOrder
namespace Go.Proofs.Ytnbnnphlffhgiaa.T
open Go Go.Proofs Go.Proofs.Ytnbnnphlffhgiaa.K
set_option linter.unusedVariables false
set_option linter.unusedSimpArgs false
/-! sargassolaw3.SpendOrder: function 12 -/
set_option maxRecDepth 20000 in
theorem sargassolaw3_SpendOrder.c (μ : Store) (w0 : World) (hμ : Agr μ w0) (x0 : Point) (hx0 : PointW μ x0) (x1 : Point) (hx1 : PointW μ x1) (x2 : Point) (hx2 : PointW μ x2) (r : Bool) (H : sargassolaw3_SpendOrder.f x0 x1 x2 = some r) :
    Calls Try.prog 12 [.agg [av .u8 32 x0.Tx, [.int .u32 x0.N]].flatten.toArray, .agg [av .u8 32 x1.Tx, [.int .u32 x1.N]].flatten.toArray, .agg [av .u8 32 x2.Tx, [.int .u32 x2.N]].flatten.toArray].toArray w0 (fun e w' => ∃ v, e = .returned v ∧ v = .bool r ∧ True ∧ Iv w0 [] μ μ [] w') := by
  refine enter Try.func12 rfl Try.ntmps12 rfl fun a hA => ?_
  have hI := Iv.start hμ
  have H := bI H
  refine w_seq fun _ hN1 => ?_
  refine w_reg ?_
  refine o_box [av .u8 32 x0.Tx, [.int .u32 x0.N]] hI hA rfl rfl rfl fun g1 a w hA hI hg1 => 
    o_box [av .u8 32 x1.Tx, [.int .u32 x1.N]] hI hA rfl rfl rfl fun g2 a w hA hI hg2 => 
    o_box [av .u8 32 x2.Tx, [.int .u32 x2.N]] hI hA rfl rfl rfl fun g3 a w hA hI hg3 => 
    stp hA (r_as hA rfl) rfl fun a hA => ?_
  refine o_nil ?_
  refine hN1 _ _ ?_
  refine w_seq fun _ hN2 => ?_
  refine w_reg ?_
  obtain ⟨r1, hr1, H⟩ := bB H
  refine o_callp (u := .bool r1) cf53 hA rfl hI (sargassolaw3_first.c μ _ hI.agr  r1 hr1) rfl fun a w hz1 hI hA => 
    stp hA (r_as hA rfl) rfl fun a hA => ?_
  refine o_nil ?_
  refine hN2 _ _ ?_
  refine w_seq fun _ hN3 => ?_
  refine w_seq fun _ hN4 => ?_
  refine w_reg ?_
  refine stp hA (r_mv hA rfl) rfl fun a hA => 
    stp hA (r_not hA rfl) rfl fun a hA => ?_
  refine o_nil ?_
  refine hN4 _ _ ?_
  refine w_cond hA rfl (fun hc1 => ?_) (fun hc1 => ?_)
  · have hc10 := hc1; have hc1 := nT hc1; have hc1 := ft hc1; have H := bF H hc1
    refine w_seq fun _ hN5 => ?_
    refine w_reg ?_
    refine stp hA (r_as hA rfl) rfl fun a hA => ?_
    refine o_nil ?_
    refine hN5 _ _ ?_
    refine w_ret ?_
    obtain rfl := Option.some.inj (bS H)
    exact ret1 hA Try.results12 rfl ⟨_, rfl, rfl, trivial, hI.forget0⟩
  · have hc10 := hc1; have hc1 := nF hc1; have H := bT H hc1
    refine w_skip ?_
    refine hN3 _ _ ?_
    refine w_seq fun _ hN6 => ?_
    refine w_reg ?_
    refine stp hA (r_fd (k := 0) Try.underlying57 rfl sz33 hA rfl rfl) rfl fun a hA => 
      stp hA (r_ldA (j := 2) [] [av .u8 32 x0.Tx] [[.int .u32 x0.N]] Try.underlying33 rfl sz33 rfl hI rfl hA rfl rfl) rfl fun a hA => 
      stp hA (r_fd (k := 32) Try.underlying57 rfl sz25 hA rfl rfl) rfl fun a hA => 
      stp hA (r_ld1 (j := 1) [av .u8 32 x1.Tx] [] Try.underlying25 rfl hI rfl hA rfl rfl) rfl fun a hA => 
      stp hA (r_bldS (cs := [av .u8 32 x0.Tx, [.int .u32 x1.N]].flatten.toArray) (pl := [(0, 32), (32, 1)]) zr57 Try.underlying57 ⟨rfl, sz33, rfl, sz25, trivial⟩ hA rfl (by kernel_rfl)) rfl fun a hA => 
      o_new [av .u8 32 (List.replicate 32 0), [.int .u32 0]] zr57 hI hA rfl fun g4 a w hA hI hg4 => 
      o_st (j := 0) [] [av .u8 32 (List.replicate 32 0), [.int .u32 0]] [av .u8 32 x0.Tx, [.int .u32 x1.N]] [] sz57 rfl rfl (fl_cons (one_av _ _ _) (fl_cons (one_one rfl) fl_nil)) hI rfl hA rfl rfl rfl rfl fun w hI => ?_
    refine o_nil ?_
    refine hN6 _ _ ?_
    refine w_seq fun _ hN7 => ?_
    refine w_reg ?_
    refine stp hA (r_ldA (j := 3) [] [av .u8 32 x0.Tx, [.int .u32 x0.N]] [] Try.underlying57 rfl sz57 rfl hI rfl hA rfl rfl) rfl fun a hA => 
      stp hA (r_ldA (j := 2) [] [av .u8 32 x1.Tx, [.int .u32 x1.N]] [] Try.underlying57 rfl sz57 rfl hI rfl hA rfl rfl) rfl fun a hA => ?_
    obtain ⟨r2, hr2, H⟩ := bB H
    refine o_callp (u := .bool r2) cf58 hA rfl hI (sargassoref_SamePoint.c μ _ hI.agr x0 ⟨hx0.1, hx0.2⟩ x1 ⟨hx1.1, hx1.2⟩ r2 hr2) rfl fun a w hz2 hI hA => 
      stp hA (r_as hA rfl) rfl fun a hA => ?_
    refine o_nil ?_
    refine hN7 _ _ ?_
    refine w_seq fun _ hN8 => ?_
    obtain ⟨c1, hz3, Hk1⟩ := bB H
    refine w_cut (fun a w => Fr a 70 [(0, .agg [av .u8 32 x0.Tx, [.int .u32 x0.N]].flatten.toArray), (1, .agg [av .u8 32 x1.Tx, [.int .u32 x1.N]].flatten.toArray), (2, .agg [av .u8 32 x2.Tx, [.int .u32 x2.N]].flatten.toArray), (3, .pointer (some ⟨g1, 0, none⟩)), (4, .pointer (some ⟨g2, 0, none⟩)), (5, .pointer (some ⟨g3, 0, none⟩)), (6, .bool false), (7, .bool r1), (8, .pointer (some ⟨g4, 0, none⟩)), (9, .bool r2), (12, .bool (!r1)), (34, .bool c1)] ∧ Iv w0 [] μ μ [cel g4 [av .u8 32 x0.Tx, [.int .u32 x1.N]] 57, cel g3 [av .u8 32 x2.Tx, [.int .u32 x2.N]] 57, cel g2 [av .u8 32 x1.Tx, [.int .u32 x1.N]] 57, cel g1 [av .u8 32 x0.Tx, [.int .u32 x0.N]] 57] w) ?_ ?_
    · have H := bI hz3
      refine w_reg ?_
      refine stp hA (r_ldA (j := 3) [] [av .u8 32 x0.Tx, [.int .u32 x0.N]] [] Try.underlying57 rfl sz57 rfl hI rfl hA rfl rfl) rfl fun a hA => 
        stp hA (r_ldA (j := 2) [] [av .u8 32 x1.Tx, [.int .u32 x1.N]] [] Try.underlying57 rfl sz57 rfl hI rfl hA rfl rfl) rfl fun a hA => ?_
      obtain ⟨r3, hr3, H⟩ := bB H
      refine o_callp (u := .bool r3) cf61 hA rfl hI (spend_Less.c μ _ hI.agr x0 ⟨hx0.1, hx0.2⟩ x1 ⟨hx1.1, hx1.2⟩ r3 hr3) rfl fun a w hz4 hI hA => 
        stp hA (r_mv hA rfl) rfl fun a hA => ?_
      rcases Bool.eq_false_or_eq_true r3 with hc2 | hc2
      · have hc20 := hc2; have H := bT H hc2
        refine o_yes hA rfl rfl hc20 <| 
          stp hA (r_ldA (j := 2) [] [av .u8 32 x1.Tx, [.int .u32 x1.N]] [] Try.underlying57 rfl sz57 rfl hI rfl hA rfl rfl) rfl fun a hA => 
          o_yes hA rfl rfl hc20 <| 
          stp hA (r_ldA (j := 1) [] [av .u8 32 x2.Tx, [.int .u32 x2.N]] [] Try.underlying57 rfl sz57 rfl hI rfl hA rfl rfl) rfl fun a hA => 
          o_yes hA rfl rfl hc20 <| ?_
        obtain ⟨r4, hr4, H⟩ := bB H
        refine o_callp (u := .bool r4) cf61 hA rfl hI (spend_Less.c μ _ hI.agr x1 ⟨hx1.1, hx1.2⟩ x2 ⟨hx2.1, hx2.2⟩ r4 hr4) rfl fun a w hz5 hI hA => 
          stp hA (r_pick_t hA rfl hc20 rfl) rfl fun a hA => 
          stp hA (r_mv hA rfl) rfl fun a hA => ?_
        rcases Bool.eq_false_or_eq_true r4 with hc3 | hc3
        · have hc30 := hc3; have H := bT H hc3
          refine o_yes hA rfl rfl hc30 <| 
            stp hA (r_ldA (j := 3) [] [av .u8 32 x0.Tx, [.int .u32 x0.N]] [] Try.underlying57 rfl sz57 rfl hI rfl hA rfl rfl) rfl fun a hA => 
            o_yes hA rfl rfl hc30 <| 
            stp hA (r_ldA (j := 1) [] [av .u8 32 x2.Tx, [.int .u32 x2.N]] [] Try.underlying57 rfl sz57 rfl hI rfl hA rfl rfl) rfl fun a hA => 
            o_yes hA rfl rfl hc30 <| ?_
          obtain ⟨r5, hr5, H⟩ := bB H
          refine o_callp (u := .bool r5) cf61 hA rfl hI (spend_Less.c μ _ hI.agr x0 ⟨hx0.1, hx0.2⟩ x2 ⟨hx2.1, hx2.2⟩ r5 hr5) rfl fun a w hz6 hI hA => 
            o_yes hA rfl rfl hc30 <| 
            stp hA (r_not hA rfl) rfl fun a hA => 
            stp hA (r_pick_t hA rfl hc30 rfl) rfl fun a hA => ?_
          refine o_nil ?_
          cases Option.some.inj (bS H)
          exact ⟨hA.sub ⟨rfl, rfl, rfl, rfl, rfl, rfl, rfl, rfl, rfl, rfl, rfl, rfl, trivial⟩, hI⟩
        · have hc30 := hc3; have hc3 := ft hc3; have H := bF H hc3
          refine o_no hA rfl rfl (by rw [hc30]; simp [vb]) rfl fun a hA => 
            o_no hA rfl rfl (by rw [hc30]; simp [vb]) rfl fun a hA => 
            o_no hA rfl rfl (by rw [hc30]; simp [vb]) rfl fun a hA => 
            o_no hA rfl rfl (by rw [hc30]; simp [vb]) rfl fun a hA => 
            stp hA (r_pick_f hA rfl hc30 rfl) rfl fun a hA => ?_
          refine o_nil ?_
          cases Option.some.inj (bS H)
          exact ⟨hA.sub ⟨rfl, rfl, rfl, rfl, rfl, rfl, rfl, rfl, rfl, rfl, rfl, rfl, trivial⟩, hI⟩
      · have hc20 := hc2; have hc2 := ft hc2; have H := bF H hc2
        refine o_no hA rfl rfl (by rw [hc20]; simp [vb]) rfl fun a hA => 
          o_no hA rfl rfl (by rw [hc20]; simp [vb]) rfl fun a hA => 
          o_no hA rfl rfl (by rw [hc20]; simp [vb]) rfl fun a hA => 
          stp hA (r_pick_f hA rfl hc20 rfl) rfl fun a hA => 
          stp hA (r_mv hA rfl) rfl fun a hA => 
          o_no hA rfl rfl (by simp [vb]) rfl fun a hA => 
          o_no hA rfl rfl (by simp [vb]) rfl fun a hA => 
          o_no hA rfl rfl (by simp [vb]) rfl fun a hA => 
          o_no hA rfl rfl (by simp [vb]) rfl fun a hA => 
          stp hA (r_pick_f hA rfl rfl rfl) rfl fun a hA => ?_
        refine o_nil ?_
        cases Option.some.inj (bS H)
        exact ⟨hA.sub ⟨rfl, rfl, rfl, rfl, rfl, rfl, rfl, rfl, rfl, rfl, rfl, rfl, trivial⟩, hI⟩
    · rintro a w ⟨hA, hI⟩
      have H := Hk1
      refine w_cond hA rfl (fun hc4 => ?_) (fun hc4 => ?_)
      · have hc40 := hc4; have H := bT H hc4
        refine w_seq fun _ hN9 => ?_
        refine w_reg ?_
        refine stp hA (r_as hA rfl) rfl fun a hA => ?_
        refine o_nil ?_
        refine hN9 _ _ ?_
        refine w_ret ?_
        obtain rfl := Option.some.inj (bS H)
        exact ret1 hA Try.results12 rfl ⟨_, rfl, rfl, trivial, hI.forget0⟩
      · have hc40 := hc4; have hc4 := ft hc4; have H := bF H hc4
        refine w_skip ?_
        refine hN8 _ _ ?_
        obtain ⟨c2, hz7, Hk2⟩ := bB H
        refine w_cut (fun a w => Fr a 70 [(0, .agg [av .u8 32 x0.Tx, [.int .u32 x0.N]].flatten.toArray), (1, .agg [av .u8 32 x1.Tx, [.int .u32 x1.N]].flatten.toArray), (2, .agg [av .u8 32 x2.Tx, [.int .u32 x2.N]].flatten.toArray), (3, .pointer (some ⟨g1, 0, none⟩)), (4, .pointer (some ⟨g2, 0, none⟩)), (5, .pointer (some ⟨g3, 0, none⟩)), (6, .bool c2), (7, .bool r1), (8, .pointer (some ⟨g4, 0, none⟩)), (9, .bool r2), (12, .bool (!r1)), (34, .bool c1)] ∧ Iv w0 [] μ μ [cel g4 [av .u8 32 x0.Tx, [.int .u32 x1.N]] 57, cel g3 [av .u8 32 x2.Tx, [.int .u32 x2.N]] 57, cel g2 [av .u8 32 x1.Tx, [.int .u32 x1.N]] 57, cel g1 [av .u8 32 x0.Tx, [.int .u32 x0.N]] 57] w) ?_ ?_
        · have H := bI hz7
          refine w_draw mo (by kernel_rfl) hI ?_
          refine qtp hA (fun _ hI => r_mv hA rfl) rfl fun a hA => 
            qtp hA (fun _ hI => r_mv hA rfl) rfl fun a hA => ?_
          rcases Bool.eq_false_or_eq_true r1 with hc5 | hc5
          · have hc50 := hc5; have H := bT H hc5
            refine q_yes hA rfl rfl hc50 <| 
              qtp hA (fun _ hI => r_ldA (j := 3) [] [av .u8 32 x0.Tx, [.int .u32 x0.N]] [] Try.underlying57 rfl sz57 rfl hI rfl hA rfl rfl) rfl fun a hA => 
              q_yes hA rfl rfl hc50 <| 
              qtp hA (fun _ hI => r_ldA (j := 2) [] [av .u8 32 x1.Tx, [.int .u32 x1.N]] [] Try.underlying57 rfl sz57 rfl hI rfl hA rfl rfl) rfl fun a hA => 
              q_yes hA rfl rfl hc50 <| ?_
            obtain ⟨r6, hr6, H⟩ := bB H
            refine qcall (v := .bool r6) cf61 hA rfl (fun _ hI => plq (spend_Less.c μ _ hI.agr x0 ⟨hx0.1, hx0.2⟩ x1 ⟨hx1.1, hx1.2⟩ r6 hr6) hI) rfl fun a hA => 
              q_yes hA rfl rfl hc50 <| 
              qtp hA (fun _ hI => r_mv hA rfl) rfl fun a hA => ?_
            rcases Bool.eq_false_or_eq_true r6 with hc6 | hc6
            · have hc60 := hc6; have H := bT H hc6
              refine q_no hA rfl rfl (by rw [hc60]; simp [vb]) rfl fun a hA => 
                q_no hA rfl rfl (by rw [hc60]; simp [vb]) rfl fun a hA => 
                q_no hA rfl rfl (by rw [hc60]; simp [vb]) rfl fun a hA => 
                q_yes hA rfl rfl hc50 <| 
                qtp hA (fun _ hI => r_pick_t hA rfl hc60 rfl) rfl fun a hA => 
                q_yes hA rfl rfl hc50 <| 
                qtp hA (fun _ hI => r_mv hA rfl) rfl fun a hA => 
                q_yes hA rfl rfl hc50 <| 
                qtp hA (fun _ hI => r_neqb Try.underlying4 hA rfl rfl) rfl fun a hA => 
                qtp hA (fun _ hI => r_pick_t hA rfl hc50 rfl) rfl fun a hA => 
                qtp hA (fun _ hI => r_mv hA rfl) rfl fun a hA => ?_
              rcases Bool.eq_false_or_eq_true (decide (true ≠ r2)) with hc7 | hc7
              · have hc70 := hc7; have hc7 := of_decide_eq_true hc7; have H := bT H hc7
                refine q_yes hA rfl rfl hc70 <| 
                  qtp hA (fun _ hI => r_ldA (j := 3) [] [av .u8 32 x0.Tx, [.int .u32 x0.N]] [] Try.underlying57 rfl sz57 rfl hI rfl hA rfl rfl) rfl fun a hA => 
                  q_yes hA rfl rfl hc70 <| 
                  qtp hA (fun _ hI => r_ldA (j := 2) [] [av .u8 32 x1.Tx, [.int .u32 x1.N]] [] Try.underlying57 rfl sz57 rfl hI rfl hA rfl rfl) rfl fun a hA => 
                  q_yes hA rfl rfl hc70 <| ?_
                obtain ⟨r7, hr7, H⟩ := bB H
                refine qcall (v := .bool r7) cf61 hA rfl (fun _ hI => plq (spend_Less.c μ _ hI.agr x0 ⟨hx0.1, hx0.2⟩ x1 ⟨hx1.1, hx1.2⟩ r7 hr7) hI) rfl fun a hA => 
                  q_yes hA rfl rfl hc70 <| 
                  qtp hA (fun _ hI => r_mv hA rfl) rfl fun a hA => ?_
                rcases Bool.eq_false_or_eq_true r7 with hc8 | hc8
                · have hc80 := hc8; have H := bT H hc8
                  refine q_yes hA rfl rfl hc80 <| 
                    qtp hA (fun _ hI => r_ldA (j := 2) [] [av .u8 32 x1.Tx, [.int .u32 x1.N]] [] Try.underlying57 rfl sz57 rfl hI rfl hA rfl rfl) rfl fun a hA => 
                    q_yes hA rfl rfl hc80 <| 
                    qtp hA (fun _ hI => r_ldA (j := 3) [] [av .u8 32 x0.Tx, [.int .u32 x0.N]] [] Try.underlying57 rfl sz57 rfl hI rfl hA rfl rfl) rfl fun a hA => 
                    q_yes hA rfl rfl hc80 <| ?_
                  obtain ⟨r8, hr8, H⟩ := bB H
                  refine qcall (v := .bool r8) cf61 hA rfl (fun _ hI => plq (spend_Less.c μ _ hI.agr x1 ⟨hx1.1, hx1.2⟩ x0 ⟨hx0.1, hx0.2⟩ r8 hr8) hI) rfl fun a hA => 
                    q_yes hA rfl rfl hc70 <| 
                    qtp hA (fun _ hI => r_pick_t hA rfl hc80 rfl) rfl fun a hA => 
                    q_yes hA rfl rfl hc70 <| 
                    qtp hA (fun _ hI => r_not hA rfl) rfl fun a hA => 
                    qtp hA (fun _ hI => r_pick_t hA rfl hc70 rfl) rfl fun a hA => 
                    qtp hA (fun _ hI => r_mv hA rfl) rfl fun a hA => ?_
                  rcases Bool.eq_false_or_eq_true (!r8) with hc9 | hc9
                  · have hc90 := hc9; have hc9 := nT hc9; have hc9 := ft hc9; have H := bF H hc9
                    refine q_yes hA rfl rfl hc90 <| 
                      qtp hA (fun _ hI => r_ldA (j := 3) [] [av .u8 32 x0.Tx, [.int .u32 x0.N]] [] Try.underlying57 rfl sz57 rfl hI rfl hA rfl rfl) rfl fun a hA => 
                      q_yes hA rfl rfl hc90 <| 
                      qtp hA (fun _ hI => r_ldA (j := 0) [] [av .u8 32 x0.Tx, [.int .u32 x1.N]] [] Try.underlying57 rfl sz57 rfl hI rfl hA rfl rfl) rfl fun a hA => 
                      q_yes hA rfl rfl hc90 <| ?_
                    obtain ⟨r9, hr9, H⟩ := bB H
                    refine qcall (v := .bool r9) cf61 hA rfl (fun _ hI => plq (spend_Less.c μ _ hI.agr x0 ⟨hx0.1, hx0.2⟩ (⟨x0.Tx, x1.N⟩ : Point) ⟨hx0.1, hx1.2⟩ r9 hr9) hI) rfl fun a hA => 
                      q_yes hA rfl rfl hc90 <| 
                      qtp hA (fun _ hI => r_fd (k := 32) Try.underlying57 rfl sz25 hA rfl rfl) rfl fun a hA => 
                      q_yes hA rfl rfl hc90 <| 
                      qtp hA (fun _ hI => r_ld1 (j := 3) [av .u8 32 x0.Tx] [] Try.underlying25 rfl hI rfl hA rfl rfl) rfl fun a hA => 
                      q_yes hA rfl rfl hc90 <| 
                      qtp hA (fun _ hI => r_fd (k := 32) Try.underlying57 rfl sz25 hA rfl rfl) rfl fun a hA => 
                      q_yes hA rfl rfl hc90 <| 
                      qtp hA (fun _ hI => r_ld1 (j := 2) [av .u8 32 x1.Tx] [] Try.underlying25 rfl hI rfl hA rfl rfl) rfl fun a hA => 
                      q_yes hA rfl rfl hc90 <| 
                      qtp hA (fun _ hI => r_lss hA rfl rfl) rfl fun a hA => 
                      q_yes hA rfl rfl hc90 <| 
                      qtp hA (fun _ hI => r_eqlb Try.underlying4 hA rfl rfl) rfl fun a hA => 
                      qtp hA (fun _ hI => r_pick_t hA rfl hc90 rfl) rfl fun a hA => 
                      qtp hA (fun _ hI => r_as hA rfl) rfl fun a hA => ?_
                    refine q_nil fun w hI => ?_
                    cases Option.some.inj (bS H)
                    exact ⟨hA.sub ⟨rfl, rfl, rfl, rfl, rfl, rfl, rfl, rfl, rfl, rfl, rfl, rfl, trivial⟩, hI⟩
                  · have hc90 := hc9; have hc9 := nF hc9; have H := bT H hc9
                    refine q_no hA rfl rfl (by rw [hc90]; simp [vb]) rfl fun a hA => 
                      q_no hA rfl rfl (by rw [hc90]; simp [vb]) rfl fun a hA => 
                      q_no hA rfl rfl (by rw [hc90]; simp [vb]) rfl fun a hA => 
                      q_no hA rfl rfl (by rw [hc90]; simp [vb]) rfl fun a hA => 
                      q_no hA rfl rfl (by rw [hc90]; simp [vb]) rfl fun a hA => 
                      q_no hA rfl rfl (by rw [hc90]; simp [vb]) rfl fun a hA => 
                      q_no hA rfl rfl (by rw [hc90]; simp [vb]) rfl fun a hA => 
                      q_no hA rfl rfl (by rw [hc90]; simp [vb]) rfl fun a hA => 
                      q_no hA rfl rfl (by rw [hc90]; simp [vb]) rfl fun a hA => 
                      qtp hA (fun _ hI => r_pick_f hA rfl hc90 rfl) rfl fun a hA => 
                      qtp hA (fun _ hI => r_as hA rfl) rfl fun a hA => ?_
                    refine q_nil fun w hI => ?_
                    cases Option.some.inj (bS H)
                    exact ⟨hA.sub ⟨rfl, rfl, rfl, rfl, rfl, rfl, rfl, rfl, rfl, rfl, rfl, rfl, trivial⟩, hI⟩
                · have hc80 := hc8; have hc8 := ft hc8; have H := bF H hc8
                  refine q_no hA rfl rfl (by rw [hc80]; simp [vb]) rfl fun a hA => 
                    q_no hA rfl rfl (by rw [hc80]; simp [vb]) rfl fun a hA => 
                    q_no hA rfl rfl (by rw [hc80]; simp [vb]) rfl fun a hA => 
                    q_yes hA rfl rfl hc70 <| 
                    qtp hA (fun _ hI => r_pick_f hA rfl hc80 rfl) rfl fun a hA => 
                    q_yes hA rfl rfl hc70 <| 
                    qtp hA (fun _ hI => r_not hA rfl) rfl fun a hA => 
                    qtp hA (fun _ hI => r_pick_t hA rfl hc70 rfl) rfl fun a hA => 
                    qtp hA (fun _ hI => r_mv hA rfl) rfl fun a hA => ?_
                  rcases Bool.eq_false_or_eq_true (!false) with hc10 | hc10
                  · have hc100 := hc10; have hc10 := nT hc10; have hc10 := ft hc10; have H := bF H hc10
                    refine q_yes hA rfl rfl hc100 <| 
                      qtp hA (fun _ hI => r_ldA (j := 3) [] [av .u8 32 x0.Tx, [.int .u32 x0.N]] [] Try.underlying57 rfl sz57 rfl hI rfl hA rfl rfl) rfl fun a hA => 
                      q_yes hA rfl rfl hc100 <| 
                      qtp hA (fun _ hI => r_ldA (j := 0) [] [av .u8 32 x0.Tx, [.int .u32 x1.N]] [] Try.underlying57 rfl sz57 rfl hI rfl hA rfl rfl) rfl fun a hA => 
                      q_yes hA rfl rfl hc100 <| ?_
                    obtain ⟨r10, hr10, H⟩ := bB H
                    refine qcall (v := .bool r10) cf61 hA rfl (fun _ hI => plq (spend_Less.c μ _ hI.agr x0 ⟨hx0.1, hx0.2⟩ (⟨x0.Tx, x1.N⟩ : Point) ⟨hx0.1, hx1.2⟩ r10 hr10) hI) rfl fun a hA => 
                      q_yes hA rfl rfl hc100 <| 
                      qtp hA (fun _ hI => r_fd (k := 32) Try.underlying57 rfl sz25 hA rfl rfl) rfl fun a hA => 
                      q_yes hA rfl rfl hc100 <| 
                      qtp hA (fun _ hI => r_ld1 (j := 3) [av .u8 32 x0.Tx] [] Try.underlying25 rfl hI rfl hA rfl rfl) rfl fun a hA => 
                      q_yes hA rfl rfl hc100 <| 
                      qtp hA (fun _ hI => r_fd (k := 32) Try.underlying57 rfl sz25 hA rfl rfl) rfl fun a hA => 
                      q_yes hA rfl rfl hc100 <| 
                      qtp hA (fun _ hI => r_ld1 (j := 2) [av .u8 32 x1.Tx] [] Try.underlying25 rfl hI rfl hA rfl rfl) rfl fun a hA => 
                      q_yes hA rfl rfl hc100 <| 
                      qtp hA (fun _ hI => r_lss hA rfl rfl) rfl fun a hA => 
                      q_yes hA rfl rfl hc100 <| 
                      qtp hA (fun _ hI => r_eqlb Try.underlying4 hA rfl rfl) rfl fun a hA => 
                      qtp hA (fun _ hI => r_pick_t hA rfl hc100 rfl) rfl fun a hA => 
                      qtp hA (fun _ hI => r_as hA rfl) rfl fun a hA => ?_
                    refine q_nil fun w hI => ?_
                    cases Option.some.inj (bS H)
                    exact ⟨hA.sub ⟨rfl, rfl, rfl, rfl, rfl, rfl, rfl, rfl, rfl, rfl, rfl, rfl, trivial⟩, hI⟩
                  · have hc100 := hc10; have hc10 := nF hc10; have H := bT H hc10
                    refine q_no hA rfl rfl (by rw [hc100]; simp [vb]) rfl fun a hA => 
                      q_no hA rfl rfl (by rw [hc100]; simp [vb]) rfl fun a hA => 
                      q_no hA rfl rfl (by rw [hc100]; simp [vb]) rfl fun a hA => 
                      q_no hA rfl rfl (by rw [hc100]; simp [vb]) rfl fun a hA => 
                      q_no hA rfl rfl (by rw [hc100]; simp [vb]) rfl fun a hA => 
                      q_no hA rfl rfl (by rw [hc100]; simp [vb]) rfl fun a hA => 
                      q_no hA rfl rfl (by rw [hc100]; simp [vb]) rfl fun a hA => 
                      q_no hA rfl rfl (by rw [hc100]; simp [vb]) rfl fun a hA => 
                      q_no hA rfl rfl (by rw [hc100]; simp [vb]) rfl fun a hA => 
                      qtp hA (fun _ hI => r_pick_f hA rfl hc100 rfl) rfl fun a hA => 
                      qtp hA (fun _ hI => r_as hA rfl) rfl fun a hA => ?_
                    refine q_nil fun w hI => ?_
                    cases Option.some.inj (bS H)
                    exact ⟨hA.sub ⟨rfl, rfl, rfl, rfl, rfl, rfl, rfl, rfl, rfl, rfl, rfl, rfl, trivial⟩, hI⟩
              · have hc70 := hc7; have hc7 := of_decide_eq_false hc7; have H := bF H hc7
                refine q_no hA rfl rfl (by rw [hc70]; simp [vb]) rfl fun a hA => 
                  q_no hA rfl rfl (by rw [hc70]; simp [vb]) rfl fun a hA => 
                  q_no hA rfl rfl (by rw [hc70]; simp [vb]) rfl fun a hA => 
                  q_no hA rfl rfl (by rw [hc70]; simp [vb]) rfl fun a hA => 
                  q_no hA rfl rfl (by simp [vb, undef]) rfl fun a hA => 
                  q_no hA rfl rfl (by simp [vb, undef]) rfl fun a hA => 
                  q_no hA rfl rfl (by simp [vb, undef]) rfl fun a hA => 
                  q_no hA rfl rfl (by rw [hc70]; simp [vb]) rfl fun a hA => 
                  q_no hA rfl rfl (by rw [hc70]; simp [vb]) rfl fun a hA => 
                  qtp hA (fun _ hI => r_pick_f hA rfl hc70 rfl) rfl fun a hA => 
                  qtp hA (fun _ hI => r_mv hA rfl) rfl fun a hA => 
                  q_no hA rfl rfl (by simp [vb]) rfl fun a hA => 
                  q_no hA rfl rfl (by simp [vb]) rfl fun a hA => 
                  q_no hA rfl rfl (by simp [vb]) rfl fun a hA => 
                  q_no hA rfl rfl (by simp [vb]) rfl fun a hA => 
                  q_no hA rfl rfl (by simp [vb]) rfl fun a hA => 
                  q_no hA rfl rfl (by simp [vb]) rfl fun a hA => 
                  q_no hA rfl rfl (by simp [vb]) rfl fun a hA => 
                  q_no hA rfl rfl (by simp [vb]) rfl fun a hA => 
                  q_no hA rfl rfl (by simp [vb]) rfl fun a hA => 
                  qtp hA (fun _ hI => r_pick_f hA rfl rfl rfl) rfl fun a hA => 
                  qtp hA (fun _ hI => r_as hA rfl) rfl fun a hA => ?_
                refine q_nil fun w hI => ?_
                cases Option.some.inj (bS H)
                exact ⟨hA.sub ⟨rfl, rfl, rfl, rfl, rfl, rfl, rfl, rfl, rfl, rfl, rfl, rfl, trivial⟩, hI⟩
            · have hc60 := hc6; have hc6 := ft hc6; have H := bF H hc6
              refine q_yes hA rfl rfl hc60 <| 
                qtp hA (fun _ hI => r_ldA (j := 2) [] [av .u8 32 x1.Tx, [.int .u32 x1.N]] [] Try.underlying57 rfl sz57 rfl hI rfl hA rfl rfl) rfl fun a hA => 
                q_yes hA rfl rfl hc60 <| 
                qtp hA (fun _ hI => r_ldA (j := 3) [] [av .u8 32 x0.Tx, [.int .u32 x0.N]] [] Try.underlying57 rfl sz57 rfl hI rfl hA rfl rfl) rfl fun a hA => 
                q_yes hA rfl rfl hc60 <| ?_
              obtain ⟨r11, hr11, H⟩ := bB H
              refine qcall (v := .bool r11) cf61 hA rfl (fun _ hI => plq (spend_Less.c μ _ hI.agr x1 ⟨hx1.1, hx1.2⟩ x0 ⟨hx0.1, hx0.2⟩ r11 hr11) hI) rfl fun a hA => 
                q_yes hA rfl rfl hc50 <| 
                qtp hA (fun _ hI => r_pick_f hA rfl hc60 rfl) rfl fun a hA => 
                q_yes hA rfl rfl hc50 <| 
                qtp hA (fun _ hI => r_mv hA rfl) rfl fun a hA => 
                q_yes hA rfl rfl hc50 <| 
                qtp hA (fun _ hI => r_neqb Try.underlying4 hA rfl rfl) rfl fun a hA => 
                qtp hA (fun _ hI => r_pick_t hA rfl hc50 rfl) rfl fun a hA => 
                qtp hA (fun _ hI => r_mv hA rfl) rfl fun a hA => ?_
              rcases Bool.eq_false_or_eq_true (decide (r11 ≠ r2)) with hc11 | hc11
              · have hc110 := hc11; have hc11 := of_decide_eq_true hc11; have H := bT H hc11
                refine q_yes hA rfl rfl hc110 <| 
                  qtp hA (fun _ hI => r_ldA (j := 3) [] [av .u8 32 x0.Tx, [.int .u32 x0.N]] [] Try.underlying57 rfl sz57 rfl hI rfl hA rfl rfl) rfl fun a hA => 
                  q_yes hA rfl rfl hc110 <| 
                  qtp hA (fun _ hI => r_ldA (j := 2) [] [av .u8 32 x1.Tx, [.int .u32 x1.N]] [] Try.underlying57 rfl sz57 rfl hI rfl hA rfl rfl) rfl fun a hA => 
                  q_yes hA rfl rfl hc110 <| ?_
                obtain ⟨r12, hr12, H⟩ := bB H
                refine qcall (v := .bool r12) cf61 hA rfl (fun _ hI => plq (spend_Less.c μ _ hI.agr x0 ⟨hx0.1, hx0.2⟩ x1 ⟨hx1.1, hx1.2⟩ r12 hr12) hI) rfl fun a hA => 
                  q_yes hA rfl rfl hc110 <| 
                  qtp hA (fun _ hI => r_mv hA rfl) rfl fun a hA => ?_
                rcases Bool.eq_false_or_eq_true r12 with hc12 | hc12
                · have hc120 := hc12; have H := bT H hc12
                  refine q_yes hA rfl rfl hc120 <| 
                    qtp hA (fun _ hI => r_ldA (j := 2) [] [av .u8 32 x1.Tx, [.int .u32 x1.N]] [] Try.underlying57 rfl sz57 rfl hI rfl hA rfl rfl) rfl fun a hA => 
                    q_yes hA rfl rfl hc120 <| 
                    qtp hA (fun _ hI => r_ldA (j := 3) [] [av .u8 32 x0.Tx, [.int .u32 x0.N]] [] Try.underlying57 rfl sz57 rfl hI rfl hA rfl rfl) rfl fun a hA => 
                    q_yes hA rfl rfl hc120 <| ?_
                  obtain ⟨r13, hr13, H⟩ := bB H
                  refine qcall (v := .bool r13) cf61 hA rfl (fun _ hI => plq (spend_Less.c μ _ hI.agr x1 ⟨hx1.1, hx1.2⟩ x0 ⟨hx0.1, hx0.2⟩ r13 hr13) hI) rfl fun a hA => 
                    q_yes hA rfl rfl hc110 <| 
                    qtp hA (fun _ hI => r_pick_t hA rfl hc120 rfl) rfl fun a hA => 
                    q_yes hA rfl rfl hc110 <| 
                    qtp hA (fun _ hI => r_not hA rfl) rfl fun a hA => 
                    qtp hA (fun _ hI => r_pick_t hA rfl hc110 rfl) rfl fun a hA => 
                    qtp hA (fun _ hI => r_mv hA rfl) rfl fun a hA => ?_
                  rcases Bool.eq_false_or_eq_true (!r13) with hc13 | hc13
                  · have hc130 := hc13; have hc13 := nT hc13; have hc13 := ft hc13; have H := bF H hc13
                    refine q_yes hA rfl rfl hc130 <| 
                      qtp hA (fun _ hI => r_ldA (j := 3) [] [av .u8 32 x0.Tx, [.int .u32 x0.N]] [] Try.underlying57 rfl sz57 rfl hI rfl hA rfl rfl) rfl fun a hA => 
                      q_yes hA rfl rfl hc130 <| 
                      qtp hA (fun _ hI => r_ldA (j := 0) [] [av .u8 32 x0.Tx, [.int .u32 x1.N]] [] Try.underlying57 rfl sz57 rfl hI rfl hA rfl rfl) rfl fun a hA => 
                      q_yes hA rfl rfl hc130 <| ?_
                    obtain ⟨r14, hr14, H⟩ := bB H
                    refine qcall (v := .bool r14) cf61 hA rfl (fun _ hI => plq (spend_Less.c μ _ hI.agr x0 ⟨hx0.1, hx0.2⟩ (⟨x0.Tx, x1.N⟩ : Point) ⟨hx0.1, hx1.2⟩ r14 hr14) hI) rfl fun a hA => 
                      q_yes hA rfl rfl hc130 <| 
                      qtp hA (fun _ hI => r_fd (k := 32) Try.underlying57 rfl sz25 hA rfl rfl) rfl fun a hA => 
                      q_yes hA rfl rfl hc130 <| 
                      qtp hA (fun _ hI => r_ld1 (j := 3) [av .u8 32 x0.Tx] [] Try.underlying25 rfl hI rfl hA rfl rfl) rfl fun a hA => 
                      q_yes hA rfl rfl hc130 <| 
                      qtp hA (fun _ hI => r_fd (k := 32) Try.underlying57 rfl sz25 hA rfl rfl) rfl fun a hA => 
                      q_yes hA rfl rfl hc130 <| 
                      qtp hA (fun _ hI => r_ld1 (j := 2) [av .u8 32 x1.Tx] [] Try.underlying25 rfl hI rfl hA rfl rfl) rfl fun a hA => 
                      q_yes hA rfl rfl hc130 <| 
                      qtp hA (fun _ hI => r_lss hA rfl rfl) rfl fun a hA => 
                      q_yes hA rfl rfl hc130 <| 
                      qtp hA (fun _ hI => r_eqlb Try.underlying4 hA rfl rfl) rfl fun a hA => 
                      qtp hA (fun _ hI => r_pick_t hA rfl hc130 rfl) rfl fun a hA => 
                      qtp hA (fun _ hI => r_as hA rfl) rfl fun a hA => ?_
                    refine q_nil fun w hI => ?_
                    cases Option.some.inj (bS H)
                    exact ⟨hA.sub ⟨rfl, rfl, rfl, rfl, rfl, rfl, rfl, rfl, rfl, rfl, rfl, rfl, trivial⟩, hI⟩
                  · have hc130 := hc13; have hc13 := nF hc13; have H := bT H hc13
                    refine q_no hA rfl rfl (by rw [hc130]; simp [vb]) rfl fun a hA => 
                      q_no hA rfl rfl (by rw [hc130]; simp [vb]) rfl fun a hA => 
                      q_no hA rfl rfl (by rw [hc130]; simp [vb]) rfl fun a hA => 
                      q_no hA rfl rfl (by rw [hc130]; simp [vb]) rfl fun a hA => 
                      q_no hA rfl rfl (by rw [hc130]; simp [vb]) rfl fun a hA => 
                      q_no hA rfl rfl (by rw [hc130]; simp [vb]) rfl fun a hA => 
                      q_no hA rfl rfl (by rw [hc130]; simp [vb]) rfl fun a hA => 
                      q_no hA rfl rfl (by rw [hc130]; simp [vb]) rfl fun a hA => 
                      q_no hA rfl rfl (by rw [hc130]; simp [vb]) rfl fun a hA => 
                      qtp hA (fun _ hI => r_pick_f hA rfl hc130 rfl) rfl fun a hA => 
                      qtp hA (fun _ hI => r_as hA rfl) rfl fun a hA => ?_
                    refine q_nil fun w hI => ?_
                    cases Option.some.inj (bS H)
                    exact ⟨hA.sub ⟨rfl, rfl, rfl, rfl, rfl, rfl, rfl, rfl, rfl, rfl, rfl, rfl, trivial⟩, hI⟩
                · have hc120 := hc12; have hc12 := ft hc12; have H := bF H hc12
                  refine q_no hA rfl rfl (by rw [hc120]; simp [vb]) rfl fun a hA => 
                    q_no hA rfl rfl (by rw [hc120]; simp [vb]) rfl fun a hA => 
                    q_no hA rfl rfl (by rw [hc120]; simp [vb]) rfl fun a hA => 
                    q_yes hA rfl rfl hc110 <| 
                    qtp hA (fun _ hI => r_pick_f hA rfl hc120 rfl) rfl fun a hA => 
                    q_yes hA rfl rfl hc110 <| 
                    qtp hA (fun _ hI => r_not hA rfl) rfl fun a hA => 
                    qtp hA (fun _ hI => r_pick_t hA rfl hc110 rfl) rfl fun a hA => 
                    qtp hA (fun _ hI => r_mv hA rfl) rfl fun a hA => ?_
                  rcases Bool.eq_false_or_eq_true (!false) with hc14 | hc14
                  · have hc140 := hc14; have hc14 := nT hc14; have hc14 := ft hc14; have H := bF H hc14
                    refine q_yes hA rfl rfl hc140 <| 
                      qtp hA (fun _ hI => r_ldA (j := 3) [] [av .u8 32 x0.Tx, [.int .u32 x0.N]] [] Try.underlying57 rfl sz57 rfl hI rfl hA rfl rfl) rfl fun a hA => 
                      q_yes hA rfl rfl hc140 <| 
                      qtp hA (fun _ hI => r_ldA (j := 0) [] [av .u8 32 x0.Tx, [.int .u32 x1.N]] [] Try.underlying57 rfl sz57 rfl hI rfl hA rfl rfl) rfl fun a hA => 
                      q_yes hA rfl rfl hc140 <| ?_
                    obtain ⟨r15, hr15, H⟩ := bB H
                    refine qcall (v := .bool r15) cf61 hA rfl (fun _ hI => plq (spend_Less.c μ _ hI.agr x0 ⟨hx0.1, hx0.2⟩ (⟨x0.Tx, x1.N⟩ : Point) ⟨hx0.1, hx1.2⟩ r15 hr15) hI) rfl fun a hA => 
                      q_yes hA rfl rfl hc140 <| 
                      qtp hA (fun _ hI => r_fd (k := 32) Try.underlying57 rfl sz25 hA rfl rfl) rfl fun a hA => 
                      q_yes hA rfl rfl hc140 <| 
                      qtp hA (fun _ hI => r_ld1 (j := 3) [av .u8 32 x0.Tx] [] Try.underlying25 rfl hI rfl hA rfl rfl) rfl fun a hA => 
                      q_yes hA rfl rfl hc140 <| 
                      qtp hA (fun _ hI => r_fd (k := 32) Try.underlying57 rfl sz25 hA rfl rfl) rfl fun a hA => 
                      q_yes hA rfl rfl hc140 <| 
                      qtp hA (fun _ hI => r_ld1 (j := 2) [av .u8 32 x1.Tx] [] Try.underlying25 rfl hI rfl hA rfl rfl) rfl fun a hA => 
                      q_yes hA rfl rfl hc140 <| 
                      qtp hA (fun _ hI => r_lss hA rfl rfl) rfl fun a hA => 
                      q_yes hA rfl rfl hc140 <| 
                      qtp hA (fun _ hI => r_eqlb Try.underlying4 hA rfl rfl) rfl fun a hA => 
                      qtp hA (fun _ hI => r_pick_t hA rfl hc140 rfl) rfl fun a hA => 
                      qtp hA (fun _ hI => r_as hA rfl) rfl fun a hA => ?_
                    refine q_nil fun w hI => ?_
                    cases Option.some.inj (bS H)
                    exact ⟨hA.sub ⟨rfl, rfl, rfl, rfl, rfl, rfl, rfl, rfl, rfl, rfl, rfl, rfl, trivial⟩, hI⟩
                  · have hc140 := hc14; have hc14 := nF hc14; have H := bT H hc14
                    refine q_no hA rfl rfl (by rw [hc140]; simp [vb]) rfl fun a hA => 
                      q_no hA rfl rfl (by rw [hc140]; simp [vb]) rfl fun a hA => 
                      q_no hA rfl rfl (by rw [hc140]; simp [vb]) rfl fun a hA => 
                      q_no hA rfl rfl (by rw [hc140]; simp [vb]) rfl fun a hA => 
                      q_no hA rfl rfl (by rw [hc140]; simp [vb]) rfl fun a hA => 
                      q_no hA rfl rfl (by rw [hc140]; simp [vb]) rfl fun a hA => 
                      q_no hA rfl rfl (by rw [hc140]; simp [vb]) rfl fun a hA => 
                      q_no hA rfl rfl (by rw [hc140]; simp [vb]) rfl fun a hA => 
                      q_no hA rfl rfl (by rw [hc140]; simp [vb]) rfl fun a hA => 
                      qtp hA (fun _ hI => r_pick_f hA rfl hc140 rfl) rfl fun a hA => 
                      qtp hA (fun _ hI => r_as hA rfl) rfl fun a hA => ?_
                    refine q_nil fun w hI => ?_
                    cases Option.some.inj (bS H)
                    exact ⟨hA.sub ⟨rfl, rfl, rfl, rfl, rfl, rfl, rfl, rfl, rfl, rfl, rfl, rfl, trivial⟩, hI⟩
              · have hc110 := hc11; have hc11 := of_decide_eq_false hc11; have H := bF H hc11
                refine q_no hA rfl rfl (by rw [hc110]; simp [vb]) rfl fun a hA => 
                  q_no hA rfl rfl (by rw [hc110]; simp [vb]) rfl fun a hA => 
                  q_no hA rfl rfl (by rw [hc110]; simp [vb]) rfl fun a hA => 
                  q_no hA rfl rfl (by rw [hc110]; simp [vb]) rfl fun a hA => 
                  q_no hA rfl rfl (by simp [vb, undef]) rfl fun a hA => 
                  q_no hA rfl rfl (by simp [vb, undef]) rfl fun a hA => 
                  q_no hA rfl rfl (by simp [vb, undef]) rfl fun a hA => 
                  q_no hA rfl rfl (by rw [hc110]; simp [vb]) rfl fun a hA => 
                  q_no hA rfl rfl (by rw [hc110]; simp [vb]) rfl fun a hA => 
                  qtp hA (fun _ hI => r_pick_f hA rfl hc110 rfl) rfl fun a hA => 
                  qtp hA (fun _ hI => r_mv hA rfl) rfl fun a hA => 
                  q_no hA rfl rfl (by simp [vb]) rfl fun a hA => 
                  q_no hA rfl rfl (by simp [vb]) rfl fun a hA => 
                  q_no hA rfl rfl (by simp [vb]) rfl fun a hA => 
                  q_no hA rfl rfl (by simp [vb]) rfl fun a hA => 
                  q_no hA rfl rfl (by simp [vb]) rfl fun a hA => 
                  q_no hA rfl rfl (by simp [vb]) rfl fun a hA => 
                  q_no hA rfl rfl (by simp [vb]) rfl fun a hA => 
                  q_no hA rfl rfl (by simp [vb]) rfl fun a hA => 
                  q_no hA rfl rfl (by simp [vb]) rfl fun a hA => 
                  qtp hA (fun _ hI => r_pick_f hA rfl rfl rfl) rfl fun a hA => 
                  qtp hA (fun _ hI => r_as hA rfl) rfl fun a hA => ?_
                refine q_nil fun w hI => ?_
                cases Option.some.inj (bS H)
                exact ⟨hA.sub ⟨rfl, rfl, rfl, rfl, rfl, rfl, rfl, rfl, rfl, rfl, rfl, rfl, trivial⟩, hI⟩
          · have hc50 := hc5; have hc5 := ft hc5; have H := bF H hc5
            refine q_no hA rfl rfl (by rw [hc50]; simp [vb]) rfl fun a hA => 
              q_no hA rfl rfl (by rw [hc50]; simp [vb]) rfl fun a hA => 
              q_no hA rfl rfl (by rw [hc50]; simp [vb]) rfl fun a hA => 
              q_no hA rfl rfl (by rw [hc50]; simp [vb]) rfl fun a hA => 
              q_no hA rfl rfl (by simp [vb, undef]) rfl fun a hA => 
              q_no hA rfl rfl (by simp [vb, undef]) rfl fun a hA => 
              q_no hA rfl rfl (by simp [vb, undef]) rfl fun a hA => 
              q_no hA rfl rfl (by rw [hc50]; simp [vb]) rfl fun a hA => 
              q_no hA rfl rfl (by rw [hc50]; simp [vb]) rfl fun a hA => 
              q_no hA rfl rfl (by rw [hc50]; simp [vb]) rfl fun a hA => 
              qtp hA (fun _ hI => r_pick_f hA rfl hc50 rfl) rfl fun a hA => 
              qtp hA (fun _ hI => r_mv hA rfl) rfl fun a hA => 
              q_no hA rfl rfl (by simp [vb]) rfl fun a hA => 
              q_no hA rfl rfl (by simp [vb]) rfl fun a hA => 
              q_no hA rfl rfl (by simp [vb]) rfl fun a hA => 
              q_no hA rfl rfl (by simp [vb]) rfl fun a hA => 
              q_no hA rfl rfl (by simp [vb, undef]) rfl fun a hA => 
              q_no hA rfl rfl (by simp [vb, undef]) rfl fun a hA => 
              q_no hA rfl rfl (by simp [vb, undef]) rfl fun a hA => 
              q_no hA rfl rfl (by simp [vb]) rfl fun a hA => 
              q_no hA rfl rfl (by simp [vb]) rfl fun a hA => 
              qtp hA (fun _ hI => r_pick_f hA rfl rfl rfl) rfl fun a hA => 
              qtp hA (fun _ hI => r_mv hA rfl) rfl fun a hA => 
              q_no hA rfl rfl (by simp [vb]) rfl fun a hA => 
              q_no hA rfl rfl (by simp [vb]) rfl fun a hA => 
              q_no hA rfl rfl (by simp [vb]) rfl fun a hA => 
              q_no hA rfl rfl (by simp [vb]) rfl fun a hA => 
              q_no hA rfl rfl (by simp [vb]) rfl fun a hA => 
              q_no hA rfl rfl (by simp [vb]) rfl fun a hA => 
              q_no hA rfl rfl (by simp [vb]) rfl fun a hA => 
              q_no hA rfl rfl (by simp [vb]) rfl fun a hA => 
              q_no hA rfl rfl (by simp [vb]) rfl fun a hA => 
              qtp hA (fun _ hI => r_pick_f hA rfl rfl rfl) rfl fun a hA => 
              qtp hA (fun _ hI => r_as hA rfl) rfl fun a hA => ?_
            refine q_nil fun w hI => ?_
            cases Option.some.inj (bS H)
            exact ⟨hA.sub ⟨rfl, rfl, rfl, rfl, rfl, rfl, rfl, rfl, rfl, rfl, rfl, rfl, trivial⟩, hI⟩
        · rintro a w ⟨hA, hI⟩
          have H := Hk2
          refine w_ret ?_
          obtain rfl := Option.some.inj (bS H)
          exact ret1 hA Try.results12 rfl ⟨_, rfl, rfl, trivial, hI.forget0⟩
end Go.Proofs.Ytnbnnphlffhgiaa.T
