/- A helper of this seat's claims: printed by gen.py. It proves no statement by itself. -/
import Derived.Test.YtnbnnphlffhgiaaCH
import Derived.Test.YtnbnnphlffhgiaaGDigestOrder
namespace Go.Proofs.Ytnbnnphlffhgiaa.T
open Go Go.Proofs Go.Proofs.Ytnbnnphlffhgiaa.K
set_option linter.unusedVariables false
set_option linter.unusedSimpArgs false
/-! sargassolaw1.DigestOrder: function 6 -/
set_option maxRecDepth 20000 in
theorem sargassolaw1_DigestOrder.c (μ : Store) (w0 : World) (hμ : Agr μ w0) (x0 : List Int) (hx0 : Arr .u8 32 x0) (x1 : List Int) (hx1 : Arr .u8 32 x1) (x2 : Int) (hx2 : InR .i64 x2) (x3 : Int) (hx3 : InR .u8 x3) (r : Bool) (H : sargassolaw1_DigestOrder.f x0 x1 x2 x3 = some r) :
    Calls Try.prog 6 [.agg [av .u8 32 x0].flatten.toArray, .agg [av .u8 32 x1].flatten.toArray, .int .i64 x2, .int .u8 x3].toArray w0 (fun e w' => ∃ v, e = .returned v ∧ v = .bool r ∧ True ∧ Iv w0 [] μ μ [] w') := by
  refine enter Try.func6 rfl Try.ntmps6 rfl fun a hA => ?_
  have hI := Iv.start hμ
  have H := bI H
  refine w_seq fun _ hN1 => ?_
  refine w_reg ?_
  refine o_box [av .u8 32 x0] hI hA rfl rfl rfl fun g1 a w hA hI hg1 => 
    o_box [av .u8 32 x1] hI hA rfl rfl rfl fun g2 a w hA hI hg2 => 
    stp hA (r_as hA rfl) rfl fun a hA => ?_
  refine o_nil ?_
  refine hN1 _ _ ?_
  refine w_seq fun _ hN2 => ?_
  refine w_reg ?_
  obtain ⟨r1, hr1, H⟩ := bB H
  refine o_callp (u := .bool r1) cf25 hA rfl hI (sargassolaw1_first.c μ _ hI.agr  r1 hr1) rfl fun a w hz1 hI hA => 
    stp hA (r_as hA rfl) rfl fun a hA => ?_
  refine o_nil ?_
  refine hN2 _ _ ?_
  refine w_seq fun _ hN3 => ?_
  refine w_seq fun _ hN4 => ?_
  refine w_reg ?_
  refine stp hA (r_mv hA rfl) rfl fun a hA => 
    stp hA (r_not hA rfl) rfl fun a hA => ?_
  refine o_nil ?_
  refine hN4 _ _ ?_
  refine w_cond hA rfl (fun hc1 => ?_) (fun hc1 => ?_)
  · have hc10 := hc1; have hc1 := nT hc1; have hc1 := ft hc1; have H := bF H hc1
    refine w_seq fun _ hN5 => ?_
    refine w_reg ?_
    refine stp hA (r_as hA rfl) rfl fun a hA => ?_
    refine o_nil ?_
    refine hN5 _ _ ?_
    refine w_ret ?_
    obtain rfl := Option.some.inj (bS H)
    exact ret1 hA Try.results6 rfl ⟨_, rfl, rfl, trivial, hI.forget0⟩
  · have hc10 := hc1; have hc1 := nF hc1; have H := bT H hc1
    refine w_skip ?_
    refine hN3 _ _ ?_
    refine w_seq fun _ hN6 => ?_
    refine w_reg ?_
    refine stp hA (r_ldA (j := 1) [] [av .u8 32 x0] [] Try.underlying33 rfl sz33 rfl hI rfl hA rfl rfl) rfl fun a hA => 
      o_new [av .u8 32 (List.replicate 32 0)] zr33 hI hA rfl fun g3 a w hA hI hg3 => 
      o_st (j := 0) [] [av .u8 32 (List.replicate 32 0)] [av .u8 32 x0] [] sz33 rfl rfl (fl_cons (one_av _ _ _) fl_nil) hI rfl hA rfl rfl rfl rfl fun w hI => ?_
    refine o_nil ?_
    refine hN6 _ _ ?_
    refine w_seq fun _ hN7 => ?_
    refine w_reg ?_
    refine stp hA (r_mv hA rfl) rfl fun a hA => ?_
    obtain ⟨r2, hr2, H⟩ := bB H
    refine o_callp (u := .int .i64 r2) cf26 hA rfl hI (sargassoworld_Number.c μ _ hI.agr x2 hx2 32 (in_lit .i64 32 rfl) r2 hr2) rfl fun a w hz2 hI hA => 
      stp hA (r_mv hA rfl) rfl fun a hA => ?_
    obtain ⟨hb1, H⟩ := bG H
    refine stp hA (r_ixar1 Try.underlying33 sz5 hA rfl rfl hb1.1 hb1.2) rfl fun a hA => 
      o_stE (j := 0) [] [] sz5 hx0.1 hI rfl hA rfl rfl rfl (by omega) fun w hI => ?_
    refine o_nil ?_
    refine hN7 _ _ ?_
    refine w_seq fun _ hN8 => ?_
    refine w_reg ?_
    refine stp hA (r_ldA (j := 2) [] [av .u8 32 x0] [] Try.underlying33 rfl sz33 rfl hI rfl hA rfl rfl) rfl fun a hA => ?_
    obtain ⟨r3, hr3, H⟩ := bB H
    refine o_callp (u := .string r3) cf35 hA rfl hI (digest_Hex.c μ _ hI.agr x0 hx0 r3 hr3) rfl fun a w hz3 hI hA => 
      stp hA (r_as hA rfl) rfl fun a hA => ?_
    refine o_nil ?_
    refine hN8 _ _ ?_
    refine w_seq fun _ hN9 => ?_
    refine w_reg ?_
    refine stp hA (r_ldA (j := 1) [] [av .u8 32 x1] [] Try.underlying33 rfl sz33 rfl hI rfl hA rfl rfl) rfl fun a hA => ?_
    obtain ⟨r4, hr4, H⟩ := bB H
    refine o_callp (u := .string r4) cf35 hA rfl hI (digest_Hex.c μ _ hI.agr x1 hx1 r4 hr4) rfl fun a w hz4 hI hA => 
      stp hA (r_as hA rfl) rfl fun a hA => ?_
    refine o_nil ?_
    refine hN9 _ _ ?_
    refine w_seq fun _ hN10 => ?_
    refine w_reg ?_
    refine stp hA (r_ldA (j := 0) [] [av .u8 32 (x0.set r2.toNat x3)] [] Try.underlying33 rfl sz33 rfl hI rfl hA rfl rfl) rfl fun a hA => ?_
    obtain ⟨r5, hr5, H⟩ := bB H
    refine o_callp (u := .string r5) cf35 hA rfl hI (digest_Hex.c μ _ hI.agr (x0.set r2.toNat x3) (arr_set hx0 _ hx3) r5 hr5) rfl fun a w hz5 hI hA => 
      stp hA (r_as hA rfl) rfl fun a hA => ?_
    refine o_nil ?_
    refine hN10 _ _ ?_
    obtain ⟨c1, hz6, Hk1⟩ := bB H
    refine w_cut (fun a w => Fr a 74 [(0, .agg [av .u8 32 x0].flatten.toArray), (1, .agg [av .u8 32 x1].flatten.toArray), (2, .int .i64 x2), (3, .int .u8 x3), (4, .pointer (some ⟨g1, 0, none⟩)), (5, .pointer (some ⟨g2, 0, none⟩)), (8, .bool c1), (9, .bool r1), (10, .pointer (some ⟨g3, 0, none⟩)), (11, .string r3), (12, .string r4), (13, .string r5), (16, .bool (!r1))] ∧ Iv w0 [] μ μ [cel g3 [av .u8 32 (x0.set r2.toNat x3)] 33, cel g2 [av .u8 32 x1] 33, cel g1 [av .u8 32 x0] 33] w) ?_ ?_
    · have H := bI hz6
      refine w_draw mo (by kernel_rfl) hI ?_
      refine qtp hA (fun _ hI => r_mv hA rfl) rfl fun a hA => 
        qtp hA (fun _ hI => r_mv hA rfl) rfl fun a hA => ?_
      rcases Bool.eq_false_or_eq_true r1 with hc2 | hc2
      · have hc20 := hc2; have H := bT H hc2
        refine q_yes hA rfl rfl hc20 <| 
          qtp hA (fun _ hI => r_mv hA rfl) rfl fun a hA => 
          q_yes hA rfl rfl hc20 <| 
          qtp hA (fun _ hI => r_strlen Try.underlying9 hA rfl) rfl fun a hA => 
          q_yes hA rfl rfl hc20 <| 
          qtp hA (fun _ hI => r_eql hA rfl rfl) rfl fun a hA => 
          qtp hA (fun _ hI => r_pick_t hA rfl hc20 rfl) rfl fun a hA => 
          qtp hA (fun _ hI => r_mv hA rfl) rfl fun a hA => ?_
        rcases Bool.eq_false_or_eq_true (decide ((r3.size : Int) = 64)) with hc3 | hc3
        · have hc30 := hc3; have hc3 := of_decide_eq_true hc3; have H := bT H hc3
          refine q_yes hA rfl rfl hc30 <| 
            qtp hA (fun _ hI => r_ldA (j := 2) [] [av .u8 32 x0] [] Try.underlying33 rfl sz33 rfl hI rfl hA rfl rfl) rfl fun a hA => 
            q_yes hA rfl rfl hc30 <| 
            qtp hA (fun _ hI => r_ldA (j := 1) [] [av .u8 32 x1] [] Try.underlying33 rfl sz33 rfl hI rfl hA rfl rfl) rfl fun a hA => 
            q_yes hA rfl rfl hc30 <| ?_
          obtain ⟨r6, hr6, H⟩ := bB H
          refine qcall (v := .bool r6) cf36 hA rfl (fun _ hI => plq (digest_Less.c μ _ hI.agr x0 hx0 x1 hx1 r6 hr6) hI) rfl fun a hA => 
            q_yes hA rfl rfl hc30 <| 
            qtp hA (fun _ hI => r_mv hA rfl) rfl fun a hA => 
            q_yes hA rfl rfl hc30 <| 
            qtp hA (fun _ hI => r_mv hA rfl) rfl fun a hA => 
            q_yes hA rfl rfl hc30 <| 
            qtp hA (fun _ hI => r_slt hA rfl rfl) rfl fun a hA => 
            q_yes hA rfl rfl hc30 <| 
            qtp hA (fun _ hI => r_eqlb Try.underlying4 hA rfl rfl) rfl fun a hA => 
            qtp hA (fun _ hI => r_pick_t hA rfl hc30 rfl) rfl fun a hA => 
            qtp hA (fun _ hI => r_mv hA rfl) rfl fun a hA => ?_
          rcases Bool.eq_false_or_eq_true (decide (r6 = (bLess r3 r4))) with hc4 | hc4
          · have hc40 := hc4; have hc4 := of_decide_eq_true hc4; have H := bT H hc4
            refine q_yes hA rfl rfl hc40 <| 
              qtp hA (fun _ hI => r_ldA (j := 1) [] [av .u8 32 x1] [] Try.underlying33 rfl sz33 rfl hI rfl hA rfl rfl) rfl fun a hA => 
              q_yes hA rfl rfl hc40 <| 
              qtp hA (fun _ hI => r_ldA (j := 2) [] [av .u8 32 x0] [] Try.underlying33 rfl sz33 rfl hI rfl hA rfl rfl) rfl fun a hA => 
              q_yes hA rfl rfl hc40 <| ?_
            obtain ⟨r7, hr7, H⟩ := bB H
            refine qcall (v := .bool r7) cf36 hA rfl (fun _ hI => plq (digest_Less.c μ _ hI.agr x1 hx1 x0 hx0 r7 hr7) hI) rfl fun a hA => 
              q_yes hA rfl rfl hc40 <| 
              qtp hA (fun _ hI => r_mv hA rfl) rfl fun a hA => 
              q_yes hA rfl rfl hc40 <| 
              qtp hA (fun _ hI => r_mv hA rfl) rfl fun a hA => 
              q_yes hA rfl rfl hc40 <| 
              qtp hA (fun _ hI => r_slt hA rfl rfl) rfl fun a hA => 
              q_yes hA rfl rfl hc40 <| 
              qtp hA (fun _ hI => r_eqlb Try.underlying4 hA rfl rfl) rfl fun a hA => 
              qtp hA (fun _ hI => r_pick_t hA rfl hc40 rfl) rfl fun a hA => 
              qtp hA (fun _ hI => r_mv hA rfl) rfl fun a hA => ?_
            rcases Bool.eq_false_or_eq_true (decide (r7 = (bLess r4 r3))) with hc5 | hc5
            · have hc50 := hc5; have hc5 := of_decide_eq_true hc5; have H := bT H hc5
              refine q_yes hA rfl rfl hc50 <| 
                qtp hA (fun _ hI => r_ldA (j := 2) [] [av .u8 32 x0] [] Try.underlying33 rfl sz33 rfl hI rfl hA rfl rfl) rfl fun a hA => 
                q_yes hA rfl rfl hc50 <| 
                qtp hA (fun _ hI => r_ldA (j := 0) [] [av .u8 32 (x0.set r2.toNat x3)] [] Try.underlying33 rfl sz33 rfl hI rfl hA rfl rfl) rfl fun a hA => 
                q_yes hA rfl rfl hc50 <| ?_
              obtain ⟨r8, hr8, H⟩ := bB H
              refine qcall (v := .bool r8) cf36 hA rfl (fun _ hI => plq (digest_Less.c μ _ hI.agr x0 hx0 (x0.set r2.toNat x3) (arr_set hx0 _ hx3) r8 hr8) hI) rfl fun a hA => 
                q_yes hA rfl rfl hc50 <| 
                qtp hA (fun _ hI => r_mv hA rfl) rfl fun a hA => 
                q_yes hA rfl rfl hc50 <| 
                qtp hA (fun _ hI => r_mv hA rfl) rfl fun a hA => 
                q_yes hA rfl rfl hc50 <| 
                qtp hA (fun _ hI => r_slt hA rfl rfl) rfl fun a hA => 
                q_yes hA rfl rfl hc50 <| 
                qtp hA (fun _ hI => r_eqlb Try.underlying4 hA rfl rfl) rfl fun a hA => 
                qtp hA (fun _ hI => r_pick_t hA rfl hc50 rfl) rfl fun a hA => 
                qtp hA (fun _ hI => r_mv hA rfl) rfl fun a hA => ?_
              rcases Bool.eq_false_or_eq_true (decide (r8 = (bLess r3 r5))) with hc6 | hc6
              · have hc60 := hc6; have hc6 := of_decide_eq_true hc6; have H := bT H hc6
                refine q_yes hA rfl rfl hc60 <| 
                  qtp hA (fun _ hI => r_ldA (j := 2) [] [av .u8 32 x0] [] Try.underlying33 rfl sz33 rfl hI rfl hA rfl rfl) rfl fun a hA => 
                  q_yes hA rfl rfl hc60 <| 
                  qtp hA (fun _ hI => r_ldA (j := 2) [] [av .u8 32 x0] [] Try.underlying33 rfl sz33 rfl hI rfl hA rfl rfl) rfl fun a hA => 
                  q_yes hA rfl rfl hc60 <| ?_
                obtain ⟨r9, hr9, H⟩ := bB H
                refine qcall (v := .bool r9) cf36 hA rfl (fun _ hI => plq (digest_Less.c μ _ hI.agr x0 hx0 x0 hx0 r9 hr9) hI) rfl fun a hA => 
                  q_yes hA rfl rfl hc60 <| 
                  qtp hA (fun _ hI => r_not hA rfl) rfl fun a hA => 
                  qtp hA (fun _ hI => r_pick_t hA rfl hc60 rfl) rfl fun a hA => 
                  qtp hA (fun _ hI => r_mv hA rfl) rfl fun a hA => ?_
                rcases Bool.eq_false_or_eq_true (!r9) with hc7 | hc7
                · have hc70 := hc7; have hc7 := nT hc7; have hc7 := ft hc7; have H := bF H hc7
                  refine q_yes hA rfl rfl hc70 <| 
                    qtp hA (fun _ hI => r_ldA (j := 1) [] [av .u8 32 x1] [] Try.underlying33 rfl sz33 rfl hI rfl hA rfl rfl) rfl fun a hA => 
                    q_yes hA rfl rfl hc70 <| ?_
                  obtain ⟨r10, hr10, H⟩ := bB H
                  refine qcall (v := .string r10) cf37 hA rfl (fun _ hI => plq (digest_Short.c μ _ hI.agr x1 hx1 r10 hr10) hI) rfl fun a hA => 
                    q_yes hA rfl rfl hc70 <| 
                    qtp hA (fun _ hI => r_mv hA rfl) rfl fun a hA => 
                    q_yes hA rfl rfl hc70 <| ?_
                  obtain ⟨hb2, H⟩ := bG H
                  refine qtp hA (fun _ hI => r_ssl Try.underlying9 hA rfl rfl rfl (by have hq := hb2; omega) (by have hq := hb2; omega) (by have hq := hb2; omega)) rfl fun a hA => 
                    q_yes hA rfl rfl hc70 <| 
                    qtp hA (fun _ hI => r_seq hA rfl rfl) rfl fun a hA => 
                    qtp hA (fun _ hI => r_pick_t hA rfl hc70 rfl) rfl fun a hA => 
                    qtp hA (fun _ hI => r_as hA rfl) rfl fun a hA => ?_
                  refine q_nil fun w hI => ?_
                  cases Option.some.inj (bS H)
                  exact ⟨hA.sub ⟨rfl, rfl, rfl, rfl, rfl, rfl, rfl, rfl, rfl, rfl, rfl, rfl, rfl, trivial⟩, hI⟩
                · have hc70 := hc7; have hc7 := nF hc7; have H := bT H hc7
                  refine q_no hA rfl rfl (by rw [hc70]; simp [vb]) rfl fun a hA => 
                    q_no hA rfl rfl (by rw [hc70]; simp [vb]) rfl fun a hA => 
                    q_no hA rfl rfl (by rw [hc70]; simp [vb]) rfl fun a hA => 
                    q_no hA rfl rfl (by rw [hc70]; simp [vb]) rfl fun a hA => 
                    q_no hA rfl rfl (by rw [hc70]; simp [vb]) rfl fun a hA => 
                    qtp hA (fun _ hI => r_pick_f hA rfl hc70 rfl) rfl fun a hA => 
                    qtp hA (fun _ hI => r_as hA rfl) rfl fun a hA => ?_
                  refine q_nil fun w hI => ?_
                  cases Option.some.inj (bS H)
                  exact ⟨hA.sub ⟨rfl, rfl, rfl, rfl, rfl, rfl, rfl, rfl, rfl, rfl, rfl, rfl, rfl, trivial⟩, hI⟩
              · have hc60 := hc6; have hc6 := of_decide_eq_false hc6; have H := bF H hc6
                refine q_no hA rfl rfl (by rw [hc60]; simp [vb]) rfl fun a hA => 
                  q_no hA rfl rfl (by rw [hc60]; simp [vb]) rfl fun a hA => 
                  q_no hA rfl rfl (by rw [hc60]; simp [vb]) rfl fun a hA => 
                  q_no hA rfl rfl (by rw [hc60]; simp [vb]) rfl fun a hA => 
                  qtp hA (fun _ hI => r_pick_f hA rfl hc60 rfl) rfl fun a hA => 
                  qtp hA (fun _ hI => r_mv hA rfl) rfl fun a hA => 
                  q_no hA rfl rfl (by simp [vb]) rfl fun a hA => 
                  q_no hA rfl rfl (by simp [vb]) rfl fun a hA => 
                  q_no hA rfl rfl (by simp [vb]) rfl fun a hA => 
                  q_no hA rfl rfl (by simp [vb]) rfl fun a hA => 
                  q_no hA rfl rfl (by simp [vb]) rfl fun a hA => 
                  qtp hA (fun _ hI => r_pick_f hA rfl rfl rfl) rfl fun a hA => 
                  qtp hA (fun _ hI => r_as hA rfl) rfl fun a hA => ?_
                refine q_nil fun w hI => ?_
                cases Option.some.inj (bS H)
                exact ⟨hA.sub ⟨rfl, rfl, rfl, rfl, rfl, rfl, rfl, rfl, rfl, rfl, rfl, rfl, rfl, trivial⟩, hI⟩
            · have hc50 := hc5; have hc5 := of_decide_eq_false hc5; have H := bF H hc5
              refine q_no hA rfl rfl (by rw [hc50]; simp [vb]) rfl fun a hA => 
                q_no hA rfl rfl (by rw [hc50]; simp [vb]) rfl fun a hA => 
                q_no hA rfl rfl (by rw [hc50]; simp [vb]) rfl fun a hA => 
                q_no hA rfl rfl (by rw [hc50]; simp [vb]) rfl fun a hA => 
                q_no hA rfl rfl (by rw [hc50]; simp [vb]) rfl fun a hA => 
                q_no hA rfl rfl (by rw [hc50]; simp [vb]) rfl fun a hA => 
                q_no hA rfl rfl (by rw [hc50]; simp [vb]) rfl fun a hA => 
                qtp hA (fun _ hI => r_pick_f hA rfl hc50 rfl) rfl fun a hA => 
                qtp hA (fun _ hI => r_mv hA rfl) rfl fun a hA => 
                q_no hA rfl rfl (by simp [vb]) rfl fun a hA => 
                q_no hA rfl rfl (by simp [vb]) rfl fun a hA => 
                q_no hA rfl rfl (by simp [vb]) rfl fun a hA => 
                q_no hA rfl rfl (by simp [vb]) rfl fun a hA => 
                qtp hA (fun _ hI => r_pick_f hA rfl rfl rfl) rfl fun a hA => 
                qtp hA (fun _ hI => r_mv hA rfl) rfl fun a hA => 
                q_no hA rfl rfl (by simp [vb]) rfl fun a hA => 
                q_no hA rfl rfl (by simp [vb]) rfl fun a hA => 
                q_no hA rfl rfl (by simp [vb]) rfl fun a hA => 
                q_no hA rfl rfl (by simp [vb]) rfl fun a hA => 
                q_no hA rfl rfl (by simp [vb]) rfl fun a hA => 
                qtp hA (fun _ hI => r_pick_f hA rfl rfl rfl) rfl fun a hA => 
                qtp hA (fun _ hI => r_as hA rfl) rfl fun a hA => ?_
              refine q_nil fun w hI => ?_
              cases Option.some.inj (bS H)
              exact ⟨hA.sub ⟨rfl, rfl, rfl, rfl, rfl, rfl, rfl, rfl, rfl, rfl, rfl, rfl, rfl, trivial⟩, hI⟩
          · have hc40 := hc4; have hc4 := of_decide_eq_false hc4; have H := bF H hc4
            refine q_no hA rfl rfl (by rw [hc40]; simp [vb]) rfl fun a hA => 
              q_no hA rfl rfl (by rw [hc40]; simp [vb]) rfl fun a hA => 
              q_no hA rfl rfl (by rw [hc40]; simp [vb]) rfl fun a hA => 
              q_no hA rfl rfl (by rw [hc40]; simp [vb]) rfl fun a hA => 
              q_no hA rfl rfl (by rw [hc40]; simp [vb]) rfl fun a hA => 
              q_no hA rfl rfl (by rw [hc40]; simp [vb]) rfl fun a hA => 
              q_no hA rfl rfl (by rw [hc40]; simp [vb]) rfl fun a hA => 
              qtp hA (fun _ hI => r_pick_f hA rfl hc40 rfl) rfl fun a hA => 
              qtp hA (fun _ hI => r_mv hA rfl) rfl fun a hA => 
              q_no hA rfl rfl (by simp [vb]) rfl fun a hA => 
              q_no hA rfl rfl (by simp [vb]) rfl fun a hA => 
              q_no hA rfl rfl (by simp [vb]) rfl fun a hA => 
              q_no hA rfl rfl (by simp [vb]) rfl fun a hA => 
              q_no hA rfl rfl (by simp [vb]) rfl fun a hA => 
              q_no hA rfl rfl (by simp [vb]) rfl fun a hA => 
              q_no hA rfl rfl (by simp [vb]) rfl fun a hA => 
              qtp hA (fun _ hI => r_pick_f hA rfl rfl rfl) rfl fun a hA => 
              qtp hA (fun _ hI => r_mv hA rfl) rfl fun a hA => 
              q_no hA rfl rfl (by simp [vb]) rfl fun a hA => 
              q_no hA rfl rfl (by simp [vb]) rfl fun a hA => 
              q_no hA rfl rfl (by simp [vb]) rfl fun a hA => 
              q_no hA rfl rfl (by simp [vb]) rfl fun a hA => 
              qtp hA (fun _ hI => r_pick_f hA rfl rfl rfl) rfl fun a hA => 
              qtp hA (fun _ hI => r_mv hA rfl) rfl fun a hA => 
              q_no hA rfl rfl (by simp [vb]) rfl fun a hA => 
              q_no hA rfl rfl (by simp [vb]) rfl fun a hA => 
              q_no hA rfl rfl (by simp [vb]) rfl fun a hA => 
              q_no hA rfl rfl (by simp [vb]) rfl fun a hA => 
              q_no hA rfl rfl (by simp [vb]) rfl fun a hA => 
              qtp hA (fun _ hI => r_pick_f hA rfl rfl rfl) rfl fun a hA => 
              qtp hA (fun _ hI => r_as hA rfl) rfl fun a hA => ?_
            refine q_nil fun w hI => ?_
            cases Option.some.inj (bS H)
            exact ⟨hA.sub ⟨rfl, rfl, rfl, rfl, rfl, rfl, rfl, rfl, rfl, rfl, rfl, rfl, rfl, trivial⟩, hI⟩
        · have hc30 := hc3; have hc3 := of_decide_eq_false hc3; have H := bF H hc3
          refine q_no hA rfl rfl (by rw [hc30]; simp [vb]) rfl fun a hA => 
            q_no hA rfl rfl (by rw [hc30]; simp [vb]) rfl fun a hA => 
            q_no hA rfl rfl (by rw [hc30]; simp [vb]) rfl fun a hA => 
            q_no hA rfl rfl (by rw [hc30]; simp [vb]) rfl fun a hA => 
            q_no hA rfl rfl (by rw [hc30]; simp [vb]) rfl fun a hA => 
            q_no hA rfl rfl (by rw [hc30]; simp [vb]) rfl fun a hA => 
            q_no hA rfl rfl (by rw [hc30]; simp [vb]) rfl fun a hA => 
            qtp hA (fun _ hI => r_pick_f hA rfl hc30 rfl) rfl fun a hA => 
            qtp hA (fun _ hI => r_mv hA rfl) rfl fun a hA => 
            q_no hA rfl rfl (by simp [vb]) rfl fun a hA => 
            q_no hA rfl rfl (by simp [vb]) rfl fun a hA => 
            q_no hA rfl rfl (by simp [vb]) rfl fun a hA => 
            q_no hA rfl rfl (by simp [vb]) rfl fun a hA => 
            q_no hA rfl rfl (by simp [vb]) rfl fun a hA => 
            q_no hA rfl rfl (by simp [vb]) rfl fun a hA => 
            q_no hA rfl rfl (by simp [vb]) rfl fun a hA => 
            qtp hA (fun _ hI => r_pick_f hA rfl rfl rfl) rfl fun a hA => 
            qtp hA (fun _ hI => r_mv hA rfl) rfl fun a hA => 
            q_no hA rfl rfl (by simp [vb]) rfl fun a hA => 
            q_no hA rfl rfl (by simp [vb]) rfl fun a hA => 
            q_no hA rfl rfl (by simp [vb]) rfl fun a hA => 
            q_no hA rfl rfl (by simp [vb]) rfl fun a hA => 
            q_no hA rfl rfl (by simp [vb]) rfl fun a hA => 
            q_no hA rfl rfl (by simp [vb]) rfl fun a hA => 
            q_no hA rfl rfl (by simp [vb]) rfl fun a hA => 
            qtp hA (fun _ hI => r_pick_f hA rfl rfl rfl) rfl fun a hA => 
            qtp hA (fun _ hI => r_mv hA rfl) rfl fun a hA => 
            q_no hA rfl rfl (by simp [vb]) rfl fun a hA => 
            q_no hA rfl rfl (by simp [vb]) rfl fun a hA => 
            q_no hA rfl rfl (by simp [vb]) rfl fun a hA => 
            q_no hA rfl rfl (by simp [vb]) rfl fun a hA => 
            qtp hA (fun _ hI => r_pick_f hA rfl rfl rfl) rfl fun a hA => 
            qtp hA (fun _ hI => r_mv hA rfl) rfl fun a hA => 
            q_no hA rfl rfl (by simp [vb]) rfl fun a hA => 
            q_no hA rfl rfl (by simp [vb]) rfl fun a hA => 
            q_no hA rfl rfl (by simp [vb]) rfl fun a hA => 
            q_no hA rfl rfl (by simp [vb]) rfl fun a hA => 
            q_no hA rfl rfl (by simp [vb]) rfl fun a hA => 
            qtp hA (fun _ hI => r_pick_f hA rfl rfl rfl) rfl fun a hA => 
            qtp hA (fun _ hI => r_as hA rfl) rfl fun a hA => ?_
          refine q_nil fun w hI => ?_
          cases Option.some.inj (bS H)
          exact ⟨hA.sub ⟨rfl, rfl, rfl, rfl, rfl, rfl, rfl, rfl, rfl, rfl, rfl, rfl, rfl, trivial⟩, hI⟩
      · have hc20 := hc2; have hc2 := ft hc2; have H := bF H hc2
        refine q_no hA rfl rfl (by rw [hc20]; simp [vb]) rfl fun a hA => 
          q_no hA rfl rfl (by rw [hc20]; simp [vb]) rfl fun a hA => 
          q_no hA rfl rfl (by rw [hc20]; simp [vb]) rfl fun a hA => 
          qtp hA (fun _ hI => r_pick_f hA rfl hc20 rfl) rfl fun a hA => 
          qtp hA (fun _ hI => r_mv hA rfl) rfl fun a hA => 
          q_no hA rfl rfl (by simp [vb]) rfl fun a hA => 
          q_no hA rfl rfl (by simp [vb]) rfl fun a hA => 
          q_no hA rfl rfl (by simp [vb]) rfl fun a hA => 
          q_no hA rfl rfl (by simp [vb]) rfl fun a hA => 
          q_no hA rfl rfl (by simp [vb]) rfl fun a hA => 
          q_no hA rfl rfl (by simp [vb]) rfl fun a hA => 
          q_no hA rfl rfl (by simp [vb]) rfl fun a hA => 
          qtp hA (fun _ hI => r_pick_f hA rfl rfl rfl) rfl fun a hA => 
          qtp hA (fun _ hI => r_mv hA rfl) rfl fun a hA => 
          q_no hA rfl rfl (by simp [vb]) rfl fun a hA => 
          q_no hA rfl rfl (by simp [vb]) rfl fun a hA => 
          q_no hA rfl rfl (by simp [vb]) rfl fun a hA => 
          q_no hA rfl rfl (by simp [vb]) rfl fun a hA => 
          q_no hA rfl rfl (by simp [vb]) rfl fun a hA => 
          q_no hA rfl rfl (by simp [vb]) rfl fun a hA => 
          q_no hA rfl rfl (by simp [vb]) rfl fun a hA => 
          qtp hA (fun _ hI => r_pick_f hA rfl rfl rfl) rfl fun a hA => 
          qtp hA (fun _ hI => r_mv hA rfl) rfl fun a hA => 
          q_no hA rfl rfl (by simp [vb]) rfl fun a hA => 
          q_no hA rfl rfl (by simp [vb]) rfl fun a hA => 
          q_no hA rfl rfl (by simp [vb]) rfl fun a hA => 
          q_no hA rfl rfl (by simp [vb]) rfl fun a hA => 
          q_no hA rfl rfl (by simp [vb]) rfl fun a hA => 
          q_no hA rfl rfl (by simp [vb]) rfl fun a hA => 
          q_no hA rfl rfl (by simp [vb]) rfl fun a hA => 
          qtp hA (fun _ hI => r_pick_f hA rfl rfl rfl) rfl fun a hA => 
          qtp hA (fun _ hI => r_mv hA rfl) rfl fun a hA => 
          q_no hA rfl rfl (by simp [vb]) rfl fun a hA => 
          q_no hA rfl rfl (by simp [vb]) rfl fun a hA => 
          q_no hA rfl rfl (by simp [vb]) rfl fun a hA => 
          q_no hA rfl rfl (by simp [vb]) rfl fun a hA => 
          qtp hA (fun _ hI => r_pick_f hA rfl rfl rfl) rfl fun a hA => 
          qtp hA (fun _ hI => r_mv hA rfl) rfl fun a hA => 
          q_no hA rfl rfl (by simp [vb]) rfl fun a hA => 
          q_no hA rfl rfl (by simp [vb]) rfl fun a hA => 
          q_no hA rfl rfl (by simp [vb]) rfl fun a hA => 
          q_no hA rfl rfl (by simp [vb]) rfl fun a hA => 
          q_no hA rfl rfl (by simp [vb]) rfl fun a hA => 
          qtp hA (fun _ hI => r_pick_f hA rfl rfl rfl) rfl fun a hA => 
          qtp hA (fun _ hI => r_as hA rfl) rfl fun a hA => ?_
        refine q_nil fun w hI => ?_
        cases Option.some.inj (bS H)
        exact ⟨hA.sub ⟨rfl, rfl, rfl, rfl, rfl, rfl, rfl, rfl, rfl, rfl, rfl, rfl, rfl, trivial⟩, hI⟩
    · rintro a w ⟨hA, hI⟩
      have H := Hk1
      refine w_ret ?_
      obtain rfl := Option.some.inj (bS H)
      exact ret1 hA Try.results6 rfl ⟨_, rfl, rfl, trivial, hI.forget0⟩
end Go.Proofs.Ytnbnnphlffhgiaa.T
