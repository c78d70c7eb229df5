/- A helper of this seat's claims: printed by gen.py. It proves no statement by itself. -/
import Derived.Test.YtnbnnphlffhgiaaC6
import Derived.Test.YtnbnnphlffhgiaaFH
import Derived.Test.YtnbnnphlffhgiaaK15
namespace Go.Proofs.Ytnbnnphlffhgiaa.T
open Go Go.Proofs Go.Proofs.Ytnbnnphlffhgiaa.K
set_option linter.unusedVariables false
set_option linter.unusedSimpArgs false
/-! sargassolaw1.first: function 25 -/
set_option maxRecDepth 20000 in
theorem sargassolaw1_first.c (μ : Store) (w0 : World) (hμ : Agr μ w0) (r : Bool) (H : sargassolaw1_first.f = some r) :
    Calls Try.prog 25 [].toArray w0 (fun e w' => ∃ v, e = .returned v ∧ v = .bool r ∧ True ∧ Iv w0 [] μ μ [] w') := by
  refine enter Try.func25 rfl Try.ntmps25 rfl fun a hA => ?_
  have hI := Iv.start hμ
  have H := bI H
  refine w_seq fun _ hN1 => ?_
  refine w_reg ?_
  refine stp hA (r_as hA rfl) rfl fun a hA => ?_
  refine o_nil ?_
  refine hN1 _ _ ?_
  refine w_seq fun _ hN2 => ?_
  refine w_reg ?_
  obtain ⟨r1, hr1, H⟩ := bB H
  refine o_callp (u := .agg [av .u8 32 r1].flatten.toArray) cf30 hA rfl hI (digest_Sha.c μ _ hI.agr ([]) (.slice none 0 0) (slc_nil _ _ _) r1 hr1) rfl fun a w hz1 hI hA => 
    o_new [av .u8 32 (List.replicate 32 0)] zr33 hI hA rfl fun g1 a w hA hI hg1 => 
    o_st (j := 0) [] [av .u8 32 (List.replicate 32 0)] [av .u8 32 r1] [] sz33 rfl rfl (fl_cons (one_av _ _ _) fl_nil) hI rfl hA rfl rfl rfl rfl fun w hI => ?_
  refine o_nil ?_
  refine hN2 _ _ ?_
  obtain ⟨c1, hz2, Hk1⟩ := bB H
  refine w_cut (fun a w => Fr a 21 [(0, .bool c1), (1, .pointer (some ⟨g1, 0, none⟩))] ∧ Iv w0 [] μ μ [cel g1 [av .u8 32 r1] 33] w) ?_ ?_
  · have H := bI hz2
    refine w_reg ?_
    refine stp hA (r_ixar1 Try.underlying33 sz5 hA rfl rfl (by decide) (by decide)) rfl fun a hA => 
      stp hA (r_ldE (j := 0) [] [] Try.underlying5 rfl hI rfl hA rfl rfl (by decide)) rfl fun a hA => 
      stp hA (r_eql hA rfl rfl) rfl fun a hA => 
      stp hA (r_mv hA rfl) rfl fun a hA => ?_
    rcases Bool.eq_false_or_eq_true (decide ((r1.getD (0 : Int).toNat 0) = 227)) with hc1 | hc1
    · have hc10 := hc1; have hc1 := of_decide_eq_true hc1; have H := bT H hc1
      refine o_yes hA rfl rfl hc10 <| 
        stp hA (r_ixar1 Try.underlying33 sz5 hA rfl rfl (by decide) (by decide)) rfl fun a hA => 
        o_yes hA rfl rfl hc10 <| 
        stp hA (r_ldE (j := 0) [] [] Try.underlying5 rfl hI rfl hA rfl rfl (by decide)) rfl fun a hA => 
        o_yes hA rfl rfl hc10 <| 
        stp hA (r_eql hA rfl rfl) rfl fun a hA => 
        stp hA (r_pick_t hA rfl hc10 rfl) rfl fun a hA => 
        stp hA (r_mv hA rfl) rfl fun a hA => ?_
      rcases Bool.eq_false_or_eq_true (decide ((r1.getD (1 : Int).toNat 0) = 176)) with hc2 | hc2
      · have hc20 := hc2; have hc2 := of_decide_eq_true hc2; have H := bT H hc2
        refine o_yes hA rfl rfl hc20 <| 
          stp hA (r_ixar1 Try.underlying33 sz5 hA rfl rfl (by decide) (by decide)) rfl fun a hA => 
          o_yes hA rfl rfl hc20 <| 
          stp hA (r_ldE (j := 0) [] [] Try.underlying5 rfl hI rfl hA rfl rfl (by decide)) rfl fun a hA => 
          o_yes hA rfl rfl hc20 <| 
          stp hA (r_eql hA rfl rfl) rfl fun a hA => 
          stp hA (r_pick_t hA rfl hc20 rfl) rfl fun a hA => 
          stp hA (r_mv hA rfl) rfl fun a hA => ?_
        rcases Bool.eq_false_or_eq_true (decide ((r1.getD (2 : Int).toNat 0) = 196)) with hc3 | hc3
        · have hc30 := hc3; have hc3 := of_decide_eq_true hc3; have H := bT H hc3
          refine o_yes hA rfl rfl hc30 <| 
            stp hA (r_ixar1 Try.underlying33 sz5 hA rfl rfl (by decide) (by decide)) rfl fun a hA => 
            o_yes hA rfl rfl hc30 <| 
            stp hA (r_ldE (j := 0) [] [] Try.underlying5 rfl hI rfl hA rfl rfl (by decide)) rfl fun a hA => 
            o_yes hA rfl rfl hc30 <| 
            stp hA (r_eql hA rfl rfl) rfl fun a hA => 
            stp hA (r_pick_t hA rfl hc30 rfl) rfl fun a hA => 
            stp hA (r_as hA rfl) rfl fun a hA => ?_
          refine o_nil ?_
          cases Option.some.inj (bS H)
          exact ⟨hA.sub ⟨rfl, rfl, trivial⟩, hI⟩
        · have hc30 := hc3; have hc3 := of_decide_eq_false hc3; have H := bF H hc3
          refine o_no hA rfl rfl (by rw [hc30]; simp [vb]) rfl fun a hA => 
            o_no hA rfl rfl (by rw [hc30]; simp [vb]) rfl fun a hA => 
            o_no hA rfl rfl (by rw [hc30]; simp [vb]) rfl fun a hA => 
            stp hA (r_pick_f hA rfl hc30 rfl) rfl fun a hA => 
            stp hA (r_as hA rfl) rfl fun a hA => ?_
          refine o_nil ?_
          cases Option.some.inj (bS H)
          exact ⟨hA.sub ⟨rfl, rfl, trivial⟩, hI⟩
      · have hc20 := hc2; have hc2 := of_decide_eq_false hc2; have H := bF H hc2
        refine o_no hA rfl rfl (by rw [hc20]; simp [vb]) rfl fun a hA => 
          o_no hA rfl rfl (by rw [hc20]; simp [vb]) rfl fun a hA => 
          o_no hA rfl rfl (by rw [hc20]; simp [vb]) rfl fun a hA => 
          stp hA (r_pick_f hA rfl hc20 rfl) rfl fun a hA => 
          stp hA (r_mv hA rfl) rfl fun a hA => 
          o_no hA rfl rfl (by simp [vb]) rfl fun a hA => 
          o_no hA rfl rfl (by simp [vb]) rfl fun a hA => 
          o_no hA rfl rfl (by simp [vb]) rfl fun a hA => 
          stp hA (r_pick_f hA rfl rfl rfl) rfl fun a hA => 
          stp hA (r_as hA rfl) rfl fun a hA => ?_
        refine o_nil ?_
        cases Option.some.inj (bS H)
        exact ⟨hA.sub ⟨rfl, rfl, trivial⟩, hI⟩
    · have hc10 := hc1; have hc1 := of_decide_eq_false hc1; have H := bF H hc1
      refine o_no hA rfl rfl (by rw [hc10]; simp [vb]) rfl fun a hA => 
        o_no hA rfl rfl (by rw [hc10]; simp [vb]) rfl fun a hA => 
        o_no hA rfl rfl (by rw [hc10]; simp [vb]) rfl fun a hA => 
        stp hA (r_pick_f hA rfl hc10 rfl) rfl fun a hA => 
        stp hA (r_mv hA rfl) rfl fun a hA => 
        o_no hA rfl rfl (by simp [vb]) rfl fun a hA => 
        o_no hA rfl rfl (by simp [vb]) rfl fun a hA => 
        o_no hA rfl rfl (by simp [vb]) rfl fun a hA => 
        stp hA (r_pick_f hA rfl rfl rfl) rfl fun a hA => 
        stp hA (r_mv hA rfl) rfl fun a hA => 
        o_no hA rfl rfl (by simp [vb]) rfl fun a hA => 
        o_no hA rfl rfl (by simp [vb]) rfl fun a hA => 
        o_no hA rfl rfl (by simp [vb]) rfl fun a hA => 
        stp hA (r_pick_f hA rfl rfl rfl) rfl fun a hA => 
        stp hA (r_as hA rfl) rfl fun a hA => ?_
      refine o_nil ?_
      cases Option.some.inj (bS H)
      exact ⟨hA.sub ⟨rfl, rfl, trivial⟩, hI⟩
  · rintro a w ⟨hA, hI⟩
    have H := Hk1
    refine w_ret ?_
    obtain rfl := Option.some.inj (bS H)
    exact ret1 hA Try.results25 rfl ⟨_, rfl, rfl, trivial, hI.forget0⟩

/-! sargassolaw2.first: function 41 -/
set_option maxRecDepth 20000 in
theorem sargassolaw2_first.c (μ : Store) (w0 : World) (hμ : Agr μ w0) (r : Bool) (H : sargassolaw2_first.f = some r) :
    Calls Try.prog 41 [].toArray w0 (fun e w' => ∃ v, e = .returned v ∧ v = .bool r ∧ True ∧ Iv w0 [] μ μ [] w') := by
  refine enter Try.func41 rfl Try.ntmps41 rfl fun a hA => ?_
  have hI := Iv.start hμ
  have H := bI H
  refine w_seq fun _ hN1 => ?_
  refine w_reg ?_
  refine stp hA (r_as hA rfl) rfl fun a hA => ?_
  refine o_nil ?_
  refine hN1 _ _ ?_
  refine w_seq fun _ hN2 => ?_
  refine w_reg ?_
  obtain ⟨r1, hr1, H⟩ := bB H
  refine o_call _ cf45 hA rfl (compact_Put.c μ _ hI.agr ([]) (.slice none 0 0) (slc_nil _ _ _) 253 (in_lit .u64 253 rfl) r1 hr1) rfl fun v1 a w hz1 hA => ?_
  obtain ⟨_, cs1, rfl, hE1, hi1⟩ := hz1
  have hI := hI.call hi1
  refine stp hA (r_as hA rfl) rfl fun a hA => ?_
  refine o_nil ?_
  refine hN2 _ _ ?_
  obtain ⟨c1, hz2, Hk1⟩ := bB H
  refine w_cut (fun a w => Fr a 28 [(0, .bool c1), (1, v1)] ∧ Iv w0 [] μ μ [row 5 1 v1 r1.length cs1] w) ?_ ?_
  · have H := bI hz2
    refine w_reg ?_
    refine stp hA (r_mv hA rfl) rfl fun a hA => ?_
    have hlen1 := Iv.row_in hI (j := 0) rfl
    refine stp hA (r_rlen (xs := 0) Try.underlying22 hI (j := 0) rfl hA rfl) rfl fun a hA => 
      stp hA (r_eql hA rfl rfl) rfl fun a hA => 
      stp hA (r_mv hA rfl) rfl fun a hA => ?_
    rcases Bool.eq_false_or_eq_true (decide ((r1.length : Int) = 3)) with hc1 | hc1
    · have hc10 := hc1; have hc1 := of_decide_eq_true hc1; have H := bT H hc1
      refine o_yes hA rfl rfl hc10 <| 
        stp hA (r_mv hA rfl) rfl fun a hA => 
        o_yes hA rfl rfl hc10 <| ?_
      obtain ⟨hb1, H⟩ := bG H
      refine stp hA (r_rix (j := 0) Try.underlying22 sz5 hI rfl hA rfl rfl (by decide) hb1) rfl fun a hA => 
        o_yes hA rfl rfl hc10 <| ?_
      have hq1 := els_get hE1 (by decide) hb1
      refine stp hA (r_rld1 (j := 0) Try.underlying5 rfl hI rfl hq1 hA rfl (by simp only [Nat.mul_one])) rfl fun a hA => 
        o_yes hA rfl rfl hc10 <| 
        stp hA (r_eql hA rfl rfl) rfl fun a hA => 
        stp hA (r_pick_t hA rfl hc10 rfl) rfl fun a hA => 
        stp hA (r_mv hA rfl) rfl fun a hA => ?_
      rcases Bool.eq_false_or_eq_true (decide ((r1.getD (0 : Int).toNat 0) = 253)) with hc2 | hc2
      · have hc20 := hc2; have hc2 := of_decide_eq_true hc2; have H := bT H hc2
        refine o_yes hA rfl rfl hc20 <| 
          stp hA (r_mv hA rfl) rfl fun a hA => 
          o_yes hA rfl rfl hc20 <| ?_
        obtain ⟨hb2, H⟩ := bG H
        refine stp hA (r_rix (j := 0) Try.underlying22 sz5 hI rfl hA rfl rfl (by decide) hb2) rfl fun a hA => 
          o_yes hA rfl rfl hc20 <| ?_
        have hq2 := els_get hE1 (by decide) hb2
        refine stp hA (r_rld1 (j := 0) Try.underlying5 rfl hI rfl hq2 hA rfl (by simp only [Nat.mul_one])) rfl fun a hA => 
          o_yes hA rfl rfl hc20 <| 
          stp hA (r_eql hA rfl rfl) rfl fun a hA => 
          stp hA (r_pick_t hA rfl hc20 rfl) rfl fun a hA => 
          stp hA (r_mv hA rfl) rfl fun a hA => ?_
        rcases Bool.eq_false_or_eq_true (decide ((r1.getD (1 : Int).toNat 0) = 253)) with hc3 | hc3
        · have hc30 := hc3; have hc3 := of_decide_eq_true hc3; have H := bT H hc3
          refine o_yes hA rfl rfl hc30 <| 
            stp hA (r_mv hA rfl) rfl fun a hA => 
            o_yes hA rfl rfl hc30 <| ?_
          obtain ⟨hb3, H⟩ := bG H
          refine stp hA (r_rix (j := 0) Try.underlying22 sz5 hI rfl hA rfl rfl (by decide) hb3) rfl fun a hA => 
            o_yes hA rfl rfl hc30 <| ?_
          have hq3 := els_get hE1 (by decide) hb3
          refine stp hA (r_rld1 (j := 0) Try.underlying5 rfl hI rfl hq3 hA rfl (by simp only [Nat.mul_one])) rfl fun a hA => 
            o_yes hA rfl rfl hc30 <| 
            stp hA (r_eql hA rfl rfl) rfl fun a hA => 
            stp hA (r_pick_t hA rfl hc30 rfl) rfl fun a hA => 
            stp hA (r_mv hA rfl) rfl fun a hA => ?_
          rcases Bool.eq_false_or_eq_true (decide ((r1.getD (2 : Int).toNat 0) = 0)) with hc4 | hc4
          · have hc40 := hc4; have hc4 := of_decide_eq_true hc4; have H := bT H hc4
            refine o_yes hA rfl rfl hc40 <| ?_
            obtain ⟨r2, hr2, H⟩ := bB H
            refine o_callp (u := .int .i64 r2) cf47 hA rfl hI (compact_Len.c μ _ hI.agr 1 (in_lit .u64 1 rfl) r2 hr2) rfl fun a w hz3 hI hA => 
              o_yes hA rfl rfl hc40 <| 
              stp hA (r_eql hA rfl rfl) rfl fun a hA => 
              stp hA (r_pick_t hA rfl hc40 rfl) rfl fun a hA => 
              stp hA (r_as hA rfl) rfl fun a hA => ?_
            refine o_nil ?_
            cases Option.some.inj (bS H)
            exact ⟨hA.sub ⟨rfl, rfl, trivial⟩, hI⟩
          · have hc40 := hc4; have hc4 := of_decide_eq_false hc4; have H := bF H hc4
            refine o_no hA rfl rfl (by rw [hc40]; simp [vb]) rfl fun a hA => 
              o_no hA rfl rfl (by rw [hc40]; simp [vb]) rfl fun a hA => 
              stp hA (r_pick_f hA rfl hc40 rfl) rfl fun a hA => 
              stp hA (r_as hA rfl) rfl fun a hA => ?_
            refine o_nil ?_
            cases Option.some.inj (bS H)
            exact ⟨hA.sub ⟨rfl, rfl, trivial⟩, hI⟩
        · have hc30 := hc3; have hc3 := of_decide_eq_false hc3; have H := bF H hc3
          refine o_no hA rfl rfl (by rw [hc30]; simp [vb]) rfl fun a hA => 
            o_no hA rfl rfl (by rw [hc30]; simp [vb]) rfl fun a hA => 
            o_no hA rfl rfl (by rw [hc30]; simp [vb]) rfl fun a hA => 
            o_no hA rfl rfl (by rw [hc30]; simp [vb]) rfl fun a hA => 
            stp hA (r_pick_f hA rfl hc30 rfl) rfl fun a hA => 
            stp hA (r_mv hA rfl) rfl fun a hA => 
            o_no hA rfl rfl (by simp [vb]) rfl fun a hA => 
            o_no hA rfl rfl (by simp [vb]) rfl fun a hA => 
            stp hA (r_pick_f hA rfl rfl rfl) rfl fun a hA => 
            stp hA (r_as hA rfl) rfl fun a hA => ?_
          refine o_nil ?_
          cases Option.some.inj (bS H)
          exact ⟨hA.sub ⟨rfl, rfl, trivial⟩, hI⟩
      · have hc20 := hc2; have hc2 := of_decide_eq_false hc2; have H := bF H hc2
        refine o_no hA rfl rfl (by rw [hc20]; simp [vb]) rfl fun a hA => 
          o_no hA rfl rfl (by rw [hc20]; simp [vb]) rfl fun a hA => 
          o_no hA rfl rfl (by rw [hc20]; simp [vb]) rfl fun a hA => 
          o_no hA rfl rfl (by rw [hc20]; simp [vb]) rfl fun a hA => 
          stp hA (r_pick_f hA rfl hc20 rfl) rfl fun a hA => 
          stp hA (r_mv hA rfl) rfl fun a hA => 
          o_no hA rfl rfl (by simp [vb]) rfl fun a hA => 
          o_no hA rfl rfl (by simp [vb]) rfl fun a hA => 
          o_no hA rfl rfl (by simp [vb]) rfl fun a hA => 
          o_no hA rfl rfl (by simp [vb]) rfl fun a hA => 
          stp hA (r_pick_f hA rfl rfl rfl) rfl fun a hA => 
          stp hA (r_mv hA rfl) rfl fun a hA => 
          o_no hA rfl rfl (by simp [vb]) rfl fun a hA => 
          o_no hA rfl rfl (by simp [vb]) rfl fun a hA => 
          stp hA (r_pick_f hA rfl rfl rfl) rfl fun a hA => 
          stp hA (r_as hA rfl) rfl fun a hA => ?_
        refine o_nil ?_
        cases Option.some.inj (bS H)
        exact ⟨hA.sub ⟨rfl, rfl, trivial⟩, hI⟩
    · have hc10 := hc1; have hc1 := of_decide_eq_false hc1; have H := bF H hc1
      refine o_no hA rfl rfl (by rw [hc10]; simp [vb]) rfl fun a hA => 
        o_no hA rfl rfl (by rw [hc10]; simp [vb]) rfl fun a hA => 
        o_no hA rfl rfl (by rw [hc10]; simp [vb]) rfl fun a hA => 
        o_no hA rfl rfl (by rw [hc10]; simp [vb]) rfl fun a hA => 
        stp hA (r_pick_f hA rfl hc10 rfl) rfl fun a hA => 
        stp hA (r_mv hA rfl) rfl fun a hA => 
        o_no hA rfl rfl (by simp [vb]) rfl fun a hA => 
        o_no hA rfl rfl (by simp [vb]) rfl fun a hA => 
        o_no hA rfl rfl (by simp [vb]) rfl fun a hA => 
        o_no hA rfl rfl (by simp [vb]) rfl fun a hA => 
        stp hA (r_pick_f hA rfl rfl rfl) rfl fun a hA => 
        stp hA (r_mv hA rfl) rfl fun a hA => 
        o_no hA rfl rfl (by simp [vb]) rfl fun a hA => 
        o_no hA rfl rfl (by simp [vb]) rfl fun a hA => 
        o_no hA rfl rfl (by simp [vb]) rfl fun a hA => 
        o_no hA rfl rfl (by simp [vb]) rfl fun a hA => 
        stp hA (r_pick_f hA rfl rfl rfl) rfl fun a hA => 
        stp hA (r_mv hA rfl) rfl fun a hA => 
        o_no hA rfl rfl (by simp [vb]) rfl fun a hA => 
        o_no hA rfl rfl (by simp [vb]) rfl fun a hA => 
        stp hA (r_pick_f hA rfl rfl rfl) rfl fun a hA => 
        stp hA (r_as hA rfl) rfl fun a hA => ?_
      refine o_nil ?_
      cases Option.some.inj (bS H)
      exact ⟨hA.sub ⟨rfl, rfl, trivial⟩, hI⟩
  · rintro a w ⟨hA, hI⟩
    have H := Hk1
    refine w_ret ?_
    obtain rfl := Option.some.inj (bS H)
    exact ret1 hA Try.results41 rfl ⟨_, rfl, rfl, trivial, hI.forget0⟩

/-! sargassolaw3.first: function 53 -/
set_option maxRecDepth 20000 in
theorem sargassolaw3_first.c (μ : Store) (w0 : World) (hμ : Agr μ w0) (r : Bool) (H : sargassolaw3_first.f = some r) :
    Calls Try.prog 53 [].toArray w0 (fun e w' => ∃ v, e = .returned v ∧ v = .bool r ∧ True ∧ Iv w0 [] μ μ [] w') := by
  refine enter Try.func53 rfl Try.ntmps53 rfl fun a hA => ?_
  have hI := Iv.start hμ
  have H := bI H
  refine w_seq fun _ hN1 => ?_
  refine w_reg ?_
  refine stp hA (r_as hA rfl) rfl fun a hA => ?_
  refine o_nil ?_
  refine hN1 _ _ ?_
  obtain ⟨c1, hz1, Hk1⟩ := bB H
  refine w_cut (fun a w => Fr a 9 [(0, .bool c1)] ∧ Iv w0 [] μ μ [] w) ?_ ?_
  · have H := bI hz1
    refine w_reg ?_
    have hE1 : Els (RI .u8) 1 ([1, 2] : List Int) ([[.int .u8 1]].flatten ++ ([[.int .u8 2]].flatten ++ ([]))) := (Els.cons (c := [[.int .u8 1]].flatten) ⟨rfl, (in_lit .u8 1 rfl)⟩ rfl (Els.cons (c := [[.int .u8 2]].flatten) ⟨rfl, (in_lit .u8 2 rfl)⟩ rfl Els.nil))
    refine o_bsl ([[.int .u8 1]].flatten ++ ([[.int .u8 2]].flatten ++ ([]))) te5 zr5 Try.underlying22 hI hA rfl rfl rfl rfl (by kernel_rfl) rfl fun g1 a w hA hI => ?_
    generalize hcs : ([[.int .u8 1]].flatten ++ ([[.int .u8 2]].flatten ++ ([])) : List Value) = cs1 at hE1 hI
    clear hcs
    have hE2 : Els (RI .u8) 1 ([1, 2] : List Int) ([[.int .u8 1]].flatten ++ ([[.int .u8 2]].flatten ++ ([]))) := (Els.cons (c := [[.int .u8 1]].flatten) ⟨rfl, (in_lit .u8 1 rfl)⟩ rfl (Els.cons (c := [[.int .u8 2]].flatten) ⟨rfl, (in_lit .u8 2 rfl)⟩ rfl Els.nil))
    refine o_bsl ([[.int .u8 1]].flatten ++ ([[.int .u8 2]].flatten ++ ([]))) te5 zr5 Try.underlying22 hI hA rfl rfl rfl rfl (by kernel_rfl) rfl fun g2 a w hA hI => ?_
    generalize hcs : ([[.int .u8 1]].flatten ++ ([[.int .u8 2]].flatten ++ ([])) : List Value) = cs2 at hE2 hI
    clear hcs
    obtain ⟨r1, hr1, H⟩ := bB H
    refine o_callp (u := .agg [av .u8 32 r1].flatten.toArray) cf54 hA rfl hI ((by obtain ⟨μ1, hle1, hsv1, hI⟩ := hI.freezeRow 0 rfl; have hS1 : Slc (RI .u8) 1 μ1 (.slice (some ⟨g2, 0, none⟩) 2 2) ([1, 2] : List Int) := ⟨_, hE2, hsv1⟩; exact low_plain hle1 (spend_Lock.c μ1 _ hI.agr ([1, 2] : List Int) (.slice (some ⟨g2, 0, none⟩) 2 2) hS1 r1 hr1))) rfl fun a w hz2 hI hA => ?_
    obtain ⟨r2, hr2, H⟩ := bB H
    refine o_callp (u := .bool r2) cf55 hA rfl hI ((by obtain ⟨μ2, hle2, hsv2, hI⟩ := hI.freezeRow 1 rfl; have hS2 : Slc (RI .u8) 1 μ2 (.slice (some ⟨g1, 0, none⟩) 2 2) ([1, 2] : List Int) := ⟨_, hE1, hsv2⟩; exact low_plain hle2 (spend_Opens.c μ2 _ hI.agr ([1, 2] : List Int) (.slice (some ⟨g1, 0, none⟩) 2 2) hS2 r1 hz2 r2 hr2))) rfl fun a w hz3 hI hA => 
      stp hA (r_mv hA rfl) rfl fun a hA => ?_
    rcases Bool.eq_false_or_eq_true r2 with hc1 | hc1
    · have hc10 := hc1; have H := bT H hc1
      refine o_yes hA rfl rfl hc10 <| ?_
      obtain ⟨r3, hr3, H⟩ := bB H
      refine o_callp (u := .agg [av .u8 32 r3.Tx, [.int .u32 r3.N]].flatten.toArray) cf60 hA rfl hI (spend_Null.c μ _ hI.agr  r3 hr3) rfl fun a w hz4 hI hA => 
        o_yes hA rfl rfl hc10 <| ?_
      obtain ⟨r4, hr4, H⟩ := bB H
      refine o_callp (u := .bool r4) cf57 hA rfl hI (spend_IsNull.c μ _ hI.agr r3 ⟨hz4.1, hz4.2⟩ r4 hr4) rfl fun a w hz5 hI hA => 
        stp hA (r_pick_t hA rfl hc10 rfl) rfl fun a hA => 
        stp hA (r_as hA rfl) rfl fun a hA => ?_
      refine o_nil ?_
      cases Option.some.inj (bS H)
      exact ⟨hA.sub ⟨rfl, trivial⟩, (hI.sel [] (by decide) rfl)⟩
    · have hc10 := hc1; have hc1 := ft hc1; have H := bF H hc1
      refine o_no hA rfl rfl (by rw [hc10]; simp [vb]) rfl fun a hA => 
        o_no hA rfl rfl (by rw [hc10]; simp [vb]) rfl fun a hA => 
        stp hA (r_pick_f hA rfl hc10 rfl) rfl fun a hA => 
        stp hA (r_as hA rfl) rfl fun a hA => ?_
      refine o_nil ?_
      cases Option.some.inj (bS H)
      exact ⟨hA.sub ⟨rfl, trivial⟩, (hI.sel [] (by decide) rfl)⟩
  · rintro a w ⟨hA, hI⟩
    have H := Hk1
    refine w_ret ?_
    obtain rfl := Option.some.inj (bS H)
    exact ret1 hA Try.results53 rfl ⟨_, rfl, rfl, trivial, hI.forget0⟩

/-! sargassolaw4.first: function 63 -/
set_option maxRecDepth 20000 in
theorem sargassolaw4_first.c (μ : Store) (w0 : World) (hμ : Agr μ w0) (r : Bool) (H : sargassolaw4_first.f = some r) :
    Calls Try.prog 63 [].toArray w0 (fun e w' => ∃ v, e = .returned v ∧ v = .bool r ∧ True ∧ Iv w0 [] μ μ [] w') := by
  refine enter Try.func63 rfl Try.ntmps63 rfl fun a hA => ?_
  have hI := Iv.start hμ
  have H := bI H
  refine w_seq fun _ hN1 => ?_
  refine w_reg ?_
  refine stp hA (r_as hA rfl) rfl fun a hA => ?_
  refine o_nil ?_
  refine hN1 _ _ ?_
  obtain ⟨c1, hz1, Hk1⟩ := bB H
  refine w_cut (fun a w => Fr a 10 [(0, .bool c1)] ∧ Iv w0 [] μ μ [] w) ?_ ?_
  · have H := bI hz1
    refine w_reg ?_
    refine stp hA (r_bldS (cs := [[.int .u32 0], [(.slice none 0 0)], [(.slice none 0 0)], [.int .u32 0]].flatten.toArray) (pl := [(0, 1), (1, 1), (2, 1), (3, 1)]) zr67 Try.underlying67 ⟨rfl, sz25, rfl, sz64, rfl, sz65, rfl, sz25, trivial⟩ hA rfl (by kernel_rfl)) rfl fun a hA => ?_
    obtain ⟨r1, hr1, H⟩ := bB H
    refine o_call _ cf95 hA rfl (tx_Bytes.c μ _ hI.agr (⟨0, [], [], 0⟩ : Tx) (.slice none 0 0) (.slice none 0 0) ⟨(in_lit .u32 0 rfl), (slc_nil _ _ _), (slc_nil _ _ _), (in_lit .u32 0 rfl)⟩ r1 hr1) rfl fun v1 a w hz2 hA => ?_
    obtain ⟨_, cs1, rfl, hE1, hi1⟩ := hz2
    have hI := hI.call hi1
    have hlen1 := Iv.row_in hI (j := 0) rfl
    refine stp hA (r_rlen (xs := 0) Try.underlying22 hI (j := 0) rfl hA rfl) rfl fun a hA => 
      stp hA (r_eql hA rfl rfl) rfl fun a hA => 
      stp hA (r_mv hA rfl) rfl fun a hA => ?_
    rcases Bool.eq_false_or_eq_true (decide ((r1.length : Int) = 10)) with hc1 | hc1
    · have hc10 := hc1; have hc1 := of_decide_eq_true hc1; have H := bT H hc1
      refine o_yes hA rfl rfl hc10 <| 
        stp hA (r_bldS (cs := [[.int .u32 0], [(.slice none 0 0)], [(.slice none 0 0)], [.int .u32 0]].flatten.toArray) (pl := [(0, 1), (1, 1), (2, 1), (3, 1)]) zr67 Try.underlying67 ⟨rfl, sz25, rfl, sz64, rfl, sz65, rfl, sz25, trivial⟩ hA rfl (by kernel_rfl)) rfl fun a hA => 
        o_yes hA rfl rfl hc10 <| ?_
      obtain ⟨r2, hr2, H⟩ := bB H
      refine o_callp (u := .int .i64 r2) cf96 hA rfl hI (tx_Size.c μ _ hI.agr (⟨0, [], [], 0⟩ : Tx) (.slice none 0 0) (.slice none 0 0) ⟨(in_lit .u32 0 rfl), (slc_nil _ _ _), (slc_nil _ _ _), (in_lit .u32 0 rfl)⟩ r2 hr2) rfl fun a w hz3 hI hA => 
        o_yes hA rfl rfl hc10 <| 
        stp hA (r_eql hA rfl rfl) rfl fun a hA => 
        stp hA (r_pick_t hA rfl hc10 rfl) rfl fun a hA => 
        stp hA (r_as hA rfl) rfl fun a hA => ?_
      refine o_nil ?_
      cases Option.some.inj (bS H)
      exact ⟨hA.sub ⟨rfl, trivial⟩, (hI.sel [] (by decide) rfl)⟩
    · have hc10 := hc1; have hc1 := of_decide_eq_false hc1; have H := bF H hc1
      refine o_no hA rfl rfl (by rw [hc10]; simp [vb]) rfl fun a hA => 
        o_no hA rfl rfl (by rw [hc10]; simp [vb]) rfl fun a hA => 
        o_no hA rfl rfl (by rw [hc10]; simp [vb]) rfl fun a hA => 
        stp hA (r_pick_f hA rfl hc10 rfl) rfl fun a hA => 
        stp hA (r_as hA rfl) rfl fun a hA => ?_
      refine o_nil ?_
      cases Option.some.inj (bS H)
      exact ⟨hA.sub ⟨rfl, trivial⟩, (hI.sel [] (by decide) rfl)⟩
  · rintro a w ⟨hA, hI⟩
    have H := Hk1
    refine w_ret ?_
    obtain rfl := Option.some.inj (bS H)
    exact ret1 hA Try.results63 rfl ⟨_, rfl, rfl, trivial, hI.forget0⟩

/-! sargassolaw4.light: function 64 -/
set_option maxRecDepth 20000 in
theorem sargassolaw4_light.c (μ : Store) (w0 : World) (hμ : Agr μ w0) (x0 : Tx) (u0_0 : Value) (u0_1 : Value) (hx0 : TxW μ x0 u0_0 u0_1) (r : Bool) (H : sargassolaw4_light.f x0 = some r) :
    Calls Try.prog 64 [.agg [[.int .u32 x0.Version], [u0_0], [u0_1], [.int .u32 x0.Time]].flatten.toArray].toArray w0 (fun e w' => ∃ v, e = .returned v ∧ v = .bool r ∧ True ∧ Iv w0 [] μ μ [] w') := by
  refine enter Try.func64 rfl Try.ntmps64 rfl fun a hA => ?_
  have hI := Iv.start hμ
  have H := bI H
  refine w_seq fun _ hN1 => ?_
  refine w_reg ?_
  refine o_box [[.int .u32 x0.Version], [u0_0], [u0_1], [.int .u32 x0.Time]] hI hA rfl rfl rfl fun g1 a w hA hI hg1 => 
    stp hA (r_as hA rfl) rfl fun a hA => ?_
  refine o_nil ?_
  refine hN1 _ _ ?_
  refine w_seq fun _ hN2 => ?_
  obtain ⟨c1, hz1, Hk1⟩ := bB H
  refine w_cut (fun a w => Fr a 29 [(0, .agg [[.int .u32 x0.Version], [u0_0], [u0_1], [.int .u32 x0.Time]].flatten.toArray), (1, .pointer (some ⟨g1, 0, none⟩)), (2, .bool false), (13, .bool c1)] ∧ Iv w0 [] μ μ [cel g1 [[.int .u32 x0.Version], [u0_0], [u0_1], [.int .u32 x0.Time]] 67] w) ?_ ?_
  · have H := bI hz1
    refine w_reg ?_
    refine stp hA (r_fd (k := 1) Try.underlying67 rfl sz64 hA rfl rfl) rfl fun a hA => 
      stp hA (r_ld1 (j := 0) [[.int .u32 x0.Version]] [[u0_1], [.int .u32 x0.Time]] Try.underlying64 rfl hI rfl hA rfl rfl) rfl fun a hA => ?_
    obtain ⟨_, hsl1⟩ := Slc.sv hx0.2.1
    refine stp hA (r_slen Try.underlying64 hsl1 hA rfl) rfl fun a hA => 
      stp hA (r_gtr hA rfl rfl) rfl fun a hA => 
      stp hA (r_mv hA rfl) rfl fun a hA => ?_
    rcases Bool.eq_false_or_eq_true (decide (60 < (x0.Ins.length : Int))) with hc1 | hc1
    · have hc10 := hc1; have hc1 := of_decide_eq_true hc1; have H := bT H hc1
      refine o_no hA rfl rfl (by rw [hc10]; simp [vb]) rfl fun a hA => 
        o_no hA rfl rfl (by rw [hc10]; simp [vb]) rfl fun a hA => 
        o_no hA rfl rfl (by rw [hc10]; simp [vb]) rfl fun a hA => 
        o_no hA rfl rfl (by rw [hc10]; simp [vb]) rfl fun a hA => 
        stp hA (r_pick_t hA rfl hc10 rfl) rfl fun a hA => ?_
      refine o_nil ?_
      cases Option.some.inj (bS H)
      exact ⟨hA.sub ⟨rfl, rfl, rfl, rfl, trivial⟩, hI⟩
    · have hc10 := hc1; have hc1 := of_decide_eq_false hc1; have H := bF H hc1
      refine o_yes hA rfl rfl hc10 <| 
        stp hA (r_fd (k := 2) Try.underlying67 rfl sz65 hA rfl rfl) rfl fun a hA => 
        o_yes hA rfl rfl hc10 <| 
        stp hA (r_ld1 (j := 0) [[.int .u32 x0.Version], [u0_0]] [[.int .u32 x0.Time]] Try.underlying65 rfl hI rfl hA rfl rfl) rfl fun a hA => 
        o_yes hA rfl rfl hc10 <| ?_
      obtain ⟨_, hsl2⟩ := Slc.sv hx0.2.2.1
      refine stp hA (r_slen Try.underlying65 hsl2 hA rfl) rfl fun a hA => 
        o_yes hA rfl rfl hc10 <| 
        stp hA (r_gtr hA rfl rfl) rfl fun a hA => 
        stp hA (r_pick_f hA rfl hc10 rfl) rfl fun a hA => ?_
      refine o_nil ?_
      cases Option.some.inj (bS H)
      exact ⟨hA.sub ⟨rfl, rfl, rfl, rfl, trivial⟩, hI⟩
  · rintro a w ⟨hA, hI⟩
    have H := Hk1
    refine w_cond hA rfl (fun hc2 => ?_) (fun hc2 => ?_)
    · have hc20 := hc2; have H := bT H hc2
      refine w_seq fun _ hN3 => ?_
      refine w_reg ?_
      refine stp hA (r_as hA rfl) rfl fun a hA => ?_
      refine o_nil ?_
      refine hN3 _ _ ?_
      refine w_ret ?_
      obtain rfl := Option.some.inj (bS H)
      exact ret1 hA Try.results64 rfl ⟨_, rfl, rfl, trivial, hI.forget0⟩
    · have hc20 := hc2; have hc2 := ft hc2; have H := bF H hc2
      refine w_skip ?_
      refine hN2 _ _ ?_
      refine w_seq fun _ hN4 => ?_
      refine w_seq fun _ hN5 => ?_
      refine w_reg ?_
      refine stp hA (r_as hA rfl) rfl fun a hA => ?_
      refine o_nil ?_
      refine hN5 _ _ ?_
      refine w_block ?_
      obtain ⟨z1, hz2, Hk2⟩ := bind_some H
      obtain ⟨n1, hn1⟩ := loopO_some hz2
      refine w_loop (fun n a w => ∃ (s1 : Int), loopN (sargassolaw4_light.s0 x0) n s1 = some z1 ∧ InR .i64 s1 ∧ Fr a 29 [(0, .agg [[.int .u32 x0.Version], [u0_0], [u0_1], [.int .u32 x0.Time]].flatten.toArray), (1, .pointer (some ⟨g1, 0, none⟩)), (2, .bool false), (3, .int .i64 s1), (13, .bool c1)] ∧ Iv w0 [] μ μ [cel g1 [[.int .u32 x0.Version], [u0_0], [u0_1], [.int .u32 x0.Time]] 67] w) n1 ⟨0, hn1, (in_lit .i64 0 rfl), hA.sub ⟨rfl, rfl, rfl, rfl, rfl, trivial⟩, hI⟩ ?_
      clear hA hI
      rintro n a w ⟨s1, hn1, ws1, hA, hI⟩
      obtain ⟨m1, rfl, H⟩ := loopN_bind hn1
      clear hn1
      refine w_seq fun _ hN6 => ?_
      refine w_seq fun _ hN7 => ?_
      refine w_reg ?_
      refine stp hA (r_mv hA rfl) rfl fun a hA => 
        stp hA (r_fd (k := 1) Try.underlying67 rfl sz64 hA rfl rfl) rfl fun a hA => 
        stp hA (r_ld1 (j := 0) [[.int .u32 x0.Version]] [[u0_1], [.int .u32 x0.Time]] Try.underlying64 rfl hI rfl hA rfl rfl) rfl fun a hA => ?_
      obtain ⟨_, hsl3⟩ := Slc.sv hx0.2.1
      refine stp hA (r_slen Try.underlying64 hsl3 hA rfl) rfl fun a hA => 
        stp hA (r_lss hA rfl rfl) rfl fun a hA => ?_
      refine o_nil ?_
      refine hN7 _ _ ?_
      refine w_cond hA rfl (fun hc3 => ?_) (fun hc3 => ?_)
      · have hc30 := hc3; have hc3 := of_decide_eq_true hc3; have H := bT H hc3
        refine w_skip ?_
        refine hN6 _ _ ?_
        refine w_seq fun _ hN8 => ?_
        refine w_block ?_
        refine w_seq fun _ hN9 => ?_
        refine w_reg ?_
        refine stp hA (r_fd (k := 1) Try.underlying67 rfl sz64 hA rfl rfl) rfl fun a hA => 
          stp hA (r_ld1 (j := 0) [[.int .u32 x0.Version]] [[u0_1], [.int .u32 x0.Time]] Try.underlying64 rfl hI rfl hA rfl rfl) rfl fun a hA => 
          stp hA (r_mv hA rfl) rfl fun a hA => ?_
        obtain ⟨hb1, H⟩ := bG H
        obtain ⟨_, he1, _, hat1⟩ := Slc.elem hx0.2.1 (getD_some default hb1.1 hb1.2)
        obtain ⟨v1, rfl, hw1⟩ := he1
        obtain ⟨_, hsl4⟩ := Slc.sv hx0.2.1
        refine stp hA (r_six Try.underlying64 sz71 hsl4 hA rfl rfl hb1.1 hb1.2) rfl fun a hA => 
          stp hA (r_fd (k := so u0_0 + s1.toNat * 35 + 33) Try.underlying71 rfl sz22 hA rfl rfl) rfl fun a hA => 
          stp hA (r_ldm1 [av .u8 32 ((x0.Ins.getD s1.toNat default).From.Tx), [.int .u32 ((x0.Ins.getD s1.toNat default).From.N)]] [[.int .u32 ((x0.Ins.getD s1.toNat default).Seq)]] Try.underlying22 rfl hI.agr hat1 hA rfl rfl) rfl fun a hA => ?_
        obtain ⟨_, hsl5⟩ := Slc.sv hw1.2.2.1
        refine stp hA (r_slen Try.underlying22 hsl5 hA rfl) rfl fun a hA => 
          stp hA (r_gtr hA rfl rfl) rfl fun a hA => ?_
        refine o_nil ?_
        refine hN9 _ _ ?_
        refine w_cond hA rfl (fun hc4 => ?_) (fun hc4 => ?_)
        · have hc40 := hc4; have hc4 := of_decide_eq_true hc4; have H := bT H hc4
          refine w_seq fun _ hN10 => ?_
          refine w_reg ?_
          refine stp hA (r_as hA rfl) rfl fun a hA => ?_
          refine o_nil ?_
          refine hN10 _ _ ?_
          refine w_ret ?_
          have H : some false = some z1 := H
          obtain rfl := Option.some.inj H
          have H := Hk2
          obtain rfl := Option.some.inj (bS H)
          exact ret1 hA Try.results64 rfl ⟨_, rfl, rfl, trivial, hI.forget0⟩
        · have hc40 := hc4; have hc4 := of_decide_eq_false hc4; have H := bF H hc4
          refine w_skip ?_
          refine hN8 _ _ ?_
          refine w_reg ?_
          refine stp hA (r_mv hA rfl) rfl fun a hA => 
            stp hA (r_add hA rfl rfl) rfl fun a hA => 
            stp hA (r_as hA rfl) rfl fun a hA => ?_
          refine o_nil ?_
          exact ⟨m1, Nat.lt_succ_self _, IntKind.i64.wrap (s1 + 1), H, (wrap_in _ _), hA.sub ⟨rfl, rfl, rfl, rfl, rfl, trivial⟩, hI⟩
      · have hc30 := hc3; have hc3 := of_decide_eq_false hc3; have H := bF H hc3
        refine w_exit rfl ?_
        refine hN4 _ _ ?_
        refine w_seq fun _ hN11 => ?_
        refine w_reg ?_
        refine stp hA (r_as hA rfl) rfl fun a hA => ?_
        refine o_nil ?_
        refine hN11 _ _ ?_
        refine w_ret ?_
        have H : some true = some z1 := H
        obtain rfl := Option.some.inj H
        have H := Hk2
        obtain rfl := Option.some.inj (bS H)
        exact ret1 hA Try.results64 rfl ⟨_, rfl, rfl, trivial, hI.forget0⟩

/-! sargassolaw5.first: function 67 -/
set_option maxRecDepth 20000 in
theorem sargassolaw5_first.c (μ : Store) (w0 : World) (hμ : Agr μ w0) (r : Bool) (H : sargassolaw5_first.f = some r) :
    Calls Try.prog 67 [].toArray w0 (fun e w' => ∃ v, e = .returned v ∧ v = .bool r ∧ True ∧ Iv w0 [] μ μ [] w') := by
  refine enter Try.func67 rfl Try.ntmps67 rfl fun a hA => ?_
  have hI := Iv.start hμ
  have H := bI H
  refine w_seq fun _ hN1 => ?_
  refine w_reg ?_
  refine stp hA (r_as hA rfl) rfl fun a hA => ?_
  refine o_nil ?_
  refine hN1 _ _ ?_
  refine w_seq fun _ hN2 => ?_
  refine w_reg ?_
  refine stp hA (r_bldS (cs := [[.int .u32 0], av .u8 32 (List.replicate 32 0), av .u8 32 (List.replicate 32 0), [.int .u32 0], [.int .u32 0], [.int .u32 0]].flatten.toArray) (pl := [(0, 1), (1, 32), (33, 32), (65, 1), (66, 1), (67, 1)]) zr76 Try.underlying76 ⟨rfl, sz25, rfl, sz33, rfl, sz33, rfl, sz25, rfl, sz25, rfl, sz25, trivial⟩ hA rfl (by kernel_rfl)) rfl fun a hA => ?_
  obtain ⟨r1, hr1, H⟩ := bB H
  refine o_call _ cf68 hA rfl (head_Bytes.c μ _ hI.agr (⟨0, (List.replicate 32 0), (List.replicate 32 0), 0, 0, 0⟩ : Head) ⟨(in_lit .u32 0 rfl), (arr_zero _ _), (arr_zero _ _), (in_lit .u32 0 rfl), (in_lit .u32 0 rfl), (in_lit .u32 0 rfl)⟩ r1 hr1) rfl fun v1 a w hz1 hA => ?_
  obtain ⟨_, cs1, rfl, hE1, hi1⟩ := hz1
  have hI := hI.call hi1
  have hlen1 := Iv.row_in hI (j := 0) rfl
  refine stp hA (r_rlen (xs := 0) Try.underlying22 hI (j := 0) rfl hA rfl) rfl fun a hA => 
    stp hA (r_eql hA rfl rfl) rfl fun a hA => 
    stp hA (r_as hA rfl) rfl fun a hA => ?_
  refine o_nil ?_
  refine hN2 _ _ ?_
  refine w_ret ?_
  obtain rfl := Option.some.inj (bS H)
  exact ret1 hA Try.results67 rfl ⟨_, rfl, rfl, trivial, hI.forget0⟩

/-! sargassolaw6.first: function 71 -/
set_option maxRecDepth 20000 in
theorem sargassolaw6_first.c (μ : Store) (w0 : World) (hμ : Agr μ w0) (r : Bool) (H : sargassolaw6_first.f = some r) :
    Calls Try.prog 71 [].toArray w0 (fun e w' => ∃ v, e = .returned v ∧ v = .bool r ∧ True ∧ Iv w0 [] μ μ [] w') := by
  refine enter Try.func71 rfl Try.ntmps71 rfl fun a hA => ?_
  have hI := Iv.start hμ
  have H := bI H
  refine w_seq fun _ hN1 => ?_
  refine w_reg ?_
  refine stp hA (r_as hA rfl) rfl fun a hA => ?_
  refine o_nil ?_
  refine hN1 _ _ ?_
  refine w_seq fun _ hN2 => ?_
  refine w_reg ?_
  refine stp hA (r_bldA (cs := [av .u8 32 ([1, 0, 0, 0, 0, 0, 0, 0, 0, 0, 0, 0, 0, 0, 0, 0, 0, 0, 0, 0, 0, 0, 0, 0, 0, 0, 0, 0, 0, 0, 0, 0])].flatten.toArray) zr33 Try.underlying33 sz5 hA rfl (by kernel_rfl)) rfl fun a hA => 
    o_new [av .u8 32 (List.replicate 32 0)] zr33 hI hA rfl fun g1 a w hA hI hg1 => 
    o_st (j := 0) [] [av .u8 32 (List.replicate 32 0)] [av .u8 32 ([1, 0, 0, 0, 0, 0, 0, 0, 0, 0, 0, 0, 0, 0, 0, 0, 0, 0, 0, 0, 0, 0, 0, 0, 0, 0, 0, 0, 0, 0, 0, 0])] [] sz33 rfl rfl (fl_cons (one_av _ _ _) fl_nil) hI rfl hA rfl rfl rfl rfl fun w hI => ?_
  refine o_nil ?_
  refine hN2 _ _ ?_
  refine w_seq fun _ hN3 => ?_
  refine w_any [] mo hI fun w hI => ?_
  refine g_take (i := 0) hA rfl rfl (by kernel_rfl) hI (fun w hI => r_ldA (j := 0) [] [av .u8 32 ([1, 0, 0, 0, 0, 0, 0, 0, 0, 0, 0, 0, 0, 0, 0, 0, 0, 0, 0, 0, 0, 0, 0, 0, 0, 0, 0, 0, 0, 0, 0, 0])] [] Try.underlying33 rfl sz33 rfl hI rfl hA rfl rfl) rfl fun a hA => ?_
  refine g_take (i := 3) hA rfl rfl (by kernel_rfl) hI (fun w hI => r_ldA (j := 0) [] [av .u8 32 ([1, 0, 0, 0, 0, 0, 0, 0, 0, 0, 0, 0, 0, 0, 0, 0, 0, 0, 0, 0, 0, 0, 0, 0, 0, 0, 0, 0, 0, 0, 0, 0])] [] Try.underlying33 rfl sz33 rfl hI rfl hA rfl rfl) rfl fun a hA => ?_
  refine g_forced (i := 1) rfl (by kernel_rfl) ?_
  have hE1 : Els (RA .u8 32) 32 ([[1, 0, 0, 0, 0, 0, 0, 0, 0, 0, 0, 0, 0, 0, 0, 0, 0, 0, 0, 0, 0, 0, 0, 0, 0, 0, 0, 0, 0, 0, 0, 0]] : List (List Int)) ([av .u8 32 ([1, 0, 0, 0, 0, 0, 0, 0, 0, 0, 0, 0, 0, 0, 0, 0, 0, 0, 0, 0, 0, 0, 0, 0, 0, 0, 0, 0, 0, 0, 0, 0])].flatten ++ ([])) := (Els.cons (c := [av .u8 32 ([1, 0, 0, 0, 0, 0, 0, 0, 0, 0, 0, 0, 0, 0, 0, 0, 0, 0, 0, 0, 0, 0, 0, 0, 0, 0, 0, 0, 0, 0, 0, 0])].flatten) ⟨rfl, (arr_lit rfl (by simp only [List.forall_mem_cons]; exact ⟨(in_lit .u8 1 rfl), (in_lit .u8 0 rfl), (in_lit .u8 0 rfl), (in_lit .u8 0 rfl), (in_lit .u8 0 rfl), (in_lit .u8 0 rfl), (in_lit .u8 0 rfl), (in_lit .u8 0 rfl), (in_lit .u8 0 rfl), (in_lit .u8 0 rfl), (in_lit .u8 0 rfl), (in_lit .u8 0 rfl), (in_lit .u8 0 rfl), (in_lit .u8 0 rfl), (in_lit .u8 0 rfl), (in_lit .u8 0 rfl), (in_lit .u8 0 rfl), (in_lit .u8 0 rfl), (in_lit .u8 0 rfl), (in_lit .u8 0 rfl), (in_lit .u8 0 rfl), (in_lit .u8 0 rfl), (in_lit .u8 0 rfl), (in_lit .u8 0 rfl), (in_lit .u8 0 rfl), (in_lit .u8 0 rfl), (in_lit .u8 0 rfl), (in_lit .u8 0 rfl), (in_lit .u8 0 rfl), (in_lit .u8 0 rfl), (in_lit .u8 0 rfl), (in_lit .u8 0 rfl), by simp⟩))⟩ rfl Els.nil)
  refine o_bsl ([av .u8 32 ([1, 0, 0, 0, 0, 0, 0, 0, 0, 0, 0, 0, 0, 0, 0, 0, 0, 0, 0, 0, 0, 0, 0, 0, 0, 0, 0, 0, 0, 0, 0, 0])].flatten ++ ([])) te33 zr33 Try.underlying80 hI hA rfl rfl rfl rfl (by kernel_rfl) rfl fun g2 a w hA hI => ?_
  generalize hcs : ([av .u8 32 ([1, 0, 0, 0, 0, 0, 0, 0, 0, 0, 0, 0, 0, 0, 0, 0, 0, 0, 0, 0, 0, 0, 0, 0, 0, 0, 0, 0, 0, 0, 0, 0])].flatten ++ ([]) : List Value) = cs1 at hE1 hI
  clear hcs
  refine o_nil ?_
  refine ⟨(.inr (hI.sel [1] (by decide) rfl)), ?_⟩
  refine g_forced (i := 2) rfl (by kernel_rfl) ?_
  obtain ⟨r1, hr1, H⟩ := bB H
  refine o_callp (u := .agg [av .u8 32 r1].flatten.toArray) cf72 hA rfl hI ((by obtain ⟨μ1, hle1, hsv1, hI⟩ := hI.freezeRow 0 rfl; have hS1 : Slc (RA .u8 32) 32 μ1 (.slice (some ⟨g2, 0, none⟩) 1 1) ([[1, 0, 0, 0, 0, 0, 0, 0, 0, 0, 0, 0, 0, 0, 0, 0, 0, 0, 0, 0, 0, 0, 0, 0, 0, 0, 0, 0, 0, 0, 0, 0]] : List (List Int)) := ⟨_, hE1, hsv1⟩; exact low_plain hle1 (merkle_Root.c μ1 _ hI.agr ([[1, 0, 0, 0, 0, 0, 0, 0, 0, 0, 0, 0, 0, 0, 0, 0, 0, 0, 0, 0, 0, 0, 0, 0, 0, 0, 0, 0, 0, 0, 0, 0]] : List (List Int)) (.slice (some ⟨g2, 0, none⟩) 1 1) hS1 r1 hr1))) rfl fun a w hz1 hI hA => ?_
  refine o_nil ?_
  refine ⟨(.inr (hI.sel [1] (by decide) rfl)), ?_⟩
  refine g_forced (i := 4) rfl (by kernel_rfl) ?_
  obtain ⟨r2, hr2, H⟩ := bB H
  refine o_callp (u := .bool r2) cf28 hA rfl hI (sargassoref_SameHash.c μ _ hI.agr r1 hz1 ([1, 0, 0, 0, 0, 0, 0, 0, 0, 0, 0, 0, 0, 0, 0, 0, 0, 0, 0, 0, 0, 0, 0, 0, 0, 0, 0, 0, 0, 0, 0, 0]) (arr_lit rfl (by simp only [List.forall_mem_cons]; exact ⟨(in_lit .u8 1 rfl), (in_lit .u8 0 rfl), (in_lit .u8 0 rfl), (in_lit .u8 0 rfl), (in_lit .u8 0 rfl), (in_lit .u8 0 rfl), (in_lit .u8 0 rfl), (in_lit .u8 0 rfl), (in_lit .u8 0 rfl), (in_lit .u8 0 rfl), (in_lit .u8 0 rfl), (in_lit .u8 0 rfl), (in_lit .u8 0 rfl), (in_lit .u8 0 rfl), (in_lit .u8 0 rfl), (in_lit .u8 0 rfl), (in_lit .u8 0 rfl), (in_lit .u8 0 rfl), (in_lit .u8 0 rfl), (in_lit .u8 0 rfl), (in_lit .u8 0 rfl), (in_lit .u8 0 rfl), (in_lit .u8 0 rfl), (in_lit .u8 0 rfl), (in_lit .u8 0 rfl), (in_lit .u8 0 rfl), (in_lit .u8 0 rfl), (in_lit .u8 0 rfl), (in_lit .u8 0 rfl), (in_lit .u8 0 rfl), (in_lit .u8 0 rfl), (in_lit .u8 0 rfl), by simp⟩)) r2 hr2) rfl fun a w hz2 hI hA => ?_
  refine o_nil ?_
  refine ⟨(.inr (hI.sel [1] (by decide) rfl)), ?_⟩
  refine g_easy (i := 5) hA rfl rfl (by kernel_rfl) (.inr (hI.sel [1] (by decide) rfl)) (fun _ => r_as hA rfl) rfl fun a hA => ?_
  refine g_nil (by kernel_rfl) ?_
  refine hN3 _ _ ?_
  refine w_ret ?_
  obtain rfl := Option.some.inj (bS H)
  exact ret1 hA Try.results71 rfl ⟨_, rfl, rfl, trivial, hI.forget0⟩

/-! sargassolaw14.first: function 80 -/
set_option maxRecDepth 20000 in
theorem sargassolaw14_first.c (μ : Store) (w0 : World) (hμ : Agr μ w0) (r : Bool) (H : sargassolaw14_first.f = some r) :
    Calls Try.prog 80 [].toArray w0 (fun e w' => ∃ v, e = .returned v ∧ v = .bool r ∧ True ∧ Iv w0 [] μ μ [] w') := by
  refine enter Try.func80 rfl Try.ntmps80 rfl fun a hA => ?_
  have hI := Iv.start hμ
  have H := bI H
  refine w_seq fun _ hN1 => ?_
  refine w_reg ?_
  refine stp hA (r_as hA rfl) rfl fun a hA => ?_
  refine o_nil ?_
  refine hN1 _ _ ?_
  refine w_seq fun _ hN2 => ?_
  refine w_reg ?_
  refine stp hA (r_bldS (cs := [av .u8 32 (List.replicate 32 0), [.int .u32 0], [(.slice none 0 0)], [.int .u32 3]].flatten.toArray) (pl := [(0, 33), (33, 1), (34, 1)]) zr71 Try.underlying71 ⟨rfl, sz57, rfl, sz22, rfl, sz25, trivial⟩ hA rfl (by kernel_rfl)) rfl fun a hA => ?_
  have hE1 : Els (RIn μ) 35 ([(⟨(⟨(List.replicate 32 0), 0⟩ : Point), [], 3⟩ : In)] : List In) ([av .u8 32 (List.replicate 32 0), [.int .u32 0], [(.slice none 0 0)], [.int .u32 3]].flatten ++ ([])) := (Els.cons (c := [av .u8 32 (List.replicate 32 0), [.int .u32 0], [(.slice none 0 0)], [.int .u32 3]].flatten) ⟨(.slice none 0 0), rfl, ⟨(arr_zero _ _), (in_lit .u32 0 rfl), (slc_nil _ _ _), (in_lit .u32 3 rfl)⟩⟩ rfl Els.nil)
  refine o_bsl ([av .u8 32 (List.replicate 32 0), [.int .u32 0], [(.slice none 0 0)], [.int .u32 3]].flatten ++ ([])) te71 zr71 Try.underlying64 hI hA rfl rfl rfl rfl (by kernel_rfl) rfl fun g1 a w hA hI => ?_
  generalize hcs : ([av .u8 32 (List.replicate 32 0), [.int .u32 0], [(.slice none 0 0)], [.int .u32 3]].flatten ++ ([]) : List Value) = cs1 at hE1 hI
  clear hcs
  refine stp hA (r_bldS (cs := [[.int .u32 2], [(.slice (some ⟨g1, 0, none⟩) 1 1)], [(.slice none 0 0)], [.int .u32 0]].flatten.toArray) (pl := [(0, 1), (1, 1), (2, 1), (3, 1)]) zr67 Try.underlying67 ⟨rfl, sz25, rfl, sz64, rfl, sz65, rfl, sz25, trivial⟩ hA rfl (by kernel_rfl)) rfl fun a hA => ?_
  have hE2 : Els (RI .i64) 1 ([5] : List Int) ([[.int .i64 5]].flatten ++ ([])) := (Els.cons (c := [[.int .i64 5]].flatten) ⟨rfl, (in_lit .i64 5 rfl)⟩ rfl Els.nil)
  refine o_bsl ([[.int .i64 5]].flatten ++ ([])) te3 zr3 Try.underlying23 hI hA rfl rfl rfl rfl (by kernel_rfl) rfl fun g2 a w hA hI => ?_
  generalize hcs : ([[.int .i64 5]].flatten ++ ([]) : List Value) = cs2 at hE2 hI
  clear hcs
  have hE3 : Els (RI .u32) 1 ([9] : List Int) ([[.int .u32 9]].flatten ++ ([])) := (Els.cons (c := [[.int .u32 9]].flatten) ⟨rfl, (in_lit .u32 9 rfl)⟩ rfl Els.nil)
  refine o_bsl ([[.int .u32 9]].flatten ++ ([])) te25 zr25 Try.underlying94 hI hA rfl rfl rfl rfl (by kernel_rfl) rfl fun g3 a w hA hI => ?_
  generalize hcs : ([[.int .u32 9]].flatten ++ ([]) : List Value) = cs3 at hE3 hI
  clear hcs
  obtain ⟨r1, hr1, H⟩ := bB H
  refine o_callp (u := .tuple #[.int .i64 r1.1, .int .i64 r1.2.1, .bool r1.2.2]) cf81 hA rfl hI ((by obtain ⟨μ1, hle1, hsv1, hI⟩ := hI.freezeRow 2 rfl; have hS1 : Slc (RIn μ1) 35 μ1 (.slice (some ⟨g1, 0, none⟩) 1 1) ([(⟨(⟨(List.replicate 32 0), 0⟩ : Point), [], 3⟩ : In)] : List In) := ⟨_, (Els.mono hE1 (fun _ _ h => RIn.le hle1 h)), hsv1⟩; obtain ⟨μ2, hle2, hsv2, hI⟩ := hI.freezeRow 1 rfl; have hS2 : Slc (RI .i64) 1 μ2 (.slice (some ⟨g2, 0, none⟩) 1 1) ([5] : List Int) := ⟨_, hE2, hsv2⟩; obtain ⟨μ3, hle3, hsv3, hI⟩ := hI.freezeRow 0 rfl; have hS3 : Slc (RI .u32) 1 μ3 (.slice (some ⟨g3, 0, none⟩) 1 1) ([9] : List Int) := ⟨_, hE3, hsv3⟩; exact low_plain ((hle1.trans hle2).trans hle3) (seq_Need.c μ3 _ hI.agr (⟨2, ([(⟨(⟨(List.replicate 32 0), 0⟩ : Point), [], 3⟩ : In)] : List In), [], 0⟩ : Tx) (.slice (some ⟨g1, 0, none⟩) 1 1) (.slice none 0 0) ⟨(in_lit .u32 2 rfl), (Slc.le hS1 (fun _ _ h => RIn.le (hle2.trans hle3) h) (hle2.trans hle3)), (slc_nil _ _ _), (in_lit .u32 0 rfl)⟩ ([5] : List Int) (.slice (some ⟨g2, 0, none⟩) 1 1) (Slc.le hS2 (fun _ _ h => h) hle3) ([9] : List Int) (.slice (some ⟨g3, 0, none⟩) 1 1) hS3 r1 hr1))) rfl fun a w hz1 hI hA => 
    stp hA (r_mv hA rfl) rfl fun a hA => 
    stp hA (r_extr (vs := [.int .i64 r1.1, .int .i64 r1.2.1, .bool r1.2.2]) hA rfl rfl) rfl fun a hA => 
    stp hA (r_extr (vs := [.int .i64 r1.1, .int .i64 r1.2.1, .bool r1.2.2]) hA rfl rfl) rfl fun a hA => 
    stp hA (r_extr (vs := [.int .i64 r1.1, .int .i64 r1.2.1, .bool r1.2.2]) hA rfl rfl) rfl fun a hA => 
    stp hA (r_as hA rfl) rfl fun a hA => 
    stp hA (r_as hA rfl) rfl fun a hA => 
    stp hA (r_as hA rfl) rfl fun a hA => ?_
  refine o_nil ?_
  refine hN2 _ _ ?_
  obtain ⟨c1, hz2, Hk1⟩ := bB H
  refine w_cut (fun a w => Fr a 27 [(0, .bool c1), (1, .int .i64 r1.1), (2, .int .i64 r1.2.1), (3, .bool r1.2.2)] ∧ Iv w0 [] μ μ [row 25 1 (.slice (some ⟨g3, 0, none⟩) 1 1) ([9] : List Int).length cs3, row 3 1 (.slice (some ⟨g2, 0, none⟩) 1 1) ([5] : List Int).length cs2, row 71 35 (.slice (some ⟨g1, 0, none⟩) 1 1) ([(⟨(⟨(List.replicate 32 0), 0⟩ : Point), [], 3⟩ : In)] : List In).length cs1] w) ?_ ?_
  · have H := bI hz2
    refine w_reg ?_
    refine stp hA (r_bldS (cs := [[.int .u32 0], [(.slice none 0 0)], [(.slice none 0 0)], [.int .u32 0]].flatten.toArray) (pl := [(0, 1), (1, 1), (2, 1), (3, 1)]) zr67 Try.underlying67 ⟨rfl, sz25, rfl, sz64, rfl, sz65, rfl, sz25, trivial⟩ hA rfl (by kernel_rfl)) rfl fun a hA => ?_
    obtain ⟨r2, hr2, H⟩ := bB H
    refine o_callp (u := .bool r2) cf107 hA rfl hI (seq_Final.c μ _ hI.agr (⟨0, [], [], 0⟩ : Tx) (.slice none 0 0) (.slice none 0 0) ⟨(in_lit .u32 0 rfl), (slc_nil _ _ _), (slc_nil _ _ _), (in_lit .u32 0 rfl)⟩ 5 (in_lit .i64 5 rfl) 5 (in_lit .u32 5 rfl) r2 hr2) rfl fun a w hz3 hI hA => 
      stp hA (r_mv hA rfl) rfl fun a hA => ?_
    rcases Bool.eq_false_or_eq_true r2 with hc1 | hc1
    · have hc10 := hc1; have H := bT H hc1
      refine o_yes hA rfl rfl hc10 <| 
        stp hA (r_mv hA rfl) rfl fun a hA => 
        stp hA (r_pick_t hA rfl hc10 rfl) rfl fun a hA => 
        stp hA (r_mv hA rfl) rfl fun a hA => ?_
      rcases Bool.eq_false_or_eq_true r1.2.2 with hc2 | hc2
      · have hc20 := hc2; have H := bT H hc2
        refine o_yes hA rfl rfl hc20 <| 
          stp hA (r_mv hA rfl) rfl fun a hA => 
          o_yes hA rfl rfl hc20 <| 
          stp hA (r_eql hA rfl rfl) rfl fun a hA => 
          stp hA (r_pick_t hA rfl hc20 rfl) rfl fun a hA => 
          stp hA (r_mv hA rfl) rfl fun a hA => ?_
        rcases Bool.eq_false_or_eq_true (decide (r1.1 = 7)) with hc3 | hc3
        · have hc30 := hc3; have hc3 := of_decide_eq_true hc3; have H := bT H hc3
          refine o_yes hA rfl rfl hc30 <| 
            stp hA (r_mv hA rfl) rfl fun a hA => 
            o_yes hA rfl rfl hc30 <| 
            stp hA (r_eql hA rfl rfl) rfl fun a hA => 
            stp hA (r_pick_t hA rfl hc30 rfl) rfl fun a hA => 
            stp hA (r_as hA rfl) rfl fun a hA => ?_
          refine o_nil ?_
          cases Option.some.inj (bS H)
          exact ⟨hA.sub ⟨rfl, rfl, rfl, rfl, trivial⟩, hI⟩
        · have hc30 := hc3; have hc3 := of_decide_eq_false hc3; have H := bF H hc3
          refine o_no hA rfl rfl (by rw [hc30]; simp [vb]) rfl fun a hA => 
            o_no hA rfl rfl (by rw [hc30]; simp [vb]) rfl fun a hA => 
            stp hA (r_pick_f hA rfl hc30 rfl) rfl fun a hA => 
            stp hA (r_as hA rfl) rfl fun a hA => ?_
          refine o_nil ?_
          cases Option.some.inj (bS H)
          exact ⟨hA.sub ⟨rfl, rfl, rfl, rfl, trivial⟩, hI⟩
      · have hc20 := hc2; have hc2 := ft hc2; have H := bF H hc2
        refine o_no hA rfl rfl (by rw [hc20]; simp [vb]) rfl fun a hA => 
          o_no hA rfl rfl (by rw [hc20]; simp [vb]) rfl fun a hA => 
          stp hA (r_pick_f hA rfl hc20 rfl) rfl fun a hA => 
          stp hA (r_mv hA rfl) rfl fun a hA => 
          o_no hA rfl rfl (by simp [vb]) rfl fun a hA => 
          o_no hA rfl rfl (by simp [vb]) rfl fun a hA => 
          stp hA (r_pick_f hA rfl rfl rfl) rfl fun a hA => 
          stp hA (r_as hA rfl) rfl fun a hA => ?_
        refine o_nil ?_
        cases Option.some.inj (bS H)
        exact ⟨hA.sub ⟨rfl, rfl, rfl, rfl, trivial⟩, hI⟩
    · have hc10 := hc1; have hc1 := ft hc1; have H := bF H hc1
      refine o_no hA rfl rfl (by rw [hc10]; simp [vb]) rfl fun a hA => 
        stp hA (r_pick_f hA rfl hc10 rfl) rfl fun a hA => 
        stp hA (r_mv hA rfl) rfl fun a hA => 
        o_no hA rfl rfl (by simp [vb]) rfl fun a hA => 
        o_no hA rfl rfl (by simp [vb]) rfl fun a hA => 
        stp hA (r_pick_f hA rfl rfl rfl) rfl fun a hA => 
        stp hA (r_mv hA rfl) rfl fun a hA => 
        o_no hA rfl rfl (by simp [vb]) rfl fun a hA => 
        o_no hA rfl rfl (by simp [vb]) rfl fun a hA => 
        stp hA (r_pick_f hA rfl rfl rfl) rfl fun a hA => 
        stp hA (r_as hA rfl) rfl fun a hA => ?_
      refine o_nil ?_
      cases Option.some.inj (bS H)
      exact ⟨hA.sub ⟨rfl, rfl, rfl, rfl, trivial⟩, hI⟩
  · rintro a w ⟨hA, hI⟩
    have H := Hk1
    refine w_ret ?_
    obtain rfl := Option.some.inj (bS H)
    exact ret1 hA Try.results80 rfl ⟨_, rfl, rfl, trivial, hI.forget0⟩

/-! sargassolaw15.first: function 83 -/
set_option maxRecDepth 20000 in
theorem sargassolaw15_first.c (μ : Store) (w0 : World) (hμ : Agr μ w0) (r : Bool) (H : sargassolaw15_first.f = some r) :
    Calls Try.prog 83 [].toArray w0 (fun e w' => ∃ v, e = .returned v ∧ v = .bool r ∧ True ∧ Iv w0 [] μ μ [] w') := by
  refine enter Try.func83 rfl Try.ntmps83 rfl fun a hA => ?_
  have hI := Iv.start hμ
  have H := bI H
  refine w_seq fun _ hN1 => ?_
  refine w_reg ?_
  refine stp hA (r_as hA rfl) rfl fun a hA => ?_
  refine o_nil ?_
  refine hN1 _ _ ?_
  obtain ⟨c1, hz1, Hk1⟩ := bB H
  refine w_cut (fun a w => Fr a 7 [(0, .bool c1)] ∧ Iv w0 [] μ μ [] w) ?_ ?_
  · have H := bI hz1
    refine w_reg ?_
    obtain ⟨r1, hr1, H⟩ := bB H
    refine o_callp (u := .int .u64 r1) cf84 hA rfl hI (value_Reward.c μ _ hI.agr 0 (in_lit .i64 0 rfl) 10 (in_lit .i64 10 rfl) r1 hr1) rfl fun a w hz2 hI hA => 
      stp hA (r_eql hA rfl rfl) rfl fun a hA => 
      stp hA (r_mv hA rfl) rfl fun a hA => ?_
    rcases Bool.eq_false_or_eq_true (decide (r1 = 5000000000)) with hc1 | hc1
    · have hc10 := hc1; have hc1 := of_decide_eq_true hc1; have H := bT H hc1
      refine o_yes hA rfl rfl hc10 <| ?_
      obtain ⟨r2, hr2, H⟩ := bB H
      refine o_callp (u := .int .u64 r2) cf84 hA rfl hI (value_Reward.c μ _ hI.agr 10 (in_lit .i64 10 rfl) 10 (in_lit .i64 10 rfl) r2 hr2) rfl fun a w hz3 hI hA => 
        o_yes hA rfl rfl hc10 <| 
        stp hA (r_eql hA rfl rfl) rfl fun a hA => 
        stp hA (r_pick_t hA rfl hc10 rfl) rfl fun a hA => 
        stp hA (r_as hA rfl) rfl fun a hA => ?_
      refine o_nil ?_
      cases Option.some.inj (bS H)
      exact ⟨hA.sub ⟨rfl, trivial⟩, hI⟩
    · have hc10 := hc1; have hc1 := of_decide_eq_false hc1; have H := bF H hc1
      refine o_no hA rfl rfl (by rw [hc10]; simp [vb]) rfl fun a hA => 
        o_no hA rfl rfl (by rw [hc10]; simp [vb]) rfl fun a hA => 
        stp hA (r_pick_f hA rfl hc10 rfl) rfl fun a hA => 
        stp hA (r_as hA rfl) rfl fun a hA => ?_
      refine o_nil ?_
      cases Option.some.inj (bS H)
      exact ⟨hA.sub ⟨rfl, trivial⟩, hI⟩
  · rintro a w ⟨hA, hI⟩
    have H := Hk1
    refine w_ret ?_
    obtain rfl := Option.some.inj (bS H)
    exact ret1 hA Try.results83 rfl ⟨_, rfl, rfl, trivial, hI.forget0⟩
end Go.Proofs.Ytnbnnphlffhgiaa.T
