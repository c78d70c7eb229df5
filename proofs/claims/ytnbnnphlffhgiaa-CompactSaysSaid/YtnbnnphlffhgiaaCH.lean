/- A helper of this seat's claims: printed by gen.py. It proves no statement by itself. -/
import Derived.Test.YtnbnnphlffhgiaaC6
import Derived.Test.YtnbnnphlffhgiaaFH
namespace Go.Proofs.Ytnbnnphlffhgiaa.T
open Go Go.Proofs Go.Proofs.Ytnbnnphlffhgiaa.K
set_option linter.unusedVariables false
set_option linter.unusedSimpArgs false
/-! sargassolaw2.first: function 41 -/
set_option maxRecDepth 20000 in
theorem sargassolaw2_first.c (μ : Store) (w0 : World) (hμ : Agr μ w0) (r : Bool) (H : sargassolaw2_first.f = some r) :
    Calls Try.prog 41 [].toArray w0 (fun e w' => ∃ v, e = .returned v ∧ v = .bool r ∧ True ∧ Iv w0 [] μ μ [] w') := by
  refine enter Try.func41 rfl Try.ntmps41 rfl fun a hA => ?_
  have hI := Iv.start hμ
  have H := bI H
  refine w_seq fun _ hN1 => ?_
  refine w_reg ?_
  refine stp hA (r_as hA rfl) rfl fun a hA => ?_
  refine o_nil ?_
  refine hN1 _ _ ?_
  refine w_seq fun _ hN2 => ?_
  refine w_reg ?_
  obtain ⟨r1, hr1, H⟩ := bB H
  refine o_call _ cf45 hA rfl (compact_Put.c μ _ hI.agr ([]) (.slice none 0 0) (slc_nil _ _ _) 253 (in_lit .u64 253 rfl) r1 hr1) rfl fun v1 a w hz1 hA => ?_
  obtain ⟨_, cs1, rfl, hE1, hi1⟩ := hz1
  have hI := hI.call hi1
  refine stp hA (r_as hA rfl) rfl fun a hA => ?_
  refine o_nil ?_
  refine hN2 _ _ ?_
  obtain ⟨c1, hz2, Hk1⟩ := bB H
  refine w_cut (fun a w => Fr a 28 [(0, .bool c1), (1, v1)] ∧ Iv w0 [] μ μ [row 5 1 v1 r1.length cs1] w) ?_ ?_
  · have H := bI hz2
    refine w_reg ?_
    refine stp hA (r_mv hA rfl) rfl fun a hA => ?_
    have hlen1 := Iv.row_in hI (j := 0) rfl
    refine stp hA (r_rlen (xs := 0) Try.underlying22 hI (j := 0) rfl hA rfl) rfl fun a hA => 
      stp hA (r_eql hA rfl rfl) rfl fun a hA => 
      stp hA (r_mv hA rfl) rfl fun a hA => ?_
    rcases Bool.eq_false_or_eq_true (decide ((r1.length : Int) = 3)) with hc1 | hc1
    · have hc10 := hc1; have hc1 := of_decide_eq_true hc1; have H := bT H hc1
      refine o_yes hA rfl rfl hc10 <| 
        stp hA (r_mv hA rfl) rfl fun a hA => 
        o_yes hA rfl rfl hc10 <| ?_
      obtain ⟨hb1, H⟩ := bG H
      refine stp hA (r_rix (j := 0) Try.underlying22 sz5 hI rfl hA rfl rfl (by decide) hb1) rfl fun a hA => 
        o_yes hA rfl rfl hc10 <| ?_
      have hq1 := els_get hE1 (by decide) hb1
      refine stp hA (r_rld1 (j := 0) Try.underlying5 rfl hI rfl hq1 hA rfl (by simp only [Nat.mul_one])) rfl fun a hA => 
        o_yes hA rfl rfl hc10 <| 
        stp hA (r_eql hA rfl rfl) rfl fun a hA => 
        stp hA (r_pick_t hA rfl hc10 rfl) rfl fun a hA => 
        stp hA (r_mv hA rfl) rfl fun a hA => ?_
      rcases Bool.eq_false_or_eq_true (decide ((r1.getD (0 : Int).toNat 0) = 253)) with hc2 | hc2
      · have hc20 := hc2; have hc2 := of_decide_eq_true hc2; have H := bT H hc2
        refine o_yes hA rfl rfl hc20 <| 
          stp hA (r_mv hA rfl) rfl fun a hA => 
          o_yes hA rfl rfl hc20 <| ?_
        obtain ⟨hb2, H⟩ := bG H
        refine stp hA (r_rix (j := 0) Try.underlying22 sz5 hI rfl hA rfl rfl (by decide) hb2) rfl fun a hA => 
          o_yes hA rfl rfl hc20 <| ?_
        have hq2 := els_get hE1 (by decide) hb2
        refine stp hA (r_rld1 (j := 0) Try.underlying5 rfl hI rfl hq2 hA rfl (by simp only [Nat.mul_one])) rfl fun a hA => 
          o_yes hA rfl rfl hc20 <| 
          stp hA (r_eql hA rfl rfl) rfl fun a hA => 
          stp hA (r_pick_t hA rfl hc20 rfl) rfl fun a hA => 
          stp hA (r_mv hA rfl) rfl fun a hA => ?_
        rcases Bool.eq_false_or_eq_true (decide ((r1.getD (1 : Int).toNat 0) = 253)) with hc3 | hc3
        · have hc30 := hc3; have hc3 := of_decide_eq_true hc3; have H := bT H hc3
          refine o_yes hA rfl rfl hc30 <| 
            stp hA (r_mv hA rfl) rfl fun a hA => 
            o_yes hA rfl rfl hc30 <| ?_
          obtain ⟨hb3, H⟩ := bG H
          refine stp hA (r_rix (j := 0) Try.underlying22 sz5 hI rfl hA rfl rfl (by decide) hb3) rfl fun a hA => 
            o_yes hA rfl rfl hc30 <| ?_
          have hq3 := els_get hE1 (by decide) hb3
          refine stp hA (r_rld1 (j := 0) Try.underlying5 rfl hI rfl hq3 hA rfl (by simp only [Nat.mul_one])) rfl fun a hA => 
            o_yes hA rfl rfl hc30 <| 
            stp hA (r_eql hA rfl rfl) rfl fun a hA => 
            stp hA (r_pick_t hA rfl hc30 rfl) rfl fun a hA => 
            stp hA (r_mv hA rfl) rfl fun a hA => ?_
          rcases Bool.eq_false_or_eq_true (decide ((r1.getD (2 : Int).toNat 0) = 0)) with hc4 | hc4
          · have hc40 := hc4; have hc4 := of_decide_eq_true hc4; have H := bT H hc4
            refine o_yes hA rfl rfl hc40 <| ?_
            obtain ⟨r2, hr2, H⟩ := bB H
            refine o_callp (u := .int .i64 r2) cf47 hA rfl hI (compact_Len.c μ _ hI.agr 1 (in_lit .u64 1 rfl) r2 hr2) rfl fun a w hz3 hI hA => 
              o_yes hA rfl rfl hc40 <| 
              stp hA (r_eql hA rfl rfl) rfl fun a hA => 
              stp hA (r_pick_t hA rfl hc40 rfl) rfl fun a hA => 
              stp hA (r_as hA rfl) rfl fun a hA => ?_
            refine o_nil ?_
            cases Option.some.inj (bS H)
            exact ⟨hA.sub ⟨rfl, rfl, trivial⟩, hI⟩
          · have hc40 := hc4; have hc4 := of_decide_eq_false hc4; have H := bF H hc4
            refine o_no hA rfl rfl (by rw [hc40]; simp [vb]) rfl fun a hA => 
              o_no hA rfl rfl (by rw [hc40]; simp [vb]) rfl fun a hA => 
              stp hA (r_pick_f hA rfl hc40 rfl) rfl fun a hA => 
              stp hA (r_as hA rfl) rfl fun a hA => ?_
            refine o_nil ?_
            cases Option.some.inj (bS H)
            exact ⟨hA.sub ⟨rfl, rfl, trivial⟩, hI⟩
        · have hc30 := hc3; have hc3 := of_decide_eq_false hc3; have H := bF H hc3
          refine o_no hA rfl rfl (by rw [hc30]; simp [vb]) rfl fun a hA => 
            o_no hA rfl rfl (by rw [hc30]; simp [vb]) rfl fun a hA => 
            o_no hA rfl rfl (by rw [hc30]; simp [vb]) rfl fun a hA => 
            o_no hA rfl rfl (by rw [hc30]; simp [vb]) rfl fun a hA => 
            stp hA (r_pick_f hA rfl hc30 rfl) rfl fun a hA => 
            stp hA (r_mv hA rfl) rfl fun a hA => 
            o_no hA rfl rfl (by simp [vb]) rfl fun a hA => 
            o_no hA rfl rfl (by simp [vb]) rfl fun a hA => 
            stp hA (r_pick_f hA rfl rfl rfl) rfl fun a hA => 
            stp hA (r_as hA rfl) rfl fun a hA => ?_
          refine o_nil ?_
          cases Option.some.inj (bS H)
          exact ⟨hA.sub ⟨rfl, rfl, trivial⟩, hI⟩
      · have hc20 := hc2; have hc2 := of_decide_eq_false hc2; have H := bF H hc2
        refine o_no hA rfl rfl (by rw [hc20]; simp [vb]) rfl fun a hA => 
          o_no hA rfl rfl (by rw [hc20]; simp [vb]) rfl fun a hA => 
          o_no hA rfl rfl (by rw [hc20]; simp [vb]) rfl fun a hA => 
          o_no hA rfl rfl (by rw [hc20]; simp [vb]) rfl fun a hA => 
          stp hA (r_pick_f hA rfl hc20 rfl) rfl fun a hA => 
          stp hA (r_mv hA rfl) rfl fun a hA => 
          o_no hA rfl rfl (by simp [vb]) rfl fun a hA => 
          o_no hA rfl rfl (by simp [vb]) rfl fun a hA => 
          o_no hA rfl rfl (by simp [vb]) rfl fun a hA => 
          o_no hA rfl rfl (by simp [vb]) rfl fun a hA => 
          stp hA (r_pick_f hA rfl rfl rfl) rfl fun a hA => 
          stp hA (r_mv hA rfl) rfl fun a hA => 
          o_no hA rfl rfl (by simp [vb]) rfl fun a hA => 
          o_no hA rfl rfl (by simp [vb]) rfl fun a hA => 
          stp hA (r_pick_f hA rfl rfl rfl) rfl fun a hA => 
          stp hA (r_as hA rfl) rfl fun a hA => ?_
        refine o_nil ?_
        cases Option.some.inj (bS H)
        exact ⟨hA.sub ⟨rfl, rfl, trivial⟩, hI⟩
    · have hc10 := hc1; have hc1 := of_decide_eq_false hc1; have H := bF H hc1
      refine o_no hA rfl rfl (by rw [hc10]; simp [vb]) rfl fun a hA => 
        o_no hA rfl rfl (by rw [hc10]; simp [vb]) rfl fun a hA => 
        o_no hA rfl rfl (by rw [hc10]; simp [vb]) rfl fun a hA => 
        o_no hA rfl rfl (by rw [hc10]; simp [vb]) rfl fun a hA => 
        stp hA (r_pick_f hA rfl hc10 rfl) rfl fun a hA => 
        stp hA (r_mv hA rfl) rfl fun a hA => 
        o_no hA rfl rfl (by simp [vb]) rfl fun a hA => 
        o_no hA rfl rfl (by simp [vb]) rfl fun a hA => 
        o_no hA rfl rfl (by simp [vb]) rfl fun a hA => 
        o_no hA rfl rfl (by simp [vb]) rfl fun a hA => 
        stp hA (r_pick_f hA rfl rfl rfl) rfl fun a hA => 
        stp hA (r_mv hA rfl) rfl fun a hA => 
        o_no hA rfl rfl (by simp [vb]) rfl fun a hA => 
        o_no hA rfl rfl (by simp [vb]) rfl fun a hA => 
        o_no hA rfl rfl (by simp [vb]) rfl fun a hA => 
        o_no hA rfl rfl (by simp [vb]) rfl fun a hA => 
        stp hA (r_pick_f hA rfl rfl rfl) rfl fun a hA => 
        stp hA (r_mv hA rfl) rfl fun a hA => 
        o_no hA rfl rfl (by simp [vb]) rfl fun a hA => 
        o_no hA rfl rfl (by simp [vb]) rfl fun a hA => 
        stp hA (r_pick_f hA rfl rfl rfl) rfl fun a hA => 
        stp hA (r_as hA rfl) rfl fun a hA => ?_
      refine o_nil ?_
      cases Option.some.inj (bS H)
      exact ⟨hA.sub ⟨rfl, rfl, trivial⟩, hI⟩
  · rintro a w ⟨hA, hI⟩
    have H := Hk1
    refine w_ret ?_
    obtain rfl := Option.some.inj (bS H)
    exact ret1 hA Try.results41 rfl ⟨_, rfl, rfl, trivial, hI.forget0⟩

/-! sargassolaw4.light: function 64 -/
set_option maxRecDepth 20000 in
theorem sargassolaw4_light.c (μ : Store) (w0 : World) (hμ : Agr μ w0) (x0 : Tx) (u0_0 : Value) (u0_1 : Value) (hx0 : TxW μ x0 u0_0 u0_1) (r : Bool) (H : sargassolaw4_light.f x0 = some r) :
    Calls Try.prog 64 [.agg [[.int .u32 x0.Version], [u0_0], [u0_1], [.int .u32 x0.Time]].flatten.toArray].toArray w0 (fun e w' => ∃ v, e = .returned v ∧ v = .bool r ∧ True ∧ Iv w0 [] μ μ [] w') := by
  refine enter Try.func64 rfl Try.ntmps64 rfl fun a hA => ?_
  have hI := Iv.start hμ
  have H := bI H
  refine w_seq fun _ hN1 => ?_
  refine w_reg ?_
  refine o_box [[.int .u32 x0.Version], [u0_0], [u0_1], [.int .u32 x0.Time]] hI hA rfl rfl rfl fun g1 a w hA hI hg1 => 
    stp hA (r_as hA rfl) rfl fun a hA => ?_
  refine o_nil ?_
  refine hN1 _ _ ?_
  refine w_seq fun _ hN2 => ?_
  obtain ⟨c1, hz1, Hk1⟩ := bB H
  refine w_cut (fun a w => Fr a 29 [(0, .agg [[.int .u32 x0.Version], [u0_0], [u0_1], [.int .u32 x0.Time]].flatten.toArray), (1, .pointer (some ⟨g1, 0, none⟩)), (2, .bool false), (13, .bool c1)] ∧ Iv w0 [] μ μ [cel g1 [[.int .u32 x0.Version], [u0_0], [u0_1], [.int .u32 x0.Time]] 67] w) ?_ ?_
  · have H := bI hz1
    refine w_reg ?_
    refine stp hA (r_fd (k := 1) Try.underlying67 rfl sz64 hA rfl rfl) rfl fun a hA => 
      stp hA (r_ld1 (j := 0) [[.int .u32 x0.Version]] [[u0_1], [.int .u32 x0.Time]] Try.underlying64 rfl hI rfl hA rfl rfl) rfl fun a hA => ?_
    obtain ⟨_, hsl1⟩ := Slc.sv hx0.2.1
    refine stp hA (r_slen Try.underlying64 hsl1 hA rfl) rfl fun a hA => 
      stp hA (r_gtr hA rfl rfl) rfl fun a hA => 
      stp hA (r_mv hA rfl) rfl fun a hA => ?_
    rcases Bool.eq_false_or_eq_true (decide (60 < (x0.Ins.length : Int))) with hc1 | hc1
    · have hc10 := hc1; have hc1 := of_decide_eq_true hc1; have H := bT H hc1
      refine o_no hA rfl rfl (by rw [hc10]; simp [vb]) rfl fun a hA => 
        o_no hA rfl rfl (by rw [hc10]; simp [vb]) rfl fun a hA => 
        o_no hA rfl rfl (by rw [hc10]; simp [vb]) rfl fun a hA => 
        o_no hA rfl rfl (by rw [hc10]; simp [vb]) rfl fun a hA => 
        stp hA (r_pick_t hA rfl hc10 rfl) rfl fun a hA => ?_
      refine o_nil ?_
      cases Option.some.inj (bS H)
      exact ⟨hA.sub ⟨rfl, rfl, rfl, rfl, trivial⟩, hI⟩
    · have hc10 := hc1; have hc1 := of_decide_eq_false hc1; have H := bF H hc1
      refine o_yes hA rfl rfl hc10 <| 
        stp hA (r_fd (k := 2) Try.underlying67 rfl sz65 hA rfl rfl) rfl fun a hA => 
        o_yes hA rfl rfl hc10 <| 
        stp hA (r_ld1 (j := 0) [[.int .u32 x0.Version], [u0_0]] [[.int .u32 x0.Time]] Try.underlying65 rfl hI rfl hA rfl rfl) rfl fun a hA => 
        o_yes hA rfl rfl hc10 <| ?_
      obtain ⟨_, hsl2⟩ := Slc.sv hx0.2.2.1
      refine stp hA (r_slen Try.underlying65 hsl2 hA rfl) rfl fun a hA => 
        o_yes hA rfl rfl hc10 <| 
        stp hA (r_gtr hA rfl rfl) rfl fun a hA => 
        stp hA (r_pick_f hA rfl hc10 rfl) rfl fun a hA => ?_
      refine o_nil ?_
      cases Option.some.inj (bS H)
      exact ⟨hA.sub ⟨rfl, rfl, rfl, rfl, trivial⟩, hI⟩
  · rintro a w ⟨hA, hI⟩
    have H := Hk1
    refine w_cond hA rfl (fun hc2 => ?_) (fun hc2 => ?_)
    · have hc20 := hc2; have H := bT H hc2
      refine w_seq fun _ hN3 => ?_
      refine w_reg ?_
      refine stp hA (r_as hA rfl) rfl fun a hA => ?_
      refine o_nil ?_
      refine hN3 _ _ ?_
      refine w_ret ?_
      obtain rfl := Option.some.inj (bS H)
      exact ret1 hA Try.results64 rfl ⟨_, rfl, rfl, trivial, hI.forget0⟩
    · have hc20 := hc2; have hc2 := ft hc2; have H := bF H hc2
      refine w_skip ?_
      refine hN2 _ _ ?_
      refine w_seq fun _ hN4 => ?_
      refine w_seq fun _ hN5 => ?_
      refine w_reg ?_
      refine stp hA (r_as hA rfl) rfl fun a hA => ?_
      refine o_nil ?_
      refine hN5 _ _ ?_
      refine w_block ?_
      obtain ⟨z1, hz2, Hk2⟩ := bind_some H
      obtain ⟨n1, hn1⟩ := loopO_some hz2
      refine w_loop (fun n a w => ∃ (s1 : Int), loopN (sargassolaw4_light.s0 x0) n s1 = some z1 ∧ InR .i64 s1 ∧ Fr a 29 [(0, .agg [[.int .u32 x0.Version], [u0_0], [u0_1], [.int .u32 x0.Time]].flatten.toArray), (1, .pointer (some ⟨g1, 0, none⟩)), (2, .bool false), (3, .int .i64 s1), (13, .bool c1)] ∧ Iv w0 [] μ μ [cel g1 [[.int .u32 x0.Version], [u0_0], [u0_1], [.int .u32 x0.Time]] 67] w) n1 ⟨0, hn1, (in_lit .i64 0 rfl), hA.sub ⟨rfl, rfl, rfl, rfl, rfl, trivial⟩, hI⟩ ?_
      clear hA hI
      rintro n a w ⟨s1, hn1, ws1, hA, hI⟩
      obtain ⟨m1, rfl, H⟩ := loopN_bind hn1
      clear hn1
      refine w_seq fun _ hN6 => ?_
      refine w_seq fun _ hN7 => ?_
      refine w_reg ?_
      refine stp hA (r_mv hA rfl) rfl fun a hA => 
        stp hA (r_fd (k := 1) Try.underlying67 rfl sz64 hA rfl rfl) rfl fun a hA => 
        stp hA (r_ld1 (j := 0) [[.int .u32 x0.Version]] [[u0_1], [.int .u32 x0.Time]] Try.underlying64 rfl hI rfl hA rfl rfl) rfl fun a hA => ?_
      obtain ⟨_, hsl3⟩ := Slc.sv hx0.2.1
      refine stp hA (r_slen Try.underlying64 hsl3 hA rfl) rfl fun a hA => 
        stp hA (r_lss hA rfl rfl) rfl fun a hA => ?_
      refine o_nil ?_
      refine hN7 _ _ ?_
      refine w_cond hA rfl (fun hc3 => ?_) (fun hc3 => ?_)
      · have hc30 := hc3; have hc3 := of_decide_eq_true hc3; have H := bT H hc3
        refine w_skip ?_
        refine hN6 _ _ ?_
        refine w_seq fun _ hN8 => ?_
        refine w_block ?_
        refine w_seq fun _ hN9 => ?_
        refine w_reg ?_
        refine stp hA (r_fd (k := 1) Try.underlying67 rfl sz64 hA rfl rfl) rfl fun a hA => 
          stp hA (r_ld1 (j := 0) [[.int .u32 x0.Version]] [[u0_1], [.int .u32 x0.Time]] Try.underlying64 rfl hI rfl hA rfl rfl) rfl fun a hA => 
          stp hA (r_mv hA rfl) rfl fun a hA => ?_
        obtain ⟨hb1, H⟩ := bG H
        obtain ⟨_, he1, _, hat1⟩ := Slc.elem hx0.2.1 (getD_some default hb1.1 hb1.2)
        obtain ⟨v1, rfl, hw1⟩ := he1
        obtain ⟨_, hsl4⟩ := Slc.sv hx0.2.1
        refine stp hA (r_six Try.underlying64 sz71 hsl4 hA rfl rfl hb1.1 hb1.2) rfl fun a hA => 
          stp hA (r_fd (k := so u0_0 + s1.toNat * 35 + 33) Try.underlying71 rfl sz22 hA rfl rfl) rfl fun a hA => 
          stp hA (r_ldm1 [av .u8 32 ((x0.Ins.getD s1.toNat default).From.Tx), [.int .u32 ((x0.Ins.getD s1.toNat default).From.N)]] [[.int .u32 ((x0.Ins.getD s1.toNat default).Seq)]] Try.underlying22 rfl hI.agr hat1 hA rfl rfl) rfl fun a hA => ?_
        obtain ⟨_, hsl5⟩ := Slc.sv hw1.2.2.1
        refine stp hA (r_slen Try.underlying22 hsl5 hA rfl) rfl fun a hA => 
          stp hA (r_gtr hA rfl rfl) rfl fun a hA => ?_
        refine o_nil ?_
        refine hN9 _ _ ?_
        refine w_cond hA rfl (fun hc4 => ?_) (fun hc4 => ?_)
        · have hc40 := hc4; have hc4 := of_decide_eq_true hc4; have H := bT H hc4
          refine w_seq fun _ hN10 => ?_
          refine w_reg ?_
          refine stp hA (r_as hA rfl) rfl fun a hA => ?_
          refine o_nil ?_
          refine hN10 _ _ ?_
          refine w_ret ?_
          have H : some false = some z1 := H
          obtain rfl := Option.some.inj H
          have H := Hk2
          obtain rfl := Option.some.inj (bS H)
          exact ret1 hA Try.results64 rfl ⟨_, rfl, rfl, trivial, hI.forget0⟩
        · have hc40 := hc4; have hc4 := of_decide_eq_false hc4; have H := bF H hc4
          refine w_skip ?_
          refine hN8 _ _ ?_
          refine w_reg ?_
          refine stp hA (r_mv hA rfl) rfl fun a hA => 
            stp hA (r_add hA rfl rfl) rfl fun a hA => 
            stp hA (r_as hA rfl) rfl fun a hA => ?_
          refine o_nil ?_
          exact ⟨m1, Nat.lt_succ_self _, IntKind.i64.wrap (s1 + 1), H, (wrap_in _ _), hA.sub ⟨rfl, rfl, rfl, rfl, rfl, trivial⟩, hI⟩
      · have hc30 := hc3; have hc3 := of_decide_eq_false hc3; have H := bF H hc3
        refine w_exit rfl ?_
        refine hN4 _ _ ?_
        refine w_seq fun _ hN11 => ?_
        refine w_reg ?_
        refine stp hA (r_as hA rfl) rfl fun a hA => ?_
        refine o_nil ?_
        refine hN11 _ _ ?_
        refine w_ret ?_
        have H : some true = some z1 := H
        obtain rfl := Option.some.inj H
        have H := Hk2
        obtain rfl := Option.some.inj (bS H)
        exact ret1 hA Try.results64 rfl ⟨_, rfl, rfl, trivial, hI.forget0⟩

/-! sargassolaw15.first: function 83 -/
set_option maxRecDepth 20000 in
theorem sargassolaw15_first.c (μ : Store) (w0 : World) (hμ : Agr μ w0) (r : Bool) (H : sargassolaw15_first.f = some r) :
    Calls Try.prog 83 [].toArray w0 (fun e w' => ∃ v, e = .returned v ∧ v = .bool r ∧ True ∧ Iv w0 [] μ μ [] w') := by
  refine enter Try.func83 rfl Try.ntmps83 rfl fun a hA => ?_
  have hI := Iv.start hμ
  have H := bI H
  refine w_seq fun _ hN1 => ?_
  refine w_reg ?_
  refine stp hA (r_as hA rfl) rfl fun a hA => ?_
  refine o_nil ?_
  refine hN1 _ _ ?_
  obtain ⟨c1, hz1, Hk1⟩ := bB H
  refine w_cut (fun a w => Fr a 7 [(0, .bool c1)] ∧ Iv w0 [] μ μ [] w) ?_ ?_
  · have H := bI hz1
    refine w_reg ?_
    obtain ⟨r1, hr1, H⟩ := bB H
    refine o_callp (u := .int .u64 r1) cf84 hA rfl hI (value_Reward.c μ _ hI.agr 0 (in_lit .i64 0 rfl) 10 (in_lit .i64 10 rfl) r1 hr1) rfl fun a w hz2 hI hA => 
      stp hA (r_eql hA rfl rfl) rfl fun a hA => 
      stp hA (r_mv hA rfl) rfl fun a hA => ?_
    rcases Bool.eq_false_or_eq_true (decide (r1 = 5000000000)) with hc1 | hc1
    · have hc10 := hc1; have hc1 := of_decide_eq_true hc1; have H := bT H hc1
      refine o_yes hA rfl rfl hc10 <| ?_
      obtain ⟨r2, hr2, H⟩ := bB H
      refine o_callp (u := .int .u64 r2) cf84 hA rfl hI (value_Reward.c μ _ hI.agr 10 (in_lit .i64 10 rfl) 10 (in_lit .i64 10 rfl) r2 hr2) rfl fun a w hz3 hI hA => 
        o_yes hA rfl rfl hc10 <| 
        stp hA (r_eql hA rfl rfl) rfl fun a hA => 
        stp hA (r_pick_t hA rfl hc10 rfl) rfl fun a hA => 
        stp hA (r_as hA rfl) rfl fun a hA => ?_
      refine o_nil ?_
      cases Option.some.inj (bS H)
      exact ⟨hA.sub ⟨rfl, trivial⟩, hI⟩
    · have hc10 := hc1; have hc1 := of_decide_eq_false hc1; have H := bF H hc1
      refine o_no hA rfl rfl (by rw [hc10]; simp [vb]) rfl fun a hA => 
        o_no hA rfl rfl (by rw [hc10]; simp [vb]) rfl fun a hA => 
        stp hA (r_pick_f hA rfl hc10 rfl) rfl fun a hA => 
        stp hA (r_as hA rfl) rfl fun a hA => ?_
      refine o_nil ?_
      cases Option.some.inj (bS H)
      exact ⟨hA.sub ⟨rfl, trivial⟩, hI⟩
  · rintro a w ⟨hA, hI⟩
    have H := Hk1
    refine w_ret ?_
    obtain rfl := Option.some.inj (bS H)
    exact ret1 hA Try.results83 rfl ⟨_, rfl, rfl, trivial, hI.forget0⟩
end Go.Proofs.Ytnbnnphlffhgiaa.T
