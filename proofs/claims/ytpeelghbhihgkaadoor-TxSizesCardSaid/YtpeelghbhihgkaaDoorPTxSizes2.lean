/- Proved: the statement TxSizes, as given (its conditions are those of the given row, and card where there is one; no others): the call ends, with true, and the input reads as it did. This file is one of its parts. -/
import Derived.Test.YtpeelghbhihgkaaDoorPTxSizes1
namespace Go.Proofs.YtpeelghbhihgkaaDoor.T
open Go Go.Proofs Go.Proofs.YtpeelghbhihgkaaDoor.K
set_option linter.unusedVariables false
set_option linter.unusedSimpArgs false
set_option maxRecDepth 20000 in
theorem sargassoref_SameBytes.c (μ : Store) (w0 : World) (hμ : Agr μ w0) (x0 : List Int) (u0 : Value) (hx0 : Slc (RI .u8) 1 μ u0 x0) (x1 : List Int) (u1 : Value) (hx1 : Slc (RI .u8) 1 μ u1 x1) (r : Bool) (H : sargassoref_SameBytes.f x0 x1 = some r) :
    Calls Tryd.prog 36 [u0, u1].toArray w0 (fun e w' => ∃ v, e = .returned v ∧ v = .bool r ∧ True ∧ Iv w0 [] μ μ [] w') := by
  refine enter Tryd.func36 rfl Tryd.ntmps36 rfl fun a hA => ?_
  have hI := Iv.start hμ
  have H := bI H
  refine w_seq fun _ hN1 => ?_
  refine w_reg ?_
  refine stp hA (r_as hA rfl) rfl fun a hA => ?_
  refine o_nil ?_
  refine hN1 _ _ ?_
  refine w_seq fun _ hN2 => ?_
  refine w_seq fun _ hN3 => ?_
  refine w_reg ?_
  refine stp hA (r_mv hA rfl) rfl fun a hA => ?_
  obtain ⟨_, hsl1⟩ := Slc.sv hx0
  refine stp hA (r_slen Tryd.underlying23 hsl1 hA rfl) rfl fun a hA => 
    stp hA (r_mv hA rfl) rfl fun a hA => ?_
  obtain ⟨_, hsl2⟩ := Slc.sv hx1
  refine stp hA (r_slen Tryd.underlying23 hsl2 hA rfl) rfl fun a hA => 
    stp hA (r_neq hA rfl rfl) rfl fun a hA => ?_
  refine o_nil ?_
  refine hN3 _ _ ?_
  refine w_cond hA rfl (fun hc1 => ?_) (fun hc1 => ?_)
  · have hc10 := hc1; have hc1 := of_decide_eq_true hc1; have H := bT H hc1
    refine w_seq fun _ hN4 => ?_
    refine w_reg ?_
    refine stp hA (r_as hA rfl) rfl fun a hA => ?_
    refine o_nil ?_
    refine hN4 _ _ ?_
    refine w_ret ?_
    obtain rfl := Option.some.inj (bS H)
    exact ret1 hA Tryd.results36 rfl ⟨_, rfl, rfl, trivial, hI.forget0⟩
  · have hc10 := hc1; have hc1 := of_decide_eq_false hc1; have H := bF H hc1
    refine w_skip ?_
    refine hN2 _ _ ?_
    refine w_seq fun _ hN5 => ?_
    refine w_seq fun _ hN6 => ?_
    refine w_reg ?_
    refine stp hA (r_as hA rfl) rfl fun a hA => ?_
    refine o_nil ?_
    refine hN6 _ _ ?_
    refine w_block ?_
    obtain ⟨z1, hz1, Hk1⟩ := bind_some H
    obtain ⟨n1, hn1⟩ := loopO_some hz1
    refine w_loop (fun n a w => ∃ (s1 : Int), loopN (sargassoref_SameBytes.s0 x0 x1) n s1 = some z1 ∧ InR .i64 s1 ∧ Fr a 29 [(0, u0), (1, u1), (4, .bool false), (5, .int .i64 s1), (11, .bool (decide ((x0.length : Int) ≠ (x1.length : Int))))] ∧ Iv w0 [] μ μ [] w) n1 ⟨0, hn1, (in_lit .i64 0 rfl), hA.sub ⟨rfl, rfl, rfl, rfl, rfl, trivial⟩, hI⟩ ?_
    clear hA hI
    rintro n a w ⟨s1, hn1, ws1, hA, hI⟩
    obtain ⟨m1, rfl, H⟩ := loopN_bind hn1
    clear hn1
    refine w_seq fun _ hN7 => ?_
    refine w_seq fun _ hN8 => ?_
    refine w_reg ?_
    refine stp hA (r_mv hA rfl) rfl fun a hA => 
      stp hA (r_mv hA rfl) rfl fun a hA => ?_
    obtain ⟨_, hsl3⟩ := Slc.sv hx0
    refine stp hA (r_slen Tryd.underlying23 hsl3 hA rfl) rfl fun a hA => 
      stp hA (r_lss hA rfl rfl) rfl fun a hA => ?_
    refine o_nil ?_
    refine hN8 _ _ ?_
    refine w_cond hA rfl (fun hc2 => ?_) (fun hc2 => ?_)
    · have hc20 := hc2; have hc2 := of_decide_eq_true hc2; have H := bT H hc2
      refine w_skip ?_
      refine hN7 _ _ ?_
      refine w_seq fun _ hN9 => ?_
      refine w_block ?_
      refine w_seq fun _ hN10 => ?_
      refine w_draw mo (by kernel_rfl) hI ?_
      refine qtp hA (fun _ hI => r_mv hA rfl) rfl fun a hA => 
        qtp hA (fun _ hI => r_mv hA rfl) rfl fun a hA => ?_
      obtain ⟨hb1, H⟩ := bG H
      obtain ⟨_, he1, _, hat1⟩ := Slc.elem1 hx0 (getD_some 0 hb1.1 hb1.2)
      obtain ⟨rfl, hw1⟩ := he1
      obtain ⟨_, hsl4⟩ := Slc.sv hx0
      refine qtp hA (fun _ hI => r_six1 Tryd.underlying23 sz5 hsl4 hA rfl rfl hb1.1 hb1.2) rfl fun a hA => 
        qtp hA (fun _ hI => r_ldm1 [] [] Tryd.underlying5 rfl hI.agr hat1 hA rfl rfl) rfl fun a hA => 
        qtp hA (fun _ hI => r_mv hA rfl) rfl fun a hA => 
        qtp hA (fun _ hI => r_mv hA rfl) rfl fun a hA => ?_
      obtain ⟨hb2, H⟩ := bG H
      obtain ⟨_, he2, _, hat2⟩ := Slc.elem1 hx1 (getD_some 0 hb2.1 hb2.2)
      obtain ⟨rfl, hw2⟩ := he2
      obtain ⟨_, hsl5⟩ := Slc.sv hx1
      refine qtp hA (fun _ hI => r_six1 Tryd.underlying23 sz5 hsl5 hA rfl rfl hb2.1 hb2.2) rfl fun a hA => 
        qtp hA (fun _ hI => r_ldm1 [] [] Tryd.underlying5 rfl hI.agr hat2 hA rfl rfl) rfl fun a hA => 
        qtp hA (fun _ hI => r_eql hA rfl rfl) rfl fun a hA => 
        qtp hA (fun _ hI => r_as hA rfl) rfl fun a hA => ?_
      refine q_nil fun w hI => ?_
      refine hN10 _ _ ?_
      refine w_seq fun _ hN11 => ?_
      refine w_reg ?_
      refine stp hA (r_mv hA rfl) rfl fun a hA => 
        stp hA (r_not hA rfl) rfl fun a hA => ?_
      refine o_nil ?_
      refine hN11 _ _ ?_
      refine w_cond hA rfl (fun hc3 => ?_) (fun hc3 => ?_)
      · have hc30 := hc3; have hc3 := nT hc3; have hc3 := of_decide_eq_false hc3; have H := bF H hc3
        refine w_seq fun _ hN12 => ?_
        refine w_reg ?_
        refine stp hA (r_as hA rfl) rfl fun a hA => ?_
        refine o_nil ?_
        refine hN12 _ _ ?_
        refine w_ret ?_
        have H : some false = some z1 := H
        obtain rfl := Option.some.inj H
        have H := Hk1
        obtain rfl := Option.some.inj (bS H)
        exact ret1 hA Tryd.results36 rfl ⟨_, rfl, rfl, trivial, hI.forget0⟩
      · have hc30 := hc3; have hc3 := nF hc3; have hc3 := of_decide_eq_true hc3; have H := bT H hc3
        refine w_skip ?_
        refine hN9 _ _ ?_
        refine w_reg ?_
        refine stp hA (r_mv hA rfl) rfl fun a hA => 
          stp hA (r_add hA rfl rfl) rfl fun a hA => 
          stp hA (r_as hA rfl) rfl fun a hA => ?_
        refine o_nil ?_
        exact ⟨m1, Nat.lt_succ_self _, IntKind.i64.wrap (s1 + 1), H, (wrap_in _ _), hA.sub ⟨rfl, rfl, rfl, rfl, rfl, trivial⟩, hI⟩
    · have hc20 := hc2; have hc2 := of_decide_eq_false hc2; have H := bF H hc2
      refine w_exit rfl ?_
      refine hN5 _ _ ?_
      refine w_seq fun _ hN13 => ?_
      refine w_reg ?_
      refine stp hA (r_as hA rfl) rfl fun a hA => ?_
      refine o_nil ?_
      refine hN13 _ _ ?_
      refine w_ret ?_
      have H : some true = some z1 := H
      obtain rfl := Option.some.inj H
      have H := Hk1
      obtain rfl := Option.some.inj (bS H)
      exact ret1 hA Tryd.results36 rfl ⟨_, rfl, rfl, trivial, hI.forget0⟩
set_option maxRecDepth 20000 in
theorem sargassoref_SameHash.c (μ : Store) (w0 : World) (hμ : Agr μ w0) (x0 : List Int) (hx0 : Arr .u8 32 x0) (x1 : List Int) (hx1 : Arr .u8 32 x1) (r : Bool) (H : sargassoref_SameHash.f x0 x1 = some r) :
    Calls Tryd.prog 41 [.agg [av .u8 32 x0].flatten.toArray, .agg [av .u8 32 x1].flatten.toArray].toArray w0 (fun e w' => ∃ v, e = .returned v ∧ v = .bool r ∧ True ∧ Iv w0 [] μ μ [] w') := by
  refine enter Tryd.func41 rfl Tryd.ntmps41 rfl fun a hA => ?_
  have hI := Iv.start hμ
  have H := bI H
  refine w_seq fun _ hN1 => ?_
  refine w_reg ?_
  refine o_box [av .u8 32 x0] hI hA rfl rfl rfl fun g1 a w hA hI hg1 => 
    o_box [av .u8 32 x1] hI hA rfl rfl rfl fun g2 a w hA hI hg2 => 
    stp hA (r_as hA rfl) rfl fun a hA => ?_
  refine o_nil ?_
  refine hN1 _ _ ?_
  refine w_seq fun _ hN2 => ?_
  refine w_seq fun _ hN3 => ?_
  refine w_reg ?_
  refine stp hA (r_as hA rfl) rfl fun a hA => ?_
  refine o_nil ?_
  refine hN3 _ _ ?_
  refine w_block ?_
  obtain ⟨z1, hz1, Hk1⟩ := bind_some H
  obtain ⟨n1, hn1⟩ := loopO_some hz1
  refine w_loop (fun n a w => ∃ (s1 : Int), loopN (sargassoref_SameHash.s0 x0 x1) n s1 = some z1 ∧ InR .i64 s1 ∧ Fr a 17 [(0, .agg [av .u8 32 x0].flatten.toArray), (1, .agg [av .u8 32 x1].flatten.toArray), (2, .pointer (some ⟨g1, 0, none⟩)), (3, .pointer (some ⟨g2, 0, none⟩)), (4, .bool false), (5, .int .i64 s1)] ∧ Iv w0 [] μ μ [cel g2 [av .u8 32 x1] 55, cel g1 [av .u8 32 x0] 55] w) n1 ⟨0, hn1, (in_lit .i64 0 rfl), hA.sub ⟨rfl, rfl, rfl, rfl, rfl, rfl, trivial⟩, hI⟩ ?_
  clear hA hI
  rintro n a w ⟨s1, hn1, ws1, hA, hI⟩
  obtain ⟨m1, rfl, H⟩ := loopN_bind hn1
  clear hn1
  refine w_seq fun _ hN4 => ?_
  refine w_seq fun _ hN5 => ?_
  refine w_reg ?_
  refine stp hA (r_mv hA rfl) rfl fun a hA => 
    stp hA (r_lss hA rfl rfl) rfl fun a hA => ?_
  refine o_nil ?_
  refine hN5 _ _ ?_
  refine w_cond hA rfl (fun hc1 => ?_) (fun hc1 => ?_)
  · have hc10 := hc1; have hc1 := of_decide_eq_true hc1; have H := bT H hc1
    refine w_skip ?_
    refine hN4 _ _ ?_
    refine w_seq fun _ hN6 => ?_
    refine w_block ?_
    refine w_seq fun _ hN7 => ?_
    refine w_draw mo (by kernel_rfl) hI ?_
    refine qtp hA (fun _ hI => r_mv hA rfl) rfl fun a hA => ?_
    obtain ⟨hb1, H⟩ := bG H
    refine qtp hA (fun _ hI => r_ixar1 Tryd.underlying55 sz5 hA rfl rfl hb1.1 hb1.2) rfl fun a hA => 
      qtp hA (fun _ hI => r_ldE (j := 1) [] [] Tryd.underlying5 rfl hI rfl hA rfl rfl (by omega)) rfl fun a hA => 
      qtp hA (fun _ hI => r_mv hA rfl) rfl fun a hA => 
      qtp hA (fun _ hI => r_ixar1 Tryd.underlying55 sz5 hA rfl rfl hb1.1 hb1.2) rfl fun a hA => 
      qtp hA (fun _ hI => r_ldE (j := 0) [] [] Tryd.underlying5 rfl hI rfl hA rfl rfl (by omega)) rfl fun a hA => 
      qtp hA (fun _ hI => r_neq hA rfl rfl) rfl fun a hA => ?_
    refine q_nil fun w hI => ?_
    refine hN7 _ _ ?_
    refine w_cond hA rfl (fun hc2 => ?_) (fun hc2 => ?_)
    · have hc20 := hc2; have hc2 := of_decide_eq_true hc2; have H := bT H hc2
      refine w_seq fun _ hN8 => ?_
      refine w_reg ?_
      refine stp hA (r_as hA rfl) rfl fun a hA => ?_
      refine o_nil ?_
      refine hN8 _ _ ?_
      refine w_ret ?_
      have H : some false = some z1 := H
      obtain rfl := Option.some.inj H
      have H := Hk1
      obtain rfl := Option.some.inj (bS H)
      exact ret1 hA Tryd.results41 rfl ⟨_, rfl, rfl, trivial, hI.forget0⟩
    · have hc20 := hc2; have hc2 := of_decide_eq_false hc2; have H := bF H hc2
      refine w_skip ?_
      refine hN6 _ _ ?_
      refine w_reg ?_
      refine stp hA (r_mv hA rfl) rfl fun a hA => 
        stp hA (r_add hA rfl rfl) rfl fun a hA => 
        stp hA (r_as hA rfl) rfl fun a hA => ?_
      refine o_nil ?_
      exact ⟨m1, Nat.lt_succ_self _, IntKind.i64.wrap (s1 + 1), H, (wrap_in _ _), hA.sub ⟨rfl, rfl, rfl, rfl, rfl, rfl, trivial⟩, hI⟩
  · have hc10 := hc1; have hc1 := of_decide_eq_false hc1; have H := bF H hc1
    refine w_exit rfl ?_
    refine hN2 _ _ ?_
    refine w_seq fun _ hN9 => ?_
    refine w_reg ?_
    refine stp hA (r_as hA rfl) rfl fun a hA => ?_
    refine o_nil ?_
    refine hN9 _ _ ?_
    refine w_ret ?_
    have H : some true = some z1 := H
    obtain rfl := Option.some.inj H
    have H := Hk1
    obtain rfl := Option.some.inj (bS H)
    exact ret1 hA Tryd.results41 rfl ⟨_, rfl, rfl, trivial, hI.forget0⟩
set_option maxRecDepth 20000 in
theorem sargassoref_SamePoint.c (μ : Store) (w0 : World) (hμ : Agr μ w0) (x0 : Point) (hx0 : PointW μ x0) (x1 : Point) (hx1 : PointW μ x1) (r : Bool) (H : sargassoref_SamePoint.f x0 x1 = some r) :
    Calls Tryd.prog 117 [.agg [av .u8 32 x0.Tx, [.int .u32 x0.N]].flatten.toArray, .agg [av .u8 32 x1.Tx, [.int .u32 x1.N]].flatten.toArray].toArray w0 (fun e w' => ∃ v, e = .returned v ∧ v = .bool r ∧ True ∧ Iv w0 [] μ μ [] w') := by
  refine enter Tryd.func117 rfl Tryd.ntmps117 rfl fun a hA => ?_
  have hI := Iv.start hμ
  have H := bI H
  refine w_seq fun _ hN1 => ?_
  refine w_reg ?_
  refine o_box [av .u8 32 x0.Tx, [.int .u32 x0.N]] hI hA rfl rfl rfl fun g1 a w hA hI hg1 => 
    o_box [av .u8 32 x1.Tx, [.int .u32 x1.N]] hI hA rfl rfl rfl fun g2 a w hA hI hg2 => 
    stp hA (r_as hA rfl) rfl fun a hA => ?_
  refine o_nil ?_
  refine hN1 _ _ ?_
  obtain ⟨c1, hz1, Hk1⟩ := bB H
  refine w_cut (fun a w => Fr a 17 [(0, .agg [av .u8 32 x0.Tx, [.int .u32 x0.N]].flatten.toArray), (1, .agg [av .u8 32 x1.Tx, [.int .u32 x1.N]].flatten.toArray), (2, .pointer (some ⟨g1, 0, none⟩)), (3, .pointer (some ⟨g2, 0, none⟩)), (4, .bool c1)] ∧ Iv w0 [] μ μ [cel g2 [av .u8 32 x1.Tx, [.int .u32 x1.N]] 60, cel g1 [av .u8 32 x0.Tx, [.int .u32 x0.N]] 60] w) ?_ ?_
  · have H := bI hz1
    refine w_reg ?_
    refine stp hA (r_fd (k := 0) Tryd.underlying60 rfl sz55 hA rfl rfl) rfl fun a hA => 
      stp hA (r_ldA (j := 1) [] [av .u8 32 x0.Tx] [[.int .u32 x0.N]] Tryd.underlying55 rfl sz55 rfl hI rfl hA rfl rfl) rfl fun a hA => 
      stp hA (r_fd (k := 0) Tryd.underlying60 rfl sz55 hA rfl rfl) rfl fun a hA => 
      stp hA (r_ldA (j := 0) [] [av .u8 32 x1.Tx] [[.int .u32 x1.N]] Tryd.underlying55 rfl sz55 rfl hI rfl hA rfl rfl) rfl fun a hA => ?_
    obtain ⟨r1, hr1, H⟩ := bB H
    refine o_callp (u := .bool r1) cf41 hA rfl hI (sargassoref_SameHash.c μ _ hI.agr x0.Tx hx0.1 x1.Tx hx1.1 r1 hr1) rfl fun a w hz2 hI hA => 
      stp hA (r_mv hA rfl) rfl fun a hA => ?_
    rcases Bool.eq_false_or_eq_true r1 with hc1 | hc1
    · have hc10 := hc1; have H := bT H hc1
      refine o_yes hA rfl rfl hc10 <| 
        stp hA (r_fd (k := 32) Tryd.underlying60 rfl sz39 hA rfl rfl) rfl fun a hA => 
        o_yes hA rfl rfl hc10 <| 
        stp hA (r_ld1 (j := 1) [av .u8 32 x0.Tx] [] Tryd.underlying39 rfl hI rfl hA rfl rfl) rfl fun a hA => 
        o_yes hA rfl rfl hc10 <| 
        stp hA (r_fd (k := 32) Tryd.underlying60 rfl sz39 hA rfl rfl) rfl fun a hA => 
        o_yes hA rfl rfl hc10 <| 
        stp hA (r_ld1 (j := 0) [av .u8 32 x1.Tx] [] Tryd.underlying39 rfl hI rfl hA rfl rfl) rfl fun a hA => 
        o_yes hA rfl rfl hc10 <| 
        stp hA (r_eql hA rfl rfl) rfl fun a hA => 
        stp hA (r_pick_t hA rfl hc10 rfl) rfl fun a hA => 
        stp hA (r_as hA rfl) rfl fun a hA => ?_
      refine o_nil ?_
      cases Option.some.inj (bS H)
      exact ⟨hA.sub ⟨rfl, rfl, rfl, rfl, rfl, trivial⟩, hI⟩
    · have hc10 := hc1; have hc1 := ft hc1; have H := bF H hc1
      refine o_no hA rfl rfl (by rw [hc10]; simp [vb]) rfl fun a hA => 
        o_no hA rfl rfl (by rw [hc10]; simp [vb]) rfl fun a hA => 
        o_no hA rfl rfl (by rw [hc10]; simp [vb]) rfl fun a hA => 
        o_no hA rfl rfl (by rw [hc10]; simp [vb]) rfl fun a hA => 
        o_no hA rfl rfl (by rw [hc10]; simp [vb]) rfl fun a hA => 
        stp hA (r_pick_f hA rfl hc10 rfl) rfl fun a hA => 
        stp hA (r_as hA rfl) rfl fun a hA => ?_
      refine o_nil ?_
      cases Option.some.inj (bS H)
      exact ⟨hA.sub ⟨rfl, rfl, rfl, rfl, rfl, trivial⟩, hI⟩
  · rintro a w ⟨hA, hI⟩
    have H := Hk1
    refine w_ret ?_
    obtain rfl := Option.some.inj (bS H)
    exact ret1 hA Tryd.results117 rfl ⟨_, rfl, rfl, trivial, hI.forget0⟩
set_option maxRecDepth 20000 in
theorem sargassoref_SameIn.c (μ : Store) (w0 : World) (hμ : Agr μ w0) (x0 : In) (u0_0 : Value) (hx0 : InW μ x0 u0_0) (x1 : In) (u1_0 : Value) (hx1 : InW μ x1 u1_0) (r : Bool) (H : sargassoref_SameIn.f x0 x1 = some r) :
    Calls Tryd.prog 107 [.agg [av .u8 32 x0.From.Tx, [.int .u32 x0.From.N], [u0_0], [.int .u32 x0.Seq]].flatten.toArray, .agg [av .u8 32 x1.From.Tx, [.int .u32 x1.From.N], [u1_0], [.int .u32 x1.Seq]].flatten.toArray].toArray w0 (fun e w' => ∃ v, e = .returned v ∧ v = .bool r ∧ True ∧ Iv w0 [] μ μ [] w') := by
  refine enter Tryd.func107 rfl Tryd.ntmps107 rfl fun a hA => ?_
  have hI := Iv.start hμ
  have H := bI H
  refine w_seq fun _ hN1 => ?_
  refine w_reg ?_
  refine o_box [av .u8 32 x0.From.Tx, [.int .u32 x0.From.N], [u0_0], [.int .u32 x0.Seq]] hI hA rfl rfl rfl fun g1 a w hA hI hg1 => 
    o_box [av .u8 32 x1.From.Tx, [.int .u32 x1.From.N], [u1_0], [.int .u32 x1.Seq]] hI hA rfl rfl rfl fun g2 a w hA hI hg2 => 
    stp hA (r_as hA rfl) rfl fun a hA => ?_
  refine o_nil ?_
  refine hN1 _ _ ?_
  obtain ⟨c1, hz1, Hk1⟩ := bB H
  refine w_cut (fun a w => Fr a 24 [(0, .agg [av .u8 32 x0.From.Tx, [.int .u32 x0.From.N], [u0_0], [.int .u32 x0.Seq]].flatten.toArray), (1, .agg [av .u8 32 x1.From.Tx, [.int .u32 x1.From.N], [u1_0], [.int .u32 x1.Seq]].flatten.toArray), (2, .pointer (some ⟨g1, 0, none⟩)), (3, .pointer (some ⟨g2, 0, none⟩)), (4, .bool c1)] ∧ Iv w0 [] μ μ [cel g2 [av .u8 32 x1.From.Tx, [.int .u32 x1.From.N], [u1_0], [.int .u32 x1.Seq]] 62, cel g1 [av .u8 32 x0.From.Tx, [.int .u32 x0.From.N], [u0_0], [.int .u32 x0.Seq]] 62] w) ?_ ?_
  · have H := bI hz1
    refine w_reg ?_
    refine stp hA (r_fd (k := 0) Tryd.underlying62 rfl sz60 hA rfl rfl) rfl fun a hA => 
      stp hA (r_ldA (j := 1) [] [av .u8 32 x0.From.Tx, [.int .u32 x0.From.N]] [[u0_0], [.int .u32 x0.Seq]] Tryd.underlying60 rfl sz60 rfl hI rfl hA rfl rfl) rfl fun a hA => 
      stp hA (r_fd (k := 0) Tryd.underlying62 rfl sz60 hA rfl rfl) rfl fun a hA => 
      stp hA (r_ldA (j := 0) [] [av .u8 32 x1.From.Tx, [.int .u32 x1.From.N]] [[u1_0], [.int .u32 x1.Seq]] Tryd.underlying60 rfl sz60 rfl hI rfl hA rfl rfl) rfl fun a hA => ?_
    obtain ⟨r1, hr1, H⟩ := bB H
    refine o_callp (u := .bool r1) cf117 hA rfl hI (sargassoref_SamePoint.c μ _ hI.agr x0.From ⟨hx0.1, hx0.2.1⟩ x1.From ⟨hx1.1, hx1.2.1⟩ r1 hr1) rfl fun a w hz2 hI hA => 
      stp hA (r_mv hA rfl) rfl fun a hA => ?_
    rcases Bool.eq_false_or_eq_true r1 with hc1 | hc1
    · have hc10 := hc1; have H := bT H hc1
      refine o_yes hA rfl rfl hc10 <| 
        stp hA (r_fd (k := 33) Tryd.underlying62 rfl sz23 hA rfl rfl) rfl fun a hA => 
        o_yes hA rfl rfl hc10 <| 
        stp hA (r_ld1 (j := 1) [av .u8 32 x0.From.Tx, [.int .u32 x0.From.N]] [[.int .u32 x0.Seq]] Tryd.underlying23 rfl hI rfl hA rfl rfl) rfl fun a hA => 
        o_yes hA rfl rfl hc10 <| 
        stp hA (r_fd (k := 33) Tryd.underlying62 rfl sz23 hA rfl rfl) rfl fun a hA => 
        o_yes hA rfl rfl hc10 <| 
        stp hA (r_ld1 (j := 0) [av .u8 32 x1.From.Tx, [.int .u32 x1.From.N]] [[.int .u32 x1.Seq]] Tryd.underlying23 rfl hI rfl hA rfl rfl) rfl fun a hA => 
        o_yes hA rfl rfl hc10 <| ?_
      obtain ⟨r2, hr2, H⟩ := bB H
      refine o_callp (u := .bool r2) cf36 hA rfl hI (sargassoref_SameBytes.c μ _ hI.agr x0.Key u0_0 hx0.2.2.1 x1.Key u1_0 hx1.2.2.1 r2 hr2) rfl fun a w hz3 hI hA => 
        stp hA (r_pick_t hA rfl hc10 rfl) rfl fun a hA => 
        stp hA (r_mv hA rfl) rfl fun a hA => ?_
      rcases Bool.eq_false_or_eq_true r2 with hc2 | hc2
      · have hc20 := hc2; have H := bT H hc2
        refine o_yes hA rfl rfl hc20 <| 
          stp hA (r_fd (k := 34) Tryd.underlying62 rfl sz39 hA rfl rfl) rfl fun a hA => 
          o_yes hA rfl rfl hc20 <| 
          stp hA (r_ld1 (j := 1) [av .u8 32 x0.From.Tx, [.int .u32 x0.From.N], [u0_0]] [] Tryd.underlying39 rfl hI rfl hA rfl rfl) rfl fun a hA => 
          o_yes hA rfl rfl hc20 <| 
          stp hA (r_fd (k := 34) Tryd.underlying62 rfl sz39 hA rfl rfl) rfl fun a hA => 
          o_yes hA rfl rfl hc20 <| 
          stp hA (r_ld1 (j := 0) [av .u8 32 x1.From.Tx, [.int .u32 x1.From.N], [u1_0]] [] Tryd.underlying39 rfl hI rfl hA rfl rfl) rfl fun a hA => 
          o_yes hA rfl rfl hc20 <| 
          stp hA (r_eql hA rfl rfl) rfl fun a hA => 
          stp hA (r_pick_t hA rfl hc20 rfl) rfl fun a hA => 
          stp hA (r_as hA rfl) rfl fun a hA => ?_
        refine o_nil ?_
        cases Option.some.inj (bS H)
        exact ⟨hA.sub ⟨rfl, rfl, rfl, rfl, rfl, trivial⟩, hI⟩
      · have hc20 := hc2; have hc2 := ft hc2; have H := bF H hc2
        refine o_no hA rfl rfl (by rw [hc20]; simp [vb]) rfl fun a hA => 
          o_no hA rfl rfl (by rw [hc20]; simp [vb]) rfl fun a hA => 
          o_no hA rfl rfl (by rw [hc20]; simp [vb]) rfl fun a hA => 
          o_no hA rfl rfl (by rw [hc20]; simp [vb]) rfl fun a hA => 
          o_no hA rfl rfl (by rw [hc20]; simp [vb]) rfl fun a hA => 
          stp hA (r_pick_f hA rfl hc20 rfl) rfl fun a hA => 
          stp hA (r_as hA rfl) rfl fun a hA => ?_
        refine o_nil ?_
        cases Option.some.inj (bS H)
        exact ⟨hA.sub ⟨rfl, rfl, rfl, rfl, rfl, trivial⟩, hI⟩
    · have hc10 := hc1; have hc1 := ft hc1; have H := bF H hc1
      refine o_no hA rfl rfl (by rw [hc10]; simp [vb]) rfl fun a hA => 
        o_no hA rfl rfl (by rw [hc10]; simp [vb]) rfl fun a hA => 
        o_no hA rfl rfl (by rw [hc10]; simp [vb]) rfl fun a hA => 
        o_no hA rfl rfl (by rw [hc10]; simp [vb]) rfl fun a hA => 
        o_no hA rfl rfl (by rw [hc10]; simp [vb]) rfl fun a hA => 
        stp hA (r_pick_f hA rfl hc10 rfl) rfl fun a hA => 
        stp hA (r_mv hA rfl) rfl fun a hA => 
        o_no hA rfl rfl (by simp [vb]) rfl fun a hA => 
        o_no hA rfl rfl (by simp [vb]) rfl fun a hA => 
        o_no hA rfl rfl (by simp [vb]) rfl fun a hA => 
        o_no hA rfl rfl (by simp [vb]) rfl fun a hA => 
        o_no hA rfl rfl (by simp [vb]) rfl fun a hA => 
        stp hA (r_pick_f hA rfl rfl rfl) rfl fun a hA => 
        stp hA (r_as hA rfl) rfl fun a hA => ?_
      refine o_nil ?_
      cases Option.some.inj (bS H)
      exact ⟨hA.sub ⟨rfl, rfl, rfl, rfl, rfl, trivial⟩, hI⟩
  · rintro a w ⟨hA, hI⟩
    have H := Hk1
    refine w_ret ?_
    obtain rfl := Option.some.inj (bS H)
    exact ret1 hA Tryd.results107 rfl ⟨_, rfl, rfl, trivial, hI.forget0⟩
set_option maxRecDepth 20000 in
theorem sargassoref_SameOut.c (μ : Store) (w0 : World) (hμ : Agr μ w0) (x0 : Out) (hx0 : OutW μ x0) (x1 : Out) (hx1 : OutW μ x1) (r : Bool) (H : sargassoref_SameOut.f x0 x1 = some r) :
    Calls Tryd.prog 108 [.agg [[.int .u64 x0.Value], av .u8 32 x0.Lock].flatten.toArray, .agg [[.int .u64 x1.Value], av .u8 32 x1.Lock].flatten.toArray].toArray w0 (fun e w' => ∃ v, e = .returned v ∧ v = .bool r ∧ True ∧ Iv w0 [] μ μ [] w') := by
  refine enter Tryd.func108 rfl Tryd.ntmps108 rfl fun a hA => ?_
  have hI := Iv.start hμ
  have H := bI H
  refine w_seq fun _ hN1 => ?_
  refine w_reg ?_
  refine o_box [[.int .u64 x0.Value], av .u8 32 x0.Lock] hI hA rfl rfl rfl fun g1 a w hA hI hg1 => 
    o_box [[.int .u64 x1.Value], av .u8 32 x1.Lock] hI hA rfl rfl rfl fun g2 a w hA hI hg2 => 
    stp hA (r_as hA rfl) rfl fun a hA => ?_
  refine o_nil ?_
  refine hN1 _ _ ?_
  obtain ⟨c1, hz1, Hk1⟩ := bB H
  refine w_cut (fun a w => Fr a 17 [(0, .agg [[.int .u64 x0.Value], av .u8 32 x0.Lock].flatten.toArray), (1, .agg [[.int .u64 x1.Value], av .u8 32 x1.Lock].flatten.toArray), (2, .pointer (some ⟨g1, 0, none⟩)), (3, .pointer (some ⟨g2, 0, none⟩)), (4, .bool c1)] ∧ Iv w0 [] μ μ [cel g2 [[.int .u64 x1.Value], av .u8 32 x1.Lock] 65, cel g1 [[.int .u64 x0.Value], av .u8 32 x0.Lock] 65] w) ?_ ?_
  · have H := bI hz1
    refine w_reg ?_
    refine stp hA (r_fd (k := 0) Tryd.underlying65 rfl sz22 hA rfl rfl) rfl fun a hA => 
      stp hA (r_ld1 (j := 1) [] [av .u8 32 x0.Lock] Tryd.underlying22 rfl hI rfl hA rfl rfl) rfl fun a hA => 
      stp hA (r_fd (k := 0) Tryd.underlying65 rfl sz22 hA rfl rfl) rfl fun a hA => 
      stp hA (r_ld1 (j := 0) [] [av .u8 32 x1.Lock] Tryd.underlying22 rfl hI rfl hA rfl rfl) rfl fun a hA => 
      stp hA (r_eql hA rfl rfl) rfl fun a hA => 
      stp hA (r_mv hA rfl) rfl fun a hA => ?_
    rcases Bool.eq_false_or_eq_true (decide (x0.Value = x1.Value)) with hc1 | hc1
    · have hc10 := hc1; have hc1 := of_decide_eq_true hc1; have H := bT H hc1
      refine o_yes hA rfl rfl hc10 <| 
        stp hA (r_fd (k := 1) Tryd.underlying65 rfl sz55 hA rfl rfl) rfl fun a hA => 
        o_yes hA rfl rfl hc10 <| 
        stp hA (r_ldA (j := 1) [[.int .u64 x0.Value]] [av .u8 32 x0.Lock] [] Tryd.underlying55 rfl sz55 rfl hI rfl hA rfl rfl) rfl fun a hA => 
        o_yes hA rfl rfl hc10 <| 
        stp hA (r_fd (k := 1) Tryd.underlying65 rfl sz55 hA rfl rfl) rfl fun a hA => 
        o_yes hA rfl rfl hc10 <| 
        stp hA (r_ldA (j := 0) [[.int .u64 x1.Value]] [av .u8 32 x1.Lock] [] Tryd.underlying55 rfl sz55 rfl hI rfl hA rfl rfl) rfl fun a hA => 
        o_yes hA rfl rfl hc10 <| ?_
      obtain ⟨r1, hr1, H⟩ := bB H
      refine o_callp (u := .bool r1) cf41 hA rfl hI (sargassoref_SameHash.c μ _ hI.agr x0.Lock hx0.2 x1.Lock hx1.2 r1 hr1) rfl fun a w hz2 hI hA => 
        stp hA (r_pick_t hA rfl hc10 rfl) rfl fun a hA => 
        stp hA (r_as hA rfl) rfl fun a hA => ?_
      refine o_nil ?_
      cases Option.some.inj (bS H)
      exact ⟨hA.sub ⟨rfl, rfl, rfl, rfl, rfl, trivial⟩, hI⟩
    · have hc10 := hc1; have hc1 := of_decide_eq_false hc1; have H := bF H hc1
      refine o_no hA rfl rfl (by rw [hc10]; simp [vb]) rfl fun a hA => 
        o_no hA rfl rfl (by rw [hc10]; simp [vb]) rfl fun a hA => 
        o_no hA rfl rfl (by rw [hc10]; simp [vb]) rfl fun a hA => 
        o_no hA rfl rfl (by rw [hc10]; simp [vb]) rfl fun a hA => 
        o_no hA rfl rfl (by rw [hc10]; simp [vb]) rfl fun a hA => 
        stp hA (r_pick_f hA rfl hc10 rfl) rfl fun a hA => 
        stp hA (r_as hA rfl) rfl fun a hA => ?_
      refine o_nil ?_
      cases Option.some.inj (bS H)
      exact ⟨hA.sub ⟨rfl, rfl, rfl, rfl, rfl, trivial⟩, hI⟩
  · rintro a w ⟨hA, hI⟩
    have H := Hk1
    refine w_ret ?_
    obtain rfl := Option.some.inj (bS H)
    exact ret1 hA Tryd.results108 rfl ⟨_, rfl, rfl, trivial, hI.forget0⟩
set_option maxRecDepth 20000 in
theorem sargassoref_SameTx.c (μ : Store) (w0 : World) (hμ : Agr μ w0) (x0 : Tx) (u0_0 : Value) (u0_1 : Value) (hx0 : TxW μ x0 u0_0 u0_1) (x1 : Tx) (u1_0 : Value) (u1_1 : Value) (hx1 : TxW μ x1 u1_0 u1_1) (r : Bool) (H : sargassoref_SameTx.f x0 x1 = some r) :
    Calls Tryd.prog 52 [.agg [[.int .u32 x0.Version], [u0_0], [u0_1], [.int .u32 x0.Time]].flatten.toArray, .agg [[.int .u32 x1.Version], [u1_0], [u1_1], [.int .u32 x1.Time]].flatten.toArray].toArray w0 (fun e w' => ∃ v, e = .returned v ∧ v = .bool r ∧ True ∧ Iv w0 [] μ μ [] w') := by
  refine enter Tryd.func52 rfl Tryd.ntmps52 rfl fun a hA => ?_
  have hI := Iv.start hμ
  have H := bI H
  refine w_seq fun _ hN1 => ?_
  refine w_reg ?_
  refine o_box [[.int .u32 x0.Version], [u0_0], [u0_1], [.int .u32 x0.Time]] hI hA rfl rfl rfl fun g1 a w hA hI hg1 => 
    o_box [[.int .u32 x1.Version], [u1_0], [u1_1], [.int .u32 x1.Time]] hI hA rfl rfl rfl fun g2 a w hA hI hg2 => 
    stp hA (r_as hA rfl) rfl fun a hA => ?_
  refine o_nil ?_
  refine hN1 _ _ ?_
  refine w_seq fun _ hN2 => ?_
  obtain ⟨c1, hz1, Hk1⟩ := bB H
  refine w_cut (fun a w => Fr a 75 [(0, .agg [[.int .u32 x0.Version], [u0_0], [u0_1], [.int .u32 x0.Time]].flatten.toArray), (1, .agg [[.int .u32 x1.Version], [u1_0], [u1_1], [.int .u32 x1.Time]].flatten.toArray), (2, .pointer (some ⟨g1, 0, none⟩)), (3, .pointer (some ⟨g2, 0, none⟩)), (4, .bool false), (36, .bool c1)] ∧ Iv w0 [] μ μ [cel g2 [[.int .u32 x1.Version], [u1_0], [u1_1], [.int .u32 x1.Time]] 68, cel g1 [[.int .u32 x0.Version], [u0_0], [u0_1], [.int .u32 x0.Time]] 68] w) ?_ ?_
  · have H := bI hz1
    refine w_reg ?_
    refine stp hA (r_fd (k := 0) Tryd.underlying68 rfl sz39 hA rfl rfl) rfl fun a hA => 
      stp hA (r_ld1 (j := 1) [] [[u0_0], [u0_1], [.int .u32 x0.Time]] Tryd.underlying39 rfl hI rfl hA rfl rfl) rfl fun a hA => 
      stp hA (r_fd (k := 0) Tryd.underlying68 rfl sz39 hA rfl rfl) rfl fun a hA => 
      stp hA (r_ld1 (j := 0) [] [[u1_0], [u1_1], [.int .u32 x1.Time]] Tryd.underlying39 rfl hI rfl hA rfl rfl) rfl fun a hA => 
      stp hA (r_neq hA rfl rfl) rfl fun a hA => 
      stp hA (r_mv hA rfl) rfl fun a hA => ?_
    rcases Bool.eq_false_or_eq_true (decide (x0.Version ≠ x1.Version)) with hc1 | hc1
    · have hc10 := hc1; have hc1 := of_decide_eq_true hc1; have H := bT H hc1
      refine o_no hA rfl rfl (by rw [hc10]; simp [vb]) rfl fun a hA => 
        o_no hA rfl rfl (by rw [hc10]; simp [vb]) rfl fun a hA => 
        o_no hA rfl rfl (by rw [hc10]; simp [vb]) rfl fun a hA => 
        o_no hA rfl rfl (by rw [hc10]; simp [vb]) rfl fun a hA => 
        o_no hA rfl rfl (by rw [hc10]; simp [vb]) rfl fun a hA => 
        stp hA (r_pick_t hA rfl hc10 rfl) rfl fun a hA => 
        stp hA (r_mv hA rfl) rfl fun a hA => 
        o_no hA rfl rfl (by simp [vb]) rfl fun a hA => 
        o_no hA rfl rfl (by simp [vb]) rfl fun a hA => 
        o_no hA rfl rfl (by simp [vb]) rfl fun a hA => 
        o_no hA rfl rfl (by simp [vb]) rfl fun a hA => 
        o_no hA rfl rfl (by simp [vb]) rfl fun a hA => 
        o_no hA rfl rfl (by simp [vb]) rfl fun a hA => 
        o_no hA rfl rfl (by simp [vb]) rfl fun a hA => 
        stp hA (r_pick_t hA rfl rfl rfl) rfl fun a hA => 
        stp hA (r_mv hA rfl) rfl fun a hA => 
        o_no hA rfl rfl (by simp [vb]) rfl fun a hA => 
        o_no hA rfl rfl (by simp [vb]) rfl fun a hA => 
        o_no hA rfl rfl (by simp [vb]) rfl fun a hA => 
        o_no hA rfl rfl (by simp [vb]) rfl fun a hA => 
        o_no hA rfl rfl (by simp [vb]) rfl fun a hA => 
        o_no hA rfl rfl (by simp [vb]) rfl fun a hA => 
        o_no hA rfl rfl (by simp [vb]) rfl fun a hA => 
        stp hA (r_pick_t hA rfl rfl rfl) rfl fun a hA => ?_
      refine o_nil ?_
      cases Option.some.inj (bS H)
      exact ⟨hA.sub ⟨rfl, rfl, rfl, rfl, rfl, rfl, trivial⟩, hI⟩
    · have hc10 := hc1; have hc1 := of_decide_eq_false hc1; have H := bF H hc1
      refine o_yes hA rfl rfl hc10 <| 
        stp hA (r_fd (k := 3) Tryd.underlying68 rfl sz39 hA rfl rfl) rfl fun a hA => 
        o_yes hA rfl rfl hc10 <| 
        stp hA (r_ld1 (j := 1) [[.int .u32 x0.Version], [u0_0], [u0_1]] [] Tryd.underlying39 rfl hI rfl hA rfl rfl) rfl fun a hA => 
        o_yes hA rfl rfl hc10 <| 
        stp hA (r_fd (k := 3) Tryd.underlying68 rfl sz39 hA rfl rfl) rfl fun a hA => 
        o_yes hA rfl rfl hc10 <| 
        stp hA (r_ld1 (j := 0) [[.int .u32 x1.Version], [u1_0], [u1_1]] [] Tryd.underlying39 rfl hI rfl hA rfl rfl) rfl fun a hA => 
        o_yes hA rfl rfl hc10 <| 
        stp hA (r_neq hA rfl rfl) rfl fun a hA => 
        stp hA (r_pick_f hA rfl hc10 rfl) rfl fun a hA => 
        stp hA (r_mv hA rfl) rfl fun a hA => ?_
      rcases Bool.eq_false_or_eq_true (decide (x0.Time ≠ x1.Time)) with hc2 | hc2
      · have hc20 := hc2; have hc2 := of_decide_eq_true hc2; have H := bT H hc2
        refine o_no hA rfl rfl (by rw [hc20]; simp [vb]) rfl fun a hA => 
          o_no hA rfl rfl (by rw [hc20]; simp [vb]) rfl fun a hA => 
          o_no hA rfl rfl (by rw [hc20]; simp [vb]) rfl fun a hA => 
          o_no hA rfl rfl (by rw [hc20]; simp [vb]) rfl fun a hA => 
          o_no hA rfl rfl (by rw [hc20]; simp [vb]) rfl fun a hA => 
          o_no hA rfl rfl (by rw [hc20]; simp [vb]) rfl fun a hA => 
          o_no hA rfl rfl (by rw [hc20]; simp [vb]) rfl fun a hA => 
          stp hA (r_pick_t hA rfl hc20 rfl) rfl fun a hA => 
          stp hA (r_mv hA rfl) rfl fun a hA => 
          o_no hA rfl rfl (by simp [vb]) rfl fun a hA => 
          o_no hA rfl rfl (by simp [vb]) rfl fun a hA => 
          o_no hA rfl rfl (by simp [vb]) rfl fun a hA => 
          o_no hA rfl rfl (by simp [vb]) rfl fun a hA => 
          o_no hA rfl rfl (by simp [vb]) rfl fun a hA => 
          o_no hA rfl rfl (by simp [vb]) rfl fun a hA => 
          o_no hA rfl rfl (by simp [vb]) rfl fun a hA => 
          stp hA (r_pick_t hA rfl rfl rfl) rfl fun a hA => ?_
        refine o_nil ?_
        cases Option.some.inj (bS H)
        exact ⟨hA.sub ⟨rfl, rfl, rfl, rfl, rfl, rfl, trivial⟩, hI⟩
      · have hc20 := hc2; have hc2 := of_decide_eq_false hc2; have H := bF H hc2
        refine o_yes hA rfl rfl hc20 <| 
          stp hA (r_fd (k := 1) Tryd.underlying68 rfl sz63 hA rfl rfl) rfl fun a hA => 
          o_yes hA rfl rfl hc20 <| 
          stp hA (r_ld1 (j := 1) [[.int .u32 x0.Version]] [[u0_1], [.int .u32 x0.Time]] Tryd.underlying63 rfl hI rfl hA rfl rfl) rfl fun a hA => 
          o_yes hA rfl rfl hc20 <| ?_
        obtain ⟨_, hsl1⟩ := Slc.sv hx0.2.1
        refine stp hA (r_slen Tryd.underlying63 hsl1 hA rfl) rfl fun a hA => 
          o_yes hA rfl rfl hc20 <| 
          stp hA (r_fd (k := 1) Tryd.underlying68 rfl sz63 hA rfl rfl) rfl fun a hA => 
          o_yes hA rfl rfl hc20 <| 
          stp hA (r_ld1 (j := 0) [[.int .u32 x1.Version]] [[u1_1], [.int .u32 x1.Time]] Tryd.underlying63 rfl hI rfl hA rfl rfl) rfl fun a hA => 
          o_yes hA rfl rfl hc20 <| ?_
        obtain ⟨_, hsl2⟩ := Slc.sv hx1.2.1
        refine stp hA (r_slen Tryd.underlying63 hsl2 hA rfl) rfl fun a hA => 
          o_yes hA rfl rfl hc20 <| 
          stp hA (r_neq hA rfl rfl) rfl fun a hA => 
          stp hA (r_pick_f hA rfl hc20 rfl) rfl fun a hA => 
          stp hA (r_mv hA rfl) rfl fun a hA => ?_
        rcases Bool.eq_false_or_eq_true (decide ((x0.Ins.length : Int) ≠ (x1.Ins.length : Int))) with hc3 | hc3
        · have hc30 := hc3; have hc3 := of_decide_eq_true hc3; have H := bT H hc3
          refine o_no hA rfl rfl (by rw [hc30]; simp [vb]) rfl fun a hA => 
            o_no hA rfl rfl (by rw [hc30]; simp [vb]) rfl fun a hA => 
            o_no hA rfl rfl (by rw [hc30]; simp [vb]) rfl fun a hA => 
            o_no hA rfl rfl (by rw [hc30]; simp [vb]) rfl fun a hA => 
            o_no hA rfl rfl (by rw [hc30]; simp [vb]) rfl fun a hA => 
            o_no hA rfl rfl (by rw [hc30]; simp [vb]) rfl fun a hA => 
            o_no hA rfl rfl (by rw [hc30]; simp [vb]) rfl fun a hA => 
            stp hA (r_pick_t hA rfl hc30 rfl) rfl fun a hA => ?_
          refine o_nil ?_
          cases Option.some.inj (bS H)
          exact ⟨hA.sub ⟨rfl, rfl, rfl, rfl, rfl, rfl, trivial⟩, hI⟩
        · have hc30 := hc3; have hc3 := of_decide_eq_false hc3; have H := bF H hc3
          refine o_yes hA rfl rfl hc30 <| 
            stp hA (r_fd (k := 2) Tryd.underlying68 rfl sz66 hA rfl rfl) rfl fun a hA => 
            o_yes hA rfl rfl hc30 <| 
            stp hA (r_ld1 (j := 1) [[.int .u32 x0.Version], [u0_0]] [[.int .u32 x0.Time]] Tryd.underlying66 rfl hI rfl hA rfl rfl) rfl fun a hA => 
            o_yes hA rfl rfl hc30 <| ?_
          obtain ⟨_, hsl3⟩ := Slc.sv hx0.2.2.1
          refine stp hA (r_slen Tryd.underlying66 hsl3 hA rfl) rfl fun a hA => 
            o_yes hA rfl rfl hc30 <| 
            stp hA (r_fd (k := 2) Tryd.underlying68 rfl sz66 hA rfl rfl) rfl fun a hA => 
            o_yes hA rfl rfl hc30 <| 
            stp hA (r_ld1 (j := 0) [[.int .u32 x1.Version], [u1_0]] [[.int .u32 x1.Time]] Tryd.underlying66 rfl hI rfl hA rfl rfl) rfl fun a hA => 
            o_yes hA rfl rfl hc30 <| ?_
          obtain ⟨_, hsl4⟩ := Slc.sv hx1.2.2.1
          refine stp hA (r_slen Tryd.underlying66 hsl4 hA rfl) rfl fun a hA => 
            o_yes hA rfl rfl hc30 <| 
            stp hA (r_neq hA rfl rfl) rfl fun a hA => 
            stp hA (r_pick_f hA rfl hc30 rfl) rfl fun a hA => ?_
          refine o_nil ?_
          cases Option.some.inj (bS H)
          exact ⟨hA.sub ⟨rfl, rfl, rfl, rfl, rfl, rfl, trivial⟩, hI⟩
  · rintro a w ⟨hA, hI⟩
    have H := Hk1
    refine w_cond hA rfl (fun hc4 => ?_) (fun hc4 => ?_)
    · have hc40 := hc4; have H := bT H hc4
      refine w_seq fun _ hN3 => ?_
      refine w_reg ?_
      refine stp hA (r_as hA rfl) rfl fun a hA => ?_
      refine o_nil ?_
      refine hN3 _ _ ?_
      refine w_ret ?_
      obtain rfl := Option.some.inj (bS H)
      exact ret1 hA Tryd.results52 rfl ⟨_, rfl, rfl, trivial, hI.forget0⟩
    · have hc40 := hc4; have hc4 := ft hc4; have H := bF H hc4
      refine w_skip ?_
      refine hN2 _ _ ?_
      refine w_seq fun _ hN4 => ?_
      refine w_seq fun _ hN5 => ?_
      refine w_reg ?_
      refine stp hA (r_as hA rfl) rfl fun a hA => ?_
      refine o_nil ?_
      refine hN5 _ _ ?_
      refine w_block ?_
      obtain ⟨z1, hz2, Hk2⟩ := bind_some H
      obtain ⟨n1, hn1⟩ := loopO_some hz2
      refine w_loop (fun n a w => ∃ (s1 : Int), loopN (sargassoref_SameTx.s0 x0 x1) n s1 = some z1 ∧ InR .i64 s1 ∧ Fr a 75 [(0, .agg [[.int .u32 x0.Version], [u0_0], [u0_1], [.int .u32 x0.Time]].flatten.toArray), (1, .agg [[.int .u32 x1.Version], [u1_0], [u1_1], [.int .u32 x1.Time]].flatten.toArray), (2, .pointer (some ⟨g1, 0, none⟩)), (3, .pointer (some ⟨g2, 0, none⟩)), (4, .bool false), (5, .int .i64 s1), (36, .bool c1)] ∧ Iv w0 [] μ μ [cel g2 [[.int .u32 x1.Version], [u1_0], [u1_1], [.int .u32 x1.Time]] 68, cel g1 [[.int .u32 x0.Version], [u0_0], [u0_1], [.int .u32 x0.Time]] 68] w) n1 ⟨0, hn1, (in_lit .i64 0 rfl), hA.sub ⟨rfl, rfl, rfl, rfl, rfl, rfl, rfl, trivial⟩, hI⟩ ?_
      clear hA hI
      rintro n a w ⟨s1, hn1, ws1, hA, hI⟩
      obtain ⟨m1, rfl, H⟩ := loopN_bind hn1
      clear hn1
      refine w_seq fun _ hN6 => ?_
      refine w_seq fun _ hN7 => ?_
      refine w_reg ?_
      refine stp hA (r_mv hA rfl) rfl fun a hA => 
        stp hA (r_fd (k := 1) Tryd.underlying68 rfl sz63 hA rfl rfl) rfl fun a hA => 
        stp hA (r_ld1 (j := 1) [[.int .u32 x0.Version]] [[u0_1], [.int .u32 x0.Time]] Tryd.underlying63 rfl hI rfl hA rfl rfl) rfl fun a hA => ?_
      obtain ⟨_, hsl5⟩ := Slc.sv hx0.2.1
      refine stp hA (r_slen Tryd.underlying63 hsl5 hA rfl) rfl fun a hA => 
        stp hA (r_lss hA rfl rfl) rfl fun a hA => ?_
      refine o_nil ?_
      refine hN7 _ _ ?_
      refine w_cond hA rfl (fun hc5 => ?_) (fun hc5 => ?_)
      · have hc50 := hc5; have hc5 := of_decide_eq_true hc5; have H := bT H hc5
        refine w_skip ?_
        refine hN6 _ _ ?_
        refine w_seq fun _ hN8 => ?_
        refine w_block ?_
        refine w_seq fun _ hN9 => ?_
        refine w_draw mo (by kernel_rfl) hI ?_
        refine qtp hA (fun _ hI => r_fd (k := 1) Tryd.underlying68 rfl sz63 hA rfl rfl) rfl fun a hA => 
          qtp hA (fun _ hI => r_ld1 (j := 1) [[.int .u32 x0.Version]] [[u0_1], [.int .u32 x0.Time]] Tryd.underlying63 rfl hI rfl hA rfl rfl) rfl fun a hA => 
          qtp hA (fun _ hI => r_mv hA rfl) rfl fun a hA => ?_
        obtain ⟨hb1, H⟩ := bG H
        obtain ⟨_, he1, _, hat1⟩ := Slc.elem hx0.2.1 (getD_some default hb1.1 hb1.2)
        obtain ⟨v1, rfl, hw1⟩ := he1
        obtain ⟨_, hsl6⟩ := Slc.sv hx0.2.1
        refine qtp hA (fun _ hI => r_six Tryd.underlying63 sz62 hsl6 hA rfl rfl hb1.1 hb1.2) rfl fun a hA => 
          qtp hA (fun _ hI => r_ldmA [] [av .u8 32 ((x0.Ins.getD s1.toNat default).From.Tx), [.int .u32 ((x0.Ins.getD s1.toNat default).From.N)], [v1], [.int .u32 ((x0.Ins.getD s1.toNat default).Seq)]] [] Tryd.underlying62 rfl sz62 rfl hI.agr hat1 hA rfl rfl) rfl fun a hA => 
          qtp hA (fun _ hI => r_fd (k := 1) Tryd.underlying68 rfl sz63 hA rfl rfl) rfl fun a hA => 
          qtp hA (fun _ hI => r_ld1 (j := 0) [[.int .u32 x1.Version]] [[u1_1], [.int .u32 x1.Time]] Tryd.underlying63 rfl hI rfl hA rfl rfl) rfl fun a hA => 
          qtp hA (fun _ hI => r_mv hA rfl) rfl fun a hA => ?_
        obtain ⟨hb2, H⟩ := bG H
        obtain ⟨_, he2, _, hat2⟩ := Slc.elem hx1.2.1 (getD_some default hb2.1 hb2.2)
        obtain ⟨v2, rfl, hw2⟩ := he2
        obtain ⟨_, hsl7⟩ := Slc.sv hx1.2.1
        refine qtp hA (fun _ hI => r_six Tryd.underlying63 sz62 hsl7 hA rfl rfl hb2.1 hb2.2) rfl fun a hA => 
          qtp hA (fun _ hI => r_ldmA [] [av .u8 32 ((x1.Ins.getD s1.toNat default).From.Tx), [.int .u32 ((x1.Ins.getD s1.toNat default).From.N)], [v2], [.int .u32 ((x1.Ins.getD s1.toNat default).Seq)]] [] Tryd.underlying62 rfl sz62 rfl hI.agr hat2 hA rfl rfl) rfl fun a hA => ?_
        obtain ⟨r1, hr1, H⟩ := bB H
        refine qcall (v := .bool r1) cf107 hA rfl (fun _ hI => plq (sargassoref_SameIn.c μ _ hI.agr (x0.Ins.getD s1.toNat default) v1 ⟨hw1.1, hw1.2.1, hw1.2.2.1, hw1.2.2.2⟩ (x1.Ins.getD s1.toNat default) v2 ⟨hw2.1, hw2.2.1, hw2.2.2.1, hw2.2.2.2⟩ r1 hr1) hI) rfl fun a hA => 
          qtp hA (fun _ hI => r_not hA rfl) rfl fun a hA => ?_
        refine q_nil fun w hI => ?_
        refine hN9 _ _ ?_
        refine w_cond hA rfl (fun hc6 => ?_) (fun hc6 => ?_)
        · have hc60 := hc6; have hc6 := nT hc6; have hc6 := ft hc6; have H := bF H hc6
          refine w_seq fun _ hN10 => ?_
          refine w_reg ?_
          refine stp hA (r_as hA rfl) rfl fun a hA => ?_
          refine o_nil ?_
          refine hN10 _ _ ?_
          refine w_ret ?_
          have H : some false = some z1 := H
          obtain rfl := Option.some.inj H
          have H := Hk2
          obtain rfl := Option.some.inj (bS H)
          exact ret1 hA Tryd.results52 rfl ⟨_, rfl, rfl, trivial, hI.forget0⟩
        · have hc60 := hc6; have hc6 := nF hc6; have H := bT H hc6
          refine w_skip ?_
          refine hN8 _ _ ?_
          refine w_reg ?_
          refine stp hA (r_mv hA rfl) rfl fun a hA => 
            stp hA (r_add hA rfl rfl) rfl fun a hA => 
            stp hA (r_as hA rfl) rfl fun a hA => ?_
          refine o_nil ?_
          exact ⟨m1, Nat.lt_succ_self _, IntKind.i64.wrap (s1 + 1), H, (wrap_in _ _), hA.sub ⟨rfl, rfl, rfl, rfl, rfl, rfl, rfl, trivial⟩, hI⟩
      · have hc50 := hc5; have hc5 := of_decide_eq_false hc5; have H := bF H hc5
        refine w_exit rfl ?_
        refine hN4 _ _ ?_
        refine w_seq fun _ hN11 => ?_
        refine w_seq fun _ hN12 => ?_
        refine w_reg ?_
        refine stp hA (r_as hA rfl) rfl fun a hA => ?_
        refine o_nil ?_
        refine hN12 _ _ ?_
        refine w_block ?_
        obtain ⟨z2, hz4, Hk3⟩ := bind_some H
        obtain ⟨n2, hn2⟩ := loopO_some hz4
        refine w_loop (fun n a w => ∃ (s2 : Int), loopN (sargassoref_SameTx.s1 x0 x1) n s2 = some z2 ∧ InR .i64 s2 ∧ Fr a 75 [(0, .agg [[.int .u32 x0.Version], [u0_0], [u0_1], [.int .u32 x0.Time]].flatten.toArray), (1, .agg [[.int .u32 x1.Version], [u1_0], [u1_1], [.int .u32 x1.Time]].flatten.toArray), (2, .pointer (some ⟨g1, 0, none⟩)), (3, .pointer (some ⟨g2, 0, none⟩)), (4, .bool false), (5, .int .i64 s1), (6, .int .i64 s2), (36, .bool c1), (41, .bool (decide (s1 < (x0.Ins.length : Int))))] ∧ Iv w0 [] μ μ [cel g2 [[.int .u32 x1.Version], [u1_0], [u1_1], [.int .u32 x1.Time]] 68, cel g1 [[.int .u32 x0.Version], [u0_0], [u0_1], [.int .u32 x0.Time]] 68] w) n2 ⟨0, hn2, (in_lit .i64 0 rfl), hA.sub ⟨rfl, rfl, rfl, rfl, rfl, rfl, rfl, rfl, rfl, trivial⟩, hI⟩ ?_
        clear hA hI
        rintro n a w ⟨s2, hn2, ws2, hA, hI⟩
        obtain ⟨m2, rfl, H⟩ := loopN_bind hn2
        clear hn2
        refine w_seq fun _ hN13 => ?_
        refine w_seq fun _ hN14 => ?_
        refine w_reg ?_
        refine stp hA (r_mv hA rfl) rfl fun a hA => 
          stp hA (r_fd (k := 2) Tryd.underlying68 rfl sz66 hA rfl rfl) rfl fun a hA => 
          stp hA (r_ld1 (j := 1) [[.int .u32 x0.Version], [u0_0]] [[.int .u32 x0.Time]] Tryd.underlying66 rfl hI rfl hA rfl rfl) rfl fun a hA => ?_
        obtain ⟨_, hsl8⟩ := Slc.sv hx0.2.2.1
        refine stp hA (r_slen Tryd.underlying66 hsl8 hA rfl) rfl fun a hA => 
          stp hA (r_lss hA rfl rfl) rfl fun a hA => ?_
        refine o_nil ?_
        refine hN14 _ _ ?_
        refine w_cond hA rfl (fun hc7 => ?_) (fun hc7 => ?_)
        · have hc70 := hc7; have hc7 := of_decide_eq_true hc7; have H := bT H hc7
          refine w_skip ?_
          refine hN13 _ _ ?_
          refine w_seq fun _ hN15 => ?_
          refine w_block ?_
          refine w_seq fun _ hN16 => ?_
          refine w_draw mo (by kernel_rfl) hI ?_
          refine qtp hA (fun _ hI => r_fd (k := 2) Tryd.underlying68 rfl sz66 hA rfl rfl) rfl fun a hA => 
            qtp hA (fun _ hI => r_ld1 (j := 1) [[.int .u32 x0.Version], [u0_0]] [[.int .u32 x0.Time]] Tryd.underlying66 rfl hI rfl hA rfl rfl) rfl fun a hA => 
            qtp hA (fun _ hI => r_mv hA rfl) rfl fun a hA => ?_
          obtain ⟨hb3, H⟩ := bG H
          obtain ⟨_, he3, _, hat3⟩ := Slc.elem hx0.2.2.1 (getD_some default hb3.1 hb3.2)
          obtain ⟨rfl, hw3⟩ := he3
          obtain ⟨_, hsl9⟩ := Slc.sv hx0.2.2.1
          refine qtp hA (fun _ hI => r_six Tryd.underlying66 sz65 hsl9 hA rfl rfl hb3.1 hb3.2) rfl fun a hA => 
            qtp hA (fun _ hI => r_ldmA [] [[.int .u64 ((x0.Outs.getD s2.toNat default).Value)], av .u8 32 ((x0.Outs.getD s2.toNat default).Lock)] [] Tryd.underlying65 rfl sz65 rfl hI.agr hat3 hA rfl rfl) rfl fun a hA => 
            qtp hA (fun _ hI => r_fd (k := 2) Tryd.underlying68 rfl sz66 hA rfl rfl) rfl fun a hA => 
            qtp hA (fun _ hI => r_ld1 (j := 0) [[.int .u32 x1.Version], [u1_0]] [[.int .u32 x1.Time]] Tryd.underlying66 rfl hI rfl hA rfl rfl) rfl fun a hA => 
            qtp hA (fun _ hI => r_mv hA rfl) rfl fun a hA => ?_
          obtain ⟨hb4, H⟩ := bG H
          obtain ⟨_, he4, _, hat4⟩ := Slc.elem hx1.2.2.1 (getD_some default hb4.1 hb4.2)
          obtain ⟨rfl, hw4⟩ := he4
          obtain ⟨_, hsl10⟩ := Slc.sv hx1.2.2.1
          refine qtp hA (fun _ hI => r_six Tryd.underlying66 sz65 hsl10 hA rfl rfl hb4.1 hb4.2) rfl fun a hA => 
            qtp hA (fun _ hI => r_ldmA [] [[.int .u64 ((x1.Outs.getD s2.toNat default).Value)], av .u8 32 ((x1.Outs.getD s2.toNat default).Lock)] [] Tryd.underlying65 rfl sz65 rfl hI.agr hat4 hA rfl rfl) rfl fun a hA => ?_
          obtain ⟨r2, hr2, H⟩ := bB H
          refine qcall (v := .bool r2) cf108 hA rfl (fun _ hI => plq (sargassoref_SameOut.c μ _ hI.agr (x0.Outs.getD s2.toNat default) ⟨hw3.1, hw3.2⟩ (x1.Outs.getD s2.toNat default) ⟨hw4.1, hw4.2⟩ r2 hr2) hI) rfl fun a hA => 
            qtp hA (fun _ hI => r_not hA rfl) rfl fun a hA => ?_
          refine q_nil fun w hI => ?_
          refine hN16 _ _ ?_
          refine w_cond hA rfl (fun hc8 => ?_) (fun hc8 => ?_)
          · have hc80 := hc8; have hc8 := nT hc8; have hc8 := ft hc8; have H := bF H hc8
            refine w_seq fun _ hN17 => ?_
            refine w_reg ?_
            refine stp hA (r_as hA rfl) rfl fun a hA => ?_
            refine o_nil ?_
            refine hN17 _ _ ?_
            refine w_ret ?_
            have H : some (.inr false) = some z2 := H
            obtain rfl := Option.some.inj H
            have H := Hk3
            have H : some false = some z1 := H
            obtain rfl := Option.some.inj H
            have H := Hk2
            obtain rfl := Option.some.inj (bS H)
            exact ret1 hA Tryd.results52 rfl ⟨_, rfl, rfl, trivial, hI.forget0⟩
          · have hc80 := hc8; have hc8 := nF hc8; have H := bT H hc8
            refine w_skip ?_
            refine hN15 _ _ ?_
            refine w_reg ?_
            refine stp hA (r_mv hA rfl) rfl fun a hA => 
              stp hA (r_add hA rfl rfl) rfl fun a hA => 
              stp hA (r_as hA rfl) rfl fun a hA => ?_
            refine o_nil ?_
            exact ⟨m2, Nat.lt_succ_self _, IntKind.i64.wrap (s2 + 1), H, (wrap_in _ _), hA.sub ⟨rfl, rfl, rfl, rfl, rfl, rfl, rfl, rfl, rfl, trivial⟩, hI⟩
        · have hc70 := hc7; have hc7 := of_decide_eq_false hc7; have H := bF H hc7
          refine w_exit rfl ?_
          refine hN11 _ _ ?_
          refine w_seq fun _ hN18 => ?_
          refine w_reg ?_
          refine stp hA (r_as hA rfl) rfl fun a hA => ?_
          refine o_nil ?_
          refine hN18 _ _ ?_
          refine w_ret ?_
          have H : some (.inr true) = some z2 := H
          obtain rfl := Option.some.inj H
          have H := Hk3
          have H : some true = some z1 := H
          obtain rfl := Option.some.inj H
          have H := Hk2
          obtain rfl := Option.some.inj (bS H)
          exact ret1 hA Tryd.results52 rfl ⟨_, rfl, rfl, trivial, hI.forget0⟩
end Go.Proofs.YtpeelghbhihgkaaDoor.T
namespace Go.Proofs.YtpeelghbhihgkaaDoor.T
open Go Go.Proofs Go.Proofs.YtpeelghbhihgkaaDoor.K
set_option linter.unusedVariables false
set_option linter.unusedSimpArgs false
noncomputable def compact_Len.f (x0 : Int) : Option Int := (if x0 < 253 then some 1 else (if x0 < 65536 then some 3 else (if x0 < 4294967296 then some 5 else some 9)))
def bytes_Clone.f (x0 : List Int) : Option (List Int) := if x0.length ≤ 140737488355328 then some x0 else none
noncomputable def compact_number.s0 (x2 : Int) : ((List Int) × Int × Int) → Option (((List Int) × Int × Int) ⊕ ((List Int) × Int)) := fun (s1, s2, s3) => (if s3 < x2 then (if s1.length + 1 ≤ 140737488355328 then some (.inl (s1 ++ ([IntKind.u8.wrap s2] : List Int), sR .u64 s2 8, IntKind.i64.wrap (s3 + 1))) else none) else some (.inr (s1, s2)))
noncomputable def compact_number.f (x0 : List Int) (x1 : Int) (x2 : Int) : Option (List Int) := ((loopO (compact_number.s0 x2) (x0, x1, 0)).bind fun (c1, c2) => some c1)
noncomputable def compact_Put.f (x0 : List Int) (x1 : Int) : Option (List Int) := ((bytes_Clone.f x0).bind fun r1 => ((compact_Len.f x1).bind fun r2 => (if r2 = 1 then (if r1.length + 1 ≤ 140737488355328 then some (r1 ++ ([IntKind.u8.wrap x1] : List Int)) else none) else (if r2 = 3 then (if r1.length + 1 ≤ 140737488355328 then ((compact_number.f (r1 ++ ([253] : List Int)) x1 2).bind fun r3 => some r3) else none) else (if r2 = 5 then (if r1.length + 1 ≤ 140737488355328 then ((compact_number.f (r1 ++ ([254] : List Int)) x1 4).bind fun r4 => some r4) else none) else (if r1.length + 1 ≤ 140737488355328 then ((compact_number.f (r1 ++ ([255] : List Int)) x1 8).bind fun r5 => some r5) else none))))))
noncomputable def compact_Read.f (x0 : List Int) : Option compactReader := ((bytes_Clone.f x0).bind fun r1 => some (⟨r1, 0, (Er.b 0)⟩ : compactReader))
noncomputable def compact_Reader_next.f (x0 : compactReader) (x1 : Int) : Option ((List Int) × compactReader) := (if x0.err ≠ (Er.b 0) then some ([], x0) else (if (IntKind.i64.wrap ((x0.b.length : Int) - x0.at_)) < x1 then some ([], (⟨x0.b, x0.at_, xErrEnd⟩ : compactReader)) else (if 0 ≤ (IntKind.i64.wrap ((IntKind.i64.wrap (x0.at_ + x1)) - x1)) ∧ (IntKind.i64.wrap ((IntKind.i64.wrap (x0.at_ + x1)) - x1)) ≤ (IntKind.i64.wrap (x0.at_ + x1)) ∧ (IntKind.i64.wrap (x0.at_ + x1)) ≤ (x0.b.length : Int) then some ((x0.b.take (IntKind.i64.wrap (x0.at_ + x1)).toNat).drop (IntKind.i64.wrap ((IntKind.i64.wrap (x0.at_ + x1)) - x1)).toNat, (⟨x0.b, IntKind.i64.wrap (x0.at_ + x1), x0.err⟩ : compactReader)) else none)))
noncomputable def compact_Reader_whole.s0 (r1 : (List Int) × compactReader) : (Int × Int) → Option ((Int × Int) ⊕ (Int × (List Int) × Int × Er)) := fun (s1, s2) => (if s2 < (r1.1.length : Int) then (if 0 ≤ s2 ∧ s2 < (r1.1.length : Int) then (if 0 ≤ (IntKind.i64.wrap (8 * s2)) then some (.inl (bOr .u64 s1 (sL .u64 (IntKind.u64.wrap (r1.1.getD s2.toNat 0)) (IntKind.i64.wrap (8 * s2))), IntKind.i64.wrap (s2 + 1))) else none) else none) else some (.inr (s1, r1.2.b, r1.2.at_, r1.2.err)))
noncomputable def compact_Reader_whole.f (x0 : compactReader) (x1 : Int) : Option (Int × compactReader) := ((((compact_Reader_next.f x0 x1).bind fun r1 => loopO (compact_Reader_whole.s0 r1) (0, 0))).bind fun (c1, c2, c3, c4) => some (c1, (⟨c2, c3, c4⟩ : compactReader)))
noncomputable def compact_Reader_Num.f (x0 : compactReader) (x1 : Int) : Option (Int × compactReader) := ((compact_Reader_whole.f x0 1).bind fun r1 => (((if r1.1 = 253 then some 2 else (if r1.1 = 254 then some 4 else (if r1.1 = 255 then some 8 else some 0)))).bind fun c1 => (((if 0 < c1 then ((compact_Reader_whole.f r1.2 c1).bind fun r2 => some (r2.1, r2.2.b, r2.2.at_, r2.2.err)) else some (r1.1, r1.2.b, r1.2.at_, r1.2.err))).bind fun (c2, c3, c4, c5) => (if c5 ≠ (Er.b 0) then some (0, (⟨c3, c4, c5⟩ : compactReader)) else ((compact_Len.f c2).bind fun r3 => (if r3 ≠ (IntKind.i64.wrap (1 + c1)) then some (0, (⟨c3, c4, xErrShape⟩ : compactReader)) else (if x1 < c2 then some (0, (⟨c3, c4, xErrMany⟩ : compactReader)) else some (c2, (⟨c3, c4, c5⟩ : compactReader)))))))))
noncomputable def compact_Reader_Left.f (x0 : compactReader) : Option Int := some (IntKind.i64.wrap ((x0.b.length : Int) - x0.at_))
noncomputable def compact_Reader_Err.f (x0 : compactReader) : Option Er := some x0.err
noncomputable def compact_Four.f (x0 : List Int) (x1 : Int) : Option (List Int) := ((bytes_Clone.f x0).bind fun r1 => ((compact_number.f r1 (IntKind.u64.wrap x1) 4).bind fun r2 => some r2))
noncomputable def compact_Eight.f (x0 : List Int) (x1 : Int) : Option (List Int) := ((bytes_Clone.f x0).bind fun r1 => ((compact_number.f r1 x1 8).bind fun r2 => some r2))
noncomputable def compact_Reader_Eight.f (x0 : compactReader) : Option (Int × compactReader) := ((compact_Reader_whole.f x0 8).bind fun r1 => some (r1.1, r1.2))
noncomputable def compact_Reader_Four.f (x0 : compactReader) : Option (Int × compactReader) := ((compact_Reader_whole.f x0 4).bind fun r1 => some (IntKind.u32.wrap r1.1, r1.2))
noncomputable def compact_Reader_Bytes.f (x0 : compactReader) (x1 : Int) : Option ((List Int) × compactReader) := (if x1 ≤ 0 then some ([], x0) else ((compact_Reader_next.f x0 x1).bind fun r1 => ((bytes_Clone.f r1.1).bind fun r2 => some (r2, r1.2))))
noncomputable def compact_Reader_Hash.f (x0 : compactReader) : Option ((List Int) × compactReader) := ((compact_Reader_next.f x0 32).bind fun r1 => some (cpy (List.replicate 32 0) r1.1, r1.2))
noncomputable def compact_Sum.s0 (x0 : List Int) : (Int × Int) → Option ((Int × Int) ⊕ (Int × Bool)) := fun (s1, s2) => (if s2 < (x0.length : Int) then (if 0 ≤ s2 ∧ s2 < (x0.length : Int) then (if (IntKind.u64.wrap (2100000000000000 - s1)) < (x0.getD s2.toNat 0) then some (.inr (0, false)) else some (.inl (IntKind.u64.wrap (s1 + (x0.getD s2.toNat 0)), IntKind.i64.wrap (s2 + 1)))) else none) else some (.inr (s1, true)))
noncomputable def compact_Sum.f (x0 : List Int) : Option (Int × Bool) := loopO (compact_Sum.s0 x0) (0, 0)
end Go.Proofs.YtpeelghbhihgkaaDoor.T
namespace Go.Proofs.YtpeelghbhihgkaaDoor.T
open Go Go.Proofs Go.Proofs.YtpeelghbhihgkaaDoor.K
set_option linter.unusedVariables false
set_option linter.unusedSimpArgs false
set_option maxRecDepth 20000 in
theorem compact_Len.c (μ : Store) (w0 : World) (hμ : Agr μ w0) (x0 : Int) (hx0 : InR .u64 x0) (r : Int) (H : compact_Len.f x0 = some r) :
    Calls Tryd.prog 24 [.int .u64 x0].toArray w0 (fun e w' => ∃ v, e = .returned v ∧ v = .int .i64 r ∧ InR .i64 r ∧ Iv w0 [] μ μ [] w') := by
  refine enter Tryd.func24 rfl Tryd.ntmps24 rfl fun a hA => ?_
  have hI := Iv.start hμ
  have H := bI H
  refine w_seq fun _ hN1 => ?_
  refine w_reg ?_
  refine stp hA (r_as hA rfl) rfl fun a hA => ?_
  refine o_nil ?_
  refine hN1 _ _ ?_
  refine w_seq fun _ hN2 => ?_
  refine w_block ?_
  refine w_seq fun _ hN3 => ?_
  refine w_reg ?_
  refine stp hA (r_mv hA rfl) rfl fun a hA => 
    stp hA (r_lss hA rfl rfl) rfl fun a hA => 
    stp hA (r_as hA rfl) rfl fun a hA => ?_
  refine o_nil ?_
  refine hN3 _ _ ?_
  refine w_cond hA rfl (fun hc1 => ?_) (fun hc1 => ?_)
  · have hc10 := hc1; have hc1 := of_decide_eq_true hc1; have H := bT H hc1
    refine w_seq fun _ hN4 => ?_
    refine w_reg ?_
    refine stp hA (r_as hA rfl) rfl fun a hA => ?_
    refine o_nil ?_
    refine hN4 _ _ ?_
    refine w_ret ?_
    obtain rfl := Option.some.inj (bS H)
    exact ret1 hA Tryd.results24 rfl ⟨_, rfl, rfl, (in_lit .i64 1 rfl), hI.forget0⟩
  · have hc10 := hc1; have hc1 := of_decide_eq_false hc1; have H := bF H hc1
    refine w_seq fun _ hN5 => ?_
    refine w_reg ?_
    refine stp hA (r_mv hA rfl) rfl fun a hA => 
      stp hA (r_lss hA rfl rfl) rfl fun a hA => 
      stp hA (r_as hA rfl) rfl fun a hA => ?_
    refine o_nil ?_
    refine hN5 _ _ ?_
    refine w_cond hA rfl (fun hc2 => ?_) (fun hc2 => ?_)
    · have hc20 := hc2; have hc2 := of_decide_eq_true hc2; have H := bT H hc2
      refine w_seq fun _ hN6 => ?_
      refine w_reg ?_
      refine stp hA (r_as hA rfl) rfl fun a hA => ?_
      refine o_nil ?_
      refine hN6 _ _ ?_
      refine w_ret ?_
      obtain rfl := Option.some.inj (bS H)
      exact ret1 hA Tryd.results24 rfl ⟨_, rfl, rfl, (in_lit .i64 3 rfl), hI.forget0⟩
    · have hc20 := hc2; have hc2 := of_decide_eq_false hc2; have H := bF H hc2
      refine w_seq fun _ hN7 => ?_
      refine w_reg ?_
      refine stp hA (r_mv hA rfl) rfl fun a hA => 
        stp hA (r_lss hA rfl rfl) rfl fun a hA => 
        stp hA (r_as hA rfl) rfl fun a hA => ?_
      refine o_nil ?_
      refine hN7 _ _ ?_
      refine w_cond hA rfl (fun hc3 => ?_) (fun hc3 => ?_)
      · have hc30 := hc3; have hc3 := of_decide_eq_true hc3; have H := bT H hc3
        refine w_seq fun _ hN8 => ?_
        refine w_reg ?_
        refine stp hA (r_as hA rfl) rfl fun a hA => ?_
        refine o_nil ?_
        refine hN8 _ _ ?_
        refine w_ret ?_
        obtain rfl := Option.some.inj (bS H)
        exact ret1 hA Tryd.results24 rfl ⟨_, rfl, rfl, (in_lit .i64 5 rfl), hI.forget0⟩
      · have hc30 := hc3; have hc3 := of_decide_eq_false hc3; have H := bF H hc3
        refine w_skip ?_
        refine hN2 _ _ ?_
        refine w_seq fun _ hN9 => ?_
        refine w_reg ?_
        refine stp hA (r_as hA rfl) rfl fun a hA => ?_
        refine o_nil ?_
        refine hN9 _ _ ?_
        refine w_ret ?_
        obtain rfl := Option.some.inj (bS H)
        exact ret1 hA Tryd.results24 rfl ⟨_, rfl, rfl, (in_lit .i64 9 rfl), hI.forget0⟩
set_option maxRecDepth 20000 in
theorem bytes_Clone.c (μ : Store) (w0 : World) (hμ : Agr μ w0) (x0 : List Int) (u0 : Value) (hx0 : Slc (RI .u8) 1 μ u0 x0) (r : List Int) (H : bytes_Clone.f x0 = some r) :
    Calls Tryd.prog 93 [u0].toArray w0 (fun e w' => ∃ v, e = .returned v ∧ ∃ (v0 : Value) (c0 : List Value), v = v0 ∧ Els (RI .u8) 1 r c0 ∧ Iv w0 [] μ μ [row 5 1 v0 r.length c0] w') := by
  obtain ⟨hb, H⟩ := guard_some H
  obtain rfl := Option.some.inj H
  obtain ⟨cs, hE, A, cp, rfl, h2, h3, h4, h5⟩ := hx0
  refine enter Tryd.func93 rfl Tryd.ntmps93 rfl fun a hA => ?_
  have hI := Iv.start hμ
  refine w_seq fun _ hN1 => w_reg (stp hA (r_as hA rfl) rfl fun a hA => o_nil (hN1 _ _ ?_))
  refine w_seq fun _ hN2 => w_seq fun _ hN3 => w_reg (stp hA (r_mv hA rfl) rfl fun a hA => stp hA (r_eqnil Tryd.underlying23 hA rfl rfl) rfl fun a hA => o_nil (hN3 _ _ ?_))
  refine w_cond hA rfl (fun hc => ?_) (fun hc => ?_)
  · have hx : x0 = [] := List.eq_nil_of_length_eq_zero (by
      rcases Nat.eq_zero_or_pos x0.length with h | h
      · exact h
      · rw [h4 (by omega)] at hc; cases hc)
    subst hx
    cases hE
    refine w_seq fun _ hN4 => w_reg (stp hA (r_as hA rfl) rfl fun a hA => o_nil (hN4 _ _ ?_))
    refine w_ret ?_
    have hI := hI.nilRow 5 1
    exact ret1 hA Tryd.results93 rfl ⟨_, rfl, .slice none 0 0, [], rfl, .nil, hI⟩
  · refine w_skip (hN2 _ _ ?_)
    refine w_seq fun _ hN5 => w_reg ?_
    refine o_bsl [] te5 zr5 Tryd.underlying23 hI hA rfl rfl rfl rfl (by kernel_rfl) rfl fun g a w hA hI => ?_
    refine stp hA (r_mv hA rfl) rfl fun a hA => ?_
    refine o_appL (xs := ([] : List Int)) (ys := x0) (j := 0) te5 Tryd.underlying23 hI rfl hA rfl rfl (src_sl hI.agr ⟨A, cp, rfl, h2, h3, h4, h5⟩ hE.len) hE.len (hE.ones (one_RI _)) (by simp only [List.length_nil, maxLen]; omega) (by simp only [List.length_nil]; omega) rfl fun v a w hA hI => ?_
    refine stp hA (r_as hA rfl) rfl fun a hA => o_nil (hN5 _ _ (w_ret ?_))
    exact ret1 hA Tryd.results93 rfl ⟨_, rfl, v, cs, rfl, hE, hI⟩
set_option maxRecDepth 20000 in
theorem compact_number.c (μ : Store) (w0 : World) (hμ : Agr μ w0) (x0 : List Int) (u0 : Value) (k0 : List Value) (hx0 : Els (RI .u8) 1 x0 k0) (ho0 : RowOK μ w0 5 1 u0 x0.length k0) (x1 : Int) (hx1 : InR .u64 x1) (x2 : Int) (hx2 : InR .i64 x2) (r : List Int) (H : compact_number.f x0 x1 x2 = some r) :
    Calls Tryd.prog 94 [u0, .int .u64 x1, .int .i64 x2].toArray w0 (fun e w' => ∃ v, e = .returned v ∧ ∃ (v0 : Value) (c0 : List Value), v = v0 ∧ Els (RI .u8) 1 r c0 ∧ Iv w0 (row 5 1 u0 x0.length k0).foot μ μ [row 5 1 v0 r.length c0] w') := by
  refine enter Tryd.func94 rfl Tryd.ntmps94 rfl fun a hA => ?_
  have hI := ho0.start hμ
  have H := bI H
  refine w_seq fun _ hN1 => ?_
  refine w_reg ?_
  refine stp hA (r_as hA rfl) rfl fun a hA => ?_
  refine o_nil ?_
  refine hN1 _ _ ?_
  obtain ⟨⟨c1, c2⟩, hz1, Hk1⟩ := bB H
  refine w_cut (fun a w => ∃ (vvc1 : Value) (ccc1 : List Value), Els (RI .u8) 1 c1 ccc1 ∧ InR .u64 c2 ∧ Fr a 19 [(0, vvc1), (1, .int .u64 c2), (2, .int .i64 x2), (6, (.slice none 0 0))] ∧ Iv w0 (row 5 1 u0 x0.length k0).foot μ μ [row 5 1 vvc1 c1.length ccc1] w) ?_ ?_
  · have H := bI hz1
    refine w_seq fun _ hN2 => ?_
    refine w_reg ?_
    refine stp hA (r_mv hA rfl) rfl fun a hA => 
      stp hA (r_mv hA rfl) rfl fun a hA => ?_
    refine o_nil ?_
    refine hN2 _ _ ?_
    refine w_block ?_
    obtain ⟨z1, hz2, Hk2⟩ := bind_some H
    obtain ⟨n1, hn1⟩ := loopO_some hz2
    refine w_loop (fun n a w => ∃ (s1 : List Int) (s2 : Int) (s3 : Int) (vvs1 : Value) (ccs1 : List Value), loopN (compact_number.s0 x2) n (s1, s2, s3) = some z1 ∧ Els (RI .u8) 1 s1 ccs1 ∧ InR .u64 s2 ∧ InR .i64 s3 ∧ Fr a 19 [(0, vvs1), (1, .int .u64 s2), (2, .int .i64 x2), (6, (.slice none 0 0)), (7, .int .i64 x2), (8, .int .i64 s3)] ∧ Iv w0 (row 5 1 u0 x0.length k0).foot μ μ [row 5 1 vvs1 s1.length ccs1] w) n1 ⟨x0, x1, 0, u0, k0, hn1, hx0, hx1, (in_lit .i64 0 rfl), hA.sub ⟨rfl, rfl, rfl, rfl, rfl, rfl, trivial⟩, hI⟩ ?_
    clear hA hI
    rintro n a w ⟨s1, s2, s3, vvs1, ccs1, hn1, ws1, ws2, ws3, hA, hI⟩
    obtain ⟨m1, rfl, H⟩ := loopN_bind hn1
    clear hn1
    refine w_seq fun _ hN3 => ?_
    refine w_reg ?_
    refine stp hA (r_lss hA rfl rfl) rfl fun a hA => ?_
    refine o_nil ?_
    refine hN3 _ _ ?_
    refine w_seq fun _ hN4 => ?_
    refine w_cond hA rfl (fun hc1 => ?_) (fun hc1 => ?_)
    · have hc10 := hc1; have hc1 := of_decide_eq_true hc1; have H := bT H hc1
      refine w_skip ?_
      refine hN4 _ _ ?_
      refine w_seq fun _ hN5 => ?_
      refine w_block ?_
      refine w_seq fun _ hN6 => ?_
      refine w_reg ?_
      refine stp hA (r_mv hA rfl) rfl fun a hA => 
        stp hA (r_mv hA rfl) rfl fun a hA => 
        stp hA (r_conv Tryd.underlying22 Tryd.underlying5 hA rfl) rfl fun a hA => ?_
      have hE1 : Els (RI .u8) 1 ([IntKind.u8.wrap s2] : List Int) ([[.int .u8 (IntKind.u8.wrap s2)]].flatten ++ ([])) := (Els.cons (c := [[.int .u8 (IntKind.u8.wrap s2)]].flatten) ⟨rfl, (wrap_in _ _)⟩ rfl Els.nil)
      refine o_bsl ([[.int .u8 (IntKind.u8.wrap s2)]].flatten ++ ([])) te5 zr5 Tryd.underlying23 hI hA rfl rfl rfl rfl (by kernel_rfl) rfl fun g1 a w hA hI => ?_
      generalize hcs : ([[.int .u8 (IntKind.u8.wrap s2)]].flatten ++ ([]) : List Value) = cs1 at hE1 hI
      clear hcs
      obtain ⟨hb1, H⟩ := bG H
      have hE3 := ws1.app hE1
      refine o_appL (xs := (s1 : List Int)) (ys := (([IntKind.u8.wrap s2] : List Int) : List Int)) (j := 1) te5 Tryd.underlying23 hI rfl hA rfl rfl (src_row hI (j := 0) rfl) hE1.len (hE1.ones (one_RI _)) (by first | decide | (have hq := hb1; (try simp only [List.length_cons, List.length_nil] at hq); (try simp only [List.length_cons, List.length_nil]); (try simp only [maxLen]); omega)) (by first | decide | (have hq := hb1; (try simp only [List.length_cons, List.length_nil] at hq); (try simp only [List.length_cons, List.length_nil]); (try simp only [maxLen]); omega)) rfl fun v1 a w hA hI => 
        stp hA (r_as hA rfl) rfl fun a hA => ?_
      refine o_nil ?_
      refine hN6 _ _ ?_
      refine w_reg ?_
      refine stp hA (r_mv hA rfl) rfl fun a hA => 
        stp hA (r_shr hA rfl rfl (by decide)) rfl fun a hA => 
        stp hA (r_as hA rfl) rfl fun a hA => ?_
      refine o_nil ?_
      refine hN5 _ _ ?_
      refine w_reg ?_
      refine stp hA (r_add hA rfl rfl) rfl fun a hA => 
        stp hA (r_mv hA rfl) rfl fun a hA => ?_
      refine o_nil ?_
      exact ⟨m1, Nat.lt_succ_self _, s1 ++ ([IntKind.u8.wrap s2] : List Int), sR .u64 s2 8, IntKind.i64.wrap (s3 + 1), v1, ccs1 ++ cs1, H, hE3, (sR_in rfl ws2 _), (wrap_in _ _), hA.sub ⟨rfl, rfl, rfl, rfl, rfl, rfl, trivial⟩, (hI.sel [1] (by decide) rfl)⟩
    · have hc10 := hc1; have hc1 := of_decide_eq_false hc1; have H := bF H hc1
      refine w_exit rfl ?_
      have H : some (s1, s2) = some z1 := H
      obtain rfl := Option.some.inj H
      have H := Hk2
      cases Option.some.inj (bS H)
      exact ⟨vvs1, ccs1, ws1, ws2, hA.sub ⟨rfl, rfl, rfl, rfl, trivial⟩, hI⟩
  · rintro a w ⟨vvc1, ccc1, wc1, wc2, hA, hI⟩
    have H := Hk1
    refine w_seq fun _ hN7 => ?_
    refine w_reg ?_
    refine stp hA (r_mv hA rfl) rfl fun a hA => 
      stp hA (r_as hA rfl) rfl fun a hA => ?_
    refine o_nil ?_
    refine hN7 _ _ ?_
    refine w_ret ?_
    obtain rfl := Option.some.inj (bS H)
    exact ret1 hA Tryd.results94 rfl ⟨_, rfl, vvc1, ccc1, rfl, wc1, (hI.less (Store.le.refl _) hI.le)⟩
set_option maxRecDepth 20000 in
theorem compact_Put.c (μ : Store) (w0 : World) (hμ : Agr μ w0) (x0 : List Int) (u0 : Value) (hx0 : Slc (RI .u8) 1 μ u0 x0) (x1 : Int) (hx1 : InR .u64 x1) (r : List Int) (H : compact_Put.f x0 x1 = some r) :
    Calls Tryd.prog 23 [u0, .int .u64 x1].toArray w0 (fun e w' => ∃ v, e = .returned v ∧ ∃ (v0 : Value) (c0 : List Value), v = v0 ∧ Els (RI .u8) 1 r c0 ∧ Iv w0 [] μ μ [row 5 1 v0 r.length c0] w') := by
  refine enter Tryd.func23 rfl Tryd.ntmps23 rfl fun a hA => ?_
  have hI := Iv.start hμ
  have H := bI H
  refine w_seq fun _ hN1 => ?_
  refine w_reg ?_
  refine stp hA (r_as hA rfl) rfl fun a hA => ?_
  refine o_nil ?_
  refine hN1 _ _ ?_
  refine w_seq fun _ hN2 => ?_
  refine w_reg ?_
  refine stp hA (r_mv hA rfl) rfl fun a hA => ?_
  obtain ⟨r1, hr1, H⟩ := bB H
  refine o_call _ cf93 hA rfl (bytes_Clone.c μ _ hI.agr x0 u0 hx0 r1 hr1) rfl fun v1 a w hz1 hA => ?_
  obtain ⟨_, cs1, rfl, hE1, hi1⟩ := hz1
  have hI := hI.call hi1
  refine stp hA (r_as hA rfl) rfl fun a hA => ?_
  refine o_nil ?_
  refine hN2 _ _ ?_
  refine w_seq fun _ hN3 => ?_
  refine w_seq fun _ hN4 => ?_
  refine w_reg ?_
  refine stp hA (r_mv hA rfl) rfl fun a hA => ?_
  obtain ⟨r2, hr2, H⟩ := bB H
  refine o_callp (u := .int .i64 r2) cf24 hA rfl hI (compact_Len.c μ _ hI.agr x1 hx1 r2 hr2) rfl fun a w hz2 hI hA => 
    stp hA (r_as hA rfl) rfl fun a hA => ?_
  refine o_nil ?_
  refine hN4 _ _ ?_
  refine w_seq fun _ hN5 => ?_
  refine w_reg ?_
  refine stp hA (r_mv hA rfl) rfl fun a hA => ?_
  refine o_nil ?_
  refine hN5 _ _ ?_
  refine w_block ?_
  refine w_seq fun _ hN6 => ?_
  refine w_reg ?_
  refine stp hA (r_eql hA rfl rfl) rfl fun a hA => 
    stp hA (r_as hA rfl) rfl fun a hA => ?_
  refine o_nil ?_
  refine hN6 _ _ ?_
  refine w_cond hA rfl (fun hc1 => ?_) (fun hc1 => ?_)
  · have hc10 := hc1; have hc1 := of_decide_eq_true hc1; have H := bT H hc1
    refine w_seq fun _ hN7 => ?_
    refine w_reg ?_
    refine stp hA (r_mv hA rfl) rfl fun a hA => 
      stp hA (r_mv hA rfl) rfl fun a hA => 
      stp hA (r_conv Tryd.underlying22 Tryd.underlying5 hA rfl) rfl fun a hA => ?_
    have hE2 : Els (RI .u8) 1 ([IntKind.u8.wrap x1] : List Int) ([[.int .u8 (IntKind.u8.wrap x1)]].flatten ++ ([])) := (Els.cons (c := [[.int .u8 (IntKind.u8.wrap x1)]].flatten) ⟨rfl, (wrap_in _ _)⟩ rfl Els.nil)
    refine o_bsl ([[.int .u8 (IntKind.u8.wrap x1)]].flatten ++ ([])) te5 zr5 Tryd.underlying23 hI hA rfl rfl rfl rfl (by kernel_rfl) rfl fun g1 a w hA hI => ?_
    generalize hcs : ([[.int .u8 (IntKind.u8.wrap x1)]].flatten ++ ([]) : List Value) = cs2 at hE2 hI
    clear hcs
    obtain ⟨hb1, H⟩ := bG H
    have hE4 := hE1.app hE2
    refine o_appL (xs := (r1 : List Int)) (ys := (([IntKind.u8.wrap x1] : List Int) : List Int)) (j := 1) te5 Tryd.underlying23 hI rfl hA rfl rfl (src_row hI (j := 0) rfl) hE2.len (hE2.ones (one_RI _)) (by first | decide | (have hq := hb1; (try simp only [List.length_cons, List.length_nil] at hq); (try simp only [List.length_cons, List.length_nil]); (try simp only [maxLen]); omega)) (by first | decide | (have hq := hb1; (try simp only [List.length_cons, List.length_nil] at hq); (try simp only [List.length_cons, List.length_nil]); (try simp only [maxLen]); omega)) rfl fun v2 a w hA hI => 
      stp hA (r_as hA rfl) rfl fun a hA => ?_
    refine o_nil ?_
    refine hN7 _ _ ?_
    refine w_ret ?_
    obtain rfl := Option.some.inj (bS H)
    exact ret1 hA Tryd.results23 rfl ⟨_, rfl, v2, cs1 ++ cs2, rfl, hE4, ((hI.sel [1] (by decide) rfl).less (Store.le.refl _) hI.le)⟩
  · have hc10 := hc1; have hc1 := of_decide_eq_false hc1; have H := bF H hc1
    refine w_seq fun _ hN8 => ?_
    refine w_reg ?_
    refine stp hA (r_eql hA rfl rfl) rfl fun a hA => 
      stp hA (r_as hA rfl) rfl fun a hA => ?_
    refine o_nil ?_
    refine hN8 _ _ ?_
    refine w_cond hA rfl (fun hc2 => ?_) (fun hc2 => ?_)
    · have hc20 := hc2; have hc2 := of_decide_eq_true hc2; have H := bT H hc2
      refine w_seq fun _ hN9 => ?_
      refine w_reg ?_
      refine stp hA (r_mv hA rfl) rfl fun a hA => ?_
      have hE5 : Els (RI .u8) 1 ([253] : List Int) ([[.int .u8 253]].flatten ++ ([])) := (Els.cons (c := [[.int .u8 253]].flatten) ⟨rfl, (in_lit .u8 253 rfl)⟩ rfl Els.nil)
      refine o_bsl ([[.int .u8 253]].flatten ++ ([])) te5 zr5 Tryd.underlying23 hI hA rfl rfl rfl rfl (by kernel_rfl) rfl fun g2 a w hA hI => ?_
      generalize hcs : ([[.int .u8 253]].flatten ++ ([]) : List Value) = cs5 at hE5 hI
      clear hcs
      obtain ⟨hb2, H⟩ := bG H
      have hE7 := hE1.app hE5
      refine o_appL (xs := (r1 : List Int)) (ys := (([253] : List Int) : List Int)) (j := 1) te5 Tryd.underlying23 hI rfl hA rfl rfl (src_row hI (j := 0) rfl) hE5.len (hE5.ones (one_RI _)) (by first | decide | (have hq := hb2; (try simp only [List.length_cons, List.length_nil] at hq); (try simp only [List.length_cons, List.length_nil]); (try simp only [maxLen]); omega)) (by first | decide | (have hq := hb2; (try simp only [List.length_cons, List.length_nil] at hq); (try simp only [List.length_cons, List.length_nil]); (try simp only [maxLen]); omega)) rfl fun v3 a w hA hI => 
        stp hA (r_mv hA rfl) rfl fun a hA => ?_
      obtain ⟨r3, hr3, H⟩ := bB H
      refine o_call _ cf94 hA rfl (compact_number.c μ _ hI.agr (r1 ++ ([253] : List Int)) v3 (cs1 ++ cs5) hE7 (hI.item (j := 1) rfl) x1 hx1 2 (in_lit .i64 2 rfl) r3 hr3) rfl fun v4 a w hz3 hA => ?_
      obtain ⟨_, cs8, rfl, hE8, hi2⟩ := hz3
      have hI := hI.call1 1 rfl hi2
      refine stp hA (r_as hA rfl) rfl fun a hA => ?_
      refine o_nil ?_
      refine hN9 _ _ ?_
      refine w_ret ?_
      obtain rfl := Option.some.inj (bS H)
      exact ret1 hA Tryd.results23 rfl ⟨_, rfl, v4, cs8, rfl, hE8, ((hI.sel [0] (by decide) rfl).less (Store.le.refl _) hI.le)⟩
    · have hc20 := hc2; have hc2 := of_decide_eq_false hc2; have H := bF H hc2
      refine w_seq fun _ hN10 => ?_
      refine w_reg ?_
      refine stp hA (r_eql hA rfl rfl) rfl fun a hA => 
        stp hA (r_as hA rfl) rfl fun a hA => ?_
      refine o_nil ?_
      refine hN10 _ _ ?_
      refine w_cond hA rfl (fun hc3 => ?_) (fun hc3 => ?_)
      · have hc30 := hc3; have hc3 := of_decide_eq_true hc3; have H := bT H hc3
        refine w_seq fun _ hN11 => ?_
        refine w_reg ?_
        refine stp hA (r_mv hA rfl) rfl fun a hA => ?_
        have hE9 : Els (RI .u8) 1 ([254] : List Int) ([[.int .u8 254]].flatten ++ ([])) := (Els.cons (c := [[.int .u8 254]].flatten) ⟨rfl, (in_lit .u8 254 rfl)⟩ rfl Els.nil)
        refine o_bsl ([[.int .u8 254]].flatten ++ ([])) te5 zr5 Tryd.underlying23 hI hA rfl rfl rfl rfl (by kernel_rfl) rfl fun g3 a w hA hI => ?_
        generalize hcs : ([[.int .u8 254]].flatten ++ ([]) : List Value) = cs9 at hE9 hI
        clear hcs
        obtain ⟨hb3, H⟩ := bG H
        have hE11 := hE1.app hE9
        refine o_appL (xs := (r1 : List Int)) (ys := (([254] : List Int) : List Int)) (j := 1) te5 Tryd.underlying23 hI rfl hA rfl rfl (src_row hI (j := 0) rfl) hE9.len (hE9.ones (one_RI _)) (by first | decide | (have hq := hb3; (try simp only [List.length_cons, List.length_nil] at hq); (try simp only [List.length_cons, List.length_nil]); (try simp only [maxLen]); omega)) (by first | decide | (have hq := hb3; (try simp only [List.length_cons, List.length_nil] at hq); (try simp only [List.length_cons, List.length_nil]); (try simp only [maxLen]); omega)) rfl fun v5 a w hA hI => 
          stp hA (r_mv hA rfl) rfl fun a hA => ?_
        obtain ⟨r4, hr4, H⟩ := bB H
        refine o_call _ cf94 hA rfl (compact_number.c μ _ hI.agr (r1 ++ ([254] : List Int)) v5 (cs1 ++ cs9) hE11 (hI.item (j := 1) rfl) x1 hx1 4 (in_lit .i64 4 rfl) r4 hr4) rfl fun v6 a w hz4 hA => ?_
        obtain ⟨_, cs12, rfl, hE12, hi3⟩ := hz4
        have hI := hI.call1 1 rfl hi3
        refine stp hA (r_as hA rfl) rfl fun a hA => ?_
        refine o_nil ?_
        refine hN11 _ _ ?_
        refine w_ret ?_
        obtain rfl := Option.some.inj (bS H)
        exact ret1 hA Tryd.results23 rfl ⟨_, rfl, v6, cs12, rfl, hE12, ((hI.sel [0] (by decide) rfl).less (Store.le.refl _) hI.le)⟩
      · have hc30 := hc3; have hc3 := of_decide_eq_false hc3; have H := bF H hc3
        refine w_skip ?_
        refine hN3 _ _ ?_
        refine w_seq fun _ hN12 => ?_
        refine w_reg ?_
        refine stp hA (r_mv hA rfl) rfl fun a hA => ?_
        have hE13 : Els (RI .u8) 1 ([255] : List Int) ([[.int .u8 255]].flatten ++ ([])) := (Els.cons (c := [[.int .u8 255]].flatten) ⟨rfl, (in_lit .u8 255 rfl)⟩ rfl Els.nil)
        refine o_bsl ([[.int .u8 255]].flatten ++ ([])) te5 zr5 Tryd.underlying23 hI hA rfl rfl rfl rfl (by kernel_rfl) rfl fun g4 a w hA hI => ?_
        generalize hcs : ([[.int .u8 255]].flatten ++ ([]) : List Value) = cs13 at hE13 hI
        clear hcs
        obtain ⟨hb4, H⟩ := bG H
        have hE15 := hE1.app hE13
        refine o_appL (xs := (r1 : List Int)) (ys := (([255] : List Int) : List Int)) (j := 1) te5 Tryd.underlying23 hI rfl hA rfl rfl (src_row hI (j := 0) rfl) hE13.len (hE13.ones (one_RI _)) (by first | decide | (have hq := hb4; (try simp only [List.length_cons, List.length_nil] at hq); (try simp only [List.length_cons, List.length_nil]); (try simp only [maxLen]); omega)) (by first | decide | (have hq := hb4; (try simp only [List.length_cons, List.length_nil] at hq); (try simp only [List.length_cons, List.length_nil]); (try simp only [maxLen]); omega)) rfl fun v7 a w hA hI => 
          stp hA (r_mv hA rfl) rfl fun a hA => ?_
        obtain ⟨r5, hr5, H⟩ := bB H
        refine o_call _ cf94 hA rfl (compact_number.c μ _ hI.agr (r1 ++ ([255] : List Int)) v7 (cs1 ++ cs13) hE15 (hI.item (j := 1) rfl) x1 hx1 8 (in_lit .i64 8 rfl) r5 hr5) rfl fun v8 a w hz5 hA => ?_
        obtain ⟨_, cs16, rfl, hE16, hi4⟩ := hz5
        have hI := hI.call1 1 rfl hi4
        refine stp hA (r_as hA rfl) rfl fun a hA => ?_
        refine o_nil ?_
        refine hN12 _ _ ?_
        refine w_ret ?_
        obtain rfl := Option.some.inj (bS H)
        exact ret1 hA Tryd.results23 rfl ⟨_, rfl, v8, cs16, rfl, hE16, ((hI.sel [0] (by decide) rfl).less (Store.le.refl _) hI.le)⟩
set_option maxRecDepth 20000 in
theorem compact_Read.c (μ : Store) (w0 : World) (hμ : Agr μ w0) (x0 : List Int) (u0 : Value) (hx0 : Slc (RI .u8) 1 μ u0 x0) (r : compactReader) (H : compact_Read.f x0 = some r) :
    Calls Tryd.prog 25 [u0].toArray w0 (fun e w' => ∃ v, e = .returned v ∧ ∃ (gq_1 : Nat) (vp_1 : Value) (vp_2 : Value) (μ' : Store), v = .pointer (some ⟨gq_1, 0, none⟩) ∧ Slc (RI .u8) 1 μ' vp_1 r.b ∧ InR .i64 r.at_ ∧ ErS μ' vp_2 r.err ∧ Iv w0 [] μ μ' [cel gq_1 [[vp_1], [.int .i64 r.at_], [vp_2]] 143] w') := by
  refine enter Tryd.func25 rfl Tryd.ntmps25 rfl fun a hA => ?_
  have hI := Iv.start hμ
  have H := bI H
  refine w_seq fun _ hN1 => ?_
  refine w_reg ?_
  refine stp hA (r_as hA rfl) rfl fun a hA => ?_
  refine o_nil ?_
  refine hN1 _ _ ?_
  refine w_seq fun _ hN2 => ?_
  refine w_reg ?_
  refine stp hA (r_mv hA rfl) rfl fun a hA => ?_
  obtain ⟨r1, hr1, H⟩ := bB H
  refine o_call _ cf93 hA rfl (bytes_Clone.c μ _ hI.agr x0 u0 hx0 r1 hr1) rfl fun v1 a w hz1 hA => ?_
  obtain ⟨_, cs1, rfl, hE1, hi1⟩ := hz1
  have hI := hI.call hi1
  refine stp hA (r_bldS (cs := [[v1], [.int .i64 0], [.nilIface]].flatten.toArray) (pl := [(0, 1), (1, 1), (2, 1)]) zr143 Tryd.underlying143 ⟨rfl, sz23, rfl, sz3, rfl, sz34, trivial⟩ hA rfl ((fill_one (own_cell hI (j := 0) rfl) rfl (by kernel_rfl)).trans (by kernel_rfl))) rfl fun a hA => 
    o_box [[v1], [.int .i64 0], [.nilIface]] hI hA rfl rfl rfl fun g1 a w hA hI hg1 => 
    stp hA (r_as hA rfl) rfl fun a hA => ?_
  refine o_nil ?_
  refine hN2 _ _ ?_
  refine w_ret ?_
  obtain ⟨μ1, hle1, hsv1, hI⟩ := hI.freezeRow 1 rfl
  have hS1 : Slc (RI .u8) 1 μ1 v1 r1 := ⟨_, hE1, hsv1⟩
  obtain rfl := Option.some.inj (bS H)
  exact ret1 hA Tryd.results25 rfl ⟨_, rfl, g1, v1, .nilIface, μ1, rfl, hS1, (in_lit .i64 0 rfl), erv_nil, hI⟩
set_option maxRecDepth 20000 in
theorem compact_Reader_next.c (μ : Store) (w0 : World) (hμ : Agr μ w0) (x0 : compactReader) (vp1 : Value) (vp2 : Value) (g0 : Nat) (hp1 : Slc (RI .u8) 1 μ vp1 x0.b) (hp2 : InR .i64 x0.at_) (hp3 : ErS μ vp2 x0.err) (ho0 : Its μ w0 [cel g0 [[vp1], [.int .i64 x0.at_], [vp2]] 143]) (x1 : Int) (hx1 : InR .i64 x1) (e8 : Value) (he8 : ErS μ e8 (Er.b 9)) (r : (List Int) × compactReader) (H : compact_Reader_next.f x0 x1 = some r) :
    Calls Tryd.prog 97 [.pointer (some ⟨g0, 0, none⟩), .int .i64 x1].toArray w0 (fun e w' => ∃ v, e = .returned v ∧ ∃ (v0 : Value) (vp_1 : Value) (vp_2 : Value) (μ' : Store), v = v0 ∧ Slc (RI .u8) 1 μ' v0 (r.1) ∧ Slc (RI .u8) 1 μ' vp_1 (r.2).b ∧ InR .i64 (r.2).at_ ∧ ErS μ' vp_2 (r.2).err ∧ Iv w0 (many [cel g0 [[vp1], [.int .i64 x0.at_], [vp2]] 143]).foot μ μ' [cel g0 [[vp_1], [.int .i64 ((r.2).at_)], [vp_2]] 143] w') := by
  refine enter Tryd.func97 rfl Tryd.ntmps97 rfl fun a hA => ?_
  have hI := Iv.startN hμ ho0
  have H := bI H
  refine w_seq fun _ hN1 => ?_
  refine w_reg ?_
  refine stp hA (r_as hA rfl) rfl fun a hA => ?_
  refine o_nil ?_
  refine hN1 _ _ ?_
  refine w_seq fun _ hN2 => ?_
  refine w_seq fun _ hN3 => ?_
  refine w_reg ?_
  refine stp hA (r_mv hA rfl) rfl fun a hA => 
    stp hA (r_nilc hA rfl) rfl fun a hA => 
    stp hA (r_fd (k := 2) Tryd.underlying143 rfl sz34 hA rfl rfl) rfl fun a hA => 
    stp hA (r_ld1 (j := 0) [[vp1], [.int .i64 x0.at_]] [] Tryd.underlying34 rfl hI rfl hA rfl rfl) rfl fun a hA => 
    stp hA (r_neE erF hI.agr hp3 erv_nil (.inl ⟨.inr ⟨_, rfl⟩, Er.fitR⟩) hA rfl rfl) rfl fun a hA => ?_
  refine o_nil ?_
  refine hN3 _ _ ?_
  refine w_cond hA rfl (fun hc1 => ?_) (fun hc1 => ?_)
  · have hc10 := hc1; have hc1 := of_decide_eq_true hc1; have H := bT H hc1
    refine w_seq fun _ hN4 => ?_
    refine w_reg ?_
    refine stp hA (r_as hA rfl) rfl fun a hA => ?_
    refine o_nil ?_
    refine hN4 _ _ ?_
    refine w_ret ?_
    obtain rfl := Option.some.inj (bS H)
    exact ret1 hA Tryd.results97 rfl ⟨_, rfl, (.slice none 0 0), vp1, vp2, μ, rfl, (slc_nil _ _ _), hp1, hp2, hp3, hI⟩
  · have hc10 := hc1; have hc1 := of_decide_eq_false hc1; have H := bF H hc1
    refine w_skip ?_
    refine hN2 _ _ ?_
    refine w_seq fun _ hN5 => ?_
    refine w_seq fun _ hN6 => ?_
    refine w_draw mo (by kernel_rfl) hI ?_
    refine qtp hA (fun _ hI => r_mv hA rfl) rfl fun a hA => 
      qtp hA (fun _ hI => r_mv hA rfl) rfl fun a hA => 
      qtp hA (fun _ hI => r_nilc hA rfl) rfl fun a hA => 
      qtp hA (fun _ hI => r_fd (k := 0) Tryd.underlying143 rfl sz23 hA rfl rfl) rfl fun a hA => 
      qtp hA (fun _ hI => r_ld1 (j := 0) [] [[.int .i64 x0.at_], [vp2]] Tryd.underlying23 rfl hI rfl hA rfl rfl) rfl fun a hA => ?_
    obtain ⟨_, hsl1⟩ := Slc.sv hp1
    refine qtp hA (fun _ hI => r_slen Tryd.underlying23 hsl1 hA rfl) rfl fun a hA => 
      qtp hA (fun _ hI => r_mv hA rfl) rfl fun a hA => 
      qtp hA (fun _ hI => r_nilc hA rfl) rfl fun a hA => 
      qtp hA (fun _ hI => r_fd (k := 1) Tryd.underlying143 rfl sz3 hA rfl rfl) rfl fun a hA => 
      qtp hA (fun _ hI => r_ld1 (j := 0) [[vp1]] [[vp2]] Tryd.underlying3 rfl hI rfl hA rfl rfl) rfl fun a hA => 
      qtp hA (fun _ hI => r_sub hA rfl rfl) rfl fun a hA => 
      qtp hA (fun _ hI => r_gtr hA rfl rfl) rfl fun a hA => ?_
    refine q_nil fun w hI => ?_
    refine hN6 _ _ ?_
    refine w_cond hA rfl (fun hc2 => ?_) (fun hc2 => ?_)
    · have hc20 := hc2; have hc2 := of_decide_eq_true hc2; have H := bT H hc2
      refine w_seq fun _ hN7 => ?_
      refine w_reg ?_
      refine stp hA (r_mv hA rfl) rfl fun a hA => 
        stp hA (r_ldG Tryd.underlying34 rfl hI.agr he8 hA) rfl fun a hA => 
        stp hA (r_nilc hA rfl) rfl fun a hA => 
        stp hA (r_fd (k := 2) Tryd.underlying143 rfl sz34 hA rfl rfl) rfl fun a hA => ?_
      have hsc : ErS μ e8 xErrEnd := he8
      refine o_st (j := 0) [[vp1], [.int .i64 x0.at_]] [[vp2]] [[e8]] [] sz34 rfl rfl (by intro c hc; simp at hc; subst hc; exact ErV.one hsc) hI rfl hA rfl rfl (cells_err hsc) rfl fun w hI => ?_
      refine o_nil ?_
      refine hN7 _ _ ?_
      refine w_seq fun _ hN8 => ?_
      refine w_reg ?_
      refine stp hA (r_as hA rfl) rfl fun a hA => ?_
      refine o_nil ?_
      refine hN8 _ _ ?_
      refine w_ret ?_
      obtain rfl := Option.some.inj (bS H)
      exact ret1 hA Tryd.results97 rfl ⟨_, rfl, (.slice none 0 0), vp1, e8, μ, rfl, (slc_nil _ _ _), hp1, hp2, he8, hI⟩
    · have hc20 := hc2; have hc2 := of_decide_eq_false hc2; have H := bF H hc2
      refine w_skip ?_
      refine hN5 _ _ ?_
      refine w_seq fun _ hN9 => ?_
      refine w_reg ?_
      refine stp hA (r_mv hA rfl) rfl fun a hA => 
        stp hA (r_nilc hA rfl) rfl fun a hA => 
        stp hA (r_fd (k := 1) Tryd.underlying143 rfl sz3 hA rfl rfl) rfl fun a hA => 
        stp hA (r_ld1 (j := 0) [[vp1]] [[vp2]] Tryd.underlying3 rfl hI rfl hA rfl rfl) rfl fun a hA => 
        stp hA (r_mv hA rfl) rfl fun a hA => 
        stp hA (r_add hA rfl rfl) rfl fun a hA => 
        stp hA (r_nilc hA rfl) rfl fun a hA => 
        stp hA (r_fd (k := 1) Tryd.underlying143 rfl sz3 hA rfl rfl) rfl fun a hA => 
        o_st (j := 0) [[vp1]] [[.int .i64 x0.at_]] [[.int .i64 (IntKind.i64.wrap (x0.at_ + x1))]] [[vp2]] sz3 rfl rfl (fl_cons (one_one rfl) fl_nil) hI rfl hA rfl rfl rfl rfl fun w hI => ?_
      refine o_nil ?_
      refine hN9 _ _ ?_
      refine w_seq fun _ hN10 => ?_
      refine w_draw mo (by kernel_rfl) hI ?_
      refine qtp hA (fun _ hI => r_mv hA rfl) rfl fun a hA => 
        qtp hA (fun _ hI => r_nilc hA rfl) rfl fun a hA => 
        qtp hA (fun _ hI => r_fd (k := 0) Tryd.underlying143 rfl sz23 hA rfl rfl) rfl fun a hA => 
        qtp hA (fun _ hI => r_ld1 (j := 0) [] [[.int .i64 (IntKind.i64.wrap (x0.at_ + x1))], [vp2]] Tryd.underlying23 rfl hI rfl hA rfl rfl) rfl fun a hA => 
        qtp hA (fun _ hI => r_mv hA rfl) rfl fun a hA => 
        qtp hA (fun _ hI => r_nilc hA rfl) rfl fun a hA => 
        qtp hA (fun _ hI => r_fd (k := 1) Tryd.underlying143 rfl sz3 hA rfl rfl) rfl fun a hA => 
        qtp hA (fun _ hI => r_ld1 (j := 0) [[vp1]] [[vp2]] Tryd.underlying3 rfl hI rfl hA rfl rfl) rfl fun a hA => 
        qtp hA (fun _ hI => r_mv hA rfl) rfl fun a hA => 
        qtp hA (fun _ hI => r_sub hA rfl rfl) rfl fun a hA => 
        qtp hA (fun _ hI => r_mv hA rfl) rfl fun a hA => 
        qtp hA (fun _ hI => r_nilc hA rfl) rfl fun a hA => 
        qtp hA (fun _ hI => r_fd (k := 1) Tryd.underlying143 rfl sz3 hA rfl rfl) rfl fun a hA => 
        qtp hA (fun _ hI => r_ld1 (j := 0) [[vp1]] [[vp2]] Tryd.underlying3 rfl hI rfl hA rfl rfl) rfl fun a hA => ?_
      obtain ⟨hb1, H⟩ := bG H
      obtain ⟨v1, hS1, hr1⟩ := r_sl (P := Tryd.prog) (t := 23) (x := .tmp 37) (l := (some (.tmp 43))) (h := (some (.tmp 47))) (i := IntKind.i64.wrap ((IntKind.i64.wrap (x0.at_ + x1)) - x1)) (j := IntKind.i64.wrap (x0.at_ + x1)) Tryd.underlying23 sz5 hp1 hA rfl rfl rfl (by have hq := hb1; omega) (by have hq := hb1; omega) (by have hq := hb1; omega)
      refine qtp hA (fun _ hI => hr1 _ _ _ _ _ _) rfl fun a hA => 
        qtp hA (fun _ hI => r_as hA rfl) rfl fun a hA => ?_
      refine q_nil fun w hI => ?_
      refine hN10 _ _ ?_
      refine w_ret ?_
      obtain rfl := Option.some.inj (bS H)
      exact ret1 hA Tryd.results97 rfl ⟨_, rfl, v1, vp1, vp2, μ, rfl, hS1, hp1, (wrap_in _ _), hp3, hI⟩
set_option maxRecDepth 20000 in
theorem compact_Reader_whole.c (μ : Store) (w0 : World) (hμ : Agr μ w0) (x0 : compactReader) (vp1 : Value) (vp2 : Value) (g0 : Nat) (hp1 : Slc (RI .u8) 1 μ vp1 x0.b) (hp2 : InR .i64 x0.at_) (hp3 : ErS μ vp2 x0.err) (ho0 : Its μ w0 [cel g0 [[vp1], [.int .i64 x0.at_], [vp2]] 143]) (x1 : Int) (hx1 : InR .i64 x1) (e8 : Value) (he8 : ErS μ e8 (Er.b 9)) (r : Int × compactReader) (H : compact_Reader_whole.f x0 x1 = some r) :
    Calls Tryd.prog 95 [.pointer (some ⟨g0, 0, none⟩), .int .i64 x1].toArray w0 (fun e w' => ∃ v, e = .returned v ∧ ∃ (vp_1 : Value) (vp_2 : Value) (μ' : Store), v = .int .u64 (r.1) ∧ InR .u64 (r.1) ∧ Slc (RI .u8) 1 μ' vp_1 (r.2).b ∧ InR .i64 (r.2).at_ ∧ ErS μ' vp_2 (r.2).err ∧ Iv w0 (many [cel g0 [[vp1], [.int .i64 x0.at_], [vp2]] 143]).foot μ μ' [cel g0 [[vp_1], [.int .i64 ((r.2).at_)], [vp_2]] 143] w') := by
  refine enter Tryd.func95 rfl Tryd.ntmps95 rfl fun a hA => ?_
  have hI := Iv.startN hμ ho0
  have H := bI H
  refine w_seq fun _ hN1 => ?_
  refine w_reg ?_
  refine stp hA (r_as hA rfl) rfl fun a hA => ?_
  refine o_nil ?_
  refine hN1 _ _ ?_
  refine w_seq fun _ hN2 => ?_
  refine w_reg ?_
  refine stp hA (r_as hA rfl) rfl fun a hA => ?_
  refine o_nil ?_
  refine hN2 _ _ ?_
  obtain ⟨⟨c1, c2, c3, c4⟩, hz1, Hk1⟩ := bB H
  refine w_cut (fun a w => ∃ (μ1 : Store) (vvc2 : Value) (vvc4 : Value), μ.le μ1 ∧ InR .u64 c1 ∧ Slc (RI .u8) 1 μ1 vvc2 c2 ∧ InR .i64 c3 ∧ ErS μ1 vvc4 c4 ∧ Fr a 26 [(0, .pointer (some ⟨g0, 0, none⟩)), (1, .int .i64 x1), (4, .int .u64 0), (5, .int .u64 c1)] ∧ Iv w0 (many [cel g0 [[vp1], [.int .i64 x0.at_], [vp2]] 143]).foot μ μ1 [cel g0 [[vvc2], [.int .i64 c3], [vvc4]] 143] w) ?_ ?_
  · have H := bI hz1
    refine w_seq fun _ hN3 => ?_
    refine w_reg ?_
    refine stp hA (r_mv hA rfl) rfl fun a hA => 
      stp hA (r_mv hA rfl) rfl fun a hA => ?_
    obtain ⟨r1, hr1, H⟩ := bB H
    refine o_call _ cf97 hA rfl (compact_Reader_next.c μ _ hI.agr x0 vp1 vp2 g0 hp1 hp2 hp3 (hI.handN 1) x1 hx1 e8 he8 r1 hr1) rfl fun v1 a w hz2 hA => ?_
    obtain ⟨_, vp3, vp4, μ2, rfl, hS1, hp4, hp5, hp6, hi1⟩ := hz2
    have hI := hI.backN 1 hi1
    have hI : Iv w0 (many [cel g0 [[vp1], [.int .i64 x0.at_], [vp2]] 143]).foot μ μ2 [cel g0 [[vp3], [.int .i64 r1.2.at_], [vp4]] 143] w := hI
    obtain ⟨_, hsl1⟩ := Slc.sv hS1
    refine stp hA (r_slen Tryd.underlying23 hsl1 hA rfl) rfl fun a hA => 
      stp hA (r_mv hA rfl) rfl fun a hA => ?_
    refine o_nil ?_
    refine hN3 _ _ ?_
    refine w_block ?_
    obtain ⟨z1, hz3, Hk2⟩ := bind_some H
    obtain ⟨n1, hn1⟩ := loopO_some hz3
    refine w_loop (fun n a w => ∃ (s1 : Int) (s2 : Int), loopN (compact_Reader_whole.s0 r1) n (s1, s2) = some z1 ∧ InR .u64 s1 ∧ InR .i64 s2 ∧ Fr a 26 [(0, .pointer (some ⟨g0, 0, none⟩)), (1, .int .i64 x1), (4, .int .u64 0), (5, .int .u64 s1), (10, v1), (11, .int .i64 (r1.1.length : Int)), (12, .int .i64 s2)] ∧ Iv w0 (many [cel g0 [[vp1], [.int .i64 x0.at_], [vp2]] 143]).foot μ μ2 [cel g0 [[vp3], [.int .i64 r1.2.at_], [vp4]] 143] w) n1 ⟨0, 0, hn1, (in_lit .u64 0 rfl), (in_lit .i64 0 rfl), hA.sub ⟨rfl, rfl, rfl, rfl, rfl, rfl, rfl, trivial⟩, hI⟩ ?_
    clear hA hI
    rintro n a w ⟨s1, s2, hn1, ws1, ws2, hA, hI⟩
    obtain ⟨m1, rfl, H⟩ := loopN_bind hn1
    clear hn1
    refine w_seq fun _ hN4 => ?_
    refine w_reg ?_
    refine stp hA (r_lss hA rfl rfl) rfl fun a hA => ?_
    refine o_nil ?_
    refine hN4 _ _ ?_
    refine w_seq fun _ hN5 => ?_
    refine w_cond hA rfl (fun hc1 => ?_) (fun hc1 => ?_)
    · have hc10 := hc1; have hc1 := of_decide_eq_true hc1; have H := bT H hc1
      refine w_skip ?_
      refine hN5 _ _ ?_
      refine w_seq fun _ hN6 => ?_
      refine w_block ?_
      refine w_seq fun _ hN7 => ?_
      refine w_reg ?_
      refine stp hA (r_mv hA rfl) rfl fun a hA => ?_
      obtain ⟨hb1, H⟩ := bG H
      obtain ⟨_, he1, _, hat1⟩ := Slc.elem1 hS1 (getD_some 0 hb1.1 hb1.2)
      obtain ⟨rfl, hw1⟩ := he1
      obtain ⟨_, hsl2⟩ := Slc.sv hS1
      refine stp hA (r_six1 Tryd.underlying23 sz5 hsl2 hA rfl rfl hb1.1 hb1.2) rfl fun a hA => 
        stp hA (r_ldm1 [] [] Tryd.underlying5 rfl hI.agr hat1 hA rfl rfl) rfl fun a hA => 
        stp hA (r_as hA rfl) rfl fun a hA => 
        stp hA (r_as hA rfl) rfl fun a hA => ?_
      refine o_nil ?_
      refine hN7 _ _ ?_
      refine w_reg ?_
      refine stp hA (r_mv hA rfl) rfl fun a hA => 
        stp hA (r_mv hA rfl) rfl fun a hA => 
        stp hA (r_conv Tryd.underlying5 Tryd.underlying22 hA rfl) rfl fun a hA => 
        stp hA (r_mv hA rfl) rfl fun a hA => 
        stp hA (r_mul hA rfl rfl) rfl fun a hA => ?_
      obtain ⟨hb2, H⟩ := bG H
      refine stp hA (r_shl hA rfl rfl hb2) rfl fun a hA => 
        stp hA (r_or hA rfl rfl) rfl fun a hA => 
        stp hA (r_as hA rfl) rfl fun a hA => ?_
      refine o_nil ?_
      refine hN6 _ _ ?_
      refine w_reg ?_
      refine stp hA (r_add hA rfl rfl) rfl fun a hA => 
        stp hA (r_mv hA rfl) rfl fun a hA => ?_
      refine o_nil ?_
      exact ⟨m1, Nat.lt_succ_self _, bOr .u64 s1 (sL .u64 (IntKind.u64.wrap (r1.1.getD s2.toNat 0)) (IntKind.i64.wrap (8 * s2))), IntKind.i64.wrap (s2 + 1), H, (wrap_in _ _), (wrap_in _ _), hA.sub ⟨rfl, rfl, rfl, rfl, rfl, rfl, rfl, trivial⟩, hI⟩
    · have hc10 := hc1; have hc1 := of_decide_eq_false hc1; have H := bF H hc1
      refine w_exit rfl ?_
      have H : some (s1, r1.2.b, r1.2.at_, r1.2.err) = some z1 := H
      obtain rfl := Option.some.inj H
      have H := Hk2
      cases Option.some.inj (bS H)
      exact ⟨μ2, vp3, vp4, hi1.le, ws1, hp4, hp5, hp6, hA.sub ⟨rfl, rfl, rfl, rfl, trivial⟩, hI⟩
  · rintro a w ⟨μ1, vvc2, vvc4, hle1, wc1, wc2, wc3, wc4, hA, hI⟩
    have H := Hk1
    refine w_seq fun _ hN8 => ?_
    refine w_reg ?_
    refine stp hA (r_mv hA rfl) rfl fun a hA => 
      stp hA (r_as hA rfl) rfl fun a hA => ?_
    refine o_nil ?_
    refine hN8 _ _ ?_
    refine w_ret ?_
    obtain rfl := Option.some.inj (bS H)
    exact ret1 hA Tryd.results95 rfl ⟨_, rfl, vvc2, vvc4, μ1, rfl, wc1, wc2, wc3, wc4, hI⟩
set_option maxRecDepth 20000 in
theorem compact_Reader_Num.c (μ : Store) (w0 : World) (hμ : Agr μ w0) (x0 : compactReader) (vp1 : Value) (vp2 : Value) (g0 : Nat) (hp1 : Slc (RI .u8) 1 μ vp1 x0.b) (hp2 : InR .i64 x0.at_) (hp3 : ErS μ vp2 x0.err) (ho0 : Its μ w0 [cel g0 [[vp1], [.int .i64 x0.at_], [vp2]] 143]) (x1 : Int) (hx1 : InR .u64 x1) (e0 : Value) (he0 : ErS μ e0 (Er.b 1)) (e1 : Value) (he1 : ErS μ e1 (Er.b 2)) (e8 : Value) (he8 : ErS μ e8 (Er.b 9)) (r : Int × compactReader) (H : compact_Reader_Num.f x0 x1 = some r) :
    Calls Tryd.prog 27 [.pointer (some ⟨g0, 0, none⟩), .int .u64 x1].toArray w0 (fun e w' => ∃ v, e = .returned v ∧ ∃ (vp_1 : Value) (vp_2 : Value) (μ' : Store), v = .int .u64 (r.1) ∧ InR .u64 (r.1) ∧ Slc (RI .u8) 1 μ' vp_1 (r.2).b ∧ InR .i64 (r.2).at_ ∧ ErS μ' vp_2 (r.2).err ∧ Iv w0 (many [cel g0 [[vp1], [.int .i64 x0.at_], [vp2]] 143]).foot μ μ' [cel g0 [[vp_1], [.int .i64 ((r.2).at_)], [vp_2]] 143] w') := by
  refine enter Tryd.func27 rfl Tryd.ntmps27 rfl fun a hA => ?_
  have hI := Iv.startN hμ ho0
  have H := bI H
  refine w_seq fun _ hN1 => ?_
  refine w_reg ?_
  refine stp hA (r_as hA rfl) rfl fun a hA => ?_
  refine o_nil ?_
  refine hN1 _ _ ?_
  refine w_seq fun _ hN2 => ?_
  refine w_reg ?_
  refine stp hA (r_mv hA rfl) rfl fun a hA => ?_
  obtain ⟨r1, hr1, H⟩ := bB H
  refine o_call _ cf95 hA rfl (compact_Reader_whole.c μ _ hI.agr x0 vp1 vp2 g0 hp1 hp2 hp3 (hI.handN 1) 1 (in_lit .i64 1 rfl) e8 he8 r1 hr1) rfl fun v1 a w hz1 hA => ?_
  obtain ⟨vp3, vp4, μ1, rfl, hw1, hp4, hp5, hp6, hi1⟩ := hz1
  have hI := hI.backN 1 hi1
  have hI : Iv w0 (many [cel g0 [[vp1], [.int .i64 x0.at_], [vp2]] 143]).foot μ μ1 [cel g0 [[vp3], [.int .i64 r1.2.at_], [vp4]] 143] w := hI
  refine stp hA (r_as hA rfl) rfl fun a hA => ?_
  refine o_nil ?_
  refine hN2 _ _ ?_
  refine w_seq fun _ hN3 => ?_
  refine w_reg ?_
  refine stp hA (r_as hA rfl) rfl fun a hA => ?_
  refine o_nil ?_
  refine hN3 _ _ ?_
  obtain ⟨c1, hz2, Hk1⟩ := bB H
  refine w_cut (fun a w => InR .i64 c1 ∧ Fr a 46 [(0, .pointer (some ⟨g0, 0, none⟩)), (1, .int .u64 x1), (4, .int .u64 0), (5, .int .u64 r1.1), (6, .int .i64 c1)] ∧ Iv w0 (many [cel g0 [[vp1], [.int .i64 x0.at_], [vp2]] 143]).foot μ μ1 [cel g0 [[vp3], [.int .i64 r1.2.at_], [vp4]] 143] w) ?_ ?_
  · have H := bI hz2
    refine w_seq fun _ hN4 => ?_
    refine w_reg ?_
    refine stp hA (r_mv hA rfl) rfl fun a hA => ?_
    refine o_nil ?_
    refine hN4 _ _ ?_
    refine w_block ?_
    refine w_seq fun _ hN5 => ?_
    refine w_reg ?_
    refine stp hA (r_eql hA rfl rfl) rfl fun a hA => 
      stp hA (r_as hA rfl) rfl fun a hA => ?_
    refine o_nil ?_
    refine hN5 _ _ ?_
    refine w_cond hA rfl (fun hc1 => ?_) (fun hc1 => ?_)
    · have hc10 := hc1; have hc1 := of_decide_eq_true hc1; have H := bT H hc1
      refine w_reg ?_
      refine stp hA (r_as hA rfl) rfl fun a hA => ?_
      refine o_nil ?_
      cases Option.some.inj (bS H)
      exact ⟨(in_lit .i64 2 rfl), hA.sub ⟨rfl, rfl, rfl, rfl, rfl, trivial⟩, hI⟩
    · have hc10 := hc1; have hc1 := of_decide_eq_false hc1; have H := bF H hc1
      refine w_seq fun _ hN6 => ?_
      refine w_reg ?_
      refine stp hA (r_eql hA rfl rfl) rfl fun a hA => 
        stp hA (r_as hA rfl) rfl fun a hA => ?_
      refine o_nil ?_
      refine hN6 _ _ ?_
      refine w_cond hA rfl (fun hc2 => ?_) (fun hc2 => ?_)
      · have hc20 := hc2; have hc2 := of_decide_eq_true hc2; have H := bT H hc2
        refine w_reg ?_
        refine stp hA (r_as hA rfl) rfl fun a hA => ?_
        refine o_nil ?_
        cases Option.some.inj (bS H)
        exact ⟨(in_lit .i64 4 rfl), hA.sub ⟨rfl, rfl, rfl, rfl, rfl, trivial⟩, hI⟩
      · have hc20 := hc2; have hc2 := of_decide_eq_false hc2; have H := bF H hc2
        refine w_seq fun _ hN7 => ?_
        refine w_reg ?_
        refine stp hA (r_eql hA rfl rfl) rfl fun a hA => 
          stp hA (r_as hA rfl) rfl fun a hA => ?_
        refine o_nil ?_
        refine hN7 _ _ ?_
        refine w_cond hA rfl (fun hc3 => ?_) (fun hc3 => ?_)
        · have hc30 := hc3; have hc3 := of_decide_eq_true hc3; have H := bT H hc3
          refine w_reg ?_
          refine stp hA (r_as hA rfl) rfl fun a hA => ?_
          refine o_nil ?_
          cases Option.some.inj (bS H)
          exact ⟨(in_lit .i64 8 rfl), hA.sub ⟨rfl, rfl, rfl, rfl, rfl, trivial⟩, hI⟩
        · have hc30 := hc3; have hc3 := of_decide_eq_false hc3; have H := bF H hc3
          refine w_skip ?_
          cases Option.some.inj (bS H)
          exact ⟨(in_lit .i64 0 rfl), hA.sub ⟨rfl, rfl, rfl, rfl, rfl, trivial⟩, hI⟩
  · rintro a w ⟨wc1, hA, hI⟩
    have H := Hk1
    obtain ⟨⟨c2, c3, c4, c5⟩, hz3, Hk2⟩ := bB H
    refine w_cut (fun a w => ∃ (μ2 : Store) (vvc3 : Value) (vvc5 : Value), μ1.le μ2 ∧ InR .u64 c2 ∧ Slc (RI .u8) 1 μ2 vvc3 c3 ∧ InR .i64 c4 ∧ ErS μ2 vvc5 c5 ∧ Fr a 46 [(0, .pointer (some ⟨g0, 0, none⟩)), (1, .int .u64 x1), (4, .int .u64 0), (5, .int .u64 c2), (6, .int .i64 c1)] ∧ Iv w0 (many [cel g0 [[vp1], [.int .i64 x0.at_], [vp2]] 143]).foot μ μ2 [cel g0 [[vvc3], [.int .i64 c4], [vvc5]] 143] w) ?_ ?_
    · have H := bI hz3
      refine w_seq fun _ hN8 => ?_
      refine w_reg ?_
      refine stp hA (r_mv hA rfl) rfl fun a hA => 
        stp hA (r_gtr hA rfl rfl) rfl fun a hA => ?_
      refine o_nil ?_
      refine hN8 _ _ ?_
      refine w_cond hA rfl (fun hc4 => ?_) (fun hc4 => ?_)
      · have hc40 := hc4; have hc4 := of_decide_eq_true hc4; have H := bT H hc4
        refine w_reg ?_
        refine stp hA (r_mv hA rfl) rfl fun a hA => 
          stp hA (r_mv hA rfl) rfl fun a hA => ?_
        obtain ⟨r2, hr2, H⟩ := bB H
        refine o_call _ cf95 hA rfl (compact_Reader_whole.c μ1 _ hI.agr r1.2 vp3 vp4 g0 hp4 hp5 hp6 (hI.handN 1) c1 wc1 e8 (ErV.le (fun _ _ h => h) hi1.le he8) r2 hr2) rfl fun v2 a w hz4 hA => ?_
        obtain ⟨vp5, vp6, μ3, rfl, hw2, hp7, hp8, hp9, hi2⟩ := hz4
        have hI := hI.backN 1 hi2
        have hI : Iv w0 (many [cel g0 [[vp1], [.int .i64 x0.at_], [vp2]] 143]).foot μ μ3 [cel g0 [[vp5], [.int .i64 r2.2.at_], [vp6]] 143] w := hI
        refine stp hA (r_as hA rfl) rfl fun a hA => ?_
        refine o_nil ?_
        cases Option.some.inj (bS H)
        exact ⟨μ3, vp5, vp6, hi2.le, hw2, hp7, hp8, hp9, hA.sub ⟨rfl, rfl, rfl, rfl, rfl, trivial⟩, hI⟩
      · have hc40 := hc4; have hc4 := of_decide_eq_false hc4; have H := bF H hc4
        refine w_skip ?_
        cases Option.some.inj (bS H)
        exact ⟨μ1, vp3, vp4, (Store.le.refl _), hw1, hp4, hp5, hp6, hA.sub ⟨rfl, rfl, rfl, rfl, rfl, trivial⟩, hI⟩
    · rintro a w ⟨μ2, vvc3, vvc5, hle1, wc2, wc3, wc4, wc5, hA, hI⟩
      have H := Hk2
      refine w_seq fun _ hN9 => ?_
      refine w_block ?_
      refine w_seq fun _ hN10 => ?_
      refine w_reg ?_
      refine stp hA (r_mv hA rfl) rfl fun a hA => 
        stp hA (r_nilc hA rfl) rfl fun a hA => 
        stp hA (r_fd (k := 2) Tryd.underlying143 rfl sz34 hA rfl rfl) rfl fun a hA => 
        stp hA (r_ld1 (j := 0) [[vvc3], [.int .i64 c4]] [] Tryd.underlying34 rfl hI rfl hA rfl rfl) rfl fun a hA => 
        stp hA (r_neE erF hI.agr wc5 erv_nil (.inl ⟨.inr ⟨_, rfl⟩, Er.fitR⟩) hA rfl rfl) rfl fun a hA => 
        stp hA (r_as hA rfl) rfl fun a hA => ?_
      refine o_nil ?_
      refine hN10 _ _ ?_
      refine w_cond hA rfl (fun hc5 => ?_) (fun hc5 => ?_)
      · have hc50 := hc5; have hc5 := of_decide_eq_true hc5; have H := bT H hc5
        refine w_skip ?_
        refine hN9 _ _ ?_
        refine w_seq fun _ hN11 => ?_
        refine w_reg ?_
        refine stp hA (r_as hA rfl) rfl fun a hA => ?_
        refine o_nil ?_
        refine hN11 _ _ ?_
        refine w_ret ?_
        obtain rfl := Option.some.inj (bS H)
        exact ret1 hA Tryd.results27 rfl ⟨_, rfl, vvc3, vvc5, μ2, rfl, (in_lit .u64 0 rfl), wc3, wc4, wc5, hI⟩
      · have hc50 := hc5; have hc5 := of_decide_eq_false hc5; have H := bF H hc5
        refine w_seq fun _ hN12 => ?_
        refine w_reg ?_
        refine stp hA (r_mv hA rfl) rfl fun a hA => ?_
        obtain ⟨r3, hr3, H⟩ := bB H
        refine o_callp (u := .int .i64 r3) cf24 hA rfl hI (compact_Len.c μ2 _ hI.agr c2 wc2 r3 hr3) rfl fun a w hz5 hI hA => 
          stp hA (r_mv hA rfl) rfl fun a hA => 
          stp hA (r_add hA rfl rfl) rfl fun a hA => 
          stp hA (r_neq hA rfl rfl) rfl fun a hA => 
          stp hA (r_as hA rfl) rfl fun a hA => ?_
        refine o_nil ?_
        refine hN12 _ _ ?_
        refine w_cond hA rfl (fun hc6 => ?_) (fun hc6 => ?_)
        · have hc60 := hc6; have hc6 := of_decide_eq_true hc6; have H := bT H hc6
          refine w_reg ?_
          refine stp hA (r_mv hA rfl) rfl fun a hA => 
            stp hA (r_ldG Tryd.underlying34 rfl hI.agr (ErV.le (fun _ _ h => h) (hi1.le.trans hle1) he0) hA) rfl fun a hA => 
            stp hA (r_nilc hA rfl) rfl fun a hA => 
            stp hA (r_fd (k := 2) Tryd.underlying143 rfl sz34 hA rfl rfl) rfl fun a hA => ?_
          have hsc : ErS μ2 e0 xErrShape := (ErV.le (fun _ _ h => h) (hi1.le.trans hle1) he0)
          refine o_st (j := 0) [[vvc3], [.int .i64 c4]] [[vvc5]] [[e0]] [] sz34 rfl rfl (by intro c hc; simp at hc; subst hc; exact ErV.one hsc) hI rfl hA rfl rfl (cells_err hsc) rfl fun w hI => ?_
          refine o_nil ?_
          refine hN9 _ _ ?_
          refine w_seq fun _ hN13 => ?_
          refine w_reg ?_
          refine stp hA (r_as hA rfl) rfl fun a hA => ?_
          refine o_nil ?_
          refine hN13 _ _ ?_
          refine w_ret ?_
          obtain rfl := Option.some.inj (bS H)
          exact ret1 hA Tryd.results27 rfl ⟨_, rfl, vvc3, e0, μ2, rfl, (in_lit .u64 0 rfl), wc3, wc4, (ErV.le (fun _ _ h => h) (hi1.le.trans hle1) he0), hI⟩
        · have hc60 := hc6; have hc6 := of_decide_eq_false hc6; have H := bF H hc6
          refine w_seq fun _ hN14 => ?_
          refine w_reg ?_
          refine stp hA (r_mv hA rfl) rfl fun a hA => 
            stp hA (r_mv hA rfl) rfl fun a hA => 
            stp hA (r_gtr hA rfl rfl) rfl fun a hA => 
            stp hA (r_as hA rfl) rfl fun a hA => ?_
          refine o_nil ?_
          refine hN14 _ _ ?_
          refine w_cond hA rfl (fun hc7 => ?_) (fun hc7 => ?_)
          · have hc70 := hc7; have hc7 := of_decide_eq_true hc7; have H := bT H hc7
            refine w_reg ?_
            refine stp hA (r_mv hA rfl) rfl fun a hA => 
              stp hA (r_ldG Tryd.underlying34 rfl hI.agr (ErV.le (fun _ _ h => h) (hi1.le.trans hle1) he1) hA) rfl fun a hA => 
              stp hA (r_nilc hA rfl) rfl fun a hA => 
              stp hA (r_fd (k := 2) Tryd.underlying143 rfl sz34 hA rfl rfl) rfl fun a hA => ?_
            have hsc : ErS μ2 e1 xErrMany := (ErV.le (fun _ _ h => h) (hi1.le.trans hle1) he1)
            refine o_st (j := 0) [[vvc3], [.int .i64 c4]] [[vvc5]] [[e1]] [] sz34 rfl rfl (by intro c hc; simp at hc; subst hc; exact ErV.one hsc) hI rfl hA rfl rfl (cells_err hsc) rfl fun w hI => ?_
            refine o_nil ?_
            refine hN9 _ _ ?_
            refine w_seq fun _ hN15 => ?_
            refine w_reg ?_
            refine stp hA (r_as hA rfl) rfl fun a hA => ?_
            refine o_nil ?_
            refine hN15 _ _ ?_
            refine w_ret ?_
            obtain rfl := Option.some.inj (bS H)
            exact ret1 hA Tryd.results27 rfl ⟨_, rfl, vvc3, e1, μ2, rfl, (in_lit .u64 0 rfl), wc3, wc4, (ErV.le (fun _ _ h => h) (hi1.le.trans hle1) he1), hI⟩
          · have hc70 := hc7; have hc7 := of_decide_eq_false hc7; have H := bF H hc7
            refine w_seq fun _ hN16 => ?_
            refine w_reg ?_
            refine stp hA (r_mv hA rfl) rfl fun a hA => 
              stp hA (r_as hA rfl) rfl fun a hA => ?_
            refine o_nil ?_
            refine hN16 _ _ ?_
            refine w_ret ?_
            obtain rfl := Option.some.inj (bS H)
            exact ret1 hA Tryd.results27 rfl ⟨_, rfl, vvc3, vvc5, μ2, rfl, wc2, wc3, wc4, wc5, hI⟩
set_option maxRecDepth 20000 in
theorem compact_Reader_Left.c (μ : Store) (w0 : World) (hμ : Agr μ w0) (x0 : compactReader) (vp1 : Value) (vp2 : Value) (g0 : Nat) (hp1 : Slc (RI .u8) 1 μ vp1 x0.b) (hp2 : InR .i64 x0.at_) (hp3 : ErS μ vp2 x0.err) (ho0 : Its μ w0 [cel g0 [[vp1], [.int .i64 x0.at_], [vp2]] 143]) (r : Int) (H : compact_Reader_Left.f x0 = some r) :
    Calls Tryd.prog 28 [.pointer (some ⟨g0, 0, none⟩)].toArray w0 (fun e w' => ∃ v, e = .returned v ∧ v = .int .i64 r ∧ InR .i64 r ∧ Iv w0 (many [cel g0 [[vp1], [.int .i64 x0.at_], [vp2]] 143]).foot μ μ [cel g0 [[vp1], [.int .i64 x0.at_], [vp2]] 143] w') := by
  refine enter Tryd.func28 rfl Tryd.ntmps28 rfl fun a hA => ?_
  have hI := Iv.startN hμ ho0
  have H := bI H
  refine w_seq fun _ hN1 => ?_
  refine w_reg ?_
  refine stp hA (r_as hA rfl) rfl fun a hA => ?_
  refine o_nil ?_
  refine hN1 _ _ ?_
  refine w_seq fun _ hN2 => ?_
  refine w_draw mo (by kernel_rfl) hI ?_
  refine qtp hA (fun _ hI => r_mv hA rfl) rfl fun a hA => 
    qtp hA (fun _ hI => r_nilc hA rfl) rfl fun a hA => 
    qtp hA (fun _ hI => r_fd (k := 0) Tryd.underlying143 rfl sz23 hA rfl rfl) rfl fun a hA => 
    qtp hA (fun _ hI => r_ld1 (j := 0) [] [[.int .i64 x0.at_], [vp2]] Tryd.underlying23 rfl hI rfl hA rfl rfl) rfl fun a hA => ?_
  obtain ⟨_, hsl1⟩ := Slc.sv hp1
  refine qtp hA (fun _ hI => r_slen Tryd.underlying23 hsl1 hA rfl) rfl fun a hA => 
    qtp hA (fun _ hI => r_mv hA rfl) rfl fun a hA => 
    qtp hA (fun _ hI => r_nilc hA rfl) rfl fun a hA => 
    qtp hA (fun _ hI => r_fd (k := 1) Tryd.underlying143 rfl sz3 hA rfl rfl) rfl fun a hA => 
    qtp hA (fun _ hI => r_ld1 (j := 0) [[vp1]] [[vp2]] Tryd.underlying3 rfl hI rfl hA rfl rfl) rfl fun a hA => 
    qtp hA (fun _ hI => r_sub hA rfl rfl) rfl fun a hA => 
    qtp hA (fun _ hI => r_as hA rfl) rfl fun a hA => ?_
  refine q_nil fun w hI => ?_
  refine hN2 _ _ ?_
  refine w_ret ?_
  obtain rfl := Option.some.inj (bS H)
  exact ret1 hA Tryd.results28 rfl ⟨_, rfl, rfl, (wrap_in _ _), (hI.less (Store.le.refl _) hI.le)⟩
set_option maxRecDepth 20000 in
theorem compact_Reader_Err.c (μ : Store) (w0 : World) (hμ : Agr μ w0) (x0 : compactReader) (vp1 : Value) (vp2 : Value) (g0 : Nat) (hp1 : Slc (RI .u8) 1 μ vp1 x0.b) (hp2 : InR .i64 x0.at_) (hp3 : ErS μ vp2 x0.err) (ho0 : Its μ w0 [cel g0 [[vp1], [.int .i64 x0.at_], [vp2]] 143]) (r : Er) (H : compact_Reader_Err.f x0 = some r) :
    Calls Tryd.prog 30 [.pointer (some ⟨g0, 0, none⟩)].toArray w0 (fun e w' => ∃ v, e = .returned v ∧ ∃ (v0 : Value) (μ' : Store), v = v0 ∧ ErS μ' v0 r ∧ Iv w0 (many [cel g0 [[vp1], [.int .i64 x0.at_], [vp2]] 143]).foot μ μ' [cel g0 [[vp1], [.int .i64 x0.at_], [vp2]] 143] w') := by
  refine enter Tryd.func30 rfl Tryd.ntmps30 rfl fun a hA => ?_
  have hI := Iv.startN hμ ho0
  have H := bI H
  refine w_seq fun _ hN1 => ?_
  refine w_reg ?_
  refine stp hA (r_as hA rfl) rfl fun a hA => ?_
  refine o_nil ?_
  refine hN1 _ _ ?_
  refine w_seq fun _ hN2 => ?_
  refine w_reg ?_
  refine stp hA (r_mv hA rfl) rfl fun a hA => 
    stp hA (r_nilc hA rfl) rfl fun a hA => 
    stp hA (r_fd (k := 2) Tryd.underlying143 rfl sz34 hA rfl rfl) rfl fun a hA => 
    stp hA (r_ld1 (j := 0) [[vp1], [.int .i64 x0.at_]] [] Tryd.underlying34 rfl hI rfl hA rfl rfl) rfl fun a hA => 
    stp hA (r_as hA rfl) rfl fun a hA => ?_
  refine o_nil ?_
  refine hN2 _ _ ?_
  refine w_ret ?_
  obtain rfl := Option.some.inj (bS H)
  exact ret1 hA Tryd.results30 rfl ⟨_, rfl, vp2, μ, rfl, hp3, hI⟩
set_option maxRecDepth 20000 in
theorem compact_Four.c (μ : Store) (w0 : World) (hμ : Agr μ w0) (x0 : List Int) (u0 : Value) (hx0 : Slc (RI .u8) 1 μ u0 x0) (x1 : Int) (hx1 : InR .u32 x1) (r : List Int) (H : compact_Four.f x0 x1 = some r) :
    Calls Tryd.prog 32 [u0, .int .u32 x1].toArray w0 (fun e w' => ∃ v, e = .returned v ∧ ∃ (v0 : Value) (c0 : List Value), v = v0 ∧ Els (RI .u8) 1 r c0 ∧ Iv w0 [] μ μ [row 5 1 v0 r.length c0] w') := by
  refine enter Tryd.func32 rfl Tryd.ntmps32 rfl fun a hA => ?_
  have hI := Iv.start hμ
  have H := bI H
  refine w_seq fun _ hN1 => ?_
  refine w_reg ?_
  refine stp hA (r_as hA rfl) rfl fun a hA => ?_
  refine o_nil ?_
  refine hN1 _ _ ?_
  refine w_seq fun _ hN2 => ?_
  refine w_reg ?_
  refine stp hA (r_mv hA rfl) rfl fun a hA => ?_
  obtain ⟨r1, hr1, H⟩ := bB H
  refine o_call _ cf93 hA rfl (bytes_Clone.c μ _ hI.agr x0 u0 hx0 r1 hr1) rfl fun v1 a w hz1 hA => ?_
  obtain ⟨_, cs1, rfl, hE1, hi1⟩ := hz1
  have hI := hI.call hi1
  refine stp hA (r_mv hA rfl) rfl fun a hA => 
    stp hA (r_conv Tryd.underlying39 Tryd.underlying22 hA rfl) rfl fun a hA => ?_
  obtain ⟨r2, hr2, H⟩ := bB H
  refine o_call _ cf94 hA rfl (compact_number.c μ _ hI.agr r1 v1 cs1 hE1 (hI.item (j := 0) rfl) (IntKind.u64.wrap x1) (wrap_in _ _) 4 (in_lit .i64 4 rfl) r2 hr2) rfl fun v2 a w hz2 hA => ?_
  obtain ⟨_, cs2, rfl, hE2, hi2⟩ := hz2
  have hI := hI.call1 0 rfl hi2
  refine stp hA (r_as hA rfl) rfl fun a hA => ?_
  refine o_nil ?_
  refine hN2 _ _ ?_
  refine w_ret ?_
  obtain rfl := Option.some.inj (bS H)
  exact ret1 hA Tryd.results32 rfl ⟨_, rfl, v2, cs2, rfl, hE2, (hI.less (Store.le.refl _) hI.le)⟩
set_option maxRecDepth 20000 in
theorem compact_Eight.c (μ : Store) (w0 : World) (hμ : Agr μ w0) (x0 : List Int) (u0 : Value) (hx0 : Slc (RI .u8) 1 μ u0 x0) (x1 : Int) (hx1 : InR .u64 x1) (r : List Int) (H : compact_Eight.f x0 x1 = some r) :
    Calls Tryd.prog 33 [u0, .int .u64 x1].toArray w0 (fun e w' => ∃ v, e = .returned v ∧ ∃ (v0 : Value) (c0 : List Value), v = v0 ∧ Els (RI .u8) 1 r c0 ∧ Iv w0 [] μ μ [row 5 1 v0 r.length c0] w') := by
  refine enter Tryd.func33 rfl Tryd.ntmps33 rfl fun a hA => ?_
  have hI := Iv.start hμ
  have H := bI H
  refine w_seq fun _ hN1 => ?_
  refine w_reg ?_
  refine stp hA (r_as hA rfl) rfl fun a hA => ?_
  refine o_nil ?_
  refine hN1 _ _ ?_
  refine w_seq fun _ hN2 => ?_
  refine w_reg ?_
  refine stp hA (r_mv hA rfl) rfl fun a hA => ?_
  obtain ⟨r1, hr1, H⟩ := bB H
  refine o_call _ cf93 hA rfl (bytes_Clone.c μ _ hI.agr x0 u0 hx0 r1 hr1) rfl fun v1 a w hz1 hA => ?_
  obtain ⟨_, cs1, rfl, hE1, hi1⟩ := hz1
  have hI := hI.call hi1
  refine stp hA (r_mv hA rfl) rfl fun a hA => ?_
  obtain ⟨r2, hr2, H⟩ := bB H
  refine o_call _ cf94 hA rfl (compact_number.c μ _ hI.agr r1 v1 cs1 hE1 (hI.item (j := 0) rfl) x1 hx1 8 (in_lit .i64 8 rfl) r2 hr2) rfl fun v2 a w hz2 hA => ?_
  obtain ⟨_, cs2, rfl, hE2, hi2⟩ := hz2
  have hI := hI.call1 0 rfl hi2
  refine stp hA (r_as hA rfl) rfl fun a hA => ?_
  refine o_nil ?_
  refine hN2 _ _ ?_
  refine w_ret ?_
  obtain rfl := Option.some.inj (bS H)
  exact ret1 hA Tryd.results33 rfl ⟨_, rfl, v2, cs2, rfl, hE2, (hI.less (Store.le.refl _) hI.le)⟩
set_option maxRecDepth 20000 in
theorem compact_Reader_Eight.c (μ : Store) (w0 : World) (hμ : Agr μ w0) (x0 : compactReader) (vp1 : Value) (vp2 : Value) (g0 : Nat) (hp1 : Slc (RI .u8) 1 μ vp1 x0.b) (hp2 : InR .i64 x0.at_) (hp3 : ErS μ vp2 x0.err) (ho0 : Its μ w0 [cel g0 [[vp1], [.int .i64 x0.at_], [vp2]] 143]) (e8 : Value) (he8 : ErS μ e8 (Er.b 9)) (r : Int × compactReader) (H : compact_Reader_Eight.f x0 = some r) :
    Calls Tryd.prog 34 [.pointer (some ⟨g0, 0, none⟩)].toArray w0 (fun e w' => ∃ v, e = .returned v ∧ ∃ (vp_1 : Value) (vp_2 : Value) (μ' : Store), v = .int .u64 (r.1) ∧ InR .u64 (r.1) ∧ Slc (RI .u8) 1 μ' vp_1 (r.2).b ∧ InR .i64 (r.2).at_ ∧ ErS μ' vp_2 (r.2).err ∧ Iv w0 (many [cel g0 [[vp1], [.int .i64 x0.at_], [vp2]] 143]).foot μ μ' [cel g0 [[vp_1], [.int .i64 ((r.2).at_)], [vp_2]] 143] w') := by
  refine enter Tryd.func34 rfl Tryd.ntmps34 rfl fun a hA => ?_
  have hI := Iv.startN hμ ho0
  have H := bI H
  refine w_seq fun _ hN1 => ?_
  refine w_reg ?_
  refine stp hA (r_as hA rfl) rfl fun a hA => ?_
  refine o_nil ?_
  refine hN1 _ _ ?_
  refine w_seq fun _ hN2 => ?_
  refine w_reg ?_
  refine stp hA (r_mv hA rfl) rfl fun a hA => ?_
  obtain ⟨r1, hr1, H⟩ := bB H
  refine o_call _ cf95 hA rfl (compact_Reader_whole.c μ _ hI.agr x0 vp1 vp2 g0 hp1 hp2 hp3 (hI.handN 1) 8 (in_lit .i64 8 rfl) e8 he8 r1 hr1) rfl fun v1 a w hz1 hA => ?_
  obtain ⟨vp3, vp4, μ1, rfl, hw1, hp4, hp5, hp6, hi1⟩ := hz1
  have hI := hI.backN 1 hi1
  have hI : Iv w0 (many [cel g0 [[vp1], [.int .i64 x0.at_], [vp2]] 143]).foot μ μ1 [cel g0 [[vp3], [.int .i64 r1.2.at_], [vp4]] 143] w := hI
  refine stp hA (r_as hA rfl) rfl fun a hA => ?_
  refine o_nil ?_
  refine hN2 _ _ ?_
  refine w_ret ?_
  obtain rfl := Option.some.inj (bS H)
  exact ret1 hA Tryd.results34 rfl ⟨_, rfl, vp3, vp4, μ1, rfl, hw1, hp4, hp5, hp6, hI⟩
set_option maxRecDepth 20000 in
theorem compact_Reader_Four.c (μ : Store) (w0 : World) (hμ : Agr μ w0) (x0 : compactReader) (vp1 : Value) (vp2 : Value) (g0 : Nat) (hp1 : Slc (RI .u8) 1 μ vp1 x0.b) (hp2 : InR .i64 x0.at_) (hp3 : ErS μ vp2 x0.err) (ho0 : Its μ w0 [cel g0 [[vp1], [.int .i64 x0.at_], [vp2]] 143]) (e8 : Value) (he8 : ErS μ e8 (Er.b 9)) (r : Int × compactReader) (H : compact_Reader_Four.f x0 = some r) :
    Calls Tryd.prog 35 [.pointer (some ⟨g0, 0, none⟩)].toArray w0 (fun e w' => ∃ v, e = .returned v ∧ ∃ (vp_1 : Value) (vp_2 : Value) (μ' : Store), v = .int .u32 (r.1) ∧ InR .u32 (r.1) ∧ Slc (RI .u8) 1 μ' vp_1 (r.2).b ∧ InR .i64 (r.2).at_ ∧ ErS μ' vp_2 (r.2).err ∧ Iv w0 (many [cel g0 [[vp1], [.int .i64 x0.at_], [vp2]] 143]).foot μ μ' [cel g0 [[vp_1], [.int .i64 ((r.2).at_)], [vp_2]] 143] w') := by
  refine enter Tryd.func35 rfl Tryd.ntmps35 rfl fun a hA => ?_
  have hI := Iv.startN hμ ho0
  have H := bI H
  refine w_seq fun _ hN1 => ?_
  refine w_reg ?_
  refine stp hA (r_as hA rfl) rfl fun a hA => ?_
  refine o_nil ?_
  refine hN1 _ _ ?_
  refine w_seq fun _ hN2 => ?_
  refine w_reg ?_
  refine stp hA (r_mv hA rfl) rfl fun a hA => ?_
  obtain ⟨r1, hr1, H⟩ := bB H
  refine o_call _ cf95 hA rfl (compact_Reader_whole.c μ _ hI.agr x0 vp1 vp2 g0 hp1 hp2 hp3 (hI.handN 1) 4 (in_lit .i64 4 rfl) e8 he8 r1 hr1) rfl fun v1 a w hz1 hA => ?_
  obtain ⟨vp3, vp4, μ1, rfl, hw1, hp4, hp5, hp6, hi1⟩ := hz1
  have hI := hI.backN 1 hi1
  have hI : Iv w0 (many [cel g0 [[vp1], [.int .i64 x0.at_], [vp2]] 143]).foot μ μ1 [cel g0 [[vp3], [.int .i64 r1.2.at_], [vp4]] 143] w := hI
  refine stp hA (r_conv Tryd.underlying22 Tryd.underlying39 hA rfl) rfl fun a hA => 
    stp hA (r_as hA rfl) rfl fun a hA => ?_
  refine o_nil ?_
  refine hN2 _ _ ?_
  refine w_ret ?_
  obtain rfl := Option.some.inj (bS H)
  exact ret1 hA Tryd.results35 rfl ⟨_, rfl, vp3, vp4, μ1, rfl, (wrap_in _ _), hp4, hp5, hp6, hI⟩
set_option maxRecDepth 20000 in
theorem compact_Reader_Bytes.c (μ : Store) (w0 : World) (hμ : Agr μ w0) (x0 : compactReader) (vp1 : Value) (vp2 : Value) (g0 : Nat) (hp1 : Slc (RI .u8) 1 μ vp1 x0.b) (hp2 : InR .i64 x0.at_) (hp3 : ErS μ vp2 x0.err) (ho0 : Its μ w0 [cel g0 [[vp1], [.int .i64 x0.at_], [vp2]] 143]) (x1 : Int) (hx1 : InR .i64 x1) (e8 : Value) (he8 : ErS μ e8 (Er.b 9)) (r : (List Int) × compactReader) (H : compact_Reader_Bytes.f x0 x1 = some r) :
    Calls Tryd.prog 37 [.pointer (some ⟨g0, 0, none⟩), .int .i64 x1].toArray w0 (fun e w' => ∃ v, e = .returned v ∧ ∃ (v0 : Value) (c0 : List Value) (vp_1 : Value) (vp_2 : Value) (μ' : Store), v = v0 ∧ Els (RI .u8) 1 (r.1) c0 ∧ Slc (RI .u8) 1 μ' vp_1 (r.2).b ∧ InR .i64 (r.2).at_ ∧ ErS μ' vp_2 (r.2).err ∧ Iv w0 (many [cel g0 [[vp1], [.int .i64 x0.at_], [vp2]] 143]).foot μ μ' [row 5 1 v0 (r.1).length c0, cel g0 [[vp_1], [.int .i64 ((r.2).at_)], [vp_2]] 143] w') := by
  refine enter Tryd.func37 rfl Tryd.ntmps37 rfl fun a hA => ?_
  have hI := Iv.startN hμ ho0
  have H := bI H
  refine w_seq fun _ hN1 => ?_
  refine w_reg ?_
  refine stp hA (r_as hA rfl) rfl fun a hA => ?_
  refine o_nil ?_
  refine hN1 _ _ ?_
  refine w_seq fun _ hN2 => ?_
  refine w_seq fun _ hN3 => ?_
  refine w_reg ?_
  refine stp hA (r_mv hA rfl) rfl fun a hA => 
    stp hA (r_leq hA rfl rfl) rfl fun a hA => ?_
  refine o_nil ?_
  refine hN3 _ _ ?_
  refine w_cond hA rfl (fun hc1 => ?_) (fun hc1 => ?_)
  · have hc10 := hc1; have hc1 := of_decide_eq_true hc1; have H := bT H hc1
    refine w_seq fun _ hN4 => ?_
    refine w_reg ?_
    refine stp hA (r_as hA rfl) rfl fun a hA => ?_
    refine o_nil ?_
    refine hN4 _ _ ?_
    refine w_ret ?_
    have hI := hI.nilRow 5 1
    obtain rfl := Option.some.inj (bS H)
    exact ret1 hA Tryd.results37 rfl ⟨_, rfl, (.slice none 0 0), [], vp1, vp2, μ, rfl, (Els.nil (RE := (RI .u8)) (sz := 1)), hp1, hp2, hp3, hI⟩
  · have hc10 := hc1; have hc1 := of_decide_eq_false hc1; have H := bF H hc1
    refine w_skip ?_
    refine hN2 _ _ ?_
    refine w_seq fun _ hN5 => ?_
    refine w_reg ?_
    refine stp hA (r_mv hA rfl) rfl fun a hA => 
      stp hA (r_mv hA rfl) rfl fun a hA => ?_
    obtain ⟨r1, hr1, H⟩ := bB H
    refine o_call _ cf97 hA rfl (compact_Reader_next.c μ _ hI.agr x0 vp1 vp2 g0 hp1 hp2 hp3 (hI.handN 1) x1 hx1 e8 he8 r1 hr1) rfl fun v1 a w hz1 hA => ?_
    obtain ⟨_, vp3, vp4, μ1, rfl, hS1, hp4, hp5, hp6, hi1⟩ := hz1
    have hI := hI.backN 1 hi1
    have hI : Iv w0 (many [cel g0 [[vp1], [.int .i64 x0.at_], [vp2]] 143]).foot μ μ1 [cel g0 [[vp3], [.int .i64 r1.2.at_], [vp4]] 143] w := hI
    obtain ⟨r2, hr2, H⟩ := bB H
    refine o_call _ cf93 hA rfl (bytes_Clone.c μ1 _ hI.agr r1.1 v1 hS1 r2 hr2) rfl fun v2 a w hz2 hA => ?_
    obtain ⟨_, cs1, rfl, hE1, hi2⟩ := hz2
    have hI := hI.call hi2
    refine stp hA (r_as hA rfl) rfl fun a hA => ?_
    refine o_nil ?_
    refine hN5 _ _ ?_
    refine w_ret ?_
    obtain rfl := Option.some.inj (bS H)
    exact ret1 hA Tryd.results37 rfl ⟨_, rfl, v2, cs1, vp3, vp4, μ1, rfl, hE1, hp4, hp5, hp6, hI⟩
set_option maxRecDepth 20000 in
theorem compact_Reader_Hash.c (μ : Store) (w0 : World) (hμ : Agr μ w0) (x0 : compactReader) (vp1 : Value) (vp2 : Value) (g0 : Nat) (hp1 : Slc (RI .u8) 1 μ vp1 x0.b) (hp2 : InR .i64 x0.at_) (hp3 : ErS μ vp2 x0.err) (ho0 : Its μ w0 [cel g0 [[vp1], [.int .i64 x0.at_], [vp2]] 143]) (e8 : Value) (he8 : ErS μ e8 (Er.b 9)) (r : (List Int) × compactReader) (H : compact_Reader_Hash.f x0 = some r) :
    Calls Tryd.prog 42 [.pointer (some ⟨g0, 0, none⟩)].toArray w0 (fun e w' => ∃ v, e = .returned v ∧ ∃ (vp_1 : Value) (vp_2 : Value) (μ' : Store), v = .agg [av .u8 32 (r.1)].flatten.toArray ∧ Arr .u8 32 (r.1) ∧ Slc (RI .u8) 1 μ' vp_1 (r.2).b ∧ InR .i64 (r.2).at_ ∧ ErS μ' vp_2 (r.2).err ∧ Iv w0 (many [cel g0 [[vp1], [.int .i64 x0.at_], [vp2]] 143]).foot μ μ' [cel g0 [[vp_1], [.int .i64 ((r.2).at_)], [vp_2]] 143] w') := by
  refine enter Tryd.func42 rfl Tryd.ntmps42 rfl fun a hA => ?_
  have hI := Iv.startN hμ ho0
  have H := bI H
  refine w_seq fun _ hN1 => ?_
  refine w_reg ?_
  refine o_new [av .u8 32 (List.replicate 32 0)] zr55 hI hA rfl fun g1 a w hA hI hg1 => ?_
  refine o_nil ?_
  refine hN1 _ _ ?_
  refine w_seq fun _ hN2 => ?_
  refine w_reg ?_
  refine o_new [av .u8 32 (List.replicate 32 0)] zr55 hI hA rfl fun g2 a w hA hI hg2 => ?_
  refine o_nil ?_
  refine hN2 _ _ ?_
  refine w_seq fun _ hN3 => ?_
  refine w_any [2, 3] mo hI fun w hI => ?_
  refine g_easy (i := 0) hA rfl rfl (by kernel_rfl) (.inr hI) (fun _ => r_slv (i := 0) (j := 32) Tryd.underlying55 sz5 hA rfl rfl rfl (by decide) (by decide) (by decide) (by decide) rfl) rfl fun a hA => ?_
  refine g_easy (i := 1) hA rfl rfl (by kernel_rfl) (.inr hI) (fun _ => r_mv hA rfl) rfl fun a hA => ?_
  refine g_forced (i := 2) rfl (by kernel_rfl) ?_
  obtain ⟨r1, hr1, H⟩ := bB H
  have hI := hI.sel [2, 0, 1] (by decide) rfl
  refine o_call _ cf97 hA rfl (compact_Reader_next.c μ _ hI.agr x0 vp1 vp2 g0 hp1 hp2 hp3 (hI.handN 1) 32 (in_lit .i64 32 rfl) e8 he8 r1 hr1) rfl fun v1 a w hz1 hA => ?_
  obtain ⟨_, vp3, vp4, μ1, rfl, hS1, hp4, hp5, hp6, hi1⟩ := hz1
  have hI := hI.backN 1 hi1
  have hI : Iv w0 (many [cel g0 [[vp1], [.int .i64 x0.at_], [vp2]] 143]).foot μ μ1 [cel g0 [[vp3], [.int .i64 r1.2.at_], [vp4]] 143, cel g2 [av .u8 32 (List.replicate 32 0)] 55, cel g1 [av .u8 32 (List.replicate 32 0)] 55] w := hI
  refine o_nil ?_
  refine ⟨(.inl (by kernel_rfl)), ?_⟩
  refine g_forced (i := 3) rfl (by kernel_rfl) ?_
  have hz2 : Slc (RI .u8) 1 μ1 v1 r1.1 := hS1
  refine o_cpy (j := 1) [] [] Tryd.underlying23 sz5 (arr_zero _ _) hz2 hI rfl rfl hA rfl rfl rfl fun a w hI hA => ?_
  refine o_nil ?_
  refine ⟨(.inl (by kernel_rfl)), ?_⟩
  refine g_nil (by kernel_rfl) ?_
  refine hN3 _ _ ?_
  refine w_seq fun _ hN4 => ?_
  refine w_reg ?_
  refine stp hA (r_ldA (j := 1) [] [av .u8 32 (cpy (List.replicate 32 0) r1.1)] [] Tryd.underlying55 rfl sz55 rfl hI rfl hA rfl rfl) rfl fun a hA => 
    o_st (j := 2) [] [av .u8 32 (List.replicate 32 0)] [av .u8 32 (cpy (List.replicate 32 0) r1.1)] [] sz55 rfl rfl (fl_cons (one_av _ _ _) fl_nil) hI rfl hA rfl rfl rfl rfl fun w hI => ?_
  refine o_nil ?_
  refine hN4 _ _ ?_
  refine w_ret ?_
  obtain rfl := Option.some.inj (bS H)
  exact retc Tryd.underlying55 rfl sz55 rfl hI (j := 2) rfl hA Tryd.results42 rfl ⟨_, rfl, vp3, vp4, μ1, rfl, (cpy_arr (arr_zero _ _) (Slc.rng hz2)), hp4, hp5, hp6, (hI.sel [0] (by decide) rfl)⟩
set_option maxRecDepth 20000 in
theorem compact_Sum.c (μ : Store) (w0 : World) (hμ : Agr μ w0) (x0 : List Int) (u0 : Value) (hx0 : Slc (RI .u64) 1 μ u0 x0) (r : Int × Bool) (H : compact_Sum.f x0 = some r) :
    Calls Tryd.prog 128 [u0].toArray w0 (fun e w' => ∃ v, e = .returned v ∧ v = .tuple #[.int .u64 r.1, .bool r.2] ∧ (InR .u64 r.1 ∧ True) ∧ Iv w0 [] μ μ [] w') := by
  refine enter Tryd.func128 rfl Tryd.ntmps128 rfl fun a hA => ?_
  have hI := Iv.start hμ
  have H := bI H
  refine w_seq fun _ hN1 => ?_
  refine w_reg ?_
  refine stp hA (r_as hA rfl) rfl fun a hA => 
    stp hA (r_as hA rfl) rfl fun a hA => ?_
  refine o_nil ?_
  refine hN1 _ _ ?_
  refine w_seq fun _ hN2 => ?_
  refine w_reg ?_
  refine stp hA (r_as hA rfl) rfl fun a hA => ?_
  refine o_nil ?_
  refine hN2 _ _ ?_
  refine w_seq fun _ hN3 => ?_
  refine w_seq fun _ hN4 => ?_
  refine w_reg ?_
  refine stp hA (r_mv hA rfl) rfl fun a hA => ?_
  obtain ⟨_, hsl1⟩ := Slc.sv hx0
  refine stp hA (r_slen Tryd.underlying42 hsl1 hA rfl) rfl fun a hA => 
    stp hA (r_mv hA rfl) rfl fun a hA => ?_
  refine o_nil ?_
  refine hN4 _ _ ?_
  refine w_block ?_
  obtain ⟨z1, hz1, Hk1⟩ := bind_some H
  obtain ⟨n1, hn1⟩ := loopO_some hz1
  refine w_loop (fun n a w => ∃ (s1 : Int) (s2 : Int), loopN (compact_Sum.s0 x0) n (s1, s2) = some z1 ∧ InR .u64 s1 ∧ InR .i64 s2 ∧ Fr a 22 [(0, u0), (2, .int .u64 0), (3, .bool false), (4, .int .u64 s1), (7, u0), (8, .int .i64 (x0.length : Int)), (9, .int .i64 s2)] ∧ Iv w0 [] μ μ [] w) n1 ⟨0, 0, hn1, (in_lit .u64 0 rfl), (in_lit .i64 0 rfl), hA.sub ⟨rfl, rfl, rfl, rfl, rfl, rfl, rfl, trivial⟩, hI⟩ ?_
  clear hA hI
  rintro n a w ⟨s1, s2, hn1, ws1, ws2, hA, hI⟩
  obtain ⟨m1, rfl, H⟩ := loopN_bind hn1
  clear hn1
  refine w_seq fun _ hN5 => ?_
  refine w_reg ?_
  refine stp hA (r_lss hA rfl rfl) rfl fun a hA => ?_
  refine o_nil ?_
  refine hN5 _ _ ?_
  refine w_seq fun _ hN6 => ?_
  refine w_cond hA rfl (fun hc1 => ?_) (fun hc1 => ?_)
  · have hc10 := hc1; have hc1 := of_decide_eq_true hc1; have H := bT H hc1
    refine w_skip ?_
    refine hN6 _ _ ?_
    refine w_seq fun _ hN7 => ?_
    refine w_block ?_
    refine w_seq fun _ hN8 => ?_
    refine w_reg ?_
    obtain ⟨hb1, H⟩ := bG H
    obtain ⟨_, he1, _, hat1⟩ := Slc.elem1 hx0 (getD_some 0 hb1.1 hb1.2)
    obtain ⟨rfl, hw1⟩ := he1
    obtain ⟨_, hsl2⟩ := Slc.sv hx0
    refine stp hA (r_six1 Tryd.underlying42 sz22 hsl2 hA rfl rfl hb1.1 hb1.2) rfl fun a hA => 
      stp hA (r_ldm1 [] [] Tryd.underlying22 rfl hI.agr hat1 hA rfl rfl) rfl fun a hA => 
      stp hA (r_as hA rfl) rfl fun a hA => ?_
    refine o_nil ?_
    refine hN8 _ _ ?_
    refine w_seq fun _ hN9 => ?_
    refine w_seq fun _ hN10 => ?_
    refine w_reg ?_
    refine stp hA (r_mv hA rfl) rfl fun a hA => 
      stp hA (r_mv hA rfl) rfl fun a hA => 
      stp hA (r_sub hA rfl rfl) rfl fun a hA => 
      stp hA (r_gtr hA rfl rfl) rfl fun a hA => ?_
    refine o_nil ?_
    refine hN10 _ _ ?_
    refine w_cond hA rfl (fun hc2 => ?_) (fun hc2 => ?_)
    · have hc20 := hc2; have hc2 := of_decide_eq_true hc2; have H := bT H hc2
      refine w_seq fun _ hN11 => ?_
      refine w_reg ?_
      refine stp hA (r_as hA rfl) rfl fun a hA => 
        stp hA (r_as hA rfl) rfl fun a hA => ?_
      refine o_nil ?_
      refine hN11 _ _ ?_
      refine w_ret ?_
      have H : some (0, false) = some z1 := H
      obtain rfl := Option.some.inj H
      have H := Hk1
      obtain rfl := Option.some.inj (bS H)
      exact ret2 hA Tryd.results128 rfl rfl ⟨_, rfl, rfl, ⟨(in_lit .u64 0 rfl), trivial⟩, hI.forget0⟩
    · have hc20 := hc2; have hc2 := of_decide_eq_false hc2; have H := bF H hc2
      refine w_skip ?_
      refine hN9 _ _ ?_
      refine w_reg ?_
      refine stp hA (r_mv hA rfl) rfl fun a hA => 
        stp hA (r_mv hA rfl) rfl fun a hA => 
        stp hA (r_add hA rfl rfl) rfl fun a hA => 
        stp hA (r_as hA rfl) rfl fun a hA => ?_
      refine o_nil ?_
      refine hN7 _ _ ?_
      refine w_reg ?_
      refine stp hA (r_add hA rfl rfl) rfl fun a hA => 
        stp hA (r_mv hA rfl) rfl fun a hA => ?_
      refine o_nil ?_
      exact ⟨m1, Nat.lt_succ_self _, IntKind.u64.wrap (s1 + (x0.getD s2.toNat 0)), IntKind.i64.wrap (s2 + 1), H, (wrap_in _ _), (wrap_in _ _), hA.sub ⟨rfl, rfl, rfl, rfl, rfl, rfl, rfl, trivial⟩, hI⟩
  · have hc10 := hc1; have hc1 := of_decide_eq_false hc1; have H := bF H hc1
    refine w_exit rfl ?_
    refine hN3 _ _ ?_
    refine w_seq fun _ hN12 => ?_
    refine w_reg ?_
    refine stp hA (r_mv hA rfl) rfl fun a hA => 
      stp hA (r_as hA rfl) rfl fun a hA => 
      stp hA (r_as hA rfl) rfl fun a hA => ?_
    refine o_nil ?_
    refine hN12 _ _ ?_
    refine w_ret ?_
    have H : some (s1, true) = some z1 := H
    obtain rfl := Option.some.inj H
    have H := Hk1
    obtain rfl := Option.some.inj (bS H)
    exact ret2 hA Tryd.results128 rfl rfl ⟨_, rfl, rfl, ⟨ws1, trivial⟩, hI.forget0⟩
end Go.Proofs.YtpeelghbhihgkaaDoor.T
namespace Go.Proofs.YtpeelghbhihgkaaDoor.T
open Go Go.Proofs Go.Proofs.YtpeelghbhihgkaaDoor.K
set_option linter.unusedVariables false
set_option linter.unusedSimpArgs false
noncomputable def spend_Null.f : Option Point := some (⟨(List.replicate 32 0), 4294967295⟩ : Point)
noncomputable def spend_IsNull.f (x0 : Point) : Option Bool := ((spend_Null.f).bind fun r1 => some (decide (x0.Tx = r1.Tx ∧ x0.N = r1.N)))
noncomputable def bytes_Equal.f (x0 : List Int) (x1 : List Int) : Option Bool := some (decide ((bStr x0) = (bStr x1)))
end Go.Proofs.YtpeelghbhihgkaaDoor.T
namespace Go.Proofs.YtpeelghbhihgkaaDoor.T
open Go Go.Proofs Go.Proofs.YtpeelghbhihgkaaDoor.K
set_option linter.unusedVariables false
set_option linter.unusedSimpArgs false
set_option maxRecDepth 20000 in
theorem spend_Null.c (μ : Store) (w0 : World) (hμ : Agr μ w0) (r : Point) (H : spend_Null.f = some r) :
    Calls Tryd.prog 143 [].toArray w0 (fun e w' => ∃ v, e = .returned v ∧ v = .agg [av .u8 32 r.Tx, [.int .u32 r.N]].flatten.toArray ∧ PointW μ r ∧ Iv w0 [] μ μ [] w') := by
  refine enter Tryd.func143 rfl Tryd.ntmps143 rfl fun a hA => ?_
  have hI := Iv.start hμ
  have H := bI H
  refine w_seq fun _ hN1 => ?_
  refine w_reg ?_
  refine o_new [av .u8 32 (List.replicate 32 0), [.int .u32 0]] zr60 hI hA rfl fun g1 a w hA hI hg1 => ?_
  refine o_nil ?_
  refine hN1 _ _ ?_
  refine w_seq fun _ hN2 => ?_
  refine w_reg ?_
  refine stp hA (r_bldS (cs := [av .u8 32 (List.replicate 32 0), [.int .u32 4294967295]].flatten.toArray) (pl := [(0, 32), (32, 1)]) zr60 Tryd.underlying60 ⟨rfl, sz55, rfl, sz39, trivial⟩ hA rfl (by kernel_rfl)) rfl fun a hA => 
    o_st (j := 0) [] [av .u8 32 (List.replicate 32 0), [.int .u32 0]] [av .u8 32 (List.replicate 32 0), [.int .u32 4294967295]] [] sz60 rfl rfl (fl_cons (one_av _ _ _) (fl_cons (one_one rfl) fl_nil)) hI rfl hA rfl rfl rfl rfl fun w hI => ?_
  refine o_nil ?_
  refine hN2 _ _ ?_
  refine w_ret ?_
  obtain rfl := Option.some.inj (bS H)
  exact retc Tryd.underlying60 rfl sz60 rfl hI (j := 0) rfl hA Tryd.results143 rfl ⟨_, rfl, rfl, ⟨(arr_zero _ _), (in_lit .u32 4294967295 rfl)⟩, hI.forget0⟩
set_option maxRecDepth 20000 in
theorem spend_IsNull.c (μ : Store) (w0 : World) (hμ : Agr μ w0) (x0 : Point) (hx0 : PointW μ x0) (r : Bool) (H : spend_IsNull.f x0 = some r) :
    Calls Tryd.prog 106 [.agg [av .u8 32 x0.Tx, [.int .u32 x0.N]].flatten.toArray].toArray w0 (fun e w' => ∃ v, e = .returned v ∧ v = .bool r ∧ True ∧ Iv w0 [] μ μ [] w') := by
  refine enter Tryd.func106 rfl Tryd.ntmps106 rfl fun a hA => ?_
  have hI := Iv.start hμ
  have H := bI H
  refine w_seq fun _ hN1 => ?_
  refine w_reg ?_
  refine o_box [av .u8 32 x0.Tx, [.int .u32 x0.N]] hI hA rfl rfl rfl fun g1 a w hA hI hg1 => 
    stp hA (r_as hA rfl) rfl fun a hA => ?_
  refine o_nil ?_
  refine hN1 _ _ ?_
  refine w_seq fun _ hN2 => ?_
  refine w_any [] mo hI fun w hI => ?_
  refine g_take (i := 0) hA rfl rfl (by kernel_rfl) hI (fun w hI => r_ldA (j := 0) [] [av .u8 32 x0.Tx, [.int .u32 x0.N]] [] Tryd.underlying60 rfl sz60 rfl hI rfl hA rfl rfl) rfl fun a hA => ?_
  refine g_forced (i := 1) rfl (by kernel_rfl) ?_
  obtain ⟨r1, hr1, H⟩ := bB H
  refine o_callp (u := .agg [av .u8 32 r1.Tx, [.int .u32 r1.N]].flatten.toArray) cf143 hA rfl hI (spend_Null.c μ _ hI.agr  r1 hr1) rfl fun a w hz1 hI hA => ?_
  refine o_nil ?_
  refine ⟨(.inr hI), ?_⟩
  refine g_easy (i := 2) hA rfl rfl (by kernel_rfl) (.inr hI) (fun _ => r_eqS hA rfl rfl eg60 (eqv_struct Tryd.underlying60 sh60 (eqf_cons (by decide) (partA [] [av .u8 32 x0.Tx] [[.int .u32 x0.N]] Tryd.underlying55 rfl sz55 rfl rfl) (partA [] [av .u8 32 r1.Tx] [[.int .u32 r1.N]] Tryd.underlying55 rfl sz55 rfl rfl) (eqv_arr Tryd.underlying55 Tryd.underlying5 sz5 hx0.1 hz1.1) (eqf_last (by decide) (part1 [av .u8 32 x0.Tx] [] Tryd.underlying39 rfl rfl) (part1 [av .u8 32 r1.Tx] [] Tryd.underlying39 rfl rfl) (eqv_int Tryd.underlying39))))) rfl fun a hA => ?_
  refine g_easy (i := 3) hA rfl rfl (by kernel_rfl) (.inr hI) (fun _ => r_as hA rfl) rfl fun a hA => ?_
  refine g_nil (by kernel_rfl) ?_
  refine hN2 _ _ ?_
  refine w_ret ?_
  obtain rfl := Option.some.inj (bS H)
  exact ret1 hA Tryd.results106 rfl ⟨_, rfl, rfl, trivial, hI.forget0⟩
set_option maxRecDepth 20000 in
theorem bytes_Equal.c (μ : Store) (w0 : World) (hμ : Agr μ w0) (x0 : List Int) (u0 : Value) (hx0 : Slc (RI .u8) 1 μ u0 x0) (x1 : List Int) (u1 : Value) (hx1 : Slc (RI .u8) 1 μ u1 x1) (r : Bool) (H : bytes_Equal.f x0 x1 = some r) :
    Calls Tryd.prog 112 [u0, u1].toArray w0 (fun e w' => ∃ v, e = .returned v ∧ v = .bool r ∧ True ∧ Iv w0 [] μ μ [] w') := by
  refine enter Tryd.func112 rfl Tryd.ntmps112 rfl fun a hA => ?_
  have hI := Iv.start hμ
  have H := bI H
  refine w_seq fun _ hN1 => ?_
  refine w_reg ?_
  refine stp hA (r_as hA rfl) rfl fun a hA => ?_
  refine o_nil ?_
  refine hN1 _ _ ?_
  refine w_seq fun _ hN2 => ?_
  refine w_reg ?_
  refine stp hA (r_mv hA rfl) rfl fun a hA => 
    stp hA (r_bts Tryd.underlying23 Tryd.underlying5 Tryd.underlying9 hA rfl (rdb_sl hI.agr hx0)) rfl fun a hA => 
    stp hA (r_mv hA rfl) rfl fun a hA => 
    stp hA (r_bts Tryd.underlying23 Tryd.underlying5 Tryd.underlying9 hA rfl (rdb_sl hI.agr hx1)) rfl fun a hA => 
    stp hA (r_seq hA rfl rfl) rfl fun a hA => 
    stp hA (r_as hA rfl) rfl fun a hA => ?_
  refine o_nil ?_
  refine hN2 _ _ ?_
  refine w_ret ?_
  obtain rfl := Option.some.inj (bS H)
  exact ret1 hA Tryd.results112 rfl ⟨_, rfl, rfl, trivial, hI.forget0⟩
end Go.Proofs.YtpeelghbhihgkaaDoor.T
namespace Go.Proofs.YtpeelghbhihgkaaDoor.T
open Go Go.Proofs Go.Proofs.YtpeelghbhihgkaaDoor.K
set_option linter.unusedVariables false
set_option linter.unusedSimpArgs false
noncomputable def tx_Bytes.s1 (x0 : Tx) : ((List Int) × Int) → Option (((List Int) × Int) ⊕ (List Int)) := fun (s3, s4) => (if s4 < (x0.Outs.length : Int) then (if 0 ≤ s4 ∧ s4 < (x0.Outs.length : Int) then ((compact_Eight.f s3 ((x0.Outs.getD s4.toNat default).Value)).bind fun r7 => (if r7.length + ((x0.Outs.getD s4.toNat default).Lock).length ≤ 140737488355328 then some (.inl (r7 ++ ((x0.Outs.getD s4.toNat default).Lock), IntKind.i64.wrap (s4 + 1))) else none)) else none) else some (.inr s3))
noncomputable def tx_Bytes.s0 (x0 : Tx) : ((List Int) × Int) → Option (((List Int) × Int) ⊕ (List Int)) := fun (s1, s2) => (if s2 < (x0.Ins.length : Int) then (if 0 ≤ s2 ∧ s2 < (x0.Ins.length : Int) then (if s1.length + ((x0.Ins.getD s2.toNat default).From.Tx).length ≤ 140737488355328 then ((compact_Four.f (s1 ++ ((x0.Ins.getD s2.toNat default).From.Tx)) ((x0.Ins.getD s2.toNat default).From.N)).bind fun r3 => ((compact_Put.f r3 (IntKind.u64.wrap (((x0.Ins.getD s2.toNat default).Key).length : Int))).bind fun r4 => (if r4.length + ((x0.Ins.getD s2.toNat default).Key).length ≤ 140737488355328 then ((compact_Four.f (r4 ++ ((x0.Ins.getD s2.toNat default).Key)) ((x0.Ins.getD s2.toNat default).Seq)).bind fun r5 => some (.inl (r5, IntKind.i64.wrap (s2 + 1)))) else none))) else none) else none) else some (.inr s1))
noncomputable def tx_Bytes.f (x0 : Tx) : Option (List Int) := ((compact_Four.f ([]) x0.Version).bind fun r1 => ((compact_Put.f r1 (IntKind.u64.wrap (x0.Ins.length : Int))).bind fun r2 => ((loopO (tx_Bytes.s0 x0) (r2, 0)).bind fun c1 => ((compact_Put.f c1 (IntKind.u64.wrap (x0.Outs.length : Int))).bind fun r6 => ((loopO (tx_Bytes.s1 x0) (r6, 0)).bind fun c2 => ((compact_Four.f c2 x0.Time).bind fun r8 => some r8))))))
noncomputable def tx_Size.f (x0 : Tx) : Option Int := ((tx_Bytes.f x0).bind fun r1 => some (r1.length : Int))
noncomputable def tx_Check_1.f (x0 : In) : Option Bool := some (decide (80 < (x0.Key.length : Int)))
noncomputable def tx_values.s0 (x0 : Tx) : ((List Int) × Int) → Option (((List Int) × Int) ⊕ (List Int)) := fun (s1, s2) => (if s2 < (x0.Outs.length : Int) then (if 0 ≤ s2 ∧ s2 < (x0.Outs.length : Int) then (if s1.length + 1 ≤ 17592186044416 then some (.inl (s1 ++ ([(x0.Outs.getD s2.toNat default).Value] : List Int), IntKind.i64.wrap (s2 + 1))) else none) else none) else some (.inr s1))
noncomputable def tx_values.f (x0 : Tx) : Option (List Int) := ((loopO (tx_values.s0 x0) ([], 0)).bind fun c1 => some c1)
noncomputable def tx_Sum.f (x0 : Tx) : Option (Int × Bool) := ((tx_values.f x0).bind fun r1 => ((compact_Sum.f r1).bind fun r2 => some (r2.1, r2.2)))
noncomputable def tx_twice.s0 (x0 : Tx) : (Int × (List (Point × Bool))) → Option ((Int × (List (Point × Bool))) ⊕ Bool) := fun (s1, s2) => (if s1 < (x0.Ins.length : Int) then (if 0 ≤ s1 ∧ s1 < (x0.Ins.length : Int) then (if ((mget s2 ((x0.Ins.getD s1.toNat default).From)).getD false) = true then some (.inr true) else some (.inl (IntKind.i64.wrap (s1 + 1), mput s2 ((x0.Ins.getD s1.toNat default).From) true))) else none) else some (.inr false))
noncomputable def tx_twice.f (x0 : Tx) : Option Bool := loopO (tx_twice.s0 x0) (0, ([] : List (Point × Bool)))
noncomputable def tx_Base.f (x0 : Tx) : Option Bool := (((if (x0.Ins.length : Int) = 1 then (if 0 < (x0.Ins.length : Int) then ((spend_IsNull.f ((x0.Ins.getD (0 : Int).toNat default).From)).bind fun r1 => some r1) else none) else some false)).bind fun c1 => some c1)
noncomputable def tx_base_1.f (x0 : In) : Option Bool := ((spend_IsNull.f x0.From).bind fun r1 => some r1)
noncomputable def slices_IndexFunc_api_In_api_In_at_tx_base_1.s0 (x0 : List In) : Int → Option (Int ⊕ Int) := fun s1 => (if s1 < (x0.length : Int) then (if 0 ≤ s1 ∧ s1 < (x0.length : Int) then ((tx_base_1.f (x0.getD s1.toNat default)).bind fun r1 => (if r1 = true then some (.inr s1) else some (.inl (IntKind.i64.wrap (s1 + 1))))) else none) else some (.inr (-1)))
noncomputable def slices_IndexFunc_api_In_api_In_at_tx_base_1.f (x0 : List In) : Option Int := loopO (slices_IndexFunc_api_In_api_In_at_tx_base_1.s0 x0) 0
noncomputable def slices_ContainsFunc_api_In_api_In_at_tx_base_1.f (x0 : List In) : Option Bool := ((slices_IndexFunc_api_In_api_In_at_tx_base_1.f x0).bind fun r1 => some (decide (0 ≤ r1)))
noncomputable def tx_base.f (x0 : Tx) : Option Er := ((tx_Base.f x0).bind fun r1 => (if r1 = true then (if 0 < (x0.Ins.length : Int) then (if (((x0.Ins.getD (0 : Int).toNat default).Key).length : Int) < 4 then some xErrBase else some (Er.b 0)) else none) else ((slices_ContainsFunc_api_In_api_In_at_tx_base_1.f x0.Ins).bind fun r2 => (if r2 = true then some xErrBase else some (Er.b 0)))))
noncomputable def slices_IndexFunc_api_In_api_In_at_tx_Check_1.s0 (x0 : List In) : Int → Option (Int ⊕ Int) := fun s1 => (if s1 < (x0.length : Int) then (if 0 ≤ s1 ∧ s1 < (x0.length : Int) then ((tx_Check_1.f (x0.getD s1.toNat default)).bind fun r1 => (if r1 = true then some (.inr s1) else some (.inl (IntKind.i64.wrap (s1 + 1))))) else none) else some (.inr (-1)))
noncomputable def slices_IndexFunc_api_In_api_In_at_tx_Check_1.f (x0 : List In) : Option Int := loopO (slices_IndexFunc_api_In_api_In_at_tx_Check_1.s0 x0) 0
noncomputable def slices_ContainsFunc_api_In_api_In_at_tx_Check_1.f (x0 : List In) : Option Bool := ((slices_IndexFunc_api_In_api_In_at_tx_Check_1.f x0).bind fun r1 => some (decide (0 ≤ r1)))
noncomputable def tx_Check.f (x0 : Tx) : Option Er := (((if (x0.Ins.length : Int) = 0 then some true else (if 50 < (x0.Ins.length : Int) then some true else (if (x0.Outs.length : Int) = 0 then some true else some (decide (50 < (x0.Outs.length : Int))))))).bind fun c1 => (if c1 = true then some xErrMany else ((tx_Size.f x0).bind fun r1 => (if 4000 < r1 then some xErrLong else ((slices_ContainsFunc_api_In_api_In_at_tx_Check_1.f x0.Ins).bind fun r2 => (if r2 = true then some xErrKey else ((tx_Sum.f x0).bind fun r3 => (if r3.2 = true then ((tx_twice.f x0).bind fun r4 => (if r4 = true then some xErrTwice else ((tx_base.f x0).bind fun r5 => some r5))) else some xErrValue))))))))
noncomputable def tx_Take.s1 (r8 : Int × compactReader) : (Int × (List Int) × Int × Er × (List Out)) → Option ((Int × (List Int) × Int × Er × (List Out)) ⊕ ((List Out) × (List Int) × Int × Er)) := fun (s6, s7, s8, s9, s10) => (if s6 < r8.1 then ((compact_Reader_Eight.f (⟨s7, s8, s9⟩ : compactReader)).bind fun r9 => ((compact_Reader_Hash.f r9.2).bind fun r10 => (if s10.length + 1 ≤ 3518437208883 then some (.inl (IntKind.u64.wrap (s6 + 1), r10.2.b, r10.2.at_, r10.2.err, s10 ++ ([(⟨r9.1, r10.1⟩ : Out)] : List Out))) else none))) else some (.inr (s10, s7, s8, s9)))
noncomputable def tx_Take.s0 (r2 : Int × compactReader) : (Int × (List Int) × Int × Er × (List In)) → Option ((Int × (List Int) × Int × Er × (List In)) ⊕ ((List In) × (List Int) × Int × Er)) := fun (s1, s2, s3, s4, s5) => (if s1 < r2.1 then ((compact_Reader_Hash.f (⟨s2, s3, s4⟩ : compactReader)).bind fun r3 => ((compact_Reader_Four.f r3.2).bind fun r4 => ((compact_Reader_Num.f r4.2 80).bind fun r5 => ((compact_Reader_Bytes.f r5.2 (IntKind.i64.wrap r5.1)).bind fun r6 => ((compact_Reader_Four.f r6.2).bind fun r7 => (if s5.length + 1 ≤ 1954687338268 then some (.inl (IntKind.u64.wrap (s1 + 1), r7.2.b, r7.2.at_, r7.2.err, s5 ++ ([(⟨(⟨r3.1, r4.1⟩ : Point), r6.1, r7.1⟩ : In)] : List In))) else none)))))) else some (.inr (s5, s2, s3, s4)))
noncomputable def tx_Take.f (x0 : compactReader) : Option (Tx × compactReader) := ((compact_Reader_Four.f x0).bind fun r1 => ((((compact_Reader_Num.f r1.2 50).bind fun r2 => loopO (tx_Take.s0 r2) (0, r2.2.b, r2.2.at_, r2.2.err, []))).bind fun (c1, c2, c3, c4) => ((((compact_Reader_Num.f (⟨c2, c3, c4⟩ : compactReader) 50).bind fun r8 => loopO (tx_Take.s1 r8) (0, r8.2.b, r8.2.at_, r8.2.err, []))).bind fun (c5, c6, c7, c8) => ((compact_Reader_Four.f (⟨c6, c7, c8⟩ : compactReader)).bind fun r11 => ((compact_Reader_Err.f r11.2).bind fun r12 => (if r12 ≠ (Er.b 0) then some ((⟨0, [], [], 0⟩ : Tx), r11.2) else some ((⟨r1.1, c1, c5, r11.1⟩ : Tx), r11.2)))))))
noncomputable def slices_Equal_api_Out_api_Out.s0 (x0 : List Out) (x1 : List Out) : Int → Option (Int ⊕ Bool) := fun s1 => (if s1 < (x0.length : Int) then (if 0 ≤ s1 ∧ s1 < (x0.length : Int) then (if 0 ≤ s1 ∧ s1 < (x1.length : Int) then (if ¬ (((x0.getD s1.toNat default).Value) = ((x1.getD s1.toNat default).Value) ∧ ((x0.getD s1.toNat default).Lock) = ((x1.getD s1.toNat default).Lock)) then some (.inr false) else some (.inl (IntKind.i64.wrap (s1 + 1)))) else none) else none) else some (.inr true))
noncomputable def slices_Equal_api_Out_api_Out.f (x0 : List Out) (x1 : List Out) : Option Bool := (if (x0.length : Int) ≠ (x1.length : Int) then some false else loopO (slices_Equal_api_Out_api_Out.s0 x0 x1) 0)
noncomputable def tx_Same_1.f (x0 : In) (x1 : In) : Option Bool := (((if x0.From.Tx = x1.From.Tx ∧ x0.From.N = x1.From.N then (if x0.Seq = x1.Seq then ((bytes_Equal.f x0.Key x1.Key).bind fun r1 => some r1) else some false) else some false)).bind fun c1 => some c1)
noncomputable def slices_EqualFunc_api_In_api_In_api_In_api_In_at_tx_Same_1.s0 (x0 : List In) (x1 : List In) : Int → Option (Int ⊕ Bool) := fun s1 => (if s1 < (x0.length : Int) then (if 0 ≤ s1 ∧ s1 < (x0.length : Int) then (if 0 ≤ s1 ∧ s1 < (x1.length : Int) then ((tx_Same_1.f (x0.getD s1.toNat default) (x1.getD s1.toNat default)).bind fun r1 => (if r1 = true then some (.inl (IntKind.i64.wrap (s1 + 1))) else some (.inr false))) else none) else none) else some (.inr true))
noncomputable def slices_EqualFunc_api_In_api_In_api_In_api_In_at_tx_Same_1.f (x0 : List In) (x1 : List In) : Option Bool := (if (x0.length : Int) ≠ (x1.length : Int) then some false else loopO (slices_EqualFunc_api_In_api_In_api_In_api_In_at_tx_Same_1.s0 x0 x1) 0)
noncomputable def tx_Same.f (x0 : Tx) (x1 : Tx) : Option Bool := (((if x0.Version = x1.Version then (if x0.Time = x1.Time then ((slices_Equal_api_Out_api_Out.f x0.Outs x1.Outs).bind fun r1 => (if r1 = true then ((slices_EqualFunc_api_In_api_In_api_In_api_In_at_tx_Same_1.f x0.Ins x1.Ins).bind fun r2 => some r2) else some false)) else some false) else some false)).bind fun c1 => some c1)
end Go.Proofs.YtpeelghbhihgkaaDoor.T
