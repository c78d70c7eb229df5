/- Proved: the statement BlockKinds, as given (its conditions are those of the given row, and card where there is one; no others): the call ends, with true, and the input reads as it did. This file is one of its parts. -/
import Derived.Test.YtkfpmcplfodikaaDoorPBlockKinds2
namespace Go.Proofs.YtkfpmcplfodikaaDoor.T
open Go Go.Proofs Go.Proofs.YtkfpmcplfodikaaDoor.K
set_option linter.unusedVariables false
set_option linter.unusedSimpArgs false
set_option maxRecDepth 20000 in
theorem slices_Grow_byte_byte.c (μ : Store) (w0 : World) (hμ : Agr μ w0) (x1 : Int) (hx1 : InR .i64 x1) (r : List Int) (H : slices_Grow_byte_byte.f x1 = some r) :
    Calls Tryd.prog 54 [.slice none 0 0, .int .i64 x1].toArray w0 (fun e w' => ∃ v, e = .returned v ∧ ∃ (v0 : Value) (c0 : List Value), v = v0 ∧ Els (RI .u8) 1 r c0 ∧ Iv w0 [] μ μ [row 5 1 v0 r.length c0] w') := by
  obtain ⟨hb, H⟩ := guard_some H
  obtain rfl := sI H
  refine enter Tryd.func54 rfl Tryd.ntmps54 rfl fun a hA => ?_
  have hI := Iv.start hμ
  have e1 : IntKind.i64.wrap (x1 - IntKind.i64.wrap (((0 : Nat) : Int) - ((0 : Nat) : Int))) = x1 := by
    rw [wrap_id (k := .i64) (x := ((0 : Nat) : Int) - ((0 : Nat) : Int)) ⟨by omega, by omega⟩]
    simp only [Int.sub_self, Int.sub_zero, Int.natCast_zero]
    exact wrap_id hx1
  refine w_seq fun _ hN1 => w_reg (stp hA (r_as hA rfl) rfl fun a hA => o_nil (hN1 _ _ ?_))
  refine w_seq fun _ hN2 => w_seq fun _ hN3 => w_reg (stp hA (r_mv hA rfl) rfl fun a hA => stp hA (r_lss hA rfl rfl) rfl fun a hA => o_nil (hN3 _ _ ?_))
  refine w_cond hA rfl (fun hc => absurd (of_decide_eq_true hc) (by omega)) (fun _ => w_skip (hN2 _ _ ?_))
  refine w_cut (fun a w => ∃ v0 c0, Fr a 27 [(0, v0)] ∧ Iv w0 [] μ μ [row 5 1 v0 0 c0] w ∧ c0 = []) ?_ ?_
  · refine w_seq fun _ hN4 => w_reg ?_
    refine stp hA (r_mv hA rfl) rfl fun a hA => stp hA (r_mv hA rfl) rfl fun a hA => stp hA (r_cap Tryd.underlying40 hA rfl) rfl fun a hA => ?_
    refine stp hA (r_mv hA rfl) rfl fun a hA => stp hA (r_len Tryd.underlying40 hA rfl) rfl fun a hA => ?_
    refine stp hA (r_sub hA rfl rfl) rfl fun a hA => stp hA (r_sub hA rfl rfl) rfl fun a hA => ?_
    rw [e1] at hA
    refine stp hA (r_as hA rfl) rfl fun a hA => o_nil (hN4 _ _ ?_)
    refine w_seq fun _ hN5 => w_reg (stp hA (r_mv hA rfl) rfl fun a hA => stp hA (r_gtr hA rfl rfl) rfl fun a hA => o_nil (hN5 _ _ ?_))
    refine w_cond hA rfl (fun hc => ?_) (fun hc => ?_)
    · have hc := of_decide_eq_true hc
      refine w_reg ?_
      refine stp hA (r_mv hA rfl) rfl fun a hA => stp hA (r_mv hA rfl) rfl fun a hA => stp hA (r_cap Tryd.underlying40 hA rfl) rfl fun a hA => ?_
      refine stp hA (r_front Tryd.underlying40 sz5 hA rfl rfl (by decide) (by decide)) rfl fun a hA => stp hA (r_mv hA rfl) rfl fun a hA => ?_
      refine o_appmake te5 rfl Tryd.underlying40 Tryd.underlying3 hI hA rfl rfl (by omega) (by omega) (by omega) rfl fun g cap cur a w h1 h2 h3 hA hI hg => ?_
      refine stp hA (r_mv hA rfl) rfl fun a hA => stp hA (r_len Tryd.underlying40 hA rfl) rfl fun a hA => ?_
      refine stp hA (r_front Tryd.underlying40 sz5 hA rfl rfl (by decide) (by omega)) rfl fun a hA => stp hA (r_as hA rfl) rfl fun a hA => o_nil ?_
      have hI := hI (row 5 1 (.slice (some ⟨g, 0, none⟩) 0 cap) 0 []) (by simp [row, Value.ownBlock]) ⟨rfl, .inr ⟨g, cap, cur, rfl, Nat.zero_le _, hg, Nat.zero_le _, h2, h3, rfl⟩⟩
      exact ⟨_, _, hA.sub ⟨rfl, trivial⟩, hI, rfl⟩
    · exact w_skip ⟨_, _, hA.sub ⟨rfl, trivial⟩, hI.nilRow 5 1, rfl⟩
  · rintro a w ⟨v0, c0, hA, hI, rfl⟩
    refine w_seq fun _ hN6 => w_reg (stp hA (r_mv hA rfl) rfl fun a hA => stp hA (r_as hA rfl) rfl fun a hA => o_nil (hN6 _ _ ?_))
    refine w_ret ?_
    exact ret1 hA Tryd.results54 rfl ⟨_, rfl, v0, [], rfl, .nil, hI⟩
set_option maxRecDepth 20000 in
theorem slices_Concat_byte_byte.c (μ : Store) (w0 : World) (hμ : Agr μ w0) (x0 : List (List Int)) (u0 : Value) (hx0 : Slc (RS (RI .u8) 1 μ) 1 μ u0 x0) (r : List Int) (H : slices_Concat_byte_byte.f x0 = some r) :
    Calls Tryd.prog 35 [u0].toArray w0 (fun e w' => ∃ v, e = .returned v ∧ ∃ (v0 : Value) (c0 : List Value), v = v0 ∧ Els (RI .u8) 1 r c0 ∧ Iv w0 [] μ μ [row 5 1 v0 r.length c0] w') := by
  refine enter Tryd.func35 rfl Tryd.ntmps35 rfl fun a hA => ?_
  have hI := Iv.start hμ
  have H := bI H
  refine w_seq fun _ hN1 => w_reg <| sta hA rfl rfl fun a hA => ?_
  refine o_nil <| hN1 _ _ <| w_seq fun _ hN2 => w_reg <| sta hA rfl rfl fun a hA => ?_
  refine o_nil <| hN2 _ _ ?_
  obtain ⟨c1, hz1, Hk1⟩ := bB H
  refine w_cut (fun a w => InR .i64 c1 ∧ Fr a 36 [(0, u0), (2, (.slice none 0 0)), (3, .int .i64 c1)] ∧ Iv w0 [] μ μ [] w) ?_ ?_
  · have H := bI hz1
    refine w_seq fun _ hN3 => w_reg <| stm hA rfl rfl fun a hA => ?_
    obtain ⟨_, hsl1⟩ := Slc.sv hx0
    refine stp hA (r_slen Tryd.underlying99 hsl1 hA rfl) rfl fun a hA => 
      stm hA rfl rfl fun a hA => ?_
    refine o_nil <| hN3 _ _ <| w_block ?_
    obtain ⟨z1, hz2, Hk2⟩ := bind_some H
    obtain ⟨n1, hn1⟩ := loopO_some hz2
    refine w_loop (fun n a w => ∃ (s1 : Int) (s2 : Int), loopN (slices_Concat_byte_byte.s0 x0) n (s1, s2) = some z1 ∧ InR .i64 s1 ∧ InR .i64 s2 ∧ Fr a 36 [(0, u0), (2, (.slice none 0 0)), (3, .int .i64 s1), (9, u0), (10, .int .i64 (x0.length : Int)), (11, .int .i64 s2)] ∧ Iv w0 [] μ μ [] w) n1 ⟨0, 0, hn1, (in_lit .i64 0 rfl), (in_lit .i64 0 rfl), hA.sub ⟨rfl, rfl, rfl, rfl, rfl, rfl, trivial⟩, hI⟩ ?_
    clear hA hI
    rintro n a w ⟨s1, s2, hn1, ws1, ws2, hA, hI⟩
    obtain ⟨m1, rfl, H⟩ := loopN_bind hn1
    clear hn1
    refine w_seq fun _ hN4 => w_reg <| stp hA (r_lss hA rfl rfl) rfl fun a hA => ?_
    refine o_nil <| hN4 _ _ <| w_seq fun _ hN5 => w_cond hA rfl (fun hc1 => ?_) (fun hc1 => ?_)
    · obtain ⟨hc1, H⟩ := dT H hc1
      refine w_skip <| hN5 _ _ ?_
      obtain ⟨c2, hz3, Hk3⟩ := bB H
      refine w_cut (fun a w => InR .i64 c2 ∧ Fr a 36 [(0, u0), (2, (.slice none 0 0)), (3, .int .i64 c2), (9, u0), (10, .int .i64 (x0.length : Int)), (11, .int .i64 s2), (12, .bool (decide (s2 < (x0.length : Int))))] ∧ Iv w0 [] μ μ [] w) ?_ ?_
      · have H := bI hz3
        refine w_block <| w_seq fun _ hN6 => w_reg ?_
        obtain ⟨hb1, H⟩ := bG H
        obtain ⟨_, he1, _, hat1⟩ := Slc.elem1 hx0 (getD_some [] hb1.1 hb1.2)
        obtain ⟨v1, rfl, hw1⟩ := he1
        obtain ⟨_, hsl2⟩ := Slc.sv hx0
        refine stp hA (r_six1 Tryd.underlying99 sz40 hsl2 hA rfl rfl hb1.1 hb1.2) rfl fun a hA => 
          stp hA (r_ldm1 [] [] Tryd.underlying40 rfl hI.agr hat1 hA rfl rfl) rfl fun a hA => 
          sta hA rfl rfl fun a hA => ?_
        refine o_nil <| hN6 _ _ <| w_seq fun _ hN7 => w_reg <| stm hA rfl rfl fun a hA => 
          stm hA rfl rfl fun a hA => ?_
        obtain ⟨_, hsl3⟩ := Slc.sv hw1
        refine stp hA (r_slen Tryd.underlying40 hsl3 hA rfl) rfl fun a hA => 
          stp hA (r_add hA rfl rfl) rfl fun a hA => 
          sta hA rfl rfl fun a hA => ?_
        refine o_nil <| hN7 _ _ <| w_seq fun _ hN8 => w_reg <| stm hA rfl rfl fun a hA => 
          stp hA (r_lss hA rfl rfl) rfl fun a hA => ?_
        refine o_nil <| hN8 _ _ <| w_cond hA rfl (fun hc2 => ?_) (fun hc2 => ?_)
        · obtain ⟨hc2, H⟩ := dT H hc2
          exact (bN H).elim
        · obtain ⟨hc2, H⟩ := dF H hc2
          refine w_skip ?_
          cases sJ H
          exact ⟨(wrap_in _ _), hA.sub ⟨rfl, rfl, rfl, rfl, rfl, rfl, rfl, trivial⟩, hI⟩
      · rintro a w ⟨wc2, hA, hI⟩
        have H := Hk3
        refine w_reg <| stp hA (r_add hA rfl rfl) rfl fun a hA => 
          stm hA rfl rfl fun a hA => ?_
        refine o_nil <| ⟨m1, Nat.lt_succ_self _, c2, IntKind.i64.wrap (s2 + 1), H, wc2, (wrap_in _ _), hA.sub ⟨rfl, rfl, rfl, rfl, rfl, rfl, trivial⟩, hI⟩
    · obtain ⟨hc1, H⟩ := dF H hc1
      refine w_exit rfl ?_
      have H : some s1 = some z1 := H
      obtain rfl := sI H
      have H := Hk2
      cases sJ H
      exact ⟨ws1, hA.sub ⟨rfl, rfl, rfl, trivial⟩, hI⟩
  · rintro a w ⟨wc1, hA, hI⟩
    have H := Hk1
    refine w_seq fun _ hN9 => w_reg <| stm hA rfl rfl fun a hA => ?_
    obtain ⟨r1, hr1, H⟩ := bB H
    refine o_call _ cf54 hA rfl (slices_Grow_byte_byte.c μ _ hI.agr c1 wc1 r1 hr1) rfl fun v2 a w hz4 hA => ?_
    obtain ⟨_, cs1, rfl, hE1, hi1⟩ := hz4
    have hI := hI.call hi1
    refine sta hA rfl rfl fun a hA => ?_
    refine o_nil <| hN9 _ _ ?_
    obtain ⟨c3, hz5, Hk4⟩ := bB H
    refine w_cut (fun a w => ∃ (vvc3 : Value) (ccc3 : List Value), Els (RI .u8) 1 c3 ccc3 ∧ Fr a 36 [(2, (.slice none 0 0)), (6, vvc3)] ∧ Iv w0 [] μ μ [row 5 1 vvc3 c3.length ccc3] w) ?_ ?_
    · have H := bI hz5
      refine w_seq fun _ hN10 => w_reg <| stm hA rfl rfl fun a hA => ?_
      obtain ⟨_, hsl4⟩ := Slc.sv hx0
      refine stp hA (r_slen Tryd.underlying99 hsl4 hA rfl) rfl fun a hA => 
        stm hA rfl rfl fun a hA => ?_
      refine o_nil <| hN10 _ _ <| w_block ?_
      obtain ⟨z2, hz6, Hk5⟩ := bind_some H
      obtain ⟨n2, hn2⟩ := loopO_some hz6
      refine w_loop (fun n a w => ∃ (s3 : List Int) (s4 : Int) (vvs3 : Value) (ccs3 : List Value), loopN (slices_Concat_byte_byte.s1 x0) n (s3, s4) = some z2 ∧ Els (RI .u8) 1 s3 ccs3 ∧ InR .i64 s4 ∧ Fr a 36 [(2, (.slice none 0 0)), (6, vvs3), (25, u0), (26, .int .i64 (x0.length : Int)), (27, .int .i64 s4)] ∧ Iv w0 [] μ μ [row 5 1 vvs3 s3.length ccs3] w) n2 ⟨r1, 0, v2, cs1, hn2, hE1, (in_lit .i64 0 rfl), hA.sub ⟨rfl, rfl, rfl, rfl, rfl, trivial⟩, hI⟩ ?_
      clear hA hI
      rintro n a w ⟨s3, s4, vvs3, ccs3, hn2, ws3, ws4, hA, hI⟩
      obtain ⟨m2, rfl, H⟩ := loopN_bind hn2
      clear hn2
      refine w_seq fun _ hN11 => w_reg <| stp hA (r_lss hA rfl rfl) rfl fun a hA => ?_
      refine o_nil <| hN11 _ _ <| w_seq fun _ hN12 => w_cond hA rfl (fun hc3 => ?_) (fun hc3 => ?_)
      · obtain ⟨hc3, H⟩ := dT H hc3
        refine w_skip <| hN12 _ _ <| w_seq fun _ hN13 => w_block <| w_seq fun _ hN14 => w_reg ?_
        obtain ⟨hb2, H⟩ := bG H
        obtain ⟨_, he2, _, hat2⟩ := Slc.elem1 hx0 (getD_some [] hb2.1 hb2.2)
        obtain ⟨v3, rfl, hw2⟩ := he2
        obtain ⟨_, hsl5⟩ := Slc.sv hx0
        refine stp hA (r_six1 Tryd.underlying99 sz40 hsl5 hA rfl rfl hb2.1 hb2.2) rfl fun a hA => 
          stp hA (r_ldm1 [] [] Tryd.underlying40 rfl hI.agr hat2 hA rfl rfl) rfl fun a hA => 
          sta hA rfl rfl fun a hA => ?_
        refine o_nil <| hN14 _ _ <| w_reg <| stm hA rfl rfl fun a hA => 
          stm hA rfl rfl fun a hA => ?_
        obtain ⟨cs2, hE2, hsv1⟩ : Slc (RI .u8) 1 μ v3 (x0.getD s4.toNat []) := id (hw2)
        obtain ⟨hb3, H⟩ := bG H
        have hE3 := ws3.app hE2
        refine o_appG (xs := (s3 : List Int)) (ys := ((x0.getD s4.toNat []) : List Int)) (M := 140737488355328) 0 te5 Tryd.underlying40 hI rfl hA rfl rfl (src_sl hI.agr hsv1 hE2.len) hE2.len (hE2.ones (one_RI _)) hb3 rfl fun v4 a w hA hI => 
          sta hA rfl rfl fun a hA => ?_
        refine o_nil <| hN13 _ _ <| w_reg <| stp hA (r_add hA rfl rfl) rfl fun a hA => 
          stm hA rfl rfl fun a hA => ?_
        refine o_nil <| ⟨m2, Nat.lt_succ_self _, s3 ++ (x0.getD s4.toNat []), IntKind.i64.wrap (s4 + 1), v4, ccs3 ++ cs2, H, hE3, (wrap_in _ _), hA.sub ⟨rfl, rfl, rfl, rfl, rfl, trivial⟩, hI⟩
      · obtain ⟨hc3, H⟩ := dF H hc3
        refine w_exit rfl ?_
        have H : some s3 = some z2 := H
        obtain rfl := sI H
        have H := Hk5
        cases sJ H
        exact ⟨vvs3, ccs3, ws3, hA.sub ⟨rfl, rfl, trivial⟩, hI⟩
    · rintro a w ⟨vvc3, ccc3, wc3, hA, hI⟩
      have H := Hk4
      refine w_seq fun _ hN15 => w_reg <| stm hA rfl rfl fun a hA => 
        sta hA rfl rfl fun a hA => ?_
      refine o_nil <| hN15 _ _ <| w_ret ?_
      obtain rfl := sJ H
      exact ret1 hA Tryd.results35 rfl ⟨_, rfl, vvc3, ccc3, rfl, wc3, (hI.less (Store.le.refl _) hI.le)⟩
set_option maxRecDepth 20000 in
theorem head_Check.c (μ : Store) (w0 : World) (hμ : Agr μ w0) (x0 : Head) (hx0 : HeadW μ x0) (e4 : Value) (he4 : ErS μ e4 (Er.b 5)) (r : Er) (H : head_Check.f x0 = some r) :
    Calls Tryd.prog 17 [.agg [[.int .u32 x0.Version], av .u8 32 x0.Prev, av .u8 32 x0.Root, [.int .u32 x0.Time], [.int .u32 x0.Work], [.int .u32 x0.Nonce]].flatten.toArray].toArray w0 (fun e w' => ∃ v, e = .returned v ∧ ∃ (v0 : Value) (μ' : Store), v = v0 ∧ ErS μ' v0 r ∧ Iv w0 [] μ μ' [] w') := by
  refine enter Tryd.func17 rfl Tryd.ntmps17 rfl fun a hA => ?_
  have hI := Iv.start hμ
  have H := bI H
  refine w_seq fun _ hN1 => w_reg <| o_box [[.int .u32 x0.Version], av .u8 32 x0.Prev, av .u8 32 x0.Root, [.int .u32 x0.Time], [.int .u32 x0.Work], [.int .u32 x0.Nonce]] hI hA rfl rfl rfl fun g1 a w hA hI hg1 => 
    sta hA rfl rfl fun a hA => ?_
  refine o_nil <| hN1 _ _ <| w_seq fun _ hN2 => ?_
  obtain ⟨c1, hz1, Hk1⟩ := bB H
  refine w_cut (fun a w => Fr a 12 [(2, .nilIface), (10, .bool c1)] ∧ Iv w0 [] μ μ [cel g1 [[.int .u32 x0.Version], av .u8 32 x0.Prev, av .u8 32 x0.Root, [.int .u32 x0.Time], [.int .u32 x0.Work], [.int .u32 x0.Nonce]] 28] w) ?_ ?_
  · have H := bI hz1
    refine w_reg <| stp hA (r_fd (k := 66) Tryd.underlying28 rfl sz24 hA rfl rfl) rfl fun a hA => 
      stp hA (r_ld1 (j := 0) [[.int .u32 x0.Version], av .u8 32 x0.Prev, av .u8 32 x0.Root, [.int .u32 x0.Time]] [[.int .u32 x0.Nonce]] Tryd.underlying24 rfl hI rfl hA rfl rfl) rfl fun a hA => 
      stp hA (r_eql hA rfl rfl) rfl fun a hA => 
      stm hA rfl rfl fun a hA => ?_
    rcases Bool.eq_false_or_eq_true (decide (x0.Work = 0)) with hc1 | hc1
    · have hc10 := hc1; obtain ⟨hc1, H⟩ := dT H hc1
      refine o_no hA rfl rfl (by rw [hc10]; simp [vb]) rfl fun a hA => 
        o_no hA rfl rfl (by rw [hc10]; simp [vb]) rfl fun a hA => 
        o_no hA rfl rfl (by rw [hc10]; simp [vb]) rfl fun a hA => 
        stp hA (r_pick_t hA rfl hc10 rfl) rfl fun a hA => ?_
      refine o_nil ?_
      cases sJ H
      exact ⟨hA.sub ⟨rfl, rfl, trivial⟩, hI⟩
    · have hc10 := hc1; obtain ⟨hc1, H⟩ := dF H hc1
      refine o_yes hA rfl rfl hc10 <| 
        stp hA (r_fd (k := 66) Tryd.underlying28 rfl sz24 hA rfl rfl) rfl fun a hA => 
        o_yes hA rfl rfl hc10 <| 
        stp hA (r_ld1 (j := 0) [[.int .u32 x0.Version], av .u8 32 x0.Prev, av .u8 32 x0.Root, [.int .u32 x0.Time]] [[.int .u32 x0.Nonce]] Tryd.underlying24 rfl hI rfl hA rfl rfl) rfl fun a hA => 
        o_yes hA rfl rfl hc10 <| 
        stp hA (r_gtr hA rfl rfl) rfl fun a hA => 
        stp hA (r_pick_f hA rfl hc10 rfl) rfl fun a hA => ?_
      refine o_nil ?_
      cases sJ H
      exact ⟨hA.sub ⟨rfl, rfl, trivial⟩, hI⟩
  · rintro a w ⟨hA, hI⟩
    have H := Hk1
    refine w_cond hA rfl (fun hc2 => ?_) (fun hc2 => ?_)
    · have H := bT H hc2
      refine w_seq fun _ hN3 => w_reg <| stp hA (r_ldG Tryd.underlying47 rfl hI.agr he4 hA) rfl fun a hA => 
        sta hA rfl rfl fun a hA => ?_
      refine o_nil <| hN3 _ _ <| w_ret ?_
      obtain rfl := sJ H
      exact ret1 hA Tryd.results17 rfl ⟨_, rfl, e4, μ, rfl, he4, (hI.sl [] rfl)⟩
    · have hc2 := ft hc2; have H := bF H hc2
      refine w_skip <| hN2 _ _ <| w_seq fun _ hN4 => w_reg <| sta hA rfl rfl fun a hA => ?_
      refine o_nil <| hN4 _ _ <| w_ret ?_
      obtain rfl := sJ H
      exact ret1 hA Tryd.results17 rfl ⟨_, rfl, .nilIface, μ, rfl, erv_nil, (hI.sl [] rfl)⟩
set_option maxRecDepth 20000 in
theorem head_Bytes.c (μ : Store) (w0 : World) (hμ : Agr μ w0) (x0 : Head) (hx0 : HeadW μ x0) (r : List Int) (H : head_Bytes.f x0 = some r) :
    Calls Tryd.prog 44 [.agg [[.int .u32 x0.Version], av .u8 32 x0.Prev, av .u8 32 x0.Root, [.int .u32 x0.Time], [.int .u32 x0.Work], [.int .u32 x0.Nonce]].flatten.toArray].toArray w0 (fun e w' => ∃ v, e = .returned v ∧ ∃ (v0 : Value) (c0 : List Value), v = v0 ∧ Els (RI .u8) 1 r c0 ∧ Iv w0 [] μ μ [row 5 1 v0 r.length c0] w') := by
  refine enter Tryd.func44 rfl Tryd.ntmps44 rfl fun a hA => ?_
  have hI := Iv.start hμ
  have H := bI H
  refine w_seq fun _ hN1 => w_reg <| o_box [[.int .u32 x0.Version], av .u8 32 x0.Prev, av .u8 32 x0.Root, [.int .u32 x0.Time], [.int .u32 x0.Work], [.int .u32 x0.Nonce]] hI hA rfl rfl rfl fun g1 a w hA hI hg1 => 
    sta hA rfl rfl fun a hA => ?_
  refine o_nil <| hN1 _ _ <| w_seq fun _ hN2 => ?_
  refine w_any [] mo hI fun w hI => ?_
  refine gE 0 hA rfl (.inr hI) (fun _ => r_fd (k := 0) Tryd.underlying28 rfl sz24 hA rfl rfl) fun a hA => ?_
  refine gT 1 hA rfl hI (fun w hI => r_ld1 (j := 0) [] [av .u8 32 x0.Prev, av .u8 32 x0.Root, [.int .u32 x0.Time], [.int .u32 x0.Work], [.int .u32 x0.Nonce]] Tryd.underlying24 rfl hI rfl hA rfl rfl) fun a hA => ?_
  refine gE 3 hA rfl (.inr hI) (fun _ => r_fd (k := 1) Tryd.underlying28 rfl sz26 hA rfl rfl) fun a hA => ?_
  refine gE 4 hA rfl (.inr hI) (fun _ => r_slv (i := 0) (j := 32) Tryd.underlying26 sz5 hA rfl rfl rfl (by decide) (by decide) (by decide) (by decide) rfl) fun a hA => ?_
  refine gE 5 hA rfl (.inr hI) (fun _ => r_fd (k := 33) Tryd.underlying28 rfl sz26 hA rfl rfl) fun a hA => ?_
  refine gE 6 hA rfl (.inr hI) (fun _ => r_slv (i := 0) (j := 32) Tryd.underlying26 sz5 hA rfl rfl rfl (by decide) (by decide) (by decide) (by decide) rfl) fun a hA => ?_
  refine gF 2 rfl ?_
  obtain ⟨r1, hr1, H⟩ := bB H
  refine o_call _ cf36 hA rfl (compact_Four.c μ _ hI.agr ([]) (.slice none 0 0) (slc_nil _ _ _) x0.Version hx0.1 r1 hr1) rfl fun v1 a w hz1 hA => ?_
  obtain ⟨_, cs1, rfl, hE1, hi1⟩ := hz1
  have hI := hI.call hi1
  refine o_nil <| ⟨(.inr (hI.sl [1] rfl)), ?_⟩
  refine gF 7 rfl ?_
  obtain ⟨μ1, hle1, hsv1, hI, hth1⟩ := hI.freezeRowT 0 rfl
  have hS1 : Slc (RI .u8) 1 μ1 v1 r1 := ⟨_, hE1, hsv1⟩
  obtain ⟨μ2, hle2, hat1, hI, hth2⟩ := hI.freezeCelT 0 rfl
  have hS2 : Slc (RI .u8) 1 μ2 (.slice (some ⟨g1, 1, none⟩) 32 32) (x0.Prev) := slc_view0 [[.int .u32 x0.Version]] [av .u8 32 x0.Root, [.int .u32 x0.Time], [.int .u32 x0.Work], [.int .u32 x0.Nonce]] hat1 hx0.2.1 rfl (by decide)
  have hS3 : Slc (RI .u8) 1 μ2 (.slice (some ⟨g1, 33, none⟩) 32 32) (x0.Root) := slc_view0 [[.int .u32 x0.Version], av .u8 32 x0.Prev] [[.int .u32 x0.Time], [.int .u32 x0.Work], [.int .u32 x0.Nonce]] hat1 hx0.2.2.1 rfl (by decide)
  have hE2 : Els (RS (RI .u8) 1 μ2) 1 ([r1, x0.Prev, x0.Root] : List (List Int)) _ := (Els.cons (c := [[v1]].flatten) ⟨_, rfl, (Slc.le hS1 (fun _ _ h => h) hle2)⟩ rfl (Els.cons (c := [[(.slice (some ⟨g1, 1, none⟩) 32 32)]].flatten) ⟨_, rfl, hS2⟩ rfl (Els.cons (c := [[(.slice (some ⟨g1, 33, none⟩) 32 32)]].flatten) ⟨_, rfl, hS3⟩ rfl Els.nil)))
  refine o_bsl ([[v1]].flatten ++ ([[(.slice (some ⟨g1, 1, none⟩) 32 32)]].flatten ++ ([[(.slice (some ⟨g1, 33, none⟩) 32 32)]].flatten ++ ([])))) te40 zr40 Tryd.underlying99 hI hA rfl rfl rfl rfl ((fill_one (cells1 (Slc.le hS1 (fun _ _ h => h) hle2)) rfl (by kernel_rfl)).trans ((fill_one (cells1 hS2) rfl (by kernel_rfl)).trans ((fill_one (cells1 hS3) rfl (by kernel_rfl)).trans (by kernel_rfl)))) rfl fun g2 a w hA hI => ?_
  generalize hcs : ([[v1]].flatten ++ ([[(.slice (some ⟨g1, 1, none⟩) 32 32)]].flatten ++ ([[(.slice (some ⟨g1, 33, none⟩) 32 32)]].flatten ++ ([]))) : List Value) = cs2 at hE2 hI
  clear hcs
  refine o_nil <| ⟨(.inr ((hth1 _ _ (hth2 _ _ hI)).sl [1] rfl)), ?_⟩
  refine gF 8 rfl ?_
  obtain ⟨r2, hr2, H⟩ := bB H
  refine o_callW (fun w v w' => ∃ (v0 : Value) (c0 : List Value), v = v0 ∧ Els (RI .u8) 1 r2 c0 ∧ Iv w [] μ2 μ2 [row 5 1 v0 r2.length c0] w') cf35 hA rfl ((by obtain ⟨μ3, hle3, hsv2, hI⟩ := hI.freezeRow 0 rfl; have hS4 : Slc (RS (RI .u8) 1 μ3) 1 μ3 (.slice (some ⟨g2, 0, none⟩) 3 3) ([r1, x0.Prev, x0.Root] : List (List Int)) := ⟨_, (Els.mono hE2 (fun _ _ h => RS.le (fun _ _ h => h) hle3 h)), hsv2⟩; exact (slices_Concat_byte_byte.c μ3 _ hI.agr ([r1, x0.Prev, x0.Root] : List (List Int)) (.slice (some ⟨g2, 0, none⟩) 3 3) hS4 r2 hr2).mono fun _ _ ⟨v, he, b0, b1, hv, f0, hi⟩ => ⟨v, he, b0, b1, hv, f0, hi.low hle3⟩)) rfl fun v2 a w hz2 hA => ?_
  obtain ⟨_, cs3, rfl, hE3, hi2⟩ := hz2
  have hI := hI.call hi2
  refine o_nil <| ⟨(.inr ((hth1 _ _ (hth2 _ _ hI)).sl [1] rfl)), ?_⟩
  refine gE 9 hA rfl (.inr ((hth1 _ _ (hth2 _ _ hI)).sl [1] rfl)) (fun _ => r_as hA rfl) fun a hA => ?_
  refine gN <| hN2 _ _ <| w_seq fun _ hN3 => ?_
  refine w_any [] mo hI fun w hI => ?_
  refine gE 0 hA rfl (.inr hI) (fun _ => r_mv hA rfl) fun a hA => ?_
  refine gE 1 hA rfl (.inr hI) (fun _ => r_fd (k := 0 + 65) Tryd.underlying28 rfl sz24 hA rfl rfl) fun a hA => ?_
  refine gT 2 hA rfl hI (fun w hI => r_ldm1 [[.int .u32 x0.Version], av .u8 32 x0.Prev, av .u8 32 x0.Root] [[.int .u32 x0.Work], [.int .u32 x0.Nonce]] Tryd.underlying24 rfl hI.agr hat1 hA rfl rfl) fun a hA => ?_
  refine gE 4 hA rfl (.inr hI) (fun _ => r_fd (k := 0 + 66) Tryd.underlying28 rfl sz24 hA rfl rfl) fun a hA => ?_
  refine gT 5 hA rfl hI (fun w hI => r_ldm1 [[.int .u32 x0.Version], av .u8 32 x0.Prev, av .u8 32 x0.Root, [.int .u32 x0.Time]] [[.int .u32 x0.Nonce]] Tryd.underlying24 rfl hI.agr hat1 hA rfl rfl) fun a hA => ?_
  refine gE 7 hA rfl (.inr hI) (fun _ => r_fd (k := 0 + 67) Tryd.underlying28 rfl sz24 hA rfl rfl) fun a hA => ?_
  refine gT 8 hA rfl hI (fun w hI => r_ldm1 [[.int .u32 x0.Version], av .u8 32 x0.Prev, av .u8 32 x0.Root, [.int .u32 x0.Time], [.int .u32 x0.Work]] [] Tryd.underlying24 rfl hI.agr hat1 hA rfl rfl) fun a hA => ?_
  refine gF 3 rfl ?_
  obtain ⟨r3, hr3, H⟩ := bB H
  refine o_callW (fun w v w' => ∃ (v0 : Value) (c0 : List Value), v = v0 ∧ Els (RI .u8) 1 r3 c0 ∧ Iv w [] μ2 μ2 [row 5 1 v0 r3.length c0] w') cf36 hA rfl ((by obtain ⟨μ4, hle4, hsv3, hI⟩ := hI.freezeRow 0 rfl; have hS5 : Slc (RI .u8) 1 μ4 v2 r2 := ⟨_, hE3, hsv3⟩; exact (compact_Four.c μ4 _ hI.agr r2 v2 hS5 x0.Time hx0.2.2.2.1 r3 hr3).mono fun _ _ ⟨v, he, b0, b1, hv, f0, hi⟩ => ⟨v, he, b0, b1, hv, f0, hi.low hle4⟩)) rfl fun v3 a w hz3 hA => ?_
  obtain ⟨_, cs4, rfl, hE4, hi3⟩ := hz3
  have hI := hI.call hi3
  refine o_nil <| ⟨(.inr (hI.sl [1, 2] rfl)), ?_⟩
  refine gF 6 rfl ?_
  obtain ⟨r4, hr4, H⟩ := bB H
  refine o_callW (fun w v w' => ∃ (v0 : Value) (c0 : List Value), v = v0 ∧ Els (RI .u8) 1 r4 c0 ∧ Iv w [] μ2 μ2 [row 5 1 v0 r4.length c0] w') cf36 hA rfl ((by obtain ⟨μ5, hle5, hsv4, hI⟩ := hI.freezeRow 0 rfl; have hS6 : Slc (RI .u8) 1 μ5 v3 r3 := ⟨_, hE4, hsv4⟩; exact (compact_Four.c μ5 _ hI.agr r3 v3 hS6 x0.Work hx0.2.2.2.2.1 r4 hr4).mono fun _ _ ⟨v, he, b0, b1, hv, f0, hi⟩ => ⟨v, he, b0, b1, hv, f0, hi.low hle5⟩)) rfl fun v4 a w hz4 hA => ?_
  obtain ⟨_, cs5, rfl, hE5, hi4⟩ := hz4
  have hI := hI.call hi4
  refine o_nil <| ⟨(.inr (hI.sl [2, 3] rfl)), ?_⟩
  refine gF 9 rfl ?_
  obtain ⟨r5, hr5, H⟩ := bB H
  refine o_callW (fun w v w' => ∃ (v0 : Value) (c0 : List Value), v = v0 ∧ Els (RI .u8) 1 r5 c0 ∧ Iv w [] μ2 μ2 [row 5 1 v0 r5.length c0] w') cf36 hA rfl ((by obtain ⟨μ6, hle6, hsv5, hI⟩ := hI.freezeRow 0 rfl; have hS7 : Slc (RI .u8) 1 μ6 v4 r4 := ⟨_, hE5, hsv5⟩; exact (compact_Four.c μ6 _ hI.agr r4 v4 hS7 x0.Nonce hx0.2.2.2.2.2 r5 hr5).mono fun _ _ ⟨v, he, b0, b1, hv, f0, hi⟩ => ⟨v, he, b0, b1, hv, f0, hi.low hle6⟩)) rfl fun v5 a w hz5 hA => ?_
  obtain ⟨_, cs6, rfl, hE6, hi5⟩ := hz5
  have hI := hI.call hi5
  refine o_nil <| ⟨(.inr (hI.sl [3, 4] rfl)), ?_⟩
  refine gE 10 hA rfl (.inr (hI.sl [3, 4] rfl)) (fun _ => r_as hA rfl) fun a hA => ?_
  refine gN <| hN3 _ _ <| w_ret ?_
  obtain rfl := sJ H
  exact ret1 hA Tryd.results44 rfl ⟨_, rfl, v5, cs6, rfl, hE6, ((hI.sl [0] rfl).less (Store.le.refl _) hI.le)⟩
set_option maxRecDepth 20000 in
theorem spend_Null.c (μ : Store) (w0 : World) (hμ : Agr μ w0) (r : Point) (H : spend_Null.f = some r) :
    Calls Tryd.prog 37 [].toArray w0 (fun e w' => ∃ v, e = .returned v ∧ v = .agg [av .u8 32 r.Tx, [.int .u32 r.N]].flatten.toArray ∧ PointW μ r ∧ Iv w0 [] μ μ [] w') := by
  refine enter Tryd.func37 rfl Tryd.ntmps37 rfl fun a hA => ?_
  have hI := Iv.start hμ
  have H := bI H
  refine w_seq fun _ hN1 => w_reg <| o_new [av .u8 32 (List.replicate 32 0), [.int .u32 0]] zr39 hI hA rfl fun g1 a w hA hI hg1 => ?_
  refine o_nil <| hN1 _ _ <| w_seq fun _ hN2 => w_reg <| stp hA (r_bldS (cs := [av .u8 32 (List.replicate 32 0), [.int .u32 4294967295]].flatten.toArray) (pl := [(0, 32), (32, 1)]) zr39 Tryd.underlying39 ⟨rfl, sz26, rfl, sz24, trivial⟩ hA rfl (by kernel_rfl)) rfl fun a hA => 
    o_st (j := 0) [] [av .u8 32 (List.replicate 32 0), [.int .u32 0]] [av .u8 32 (List.replicate 32 0), [.int .u32 4294967295]] [] sz39 rfl rfl (fl_cons (one_av _ _ _) (fl_cons (oneC rfl) fl_nil)) hI rfl hA rfl rfl rfl rfl fun w hI => ?_
  refine o_nil <| hN2 _ _ <| w_ret ?_
  obtain rfl := sJ H
  exact retc Tryd.underlying39 rfl sz39 rfl hI (j := 0) rfl hA Tryd.results37 rfl ⟨_, rfl, rfl, ⟨(arr_zero _ _), (in_lit .u32 4294967295 rfl)⟩, hI.forget0⟩
set_option maxRecDepth 20000 in
theorem spend_IsNull.c (μ : Store) (w0 : World) (hμ : Agr μ w0) (x0 : Point) (hx0 : PointW μ x0) (r : Bool) (H : spend_IsNull.f x0 = some r) :
    Calls Tryd.prog 51 [.agg [av .u8 32 x0.Tx, [.int .u32 x0.N]].flatten.toArray].toArray w0 (fun e w' => ∃ v, e = .returned v ∧ v = .bool r ∧ True ∧ Iv w0 [] μ μ [] w') := by
  refine enter Tryd.func51 rfl Tryd.ntmps51 rfl fun a hA => ?_
  have hI := Iv.start hμ
  have H := bI H
  refine w_seq fun _ hN1 => w_reg <| o_box [av .u8 32 x0.Tx, [.int .u32 x0.N]] hI hA rfl rfl rfl fun g1 a w hA hI hg1 => 
    sta hA rfl rfl fun a hA => ?_
  refine o_nil <| hN1 _ _ <| w_seq fun _ hN2 => ?_
  refine w_any [] mo hI fun w hI => ?_
  refine gT 0 hA rfl hI (fun w hI => r_ldA (j := 0) [] [av .u8 32 x0.Tx, [.int .u32 x0.N]] [] Tryd.underlying39 rfl sz39 rfl hI rfl hA rfl rfl) fun a hA => ?_
  refine gF 1 rfl ?_
  obtain ⟨r1, hr1, H⟩ := bB H
  refine o_callp (u := .agg [av .u8 32 r1.Tx, [.int .u32 r1.N]].flatten.toArray) cf37 hA rfl hI (spend_Null.c μ _ hI.agr  r1 hr1) rfl fun a w hz1 hI hA => ?_
  refine o_nil <| ⟨(.inr hI), ?_⟩
  refine gE 2 hA rfl (.inr hI) (fun _ => r_eqS hA rfl rfl eg39 (eqv_struct Tryd.underlying39 sh39 (eqf_cons (by decide) (partA [] [av .u8 32 x0.Tx] [[.int .u32 x0.N]] Tryd.underlying26 rfl sz26 rfl rfl) (partA [] [av .u8 32 r1.Tx] [[.int .u32 r1.N]] Tryd.underlying26 rfl sz26 rfl rfl) (eqv_arr Tryd.underlying26 Tryd.underlying5 sz5 hx0.1 hz1.1) (eqf_last (by decide) (part1 [av .u8 32 x0.Tx] [] Tryd.underlying24 rfl rfl) (part1 [av .u8 32 r1.Tx] [] Tryd.underlying24 rfl rfl) (eqv_int Tryd.underlying24))))) fun a hA => ?_
  refine gE 3 hA rfl (.inr hI) (fun _ => r_as hA rfl) fun a hA => ?_
  refine gN <| hN2 _ _ <| w_ret ?_
  obtain rfl := sJ H
  exact ret1 hA Tryd.results51 rfl ⟨_, rfl, rfl, trivial, hI.forget0⟩
set_option maxRecDepth 20000 in
theorem spend_Lock.c (μ : Store) (w0 : World) (hμ : Agr μ w0) (x0 : List Int) (u0 : Value) (hx0 : Slc (RI .u8) 1 μ u0 x0) (r : List Int) (H : spend_Lock.f x0 = some r) :
    Calls Tryd.prog 26 [u0].toArray w0 (fun e w' => ∃ v, e = .returned v ∧ v = .agg [av .u8 32 r].flatten.toArray ∧ Arr .u8 32 r ∧ Iv w0 [] μ μ [] w') := by
  refine enter Tryd.func26 rfl Tryd.ntmps26 rfl fun a hA => ?_
  have hI := Iv.start hμ
  have H := bI H
  refine w_seq fun _ hN1 => w_reg <| o_new [av .u8 32 (List.replicate 32 0)] zr26 hI hA rfl fun g1 a w hA hI hg1 => ?_
  refine o_nil <| hN1 _ _ <| w_seq fun _ hN2 => w_reg <| stm hA rfl rfl fun a hA => ?_
  obtain ⟨r1, hr1, H⟩ := bB H
  refine o_callp (u := .agg [av .u8 32 r1].flatten.toArray) cf38 hA rfl hI (digest_Sha.c μ _ hI.agr x0 u0 hx0 r1 hr1) rfl fun a w hz1 hI hA => 
    o_st (j := 0) [] [av .u8 32 (List.replicate 32 0)] [av .u8 32 r1] [] sz26 rfl rfl (fl_cons (one_av _ _ _) fl_nil) hI rfl hA rfl rfl rfl rfl fun w hI => ?_
  refine o_nil <| hN2 _ _ <| w_ret ?_
  obtain rfl := sJ H
  exact retc Tryd.underlying26 rfl sz26 rfl hI (j := 0) rfl hA Tryd.results26 rfl ⟨_, rfl, rfl, hz1, hI.forget0⟩
set_option maxRecDepth 20000 in
theorem sargassoref1_Null.c (μ : Store) (w0 : World) (hμ : Agr μ w0) (r : Point) (H : sargassoref1_Null.f = some r) :
    Calls Tryd.prog 15 [].toArray w0 (fun e w' => ∃ v, e = .returned v ∧ v = .agg [av .u8 32 r.Tx, [.int .u32 r.N]].flatten.toArray ∧ PointW μ r ∧ Iv w0 [] μ μ [] w') := by
  refine enter Tryd.func15 rfl Tryd.ntmps15 rfl fun a hA => ?_
  have hI := Iv.start hμ
  have H := bI H
  refine w_seq fun _ hN1 => w_reg <| o_new [av .u8 32 (List.replicate 32 0), [.int .u32 0]] zr39 hI hA rfl fun g1 a w hA hI hg1 => ?_
  refine o_nil <| hN1 _ _ <| w_seq fun _ hN2 => w_reg <| stp hA (r_bldS (cs := [av .u8 32 (List.replicate 32 0), [.int .u32 4294967295]].flatten.toArray) (pl := [(0, 32), (32, 1)]) zr39 Tryd.underlying39 ⟨rfl, sz26, rfl, sz24, trivial⟩ hA rfl (by kernel_rfl)) rfl fun a hA => 
    o_st (j := 0) [] [av .u8 32 (List.replicate 32 0), [.int .u32 0]] [av .u8 32 (List.replicate 32 0), [.int .u32 4294967295]] [] sz39 rfl rfl (fl_cons (one_av _ _ _) (fl_cons (oneC rfl) fl_nil)) hI rfl hA rfl rfl rfl rfl fun w hI => ?_
  refine o_nil <| hN2 _ _ <| w_ret ?_
  obtain rfl := sJ H
  exact retc Tryd.underlying39 rfl sz39 rfl hI (j := 0) rfl hA Tryd.results15 rfl ⟨_, rfl, rfl, ⟨(arr_zero _ _), (in_lit .u32 4294967295 rfl)⟩, hI.forget0⟩
end Go.Proofs.YtkfpmcplfodikaaDoor.T
namespace Go.Proofs.YtkfpmcplfodikaaDoor.T
open Go Go.Proofs Go.Proofs.YtkfpmcplfodikaaDoor.K
set_option linter.unusedVariables false
set_option linter.unusedSimpArgs false
noncomputable def tx_Bytes.s1 (x0 : Tx) : ((List Int) × Int) → Option (((List Int) × Int) ⊕ (List Int)) := fun (s3, s4) => (if s4 < (x0.Outs.length : Int) then (if 0 ≤ s4 ∧ s4 < (x0.Outs.length : Int) then ((compact_Eight.f s3 ((x0.Outs.getD s4.toNat default).Value)).bind fun r7 => (if r7.length + ((x0.Outs.getD s4.toNat default).Lock).length ≤ 140737488355328 then some (.inl (r7 ++ ((x0.Outs.getD s4.toNat default).Lock), IntKind.i64.wrap (s4 + 1))) else none)) else none) else some (.inr s3))
noncomputable def tx_Bytes.s0 (x0 : Tx) : ((List Int) × Int) → Option (((List Int) × Int) ⊕ (List Int)) := fun (s1, s2) => (if s2 < (x0.Ins.length : Int) then (if 0 ≤ s2 ∧ s2 < (x0.Ins.length : Int) then (if s1.length + ((x0.Ins.getD s2.toNat default).From.Tx).length ≤ 140737488355328 then ((compact_Four.f (s1 ++ ((x0.Ins.getD s2.toNat default).From.Tx)) ((x0.Ins.getD s2.toNat default).From.N)).bind fun r3 => ((compact_Put.f r3 (IntKind.u64.wrap (((x0.Ins.getD s2.toNat default).Key).length : Int))).bind fun r4 => (if r4.length + ((x0.Ins.getD s2.toNat default).Key).length ≤ 140737488355328 then ((compact_Four.f (r4 ++ ((x0.Ins.getD s2.toNat default).Key)) ((x0.Ins.getD s2.toNat default).Seq)).bind fun r5 => some (.inl (r5, IntKind.i64.wrap (s2 + 1)))) else none))) else none) else none) else some (.inr s1))
noncomputable def tx_Bytes.f (x0 : Tx) : Option (List Int) := ((compact_Four.f ([]) x0.Version).bind fun r1 => ((compact_Put.f r1 (IntKind.u64.wrap (x0.Ins.length : Int))).bind fun r2 => ((loopO (tx_Bytes.s0 x0) (r2, 0)).bind fun c1 => ((compact_Put.f c1 (IntKind.u64.wrap (x0.Outs.length : Int))).bind fun r6 => ((loopO (tx_Bytes.s1 x0) (r6, 0)).bind fun c2 => ((compact_Four.f c2 x0.Time).bind fun r8 => some r8))))))
noncomputable def tx_ID.f (x0 : Tx) : Option (List Int) := ((tx_Bytes.f x0).bind fun r1 => ((digest_Twice.f r1).bind fun r2 => some r2))
noncomputable def tx_Size.f (x0 : Tx) : Option Int := ((tx_Bytes.f x0).bind fun r1 => some (r1.length : Int))
noncomputable def tx_Check_1.f (x0 : In) : Option Bool := some (decide (80 < (x0.Key.length : Int)))
noncomputable def tx_values.s0 (x0 : Tx) : ((List Int) × Int) → Option (((List Int) × Int) ⊕ (List Int)) := fun (s1, s2) => (if s2 < (x0.Outs.length : Int) then (if 0 ≤ s2 ∧ s2 < (x0.Outs.length : Int) then (if s1.length + 1 ≤ 17592186044416 then some (.inl (s1 ++ ([(x0.Outs.getD s2.toNat default).Value] : List Int), IntKind.i64.wrap (s2 + 1))) else none) else none) else some (.inr s1))
noncomputable def tx_values.f (x0 : Tx) : Option (List Int) := ((loopO (tx_values.s0 x0) (([] : List Int), 0)).bind fun c1 => some c1)
noncomputable def tx_Sum.f (x0 : Tx) : Option (Int × Bool) := ((tx_values.f x0).bind fun r1 => ((compact_Sum.f r1).bind fun r2 => some (r2.1, r2.2)))
noncomputable def tx_twice.s0 (x0 : Tx) : (Int × (List (Point × Bool))) → Option ((Int × (List (Point × Bool))) ⊕ Bool) := fun (s1, s2) => (if s1 < (x0.Ins.length : Int) then (if 0 ≤ s1 ∧ s1 < (x0.Ins.length : Int) then (if ((mget s2 ((x0.Ins.getD s1.toNat default).From)).getD false) = true then some (.inr true) else some (.inl (IntKind.i64.wrap (s1 + 1), mput s2 ((x0.Ins.getD s1.toNat default).From) true))) else none) else some (.inr false))
noncomputable def tx_twice.f (x0 : Tx) : Option Bool := loopO (tx_twice.s0 x0) (0, ([] : List (Point × Bool)))
noncomputable def tx_Base.f (x0 : Tx) : Option Bool := (((if (x0.Ins.length : Int) = 1 then (if 0 < (x0.Ins.length : Int) then ((spend_IsNull.f ((x0.Ins.getD (0 : Int).toNat default).From)).bind fun r1 => some r1) else none) else some false)).bind fun c1 => some c1)
noncomputable def tx_base_1.f (x0 : In) : Option Bool := ((spend_IsNull.f x0.From).bind fun r1 => some r1)
noncomputable def slices_IndexFunc_api_In_api_In_at_tx_base_1.s0 (x0 : List In) : Int → Option (Int ⊕ Int) := fun s1 => (if s1 < (x0.length : Int) then (if 0 ≤ s1 ∧ s1 < (x0.length : Int) then ((tx_base_1.f (x0.getD s1.toNat default)).bind fun r1 => (if r1 = true then some (.inr s1) else some (.inl (IntKind.i64.wrap (s1 + 1))))) else none) else some (.inr (-1)))
noncomputable def slices_IndexFunc_api_In_api_In_at_tx_base_1.f (x0 : List In) : Option Int := loopO (slices_IndexFunc_api_In_api_In_at_tx_base_1.s0 x0) 0
noncomputable def slices_ContainsFunc_api_In_api_In_at_tx_base_1.f (x0 : List In) : Option Bool := ((slices_IndexFunc_api_In_api_In_at_tx_base_1.f x0).bind fun r1 => some (decide (0 ≤ r1)))
noncomputable def tx_base.f (x0 : Tx) : Option Er := ((tx_Base.f x0).bind fun r1 => (if r1 = true then (if 0 < (x0.Ins.length : Int) then (if (((x0.Ins.getD (0 : Int).toNat default).Key).length : Int) < 4 then some xErrBase else some (Er.b 0)) else none) else ((slices_ContainsFunc_api_In_api_In_at_tx_base_1.f x0.Ins).bind fun r2 => (if r2 = true then some xErrBase else some (Er.b 0)))))
noncomputable def slices_IndexFunc_api_In_api_In_at_tx_Check_1.s0 (x0 : List In) : Int → Option (Int ⊕ Int) := fun s1 => (if s1 < (x0.length : Int) then (if 0 ≤ s1 ∧ s1 < (x0.length : Int) then ((tx_Check_1.f (x0.getD s1.toNat default)).bind fun r1 => (if r1 = true then some (.inr s1) else some (.inl (IntKind.i64.wrap (s1 + 1))))) else none) else some (.inr (-1)))
noncomputable def slices_IndexFunc_api_In_api_In_at_tx_Check_1.f (x0 : List In) : Option Int := loopO (slices_IndexFunc_api_In_api_In_at_tx_Check_1.s0 x0) 0
noncomputable def slices_ContainsFunc_api_In_api_In_at_tx_Check_1.f (x0 : List In) : Option Bool := ((slices_IndexFunc_api_In_api_In_at_tx_Check_1.f x0).bind fun r1 => some (decide (0 ≤ r1)))
noncomputable def tx_Check.f (x0 : Tx) : Option Er := (((if (x0.Ins.length : Int) = 0 then some true else (if 50 < (x0.Ins.length : Int) then some true else (if (x0.Outs.length : Int) = 0 then some true else some (decide (50 < (x0.Outs.length : Int))))))).bind fun c1 => (if c1 = true then some xErrMany else ((tx_Size.f x0).bind fun r1 => (if 4000 < r1 then some xErrLong else ((slices_ContainsFunc_api_In_api_In_at_tx_Check_1.f x0.Ins).bind fun r2 => (if r2 = true then some xErrKey else ((tx_Sum.f x0).bind fun r3 => (if r3.2 = true then ((tx_twice.f x0).bind fun r4 => (if r4 = true then some xErrTwice else ((tx_base.f x0).bind fun r5 => some r5))) else some xErrValue))))))))
noncomputable def sargassoref1_First.f (x0 : Int) (x1 : Int) (x2 : List Int) (x3 : List Int) : Option Tx := ((sargassoref1_Four.f ([] : List Int) (IntKind.u32.wrap x0)).bind fun r1 => (if r1.length + x3.length ≤ 140737488355328 then ((((sargassoref1_Null.f).bind fun r2 => some (r1 ++ x3, 1, ([(⟨r2, r1 ++ x3, 4294967295⟩ : In)] : List In), ([(⟨x1, x2⟩ : Out)] : List Out)))).bind fun (c1, c2, c3, c4) => some (⟨c2, c3, c4, 0⟩ : Tx)) else none))
end Go.Proofs.YtkfpmcplfodikaaDoor.T
namespace Go.Proofs.YtkfpmcplfodikaaDoor.T
open Go Go.Proofs Go.Proofs.YtkfpmcplfodikaaDoor.K
set_option linter.unusedVariables false
set_option linter.unusedSimpArgs false
set_option maxRecDepth 20000 in
theorem tx_Bytes.c (μ : Store) (w0 : World) (hμ : Agr μ w0) (x0 : Tx) (u0_0 : Value) (u0_1 : Value) (hx0 : TxW μ x0 u0_0 u0_1) (r : List Int) (H : tx_Bytes.f x0 = some r) :
    Calls Tryd.prog 40 [.agg [[.int .u32 x0.Version], [u0_0], [u0_1], [.int .u32 x0.Time]].flatten.toArray].toArray w0 (fun e w' => ∃ v, e = .returned v ∧ ∃ (v0 : Value) (c0 : List Value), v = v0 ∧ Els (RI .u8) 1 r c0 ∧ Iv w0 [] μ μ [row 5 1 v0 r.length c0] w') := by
  refine enter Tryd.func40 rfl Tryd.ntmps40 rfl fun a hA => ?_
  have hI := Iv.start hμ
  have H := bI H
  refine w_seq fun _ hN1 => w_reg <| o_box [[.int .u32 x0.Version], [u0_0], [u0_1], [.int .u32 x0.Time]] hI hA rfl rfl rfl fun g1 a w hA hI hg1 => 
    sta hA rfl rfl fun a hA => ?_
  refine o_nil <| hN1 _ _ <| w_seq fun _ hN2 => w_reg <| stp hA (r_fd (k := 0) Tryd.underlying32 rfl sz24 hA rfl rfl) rfl fun a hA => 
    stp hA (r_ld1 (j := 0) [] [[u0_0], [u0_1], [.int .u32 x0.Time]] Tryd.underlying24 rfl hI rfl hA rfl rfl) rfl fun a hA => ?_
  obtain ⟨r1, hr1, H⟩ := bB H
  refine o_call _ cf36 hA rfl (compact_Four.c μ _ hI.agr ([]) (.slice none 0 0) (slc_nil _ _ _) x0.Version hx0.1 r1 hr1) rfl fun v1 a w hz1 hA => ?_
  obtain ⟨_, cs1, rfl, hE1, hi1⟩ := hz1
  have hI := hI.call hi1
  refine sta hA rfl rfl fun a hA => ?_
  refine o_nil <| hN2 _ _ <| w_seq fun _ hN3 => w_reg <| stm hA rfl rfl fun a hA => 
    stp hA (r_fd (k := 1) Tryd.underlying32 rfl sz29 hA rfl rfl) rfl fun a hA => 
    stp hA (r_ld1 (j := 1) [[.int .u32 x0.Version]] [[u0_1], [.int .u32 x0.Time]] Tryd.underlying29 rfl hI rfl hA rfl rfl) rfl fun a hA => ?_
  obtain ⟨_, hsl1⟩ := Slc.sv hx0.2.1
  refine stp hA (r_slen Tryd.underlying29 hsl1 hA rfl) rfl fun a hA => 
    stp hA (r_conv Tryd.underlying3 Tryd.underlying34 hA rfl) rfl fun a hA => ?_
  obtain ⟨r2, hr2, H⟩ := bB H
  refine o_callW (fun w v w' => ∃ (v0 : Value) (c0 : List Value), v = v0 ∧ Els (RI .u8) 1 r2 c0 ∧ Iv w [] μ μ [row 5 1 v0 r2.length c0] w') cf43 hA rfl ((by obtain ⟨μ1, hle1, hsv1, hI⟩ := hI.freezeRow 0 rfl; have hS1 : Slc (RI .u8) 1 μ1 v1 r1 := ⟨_, hE1, hsv1⟩; exact (compact_Put.c μ1 _ hI.agr r1 v1 hS1 (IntKind.u64.wrap (x0.Ins.length : Int)) (wrap_in _ _) r2 hr2).mono fun _ _ ⟨v, he, b0, b1, hv, f0, hi⟩ => ⟨v, he, b0, b1, hv, f0, hi.low hle1⟩)) rfl fun v2 a w hz2 hA => ?_
  obtain ⟨_, cs2, rfl, hE2, hi2⟩ := hz2
  have hI := hI.call hi2
  refine sta hA rfl rfl fun a hA => ?_
  refine o_nil <| hN3 _ _ ?_
  obtain ⟨c1, hz3, Hk1⟩ := bB H
  refine w_cut (fun a w => ∃ (vvc1 : Value) (ccc1 : List Value), Els (RI .u8) 1 c1 ccc1 ∧ Fr a 72 [(1, .pointer (some ⟨g1, 0, none⟩)), (2, (.slice none 0 0)), (3, vvc1)] ∧ Iv w0 [] μ μ [row 5 1 vvc1 c1.length ccc1, row 5 1 v1 r1.length cs1, cel g1 [[.int .u32 x0.Version], [u0_0], [u0_1], [.int .u32 x0.Time]] 32] w) ?_ ?_
  · have H := bI hz3
    refine w_seq fun _ hN4 => w_reg <| stp hA (r_fd (k := 1) Tryd.underlying32 rfl sz29 hA rfl rfl) rfl fun a hA => 
      stp hA (r_ld1 (j := 2) [[.int .u32 x0.Version]] [[u0_1], [.int .u32 x0.Time]] Tryd.underlying29 rfl hI rfl hA rfl rfl) rfl fun a hA => ?_
    obtain ⟨_, hsl2⟩ := Slc.sv hx0.2.1
    refine stp hA (r_slen Tryd.underlying29 hsl2 hA rfl) rfl fun a hA => 
      stm hA rfl rfl fun a hA => ?_
    refine o_nil <| hN4 _ _ <| w_block ?_
    obtain ⟨z1, hz4, Hk2⟩ := bind_some H
    obtain ⟨n1, hn1⟩ := loopO_some hz4
    refine w_loop (fun n a w => ∃ (s1 : List Int) (s2 : Int) (vvs1 : Value) (ccs1 : List Value), loopN (tx_Bytes.s0 x0) n (s1, s2) = some z1 ∧ Els (RI .u8) 1 s1 ccs1 ∧ InR .i64 s2 ∧ Fr a 72 [(1, .pointer (some ⟨g1, 0, none⟩)), (2, (.slice none 0 0)), (3, vvs1), (18, u0_0), (19, .int .i64 (x0.Ins.length : Int)), (20, .int .i64 s2)] ∧ Iv w0 [] μ μ [row 5 1 vvs1 s1.length ccs1, row 5 1 v1 r1.length cs1, cel g1 [[.int .u32 x0.Version], [u0_0], [u0_1], [.int .u32 x0.Time]] 32] w) n1 ⟨r2, 0, v2, cs2, hn1, hE2, (in_lit .i64 0 rfl), hA.sub ⟨rfl, rfl, rfl, rfl, rfl, rfl, trivial⟩, hI⟩ ?_
    clear hA hI
    rintro n a w ⟨s1, s2, vvs1, ccs1, hn1, ws1, ws2, hA, hI⟩
    obtain ⟨m1, rfl, H⟩ := loopN_bind hn1
    clear hn1
    refine w_seq fun _ hN5 => w_reg <| stp hA (r_lss hA rfl rfl) rfl fun a hA => ?_
    refine o_nil <| hN5 _ _ <| w_seq fun _ hN6 => w_cond hA rfl (fun hc1 => ?_) (fun hc1 => ?_)
    · obtain ⟨hc1, H⟩ := dT H hc1
      refine w_skip <| hN6 _ _ <| w_seq fun _ hN7 => w_block <| w_seq fun _ hN8 => w_reg ?_
      obtain ⟨hb1, H⟩ := bG H
      obtain ⟨_, he1, _, hat1⟩ := Slc.elem hx0.2.1 (getD_some default hb1.1 hb1.2)
      obtain ⟨v3, rfl, hw1⟩ := he1
      obtain ⟨_, hsl3⟩ := Slc.sv hx0.2.1
      refine stp hA (r_six Tryd.underlying29 sz42 hsl3 hA rfl rfl hb1.1 hb1.2) rfl fun a hA => 
        stp hA (r_ldmA [] [av .u8 32 ((x0.Ins.getD s2.toNat default).From.Tx), [.int .u32 ((x0.Ins.getD s2.toNat default).From.N)], [v3], [.int .u32 ((x0.Ins.getD s2.toNat default).Seq)]] [] Tryd.underlying42 rfl sz42 rfl hI.agr hat1 hA rfl rfl) rfl fun a hA => 
        o_new [av .u8 32 (List.replicate 32 0), [.int .u32 0], [(.slice none 0 0)], [.int .u32 0]] zr42 hI hA rfl fun g2 a w hA hI hg2 => ?_
      obtain ⟨_, hsl4⟩ := Slc.sv hw1.2.2.1
      refine o_st (j := 0) [] [av .u8 32 (List.replicate 32 0), [.int .u32 0], [(.slice none 0 0)], [.int .u32 0]] [av .u8 32 ((x0.Ins.getD s2.toNat default).From.Tx), [.int .u32 ((x0.Ins.getD s2.toNat default).From.N)], [v3], [.int .u32 ((x0.Ins.getD s2.toNat default).Seq)]] [] sz42 rfl rfl (fl_cons (one_av _ _ _) (fl_cons (oneC rfl) (fl_cons (oneC (one_sl hsl4)) (fl_cons (oneC rfl) fl_nil)))) hI rfl hA rfl rfl rfl rfl fun w hI => ?_
      refine o_nil <| hN8 _ _ <| w_seq fun _ hN9 => ?_
      refine w_anyS [] mo (fun w (h : Iv w0 [] μ μ [cel g2 [av .u8 32 ((x0.Ins.getD s2.toNat default).From.Tx), [.int .u32 ((x0.Ins.getD s2.toNat default).From.N)], [v3], [.int .u32 ((x0.Ins.getD s2.toNat default).Seq)]] 42, row 5 1 vvs1 s1.length ccs1, row 5 1 v1 r1.length cs1, cel g1 [[.int .u32 x0.Version], [u0_0], [u0_1], [.int .u32 x0.Time]] 32] w) => (h.sl [0, 2, 3] rfl : Iv w0 [] μ μ [cel g2 [av .u8 32 ((x0.Ins.getD s2.toNat default).From.Tx), [.int .u32 ((x0.Ins.getD s2.toNat default).From.N)], [v3], [.int .u32 ((x0.Ins.getD s2.toNat default).Seq)]] 42, row 5 1 v1 r1.length cs1, cel g1 [[.int .u32 x0.Version], [u0_0], [u0_1], [.int .u32 x0.Time]] 32] w)) hI fun w hI => ?_
      refine gE 0 hA rfl (.inr (hI.sl [0, 2, 3] rfl)) (fun _ => r_mv hA rfl) fun a hA => ?_
      refine gE 1 hA rfl (.inr (hI.sl [0, 2, 3] rfl)) (fun _ => r_fd (k := 0) Tryd.underlying42 rfl sz39 hA rfl rfl) fun a hA => ?_
      refine gE 2 hA rfl (.inr (hI.sl [0, 2, 3] rfl)) (fun _ => r_fd (k := 0) Tryd.underlying39 rfl sz26 hA rfl rfl) fun a hA => ?_
      refine gE 3 hA rfl (.inr (hI.sl [0, 2, 3] rfl)) (fun _ => r_slv (i := 0) (j := 32) Tryd.underlying26 sz5 hA rfl rfl rfl (by decide) (by decide) (by decide) (by decide) rfl) fun a hA => ?_
      refine gE 5 hA rfl (.inr (hI.sl [0, 2, 3] rfl)) (fun _ => r_fd (k := 0) Tryd.underlying42 rfl sz39 hA rfl rfl) fun a hA => ?_
      refine gE 6 hA rfl (.inr (hI.sl [0, 2, 3] rfl)) (fun _ => r_fd (k := 32) Tryd.underlying39 rfl sz24 hA rfl rfl) fun a hA => ?_
      refine gT 7 hA rfl (hI.sl [0, 2, 3] rfl) (fun w hI => r_ld1 (j := 0) [av .u8 32 ((x0.Ins.getD s2.toNat default).From.Tx)] [[v3], [.int .u32 ((x0.Ins.getD s2.toNat default).Seq)]] Tryd.underlying24 rfl hI rfl hA rfl rfl) fun a hA => ?_
      refine gF 4 rfl ?_
      have hE3 := els_av hw1.1
      obtain ⟨hb2, H⟩ := bG H
      have hE4 := ws1.app hE3
      refine o_appG (xs := (s1 : List Int)) (ys := ((x0.Ins.getD s2.toNat default).From.Tx : List Int)) (M := 140737488355328) 1 te5 Tryd.underlying40 hI rfl hA rfl rfl (by simpa using src_cel [] [[.int .u32 ((x0.Ins.getD s2.toNat default).From.N)], [v3], [.int .u32 ((x0.Ins.getD s2.toNat default).Seq)]] hI (j := 0) rfl hw1.1 rfl) hE3.len (hE3.ones (one_RI _)) hb2 rfl fun v4 a w hA hI => ?_
      refine o_nil <| ⟨(.inr (hI.sl [0, 2, 3] rfl)), ?_⟩
      refine gF 8 rfl ?_
      obtain ⟨r3, hr3, H⟩ := bB H
      refine o_callW (fun w v w' => ∃ (v0 : Value) (c0 : List Value), v = v0 ∧ Els (RI .u8) 1 r3 c0 ∧ Iv w [] μ μ [row 5 1 v0 r3.length c0] w') cf36 hA rfl ((by obtain ⟨μ2, hle2, hsv3, hI⟩ := hI.freezeRow 1 rfl; have hS2 : Slc (RI .u8) 1 μ2 v4 (s1 ++ ((x0.Ins.getD s2.toNat default).From.Tx)) := ⟨_, hE4, hsv3⟩; exact (compact_Four.c μ2 _ hI.agr (s1 ++ ((x0.Ins.getD s2.toNat default).From.Tx)) v4 hS2 ((x0.Ins.getD s2.toNat default).From.N) hw1.2.1 r3 hr3).mono fun _ _ ⟨v, he, b0, b1, hv, f0, hi⟩ => ⟨v, he, b0, b1, hv, f0, hi.low hle2⟩)) rfl fun v5 a w hz5 hA => ?_
      obtain ⟨_, cs5, rfl, hE5, hi3⟩ := hz5
      have hI := hI.call hi3
      refine o_nil <| ⟨(.inr (hI.sl [1, 3, 4] rfl)), ?_⟩
      refine gE 9 hA rfl (.inr (hI.sl [1, 3, 4] rfl)) (fun _ => r_as hA rfl) fun a hA => ?_
      refine gN <| hN9 _ _ <| w_seq fun _ hN10 => ?_
      refine w_anyS [] mo (fun w (h : Iv w0 [] μ μ [row 5 1 v5 r3.length cs5, cel g2 [av .u8 32 ((x0.Ins.getD s2.toNat default).From.Tx), [.int .u32 ((x0.Ins.getD s2.toNat default).From.N)], [v3], [.int .u32 ((x0.Ins.getD s2.toNat default).Seq)]] 42, row 5 1 v4 (s1 ++ ((x0.Ins.getD s2.toNat default).From.Tx)).length (ccs1 ++ ([av .u8 32 ((x0.Ins.getD s2.toNat default).From.Tx)].flatten)), row 5 1 v1 r1.length cs1, cel g1 [[.int .u32 x0.Version], [u0_0], [u0_1], [.int .u32 x0.Time]] 32] w) => (h.sl [0, 1, 2, 3, 4] rfl : Iv w0 [] μ μ [row 5 1 v5 r3.length cs5, cel g2 [av .u8 32 ((x0.Ins.getD s2.toNat default).From.Tx), [.int .u32 ((x0.Ins.getD s2.toNat default).From.N)], [v3], [.int .u32 ((x0.Ins.getD s2.toNat default).Seq)]] 42, row 5 1 v4 (s1 ++ ((x0.Ins.getD s2.toNat default).From.Tx)).length (ccs1 ++ ([av .u8 32 ((x0.Ins.getD s2.toNat default).From.Tx)].flatten)), row 5 1 v1 r1.length cs1, cel g1 [[.int .u32 x0.Version], [u0_0], [u0_1], [.int .u32 x0.Time]] 32] w)) hI fun w hI => ?_
      refine gE 0 hA rfl (.inr hI) (fun _ => r_mv hA rfl) fun a hA => ?_
      refine gE 1 hA rfl (.inr hI) (fun _ => r_fd (k := 33) Tryd.underlying42 rfl sz40 hA rfl rfl) fun a hA => ?_
      refine gT 2 hA rfl hI (fun w hI => r_ld1 (j := 1) [av .u8 32 ((x0.Ins.getD s2.toNat default).From.Tx), [.int .u32 ((x0.Ins.getD s2.toNat default).From.N)]] [[.int .u32 ((x0.Ins.getD s2.toNat default).Seq)]] Tryd.underlying40 rfl hI rfl hA rfl rfl) fun a hA => ?_
      obtain ⟨_, hsl5⟩ := Slc.sv hw1.2.2.1
      refine gE 3 hA rfl (.inr hI) (fun _ => r_slen Tryd.underlying40 hsl5 hA rfl) fun a hA => ?_
      refine gE 4 hA rfl (.inr hI) (fun _ => r_conv Tryd.underlying3 Tryd.underlying34 hA rfl) fun a hA => ?_
      refine gE 6 hA rfl (.inr hI) (fun _ => r_fd (k := 33) Tryd.underlying42 rfl sz40 hA rfl rfl) fun a hA => ?_
      refine gT 7 hA rfl hI (fun w hI => r_ld1 (j := 1) [av .u8 32 ((x0.Ins.getD s2.toNat default).From.Tx), [.int .u32 ((x0.Ins.getD s2.toNat default).From.N)]] [[.int .u32 ((x0.Ins.getD s2.toNat default).Seq)]] Tryd.underlying40 rfl hI rfl hA rfl rfl) fun a hA => ?_
      refine gF 5 rfl ?_
      obtain ⟨r4, hr4, H⟩ := bB H
      refine o_callW (fun w v w' => ∃ (v0 : Value) (c0 : List Value), v = v0 ∧ Els (RI .u8) 1 r4 c0 ∧ Iv w [] μ μ [row 5 1 v0 r4.length c0] w') cf43 hA rfl ((by obtain ⟨μ3, hle3, hsv4, hI⟩ := hI.freezeRow 0 rfl; have hS3 : Slc (RI .u8) 1 μ3 v5 r3 := ⟨_, hE5, hsv4⟩; exact (compact_Put.c μ3 _ hI.agr r3 v5 hS3 (IntKind.u64.wrap (((x0.Ins.getD s2.toNat default).Key).length : Int)) (wrap_in _ _) r4 hr4).mono fun _ _ ⟨v, he, b0, b1, hv, f0, hi⟩ => ⟨v, he, b0, b1, hv, f0, hi.low hle3⟩)) rfl fun v6 a w hz6 hA => ?_
      obtain ⟨_, cs6, rfl, hE6, hi4⟩ := hz6
      have hI := hI.call hi4
      refine o_nil <| ⟨(.inr (hI.sl [1, 2, 3, 4, 5] rfl)), ?_⟩
      refine gF 8 rfl ?_
      obtain ⟨cs7, hE7, hsv5⟩ : Slc (RI .u8) 1 μ v3 ((x0.Ins.getD s2.toNat default).Key) := id (hw1.2.2.1)
      obtain ⟨hb3, H⟩ := bG H
      have hE8 := hE6.app hE7
      refine o_appG (xs := (r4 : List Int)) (ys := ((x0.Ins.getD s2.toNat default).Key : List Int)) (M := 140737488355328) 0 te5 Tryd.underlying40 hI rfl hA rfl rfl (src_sl hI.agr hsv5 hE7.len) hE7.len (hE7.ones (one_RI _)) hb3 rfl fun v7 a w hA hI => ?_
      refine o_nil <| ⟨(.inr (hI.sl [1, 2, 3, 4, 5] rfl)), ?_⟩
      refine gE 9 hA rfl (.inr (hI.sl [1, 2, 3, 4, 5] rfl)) (fun _ => r_as hA rfl) fun a hA => ?_
      refine gN <| hN10 _ _ <| w_reg <| stm hA rfl rfl fun a hA => 
        stp hA (r_fd (k := 34) Tryd.underlying42 rfl sz24 hA rfl rfl) rfl fun a hA => 
        stp hA (r_ld1 (j := 2) [av .u8 32 ((x0.Ins.getD s2.toNat default).From.Tx), [.int .u32 ((x0.Ins.getD s2.toNat default).From.N)], [v3]] [] Tryd.underlying24 rfl hI rfl hA rfl rfl) rfl fun a hA => ?_
      obtain ⟨r5, hr5, H⟩ := bB H
      refine o_callW (fun w v w' => ∃ (v0 : Value) (c0 : List Value), v = v0 ∧ Els (RI .u8) 1 r5 c0 ∧ Iv w [] μ μ [row 5 1 v0 r5.length c0] w') cf36 hA rfl ((by obtain ⟨μ4, hle4, hsv6, hI⟩ := hI.freezeRow 0 rfl; have hS4 : Slc (RI .u8) 1 μ4 v7 (r4 ++ ((x0.Ins.getD s2.toNat default).Key)) := ⟨_, hE8, hsv6⟩; exact (compact_Four.c μ4 _ hI.agr (r4 ++ ((x0.Ins.getD s2.toNat default).Key)) v7 hS4 ((x0.Ins.getD s2.toNat default).Seq) hw1.2.2.2 r5 hr5).mono fun _ _ ⟨v, he, b0, b1, hv, f0, hi⟩ => ⟨v, he, b0, b1, hv, f0, hi.low hle4⟩)) rfl fun v8 a w hz7 hA => ?_
      obtain ⟨_, cs9, rfl, hE9, hi5⟩ := hz7
      have hI := hI.call hi5
      refine sta hA rfl rfl fun a hA => ?_
      refine o_nil <| hN7 _ _ <| w_reg <| stp hA (r_add hA rfl rfl) rfl fun a hA => 
        stm hA rfl rfl fun a hA => ?_
      refine o_nil <| ⟨m1, Nat.lt_succ_self _, r5, IntKind.i64.wrap (s2 + 1), v8, cs9, H, hE9, (wrap_in _ _), hA.sub ⟨rfl, rfl, rfl, rfl, rfl, rfl, trivial⟩, (hI.sl [0, 5, 6] rfl)⟩
    · obtain ⟨hc1, H⟩ := dF H hc1
      refine w_exit rfl ?_
      have H : some s1 = some z1 := H
      obtain rfl := sI H
      have H := Hk2
      cases sJ H
      exact ⟨vvs1, ccs1, ws1, hA.sub ⟨rfl, rfl, rfl, trivial⟩, hI⟩
  · rintro a w ⟨vvc1, ccc1, wc1, hA, hI⟩
    have H := Hk1
    refine w_seq fun _ hN11 => w_reg <| stm hA rfl rfl fun a hA => 
      stp hA (r_fd (k := 2) Tryd.underlying32 rfl sz30 hA rfl rfl) rfl fun a hA => 
      stp hA (r_ld1 (j := 2) [[.int .u32 x0.Version], [u0_0]] [[.int .u32 x0.Time]] Tryd.underlying30 rfl hI rfl hA rfl rfl) rfl fun a hA => ?_
    obtain ⟨_, hsl6⟩ := Slc.sv hx0.2.2.1
    refine stp hA (r_slen Tryd.underlying30 hsl6 hA rfl) rfl fun a hA => 
      stp hA (r_conv Tryd.underlying3 Tryd.underlying34 hA rfl) rfl fun a hA => ?_
    obtain ⟨r6, hr6, H⟩ := bB H
    refine o_callW (fun w v w' => ∃ (v0 : Value) (c0 : List Value), v = v0 ∧ Els (RI .u8) 1 r6 c0 ∧ Iv w [] μ μ [row 5 1 v0 r6.length c0] w') cf43 hA rfl ((by obtain ⟨μ5, hle5, hsv7, hI⟩ := hI.freezeRow 0 rfl; have hS5 : Slc (RI .u8) 1 μ5 vvc1 c1 := ⟨_, wc1, hsv7⟩; exact (compact_Put.c μ5 _ hI.agr c1 vvc1 hS5 (IntKind.u64.wrap (x0.Outs.length : Int)) (wrap_in _ _) r6 hr6).mono fun _ _ ⟨v, he, b0, b1, hv, f0, hi⟩ => ⟨v, he, b0, b1, hv, f0, hi.low hle5⟩)) rfl fun v9 a w hz8 hA => ?_
    obtain ⟨_, cs10, rfl, hE10, hi6⟩ := hz8
    have hI := hI.call hi6
    refine sta hA rfl rfl fun a hA => ?_
    refine o_nil <| hN11 _ _ ?_
    obtain ⟨c2, hz9, Hk3⟩ := bB H
    refine w_cut (fun a w => ∃ (vvc2 : Value) (ccc2 : List Value), Els (RI .u8) 1 c2 ccc2 ∧ Fr a 72 [(1, .pointer (some ⟨g1, 0, none⟩)), (2, (.slice none 0 0)), (3, vvc2)] ∧ Iv w0 [] μ μ [row 5 1 vvc2 c2.length ccc2, row 5 1 vvc1 c1.length ccc1, row 5 1 v1 r1.length cs1, cel g1 [[.int .u32 x0.Version], [u0_0], [u0_1], [.int .u32 x0.Time]] 32] w) ?_ ?_
    · have H := bI hz9
      refine w_seq fun _ hN12 => w_reg <| stp hA (r_fd (k := 2) Tryd.underlying32 rfl sz30 hA rfl rfl) rfl fun a hA => 
        stp hA (r_ld1 (j := 3) [[.int .u32 x0.Version], [u0_0]] [[.int .u32 x0.Time]] Tryd.underlying30 rfl hI rfl hA rfl rfl) rfl fun a hA => ?_
      obtain ⟨_, hsl7⟩ := Slc.sv hx0.2.2.1
      refine stp hA (r_slen Tryd.underlying30 hsl7 hA rfl) rfl fun a hA => 
        stm hA rfl rfl fun a hA => ?_
      refine o_nil <| hN12 _ _ <| w_block ?_
      obtain ⟨z2, hz10, Hk4⟩ := bind_some H
      obtain ⟨n2, hn2⟩ := loopO_some hz10
      refine w_loop (fun n a w => ∃ (s3 : List Int) (s4 : Int) (vvs3 : Value) (ccs3 : List Value), loopN (tx_Bytes.s1 x0) n (s3, s4) = some z2 ∧ Els (RI .u8) 1 s3 ccs3 ∧ InR .i64 s4 ∧ Fr a 72 [(1, .pointer (some ⟨g1, 0, none⟩)), (2, (.slice none 0 0)), (3, vvs3), (54, u0_1), (55, .int .i64 (x0.Outs.length : Int)), (56, .int .i64 s4)] ∧ Iv w0 [] μ μ [row 5 1 vvs3 s3.length ccs3, row 5 1 vvc1 c1.length ccc1, row 5 1 v1 r1.length cs1, cel g1 [[.int .u32 x0.Version], [u0_0], [u0_1], [.int .u32 x0.Time]] 32] w) n2 ⟨r6, 0, v9, cs10, hn2, hE10, (in_lit .i64 0 rfl), hA.sub ⟨rfl, rfl, rfl, rfl, rfl, rfl, trivial⟩, hI⟩ ?_
      clear hA hI
      rintro n a w ⟨s3, s4, vvs3, ccs3, hn2, ws3, ws4, hA, hI⟩
      obtain ⟨m2, rfl, H⟩ := loopN_bind hn2
      clear hn2
      refine w_seq fun _ hN13 => w_reg <| stp hA (r_lss hA rfl rfl) rfl fun a hA => ?_
      refine o_nil <| hN13 _ _ <| w_seq fun _ hN14 => w_cond hA rfl (fun hc2 => ?_) (fun hc2 => ?_)
      · obtain ⟨hc2, H⟩ := dT H hc2
        refine w_skip <| hN14 _ _ <| w_seq fun _ hN15 => w_block <| w_seq fun _ hN16 => w_reg ?_
        obtain ⟨hb4, H⟩ := bG H
        obtain ⟨_, he2, _, hat2⟩ := Slc.elem hx0.2.2.1 (getD_some default hb4.1 hb4.2)
        obtain ⟨rfl, hw2⟩ := he2
        obtain ⟨_, hsl8⟩ := Slc.sv hx0.2.2.1
        refine stp hA (r_six Tryd.underlying30 sz44 hsl8 hA rfl rfl hb4.1 hb4.2) rfl fun a hA => 
          stp hA (r_ldmA [] [[.int .u64 ((x0.Outs.getD s4.toNat default).Value)], av .u8 32 ((x0.Outs.getD s4.toNat default).Lock)] [] Tryd.underlying44 rfl sz44 rfl hI.agr hat2 hA rfl rfl) rfl fun a hA => 
          o_new [[.int .u64 0], av .u8 32 (List.replicate 32 0)] zr44 hI hA rfl fun g3 a w hA hI hg3 => 
          o_st (j := 0) [] [[.int .u64 0], av .u8 32 (List.replicate 32 0)] [[.int .u64 ((x0.Outs.getD s4.toNat default).Value)], av .u8 32 ((x0.Outs.getD s4.toNat default).Lock)] [] sz44 rfl rfl (fl_cons (oneC rfl) (fl_cons (one_av _ _ _) fl_nil)) hI rfl hA rfl rfl rfl rfl fun w hI => ?_
        refine o_nil <| hN16 _ _ ?_
        refine w_anyS [] mo (fun w (h : Iv w0 [] μ μ [cel g3 [[.int .u64 ((x0.Outs.getD s4.toNat default).Value)], av .u8 32 ((x0.Outs.getD s4.toNat default).Lock)] 44, row 5 1 vvs3 s3.length ccs3, row 5 1 vvc1 c1.length ccc1, row 5 1 v1 r1.length cs1, cel g1 [[.int .u32 x0.Version], [u0_0], [u0_1], [.int .u32 x0.Time]] 32] w) => (h.sl [0, 1, 2, 3, 4] rfl : Iv w0 [] μ μ [cel g3 [[.int .u64 ((x0.Outs.getD s4.toNat default).Value)], av .u8 32 ((x0.Outs.getD s4.toNat default).Lock)] 44, row 5 1 vvs3 s3.length ccs3, row 5 1 vvc1 c1.length ccc1, row 5 1 v1 r1.length cs1, cel g1 [[.int .u32 x0.Version], [u0_0], [u0_1], [.int .u32 x0.Time]] 32] w)) hI fun w hI => ?_
        refine gE 0 hA rfl (.inr hI) (fun _ => r_mv hA rfl) fun a hA => ?_
        refine gE 1 hA rfl (.inr hI) (fun _ => r_fd (k := 0) Tryd.underlying44 rfl sz34 hA rfl rfl) fun a hA => ?_
        refine gT 2 hA rfl hI (fun w hI => r_ld1 (j := 0) [] [av .u8 32 ((x0.Outs.getD s4.toNat default).Lock)] Tryd.underlying34 rfl hI rfl hA rfl rfl) fun a hA => ?_
        refine gE 4 hA rfl (.inr hI) (fun _ => r_fd (k := 1) Tryd.underlying44 rfl sz26 hA rfl rfl) fun a hA => ?_
        refine gE 5 hA rfl (.inr hI) (fun _ => r_slv (i := 0) (j := 32) Tryd.underlying26 sz5 hA rfl rfl rfl (by decide) (by decide) (by decide) (by decide) rfl) fun a hA => ?_
        refine gF 3 rfl ?_
        obtain ⟨r7, hr7, H⟩ := bB H
        refine o_callW (fun w v w' => ∃ (v0 : Value) (c0 : List Value), v = v0 ∧ Els (RI .u8) 1 r7 c0 ∧ Iv w [] μ μ [row 5 1 v0 r7.length c0] w') cf59 hA rfl ((by obtain ⟨μ6, hle6, hsv8, hI⟩ := hI.freezeRow 1 rfl; have hS6 : Slc (RI .u8) 1 μ6 vvs3 s3 := ⟨_, ws3, hsv8⟩; exact (compact_Eight.c μ6 _ hI.agr s3 vvs3 hS6 ((x0.Outs.getD s4.toNat default).Value) hw2.1 r7 hr7).mono fun _ _ ⟨v, he, b0, b1, hv, f0, hi⟩ => ⟨v, he, b0, b1, hv, f0, hi.low hle6⟩)) rfl fun v10 a w hz11 hA => ?_
        obtain ⟨_, cs11, rfl, hE11, hi7⟩ := hz11
        have hI := hI.call hi7
        refine o_nil <| ⟨(.inr (hI.sl [1, 2, 3, 4, 5] rfl)), ?_⟩
        refine gF 6 rfl ?_
        have hE12 := els_av hw2.2
        obtain ⟨hb5, H⟩ := bG H
        have hE13 := hE11.app hE12
        refine o_appG (xs := (r7 : List Int)) (ys := ((x0.Outs.getD s4.toNat default).Lock : List Int)) (M := 140737488355328) 0 te5 Tryd.underlying40 hI rfl hA rfl rfl (by simpa using src_cel [[.int .u64 ((x0.Outs.getD s4.toNat default).Value)]] [] hI (j := 1) rfl hw2.2 rfl) hE12.len (hE12.ones (one_RI _)) hb5 rfl fun v11 a w hA hI => ?_
        refine o_nil <| ⟨(.inr (hI.sl [1, 2, 3, 4, 5] rfl)), ?_⟩
        refine gE 7 hA rfl (.inr (hI.sl [1, 2, 3, 4, 5] rfl)) (fun _ => r_as hA rfl) fun a hA => ?_
        refine gN <| hN15 _ _ <| w_reg <| stp hA (r_add hA rfl rfl) rfl fun a hA => 
          stm hA rfl rfl fun a hA => ?_
        refine o_nil <| ⟨m2, Nat.lt_succ_self _, r7 ++ ((x0.Outs.getD s4.toNat default).Lock), IntKind.i64.wrap (s4 + 1), v11, cs11 ++ ([av .u8 32 ((x0.Outs.getD s4.toNat default).Lock)].flatten), H, hE13, (wrap_in _ _), hA.sub ⟨rfl, rfl, rfl, rfl, rfl, rfl, trivial⟩, (hI.sl [0, 3, 4, 5] rfl)⟩
      · obtain ⟨hc2, H⟩ := dF H hc2
        refine w_exit rfl ?_
        have H : some s3 = some z2 := H
        obtain rfl := sI H
        have H := Hk4
        cases sJ H
        exact ⟨vvs3, ccs3, ws3, hA.sub ⟨rfl, rfl, rfl, trivial⟩, hI⟩
    · rintro a w ⟨vvc2, ccc2, wc2, hA, hI⟩
      have H := Hk3
      refine w_seq fun _ hN17 => w_reg <| stm hA rfl rfl fun a hA => 
        stp hA (r_fd (k := 3) Tryd.underlying32 rfl sz24 hA rfl rfl) rfl fun a hA => 
        stp hA (r_ld1 (j := 3) [[.int .u32 x0.Version], [u0_0], [u0_1]] [] Tryd.underlying24 rfl hI rfl hA rfl rfl) rfl fun a hA => ?_
      obtain ⟨r8, hr8, H⟩ := bB H
      refine o_callW (fun w v w' => ∃ (v0 : Value) (c0 : List Value), v = v0 ∧ Els (RI .u8) 1 r8 c0 ∧ Iv w [] μ μ [row 5 1 v0 r8.length c0] w') cf36 hA rfl ((by obtain ⟨μ7, hle7, hsv10, hI⟩ := hI.freezeRow 0 rfl; have hS7 : Slc (RI .u8) 1 μ7 vvc2 c2 := ⟨_, wc2, hsv10⟩; exact (compact_Four.c μ7 _ hI.agr c2 vvc2 hS7 x0.Time hx0.2.2.2 r8 hr8).mono fun _ _ ⟨v, he, b0, b1, hv, f0, hi⟩ => ⟨v, he, b0, b1, hv, f0, hi.low hle7⟩)) rfl fun v12 a w hz12 hA => ?_
      obtain ⟨_, cs14, rfl, hE14, hi8⟩ := hz12
      have hI := hI.call hi8
      refine sta hA rfl rfl fun a hA => ?_
      refine o_nil <| hN17 _ _ <| w_ret ?_
      obtain rfl := sJ H
      exact ret1 hA Tryd.results40 rfl ⟨_, rfl, v12, cs14, rfl, hE14, ((hI.sl [0] rfl).less (Store.le.refl _) hI.le)⟩
set_option maxRecDepth 20000 in
theorem tx_ID.c (μ : Store) (w0 : World) (hμ : Agr μ w0) (x0 : Tx) (u0_0 : Value) (u0_1 : Value) (hx0 : TxW μ x0 u0_0 u0_1) (r : List Int) (H : tx_ID.f x0 = some r) :
    Calls Tryd.prog 27 [.agg [[.int .u32 x0.Version], [u0_0], [u0_1], [.int .u32 x0.Time]].flatten.toArray].toArray w0 (fun e w' => ∃ v, e = .returned v ∧ v = .agg [av .u8 32 r].flatten.toArray ∧ Arr .u8 32 r ∧ Iv w0 [] μ μ [] w') := by
  refine enter Tryd.func27 rfl Tryd.ntmps27 rfl fun a hA => ?_
  have hI := Iv.start hμ
  have H := bI H
  refine w_seq fun _ hN1 => w_reg <| o_box [[.int .u32 x0.Version], [u0_0], [u0_1], [.int .u32 x0.Time]] hI hA rfl rfl rfl fun g1 a w hA hI hg1 => 
    o_new [av .u8 32 (List.replicate 32 0)] zr26 hI hA rfl fun g2 a w hA hI hg2 => ?_
  refine o_nil <| hN1 _ _ <| w_seq fun _ hN2 => w_reg <| stp hA (r_ldA (j := 1) [] [[.int .u32 x0.Version], [u0_0], [u0_1], [.int .u32 x0.Time]] [] Tryd.underlying32 rfl sz32 rfl hI rfl hA rfl rfl) rfl fun a hA => ?_
  obtain ⟨r1, hr1, H⟩ := bB H
  refine o_call _ cf40 hA rfl (tx_Bytes.c μ _ hI.agr x0 u0_0 u0_1 ⟨hx0.1, hx0.2.1, hx0.2.2.1, hx0.2.2.2⟩ r1 hr1) rfl fun v1 a w hz1 hA => ?_
  obtain ⟨_, cs1, rfl, hE1, hi1⟩ := hz1
  have hI := hI.call hi1
  obtain ⟨r2, hr2, H⟩ := bB H
  refine o_callp (u := .agg [av .u8 32 r2].flatten.toArray) cf39 hA rfl hI ((by obtain ⟨μ1, hle1, hsv1, hI⟩ := hI.freezeRow 0 rfl; have hS1 : Slc (RI .u8) 1 μ1 v1 r1 := ⟨_, hE1, hsv1⟩; exact low_plain hle1 (digest_Twice.c μ1 _ hI.agr r1 v1 hS1 r2 hr2))) rfl fun a w hz2 hI hA => 
    o_st (j := 1) [] [av .u8 32 (List.replicate 32 0)] [av .u8 32 r2] [] sz26 rfl rfl (fl_cons (one_av _ _ _) fl_nil) hI rfl hA rfl rfl rfl rfl fun w hI => ?_
  refine o_nil <| hN2 _ _ <| w_ret ?_
  obtain rfl := sJ H
  exact retc Tryd.underlying26 rfl sz26 rfl hI (j := 1) rfl hA Tryd.results27 rfl ⟨_, rfl, rfl, hz2, hI.forget0⟩
set_option maxRecDepth 20000 in
theorem tx_Size.c (μ : Store) (w0 : World) (hμ : Agr μ w0) (x0 : Tx) (u0_0 : Value) (u0_1 : Value) (hx0 : TxW μ x0 u0_0 u0_1) (r : Int) (H : tx_Size.f x0 = some r) :
    Calls Tryd.prog 45 [.agg [[.int .u32 x0.Version], [u0_0], [u0_1], [.int .u32 x0.Time]].flatten.toArray].toArray w0 (fun e w' => ∃ v, e = .returned v ∧ v = .int .i64 r ∧ InR .i64 r ∧ Iv w0 [] μ μ [] w') := by
  refine enter Tryd.func45 rfl Tryd.ntmps45 rfl fun a hA => ?_
  have hI := Iv.start hμ
  have H := bI H
  refine w_seq fun _ hN1 => w_reg <| o_box [[.int .u32 x0.Version], [u0_0], [u0_1], [.int .u32 x0.Time]] hI hA rfl rfl rfl fun g1 a w hA hI hg1 => 
    sta hA rfl rfl fun a hA => ?_
  refine o_nil <| hN1 _ _ <| w_seq fun _ hN2 => w_reg <| stp hA (r_ldA (j := 0) [] [[.int .u32 x0.Version], [u0_0], [u0_1], [.int .u32 x0.Time]] [] Tryd.underlying32 rfl sz32 rfl hI rfl hA rfl rfl) rfl fun a hA => ?_
  obtain ⟨r1, hr1, H⟩ := bB H
  refine o_call _ cf40 hA rfl (tx_Bytes.c μ _ hI.agr x0 u0_0 u0_1 ⟨hx0.1, hx0.2.1, hx0.2.2.1, hx0.2.2.2⟩ r1 hr1) rfl fun v1 a w hz1 hA => ?_
  obtain ⟨_, cs1, rfl, hE1, hi1⟩ := hz1
  have hI := hI.call hi1
  have hlen1 := Iv.row_in hI (j := 0) rfl
  refine stp hA (r_rlen (xs := 0) Tryd.underlying40 hI (j := 0) rfl hA rfl) rfl fun a hA => 
    sta hA rfl rfl fun a hA => ?_
  refine o_nil <| hN2 _ _ <| w_ret ?_
  obtain rfl := sJ H
  exact ret1 hA Tryd.results45 rfl ⟨_, rfl, rfl, hlen1, hI.forget0⟩
set_option maxRecDepth 20000 in
theorem tx_Check_1.c (μ : Store) (w0 : World) (hμ : Agr μ w0) (x0 : In) (u0_0 : Value) (hx0 : InW μ x0 u0_0) (r : Bool) (H : tx_Check_1.f x0 = some r) :
    Calls Tryd.prog 47 [.agg [av .u8 32 x0.From.Tx, [.int .u32 x0.From.N], [u0_0], [.int .u32 x0.Seq]].flatten.toArray].toArray w0 (fun e w' => ∃ v, e = .returned v ∧ v = .bool r ∧ True ∧ Iv w0 [] μ μ [] w') := by
  refine enter Tryd.func47 rfl Tryd.ntmps47 rfl fun a hA => ?_
  have hI := Iv.start hμ
  have H := bI H
  refine w_seq fun _ hN1 => w_reg <| o_box [av .u8 32 x0.From.Tx, [.int .u32 x0.From.N], [u0_0], [.int .u32 x0.Seq]] hI hA rfl rfl rfl fun g1 a w hA hI hg1 => 
    sta hA rfl rfl fun a hA => ?_
  refine o_nil <| hN1 _ _ <| w_seq fun _ hN2 => w_reg <| stp hA (r_fd (k := 33) Tryd.underlying42 rfl sz40 hA rfl rfl) rfl fun a hA => 
    stp hA (r_ld1 (j := 0) [av .u8 32 x0.From.Tx, [.int .u32 x0.From.N]] [[.int .u32 x0.Seq]] Tryd.underlying40 rfl hI rfl hA rfl rfl) rfl fun a hA => ?_
  obtain ⟨_, hsl1⟩ := Slc.sv hx0.2.2.1
  refine stp hA (r_slen Tryd.underlying40 hsl1 hA rfl) rfl fun a hA => 
    stp hA (r_gtr hA rfl rfl) rfl fun a hA => 
    sta hA rfl rfl fun a hA => ?_
  refine o_nil <| hN2 _ _ <| w_ret ?_
  obtain rfl := sJ H
  exact ret1 hA Tryd.results47 rfl ⟨_, rfl, rfl, trivial, hI.forget0⟩
set_option maxRecDepth 20000 in
theorem tx_values.c (μ : Store) (w0 : World) (hμ : Agr μ w0) (x0 : Tx) (u0_0 : Value) (u0_1 : Value) (hx0 : TxW μ x0 u0_0 u0_1) (r : List Int) (H : tx_values.f x0 = some r) :
    Calls Tryd.prog 63 [.agg [[.int .u32 x0.Version], [u0_0], [u0_1], [.int .u32 x0.Time]].flatten.toArray].toArray w0 (fun e w' => ∃ v, e = .returned v ∧ ∃ (v0 : Value) (c0 : List Value), v = v0 ∧ Els (RI .u64) 1 r c0 ∧ Iv w0 [] μ μ [row 34 1 v0 r.length c0] w') := by
  refine enter Tryd.func63 rfl Tryd.ntmps63 rfl fun a hA => ?_
  have hI := Iv.start hμ
  have H := bI H
  refine w_seq fun _ hN1 => w_reg <| o_box [[.int .u32 x0.Version], [u0_0], [u0_1], [.int .u32 x0.Time]] hI hA rfl rfl rfl fun g1 a w hA hI hg1 => 
    sta hA rfl rfl fun a hA => ?_
  refine o_nil <| hN1 _ _ <| w_seq fun _ hN2 => w_reg <| sta hA rfl rfl fun a hA => ?_
  refine o_nil <| hN2 _ _ ?_
  obtain ⟨c1, hz1, Hk1⟩ := bB H
  refine w_cut (fun a w => ∃ (vvc1 : Value) (ccc1 : List Value), Els (RI .u64) 1 c1 ccc1 ∧ Fr a 20 [(2, (.slice none 0 0)), (3, vvc1)] ∧ Iv w0 [] μ μ [row 34 1 vvc1 c1.length ccc1, cel g1 [[.int .u32 x0.Version], [u0_0], [u0_1], [.int .u32 x0.Time]] 32] w) ?_ ?_
  · have H := bI hz1
    refine w_seq fun _ hN3 => w_reg <| stp hA (r_fd (k := 2) Tryd.underlying32 rfl sz30 hA rfl rfl) rfl fun a hA => 
      stp hA (r_ld1 (j := 0) [[.int .u32 x0.Version], [u0_0]] [[.int .u32 x0.Time]] Tryd.underlying30 rfl hI rfl hA rfl rfl) rfl fun a hA => ?_
    obtain ⟨_, hsl1⟩ := Slc.sv hx0.2.2.1
    refine stp hA (r_slen Tryd.underlying30 hsl1 hA rfl) rfl fun a hA => 
      stm hA rfl rfl fun a hA => ?_
    refine o_nil <| hN3 _ _ <| w_block ?_
    have hI := hI.nilRow 34 1
    obtain ⟨z1, hz2, Hk2⟩ := bind_some H
    obtain ⟨n1, hn1⟩ := loopO_some hz2
    refine w_loop (fun n a w => ∃ (s1 : List Int) (s2 : Int) (vvs1 : Value) (ccs1 : List Value), loopN (tx_values.s0 x0) n (s1, s2) = some z1 ∧ Els (RI .u64) 1 s1 ccs1 ∧ InR .i64 s2 ∧ Fr a 20 [(2, (.slice none 0 0)), (3, vvs1), (7, u0_1), (8, .int .i64 (x0.Outs.length : Int)), (9, .int .i64 s2)] ∧ Iv w0 [] μ μ [row 34 1 vvs1 s1.length ccs1, cel g1 [[.int .u32 x0.Version], [u0_0], [u0_1], [.int .u32 x0.Time]] 32] w) n1 ⟨([] : List Int), 0, (.slice none 0 0), [], hn1, (Els.nil (RE := (RI .u64)) (sz := 1)), (in_lit .i64 0 rfl), hA.sub ⟨rfl, rfl, rfl, rfl, rfl, trivial⟩, hI⟩ ?_
    clear hA hI
    rintro n a w ⟨s1, s2, vvs1, ccs1, hn1, ws1, ws2, hA, hI⟩
    obtain ⟨m1, rfl, H⟩ := loopN_bind hn1
    clear hn1
    refine w_seq fun _ hN4 => w_reg <| stp hA (r_lss hA rfl rfl) rfl fun a hA => ?_
    refine o_nil <| hN4 _ _ <| w_seq fun _ hN5 => w_cond hA rfl (fun hc1 => ?_) (fun hc1 => ?_)
    · obtain ⟨hc1, H⟩ := dT H hc1
      refine w_skip <| hN5 _ _ <| w_seq fun _ hN6 => w_block <| w_seq fun _ hN7 => w_reg ?_
      obtain ⟨hb1, H⟩ := bG H
      obtain ⟨_, he1, _, hat1⟩ := Slc.elem hx0.2.2.1 (getD_some default hb1.1 hb1.2)
      obtain ⟨rfl, hw1⟩ := he1
      obtain ⟨_, hsl2⟩ := Slc.sv hx0.2.2.1
      refine stp hA (r_six Tryd.underlying30 sz44 hsl2 hA rfl rfl hb1.1 hb1.2) rfl fun a hA => 
        stp hA (r_ldmA [] [[.int .u64 ((x0.Outs.getD s2.toNat default).Value)], av .u8 32 ((x0.Outs.getD s2.toNat default).Lock)] [] Tryd.underlying44 rfl sz44 rfl hI.agr hat1 hA rfl rfl) rfl fun a hA => 
        o_new [[.int .u64 0], av .u8 32 (List.replicate 32 0)] zr44 hI hA rfl fun g2 a w hA hI hg2 => 
        o_st (j := 0) [] [[.int .u64 0], av .u8 32 (List.replicate 32 0)] [[.int .u64 ((x0.Outs.getD s2.toNat default).Value)], av .u8 32 ((x0.Outs.getD s2.toNat default).Lock)] [] sz44 rfl rfl (fl_cons (oneC rfl) (fl_cons (one_av _ _ _) fl_nil)) hI rfl hA rfl rfl rfl rfl fun w hI => ?_
      refine o_nil <| hN7 _ _ <| w_reg <| stm hA rfl rfl fun a hA => 
        stp hA (r_fd (k := 0) Tryd.underlying44 rfl sz34 hA rfl rfl) rfl fun a hA => 
        stp hA (r_ld1 (j := 0) [] [av .u8 32 ((x0.Outs.getD s2.toNat default).Lock)] Tryd.underlying34 rfl hI rfl hA rfl rfl) rfl fun a hA => ?_
      have hE1 : Els (RI .u64) 1 ([(x0.Outs.getD s2.toNat default).Value] : List Int) _ := (Els.cons (c := [[.int .u64 ((x0.Outs.getD s2.toNat default).Value)]].flatten) ⟨rfl, hw1.1⟩ rfl Els.nil)
      refine o_bsl ([[.int .u64 ((x0.Outs.getD s2.toNat default).Value)]].flatten ++ ([])) te34 zr34 Tryd.underlying110 hI hA rfl rfl rfl rfl (by kernel_rfl) rfl fun g3 a w hA hI => ?_
      generalize hcs : ([[.int .u64 ((x0.Outs.getD s2.toNat default).Value)]].flatten ++ ([]) : List Value) = cs1 at hE1 hI
      clear hcs
      obtain ⟨hb2, H⟩ := bG H
      have hE3 := ws1.app hE1
      refine o_appG (xs := (s1 : List Int)) (ys := (([(x0.Outs.getD s2.toNat default).Value] : List Int) : List Int)) (M := 17592186044416) 2 te34 Tryd.underlying110 hI rfl hA rfl rfl (src_row hI (j := 0) rfl) hE1.len (hE1.ones (one_RI _)) hb2 rfl fun v1 a w hA hI => 
        sta hA rfl rfl fun a hA => ?_
      refine o_nil <| hN6 _ _ <| w_reg <| stp hA (r_add hA rfl rfl) rfl fun a hA => 
        stm hA rfl rfl fun a hA => ?_
      refine o_nil <| ⟨m1, Nat.lt_succ_self _, s1 ++ ([(x0.Outs.getD s2.toNat default).Value] : List Int), IntKind.i64.wrap (s2 + 1), v1, ccs1 ++ cs1, H, hE3, (wrap_in _ _), hA.sub ⟨rfl, rfl, rfl, rfl, rfl, trivial⟩, (hI.sl [2, 3] rfl)⟩
    · obtain ⟨hc1, H⟩ := dF H hc1
      refine w_exit rfl ?_
      have H : some s1 = some z1 := H
      obtain rfl := sI H
      have H := Hk2
      cases sJ H
      exact ⟨vvs1, ccs1, ws1, hA.sub ⟨rfl, rfl, trivial⟩, hI⟩
  · rintro a w ⟨vvc1, ccc1, wc1, hA, hI⟩
    have H := Hk1
    refine w_seq fun _ hN8 => w_reg <| stm hA rfl rfl fun a hA => 
      sta hA rfl rfl fun a hA => ?_
    refine o_nil <| hN8 _ _ <| w_ret ?_
    obtain rfl := sJ H
    exact ret1 hA Tryd.results63 rfl ⟨_, rfl, vvc1, ccc1, rfl, wc1, ((hI.sl [0] rfl).less (Store.le.refl _) hI.le)⟩
set_option maxRecDepth 20000 in
theorem tx_Sum.c (μ : Store) (w0 : World) (hμ : Agr μ w0) (x0 : Tx) (u0_0 : Value) (u0_1 : Value) (hx0 : TxW μ x0 u0_0 u0_1) (r : Int × Bool) (H : tx_Sum.f x0 = some r) :
    Calls Tryd.prog 48 [.agg [[.int .u32 x0.Version], [u0_0], [u0_1], [.int .u32 x0.Time]].flatten.toArray].toArray w0 (fun e w' => ∃ v, e = .returned v ∧ v = .tuple #[.int .u64 r.1, .bool r.2] ∧ (InR .u64 r.1 ∧ True) ∧ Iv w0 [] μ μ [] w') := by
  refine enter Tryd.func48 rfl Tryd.ntmps48 rfl fun a hA => ?_
  have hI := Iv.start hμ
  have H := bI H
  refine w_seq fun _ hN1 => w_reg <| o_box [[.int .u32 x0.Version], [u0_0], [u0_1], [.int .u32 x0.Time]] hI hA rfl rfl rfl fun g1 a w hA hI hg1 => 
    sta hA rfl rfl fun a hA => 
    sta hA rfl rfl fun a hA => ?_
  refine o_nil <| hN1 _ _ <| w_seq fun _ hN2 => w_reg <| stp hA (r_ldA (j := 0) [] [[.int .u32 x0.Version], [u0_0], [u0_1], [.int .u32 x0.Time]] [] Tryd.underlying32 rfl sz32 rfl hI rfl hA rfl rfl) rfl fun a hA => ?_
  obtain ⟨r1, hr1, H⟩ := bB H
  refine o_call _ cf63 hA rfl (tx_values.c μ _ hI.agr x0 u0_0 u0_1 ⟨hx0.1, hx0.2.1, hx0.2.2.1, hx0.2.2.2⟩ r1 hr1) rfl fun v1 a w hz1 hA => ?_
  obtain ⟨_, cs1, rfl, hE1, hi1⟩ := hz1
  have hI := hI.call hi1
  obtain ⟨r2, hr2, H⟩ := bB H
  refine o_callp (u := .tuple #[.int .u64 r2.1, .bool r2.2]) cf62 hA rfl hI ((by obtain ⟨μ1, hle1, hsv1, hI⟩ := hI.freezeRow 0 rfl; have hS1 : Slc (RI .u64) 1 μ1 v1 r1 := ⟨_, hE1, hsv1⟩; exact low_plain hle1 (compact_Sum.c μ1 _ hI.agr r1 v1 hS1 r2 hr2))) rfl fun a w hz2 hI hA => 
    stp hA (r_extr (vs := [.int .u64 r2.1, .bool r2.2]) hA rfl rfl) rfl fun a hA => 
    stp hA (r_extr (vs := [.int .u64 r2.1, .bool r2.2]) hA rfl rfl) rfl fun a hA => 
    sta hA rfl rfl fun a hA => 
    sta hA rfl rfl fun a hA => ?_
  refine o_nil <| hN2 _ _ <| w_ret ?_
  obtain rfl := sJ H
  exact ret2 hA Tryd.results48 rfl rfl ⟨_, rfl, rfl, ⟨hz2.1, trivial⟩, hI.forget0⟩
set_option maxRecDepth 20000 in
theorem tx_twice.c (μ : Store) (w0 : World) (hμ : Agr μ w0) (x0 : Tx) (u0_0 : Value) (u0_1 : Value) (hx0 : TxW μ x0 u0_0 u0_1) (r : Bool) (H : tx_twice.f x0 = some r) :
    Calls Tryd.prog 49 [.agg [[.int .u32 x0.Version], [u0_0], [u0_1], [.int .u32 x0.Time]].flatten.toArray].toArray w0 (fun e w' => ∃ v, e = .returned v ∧ v = .bool r ∧ True ∧ Iv w0 [] μ μ [] w') := by
  refine enter Tryd.func49 rfl Tryd.ntmps49 rfl fun a hA => ?_
  have hI := Iv.start hμ
  have H := bI H
  refine w_seq fun _ hN1 => w_reg <| o_box [[.int .u32 x0.Version], [u0_0], [u0_1], [.int .u32 x0.Time]] hI hA rfl rfl rfl fun g1 a w hA hI hg1 => 
    sta hA rfl rfl fun a hA => ?_
  refine o_nil <| hN1 _ _ <| w_seq fun _ hN2 => w_reg <| o_mkmap kv79 vv79 hI hA rfl fun g2 a w hI hA => 
    sta hA rfl rfl fun a hA => ?_
  refine o_nil <| hN2 _ _ <| w_seq fun _ hN3 => w_seq fun _ hN4 => w_reg <| stp hA (r_fd (k := 1) Tryd.underlying32 rfl sz29 hA rfl rfl) rfl fun a hA => 
    stp hA (r_ld1 (j := 1) [[.int .u32 x0.Version]] [[u0_1], [.int .u32 x0.Time]] Tryd.underlying29 rfl hI rfl hA rfl rfl) rfl fun a hA => ?_
  obtain ⟨_, hsl1⟩ := Slc.sv hx0.2.1
  refine stp hA (r_slen Tryd.underlying29 hsl1 hA rfl) rfl fun a hA => 
    stm hA rfl rfl fun a hA => ?_
  refine o_nil <| hN4 _ _ <| w_block ?_
  obtain ⟨z1, hz1, Hk1⟩ := bind_some H
  obtain ⟨n1, hn1⟩ := loopO_some hz1
  refine w_loop (fun n a w => ∃ (s1 : Int) (s2 : List (Point × Bool)), loopN (tx_twice.s0 x0) n (s1, s2) = some z1 ∧ InR .i64 s1 ∧ mw79 s2 ∧ Fr a 22 [(2, .bool false), (3, .map (some g2)), (8, u0_0), (9, .int .i64 (x0.Ins.length : Int)), (10, .int .i64 s1)] ∧ Iv w0 [] μ μ [mpI g2 (ent kv79 vv79 s2), cel g1 [[.int .u32 x0.Version], [u0_0], [u0_1], [.int .u32 x0.Time]] 32] w) n1 ⟨0, ([] : List (Point × Bool)), hn1, (in_lit .i64 0 rfl), mw_nil, hA.sub ⟨rfl, rfl, rfl, rfl, rfl, trivial⟩, hI⟩ ?_
  clear hA hI
  rintro n a w ⟨s1, s2, hn1, ws1, ws2, hA, hI⟩
  obtain ⟨m1, rfl, H⟩ := loopN_bind hn1
  clear hn1
  refine w_seq fun _ hN5 => w_reg <| stp hA (r_lss hA rfl rfl) rfl fun a hA => ?_
  refine o_nil <| hN5 _ _ <| w_seq fun _ hN6 => w_cond hA rfl (fun hc1 => ?_) (fun hc1 => ?_)
  · obtain ⟨hc1, H⟩ := dT H hc1
    refine w_skip <| hN6 _ _ <| w_seq fun _ hN7 => w_block <| w_seq fun _ hN8 => w_reg ?_
    obtain ⟨hb1, H⟩ := bG H
    obtain ⟨_, he1, _, hat1⟩ := Slc.elem hx0.2.1 (getD_some default hb1.1 hb1.2)
    obtain ⟨v1, rfl, hw1⟩ := he1
    obtain ⟨_, hsl2⟩ := Slc.sv hx0.2.1
    refine stp hA (r_six Tryd.underlying29 sz42 hsl2 hA rfl rfl hb1.1 hb1.2) rfl fun a hA => 
      stp hA (r_ldmA [] [av .u8 32 ((x0.Ins.getD s1.toNat default).From.Tx), [.int .u32 ((x0.Ins.getD s1.toNat default).From.N)], [v1], [.int .u32 ((x0.Ins.getD s1.toNat default).Seq)]] [] Tryd.underlying42 rfl sz42 rfl hI.agr hat1 hA rfl rfl) rfl fun a hA => 
      o_new [av .u8 32 (List.replicate 32 0), [.int .u32 0], [(.slice none 0 0)], [.int .u32 0]] zr42 hI hA rfl fun g3 a w hA hI hg3 => ?_
    obtain ⟨_, hsl3⟩ := Slc.sv hw1.2.2.1
    refine o_st (j := 0) [] [av .u8 32 (List.replicate 32 0), [.int .u32 0], [(.slice none 0 0)], [.int .u32 0]] [av .u8 32 ((x0.Ins.getD s1.toNat default).From.Tx), [.int .u32 ((x0.Ins.getD s1.toNat default).From.N)], [v1], [.int .u32 ((x0.Ins.getD s1.toNat default).Seq)]] [] sz42 rfl rfl (fl_cons (one_av _ _ _) (fl_cons (oneC rfl) (fl_cons (oneC (one_sl hsl3)) (fl_cons (oneC rfl) fl_nil)))) hI rfl hA rfl rfl rfl rfl fun w hI => ?_
    refine o_nil <| hN8 _ _ <| w_seq fun _ hN9 => w_seq fun _ hN10 => w_reg <| stm hA rfl rfl fun a hA => 
      stp hA (r_fd (k := 0) Tryd.underlying42 rfl sz39 hA rfl rfl) rfl fun a hA => 
      stp hA (r_ldA (j := 0) [] [av .u8 32 ((x0.Ins.getD s1.toNat default).From.Tx), [.int .u32 ((x0.Ins.getD s1.toNat default).From.N)]] [[v1], [.int .u32 ((x0.Ins.getD s1.toNat default).Seq)]] Tryd.underlying39 rfl sz39 rfl hI rfl hA rfl rfl) rfl fun a hA => 
      stp hA (r_look (j := 1) kn79 Tryd.underlying79 mz79 ws2 ⟨hw1.1, hw1.2.1⟩ hI rfl hA rfl rfl) rfl fun a hA => ?_
    refine o_nil <| hN10 _ _ <| w_cond hA rfl (fun hc2 => ?_) (fun hc2 => ?_)
    · have H := bT H hc2
      refine w_seq fun _ hN11 => w_reg <| sta hA rfl rfl fun a hA => ?_
      refine o_nil <| hN11 _ _ <| w_ret ?_
      have H : some true = some z1 := H
      obtain rfl := sI H
      have H := Hk1
      obtain rfl := sJ H
      exact ret1 hA Tryd.results49 rfl ⟨_, rfl, rfl, trivial, hI.forget0⟩
    · have hc2 := ft hc2; have H := bF H hc2
      refine w_skip <| hN9 _ _ <| w_reg <| stm hA rfl rfl fun a hA => 
        stp hA (r_fd (k := 0) Tryd.underlying42 rfl sz39 hA rfl rfl) rfl fun a hA => 
        stp hA (r_ldA (j := 0) [] [av .u8 32 ((x0.Ins.getD s1.toNat default).From.Tx), [.int .u32 ((x0.Ins.getD s1.toNat default).From.N)]] [[v1], [.int .u32 ((x0.Ins.getD s1.toNat default).Seq)]] Tryd.underlying39 rfl sz39 rfl hI rfl hA rfl rfl) rfl fun a hA => 
        o_mput (j := 1) (k := ((x0.Ins.getD s1.toNat default).From)) true kn79 Tryd.underlying79 ws2 ⟨hw1.1, hw1.2.1⟩ hI rfl hA rfl rfl rfl fun w hI => ?_
      refine o_nil <| hN7 _ _ <| w_reg <| stp hA (r_add hA rfl rfl) rfl fun a hA => 
        stm hA rfl rfl fun a hA => ?_
      refine o_nil <| ⟨m1, Nat.lt_succ_self _, IntKind.i64.wrap (s1 + 1), mput s2 ((x0.Ins.getD s1.toNat default).From) true, H, (wrap_in _ _), (MW.put ws2 ⟨hw1.1, hw1.2.1⟩ trivial), hA.sub ⟨rfl, rfl, rfl, rfl, rfl, trivial⟩, (hI.sl [1, 2] rfl)⟩
  · obtain ⟨hc1, H⟩ := dF H hc1
    refine w_exit rfl <| hN3 _ _ <| w_seq fun _ hN12 => w_reg <| sta hA rfl rfl fun a hA => ?_
    refine o_nil <| hN12 _ _ <| w_ret ?_
    have H : some false = some z1 := H
    obtain rfl := sI H
    have H := Hk1
    obtain rfl := sJ H
    exact ret1 hA Tryd.results49 rfl ⟨_, rfl, rfl, trivial, hI.forget0⟩
set_option maxRecDepth 20000 in
theorem tx_Base.c (μ : Store) (w0 : World) (hμ : Agr μ w0) (x0 : Tx) (u0_0 : Value) (u0_1 : Value) (hx0 : TxW μ x0 u0_0 u0_1) (r : Bool) (H : tx_Base.f x0 = some r) :
    Calls Tryd.prog 32 [.agg [[.int .u32 x0.Version], [u0_0], [u0_1], [.int .u32 x0.Time]].flatten.toArray].toArray w0 (fun e w' => ∃ v, e = .returned v ∧ v = .bool r ∧ True ∧ Iv w0 [] μ μ [] w') := by
  refine enter Tryd.func32 rfl Tryd.ntmps32 rfl fun a hA => ?_
  have hI := Iv.start hμ
  have H := bI H
  refine w_seq fun _ hN1 => w_reg <| o_box [[.int .u32 x0.Version], [u0_0], [u0_1], [.int .u32 x0.Time]] hI hA rfl rfl rfl fun g1 a w hA hI hg1 => 
    sta hA rfl rfl fun a hA => ?_
  refine o_nil <| hN1 _ _ ?_
  obtain ⟨c1, hz1, Hk1⟩ := bB H
  refine w_cut (fun a w => Fr a 15 [(2, .bool c1)] ∧ Iv w0 [] μ μ [cel g1 [[.int .u32 x0.Version], [u0_0], [u0_1], [.int .u32 x0.Time]] 32] w) ?_ ?_
  · have H := bI hz1
    refine w_reg <| stp hA (r_fd (k := 1) Tryd.underlying32 rfl sz29 hA rfl rfl) rfl fun a hA => 
      stp hA (r_ld1 (j := 0) [[.int .u32 x0.Version]] [[u0_1], [.int .u32 x0.Time]] Tryd.underlying29 rfl hI rfl hA rfl rfl) rfl fun a hA => ?_
    obtain ⟨_, hsl1⟩ := Slc.sv hx0.2.1
    refine stp hA (r_slen Tryd.underlying29 hsl1 hA rfl) rfl fun a hA => 
      stp hA (r_eql hA rfl rfl) rfl fun a hA => 
      stm hA rfl rfl fun a hA => ?_
    rcases Bool.eq_false_or_eq_true (decide ((x0.Ins.length : Int) = 1)) with hc1 | hc1
    · have hc10 := hc1; obtain ⟨hc1, H⟩ := dT H hc1
      refine o_yes hA rfl rfl hc10 <| 
        stp hA (r_fd (k := 1) Tryd.underlying32 rfl sz29 hA rfl rfl) rfl fun a hA => 
        o_yes hA rfl rfl hc10 <| 
        stp hA (r_ld1 (j := 0) [[.int .u32 x0.Version]] [[u0_1], [.int .u32 x0.Time]] Tryd.underlying29 rfl hI rfl hA rfl rfl) rfl fun a hA => 
        o_yes hA rfl rfl hc10 <| ?_
      obtain ⟨hb1, H⟩ := bG H
      obtain ⟨_, he1, _, hat1⟩ := Slc.elem hx0.2.1 (getD_some default (by decide) hb1)
      obtain ⟨v1, rfl, hw1⟩ := he1
      obtain ⟨_, hsl2⟩ := Slc.sv hx0.2.1
      refine stp hA (r_six Tryd.underlying29 sz42 hsl2 hA rfl rfl (by decide) hb1) rfl fun a hA => 
        o_yes hA rfl rfl hc10 <| 
        stp hA (r_fd (k := so u0_0 + (0 : Int).toNat * 35) Tryd.underlying42 rfl sz39 hA rfl rfl) rfl fun a hA => 
        o_yes hA rfl rfl hc10 <| 
        stp hA (r_ldmA [] [av .u8 32 ((x0.Ins.getD (0 : Int).toNat default).From.Tx), [.int .u32 ((x0.Ins.getD (0 : Int).toNat default).From.N)]] [[v1], [.int .u32 ((x0.Ins.getD (0 : Int).toNat default).Seq)]] Tryd.underlying39 rfl sz39 rfl hI.agr hat1 hA rfl rfl) rfl fun a hA => 
        o_yes hA rfl rfl hc10 <| ?_
      obtain ⟨r1, hr1, H⟩ := bB H
      refine o_callp (u := .bool r1) cf51 hA rfl hI (spend_IsNull.c μ _ hI.agr ((x0.Ins.getD (0 : Int).toNat default).From) ⟨hw1.1, hw1.2.1⟩ r1 hr1) rfl fun a w hz2 hI hA => 
        stp hA (r_pick_t hA rfl hc10 rfl) rfl fun a hA => 
        sta hA rfl rfl fun a hA => ?_
      refine o_nil ?_
      cases sJ H
      exact ⟨hA.sub ⟨rfl, trivial⟩, hI⟩
    · have hc10 := hc1; obtain ⟨hc1, H⟩ := dF H hc1
      refine o_no hA rfl rfl (by rw [hc10]; simp [vb]) rfl fun a hA => 
        o_no hA rfl rfl (by rw [hc10]; simp [vb]) rfl fun a hA => 
        o_no hA rfl rfl (by rw [hc10]; simp [vb]) rfl fun a hA => 
        o_no hA rfl rfl (by rw [hc10]; simp [vb]) rfl fun a hA => 
        o_no hA rfl rfl (by rw [hc10]; simp [vb]) rfl fun a hA => 
        o_no hA rfl rfl (by rw [hc10]; simp [vb]) rfl fun a hA => 
        stp hA (r_pick_f hA rfl hc10 rfl) rfl fun a hA => 
        sta hA rfl rfl fun a hA => ?_
      refine o_nil ?_
      cases sJ H
      exact ⟨hA.sub ⟨rfl, trivial⟩, hI⟩
  · rintro a w ⟨hA, hI⟩
    have H := Hk1
    refine w_ret ?_
    obtain rfl := sJ H
    exact ret1 hA Tryd.results32 rfl ⟨_, rfl, rfl, trivial, hI.forget0⟩
set_option maxRecDepth 20000 in
theorem tx_base_1.c (μ : Store) (w0 : World) (hμ : Agr μ w0) (x0 : In) (u0_0 : Value) (hx0 : InW μ x0 u0_0) (r : Bool) (H : tx_base_1.f x0 = some r) :
    Calls Tryd.prog 64 [.agg [av .u8 32 x0.From.Tx, [.int .u32 x0.From.N], [u0_0], [.int .u32 x0.Seq]].flatten.toArray].toArray w0 (fun e w' => ∃ v, e = .returned v ∧ v = .bool r ∧ True ∧ Iv w0 [] μ μ [] w') := by
  refine enter Tryd.func64 rfl Tryd.ntmps64 rfl fun a hA => ?_
  have hI := Iv.start hμ
  have H := bI H
  refine w_seq fun _ hN1 => w_reg <| o_box [av .u8 32 x0.From.Tx, [.int .u32 x0.From.N], [u0_0], [.int .u32 x0.Seq]] hI hA rfl rfl rfl fun g1 a w hA hI hg1 => 
    sta hA rfl rfl fun a hA => ?_
  refine o_nil <| hN1 _ _ <| w_seq fun _ hN2 => w_reg <| stp hA (r_fd (k := 0) Tryd.underlying42 rfl sz39 hA rfl rfl) rfl fun a hA => 
    stp hA (r_ldA (j := 0) [] [av .u8 32 x0.From.Tx, [.int .u32 x0.From.N]] [[u0_0], [.int .u32 x0.Seq]] Tryd.underlying39 rfl sz39 rfl hI rfl hA rfl rfl) rfl fun a hA => ?_
  obtain ⟨r1, hr1, H⟩ := bB H
  refine o_callp (u := .bool r1) cf51 hA rfl hI (spend_IsNull.c μ _ hI.agr x0.From ⟨hx0.1, hx0.2.1⟩ r1 hr1) rfl fun a w hz1 hI hA => 
    sta hA rfl rfl fun a hA => ?_
  refine o_nil <| hN2 _ _ <| w_ret ?_
  obtain rfl := sJ H
  exact ret1 hA Tryd.results64 rfl ⟨_, rfl, rfl, trivial, hI.forget0⟩
set_option maxRecDepth 20000 in
theorem slices_IndexFunc_api_In_api_In_at_tx_base_1.c (μ : Store) (w0 : World) (hμ : Agr μ w0) (x0 : List In) (u0 : Value) (hx0 : Slc (RIn μ) 35 μ u0 x0) (r : Int) (H : slices_IndexFunc_api_In_api_In_at_tx_base_1.f x0 = some r) :
    Calls Tryd.prog 61 [u0, .func (.func 64) #[] #[]].toArray w0 (fun e w' => ∃ v, e = .returned v ∧ v = .int .i64 r ∧ InR .i64 r ∧ Iv w0 [] μ μ [] w') := by
  refine enter Tryd.func61 rfl Tryd.ntmps61 rfl fun a hA => ?_
  have hI := Iv.start hμ
  have H := bI H
  refine w_seq fun _ hN1 => w_reg <| sta hA rfl rfl fun a hA => ?_
  refine o_nil <| hN1 _ _ <| w_seq fun _ hN2 => w_seq fun _ hN3 => w_reg <| stm hA rfl rfl fun a hA => ?_
  obtain ⟨_, hsl1⟩ := Slc.sv hx0
  refine stp hA (r_slen Tryd.underlying29 hsl1 hA rfl) rfl fun a hA => 
    stm hA rfl rfl fun a hA => ?_
  refine o_nil <| hN3 _ _ <| w_block ?_
  obtain ⟨z1, hz1, Hk1⟩ := bind_some H
  obtain ⟨n1, hn1⟩ := loopO_some hz1
  refine w_loop (fun n a w => ∃ (s1 : Int), loopN (slices_IndexFunc_api_In_api_In_at_tx_base_1.s0 x0) n s1 = some z1 ∧ InR .i64 s1 ∧ Fr a 19 [(0, u0), (1, .func (.func 64) #[] #[]), (4, .int .i64 0), (7, .int .i64 (x0.length : Int)), (8, .int .i64 s1)] ∧ Iv w0 [] μ μ [] w) n1 ⟨0, hn1, (in_lit .i64 0 rfl), hA.sub ⟨rfl, rfl, rfl, rfl, rfl, trivial⟩, hI⟩ ?_
  clear hA hI
  rintro n a w ⟨s1, hn1, ws1, hA, hI⟩
  obtain ⟨m1, rfl, H⟩ := loopN_bind hn1
  clear hn1
  refine w_seq fun _ hN4 => w_reg <| stp hA (r_lss hA rfl rfl) rfl fun a hA => ?_
  refine o_nil <| hN4 _ _ <| w_seq fun _ hN5 => w_cond hA rfl (fun hc1 => ?_) (fun hc1 => ?_)
  · obtain ⟨hc1, H⟩ := dT H hc1
    refine w_skip <| hN5 _ _ <| w_seq fun _ hN6 => w_block <| w_seq fun _ hN7 => w_reg <| stm hA rfl rfl fun a hA => 
      sta hA rfl rfl fun a hA => ?_
    refine o_nil <| hN7 _ _ <| w_seq fun _ hN8 => w_reg <| stm hA rfl rfl fun a hA => 
      stm hA rfl rfl fun a hA => 
      stm hA rfl rfl fun a hA => ?_
    obtain ⟨hb1, H⟩ := bG H
    obtain ⟨_, he1, _, hat1⟩ := Slc.elem hx0 (getD_some default hb1.1 hb1.2)
    obtain ⟨v1, rfl, hw1⟩ := he1
    obtain ⟨_, hsl2⟩ := Slc.sv hx0
    refine stp hA (r_six Tryd.underlying29 sz42 hsl2 hA rfl rfl hb1.1 hb1.2) rfl fun a hA => 
      stp hA (r_ldmA [] [av .u8 32 ((x0.getD s1.toNat default).From.Tx), [.int .u32 ((x0.getD s1.toNat default).From.N)], [v1], [.int .u32 ((x0.getD s1.toNat default).Seq)]] [] Tryd.underlying42 rfl sz42 rfl hI.agr hat1 hA rfl rfl) rfl fun a hA => ?_
    obtain ⟨r1, hr1, H⟩ := bB H
    refine o_callpc (u := .bool r1) cf64 hA rfl rfl hI (tx_base_1.c μ _ hI.agr (x0.getD s1.toNat default) v1 ⟨hw1.1, hw1.2.1, hw1.2.2.1, hw1.2.2.2⟩ r1 hr1) rfl fun a w hz2 hI hA => ?_
    refine o_nil <| hN8 _ _ <| w_cond hA rfl (fun hc2 => ?_) (fun hc2 => ?_)
    · have H := bT H hc2
      refine w_seq fun _ hN9 => w_reg <| stm hA rfl rfl fun a hA => 
        sta hA rfl rfl fun a hA => ?_
      refine o_nil <| hN9 _ _ <| w_ret ?_
      have H : some s1 = some z1 := H
      obtain rfl := sI H
      have H := Hk1
      obtain rfl := sJ H
      exact ret1 hA Tryd.results61 rfl ⟨_, rfl, rfl, ws1, hI.forget0⟩
    · have hc2 := ft hc2; have H := bF H hc2
      refine w_skip <| hN6 _ _ <| w_reg <| stp hA (r_add hA rfl rfl) rfl fun a hA => 
        stm hA rfl rfl fun a hA => ?_
      refine o_nil <| ⟨m1, Nat.lt_succ_self _, IntKind.i64.wrap (s1 + 1), H, (wrap_in _ _), hA.sub ⟨rfl, rfl, rfl, rfl, rfl, trivial⟩, hI⟩
  · obtain ⟨hc1, H⟩ := dF H hc1
    refine w_exit rfl <| hN2 _ _ <| w_seq fun _ hN10 => w_reg <| sta hA rfl rfl fun a hA => ?_
    refine o_nil <| hN10 _ _ <| w_ret ?_
    have H : some (-1) = some z1 := H
    obtain rfl := sI H
    have H := Hk1
    obtain rfl := sJ H
    exact ret1 hA Tryd.results61 rfl ⟨_, rfl, rfl, (in_lit .i64 (-1) rfl), hI.forget0⟩
set_option maxRecDepth 20000 in
theorem slices_ContainsFunc_api_In_api_In_at_tx_base_1.c (μ : Store) (w0 : World) (hμ : Agr μ w0) (x0 : List In) (u0 : Value) (hx0 : Slc (RIn μ) 35 μ u0 x0) (r : Bool) (H : slices_ContainsFunc_api_In_api_In_at_tx_base_1.f x0 = some r) :
    Calls Tryd.prog 46 [u0, .func (.func 64) #[] #[]].toArray w0 (fun e w' => ∃ v, e = .returned v ∧ v = .bool r ∧ True ∧ Iv w0 [] μ μ [] w') := by
  refine enter Tryd.func46 rfl Tryd.ntmps46 rfl fun a hA => ?_
  have hI := Iv.start hμ
  have H := bI H
  refine w_seq fun _ hN1 => w_reg <| sta hA rfl rfl fun a hA => ?_
  refine o_nil <| hN1 _ _ <| w_seq fun _ hN2 => w_reg <| stm hA rfl rfl fun a hA => 
    stm hA rfl rfl fun a hA => ?_
  obtain ⟨r1, hr1, H⟩ := bB H
  refine o_callp (u := .int .i64 r1) cf61 hA rfl hI (slices_IndexFunc_api_In_api_In_at_tx_base_1.c μ _ hI.agr x0 u0 hx0 r1 hr1) rfl fun a w hz1 hI hA => 
    stp hA (r_geq hA rfl rfl) rfl fun a hA => 
    sta hA rfl rfl fun a hA => ?_
  refine o_nil <| hN2 _ _ <| w_ret ?_
  obtain rfl := sJ H
  exact ret1 hA Tryd.results46 rfl ⟨_, rfl, rfl, trivial, hI.forget0⟩
set_option maxRecDepth 20000 in
theorem tx_base.c (μ : Store) (w0 : World) (hμ : Agr μ w0) (x0 : Tx) (u0_0 : Value) (u0_1 : Value) (hx0 : TxW μ x0 u0_0 u0_1) (e5 : Value) (he5 : ErS μ e5 (Er.b 6)) (r : Er) (H : tx_base.f x0 = some r) :
    Calls Tryd.prog 50 [.agg [[.int .u32 x0.Version], [u0_0], [u0_1], [.int .u32 x0.Time]].flatten.toArray].toArray w0 (fun e w' => ∃ v, e = .returned v ∧ ∃ (v0 : Value) (μ' : Store), v = v0 ∧ ErS μ' v0 r ∧ Iv w0 [] μ μ' [] w') := by
  refine enter Tryd.func50 rfl Tryd.ntmps50 rfl fun a hA => ?_
  have hI := Iv.start hμ
  have H := bI H
  refine w_seq fun _ hN1 => w_reg <| o_box [[.int .u32 x0.Version], [u0_0], [u0_1], [.int .u32 x0.Time]] hI hA rfl rfl rfl fun g1 a w hA hI hg1 => 
    sta hA rfl rfl fun a hA => ?_
  refine o_nil <| hN1 _ _ <| w_seq fun _ hN2 => w_seq fun _ hN3 => w_reg <| stp hA (r_ldA (j := 0) [] [[.int .u32 x0.Version], [u0_0], [u0_1], [.int .u32 x0.Time]] [] Tryd.underlying32 rfl sz32 rfl hI rfl hA rfl rfl) rfl fun a hA => ?_
  obtain ⟨r1, hr1, H⟩ := bB H
  refine o_callp (u := .bool r1) cf32 hA rfl hI (tx_Base.c μ _ hI.agr x0 u0_0 u0_1 ⟨hx0.1, hx0.2.1, hx0.2.2.1, hx0.2.2.2⟩ r1 hr1) rfl fun a w hz1 hI hA => ?_
  refine o_nil <| hN3 _ _ <| w_cond hA rfl (fun hc1 => ?_) (fun hc1 => ?_)
  · have H := bT H hc1
    refine w_seq fun _ hN4 => w_seq fun _ hN5 => w_reg <| stp hA (r_fd (k := 1) Tryd.underlying32 rfl sz29 hA rfl rfl) rfl fun a hA => 
      stp hA (r_ld1 (j := 0) [[.int .u32 x0.Version]] [[u0_1], [.int .u32 x0.Time]] Tryd.underlying29 rfl hI rfl hA rfl rfl) rfl fun a hA => ?_
    obtain ⟨hb1, H⟩ := bG H
    obtain ⟨_, he1, _, hat1⟩ := Slc.elem hx0.2.1 (getD_some default (by decide) hb1)
    obtain ⟨v1, rfl, hw1⟩ := he1
    obtain ⟨_, hsl1⟩ := Slc.sv hx0.2.1
    refine stp hA (r_six Tryd.underlying29 sz42 hsl1 hA rfl rfl (by decide) hb1) rfl fun a hA => 
      stp hA (r_fd (k := so u0_0 + (0 : Int).toNat * 35 + 33) Tryd.underlying42 rfl sz40 hA rfl rfl) rfl fun a hA => 
      stp hA (r_ldm1 [av .u8 32 ((x0.Ins.getD (0 : Int).toNat default).From.Tx), [.int .u32 ((x0.Ins.getD (0 : Int).toNat default).From.N)]] [[.int .u32 ((x0.Ins.getD (0 : Int).toNat default).Seq)]] Tryd.underlying40 rfl hI.agr hat1 hA rfl rfl) rfl fun a hA => ?_
    obtain ⟨_, hsl2⟩ := Slc.sv hw1.2.2.1
    refine stp hA (r_slen Tryd.underlying40 hsl2 hA rfl) rfl fun a hA => 
      stp hA (r_lss hA rfl rfl) rfl fun a hA => ?_
    refine o_nil <| hN5 _ _ <| w_cond hA rfl (fun hc2 => ?_) (fun hc2 => ?_)
    · obtain ⟨hc2, H⟩ := dT H hc2
      refine w_seq fun _ hN6 => w_reg <| stp hA (r_ldG Tryd.underlying47 rfl hI.agr he5 hA) rfl fun a hA => 
        sta hA rfl rfl fun a hA => ?_
      refine o_nil <| hN6 _ _ <| w_ret ?_
      obtain rfl := sJ H
      exact ret1 hA Tryd.results50 rfl ⟨_, rfl, e5, μ, rfl, he5, (hI.sl [] rfl)⟩
    · obtain ⟨hc2, H⟩ := dF H hc2
      refine w_skip <| hN4 _ _ <| w_seq fun _ hN7 => w_reg <| sta hA rfl rfl fun a hA => ?_
      refine o_nil <| hN7 _ _ <| w_ret ?_
      obtain rfl := sJ H
      exact ret1 hA Tryd.results50 rfl ⟨_, rfl, .nilIface, μ, rfl, erv_nil, (hI.sl [] rfl)⟩
  · have hc1 := ft hc1; have H := bF H hc1
    refine w_skip <| hN2 _ _ <| w_seq fun _ hN8 => w_seq fun _ hN9 => w_reg <| stp hA (r_fd (k := 1) Tryd.underlying32 rfl sz29 hA rfl rfl) rfl fun a hA => 
      stp hA (r_ld1 (j := 0) [[.int .u32 x0.Version]] [[u0_1], [.int .u32 x0.Time]] Tryd.underlying29 rfl hI rfl hA rfl rfl) rfl fun a hA => ?_
    obtain ⟨r2, hr2, H⟩ := bB H
    refine o_callp (u := .bool r2) cf46 hA rfl hI (slices_ContainsFunc_api_In_api_In_at_tx_base_1.c μ _ hI.agr x0.Ins u0_0 hx0.2.1 r2 hr2) rfl fun a w hz2 hI hA => ?_
    refine o_nil <| hN9 _ _ <| w_cond hA rfl (fun hc3 => ?_) (fun hc3 => ?_)
    · have H := bT H hc3
      refine w_seq fun _ hN10 => w_reg <| stp hA (r_ldG Tryd.underlying47 rfl hI.agr he5 hA) rfl fun a hA => 
        sta hA rfl rfl fun a hA => ?_
      refine o_nil <| hN10 _ _ <| w_ret ?_
      obtain rfl := sJ H
      exact ret1 hA Tryd.results50 rfl ⟨_, rfl, e5, μ, rfl, he5, (hI.sl [] rfl)⟩
    · have hc3 := ft hc3; have H := bF H hc3
      refine w_skip <| hN8 _ _ <| w_seq fun _ hN11 => w_reg <| sta hA rfl rfl fun a hA => ?_
      refine o_nil <| hN11 _ _ <| w_ret ?_
      obtain rfl := sJ H
      exact ret1 hA Tryd.results50 rfl ⟨_, rfl, .nilIface, μ, rfl, erv_nil, (hI.sl [] rfl)⟩
set_option maxRecDepth 20000 in
theorem slices_IndexFunc_api_In_api_In_at_tx_Check_1.c (μ : Store) (w0 : World) (hμ : Agr μ w0) (x0 : List In) (u0 : Value) (hx0 : Slc (RIn μ) 35 μ u0 x0) (r : Int) (H : slices_IndexFunc_api_In_api_In_at_tx_Check_1.f x0 = some r) :
    Calls Tryd.prog 61 [u0, .func (.func 47) #[] #[]].toArray w0 (fun e w' => ∃ v, e = .returned v ∧ v = .int .i64 r ∧ InR .i64 r ∧ Iv w0 [] μ μ [] w') := by
  refine enter Tryd.func61 rfl Tryd.ntmps61 rfl fun a hA => ?_
  have hI := Iv.start hμ
  have H := bI H
  refine w_seq fun _ hN1 => w_reg <| sta hA rfl rfl fun a hA => ?_
  refine o_nil <| hN1 _ _ <| w_seq fun _ hN2 => w_seq fun _ hN3 => w_reg <| stm hA rfl rfl fun a hA => ?_
  obtain ⟨_, hsl1⟩ := Slc.sv hx0
  refine stp hA (r_slen Tryd.underlying29 hsl1 hA rfl) rfl fun a hA => 
    stm hA rfl rfl fun a hA => ?_
  refine o_nil <| hN3 _ _ <| w_block ?_
  obtain ⟨z1, hz1, Hk1⟩ := bind_some H
  obtain ⟨n1, hn1⟩ := loopO_some hz1
  refine w_loop (fun n a w => ∃ (s1 : Int), loopN (slices_IndexFunc_api_In_api_In_at_tx_Check_1.s0 x0) n s1 = some z1 ∧ InR .i64 s1 ∧ Fr a 19 [(0, u0), (1, .func (.func 47) #[] #[]), (4, .int .i64 0), (7, .int .i64 (x0.length : Int)), (8, .int .i64 s1)] ∧ Iv w0 [] μ μ [] w) n1 ⟨0, hn1, (in_lit .i64 0 rfl), hA.sub ⟨rfl, rfl, rfl, rfl, rfl, trivial⟩, hI⟩ ?_
  clear hA hI
  rintro n a w ⟨s1, hn1, ws1, hA, hI⟩
  obtain ⟨m1, rfl, H⟩ := loopN_bind hn1
  clear hn1
  refine w_seq fun _ hN4 => w_reg <| stp hA (r_lss hA rfl rfl) rfl fun a hA => ?_
  refine o_nil <| hN4 _ _ <| w_seq fun _ hN5 => w_cond hA rfl (fun hc1 => ?_) (fun hc1 => ?_)
  · obtain ⟨hc1, H⟩ := dT H hc1
    refine w_skip <| hN5 _ _ <| w_seq fun _ hN6 => w_block <| w_seq fun _ hN7 => w_reg <| stm hA rfl rfl fun a hA => 
      sta hA rfl rfl fun a hA => ?_
    refine o_nil <| hN7 _ _ <| w_seq fun _ hN8 => w_reg <| stm hA rfl rfl fun a hA => 
      stm hA rfl rfl fun a hA => 
      stm hA rfl rfl fun a hA => ?_
    obtain ⟨hb1, H⟩ := bG H
    obtain ⟨_, he1, _, hat1⟩ := Slc.elem hx0 (getD_some default hb1.1 hb1.2)
    obtain ⟨v1, rfl, hw1⟩ := he1
    obtain ⟨_, hsl2⟩ := Slc.sv hx0
    refine stp hA (r_six Tryd.underlying29 sz42 hsl2 hA rfl rfl hb1.1 hb1.2) rfl fun a hA => 
      stp hA (r_ldmA [] [av .u8 32 ((x0.getD s1.toNat default).From.Tx), [.int .u32 ((x0.getD s1.toNat default).From.N)], [v1], [.int .u32 ((x0.getD s1.toNat default).Seq)]] [] Tryd.underlying42 rfl sz42 rfl hI.agr hat1 hA rfl rfl) rfl fun a hA => ?_
    obtain ⟨r1, hr1, H⟩ := bB H
    refine o_callpc (u := .bool r1) cf47 hA rfl rfl hI (tx_Check_1.c μ _ hI.agr (x0.getD s1.toNat default) v1 ⟨hw1.1, hw1.2.1, hw1.2.2.1, hw1.2.2.2⟩ r1 hr1) rfl fun a w hz2 hI hA => ?_
    refine o_nil <| hN8 _ _ <| w_cond hA rfl (fun hc2 => ?_) (fun hc2 => ?_)
    · have H := bT H hc2
      refine w_seq fun _ hN9 => w_reg <| stm hA rfl rfl fun a hA => 
        sta hA rfl rfl fun a hA => ?_
      refine o_nil <| hN9 _ _ <| w_ret ?_
      have H : some s1 = some z1 := H
      obtain rfl := sI H
      have H := Hk1
      obtain rfl := sJ H
      exact ret1 hA Tryd.results61 rfl ⟨_, rfl, rfl, ws1, hI.forget0⟩
    · have hc2 := ft hc2; have H := bF H hc2
      refine w_skip <| hN6 _ _ <| w_reg <| stp hA (r_add hA rfl rfl) rfl fun a hA => 
        stm hA rfl rfl fun a hA => ?_
      refine o_nil <| ⟨m1, Nat.lt_succ_self _, IntKind.i64.wrap (s1 + 1), H, (wrap_in _ _), hA.sub ⟨rfl, rfl, rfl, rfl, rfl, trivial⟩, hI⟩
  · obtain ⟨hc1, H⟩ := dF H hc1
    refine w_exit rfl <| hN2 _ _ <| w_seq fun _ hN10 => w_reg <| sta hA rfl rfl fun a hA => ?_
    refine o_nil <| hN10 _ _ <| w_ret ?_
    have H : some (-1) = some z1 := H
    obtain rfl := sI H
    have H := Hk1
    obtain rfl := sJ H
    exact ret1 hA Tryd.results61 rfl ⟨_, rfl, rfl, (in_lit .i64 (-1) rfl), hI.forget0⟩
set_option maxRecDepth 20000 in
theorem slices_ContainsFunc_api_In_api_In_at_tx_Check_1.c (μ : Store) (w0 : World) (hμ : Agr μ w0) (x0 : List In) (u0 : Value) (hx0 : Slc (RIn μ) 35 μ u0 x0) (r : Bool) (H : slices_ContainsFunc_api_In_api_In_at_tx_Check_1.f x0 = some r) :
    Calls Tryd.prog 46 [u0, .func (.func 47) #[] #[]].toArray w0 (fun e w' => ∃ v, e = .returned v ∧ v = .bool r ∧ True ∧ Iv w0 [] μ μ [] w') := by
  refine enter Tryd.func46 rfl Tryd.ntmps46 rfl fun a hA => ?_
  have hI := Iv.start hμ
  have H := bI H
  refine w_seq fun _ hN1 => w_reg <| sta hA rfl rfl fun a hA => ?_
  refine o_nil <| hN1 _ _ <| w_seq fun _ hN2 => w_reg <| stm hA rfl rfl fun a hA => 
    stm hA rfl rfl fun a hA => ?_
  obtain ⟨r1, hr1, H⟩ := bB H
  refine o_callp (u := .int .i64 r1) cf61 hA rfl hI (slices_IndexFunc_api_In_api_In_at_tx_Check_1.c μ _ hI.agr x0 u0 hx0 r1 hr1) rfl fun a w hz1 hI hA => 
    stp hA (r_geq hA rfl rfl) rfl fun a hA => 
    sta hA rfl rfl fun a hA => ?_
  refine o_nil <| hN2 _ _ <| w_ret ?_
  obtain rfl := sJ H
  exact ret1 hA Tryd.results46 rfl ⟨_, rfl, rfl, trivial, hI.forget0⟩
set_option maxRecDepth 20000 in
theorem tx_Check.c (μ : Store) (w0 : World) (hμ : Agr μ w0) (x0 : Tx) (u0_0 : Value) (u0_1 : Value) (hx0 : TxW μ x0 u0_0 u0_1) (e0 : Value) (he0 : ErS μ e0 (Er.b 1)) (e1 : Value) (he1 : ErS μ e1 (Er.b 2)) (e2 : Value) (he2 : ErS μ e2 (Er.b 3)) (e5 : Value) (he5 : ErS μ e5 (Er.b 6)) (e6 : Value) (he6 : ErS μ e6 (Er.b 7)) (e7 : Value) (he7 : ErS μ e7 (Er.b 8)) (r : Er) (H : tx_Check.f x0 = some r) :
    Calls Tryd.prog 31 [.agg [[.int .u32 x0.Version], [u0_0], [u0_1], [.int .u32 x0.Time]].flatten.toArray].toArray w0 (fun e w' => ∃ v, e = .returned v ∧ ∃ (v0 : Value) (μ' : Store), v = v0 ∧ ErS μ' v0 r ∧ Iv w0 [] μ μ' [] w') := by
  refine enter Tryd.func31 rfl Tryd.ntmps31 rfl fun a hA => ?_
  have hI := Iv.start hμ
  have H := bI H
  refine w_seq fun _ hN1 => w_reg <| o_box [[.int .u32 x0.Version], [u0_0], [u0_1], [.int .u32 x0.Time]] hI hA rfl rfl rfl fun g1 a w hA hI hg1 => 
    sta hA rfl rfl fun a hA => ?_
  refine o_nil <| hN1 _ _ <| w_seq fun _ hN2 => w_block ?_
  obtain ⟨c1, hz1, Hk1⟩ := bB H
  refine w_cut (fun a w => Fr a 52 [(1, .pointer (some ⟨g1, 0, none⟩)), (2, .nilIface), (5, .bool c1)] ∧ Iv w0 [] μ μ [cel g1 [[.int .u32 x0.Version], [u0_0], [u0_1], [.int .u32 x0.Time]] 32] w) ?_ ?_
  · have H := bI hz1
    refine w_reg <| stp hA (r_fd (k := 1) Tryd.underlying32 rfl sz29 hA rfl rfl) rfl fun a hA => 
      stp hA (r_ld1 (j := 0) [[.int .u32 x0.Version]] [[u0_1], [.int .u32 x0.Time]] Tryd.underlying29 rfl hI rfl hA rfl rfl) rfl fun a hA => ?_
    obtain ⟨_, hsl1⟩ := Slc.sv hx0.2.1
    refine stp hA (r_slen Tryd.underlying29 hsl1 hA rfl) rfl fun a hA => 
      stp hA (r_eql hA rfl rfl) rfl fun a hA => 
      stm hA rfl rfl fun a hA => ?_
    rcases Bool.eq_false_or_eq_true (decide ((x0.Ins.length : Int) = 0)) with hc1 | hc1
    · have hc10 := hc1; obtain ⟨hc1, H⟩ := dT H hc1
      refine o_no hA rfl rfl (by rw [hc10]; simp [vb]) rfl fun a hA => 
        o_no hA rfl rfl (by rw [hc10]; simp [vb]) rfl fun a hA => 
        o_no hA rfl rfl (by rw [hc10]; simp [vb]) rfl fun a hA => 
        o_no hA rfl rfl (by rw [hc10]; simp [vb]) rfl fun a hA => 
        stp hA (r_pick_t hA rfl hc10 rfl) rfl fun a hA => 
        stm hA rfl rfl fun a hA => 
        o_no hA rfl rfl (by simp [vb]) rfl fun a hA => 
        o_no hA rfl rfl (by simp [vb]) rfl fun a hA => 
        o_no hA rfl rfl (by simp [vb]) rfl fun a hA => 
        o_no hA rfl rfl (by simp [vb]) rfl fun a hA => 
        stp hA (r_pick_t hA rfl rfl rfl) rfl fun a hA => 
        stm hA rfl rfl fun a hA => 
        o_no hA rfl rfl (by simp [vb]) rfl fun a hA => 
        o_no hA rfl rfl (by simp [vb]) rfl fun a hA => 
        o_no hA rfl rfl (by simp [vb]) rfl fun a hA => 
        o_no hA rfl rfl (by simp [vb]) rfl fun a hA => 
        stp hA (r_pick_t hA rfl rfl rfl) rfl fun a hA => 
        sta hA rfl rfl fun a hA => ?_
      refine o_nil ?_
      cases sJ H
      exact ⟨hA.sub ⟨rfl, rfl, rfl, trivial⟩, hI⟩
    · have hc10 := hc1; obtain ⟨hc1, H⟩ := dF H hc1
      refine o_yes hA rfl rfl hc10 <| 
        stp hA (r_fd (k := 1) Tryd.underlying32 rfl sz29 hA rfl rfl) rfl fun a hA => 
        o_yes hA rfl rfl hc10 <| 
        stp hA (r_ld1 (j := 0) [[.int .u32 x0.Version]] [[u0_1], [.int .u32 x0.Time]] Tryd.underlying29 rfl hI rfl hA rfl rfl) rfl fun a hA => 
        o_yes hA rfl rfl hc10 <| ?_
      obtain ⟨_, hsl2⟩ := Slc.sv hx0.2.1
      refine stp hA (r_slen Tryd.underlying29 hsl2 hA rfl) rfl fun a hA => 
        o_yes hA rfl rfl hc10 <| 
        stp hA (r_gtr hA rfl rfl) rfl fun a hA => 
        stp hA (r_pick_f hA rfl hc10 rfl) rfl fun a hA => 
        stm hA rfl rfl fun a hA => ?_
      rcases Bool.eq_false_or_eq_true (decide (50 < (x0.Ins.length : Int))) with hc2 | hc2
      · have hc20 := hc2; obtain ⟨hc2, H⟩ := dT H hc2
        refine o_no hA rfl rfl (by rw [hc20]; simp [vb]) rfl fun a hA => 
          o_no hA rfl rfl (by rw [hc20]; simp [vb]) rfl fun a hA => 
          o_no hA rfl rfl (by rw [hc20]; simp [vb]) rfl fun a hA => 
          o_no hA rfl rfl (by rw [hc20]; simp [vb]) rfl fun a hA => 
          stp hA (r_pick_t hA rfl hc20 rfl) rfl fun a hA => 
          stm hA rfl rfl fun a hA => 
          o_no hA rfl rfl (by simp [vb]) rfl fun a hA => 
          o_no hA rfl rfl (by simp [vb]) rfl fun a hA => 
          o_no hA rfl rfl (by simp [vb]) rfl fun a hA => 
          o_no hA rfl rfl (by simp [vb]) rfl fun a hA => 
          stp hA (r_pick_t hA rfl rfl rfl) rfl fun a hA => 
          sta hA rfl rfl fun a hA => ?_
        refine o_nil ?_
        cases sJ H
        exact ⟨hA.sub ⟨rfl, rfl, rfl, trivial⟩, hI⟩
      · have hc20 := hc2; obtain ⟨hc2, H⟩ := dF H hc2
        refine o_yes hA rfl rfl hc20 <| 
          stp hA (r_fd (k := 2) Tryd.underlying32 rfl sz30 hA rfl rfl) rfl fun a hA => 
          o_yes hA rfl rfl hc20 <| 
          stp hA (r_ld1 (j := 0) [[.int .u32 x0.Version], [u0_0]] [[.int .u32 x0.Time]] Tryd.underlying30 rfl hI rfl hA rfl rfl) rfl fun a hA => 
          o_yes hA rfl rfl hc20 <| ?_
        obtain ⟨_, hsl3⟩ := Slc.sv hx0.2.2.1
        refine stp hA (r_slen Tryd.underlying30 hsl3 hA rfl) rfl fun a hA => 
          o_yes hA rfl rfl hc20 <| 
          stp hA (r_eql hA rfl rfl) rfl fun a hA => 
          stp hA (r_pick_f hA rfl hc20 rfl) rfl fun a hA => 
          stm hA rfl rfl fun a hA => ?_
        rcases Bool.eq_false_or_eq_true (decide ((x0.Outs.length : Int) = 0)) with hc3 | hc3
        · have hc30 := hc3; obtain ⟨hc3, H⟩ := dT H hc3
          refine o_no hA rfl rfl (by rw [hc30]; simp [vb]) rfl fun a hA => 
            o_no hA rfl rfl (by rw [hc30]; simp [vb]) rfl fun a hA => 
            o_no hA rfl rfl (by rw [hc30]; simp [vb]) rfl fun a hA => 
            o_no hA rfl rfl (by rw [hc30]; simp [vb]) rfl fun a hA => 
            stp hA (r_pick_t hA rfl hc30 rfl) rfl fun a hA => 
            sta hA rfl rfl fun a hA => ?_
          refine o_nil ?_
          cases sJ H
          exact ⟨hA.sub ⟨rfl, rfl, rfl, trivial⟩, hI⟩
        · have hc30 := hc3; obtain ⟨hc3, H⟩ := dF H hc3
          refine o_yes hA rfl rfl hc30 <| 
            stp hA (r_fd (k := 2) Tryd.underlying32 rfl sz30 hA rfl rfl) rfl fun a hA => 
            o_yes hA rfl rfl hc30 <| 
            stp hA (r_ld1 (j := 0) [[.int .u32 x0.Version], [u0_0]] [[.int .u32 x0.Time]] Tryd.underlying30 rfl hI rfl hA rfl rfl) rfl fun a hA => 
            o_yes hA rfl rfl hc30 <| ?_
          obtain ⟨_, hsl4⟩ := Slc.sv hx0.2.2.1
          refine stp hA (r_slen Tryd.underlying30 hsl4 hA rfl) rfl fun a hA => 
            o_yes hA rfl rfl hc30 <| 
            stp hA (r_gtr hA rfl rfl) rfl fun a hA => 
            stp hA (r_pick_f hA rfl hc30 rfl) rfl fun a hA => 
            sta hA rfl rfl fun a hA => ?_
          refine o_nil ?_
          cases sJ H
          exact ⟨hA.sub ⟨rfl, rfl, rfl, trivial⟩, hI⟩
  · rintro a w ⟨hA, hI⟩
    have H := Hk1
    refine w_cond hA rfl (fun hc4 => ?_) (fun hc4 => ?_)
    · have H := bT H hc4
      refine w_seq fun _ hN3 => w_reg <| stp hA (r_ldG Tryd.underlying47 rfl hI.agr he0 hA) rfl fun a hA => 
        sta hA rfl rfl fun a hA => ?_
      refine o_nil <| hN3 _ _ <| w_ret ?_
      obtain rfl := sJ H
      exact ret1 hA Tryd.results31 rfl ⟨_, rfl, e0, μ, rfl, he0, (hI.sl [] rfl)⟩
    · have hc4 := ft hc4; have H := bF H hc4
      refine w_seq fun _ hN4 => w_reg <| stp hA (r_ldA (j := 0) [] [[.int .u32 x0.Version], [u0_0], [u0_1], [.int .u32 x0.Time]] [] Tryd.underlying32 rfl sz32 rfl hI rfl hA rfl rfl) rfl fun a hA => ?_
      obtain ⟨r1, hr1, H⟩ := bB H
      refine o_callp (u := .int .i64 r1) cf45 hA rfl hI (tx_Size.c μ _ hI.agr x0 u0_0 u0_1 ⟨hx0.1, hx0.2.1, hx0.2.2.1, hx0.2.2.2⟩ r1 hr1) rfl fun a w hz2 hI hA => 
        stp hA (r_gtr hA rfl rfl) rfl fun a hA => 
        sta hA rfl rfl fun a hA => ?_
      refine o_nil <| hN4 _ _ <| w_cond hA rfl (fun hc5 => ?_) (fun hc5 => ?_)
      · obtain ⟨hc5, H⟩ := dT H hc5
        refine w_seq fun _ hN5 => w_reg <| stp hA (r_ldG Tryd.underlying47 rfl hI.agr he1 hA) rfl fun a hA => 
          sta hA rfl rfl fun a hA => ?_
        refine o_nil <| hN5 _ _ <| w_ret ?_
        obtain rfl := sJ H
        exact ret1 hA Tryd.results31 rfl ⟨_, rfl, e1, μ, rfl, he1, (hI.sl [] rfl)⟩
      · obtain ⟨hc5, H⟩ := dF H hc5
        refine w_seq fun _ hN6 => w_reg <| stp hA (r_fd (k := 1) Tryd.underlying32 rfl sz29 hA rfl rfl) rfl fun a hA => 
          stp hA (r_ld1 (j := 0) [[.int .u32 x0.Version]] [[u0_1], [.int .u32 x0.Time]] Tryd.underlying29 rfl hI rfl hA rfl rfl) rfl fun a hA => ?_
        obtain ⟨r2, hr2, H⟩ := bB H
        refine o_callp (u := .bool r2) cf46 hA rfl hI (slices_ContainsFunc_api_In_api_In_at_tx_Check_1.c μ _ hI.agr x0.Ins u0_0 hx0.2.1 r2 hr2) rfl fun a w hz3 hI hA => 
          sta hA rfl rfl fun a hA => ?_
        refine o_nil <| hN6 _ _ <| w_cond hA rfl (fun hc6 => ?_) (fun hc6 => ?_)
        · have H := bT H hc6
          refine w_seq fun _ hN7 => w_reg <| stp hA (r_ldG Tryd.underlying47 rfl hI.agr he6 hA) rfl fun a hA => 
            sta hA rfl rfl fun a hA => ?_
          refine o_nil <| hN7 _ _ <| w_ret ?_
          obtain rfl := sJ H
          exact ret1 hA Tryd.results31 rfl ⟨_, rfl, e6, μ, rfl, he6, (hI.sl [] rfl)⟩
        · have hc6 := ft hc6; have H := bF H hc6
          refine w_skip <| hN2 _ _ <| w_seq fun _ hN8 => w_seq fun _ hN9 => w_reg <| stp hA (r_ldA (j := 0) [] [[.int .u32 x0.Version], [u0_0], [u0_1], [.int .u32 x0.Time]] [] Tryd.underlying32 rfl sz32 rfl hI rfl hA rfl rfl) rfl fun a hA => ?_
          obtain ⟨r3, hr3, H⟩ := bB H
          refine o_callp (u := .tuple #[.int .u64 r3.1, .bool r3.2]) cf48 hA rfl hI (tx_Sum.c μ _ hI.agr x0 u0_0 u0_1 ⟨hx0.1, hx0.2.1, hx0.2.2.1, hx0.2.2.2⟩ r3 hr3) rfl fun a w hz4 hI hA => 
            stm hA rfl rfl fun a hA => 
            stp hA (r_extr (vs := [.int .u64 r3.1, .bool r3.2]) hA rfl rfl) rfl fun a hA => 
            stp hA (r_extr (vs := [.int .u64 r3.1, .bool r3.2]) hA rfl rfl) rfl fun a hA => 
            sta hA rfl rfl fun a hA => 
            sta hA rfl rfl fun a hA => ?_
          refine o_nil <| hN9 _ _ <| w_seq fun _ hN10 => w_reg <| stm hA rfl rfl fun a hA => 
            stp hA (r_not hA rfl) rfl fun a hA => ?_
          refine o_nil <| hN10 _ _ <| w_cond hA rfl (fun hc7 => ?_) (fun hc7 => ?_)
          · have hc7 := nT hc7; have hc7 := ft hc7; have H := bF H hc7
            refine w_seq fun _ hN11 => w_reg <| stp hA (r_ldG Tryd.underlying47 rfl hI.agr he7 hA) rfl fun a hA => 
              sta hA rfl rfl fun a hA => ?_
            refine o_nil <| hN11 _ _ <| w_ret ?_
            obtain rfl := sJ H
            exact ret1 hA Tryd.results31 rfl ⟨_, rfl, e7, μ, rfl, he7, (hI.sl [] rfl)⟩
          · have hc7 := nF hc7; have H := bT H hc7
            refine w_skip <| hN8 _ _ <| w_seq fun _ hN12 => w_seq fun _ hN13 => w_reg <| stp hA (r_ldA (j := 0) [] [[.int .u32 x0.Version], [u0_0], [u0_1], [.int .u32 x0.Time]] [] Tryd.underlying32 rfl sz32 rfl hI rfl hA rfl rfl) rfl fun a hA => ?_
            obtain ⟨r4, hr4, H⟩ := bB H
            refine o_callp (u := .bool r4) cf49 hA rfl hI (tx_twice.c μ _ hI.agr x0 u0_0 u0_1 ⟨hx0.1, hx0.2.1, hx0.2.2.1, hx0.2.2.2⟩ r4 hr4) rfl fun a w hz5 hI hA => ?_
            refine o_nil <| hN13 _ _ <| w_cond hA rfl (fun hc8 => ?_) (fun hc8 => ?_)
            · have H := bT H hc8
              refine w_seq fun _ hN14 => w_reg <| stp hA (r_ldG Tryd.underlying47 rfl hI.agr he2 hA) rfl fun a hA => 
                sta hA rfl rfl fun a hA => ?_
              refine o_nil <| hN14 _ _ <| w_ret ?_
              obtain rfl := sJ H
              exact ret1 hA Tryd.results31 rfl ⟨_, rfl, e2, μ, rfl, he2, (hI.sl [] rfl)⟩
            · have hc8 := ft hc8; have H := bF H hc8
              refine w_skip <| hN12 _ _ <| w_seq fun _ hN15 => w_reg <| stp hA (r_ldA (j := 0) [] [[.int .u32 x0.Version], [u0_0], [u0_1], [.int .u32 x0.Time]] [] Tryd.underlying32 rfl sz32 rfl hI rfl hA rfl rfl) rfl fun a hA => ?_
              obtain ⟨r5, hr5, H⟩ := bB H
              refine o_call _ cf50 hA rfl (tx_base.c μ _ hI.agr x0 u0_0 u0_1 ⟨hx0.1, hx0.2.1, hx0.2.2.1, hx0.2.2.2⟩ e5 he5 r5 hr5) rfl fun v1 a w hz6 hA => ?_
              obtain ⟨_, μ1, rfl, hS1, hi1⟩ := hz6
              have hI := hI.call hi1
              refine sta hA rfl rfl fun a hA => ?_
              refine o_nil <| hN15 _ _ <| w_ret ?_
              obtain rfl := sJ H
              exact ret1 hA Tryd.results31 rfl ⟨_, rfl, v1, μ1, rfl, hS1, (hI.sl [] rfl)⟩
set_option maxRecDepth 20000 in
theorem sargassoref1_First.c (μ : Store) (w0 : World) (hμ : Agr μ w0) (x0 : Int) (hx0 : InR .i64 x0) (x1 : Int) (hx1 : InR .u64 x1) (x2 : List Int) (hx2 : Arr .u8 32 x2) (x3 : List Int) (u3 : Value) (hx3 : Slc (RI .u8) 1 μ u3 x3) (r : Tx) (H : sargassoref1_First.f x0 x1 x2 x3 = some r) :
    Calls Tryd.prog 6 [.int .i64 x0, .int .u64 x1, .agg [av .u8 32 x2].flatten.toArray, u3].toArray w0 (fun e w' => ∃ v, e = .returned v ∧ ∃ (v0_0 : Value) (v0_1 : Value) (μ' : Store), v = .agg [[.int .u32 r.Version], [v0_0], [v0_1], [.int .u32 r.Time]].flatten.toArray ∧ TxW μ' r v0_0 v0_1 ∧ Iv w0 [] μ μ' [] w') := by
  refine enter Tryd.func6 rfl Tryd.ntmps6 rfl fun a hA => ?_
  have hI := Iv.start hμ
  have H := bI H
  refine w_seq fun _ hN1 => w_reg <| o_box [av .u8 32 x2] hI hA rfl rfl rfl fun g1 a w hA hI hg1 => 
    o_new [[.int .u32 0], [(.slice none 0 0)], [(.slice none 0 0)], [.int .u32 0]] zr32 hI hA rfl fun g2 a w hA hI hg2 => ?_
  refine o_nil <| hN1 _ _ <| w_seq fun _ hN2 => w_reg <| stm hA rfl rfl fun a hA => 
    stp hA (r_conv Tryd.underlying3 Tryd.underlying24 hA rfl) rfl fun a hA => ?_
  have hI := hI.nilRow 5 1
  obtain ⟨r1, hr1, H⟩ := bB H
  refine o_call _ cf14 hA rfl (sargassoref1_Four.c μ _ hI.agr ([] : List Int) (.slice none 0 0) ([]) (Els.nil (RE := (RI .u8)) (sz := 1)) (hI.item (j := 0) rfl) (IntKind.u32.wrap x0) (wrap_in _ _) r1 hr1) rfl fun v1 a w hz1 hA => ?_
  obtain ⟨_, cs1, rfl, hE1, hi1⟩ := hz1
  have hI := hI.call1 0 rfl hi1
  refine stm hA rfl rfl fun a hA => ?_
  obtain ⟨cs2, hE2, hsv1⟩ : Slc (RI .u8) 1 μ u3 x3 := id (hx3)
  obtain ⟨hb1, H⟩ := bG H
  have hE3 := hE1.app hE2
  refine o_appG (xs := (r1 : List Int)) (ys := (x3 : List Int)) (M := 140737488355328) 0 te5 Tryd.underlying40 hI rfl hA rfl rfl (src_sl hI.agr hsv1 hE2.len) hE2.len (hE2.ones (one_RI _)) hb1 rfl fun v2 a w hA hI => 
    sta hA rfl rfl fun a hA => ?_
  refine o_nil <| hN2 _ _ ?_
  obtain ⟨⟨c1, c2, c3, c4⟩, hz2, Hk1⟩ := bB H
  refine w_cut (fun a w => ∃ (μ1 : Store) (vvc1 : Value) (vvc3 : Value) (ccc3 : List Value) (vvc4 : Value) (ccc4 : List Value), μ.le μ1 ∧ Slc (RI .u8) 1 μ1 vvc1 c1 ∧ InR .u32 c2 ∧ Els (RIn μ1) 35 c3 ccc3 ∧ Els (ROut μ1) 33 c4 ccc4 ∧ Fr a 24 [(8, .pointer (some ⟨g2, 0, none⟩)), (9, vvc1)] ∧ Iv w0 [] μ μ1 [row 42 35 vvc3 c3.length ccc3, row 44 33 vvc4 c4.length ccc4, cel g2 [[.int .u32 c2], [vvc3], [vvc4], [.int .u32 0]] 32, cel g1 [av .u8 32 x2] 26] w) ?_ ?_
  · have H := bI hz2
    refine w_anyS [] mo (fun w (h : Iv w0 [] μ μ [row 5 1 v2 (r1 ++ x3).length (cs1 ++ cs2), cel g2 [[.int .u32 0], [(.slice none 0 0)], [(.slice none 0 0)], [.int .u32 0]] 32, cel g1 [av .u8 32 x2] 26] w) => (h.sl [0, 2] rfl : Iv w0 [] μ μ [row 5 1 v2 (r1 ++ x3).length (cs1 ++ cs2), cel g1 [av .u8 32 x2] 26] w)) hI fun w hI => ?_
    refine gE 1 hA rfl (.inr (hI.sl [0, 2] rfl)) (fun _ => r_mv hA rfl) fun a hA => ?_
    refine gE 4 hA rfl (.inr (hI.sl [0, 2] rfl)) (fun _ => r_mv hA rfl) fun a hA => ?_
    refine gT 5 hA rfl (hI.sl [0, 2] rfl) (fun w hI => r_ldA (j := 1) [] [av .u8 32 x2] [] Tryd.underlying26 rfl sz26 rfl hI rfl hA rfl rfl) fun a hA => ?_
    refine g_fork (i := 0) (is := [6]) (by kernel_rfl) (List.forall_mem_cons.2 ⟨⟨_, rfl, ?_⟩, (List.forall_mem_cons.2 ⟨⟨_, rfl, ?_⟩, List.forall_mem_nil _⟩)⟩)
    · skip
      obtain ⟨r2, hr2, H⟩ := bB H
      refine o_callp (u := .agg [av .u8 32 r2.Tx, [.int .u32 r2.N]].flatten.toArray) cf15 hA rfl hI (sargassoref1_Null.c μ _ hI.agr  r2 hr2) rfl fun a w hz3 hI hA => ?_
      refine o_nil <| ⟨(.inr (hI.sl [0, 2] rfl)), ?_⟩
      refine g_fork (i := 2) (is := [6]) (by kernel_rfl) (List.forall_mem_cons.2 ⟨⟨_, rfl, ?_⟩, (List.forall_mem_cons.2 ⟨⟨_, rfl, ?_⟩, List.forall_mem_nil _⟩)⟩)
      · skip
        refine stp hA (r_bldS (cs := [av .u8 32 r2.Tx, [.int .u32 r2.N], [v2], [.int .u32 4294967295]].flatten.toArray) (pl := [(0, 33), (33, 1), (34, 1)]) zr42 Tryd.underlying42 ⟨rfl, sz39, rfl, sz40, rfl, sz24, trivial⟩ hA rfl ((fill_seg [] [av .u8 32 (List.replicate 32 0), [.int .u32 0]] [av .u8 32 r2.Tx, [.int .u32 r2.N]] [[(.slice none 0 0)], [.int .u32 0]] rfl rfl rfl rfl rfl).trans ((fill_seg [av .u8 32 r2.Tx, [.int .u32 r2.N]] [[(.slice none 0 0)]] [[v2]] [[.int .u32 0]] (own_cell hI (j := 0) rfl) rfl rfl rfl rfl).trans ((fill_seg [av .u8 32 r2.Tx, [.int .u32 r2.N], [v2]] [[.int .u32 0]] [[.int .u32 4294967295]] [] rfl rfl rfl rfl rfl).trans (rfl))))) rfl fun a hA => ?_
        refine o_nil <| ⟨(.inr (hI.sl [0, 2] rfl)), ?_⟩
        refine g_fork (i := 3) (is := [6]) (by kernel_rfl) (List.forall_mem_cons.2 ⟨⟨_, rfl, ?_⟩, (List.forall_mem_cons.2 ⟨⟨_, rfl, ?_⟩, List.forall_mem_nil _⟩)⟩)
        · skip
          obtain ⟨μ2, hle2, hsv2, hI, hth1⟩ := hI.freezeRowT 0 rfl
          have hS1 : Slc (RI .u8) 1 μ2 v2 (r1 ++ x3) := ⟨_, hE3, hsv2⟩
          have hE4 : Els (RIn μ2) 35 ([(⟨r2, r1 ++ x3, 4294967295⟩ : In)] : List In) _ := (Els.cons (c := [av .u8 32 r2.Tx, [.int .u32 r2.N], [v2], [.int .u32 4294967295]].flatten) ⟨v2, rfl, ⟨hz3.1, hz3.2, hS1, (in_lit .u32 4294967295 rfl)⟩⟩ rfl Els.nil)
          refine o_bsl ([av .u8 32 r2.Tx, [.int .u32 r2.N], [v2], [.int .u32 4294967295]].flatten ++ ([])) te42 zr42 Tryd.underlying29 hI hA rfl rfl rfl rfl (by kernel_rfl) rfl fun g3 a w hA hI => ?_
          generalize hcs : ([av .u8 32 r2.Tx, [.int .u32 r2.N], [v2], [.int .u32 4294967295]].flatten ++ ([]) : List Value) = cs4 at hE4 hI
          clear hcs
          refine o_nil <| ⟨(.inr ((hth1 _ _ hI).sl [0, 3] rfl)), ?_⟩
          refine gF 6 rfl ?_
          refine stp hA (r_bldS (cs := [[.int .u64 x1], av .u8 32 x2].flatten.toArray) (pl := [(0, 1), (1, 32)]) zr44 Tryd.underlying44 ⟨rfl, sz34, rfl, sz26, trivial⟩ hA rfl (by kernel_rfl)) rfl fun a hA => ?_
          refine o_nil <| ⟨(.inr ((hth1 _ _ hI).sl [0, 3] rfl)), ?_⟩
          refine gF 7 rfl ?_
          have hE5 : Els (ROut μ2) 33 ([(⟨x1, x2⟩ : Out)] : List Out) _ := (Els.cons (c := [[.int .u64 x1], av .u8 32 x2].flatten) ⟨rfl, ⟨hx1, hx2⟩⟩ rfl Els.nil)
          refine o_bsl ([[.int .u64 x1], av .u8 32 x2].flatten ++ ([])) te44 zr44 Tryd.underlying30 hI hA rfl rfl rfl rfl (by kernel_rfl) rfl fun g4 a w hA hI => ?_
          generalize hcs : ([[.int .u64 x1], av .u8 32 x2].flatten ++ ([]) : List Value) = cs5 at hE5 hI
          clear hcs
          refine o_nil <| ⟨(.inr ((hth1 _ _ hI).sl [0, 4] rfl)), ?_⟩
          refine gF 8 rfl ?_
          refine stp hA (r_bldS (cs := [[.int .u32 1], [(.slice (some ⟨g3, 0, none⟩) 1 1)], [(.slice (some ⟨g4, 0, none⟩) 1 1)], [.int .u32 0]].flatten.toArray) (pl := [(0, 1), (1, 1), (2, 1), (3, 1)]) zr32 Tryd.underlying32 ⟨rfl, sz24, rfl, sz29, rfl, sz30, rfl, sz24, trivial⟩ hA rfl ((fill_one rfl rfl (by kernel_rfl)).trans ((fill_one (own_cell hI (j := 1) rfl) rfl (by kernel_rfl)).trans ((fill_one (own_cell hI (j := 0) rfl) rfl (by kernel_rfl)).trans (by kernel_rfl))))) rfl fun a hA => ?_
          refine o_nil <| ⟨(.inr ((hth1 _ _ hI).sl [0, 4] rfl)), ?_⟩
          refine gF 9 rfl ?_
          refine o_st (j := 2) [] [[.int .u32 0], [(.slice none 0 0)], [(.slice none 0 0)], [.int .u32 0]] [[.int .u32 1], [(.slice (some ⟨g3, 0, none⟩) 1 1)], [(.slice (some ⟨g4, 0, none⟩) 1 1)], [.int .u32 0]] [] sz32 rfl rfl (fl_cons (oneC rfl) (fl_cons (oneC (own_one hI (j := 1) rfl)) (fl_cons (oneC (own_one hI (j := 0) rfl)) (fl_cons (oneC rfl) fl_nil)))) hI rfl hA rfl rfl rfl rfl fun w hI => ?_
          refine o_nil <| ⟨(.inr ((hth1 _ _ hI).sl [0, 4] rfl)), ?_⟩
          refine gN ?_
          cases sJ H
          exact ⟨μ2, v2, (.slice (some ⟨g3, 0, none⟩) 1 1), cs4, (.slice (some ⟨g4, 0, none⟩) 1 1), cs5, hle2, hS1, (in_lit .u32 1 rfl), hE4, hE5, hA.sub ⟨rfl, rfl, trivial⟩, (hI.sl [1, 0, 2, 3] rfl)⟩
        · skip
          refine stp hA (r_bldS (cs := [[.int .u64 x1], av .u8 32 x2].flatten.toArray) (pl := [(0, 1), (1, 32)]) zr44 Tryd.underlying44 ⟨rfl, sz34, rfl, sz26, trivial⟩ hA rfl (by kernel_rfl)) rfl fun a hA => ?_
          refine o_nil <| ⟨(.inr (hI.sl [0, 2] rfl)), ?_⟩
          refine g_fork (i := 3) (is := [7]) (by kernel_rfl) (List.forall_mem_cons.2 ⟨⟨_, rfl, ?_⟩, (List.forall_mem_cons.2 ⟨⟨_, rfl, ?_⟩, List.forall_mem_nil _⟩)⟩)
          · skip
            obtain ⟨μ2, hle2, hsv2, hI, hth1⟩ := hI.freezeRowT 0 rfl
            have hS1 : Slc (RI .u8) 1 μ2 v2 (r1 ++ x3) := ⟨_, hE3, hsv2⟩
            have hE4 : Els (RIn μ2) 35 ([(⟨r2, r1 ++ x3, 4294967295⟩ : In)] : List In) _ := (Els.cons (c := [av .u8 32 r2.Tx, [.int .u32 r2.N], [v2], [.int .u32 4294967295]].flatten) ⟨v2, rfl, ⟨hz3.1, hz3.2, hS1, (in_lit .u32 4294967295 rfl)⟩⟩ rfl Els.nil)
            refine o_bsl ([av .u8 32 r2.Tx, [.int .u32 r2.N], [v2], [.int .u32 4294967295]].flatten ++ ([])) te42 zr42 Tryd.underlying29 hI hA rfl rfl rfl rfl (by kernel_rfl) rfl fun g3 a w hA hI => ?_
            generalize hcs : ([av .u8 32 r2.Tx, [.int .u32 r2.N], [v2], [.int .u32 4294967295]].flatten ++ ([]) : List Value) = cs4 at hE4 hI
            clear hcs
            refine o_nil <| ⟨(.inr ((hth1 _ _ hI).sl [0, 3] rfl)), ?_⟩
            refine gF 7 rfl ?_
            have hE5 : Els (ROut μ2) 33 ([(⟨x1, x2⟩ : Out)] : List Out) _ := (Els.cons (c := [[.int .u64 x1], av .u8 32 x2].flatten) ⟨rfl, ⟨hx1, hx2⟩⟩ rfl Els.nil)
            refine o_bsl ([[.int .u64 x1], av .u8 32 x2].flatten ++ ([])) te44 zr44 Tryd.underlying30 hI hA rfl rfl rfl rfl (by kernel_rfl) rfl fun g4 a w hA hI => ?_
            generalize hcs : ([[.int .u64 x1], av .u8 32 x2].flatten ++ ([]) : List Value) = cs5 at hE5 hI
            clear hcs
            refine o_nil <| ⟨(.inr ((hth1 _ _ hI).sl [0, 4] rfl)), ?_⟩
            refine gF 8 rfl ?_
            refine stp hA (r_bldS (cs := [[.int .u32 1], [(.slice (some ⟨g3, 0, none⟩) 1 1)], [(.slice (some ⟨g4, 0, none⟩) 1 1)], [.int .u32 0]].flatten.toArray) (pl := [(0, 1), (1, 1), (2, 1), (3, 1)]) zr32 Tryd.underlying32 ⟨rfl, sz24, rfl, sz29, rfl, sz30, rfl, sz24, trivial⟩ hA rfl ((fill_one rfl rfl (by kernel_rfl)).trans ((fill_one (own_cell hI (j := 1) rfl) rfl (by kernel_rfl)).trans ((fill_one (own_cell hI (j := 0) rfl) rfl (by kernel_rfl)).trans (by kernel_rfl))))) rfl fun a hA => ?_
            refine o_nil <| ⟨(.inr ((hth1 _ _ hI).sl [0, 4] rfl)), ?_⟩
            refine gF 9 rfl ?_
            refine o_st (j := 2) [] [[.int .u32 0], [(.slice none 0 0)], [(.slice none 0 0)], [.int .u32 0]] [[.int .u32 1], [(.slice (some ⟨g3, 0, none⟩) 1 1)], [(.slice (some ⟨g4, 0, none⟩) 1 1)], [.int .u32 0]] [] sz32 rfl rfl (fl_cons (oneC rfl) (fl_cons (oneC (own_one hI (j := 1) rfl)) (fl_cons (oneC (own_one hI (j := 0) rfl)) (fl_cons (oneC rfl) fl_nil)))) hI rfl hA rfl rfl rfl rfl fun w hI => ?_
            refine o_nil <| ⟨(.inr ((hth1 _ _ hI).sl [0, 4] rfl)), ?_⟩
            refine gN ?_
            cases sJ H
            exact ⟨μ2, v2, (.slice (some ⟨g3, 0, none⟩) 1 1), cs4, (.slice (some ⟨g4, 0, none⟩) 1 1), cs5, hle2, hS1, (in_lit .u32 1 rfl), hE4, hE5, hA.sub ⟨rfl, rfl, trivial⟩, (hI.sl [1, 0, 2, 3] rfl)⟩
          · skip
            have hE4 : Els (ROut μ) 33 ([(⟨x1, x2⟩ : Out)] : List Out) _ := (Els.cons (c := [[.int .u64 x1], av .u8 32 x2].flatten) ⟨rfl, ⟨hx1, hx2⟩⟩ rfl Els.nil)
            refine o_bsl ([[.int .u64 x1], av .u8 32 x2].flatten ++ ([])) te44 zr44 Tryd.underlying30 hI hA rfl rfl rfl rfl (by kernel_rfl) rfl fun g3 a w hA hI => ?_
            generalize hcs : ([[.int .u64 x1], av .u8 32 x2].flatten ++ ([]) : List Value) = cs4 at hE4 hI
            clear hcs
            refine o_nil <| ⟨(.inr (hI.sl [1, 3] rfl)), ?_⟩
            refine gF 3 rfl ?_
            obtain ⟨μ2, hle2, hsv2, hI, hth1⟩ := hI.freezeRowT 1 rfl
            have hS1 : Slc (RI .u8) 1 μ2 v2 (r1 ++ x3) := ⟨_, hE3, hsv2⟩
            have hE5 : Els (RIn μ2) 35 ([(⟨r2, r1 ++ x3, 4294967295⟩ : In)] : List In) _ := (Els.cons (c := [av .u8 32 r2.Tx, [.int .u32 r2.N], [v2], [.int .u32 4294967295]].flatten) ⟨v2, rfl, ⟨hz3.1, hz3.2, hS1, (in_lit .u32 4294967295 rfl)⟩⟩ rfl Els.nil)
            refine o_bsl ([av .u8 32 r2.Tx, [.int .u32 r2.N], [v2], [.int .u32 4294967295]].flatten ++ ([])) te42 zr42 Tryd.underlying29 hI hA rfl rfl rfl rfl (by kernel_rfl) rfl fun g4 a w hA hI => ?_
            generalize hcs : ([av .u8 32 r2.Tx, [.int .u32 r2.N], [v2], [.int .u32 4294967295]].flatten ++ ([]) : List Value) = cs5 at hE5 hI
            clear hcs
            refine o_nil <| ⟨(.inr ((hth1 _ _ hI).sl [0, 4] rfl)), ?_⟩
            refine gF 8 rfl ?_
            refine stp hA (r_bldS (cs := [[.int .u32 1], [(.slice (some ⟨g4, 0, none⟩) 1 1)], [(.slice (some ⟨g3, 0, none⟩) 1 1)], [.int .u32 0]].flatten.toArray) (pl := [(0, 1), (1, 1), (2, 1), (3, 1)]) zr32 Tryd.underlying32 ⟨rfl, sz24, rfl, sz29, rfl, sz30, rfl, sz24, trivial⟩ hA rfl ((fill_one rfl rfl (by kernel_rfl)).trans ((fill_one (own_cell hI (j := 0) rfl) rfl (by kernel_rfl)).trans ((fill_one (own_cell hI (j := 1) rfl) rfl (by kernel_rfl)).trans (by kernel_rfl))))) rfl fun a hA => ?_
            refine o_nil <| ⟨(.inr ((hth1 _ _ hI).sl [0, 4] rfl)), ?_⟩
            refine gF 9 rfl ?_
            refine o_st (j := 2) [] [[.int .u32 0], [(.slice none 0 0)], [(.slice none 0 0)], [.int .u32 0]] [[.int .u32 1], [(.slice (some ⟨g4, 0, none⟩) 1 1)], [(.slice (some ⟨g3, 0, none⟩) 1 1)], [.int .u32 0]] [] sz32 rfl rfl (fl_cons (oneC rfl) (fl_cons (oneC (own_one hI (j := 0) rfl)) (fl_cons (oneC (own_one hI (j := 1) rfl)) (fl_cons (oneC rfl) fl_nil)))) hI rfl hA rfl rfl rfl rfl fun w hI => ?_
            refine o_nil <| ⟨(.inr ((hth1 _ _ hI).sl [0, 4] rfl)), ?_⟩
            refine gN ?_
            cases sJ H
            exact ⟨μ2, v2, (.slice (some ⟨g4, 0, none⟩) 1 1), cs5, (.slice (some ⟨g3, 0, none⟩) 1 1), cs4, hle2, hS1, (in_lit .u32 1 rfl), hE5, hE4, hA.sub ⟨rfl, rfl, trivial⟩, hI⟩
      · skip
        refine stp hA (r_bldS (cs := [[.int .u64 x1], av .u8 32 x2].flatten.toArray) (pl := [(0, 1), (1, 32)]) zr44 Tryd.underlying44 ⟨rfl, sz34, rfl, sz26, trivial⟩ hA rfl (by kernel_rfl)) rfl fun a hA => ?_
        refine o_nil <| ⟨(.inr (hI.sl [0, 2] rfl)), ?_⟩
        refine g_fork (i := 2) (is := [7]) (by kernel_rfl) (List.forall_mem_cons.2 ⟨⟨_, rfl, ?_⟩, (List.forall_mem_cons.2 ⟨⟨_, rfl, ?_⟩, List.forall_mem_nil _⟩)⟩)
        · skip
          refine stp hA (r_bldS (cs := [av .u8 32 r2.Tx, [.int .u32 r2.N], [v2], [.int .u32 4294967295]].flatten.toArray) (pl := [(0, 33), (33, 1), (34, 1)]) zr42 Tryd.underlying42 ⟨rfl, sz39, rfl, sz40, rfl, sz24, trivial⟩ hA rfl ((fill_seg [] [av .u8 32 (List.replicate 32 0), [.int .u32 0]] [av .u8 32 r2.Tx, [.int .u32 r2.N]] [[(.slice none 0 0)], [.int .u32 0]] rfl rfl rfl rfl rfl).trans ((fill_seg [av .u8 32 r2.Tx, [.int .u32 r2.N]] [[(.slice none 0 0)]] [[v2]] [[.int .u32 0]] (own_cell hI (j := 0) rfl) rfl rfl rfl rfl).trans ((fill_seg [av .u8 32 r2.Tx, [.int .u32 r2.N], [v2]] [[.int .u32 0]] [[.int .u32 4294967295]] [] rfl rfl rfl rfl rfl).trans (rfl))))) rfl fun a hA => ?_
          refine o_nil <| ⟨(.inr (hI.sl [0, 2] rfl)), ?_⟩
          refine g_fork (i := 3) (is := [7]) (by kernel_rfl) (List.forall_mem_cons.2 ⟨⟨_, rfl, ?_⟩, (List.forall_mem_cons.2 ⟨⟨_, rfl, ?_⟩, List.forall_mem_nil _⟩)⟩)
          · skip
            obtain ⟨μ2, hle2, hsv2, hI, hth1⟩ := hI.freezeRowT 0 rfl
            have hS1 : Slc (RI .u8) 1 μ2 v2 (r1 ++ x3) := ⟨_, hE3, hsv2⟩
            have hE4 : Els (RIn μ2) 35 ([(⟨r2, r1 ++ x3, 4294967295⟩ : In)] : List In) _ := (Els.cons (c := [av .u8 32 r2.Tx, [.int .u32 r2.N], [v2], [.int .u32 4294967295]].flatten) ⟨v2, rfl, ⟨hz3.1, hz3.2, hS1, (in_lit .u32 4294967295 rfl)⟩⟩ rfl Els.nil)
            refine o_bsl ([av .u8 32 r2.Tx, [.int .u32 r2.N], [v2], [.int .u32 4294967295]].flatten ++ ([])) te42 zr42 Tryd.underlying29 hI hA rfl rfl rfl rfl (by kernel_rfl) rfl fun g3 a w hA hI => ?_
            generalize hcs : ([av .u8 32 r2.Tx, [.int .u32 r2.N], [v2], [.int .u32 4294967295]].flatten ++ ([]) : List Value) = cs4 at hE4 hI
            clear hcs
            refine o_nil <| ⟨(.inr ((hth1 _ _ hI).sl [0, 3] rfl)), ?_⟩
            refine gF 7 rfl ?_
            have hE5 : Els (ROut μ2) 33 ([(⟨x1, x2⟩ : Out)] : List Out) _ := (Els.cons (c := [[.int .u64 x1], av .u8 32 x2].flatten) ⟨rfl, ⟨hx1, hx2⟩⟩ rfl Els.nil)
            refine o_bsl ([[.int .u64 x1], av .u8 32 x2].flatten ++ ([])) te44 zr44 Tryd.underlying30 hI hA rfl rfl rfl rfl (by kernel_rfl) rfl fun g4 a w hA hI => ?_
            generalize hcs : ([[.int .u64 x1], av .u8 32 x2].flatten ++ ([]) : List Value) = cs5 at hE5 hI
            clear hcs
            refine o_nil <| ⟨(.inr ((hth1 _ _ hI).sl [0, 4] rfl)), ?_⟩
            refine gF 8 rfl ?_
            refine stp hA (r_bldS (cs := [[.int .u32 1], [(.slice (some ⟨g3, 0, none⟩) 1 1)], [(.slice (some ⟨g4, 0, none⟩) 1 1)], [.int .u32 0]].flatten.toArray) (pl := [(0, 1), (1, 1), (2, 1), (3, 1)]) zr32 Tryd.underlying32 ⟨rfl, sz24, rfl, sz29, rfl, sz30, rfl, sz24, trivial⟩ hA rfl ((fill_one rfl rfl (by kernel_rfl)).trans ((fill_one (own_cell hI (j := 1) rfl) rfl (by kernel_rfl)).trans ((fill_one (own_cell hI (j := 0) rfl) rfl (by kernel_rfl)).trans (by kernel_rfl))))) rfl fun a hA => ?_
            refine o_nil <| ⟨(.inr ((hth1 _ _ hI).sl [0, 4] rfl)), ?_⟩
            refine gF 9 rfl ?_
            refine o_st (j := 2) [] [[.int .u32 0], [(.slice none 0 0)], [(.slice none 0 0)], [.int .u32 0]] [[.int .u32 1], [(.slice (some ⟨g3, 0, none⟩) 1 1)], [(.slice (some ⟨g4, 0, none⟩) 1 1)], [.int .u32 0]] [] sz32 rfl rfl (fl_cons (oneC rfl) (fl_cons (oneC (own_one hI (j := 1) rfl)) (fl_cons (oneC (own_one hI (j := 0) rfl)) (fl_cons (oneC rfl) fl_nil)))) hI rfl hA rfl rfl rfl rfl fun w hI => ?_
            refine o_nil <| ⟨(.inr ((hth1 _ _ hI).sl [0, 4] rfl)), ?_⟩
            refine gN ?_
            cases sJ H
            exact ⟨μ2, v2, (.slice (some ⟨g3, 0, none⟩) 1 1), cs4, (.slice (some ⟨g4, 0, none⟩) 1 1), cs5, hle2, hS1, (in_lit .u32 1 rfl), hE4, hE5, hA.sub ⟨rfl, rfl, trivial⟩, (hI.sl [1, 0, 2, 3] rfl)⟩
          · skip
            have hE4 : Els (ROut μ) 33 ([(⟨x1, x2⟩ : Out)] : List Out) _ := (Els.cons (c := [[.int .u64 x1], av .u8 32 x2].flatten) ⟨rfl, ⟨hx1, hx2⟩⟩ rfl Els.nil)
            refine o_bsl ([[.int .u64 x1], av .u8 32 x2].flatten ++ ([])) te44 zr44 Tryd.underlying30 hI hA rfl rfl rfl rfl (by kernel_rfl) rfl fun g3 a w hA hI => ?_
            generalize hcs : ([[.int .u64 x1], av .u8 32 x2].flatten ++ ([]) : List Value) = cs4 at hE4 hI
            clear hcs
            refine o_nil <| ⟨(.inr (hI.sl [1, 3] rfl)), ?_⟩
            refine gF 3 rfl ?_
            obtain ⟨μ2, hle2, hsv2, hI, hth1⟩ := hI.freezeRowT 1 rfl
            have hS1 : Slc (RI .u8) 1 μ2 v2 (r1 ++ x3) := ⟨_, hE3, hsv2⟩
            have hE5 : Els (RIn μ2) 35 ([(⟨r2, r1 ++ x3, 4294967295⟩ : In)] : List In) _ := (Els.cons (c := [av .u8 32 r2.Tx, [.int .u32 r2.N], [v2], [.int .u32 4294967295]].flatten) ⟨v2, rfl, ⟨hz3.1, hz3.2, hS1, (in_lit .u32 4294967295 rfl)⟩⟩ rfl Els.nil)
            refine o_bsl ([av .u8 32 r2.Tx, [.int .u32 r2.N], [v2], [.int .u32 4294967295]].flatten ++ ([])) te42 zr42 Tryd.underlying29 hI hA rfl rfl rfl rfl (by kernel_rfl) rfl fun g4 a w hA hI => ?_
            generalize hcs : ([av .u8 32 r2.Tx, [.int .u32 r2.N], [v2], [.int .u32 4294967295]].flatten ++ ([]) : List Value) = cs5 at hE5 hI
            clear hcs
            refine o_nil <| ⟨(.inr ((hth1 _ _ hI).sl [0, 4] rfl)), ?_⟩
            refine gF 8 rfl ?_
            refine stp hA (r_bldS (cs := [[.int .u32 1], [(.slice (some ⟨g4, 0, none⟩) 1 1)], [(.slice (some ⟨g3, 0, none⟩) 1 1)], [.int .u32 0]].flatten.toArray) (pl := [(0, 1), (1, 1), (2, 1), (3, 1)]) zr32 Tryd.underlying32 ⟨rfl, sz24, rfl, sz29, rfl, sz30, rfl, sz24, trivial⟩ hA rfl ((fill_one rfl rfl (by kernel_rfl)).trans ((fill_one (own_cell hI (j := 0) rfl) rfl (by kernel_rfl)).trans ((fill_one (own_cell hI (j := 1) rfl) rfl (by kernel_rfl)).trans (by kernel_rfl))))) rfl fun a hA => ?_
            refine o_nil <| ⟨(.inr ((hth1 _ _ hI).sl [0, 4] rfl)), ?_⟩
            refine gF 9 rfl ?_
            refine o_st (j := 2) [] [[.int .u32 0], [(.slice none 0 0)], [(.slice none 0 0)], [.int .u32 0]] [[.int .u32 1], [(.slice (some ⟨g4, 0, none⟩) 1 1)], [(.slice (some ⟨g3, 0, none⟩) 1 1)], [.int .u32 0]] [] sz32 rfl rfl (fl_cons (oneC rfl) (fl_cons (oneC (own_one hI (j := 0) rfl)) (fl_cons (oneC (own_one hI (j := 1) rfl)) (fl_cons (oneC rfl) fl_nil)))) hI rfl hA rfl rfl rfl rfl fun w hI => ?_
            refine o_nil <| ⟨(.inr ((hth1 _ _ hI).sl [0, 4] rfl)), ?_⟩
            refine gN ?_
            cases sJ H
            exact ⟨μ2, v2, (.slice (some ⟨g4, 0, none⟩) 1 1), cs5, (.slice (some ⟨g3, 0, none⟩) 1 1), cs4, hle2, hS1, (in_lit .u32 1 rfl), hE5, hE4, hA.sub ⟨rfl, rfl, trivial⟩, hI⟩
        · skip
          have hE4 : Els (ROut μ) 33 ([(⟨x1, x2⟩ : Out)] : List Out) _ := (Els.cons (c := [[.int .u64 x1], av .u8 32 x2].flatten) ⟨rfl, ⟨hx1, hx2⟩⟩ rfl Els.nil)
          refine o_bsl ([[.int .u64 x1], av .u8 32 x2].flatten ++ ([])) te44 zr44 Tryd.underlying30 hI hA rfl rfl rfl rfl (by kernel_rfl) rfl fun g3 a w hA hI => ?_
          generalize hcs : ([[.int .u64 x1], av .u8 32 x2].flatten ++ ([]) : List Value) = cs4 at hE4 hI
          clear hcs
          refine o_nil <| ⟨(.inr (hI.sl [1, 3] rfl)), ?_⟩
          refine gF 2 rfl ?_
          refine stp hA (r_bldS (cs := [av .u8 32 r2.Tx, [.int .u32 r2.N], [v2], [.int .u32 4294967295]].flatten.toArray) (pl := [(0, 33), (33, 1), (34, 1)]) zr42 Tryd.underlying42 ⟨rfl, sz39, rfl, sz40, rfl, sz24, trivial⟩ hA rfl ((fill_seg [] [av .u8 32 (List.replicate 32 0), [.int .u32 0]] [av .u8 32 r2.Tx, [.int .u32 r2.N]] [[(.slice none 0 0)], [.int .u32 0]] rfl rfl rfl rfl rfl).trans ((fill_seg [av .u8 32 r2.Tx, [.int .u32 r2.N]] [[(.slice none 0 0)]] [[v2]] [[.int .u32 0]] (own_cell hI (j := 1) rfl) rfl rfl rfl rfl).trans ((fill_seg [av .u8 32 r2.Tx, [.int .u32 r2.N], [v2]] [[.int .u32 0]] [[.int .u32 4294967295]] [] rfl rfl rfl rfl rfl).trans (rfl))))) rfl fun a hA => ?_
          refine o_nil <| ⟨(.inr (hI.sl [1, 3] rfl)), ?_⟩
          refine gF 3 rfl ?_
          obtain ⟨μ2, hle2, hsv2, hI, hth1⟩ := hI.freezeRowT 1 rfl
          have hS1 : Slc (RI .u8) 1 μ2 v2 (r1 ++ x3) := ⟨_, hE3, hsv2⟩
          have hE5 : Els (RIn μ2) 35 ([(⟨r2, r1 ++ x3, 4294967295⟩ : In)] : List In) _ := (Els.cons (c := [av .u8 32 r2.Tx, [.int .u32 r2.N], [v2], [.int .u32 4294967295]].flatten) ⟨v2, rfl, ⟨hz3.1, hz3.2, hS1, (in_lit .u32 4294967295 rfl)⟩⟩ rfl Els.nil)
          refine o_bsl ([av .u8 32 r2.Tx, [.int .u32 r2.N], [v2], [.int .u32 4294967295]].flatten ++ ([])) te42 zr42 Tryd.underlying29 hI hA rfl rfl rfl rfl (by kernel_rfl) rfl fun g4 a w hA hI => ?_
          generalize hcs : ([av .u8 32 r2.Tx, [.int .u32 r2.N], [v2], [.int .u32 4294967295]].flatten ++ ([]) : List Value) = cs5 at hE5 hI
          clear hcs
          refine o_nil <| ⟨(.inr ((hth1 _ _ hI).sl [0, 4] rfl)), ?_⟩
          refine gF 8 rfl ?_
          refine stp hA (r_bldS (cs := [[.int .u32 1], [(.slice (some ⟨g4, 0, none⟩) 1 1)], [(.slice (some ⟨g3, 0, none⟩) 1 1)], [.int .u32 0]].flatten.toArray) (pl := [(0, 1), (1, 1), (2, 1), (3, 1)]) zr32 Tryd.underlying32 ⟨rfl, sz24, rfl, sz29, rfl, sz30, rfl, sz24, trivial⟩ hA rfl ((fill_one rfl rfl (by kernel_rfl)).trans ((fill_one (own_cell hI (j := 0) rfl) rfl (by kernel_rfl)).trans ((fill_one (own_cell hI (j := 1) rfl) rfl (by kernel_rfl)).trans (by kernel_rfl))))) rfl fun a hA => ?_
          refine o_nil <| ⟨(.inr ((hth1 _ _ hI).sl [0, 4] rfl)), ?_⟩
          refine gF 9 rfl ?_
          refine o_st (j := 2) [] [[.int .u32 0], [(.slice none 0 0)], [(.slice none 0 0)], [.int .u32 0]] [[.int .u32 1], [(.slice (some ⟨g4, 0, none⟩) 1 1)], [(.slice (some ⟨g3, 0, none⟩) 1 1)], [.int .u32 0]] [] sz32 rfl rfl (fl_cons (oneC rfl) (fl_cons (oneC (own_one hI (j := 0) rfl)) (fl_cons (oneC (own_one hI (j := 1) rfl)) (fl_cons (oneC rfl) fl_nil)))) hI rfl hA rfl rfl rfl rfl fun w hI => ?_
          refine o_nil <| ⟨(.inr ((hth1 _ _ hI).sl [0, 4] rfl)), ?_⟩
          refine gN ?_
          cases sJ H
          exact ⟨μ2, v2, (.slice (some ⟨g4, 0, none⟩) 1 1), cs5, (.slice (some ⟨g3, 0, none⟩) 1 1), cs4, hle2, hS1, (in_lit .u32 1 rfl), hE5, hE4, hA.sub ⟨rfl, rfl, trivial⟩, hI⟩
    · skip
      refine stp hA (r_bldS (cs := [[.int .u64 x1], av .u8 32 x2].flatten.toArray) (pl := [(0, 1), (1, 32)]) zr44 Tryd.underlying44 ⟨rfl, sz34, rfl, sz26, trivial⟩ hA rfl (by kernel_rfl)) rfl fun a hA => ?_
      refine o_nil <| ⟨(.inr (hI.sl [0, 2] rfl)), ?_⟩
      refine g_fork (i := 0) (is := [7]) (by kernel_rfl) (List.forall_mem_cons.2 ⟨⟨_, rfl, ?_⟩, (List.forall_mem_cons.2 ⟨⟨_, rfl, ?_⟩, List.forall_mem_nil _⟩)⟩)
      · skip
        obtain ⟨r2, hr2, H⟩ := bB H
        refine o_callp (u := .agg [av .u8 32 r2.Tx, [.int .u32 r2.N]].flatten.toArray) cf15 hA rfl hI (sargassoref1_Null.c μ _ hI.agr  r2 hr2) rfl fun a w hz3 hI hA => ?_
        refine o_nil <| ⟨(.inr (hI.sl [0, 2] rfl)), ?_⟩
        refine g_fork (i := 2) (is := [7]) (by kernel_rfl) (List.forall_mem_cons.2 ⟨⟨_, rfl, ?_⟩, (List.forall_mem_cons.2 ⟨⟨_, rfl, ?_⟩, List.forall_mem_nil _⟩)⟩)
        · skip
          refine stp hA (r_bldS (cs := [av .u8 32 r2.Tx, [.int .u32 r2.N], [v2], [.int .u32 4294967295]].flatten.toArray) (pl := [(0, 33), (33, 1), (34, 1)]) zr42 Tryd.underlying42 ⟨rfl, sz39, rfl, sz40, rfl, sz24, trivial⟩ hA rfl ((fill_seg [] [av .u8 32 (List.replicate 32 0), [.int .u32 0]] [av .u8 32 r2.Tx, [.int .u32 r2.N]] [[(.slice none 0 0)], [.int .u32 0]] rfl rfl rfl rfl rfl).trans ((fill_seg [av .u8 32 r2.Tx, [.int .u32 r2.N]] [[(.slice none 0 0)]] [[v2]] [[.int .u32 0]] (own_cell hI (j := 0) rfl) rfl rfl rfl rfl).trans ((fill_seg [av .u8 32 r2.Tx, [.int .u32 r2.N], [v2]] [[.int .u32 0]] [[.int .u32 4294967295]] [] rfl rfl rfl rfl rfl).trans (rfl))))) rfl fun a hA => ?_
          refine o_nil <| ⟨(.inr (hI.sl [0, 2] rfl)), ?_⟩
          refine g_fork (i := 3) (is := [7]) (by kernel_rfl) (List.forall_mem_cons.2 ⟨⟨_, rfl, ?_⟩, (List.forall_mem_cons.2 ⟨⟨_, rfl, ?_⟩, List.forall_mem_nil _⟩)⟩)
          · skip
            obtain ⟨μ2, hle2, hsv2, hI, hth1⟩ := hI.freezeRowT 0 rfl
            have hS1 : Slc (RI .u8) 1 μ2 v2 (r1 ++ x3) := ⟨_, hE3, hsv2⟩
            have hE4 : Els (RIn μ2) 35 ([(⟨r2, r1 ++ x3, 4294967295⟩ : In)] : List In) _ := (Els.cons (c := [av .u8 32 r2.Tx, [.int .u32 r2.N], [v2], [.int .u32 4294967295]].flatten) ⟨v2, rfl, ⟨hz3.1, hz3.2, hS1, (in_lit .u32 4294967295 rfl)⟩⟩ rfl Els.nil)
            refine o_bsl ([av .u8 32 r2.Tx, [.int .u32 r2.N], [v2], [.int .u32 4294967295]].flatten ++ ([])) te42 zr42 Tryd.underlying29 hI hA rfl rfl rfl rfl (by kernel_rfl) rfl fun g3 a w hA hI => ?_
            generalize hcs : ([av .u8 32 r2.Tx, [.int .u32 r2.N], [v2], [.int .u32 4294967295]].flatten ++ ([]) : List Value) = cs4 at hE4 hI
            clear hcs
            refine o_nil <| ⟨(.inr ((hth1 _ _ hI).sl [0, 3] rfl)), ?_⟩
            refine gF 7 rfl ?_
            have hE5 : Els (ROut μ2) 33 ([(⟨x1, x2⟩ : Out)] : List Out) _ := (Els.cons (c := [[.int .u64 x1], av .u8 32 x2].flatten) ⟨rfl, ⟨hx1, hx2⟩⟩ rfl Els.nil)
            refine o_bsl ([[.int .u64 x1], av .u8 32 x2].flatten ++ ([])) te44 zr44 Tryd.underlying30 hI hA rfl rfl rfl rfl (by kernel_rfl) rfl fun g4 a w hA hI => ?_
            generalize hcs : ([[.int .u64 x1], av .u8 32 x2].flatten ++ ([]) : List Value) = cs5 at hE5 hI
            clear hcs
            refine o_nil <| ⟨(.inr ((hth1 _ _ hI).sl [0, 4] rfl)), ?_⟩
            refine gF 8 rfl ?_
            refine stp hA (r_bldS (cs := [[.int .u32 1], [(.slice (some ⟨g3, 0, none⟩) 1 1)], [(.slice (some ⟨g4, 0, none⟩) 1 1)], [.int .u32 0]].flatten.toArray) (pl := [(0, 1), (1, 1), (2, 1), (3, 1)]) zr32 Tryd.underlying32 ⟨rfl, sz24, rfl, sz29, rfl, sz30, rfl, sz24, trivial⟩ hA rfl ((fill_one rfl rfl (by kernel_rfl)).trans ((fill_one (own_cell hI (j := 1) rfl) rfl (by kernel_rfl)).trans ((fill_one (own_cell hI (j := 0) rfl) rfl (by kernel_rfl)).trans (by kernel_rfl))))) rfl fun a hA => ?_
            refine o_nil <| ⟨(.inr ((hth1 _ _ hI).sl [0, 4] rfl)), ?_⟩
            refine gF 9 rfl ?_
            refine o_st (j := 2) [] [[.int .u32 0], [(.slice none 0 0)], [(.slice none 0 0)], [.int .u32 0]] [[.int .u32 1], [(.slice (some ⟨g3, 0, none⟩) 1 1)], [(.slice (some ⟨g4, 0, none⟩) 1 1)], [.int .u32 0]] [] sz32 rfl rfl (fl_cons (oneC rfl) (fl_cons (oneC (own_one hI (j := 1) rfl)) (fl_cons (oneC (own_one hI (j := 0) rfl)) (fl_cons (oneC rfl) fl_nil)))) hI rfl hA rfl rfl rfl rfl fun w hI => ?_
            refine o_nil <| ⟨(.inr ((hth1 _ _ hI).sl [0, 4] rfl)), ?_⟩
            refine gN ?_
            cases sJ H
            exact ⟨μ2, v2, (.slice (some ⟨g3, 0, none⟩) 1 1), cs4, (.slice (some ⟨g4, 0, none⟩) 1 1), cs5, hle2, hS1, (in_lit .u32 1 rfl), hE4, hE5, hA.sub ⟨rfl, rfl, trivial⟩, (hI.sl [1, 0, 2, 3] rfl)⟩
          · skip
            have hE4 : Els (ROut μ) 33 ([(⟨x1, x2⟩ : Out)] : List Out) _ := (Els.cons (c := [[.int .u64 x1], av .u8 32 x2].flatten) ⟨rfl, ⟨hx1, hx2⟩⟩ rfl Els.nil)
            refine o_bsl ([[.int .u64 x1], av .u8 32 x2].flatten ++ ([])) te44 zr44 Tryd.underlying30 hI hA rfl rfl rfl rfl (by kernel_rfl) rfl fun g3 a w hA hI => ?_
            generalize hcs : ([[.int .u64 x1], av .u8 32 x2].flatten ++ ([]) : List Value) = cs4 at hE4 hI
            clear hcs
            refine o_nil <| ⟨(.inr (hI.sl [1, 3] rfl)), ?_⟩
            refine gF 3 rfl ?_
            obtain ⟨μ2, hle2, hsv2, hI, hth1⟩ := hI.freezeRowT 1 rfl
            have hS1 : Slc (RI .u8) 1 μ2 v2 (r1 ++ x3) := ⟨_, hE3, hsv2⟩
            have hE5 : Els (RIn μ2) 35 ([(⟨r2, r1 ++ x3, 4294967295⟩ : In)] : List In) _ := (Els.cons (c := [av .u8 32 r2.Tx, [.int .u32 r2.N], [v2], [.int .u32 4294967295]].flatten) ⟨v2, rfl, ⟨hz3.1, hz3.2, hS1, (in_lit .u32 4294967295 rfl)⟩⟩ rfl Els.nil)
            refine o_bsl ([av .u8 32 r2.Tx, [.int .u32 r2.N], [v2], [.int .u32 4294967295]].flatten ++ ([])) te42 zr42 Tryd.underlying29 hI hA rfl rfl rfl rfl (by kernel_rfl) rfl fun g4 a w hA hI => ?_
            generalize hcs : ([av .u8 32 r2.Tx, [.int .u32 r2.N], [v2], [.int .u32 4294967295]].flatten ++ ([]) : List Value) = cs5 at hE5 hI
            clear hcs
            refine o_nil <| ⟨(.inr ((hth1 _ _ hI).sl [0, 4] rfl)), ?_⟩
            refine gF 8 rfl ?_
            refine stp hA (r_bldS (cs := [[.int .u32 1], [(.slice (some ⟨g4, 0, none⟩) 1 1)], [(.slice (some ⟨g3, 0, none⟩) 1 1)], [.int .u32 0]].flatten.toArray) (pl := [(0, 1), (1, 1), (2, 1), (3, 1)]) zr32 Tryd.underlying32 ⟨rfl, sz24, rfl, sz29, rfl, sz30, rfl, sz24, trivial⟩ hA rfl ((fill_one rfl rfl (by kernel_rfl)).trans ((fill_one (own_cell hI (j := 0) rfl) rfl (by kernel_rfl)).trans ((fill_one (own_cell hI (j := 1) rfl) rfl (by kernel_rfl)).trans (by kernel_rfl))))) rfl fun a hA => ?_
            refine o_nil <| ⟨(.inr ((hth1 _ _ hI).sl [0, 4] rfl)), ?_⟩
            refine gF 9 rfl ?_
            refine o_st (j := 2) [] [[.int .u32 0], [(.slice none 0 0)], [(.slice none 0 0)], [.int .u32 0]] [[.int .u32 1], [(.slice (some ⟨g4, 0, none⟩) 1 1)], [(.slice (some ⟨g3, 0, none⟩) 1 1)], [.int .u32 0]] [] sz32 rfl rfl (fl_cons (oneC rfl) (fl_cons (oneC (own_one hI (j := 0) rfl)) (fl_cons (oneC (own_one hI (j := 1) rfl)) (fl_cons (oneC rfl) fl_nil)))) hI rfl hA rfl rfl rfl rfl fun w hI => ?_
            refine o_nil <| ⟨(.inr ((hth1 _ _ hI).sl [0, 4] rfl)), ?_⟩
            refine gN ?_
            cases sJ H
            exact ⟨μ2, v2, (.slice (some ⟨g4, 0, none⟩) 1 1), cs5, (.slice (some ⟨g3, 0, none⟩) 1 1), cs4, hle2, hS1, (in_lit .u32 1 rfl), hE5, hE4, hA.sub ⟨rfl, rfl, trivial⟩, hI⟩
        · skip
          have hE4 : Els (ROut μ) 33 ([(⟨x1, x2⟩ : Out)] : List Out) _ := (Els.cons (c := [[.int .u64 x1], av .u8 32 x2].flatten) ⟨rfl, ⟨hx1, hx2⟩⟩ rfl Els.nil)
          refine o_bsl ([[.int .u64 x1], av .u8 32 x2].flatten ++ ([])) te44 zr44 Tryd.underlying30 hI hA rfl rfl rfl rfl (by kernel_rfl) rfl fun g3 a w hA hI => ?_
          generalize hcs : ([[.int .u64 x1], av .u8 32 x2].flatten ++ ([]) : List Value) = cs4 at hE4 hI
          clear hcs
          refine o_nil <| ⟨(.inr (hI.sl [1, 3] rfl)), ?_⟩
          refine gF 2 rfl ?_
          refine stp hA (r_bldS (cs := [av .u8 32 r2.Tx, [.int .u32 r2.N], [v2], [.int .u32 4294967295]].flatten.toArray) (pl := [(0, 33), (33, 1), (34, 1)]) zr42 Tryd.underlying42 ⟨rfl, sz39, rfl, sz40, rfl, sz24, trivial⟩ hA rfl ((fill_seg [] [av .u8 32 (List.replicate 32 0), [.int .u32 0]] [av .u8 32 r2.Tx, [.int .u32 r2.N]] [[(.slice none 0 0)], [.int .u32 0]] rfl rfl rfl rfl rfl).trans ((fill_seg [av .u8 32 r2.Tx, [.int .u32 r2.N]] [[(.slice none 0 0)]] [[v2]] [[.int .u32 0]] (own_cell hI (j := 1) rfl) rfl rfl rfl rfl).trans ((fill_seg [av .u8 32 r2.Tx, [.int .u32 r2.N], [v2]] [[.int .u32 0]] [[.int .u32 4294967295]] [] rfl rfl rfl rfl rfl).trans (rfl))))) rfl fun a hA => ?_
          refine o_nil <| ⟨(.inr (hI.sl [1, 3] rfl)), ?_⟩
          refine gF 3 rfl ?_
          obtain ⟨μ2, hle2, hsv2, hI, hth1⟩ := hI.freezeRowT 1 rfl
          have hS1 : Slc (RI .u8) 1 μ2 v2 (r1 ++ x3) := ⟨_, hE3, hsv2⟩
          have hE5 : Els (RIn μ2) 35 ([(⟨r2, r1 ++ x3, 4294967295⟩ : In)] : List In) _ := (Els.cons (c := [av .u8 32 r2.Tx, [.int .u32 r2.N], [v2], [.int .u32 4294967295]].flatten) ⟨v2, rfl, ⟨hz3.1, hz3.2, hS1, (in_lit .u32 4294967295 rfl)⟩⟩ rfl Els.nil)
          refine o_bsl ([av .u8 32 r2.Tx, [.int .u32 r2.N], [v2], [.int .u32 4294967295]].flatten ++ ([])) te42 zr42 Tryd.underlying29 hI hA rfl rfl rfl rfl (by kernel_rfl) rfl fun g4 a w hA hI => ?_
          generalize hcs : ([av .u8 32 r2.Tx, [.int .u32 r2.N], [v2], [.int .u32 4294967295]].flatten ++ ([]) : List Value) = cs5 at hE5 hI
          clear hcs
          refine o_nil <| ⟨(.inr ((hth1 _ _ hI).sl [0, 4] rfl)), ?_⟩
          refine gF 8 rfl ?_
          refine stp hA (r_bldS (cs := [[.int .u32 1], [(.slice (some ⟨g4, 0, none⟩) 1 1)], [(.slice (some ⟨g3, 0, none⟩) 1 1)], [.int .u32 0]].flatten.toArray) (pl := [(0, 1), (1, 1), (2, 1), (3, 1)]) zr32 Tryd.underlying32 ⟨rfl, sz24, rfl, sz29, rfl, sz30, rfl, sz24, trivial⟩ hA rfl ((fill_one rfl rfl (by kernel_rfl)).trans ((fill_one (own_cell hI (j := 0) rfl) rfl (by kernel_rfl)).trans ((fill_one (own_cell hI (j := 1) rfl) rfl (by kernel_rfl)).trans (by kernel_rfl))))) rfl fun a hA => ?_
          refine o_nil <| ⟨(.inr ((hth1 _ _ hI).sl [0, 4] rfl)), ?_⟩
          refine gF 9 rfl ?_
          refine o_st (j := 2) [] [[.int .u32 0], [(.slice none 0 0)], [(.slice none 0 0)], [.int .u32 0]] [[.int .u32 1], [(.slice (some ⟨g4, 0, none⟩) 1 1)], [(.slice (some ⟨g3, 0, none⟩) 1 1)], [.int .u32 0]] [] sz32 rfl rfl (fl_cons (oneC rfl) (fl_cons (oneC (own_one hI (j := 0) rfl)) (fl_cons (oneC (own_one hI (j := 1) rfl)) (fl_cons (oneC rfl) fl_nil)))) hI rfl hA rfl rfl rfl rfl fun w hI => ?_
          refine o_nil <| ⟨(.inr ((hth1 _ _ hI).sl [0, 4] rfl)), ?_⟩
          refine gN ?_
          cases sJ H
          exact ⟨μ2, v2, (.slice (some ⟨g4, 0, none⟩) 1 1), cs5, (.slice (some ⟨g3, 0, none⟩) 1 1), cs4, hle2, hS1, (in_lit .u32 1 rfl), hE5, hE4, hA.sub ⟨rfl, rfl, trivial⟩, hI⟩
      · skip
        have hE4 : Els (ROut μ) 33 ([(⟨x1, x2⟩ : Out)] : List Out) _ := (Els.cons (c := [[.int .u64 x1], av .u8 32 x2].flatten) ⟨rfl, ⟨hx1, hx2⟩⟩ rfl Els.nil)
        refine o_bsl ([[.int .u64 x1], av .u8 32 x2].flatten ++ ([])) te44 zr44 Tryd.underlying30 hI hA rfl rfl rfl rfl (by kernel_rfl) rfl fun g3 a w hA hI => ?_
        generalize hcs : ([[.int .u64 x1], av .u8 32 x2].flatten ++ ([]) : List Value) = cs4 at hE4 hI
        clear hcs
        refine o_nil <| ⟨(.inr (hI.sl [1, 3] rfl)), ?_⟩
        refine gF 0 rfl ?_
        obtain ⟨r2, hr2, H⟩ := bB H
        refine o_callp (u := .agg [av .u8 32 r2.Tx, [.int .u32 r2.N]].flatten.toArray) cf15 hA rfl hI (sargassoref1_Null.c μ _ hI.agr  r2 hr2) rfl fun a w hz3 hI hA => ?_
        refine o_nil <| ⟨(.inr (hI.sl [1, 3] rfl)), ?_⟩
        refine gF 2 rfl ?_
        refine stp hA (r_bldS (cs := [av .u8 32 r2.Tx, [.int .u32 r2.N], [v2], [.int .u32 4294967295]].flatten.toArray) (pl := [(0, 33), (33, 1), (34, 1)]) zr42 Tryd.underlying42 ⟨rfl, sz39, rfl, sz40, rfl, sz24, trivial⟩ hA rfl ((fill_seg [] [av .u8 32 (List.replicate 32 0), [.int .u32 0]] [av .u8 32 r2.Tx, [.int .u32 r2.N]] [[(.slice none 0 0)], [.int .u32 0]] rfl rfl rfl rfl rfl).trans ((fill_seg [av .u8 32 r2.Tx, [.int .u32 r2.N]] [[(.slice none 0 0)]] [[v2]] [[.int .u32 0]] (own_cell hI (j := 1) rfl) rfl rfl rfl rfl).trans ((fill_seg [av .u8 32 r2.Tx, [.int .u32 r2.N], [v2]] [[.int .u32 0]] [[.int .u32 4294967295]] [] rfl rfl rfl rfl rfl).trans (rfl))))) rfl fun a hA => ?_
        refine o_nil <| ⟨(.inr (hI.sl [1, 3] rfl)), ?_⟩
        refine gF 3 rfl ?_
        obtain ⟨μ2, hle2, hsv2, hI, hth1⟩ := hI.freezeRowT 1 rfl
        have hS1 : Slc (RI .u8) 1 μ2 v2 (r1 ++ x3) := ⟨_, hE3, hsv2⟩
        have hE5 : Els (RIn μ2) 35 ([(⟨r2, r1 ++ x3, 4294967295⟩ : In)] : List In) _ := (Els.cons (c := [av .u8 32 r2.Tx, [.int .u32 r2.N], [v2], [.int .u32 4294967295]].flatten) ⟨v2, rfl, ⟨hz3.1, hz3.2, hS1, (in_lit .u32 4294967295 rfl)⟩⟩ rfl Els.nil)
        refine o_bsl ([av .u8 32 r2.Tx, [.int .u32 r2.N], [v2], [.int .u32 4294967295]].flatten ++ ([])) te42 zr42 Tryd.underlying29 hI hA rfl rfl rfl rfl (by kernel_rfl) rfl fun g4 a w hA hI => ?_
        generalize hcs : ([av .u8 32 r2.Tx, [.int .u32 r2.N], [v2], [.int .u32 4294967295]].flatten ++ ([]) : List Value) = cs5 at hE5 hI
        clear hcs
        refine o_nil <| ⟨(.inr ((hth1 _ _ hI).sl [0, 4] rfl)), ?_⟩
        refine gF 8 rfl ?_
        refine stp hA (r_bldS (cs := [[.int .u32 1], [(.slice (some ⟨g4, 0, none⟩) 1 1)], [(.slice (some ⟨g3, 0, none⟩) 1 1)], [.int .u32 0]].flatten.toArray) (pl := [(0, 1), (1, 1), (2, 1), (3, 1)]) zr32 Tryd.underlying32 ⟨rfl, sz24, rfl, sz29, rfl, sz30, rfl, sz24, trivial⟩ hA rfl ((fill_one rfl rfl (by kernel_rfl)).trans ((fill_one (own_cell hI (j := 0) rfl) rfl (by kernel_rfl)).trans ((fill_one (own_cell hI (j := 1) rfl) rfl (by kernel_rfl)).trans (by kernel_rfl))))) rfl fun a hA => ?_
        refine o_nil <| ⟨(.inr ((hth1 _ _ hI).sl [0, 4] rfl)), ?_⟩
        refine gF 9 rfl ?_
        refine o_st (j := 2) [] [[.int .u32 0], [(.slice none 0 0)], [(.slice none 0 0)], [.int .u32 0]] [[.int .u32 1], [(.slice (some ⟨g4, 0, none⟩) 1 1)], [(.slice (some ⟨g3, 0, none⟩) 1 1)], [.int .u32 0]] [] sz32 rfl rfl (fl_cons (oneC rfl) (fl_cons (oneC (own_one hI (j := 0) rfl)) (fl_cons (oneC (own_one hI (j := 1) rfl)) (fl_cons (oneC rfl) fl_nil)))) hI rfl hA rfl rfl rfl rfl fun w hI => ?_
        refine o_nil <| ⟨(.inr ((hth1 _ _ hI).sl [0, 4] rfl)), ?_⟩
        refine gN ?_
        cases sJ H
        exact ⟨μ2, v2, (.slice (some ⟨g4, 0, none⟩) 1 1), cs5, (.slice (some ⟨g3, 0, none⟩) 1 1), cs4, hle2, hS1, (in_lit .u32 1 rfl), hE5, hE4, hA.sub ⟨rfl, rfl, trivial⟩, hI⟩
  · rintro a w ⟨μ1, vvc1, vvc3, ccc3, vvc4, ccc4, hle1, wc1, wc2, wc3, wc4, hA, hI⟩
    have H := Hk1
    refine w_ret ?_
    obtain ⟨μ3, hle3, hsv3, hI⟩ := hI.freezeRow 0 rfl
    have hS2 : Slc (RIn μ3) 35 μ3 vvc3 c3 := ⟨_, (Els.mono wc3 (fun _ _ h => RIn.le hle3 h)), hsv3⟩
    obtain ⟨μ4, hle4, hsv4, hI⟩ := hI.freezeRow 0 rfl
    have hS3 : Slc (ROut μ4) 33 μ4 vvc4 c4 := ⟨_, wc4, hsv4⟩
    obtain rfl := sJ H
    exact retc Tryd.underlying32 rfl sz32 rfl hI (j := 0) rfl hA Tryd.results6 rfl ⟨_, rfl, vvc3, vvc4, μ4, rfl, ⟨wc2, (Slc.le hS2 (fun _ _ h => RIn.le hle4 h) hle4), hS3, (in_lit .u32 0 rfl)⟩, (hI.sl [] rfl)⟩
end Go.Proofs.YtkfpmcplfodikaaDoor.T
namespace Go.Proofs.YtkfpmcplfodikaaDoor.T
open Go Go.Proofs Go.Proofs.YtkfpmcplfodikaaDoor.K
set_option linter.unusedVariables false
set_option linter.unusedSimpArgs false
noncomputable def merkle_pair.f (x0 : List Int) (x1 : List Int) : Option (List Int) := ((slices_Concat_byte_byte.f ([x0, x1] : List (List Int))).bind fun r1 => ((digest_Twice.f r1).bind fun r2 => some r2))
noncomputable def merkle_other.f (x0 : Int) (x1 : List (List Int)) : Option (List Int) := (if 0 ≤ iMin (bXor .i64 x0 1) (IntKind.i64.wrap ((x1.length : Int) - 1)) ∧ iMin (bXor .i64 x0 1) (IntKind.i64.wrap ((x1.length : Int) - 1)) < (x1.length : Int) then some (x1.getD (iMin (bXor .i64 x0 1) (IntKind.i64.wrap ((x1.length : Int) - 1))).toNat []) else none)
noncomputable def merkle_up.s0 (x0 : List (List Int)) : ((List (List Int)) × Int) → Option (((List (List Int)) × Int) ⊕ (List (List Int))) := fun (s1, s2) => (if s2 < (x0.length : Int) then (if 0 ≤ s2 ∧ s2 < (x0.length : Int) then ((merkle_other.f s2 x0).bind fun r1 => ((merkle_pair.f (x0.getD s2.toNat []) r1).bind fun r2 => (if s1.length + 1 ≤ 4398046511104 then some (.inl (s1 ++ ([r2] : List (List Int)), IntKind.i64.wrap (s2 + 2))) else none))) else none) else some (.inr s1))
noncomputable def merkle_up.f (x0 : List (List Int)) : Option (List (List Int)) := ((loopO (merkle_up.s0 x0) (([] : List (List Int)), 0)).bind fun c1 => some c1)
noncomputable def merkle_Root.s0 : (List (List Int)) → Option ((List (List Int)) ⊕ (List (List Int))) := fun s1 => (if 1 < (s1.length : Int) then ((merkle_up.f s1).bind fun r1 => some (.inl r1)) else some (.inr s1))
noncomputable def merkle_Root.f (x0 : List (List Int)) : Option (List Int) := (if (x0.length : Int) = 0 then some ([0, 0, 0, 0, 0, 0, 0, 0, 0, 0, 0, 0, 0, 0, 0, 0, 0, 0, 0, 0, 0, 0, 0, 0, 0, 0, 0, 0, 0, 0, 0, 0]) else ((loopO (merkle_Root.s0) x0).bind fun c1 => (if 0 < (c1.length : Int) then some (c1.getD (0 : Int).toNat []) else none)))
end Go.Proofs.YtkfpmcplfodikaaDoor.T
namespace Go.Proofs.YtkfpmcplfodikaaDoor.T
open Go Go.Proofs Go.Proofs.YtkfpmcplfodikaaDoor.K
set_option linter.unusedVariables false
set_option linter.unusedSimpArgs false
set_option maxRecDepth 20000 in
theorem merkle_pair.c (μ : Store) (w0 : World) (hμ : Agr μ w0) (x0 : List Int) (hx0 : Arr .u8 32 x0) (x1 : List Int) (hx1 : Arr .u8 32 x1) (r : List Int) (H : merkle_pair.f x0 x1 = some r) :
    Calls Tryd.prog 41 [.agg [av .u8 32 x0].flatten.toArray, .agg [av .u8 32 x1].flatten.toArray].toArray w0 (fun e w' => ∃ v, e = .returned v ∧ v = .agg [av .u8 32 r].flatten.toArray ∧ Arr .u8 32 r ∧ Iv w0 [] μ μ [] w') := by
  refine enter Tryd.func41 rfl Tryd.ntmps41 rfl fun a hA => ?_
  have hI := Iv.start hμ
  have H := bI H
  refine w_seq fun _ hN1 => w_reg <| o_box [av .u8 32 x0] hI hA rfl rfl rfl fun g1 a w hA hI hg1 => 
    o_box [av .u8 32 x1] hI hA rfl rfl rfl fun g2 a w hA hI hg2 => 
    o_new [av .u8 32 (List.replicate 32 0)] zr26 hI hA rfl fun g3 a w hA hI hg3 => ?_
  refine o_nil <| hN1 _ _ <| w_seq fun _ hN2 => ?_
  refine w_anyS [] mo (fun w (h : Iv w0 [] μ μ [cel g3 [av .u8 32 (List.replicate 32 0)] 26, cel g2 [av .u8 32 x1] 26, cel g1 [av .u8 32 x0] 26] w) => (h.sl [1, 2] rfl : Iv w0 [] μ μ [cel g2 [av .u8 32 x1] 26, cel g1 [av .u8 32 x0] 26] w)) hI fun w hI => ?_
  refine gE 0 hA rfl (.inr (hI.sl [1, 2] rfl)) (fun _ => r_slv (i := 0) (j := 32) Tryd.underlying26 sz5 hA rfl rfl rfl (by decide) (by decide) (by decide) (by decide) rfl) fun a hA => ?_
  refine gE 1 hA rfl (.inr (hI.sl [1, 2] rfl)) (fun _ => r_slv (i := 0) (j := 32) Tryd.underlying26 sz5 hA rfl rfl rfl (by decide) (by decide) (by decide) (by decide) rfl) fun a hA => ?_
  refine gF 2 rfl ?_
  obtain ⟨μ1, hle1, hat1, hI, hth1⟩ := hI.freezeCelT 2 rfl
  have hS1 : Slc (RI .u8) 1 μ1 (.slice (some ⟨g1, 0, none⟩) 32 32) (x0) := slc_view0 [] [] hat1 hx0 rfl (by decide)
  obtain ⟨μ2, hle2, hat2, hI, hth2⟩ := hI.freezeCelT 1 rfl
  have hS2 : Slc (RI .u8) 1 μ2 (.slice (some ⟨g2, 0, none⟩) 32 32) (x1) := slc_view0 [] [] hat2 hx1 rfl (by decide)
  have hE1 : Els (RS (RI .u8) 1 μ2) 1 ([x0, x1] : List (List Int)) _ := (Els.cons (c := [[(.slice (some ⟨g1, 0, none⟩) 32 32)]].flatten) ⟨_, rfl, (Slc.le hS1 (fun _ _ h => h) hle2)⟩ rfl (Els.cons (c := [[(.slice (some ⟨g2, 0, none⟩) 32 32)]].flatten) ⟨_, rfl, hS2⟩ rfl Els.nil))
  refine o_bsl ([[(.slice (some ⟨g1, 0, none⟩) 32 32)]].flatten ++ ([[(.slice (some ⟨g2, 0, none⟩) 32 32)]].flatten ++ ([]))) te40 zr40 Tryd.underlying99 hI hA rfl rfl rfl rfl ((fill_one (cells1 (Slc.le hS1 (fun _ _ h => h) hle2)) rfl (by kernel_rfl)).trans ((fill_one (cells1 hS2) rfl (by kernel_rfl)).trans (by kernel_rfl))) rfl fun g4 a w hA hI => ?_
  generalize hcs : ([[(.slice (some ⟨g1, 0, none⟩) 32 32)]].flatten ++ ([[(.slice (some ⟨g2, 0, none⟩) 32 32)]].flatten ++ ([])) : List Value) = cs1 at hE1 hI
  clear hcs
  refine o_nil <| ⟨(.inr ((hth1 _ _ (hth2 _ _ hI)).sl [1, 0] rfl)), ?_⟩
  refine gF 3 rfl ?_
  obtain ⟨r1, hr1, H⟩ := bB H
  refine o_callW (fun w v w' => ∃ (v0 : Value) (c0 : List Value), v = v0 ∧ Els (RI .u8) 1 r1 c0 ∧ Iv w [] μ2 μ2 [row 5 1 v0 r1.length c0] w') cf35 hA rfl ((by obtain ⟨μ3, hle3, hsv1, hI⟩ := hI.freezeRow 0 rfl; have hS3 : Slc (RS (RI .u8) 1 μ3) 1 μ3 (.slice (some ⟨g4, 0, none⟩) 2 2) ([x0, x1] : List (List Int)) := ⟨_, (Els.mono hE1 (fun _ _ h => RS.le (fun _ _ h => h) hle3 h)), hsv1⟩; exact (slices_Concat_byte_byte.c μ3 _ hI.agr ([x0, x1] : List (List Int)) (.slice (some ⟨g4, 0, none⟩) 2 2) hS3 r1 hr1).mono fun _ _ ⟨v, he, b0, b1, hv, f0, hi⟩ => ⟨v, he, b0, b1, hv, f0, hi.low hle3⟩)) rfl fun v1 a w hz1 hA => ?_
  obtain ⟨_, cs2, rfl, hE2, hi1⟩ := hz1
  have hI := hI.call hi1
  refine o_nil <| ⟨(.inr ((hth1 _ _ (hth2 _ _ hI)).sl [1, 0] rfl)), ?_⟩
  refine gF 4 rfl ?_
  obtain ⟨r2, hr2, H⟩ := bB H
  refine o_callp (u := .agg [av .u8 32 r2].flatten.toArray) cf39 hA rfl hI ((by obtain ⟨μ4, hle4, hsv2, hI⟩ := hI.freezeRow 0 rfl; have hS4 : Slc (RI .u8) 1 μ4 v1 r1 := ⟨_, hE2, hsv2⟩; exact low_plain hle4 (digest_Twice.c μ4 _ hI.agr r1 v1 hS4 r2 hr2))) rfl fun a w hz2 hI hA => ?_
  refine o_nil <| ⟨(.inr ((hth1 _ _ (hth2 _ _ hI)).sl [1, 0] rfl)), ?_⟩
  refine gF 5 rfl ?_
  refine o_st (j := 2) [] [av .u8 32 (List.replicate 32 0)] [av .u8 32 r2] [] sz26 rfl rfl (fl_cons (one_av _ _ _) fl_nil) hI rfl hA rfl rfl rfl rfl fun w hI => ?_
  refine o_nil <| ⟨(.inr ((hth1 _ _ (hth2 _ _ hI)).sl [1, 0] rfl)), ?_⟩
  refine gN <| hN2 _ _ <| w_ret ?_
  obtain rfl := sJ H
  exact retc Tryd.underlying26 rfl sz26 rfl hI (j := 2) rfl hA Tryd.results41 rfl ⟨_, rfl, rfl, hz2, hI.forget0⟩
set_option maxRecDepth 20000 in
theorem merkle_other.c (μ : Store) (w0 : World) (hμ : Agr μ w0) (x0 : Int) (hx0 : InR .i64 x0) (x1 : List (List Int)) (u1 : Value) (hx1 : Slc (RA .u8 32) 32 μ u1 x1) (r : List Int) (H : merkle_other.f x0 x1 = some r) :
    Calls Tryd.prog 42 [.int .i64 x0, u1].toArray w0 (fun e w' => ∃ v, e = .returned v ∧ v = .agg [av .u8 32 r].flatten.toArray ∧ Arr .u8 32 r ∧ Iv w0 [] μ μ [] w') := by
  refine enter Tryd.func42 rfl Tryd.ntmps42 rfl fun a hA => ?_
  have hI := Iv.start hμ
  have H := bI H
  refine w_seq fun _ hN1 => w_reg <| o_new [av .u8 32 (List.replicate 32 0)] zr26 hI hA rfl fun g1 a w hA hI hg1 => ?_
  refine o_nil <| hN1 _ _ <| w_seq fun _ hN2 => w_reg <| stm hA rfl rfl fun a hA => 
    stm hA rfl rfl fun a hA => 
    stp hA (r_xor hA rfl rfl) rfl fun a hA => 
    stm hA rfl rfl fun a hA => ?_
  obtain ⟨_, hsl1⟩ := Slc.sv hx1
  refine stp hA (r_slen Tryd.underlying56 hsl1 hA rfl) rfl fun a hA => 
    stp hA (r_sub hA rfl rfl) rfl fun a hA => 
    stp hA (r_min hA rfl rfl) rfl fun a hA => ?_
  obtain ⟨hb1, H⟩ := bG H
  obtain ⟨_, he1, _, hat1⟩ := Slc.elem hx1 (getD_some [] hb1.1 hb1.2)
  obtain ⟨rfl, hw1⟩ := he1
  obtain ⟨_, hsl2⟩ := Slc.sv hx1
  refine stp hA (r_six Tryd.underlying56 sz26 hsl2 hA rfl rfl hb1.1 hb1.2) rfl fun a hA => 
    stp hA (r_ldmA [] [av .u8 32 (x1.getD (iMin (bXor .i64 x0 1) (IntKind.i64.wrap ((x1.length : Int) - 1))).toNat [])] [] Tryd.underlying26 rfl sz26 rfl hI.agr hat1 hA rfl rfl) rfl fun a hA => 
    o_st (j := 0) [] [av .u8 32 (List.replicate 32 0)] [av .u8 32 (x1.getD (iMin (bXor .i64 x0 1) (IntKind.i64.wrap ((x1.length : Int) - 1))).toNat [])] [] sz26 rfl rfl (fl_cons (one_av _ _ _) fl_nil) hI rfl hA rfl rfl rfl rfl fun w hI => ?_
  refine o_nil <| hN2 _ _ <| w_ret ?_
  obtain rfl := sJ H
  exact retc Tryd.underlying26 rfl sz26 rfl hI (j := 0) rfl hA Tryd.results42 rfl ⟨_, rfl, rfl, hw1, hI.forget0⟩
set_option maxRecDepth 20000 in
theorem merkle_up.c (μ : Store) (w0 : World) (hμ : Agr μ w0) (x0 : List (List Int)) (u0 : Value) (hx0 : Slc (RA .u8 32) 32 μ u0 x0) (r : List (List Int)) (H : merkle_up.f x0 = some r) :
    Calls Tryd.prog 29 [u0].toArray w0 (fun e w' => ∃ v, e = .returned v ∧ ∃ (v0 : Value) (c0 : List Value), v = v0 ∧ Els (RA .u8 32) 32 r c0 ∧ Iv w0 [] μ μ [row 26 32 v0 r.length c0] w') := by
  refine enter Tryd.func29 rfl Tryd.ntmps29 rfl fun a hA => ?_
  have hI := Iv.start hμ
  have H := bI H
  refine w_seq fun _ hN1 => w_reg <| sta hA rfl rfl fun a hA => ?_
  refine o_nil <| hN1 _ _ <| w_seq fun _ hN2 => w_reg <| sta hA rfl rfl fun a hA => ?_
  refine o_nil <| hN2 _ _ ?_
  obtain ⟨c1, hz1, Hk1⟩ := bB H
  refine w_cut (fun a w => ∃ (vvc1 : Value) (ccc1 : List Value), Els (RA .u8 32) 32 c1 ccc1 ∧ Fr a 23 [(2, (.slice none 0 0)), (3, vvc1)] ∧ Iv w0 [] μ μ [row 26 32 vvc1 c1.length ccc1] w) ?_ ?_
  · have H := bI hz1
    refine w_seq fun _ hN3 => w_reg <| sta hA rfl rfl fun a hA => ?_
    refine o_nil <| hN3 _ _ <| w_block ?_
    have hI := hI.nilRow 26 32
    obtain ⟨z1, hz2, Hk2⟩ := bind_some H
    obtain ⟨n1, hn1⟩ := loopO_some hz2
    refine w_loop (fun n a w => ∃ (s1 : List (List Int)) (s2 : Int) (vvs1 : Value) (ccs1 : List Value), loopN (merkle_up.s0 x0) n (s1, s2) = some z1 ∧ Els (RA .u8 32) 32 s1 ccs1 ∧ InR .i64 s2 ∧ Fr a 23 [(0, u0), (2, (.slice none 0 0)), (3, vvs1), (4, .int .i64 s2)] ∧ Iv w0 [] μ μ [row 26 32 vvs1 s1.length ccs1] w) n1 ⟨([] : List (List Int)), 0, (.slice none 0 0), [], hn1, (Els.nil (RE := (RA .u8 32)) (sz := 32)), (in_lit .i64 0 rfl), hA.sub ⟨rfl, rfl, rfl, rfl, trivial⟩, hI⟩ ?_
    clear hA hI
    rintro n a w ⟨s1, s2, vvs1, ccs1, hn1, ws1, ws2, hA, hI⟩
    obtain ⟨m1, rfl, H⟩ := loopN_bind hn1
    clear hn1
    refine w_seq fun _ hN4 => w_seq fun _ hN5 => w_reg <| stm hA rfl rfl fun a hA => 
      stm hA rfl rfl fun a hA => ?_
    obtain ⟨_, hsl1⟩ := Slc.sv hx0
    refine stp hA (r_slen Tryd.underlying56 hsl1 hA rfl) rfl fun a hA => 
      stp hA (r_lss hA rfl rfl) rfl fun a hA => ?_
    refine o_nil <| hN5 _ _ <| w_cond hA rfl (fun hc1 => ?_) (fun hc1 => ?_)
    · obtain ⟨hc1, H⟩ := dT H hc1
      refine w_skip <| hN4 _ _ <| w_seq fun _ hN6 => w_block ?_
      refine w_anyS [] mo (fun w (h : Iv w0 [] μ μ [row 26 32 vvs1 s1.length ccs1] w) => (h.sl [] rfl : Iv w0 [] μ μ [] w)) hI fun w hI => ?_
      refine gE 0 hA rfl (.inr (hI.sl [] rfl)) (fun _ => r_mv hA rfl) fun a hA => ?_
      refine gE 1 hA rfl (.inr (hI.sl [] rfl)) (fun _ => r_mv hA rfl) fun a hA => ?_
      refine gE 2 hA rfl (.inr (hI.sl [] rfl)) (fun _ => r_mv hA rfl) fun a hA => ?_
      obtain ⟨hb1, H⟩ := bG H
      obtain ⟨_, he1, _, hat1⟩ := Slc.elem hx0 (getD_some [] hb1.1 hb1.2)
      obtain ⟨rfl, hw1⟩ := he1
      obtain ⟨_, hsl2⟩ := Slc.sv hx0
      refine gE 3 hA rfl (.inr (hI.sl [] rfl)) (fun _ => r_six Tryd.underlying56 sz26 hsl2 hA rfl rfl hb1.1 hb1.2) fun a hA => ?_
      refine gT 4 hA rfl (hI.sl [] rfl) (fun w hI => r_ldmA [] [av .u8 32 (x0.getD s2.toNat [])] [] Tryd.underlying26 rfl sz26 rfl hI.agr hat1 hA rfl rfl) fun a hA => ?_
      refine gE 5 hA rfl (.inr (hI.sl [] rfl)) (fun _ => r_mv hA rfl) fun a hA => ?_
      refine gE 6 hA rfl (.inr (hI.sl [] rfl)) (fun _ => r_mv hA rfl) fun a hA => ?_
      refine gF 7 rfl ?_
      obtain ⟨r1, hr1, H⟩ := bB H
      refine o_callp (u := .agg [av .u8 32 r1].flatten.toArray) cf42 hA rfl hI (merkle_other.c μ _ hI.agr s2 ws2 x0 u0 hx0 r1 hr1) rfl fun a w hz3 hI hA => ?_
      refine o_nil <| ⟨(.inr (hI.sl [] rfl)), ?_⟩
      refine gF 8 rfl ?_
      obtain ⟨r2, hr2, H⟩ := bB H
      refine o_callp (u := .agg [av .u8 32 r2].flatten.toArray) cf41 hA rfl hI (merkle_pair.c μ _ hI.agr (x0.getD s2.toNat []) hw1 r1 hz3 r2 hr2) rfl fun a w hz4 hI hA => ?_
      refine o_nil <| ⟨(.inr (hI.sl [] rfl)), ?_⟩
      refine gF 9 rfl ?_
      have hE1 : Els (RA .u8 32) 32 ([r2] : List (List Int)) _ := (Els.cons (c := [av .u8 32 r2].flatten) ⟨rfl, hz4⟩ rfl Els.nil)
      refine o_bsl ([av .u8 32 r2].flatten ++ ([])) te26 zr26 Tryd.underlying56 hI hA rfl rfl rfl rfl (by kernel_rfl) rfl fun g1 a w hA hI => ?_
      generalize hcs : ([av .u8 32 r2].flatten ++ ([]) : List Value) = cs1 at hE1 hI
      clear hcs
      refine o_nil <| ⟨(.inr (hI.sl [] rfl)), ?_⟩
      refine gF 10 rfl ?_
      obtain ⟨hb2, H⟩ := bG H
      have hE3 := ws1.app hE1
      refine o_appG (xs := (s1 : List (List Int))) (ys := (([r2] : List (List Int)) : List (List Int))) (M := 4398046511104) 1 te26 Tryd.underlying56 hI rfl hA rfl rfl (src_row hI (j := 0) rfl) hE1.len (hE1.ones (one_RA _ _)) hb2 rfl fun v1 a w hA hI => ?_
      refine o_nil <| ⟨(.inr (hI.sl [] rfl)), ?_⟩
      refine gE 11 hA rfl (.inr (hI.sl [] rfl)) (fun _ => r_as hA rfl) fun a hA => ?_
      refine gN <| hN6 _ _ <| w_reg <| stm hA rfl rfl fun a hA => 
        stp hA (r_add hA rfl rfl) rfl fun a hA => 
        sta hA rfl rfl fun a hA => ?_
      refine o_nil <| ⟨m1, Nat.lt_succ_self _, s1 ++ ([r2] : List (List Int)), IntKind.i64.wrap (s2 + 2), v1, ccs1 ++ cs1, H, hE3, (wrap_in _ _), hA.sub ⟨rfl, rfl, rfl, rfl, trivial⟩, (hI.sl [1] rfl)⟩
    · obtain ⟨hc1, H⟩ := dF H hc1
      refine w_exit rfl ?_
      have H : some s1 = some z1 := H
      obtain rfl := sI H
      have H := Hk2
      cases sJ H
      exact ⟨vvs1, ccs1, ws1, hA.sub ⟨rfl, rfl, trivial⟩, hI⟩
  · rintro a w ⟨vvc1, ccc1, wc1, hA, hI⟩
    have H := Hk1
    refine w_seq fun _ hN7 => w_reg <| stm hA rfl rfl fun a hA => 
      sta hA rfl rfl fun a hA => ?_
    refine o_nil <| hN7 _ _ <| w_ret ?_
    obtain rfl := sJ H
    exact ret1 hA Tryd.results29 rfl ⟨_, rfl, vvc1, ccc1, rfl, wc1, (hI.less (Store.le.refl _) hI.le)⟩
set_option maxRecDepth 20000 in
theorem merkle_Root.c (μ : Store) (w0 : World) (hμ : Agr μ w0) (x0 : List (List Int)) (u0 : Value) (hx0 : Slc (RA .u8 32) 32 μ u0 x0) (r : List Int) (H : merkle_Root.f x0 = some r) :
    Calls Tryd.prog 16 [u0].toArray w0 (fun e w' => ∃ v, e = .returned v ∧ v = .agg [av .u8 32 r].flatten.toArray ∧ Arr .u8 32 r ∧ Iv w0 [] μ μ [] w') := by
  refine enter Tryd.func16 rfl Tryd.ntmps16 rfl fun a hA => ?_
  have hI := Iv.start hμ
  have H := bI H
  refine w_seq fun _ hN1 => w_reg <| o_new [av .u8 32 (List.replicate 32 0)] zr26 hI hA rfl fun g1 a w hA hI hg1 => ?_
  refine o_nil <| hN1 _ _ <| w_seq fun _ hN2 => w_seq fun _ hN3 => w_reg <| stm hA rfl rfl fun a hA => ?_
  obtain ⟨_, hsl1⟩ := Slc.sv hx0
  refine stp hA (r_slen Tryd.underlying56 hsl1 hA rfl) rfl fun a hA => 
    stp hA (r_eql hA rfl rfl) rfl fun a hA => ?_
  refine o_nil <| hN3 _ _ <| w_cond hA rfl (fun hc1 => ?_) (fun hc1 => ?_)
  · obtain ⟨hc1, H⟩ := dT H hc1
    refine w_seq fun _ hN4 => w_reg <| stp hA (r_bldA (cs := [av .u8 32 ([0, 0, 0, 0, 0, 0, 0, 0, 0, 0, 0, 0, 0, 0, 0, 0, 0, 0, 0, 0, 0, 0, 0, 0, 0, 0, 0, 0, 0, 0, 0, 0])].flatten.toArray) zr26 Tryd.underlying26 sz5 hA rfl (by kernel_rfl)) rfl fun a hA => 
      o_st (j := 0) [] [av .u8 32 (List.replicate 32 0)] [av .u8 32 ([0, 0, 0, 0, 0, 0, 0, 0, 0, 0, 0, 0, 0, 0, 0, 0, 0, 0, 0, 0, 0, 0, 0, 0, 0, 0, 0, 0, 0, 0, 0, 0])] [] sz26 rfl rfl (fl_cons (one_av _ _ _) fl_nil) hI rfl hA rfl rfl rfl rfl fun w hI => ?_
    refine o_nil <| hN4 _ _ <| w_ret ?_
    obtain rfl := sJ H
    exact retc Tryd.underlying26 rfl sz26 rfl hI (j := 0) rfl hA Tryd.results16 rfl ⟨_, rfl, rfl, (arr_lit rfl (by simp only [List.forall_mem_cons]; exact ⟨(in_lit .u8 0 rfl), (in_lit .u8 0 rfl), (in_lit .u8 0 rfl), (in_lit .u8 0 rfl), (in_lit .u8 0 rfl), (in_lit .u8 0 rfl), (in_lit .u8 0 rfl), (in_lit .u8 0 rfl), (in_lit .u8 0 rfl), (in_lit .u8 0 rfl), (in_lit .u8 0 rfl), (in_lit .u8 0 rfl), (in_lit .u8 0 rfl), (in_lit .u8 0 rfl), (in_lit .u8 0 rfl), (in_lit .u8 0 rfl), (in_lit .u8 0 rfl), (in_lit .u8 0 rfl), (in_lit .u8 0 rfl), (in_lit .u8 0 rfl), (in_lit .u8 0 rfl), (in_lit .u8 0 rfl), (in_lit .u8 0 rfl), (in_lit .u8 0 rfl), (in_lit .u8 0 rfl), (in_lit .u8 0 rfl), (in_lit .u8 0 rfl), (in_lit .u8 0 rfl), (in_lit .u8 0 rfl), (in_lit .u8 0 rfl), (in_lit .u8 0 rfl), (in_lit .u8 0 rfl), by simp⟩)), hI.forget0⟩
  · obtain ⟨hc1, H⟩ := dF H hc1
    refine w_skip <| hN2 _ _ <| w_seq fun _ hN5 => w_reg <| stm hA rfl rfl fun a hA => 
      sta hA rfl rfl fun a hA => ?_
    refine o_nil <| hN5 _ _ ?_
    obtain ⟨c1, hz1, Hk1⟩ := bB H
    refine w_cut (fun a w => ∃ (μ1 : Store) (vvc1 : Value), μ.le μ1 ∧ Slc (RA .u8 32) 32 μ1 vvc1 c1 ∧ Fr a 17 [(2, .pointer (some ⟨g1, 0, none⟩)), (3, vvc1)] ∧ Iv w0 [] μ μ1 [cel g1 [av .u8 32 (List.replicate 32 0)] 26] w) ?_ ?_
    · have H := bI hz1
      refine w_block ?_
      obtain ⟨z1, hz2, Hk2⟩ := bind_some H
      obtain ⟨n1, hn1⟩ := loopO_some hz2
      refine w_loop (fun n a w => ∃ (s1 : List (List Int)) (μ2 : Store) (vvs1 : Value), loopN (merkle_Root.s0) n s1 = some z1 ∧ μ.le μ2 ∧ Slc (RA .u8 32) 32 μ2 vvs1 s1 ∧ Fr a 17 [(2, .pointer (some ⟨g1, 0, none⟩)), (3, vvs1)] ∧ Iv w0 [] μ μ2 [cel g1 [av .u8 32 (List.replicate 32 0)] 26] w) n1 ⟨x0, μ, u0, hn1, (Store.le.refl _), hx0, hA.sub ⟨rfl, rfl, trivial⟩, hI⟩ ?_
      clear hA hI
      rintro n a w ⟨s1, μ2, vvs1, hn1, hle2, ws1, hA, hI⟩
      obtain ⟨m1, rfl, H⟩ := loopN_bind hn1
      clear hn1
      refine w_seq fun _ hN6 => w_seq fun _ hN7 => w_reg <| stm hA rfl rfl fun a hA => ?_
      obtain ⟨_, hsl2⟩ := Slc.sv ws1
      refine stp hA (r_slen Tryd.underlying56 hsl2 hA rfl) rfl fun a hA => 
        stp hA (r_gtr hA rfl rfl) rfl fun a hA => ?_
      refine o_nil <| hN7 _ _ <| w_cond hA rfl (fun hc2 => ?_) (fun hc2 => ?_)
      · obtain ⟨hc2, H⟩ := dT H hc2
        refine w_skip <| hN6 _ _ <| w_block <| w_reg <| stm hA rfl rfl fun a hA => ?_
        obtain ⟨r1, hr1, H⟩ := bB H
        refine o_call _ cf29 hA rfl (merkle_up.c μ2 _ hI.agr s1 vvs1 ws1 r1 hr1) rfl fun v1 a w hz3 hA => ?_
        obtain ⟨_, cs1, rfl, hE1, hi1⟩ := hz3
        have hI := hI.call hi1
        refine sta hA rfl rfl fun a hA => ?_
        refine o_nil ?_
        obtain ⟨μ3, hle3, hsv1, hI⟩ := hI.freezeRow 0 rfl
        have hS1 : Slc (RA .u8 32) 32 μ3 v1 r1 := ⟨_, hE1, hsv1⟩
        exact ⟨m1, Nat.lt_succ_self _, r1, μ3, v1, H, (hle2.trans hle3), hS1, hA.sub ⟨rfl, rfl, trivial⟩, hI⟩
      · obtain ⟨hc2, H⟩ := dF H hc2
        refine w_exit rfl ?_
        have H : some s1 = some z1 := H
        obtain rfl := sI H
        have H := Hk2
        cases sJ H
        exact ⟨μ2, vvs1, hle2, ws1, hA.sub ⟨rfl, rfl, trivial⟩, hI⟩
    · rintro a w ⟨μ1, vvc1, hle1, wc1, hA, hI⟩
      have H := Hk1
      refine w_seq fun _ hN8 => w_reg <| stm hA rfl rfl fun a hA => ?_
      obtain ⟨hb1, H⟩ := bG H
      obtain ⟨_, he1, _, hat1⟩ := Slc.elem wc1 (getD_some [] (by decide) hb1)
      obtain ⟨rfl, hw1⟩ := he1
      obtain ⟨_, hsl3⟩ := Slc.sv wc1
      refine stp hA (r_six Tryd.underlying56 sz26 hsl3 hA rfl rfl (by decide) hb1) rfl fun a hA => 
        stp hA (r_ldmA [] [av .u8 32 (c1.getD (0 : Int).toNat [])] [] Tryd.underlying26 rfl sz26 rfl hI.agr hat1 hA rfl rfl) rfl fun a hA => 
        o_st (j := 0) [] [av .u8 32 (List.replicate 32 0)] [av .u8 32 (c1.getD (0 : Int).toNat [])] [] sz26 rfl rfl (fl_cons (one_av _ _ _) fl_nil) hI rfl hA rfl rfl rfl rfl fun w hI => ?_
      refine o_nil <| hN8 _ _ <| w_ret ?_
      obtain rfl := sJ H
      exact retc Tryd.underlying26 rfl sz26 rfl hI (j := 0) rfl hA Tryd.results16 rfl ⟨_, rfl, rfl, hw1, hI.forget0⟩
end Go.Proofs.YtkfpmcplfodikaaDoor.T
namespace Go.Proofs.YtkfpmcplfodikaaDoor.T
open Go Go.Proofs Go.Proofs.YtkfpmcplfodikaaDoor.K
set_option linter.unusedVariables false
set_option linter.unusedSimpArgs false
noncomputable def block_IDs.s0 (x0 : Block) : ((List (List Int)) × Int) → Option (((List (List Int)) × Int) ⊕ (List (List Int))) := fun (s1, s2) => (if s2 < (x0.Txs.length : Int) then (if 0 ≤ s2 ∧ s2 < (x0.Txs.length : Int) then ((tx_ID.f (x0.Txs.getD s2.toNat default)).bind fun r1 => (if s1.length + 1 ≤ 4398046511104 then some (.inl (s1 ++ ([r1] : List (List Int)), IntKind.i64.wrap (s2 + 1))) else none)) else none) else some (.inr s1))
noncomputable def block_IDs.f (x0 : Block) : Option (List (List Int)) := ((loopO (block_IDs.s0 x0) (([] : List (List Int)), 0)).bind fun c1 => some c1)
noncomputable def block_Root.f (x0 : Block) : Option (List Int) := ((block_IDs.f x0).bind fun r1 => ((merkle_Root.f r1).bind fun r2 => some r2))
noncomputable def block_Bytes.s0 (x0 : Block) : ((List Int) × Int) → Option (((List Int) × Int) ⊕ (List Int)) := fun (s1, s2) => (if s2 < (x0.Txs.length : Int) then (if 0 ≤ s2 ∧ s2 < (x0.Txs.length : Int) then ((tx_Bytes.f (x0.Txs.getD s2.toNat default)).bind fun r3 => (if s1.length + r3.length ≤ 140737488355328 then some (.inl (s1 ++ r3, IntKind.i64.wrap (s2 + 1))) else none)) else none) else some (.inr s1))
noncomputable def block_Bytes.f (x0 : Block) : Option (List Int) := ((head_Bytes.f x0.Head).bind fun r1 => ((compact_Put.f r1 (IntKind.u64.wrap (x0.Txs.length : Int))).bind fun r2 => ((loopO (block_Bytes.s0 x0) (r2, 0)).bind fun c1 => some c1)))
noncomputable def block_Size.f (x0 : Block) : Option Int := ((block_Bytes.f x0).bind fun r1 => some (r1.length : Int))
noncomputable def block_parts.s1 (x0 : Block) : Int → Option (Int ⊕ (Int ⊕ Er)) := fun s2 => (if s2 < (x0.Txs.length : Int) then (if 0 ≤ s2 ∧ s2 < (x0.Txs.length : Int) then ((tx_Base.f (x0.Txs.getD s2.toNat default)).bind fun r2 => (if r2 ≠ (decide (s2 = 0)) then some (.inr (.inr (Er.pl s2 xErrBase))) else some (.inl (IntKind.i64.wrap (s2 + 1))))) else none) else some (.inr (.inr (Er.b 0))))
noncomputable def block_parts.s0 (x0 : Block) : Int → Option (Int ⊕ Er) := fun s1 => (if s1 < (x0.Txs.length : Int) then (if 0 ≤ s1 ∧ s1 < (x0.Txs.length : Int) then ((tx_Check.f (x0.Txs.getD s1.toNat default)).bind fun r1 => (if r1 ≠ (Er.b 0) then some (.inr (Er.pl s1 r1)) else some (.inl (IntKind.i64.wrap (s1 + 1))))) else none) else loopO (block_parts.s1 x0) 0)
noncomputable def block_parts.f (x0 : Block) : Option Er := loopO (block_parts.s0 x0) 0
noncomputable def block_twice.s1 (x0 : Block) (r1 : List (List Int)) (s1 : Int) (s3 : List ((List Int) × Bool)) : (Int × (List (Point × Bool))) → Option ((Int × (List (Point × Bool))) ⊕ ((Int × (List (Point × Bool)) × (List ((List Int) × Bool))) ⊕ Bool)) := fun (s4, s5) => (if s4 < (((x0.Txs.getD s1.toNat default).Ins).length : Int) then (if 0 ≤ s4 ∧ s4 < (((x0.Txs.getD s1.toNat default).Ins).length : Int) then (if ((mget s5 ((((x0.Txs.getD s1.toNat default).Ins).getD s4.toNat default).From)).getD false) = true then some (.inr (.inr true)) else some (.inl (IntKind.i64.wrap (s4 + 1), mput s5 ((((x0.Txs.getD s1.toNat default).Ins).getD s4.toNat default).From) true))) else none) else some (.inr (.inl (IntKind.i64.wrap (s1 + 1), s5, mput s3 (r1.getD s1.toNat []) true))))
noncomputable def block_twice.s0 (x0 : Block) (r1 : List (List Int)) : (Int × (List (Point × Bool)) × (List ((List Int) × Bool))) → Option ((Int × (List (Point × Bool)) × (List ((List Int) × Bool))) ⊕ Bool) := fun (s1, s2, s3) => (if s1 < (r1.length : Int) then (if 0 ≤ s1 ∧ s1 < (r1.length : Int) then (if ((mget s3 (r1.getD s1.toNat [])).getD false) = true then some (.inr true) else (if 0 ≤ s1 ∧ s1 < (x0.Txs.length : Int) then loopO (block_twice.s1 x0 r1 s1 s3) (0, s2) else none)) else none) else some (.inr false))
noncomputable def block_twice.f (x0 : Block) : Option Bool := ((block_IDs.f x0).bind fun r1 => loopO (block_twice.s0 x0 r1) (0, ([] : List (Point × Bool)), ([] : List ((List Int) × Bool))))
noncomputable def block_Check.f (x0 : Block) : Option Er := ((head_Check.f x0.Head).bind fun r1 => (if r1 ≠ (Er.b 0) then some r1 else (((if (x0.Txs.length : Int) = 0 then some true else some (decide (200 < (x0.Txs.length : Int))))).bind fun c1 => (if c1 = true then some xErrMany else ((block_Size.f x0).bind fun r2 => (if 20000 < r2 then some xErrLong else ((block_parts.f x0).bind fun r3 => (if r3 ≠ (Er.b 0) then some r3 else ((block_twice.f x0).bind fun r4 => (if r4 = true then some xErrTwice else ((block_Root.f x0).bind fun r5 => (if ¬ (r5 = x0.Head.Root) then some xErrRoot else some (Er.b 0)))))))))))))
noncomputable def block_First.f (x0 : Int) (x1 : Int) (x2 : List Int) (x3 : List Int) : Option Tx := ((compact_Four.f ([]) (IntKind.u32.wrap x0)).bind fun r1 => ((slices_Concat_byte_byte.f ([r1, x3] : List (List Int))).bind fun r2 => ((((spend_Null.f).bind fun r3 => some (r2, 1, ([(⟨r3, r2, 4294967295⟩ : In)] : List In), ([(⟨x1, x2⟩ : Out)] : List Out)))).bind fun (c1, c2, c3, c4) => some (⟨c2, c3, c4, 0⟩ : Tx))))
noncomputable def block_Start.f : Option Block := ((spend_Lock.f ([])).bind fun r1 => ((block_First.f 0 0 r1 ([])).bind fun r2 => ((block_Root.f (⟨(⟨1, (List.replicate 32 0), (List.replicate 32 0), 1000, 1, 0⟩ : Head), ([r2] : List Tx)⟩ : Block)).bind fun r3 => some (⟨(⟨1, (List.replicate 32 0), r3, 1000, 1, 0⟩ : Head), ([r2] : List Tx)⟩ : Block))))
end Go.Proofs.YtkfpmcplfodikaaDoor.T
