/- Proved: the statement BlockBack, as given (its conditions are those of the given row, and card where there is one; no others): the call ends, with true, and the input reads as it did. This file is one of its parts. -/
import Derived.Test.YtlpggofilkfbnaaDoorPBlockBack2
namespace Go.Proofs.YtlpggofilkfbnaaDoor.T
open Go Go.Proofs Go.Proofs.YtlpggofilkfbnaaDoor.K
set_option linter.unusedVariables false
set_option linter.unusedSimpArgs false
set_option maxRecDepth 20000 in
theorem compact_number.c (μ : Store) (w0 : World) (hμ : Agr μ w0) (x0 : List Int) (u0 : Value) (k0 : List Value) (hx0 : Els (RI .u8) 1 x0 k0) (ho0 : RowOK μ w0 5 1 u0 x0.length k0) (x1 : Int) (hx1 : InR .u64 x1) (x2 : Int) (hx2 : InR .i64 x2) (r : List Int) (H : compact_number.f x0 x1 x2 = some r) :
    Calls Tryd.prog 63 [u0, .int .u64 x1, .int .i64 x2].toArray w0 (fun e w' => ∃ v, e = .returned v ∧ ∃ (v0 : Value) (c0 : List Value), v = v0 ∧ Els (RI .u8) 1 r c0 ∧ Iv w0 (row 5 1 u0 x0.length k0).foot μ μ [row 5 1 v0 r.length c0] w') := by
  refine enter Tryd.func63 rfl Tryd.ntmps63 rfl fun a hA => ?_
  have hI := ho0.start hμ
  have H := bI H
  refine w_seq fun _ hN1 => ?_
  refine w_reg ?_
  refine stp hA (r_as hA rfl) rfl fun a hA => ?_
  refine o_nil ?_
  refine hN1 _ _ ?_
  obtain ⟨⟨c1, c2⟩, hz1, Hk1⟩ := bB H
  refine w_cut (fun a w => ∃ (vvc1 : Value) (ccc1 : List Value), Els (RI .u8) 1 c1 ccc1 ∧ InR .u64 c2 ∧ Fr a 19 [(0, vvc1), (1, .int .u64 c2), (2, .int .i64 x2), (6, (.slice none 0 0))] ∧ Iv w0 (row 5 1 u0 x0.length k0).foot μ μ [row 5 1 vvc1 c1.length ccc1] w) ?_ ?_
  · have H := bI hz1
    refine w_seq fun _ hN2 => ?_
    refine w_reg ?_
    refine stp hA (r_mv hA rfl) rfl fun a hA => 
      stp hA (r_mv hA rfl) rfl fun a hA => ?_
    refine o_nil ?_
    refine hN2 _ _ ?_
    refine w_block ?_
    obtain ⟨z1, hz2, Hk2⟩ := bind_some H
    obtain ⟨n1, hn1⟩ := loopO_some hz2
    refine w_loop (fun n a w => ∃ (s1 : List Int) (s2 : Int) (s3 : Int) (vvs1 : Value) (ccs1 : List Value), loopN (compact_number.s0 x2) n (s1, s2, s3) = some z1 ∧ Els (RI .u8) 1 s1 ccs1 ∧ InR .u64 s2 ∧ InR .i64 s3 ∧ Fr a 19 [(0, vvs1), (1, .int .u64 s2), (2, .int .i64 x2), (6, (.slice none 0 0)), (7, .int .i64 x2), (8, .int .i64 s3)] ∧ Iv w0 (row 5 1 u0 x0.length k0).foot μ μ [row 5 1 vvs1 s1.length ccs1] w) n1 ⟨x0, x1, 0, u0, k0, hn1, hx0, hx1, (in_lit .i64 0 rfl), hA.sub ⟨rfl, rfl, rfl, rfl, rfl, rfl, trivial⟩, hI⟩ ?_
    clear hA hI
    rintro n a w ⟨s1, s2, s3, vvs1, ccs1, hn1, ws1, ws2, ws3, hA, hI⟩
    obtain ⟨m1, rfl, H⟩ := loopN_bind hn1
    clear hn1
    refine w_seq fun _ hN3 => ?_
    refine w_reg ?_
    refine stp hA (r_lss hA rfl rfl) rfl fun a hA => ?_
    refine o_nil ?_
    refine hN3 _ _ ?_
    refine w_seq fun _ hN4 => ?_
    refine w_cond hA rfl (fun hc1 => ?_) (fun hc1 => ?_)
    · have hc10 := hc1; have hc1 := of_decide_eq_true hc1; have H := bT H hc1
      refine w_skip ?_
      refine hN4 _ _ ?_
      refine w_seq fun _ hN5 => ?_
      refine w_block ?_
      refine w_seq fun _ hN6 => ?_
      refine w_reg ?_
      refine stp hA (r_mv hA rfl) rfl fun a hA => 
        stp hA (r_mv hA rfl) rfl fun a hA => 
        stp hA (r_conv Tryd.underlying22 Tryd.underlying5 hA rfl) rfl fun a hA => ?_
      have hE1 : Els (RI .u8) 1 ([IntKind.u8.wrap s2] : List Int) ([[.int .u8 (IntKind.u8.wrap s2)]].flatten ++ ([])) := (Els.cons (c := [[.int .u8 (IntKind.u8.wrap s2)]].flatten) ⟨rfl, (wrap_in _ _)⟩ rfl Els.nil)
      refine o_bsl ([[.int .u8 (IntKind.u8.wrap s2)]].flatten ++ ([])) te5 zr5 Tryd.underlying25 hI hA rfl rfl rfl rfl (by kernel_rfl) rfl fun g1 a w hA hI => ?_
      generalize hcs : ([[.int .u8 (IntKind.u8.wrap s2)]].flatten ++ ([]) : List Value) = cs1 at hE1 hI
      clear hcs
      obtain ⟨hb1, H⟩ := bG H
      have hE3 := ws1.app hE1
      refine o_appL (xs := (s1 : List Int)) (ys := (([IntKind.u8.wrap s2] : List Int) : List Int)) (j := 1) te5 Tryd.underlying25 hI rfl hA rfl rfl (src_row hI (j := 0) rfl) hE1.len (hE1.ones (one_RI _)) (by first | decide | (have hq := hb1; (try simp only [List.length_cons, List.length_nil] at hq); (try simp only [List.length_cons, List.length_nil]); (try simp only [maxLen]); omega)) (by first | decide | (have hq := hb1; (try simp only [List.length_cons, List.length_nil] at hq); (try simp only [List.length_cons, List.length_nil]); (try simp only [maxLen]); omega)) rfl fun v1 a w hA hI => 
        stp hA (r_as hA rfl) rfl fun a hA => ?_
      refine o_nil ?_
      refine hN6 _ _ ?_
      refine w_reg ?_
      refine stp hA (r_mv hA rfl) rfl fun a hA => 
        stp hA (r_shr hA rfl rfl (by decide)) rfl fun a hA => 
        stp hA (r_as hA rfl) rfl fun a hA => ?_
      refine o_nil ?_
      refine hN5 _ _ ?_
      refine w_reg ?_
      refine stp hA (r_add hA rfl rfl) rfl fun a hA => 
        stp hA (r_mv hA rfl) rfl fun a hA => ?_
      refine o_nil ?_
      exact ⟨m1, Nat.lt_succ_self _, s1 ++ ([IntKind.u8.wrap s2] : List Int), sR .u64 s2 8, IntKind.i64.wrap (s3 + 1), v1, ccs1 ++ cs1, H, hE3, (sR_in rfl ws2 _), (wrap_in _ _), hA.sub ⟨rfl, rfl, rfl, rfl, rfl, rfl, trivial⟩, (hI.sel [1] (by decide) rfl)⟩
    · have hc10 := hc1; have hc1 := of_decide_eq_false hc1; have H := bF H hc1
      refine w_exit rfl ?_
      have H : some (s1, s2) = some z1 := H
      obtain rfl := Option.some.inj H
      have H := Hk2
      cases Option.some.inj (bS H)
      exact ⟨vvs1, ccs1, ws1, ws2, hA.sub ⟨rfl, rfl, rfl, rfl, trivial⟩, hI⟩
  · rintro a w ⟨vvc1, ccc1, wc1, wc2, hA, hI⟩
    have H := Hk1
    refine w_seq fun _ hN7 => ?_
    refine w_reg ?_
    refine stp hA (r_mv hA rfl) rfl fun a hA => 
      stp hA (r_as hA rfl) rfl fun a hA => ?_
    refine o_nil ?_
    refine hN7 _ _ ?_
    refine w_ret ?_
    obtain rfl := Option.some.inj (bS H)
    exact ret1 hA Tryd.results63 rfl ⟨_, rfl, vvc1, ccc1, rfl, wc1, (hI.less (Store.le.refl _) hI.le)⟩
set_option maxRecDepth 20000 in
theorem bytes_Clone.c (μ : Store) (w0 : World) (hμ : Agr μ w0) (x0 : List Int) (u0 : Value) (hx0 : Slc (RI .u8) 1 μ u0 x0) (r : List Int) (H : bytes_Clone.f x0 = some r) :
    Calls Tryd.prog 64 [u0].toArray w0 (fun e w' => ∃ v, e = .returned v ∧ ∃ (v0 : Value) (c0 : List Value), v = v0 ∧ Els (RI .u8) 1 r c0 ∧ Iv w0 [] μ μ [row 5 1 v0 r.length c0] w') := by
  obtain ⟨hb, H⟩ := guard_some H
  obtain rfl := Option.some.inj H
  obtain ⟨cs, hE, A, cp, rfl, h2, h3, h4, h5⟩ := hx0
  refine enter Tryd.func64 rfl Tryd.ntmps64 rfl fun a hA => ?_
  have hI := Iv.start hμ
  refine w_seq fun _ hN1 => w_reg (stp hA (r_as hA rfl) rfl fun a hA => o_nil (hN1 _ _ ?_))
  refine w_seq fun _ hN2 => w_seq fun _ hN3 => w_reg (stp hA (r_mv hA rfl) rfl fun a hA => stp hA (r_eqnil Tryd.underlying25 hA rfl rfl) rfl fun a hA => o_nil (hN3 _ _ ?_))
  refine w_cond hA rfl (fun hc => ?_) (fun hc => ?_)
  · have hx : x0 = [] := List.eq_nil_of_length_eq_zero (by
      rcases Nat.eq_zero_or_pos x0.length with h | h
      · exact h
      · rw [h4 (by omega)] at hc; cases hc)
    subst hx
    cases hE
    refine w_seq fun _ hN4 => w_reg (stp hA (r_as hA rfl) rfl fun a hA => o_nil (hN4 _ _ ?_))
    refine w_ret ?_
    have hI := hI.nilRow 5 1
    exact ret1 hA Tryd.results64 rfl ⟨_, rfl, .slice none 0 0, [], rfl, .nil, hI⟩
  · refine w_skip (hN2 _ _ ?_)
    refine w_seq fun _ hN5 => w_reg ?_
    refine o_bsl [] te5 zr5 Tryd.underlying25 hI hA rfl rfl rfl rfl (by kernel_rfl) rfl fun g a w hA hI => ?_
    refine stp hA (r_mv hA rfl) rfl fun a hA => ?_
    refine o_appL (xs := ([] : List Int)) (ys := x0) (j := 0) te5 Tryd.underlying25 hI rfl hA rfl rfl (src_sl hI.agr ⟨A, cp, rfl, h2, h3, h4, h5⟩ hE.len) hE.len (hE.ones (one_RI _)) (by simp only [List.length_nil, maxLen]; omega) (by simp only [List.length_nil]; omega) rfl fun v a w hA hI => ?_
    refine stp hA (r_as hA rfl) rfl fun a hA => o_nil (hN5 _ _ (w_ret ?_))
    exact ret1 hA Tryd.results64 rfl ⟨_, rfl, v, cs, rfl, hE, hI⟩
set_option maxRecDepth 20000 in
theorem compact_Four.c (μ : Store) (w0 : World) (hμ : Agr μ w0) (x0 : List Int) (u0 : Value) (hx0 : Slc (RI .u8) 1 μ u0 x0) (x1 : Int) (hx1 : InR .u32 x1) (r : List Int) (H : compact_Four.f x0 x1 = some r) :
    Calls Tryd.prog 33 [u0, .int .u32 x1].toArray w0 (fun e w' => ∃ v, e = .returned v ∧ ∃ (v0 : Value) (c0 : List Value), v = v0 ∧ Els (RI .u8) 1 r c0 ∧ Iv w0 [] μ μ [row 5 1 v0 r.length c0] w') := by
  refine enter Tryd.func33 rfl Tryd.ntmps33 rfl fun a hA => ?_
  have hI := Iv.start hμ
  have H := bI H
  refine w_seq fun _ hN1 => ?_
  refine w_reg ?_
  refine stp hA (r_as hA rfl) rfl fun a hA => ?_
  refine o_nil ?_
  refine hN1 _ _ ?_
  refine w_seq fun _ hN2 => ?_
  refine w_reg ?_
  refine stp hA (r_mv hA rfl) rfl fun a hA => ?_
  obtain ⟨r1, hr1, H⟩ := bB H
  refine o_call _ cf64 hA rfl (bytes_Clone.c μ _ hI.agr x0 u0 hx0 r1 hr1) rfl fun v1 a w hz1 hA => ?_
  obtain ⟨_, cs1, rfl, hE1, hi1⟩ := hz1
  have hI := hI.call hi1
  refine stp hA (r_mv hA rfl) rfl fun a hA => 
    stp hA (r_conv Tryd.underlying28 Tryd.underlying22 hA rfl) rfl fun a hA => ?_
  obtain ⟨r2, hr2, H⟩ := bB H
  refine o_call _ cf63 hA rfl (compact_number.c μ _ hI.agr r1 v1 cs1 hE1 (hI.item (j := 0) rfl) (IntKind.u64.wrap x1) (wrap_in _ _) 4 (in_lit .i64 4 rfl) r2 hr2) rfl fun v2 a w hz2 hA => ?_
  obtain ⟨_, cs2, rfl, hE2, hi2⟩ := hz2
  have hI := hI.call1 0 rfl hi2
  refine stp hA (r_as hA rfl) rfl fun a hA => ?_
  refine o_nil ?_
  refine hN2 _ _ ?_
  refine w_ret ?_
  obtain rfl := Option.some.inj (bS H)
  exact ret1 hA Tryd.results33 rfl ⟨_, rfl, v2, cs2, rfl, hE2, (hI.less (Store.le.refl _) hI.le)⟩
set_option maxRecDepth 20000 in
theorem compact_Len.c (μ : Store) (w0 : World) (hμ : Agr μ w0) (x0 : Int) (hx0 : InR .u64 x0) (r : Int) (H : compact_Len.f x0 = some r) :
    Calls Tryd.prog 77 [.int .u64 x0].toArray w0 (fun e w' => ∃ v, e = .returned v ∧ v = .int .i64 r ∧ InR .i64 r ∧ Iv w0 [] μ μ [] w') := by
  refine enter Tryd.func77 rfl Tryd.ntmps77 rfl fun a hA => ?_
  have hI := Iv.start hμ
  have H := bI H
  refine w_seq fun _ hN1 => ?_
  refine w_reg ?_
  refine stp hA (r_as hA rfl) rfl fun a hA => ?_
  refine o_nil ?_
  refine hN1 _ _ ?_
  refine w_seq fun _ hN2 => ?_
  refine w_block ?_
  refine w_seq fun _ hN3 => ?_
  refine w_reg ?_
  refine stp hA (r_mv hA rfl) rfl fun a hA => 
    stp hA (r_lss hA rfl rfl) rfl fun a hA => 
    stp hA (r_as hA rfl) rfl fun a hA => ?_
  refine o_nil ?_
  refine hN3 _ _ ?_
  refine w_cond hA rfl (fun hc1 => ?_) (fun hc1 => ?_)
  · have hc10 := hc1; have hc1 := of_decide_eq_true hc1; have H := bT H hc1
    refine w_seq fun _ hN4 => ?_
    refine w_reg ?_
    refine stp hA (r_as hA rfl) rfl fun a hA => ?_
    refine o_nil ?_
    refine hN4 _ _ ?_
    refine w_ret ?_
    obtain rfl := Option.some.inj (bS H)
    exact ret1 hA Tryd.results77 rfl ⟨_, rfl, rfl, (in_lit .i64 1 rfl), hI.forget0⟩
  · have hc10 := hc1; have hc1 := of_decide_eq_false hc1; have H := bF H hc1
    refine w_seq fun _ hN5 => ?_
    refine w_reg ?_
    refine stp hA (r_mv hA rfl) rfl fun a hA => 
      stp hA (r_lss hA rfl rfl) rfl fun a hA => 
      stp hA (r_as hA rfl) rfl fun a hA => ?_
    refine o_nil ?_
    refine hN5 _ _ ?_
    refine w_cond hA rfl (fun hc2 => ?_) (fun hc2 => ?_)
    · have hc20 := hc2; have hc2 := of_decide_eq_true hc2; have H := bT H hc2
      refine w_seq fun _ hN6 => ?_
      refine w_reg ?_
      refine stp hA (r_as hA rfl) rfl fun a hA => ?_
      refine o_nil ?_
      refine hN6 _ _ ?_
      refine w_ret ?_
      obtain rfl := Option.some.inj (bS H)
      exact ret1 hA Tryd.results77 rfl ⟨_, rfl, rfl, (in_lit .i64 3 rfl), hI.forget0⟩
    · have hc20 := hc2; have hc2 := of_decide_eq_false hc2; have H := bF H hc2
      refine w_seq fun _ hN7 => ?_
      refine w_reg ?_
      refine stp hA (r_mv hA rfl) rfl fun a hA => 
        stp hA (r_lss hA rfl rfl) rfl fun a hA => 
        stp hA (r_as hA rfl) rfl fun a hA => ?_
      refine o_nil ?_
      refine hN7 _ _ ?_
      refine w_cond hA rfl (fun hc3 => ?_) (fun hc3 => ?_)
      · have hc30 := hc3; have hc3 := of_decide_eq_true hc3; have H := bT H hc3
        refine w_seq fun _ hN8 => ?_
        refine w_reg ?_
        refine stp hA (r_as hA rfl) rfl fun a hA => ?_
        refine o_nil ?_
        refine hN8 _ _ ?_
        refine w_ret ?_
        obtain rfl := Option.some.inj (bS H)
        exact ret1 hA Tryd.results77 rfl ⟨_, rfl, rfl, (in_lit .i64 5 rfl), hI.forget0⟩
      · have hc30 := hc3; have hc3 := of_decide_eq_false hc3; have H := bF H hc3
        refine w_skip ?_
        refine hN2 _ _ ?_
        refine w_seq fun _ hN9 => ?_
        refine w_reg ?_
        refine stp hA (r_as hA rfl) rfl fun a hA => ?_
        refine o_nil ?_
        refine hN9 _ _ ?_
        refine w_ret ?_
        obtain rfl := Option.some.inj (bS H)
        exact ret1 hA Tryd.results77 rfl ⟨_, rfl, rfl, (in_lit .i64 9 rfl), hI.forget0⟩
set_option maxRecDepth 20000 in
theorem compact_Put.c (μ : Store) (w0 : World) (hμ : Agr μ w0) (x0 : List Int) (u0 : Value) (hx0 : Slc (RI .u8) 1 μ u0 x0) (x1 : Int) (hx1 : InR .u64 x1) (r : List Int) (H : compact_Put.f x0 x1 = some r) :
    Calls Tryd.prog 52 [u0, .int .u64 x1].toArray w0 (fun e w' => ∃ v, e = .returned v ∧ ∃ (v0 : Value) (c0 : List Value), v = v0 ∧ Els (RI .u8) 1 r c0 ∧ Iv w0 [] μ μ [row 5 1 v0 r.length c0] w') := by
  refine enter Tryd.func52 rfl Tryd.ntmps52 rfl fun a hA => ?_
  have hI := Iv.start hμ
  have H := bI H
  refine w_seq fun _ hN1 => ?_
  refine w_reg ?_
  refine stp hA (r_as hA rfl) rfl fun a hA => ?_
  refine o_nil ?_
  refine hN1 _ _ ?_
  refine w_seq fun _ hN2 => ?_
  refine w_reg ?_
  refine stp hA (r_mv hA rfl) rfl fun a hA => ?_
  obtain ⟨r1, hr1, H⟩ := bB H
  refine o_call _ cf64 hA rfl (bytes_Clone.c μ _ hI.agr x0 u0 hx0 r1 hr1) rfl fun v1 a w hz1 hA => ?_
  obtain ⟨_, cs1, rfl, hE1, hi1⟩ := hz1
  have hI := hI.call hi1
  refine stp hA (r_as hA rfl) rfl fun a hA => ?_
  refine o_nil ?_
  refine hN2 _ _ ?_
  refine w_seq fun _ hN3 => ?_
  refine w_seq fun _ hN4 => ?_
  refine w_reg ?_
  refine stp hA (r_mv hA rfl) rfl fun a hA => ?_
  obtain ⟨r2, hr2, H⟩ := bB H
  refine o_callp (u := .int .i64 r2) cf77 hA rfl hI (compact_Len.c μ _ hI.agr x1 hx1 r2 hr2) rfl fun a w hz2 hI hA => 
    stp hA (r_as hA rfl) rfl fun a hA => ?_
  refine o_nil ?_
  refine hN4 _ _ ?_
  refine w_seq fun _ hN5 => ?_
  refine w_reg ?_
  refine stp hA (r_mv hA rfl) rfl fun a hA => ?_
  refine o_nil ?_
  refine hN5 _ _ ?_
  refine w_block ?_
  refine w_seq fun _ hN6 => ?_
  refine w_reg ?_
  refine stp hA (r_eql hA rfl rfl) rfl fun a hA => 
    stp hA (r_as hA rfl) rfl fun a hA => ?_
  refine o_nil ?_
  refine hN6 _ _ ?_
  refine w_cond hA rfl (fun hc1 => ?_) (fun hc1 => ?_)
  · have hc10 := hc1; have hc1 := of_decide_eq_true hc1; have H := bT H hc1
    refine w_seq fun _ hN7 => ?_
    refine w_reg ?_
    refine stp hA (r_mv hA rfl) rfl fun a hA => 
      stp hA (r_mv hA rfl) rfl fun a hA => 
      stp hA (r_conv Tryd.underlying22 Tryd.underlying5 hA rfl) rfl fun a hA => ?_
    have hE2 : Els (RI .u8) 1 ([IntKind.u8.wrap x1] : List Int) ([[.int .u8 (IntKind.u8.wrap x1)]].flatten ++ ([])) := (Els.cons (c := [[.int .u8 (IntKind.u8.wrap x1)]].flatten) ⟨rfl, (wrap_in _ _)⟩ rfl Els.nil)
    refine o_bsl ([[.int .u8 (IntKind.u8.wrap x1)]].flatten ++ ([])) te5 zr5 Tryd.underlying25 hI hA rfl rfl rfl rfl (by kernel_rfl) rfl fun g1 a w hA hI => ?_
    generalize hcs : ([[.int .u8 (IntKind.u8.wrap x1)]].flatten ++ ([]) : List Value) = cs2 at hE2 hI
    clear hcs
    obtain ⟨hb1, H⟩ := bG H
    have hE4 := hE1.app hE2
    refine o_appL (xs := (r1 : List Int)) (ys := (([IntKind.u8.wrap x1] : List Int) : List Int)) (j := 1) te5 Tryd.underlying25 hI rfl hA rfl rfl (src_row hI (j := 0) rfl) hE2.len (hE2.ones (one_RI _)) (by first | decide | (have hq := hb1; (try simp only [List.length_cons, List.length_nil] at hq); (try simp only [List.length_cons, List.length_nil]); (try simp only [maxLen]); omega)) (by first | decide | (have hq := hb1; (try simp only [List.length_cons, List.length_nil] at hq); (try simp only [List.length_cons, List.length_nil]); (try simp only [maxLen]); omega)) rfl fun v2 a w hA hI => 
      stp hA (r_as hA rfl) rfl fun a hA => ?_
    refine o_nil ?_
    refine hN7 _ _ ?_
    refine w_ret ?_
    obtain rfl := Option.some.inj (bS H)
    exact ret1 hA Tryd.results52 rfl ⟨_, rfl, v2, cs1 ++ cs2, rfl, hE4, ((hI.sel [1] (by decide) rfl).less (Store.le.refl _) hI.le)⟩
  · have hc10 := hc1; have hc1 := of_decide_eq_false hc1; have H := bF H hc1
    refine w_seq fun _ hN8 => ?_
    refine w_reg ?_
    refine stp hA (r_eql hA rfl rfl) rfl fun a hA => 
      stp hA (r_as hA rfl) rfl fun a hA => ?_
    refine o_nil ?_
    refine hN8 _ _ ?_
    refine w_cond hA rfl (fun hc2 => ?_) (fun hc2 => ?_)
    · have hc20 := hc2; have hc2 := of_decide_eq_true hc2; have H := bT H hc2
      refine w_seq fun _ hN9 => ?_
      refine w_reg ?_
      refine stp hA (r_mv hA rfl) rfl fun a hA => ?_
      have hE5 : Els (RI .u8) 1 ([253] : List Int) ([[.int .u8 253]].flatten ++ ([])) := (Els.cons (c := [[.int .u8 253]].flatten) ⟨rfl, (in_lit .u8 253 rfl)⟩ rfl Els.nil)
      refine o_bsl ([[.int .u8 253]].flatten ++ ([])) te5 zr5 Tryd.underlying25 hI hA rfl rfl rfl rfl (by kernel_rfl) rfl fun g2 a w hA hI => ?_
      generalize hcs : ([[.int .u8 253]].flatten ++ ([]) : List Value) = cs5 at hE5 hI
      clear hcs
      obtain ⟨hb2, H⟩ := bG H
      have hE7 := hE1.app hE5
      refine o_appL (xs := (r1 : List Int)) (ys := (([253] : List Int) : List Int)) (j := 1) te5 Tryd.underlying25 hI rfl hA rfl rfl (src_row hI (j := 0) rfl) hE5.len (hE5.ones (one_RI _)) (by first | decide | (have hq := hb2; (try simp only [List.length_cons, List.length_nil] at hq); (try simp only [List.length_cons, List.length_nil]); (try simp only [maxLen]); omega)) (by first | decide | (have hq := hb2; (try simp only [List.length_cons, List.length_nil] at hq); (try simp only [List.length_cons, List.length_nil]); (try simp only [maxLen]); omega)) rfl fun v3 a w hA hI => 
        stp hA (r_mv hA rfl) rfl fun a hA => ?_
      obtain ⟨r3, hr3, H⟩ := bB H
      refine o_call _ cf63 hA rfl (compact_number.c μ _ hI.agr (r1 ++ ([253] : List Int)) v3 (cs1 ++ cs5) hE7 (hI.item (j := 1) rfl) x1 hx1 2 (in_lit .i64 2 rfl) r3 hr3) rfl fun v4 a w hz3 hA => ?_
      obtain ⟨_, cs8, rfl, hE8, hi2⟩ := hz3
      have hI := hI.call1 1 rfl hi2
      refine stp hA (r_as hA rfl) rfl fun a hA => ?_
      refine o_nil ?_
      refine hN9 _ _ ?_
      refine w_ret ?_
      obtain rfl := Option.some.inj (bS H)
      exact ret1 hA Tryd.results52 rfl ⟨_, rfl, v4, cs8, rfl, hE8, ((hI.sel [0] (by decide) rfl).less (Store.le.refl _) hI.le)⟩
    · have hc20 := hc2; have hc2 := of_decide_eq_false hc2; have H := bF H hc2
      refine w_seq fun _ hN10 => ?_
      refine w_reg ?_
      refine stp hA (r_eql hA rfl rfl) rfl fun a hA => 
        stp hA (r_as hA rfl) rfl fun a hA => ?_
      refine o_nil ?_
      refine hN10 _ _ ?_
      refine w_cond hA rfl (fun hc3 => ?_) (fun hc3 => ?_)
      · have hc30 := hc3; have hc3 := of_decide_eq_true hc3; have H := bT H hc3
        refine w_seq fun _ hN11 => ?_
        refine w_reg ?_
        refine stp hA (r_mv hA rfl) rfl fun a hA => ?_
        have hE9 : Els (RI .u8) 1 ([254] : List Int) ([[.int .u8 254]].flatten ++ ([])) := (Els.cons (c := [[.int .u8 254]].flatten) ⟨rfl, (in_lit .u8 254 rfl)⟩ rfl Els.nil)
        refine o_bsl ([[.int .u8 254]].flatten ++ ([])) te5 zr5 Tryd.underlying25 hI hA rfl rfl rfl rfl (by kernel_rfl) rfl fun g3 a w hA hI => ?_
        generalize hcs : ([[.int .u8 254]].flatten ++ ([]) : List Value) = cs9 at hE9 hI
        clear hcs
        obtain ⟨hb3, H⟩ := bG H
        have hE11 := hE1.app hE9
        refine o_appL (xs := (r1 : List Int)) (ys := (([254] : List Int) : List Int)) (j := 1) te5 Tryd.underlying25 hI rfl hA rfl rfl (src_row hI (j := 0) rfl) hE9.len (hE9.ones (one_RI _)) (by first | decide | (have hq := hb3; (try simp only [List.length_cons, List.length_nil] at hq); (try simp only [List.length_cons, List.length_nil]); (try simp only [maxLen]); omega)) (by first | decide | (have hq := hb3; (try simp only [List.length_cons, List.length_nil] at hq); (try simp only [List.length_cons, List.length_nil]); (try simp only [maxLen]); omega)) rfl fun v5 a w hA hI => 
          stp hA (r_mv hA rfl) rfl fun a hA => ?_
        obtain ⟨r4, hr4, H⟩ := bB H
        refine o_call _ cf63 hA rfl (compact_number.c μ _ hI.agr (r1 ++ ([254] : List Int)) v5 (cs1 ++ cs9) hE11 (hI.item (j := 1) rfl) x1 hx1 4 (in_lit .i64 4 rfl) r4 hr4) rfl fun v6 a w hz4 hA => ?_
        obtain ⟨_, cs12, rfl, hE12, hi3⟩ := hz4
        have hI := hI.call1 1 rfl hi3
        refine stp hA (r_as hA rfl) rfl fun a hA => ?_
        refine o_nil ?_
        refine hN11 _ _ ?_
        refine w_ret ?_
        obtain rfl := Option.some.inj (bS H)
        exact ret1 hA Tryd.results52 rfl ⟨_, rfl, v6, cs12, rfl, hE12, ((hI.sel [0] (by decide) rfl).less (Store.le.refl _) hI.le)⟩
      · have hc30 := hc3; have hc3 := of_decide_eq_false hc3; have H := bF H hc3
        refine w_skip ?_
        refine hN3 _ _ ?_
        refine w_seq fun _ hN12 => ?_
        refine w_reg ?_
        refine stp hA (r_mv hA rfl) rfl fun a hA => ?_
        have hE13 : Els (RI .u8) 1 ([255] : List Int) ([[.int .u8 255]].flatten ++ ([])) := (Els.cons (c := [[.int .u8 255]].flatten) ⟨rfl, (in_lit .u8 255 rfl)⟩ rfl Els.nil)
        refine o_bsl ([[.int .u8 255]].flatten ++ ([])) te5 zr5 Tryd.underlying25 hI hA rfl rfl rfl rfl (by kernel_rfl) rfl fun g4 a w hA hI => ?_
        generalize hcs : ([[.int .u8 255]].flatten ++ ([]) : List Value) = cs13 at hE13 hI
        clear hcs
        obtain ⟨hb4, H⟩ := bG H
        have hE15 := hE1.app hE13
        refine o_appL (xs := (r1 : List Int)) (ys := (([255] : List Int) : List Int)) (j := 1) te5 Tryd.underlying25 hI rfl hA rfl rfl (src_row hI (j := 0) rfl) hE13.len (hE13.ones (one_RI _)) (by first | decide | (have hq := hb4; (try simp only [List.length_cons, List.length_nil] at hq); (try simp only [List.length_cons, List.length_nil]); (try simp only [maxLen]); omega)) (by first | decide | (have hq := hb4; (try simp only [List.length_cons, List.length_nil] at hq); (try simp only [List.length_cons, List.length_nil]); (try simp only [maxLen]); omega)) rfl fun v7 a w hA hI => 
          stp hA (r_mv hA rfl) rfl fun a hA => ?_
        obtain ⟨r5, hr5, H⟩ := bB H
        refine o_call _ cf63 hA rfl (compact_number.c μ _ hI.agr (r1 ++ ([255] : List Int)) v7 (cs1 ++ cs13) hE15 (hI.item (j := 1) rfl) x1 hx1 8 (in_lit .i64 8 rfl) r5 hr5) rfl fun v8 a w hz5 hA => ?_
        obtain ⟨_, cs16, rfl, hE16, hi4⟩ := hz5
        have hI := hI.call1 1 rfl hi4
        refine stp hA (r_as hA rfl) rfl fun a hA => ?_
        refine o_nil ?_
        refine hN12 _ _ ?_
        refine w_ret ?_
        obtain rfl := Option.some.inj (bS H)
        exact ret1 hA Tryd.results52 rfl ⟨_, rfl, v8, cs16, rfl, hE16, ((hI.sel [0] (by decide) rfl).less (Store.le.refl _) hI.le)⟩
set_option maxRecDepth 20000 in
theorem compact_Eight.c (μ : Store) (w0 : World) (hμ : Agr μ w0) (x0 : List Int) (u0 : Value) (hx0 : Slc (RI .u8) 1 μ u0 x0) (x1 : Int) (hx1 : InR .u64 x1) (r : List Int) (H : compact_Eight.f x0 x1 = some r) :
    Calls Tryd.prog 78 [u0, .int .u64 x1].toArray w0 (fun e w' => ∃ v, e = .returned v ∧ ∃ (v0 : Value) (c0 : List Value), v = v0 ∧ Els (RI .u8) 1 r c0 ∧ Iv w0 [] μ μ [row 5 1 v0 r.length c0] w') := by
  refine enter Tryd.func78 rfl Tryd.ntmps78 rfl fun a hA => ?_
  have hI := Iv.start hμ
  have H := bI H
  refine w_seq fun _ hN1 => ?_
  refine w_reg ?_
  refine stp hA (r_as hA rfl) rfl fun a hA => ?_
  refine o_nil ?_
  refine hN1 _ _ ?_
  refine w_seq fun _ hN2 => ?_
  refine w_reg ?_
  refine stp hA (r_mv hA rfl) rfl fun a hA => ?_
  obtain ⟨r1, hr1, H⟩ := bB H
  refine o_call _ cf64 hA rfl (bytes_Clone.c μ _ hI.agr x0 u0 hx0 r1 hr1) rfl fun v1 a w hz1 hA => ?_
  obtain ⟨_, cs1, rfl, hE1, hi1⟩ := hz1
  have hI := hI.call hi1
  refine stp hA (r_mv hA rfl) rfl fun a hA => ?_
  obtain ⟨r2, hr2, H⟩ := bB H
  refine o_call _ cf63 hA rfl (compact_number.c μ _ hI.agr r1 v1 cs1 hE1 (hI.item (j := 0) rfl) x1 hx1 8 (in_lit .i64 8 rfl) r2 hr2) rfl fun v2 a w hz2 hA => ?_
  obtain ⟨_, cs2, rfl, hE2, hi2⟩ := hz2
  have hI := hI.call1 0 rfl hi2
  refine stp hA (r_as hA rfl) rfl fun a hA => ?_
  refine o_nil ?_
  refine hN2 _ _ ?_
  refine w_ret ?_
  obtain rfl := Option.some.inj (bS H)
  exact ret1 hA Tryd.results78 rfl ⟨_, rfl, v2, cs2, rfl, hE2, (hI.less (Store.le.refl _) hI.le)⟩
set_option maxRecDepth 20000 in
theorem compact_Sum.c (μ : Store) (w0 : World) (hμ : Agr μ w0) (x0 : List Int) (u0 : Value) (hx0 : Slc (RI .u64) 1 μ u0 x0) (r : Int × Bool) (H : compact_Sum.f x0 = some r) :
    Calls Tryd.prog 106 [u0].toArray w0 (fun e w' => ∃ v, e = .returned v ∧ v = .tuple #[.int .u64 r.1, .bool r.2] ∧ (InR .u64 r.1 ∧ True) ∧ Iv w0 [] μ μ [] w') := by
  refine enter Tryd.func106 rfl Tryd.ntmps106 rfl fun a hA => ?_
  have hI := Iv.start hμ
  have H := bI H
  refine w_seq fun _ hN1 => ?_
  refine w_reg ?_
  refine stp hA (r_as hA rfl) rfl fun a hA => 
    stp hA (r_as hA rfl) rfl fun a hA => ?_
  refine o_nil ?_
  refine hN1 _ _ ?_
  refine w_seq fun _ hN2 => ?_
  refine w_reg ?_
  refine stp hA (r_as hA rfl) rfl fun a hA => ?_
  refine o_nil ?_
  refine hN2 _ _ ?_
  refine w_seq fun _ hN3 => ?_
  refine w_seq fun _ hN4 => ?_
  refine w_reg ?_
  refine stp hA (r_mv hA rfl) rfl fun a hA => ?_
  obtain ⟨_, hsl1⟩ := Slc.sv hx0
  refine stp hA (r_slen Tryd.underlying147 hsl1 hA rfl) rfl fun a hA => 
    stp hA (r_mv hA rfl) rfl fun a hA => ?_
  refine o_nil ?_
  refine hN4 _ _ ?_
  refine w_block ?_
  obtain ⟨z1, hz1, Hk1⟩ := bind_some H
  obtain ⟨n1, hn1⟩ := loopO_some hz1
  refine w_loop (fun n a w => ∃ (s1 : Int) (s2 : Int), loopN (compact_Sum.s0 x0) n (s1, s2) = some z1 ∧ InR .u64 s1 ∧ InR .i64 s2 ∧ Fr a 22 [(0, u0), (2, .int .u64 0), (3, .bool false), (4, .int .u64 s1), (7, u0), (8, .int .i64 (x0.length : Int)), (9, .int .i64 s2)] ∧ Iv w0 [] μ μ [] w) n1 ⟨0, 0, hn1, (in_lit .u64 0 rfl), (in_lit .i64 0 rfl), hA.sub ⟨rfl, rfl, rfl, rfl, rfl, rfl, rfl, trivial⟩, hI⟩ ?_
  clear hA hI
  rintro n a w ⟨s1, s2, hn1, ws1, ws2, hA, hI⟩
  obtain ⟨m1, rfl, H⟩ := loopN_bind hn1
  clear hn1
  refine w_seq fun _ hN5 => ?_
  refine w_reg ?_
  refine stp hA (r_lss hA rfl rfl) rfl fun a hA => ?_
  refine o_nil ?_
  refine hN5 _ _ ?_
  refine w_seq fun _ hN6 => ?_
  refine w_cond hA rfl (fun hc1 => ?_) (fun hc1 => ?_)
  · have hc10 := hc1; have hc1 := of_decide_eq_true hc1; have H := bT H hc1
    refine w_skip ?_
    refine hN6 _ _ ?_
    refine w_seq fun _ hN7 => ?_
    refine w_block ?_
    refine w_seq fun _ hN8 => ?_
    refine w_reg ?_
    obtain ⟨hb1, H⟩ := bG H
    obtain ⟨_, he1, _, hat1⟩ := Slc.elem1 hx0 (getD_some 0 hb1.1 hb1.2)
    obtain ⟨rfl, hw1⟩ := he1
    obtain ⟨_, hsl2⟩ := Slc.sv hx0
    refine stp hA (r_six1 Tryd.underlying147 sz22 hsl2 hA rfl rfl hb1.1 hb1.2) rfl fun a hA => 
      stp hA (r_ldm1 [] [] Tryd.underlying22 rfl hI.agr hat1 hA rfl rfl) rfl fun a hA => 
      stp hA (r_as hA rfl) rfl fun a hA => ?_
    refine o_nil ?_
    refine hN8 _ _ ?_
    refine w_seq fun _ hN9 => ?_
    refine w_seq fun _ hN10 => ?_
    refine w_reg ?_
    refine stp hA (r_mv hA rfl) rfl fun a hA => 
      stp hA (r_mv hA rfl) rfl fun a hA => 
      stp hA (r_sub hA rfl rfl) rfl fun a hA => 
      stp hA (r_gtr hA rfl rfl) rfl fun a hA => ?_
    refine o_nil ?_
    refine hN10 _ _ ?_
    refine w_cond hA rfl (fun hc2 => ?_) (fun hc2 => ?_)
    · have hc20 := hc2; have hc2 := of_decide_eq_true hc2; have H := bT H hc2
      refine w_seq fun _ hN11 => ?_
      refine w_reg ?_
      refine stp hA (r_as hA rfl) rfl fun a hA => 
        stp hA (r_as hA rfl) rfl fun a hA => ?_
      refine o_nil ?_
      refine hN11 _ _ ?_
      refine w_ret ?_
      have H : some (0, false) = some z1 := H
      obtain rfl := Option.some.inj H
      have H := Hk1
      obtain rfl := Option.some.inj (bS H)
      exact ret2 hA Tryd.results106 rfl rfl ⟨_, rfl, rfl, ⟨(in_lit .u64 0 rfl), trivial⟩, hI.forget0⟩
    · have hc20 := hc2; have hc2 := of_decide_eq_false hc2; have H := bF H hc2
      refine w_skip ?_
      refine hN9 _ _ ?_
      refine w_reg ?_
      refine stp hA (r_mv hA rfl) rfl fun a hA => 
        stp hA (r_mv hA rfl) rfl fun a hA => 
        stp hA (r_add hA rfl rfl) rfl fun a hA => 
        stp hA (r_as hA rfl) rfl fun a hA => ?_
      refine o_nil ?_
      refine hN7 _ _ ?_
      refine w_reg ?_
      refine stp hA (r_add hA rfl rfl) rfl fun a hA => 
        stp hA (r_mv hA rfl) rfl fun a hA => ?_
      refine o_nil ?_
      exact ⟨m1, Nat.lt_succ_self _, IntKind.u64.wrap (s1 + (x0.getD s2.toNat 0)), IntKind.i64.wrap (s2 + 1), H, (wrap_in _ _), (wrap_in _ _), hA.sub ⟨rfl, rfl, rfl, rfl, rfl, rfl, rfl, trivial⟩, hI⟩
  · have hc10 := hc1; have hc1 := of_decide_eq_false hc1; have H := bF H hc1
    refine w_exit rfl ?_
    refine hN3 _ _ ?_
    refine w_seq fun _ hN12 => ?_
    refine w_reg ?_
    refine stp hA (r_mv hA rfl) rfl fun a hA => 
      stp hA (r_as hA rfl) rfl fun a hA => 
      stp hA (r_as hA rfl) rfl fun a hA => ?_
    refine o_nil ?_
    refine hN12 _ _ ?_
    refine w_ret ?_
    have H : some (s1, true) = some z1 := H
    obtain rfl := Option.some.inj H
    have H := Hk1
    obtain rfl := Option.some.inj (bS H)
    exact ret2 hA Tryd.results106 rfl rfl ⟨_, rfl, rfl, ⟨ws1, trivial⟩, hI.forget0⟩
set_option maxRecDepth 20000 in
theorem compact_Read.c (μ : Store) (w0 : World) (hμ : Agr μ w0) (x0 : List Int) (u0 : Value) (hx0 : Slc (RI .u8) 1 μ u0 x0) (r : compactReader) (H : compact_Read.f x0 = some r) :
    Calls Tryd.prog 55 [u0].toArray w0 (fun e w' => ∃ v, e = .returned v ∧ ∃ (gq_1 : Nat) (vp_1 : Value) (vp_2 : Value) (μ' : Store), v = .pointer (some ⟨gq_1, 0, none⟩) ∧ Slc (RI .u8) 1 μ' vp_1 r.b ∧ InR .i64 r.at_ ∧ ErS μ' vp_2 r.err ∧ Iv w0 [] μ μ' [cel gq_1 [[vp_1], [.int .i64 r.at_], [vp_2]] 121] w') := by
  refine enter Tryd.func55 rfl Tryd.ntmps55 rfl fun a hA => ?_
  have hI := Iv.start hμ
  have H := bI H
  refine w_seq fun _ hN1 => ?_
  refine w_reg ?_
  refine stp hA (r_as hA rfl) rfl fun a hA => ?_
  refine o_nil ?_
  refine hN1 _ _ ?_
  refine w_seq fun _ hN2 => ?_
  refine w_reg ?_
  refine stp hA (r_mv hA rfl) rfl fun a hA => ?_
  obtain ⟨r1, hr1, H⟩ := bB H
  refine o_call _ cf64 hA rfl (bytes_Clone.c μ _ hI.agr x0 u0 hx0 r1 hr1) rfl fun v1 a w hz1 hA => ?_
  obtain ⟨_, cs1, rfl, hE1, hi1⟩ := hz1
  have hI := hI.call hi1
  refine stp hA (r_bldS (cs := [[v1], [.int .i64 0], [.nilIface]].flatten.toArray) (pl := [(0, 1), (1, 1), (2, 1)]) zr121 Tryd.underlying121 ⟨rfl, sz25, rfl, sz3, rfl, sz51, trivial⟩ hA rfl ((fill_one (own_cell hI (j := 0) rfl) rfl (by kernel_rfl)).trans (by kernel_rfl))) rfl fun a hA => 
    o_box [[v1], [.int .i64 0], [.nilIface]] hI hA rfl rfl rfl fun g1 a w hA hI hg1 => 
    stp hA (r_as hA rfl) rfl fun a hA => ?_
  refine o_nil ?_
  refine hN2 _ _ ?_
  refine w_ret ?_
  obtain ⟨μ1, hle1, hsv1, hI⟩ := hI.freezeRow 1 rfl
  have hS1 : Slc (RI .u8) 1 μ1 v1 r1 := ⟨_, hE1, hsv1⟩
  obtain rfl := Option.some.inj (bS H)
  exact ret1 hA Tryd.results55 rfl ⟨_, rfl, g1, v1, .nilIface, μ1, rfl, hS1, (in_lit .i64 0 rfl), erv_nil, hI⟩
set_option maxRecDepth 20000 in
theorem compact_Reader_Err.c (μ : Store) (w0 : World) (hμ : Agr μ w0) (x0 : compactReader) (vp1 : Value) (vp2 : Value) (g0 : Nat) (hp1 : Slc (RI .u8) 1 μ vp1 x0.b) (hp2 : InR .i64 x0.at_) (hp3 : ErS μ vp2 x0.err) (ho0 : Its μ w0 [cel g0 [[vp1], [.int .i64 x0.at_], [vp2]] 121]) (r : Er) (H : compact_Reader_Err.f x0 = some r) :
    Calls Tryd.prog 59 [.pointer (some ⟨g0, 0, none⟩)].toArray w0 (fun e w' => ∃ v, e = .returned v ∧ ∃ (v0 : Value) (μ' : Store), v = v0 ∧ ErS μ' v0 r ∧ Iv w0 (many [cel g0 [[vp1], [.int .i64 x0.at_], [vp2]] 121]).foot μ μ' [cel g0 [[vp1], [.int .i64 x0.at_], [vp2]] 121] w') := by
  refine enter Tryd.func59 rfl Tryd.ntmps59 rfl fun a hA => ?_
  have hI := Iv.startN hμ ho0
  have H := bI H
  refine w_seq fun _ hN1 => ?_
  refine w_reg ?_
  refine stp hA (r_as hA rfl) rfl fun a hA => ?_
  refine o_nil ?_
  refine hN1 _ _ ?_
  refine w_seq fun _ hN2 => ?_
  refine w_reg ?_
  refine stp hA (r_mv hA rfl) rfl fun a hA => 
    stp hA (r_nilc hA rfl) rfl fun a hA => 
    stp hA (r_fd (k := 2) Tryd.underlying121 rfl sz51 hA rfl rfl) rfl fun a hA => 
    stp hA (r_ld1 (j := 0) [[vp1], [.int .i64 x0.at_]] [] Tryd.underlying51 rfl hI rfl hA rfl rfl) rfl fun a hA => 
    stp hA (r_as hA rfl) rfl fun a hA => ?_
  refine o_nil ?_
  refine hN2 _ _ ?_
  refine w_ret ?_
  obtain rfl := Option.some.inj (bS H)
  exact ret1 hA Tryd.results59 rfl ⟨_, rfl, vp2, μ, rfl, hp3, hI⟩
set_option maxRecDepth 20000 in
theorem compact_Reader_next.c (μ : Store) (w0 : World) (hμ : Agr μ w0) (x0 : compactReader) (vp1 : Value) (vp2 : Value) (g0 : Nat) (hp1 : Slc (RI .u8) 1 μ vp1 x0.b) (hp2 : InR .i64 x0.at_) (hp3 : ErS μ vp2 x0.err) (ho0 : Its μ w0 [cel g0 [[vp1], [.int .i64 x0.at_], [vp2]] 121]) (x1 : Int) (hx1 : InR .i64 x1) (e9 : Value) (he9 : ErS μ e9 (Er.b 10)) (r : (List Int) × compactReader) (H : compact_Reader_next.f x0 x1 = some r) :
    Calls Tryd.prog 99 [.pointer (some ⟨g0, 0, none⟩), .int .i64 x1].toArray w0 (fun e w' => ∃ v, e = .returned v ∧ ∃ (v0 : Value) (vp_1 : Value) (vp_2 : Value) (μ' : Store), v = v0 ∧ Slc (RI .u8) 1 μ' v0 (r.1) ∧ Slc (RI .u8) 1 μ' vp_1 (r.2).b ∧ InR .i64 (r.2).at_ ∧ ErS μ' vp_2 (r.2).err ∧ Iv w0 (many [cel g0 [[vp1], [.int .i64 x0.at_], [vp2]] 121]).foot μ μ' [cel g0 [[vp_1], [.int .i64 ((r.2).at_)], [vp_2]] 121] w') := by
  refine enter Tryd.func99 rfl Tryd.ntmps99 rfl fun a hA => ?_
  have hI := Iv.startN hμ ho0
  have H := bI H
  refine w_seq fun _ hN1 => ?_
  refine w_reg ?_
  refine stp hA (r_as hA rfl) rfl fun a hA => ?_
  refine o_nil ?_
  refine hN1 _ _ ?_
  refine w_seq fun _ hN2 => ?_
  refine w_seq fun _ hN3 => ?_
  refine w_reg ?_
  refine stp hA (r_mv hA rfl) rfl fun a hA => 
    stp hA (r_nilc hA rfl) rfl fun a hA => 
    stp hA (r_fd (k := 2) Tryd.underlying121 rfl sz51 hA rfl rfl) rfl fun a hA => 
    stp hA (r_ld1 (j := 0) [[vp1], [.int .i64 x0.at_]] [] Tryd.underlying51 rfl hI rfl hA rfl rfl) rfl fun a hA => 
    stp hA (r_neE erF hI.agr hp3 erv_nil (.inl ⟨.inr ⟨_, rfl⟩, Er.fitR⟩) hA rfl rfl) rfl fun a hA => ?_
  refine o_nil ?_
  refine hN3 _ _ ?_
  refine w_cond hA rfl (fun hc1 => ?_) (fun hc1 => ?_)
  · have hc10 := hc1; have hc1 := of_decide_eq_true hc1; have H := bT H hc1
    refine w_seq fun _ hN4 => ?_
    refine w_reg ?_
    refine stp hA (r_as hA rfl) rfl fun a hA => ?_
    refine o_nil ?_
    refine hN4 _ _ ?_
    refine w_ret ?_
    obtain rfl := Option.some.inj (bS H)
    exact ret1 hA Tryd.results99 rfl ⟨_, rfl, (.slice none 0 0), vp1, vp2, μ, rfl, (slc_nil _ _ _), hp1, hp2, hp3, hI⟩
  · have hc10 := hc1; have hc1 := of_decide_eq_false hc1; have H := bF H hc1
    refine w_skip ?_
    refine hN2 _ _ ?_
    refine w_seq fun _ hN5 => ?_
    refine w_seq fun _ hN6 => ?_
    refine w_draw mo (by kernel_rfl) hI ?_
    refine qtp hA (fun _ hI => r_mv hA rfl) rfl fun a hA => 
      qtp hA (fun _ hI => r_mv hA rfl) rfl fun a hA => 
      qtp hA (fun _ hI => r_nilc hA rfl) rfl fun a hA => 
      qtp hA (fun _ hI => r_fd (k := 0) Tryd.underlying121 rfl sz25 hA rfl rfl) rfl fun a hA => 
      qtp hA (fun _ hI => r_ld1 (j := 0) [] [[.int .i64 x0.at_], [vp2]] Tryd.underlying25 rfl hI rfl hA rfl rfl) rfl fun a hA => ?_
    obtain ⟨_, hsl1⟩ := Slc.sv hp1
    refine qtp hA (fun _ hI => r_slen Tryd.underlying25 hsl1 hA rfl) rfl fun a hA => 
      qtp hA (fun _ hI => r_mv hA rfl) rfl fun a hA => 
      qtp hA (fun _ hI => r_nilc hA rfl) rfl fun a hA => 
      qtp hA (fun _ hI => r_fd (k := 1) Tryd.underlying121 rfl sz3 hA rfl rfl) rfl fun a hA => 
      qtp hA (fun _ hI => r_ld1 (j := 0) [[vp1]] [[vp2]] Tryd.underlying3 rfl hI rfl hA rfl rfl) rfl fun a hA => 
      qtp hA (fun _ hI => r_sub hA rfl rfl) rfl fun a hA => 
      qtp hA (fun _ hI => r_gtr hA rfl rfl) rfl fun a hA => ?_
    refine q_nil fun w hI => ?_
    refine hN6 _ _ ?_
    refine w_cond hA rfl (fun hc2 => ?_) (fun hc2 => ?_)
    · have hc20 := hc2; have hc2 := of_decide_eq_true hc2; have H := bT H hc2
      refine w_seq fun _ hN7 => ?_
      refine w_reg ?_
      refine stp hA (r_mv hA rfl) rfl fun a hA => 
        stp hA (r_ldG Tryd.underlying51 rfl hI.agr he9 hA) rfl fun a hA => 
        stp hA (r_nilc hA rfl) rfl fun a hA => 
        stp hA (r_fd (k := 2) Tryd.underlying121 rfl sz51 hA rfl rfl) rfl fun a hA => ?_
      have hsc : ErS μ e9 xErrEnd := he9
      refine o_st (j := 0) [[vp1], [.int .i64 x0.at_]] [[vp2]] [[e9]] [] sz51 rfl rfl (by intro c hc; simp at hc; subst hc; exact ErV.one hsc) hI rfl hA rfl rfl (cells_err hsc) rfl fun w hI => ?_
      refine o_nil ?_
      refine hN7 _ _ ?_
      refine w_seq fun _ hN8 => ?_
      refine w_reg ?_
      refine stp hA (r_as hA rfl) rfl fun a hA => ?_
      refine o_nil ?_
      refine hN8 _ _ ?_
      refine w_ret ?_
      obtain rfl := Option.some.inj (bS H)
      exact ret1 hA Tryd.results99 rfl ⟨_, rfl, (.slice none 0 0), vp1, e9, μ, rfl, (slc_nil _ _ _), hp1, hp2, he9, hI⟩
    · have hc20 := hc2; have hc2 := of_decide_eq_false hc2; have H := bF H hc2
      refine w_skip ?_
      refine hN5 _ _ ?_
      refine w_seq fun _ hN9 => ?_
      refine w_reg ?_
      refine stp hA (r_mv hA rfl) rfl fun a hA => 
        stp hA (r_nilc hA rfl) rfl fun a hA => 
        stp hA (r_fd (k := 1) Tryd.underlying121 rfl sz3 hA rfl rfl) rfl fun a hA => 
        stp hA (r_ld1 (j := 0) [[vp1]] [[vp2]] Tryd.underlying3 rfl hI rfl hA rfl rfl) rfl fun a hA => 
        stp hA (r_mv hA rfl) rfl fun a hA => 
        stp hA (r_add hA rfl rfl) rfl fun a hA => 
        stp hA (r_nilc hA rfl) rfl fun a hA => 
        stp hA (r_fd (k := 1) Tryd.underlying121 rfl sz3 hA rfl rfl) rfl fun a hA => 
        o_st (j := 0) [[vp1]] [[.int .i64 x0.at_]] [[.int .i64 (IntKind.i64.wrap (x0.at_ + x1))]] [[vp2]] sz3 rfl rfl (fl_cons (one_one rfl) fl_nil) hI rfl hA rfl rfl rfl rfl fun w hI => ?_
      refine o_nil ?_
      refine hN9 _ _ ?_
      refine w_seq fun _ hN10 => ?_
      refine w_draw mo (by kernel_rfl) hI ?_
      refine qtp hA (fun _ hI => r_mv hA rfl) rfl fun a hA => 
        qtp hA (fun _ hI => r_nilc hA rfl) rfl fun a hA => 
        qtp hA (fun _ hI => r_fd (k := 0) Tryd.underlying121 rfl sz25 hA rfl rfl) rfl fun a hA => 
        qtp hA (fun _ hI => r_ld1 (j := 0) [] [[.int .i64 (IntKind.i64.wrap (x0.at_ + x1))], [vp2]] Tryd.underlying25 rfl hI rfl hA rfl rfl) rfl fun a hA => 
        qtp hA (fun _ hI => r_mv hA rfl) rfl fun a hA => 
        qtp hA (fun _ hI => r_nilc hA rfl) rfl fun a hA => 
        qtp hA (fun _ hI => r_fd (k := 1) Tryd.underlying121 rfl sz3 hA rfl rfl) rfl fun a hA => 
        qtp hA (fun _ hI => r_ld1 (j := 0) [[vp1]] [[vp2]] Tryd.underlying3 rfl hI rfl hA rfl rfl) rfl fun a hA => 
        qtp hA (fun _ hI => r_mv hA rfl) rfl fun a hA => 
        qtp hA (fun _ hI => r_sub hA rfl rfl) rfl fun a hA => 
        qtp hA (fun _ hI => r_mv hA rfl) rfl fun a hA => 
        qtp hA (fun _ hI => r_nilc hA rfl) rfl fun a hA => 
        qtp hA (fun _ hI => r_fd (k := 1) Tryd.underlying121 rfl sz3 hA rfl rfl) rfl fun a hA => 
        qtp hA (fun _ hI => r_ld1 (j := 0) [[vp1]] [[vp2]] Tryd.underlying3 rfl hI rfl hA rfl rfl) rfl fun a hA => ?_
      obtain ⟨hb1, H⟩ := bG H
      obtain ⟨v1, hS1, hr1⟩ := r_sl (P := Tryd.prog) (t := 25) (x := .tmp 37) (l := (some (.tmp 43))) (h := (some (.tmp 47))) (i := IntKind.i64.wrap ((IntKind.i64.wrap (x0.at_ + x1)) - x1)) (j := IntKind.i64.wrap (x0.at_ + x1)) Tryd.underlying25 sz5 hp1 hA rfl rfl rfl (by have hq := hb1; omega) (by have hq := hb1; omega) (by have hq := hb1; omega)
      refine qtp hA (fun _ hI => hr1 _ _ _ _ _ _) rfl fun a hA => 
        qtp hA (fun _ hI => r_as hA rfl) rfl fun a hA => ?_
      refine q_nil fun w hI => ?_
      refine hN10 _ _ ?_
      refine w_ret ?_
      obtain rfl := Option.some.inj (bS H)
      exact ret1 hA Tryd.results99 rfl ⟨_, rfl, v1, vp1, vp2, μ, rfl, hS1, hp1, (wrap_in _ _), hp3, hI⟩
set_option maxRecDepth 20000 in
theorem compact_Reader_whole.c (μ : Store) (w0 : World) (hμ : Agr μ w0) (x0 : compactReader) (vp1 : Value) (vp2 : Value) (g0 : Nat) (hp1 : Slc (RI .u8) 1 μ vp1 x0.b) (hp2 : InR .i64 x0.at_) (hp3 : ErS μ vp2 x0.err) (ho0 : Its μ w0 [cel g0 [[vp1], [.int .i64 x0.at_], [vp2]] 121]) (x1 : Int) (hx1 : InR .i64 x1) (e9 : Value) (he9 : ErS μ e9 (Er.b 10)) (r : Int × compactReader) (H : compact_Reader_whole.f x0 x1 = some r) :
    Calls Tryd.prog 81 [.pointer (some ⟨g0, 0, none⟩), .int .i64 x1].toArray w0 (fun e w' => ∃ v, e = .returned v ∧ ∃ (vp_1 : Value) (vp_2 : Value) (μ' : Store), v = .int .u64 (r.1) ∧ InR .u64 (r.1) ∧ Slc (RI .u8) 1 μ' vp_1 (r.2).b ∧ InR .i64 (r.2).at_ ∧ ErS μ' vp_2 (r.2).err ∧ Iv w0 (many [cel g0 [[vp1], [.int .i64 x0.at_], [vp2]] 121]).foot μ μ' [cel g0 [[vp_1], [.int .i64 ((r.2).at_)], [vp_2]] 121] w') := by
  refine enter Tryd.func81 rfl Tryd.ntmps81 rfl fun a hA => ?_
  have hI := Iv.startN hμ ho0
  have H := bI H
  refine w_seq fun _ hN1 => ?_
  refine w_reg ?_
  refine stp hA (r_as hA rfl) rfl fun a hA => ?_
  refine o_nil ?_
  refine hN1 _ _ ?_
  refine w_seq fun _ hN2 => ?_
  refine w_reg ?_
  refine stp hA (r_as hA rfl) rfl fun a hA => ?_
  refine o_nil ?_
  refine hN2 _ _ ?_
  obtain ⟨⟨c1, c2, c3, c4⟩, hz1, Hk1⟩ := bB H
  refine w_cut (fun a w => ∃ (μ1 : Store) (vvc2 : Value) (vvc4 : Value), μ.le μ1 ∧ InR .u64 c1 ∧ Slc (RI .u8) 1 μ1 vvc2 c2 ∧ InR .i64 c3 ∧ ErS μ1 vvc4 c4 ∧ Fr a 26 [(0, .pointer (some ⟨g0, 0, none⟩)), (1, .int .i64 x1), (4, .int .u64 0), (5, .int .u64 c1)] ∧ Iv w0 (many [cel g0 [[vp1], [.int .i64 x0.at_], [vp2]] 121]).foot μ μ1 [cel g0 [[vvc2], [.int .i64 c3], [vvc4]] 121] w) ?_ ?_
  · have H := bI hz1
    refine w_seq fun _ hN3 => ?_
    refine w_reg ?_
    refine stp hA (r_mv hA rfl) rfl fun a hA => 
      stp hA (r_mv hA rfl) rfl fun a hA => ?_
    obtain ⟨r1, hr1, H⟩ := bB H
    refine o_call _ cf99 hA rfl (compact_Reader_next.c μ _ hI.agr x0 vp1 vp2 g0 hp1 hp2 hp3 (hI.handN 1) x1 hx1 e9 he9 r1 hr1) rfl fun v1 a w hz2 hA => ?_
    obtain ⟨_, vp3, vp4, μ2, rfl, hS1, hp4, hp5, hp6, hi1⟩ := hz2
    have hI := hI.backN 1 hi1
    have hI : Iv w0 (many [cel g0 [[vp1], [.int .i64 x0.at_], [vp2]] 121]).foot μ μ2 [cel g0 [[vp3], [.int .i64 r1.2.at_], [vp4]] 121] w := hI
    obtain ⟨_, hsl1⟩ := Slc.sv hS1
    refine stp hA (r_slen Tryd.underlying25 hsl1 hA rfl) rfl fun a hA => 
      stp hA (r_mv hA rfl) rfl fun a hA => ?_
    refine o_nil ?_
    refine hN3 _ _ ?_
    refine w_block ?_
    obtain ⟨z1, hz3, Hk2⟩ := bind_some H
    obtain ⟨n1, hn1⟩ := loopO_some hz3
    refine w_loop (fun n a w => ∃ (s1 : Int) (s2 : Int), loopN (compact_Reader_whole.s0 r1) n (s1, s2) = some z1 ∧ InR .u64 s1 ∧ InR .i64 s2 ∧ Fr a 26 [(0, .pointer (some ⟨g0, 0, none⟩)), (1, .int .i64 x1), (4, .int .u64 0), (5, .int .u64 s1), (10, v1), (11, .int .i64 (r1.1.length : Int)), (12, .int .i64 s2)] ∧ Iv w0 (many [cel g0 [[vp1], [.int .i64 x0.at_], [vp2]] 121]).foot μ μ2 [cel g0 [[vp3], [.int .i64 r1.2.at_], [vp4]] 121] w) n1 ⟨0, 0, hn1, (in_lit .u64 0 rfl), (in_lit .i64 0 rfl), hA.sub ⟨rfl, rfl, rfl, rfl, rfl, rfl, rfl, trivial⟩, hI⟩ ?_
    clear hA hI
    rintro n a w ⟨s1, s2, hn1, ws1, ws2, hA, hI⟩
    obtain ⟨m1, rfl, H⟩ := loopN_bind hn1
    clear hn1
    refine w_seq fun _ hN4 => ?_
    refine w_reg ?_
    refine stp hA (r_lss hA rfl rfl) rfl fun a hA => ?_
    refine o_nil ?_
    refine hN4 _ _ ?_
    refine w_seq fun _ hN5 => ?_
    refine w_cond hA rfl (fun hc1 => ?_) (fun hc1 => ?_)
    · have hc10 := hc1; have hc1 := of_decide_eq_true hc1; have H := bT H hc1
      refine w_skip ?_
      refine hN5 _ _ ?_
      refine w_seq fun _ hN6 => ?_
      refine w_block ?_
      refine w_seq fun _ hN7 => ?_
      refine w_reg ?_
      refine stp hA (r_mv hA rfl) rfl fun a hA => ?_
      obtain ⟨hb1, H⟩ := bG H
      obtain ⟨_, he1, _, hat1⟩ := Slc.elem1 hS1 (getD_some 0 hb1.1 hb1.2)
      obtain ⟨rfl, hw1⟩ := he1
      obtain ⟨_, hsl2⟩ := Slc.sv hS1
      refine stp hA (r_six1 Tryd.underlying25 sz5 hsl2 hA rfl rfl hb1.1 hb1.2) rfl fun a hA => 
        stp hA (r_ldm1 [] [] Tryd.underlying5 rfl hI.agr hat1 hA rfl rfl) rfl fun a hA => 
        stp hA (r_as hA rfl) rfl fun a hA => 
        stp hA (r_as hA rfl) rfl fun a hA => ?_
      refine o_nil ?_
      refine hN7 _ _ ?_
      refine w_reg ?_
      refine stp hA (r_mv hA rfl) rfl fun a hA => 
        stp hA (r_mv hA rfl) rfl fun a hA => 
        stp hA (r_conv Tryd.underlying5 Tryd.underlying22 hA rfl) rfl fun a hA => 
        stp hA (r_mv hA rfl) rfl fun a hA => 
        stp hA (r_mul hA rfl rfl) rfl fun a hA => ?_
      obtain ⟨hb2, H⟩ := bG H
      refine stp hA (r_shl hA rfl rfl hb2) rfl fun a hA => 
        stp hA (r_or hA rfl rfl) rfl fun a hA => 
        stp hA (r_as hA rfl) rfl fun a hA => ?_
      refine o_nil ?_
      refine hN6 _ _ ?_
      refine w_reg ?_
      refine stp hA (r_add hA rfl rfl) rfl fun a hA => 
        stp hA (r_mv hA rfl) rfl fun a hA => ?_
      refine o_nil ?_
      exact ⟨m1, Nat.lt_succ_self _, bOr .u64 s1 (sL .u64 (IntKind.u64.wrap (r1.1.getD s2.toNat 0)) (IntKind.i64.wrap (8 * s2))), IntKind.i64.wrap (s2 + 1), H, (wrap_in _ _), (wrap_in _ _), hA.sub ⟨rfl, rfl, rfl, rfl, rfl, rfl, rfl, trivial⟩, hI⟩
    · have hc10 := hc1; have hc1 := of_decide_eq_false hc1; have H := bF H hc1
      refine w_exit rfl ?_
      have H : some (s1, r1.2.b, r1.2.at_, r1.2.err) = some z1 := H
      obtain rfl := Option.some.inj H
      have H := Hk2
      cases Option.some.inj (bS H)
      exact ⟨μ2, vp3, vp4, hi1.le, ws1, hp4, hp5, hp6, hA.sub ⟨rfl, rfl, rfl, rfl, trivial⟩, hI⟩
  · rintro a w ⟨μ1, vvc2, vvc4, hle1, wc1, wc2, wc3, wc4, hA, hI⟩
    have H := Hk1
    refine w_seq fun _ hN8 => ?_
    refine w_reg ?_
    refine stp hA (r_mv hA rfl) rfl fun a hA => 
      stp hA (r_as hA rfl) rfl fun a hA => ?_
    refine o_nil ?_
    refine hN8 _ _ ?_
    refine w_ret ?_
    obtain rfl := Option.some.inj (bS H)
    exact ret1 hA Tryd.results81 rfl ⟨_, rfl, vvc2, vvc4, μ1, rfl, wc1, wc2, wc3, wc4, hI⟩
set_option maxRecDepth 20000 in
theorem compact_Reader_Four.c (μ : Store) (w0 : World) (hμ : Agr μ w0) (x0 : compactReader) (vp1 : Value) (vp2 : Value) (g0 : Nat) (hp1 : Slc (RI .u8) 1 μ vp1 x0.b) (hp2 : InR .i64 x0.at_) (hp3 : ErS μ vp2 x0.err) (ho0 : Its μ w0 [cel g0 [[vp1], [.int .i64 x0.at_], [vp2]] 121]) (e9 : Value) (he9 : ErS μ e9 (Er.b 10)) (r : Int × compactReader) (H : compact_Reader_Four.f x0 = some r) :
    Calls Tryd.prog 79 [.pointer (some ⟨g0, 0, none⟩)].toArray w0 (fun e w' => ∃ v, e = .returned v ∧ ∃ (vp_1 : Value) (vp_2 : Value) (μ' : Store), v = .int .u32 (r.1) ∧ InR .u32 (r.1) ∧ Slc (RI .u8) 1 μ' vp_1 (r.2).b ∧ InR .i64 (r.2).at_ ∧ ErS μ' vp_2 (r.2).err ∧ Iv w0 (many [cel g0 [[vp1], [.int .i64 x0.at_], [vp2]] 121]).foot μ μ' [cel g0 [[vp_1], [.int .i64 ((r.2).at_)], [vp_2]] 121] w') := by
  refine enter Tryd.func79 rfl Tryd.ntmps79 rfl fun a hA => ?_
  have hI := Iv.startN hμ ho0
  have H := bI H
  refine w_seq fun _ hN1 => ?_
  refine w_reg ?_
  refine stp hA (r_as hA rfl) rfl fun a hA => ?_
  refine o_nil ?_
  refine hN1 _ _ ?_
  refine w_seq fun _ hN2 => ?_
  refine w_reg ?_
  refine stp hA (r_mv hA rfl) rfl fun a hA => ?_
  obtain ⟨r1, hr1, H⟩ := bB H
  refine o_call _ cf81 hA rfl (compact_Reader_whole.c μ _ hI.agr x0 vp1 vp2 g0 hp1 hp2 hp3 (hI.handN 1) 4 (in_lit .i64 4 rfl) e9 he9 r1 hr1) rfl fun v1 a w hz1 hA => ?_
  obtain ⟨vp3, vp4, μ1, rfl, hw1, hp4, hp5, hp6, hi1⟩ := hz1
  have hI := hI.backN 1 hi1
  have hI : Iv w0 (many [cel g0 [[vp1], [.int .i64 x0.at_], [vp2]] 121]).foot μ μ1 [cel g0 [[vp3], [.int .i64 r1.2.at_], [vp4]] 121] w := hI
  refine stp hA (r_conv Tryd.underlying22 Tryd.underlying28 hA rfl) rfl fun a hA => 
    stp hA (r_as hA rfl) rfl fun a hA => ?_
  refine o_nil ?_
  refine hN2 _ _ ?_
  refine w_ret ?_
  obtain rfl := Option.some.inj (bS H)
  exact ret1 hA Tryd.results79 rfl ⟨_, rfl, vp3, vp4, μ1, rfl, (wrap_in _ _), hp4, hp5, hp6, hI⟩
set_option maxRecDepth 20000 in
theorem compact_Reader_Hash.c (μ : Store) (w0 : World) (hμ : Agr μ w0) (x0 : compactReader) (vp1 : Value) (vp2 : Value) (g0 : Nat) (hp1 : Slc (RI .u8) 1 μ vp1 x0.b) (hp2 : InR .i64 x0.at_) (hp3 : ErS μ vp2 x0.err) (ho0 : Its μ w0 [cel g0 [[vp1], [.int .i64 x0.at_], [vp2]] 121]) (e9 : Value) (he9 : ErS μ e9 (Er.b 10)) (r : (List Int) × compactReader) (H : compact_Reader_Hash.f x0 = some r) :
    Calls Tryd.prog 80 [.pointer (some ⟨g0, 0, none⟩)].toArray w0 (fun e w' => ∃ v, e = .returned v ∧ ∃ (vp_1 : Value) (vp_2 : Value) (μ' : Store), v = .agg [av .u8 32 (r.1)].flatten.toArray ∧ Arr .u8 32 (r.1) ∧ Slc (RI .u8) 1 μ' vp_1 (r.2).b ∧ InR .i64 (r.2).at_ ∧ ErS μ' vp_2 (r.2).err ∧ Iv w0 (many [cel g0 [[vp1], [.int .i64 x0.at_], [vp2]] 121]).foot μ μ' [cel g0 [[vp_1], [.int .i64 ((r.2).at_)], [vp_2]] 121] w') := by
  refine enter Tryd.func80 rfl Tryd.ntmps80 rfl fun a hA => ?_
  have hI := Iv.startN hμ ho0
  have H := bI H
  refine w_seq fun _ hN1 => ?_
  refine w_reg ?_
  refine o_new [av .u8 32 (List.replicate 32 0)] zr24 hI hA rfl fun g1 a w hA hI hg1 => ?_
  refine o_nil ?_
  refine hN1 _ _ ?_
  refine w_seq fun _ hN2 => ?_
  refine w_reg ?_
  refine o_new [av .u8 32 (List.replicate 32 0)] zr24 hI hA rfl fun g2 a w hA hI hg2 => ?_
  refine o_nil ?_
  refine hN2 _ _ ?_
  refine w_seq fun _ hN3 => ?_
  refine w_any [2, 3] mo hI fun w hI => ?_
  refine g_easy (i := 0) hA rfl rfl (by kernel_rfl) (.inr hI) (fun _ => r_slv (i := 0) (j := 32) Tryd.underlying24 sz5 hA rfl rfl rfl (by decide) (by decide) (by decide) (by decide) rfl) rfl fun a hA => ?_
  refine g_easy (i := 1) hA rfl rfl (by kernel_rfl) (.inr hI) (fun _ => r_mv hA rfl) rfl fun a hA => ?_
  refine g_forced (i := 2) rfl (by kernel_rfl) ?_
  obtain ⟨r1, hr1, H⟩ := bB H
  have hI := hI.sel [2, 0, 1] (by decide) rfl
  refine o_call _ cf99 hA rfl (compact_Reader_next.c μ _ hI.agr x0 vp1 vp2 g0 hp1 hp2 hp3 (hI.handN 1) 32 (in_lit .i64 32 rfl) e9 he9 r1 hr1) rfl fun v1 a w hz1 hA => ?_
  obtain ⟨_, vp3, vp4, μ1, rfl, hS1, hp4, hp5, hp6, hi1⟩ := hz1
  have hI := hI.backN 1 hi1
  have hI : Iv w0 (many [cel g0 [[vp1], [.int .i64 x0.at_], [vp2]] 121]).foot μ μ1 [cel g0 [[vp3], [.int .i64 r1.2.at_], [vp4]] 121, cel g2 [av .u8 32 (List.replicate 32 0)] 24, cel g1 [av .u8 32 (List.replicate 32 0)] 24] w := hI
  refine o_nil ?_
  refine ⟨(.inl (by kernel_rfl)), ?_⟩
  refine g_forced (i := 3) rfl (by kernel_rfl) ?_
  have hz2 : Slc (RI .u8) 1 μ1 v1 r1.1 := hS1
  refine o_cpy (j := 1) [] [] Tryd.underlying25 sz5 (arr_zero _ _) hz2 hI rfl rfl hA rfl rfl rfl fun a w hI hA => ?_
  refine o_nil ?_
  refine ⟨(.inl (by kernel_rfl)), ?_⟩
  refine g_nil (by kernel_rfl) ?_
  refine hN3 _ _ ?_
  refine w_seq fun _ hN4 => ?_
  refine w_reg ?_
  refine stp hA (r_ldA (j := 1) [] [av .u8 32 (cpy (List.replicate 32 0) r1.1)] [] Tryd.underlying24 rfl sz24 rfl hI rfl hA rfl rfl) rfl fun a hA => 
    o_st (j := 2) [] [av .u8 32 (List.replicate 32 0)] [av .u8 32 (cpy (List.replicate 32 0) r1.1)] [] sz24 rfl rfl (fl_cons (one_av _ _ _) fl_nil) hI rfl hA rfl rfl rfl rfl fun w hI => ?_
  refine o_nil ?_
  refine hN4 _ _ ?_
  refine w_ret ?_
  obtain rfl := Option.some.inj (bS H)
  exact retc Tryd.underlying24 rfl sz24 rfl hI (j := 2) rfl hA Tryd.results80 rfl ⟨_, rfl, vp3, vp4, μ1, rfl, (cpy_arr (arr_zero _ _) (Slc.rng hz2)), hp4, hp5, hp6, (hI.sel [0] (by decide) rfl)⟩
set_option maxRecDepth 20000 in
theorem compact_Reader_Num.c (μ : Store) (w0 : World) (hμ : Agr μ w0) (x0 : compactReader) (vp1 : Value) (vp2 : Value) (g0 : Nat) (hp1 : Slc (RI .u8) 1 μ vp1 x0.b) (hp2 : InR .i64 x0.at_) (hp3 : ErS μ vp2 x0.err) (ho0 : Its μ w0 [cel g0 [[vp1], [.int .i64 x0.at_], [vp2]] 121]) (x1 : Int) (hx1 : InR .u64 x1) (e0 : Value) (he0 : ErS μ e0 (Er.b 1)) (e4 : Value) (he4 : ErS μ e4 (Er.b 5)) (e9 : Value) (he9 : ErS μ e9 (Er.b 10)) (r : Int × compactReader) (H : compact_Reader_Num.f x0 x1 = some r) :
    Calls Tryd.prog 57 [.pointer (some ⟨g0, 0, none⟩), .int .u64 x1].toArray w0 (fun e w' => ∃ v, e = .returned v ∧ ∃ (vp_1 : Value) (vp_2 : Value) (μ' : Store), v = .int .u64 (r.1) ∧ InR .u64 (r.1) ∧ Slc (RI .u8) 1 μ' vp_1 (r.2).b ∧ InR .i64 (r.2).at_ ∧ ErS μ' vp_2 (r.2).err ∧ Iv w0 (many [cel g0 [[vp1], [.int .i64 x0.at_], [vp2]] 121]).foot μ μ' [cel g0 [[vp_1], [.int .i64 ((r.2).at_)], [vp_2]] 121] w') := by
  refine enter Tryd.func57 rfl Tryd.ntmps57 rfl fun a hA => ?_
  have hI := Iv.startN hμ ho0
  have H := bI H
  refine w_seq fun _ hN1 => ?_
  refine w_reg ?_
  refine stp hA (r_as hA rfl) rfl fun a hA => ?_
  refine o_nil ?_
  refine hN1 _ _ ?_
  refine w_seq fun _ hN2 => ?_
  refine w_reg ?_
  refine stp hA (r_mv hA rfl) rfl fun a hA => ?_
  obtain ⟨r1, hr1, H⟩ := bB H
  refine o_call _ cf81 hA rfl (compact_Reader_whole.c μ _ hI.agr x0 vp1 vp2 g0 hp1 hp2 hp3 (hI.handN 1) 1 (in_lit .i64 1 rfl) e9 he9 r1 hr1) rfl fun v1 a w hz1 hA => ?_
  obtain ⟨vp3, vp4, μ1, rfl, hw1, hp4, hp5, hp6, hi1⟩ := hz1
  have hI := hI.backN 1 hi1
  have hI : Iv w0 (many [cel g0 [[vp1], [.int .i64 x0.at_], [vp2]] 121]).foot μ μ1 [cel g0 [[vp3], [.int .i64 r1.2.at_], [vp4]] 121] w := hI
  refine stp hA (r_as hA rfl) rfl fun a hA => ?_
  refine o_nil ?_
  refine hN2 _ _ ?_
  refine w_seq fun _ hN3 => ?_
  refine w_reg ?_
  refine stp hA (r_as hA rfl) rfl fun a hA => ?_
  refine o_nil ?_
  refine hN3 _ _ ?_
  obtain ⟨c1, hz2, Hk1⟩ := bB H
  refine w_cut (fun a w => InR .i64 c1 ∧ Fr a 46 [(0, .pointer (some ⟨g0, 0, none⟩)), (1, .int .u64 x1), (4, .int .u64 0), (5, .int .u64 r1.1), (6, .int .i64 c1)] ∧ Iv w0 (many [cel g0 [[vp1], [.int .i64 x0.at_], [vp2]] 121]).foot μ μ1 [cel g0 [[vp3], [.int .i64 r1.2.at_], [vp4]] 121] w) ?_ ?_
  · have H := bI hz2
    refine w_seq fun _ hN4 => ?_
    refine w_reg ?_
    refine stp hA (r_mv hA rfl) rfl fun a hA => ?_
    refine o_nil ?_
    refine hN4 _ _ ?_
    refine w_block ?_
    refine w_seq fun _ hN5 => ?_
    refine w_reg ?_
    refine stp hA (r_eql hA rfl rfl) rfl fun a hA => 
      stp hA (r_as hA rfl) rfl fun a hA => ?_
    refine o_nil ?_
    refine hN5 _ _ ?_
    refine w_cond hA rfl (fun hc1 => ?_) (fun hc1 => ?_)
    · have hc10 := hc1; have hc1 := of_decide_eq_true hc1; have H := bT H hc1
      refine w_reg ?_
      refine stp hA (r_as hA rfl) rfl fun a hA => ?_
      refine o_nil ?_
      cases Option.some.inj (bS H)
      exact ⟨(in_lit .i64 2 rfl), hA.sub ⟨rfl, rfl, rfl, rfl, rfl, trivial⟩, hI⟩
    · have hc10 := hc1; have hc1 := of_decide_eq_false hc1; have H := bF H hc1
      refine w_seq fun _ hN6 => ?_
      refine w_reg ?_
      refine stp hA (r_eql hA rfl rfl) rfl fun a hA => 
        stp hA (r_as hA rfl) rfl fun a hA => ?_
      refine o_nil ?_
      refine hN6 _ _ ?_
      refine w_cond hA rfl (fun hc2 => ?_) (fun hc2 => ?_)
      · have hc20 := hc2; have hc2 := of_decide_eq_true hc2; have H := bT H hc2
        refine w_reg ?_
        refine stp hA (r_as hA rfl) rfl fun a hA => ?_
        refine o_nil ?_
        cases Option.some.inj (bS H)
        exact ⟨(in_lit .i64 4 rfl), hA.sub ⟨rfl, rfl, rfl, rfl, rfl, trivial⟩, hI⟩
      · have hc20 := hc2; have hc2 := of_decide_eq_false hc2; have H := bF H hc2
        refine w_seq fun _ hN7 => ?_
        refine w_reg ?_
        refine stp hA (r_eql hA rfl rfl) rfl fun a hA => 
          stp hA (r_as hA rfl) rfl fun a hA => ?_
        refine o_nil ?_
        refine hN7 _ _ ?_
        refine w_cond hA rfl (fun hc3 => ?_) (fun hc3 => ?_)
        · have hc30 := hc3; have hc3 := of_decide_eq_true hc3; have H := bT H hc3
          refine w_reg ?_
          refine stp hA (r_as hA rfl) rfl fun a hA => ?_
          refine o_nil ?_
          cases Option.some.inj (bS H)
          exact ⟨(in_lit .i64 8 rfl), hA.sub ⟨rfl, rfl, rfl, rfl, rfl, trivial⟩, hI⟩
        · have hc30 := hc3; have hc3 := of_decide_eq_false hc3; have H := bF H hc3
          refine w_skip ?_
          cases Option.some.inj (bS H)
          exact ⟨(in_lit .i64 0 rfl), hA.sub ⟨rfl, rfl, rfl, rfl, rfl, trivial⟩, hI⟩
  · rintro a w ⟨wc1, hA, hI⟩
    have H := Hk1
    obtain ⟨⟨c2, c3, c4, c5⟩, hz3, Hk2⟩ := bB H
    refine w_cut (fun a w => ∃ (μ2 : Store) (vvc3 : Value) (vvc5 : Value), μ1.le μ2 ∧ InR .u64 c2 ∧ Slc (RI .u8) 1 μ2 vvc3 c3 ∧ InR .i64 c4 ∧ ErS μ2 vvc5 c5 ∧ Fr a 46 [(0, .pointer (some ⟨g0, 0, none⟩)), (1, .int .u64 x1), (4, .int .u64 0), (5, .int .u64 c2), (6, .int .i64 c1)] ∧ Iv w0 (many [cel g0 [[vp1], [.int .i64 x0.at_], [vp2]] 121]).foot μ μ2 [cel g0 [[vvc3], [.int .i64 c4], [vvc5]] 121] w) ?_ ?_
    · have H := bI hz3
      refine w_seq fun _ hN8 => ?_
      refine w_reg ?_
      refine stp hA (r_mv hA rfl) rfl fun a hA => 
        stp hA (r_gtr hA rfl rfl) rfl fun a hA => ?_
      refine o_nil ?_
      refine hN8 _ _ ?_
      refine w_cond hA rfl (fun hc4 => ?_) (fun hc4 => ?_)
      · have hc40 := hc4; have hc4 := of_decide_eq_true hc4; have H := bT H hc4
        refine w_reg ?_
        refine stp hA (r_mv hA rfl) rfl fun a hA => 
          stp hA (r_mv hA rfl) rfl fun a hA => ?_
        obtain ⟨r2, hr2, H⟩ := bB H
        refine o_call _ cf81 hA rfl (compact_Reader_whole.c μ1 _ hI.agr r1.2 vp3 vp4 g0 hp4 hp5 hp6 (hI.handN 1) c1 wc1 e9 (ErV.le (fun _ _ h => h) hi1.le he9) r2 hr2) rfl fun v2 a w hz4 hA => ?_
        obtain ⟨vp5, vp6, μ3, rfl, hw2, hp7, hp8, hp9, hi2⟩ := hz4
        have hI := hI.backN 1 hi2
        have hI : Iv w0 (many [cel g0 [[vp1], [.int .i64 x0.at_], [vp2]] 121]).foot μ μ3 [cel g0 [[vp5], [.int .i64 r2.2.at_], [vp6]] 121] w := hI
        refine stp hA (r_as hA rfl) rfl fun a hA => ?_
        refine o_nil ?_
        cases Option.some.inj (bS H)
        exact ⟨μ3, vp5, vp6, hi2.le, hw2, hp7, hp8, hp9, hA.sub ⟨rfl, rfl, rfl, rfl, rfl, trivial⟩, hI⟩
      · have hc40 := hc4; have hc4 := of_decide_eq_false hc4; have H := bF H hc4
        refine w_skip ?_
        cases Option.some.inj (bS H)
        exact ⟨μ1, vp3, vp4, (Store.le.refl _), hw1, hp4, hp5, hp6, hA.sub ⟨rfl, rfl, rfl, rfl, rfl, trivial⟩, hI⟩
    · rintro a w ⟨μ2, vvc3, vvc5, hle1, wc2, wc3, wc4, wc5, hA, hI⟩
      have H := Hk2
      refine w_seq fun _ hN9 => ?_
      refine w_block ?_
      refine w_seq fun _ hN10 => ?_
      refine w_reg ?_
      refine stp hA (r_mv hA rfl) rfl fun a hA => 
        stp hA (r_nilc hA rfl) rfl fun a hA => 
        stp hA (r_fd (k := 2) Tryd.underlying121 rfl sz51 hA rfl rfl) rfl fun a hA => 
        stp hA (r_ld1 (j := 0) [[vvc3], [.int .i64 c4]] [] Tryd.underlying51 rfl hI rfl hA rfl rfl) rfl fun a hA => 
        stp hA (r_neE erF hI.agr wc5 erv_nil (.inl ⟨.inr ⟨_, rfl⟩, Er.fitR⟩) hA rfl rfl) rfl fun a hA => 
        stp hA (r_as hA rfl) rfl fun a hA => ?_
      refine o_nil ?_
      refine hN10 _ _ ?_
      refine w_cond hA rfl (fun hc5 => ?_) (fun hc5 => ?_)
      · have hc50 := hc5; have hc5 := of_decide_eq_true hc5; have H := bT H hc5
        refine w_skip ?_
        refine hN9 _ _ ?_
        refine w_seq fun _ hN11 => ?_
        refine w_reg ?_
        refine stp hA (r_as hA rfl) rfl fun a hA => ?_
        refine o_nil ?_
        refine hN11 _ _ ?_
        refine w_ret ?_
        obtain rfl := Option.some.inj (bS H)
        exact ret1 hA Tryd.results57 rfl ⟨_, rfl, vvc3, vvc5, μ2, rfl, (in_lit .u64 0 rfl), wc3, wc4, wc5, hI⟩
      · have hc50 := hc5; have hc5 := of_decide_eq_false hc5; have H := bF H hc5
        refine w_seq fun _ hN12 => ?_
        refine w_reg ?_
        refine stp hA (r_mv hA rfl) rfl fun a hA => ?_
        obtain ⟨r3, hr3, H⟩ := bB H
        refine o_callp (u := .int .i64 r3) cf77 hA rfl hI (compact_Len.c μ2 _ hI.agr c2 wc2 r3 hr3) rfl fun a w hz5 hI hA => 
          stp hA (r_mv hA rfl) rfl fun a hA => 
          stp hA (r_add hA rfl rfl) rfl fun a hA => 
          stp hA (r_neq hA rfl rfl) rfl fun a hA => 
          stp hA (r_as hA rfl) rfl fun a hA => ?_
        refine o_nil ?_
        refine hN12 _ _ ?_
        refine w_cond hA rfl (fun hc6 => ?_) (fun hc6 => ?_)
        · have hc60 := hc6; have hc6 := of_decide_eq_true hc6; have H := bT H hc6
          refine w_reg ?_
          refine stp hA (r_mv hA rfl) rfl fun a hA => 
            stp hA (r_ldG Tryd.underlying51 rfl hI.agr (ErV.le (fun _ _ h => h) (hi1.le.trans hle1) he4) hA) rfl fun a hA => 
            stp hA (r_nilc hA rfl) rfl fun a hA => 
            stp hA (r_fd (k := 2) Tryd.underlying121 rfl sz51 hA rfl rfl) rfl fun a hA => ?_
          have hsc : ErS μ2 e4 xErrShape := (ErV.le (fun _ _ h => h) (hi1.le.trans hle1) he4)
          refine o_st (j := 0) [[vvc3], [.int .i64 c4]] [[vvc5]] [[e4]] [] sz51 rfl rfl (by intro c hc; simp at hc; subst hc; exact ErV.one hsc) hI rfl hA rfl rfl (cells_err hsc) rfl fun w hI => ?_
          refine o_nil ?_
          refine hN9 _ _ ?_
          refine w_seq fun _ hN13 => ?_
          refine w_reg ?_
          refine stp hA (r_as hA rfl) rfl fun a hA => ?_
          refine o_nil ?_
          refine hN13 _ _ ?_
          refine w_ret ?_
          obtain rfl := Option.some.inj (bS H)
          exact ret1 hA Tryd.results57 rfl ⟨_, rfl, vvc3, e4, μ2, rfl, (in_lit .u64 0 rfl), wc3, wc4, (ErV.le (fun _ _ h => h) (hi1.le.trans hle1) he4), hI⟩
        · have hc60 := hc6; have hc6 := of_decide_eq_false hc6; have H := bF H hc6
          refine w_seq fun _ hN14 => ?_
          refine w_reg ?_
          refine stp hA (r_mv hA rfl) rfl fun a hA => 
            stp hA (r_mv hA rfl) rfl fun a hA => 
            stp hA (r_gtr hA rfl rfl) rfl fun a hA => 
            stp hA (r_as hA rfl) rfl fun a hA => ?_
          refine o_nil ?_
          refine hN14 _ _ ?_
          refine w_cond hA rfl (fun hc7 => ?_) (fun hc7 => ?_)
          · have hc70 := hc7; have hc7 := of_decide_eq_true hc7; have H := bT H hc7
            refine w_reg ?_
            refine stp hA (r_mv hA rfl) rfl fun a hA => 
              stp hA (r_ldG Tryd.underlying51 rfl hI.agr (ErV.le (fun _ _ h => h) (hi1.le.trans hle1) he0) hA) rfl fun a hA => 
              stp hA (r_nilc hA rfl) rfl fun a hA => 
              stp hA (r_fd (k := 2) Tryd.underlying121 rfl sz51 hA rfl rfl) rfl fun a hA => ?_
            have hsc : ErS μ2 e0 xErrMany := (ErV.le (fun _ _ h => h) (hi1.le.trans hle1) he0)
            refine o_st (j := 0) [[vvc3], [.int .i64 c4]] [[vvc5]] [[e0]] [] sz51 rfl rfl (by intro c hc; simp at hc; subst hc; exact ErV.one hsc) hI rfl hA rfl rfl (cells_err hsc) rfl fun w hI => ?_
            refine o_nil ?_
            refine hN9 _ _ ?_
            refine w_seq fun _ hN15 => ?_
            refine w_reg ?_
            refine stp hA (r_as hA rfl) rfl fun a hA => ?_
            refine o_nil ?_
            refine hN15 _ _ ?_
            refine w_ret ?_
            obtain rfl := Option.some.inj (bS H)
            exact ret1 hA Tryd.results57 rfl ⟨_, rfl, vvc3, e0, μ2, rfl, (in_lit .u64 0 rfl), wc3, wc4, (ErV.le (fun _ _ h => h) (hi1.le.trans hle1) he0), hI⟩
          · have hc70 := hc7; have hc7 := of_decide_eq_false hc7; have H := bF H hc7
            refine w_seq fun _ hN16 => ?_
            refine w_reg ?_
            refine stp hA (r_mv hA rfl) rfl fun a hA => 
              stp hA (r_as hA rfl) rfl fun a hA => ?_
            refine o_nil ?_
            refine hN16 _ _ ?_
            refine w_ret ?_
            obtain rfl := Option.some.inj (bS H)
            exact ret1 hA Tryd.results57 rfl ⟨_, rfl, vvc3, vvc5, μ2, rfl, wc2, wc3, wc4, wc5, hI⟩
set_option maxRecDepth 20000 in
theorem compact_Reader_Bytes.c (μ : Store) (w0 : World) (hμ : Agr μ w0) (x0 : compactReader) (vp1 : Value) (vp2 : Value) (g0 : Nat) (hp1 : Slc (RI .u8) 1 μ vp1 x0.b) (hp2 : InR .i64 x0.at_) (hp3 : ErS μ vp2 x0.err) (ho0 : Its μ w0 [cel g0 [[vp1], [.int .i64 x0.at_], [vp2]] 121]) (x1 : Int) (hx1 : InR .i64 x1) (e9 : Value) (he9 : ErS μ e9 (Er.b 10)) (r : (List Int) × compactReader) (H : compact_Reader_Bytes.f x0 x1 = some r) :
    Calls Tryd.prog 82 [.pointer (some ⟨g0, 0, none⟩), .int .i64 x1].toArray w0 (fun e w' => ∃ v, e = .returned v ∧ ∃ (v0 : Value) (c0 : List Value) (vp_1 : Value) (vp_2 : Value) (μ' : Store), v = v0 ∧ Els (RI .u8) 1 (r.1) c0 ∧ Slc (RI .u8) 1 μ' vp_1 (r.2).b ∧ InR .i64 (r.2).at_ ∧ ErS μ' vp_2 (r.2).err ∧ Iv w0 (many [cel g0 [[vp1], [.int .i64 x0.at_], [vp2]] 121]).foot μ μ' [row 5 1 v0 (r.1).length c0, cel g0 [[vp_1], [.int .i64 ((r.2).at_)], [vp_2]] 121] w') := by
  refine enter Tryd.func82 rfl Tryd.ntmps82 rfl fun a hA => ?_
  have hI := Iv.startN hμ ho0
  have H := bI H
  refine w_seq fun _ hN1 => ?_
  refine w_reg ?_
  refine stp hA (r_as hA rfl) rfl fun a hA => ?_
  refine o_nil ?_
  refine hN1 _ _ ?_
  refine w_seq fun _ hN2 => ?_
  refine w_seq fun _ hN3 => ?_
  refine w_reg ?_
  refine stp hA (r_mv hA rfl) rfl fun a hA => 
    stp hA (r_leq hA rfl rfl) rfl fun a hA => ?_
  refine o_nil ?_
  refine hN3 _ _ ?_
  refine w_cond hA rfl (fun hc1 => ?_) (fun hc1 => ?_)
  · have hc10 := hc1; have hc1 := of_decide_eq_true hc1; have H := bT H hc1
    refine w_seq fun _ hN4 => ?_
    refine w_reg ?_
    refine stp hA (r_as hA rfl) rfl fun a hA => ?_
    refine o_nil ?_
    refine hN4 _ _ ?_
    refine w_ret ?_
    have hI := hI.nilRow 5 1
    obtain rfl := Option.some.inj (bS H)
    exact ret1 hA Tryd.results82 rfl ⟨_, rfl, (.slice none 0 0), [], vp1, vp2, μ, rfl, (Els.nil (RE := (RI .u8)) (sz := 1)), hp1, hp2, hp3, hI⟩
  · have hc10 := hc1; have hc1 := of_decide_eq_false hc1; have H := bF H hc1
    refine w_skip ?_
    refine hN2 _ _ ?_
    refine w_seq fun _ hN5 => ?_
    refine w_reg ?_
    refine stp hA (r_mv hA rfl) rfl fun a hA => 
      stp hA (r_mv hA rfl) rfl fun a hA => ?_
    obtain ⟨r1, hr1, H⟩ := bB H
    refine o_call _ cf99 hA rfl (compact_Reader_next.c μ _ hI.agr x0 vp1 vp2 g0 hp1 hp2 hp3 (hI.handN 1) x1 hx1 e9 he9 r1 hr1) rfl fun v1 a w hz1 hA => ?_
    obtain ⟨_, vp3, vp4, μ1, rfl, hS1, hp4, hp5, hp6, hi1⟩ := hz1
    have hI := hI.backN 1 hi1
    have hI : Iv w0 (many [cel g0 [[vp1], [.int .i64 x0.at_], [vp2]] 121]).foot μ μ1 [cel g0 [[vp3], [.int .i64 r1.2.at_], [vp4]] 121] w := hI
    obtain ⟨r2, hr2, H⟩ := bB H
    refine o_call _ cf64 hA rfl (bytes_Clone.c μ1 _ hI.agr r1.1 v1 hS1 r2 hr2) rfl fun v2 a w hz2 hA => ?_
    obtain ⟨_, cs1, rfl, hE1, hi2⟩ := hz2
    have hI := hI.call hi2
    refine stp hA (r_as hA rfl) rfl fun a hA => ?_
    refine o_nil ?_
    refine hN5 _ _ ?_
    refine w_ret ?_
    obtain rfl := Option.some.inj (bS H)
    exact ret1 hA Tryd.results82 rfl ⟨_, rfl, v2, cs1, vp3, vp4, μ1, rfl, hE1, hp4, hp5, hp6, hI⟩
set_option maxRecDepth 20000 in
theorem compact_Reader_Eight.c (μ : Store) (w0 : World) (hμ : Agr μ w0) (x0 : compactReader) (vp1 : Value) (vp2 : Value) (g0 : Nat) (hp1 : Slc (RI .u8) 1 μ vp1 x0.b) (hp2 : InR .i64 x0.at_) (hp3 : ErS μ vp2 x0.err) (ho0 : Its μ w0 [cel g0 [[vp1], [.int .i64 x0.at_], [vp2]] 121]) (e9 : Value) (he9 : ErS μ e9 (Er.b 10)) (r : Int × compactReader) (H : compact_Reader_Eight.f x0 = some r) :
    Calls Tryd.prog 83 [.pointer (some ⟨g0, 0, none⟩)].toArray w0 (fun e w' => ∃ v, e = .returned v ∧ ∃ (vp_1 : Value) (vp_2 : Value) (μ' : Store), v = .int .u64 (r.1) ∧ InR .u64 (r.1) ∧ Slc (RI .u8) 1 μ' vp_1 (r.2).b ∧ InR .i64 (r.2).at_ ∧ ErS μ' vp_2 (r.2).err ∧ Iv w0 (many [cel g0 [[vp1], [.int .i64 x0.at_], [vp2]] 121]).foot μ μ' [cel g0 [[vp_1], [.int .i64 ((r.2).at_)], [vp_2]] 121] w') := by
  refine enter Tryd.func83 rfl Tryd.ntmps83 rfl fun a hA => ?_
  have hI := Iv.startN hμ ho0
  have H := bI H
  refine w_seq fun _ hN1 => ?_
  refine w_reg ?_
  refine stp hA (r_as hA rfl) rfl fun a hA => ?_
  refine o_nil ?_
  refine hN1 _ _ ?_
  refine w_seq fun _ hN2 => ?_
  refine w_reg ?_
  refine stp hA (r_mv hA rfl) rfl fun a hA => ?_
  obtain ⟨r1, hr1, H⟩ := bB H
  refine o_call _ cf81 hA rfl (compact_Reader_whole.c μ _ hI.agr x0 vp1 vp2 g0 hp1 hp2 hp3 (hI.handN 1) 8 (in_lit .i64 8 rfl) e9 he9 r1 hr1) rfl fun v1 a w hz1 hA => ?_
  obtain ⟨vp3, vp4, μ1, rfl, hw1, hp4, hp5, hp6, hi1⟩ := hz1
  have hI := hI.backN 1 hi1
  have hI : Iv w0 (many [cel g0 [[vp1], [.int .i64 x0.at_], [vp2]] 121]).foot μ μ1 [cel g0 [[vp3], [.int .i64 r1.2.at_], [vp4]] 121] w := hI
  refine stp hA (r_as hA rfl) rfl fun a hA => ?_
  refine o_nil ?_
  refine hN2 _ _ ?_
  refine w_ret ?_
  obtain rfl := Option.some.inj (bS H)
  exact ret1 hA Tryd.results83 rfl ⟨_, rfl, vp3, vp4, μ1, rfl, hw1, hp4, hp5, hp6, hI⟩
set_option maxRecDepth 20000 in
theorem compact_Reader_Left.c (μ : Store) (w0 : World) (hμ : Agr μ w0) (x0 : compactReader) (vp1 : Value) (vp2 : Value) (g0 : Nat) (hp1 : Slc (RI .u8) 1 μ vp1 x0.b) (hp2 : InR .i64 x0.at_) (hp3 : ErS μ vp2 x0.err) (ho0 : Its μ w0 [cel g0 [[vp1], [.int .i64 x0.at_], [vp2]] 121]) (r : Int) (H : compact_Reader_Left.f x0 = some r) :
    Calls Tryd.prog 60 [.pointer (some ⟨g0, 0, none⟩)].toArray w0 (fun e w' => ∃ v, e = .returned v ∧ v = .int .i64 r ∧ InR .i64 r ∧ Iv w0 (many [cel g0 [[vp1], [.int .i64 x0.at_], [vp2]] 121]).foot μ μ [cel g0 [[vp1], [.int .i64 x0.at_], [vp2]] 121] w') := by
  refine enter Tryd.func60 rfl Tryd.ntmps60 rfl fun a hA => ?_
  have hI := Iv.startN hμ ho0
  have H := bI H
  refine w_seq fun _ hN1 => ?_
  refine w_reg ?_
  refine stp hA (r_as hA rfl) rfl fun a hA => ?_
  refine o_nil ?_
  refine hN1 _ _ ?_
  refine w_seq fun _ hN2 => ?_
  refine w_draw mo (by kernel_rfl) hI ?_
  refine qtp hA (fun _ hI => r_mv hA rfl) rfl fun a hA => 
    qtp hA (fun _ hI => r_nilc hA rfl) rfl fun a hA => 
    qtp hA (fun _ hI => r_fd (k := 0) Tryd.underlying121 rfl sz25 hA rfl rfl) rfl fun a hA => 
    qtp hA (fun _ hI => r_ld1 (j := 0) [] [[.int .i64 x0.at_], [vp2]] Tryd.underlying25 rfl hI rfl hA rfl rfl) rfl fun a hA => ?_
  obtain ⟨_, hsl1⟩ := Slc.sv hp1
  refine qtp hA (fun _ hI => r_slen Tryd.underlying25 hsl1 hA rfl) rfl fun a hA => 
    qtp hA (fun _ hI => r_mv hA rfl) rfl fun a hA => 
    qtp hA (fun _ hI => r_nilc hA rfl) rfl fun a hA => 
    qtp hA (fun _ hI => r_fd (k := 1) Tryd.underlying121 rfl sz3 hA rfl rfl) rfl fun a hA => 
    qtp hA (fun _ hI => r_ld1 (j := 0) [[vp1]] [[vp2]] Tryd.underlying3 rfl hI rfl hA rfl rfl) rfl fun a hA => 
    qtp hA (fun _ hI => r_sub hA rfl rfl) rfl fun a hA => 
    qtp hA (fun _ hI => r_as hA rfl) rfl fun a hA => ?_
  refine q_nil fun w hI => ?_
  refine hN2 _ _ ?_
  refine w_ret ?_
  obtain rfl := Option.some.inj (bS H)
  exact ret1 hA Tryd.results60 rfl ⟨_, rfl, rfl, (wrap_in _ _), (hI.less (Store.le.refl _) hI.le)⟩
end Go.Proofs.YtlpggofilkfbnaaDoor.T
namespace Go.Proofs.YtlpggofilkfbnaaDoor.T
open Go Go.Proofs Go.Proofs.YtlpggofilkfbnaaDoor.K
set_option linter.unusedVariables false
set_option linter.unusedSimpArgs false
noncomputable def digest_begin.f : Option (List Int) := some ([1779033703, 3144134277, 1013904242, 2773480762, 1359893119, 2600822924, 528734635, 1541459225])
noncomputable def digest_Writer_state.f (x0 : digestWriter) : Option (List Int) := (if x0.n < 64 then ((digest_begin.f).bind fun r1 => some r1) else some x0.s)
noncomputable def digest_turn.f (x0 : Int) (x1 : Int) : Option Int := ((math_bits_RotateLeft32.f x0 (IntKind.i64.wrap (0 - x1))).bind fun r1 => some r1)
noncomputable def digest_spread.s0 (x0 : List Int) : (Int × (List Int)) → Option ((Int × (List Int)) ⊕ (List Int)) := fun (s1, s2) => (if s1 < 64 then (((if s1 < 16 then (if 0 ≤ (IntKind.i64.wrap (4 * s1)) ∧ (IntKind.i64.wrap (4 * s1)) ≤ (x0.length : Int) then (if 0 < (((x0.take ((x0.length : Int)).toNat).drop (IntKind.i64.wrap (4 * s1)).toNat).length : Int) then (if 1 < (((x0.take ((x0.length : Int)).toNat).drop (IntKind.i64.wrap (4 * s1)).toNat).length : Int) then (if 2 < (((x0.take ((x0.length : Int)).toNat).drop (IntKind.i64.wrap (4 * s1)).toNat).length : Int) then (if 3 < (((x0.take ((x0.length : Int)).toNat).drop (IntKind.i64.wrap (4 * s1)).toNat).length : Int) then (if 0 ≤ s1 ∧ s1 < 64 then some (s2.set s1.toNat (bOr .u32 (bOr .u32 (bOr .u32 (sL .u32 (IntKind.u32.wrap (((x0.take ((x0.length : Int)).toNat).drop (IntKind.i64.wrap (4 * s1)).toNat).getD (0 : Int).toNat 0)) 24) (sL .u32 (IntKind.u32.wrap (((x0.take ((x0.length : Int)).toNat).drop (IntKind.i64.wrap (4 * s1)).toNat).getD (1 : Int).toNat 0)) 16)) (sL .u32 (IntKind.u32.wrap (((x0.take ((x0.length : Int)).toNat).drop (IntKind.i64.wrap (4 * s1)).toNat).getD (2 : Int).toNat 0)) 8)) (IntKind.u32.wrap (((x0.take ((x0.length : Int)).toNat).drop (IntKind.i64.wrap (4 * s1)).toNat).getD (3 : Int).toNat 0)))) else none) else none) else none) else none) else none) else none) else (if 0 ≤ IntKind.i64.wrap (s1 - 2) ∧ IntKind.i64.wrap (s1 - 2) < 64 then (if 0 ≤ IntKind.i64.wrap (s1 - 15) ∧ IntKind.i64.wrap (s1 - 15) < 64 then (if 0 ≤ IntKind.i64.wrap (s1 - 7) ∧ IntKind.i64.wrap (s1 - 7) < 64 then (if 0 ≤ IntKind.i64.wrap (s1 - 16) ∧ IntKind.i64.wrap (s1 - 16) < 64 then ((digest_turn.f (s2.getD (IntKind.i64.wrap (s1 - 2)).toNat 0) 17).bind fun r1 => ((digest_turn.f (s2.getD (IntKind.i64.wrap (s1 - 2)).toNat 0) 19).bind fun r2 => ((digest_turn.f (s2.getD (IntKind.i64.wrap (s1 - 15)).toNat 0) 7).bind fun r3 => ((digest_turn.f (s2.getD (IntKind.i64.wrap (s1 - 15)).toNat 0) 18).bind fun r4 => (if 0 ≤ s1 ∧ s1 < 64 then some (s2.set s1.toNat (IntKind.u32.wrap ((IntKind.u32.wrap ((IntKind.u32.wrap ((bXor .u32 (bXor .u32 r1 r2) (sR .u32 (s2.getD (IntKind.i64.wrap (s1 - 2)).toNat 0) 10)) + (s2.getD (IntKind.i64.wrap (s1 - 7)).toNat 0))) + (bXor .u32 (bXor .u32 r3 r4) (sR .u32 (s2.getD (IntKind.i64.wrap (s1 - 15)).toNat 0) 3)))) + (s2.getD (IntKind.i64.wrap (s1 - 16)).toNat 0)))) else none))))) else none) else none) else none) else none))).bind fun c2 => some (.inl (IntKind.i64.wrap (s1 + 1), c2))) else some (.inr s2))
noncomputable def digest_spread.f (x0 : List Int) : Option (List Int) := ((loopO (digest_spread.s0 x0) (0, (List.replicate 64 0))).bind fun c1 => some c1)
def digest_keys.lit0 : List Int := [1116352408, 1899447441, 3049323471, 3921009573, 961987163, 1508970993, 2453635748, 2870763221, 3624381080, 310598401, 607225278, 1426881987, 1925078388, 2162078206, 2614888103, 3248222580, 3835390401, 4022224774, 264347078, 604807628, 770255983, 1249150122, 1555081692, 1996064986, 2554220882, 2821834349, 2952996808, 3210313671, 3336571891, 3584528711, 113926993, 338241895, 666307205, 773529912, 1294757372, 1396182291, 1695183700, 1986661051, 2177026350, 2456956037, 2730485921, 2820302411, 3259730800, 3345764771, 3516065817, 3600352804, 4094571909, 275423344, 430227734, 506948616, 659060556, 883997877, 958139571, 1322822218, 1537002063, 1747873779, 1955562222, 2024104815, 2227730452, 2361852424, 2428436474, 2756734187, 3204031479, 3329325298]
theorem digest_keys.lit0_in : ∀ x ∈ digest_keys.lit0, InR .u32 x := all_in (by kernel_rfl)
noncomputable def digest_keys.f : Option (List Int) := some digest_keys.lit0
noncomputable def digest_mix.s1 (c1 : List Int) : (Int × (List Int)) → Option ((Int × (List Int)) ⊕ (List Int)) := fun (s3, s4) => (if s3 < 8 then (if 0 ≤ s3 ∧ s3 < 8 then some (.inl (IntKind.i64.wrap (s3 + 1), s4.set s3.toNat (IntKind.u32.wrap ((s4.getD s3.toNat 0) + (c1.getD s3.toNat 0))))) else none) else some (.inr s4))
noncomputable def digest_mix.s0 (r1 : List Int) (r2 : List Int) : (Int × (List Int)) → Option ((Int × (List Int)) ⊕ (List Int)) := fun (s1, s2) => (if s1 < 64 then ((digest_turn.f (s2.getD (4 : Int).toNat 0) 6).bind fun r3 => ((digest_turn.f (s2.getD (4 : Int).toNat 0) 11).bind fun r4 => ((digest_turn.f (s2.getD (4 : Int).toNat 0) 25).bind fun r5 => (if 0 ≤ s1 ∧ s1 < 64 then ((digest_turn.f (s2.getD (0 : Int).toNat 0) 2).bind fun r6 => ((digest_turn.f (s2.getD (0 : Int).toNat 0) 13).bind fun r7 => ((digest_turn.f (s2.getD (0 : Int).toNat 0) 22).bind fun r8 => some (.inl (IntKind.i64.wrap (s1 + 1), ([IntKind.u32.wrap ((IntKind.u32.wrap ((IntKind.u32.wrap ((IntKind.u32.wrap ((IntKind.u32.wrap ((s2.getD (7 : Int).toNat 0) + (bXor .u32 (bXor .u32 r3 r4) r5))) + (bXor .u32 (bAnd .u32 (s2.getD (4 : Int).toNat 0) (s2.getD (5 : Int).toNat 0)) (bAnd .u32 (bNot .u32 (s2.getD (4 : Int).toNat 0)) (s2.getD (6 : Int).toNat 0))))) + (r2.getD s1.toNat 0))) + (r1.getD s1.toNat 0))) + (IntKind.u32.wrap ((bXor .u32 (bXor .u32 r6 r7) r8) + (bXor .u32 (bXor .u32 (bAnd .u32 (s2.getD (0 : Int).toNat 0) (s2.getD (1 : Int).toNat 0)) (bAnd .u32 (s2.getD (0 : Int).toNat 0) (s2.getD (2 : Int).toNat 0))) (bAnd .u32 (s2.getD (1 : Int).toNat 0) (s2.getD (2 : Int).toNat 0)))))), s2.getD (0 : Int).toNat 0, s2.getD (1 : Int).toNat 0, s2.getD (2 : Int).toNat 0, IntKind.u32.wrap ((s2.getD (3 : Int).toNat 0) + (IntKind.u32.wrap ((IntKind.u32.wrap ((IntKind.u32.wrap ((IntKind.u32.wrap ((s2.getD (7 : Int).toNat 0) + (bXor .u32 (bXor .u32 r3 r4) r5))) + (bXor .u32 (bAnd .u32 (s2.getD (4 : Int).toNat 0) (s2.getD (5 : Int).toNat 0)) (bAnd .u32 (bNot .u32 (s2.getD (4 : Int).toNat 0)) (s2.getD (6 : Int).toNat 0))))) + (r2.getD s1.toNat 0))) + (r1.getD s1.toNat 0)))), s2.getD (4 : Int).toNat 0, s2.getD (5 : Int).toNat 0, s2.getD (6 : Int).toNat 0] : List Int)))))) else none)))) else some (.inr s2))
noncomputable def digest_mix.f (x0 : List Int) (x1 : List Int) : Option (List Int) := ((digest_spread.f x1).bind fun r1 => ((digest_keys.f).bind fun r2 => ((loopO (digest_mix.s0 r1 r2) (0, x0)).bind fun c1 => ((loopO (digest_mix.s1 c1) (0, x0)).bind fun c2 => some c2))))
noncomputable def digest_Writer_Write.s0 : (Int × (List Int) × (List Int)) → Option ((Int × (List Int) × (List Int)) ⊕ (Int × (List Int) × (List Int))) := fun (s1, s2, s3) => (if (IntKind.i64.wrap (s1 + 64)) ≤ (s3.length : Int) then (if 0 ≤ s1 ∧ s1 ≤ (IntKind.i64.wrap (s1 + 64)) ∧ (IntKind.i64.wrap (s1 + 64)) ≤ (s3.length : Int) then ((digest_mix.f s2 ((s3.take (IntKind.i64.wrap (s1 + 64)).toNat).drop (s1).toNat)).bind fun r2 => some (.inl (IntKind.i64.wrap (s1 + 64), r2, s3))) else none) else some (.inr (s1, s2, s3)))
noncomputable def digest_Writer_Write.f (x0 : digestWriter) (x1 : List Int) : Option digestWriter := ((digest_Writer_state.f (⟨x0.s, x0.rest, x0.n⟩ : digestWriter)).bind fun r1 => (if x0.rest.length + x1.length ≤ 140737488355328 then ((loopO (digest_Writer_Write.s0) (0, r1, x0.rest ++ x1)).bind fun (c1, c2, c3) => (if 0 ≤ c1 ∧ c1 ≤ (c3.length : Int) then ((bytes_Clone.f ((c3.take ((c3.length : Int)).toNat).drop (c1).toNat)).bind fun r3 => some (⟨c2, r3, IntKind.i64.wrap (x0.n + (x1.length : Int))⟩ : digestWriter)) else none)) else none))
noncomputable def digest_Writer_Sum.s4 (c4 : List Int) (s7 : Int) : (Int × (List Int)) → Option ((Int × (List Int)) ⊕ (List Int)) := fun (s9, s10) => (if s9 < 4 then (if 0 ≤ (IntKind.i64.wrap (24 - (IntKind.i64.wrap (8 * s9)))) then (if 0 ≤ IntKind.i64.wrap ((IntKind.i64.wrap (4 * s7)) + s9) ∧ IntKind.i64.wrap ((IntKind.i64.wrap (4 * s7)) + s9) < 32 then some (.inl (IntKind.i64.wrap (s9 + 1), s10.set (IntKind.i64.wrap ((IntKind.i64.wrap (4 * s7)) + s9)).toNat (IntKind.u8.wrap (sR .u32 (c4.getD s7.toNat 0) (IntKind.i64.wrap (24 - (IntKind.i64.wrap (8 * s9)))))))) else none) else none) else some (.inr s10))
noncomputable def digest_Writer_Sum.s3 (c4 : List Int) : (Int × (List Int)) → Option ((Int × (List Int)) ⊕ (List Int)) := fun (s7, s8) => (if s7 < 8 then (((if 0 ≤ s7 ∧ s7 < 8 then loopO (digest_Writer_Sum.s4 c4 s7) (0, s8) else none)).bind fun c6 => some (.inl (IntKind.i64.wrap (s7 + 1), c6))) else some (.inr s8))
noncomputable def digest_Writer_Sum.s2 : ((List Int) × Int × (List Int)) → Option (((List Int) × Int × (List Int)) ⊕ ((List Int) × (List Int))) := fun (s4, s5, s6) => (if s5 < (s4.length : Int) then (if 0 ≤ s5 ∧ s5 ≤ (IntKind.i64.wrap (s5 + 64)) ∧ (IntKind.i64.wrap (s5 + 64)) ≤ (s4.length : Int) then ((digest_mix.f s6 ((s4.take (IntKind.i64.wrap (s5 + 64)).toNat).drop (s5).toNat)).bind fun r3 => some (.inl (s4, IntKind.i64.wrap (s5 + 64), r3))) else none) else some (.inr (s4, s6)))
noncomputable def digest_Writer_Sum.s1 (x0 : digestWriter) : ((List Int) × Int) → Option (((List Int) × Int) ⊕ (List Int)) := fun (s2, s3) => (if 0 ≤ s3 then (if 0 ≤ (IntKind.i64.wrap (8 * s3)) then (if s2.length + 1 ≤ 140737488355328 then some (.inl (s2 ++ ([IntKind.u8.wrap (sR .u64 (sL .u64 (IntKind.u64.wrap x0.n) 3) (IntKind.i64.wrap (8 * s3)))] : List Int), IntKind.i64.wrap (s3 - 1))) else none) else none) else some (.inr s2))
noncomputable def digest_Writer_Sum.s0 : (List Int) → Option ((List Int) ⊕ (List Int)) := fun s1 => (if (Int.tmod (s1.length : Int) 64) ≠ 56 then (if s1.length + 1 ≤ 140737488355328 then some (.inl (s1 ++ ([0] : List Int))) else none) else some (.inr s1))
noncomputable def digest_Writer_Sum.f (x0 : digestWriter) : Option (List Int) := ((bytes_Clone.f x0.rest).bind fun r1 => (if r1.length + 1 ≤ 140737488355328 then ((loopO (digest_Writer_Sum.s0) (r1 ++ ([128] : List Int))).bind fun c1 => ((loopO (digest_Writer_Sum.s1 x0) (c1, 7)).bind fun c2 => ((digest_Writer_state.f (⟨x0.s, x0.rest, x0.n⟩ : digestWriter)).bind fun r2 => ((loopO (digest_Writer_Sum.s2) (c2, 0, r2)).bind fun (c3, c4) => ((loopO (digest_Writer_Sum.s3 c4) (0, (List.replicate 32 0))).bind fun c5 => some c5))))) else none))
noncomputable def digest_Sha.f (x0 : List Int) : Option (List Int) := ((digest_Writer_Write.f (⟨(List.replicate 8 0), [], 0⟩ : digestWriter) x0).bind fun r1 => ((digest_Writer_Sum.f (⟨r1.s, r1.rest, r1.n⟩ : digestWriter)).bind fun r2 => some r2))
noncomputable def digest_Twice.f (x0 : List Int) : Option (List Int) := ((digest_Sha.f x0).bind fun r1 => ((digest_Sha.f r1).bind fun r2 => some r2))
end Go.Proofs.YtlpggofilkfbnaaDoor.T
namespace Go.Proofs.YtlpggofilkfbnaaDoor.T
open Go Go.Proofs Go.Proofs.YtlpggofilkfbnaaDoor.K
set_option linter.unusedVariables false
set_option linter.unusedSimpArgs false
set_option maxRecDepth 20000 in
theorem digest_begin.c (μ : Store) (w0 : World) (hμ : Agr μ w0) (r : List Int) (H : digest_begin.f = some r) :
    Calls Tryd.prog 109 [].toArray w0 (fun e w' => ∃ v, e = .returned v ∧ v = .agg [av .u32 8 r].flatten.toArray ∧ Arr .u32 8 r ∧ Iv w0 [] μ μ [] w') := by
  refine enter Tryd.func109 rfl Tryd.ntmps109 rfl fun a hA => ?_
  have hI := Iv.start hμ
  have H := bI H
  refine w_seq fun _ hN1 => ?_
  refine w_reg ?_
  refine o_new [av .u32 8 (List.replicate 8 0)] zr127 hI hA rfl fun g1 a w hA hI hg1 => ?_
  refine o_nil ?_
  refine hN1 _ _ ?_
  refine w_seq fun _ hN2 => ?_
  refine w_reg ?_
  refine stp hA (r_bldA (cs := [av .u32 8 ([1779033703, 3144134277, 1013904242, 2773480762, 1359893119, 2600822924, 528734635, 1541459225])].flatten.toArray) zr127 Tryd.underlying127 sz28 hA rfl (by kernel_rfl)) rfl fun a hA => 
    o_st (j := 0) [] [av .u32 8 (List.replicate 8 0)] [av .u32 8 ([1779033703, 3144134277, 1013904242, 2773480762, 1359893119, 2600822924, 528734635, 1541459225])] [] sz127 rfl rfl (fl_cons (one_av _ _ _) fl_nil) hI rfl hA rfl rfl rfl rfl fun w hI => ?_
  refine o_nil ?_
  refine hN2 _ _ ?_
  refine w_ret ?_
  obtain rfl := Option.some.inj (bS H)
  exact retc Tryd.underlying127 rfl sz127 rfl hI (j := 0) rfl hA Tryd.results109 rfl ⟨_, rfl, rfl, (arr_lit rfl (by simp only [List.forall_mem_cons]; exact ⟨(in_lit .u32 1779033703 rfl), (in_lit .u32 3144134277 rfl), (in_lit .u32 1013904242 rfl), (in_lit .u32 2773480762 rfl), (in_lit .u32 1359893119 rfl), (in_lit .u32 2600822924 rfl), (in_lit .u32 528734635 rfl), (in_lit .u32 1541459225 rfl), by simp⟩)), hI.forget0⟩
set_option maxRecDepth 20000 in
theorem digest_Writer_state.c (μ : Store) (w0 : World) (hμ : Agr μ w0) (x0 : digestWriter) (vp1 : Value) (cp1 : List Value) (g0 : Nat) (hp1 : Arr .u32 8 x0.s) (hp2 : Els (RI .u8) 1 x0.rest cp1) (hp3 : InR .i64 x0.n) (ho0 : Its μ w0 [cel g0 [av .u32 8 x0.s, [vp1], [.int .i64 x0.n]] 129, row 5 1 vp1 x0.rest.length cp1]) (r : List Int) (H : digest_Writer_state.f x0 = some r) :
    Calls Tryd.prog 100 [.pointer (some ⟨g0, 0, none⟩)].toArray w0 (fun e w' => ∃ v, e = .returned v ∧ v = .agg [av .u32 8 r].flatten.toArray ∧ Arr .u32 8 r ∧ Iv w0 (many [cel g0 [av .u32 8 x0.s, [vp1], [.int .i64 x0.n]] 129, row 5 1 vp1 x0.rest.length cp1]).foot μ μ [cel g0 [av .u32 8 x0.s, [vp1], [.int .i64 x0.n]] 129, row 5 1 vp1 x0.rest.length cp1] w') := by
  refine enter Tryd.func100 rfl Tryd.ntmps100 rfl fun a hA => ?_
  have hI := Iv.startN hμ ho0
  have H := bI H
  refine w_seq fun _ hN1 => ?_
  refine w_reg ?_
  refine o_new [av .u32 8 (List.replicate 8 0)] zr127 hI hA rfl fun g1 a w hA hI hg1 => ?_
  refine o_nil ?_
  refine hN1 _ _ ?_
  refine w_seq fun _ hN2 => ?_
  refine w_seq fun _ hN3 => ?_
  refine w_reg ?_
  refine stp hA (r_mv hA rfl) rfl fun a hA => 
    stp hA (r_nilc hA rfl) rfl fun a hA => 
    stp hA (r_fd (k := 9) Tryd.underlying129 rfl sz2 hA rfl rfl) rfl fun a hA => 
    stp hA (r_ld1 (j := 1) [av .u32 8 x0.s, [vp1]] [] Tryd.underlying2 rfl hI rfl hA rfl rfl) rfl fun a hA => 
    stp hA (r_lss hA rfl rfl) rfl fun a hA => ?_
  refine o_nil ?_
  refine hN3 _ _ ?_
  refine w_cond hA rfl (fun hc1 => ?_) (fun hc1 => ?_)
  · have hc10 := hc1; have hc1 := of_decide_eq_true hc1; have H := bT H hc1
    refine w_seq fun _ hN4 => ?_
    refine w_reg ?_
    obtain ⟨r1, hr1, H⟩ := bB H
    refine o_callp (u := .agg [av .u32 8 r1].flatten.toArray) cf109 hA rfl hI (digest_begin.c μ _ hI.agr  r1 hr1) rfl fun a w hz1 hI hA => 
      o_st (j := 0) [] [av .u32 8 (List.replicate 8 0)] [av .u32 8 r1] [] sz127 rfl rfl (fl_cons (one_av _ _ _) fl_nil) hI rfl hA rfl rfl rfl rfl fun w hI => ?_
    refine o_nil ?_
    refine hN4 _ _ ?_
    refine w_ret ?_
    obtain rfl := Option.some.inj (bS H)
    exact retc Tryd.underlying127 rfl sz127 rfl hI (j := 0) rfl hA Tryd.results100 rfl ⟨_, rfl, rfl, hz1, ((hI.sel [1, 2] (by decide) rfl).less (Store.le.refl _) hI.le)⟩
  · have hc10 := hc1; have hc1 := of_decide_eq_false hc1; have H := bF H hc1
    refine w_skip ?_
    refine hN2 _ _ ?_
    refine w_seq fun _ hN5 => ?_
    refine w_reg ?_
    refine stp hA (r_mv hA rfl) rfl fun a hA => 
      stp hA (r_nilc hA rfl) rfl fun a hA => 
      stp hA (r_fd (k := 0) Tryd.underlying129 rfl sz127 hA rfl rfl) rfl fun a hA => 
      stp hA (r_ldA (j := 1) [] [av .u32 8 x0.s] [[vp1], [.int .i64 x0.n]] Tryd.underlying127 rfl sz127 rfl hI rfl hA rfl rfl) rfl fun a hA => 
      o_st (j := 0) [] [av .u32 8 (List.replicate 8 0)] [av .u32 8 x0.s] [] sz127 rfl rfl (fl_cons (one_av _ _ _) fl_nil) hI rfl hA rfl rfl rfl rfl fun w hI => ?_
    refine o_nil ?_
    refine hN5 _ _ ?_
    refine w_ret ?_
    obtain rfl := Option.some.inj (bS H)
    exact retc Tryd.underlying127 rfl sz127 rfl hI (j := 0) rfl hA Tryd.results100 rfl ⟨_, rfl, rfl, hp1, ((hI.sel [1, 2] (by decide) rfl).less (Store.le.refl _) hI.le)⟩
set_option maxRecDepth 20000 in
theorem digest_turn.c (μ : Store) (w0 : World) (hμ : Agr μ w0) (x0 : Int) (hx0 : InR .u32 x0) (x1 : Int) (hx1 : InR .i64 x1) (r : Int) (H : digest_turn.f x0 x1 = some r) :
    Calls Tryd.prog 112 [.int .u32 x0, .int .i64 x1].toArray w0 (fun e w' => ∃ v, e = .returned v ∧ v = .int .u32 r ∧ InR .u32 r ∧ Iv w0 [] μ μ [] w') := by
  refine enter Tryd.func112 rfl Tryd.ntmps112 rfl fun a hA => ?_
  have hI := Iv.start hμ
  have H := bI H
  refine w_seq fun _ hN1 => ?_
  refine w_reg ?_
  refine stp hA (r_as hA rfl) rfl fun a hA => ?_
  refine o_nil ?_
  refine hN1 _ _ ?_
  refine w_seq fun _ hN2 => ?_
  refine w_reg ?_
  refine stp hA (r_mv hA rfl) rfl fun a hA => 
    stp hA (r_mv hA rfl) rfl fun a hA => 
    stp hA (r_neg hA rfl) rfl fun a hA => ?_
  obtain ⟨r1, hr1, H⟩ := bB H
  refine o_callp (u := .int .u32 r1) cf115 hA rfl hI (math_bits_RotateLeft32.c μ _ hI.agr x0 hx0 (IntKind.i64.wrap (0 - x1)) (wrap_in _ _) r1 hr1) rfl fun a w hz1 hI hA => 
    stp hA (r_as hA rfl) rfl fun a hA => ?_
  refine o_nil ?_
  refine hN2 _ _ ?_
  refine w_ret ?_
  obtain rfl := Option.some.inj (bS H)
  exact ret1 hA Tryd.results112 rfl ⟨_, rfl, rfl, hz1, hI.forget0⟩
set_option maxRecDepth 20000 in
theorem digest_spread.c (μ : Store) (w0 : World) (hμ : Agr μ w0) (x0 : List Int) (u0 : Value) (hx0 : Slc (RI .u8) 1 μ u0 x0) (r : List Int) (H : digest_spread.f x0 = some r) :
    Calls Tryd.prog 110 [u0].toArray w0 (fun e w' => ∃ v, e = .returned v ∧ v = .agg [av .u32 64 r].flatten.toArray ∧ Arr .u32 64 r ∧ Iv w0 [] μ μ [] w') := by
  refine enter Tryd.func110 rfl Tryd.ntmps110 rfl fun a hA => ?_
  have hI := Iv.start hμ
  have H := bI H
  refine w_seq fun _ hN1 => ?_
  refine w_reg ?_
  refine o_new [av .u32 64 (List.replicate 64 0)] zr149 hI hA rfl fun g1 a w hA hI hg1 => ?_
  refine o_nil ?_
  refine hN1 _ _ ?_
  refine w_seq fun _ hN2 => ?_
  refine w_reg ?_
  refine o_new [av .u32 64 (List.replicate 64 0)] zr149 hI hA rfl fun g2 a w hA hI hg2 => ?_
  refine o_nil ?_
  refine hN2 _ _ ?_
  obtain ⟨c1, hz1, Hk1⟩ := bB H
  refine w_cut (fun a w => Arr .u32 64 c1 ∧ Fr a 80 [(0, u0), (2, .pointer (some ⟨g1, 0, none⟩)), (3, .pointer (some ⟨g2, 0, none⟩))] ∧ Iv w0 [] μ μ [cel g2 [av .u32 64 c1] 149, cel g1 [av .u32 64 (List.replicate 64 0)] 149] w) ?_ ?_
  · have H := bI hz1
    refine w_seq fun _ hN3 => ?_
    refine w_reg ?_
    refine stp hA (r_mv hA rfl) rfl fun a hA => ?_
    refine o_nil ?_
    refine hN3 _ _ ?_
    refine w_block ?_
    obtain ⟨z1, hz2, Hk2⟩ := bind_some H
    obtain ⟨n1, hn1⟩ := loopO_some hz2
    refine w_loop (fun n a w => ∃ (s1 : Int) (s2 : List Int), loopN (digest_spread.s0 x0) n (s1, s2) = some z1 ∧ InR .i64 s1 ∧ Arr .u32 64 s2 ∧ Fr a 80 [(0, u0), (2, .pointer (some ⟨g1, 0, none⟩)), (3, .pointer (some ⟨g2, 0, none⟩)), (8, .int .i64 s1)] ∧ Iv w0 [] μ μ [cel g2 [av .u32 64 s2] 149, cel g1 [av .u32 64 (List.replicate 64 0)] 149] w) n1 ⟨0, (List.replicate 64 0), hn1, (in_lit .i64 0 rfl), (arr_zero _ _), hA.sub ⟨rfl, rfl, rfl, rfl, trivial⟩, hI⟩ ?_
    clear hA hI
    rintro n a w ⟨s1, s2, hn1, ws1, ws2, hA, hI⟩
    obtain ⟨m1, rfl, H⟩ := loopN_bind hn1
    clear hn1
    refine w_seq fun _ hN4 => ?_
    refine w_reg ?_
    refine stp hA (r_lss hA rfl rfl) rfl fun a hA => ?_
    refine o_nil ?_
    refine hN4 _ _ ?_
    refine w_seq fun _ hN5 => ?_
    refine w_cond hA rfl (fun hc1 => ?_) (fun hc1 => ?_)
    · have hc10 := hc1; have hc1 := of_decide_eq_true hc1; have H := bT H hc1
      refine w_skip ?_
      refine hN5 _ _ ?_
      obtain ⟨c2, hz3, Hk3⟩ := bB H
      refine w_cut (fun a w => Arr .u32 64 c2 ∧ Fr a 80 [(0, u0), (2, .pointer (some ⟨g1, 0, none⟩)), (3, .pointer (some ⟨g2, 0, none⟩)), (8, .int .i64 s1), (9, .bool (decide (s1 < 64)))] ∧ Iv w0 [] μ μ [cel g2 [av .u32 64 c2] 149, cel g1 [av .u32 64 (List.replicate 64 0)] 149] w) ?_ ?_
      · have H := bI hz3
        refine w_block ?_
        refine w_seq fun _ hN6 => ?_
        refine w_reg ?_
        refine stp hA (r_mv hA rfl) rfl fun a hA => 
          stp hA (r_as hA rfl) rfl fun a hA => ?_
        refine o_nil ?_
        refine hN6 _ _ ?_
        refine w_seq fun _ hN7 => ?_
        refine w_seq fun _ hN8 => ?_
        refine w_reg ?_
        refine stp hA (r_mv hA rfl) rfl fun a hA => 
          stp hA (r_lss hA rfl rfl) rfl fun a hA => ?_
        refine o_nil ?_
        refine hN8 _ _ ?_
        refine w_cond hA rfl (fun hc2 => ?_) (fun hc2 => ?_)
        · have hc20 := hc2; have hc2 := of_decide_eq_true hc2; have H := bT H hc2
          refine w_seq fun _ hN9 => ?_
          refine w_reg ?_
          refine stp hA (r_mv hA rfl) rfl fun a hA => 
            stp hA (r_mv hA rfl) rfl fun a hA => 
            stp hA (r_mul hA rfl rfl) rfl fun a hA => ?_
          obtain ⟨hb1, H⟩ := bG H
          obtain ⟨v1, hS1, hr1⟩ := r_sl (P := Tryd.prog) (t := 25) (x := .tmp 13) (l := (some (.tmp 15))) (h := none) (i := IntKind.i64.wrap (4 * s1)) (j := (x0.length : Int)) Tryd.underlying25 sz5 hx0 hA rfl rfl rfl (by have hq := hb1; omega) (by have hq := hb1; omega) (by have hq := hb1; omega)
          refine stp hA (hr1 _ _ _ _ _ _) rfl fun a hA => 
            stp hA (r_as hA rfl) rfl fun a hA => ?_
          refine o_nil ?_
          refine hN9 _ _ ?_
          refine w_seq fun _ hN10 => ?_
          refine w_anyS [] mo (fun w (h : Iv w0 [] μ μ [cel g2 [av .u32 64 s2] 149, cel g1 [av .u32 64 (List.replicate 64 0)] 149] w) => (h.sel [1] (by decide) rfl : Iv w0 [] μ μ [cel g1 [av .u32 64 (List.replicate 64 0)] 149] w)) hI fun w hI => ?_
          refine g_easy (i := 0) hA rfl rfl (by kernel_rfl) (.inr (hI.sel [1] (by decide) rfl)) (fun _ => r_mv hA rfl) rfl fun a hA => ?_
          refine g_easy (i := 1) hA rfl rfl (by kernel_rfl) (.inr (hI.sel [1] (by decide) rfl)) (fun _ => r_mv hA rfl) rfl fun a hA => ?_
          obtain ⟨hb2, H⟩ := bG H
          obtain ⟨_, he1, _, hat1⟩ := Slc.elem1 hS1 (getD_some 0 (by decide) hb2)
          obtain ⟨rfl, hw1⟩ := he1
          obtain ⟨_, hsl1⟩ := Slc.sv hS1
          refine g_easy (i := 2) hA rfl rfl (by kernel_rfl) (.inr (hI.sel [1] (by decide) rfl)) (fun _ => r_six1 Tryd.underlying25 sz5 hsl1 hA rfl rfl (by decide) hb2) rfl fun a hA => ?_
          refine g_take (i := 3) hA rfl rfl (by kernel_rfl) (hI.sel [1] (by decide) rfl) (fun w hI => r_ldm1 [] [] Tryd.underlying5 rfl hI.agr hat1 hA rfl rfl) rfl fun a hA => ?_
          refine g_easy (i := 4) hA rfl rfl (by kernel_rfl) (.inr (hI.sel [1] (by decide) rfl)) (fun _ => r_conv Tryd.underlying5 Tryd.underlying28 hA rfl) rfl fun a hA => ?_
          refine g_easy (i := 5) hA rfl rfl (by kernel_rfl) (.inr (hI.sel [1] (by decide) rfl)) (fun _ => r_shl hA rfl rfl (by decide)) rfl fun a hA => ?_
          refine g_easy (i := 6) hA rfl rfl (by kernel_rfl) (.inr (hI.sel [1] (by decide) rfl)) (fun _ => r_mv hA rfl) rfl fun a hA => ?_
          obtain ⟨hb3, H⟩ := bG H
          obtain ⟨_, he2, _, hat2⟩ := Slc.elem1 hS1 (getD_some 0 (by decide) hb3)
          obtain ⟨rfl, hw2⟩ := he2
          obtain ⟨_, hsl2⟩ := Slc.sv hS1
          refine g_easy (i := 7) hA rfl rfl (by kernel_rfl) (.inr (hI.sel [1] (by decide) rfl)) (fun _ => r_six1 Tryd.underlying25 sz5 hsl2 hA rfl rfl (by decide) hb3) rfl fun a hA => ?_
          refine g_take (i := 8) hA rfl rfl (by kernel_rfl) (hI.sel [1] (by decide) rfl) (fun w hI => r_ldm1 [] [] Tryd.underlying5 rfl hI.agr hat2 hA rfl rfl) rfl fun a hA => ?_
          refine g_easy (i := 9) hA rfl rfl (by kernel_rfl) (.inr (hI.sel [1] (by decide) rfl)) (fun _ => r_conv Tryd.underlying5 Tryd.underlying28 hA rfl) rfl fun a hA => ?_
          refine g_easy (i := 10) hA rfl rfl (by kernel_rfl) (.inr (hI.sel [1] (by decide) rfl)) (fun _ => r_shl hA rfl rfl (by decide)) rfl fun a hA => ?_
          refine g_easy (i := 11) hA rfl rfl (by kernel_rfl) (.inr (hI.sel [1] (by decide) rfl)) (fun _ => r_or hA rfl rfl) rfl fun a hA => ?_
          refine g_easy (i := 12) hA rfl rfl (by kernel_rfl) (.inr (hI.sel [1] (by decide) rfl)) (fun _ => r_mv hA rfl) rfl fun a hA => ?_
          obtain ⟨hb4, H⟩ := bG H
          obtain ⟨_, he3, _, hat3⟩ := Slc.elem1 hS1 (getD_some 0 (by decide) hb4)
          obtain ⟨rfl, hw3⟩ := he3
          obtain ⟨_, hsl3⟩ := Slc.sv hS1
          refine g_easy (i := 13) hA rfl rfl (by kernel_rfl) (.inr (hI.sel [1] (by decide) rfl)) (fun _ => r_six1 Tryd.underlying25 sz5 hsl3 hA rfl rfl (by decide) hb4) rfl fun a hA => ?_
          refine g_take (i := 14) hA rfl rfl (by kernel_rfl) (hI.sel [1] (by decide) rfl) (fun w hI => r_ldm1 [] [] Tryd.underlying5 rfl hI.agr hat3 hA rfl rfl) rfl fun a hA => ?_
          refine g_easy (i := 15) hA rfl rfl (by kernel_rfl) (.inr (hI.sel [1] (by decide) rfl)) (fun _ => r_conv Tryd.underlying5 Tryd.underlying28 hA rfl) rfl fun a hA => ?_
          refine g_easy (i := 16) hA rfl rfl (by kernel_rfl) (.inr (hI.sel [1] (by decide) rfl)) (fun _ => r_shl hA rfl rfl (by decide)) rfl fun a hA => ?_
          refine g_easy (i := 17) hA rfl rfl (by kernel_rfl) (.inr (hI.sel [1] (by decide) rfl)) (fun _ => r_or hA rfl rfl) rfl fun a hA => ?_
          refine g_easy (i := 18) hA rfl rfl (by kernel_rfl) (.inr (hI.sel [1] (by decide) rfl)) (fun _ => r_mv hA rfl) rfl fun a hA => ?_
          obtain ⟨hb5, H⟩ := bG H
          obtain ⟨_, he4, _, hat4⟩ := Slc.elem1 hS1 (getD_some 0 (by decide) hb5)
          obtain ⟨rfl, hw4⟩ := he4
          obtain ⟨_, hsl4⟩ := Slc.sv hS1
          refine g_easy (i := 19) hA rfl rfl (by kernel_rfl) (.inr (hI.sel [1] (by decide) rfl)) (fun _ => r_six1 Tryd.underlying25 sz5 hsl4 hA rfl rfl (by decide) hb5) rfl fun a hA => ?_
          refine g_take (i := 20) hA rfl rfl (by kernel_rfl) (hI.sel [1] (by decide) rfl) (fun w hI => r_ldm1 [] [] Tryd.underlying5 rfl hI.agr hat4 hA rfl rfl) rfl fun a hA => ?_
          refine g_easy (i := 21) hA rfl rfl (by kernel_rfl) (.inr (hI.sel [1] (by decide) rfl)) (fun _ => r_conv Tryd.underlying5 Tryd.underlying28 hA rfl) rfl fun a hA => ?_
          refine g_easy (i := 22) hA rfl rfl (by kernel_rfl) (.inr (hI.sel [1] (by decide) rfl)) (fun _ => r_or hA rfl rfl) rfl fun a hA => ?_
          obtain ⟨hb6, H⟩ := bG H
          refine g_easy (i := 23) hA rfl rfl (by kernel_rfl) (.inr (hI.sel [1] (by decide) rfl)) (fun _ => r_ixar1 Tryd.underlying149 sz28 hA rfl rfl hb6.1 hb6.2) rfl fun a hA => ?_
          refine g_forced (i := 24) rfl (by kernel_rfl) ?_
          refine o_stE (j := 0) [] [] sz28 ws2.1 hI rfl hA rfl rfl rfl (by omega) fun w hI => ?_
          refine o_nil ?_
          refine ⟨(.inr (hI.sel [1] (by decide) rfl)), ?_⟩
          refine g_nil (by kernel_rfl) ?_
          refine hN10 _ _ ?_
          refine w_exit rfl ?_
          cases Option.some.inj (bS H)
          exact ⟨(arr_set ws2 _ (wrap_in _ _)), hA.sub ⟨rfl, rfl, rfl, rfl, rfl, trivial⟩, hI⟩
        · have hc20 := hc2; have hc2 := of_decide_eq_false hc2; have H := bF H hc2
          refine w_skip ?_
          refine hN7 _ _ ?_
          refine w_seq fun _ hN11 => ?_
          refine w_draw mo (by kernel_rfl) hI ?_
          refine qtp hA (fun _ hI => r_mv hA rfl) rfl fun a hA => 
            qtp hA (fun _ hI => r_sub hA rfl rfl) rfl fun a hA => ?_
          obtain ⟨hb7, H⟩ := bG H
          refine qtp hA (fun _ hI => r_ixar1 Tryd.underlying149 sz28 hA rfl rfl hb7.1 hb7.2) rfl fun a hA => 
            qtp hA (fun _ hI => r_ldE (j := 0) [] [] Tryd.underlying28 rfl hI rfl hA rfl rfl (by omega)) rfl fun a hA => 
            qtp hA (fun _ hI => r_mv hA rfl) rfl fun a hA => 
            qtp hA (fun _ hI => r_sub hA rfl rfl) rfl fun a hA => ?_
          obtain ⟨hb8, H⟩ := bG H
          refine qtp hA (fun _ hI => r_ixar1 Tryd.underlying149 sz28 hA rfl rfl hb8.1 hb8.2) rfl fun a hA => 
            qtp hA (fun _ hI => r_ldE (j := 0) [] [] Tryd.underlying28 rfl hI rfl hA rfl rfl (by omega)) rfl fun a hA => 
            qtp hA (fun _ hI => r_as hA rfl) rfl fun a hA => 
            qtp hA (fun _ hI => r_as hA rfl) rfl fun a hA => ?_
          refine q_nil fun w hI => ?_
          refine hN11 _ _ ?_
          refine w_any [29] mo hI fun w hI => ?_
          refine g_easy (i := 0) hA rfl rfl (by kernel_rfl) (.inr hI) (fun _ => r_mv hA rfl) rfl fun a hA => ?_
          refine g_easy (i := 1) hA rfl rfl (by kernel_rfl) (.inr hI) (fun _ => r_mv hA rfl) rfl fun a hA => ?_
          refine g_easy (i := 3) hA rfl rfl (by kernel_rfl) (.inr hI) (fun _ => r_mv hA rfl) rfl fun a hA => ?_
          refine g_easy (i := 6) hA rfl rfl (by kernel_rfl) (.inr hI) (fun _ => r_mv hA rfl) rfl fun a hA => ?_
          refine g_easy (i := 7) hA rfl rfl (by kernel_rfl) (.inr hI) (fun _ => r_shr hA rfl rfl (by decide)) rfl fun a hA => ?_
          refine g_easy (i := 9) hA rfl rfl (by kernel_rfl) (.inr hI) (fun _ => r_mv hA rfl) rfl fun a hA => ?_
          refine g_easy (i := 10) hA rfl rfl (by kernel_rfl) (.inr hI) (fun _ => r_sub hA rfl rfl) rfl fun a hA => ?_
          obtain ⟨hb9, H⟩ := bG H
          refine g_easy (i := 11) hA rfl rfl (by kernel_rfl) (.inr hI) (fun _ => r_ixar1 Tryd.underlying149 sz28 hA rfl rfl hb9.1 hb9.2) rfl fun a hA => ?_
          refine g_take (i := 12) hA rfl rfl (by kernel_rfl) hI (fun w hI => r_ldE (j := 0) [] [] Tryd.underlying28 rfl hI rfl hA rfl rfl (by omega)) rfl fun a hA => ?_
          refine g_easy (i := 14) hA rfl rfl (by kernel_rfl) (.inr hI) (fun _ => r_mv hA rfl) rfl fun a hA => ?_
          refine g_easy (i := 16) hA rfl rfl (by kernel_rfl) (.inr hI) (fun _ => r_mv hA rfl) rfl fun a hA => ?_
          refine g_easy (i := 19) hA rfl rfl (by kernel_rfl) (.inr hI) (fun _ => r_mv hA rfl) rfl fun a hA => ?_
          refine g_easy (i := 20) hA rfl rfl (by kernel_rfl) (.inr hI) (fun _ => r_shr hA rfl rfl (by decide)) rfl fun a hA => ?_
          refine g_easy (i := 23) hA rfl rfl (by kernel_rfl) (.inr hI) (fun _ => r_mv hA rfl) rfl fun a hA => ?_
          refine g_easy (i := 24) hA rfl rfl (by kernel_rfl) (.inr hI) (fun _ => r_sub hA rfl rfl) rfl fun a hA => ?_
          obtain ⟨hb10, H⟩ := bG H
          refine g_easy (i := 25) hA rfl rfl (by kernel_rfl) (.inr hI) (fun _ => r_ixar1 Tryd.underlying149 sz28 hA rfl rfl hb10.1 hb10.2) rfl fun a hA => ?_
          refine g_take (i := 26) hA rfl rfl (by kernel_rfl) hI (fun w hI => r_ldE (j := 0) [] [] Tryd.underlying28 rfl hI rfl hA rfl rfl (by omega)) rfl fun a hA => ?_
          refine g_forced (i := 2) rfl (by kernel_rfl) ?_
          obtain ⟨r1, hr2, H⟩ := bB H
          refine o_callp (u := .int .u32 r1) cf112 hA rfl hI (digest_turn.c μ _ hI.agr (s2.getD (IntKind.i64.wrap (s1 - 2)).toNat 0) (arr_get ws2 _) 17 (in_lit .i64 17 rfl) r1 hr2) rfl fun a w hz4 hI hA => ?_
          refine o_nil ?_
          refine ⟨(.inr hI), ?_⟩
          refine g_forced (i := 4) rfl (by kernel_rfl) ?_
          obtain ⟨r2, hr3, H⟩ := bB H
          refine o_callp (u := .int .u32 r2) cf112 hA rfl hI (digest_turn.c μ _ hI.agr (s2.getD (IntKind.i64.wrap (s1 - 2)).toNat 0) (arr_get ws2 _) 19 (in_lit .i64 19 rfl) r2 hr3) rfl fun a w hz5 hI hA => ?_
          refine o_nil ?_
          refine ⟨(.inr hI), ?_⟩
          refine g_easy (i := 5) hA rfl rfl (by kernel_rfl) (.inr hI) (fun _ => r_xor hA rfl rfl) rfl fun a hA => ?_
          refine g_easy (i := 8) hA rfl rfl (by kernel_rfl) (.inr hI) (fun _ => r_xor hA rfl rfl) rfl fun a hA => ?_
          refine g_easy (i := 13) hA rfl rfl (by kernel_rfl) (.inr hI) (fun _ => r_add hA rfl rfl) rfl fun a hA => ?_
          refine g_forced (i := 15) rfl (by kernel_rfl) ?_
          obtain ⟨r3, hr4, H⟩ := bB H
          refine o_callp (u := .int .u32 r3) cf112 hA rfl hI (digest_turn.c μ _ hI.agr (s2.getD (IntKind.i64.wrap (s1 - 15)).toNat 0) (arr_get ws2 _) 7 (in_lit .i64 7 rfl) r3 hr4) rfl fun a w hz6 hI hA => ?_
          refine o_nil ?_
          refine ⟨(.inr hI), ?_⟩
          refine g_forced (i := 17) rfl (by kernel_rfl) ?_
          obtain ⟨r4, hr5, H⟩ := bB H
          refine o_callp (u := .int .u32 r4) cf112 hA rfl hI (digest_turn.c μ _ hI.agr (s2.getD (IntKind.i64.wrap (s1 - 15)).toNat 0) (arr_get ws2 _) 18 (in_lit .i64 18 rfl) r4 hr5) rfl fun a w hz7 hI hA => ?_
          refine o_nil ?_
          refine ⟨(.inr hI), ?_⟩
          refine g_easy (i := 18) hA rfl rfl (by kernel_rfl) (.inr hI) (fun _ => r_xor hA rfl rfl) rfl fun a hA => ?_
          refine g_easy (i := 21) hA rfl rfl (by kernel_rfl) (.inr hI) (fun _ => r_xor hA rfl rfl) rfl fun a hA => ?_
          refine g_easy (i := 22) hA rfl rfl (by kernel_rfl) (.inr hI) (fun _ => r_add hA rfl rfl) rfl fun a hA => ?_
          refine g_easy (i := 27) hA rfl rfl (by kernel_rfl) (.inr hI) (fun _ => r_add hA rfl rfl) rfl fun a hA => ?_
          obtain ⟨hb11, H⟩ := bG H
          refine g_easy (i := 28) hA rfl rfl (by kernel_rfl) (.inr hI) (fun _ => r_ixar1 Tryd.underlying149 sz28 hA rfl rfl hb11.1 hb11.2) rfl fun a hA => ?_
          refine g_forced (i := 29) rfl (by kernel_rfl) ?_
          refine o_stE (j := 0) [] [] sz28 ws2.1 hI rfl hA rfl rfl rfl (by omega) fun w hI => ?_
          refine o_nil ?_
          refine ⟨(.inl (by kernel_rfl)), ?_⟩
          refine g_nil (by kernel_rfl) ?_
          cases Option.some.inj (bS H)
          exact ⟨(arr_set ws2 _ (wrap_in _ _)), hA.sub ⟨rfl, rfl, rfl, rfl, rfl, trivial⟩, hI⟩
      · rintro a w ⟨wc2, hA, hI⟩
        have H := Hk3
        refine w_reg ?_
        refine stp hA (r_add hA rfl rfl) rfl fun a hA => 
          stp hA (r_mv hA rfl) rfl fun a hA => ?_
        refine o_nil ?_
        exact ⟨m1, Nat.lt_succ_self _, IntKind.i64.wrap (s1 + 1), c2, H, (wrap_in _ _), wc2, hA.sub ⟨rfl, rfl, rfl, rfl, trivial⟩, hI⟩
    · have hc10 := hc1; have hc1 := of_decide_eq_false hc1; have H := bF H hc1
      refine w_exit rfl ?_
      have H : some s2 = some z1 := H
      obtain rfl := Option.some.inj H
      have H := Hk2
      cases Option.some.inj (bS H)
      exact ⟨ws2, hA.sub ⟨rfl, rfl, rfl, trivial⟩, hI⟩
  · rintro a w ⟨wc1, hA, hI⟩
    have H := Hk1
    refine w_seq fun _ hN12 => ?_
    refine w_reg ?_
    refine stp hA (r_ldA (j := 0) [] [av .u32 64 c1] [] Tryd.underlying149 rfl sz149 rfl hI rfl hA rfl rfl) rfl fun a hA => 
      o_st (j := 1) [] [av .u32 64 (List.replicate 64 0)] [av .u32 64 c1] [] sz149 rfl rfl (fl_cons (one_av _ _ _) fl_nil) hI rfl hA rfl rfl rfl rfl fun w hI => ?_
    refine o_nil ?_
    refine hN12 _ _ ?_
    refine w_ret ?_
    obtain rfl := Option.some.inj (bS H)
    exact retc Tryd.underlying149 rfl sz149 rfl hI (j := 1) rfl hA Tryd.results110 rfl ⟨_, rfl, rfl, wc1, hI.forget0⟩
set_option maxRecDepth 20000 in
theorem digest_keys.c (μ : Store) (w0 : World) (hμ : Agr μ w0) (r : List Int) (H : digest_keys.f = some r) :
    Calls Tryd.prog 111 [].toArray w0 (fun e w' => ∃ v, e = .returned v ∧ v = .agg [av .u32 64 r].flatten.toArray ∧ Arr .u32 64 r ∧ Iv w0 [] μ μ [] w') := by
  refine enter Tryd.func111 rfl Tryd.ntmps111 rfl fun a hA => ?_
  have hI := Iv.start hμ
  have H := bI H
  refine w_seq fun _ hN1 => ?_
  refine w_reg ?_
  refine o_new [av .u32 64 (List.replicate 64 0)] zr149 hI hA rfl fun g1 a w hA hI hg1 => ?_
  refine o_nil ?_
  refine hN1 _ _ ?_
  refine w_seq fun _ hN2 => ?_
  refine w_reg ?_
  refine stp hA (r_bldA (cs := [av .u32 64 digest_keys.lit0].flatten.toArray) (pv := numbered .u32 digest_keys.lit0) zr149 Tryd.underlying149 sz28 hA (by kernel_rfl) (by kernel_rfl)) rfl fun a hA => 
    o_st (j := 0) [] [av .u32 64 (List.replicate 64 0)] [av .u32 64 digest_keys.lit0] [] sz149 rfl rfl (fl_cons (one_av _ _ _) fl_nil) hI rfl hA rfl rfl rfl rfl fun w hI => ?_
  refine o_nil ?_
  refine hN2 _ _ ?_
  refine w_ret ?_
  obtain rfl := Option.some.inj (bS H)
  exact retc Tryd.underlying149 rfl sz149 rfl hI (j := 0) rfl hA Tryd.results111 rfl ⟨_, rfl, rfl, (arr_lit (by kernel_rfl) digest_keys.lit0_in), hI.forget0⟩
set_option maxRecDepth 20000 in
theorem digest_mix.c (μ : Store) (w0 : World) (hμ : Agr μ w0) (x0 : List Int) (hx0 : Arr .u32 8 x0) (x1 : List Int) (u1 : Value) (hx1 : Slc (RI .u8) 1 μ u1 x1) (r : List Int) (H : digest_mix.f x0 x1 = some r) :
    Calls Tryd.prog 101 [.agg [av .u32 8 x0].flatten.toArray, u1].toArray w0 (fun e w' => ∃ v, e = .returned v ∧ v = .agg [av .u32 8 r].flatten.toArray ∧ Arr .u32 8 r ∧ Iv w0 [] μ μ [] w') := by
  refine enter Tryd.func101 rfl Tryd.ntmps101 rfl fun a hA => ?_
  have hI := Iv.start hμ
  have H := bI H
  refine w_seq fun _ hN1 => ?_
  refine w_reg ?_
  refine o_box [av .u32 8 x0] hI hA rfl rfl rfl fun g1 a w hA hI hg1 => 
    o_new [av .u32 8 (List.replicate 8 0)] zr127 hI hA rfl fun g2 a w hA hI hg2 => ?_
  refine o_nil ?_
  refine hN1 _ _ ?_
  refine w_seq fun _ hN2 => ?_
  refine w_reg ?_
  refine stp hA (r_mv hA rfl) rfl fun a hA => ?_
  obtain ⟨r1, hr1, H⟩ := bB H
  refine o_callp (u := .agg [av .u32 64 r1].flatten.toArray) cf110 hA rfl hI (digest_spread.c μ _ hI.agr x1 u1 hx1 r1 hr1) rfl fun a w hz1 hI hA => ?_
  obtain ⟨r2, hr2, H⟩ := bB H
  refine o_callp (u := .agg [av .u32 64 r2].flatten.toArray) cf111 hA rfl hI (digest_keys.c μ _ hI.agr  r2 hr2) rfl fun a w hz2 hI hA => 
    o_new [av .u32 64 (List.replicate 64 0)] zr149 hI hA rfl fun g3 a w hA hI hg3 => 
    o_new [av .u32 64 (List.replicate 64 0)] zr149 hI hA rfl fun g4 a w hA hI hg4 => 
    o_st (j := 1) [] [av .u32 64 (List.replicate 64 0)] [av .u32 64 r1] [] sz149 rfl rfl (fl_cons (one_av _ _ _) fl_nil) hI rfl hA rfl rfl rfl rfl fun w hI => 
    o_st (j := 0) [] [av .u32 64 (List.replicate 64 0)] [av .u32 64 r2] [] sz149 rfl rfl (fl_cons (one_av _ _ _) fl_nil) hI rfl hA rfl rfl rfl rfl fun w hI => ?_
  refine o_nil ?_
  refine hN2 _ _ ?_
  refine w_seq fun _ hN3 => ?_
  refine w_reg ?_
  refine stp hA (r_ldA (j := 3) [] [av .u32 8 x0] [] Tryd.underlying127 rfl sz127 rfl hI rfl hA rfl rfl) rfl fun a hA => 
    o_new [av .u32 8 (List.replicate 8 0)] zr127 hI hA rfl fun g5 a w hA hI hg5 => 
    o_st (j := 0) [] [av .u32 8 (List.replicate 8 0)] [av .u32 8 x0] [] sz127 rfl rfl (fl_cons (one_av _ _ _) fl_nil) hI rfl hA rfl rfl rfl rfl fun w hI => ?_
  refine o_nil ?_
  refine hN3 _ _ ?_
  obtain ⟨c1, hz3, Hk1⟩ := bB H
  refine w_cut (fun a w => Arr .u32 8 c1 ∧ Fr a 111 [(0, .agg [av .u32 8 x0].flatten.toArray), (1, u1), (2, .pointer (some ⟨g1, 0, none⟩)), (4, .pointer (some ⟨g2, 0, none⟩)), (5, .pointer (some ⟨g3, 0, none⟩)), (6, .pointer (some ⟨g4, 0, none⟩)), (7, .pointer (some ⟨g5, 0, none⟩))] ∧ Iv w0 [] μ μ [cel g5 [av .u32 8 c1] 127, cel g4 [av .u32 64 r2] 149, cel g3 [av .u32 64 r1] 149, cel g2 [av .u32 8 (List.replicate 8 0)] 127, cel g1 [av .u32 8 x0] 127] w) ?_ ?_
  · have H := bI hz3
    refine w_seq fun _ hN4 => ?_
    refine w_reg ?_
    refine stp hA (r_mv hA rfl) rfl fun a hA => ?_
    refine o_nil ?_
    refine hN4 _ _ ?_
    refine w_block ?_
    obtain ⟨z1, hz4, Hk2⟩ := bind_some H
    obtain ⟨n1, hn1⟩ := loopO_some hz4
    refine w_loop (fun n a w => ∃ (s1 : Int) (s2 : List Int), loopN (digest_mix.s0 r1 r2) n (s1, s2) = some z1 ∧ InR .i64 s1 ∧ Arr .u32 8 s2 ∧ Fr a 111 [(0, .agg [av .u32 8 x0].flatten.toArray), (1, u1), (2, .pointer (some ⟨g1, 0, none⟩)), (4, .pointer (some ⟨g2, 0, none⟩)), (5, .pointer (some ⟨g3, 0, none⟩)), (6, .pointer (some ⟨g4, 0, none⟩)), (7, .pointer (some ⟨g5, 0, none⟩)), (18, .int .i64 s1)] ∧ Iv w0 [] μ μ [cel g5 [av .u32 8 s2] 127, cel g4 [av .u32 64 r2] 149, cel g3 [av .u32 64 r1] 149, cel g2 [av .u32 8 (List.replicate 8 0)] 127, cel g1 [av .u32 8 x0] 127] w) n1 ⟨0, x0, hn1, (in_lit .i64 0 rfl), hx0, hA.sub ⟨rfl, rfl, rfl, rfl, rfl, rfl, rfl, rfl, trivial⟩, hI⟩ ?_
    clear hA hI
    rintro n a w ⟨s1, s2, hn1, ws1, ws2, hA, hI⟩
    obtain ⟨m1, rfl, H⟩ := loopN_bind hn1
    clear hn1
    refine w_seq fun _ hN5 => ?_
    refine w_reg ?_
    refine stp hA (r_lss hA rfl rfl) rfl fun a hA => ?_
    refine o_nil ?_
    refine hN5 _ _ ?_
    refine w_seq fun _ hN6 => ?_
    refine w_cond hA rfl (fun hc1 => ?_) (fun hc1 => ?_)
    · have hc10 := hc1; have hc1 := of_decide_eq_true hc1; have H := bT H hc1
      refine w_skip ?_
      refine hN6 _ _ ?_
      refine w_seq fun _ hN7 => ?_
      refine w_block ?_
      refine w_seq fun _ hN8 => ?_
      refine w_reg ?_
      refine stp hA (r_mv hA rfl) rfl fun a hA => 
        stp hA (r_as hA rfl) rfl fun a hA => ?_
      refine o_nil ?_
      refine hN8 _ _ ?_
      refine w_seq fun _ hN9 => ?_
      refine w_draw mo (by kernel_rfl) hI ?_
      refine qtp hA (fun _ hI => r_ixar1 Tryd.underlying127 sz28 hA rfl rfl (by decide) (by decide)) rfl fun a hA => 
        qtp hA (fun _ hI => r_ldE (j := 0) [] [] Tryd.underlying28 rfl hI rfl hA rfl rfl (by decide)) rfl fun a hA => 
        qtp hA (fun _ hI => r_ixar1 Tryd.underlying127 sz28 hA rfl rfl (by decide) (by decide)) rfl fun a hA => 
        qtp hA (fun _ hI => r_ldE (j := 0) [] [] Tryd.underlying28 rfl hI rfl hA rfl rfl (by decide)) rfl fun a hA => 
        qtp hA (fun _ hI => r_as hA rfl) rfl fun a hA => 
        qtp hA (fun _ hI => r_as hA rfl) rfl fun a hA => ?_
      refine q_nil fun w hI => ?_
      refine hN9 _ _ ?_
      refine w_seq fun _ hN10 => ?_
      refine w_draw mo (by kernel_rfl) hI ?_
      refine qtp hA (fun _ hI => r_ixar1 Tryd.underlying127 sz28 hA rfl rfl (by decide) (by decide)) rfl fun a hA => 
        qtp hA (fun _ hI => r_ldE (j := 0) [] [] Tryd.underlying28 rfl hI rfl hA rfl rfl (by decide)) rfl fun a hA => 
        qtp hA (fun _ hI => r_mv hA rfl) rfl fun a hA => ?_
      obtain ⟨r3, hr3, H⟩ := bB H
      refine qcall (v := .int .u32 r3) cf112 hA rfl (fun _ hI => plq (digest_turn.c μ _ hI.agr (s2.getD (4 : Int).toNat 0) (arr_get ws2 _) 6 (in_lit .i64 6 rfl) r3 hr3) hI) rfl fun a hA => 
        qtp hA (fun _ hI => r_mv hA rfl) rfl fun a hA => ?_
      obtain ⟨r4, hr4, H⟩ := bB H
      refine qcall (v := .int .u32 r4) cf112 hA rfl (fun _ hI => plq (digest_turn.c μ _ hI.agr (s2.getD (4 : Int).toNat 0) (arr_get ws2 _) 11 (in_lit .i64 11 rfl) r4 hr4) hI) rfl fun a hA => 
        qtp hA (fun _ hI => r_xor hA rfl rfl) rfl fun a hA => 
        qtp hA (fun _ hI => r_mv hA rfl) rfl fun a hA => ?_
      obtain ⟨r5, hr5, H⟩ := bB H
      refine qcall (v := .int .u32 r5) cf112 hA rfl (fun _ hI => plq (digest_turn.c μ _ hI.agr (s2.getD (4 : Int).toNat 0) (arr_get ws2 _) 25 (in_lit .i64 25 rfl) r5 hr5) hI) rfl fun a hA => 
        qtp hA (fun _ hI => r_xor hA rfl rfl) rfl fun a hA => 
        qtp hA (fun _ hI => r_add hA rfl rfl) rfl fun a hA => 
        qtp hA (fun _ hI => r_mv hA rfl) rfl fun a hA => 
        qtp hA (fun _ hI => r_ixar1 Tryd.underlying127 sz28 hA rfl rfl (by decide) (by decide)) rfl fun a hA => 
        qtp hA (fun _ hI => r_ldE (j := 0) [] [] Tryd.underlying28 rfl hI rfl hA rfl rfl (by decide)) rfl fun a hA => 
        qtp hA (fun _ hI => r_and hA rfl rfl) rfl fun a hA => 
        qtp hA (fun _ hI => r_mv hA rfl) rfl fun a hA => 
        qtp hA (fun _ hI => r_inv hA rfl) rfl fun a hA => 
        qtp hA (fun _ hI => r_ixar1 Tryd.underlying127 sz28 hA rfl rfl (by decide) (by decide)) rfl fun a hA => 
        qtp hA (fun _ hI => r_ldE (j := 0) [] [] Tryd.underlying28 rfl hI rfl hA rfl rfl (by decide)) rfl fun a hA => 
        qtp hA (fun _ hI => r_and hA rfl rfl) rfl fun a hA => 
        qtp hA (fun _ hI => r_xor hA rfl rfl) rfl fun a hA => 
        qtp hA (fun _ hI => r_add hA rfl rfl) rfl fun a hA => 
        qtp hA (fun _ hI => r_mv hA rfl) rfl fun a hA => ?_
      obtain ⟨hb1, H⟩ := bG H
      refine qtp hA (fun _ hI => r_ixar1 Tryd.underlying149 sz28 hA rfl rfl hb1.1 hb1.2) rfl fun a hA => 
        qtp hA (fun _ hI => r_ldE (j := 1) [] [] Tryd.underlying28 rfl hI rfl hA rfl rfl (by omega)) rfl fun a hA => 
        qtp hA (fun _ hI => r_add hA rfl rfl) rfl fun a hA => 
        qtp hA (fun _ hI => r_mv hA rfl) rfl fun a hA => 
        qtp hA (fun _ hI => r_ixar1 Tryd.underlying149 sz28 hA rfl rfl hb1.1 hb1.2) rfl fun a hA => 
        qtp hA (fun _ hI => r_ldE (j := 2) [] [] Tryd.underlying28 rfl hI rfl hA rfl rfl (by omega)) rfl fun a hA => 
        qtp hA (fun _ hI => r_add hA rfl rfl) rfl fun a hA => 
        qtp hA (fun _ hI => r_as hA rfl) rfl fun a hA => ?_
      refine q_nil fun w hI => ?_
      refine hN10 _ _ ?_
      refine w_seq fun _ hN11 => ?_
      refine w_draw mo (by kernel_rfl) hI ?_
      refine qtp hA (fun _ hI => r_mv hA rfl) rfl fun a hA => ?_
      obtain ⟨r6, hr6, H⟩ := bB H
      refine qcall (v := .int .u32 r6) cf112 hA rfl (fun _ hI => plq (digest_turn.c μ _ hI.agr (s2.getD (0 : Int).toNat 0) (arr_get ws2 _) 2 (in_lit .i64 2 rfl) r6 hr6) hI) rfl fun a hA => 
        qtp hA (fun _ hI => r_mv hA rfl) rfl fun a hA => ?_
      obtain ⟨r7, hr7, H⟩ := bB H
      refine qcall (v := .int .u32 r7) cf112 hA rfl (fun _ hI => plq (digest_turn.c μ _ hI.agr (s2.getD (0 : Int).toNat 0) (arr_get ws2 _) 13 (in_lit .i64 13 rfl) r7 hr7) hI) rfl fun a hA => 
        qtp hA (fun _ hI => r_xor hA rfl rfl) rfl fun a hA => 
        qtp hA (fun _ hI => r_mv hA rfl) rfl fun a hA => ?_
      obtain ⟨r8, hr8, H⟩ := bB H
      refine qcall (v := .int .u32 r8) cf112 hA rfl (fun _ hI => plq (digest_turn.c μ _ hI.agr (s2.getD (0 : Int).toNat 0) (arr_get ws2 _) 22 (in_lit .i64 22 rfl) r8 hr8) hI) rfl fun a hA => 
        qtp hA (fun _ hI => r_xor hA rfl rfl) rfl fun a hA => 
        qtp hA (fun _ hI => r_mv hA rfl) rfl fun a hA => 
        qtp hA (fun _ hI => r_ixar1 Tryd.underlying127 sz28 hA rfl rfl (by decide) (by decide)) rfl fun a hA => 
        qtp hA (fun _ hI => r_ldE (j := 0) [] [] Tryd.underlying28 rfl hI rfl hA rfl rfl (by decide)) rfl fun a hA => 
        qtp hA (fun _ hI => r_and hA rfl rfl) rfl fun a hA => 
        qtp hA (fun _ hI => r_mv hA rfl) rfl fun a hA => 
        qtp hA (fun _ hI => r_ixar1 Tryd.underlying127 sz28 hA rfl rfl (by decide) (by decide)) rfl fun a hA => 
        qtp hA (fun _ hI => r_ldE (j := 0) [] [] Tryd.underlying28 rfl hI rfl hA rfl rfl (by decide)) rfl fun a hA => 
        qtp hA (fun _ hI => r_and hA rfl rfl) rfl fun a hA => 
        qtp hA (fun _ hI => r_xor hA rfl rfl) rfl fun a hA => 
        qtp hA (fun _ hI => r_ixar1 Tryd.underlying127 sz28 hA rfl rfl (by decide) (by decide)) rfl fun a hA => 
        qtp hA (fun _ hI => r_ldE (j := 0) [] [] Tryd.underlying28 rfl hI rfl hA rfl rfl (by decide)) rfl fun a hA => 
        qtp hA (fun _ hI => r_ixar1 Tryd.underlying127 sz28 hA rfl rfl (by decide) (by decide)) rfl fun a hA => 
        qtp hA (fun _ hI => r_ldE (j := 0) [] [] Tryd.underlying28 rfl hI rfl hA rfl rfl (by decide)) rfl fun a hA => 
        qtp hA (fun _ hI => r_and hA rfl rfl) rfl fun a hA => 
        qtp hA (fun _ hI => r_xor hA rfl rfl) rfl fun a hA => 
        qtp hA (fun _ hI => r_add hA rfl rfl) rfl fun a hA => 
        qtp hA (fun _ hI => r_as hA rfl) rfl fun a hA => ?_
      refine q_nil fun w hI => ?_
      refine hN11 _ _ ?_
      refine w_reg ?_
      refine stp hA (r_mv hA rfl) rfl fun a hA => 
        stp hA (r_mv hA rfl) rfl fun a hA => 
        stp hA (r_add hA rfl rfl) rfl fun a hA => 
        stp hA (r_mv hA rfl) rfl fun a hA => 
        stp hA (r_ixar1 Tryd.underlying127 sz28 hA rfl rfl (by decide) (by decide)) rfl fun a hA => 
        stp hA (r_ldE (j := 0) [] [] Tryd.underlying28 rfl hI rfl hA rfl rfl (by decide)) rfl fun a hA => 
        stp hA (r_ixar1 Tryd.underlying127 sz28 hA rfl rfl (by decide) (by decide)) rfl fun a hA => 
        stp hA (r_ldE (j := 0) [] [] Tryd.underlying28 rfl hI rfl hA rfl rfl (by decide)) rfl fun a hA => 
        stp hA (r_ixar1 Tryd.underlying127 sz28 hA rfl rfl (by decide) (by decide)) rfl fun a hA => 
        stp hA (r_ldE (j := 0) [] [] Tryd.underlying28 rfl hI rfl hA rfl rfl (by decide)) rfl fun a hA => 
        stp hA (r_mv hA rfl) rfl fun a hA => 
        stp hA (r_add hA rfl rfl) rfl fun a hA => 
        stp hA (r_mv hA rfl) rfl fun a hA => 
        stp hA (r_ixar1 Tryd.underlying127 sz28 hA rfl rfl (by decide) (by decide)) rfl fun a hA => 
        stp hA (r_ldE (j := 0) [] [] Tryd.underlying28 rfl hI rfl hA rfl rfl (by decide)) rfl fun a hA => 
        stp hA (r_ixar1 Tryd.underlying127 sz28 hA rfl rfl (by decide) (by decide)) rfl fun a hA => 
        stp hA (r_ldE (j := 0) [] [] Tryd.underlying28 rfl hI rfl hA rfl rfl (by decide)) rfl fun a hA => 
        stp hA (r_bldA (cs := [av .u32 8 ([IntKind.u32.wrap ((IntKind.u32.wrap ((IntKind.u32.wrap ((IntKind.u32.wrap ((IntKind.u32.wrap ((s2.getD (7 : Int).toNat 0) + (bXor .u32 (bXor .u32 r3 r4) r5))) + (bXor .u32 (bAnd .u32 (s2.getD (4 : Int).toNat 0) (s2.getD (5 : Int).toNat 0)) (bAnd .u32 (bNot .u32 (s2.getD (4 : Int).toNat 0)) (s2.getD (6 : Int).toNat 0))))) + (r2.getD s1.toNat 0))) + (r1.getD s1.toNat 0))) + (IntKind.u32.wrap ((bXor .u32 (bXor .u32 r6 r7) r8) + (bXor .u32 (bXor .u32 (bAnd .u32 (s2.getD (0 : Int).toNat 0) (s2.getD (1 : Int).toNat 0)) (bAnd .u32 (s2.getD (0 : Int).toNat 0) (s2.getD (2 : Int).toNat 0))) (bAnd .u32 (s2.getD (1 : Int).toNat 0) (s2.getD (2 : Int).toNat 0)))))), s2.getD (0 : Int).toNat 0, s2.getD (1 : Int).toNat 0, s2.getD (2 : Int).toNat 0, IntKind.u32.wrap ((s2.getD (3 : Int).toNat 0) + (IntKind.u32.wrap ((IntKind.u32.wrap ((IntKind.u32.wrap ((IntKind.u32.wrap ((s2.getD (7 : Int).toNat 0) + (bXor .u32 (bXor .u32 r3 r4) r5))) + (bXor .u32 (bAnd .u32 (s2.getD (4 : Int).toNat 0) (s2.getD (5 : Int).toNat 0)) (bAnd .u32 (bNot .u32 (s2.getD (4 : Int).toNat 0)) (s2.getD (6 : Int).toNat 0))))) + (r2.getD s1.toNat 0))) + (r1.getD s1.toNat 0)))), s2.getD (4 : Int).toNat 0, s2.getD (5 : Int).toNat 0, s2.getD (6 : Int).toNat 0])].flatten.toArray) zr127 Tryd.underlying127 sz28 hA rfl (by kernel_rfl)) rfl fun a hA => 
        o_st (j := 0) [] [av .u32 8 s2] [av .u32 8 ([IntKind.u32.wrap ((IntKind.u32.wrap ((IntKind.u32.wrap ((IntKind.u32.wrap ((IntKind.u32.wrap ((s2.getD (7 : Int).toNat 0) + (bXor .u32 (bXor .u32 r3 r4) r5))) + (bXor .u32 (bAnd .u32 (s2.getD (4 : Int).toNat 0) (s2.getD (5 : Int).toNat 0)) (bAnd .u32 (bNot .u32 (s2.getD (4 : Int).toNat 0)) (s2.getD (6 : Int).toNat 0))))) + (r2.getD s1.toNat 0))) + (r1.getD s1.toNat 0))) + (IntKind.u32.wrap ((bXor .u32 (bXor .u32 r6 r7) r8) + (bXor .u32 (bXor .u32 (bAnd .u32 (s2.getD (0 : Int).toNat 0) (s2.getD (1 : Int).toNat 0)) (bAnd .u32 (s2.getD (0 : Int).toNat 0) (s2.getD (2 : Int).toNat 0))) (bAnd .u32 (s2.getD (1 : Int).toNat 0) (s2.getD (2 : Int).toNat 0)))))), s2.getD (0 : Int).toNat 0, s2.getD (1 : Int).toNat 0, s2.getD (2 : Int).toNat 0, IntKind.u32.wrap ((s2.getD (3 : Int).toNat 0) + (IntKind.u32.wrap ((IntKind.u32.wrap ((IntKind.u32.wrap ((IntKind.u32.wrap ((s2.getD (7 : Int).toNat 0) + (bXor .u32 (bXor .u32 r3 r4) r5))) + (bXor .u32 (bAnd .u32 (s2.getD (4 : Int).toNat 0) (s2.getD (5 : Int).toNat 0)) (bAnd .u32 (bNot .u32 (s2.getD (4 : Int).toNat 0)) (s2.getD (6 : Int).toNat 0))))) + (r2.getD s1.toNat 0))) + (r1.getD s1.toNat 0)))), s2.getD (4 : Int).toNat 0, s2.getD (5 : Int).toNat 0, s2.getD (6 : Int).toNat 0])] [] sz127 rfl rfl (fl_cons (one_av _ _ _) fl_nil) hI rfl hA rfl rfl rfl rfl fun w hI => ?_
      refine o_nil ?_
      refine hN7 _ _ ?_
      refine w_reg ?_
      refine stp hA (r_add hA rfl rfl) rfl fun a hA => 
        stp hA (r_mv hA rfl) rfl fun a hA => ?_
      refine o_nil ?_
      exact ⟨m1, Nat.lt_succ_self _, IntKind.i64.wrap (s1 + 1), [IntKind.u32.wrap ((IntKind.u32.wrap ((IntKind.u32.wrap ((IntKind.u32.wrap ((IntKind.u32.wrap ((s2.getD (7 : Int).toNat 0) + (bXor .u32 (bXor .u32 r3 r4) r5))) + (bXor .u32 (bAnd .u32 (s2.getD (4 : Int).toNat 0) (s2.getD (5 : Int).toNat 0)) (bAnd .u32 (bNot .u32 (s2.getD (4 : Int).toNat 0)) (s2.getD (6 : Int).toNat 0))))) + (r2.getD s1.toNat 0))) + (r1.getD s1.toNat 0))) + (IntKind.u32.wrap ((bXor .u32 (bXor .u32 r6 r7) r8) + (bXor .u32 (bXor .u32 (bAnd .u32 (s2.getD (0 : Int).toNat 0) (s2.getD (1 : Int).toNat 0)) (bAnd .u32 (s2.getD (0 : Int).toNat 0) (s2.getD (2 : Int).toNat 0))) (bAnd .u32 (s2.getD (1 : Int).toNat 0) (s2.getD (2 : Int).toNat 0)))))), s2.getD (0 : Int).toNat 0, s2.getD (1 : Int).toNat 0, s2.getD (2 : Int).toNat 0, IntKind.u32.wrap ((s2.getD (3 : Int).toNat 0) + (IntKind.u32.wrap ((IntKind.u32.wrap ((IntKind.u32.wrap ((IntKind.u32.wrap ((s2.getD (7 : Int).toNat 0) + (bXor .u32 (bXor .u32 r3 r4) r5))) + (bXor .u32 (bAnd .u32 (s2.getD (4 : Int).toNat 0) (s2.getD (5 : Int).toNat 0)) (bAnd .u32 (bNot .u32 (s2.getD (4 : Int).toNat 0)) (s2.getD (6 : Int).toNat 0))))) + (r2.getD s1.toNat 0))) + (r1.getD s1.toNat 0)))), s2.getD (4 : Int).toNat 0, s2.getD (5 : Int).toNat 0, s2.getD (6 : Int).toNat 0], H, (wrap_in _ _), (arr_lit rfl (by simp only [List.forall_mem_cons]; exact ⟨(wrap_in _ _), (arr_get ws2 _), (arr_get ws2 _), (arr_get ws2 _), (wrap_in _ _), (arr_get ws2 _), (arr_get ws2 _), (arr_get ws2 _), by simp⟩)), hA.sub ⟨rfl, rfl, rfl, rfl, rfl, rfl, rfl, rfl, trivial⟩, hI⟩
    · have hc10 := hc1; have hc1 := of_decide_eq_false hc1; have H := bF H hc1
      refine w_exit rfl ?_
      have H : some s2 = some z1 := H
      obtain rfl := Option.some.inj H
      have H := Hk2
      cases Option.some.inj (bS H)
      exact ⟨ws2, hA.sub ⟨rfl, rfl, rfl, rfl, rfl, rfl, rfl, trivial⟩, hI⟩
  · rintro a w ⟨wc1, hA, hI⟩
    have H := Hk1
    obtain ⟨c2, hz11, Hk3⟩ := bB H
    refine w_cut (fun a w => Arr .u32 8 c2 ∧ Fr a 111 [(0, .agg [av .u32 8 x0].flatten.toArray), (1, u1), (2, .pointer (some ⟨g1, 0, none⟩)), (4, .pointer (some ⟨g2, 0, none⟩)), (5, .pointer (some ⟨g3, 0, none⟩)), (6, .pointer (some ⟨g4, 0, none⟩)), (7, .pointer (some ⟨g5, 0, none⟩))] ∧ Iv w0 [] μ μ [cel g5 [av .u32 8 c1] 127, cel g4 [av .u32 64 r2] 149, cel g3 [av .u32 64 r1] 149, cel g2 [av .u32 8 (List.replicate 8 0)] 127, cel g1 [av .u32 8 c2] 127] w) ?_ ?_
    · have H := bI hz11
      refine w_seq fun _ hN12 => ?_
      refine w_reg ?_
      refine stp hA (r_mv hA rfl) rfl fun a hA => ?_
      refine o_nil ?_
      refine hN12 _ _ ?_
      refine w_block ?_
      obtain ⟨z2, hz12, Hk4⟩ := bind_some H
      obtain ⟨n2, hn2⟩ := loopO_some hz12
      refine w_loop (fun n a w => ∃ (s3 : Int) (s4 : List Int), loopN (digest_mix.s1 c1) n (s3, s4) = some z2 ∧ InR .i64 s3 ∧ Arr .u32 8 s4 ∧ Fr a 111 [(0, .agg [av .u32 8 x0].flatten.toArray), (1, u1), (2, .pointer (some ⟨g1, 0, none⟩)), (4, .pointer (some ⟨g2, 0, none⟩)), (5, .pointer (some ⟨g3, 0, none⟩)), (6, .pointer (some ⟨g4, 0, none⟩)), (7, .pointer (some ⟨g5, 0, none⟩)), (98, .int .i64 s3)] ∧ Iv w0 [] μ μ [cel g5 [av .u32 8 c1] 127, cel g4 [av .u32 64 r2] 149, cel g3 [av .u32 64 r1] 149, cel g2 [av .u32 8 (List.replicate 8 0)] 127, cel g1 [av .u32 8 s4] 127] w) n2 ⟨0, x0, hn2, (in_lit .i64 0 rfl), hx0, hA.sub ⟨rfl, rfl, rfl, rfl, rfl, rfl, rfl, rfl, trivial⟩, hI⟩ ?_
      clear hA hI
      rintro n a w ⟨s3, s4, hn2, ws3, ws4, hA, hI⟩
      obtain ⟨m2, rfl, H⟩ := loopN_bind hn2
      clear hn2
      refine w_seq fun _ hN13 => ?_
      refine w_reg ?_
      refine stp hA (r_lss hA rfl rfl) rfl fun a hA => ?_
      refine o_nil ?_
      refine hN13 _ _ ?_
      refine w_seq fun _ hN14 => ?_
      refine w_cond hA rfl (fun hc2 => ?_) (fun hc2 => ?_)
      · have hc20 := hc2; have hc2 := of_decide_eq_true hc2; have H := bT H hc2
        refine w_skip ?_
        refine hN14 _ _ ?_
        refine w_seq fun _ hN15 => ?_
        refine w_block ?_
        refine w_seq fun _ hN16 => ?_
        refine w_reg ?_
        refine stp hA (r_mv hA rfl) rfl fun a hA => 
          stp hA (r_as hA rfl) rfl fun a hA => ?_
        refine o_nil ?_
        refine hN16 _ _ ?_
        refine w_any [8] mo hI fun w hI => ?_
        refine g_easy (i := 0) hA rfl rfl (by kernel_rfl) (.inr hI) (fun _ => r_mv hA rfl) rfl fun a hA => ?_
        obtain ⟨hb2, H⟩ := bG H
        refine g_easy (i := 1) hA rfl rfl (by kernel_rfl) (.inr hI) (fun _ => r_ixar1 Tryd.underlying127 sz28 hA rfl rfl hb2.1 hb2.2) rfl fun a hA => ?_
        refine g_take (i := 2) hA rfl rfl (by kernel_rfl) hI (fun w hI => r_ldE (j := 4) [] [] Tryd.underlying28 rfl hI rfl hA rfl rfl (by omega)) rfl fun a hA => ?_
        refine g_easy (i := 3) hA rfl rfl (by kernel_rfl) (.inr hI) (fun _ => r_mv hA rfl) rfl fun a hA => ?_
        refine g_easy (i := 4) hA rfl rfl (by kernel_rfl) (.inr hI) (fun _ => r_ixar1 Tryd.underlying127 sz28 hA rfl rfl hb2.1 hb2.2) rfl fun a hA => ?_
        refine g_take (i := 5) hA rfl rfl (by kernel_rfl) hI (fun w hI => r_ldE (j := 0) [] [] Tryd.underlying28 rfl hI rfl hA rfl rfl (by omega)) rfl fun a hA => ?_
        refine g_easy (i := 6) hA rfl rfl (by kernel_rfl) (.inr hI) (fun _ => r_add hA rfl rfl) rfl fun a hA => ?_
        refine g_easy (i := 7) hA rfl rfl (by kernel_rfl) (.inr hI) (fun _ => r_ixar1 Tryd.underlying127 sz28 hA rfl rfl hb2.1 hb2.2) rfl fun a hA => ?_
        refine g_forced (i := 8) rfl (by kernel_rfl) ?_
        refine o_stE (j := 4) [] [] sz28 ws4.1 hI rfl hA rfl rfl rfl (by omega) fun w hI => ?_
        refine o_nil ?_
        refine ⟨(.inl (by kernel_rfl)), ?_⟩
        refine g_nil (by kernel_rfl) ?_
        refine hN15 _ _ ?_
        refine w_reg ?_
        refine stp hA (r_add hA rfl rfl) rfl fun a hA => 
          stp hA (r_mv hA rfl) rfl fun a hA => ?_
        refine o_nil ?_
        exact ⟨m2, Nat.lt_succ_self _, IntKind.i64.wrap (s3 + 1), s4.set s3.toNat (IntKind.u32.wrap ((s4.getD s3.toNat 0) + (c1.getD s3.toNat 0))), H, (wrap_in _ _), (arr_set ws4 _ (wrap_in _ _)), hA.sub ⟨rfl, rfl, rfl, rfl, rfl, rfl, rfl, rfl, trivial⟩, hI⟩
      · have hc20 := hc2; have hc2 := of_decide_eq_false hc2; have H := bF H hc2
        refine w_exit rfl ?_
        have H : some s4 = some z2 := H
        obtain rfl := Option.some.inj H
        have H := Hk4
        cases Option.some.inj (bS H)
        exact ⟨ws4, hA.sub ⟨rfl, rfl, rfl, rfl, rfl, rfl, rfl, trivial⟩, hI⟩
    · rintro a w ⟨wc2, hA, hI⟩
      have H := Hk3
      refine w_seq fun _ hN17 => ?_
      refine w_reg ?_
      refine stp hA (r_ldA (j := 4) [] [av .u32 8 c2] [] Tryd.underlying127 rfl sz127 rfl hI rfl hA rfl rfl) rfl fun a hA => 
        o_st (j := 3) [] [av .u32 8 (List.replicate 8 0)] [av .u32 8 c2] [] sz127 rfl rfl (fl_cons (one_av _ _ _) fl_nil) hI rfl hA rfl rfl rfl rfl fun w hI => ?_
      refine o_nil ?_
      refine hN17 _ _ ?_
      refine w_ret ?_
      obtain rfl := Option.some.inj (bS H)
      exact retc Tryd.underlying127 rfl sz127 rfl hI (j := 3) rfl hA Tryd.results101 rfl ⟨_, rfl, rfl, wc2, hI.forget0⟩
set_option maxRecDepth 20000 in
theorem digest_Writer_Write.c (μ : Store) (w0 : World) (hμ : Agr μ w0) (x0 : digestWriter) (vp1 : Value) (cp1 : List Value) (g0 : Nat) (hp1 : Arr .u32 8 x0.s) (hp2 : Els (RI .u8) 1 x0.rest cp1) (hp3 : InR .i64 x0.n) (ho0 : Its μ w0 [cel g0 [av .u32 8 x0.s, [vp1], [.int .i64 x0.n]] 129, row 5 1 vp1 x0.rest.length cp1]) (x1 : List Int) (u1 : Value) (hx1 : Slc (RI .u8) 1 μ u1 x1) (r : digestWriter) (H : digest_Writer_Write.f x0 x1 = some r) :
    Calls Tryd.prog 84 [.pointer (some ⟨g0, 0, none⟩), u1].toArray w0 (fun e w' => ∃ v, e = .returned v ∧ ∃ (vp_1 : Value) (cp_1 : List Value), v = .tuple #[] ∧ Arr .u32 8 r.s ∧ Els (RI .u8) 1 r.rest cp_1 ∧ InR .i64 r.n ∧ Iv w0 (many [cel g0 [av .u32 8 x0.s, [vp1], [.int .i64 x0.n]] 129, row 5 1 vp1 x0.rest.length cp1]).foot μ μ [cel g0 [av .u32 8 r.s, [vp_1], [.int .i64 r.n]] 129, row 5 1 vp_1 r.rest.length cp_1] w') := by
  refine enter Tryd.func84 rfl Tryd.ntmps84 rfl fun a hA => ?_
  have hI := Iv.startN hμ ho0
  have H := bI H
  refine w_seq fun _ hN1 => ?_
  refine w_reg ?_
  refine stp hA (r_mv hA rfl) rfl fun a hA => ?_
  obtain ⟨r1, hr1, H⟩ := bB H
  refine o_call _ cf100 hA rfl (digest_Writer_state.c μ _ hI.agr (⟨x0.s, x0.rest, x0.n⟩ : digestWriter) vp1 cp1 g0 hp1 hp2 hp3 (hI.handN 2) r1 hr1) rfl fun v1 a w hz1 hA => ?_
  obtain ⟨rfl, hw1, hi1⟩ := hz1
  have hI := hI.backN 2 hi1
  have hI : Iv w0 (many [cel g0 [av .u32 8 x0.s, [vp1], [.int .i64 x0.n]] 129, row 5 1 vp1 x0.rest.length cp1]).foot μ μ [cel g0 [av .u32 8 x0.s, [vp1], [.int .i64 x0.n]] 129, row 5 1 vp1 x0.rest.length cp1] w := hI
  refine o_new [av .u32 8 (List.replicate 8 0)] zr127 hI hA rfl fun g1 a w hA hI hg1 => 
    o_st (j := 0) [] [av .u32 8 (List.replicate 8 0)] [av .u32 8 r1] [] sz127 rfl rfl (fl_cons (one_av _ _ _) fl_nil) hI rfl hA rfl rfl rfl rfl fun w hI => ?_
  refine o_nil ?_
  refine hN1 _ _ ?_
  refine w_seq fun _ hN2 => ?_
  refine w_reg ?_
  refine stp hA (r_mv hA rfl) rfl fun a hA => 
    stp hA (r_nilc hA rfl) rfl fun a hA => 
    stp hA (r_fd (k := 9) Tryd.underlying129 rfl sz2 hA rfl rfl) rfl fun a hA => 
    stp hA (r_ld1 (j := 1) [av .u32 8 x0.s, [vp1]] [] Tryd.underlying2 rfl hI rfl hA rfl rfl) rfl fun a hA => 
    stp hA (r_mv hA rfl) rfl fun a hA => ?_
  obtain ⟨_, hsl1⟩ := Slc.sv hx1
  refine stp hA (r_slen Tryd.underlying25 hsl1 hA rfl) rfl fun a hA => 
    stp hA (r_add hA rfl rfl) rfl fun a hA => 
    stp hA (r_nilc hA rfl) rfl fun a hA => 
    stp hA (r_fd (k := 9) Tryd.underlying129 rfl sz2 hA rfl rfl) rfl fun a hA => 
    o_st (j := 1) [av .u32 8 x0.s, [vp1]] [[.int .i64 x0.n]] [[.int .i64 (IntKind.i64.wrap (x0.n + (x1.length : Int)))]] [] sz2 rfl rfl (fl_cons (one_one rfl) fl_nil) hI rfl hA rfl rfl rfl rfl fun w hI => ?_
  refine o_nil ?_
  refine hN2 _ _ ?_
  refine w_seq fun _ hN3 => ?_
  refine w_reg ?_
  refine stp hA (r_mv hA rfl) rfl fun a hA => 
    stp hA (r_mv hA rfl) rfl fun a hA => 
    stp hA (r_nilc hA rfl) rfl fun a hA => 
    stp hA (r_fd (k := 8) Tryd.underlying129 rfl sz25 hA rfl rfl) rfl fun a hA => 
    stp hA (r_ld1 (j := 1) [av .u32 8 x0.s] [[.int .i64 (IntKind.i64.wrap (x0.n + (x1.length : Int)))]] Tryd.underlying25 rfl hI rfl hA rfl rfl) rfl fun a hA => 
    stp hA (r_mv hA rfl) rfl fun a hA => ?_
  obtain ⟨cs1, hE1, hsv1⟩ : Slc (RI .u8) 1 μ u1 x1 := id (hx1)
  obtain ⟨hb1, H⟩ := bG H
  have hE2 := hp2.app hE1
  refine o_appL (xs := (x0.rest : List Int)) (ys := (x1 : List Int)) (j := 2) te5 Tryd.underlying25 hI rfl hA rfl rfl (src_sl hI.agr hsv1 hE1.len) hE1.len (hE1.ones (one_RI _)) (by first | decide | (have hq := hb1; (try simp only [List.length_cons, List.length_nil] at hq); (try simp only [List.length_cons, List.length_nil]); (try simp only [maxLen]); omega)) (by first | decide | (have hq := hb1; (try simp only [List.length_cons, List.length_nil] at hq); (try simp only [List.length_cons, List.length_nil]); (try simp only [maxLen]); omega)) rfl fun v2 a w hA hI => 
    stp hA (r_nilc hA rfl) rfl fun a hA => 
    stp hA (r_fd (k := 8) Tryd.underlying129 rfl sz25 hA rfl rfl) rfl fun a hA => ?_
  have hone := own_one hI (j := 2) rfl
  have hcel := own_cell hI (j := 2) rfl
  refine o_st (j := 1) [av .u32 8 x0.s] [[vp1]] [[v2]] [[.int .i64 (IntKind.i64.wrap (x0.n + (x1.length : Int)))]] sz25 rfl rfl (by intro c hc; simp at hc; subst hc; exact hone) hI rfl hA rfl rfl hcel rfl fun w hI => ?_
  refine o_nil ?_
  refine hN3 _ _ ?_
  refine w_seq fun _ hN4 => ?_
  refine w_reg ?_
  refine stp hA (r_as hA rfl) rfl fun a hA => ?_
  refine o_nil ?_
  refine hN4 _ _ ?_
  obtain ⟨⟨c1, c2, c3⟩, hz2, Hk1⟩ := bB H
  refine w_cut (fun a w => ∃ (μ1 : Store) (vvc3 : Value), μ.le μ1 ∧ InR .i64 c1 ∧ Arr .u32 8 c2 ∧ Slc (RI .u8) 1 μ1 vvc3 c3 ∧ Fr a 60 [(0, .pointer (some ⟨g0, 0, none⟩)), (1, u1), (4, .pointer (some ⟨g1, 0, none⟩)), (5, .int .i64 c1)] ∧ Iv w0 (many [cel g0 [av .u32 8 x0.s, [vp1], [.int .i64 x0.n]] 129, row 5 1 vp1 x0.rest.length cp1]).foot μ μ1 [cel g1 [av .u32 8 c2] 127, cel g0 [av .u32 8 x0.s, [vvc3], [.int .i64 (IntKind.i64.wrap (x0.n + (x1.length : Int)))]] 129] w) ?_ ?_
  · have H := bI hz2
    refine w_block ?_
    obtain ⟨μ2, hle2, hsv2, hI⟩ := hI.freezeRow 2 rfl
    have hS1 : Slc (RI .u8) 1 μ2 v2 (x0.rest ++ x1) := ⟨_, hE2, hsv2⟩
    obtain ⟨z1, hz3, Hk2⟩ := bind_some H
    obtain ⟨n1, hn1⟩ := loopO_some hz3
    refine w_loop (fun n a w => ∃ (s1 : Int) (s2 : List Int) (s3 : List Int) (μ3 : Store) (vvs3 : Value), loopN (digest_Writer_Write.s0) n (s1, s2, s3) = some z1 ∧ μ2.le μ3 ∧ InR .i64 s1 ∧ Arr .u32 8 s2 ∧ Slc (RI .u8) 1 μ3 vvs3 s3 ∧ Fr a 60 [(0, .pointer (some ⟨g0, 0, none⟩)), (1, u1), (4, .pointer (some ⟨g1, 0, none⟩)), (5, .int .i64 s1)] ∧ Iv w0 (many [cel g0 [av .u32 8 x0.s, [vp1], [.int .i64 x0.n]] 129, row 5 1 vp1 x0.rest.length cp1]).foot μ μ3 [cel g1 [av .u32 8 s2] 127, cel g0 [av .u32 8 x0.s, [vvs3], [.int .i64 (IntKind.i64.wrap (x0.n + (x1.length : Int)))]] 129] w) n1 ⟨0, r1, x0.rest ++ x1, μ2, v2, hn1, (Store.le.refl _), (in_lit .i64 0 rfl), hw1, hS1, hA.sub ⟨rfl, rfl, rfl, rfl, trivial⟩, hI⟩ ?_
    clear hA hI
    rintro n a w ⟨s1, s2, s3, μ3, vvs3, hn1, hle3, ws1, ws2, ws3, hA, hI⟩
    obtain ⟨m1, rfl, H⟩ := loopN_bind hn1
    clear hn1
    refine w_seq fun _ hN5 => ?_
    refine w_seq fun _ hN6 => ?_
    refine w_reg ?_
    refine stp hA (r_mv hA rfl) rfl fun a hA => 
      stp hA (r_add hA rfl rfl) rfl fun a hA => 
      stp hA (r_mv hA rfl) rfl fun a hA => 
      stp hA (r_nilc hA rfl) rfl fun a hA => 
      stp hA (r_fd (k := 8) Tryd.underlying129 rfl sz25 hA rfl rfl) rfl fun a hA => 
      stp hA (r_ld1 (j := 1) [av .u32 8 x0.s] [[.int .i64 (IntKind.i64.wrap (x0.n + (x1.length : Int)))]] Tryd.underlying25 rfl hI rfl hA rfl rfl) rfl fun a hA => ?_
    obtain ⟨_, hsl2⟩ := Slc.sv ws3
    refine stp hA (r_slen Tryd.underlying25 hsl2 hA rfl) rfl fun a hA => 
      stp hA (r_leq hA rfl rfl) rfl fun a hA => ?_
    refine o_nil ?_
    refine hN6 _ _ ?_
    refine w_cond hA rfl (fun hc1 => ?_) (fun hc1 => ?_)
    · have hc10 := hc1; have hc1 := of_decide_eq_true hc1; have H := bT H hc1
      refine w_skip ?_
      refine hN5 _ _ ?_
      refine w_seq fun _ hN7 => ?_
      refine w_block ?_
      refine w_any [10] mo hI fun w hI => ?_
      refine g_take (i := 0) hA rfl rfl (by kernel_rfl) hI (fun w hI => r_ldA (j := 0) [] [av .u32 8 s2] [] Tryd.underlying127 rfl sz127 rfl hI rfl hA rfl rfl) rfl fun a hA => ?_
      refine g_easy (i := 1) hA rfl rfl (by kernel_rfl) (.inr hI) (fun _ => r_mv hA rfl) rfl fun a hA => ?_
      refine g_easy (i := 2) hA rfl rfl (by kernel_rfl) (.inr hI) (fun _ => r_nilc hA rfl) rfl fun a hA => ?_
      refine g_easy (i := 3) hA rfl rfl (by kernel_rfl) (.inr hI) (fun _ => r_fd (k := 8) Tryd.underlying129 rfl sz25 hA rfl rfl) rfl fun a hA => ?_
      refine g_take (i := 4) hA rfl rfl (by kernel_rfl) hI (fun w hI => r_ld1 (j := 1) [av .u32 8 x0.s] [[.int .i64 (IntKind.i64.wrap (x0.n + (x1.length : Int)))]] Tryd.underlying25 rfl hI rfl hA rfl rfl) rfl fun a hA => ?_
      refine g_easy (i := 5) hA rfl rfl (by kernel_rfl) (.inr hI) (fun _ => r_mv hA rfl) rfl fun a hA => ?_
      refine g_easy (i := 6) hA rfl rfl (by kernel_rfl) (.inr hI) (fun _ => r_mv hA rfl) rfl fun a hA => ?_
      refine g_easy (i := 7) hA rfl rfl (by kernel_rfl) (.inr hI) (fun _ => r_add hA rfl rfl) rfl fun a hA => ?_
      obtain ⟨hb2, H⟩ := bG H
      obtain ⟨v3, hS2, hr2⟩ := r_sl (P := Tryd.prog) (t := 25) (x := .tmp 40) (l := (some (.tmp 41))) (h := (some (.tmp 43))) (i := s1) (j := IntKind.i64.wrap (s1 + 64)) Tryd.underlying25 sz5 ws3 hA rfl rfl rfl (by have hq := hb2; omega) (by have hq := hb2; omega) (by have hq := hb2; omega)
      refine g_easy (i := 8) hA rfl rfl (by kernel_rfl) (.inr hI) (fun _ => hr2 _ _ _ _ _ _) rfl fun a hA => ?_
      refine g_forced (i := 9) rfl (by kernel_rfl) ?_
      obtain ⟨r2, hr3, H⟩ := bB H
      refine o_callp (u := .agg [av .u32 8 r2].flatten.toArray) cf101 hA rfl hI (digest_mix.c μ3 _ hI.agr s2 ws2 ((s3.take (IntKind.i64.wrap (s1 + 64)).toNat).drop (s1).toNat) v3 hS2 r2 hr3) rfl fun a w hz4 hI hA => ?_
      refine o_nil ?_
      refine ⟨(.inr hI), ?_⟩
      refine g_forced (i := 10) rfl (by kernel_rfl) ?_
      refine o_st (j := 0) [] [av .u32 8 s2] [av .u32 8 r2] [] sz127 rfl rfl (fl_cons (one_av _ _ _) fl_nil) hI rfl hA rfl rfl rfl rfl fun w hI => ?_
      refine o_nil ?_
      refine ⟨(.inl (by kernel_rfl)), ?_⟩
      refine g_nil (by kernel_rfl) ?_
      refine hN7 _ _ ?_
      refine w_reg ?_
      refine stp hA (r_mv hA rfl) rfl fun a hA => 
        stp hA (r_add hA rfl rfl) rfl fun a hA => 
        stp hA (r_as hA rfl) rfl fun a hA => ?_
      refine o_nil ?_
      exact ⟨m1, Nat.lt_succ_self _, IntKind.i64.wrap (s1 + 64), r2, s3, μ3, vvs3, H, hle3, (wrap_in _ _), hz4, ws3, hA.sub ⟨rfl, rfl, rfl, rfl, trivial⟩, hI⟩
    · have hc10 := hc1; have hc1 := of_decide_eq_false hc1; have H := bF H hc1
      refine w_exit rfl ?_
      have H : some (s1, s2, s3) = some z1 := H
      obtain rfl := Option.some.inj H
      have H := Hk2
      cases Option.some.inj (bS H)
      exact ⟨μ3, vvs3, (hle2.trans hle3), ws1, ws2, ws3, hA.sub ⟨rfl, rfl, rfl, rfl, trivial⟩, hI⟩
  · rintro a w ⟨μ1, vvc3, hle1, wc1, wc2, wc3, hA, hI⟩
    have H := Hk1
    refine w_any [12, 15] mo hI fun w hI => ?_
    refine g_easy (i := 0) hA rfl rfl (by kernel_rfl) (.inr hI) (fun _ => r_mv hA rfl) rfl fun a hA => ?_
    refine g_easy (i := 1) hA rfl rfl (by kernel_rfl) (.inr hI) (fun _ => r_mv hA rfl) rfl fun a hA => ?_
    refine g_take (i := 2) hA rfl rfl (by kernel_rfl) hI (fun w hI => r_ldA (j := 0) [] [av .u32 8 c2] [] Tryd.underlying127 rfl sz127 rfl hI rfl hA rfl rfl) rfl fun a hA => ?_
    refine g_easy (i := 3) hA rfl rfl (by kernel_rfl) (.inr hI) (fun _ => r_mv hA rfl) rfl fun a hA => ?_
    refine g_easy (i := 4) hA rfl rfl (by kernel_rfl) (.inr hI) (fun _ => r_nilc hA rfl) rfl fun a hA => ?_
    refine g_easy (i := 5) hA rfl rfl (by kernel_rfl) (.inr hI) (fun _ => r_fd (k := 8) Tryd.underlying129 rfl sz25 hA rfl rfl) rfl fun a hA => ?_
    refine g_take (i := 6) hA rfl rfl (by kernel_rfl) hI (fun w hI => r_ld1 (j := 1) [av .u32 8 x0.s] [[.int .i64 (IntKind.i64.wrap (x0.n + (x1.length : Int)))]] Tryd.underlying25 rfl hI rfl hA rfl rfl) rfl fun a hA => ?_
    refine g_easy (i := 7) hA rfl rfl (by kernel_rfl) (.inr hI) (fun _ => r_mv hA rfl) rfl fun a hA => ?_
    obtain ⟨hb3, H⟩ := bG H
    obtain ⟨v4, hS3, hr4⟩ := r_sl (P := Tryd.prog) (t := 25) (x := .tmp 52) (l := (some (.tmp 53))) (h := none) (i := c1) (j := (c3.length : Int)) Tryd.underlying25 sz5 wc3 hA rfl rfl rfl (by have hq := hb3; omega) (by have hq := hb3; omega) (by have hq := hb3; omega)
    refine g_easy (i := 8) hA rfl rfl (by kernel_rfl) (.inr hI) (fun _ => hr4 _ _ _ _ _ _) rfl fun a hA => ?_
    refine g_forced (i := 9) rfl (by kernel_rfl) ?_
    obtain ⟨r3, hr5, H⟩ := bB H
    refine o_call _ cf64 hA rfl (bytes_Clone.c μ1 _ hI.agr ((c3.take ((c3.length : Int)).toNat).drop (c1).toNat) v4 hS3 r3 hr5) rfl fun v5 a w hz5 hA => ?_
    obtain ⟨_, cs3, rfl, hE3, hi2⟩ := hz5
    have hI := hI.call hi2
    refine o_nil ?_
    refine ⟨(.inr (hI.sel [1, 2] (by decide) rfl)), ?_⟩
    refine g_easy (i := 10) hA rfl rfl (by kernel_rfl) (.inr (hI.sel [1, 2] (by decide) rfl)) (fun _ => r_nilc hA rfl) rfl fun a hA => ?_
    refine g_easy (i := 11) hA rfl rfl (by kernel_rfl) (.inr (hI.sel [1, 2] (by decide) rfl)) (fun _ => r_fd (k := 0) Tryd.underlying129 rfl sz127 hA rfl rfl) rfl fun a hA => ?_
    refine g_forced (i := 12) rfl (by kernel_rfl) ?_
    refine o_st (j := 2) [] [av .u32 8 x0.s] [av .u32 8 c2] [[vvc3], [.int .i64 (IntKind.i64.wrap (x0.n + (x1.length : Int)))]] sz127 rfl rfl (fl_cons (one_av _ _ _) fl_nil) hI rfl hA rfl rfl rfl rfl fun w hI => ?_
    refine o_nil ?_
    refine ⟨(.inl (by kernel_rfl)), ?_⟩
    refine g_easy (i := 13) hA rfl rfl (by kernel_rfl) (.inl (by kernel_rfl)) (fun _ => r_nilc hA rfl) rfl fun a hA => ?_
    refine g_easy (i := 14) hA rfl rfl (by kernel_rfl) (.inl (by kernel_rfl)) (fun _ => r_fd (k := 8) Tryd.underlying129 rfl sz25 hA rfl rfl) rfl fun a hA => ?_
    refine g_forced (i := 15) rfl (by kernel_rfl) ?_
    have hone := own_one hI (j := 0) rfl
    have hcel := own_cell hI (j := 0) rfl
    refine o_st (j := 2) [av .u32 8 c2] [[vvc3]] [[v5]] [[.int .i64 (IntKind.i64.wrap (x0.n + (x1.length : Int)))]] sz25 rfl rfl (by intro c hc; simp at hc; subst hc; exact hone) hI rfl hA rfl rfl hcel rfl fun w hI => ?_
    refine o_nil ?_
    refine ⟨(.inl (by kernel_rfl)), ?_⟩
    refine g_nil (by kernel_rfl) ?_
    obtain rfl := Option.some.inj (bS H)
    exact ret0 hA Tryd.results84 ⟨_, rfl, v5, cs3, rfl, wc2, hE3, (wrap_in _ _), ((hI.sel [2, 0] (by decide) rfl).less (Store.le.refl _) hI.le)⟩
set_option maxRecDepth 20000 in
theorem digest_Writer_Sum.c (μ : Store) (w0 : World) (hμ : Agr μ w0) (x0 : digestWriter) (vp1 : Value) (cp1 : List Value) (g0 : Nat) (hp1 : Arr .u32 8 x0.s) (hp2 : Els (RI .u8) 1 x0.rest cp1) (hp3 : InR .i64 x0.n) (ho0 : Its μ w0 [cel g0 [av .u32 8 x0.s, [vp1], [.int .i64 x0.n]] 129, row 5 1 vp1 x0.rest.length cp1]) (r : List Int) (H : digest_Writer_Sum.f x0 = some r) :
    Calls Tryd.prog 85 [.pointer (some ⟨g0, 0, none⟩)].toArray w0 (fun e w' => ∃ v, e = .returned v ∧ v = .agg [av .u8 32 r].flatten.toArray ∧ Arr .u8 32 r ∧ Iv w0 (many [cel g0 [av .u32 8 x0.s, [vp1], [.int .i64 x0.n]] 129, row 5 1 vp1 x0.rest.length cp1]).foot μ μ [cel g0 [av .u32 8 x0.s, [vp1], [.int .i64 x0.n]] 129, row 5 1 vp1 x0.rest.length cp1] w') := by
  refine enter Tryd.func85 rfl Tryd.ntmps85 rfl fun a hA => ?_
  have hI := Iv.startN hμ ho0
  have H := bI H
  refine w_seq fun _ hN1 => ?_
  refine w_reg ?_
  refine o_new [av .u8 32 (List.replicate 32 0)] zr24 hI hA rfl fun g1 a w hA hI hg1 => ?_
  refine o_nil ?_
  refine hN1 _ _ ?_
  refine w_seq fun _ hN2 => ?_
  refine w_reg ?_
  refine stp hA (r_mv hA rfl) rfl fun a hA => 
    stp hA (r_nilc hA rfl) rfl fun a hA => 
    stp hA (r_fd (k := 8) Tryd.underlying129 rfl sz25 hA rfl rfl) rfl fun a hA => 
    stp hA (r_ld1 (j := 1) [av .u32 8 x0.s] [[.int .i64 x0.n]] Tryd.underlying25 rfl hI rfl hA rfl rfl) rfl fun a hA => ?_
  obtain ⟨r1, hr1, H⟩ := bB H
  refine o_call (fun v w' => ∃ (v0 : Value) (c0 : List Value), v = v0 ∧ Els (RI .u8) 1 r1 c0 ∧ Iv w [] μ μ [row 5 1 v0 r1.length c0] w') cf64 hA rfl ((by obtain ⟨μ1, hle1, hsv1, hI⟩ := hI.freezeRow 2 rfl; have hS1 : Slc (RI .u8) 1 μ1 vp1 x0.rest := ⟨_, hp2, hsv1⟩; exact (bytes_Clone.c μ1 _ hI.agr x0.rest vp1 hS1 r1 hr1).mono fun _ _ ⟨v, he, b0, b1, hv, f0, hi⟩ => ⟨v, he, b0, b1, hv, f0, hi.low hle1⟩)) rfl fun v1 a w hz1 hA => ?_
  obtain ⟨_, cs1, rfl, hE1, hi1⟩ := hz1
  have hI := hI.call hi1
  have hE2 : Els (RI .u8) 1 ([128] : List Int) ([[.int .u8 128]].flatten ++ ([])) := (Els.cons (c := [[.int .u8 128]].flatten) ⟨rfl, (in_lit .u8 128 rfl)⟩ rfl Els.nil)
  refine o_bsl ([[.int .u8 128]].flatten ++ ([])) te5 zr5 Tryd.underlying25 hI hA rfl rfl rfl rfl (by kernel_rfl) rfl fun g2 a w hA hI => ?_
  generalize hcs : ([[.int .u8 128]].flatten ++ ([]) : List Value) = cs2 at hE2 hI
  clear hcs
  obtain ⟨hb1, H⟩ := bG H
  have hE4 := hE1.app hE2
  refine o_appL (xs := (r1 : List Int)) (ys := (([128] : List Int) : List Int)) (j := 1) te5 Tryd.underlying25 hI rfl hA rfl rfl (src_row hI (j := 0) rfl) hE2.len (hE2.ones (one_RI _)) (by first | decide | (have hq := hb1; (try simp only [List.length_cons, List.length_nil] at hq); (try simp only [List.length_cons, List.length_nil]); (try simp only [maxLen]); omega)) (by first | decide | (have hq := hb1; (try simp only [List.length_cons, List.length_nil] at hq); (try simp only [List.length_cons, List.length_nil]); (try simp only [maxLen]); omega)) rfl fun v2 a w hA hI => 
    stp hA (r_as hA rfl) rfl fun a hA => ?_
  refine o_nil ?_
  refine hN2 _ _ ?_
  obtain ⟨c1, hz2, Hk1⟩ := bB H
  refine w_cut (fun a w => ∃ (vvc1 : Value) (ccc1 : List Value), Els (RI .u8) 1 c1 ccc1 ∧ Fr a 79 [(0, .pointer (some ⟨g0, 0, none⟩)), (2, .pointer (some ⟨g1, 0, none⟩)), (3, vvc1)] ∧ Iv w0 (many [cel g0 [av .u32 8 x0.s, [vp1], [.int .i64 x0.n]] 129, row 5 1 vp1 x0.rest.length cp1]).foot μ μ [row 5 1 vvc1 c1.length ccc1, row 5 1 (.slice (some ⟨g2, 0, none⟩) 1 1) ([128] : List Int).length cs2, cel g1 [av .u8 32 (List.replicate 32 0)] 24, cel g0 [av .u32 8 x0.s, [vp1], [.int .i64 x0.n]] 129, row 5 1 vp1 x0.rest.length cp1] w) ?_ ?_
  · have H := bI hz2
    refine w_block ?_
    obtain ⟨z1, hz3, Hk2⟩ := bind_some H
    obtain ⟨n1, hn1⟩ := loopO_some hz3
    refine w_loop (fun n a w => ∃ (s1 : List Int) (vvs1 : Value) (ccs1 : List Value), loopN (digest_Writer_Sum.s0) n s1 = some z1 ∧ Els (RI .u8) 1 s1 ccs1 ∧ Fr a 79 [(0, .pointer (some ⟨g0, 0, none⟩)), (2, .pointer (some ⟨g1, 0, none⟩)), (3, vvs1)] ∧ Iv w0 (many [cel g0 [av .u32 8 x0.s, [vp1], [.int .i64 x0.n]] 129, row 5 1 vp1 x0.rest.length cp1]).foot μ μ [row 5 1 (.slice (some ⟨g2, 0, none⟩) 1 1) ([128] : List Int).length cs2, row 5 1 vvs1 s1.length ccs1, cel g1 [av .u8 32 (List.replicate 32 0)] 24, cel g0 [av .u32 8 x0.s, [vp1], [.int .i64 x0.n]] 129, row 5 1 vp1 x0.rest.length cp1] w) n1 ⟨r1 ++ ([128] : List Int), v2, cs1 ++ cs2, hn1, hE4, hA.sub ⟨rfl, rfl, rfl, trivial⟩, hI⟩ ?_
    clear hA hI
    rintro n a w ⟨s1, vvs1, ccs1, hn1, ws1, hA, hI⟩
    obtain ⟨m1, rfl, H⟩ := loopN_bind hn1
    clear hn1
    refine w_seq fun _ hN3 => ?_
    refine w_seq fun _ hN4 => ?_
    refine w_reg ?_
    refine stp hA (r_mv hA rfl) rfl fun a hA => ?_
    have hlen1 := Iv.row_in hI (j := 1) rfl
    refine stp hA (r_rlen (xs := 0) Tryd.underlying25 hI (j := 1) rfl hA rfl) rfl fun a hA => 
      stp hA (r_rem hA rfl rfl (by decide)) rfl fun a hA => 
      stp hA (r_neq hA rfl rfl) rfl fun a hA => ?_
    refine o_nil ?_
    refine hN4 _ _ ?_
    refine w_cond hA rfl (fun hc1 => ?_) (fun hc1 => ?_)
    · have hc10 := hc1; have hc1 := of_decide_eq_true hc1; have H := bT H hc1
      refine w_skip ?_
      refine hN3 _ _ ?_
      refine w_block ?_
      refine w_reg ?_
      refine stp hA (r_mv hA rfl) rfl fun a hA => ?_
      have hE5 : Els (RI .u8) 1 ([0] : List Int) ([[.int .u8 0]].flatten ++ ([])) := (Els.cons (c := [[.int .u8 0]].flatten) ⟨rfl, (in_lit .u8 0 rfl)⟩ rfl Els.nil)
      refine o_bsl ([[.int .u8 0]].flatten ++ ([])) te5 zr5 Tryd.underlying25 hI hA rfl rfl rfl rfl (by kernel_rfl) rfl fun g3 a w hA hI => ?_
      generalize hcs : ([[.int .u8 0]].flatten ++ ([]) : List Value) = cs5 at hE5 hI
      clear hcs
      obtain ⟨hb2, H⟩ := bG H
      have hE7 := ws1.app hE5
      refine o_appL (xs := (s1 : List Int)) (ys := (([0] : List Int) : List Int)) (j := 2) te5 Tryd.underlying25 hI rfl hA rfl rfl (src_row hI (j := 0) rfl) hE5.len (hE5.ones (one_RI _)) (by first | decide | (have hq := hb2; (try simp only [List.length_cons, List.length_nil] at hq); (try simp only [List.length_cons, List.length_nil]); (try simp only [maxLen]); omega)) (by first | decide | (have hq := hb2; (try simp only [List.length_cons, List.length_nil] at hq); (try simp only [List.length_cons, List.length_nil]); (try simp only [maxLen]); omega)) rfl fun v3 a w hA hI => 
        stp hA (r_as hA rfl) rfl fun a hA => ?_
      refine o_nil ?_
      exact ⟨m1, Nat.lt_succ_self _, s1 ++ ([0] : List Int), v3, ccs1 ++ cs5, H, hE7, hA.sub ⟨rfl, rfl, rfl, trivial⟩, (hI.sel [1, 2, 3, 4, 5] (by decide) rfl)⟩
    · have hc10 := hc1; have hc1 := of_decide_eq_false hc1; have H := bF H hc1
      refine w_exit rfl ?_
      have H : some s1 = some z1 := H
      obtain rfl := Option.some.inj H
      have H := Hk2
      cases Option.some.inj (bS H)
      exact ⟨vvs1, ccs1, ws1, hA.sub ⟨rfl, rfl, rfl, trivial⟩, (hI.sel [1, 0, 2, 3, 4] (by decide) rfl)⟩
  · rintro a w ⟨vvc1, ccc1, wc1, hA, hI⟩
    have H := Hk1
    obtain ⟨c2, hz4, Hk3⟩ := bB H
    refine w_cut (fun a w => ∃ (vvc2 : Value) (ccc2 : List Value), Els (RI .u8) 1 c2 ccc2 ∧ Fr a 79 [(0, .pointer (some ⟨g0, 0, none⟩)), (2, .pointer (some ⟨g1, 0, none⟩)), (3, vvc2)] ∧ Iv w0 (many [cel g0 [av .u32 8 x0.s, [vp1], [.int .i64 x0.n]] 129, row 5 1 vp1 x0.rest.length cp1]).foot μ μ [row 5 1 vvc2 c2.length ccc2, row 5 1 (.slice (some ⟨g2, 0, none⟩) 1 1) ([128] : List Int).length cs2, cel g1 [av .u8 32 (List.replicate 32 0)] 24, cel g0 [av .u32 8 x0.s, [vp1], [.int .i64 x0.n]] 129, row 5 1 vp1 x0.rest.length cp1] w) ?_ ?_
    · have H := bI hz4
      refine w_seq fun _ hN5 => ?_
      refine w_reg ?_
      refine stp hA (r_as hA rfl) rfl fun a hA => ?_
      refine o_nil ?_
      refine hN5 _ _ ?_
      refine w_block ?_
      obtain ⟨z2, hz5, Hk4⟩ := bind_some H
      obtain ⟨n2, hn2⟩ := loopO_some hz5
      refine w_loop (fun n a w => ∃ (s2 : List Int) (s3 : Int) (vvs2 : Value) (ccs2 : List Value), loopN (digest_Writer_Sum.s1 x0) n (s2, s3) = some z2 ∧ Els (RI .u8) 1 s2 ccs2 ∧ InR .i64 s3 ∧ Fr a 79 [(0, .pointer (some ⟨g0, 0, none⟩)), (2, .pointer (some ⟨g1, 0, none⟩)), (3, vvs2), (4, .int .i64 s3)] ∧ Iv w0 (many [cel g0 [av .u32 8 x0.s, [vp1], [.int .i64 x0.n]] 129, row 5 1 vp1 x0.rest.length cp1]).foot μ μ [row 5 1 vvs2 s2.length ccs2, row 5 1 (.slice (some ⟨g2, 0, none⟩) 1 1) ([128] : List Int).length cs2, cel g1 [av .u8 32 (List.replicate 32 0)] 24, cel g0 [av .u32 8 x0.s, [vp1], [.int .i64 x0.n]] 129, row 5 1 vp1 x0.rest.length cp1] w) n2 ⟨c1, 7, vvc1, ccc1, hn2, wc1, (in_lit .i64 7 rfl), hA.sub ⟨rfl, rfl, rfl, rfl, trivial⟩, hI⟩ ?_
      clear hA hI
      rintro n a w ⟨s2, s3, vvs2, ccs2, hn2, ws2, ws3, hA, hI⟩
      obtain ⟨m2, rfl, H⟩ := loopN_bind hn2
      clear hn2
      refine w_seq fun _ hN6 => ?_
      refine w_seq fun _ hN7 => ?_
      refine w_reg ?_
      refine stp hA (r_mv hA rfl) rfl fun a hA => 
        stp hA (r_geq hA rfl rfl) rfl fun a hA => ?_
      refine o_nil ?_
      refine hN7 _ _ ?_
      refine w_cond hA rfl (fun hc2 => ?_) (fun hc2 => ?_)
      · have hc20 := hc2; have hc2 := of_decide_eq_true hc2; have H := bT H hc2
        refine w_skip ?_
        refine hN6 _ _ ?_
        refine w_seq fun _ hN8 => ?_
        refine w_block ?_
        refine w_reg ?_
        refine stp hA (r_mv hA rfl) rfl fun a hA => 
          stp hA (r_mv hA rfl) rfl fun a hA => 
          stp hA (r_nilc hA rfl) rfl fun a hA => 
          stp hA (r_fd (k := 9) Tryd.underlying129 rfl sz2 hA rfl rfl) rfl fun a hA => 
          stp hA (r_ld1 (j := 3) [av .u32 8 x0.s, [vp1]] [] Tryd.underlying2 rfl hI rfl hA rfl rfl) rfl fun a hA => 
          stp hA (r_conv Tryd.underlying2 Tryd.underlying22 hA rfl) rfl fun a hA => 
          stp hA (r_shl hA rfl rfl (by decide)) rfl fun a hA => 
          stp hA (r_mv hA rfl) rfl fun a hA => 
          stp hA (r_mul hA rfl rfl) rfl fun a hA => ?_
        obtain ⟨hb3, H⟩ := bG H
        refine stp hA (r_shr hA rfl rfl hb3) rfl fun a hA => 
          stp hA (r_conv Tryd.underlying22 Tryd.underlying5 hA rfl) rfl fun a hA => ?_
        have hE8 : Els (RI .u8) 1 ([IntKind.u8.wrap (sR .u64 (sL .u64 (IntKind.u64.wrap x0.n) 3) (IntKind.i64.wrap (8 * s3)))] : List Int) ([[.int .u8 (IntKind.u8.wrap (sR .u64 (sL .u64 (IntKind.u64.wrap x0.n) 3) (IntKind.i64.wrap (8 * s3))))]].flatten ++ ([])) := (Els.cons (c := [[.int .u8 (IntKind.u8.wrap (sR .u64 (sL .u64 (IntKind.u64.wrap x0.n) 3) (IntKind.i64.wrap (8 * s3))))]].flatten) ⟨rfl, (wrap_in _ _)⟩ rfl Els.nil)
        refine o_bsl ([[.int .u8 (IntKind.u8.wrap (sR .u64 (sL .u64 (IntKind.u64.wrap x0.n) 3) (IntKind.i64.wrap (8 * s3))))]].flatten ++ ([])) te5 zr5 Tryd.underlying25 hI hA rfl rfl rfl rfl (by kernel_rfl) rfl fun g4 a w hA hI => ?_
        generalize hcs : ([[.int .u8 (IntKind.u8.wrap (sR .u64 (sL .u64 (IntKind.u64.wrap x0.n) 3) (IntKind.i64.wrap (8 * s3))))]].flatten ++ ([]) : List Value) = cs8 at hE8 hI
        clear hcs
        obtain ⟨hb4, H⟩ := bG H
        have hE10 := ws2.app hE8
        refine o_appL (xs := (s2 : List Int)) (ys := (([IntKind.u8.wrap (sR .u64 (sL .u64 (IntKind.u64.wrap x0.n) 3) (IntKind.i64.wrap (8 * s3)))] : List Int) : List Int)) (j := 1) te5 Tryd.underlying25 hI rfl hA rfl rfl (src_row hI (j := 0) rfl) hE8.len (hE8.ones (one_RI _)) (by first | decide | (have hq := hb4; (try simp only [List.length_cons, List.length_nil] at hq); (try simp only [List.length_cons, List.length_nil]); (try simp only [maxLen]); omega)) (by first | decide | (have hq := hb4; (try simp only [List.length_cons, List.length_nil] at hq); (try simp only [List.length_cons, List.length_nil]); (try simp only [maxLen]); omega)) rfl fun v4 a w hA hI => 
          stp hA (r_as hA rfl) rfl fun a hA => ?_
        refine o_nil ?_
        refine hN8 _ _ ?_
        refine w_reg ?_
        refine stp hA (r_mv hA rfl) rfl fun a hA => 
          stp hA (r_sub hA rfl rfl) rfl fun a hA => 
          stp hA (r_as hA rfl) rfl fun a hA => ?_
        refine o_nil ?_
        exact ⟨m2, Nat.lt_succ_self _, s2 ++ ([IntKind.u8.wrap (sR .u64 (sL .u64 (IntKind.u64.wrap x0.n) 3) (IntKind.i64.wrap (8 * s3)))] : List Int), IntKind.i64.wrap (s3 - 1), v4, ccs2 ++ cs8, H, hE10, (wrap_in _ _), hA.sub ⟨rfl, rfl, rfl, rfl, trivial⟩, (hI.sel [1, 2, 3, 4, 5] (by decide) rfl)⟩
      · have hc20 := hc2; have hc2 := of_decide_eq_false hc2; have H := bF H hc2
        refine w_exit rfl ?_
        have H : some s2 = some z2 := H
        obtain rfl := Option.some.inj H
        have H := Hk4
        cases Option.some.inj (bS H)
        exact ⟨vvs2, ccs2, ws2, hA.sub ⟨rfl, rfl, rfl, trivial⟩, hI⟩
    · rintro a w ⟨vvc2, ccc2, wc2, hA, hI⟩
      have H := Hk3
      refine w_seq fun _ hN9 => ?_
      refine w_reg ?_
      refine stp hA (r_mv hA rfl) rfl fun a hA => ?_
      obtain ⟨r2, hr2, H⟩ := bB H
      have hI := hI.sel [3, 4, 0, 1, 2] (by decide) rfl
      refine o_call _ cf100 hA rfl (digest_Writer_state.c μ _ hI.agr (⟨x0.s, x0.rest, x0.n⟩ : digestWriter) vp1 cp1 g0 hp1 hp2 hp3 (hI.handN 2) r2 hr2) rfl fun v5 a w hz6 hA => ?_
      obtain ⟨rfl, hw1, hi2⟩ := hz6
      have hI := hI.backN 2 hi2
      have hI : Iv w0 (many [cel g0 [av .u32 8 x0.s, [vp1], [.int .i64 x0.n]] 129, row 5 1 vp1 x0.rest.length cp1]).foot μ μ [cel g0 [av .u32 8 x0.s, [vp1], [.int .i64 x0.n]] 129, row 5 1 vp1 x0.rest.length cp1, row 5 1 vvc2 c2.length ccc2, row 5 1 (.slice (some ⟨g2, 0, none⟩) 1 1) ([128] : List Int).length cs2, cel g1 [av .u8 32 (List.replicate 32 0)] 24] w := hI
      refine o_new [av .u32 8 (List.replicate 8 0)] zr127 hI hA rfl fun g5 a w hA hI hg5 => 
        o_st (j := 0) [] [av .u32 8 (List.replicate 8 0)] [av .u32 8 r2] [] sz127 rfl rfl (fl_cons (one_av _ _ _) fl_nil) hI rfl hA rfl rfl rfl rfl fun w hI => ?_
      refine o_nil ?_
      refine hN9 _ _ ?_
      obtain ⟨⟨c3, c4⟩, hz7, Hk5⟩ := bB H
      refine w_cut (fun a w => ∃ (μ2 : Store) (vvc3 : Value), μ.le μ2 ∧ Slc (RI .u8) 1 μ2 vvc3 c3 ∧ Arr .u32 8 c4 ∧ Fr a 79 [(0, .pointer (some ⟨g0, 0, none⟩)), (2, .pointer (some ⟨g1, 0, none⟩)), (3, vvc3), (5, .pointer (some ⟨g5, 0, none⟩))] ∧ Iv w0 (many [cel g0 [av .u32 8 x0.s, [vp1], [.int .i64 x0.n]] 129, row 5 1 vp1 x0.rest.length cp1]).foot μ μ2 [cel g5 [av .u32 8 c4] 127, cel g0 [av .u32 8 x0.s, [vp1], [.int .i64 x0.n]] 129, row 5 1 vp1 x0.rest.length cp1, row 5 1 (.slice (some ⟨g2, 0, none⟩) 1 1) ([128] : List Int).length cs2, cel g1 [av .u8 32 (List.replicate 32 0)] 24] w) ?_ ?_
      · have H := bI hz7
        refine w_seq fun _ hN10 => ?_
        refine w_reg ?_
        refine stp hA (r_as hA rfl) rfl fun a hA => ?_
        refine o_nil ?_
        refine hN10 _ _ ?_
        refine w_block ?_
        obtain ⟨μ3, hle3, hsv5, hI⟩ := hI.freezeRow 3 rfl
        have hS2 : Slc (RI .u8) 1 μ3 vvc2 c2 := ⟨_, wc2, hsv5⟩
        obtain ⟨z3, hz8, Hk6⟩ := bind_some H
        obtain ⟨n3, hn3⟩ := loopO_some hz8
        refine w_loop (fun n a w => ∃ (s4 : List Int) (s5 : Int) (s6 : List Int) (μ4 : Store) (vvs4 : Value), loopN (digest_Writer_Sum.s2) n (s4, s5, s6) = some z3 ∧ μ3.le μ4 ∧ Slc (RI .u8) 1 μ4 vvs4 s4 ∧ InR .i64 s5 ∧ Arr .u32 8 s6 ∧ Fr a 79 [(0, .pointer (some ⟨g0, 0, none⟩)), (2, .pointer (some ⟨g1, 0, none⟩)), (3, vvs4), (5, .pointer (some ⟨g5, 0, none⟩)), (6, .int .i64 s5)] ∧ Iv w0 (many [cel g0 [av .u32 8 x0.s, [vp1], [.int .i64 x0.n]] 129, row 5 1 vp1 x0.rest.length cp1]).foot μ μ4 [cel g5 [av .u32 8 s6] 127, cel g0 [av .u32 8 x0.s, [vp1], [.int .i64 x0.n]] 129, row 5 1 vp1 x0.rest.length cp1, row 5 1 (.slice (some ⟨g2, 0, none⟩) 1 1) ([128] : List Int).length cs2, cel g1 [av .u8 32 (List.replicate 32 0)] 24] w) n3 ⟨c2, 0, r2, μ3, vvc2, hn3, (Store.le.refl _), hS2, (in_lit .i64 0 rfl), hw1, hA.sub ⟨rfl, rfl, rfl, rfl, rfl, trivial⟩, hI⟩ ?_
        clear hA hI
        rintro n a w ⟨s4, s5, s6, μ4, vvs4, hn3, hle4, ws4, ws5, ws6, hA, hI⟩
        obtain ⟨m3, rfl, H⟩ := loopN_bind hn3
        clear hn3
        refine w_seq fun _ hN11 => ?_
        refine w_seq fun _ hN12 => ?_
        refine w_reg ?_
        refine stp hA (r_mv hA rfl) rfl fun a hA => 
          stp hA (r_mv hA rfl) rfl fun a hA => ?_
        obtain ⟨_, hsl1⟩ := Slc.sv ws4
        refine stp hA (r_slen Tryd.underlying25 hsl1 hA rfl) rfl fun a hA => 
          stp hA (r_lss hA rfl rfl) rfl fun a hA => ?_
        refine o_nil ?_
        refine hN12 _ _ ?_
        refine w_cond hA rfl (fun hc3 => ?_) (fun hc3 => ?_)
        · have hc30 := hc3; have hc3 := of_decide_eq_true hc3; have H := bT H hc3
          refine w_skip ?_
          refine hN11 _ _ ?_
          refine w_seq fun _ hN13 => ?_
          refine w_block ?_
          refine w_any [7] mo hI fun w hI => ?_
          refine g_take (i := 0) hA rfl rfl (by kernel_rfl) hI (fun w hI => r_ldA (j := 0) [] [av .u32 8 s6] [] Tryd.underlying127 rfl sz127 rfl hI rfl hA rfl rfl) rfl fun a hA => ?_
          refine g_easy (i := 1) hA rfl rfl (by kernel_rfl) (.inr hI) (fun _ => r_mv hA rfl) rfl fun a hA => ?_
          refine g_easy (i := 2) hA rfl rfl (by kernel_rfl) (.inr hI) (fun _ => r_mv hA rfl) rfl fun a hA => ?_
          refine g_easy (i := 3) hA rfl rfl (by kernel_rfl) (.inr hI) (fun _ => r_mv hA rfl) rfl fun a hA => ?_
          refine g_easy (i := 4) hA rfl rfl (by kernel_rfl) (.inr hI) (fun _ => r_add hA rfl rfl) rfl fun a hA => ?_
          obtain ⟨hb5, H⟩ := bG H
          obtain ⟨v6, hS3, hr3⟩ := r_sl (P := Tryd.prog) (t := 25) (x := .tmp 51) (l := (some (.tmp 52))) (h := (some (.tmp 54))) (i := s5) (j := IntKind.i64.wrap (s5 + 64)) Tryd.underlying25 sz5 ws4 hA rfl rfl rfl (by have hq := hb5; omega) (by have hq := hb5; omega) (by have hq := hb5; omega)
          refine g_easy (i := 5) hA rfl rfl (by kernel_rfl) (.inr hI) (fun _ => hr3 _ _ _ _ _ _) rfl fun a hA => ?_
          refine g_forced (i := 6) rfl (by kernel_rfl) ?_
          obtain ⟨r3, hr4, H⟩ := bB H
          refine o_callp (u := .agg [av .u32 8 r3].flatten.toArray) cf101 hA rfl hI (digest_mix.c μ4 _ hI.agr s6 ws6 ((s4.take (IntKind.i64.wrap (s5 + 64)).toNat).drop (s5).toNat) v6 hS3 r3 hr4) rfl fun a w hz9 hI hA => ?_
          refine o_nil ?_
          refine ⟨(.inr hI), ?_⟩
          refine g_forced (i := 7) rfl (by kernel_rfl) ?_
          refine o_st (j := 0) [] [av .u32 8 s6] [av .u32 8 r3] [] sz127 rfl rfl (fl_cons (one_av _ _ _) fl_nil) hI rfl hA rfl rfl rfl rfl fun w hI => ?_
          refine o_nil ?_
          refine ⟨(.inl (by kernel_rfl)), ?_⟩
          refine g_nil (by kernel_rfl) ?_
          refine hN13 _ _ ?_
          refine w_reg ?_
          refine stp hA (r_mv hA rfl) rfl fun a hA => 
            stp hA (r_add hA rfl rfl) rfl fun a hA => 
            stp hA (r_as hA rfl) rfl fun a hA => ?_
          refine o_nil ?_
          exact ⟨m3, Nat.lt_succ_self _, s4, IntKind.i64.wrap (s5 + 64), r3, μ4, vvs4, H, hle4, ws4, (wrap_in _ _), hz9, hA.sub ⟨rfl, rfl, rfl, rfl, rfl, trivial⟩, hI⟩
        · have hc30 := hc3; have hc3 := of_decide_eq_false hc3; have H := bF H hc3
          refine w_exit rfl ?_
          have H : some (s4, s6) = some z3 := H
          obtain rfl := Option.some.inj H
          have H := Hk6
          cases Option.some.inj (bS H)
          exact ⟨μ4, vvs4, (hle3.trans hle4), ws4, ws6, hA.sub ⟨rfl, rfl, rfl, rfl, trivial⟩, hI⟩
      · rintro a w ⟨μ2, vvc3, hle2, wc3, wc4, hA, hI⟩
        have H := Hk5
        refine w_seq fun _ hN14 => ?_
        refine w_reg ?_
        refine o_new [av .u8 32 (List.replicate 32 0)] zr24 hI hA rfl fun g6 a w hA hI hg6 => ?_
        refine o_nil ?_
        refine hN14 _ _ ?_
        obtain ⟨c5, hz10, Hk7⟩ := bB H
        refine w_cut (fun a w => Arr .u8 32 c5 ∧ Fr a 79 [(0, .pointer (some ⟨g0, 0, none⟩)), (2, .pointer (some ⟨g1, 0, none⟩)), (3, vvc3), (5, .pointer (some ⟨g5, 0, none⟩)), (7, .pointer (some ⟨g6, 0, none⟩))] ∧ Iv w0 (many [cel g0 [av .u32 8 x0.s, [vp1], [.int .i64 x0.n]] 129, row 5 1 vp1 x0.rest.length cp1]).foot μ μ2 [cel g6 [av .u8 32 c5] 24, cel g5 [av .u32 8 c4] 127, cel g0 [av .u32 8 x0.s, [vp1], [.int .i64 x0.n]] 129, row 5 1 vp1 x0.rest.length cp1, row 5 1 (.slice (some ⟨g2, 0, none⟩) 1 1) ([128] : List Int).length cs2, cel g1 [av .u8 32 (List.replicate 32 0)] 24] w) ?_ ?_
        · have H := bI hz10
          refine w_seq fun _ hN15 => ?_
          refine w_reg ?_
          refine stp hA (r_ldA (j := 1) [] [av .u32 8 c4] [] Tryd.underlying127 rfl sz127 rfl hI rfl hA rfl rfl) rfl fun a hA => 
            stp hA (r_mv hA rfl) rfl fun a hA => ?_
          refine o_nil ?_
          refine hN15 _ _ ?_
          refine w_block ?_
          obtain ⟨z4, hz11, Hk8⟩ := bind_some H
          obtain ⟨n4, hn4⟩ := loopO_some hz11
          refine w_loop (fun n a w => ∃ (s7 : Int) (s8 : List Int), loopN (digest_Writer_Sum.s3 c4) n (s7, s8) = some z4 ∧ InR .i64 s7 ∧ Arr .u8 32 s8 ∧ Fr a 79 [(0, .pointer (some ⟨g0, 0, none⟩)), (2, .pointer (some ⟨g1, 0, none⟩)), (3, vvc3), (5, .pointer (some ⟨g5, 0, none⟩)), (7, .pointer (some ⟨g6, 0, none⟩)), (57, .agg [av .u32 8 c4].flatten.toArray), (58, .int .i64 s7)] ∧ Iv w0 (many [cel g0 [av .u32 8 x0.s, [vp1], [.int .i64 x0.n]] 129, row 5 1 vp1 x0.rest.length cp1]).foot μ μ2 [cel g6 [av .u8 32 s8] 24, cel g5 [av .u32 8 c4] 127, cel g0 [av .u32 8 x0.s, [vp1], [.int .i64 x0.n]] 129, row 5 1 vp1 x0.rest.length cp1, row 5 1 (.slice (some ⟨g2, 0, none⟩) 1 1) ([128] : List Int).length cs2, cel g1 [av .u8 32 (List.replicate 32 0)] 24] w) n4 ⟨0, (List.replicate 32 0), hn4, (in_lit .i64 0 rfl), (arr_zero _ _), hA.sub ⟨rfl, rfl, rfl, rfl, rfl, rfl, rfl, trivial⟩, hI⟩ ?_
          clear hA hI
          rintro n a w ⟨s7, s8, hn4, ws7, ws8, hA, hI⟩
          obtain ⟨m4, rfl, H⟩ := loopN_bind hn4
          clear hn4
          refine w_seq fun _ hN16 => ?_
          refine w_reg ?_
          refine stp hA (r_lss hA rfl rfl) rfl fun a hA => ?_
          refine o_nil ?_
          refine hN16 _ _ ?_
          refine w_seq fun _ hN17 => ?_
          refine w_cond hA rfl (fun hc4 => ?_) (fun hc4 => ?_)
          · have hc40 := hc4; have hc4 := of_decide_eq_true hc4; have H := bT H hc4
            refine w_skip ?_
            refine hN17 _ _ ?_
            obtain ⟨c6, hz12, Hk9⟩ := bB H
            refine w_cut (fun a w => Arr .u8 32 c6 ∧ Fr a 79 [(0, .pointer (some ⟨g0, 0, none⟩)), (2, .pointer (some ⟨g1, 0, none⟩)), (3, vvc3), (5, .pointer (some ⟨g5, 0, none⟩)), (7, .pointer (some ⟨g6, 0, none⟩)), (57, .agg [av .u32 8 c4].flatten.toArray), (58, .int .i64 s7), (59, .bool (decide (s7 < 8)))] ∧ Iv w0 (many [cel g0 [av .u32 8 x0.s, [vp1], [.int .i64 x0.n]] 129, row 5 1 vp1 x0.rest.length cp1]).foot μ μ2 [cel g6 [av .u8 32 c6] 24, cel g5 [av .u32 8 c4] 127, cel g0 [av .u32 8 x0.s, [vp1], [.int .i64 x0.n]] 129, row 5 1 vp1 x0.rest.length cp1, row 5 1 (.slice (some ⟨g2, 0, none⟩) 1 1) ([128] : List Int).length cs2, cel g1 [av .u8 32 (List.replicate 32 0)] 24] w) ?_ ?_
            · have H := bI hz12
              refine w_block ?_
              refine w_seq fun _ hN18 => ?_
              refine w_reg ?_
              refine stp hA (r_mv hA rfl) rfl fun a hA => ?_
              obtain ⟨hb6, H⟩ := bG H
              refine stp hA (r_aidx Tryd.underlying127 Tryd.underlying28 sz28 hA rfl rfl hb6.1 hb6.2) rfl fun a hA => 
                stp hA (r_as hA rfl) rfl fun a hA => 
                stp hA (r_as hA rfl) rfl fun a hA => ?_
              refine o_nil ?_
              refine hN18 _ _ ?_
              refine w_seq fun _ hN19 => ?_
              refine w_reg ?_
              refine stp hA (r_mv hA rfl) rfl fun a hA => ?_
              refine o_nil ?_
              refine hN19 _ _ ?_
              refine w_block ?_
              obtain ⟨z5, hz13, Hk10⟩ := bind_some H
              obtain ⟨n5, hn5⟩ := loopO_some hz13
              refine w_loop (fun n a w => ∃ (s9 : Int) (s10 : List Int), loopN (digest_Writer_Sum.s4 c4 s7) n (s9, s10) = some z5 ∧ InR .i64 s9 ∧ Arr .u8 32 s10 ∧ Fr a 79 [(0, .pointer (some ⟨g0, 0, none⟩)), (2, .pointer (some ⟨g1, 0, none⟩)), (3, vvc3), (5, .pointer (some ⟨g5, 0, none⟩)), (7, .pointer (some ⟨g6, 0, none⟩)), (8, .int .i64 s7), (9, .int .u32 (c4.getD s7.toNat 0)), (57, .agg [av .u32 8 c4].flatten.toArray), (58, .int .i64 s7), (59, .bool (decide (s7 < 8))), (62, .int .i64 s9)] ∧ Iv w0 (many [cel g0 [av .u32 8 x0.s, [vp1], [.int .i64 x0.n]] 129, row 5 1 vp1 x0.rest.length cp1]).foot μ μ2 [cel g6 [av .u8 32 s10] 24, cel g5 [av .u32 8 c4] 127, cel g0 [av .u32 8 x0.s, [vp1], [.int .i64 x0.n]] 129, row 5 1 vp1 x0.rest.length cp1, row 5 1 (.slice (some ⟨g2, 0, none⟩) 1 1) ([128] : List Int).length cs2, cel g1 [av .u8 32 (List.replicate 32 0)] 24] w) n5 ⟨0, s8, hn5, (in_lit .i64 0 rfl), ws8, hA.sub ⟨rfl, rfl, rfl, rfl, rfl, rfl, rfl, rfl, rfl, rfl, rfl, trivial⟩, hI⟩ ?_
              clear hA hI
              rintro n a w ⟨s9, s10, hn5, ws9, ws10, hA, hI⟩
              obtain ⟨m5, rfl, H⟩ := loopN_bind hn5
              clear hn5
              refine w_seq fun _ hN20 => ?_
              refine w_reg ?_
              refine stp hA (r_lss hA rfl rfl) rfl fun a hA => ?_
              refine o_nil ?_
              refine hN20 _ _ ?_
              refine w_seq fun _ hN21 => ?_
              refine w_cond hA rfl (fun hc5 => ?_) (fun hc5 => ?_)
              · have hc50 := hc5; have hc5 := of_decide_eq_true hc5; have H := bT H hc5
                refine w_skip ?_
                refine hN21 _ _ ?_
                refine w_seq fun _ hN22 => ?_
                refine w_block ?_
                refine w_seq fun _ hN23 => ?_
                refine w_reg ?_
                refine stp hA (r_mv hA rfl) rfl fun a hA => 
                  stp hA (r_as hA rfl) rfl fun a hA => ?_
                refine o_nil ?_
                refine hN23 _ _ ?_
                refine w_reg ?_
                refine stp hA (r_mv hA rfl) rfl fun a hA => 
                  stp hA (r_mul hA rfl rfl) rfl fun a hA => 
                  stp hA (r_mv hA rfl) rfl fun a hA => 
                  stp hA (r_add hA rfl rfl) rfl fun a hA => 
                  stp hA (r_mv hA rfl) rfl fun a hA => 
                  stp hA (r_mv hA rfl) rfl fun a hA => 
                  stp hA (r_mul hA rfl rfl) rfl fun a hA => 
                  stp hA (r_sub hA rfl rfl) rfl fun a hA => ?_
                obtain ⟨hb7, H⟩ := bG H
                refine stp hA (r_shr hA rfl rfl hb7) rfl fun a hA => 
                  stp hA (r_conv Tryd.underlying28 Tryd.underlying5 hA rfl) rfl fun a hA => ?_
                obtain ⟨hb8, H⟩ := bG H
                refine stp hA (r_ixar1 Tryd.underlying24 sz5 hA rfl rfl hb8.1 hb8.2) rfl fun a hA => 
                  o_stE (j := 0) [] [] sz5 ws10.1 hI rfl hA rfl rfl rfl (by omega) fun w hI => ?_
                refine o_nil ?_
                refine hN22 _ _ ?_
                refine w_reg ?_
                refine stp hA (r_add hA rfl rfl) rfl fun a hA => 
                  stp hA (r_mv hA rfl) rfl fun a hA => ?_
                refine o_nil ?_
                exact ⟨m5, Nat.lt_succ_self _, IntKind.i64.wrap (s9 + 1), s10.set (IntKind.i64.wrap ((IntKind.i64.wrap (4 * s7)) + s9)).toNat (IntKind.u8.wrap (sR .u32 (c4.getD s7.toNat 0) (IntKind.i64.wrap (24 - (IntKind.i64.wrap (8 * s9)))))), H, (wrap_in _ _), (arr_set ws10 _ (wrap_in _ _)), hA.sub ⟨rfl, rfl, rfl, rfl, rfl, rfl, rfl, rfl, rfl, rfl, rfl, trivial⟩, hI⟩
              · have hc50 := hc5; have hc5 := of_decide_eq_false hc5; have H := bF H hc5
                refine w_exit rfl ?_
                have H : some s10 = some z5 := H
                obtain rfl := Option.some.inj H
                have H := Hk10
                cases Option.some.inj (bS H)
                exact ⟨ws10, hA.sub ⟨rfl, rfl, rfl, rfl, rfl, rfl, rfl, rfl, trivial⟩, hI⟩
            · rintro a w ⟨wc6, hA, hI⟩
              have H := Hk9
              refine w_reg ?_
              refine stp hA (r_add hA rfl rfl) rfl fun a hA => 
                stp hA (r_mv hA rfl) rfl fun a hA => ?_
              refine o_nil ?_
              exact ⟨m4, Nat.lt_succ_self _, IntKind.i64.wrap (s7 + 1), c6, H, (wrap_in _ _), wc6, hA.sub ⟨rfl, rfl, rfl, rfl, rfl, rfl, rfl, trivial⟩, hI⟩
          · have hc40 := hc4; have hc4 := of_decide_eq_false hc4; have H := bF H hc4
            refine w_exit rfl ?_
            have H : some s8 = some z4 := H
            obtain rfl := Option.some.inj H
            have H := Hk8
            cases Option.some.inj (bS H)
            exact ⟨ws8, hA.sub ⟨rfl, rfl, rfl, rfl, rfl, trivial⟩, hI⟩
        · rintro a w ⟨wc5, hA, hI⟩
          have H := Hk7
          refine w_seq fun _ hN24 => ?_
          refine w_reg ?_
          refine stp hA (r_ldA (j := 0) [] [av .u8 32 c5] [] Tryd.underlying24 rfl sz24 rfl hI rfl hA rfl rfl) rfl fun a hA => 
            o_st (j := 5) [] [av .u8 32 (List.replicate 32 0)] [av .u8 32 c5] [] sz24 rfl rfl (fl_cons (one_av _ _ _) fl_nil) hI rfl hA rfl rfl rfl rfl fun w hI => ?_
          refine o_nil ?_
          refine hN24 _ _ ?_
          refine w_ret ?_
          obtain rfl := Option.some.inj (bS H)
          exact retc Tryd.underlying24 rfl sz24 rfl hI (j := 5) rfl hA Tryd.results85 rfl ⟨_, rfl, rfl, wc5, ((hI.sel [2, 3] (by decide) rfl).less (Store.le.refl _) hI.le)⟩
set_option maxRecDepth 20000 in
theorem digest_Sha.c (μ : Store) (w0 : World) (hμ : Agr μ w0) (x0 : List Int) (u0 : Value) (hx0 : Slc (RI .u8) 1 μ u0 x0) (r : List Int) (H : digest_Sha.f x0 = some r) :
    Calls Tryd.prog 66 [u0].toArray w0 (fun e w' => ∃ v, e = .returned v ∧ v = .agg [av .u8 32 r].flatten.toArray ∧ Arr .u8 32 r ∧ Iv w0 [] μ μ [] w') := by
  refine enter Tryd.func66 rfl Tryd.ntmps66 rfl fun a hA => ?_
  have hI := Iv.start hμ
  have H := bI H
  refine w_seq fun _ hN1 => ?_
  refine w_reg ?_
  refine o_new [av .u8 32 (List.replicate 32 0)] zr24 hI hA rfl fun g1 a w hA hI hg1 => ?_
  refine o_nil ?_
  refine hN1 _ _ ?_
  refine w_seq fun _ hN2 => ?_
  refine w_reg ?_
  refine o_new [av .u32 8 (List.replicate 8 0), [(.slice none 0 0)], [.int .i64 0]] zr129 hI hA rfl fun g2 a w hA hI hg2 => ?_
  refine o_nil ?_
  refine hN2 _ _ ?_
  refine w_seq fun _ hN3 => ?_
  refine w_reg ?_
  refine stp hA (r_mv hA rfl) rfl fun a hA => ?_
  have hI := hI.nilRow 5 1
  obtain ⟨r1, hr1, H⟩ := bB H
  have hI := hI.sel [1, 0, 2] (by decide) rfl
  refine o_call _ cf84 hA rfl (digest_Writer_Write.c μ _ hI.agr (⟨(List.replicate 8 0), [], 0⟩ : digestWriter) (.slice none 0 0) [] g2 (arr_zero _ _) (Els.nil (RE := (RI .u8)) (sz := 1)) (in_lit .i64 0 rfl) (hI.handN 2) x0 u0 hx0 r1 hr1) rfl fun v1 a w hz1 hA => ?_
  obtain ⟨vp1, cp1, rfl, hp1, hp2, hp3, hi1⟩ := hz1
  have hI := hI.backN 2 hi1
  have hI : Iv w0 [] μ μ [cel g2 [av .u32 8 r1.s, [vp1], [.int .i64 r1.n]] 129, row 5 1 vp1 r1.rest.length cp1, cel g1 [av .u8 32 (List.replicate 32 0)] 24] w := hI
  refine o_nil ?_
  refine hN3 _ _ ?_
  refine w_seq fun _ hN4 => ?_
  refine w_reg ?_
  obtain ⟨r2, hr2, H⟩ := bB H
  refine o_call _ cf85 hA rfl (digest_Writer_Sum.c μ _ hI.agr (⟨r1.s, r1.rest, r1.n⟩ : digestWriter) vp1 cp1 g2 hp1 hp2 hp3 (hI.handN 2) r2 hr2) rfl fun v2 a w hz2 hA => ?_
  obtain ⟨rfl, hw1, hi2⟩ := hz2
  have hI := hI.backN 2 hi2
  have hI : Iv w0 [] μ μ [cel g2 [av .u32 8 r1.s, [vp1], [.int .i64 r1.n]] 129, row 5 1 vp1 r1.rest.length cp1, cel g1 [av .u8 32 (List.replicate 32 0)] 24] w := hI
  refine o_st (j := 2) [] [av .u8 32 (List.replicate 32 0)] [av .u8 32 r2] [] sz24 rfl rfl (fl_cons (one_av _ _ _) fl_nil) hI rfl hA rfl rfl rfl rfl fun w hI => ?_
  refine o_nil ?_
  refine hN4 _ _ ?_
  refine w_ret ?_
  obtain rfl := Option.some.inj (bS H)
  exact retc Tryd.underlying24 rfl sz24 rfl hI (j := 2) rfl hA Tryd.results66 rfl ⟨_, rfl, rfl, hw1, hI.forget0⟩
set_option maxRecDepth 20000 in
theorem digest_Twice.c (μ : Store) (w0 : World) (hμ : Agr μ w0) (x0 : List Int) (u0 : Value) (hx0 : Slc (RI .u8) 1 μ u0 x0) (r : List Int) (H : digest_Twice.f x0 = some r) :
    Calls Tryd.prog 76 [u0].toArray w0 (fun e w' => ∃ v, e = .returned v ∧ v = .agg [av .u8 32 r].flatten.toArray ∧ Arr .u8 32 r ∧ Iv w0 [] μ μ [] w') := by
  refine enter Tryd.func76 rfl Tryd.ntmps76 rfl fun a hA => ?_
  have hI := Iv.start hμ
  have H := bI H
  refine w_seq fun _ hN1 => ?_
  refine w_reg ?_
  refine o_new [av .u8 32 (List.replicate 32 0)] zr24 hI hA rfl fun g1 a w hA hI hg1 => ?_
  refine o_nil ?_
  refine hN1 _ _ ?_
  refine w_seq fun _ hN2 => ?_
  refine w_reg ?_
  refine stp hA (r_mv hA rfl) rfl fun a hA => ?_
  obtain ⟨r1, hr1, H⟩ := bB H
  refine o_callp (u := .agg [av .u8 32 r1].flatten.toArray) cf66 hA rfl hI (digest_Sha.c μ _ hI.agr x0 u0 hx0 r1 hr1) rfl fun a w hz1 hI hA => 
    o_new [av .u8 32 (List.replicate 32 0)] zr24 hI hA rfl fun g2 a w hA hI hg2 => 
    o_st (j := 0) [] [av .u8 32 (List.replicate 32 0)] [av .u8 32 r1] [] sz24 rfl rfl (fl_cons (one_av _ _ _) fl_nil) hI rfl hA rfl rfl rfl rfl fun w hI => ?_
  refine o_nil ?_
  refine hN2 _ _ ?_
  refine w_seq fun _ hN3 => ?_
  refine w_reg ?_
  refine stp hA (r_slv (i := 0) (j := 32) Tryd.underlying24 sz5 hA rfl rfl rfl (by decide) (by decide) (by decide) (by decide) rfl) rfl fun a hA => ?_
  obtain ⟨r2, hr2, H⟩ := bB H
  refine o_callp (u := .agg [av .u8 32 r2].flatten.toArray) cf66 hA rfl hI ((by obtain ⟨μ1, hle1, hat1, hI⟩ := hI.freezeCel 0 rfl; have hS1 : Slc (RI .u8) 1 μ1 (.slice (some ⟨g2, 0, none⟩) 32 32) (r1) := slc_view0 [] [] hat1 hz1 rfl (by decide); exact low_plain hle1 (digest_Sha.c μ1 _ hI.agr r1 (.slice (some ⟨g2, 0, none⟩) 32 32) hS1 r2 hr2))) rfl fun a w hz2 hI hA => 
    o_st (j := 1) [] [av .u8 32 (List.replicate 32 0)] [av .u8 32 r2] [] sz24 rfl rfl (fl_cons (one_av _ _ _) fl_nil) hI rfl hA rfl rfl rfl rfl fun w hI => ?_
  refine o_nil ?_
  refine hN3 _ _ ?_
  refine w_ret ?_
  obtain rfl := Option.some.inj (bS H)
  exact retc Tryd.underlying24 rfl sz24 rfl hI (j := 1) rfl hA Tryd.results76 rfl ⟨_, rfl, rfl, hz2, hI.forget0⟩
end Go.Proofs.YtlpggofilkfbnaaDoor.T
namespace Go.Proofs.YtlpggofilkfbnaaDoor.T
open Go Go.Proofs Go.Proofs.YtlpggofilkfbnaaDoor.K
set_option linter.unusedVariables false
set_option linter.unusedSimpArgs false
def slices_Grow_byte_byte.f (x1 : Int) : Option (List Int) := if 0 ≤ x1 ∧ x1 ≤ 140737488355328 then some [] else none
noncomputable def slices_Concat_byte_byte.s1 (x0 : List (List Int)) : ((List Int) × Int) → Option (((List Int) × Int) ⊕ (List Int)) := fun (s3, s4) => (if s4 < (x0.length : Int) then (if 0 ≤ s4 ∧ s4 < (x0.length : Int) then (if s3.length + (x0.getD s4.toNat []).length ≤ 140737488355328 then some (.inl (s3 ++ (x0.getD s4.toNat []), IntKind.i64.wrap (s4 + 1))) else none) else none) else some (.inr s3))
noncomputable def slices_Concat_byte_byte.s0 (x0 : List (List Int)) : (Int × Int) → Option ((Int × Int) ⊕ Int) := fun (s1, s2) => (if s2 < (x0.length : Int) then (((if 0 ≤ s2 ∧ s2 < (x0.length : Int) then (if (IntKind.i64.wrap (s1 + ((x0.getD s2.toNat []).length : Int))) < 0 then none else some (IntKind.i64.wrap (s1 + ((x0.getD s2.toNat []).length : Int)))) else none)).bind fun c2 => some (.inl (c2, IntKind.i64.wrap (s2 + 1)))) else some (.inr s1))
noncomputable def slices_Concat_byte_byte.f (x0 : List (List Int)) : Option (List Int) := ((loopO (slices_Concat_byte_byte.s0 x0) (0, 0)).bind fun c1 => ((slices_Grow_byte_byte.f c1).bind fun r1 => ((loopO (slices_Concat_byte_byte.s1 x0) (r1, 0)).bind fun c3 => some c3)))
noncomputable def spend_Null.f : Option Point := some (⟨(List.replicate 32 0), 4294967295⟩ : Point)
noncomputable def spend_Lock.f (x0 : List Int) : Option (List Int) := ((digest_Sha.f x0).bind fun r1 => some r1)
noncomputable def head_Bytes.f (x0 : Head) : Option (List Int) := ((compact_Four.f ([]) x0.Version).bind fun r1 => ((slices_Concat_byte_byte.f ([r1, x0.Prev, x0.Root] : List (List Int))).bind fun r2 => ((compact_Four.f r2 x0.Time).bind fun r3 => ((compact_Four.f r3 x0.Work).bind fun r4 => ((compact_Four.f r4 x0.Nonce).bind fun r5 => some r5)))))
noncomputable def head_Check.f (x0 : Head) : Option Er := (((if x0.Work = 0 then some true else some (decide (16777216 < x0.Work)))).bind fun c1 => (if c1 = true then some xErrRange else some (Er.b 0)))
noncomputable def spend_IsNull.f (x0 : Point) : Option Bool := ((spend_Null.f).bind fun r1 => some (decide (x0.Tx = r1.Tx ∧ x0.N = r1.N)))
noncomputable def head_Take.f (x0 : compactReader) : Option (Head × compactReader) := ((compact_Reader_Four.f x0).bind fun r1 => ((compact_Reader_Hash.f r1.2).bind fun r2 => ((compact_Reader_Hash.f r2.2).bind fun r3 => ((compact_Reader_Four.f r3.2).bind fun r4 => ((compact_Reader_Four.f r4.2).bind fun r5 => ((compact_Reader_Four.f r5.2).bind fun r6 => ((compact_Reader_Err.f r6.2).bind fun r7 => (if r7 ≠ (Er.b 0) then some ((⟨0, (List.replicate 32 0), (List.replicate 32 0), 0, 0, 0⟩ : Head), r6.2) else some ((⟨r1.1, r2.1, r3.1, r4.1, r5.1, r6.1⟩ : Head), r6.2)))))))))
end Go.Proofs.YtlpggofilkfbnaaDoor.T
namespace Go.Proofs.YtlpggofilkfbnaaDoor.T
open Go Go.Proofs Go.Proofs.YtlpggofilkfbnaaDoor.K
set_option linter.unusedVariables false
set_option linter.unusedSimpArgs false
set_option maxRecDepth 20000 in
theorem slices_Grow_byte_byte.c (μ : Store) (w0 : World) (hμ : Agr μ w0) (x1 : Int) (hx1 : InR .i64 x1) (r : List Int) (H : slices_Grow_byte_byte.f x1 = some r) :
    Calls Tryd.prog 62 [.slice none 0 0, .int .i64 x1].toArray w0 (fun e w' => ∃ v, e = .returned v ∧ ∃ (v0 : Value) (c0 : List Value), v = v0 ∧ Els (RI .u8) 1 r c0 ∧ Iv w0 [] μ μ [row 5 1 v0 r.length c0] w') := by
  obtain ⟨hb, H⟩ := guard_some H
  obtain rfl := Option.some.inj H
  refine enter Tryd.func62 rfl Tryd.ntmps62 rfl fun a hA => ?_
  have hI := Iv.start hμ
  have e1 : IntKind.i64.wrap (x1 - IntKind.i64.wrap (((0 : Nat) : Int) - ((0 : Nat) : Int))) = x1 := by
    rw [wrap_id (k := .i64) (x := ((0 : Nat) : Int) - ((0 : Nat) : Int)) ⟨by omega, by omega⟩]
    simp only [Int.sub_self, Int.sub_zero, Int.natCast_zero]
    exact wrap_id hx1
  refine w_seq fun _ hN1 => w_reg (stp hA (r_as hA rfl) rfl fun a hA => o_nil (hN1 _ _ ?_))
  refine w_seq fun _ hN2 => w_seq fun _ hN3 => w_reg (stp hA (r_mv hA rfl) rfl fun a hA => stp hA (r_lss hA rfl rfl) rfl fun a hA => o_nil (hN3 _ _ ?_))
  refine w_cond hA rfl (fun hc => absurd (of_decide_eq_true hc) (by omega)) (fun _ => w_skip (hN2 _ _ ?_))
  refine w_cut (fun a w => ∃ v0 c0, Fr a 27 [(0, v0)] ∧ Iv w0 [] μ μ [row 5 1 v0 0 c0] w ∧ c0 = []) ?_ ?_
  · refine w_seq fun _ hN4 => w_reg ?_
    refine stp hA (r_mv hA rfl) rfl fun a hA => stp hA (r_mv hA rfl) rfl fun a hA => stp hA (r_cap Tryd.underlying25 hA rfl) rfl fun a hA => ?_
    refine stp hA (r_mv hA rfl) rfl fun a hA => stp hA (r_len Tryd.underlying25 hA rfl) rfl fun a hA => ?_
    refine stp hA (r_sub hA rfl rfl) rfl fun a hA => stp hA (r_sub hA rfl rfl) rfl fun a hA => ?_
    rw [e1] at hA
    refine stp hA (r_as hA rfl) rfl fun a hA => o_nil (hN4 _ _ ?_)
    refine w_seq fun _ hN5 => w_reg (stp hA (r_mv hA rfl) rfl fun a hA => stp hA (r_gtr hA rfl rfl) rfl fun a hA => o_nil (hN5 _ _ ?_))
    refine w_cond hA rfl (fun hc => ?_) (fun hc => ?_)
    · have hc := of_decide_eq_true hc
      refine w_reg ?_
      refine stp hA (r_mv hA rfl) rfl fun a hA => stp hA (r_mv hA rfl) rfl fun a hA => stp hA (r_cap Tryd.underlying25 hA rfl) rfl fun a hA => ?_
      refine stp hA (r_front Tryd.underlying25 sz5 hA rfl rfl (by decide) (by decide)) rfl fun a hA => stp hA (r_mv hA rfl) rfl fun a hA => ?_
      refine o_appmake te5 rfl Tryd.underlying25 Tryd.underlying3 hI hA rfl rfl (by omega) (by omega) (by omega) rfl fun g cap cur a w h1 h2 h3 hA hI hg => ?_
      refine stp hA (r_mv hA rfl) rfl fun a hA => stp hA (r_len Tryd.underlying25 hA rfl) rfl fun a hA => ?_
      refine stp hA (r_front Tryd.underlying25 sz5 hA rfl rfl (by decide) (by omega)) rfl fun a hA => stp hA (r_as hA rfl) rfl fun a hA => o_nil ?_
      have hI := hI (row 5 1 (.slice (some ⟨g, 0, none⟩) 0 cap) 0 []) (by simp [row, Value.ownBlock]) ⟨rfl, .inr ⟨g, cap, cur, rfl, Nat.zero_le _, hg, Nat.zero_le _, h2, h3, rfl⟩⟩
      exact ⟨_, _, hA.sub ⟨rfl, trivial⟩, hI, rfl⟩
    · exact w_skip ⟨_, _, hA.sub ⟨rfl, trivial⟩, hI.nilRow 5 1, rfl⟩
  · rintro a w ⟨v0, c0, hA, hI, rfl⟩
    refine w_seq fun _ hN6 => w_reg (stp hA (r_mv hA rfl) rfl fun a hA => stp hA (r_as hA rfl) rfl fun a hA => o_nil (hN6 _ _ ?_))
    refine w_ret ?_
    exact ret1 hA Tryd.results62 rfl ⟨_, rfl, v0, [], rfl, .nil, hI⟩
set_option maxRecDepth 20000 in
theorem slices_Concat_byte_byte.c (μ : Store) (w0 : World) (hμ : Agr μ w0) (x0 : List (List Int)) (u0 : Value) (hx0 : Slc (RS (RI .u8) 1 μ) 1 μ u0 x0) (r : List Int) (H : slices_Concat_byte_byte.f x0 = some r) :
    Calls Tryd.prog 32 [u0].toArray w0 (fun e w' => ∃ v, e = .returned v ∧ ∃ (v0 : Value) (c0 : List Value), v = v0 ∧ Els (RI .u8) 1 r c0 ∧ Iv w0 [] μ μ [row 5 1 v0 r.length c0] w') := by
  refine enter Tryd.func32 rfl Tryd.ntmps32 rfl fun a hA => ?_
  have hI := Iv.start hμ
  have H := bI H
  refine w_seq fun _ hN1 => ?_
  refine w_reg ?_
  refine stp hA (r_as hA rfl) rfl fun a hA => ?_
  refine o_nil ?_
  refine hN1 _ _ ?_
  refine w_seq fun _ hN2 => ?_
  refine w_reg ?_
  refine stp hA (r_as hA rfl) rfl fun a hA => ?_
  refine o_nil ?_
  refine hN2 _ _ ?_
  obtain ⟨c1, hz1, Hk1⟩ := bB H
  refine w_cut (fun a w => InR .i64 c1 ∧ Fr a 36 [(0, u0), (2, (.slice none 0 0)), (3, .int .i64 c1)] ∧ Iv w0 [] μ μ [] w) ?_ ?_
  · have H := bI hz1
    refine w_seq fun _ hN3 => ?_
    refine w_reg ?_
    refine stp hA (r_mv hA rfl) rfl fun a hA => ?_
    obtain ⟨_, hsl1⟩ := Slc.sv hx0
    refine stp hA (r_slen Tryd.underlying101 hsl1 hA rfl) rfl fun a hA => 
      stp hA (r_mv hA rfl) rfl fun a hA => ?_
    refine o_nil ?_
    refine hN3 _ _ ?_
    refine w_block ?_
    obtain ⟨z1, hz2, Hk2⟩ := bind_some H
    obtain ⟨n1, hn1⟩ := loopO_some hz2
    refine w_loop (fun n a w => ∃ (s1 : Int) (s2 : Int), loopN (slices_Concat_byte_byte.s0 x0) n (s1, s2) = some z1 ∧ InR .i64 s1 ∧ InR .i64 s2 ∧ Fr a 36 [(0, u0), (2, (.slice none 0 0)), (3, .int .i64 s1), (9, u0), (10, .int .i64 (x0.length : Int)), (11, .int .i64 s2)] ∧ Iv w0 [] μ μ [] w) n1 ⟨0, 0, hn1, (in_lit .i64 0 rfl), (in_lit .i64 0 rfl), hA.sub ⟨rfl, rfl, rfl, rfl, rfl, rfl, trivial⟩, hI⟩ ?_
    clear hA hI
    rintro n a w ⟨s1, s2, hn1, ws1, ws2, hA, hI⟩
    obtain ⟨m1, rfl, H⟩ := loopN_bind hn1
    clear hn1
    refine w_seq fun _ hN4 => ?_
    refine w_reg ?_
    refine stp hA (r_lss hA rfl rfl) rfl fun a hA => ?_
    refine o_nil ?_
    refine hN4 _ _ ?_
    refine w_seq fun _ hN5 => ?_
    refine w_cond hA rfl (fun hc1 => ?_) (fun hc1 => ?_)
    · have hc10 := hc1; have hc1 := of_decide_eq_true hc1; have H := bT H hc1
      refine w_skip ?_
      refine hN5 _ _ ?_
      obtain ⟨c2, hz3, Hk3⟩ := bB H
      refine w_cut (fun a w => InR .i64 c2 ∧ Fr a 36 [(0, u0), (2, (.slice none 0 0)), (3, .int .i64 c2), (9, u0), (10, .int .i64 (x0.length : Int)), (11, .int .i64 s2), (12, .bool (decide (s2 < (x0.length : Int))))] ∧ Iv w0 [] μ μ [] w) ?_ ?_
      · have H := bI hz3
        refine w_block ?_
        refine w_seq fun _ hN6 => ?_
        refine w_reg ?_
        obtain ⟨hb1, H⟩ := bG H
        obtain ⟨_, he1, _, hat1⟩ := Slc.elem1 hx0 (getD_some [] hb1.1 hb1.2)
        obtain ⟨v1, rfl, hw1⟩ := he1
        obtain ⟨_, hsl2⟩ := Slc.sv hx0
        refine stp hA (r_six1 Tryd.underlying101 sz25 hsl2 hA rfl rfl hb1.1 hb1.2) rfl fun a hA => 
          stp hA (r_ldm1 [] [] Tryd.underlying25 rfl hI.agr hat1 hA rfl rfl) rfl fun a hA => 
          stp hA (r_as hA rfl) rfl fun a hA => ?_
        refine o_nil ?_
        refine hN6 _ _ ?_
        refine w_seq fun _ hN7 => ?_
        refine w_reg ?_
        refine stp hA (r_mv hA rfl) rfl fun a hA => 
          stp hA (r_mv hA rfl) rfl fun a hA => ?_
        obtain ⟨_, hsl3⟩ := Slc.sv hw1
        refine stp hA (r_slen Tryd.underlying25 hsl3 hA rfl) rfl fun a hA => 
          stp hA (r_add hA rfl rfl) rfl fun a hA => 
          stp hA (r_as hA rfl) rfl fun a hA => ?_
        refine o_nil ?_
        refine hN7 _ _ ?_
        refine w_seq fun _ hN8 => ?_
        refine w_reg ?_
        refine stp hA (r_mv hA rfl) rfl fun a hA => 
          stp hA (r_lss hA rfl rfl) rfl fun a hA => ?_
        refine o_nil ?_
        refine hN8 _ _ ?_
        refine w_cond hA rfl (fun hc2 => ?_) (fun hc2 => ?_)
        · have hc20 := hc2; have hc2 := of_decide_eq_true hc2; have H := bT H hc2
          exact (bN H).elim
        · have hc20 := hc2; have hc2 := of_decide_eq_false hc2; have H := bF H hc2
          refine w_skip ?_
          cases Option.some.inj (bS H)
          exact ⟨(wrap_in _ _), hA.sub ⟨rfl, rfl, rfl, rfl, rfl, rfl, rfl, trivial⟩, hI⟩
      · rintro a w ⟨wc2, hA, hI⟩
        have H := Hk3
        refine w_reg ?_
        refine stp hA (r_add hA rfl rfl) rfl fun a hA => 
          stp hA (r_mv hA rfl) rfl fun a hA => ?_
        refine o_nil ?_
        exact ⟨m1, Nat.lt_succ_self _, c2, IntKind.i64.wrap (s2 + 1), H, wc2, (wrap_in _ _), hA.sub ⟨rfl, rfl, rfl, rfl, rfl, rfl, trivial⟩, hI⟩
    · have hc10 := hc1; have hc1 := of_decide_eq_false hc1; have H := bF H hc1
      refine w_exit rfl ?_
      have H : some s1 = some z1 := H
      obtain rfl := Option.some.inj H
      have H := Hk2
      cases Option.some.inj (bS H)
      exact ⟨ws1, hA.sub ⟨rfl, rfl, rfl, trivial⟩, hI⟩
  · rintro a w ⟨wc1, hA, hI⟩
    have H := Hk1
    refine w_seq fun _ hN9 => ?_
    refine w_reg ?_
    refine stp hA (r_mv hA rfl) rfl fun a hA => ?_
    obtain ⟨r1, hr1, H⟩ := bB H
    refine o_call _ cf62 hA rfl (slices_Grow_byte_byte.c μ _ hI.agr c1 wc1 r1 hr1) rfl fun v2 a w hz4 hA => ?_
    obtain ⟨_, cs1, rfl, hE1, hi1⟩ := hz4
    have hI := hI.call hi1
    refine stp hA (r_as hA rfl) rfl fun a hA => ?_
    refine o_nil ?_
    refine hN9 _ _ ?_
    obtain ⟨c3, hz5, Hk4⟩ := bB H
    refine w_cut (fun a w => ∃ (vvc3 : Value) (ccc3 : List Value), Els (RI .u8) 1 c3 ccc3 ∧ Fr a 36 [(0, u0), (2, (.slice none 0 0)), (3, .int .i64 c1), (6, vvc3)] ∧ Iv w0 [] μ μ [row 5 1 vvc3 c3.length ccc3] w) ?_ ?_
    · have H := bI hz5
      refine w_seq fun _ hN10 => ?_
      refine w_reg ?_
      refine stp hA (r_mv hA rfl) rfl fun a hA => ?_
      obtain ⟨_, hsl4⟩ := Slc.sv hx0
      refine stp hA (r_slen Tryd.underlying101 hsl4 hA rfl) rfl fun a hA => 
        stp hA (r_mv hA rfl) rfl fun a hA => ?_
      refine o_nil ?_
      refine hN10 _ _ ?_
      refine w_block ?_
      obtain ⟨z2, hz6, Hk5⟩ := bind_some H
      obtain ⟨n2, hn2⟩ := loopO_some hz6
      refine w_loop (fun n a w => ∃ (s3 : List Int) (s4 : Int) (vvs3 : Value) (ccs3 : List Value), loopN (slices_Concat_byte_byte.s1 x0) n (s3, s4) = some z2 ∧ Els (RI .u8) 1 s3 ccs3 ∧ InR .i64 s4 ∧ Fr a 36 [(0, u0), (2, (.slice none 0 0)), (3, .int .i64 c1), (6, vvs3), (25, u0), (26, .int .i64 (x0.length : Int)), (27, .int .i64 s4)] ∧ Iv w0 [] μ μ [row 5 1 vvs3 s3.length ccs3] w) n2 ⟨r1, 0, v2, cs1, hn2, hE1, (in_lit .i64 0 rfl), hA.sub ⟨rfl, rfl, rfl, rfl, rfl, rfl, rfl, trivial⟩, hI⟩ ?_
      clear hA hI
      rintro n a w ⟨s3, s4, vvs3, ccs3, hn2, ws3, ws4, hA, hI⟩
      obtain ⟨m2, rfl, H⟩ := loopN_bind hn2
      clear hn2
      refine w_seq fun _ hN11 => ?_
      refine w_reg ?_
      refine stp hA (r_lss hA rfl rfl) rfl fun a hA => ?_
      refine o_nil ?_
      refine hN11 _ _ ?_
      refine w_seq fun _ hN12 => ?_
      refine w_cond hA rfl (fun hc3 => ?_) (fun hc3 => ?_)
      · have hc30 := hc3; have hc3 := of_decide_eq_true hc3; have H := bT H hc3
        refine w_skip ?_
        refine hN12 _ _ ?_
        refine w_seq fun _ hN13 => ?_
        refine w_block ?_
        refine w_seq fun _ hN14 => ?_
        refine w_reg ?_
        obtain ⟨hb2, H⟩ := bG H
        obtain ⟨_, he2, _, hat2⟩ := Slc.elem1 hx0 (getD_some [] hb2.1 hb2.2)
        obtain ⟨v3, rfl, hw2⟩ := he2
        obtain ⟨_, hsl5⟩ := Slc.sv hx0
        refine stp hA (r_six1 Tryd.underlying101 sz25 hsl5 hA rfl rfl hb2.1 hb2.2) rfl fun a hA => 
          stp hA (r_ldm1 [] [] Tryd.underlying25 rfl hI.agr hat2 hA rfl rfl) rfl fun a hA => 
          stp hA (r_as hA rfl) rfl fun a hA => ?_
        refine o_nil ?_
        refine hN14 _ _ ?_
        refine w_reg ?_
        refine stp hA (r_mv hA rfl) rfl fun a hA => 
          stp hA (r_mv hA rfl) rfl fun a hA => ?_
        obtain ⟨cs2, hE2, hsv1⟩ : Slc (RI .u8) 1 μ v3 (x0.getD s4.toNat []) := id (hw2)
        obtain ⟨hb3, H⟩ := bG H
        have hE3 := ws3.app hE2
        refine o_appL (xs := (s3 : List Int)) (ys := ((x0.getD s4.toNat []) : List Int)) (j := 0) te5 Tryd.underlying25 hI rfl hA rfl rfl (src_sl hI.agr hsv1 hE2.len) hE2.len (hE2.ones (one_RI _)) (by first | decide | (have hq := hb3; (try simp only [List.length_cons, List.length_nil] at hq); (try simp only [List.length_cons, List.length_nil]); (try simp only [maxLen]); omega)) (by first | decide | (have hq := hb3; (try simp only [List.length_cons, List.length_nil] at hq); (try simp only [List.length_cons, List.length_nil]); (try simp only [maxLen]); omega)) rfl fun v4 a w hA hI => 
          stp hA (r_as hA rfl) rfl fun a hA => ?_
        refine o_nil ?_
        refine hN13 _ _ ?_
        refine w_reg ?_
        refine stp hA (r_add hA rfl rfl) rfl fun a hA => 
          stp hA (r_mv hA rfl) rfl fun a hA => ?_
        refine o_nil ?_
        exact ⟨m2, Nat.lt_succ_self _, s3 ++ (x0.getD s4.toNat []), IntKind.i64.wrap (s4 + 1), v4, ccs3 ++ cs2, H, hE3, (wrap_in _ _), hA.sub ⟨rfl, rfl, rfl, rfl, rfl, rfl, rfl, trivial⟩, hI⟩
      · have hc30 := hc3; have hc3 := of_decide_eq_false hc3; have H := bF H hc3
        refine w_exit rfl ?_
        have H : some s3 = some z2 := H
        obtain rfl := Option.some.inj H
        have H := Hk5
        cases Option.some.inj (bS H)
        exact ⟨vvs3, ccs3, ws3, hA.sub ⟨rfl, rfl, rfl, rfl, trivial⟩, hI⟩
    · rintro a w ⟨vvc3, ccc3, wc3, hA, hI⟩
      have H := Hk4
      refine w_seq fun _ hN15 => ?_
      refine w_reg ?_
      refine stp hA (r_mv hA rfl) rfl fun a hA => 
        stp hA (r_as hA rfl) rfl fun a hA => ?_
      refine o_nil ?_
      refine hN15 _ _ ?_
      refine w_ret ?_
      obtain rfl := Option.some.inj (bS H)
      exact ret1 hA Tryd.results32 rfl ⟨_, rfl, vvc3, ccc3, rfl, wc3, (hI.less (Store.le.refl _) hI.le)⟩
set_option maxRecDepth 20000 in
theorem spend_Null.c (μ : Store) (w0 : World) (hμ : Agr μ w0) (r : Point) (H : spend_Null.f = some r) :
    Calls Tryd.prog 34 [].toArray w0 (fun e w' => ∃ v, e = .returned v ∧ v = .agg [av .u8 32 r.Tx, [.int .u32 r.N]].flatten.toArray ∧ PointW μ r ∧ Iv w0 [] μ μ [] w') := by
  refine enter Tryd.func34 rfl Tryd.ntmps34 rfl fun a hA => ?_
  have hI := Iv.start hμ
  have H := bI H
  refine w_seq fun _ hN1 => ?_
  refine w_reg ?_
  refine o_new [av .u8 32 (List.replicate 32 0), [.int .u32 0]] zr44 hI hA rfl fun g1 a w hA hI hg1 => ?_
  refine o_nil ?_
  refine hN1 _ _ ?_
  refine w_seq fun _ hN2 => ?_
  refine w_reg ?_
  refine stp hA (r_bldS (cs := [av .u8 32 (List.replicate 32 0), [.int .u32 4294967295]].flatten.toArray) (pl := [(0, 32), (32, 1)]) zr44 Tryd.underlying44 ⟨rfl, sz24, rfl, sz28, trivial⟩ hA rfl (by kernel_rfl)) rfl fun a hA => 
    o_st (j := 0) [] [av .u8 32 (List.replicate 32 0), [.int .u32 0]] [av .u8 32 (List.replicate 32 0), [.int .u32 4294967295]] [] sz44 rfl rfl (fl_cons (one_av _ _ _) (fl_cons (one_one rfl) fl_nil)) hI rfl hA rfl rfl rfl rfl fun w hI => ?_
  refine o_nil ?_
  refine hN2 _ _ ?_
  refine w_ret ?_
  obtain rfl := Option.some.inj (bS H)
  exact retc Tryd.underlying44 rfl sz44 rfl hI (j := 0) rfl hA Tryd.results34 rfl ⟨_, rfl, rfl, ⟨(arr_zero _ _), (in_lit .u32 4294967295 rfl)⟩, hI.forget0⟩
set_option maxRecDepth 20000 in
theorem spend_Lock.c (μ : Store) (w0 : World) (hμ : Agr μ w0) (x0 : List Int) (u0 : Value) (hx0 : Slc (RI .u8) 1 μ u0 x0) (r : List Int) (H : spend_Lock.f x0 = some r) :
    Calls Tryd.prog 39 [u0].toArray w0 (fun e w' => ∃ v, e = .returned v ∧ v = .agg [av .u8 32 r].flatten.toArray ∧ Arr .u8 32 r ∧ Iv w0 [] μ μ [] w') := by
  refine enter Tryd.func39 rfl Tryd.ntmps39 rfl fun a hA => ?_
  have hI := Iv.start hμ
  have H := bI H
  refine w_seq fun _ hN1 => ?_
  refine w_reg ?_
  refine o_new [av .u8 32 (List.replicate 32 0)] zr24 hI hA rfl fun g1 a w hA hI hg1 => ?_
  refine o_nil ?_
  refine hN1 _ _ ?_
  refine w_seq fun _ hN2 => ?_
  refine w_reg ?_
  refine stp hA (r_mv hA rfl) rfl fun a hA => ?_
  obtain ⟨r1, hr1, H⟩ := bB H
  refine o_callp (u := .agg [av .u8 32 r1].flatten.toArray) cf66 hA rfl hI (digest_Sha.c μ _ hI.agr x0 u0 hx0 r1 hr1) rfl fun a w hz1 hI hA => 
    o_st (j := 0) [] [av .u8 32 (List.replicate 32 0)] [av .u8 32 r1] [] sz24 rfl rfl (fl_cons (one_av _ _ _) fl_nil) hI rfl hA rfl rfl rfl rfl fun w hI => ?_
  refine o_nil ?_
  refine hN2 _ _ ?_
  refine w_ret ?_
  obtain rfl := Option.some.inj (bS H)
  exact retc Tryd.underlying24 rfl sz24 rfl hI (j := 0) rfl hA Tryd.results39 rfl ⟨_, rfl, rfl, hz1, hI.forget0⟩
set_option maxRecDepth 20000 in
theorem head_Bytes.c (μ : Store) (w0 : World) (hμ : Agr μ w0) (x0 : Head) (hx0 : HeadW μ x0) (r : List Int) (H : head_Bytes.f x0 = some r) :
    Calls Tryd.prog 53 [.agg [[.int .u32 x0.Version], av .u8 32 x0.Prev, av .u8 32 x0.Root, [.int .u32 x0.Time], [.int .u32 x0.Work], [.int .u32 x0.Nonce]].flatten.toArray].toArray w0 (fun e w' => ∃ v, e = .returned v ∧ ∃ (v0 : Value) (c0 : List Value), v = v0 ∧ Els (RI .u8) 1 r c0 ∧ Iv w0 [] μ μ [row 5 1 v0 r.length c0] w') := by
  refine enter Tryd.func53 rfl Tryd.ntmps53 rfl fun a hA => ?_
  have hI := Iv.start hμ
  have H := bI H
  refine w_seq fun _ hN1 => ?_
  refine w_reg ?_
  refine o_box [[.int .u32 x0.Version], av .u8 32 x0.Prev, av .u8 32 x0.Root, [.int .u32 x0.Time], [.int .u32 x0.Work], [.int .u32 x0.Nonce]] hI hA rfl rfl rfl fun g1 a w hA hI hg1 => 
    stp hA (r_as hA rfl) rfl fun a hA => ?_
  refine o_nil ?_
  refine hN1 _ _ ?_
  refine w_seq fun _ hN2 => ?_
  refine w_any [] mo hI fun w hI => ?_
  refine g_easy (i := 0) hA rfl rfl (by kernel_rfl) (.inr hI) (fun _ => r_fd (k := 0) Tryd.underlying36 rfl sz28 hA rfl rfl) rfl fun a hA => ?_
  refine g_take (i := 1) hA rfl rfl (by kernel_rfl) hI (fun w hI => r_ld1 (j := 0) [] [av .u8 32 x0.Prev, av .u8 32 x0.Root, [.int .u32 x0.Time], [.int .u32 x0.Work], [.int .u32 x0.Nonce]] Tryd.underlying28 rfl hI rfl hA rfl rfl) rfl fun a hA => ?_
  refine g_easy (i := 3) hA rfl rfl (by kernel_rfl) (.inr hI) (fun _ => r_fd (k := 1) Tryd.underlying36 rfl sz24 hA rfl rfl) rfl fun a hA => ?_
  refine g_easy (i := 4) hA rfl rfl (by kernel_rfl) (.inr hI) (fun _ => r_slv (i := 0) (j := 32) Tryd.underlying24 sz5 hA rfl rfl rfl (by decide) (by decide) (by decide) (by decide) rfl) rfl fun a hA => ?_
  refine g_easy (i := 5) hA rfl rfl (by kernel_rfl) (.inr hI) (fun _ => r_fd (k := 33) Tryd.underlying36 rfl sz24 hA rfl rfl) rfl fun a hA => ?_
  refine g_easy (i := 6) hA rfl rfl (by kernel_rfl) (.inr hI) (fun _ => r_slv (i := 0) (j := 32) Tryd.underlying24 sz5 hA rfl rfl rfl (by decide) (by decide) (by decide) (by decide) rfl) rfl fun a hA => ?_
  refine g_forced (i := 2) rfl (by kernel_rfl) ?_
  obtain ⟨r1, hr1, H⟩ := bB H
  refine o_call _ cf33 hA rfl (compact_Four.c μ _ hI.agr ([]) (.slice none 0 0) (slc_nil _ _ _) x0.Version hx0.1 r1 hr1) rfl fun v1 a w hz1 hA => ?_
  obtain ⟨_, cs1, rfl, hE1, hi1⟩ := hz1
  have hI := hI.call hi1
  refine o_nil ?_
  refine ⟨(.inr (hI.sel [1] (by decide) rfl)), ?_⟩
  refine g_forced (i := 7) rfl (by kernel_rfl) ?_
  obtain ⟨μ1, hle1, hsv1, hI, hth1⟩ := hI.freezeRowT 0 rfl
  have hS1 : Slc (RI .u8) 1 μ1 v1 r1 := ⟨_, hE1, hsv1⟩
  obtain ⟨μ2, hle2, hat1, hI, hth2⟩ := hI.freezeCelT 0 rfl
  have hS2 : Slc (RI .u8) 1 μ2 (.slice (some ⟨g1, 1, none⟩) 32 32) (x0.Prev) := slc_view0 [[.int .u32 x0.Version]] [av .u8 32 x0.Root, [.int .u32 x0.Time], [.int .u32 x0.Work], [.int .u32 x0.Nonce]] hat1 hx0.2.1 rfl (by decide)
  have hS3 : Slc (RI .u8) 1 μ2 (.slice (some ⟨g1, 33, none⟩) 32 32) (x0.Root) := slc_view0 [[.int .u32 x0.Version], av .u8 32 x0.Prev] [[.int .u32 x0.Time], [.int .u32 x0.Work], [.int .u32 x0.Nonce]] hat1 hx0.2.2.1 rfl (by decide)
  have hE2 : Els (RS (RI .u8) 1 μ2) 1 ([r1, x0.Prev, x0.Root] : List (List Int)) ([[v1]].flatten ++ ([[(.slice (some ⟨g1, 1, none⟩) 32 32)]].flatten ++ ([[(.slice (some ⟨g1, 33, none⟩) 32 32)]].flatten ++ ([])))) := (Els.cons (c := [[v1]].flatten) ⟨_, rfl, (Slc.le hS1 (fun _ _ h => h) hle2)⟩ rfl (Els.cons (c := [[(.slice (some ⟨g1, 1, none⟩) 32 32)]].flatten) ⟨_, rfl, hS2⟩ rfl (Els.cons (c := [[(.slice (some ⟨g1, 33, none⟩) 32 32)]].flatten) ⟨_, rfl, hS3⟩ rfl Els.nil)))
  refine o_bsl ([[v1]].flatten ++ ([[(.slice (some ⟨g1, 1, none⟩) 32 32)]].flatten ++ ([[(.slice (some ⟨g1, 33, none⟩) 32 32)]].flatten ++ ([])))) te25 zr25 Tryd.underlying101 hI hA rfl rfl rfl rfl ((fill_one (cells1 (Slc.le hS1 (fun _ _ h => h) hle2)) rfl (by kernel_rfl)).trans ((fill_one (cells1 hS2) rfl (by kernel_rfl)).trans ((fill_one (cells1 hS3) rfl (by kernel_rfl)).trans (by kernel_rfl)))) rfl fun g2 a w hA hI => ?_
  generalize hcs : ([[v1]].flatten ++ ([[(.slice (some ⟨g1, 1, none⟩) 32 32)]].flatten ++ ([[(.slice (some ⟨g1, 33, none⟩) 32 32)]].flatten ++ ([]))) : List Value) = cs2 at hE2 hI
  clear hcs
  refine o_nil ?_
  refine ⟨(.inr ((hth1 _ _ (hth2 _ _ hI)).sel [1] (by decide) rfl)), ?_⟩
  refine g_forced (i := 8) rfl (by kernel_rfl) ?_
  obtain ⟨r2, hr2, H⟩ := bB H
  refine o_call (fun v w' => ∃ (v0 : Value) (c0 : List Value), v = v0 ∧ Els (RI .u8) 1 r2 c0 ∧ Iv w [] μ2 μ2 [row 5 1 v0 r2.length c0] w') cf32 hA rfl ((by obtain ⟨μ3, hle3, hsv2, hI⟩ := hI.freezeRow 0 rfl; have hS4 : Slc (RS (RI .u8) 1 μ3) 1 μ3 (.slice (some ⟨g2, 0, none⟩) 3 3) ([r1, x0.Prev, x0.Root] : List (List Int)) := ⟨_, (Els.mono hE2 (fun _ _ h => RS.le (fun _ _ h => h) hle3 h)), hsv2⟩; exact (slices_Concat_byte_byte.c μ3 _ hI.agr ([r1, x0.Prev, x0.Root] : List (List Int)) (.slice (some ⟨g2, 0, none⟩) 3 3) hS4 r2 hr2).mono fun _ _ ⟨v, he, b0, b1, hv, f0, hi⟩ => ⟨v, he, b0, b1, hv, f0, hi.low hle3⟩)) rfl fun v2 a w hz2 hA => ?_
  obtain ⟨_, cs3, rfl, hE3, hi2⟩ := hz2
  have hI := hI.call hi2
  refine o_nil ?_
  refine ⟨(.inr ((hth1 _ _ (hth2 _ _ hI)).sel [1] (by decide) rfl)), ?_⟩
  refine g_easy (i := 9) hA rfl rfl (by kernel_rfl) (.inr ((hth1 _ _ (hth2 _ _ hI)).sel [1] (by decide) rfl)) (fun _ => r_as hA rfl) rfl fun a hA => ?_
  refine g_nil (by kernel_rfl) ?_
  refine hN2 _ _ ?_
  refine w_seq fun _ hN3 => ?_
  refine w_any [] mo hI fun w hI => ?_
  refine g_easy (i := 0) hA rfl rfl (by kernel_rfl) (.inr hI) (fun _ => r_mv hA rfl) rfl fun a hA => ?_
  refine g_easy (i := 1) hA rfl rfl (by kernel_rfl) (.inr hI) (fun _ => r_fd (k := 0 + 65) Tryd.underlying36 rfl sz28 hA rfl rfl) rfl fun a hA => ?_
  refine g_take (i := 2) hA rfl rfl (by kernel_rfl) hI (fun w hI => r_ldm1 [[.int .u32 x0.Version], av .u8 32 x0.Prev, av .u8 32 x0.Root] [[.int .u32 x0.Work], [.int .u32 x0.Nonce]] Tryd.underlying28 rfl hI.agr hat1 hA rfl rfl) rfl fun a hA => ?_
  refine g_easy (i := 4) hA rfl rfl (by kernel_rfl) (.inr hI) (fun _ => r_fd (k := 0 + 66) Tryd.underlying36 rfl sz28 hA rfl rfl) rfl fun a hA => ?_
  refine g_take (i := 5) hA rfl rfl (by kernel_rfl) hI (fun w hI => r_ldm1 [[.int .u32 x0.Version], av .u8 32 x0.Prev, av .u8 32 x0.Root, [.int .u32 x0.Time]] [[.int .u32 x0.Nonce]] Tryd.underlying28 rfl hI.agr hat1 hA rfl rfl) rfl fun a hA => ?_
  refine g_easy (i := 7) hA rfl rfl (by kernel_rfl) (.inr hI) (fun _ => r_fd (k := 0 + 67) Tryd.underlying36 rfl sz28 hA rfl rfl) rfl fun a hA => ?_
  refine g_take (i := 8) hA rfl rfl (by kernel_rfl) hI (fun w hI => r_ldm1 [[.int .u32 x0.Version], av .u8 32 x0.Prev, av .u8 32 x0.Root, [.int .u32 x0.Time], [.int .u32 x0.Work]] [] Tryd.underlying28 rfl hI.agr hat1 hA rfl rfl) rfl fun a hA => ?_
  refine g_forced (i := 3) rfl (by kernel_rfl) ?_
  obtain ⟨r3, hr3, H⟩ := bB H
  refine o_call (fun v w' => ∃ (v0 : Value) (c0 : List Value), v = v0 ∧ Els (RI .u8) 1 r3 c0 ∧ Iv w [] μ2 μ2 [row 5 1 v0 r3.length c0] w') cf33 hA rfl ((by obtain ⟨μ4, hle4, hsv3, hI⟩ := hI.freezeRow 0 rfl; have hS5 : Slc (RI .u8) 1 μ4 v2 r2 := ⟨_, hE3, hsv3⟩; exact (compact_Four.c μ4 _ hI.agr r2 v2 hS5 x0.Time hx0.2.2.2.1 r3 hr3).mono fun _ _ ⟨v, he, b0, b1, hv, f0, hi⟩ => ⟨v, he, b0, b1, hv, f0, hi.low hle4⟩)) rfl fun v3 a w hz3 hA => ?_
  obtain ⟨_, cs4, rfl, hE4, hi3⟩ := hz3
  have hI := hI.call hi3
  refine o_nil ?_
  refine ⟨(.inr (hI.sel [1, 2] (by decide) rfl)), ?_⟩
  refine g_forced (i := 6) rfl (by kernel_rfl) ?_
  obtain ⟨r4, hr4, H⟩ := bB H
  refine o_call (fun v w' => ∃ (v0 : Value) (c0 : List Value), v = v0 ∧ Els (RI .u8) 1 r4 c0 ∧ Iv w [] μ2 μ2 [row 5 1 v0 r4.length c0] w') cf33 hA rfl ((by obtain ⟨μ5, hle5, hsv4, hI⟩ := hI.freezeRow 0 rfl; have hS6 : Slc (RI .u8) 1 μ5 v3 r3 := ⟨_, hE4, hsv4⟩; exact (compact_Four.c μ5 _ hI.agr r3 v3 hS6 x0.Work hx0.2.2.2.2.1 r4 hr4).mono fun _ _ ⟨v, he, b0, b1, hv, f0, hi⟩ => ⟨v, he, b0, b1, hv, f0, hi.low hle5⟩)) rfl fun v4 a w hz4 hA => ?_
  obtain ⟨_, cs5, rfl, hE5, hi4⟩ := hz4
  have hI := hI.call hi4
  refine o_nil ?_
  refine ⟨(.inr (hI.sel [2, 3] (by decide) rfl)), ?_⟩
  refine g_forced (i := 9) rfl (by kernel_rfl) ?_
  obtain ⟨r5, hr5, H⟩ := bB H
  refine o_call (fun v w' => ∃ (v0 : Value) (c0 : List Value), v = v0 ∧ Els (RI .u8) 1 r5 c0 ∧ Iv w [] μ2 μ2 [row 5 1 v0 r5.length c0] w') cf33 hA rfl ((by obtain ⟨μ6, hle6, hsv5, hI⟩ := hI.freezeRow 0 rfl; have hS7 : Slc (RI .u8) 1 μ6 v4 r4 := ⟨_, hE5, hsv5⟩; exact (compact_Four.c μ6 _ hI.agr r4 v4 hS7 x0.Nonce hx0.2.2.2.2.2 r5 hr5).mono fun _ _ ⟨v, he, b0, b1, hv, f0, hi⟩ => ⟨v, he, b0, b1, hv, f0, hi.low hle6⟩)) rfl fun v5 a w hz5 hA => ?_
  obtain ⟨_, cs6, rfl, hE6, hi5⟩ := hz5
  have hI := hI.call hi5
  refine o_nil ?_
  refine ⟨(.inr (hI.sel [3, 4] (by decide) rfl)), ?_⟩
  refine g_easy (i := 10) hA rfl rfl (by kernel_rfl) (.inr (hI.sel [3, 4] (by decide) rfl)) (fun _ => r_as hA rfl) rfl fun a hA => ?_
  refine g_nil (by kernel_rfl) ?_
  refine hN3 _ _ ?_
  refine w_ret ?_
  obtain rfl := Option.some.inj (bS H)
  exact ret1 hA Tryd.results53 rfl ⟨_, rfl, v5, cs6, rfl, hE6, ((hI.sel [0] (by decide) rfl).less (Store.le.refl _) hI.le)⟩
set_option maxRecDepth 20000 in
theorem head_Check.c (μ : Store) (w0 : World) (hμ : Agr μ w0) (x0 : Head) (hx0 : HeadW μ x0) (e5 : Value) (he5 : ErS μ e5 (Er.b 6)) (r : Er) (H : head_Check.f x0 = some r) :
    Calls Tryd.prog 43 [.agg [[.int .u32 x0.Version], av .u8 32 x0.Prev, av .u8 32 x0.Root, [.int .u32 x0.Time], [.int .u32 x0.Work], [.int .u32 x0.Nonce]].flatten.toArray].toArray w0 (fun e w' => ∃ v, e = .returned v ∧ ∃ (v0 : Value) (μ' : Store), v = v0 ∧ ErS μ' v0 r ∧ Iv w0 [] μ μ' [] w') := by
  refine enter Tryd.func43 rfl Tryd.ntmps43 rfl fun a hA => ?_
  have hI := Iv.start hμ
  have H := bI H
  refine w_seq fun _ hN1 => ?_
  refine w_reg ?_
  refine o_box [[.int .u32 x0.Version], av .u8 32 x0.Prev, av .u8 32 x0.Root, [.int .u32 x0.Time], [.int .u32 x0.Work], [.int .u32 x0.Nonce]] hI hA rfl rfl rfl fun g1 a w hA hI hg1 => 
    stp hA (r_as hA rfl) rfl fun a hA => ?_
  refine o_nil ?_
  refine hN1 _ _ ?_
  refine w_seq fun _ hN2 => ?_
  obtain ⟨c1, hz1, Hk1⟩ := bB H
  refine w_cut (fun a w => Fr a 12 [(0, .agg [[.int .u32 x0.Version], av .u8 32 x0.Prev, av .u8 32 x0.Root, [.int .u32 x0.Time], [.int .u32 x0.Work], [.int .u32 x0.Nonce]].flatten.toArray), (1, .pointer (some ⟨g1, 0, none⟩)), (2, .nilIface), (10, .bool c1)] ∧ Iv w0 [] μ μ [cel g1 [[.int .u32 x0.Version], av .u8 32 x0.Prev, av .u8 32 x0.Root, [.int .u32 x0.Time], [.int .u32 x0.Work], [.int .u32 x0.Nonce]] 36] w) ?_ ?_
  · have H := bI hz1
    refine w_reg ?_
    refine stp hA (r_fd (k := 66) Tryd.underlying36 rfl sz28 hA rfl rfl) rfl fun a hA => 
      stp hA (r_ld1 (j := 0) [[.int .u32 x0.Version], av .u8 32 x0.Prev, av .u8 32 x0.Root, [.int .u32 x0.Time]] [[.int .u32 x0.Nonce]] Tryd.underlying28 rfl hI rfl hA rfl rfl) rfl fun a hA => 
      stp hA (r_eql hA rfl rfl) rfl fun a hA => 
      stp hA (r_mv hA rfl) rfl fun a hA => ?_
    rcases Bool.eq_false_or_eq_true (decide (x0.Work = 0)) with hc1 | hc1
    · have hc10 := hc1; have hc1 := of_decide_eq_true hc1; have H := bT H hc1
      refine o_no hA rfl rfl (by rw [hc10]; simp [vb]) rfl fun a hA => 
        o_no hA rfl rfl (by rw [hc10]; simp [vb]) rfl fun a hA => 
        o_no hA rfl rfl (by rw [hc10]; simp [vb]) rfl fun a hA => 
        stp hA (r_pick_t hA rfl hc10 rfl) rfl fun a hA => ?_
      refine o_nil ?_
      cases Option.some.inj (bS H)
      exact ⟨hA.sub ⟨rfl, rfl, rfl, rfl, trivial⟩, hI⟩
    · have hc10 := hc1; have hc1 := of_decide_eq_false hc1; have H := bF H hc1
      refine o_yes hA rfl rfl hc10 <| 
        stp hA (r_fd (k := 66) Tryd.underlying36 rfl sz28 hA rfl rfl) rfl fun a hA => 
        o_yes hA rfl rfl hc10 <| 
        stp hA (r_ld1 (j := 0) [[.int .u32 x0.Version], av .u8 32 x0.Prev, av .u8 32 x0.Root, [.int .u32 x0.Time]] [[.int .u32 x0.Nonce]] Tryd.underlying28 rfl hI rfl hA rfl rfl) rfl fun a hA => 
        o_yes hA rfl rfl hc10 <| 
        stp hA (r_gtr hA rfl rfl) rfl fun a hA => 
        stp hA (r_pick_f hA rfl hc10 rfl) rfl fun a hA => ?_
      refine o_nil ?_
      cases Option.some.inj (bS H)
      exact ⟨hA.sub ⟨rfl, rfl, rfl, rfl, trivial⟩, hI⟩
  · rintro a w ⟨hA, hI⟩
    have H := Hk1
    refine w_cond hA rfl (fun hc2 => ?_) (fun hc2 => ?_)
    · have hc20 := hc2; have H := bT H hc2
      refine w_seq fun _ hN3 => ?_
      refine w_reg ?_
      refine stp hA (r_ldG Tryd.underlying51 rfl hI.agr he5 hA) rfl fun a hA => 
        stp hA (r_as hA rfl) rfl fun a hA => ?_
      refine o_nil ?_
      refine hN3 _ _ ?_
      refine w_ret ?_
      obtain rfl := Option.some.inj (bS H)
      exact ret1 hA Tryd.results43 rfl ⟨_, rfl, e5, μ, rfl, he5, (hI.sel [] (by decide) rfl)⟩
    · have hc20 := hc2; have hc2 := ft hc2; have H := bF H hc2
      refine w_skip ?_
      refine hN2 _ _ ?_
      refine w_seq fun _ hN4 => ?_
      refine w_reg ?_
      refine stp hA (r_as hA rfl) rfl fun a hA => ?_
      refine o_nil ?_
      refine hN4 _ _ ?_
      refine w_ret ?_
      obtain rfl := Option.some.inj (bS H)
      exact ret1 hA Tryd.results43 rfl ⟨_, rfl, .nilIface, μ, rfl, erv_nil, (hI.sel [] (by decide) rfl)⟩
set_option maxRecDepth 20000 in
theorem spend_IsNull.c (μ : Store) (w0 : World) (hμ : Agr μ w0) (x0 : Point) (hx0 : PointW μ x0) (r : Bool) (H : spend_IsNull.f x0 = some r) :
    Calls Tryd.prog 96 [.agg [av .u8 32 x0.Tx, [.int .u32 x0.N]].flatten.toArray].toArray w0 (fun e w' => ∃ v, e = .returned v ∧ v = .bool r ∧ True ∧ Iv w0 [] μ μ [] w') := by
  refine enter Tryd.func96 rfl Tryd.ntmps96 rfl fun a hA => ?_
  have hI := Iv.start hμ
  have H := bI H
  refine w_seq fun _ hN1 => ?_
  refine w_reg ?_
  refine o_box [av .u8 32 x0.Tx, [.int .u32 x0.N]] hI hA rfl rfl rfl fun g1 a w hA hI hg1 => 
    stp hA (r_as hA rfl) rfl fun a hA => ?_
  refine o_nil ?_
  refine hN1 _ _ ?_
  refine w_seq fun _ hN2 => ?_
  refine w_any [] mo hI fun w hI => ?_
  refine g_take (i := 0) hA rfl rfl (by kernel_rfl) hI (fun w hI => r_ldA (j := 0) [] [av .u8 32 x0.Tx, [.int .u32 x0.N]] [] Tryd.underlying44 rfl sz44 rfl hI rfl hA rfl rfl) rfl fun a hA => ?_
  refine g_forced (i := 1) rfl (by kernel_rfl) ?_
  obtain ⟨r1, hr1, H⟩ := bB H
  refine o_callp (u := .agg [av .u8 32 r1.Tx, [.int .u32 r1.N]].flatten.toArray) cf34 hA rfl hI (spend_Null.c μ _ hI.agr  r1 hr1) rfl fun a w hz1 hI hA => ?_
  refine o_nil ?_
  refine ⟨(.inr hI), ?_⟩
  refine g_easy (i := 2) hA rfl rfl (by kernel_rfl) (.inr hI) (fun _ => r_eqS hA rfl rfl eg44 (eqv_struct Tryd.underlying44 sh44 (eqf_cons (by decide) (partA [] [av .u8 32 x0.Tx] [[.int .u32 x0.N]] Tryd.underlying24 rfl sz24 rfl rfl) (partA [] [av .u8 32 r1.Tx] [[.int .u32 r1.N]] Tryd.underlying24 rfl sz24 rfl rfl) (eqv_arr Tryd.underlying24 Tryd.underlying5 sz5 hx0.1 hz1.1) (eqf_last (by decide) (part1 [av .u8 32 x0.Tx] [] Tryd.underlying28 rfl rfl) (part1 [av .u8 32 r1.Tx] [] Tryd.underlying28 rfl rfl) (eqv_int Tryd.underlying28))))) rfl fun a hA => ?_
  refine g_easy (i := 3) hA rfl rfl (by kernel_rfl) (.inr hI) (fun _ => r_as hA rfl) rfl fun a hA => ?_
  refine g_nil (by kernel_rfl) ?_
  refine hN2 _ _ ?_
  refine w_ret ?_
  obtain rfl := Option.some.inj (bS H)
  exact ret1 hA Tryd.results96 rfl ⟨_, rfl, rfl, trivial, hI.forget0⟩
set_option maxRecDepth 20000 in
theorem head_Take.c (μ : Store) (w0 : World) (hμ : Agr μ w0) (x0 : compactReader) (vp1 : Value) (vp2 : Value) (g0 : Nat) (hp1 : Slc (RI .u8) 1 μ vp1 x0.b) (hp2 : InR .i64 x0.at_) (hp3 : ErS μ vp2 x0.err) (ho0 : Its μ w0 [cel g0 [[vp1], [.int .i64 x0.at_], [vp2]] 121]) (e9 : Value) (he9 : ErS μ e9 (Er.b 10)) (r : Head × compactReader) (H : head_Take.f x0 = some r) :
    Calls Tryd.prog 56 [.pointer (some ⟨g0, 0, none⟩)].toArray w0 (fun e w' => ∃ v, e = .returned v ∧ ∃ (vp_1 : Value) (vp_2 : Value) (μ' : Store), v = .agg [[.int .u32 ((r.1).Version)], av .u8 32 ((r.1).Prev), av .u8 32 ((r.1).Root), [.int .u32 ((r.1).Time)], [.int .u32 ((r.1).Work)], [.int .u32 ((r.1).Nonce)]].flatten.toArray ∧ HeadW μ (r.1) ∧ Slc (RI .u8) 1 μ' vp_1 (r.2).b ∧ InR .i64 (r.2).at_ ∧ ErS μ' vp_2 (r.2).err ∧ Iv w0 (many [cel g0 [[vp1], [.int .i64 x0.at_], [vp2]] 121]).foot μ μ' [cel g0 [[vp_1], [.int .i64 ((r.2).at_)], [vp_2]] 121] w') := by
  refine enter Tryd.func56 rfl Tryd.ntmps56 rfl fun a hA => ?_
  have hI := Iv.startN hμ ho0
  have H := bI H
  refine w_seq fun _ hN1 => ?_
  refine w_reg ?_
  refine o_new [[.int .u32 0], av .u8 32 (List.replicate 32 0), av .u8 32 (List.replicate 32 0), [.int .u32 0], [.int .u32 0], [.int .u32 0]] zr36 hI hA rfl fun g1 a w hA hI hg1 => ?_
  refine o_nil ?_
  refine hN1 _ _ ?_
  refine w_seq fun _ hN2 => ?_
  refine w_reg ?_
  refine stp hA (r_mv hA rfl) rfl fun a hA => ?_
  obtain ⟨r1, hr1, H⟩ := bB H
  have hI := hI.sel [1, 0] (by decide) rfl
  refine o_call _ cf79 hA rfl (compact_Reader_Four.c μ _ hI.agr x0 vp1 vp2 g0 hp1 hp2 hp3 (hI.handN 1) e9 he9 r1 hr1) rfl fun v1 a w hz1 hA => ?_
  obtain ⟨vp3, vp4, μ1, rfl, hw1, hp4, hp5, hp6, hi1⟩ := hz1
  have hI := hI.backN 1 hi1
  have hI : Iv w0 (many [cel g0 [[vp1], [.int .i64 x0.at_], [vp2]] 121]).foot μ μ1 [cel g0 [[vp3], [.int .i64 r1.2.at_], [vp4]] 121, cel g1 [[.int .u32 0], av .u8 32 (List.replicate 32 0), av .u8 32 (List.replicate 32 0), [.int .u32 0], [.int .u32 0], [.int .u32 0]] 36] w := hI
  refine stp hA (r_bldS (cs := [[.int .u32 r1.1], av .u8 32 (List.replicate 32 0), av .u8 32 (List.replicate 32 0), [.int .u32 0], [.int .u32 0], [.int .u32 0]].flatten.toArray) (pl := [(0, 1), (1, 32), (33, 32), (65, 1), (66, 1), (67, 1)]) zr36 Tryd.underlying36 ⟨rfl, sz28, rfl, sz24, rfl, sz24, rfl, sz28, rfl, sz28, rfl, sz28, trivial⟩ hA rfl (by kernel_rfl)) rfl fun a hA => 
    o_new [[.int .u32 0], av .u8 32 (List.replicate 32 0), av .u8 32 (List.replicate 32 0), [.int .u32 0], [.int .u32 0], [.int .u32 0]] zr36 hI hA rfl fun g2 a w hA hI hg2 => 
    o_st (j := 0) [] [[.int .u32 0], av .u8 32 (List.replicate 32 0), av .u8 32 (List.replicate 32 0), [.int .u32 0], [.int .u32 0], [.int .u32 0]] [[.int .u32 r1.1], av .u8 32 (List.replicate 32 0), av .u8 32 (List.replicate 32 0), [.int .u32 0], [.int .u32 0], [.int .u32 0]] [] sz36 rfl rfl (fl_cons (one_one rfl) (fl_cons (one_av _ _ _) (fl_cons (one_av _ _ _) (fl_cons (one_one rfl) (fl_cons (one_one rfl) (fl_cons (one_one rfl) fl_nil)))))) hI rfl hA rfl rfl rfl rfl fun w hI => ?_
  refine o_nil ?_
  refine hN2 _ _ ?_
  refine w_seq fun _ hN3 => ?_
  refine w_reg ?_
  refine stp hA (r_mv hA rfl) rfl fun a hA => ?_
  obtain ⟨r2, hr2, H⟩ := bB H
  have hI := hI.sel [1, 0, 2] (by decide) rfl
  refine o_call _ cf80 hA rfl (compact_Reader_Hash.c μ1 _ hI.agr r1.2 vp3 vp4 g0 hp4 hp5 hp6 (hI.handN 1) e9 (ErV.le (fun _ _ h => h) hi1.le he9) r2 hr2) rfl fun v2 a w hz2 hA => ?_
  obtain ⟨vp5, vp6, μ2, rfl, hw2, hp7, hp8, hp9, hi2⟩ := hz2
  have hI := hI.backN 1 hi2
  have hI : Iv w0 (many [cel g0 [[vp1], [.int .i64 x0.at_], [vp2]] 121]).foot μ μ2 [cel g0 [[vp5], [.int .i64 r2.2.at_], [vp6]] 121, cel g2 [[.int .u32 r1.1], av .u8 32 (List.replicate 32 0), av .u8 32 (List.replicate 32 0), [.int .u32 0], [.int .u32 0], [.int .u32 0]] 36, cel g1 [[.int .u32 0], av .u8 32 (List.replicate 32 0), av .u8 32 (List.replicate 32 0), [.int .u32 0], [.int .u32 0], [.int .u32 0]] 36] w := hI
  refine stp hA (r_fd (k := 1) Tryd.underlying36 rfl sz24 hA rfl rfl) rfl fun a hA => 
    o_st (j := 1) [[.int .u32 r1.1]] [av .u8 32 (List.replicate 32 0)] [av .u8 32 r2.1] [av .u8 32 (List.replicate 32 0), [.int .u32 0], [.int .u32 0], [.int .u32 0]] sz24 rfl rfl (fl_cons (one_av _ _ _) fl_nil) hI rfl hA rfl rfl rfl rfl fun w hI => ?_
  refine o_nil ?_
  refine hN3 _ _ ?_
  refine w_seq fun _ hN4 => ?_
  refine w_reg ?_
  refine stp hA (r_mv hA rfl) rfl fun a hA => ?_
  obtain ⟨r3, hr3, H⟩ := bB H
  refine o_call _ cf80 hA rfl (compact_Reader_Hash.c μ2 _ hI.agr r2.2 vp5 vp6 g0 hp7 hp8 hp9 (hI.handN 1) e9 (ErV.le (fun _ _ h => h) (hi1.le.trans hi2.le) he9) r3 hr3) rfl fun v3 a w hz3 hA => ?_
  obtain ⟨vp7, vp8, μ3, rfl, hw3, hp10, hp11, hp12, hi3⟩ := hz3
  have hI := hI.backN 1 hi3
  have hI : Iv w0 (many [cel g0 [[vp1], [.int .i64 x0.at_], [vp2]] 121]).foot μ μ3 [cel g0 [[vp7], [.int .i64 r3.2.at_], [vp8]] 121, cel g2 [[.int .u32 r1.1], av .u8 32 r2.1, av .u8 32 (List.replicate 32 0), [.int .u32 0], [.int .u32 0], [.int .u32 0]] 36, cel g1 [[.int .u32 0], av .u8 32 (List.replicate 32 0), av .u8 32 (List.replicate 32 0), [.int .u32 0], [.int .u32 0], [.int .u32 0]] 36] w := hI
  refine stp hA (r_fd (k := 33) Tryd.underlying36 rfl sz24 hA rfl rfl) rfl fun a hA => 
    o_st (j := 1) [[.int .u32 r1.1], av .u8 32 r2.1] [av .u8 32 (List.replicate 32 0)] [av .u8 32 r3.1] [[.int .u32 0], [.int .u32 0], [.int .u32 0]] sz24 rfl rfl (fl_cons (one_av _ _ _) fl_nil) hI rfl hA rfl rfl rfl rfl fun w hI => ?_
  refine o_nil ?_
  refine hN4 _ _ ?_
  refine w_seq fun _ hN5 => ?_
  refine w_reg ?_
  refine stp hA (r_mv hA rfl) rfl fun a hA => ?_
  obtain ⟨r4, hr4, H⟩ := bB H
  refine o_call _ cf79 hA rfl (compact_Reader_Four.c μ3 _ hI.agr r3.2 vp7 vp8 g0 hp10 hp11 hp12 (hI.handN 1) e9 (ErV.le (fun _ _ h => h) ((hi1.le.trans hi2.le).trans hi3.le) he9) r4 hr4) rfl fun v4 a w hz4 hA => ?_
  obtain ⟨vp9, vp10, μ4, rfl, hw4, hp13, hp14, hp15, hi4⟩ := hz4
  have hI := hI.backN 1 hi4
  have hI : Iv w0 (many [cel g0 [[vp1], [.int .i64 x0.at_], [vp2]] 121]).foot μ μ4 [cel g0 [[vp9], [.int .i64 r4.2.at_], [vp10]] 121, cel g2 [[.int .u32 r1.1], av .u8 32 r2.1, av .u8 32 r3.1, [.int .u32 0], [.int .u32 0], [.int .u32 0]] 36, cel g1 [[.int .u32 0], av .u8 32 (List.replicate 32 0), av .u8 32 (List.replicate 32 0), [.int .u32 0], [.int .u32 0], [.int .u32 0]] 36] w := hI
  refine stp hA (r_fd (k := 65) Tryd.underlying36 rfl sz28 hA rfl rfl) rfl fun a hA => 
    o_st (j := 1) [[.int .u32 r1.1], av .u8 32 r2.1, av .u8 32 r3.1] [[.int .u32 0]] [[.int .u32 r4.1]] [[.int .u32 0], [.int .u32 0]] sz28 rfl rfl (fl_cons (one_one rfl) fl_nil) hI rfl hA rfl rfl rfl rfl fun w hI => ?_
  refine o_nil ?_
  refine hN5 _ _ ?_
  refine w_seq fun _ hN6 => ?_
  refine w_reg ?_
  refine stp hA (r_mv hA rfl) rfl fun a hA => ?_
  obtain ⟨r5, hr5, H⟩ := bB H
  refine o_call _ cf79 hA rfl (compact_Reader_Four.c μ4 _ hI.agr r4.2 vp9 vp10 g0 hp13 hp14 hp15 (hI.handN 1) e9 (ErV.le (fun _ _ h => h) (((hi1.le.trans hi2.le).trans hi3.le).trans hi4.le) he9) r5 hr5) rfl fun v5 a w hz5 hA => ?_
  obtain ⟨vp11, vp12, μ5, rfl, hw5, hp16, hp17, hp18, hi5⟩ := hz5
  have hI := hI.backN 1 hi5
  have hI : Iv w0 (many [cel g0 [[vp1], [.int .i64 x0.at_], [vp2]] 121]).foot μ μ5 [cel g0 [[vp11], [.int .i64 r5.2.at_], [vp12]] 121, cel g2 [[.int .u32 r1.1], av .u8 32 r2.1, av .u8 32 r3.1, [.int .u32 r4.1], [.int .u32 0], [.int .u32 0]] 36, cel g1 [[.int .u32 0], av .u8 32 (List.replicate 32 0), av .u8 32 (List.replicate 32 0), [.int .u32 0], [.int .u32 0], [.int .u32 0]] 36] w := hI
  refine stp hA (r_fd (k := 66) Tryd.underlying36 rfl sz28 hA rfl rfl) rfl fun a hA => 
    o_st (j := 1) [[.int .u32 r1.1], av .u8 32 r2.1, av .u8 32 r3.1, [.int .u32 r4.1]] [[.int .u32 0]] [[.int .u32 r5.1]] [[.int .u32 0]] sz28 rfl rfl (fl_cons (one_one rfl) fl_nil) hI rfl hA rfl rfl rfl rfl fun w hI => ?_
  refine o_nil ?_
  refine hN6 _ _ ?_
  refine w_seq fun _ hN7 => ?_
  refine w_reg ?_
  refine stp hA (r_mv hA rfl) rfl fun a hA => ?_
  obtain ⟨r6, hr6, H⟩ := bB H
  refine o_call _ cf79 hA rfl (compact_Reader_Four.c μ5 _ hI.agr r5.2 vp11 vp12 g0 hp16 hp17 hp18 (hI.handN 1) e9 (ErV.le (fun _ _ h => h) ((((hi1.le.trans hi2.le).trans hi3.le).trans hi4.le).trans hi5.le) he9) r6 hr6) rfl fun v6 a w hz6 hA => ?_
  obtain ⟨vp13, vp14, μ6, rfl, hw6, hp19, hp20, hp21, hi6⟩ := hz6
  have hI := hI.backN 1 hi6
  have hI : Iv w0 (many [cel g0 [[vp1], [.int .i64 x0.at_], [vp2]] 121]).foot μ μ6 [cel g0 [[vp13], [.int .i64 r6.2.at_], [vp14]] 121, cel g2 [[.int .u32 r1.1], av .u8 32 r2.1, av .u8 32 r3.1, [.int .u32 r4.1], [.int .u32 r5.1], [.int .u32 0]] 36, cel g1 [[.int .u32 0], av .u8 32 (List.replicate 32 0), av .u8 32 (List.replicate 32 0), [.int .u32 0], [.int .u32 0], [.int .u32 0]] 36] w := hI
  refine stp hA (r_fd (k := 67) Tryd.underlying36 rfl sz28 hA rfl rfl) rfl fun a hA => 
    o_st (j := 1) [[.int .u32 r1.1], av .u8 32 r2.1, av .u8 32 r3.1, [.int .u32 r4.1], [.int .u32 r5.1]] [[.int .u32 0]] [[.int .u32 r6.1]] [] sz28 rfl rfl (fl_cons (one_one rfl) fl_nil) hI rfl hA rfl rfl rfl rfl fun w hI => ?_
  refine o_nil ?_
  refine hN7 _ _ ?_
  refine w_seq fun _ hN8 => ?_
  refine w_seq fun _ hN9 => ?_
  refine w_reg ?_
  refine stp hA (r_mv hA rfl) rfl fun a hA => ?_
  obtain ⟨r7, hr7, H⟩ := bB H
  refine o_call _ cf59 hA rfl (compact_Reader_Err.c μ6 _ hI.agr r6.2 vp13 vp14 g0 hp19 hp20 hp21 (hI.handN 1) r7 hr7) rfl fun v7 a w hz7 hA => ?_
  obtain ⟨_, μ7, rfl, hS1, hi7⟩ := hz7
  have hI := hI.backN 1 hi7
  have hI : Iv w0 (many [cel g0 [[vp1], [.int .i64 x0.at_], [vp2]] 121]).foot μ μ7 [cel g0 [[vp13], [.int .i64 r6.2.at_], [vp14]] 121, cel g2 [[.int .u32 r1.1], av .u8 32 r2.1, av .u8 32 r3.1, [.int .u32 r4.1], [.int .u32 r5.1], [.int .u32 r6.1]] 36, cel g1 [[.int .u32 0], av .u8 32 (List.replicate 32 0), av .u8 32 (List.replicate 32 0), [.int .u32 0], [.int .u32 0], [.int .u32 0]] 36] w := hI
  refine stp hA (r_neE erF hI.agr hS1 erv_nil (.inl ⟨.inr ⟨_, rfl⟩, Er.fitR⟩) hA rfl rfl) rfl fun a hA => ?_
  refine o_nil ?_
  refine hN9 _ _ ?_
  refine w_cond hA rfl (fun hc1 => ?_) (fun hc1 => ?_)
  · have hc10 := hc1; have hc1 := of_decide_eq_true hc1; have H := bT H hc1
    refine w_seq fun _ hN10 => ?_
    refine w_reg ?_
    refine stp hA (r_bldS (cs := [[.int .u32 0], av .u8 32 (List.replicate 32 0), av .u8 32 (List.replicate 32 0), [.int .u32 0], [.int .u32 0], [.int .u32 0]].flatten.toArray) (pl := [(0, 1), (1, 32), (33, 32), (65, 1), (66, 1), (67, 1)]) zr36 Tryd.underlying36 ⟨rfl, sz28, rfl, sz24, rfl, sz24, rfl, sz28, rfl, sz28, rfl, sz28, trivial⟩ hA rfl (by kernel_rfl)) rfl fun a hA => 
      o_st (j := 2) [] [[.int .u32 0], av .u8 32 (List.replicate 32 0), av .u8 32 (List.replicate 32 0), [.int .u32 0], [.int .u32 0], [.int .u32 0]] [[.int .u32 0], av .u8 32 (List.replicate 32 0), av .u8 32 (List.replicate 32 0), [.int .u32 0], [.int .u32 0], [.int .u32 0]] [] sz36 rfl rfl (fl_cons (one_one rfl) (fl_cons (one_av _ _ _) (fl_cons (one_av _ _ _) (fl_cons (one_one rfl) (fl_cons (one_one rfl) (fl_cons (one_one rfl) fl_nil)))))) hI rfl hA rfl rfl rfl rfl fun w hI => ?_
    refine o_nil ?_
    refine hN10 _ _ ?_
    refine w_ret ?_
    obtain rfl := Option.some.inj (bS H)
    exact retc Tryd.underlying36 rfl sz36 rfl hI (j := 2) rfl hA Tryd.results56 rfl ⟨_, rfl, vp13, vp14, μ7, rfl, ⟨(in_lit .u32 0 rfl), (arr_zero _ _), (arr_zero _ _), (in_lit .u32 0 rfl), (in_lit .u32 0 rfl), (in_lit .u32 0 rfl)⟩, (Slc.le hp19 (fun _ _ h => h) hi7.le), hp20, (ErV.le (fun _ _ h => h) hi7.le hp21), (hI.sel [0] (by decide) rfl)⟩
  · have hc10 := hc1; have hc1 := of_decide_eq_false hc1; have H := bF H hc1
    refine w_skip ?_
    refine hN8 _ _ ?_
    refine w_seq fun _ hN11 => ?_
    refine w_reg ?_
    refine stp hA (r_ldA (j := 1) [] [[.int .u32 r1.1], av .u8 32 r2.1, av .u8 32 r3.1, [.int .u32 r4.1], [.int .u32 r5.1], [.int .u32 r6.1]] [] Tryd.underlying36 rfl sz36 rfl hI rfl hA rfl rfl) rfl fun a hA => 
      o_st (j := 2) [] [[.int .u32 0], av .u8 32 (List.replicate 32 0), av .u8 32 (List.replicate 32 0), [.int .u32 0], [.int .u32 0], [.int .u32 0]] [[.int .u32 r1.1], av .u8 32 r2.1, av .u8 32 r3.1, [.int .u32 r4.1], [.int .u32 r5.1], [.int .u32 r6.1]] [] sz36 rfl rfl (fl_cons (one_one rfl) (fl_cons (one_av _ _ _) (fl_cons (one_av _ _ _) (fl_cons (one_one rfl) (fl_cons (one_one rfl) (fl_cons (one_one rfl) fl_nil)))))) hI rfl hA rfl rfl rfl rfl fun w hI => ?_
    refine o_nil ?_
    refine hN11 _ _ ?_
    refine w_ret ?_
    obtain rfl := Option.some.inj (bS H)
    exact retc Tryd.underlying36 rfl sz36 rfl hI (j := 2) rfl hA Tryd.results56 rfl ⟨_, rfl, vp13, vp14, μ7, rfl, ⟨hw1, hw2, hw3, hw4, hw5, hw6⟩, (Slc.le hp19 (fun _ _ h => h) hi7.le), hp20, (ErV.le (fun _ _ h => h) hi7.le hp21), (hI.sel [0] (by decide) rfl)⟩
end Go.Proofs.YtlpggofilkfbnaaDoor.T
namespace Go.Proofs.YtlpggofilkfbnaaDoor.T
open Go Go.Proofs Go.Proofs.YtlpggofilkfbnaaDoor.K
set_option linter.unusedVariables false
set_option linter.unusedSimpArgs false
noncomputable def merkle_pair.f (x0 : List Int) (x1 : List Int) : Option (List Int) := ((slices_Concat_byte_byte.f ([x0, x1] : List (List Int))).bind fun r1 => ((digest_Twice.f r1).bind fun r2 => some r2))
noncomputable def merkle_other.f (x0 : Int) (x1 : List (List Int)) : Option (List Int) := (if 0 ≤ iMin (bXor .i64 x0 1) (IntKind.i64.wrap ((x1.length : Int) - 1)) ∧ iMin (bXor .i64 x0 1) (IntKind.i64.wrap ((x1.length : Int) - 1)) < (x1.length : Int) then some (x1.getD (iMin (bXor .i64 x0 1) (IntKind.i64.wrap ((x1.length : Int) - 1))).toNat []) else none)
noncomputable def merkle_up.s0 (x0 : List (List Int)) : ((List (List Int)) × Int) → Option (((List (List Int)) × Int) ⊕ (List (List Int))) := fun (s1, s2) => (if s2 < (x0.length : Int) then (if 0 ≤ s2 ∧ s2 < (x0.length : Int) then ((merkle_other.f s2 x0).bind fun r1 => ((merkle_pair.f (x0.getD s2.toNat []) r1).bind fun r2 => (if s1.length + 1 ≤ 4398046511104 then some (.inl (s1 ++ ([r2] : List (List Int)), IntKind.i64.wrap (s2 + 2))) else none))) else none) else some (.inr s1))
noncomputable def merkle_up.f (x0 : List (List Int)) : Option (List (List Int)) := ((loopO (merkle_up.s0 x0) ([], 0)).bind fun c1 => some c1)
noncomputable def merkle_Root.s0 : (List (List Int)) → Option ((List (List Int)) ⊕ (List (List Int))) := fun s1 => (if 1 < (s1.length : Int) then ((merkle_up.f s1).bind fun r1 => some (.inl r1)) else some (.inr s1))
noncomputable def merkle_Root.f (x0 : List (List Int)) : Option (List Int) := (if (x0.length : Int) = 0 then some ([0, 0, 0, 0, 0, 0, 0, 0, 0, 0, 0, 0, 0, 0, 0, 0, 0, 0, 0, 0, 0, 0, 0, 0, 0, 0, 0, 0, 0, 0, 0, 0]) else ((loopO (merkle_Root.s0) x0).bind fun c1 => (if 0 < (c1.length : Int) then some (c1.getD (0 : Int).toNat []) else none)))
end Go.Proofs.YtlpggofilkfbnaaDoor.T
