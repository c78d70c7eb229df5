/- A helper of this seat's claims: printed by gen.py. It proves no statement by itself. -/
import Derived.Test.YtnbnnphlffhgiaaC1
import Derived.Test.YtnbnnphlffhgiaaF2
namespace Go.Proofs.Ytnbnnphlffhgiaa.T
open Go Go.Proofs Go.Proofs.Ytnbnnphlffhgiaa.K
set_option linter.unusedVariables false
set_option linter.unusedSimpArgs false
/-! bytes.Clone: function 88 -/
set_option maxRecDepth 20000 in
theorem bytes_Clone.c (μ : Store) (w0 : World) (hμ : Agr μ w0) (x0 : List Int) (u0 : Value) (hx0 : Slc (RI .u8) 1 μ u0 x0) (r : List Int) (H : bytes_Clone.f x0 = some r) :
    Calls Try.prog 88 [u0].toArray w0 (fun e w' => ∃ v, e = .returned v ∧ ∃ (v0 : Value) (c0 : List Value), v = v0 ∧ Els (RI .u8) 1 r c0 ∧ Iv w0 [] μ μ [row 5 1 v0 r.length c0] w') := by
  obtain ⟨hb, H⟩ := guard_some H
  obtain rfl := Option.some.inj H
  obtain ⟨cs, hE, A, cp, rfl, h2, h3, h4, h5⟩ := hx0
  refine enter Try.func88 rfl Try.ntmps88 rfl fun a hA => ?_
  have hI := Iv.start hμ
  refine w_seq fun _ hN1 => w_reg (stp hA (r_as hA rfl) rfl fun a hA => o_nil (hN1 _ _ ?_))
  refine w_seq fun _ hN2 => w_seq fun _ hN3 => w_reg (stp hA (r_mv hA rfl) rfl fun a hA => stp hA (r_eqnil Try.underlying22 hA rfl rfl) rfl fun a hA => o_nil (hN3 _ _ ?_))
  refine w_cond hA rfl (fun hc => ?_) (fun hc => ?_)
  · have hx : x0 = [] := List.eq_nil_of_length_eq_zero (by
      rcases Nat.eq_zero_or_pos x0.length with h | h
      · exact h
      · rw [h4 (by omega)] at hc; cases hc)
    subst hx
    cases hE
    refine w_seq fun _ hN4 => w_reg (stp hA (r_as hA rfl) rfl fun a hA => o_nil (hN4 _ _ ?_))
    refine w_ret ?_
    have hI := hI.nilRow 5 1
    exact ret1 hA Try.results88 rfl ⟨_, rfl, .slice none 0 0, [], rfl, .nil, hI⟩
  · refine w_skip (hN2 _ _ ?_)
    refine w_seq fun _ hN5 => w_reg ?_
    refine o_bsl [] te5 zr5 Try.underlying22 hI hA rfl rfl rfl rfl (by kernel_rfl) rfl fun g a w hA hI => ?_
    refine stp hA (r_mv hA rfl) rfl fun a hA => ?_
    refine o_appL (xs := ([] : List Int)) (ys := x0) (j := 0) te5 Try.underlying22 hI rfl hA rfl rfl (src_sl hI.agr ⟨A, cp, rfl, h2, h3, h4, h5⟩ hE.len) hE.len (hE.ones (one_RI _)) (by simp only [List.length_nil, maxLen]; omega) (by simp only [List.length_nil]; omega) rfl fun v a w hA hI => ?_
    refine stp hA (r_as hA rfl) rfl fun a hA => o_nil (hN5 _ _ (w_ret ?_))
    exact ret1 hA Try.results88 rfl ⟨_, rfl, v, cs, rfl, hE, hI⟩

/-! compact.Len: function 47 -/
set_option maxRecDepth 20000 in
theorem compact_Len.c (μ : Store) (w0 : World) (hμ : Agr μ w0) (x0 : Int) (hx0 : InR .u64 x0) (r : Int) (H : compact_Len.f x0 = some r) :
    Calls Try.prog 47 [.int .u64 x0].toArray w0 (fun e w' => ∃ v, e = .returned v ∧ v = .int .i64 r ∧ InR .i64 r ∧ Iv w0 [] μ μ [] w') := by
  refine enter Try.func47 rfl Try.ntmps47 rfl fun a hA => ?_
  have hI := Iv.start hμ
  have H := bI H
  refine w_seq fun _ hN1 => ?_
  refine w_reg ?_
  refine stp hA (r_as hA rfl) rfl fun a hA => ?_
  refine o_nil ?_
  refine hN1 _ _ ?_
  refine w_seq fun _ hN2 => ?_
  refine w_block ?_
  refine w_seq fun _ hN3 => ?_
  refine w_reg ?_
  refine stp hA (r_mv hA rfl) rfl fun a hA => 
    stp hA (r_lss hA rfl rfl) rfl fun a hA => 
    stp hA (r_as hA rfl) rfl fun a hA => ?_
  refine o_nil ?_
  refine hN3 _ _ ?_
  refine w_cond hA rfl (fun hc1 => ?_) (fun hc1 => ?_)
  · have hc10 := hc1; have hc1 := of_decide_eq_true hc1; have H := bT H hc1
    refine w_seq fun _ hN4 => ?_
    refine w_reg ?_
    refine stp hA (r_as hA rfl) rfl fun a hA => ?_
    refine o_nil ?_
    refine hN4 _ _ ?_
    refine w_ret ?_
    obtain rfl := Option.some.inj (bS H)
    exact ret1 hA Try.results47 rfl ⟨_, rfl, rfl, (in_lit .i64 1 rfl), hI.forget0⟩
  · have hc10 := hc1; have hc1 := of_decide_eq_false hc1; have H := bF H hc1
    refine w_seq fun _ hN5 => ?_
    refine w_reg ?_
    refine stp hA (r_mv hA rfl) rfl fun a hA => 
      stp hA (r_lss hA rfl rfl) rfl fun a hA => 
      stp hA (r_as hA rfl) rfl fun a hA => ?_
    refine o_nil ?_
    refine hN5 _ _ ?_
    refine w_cond hA rfl (fun hc2 => ?_) (fun hc2 => ?_)
    · have hc20 := hc2; have hc2 := of_decide_eq_true hc2; have H := bT H hc2
      refine w_seq fun _ hN6 => ?_
      refine w_reg ?_
      refine stp hA (r_as hA rfl) rfl fun a hA => ?_
      refine o_nil ?_
      refine hN6 _ _ ?_
      refine w_ret ?_
      obtain rfl := Option.some.inj (bS H)
      exact ret1 hA Try.results47 rfl ⟨_, rfl, rfl, (in_lit .i64 3 rfl), hI.forget0⟩
    · have hc20 := hc2; have hc2 := of_decide_eq_false hc2; have H := bF H hc2
      refine w_seq fun _ hN7 => ?_
      refine w_reg ?_
      refine stp hA (r_mv hA rfl) rfl fun a hA => 
        stp hA (r_lss hA rfl rfl) rfl fun a hA => 
        stp hA (r_as hA rfl) rfl fun a hA => ?_
      refine o_nil ?_
      refine hN7 _ _ ?_
      refine w_cond hA rfl (fun hc3 => ?_) (fun hc3 => ?_)
      · have hc30 := hc3; have hc3 := of_decide_eq_true hc3; have H := bT H hc3
        refine w_seq fun _ hN8 => ?_
        refine w_reg ?_
        refine stp hA (r_as hA rfl) rfl fun a hA => ?_
        refine o_nil ?_
        refine hN8 _ _ ?_
        refine w_ret ?_
        obtain rfl := Option.some.inj (bS H)
        exact ret1 hA Try.results47 rfl ⟨_, rfl, rfl, (in_lit .i64 5 rfl), hI.forget0⟩
      · have hc30 := hc3; have hc3 := of_decide_eq_false hc3; have H := bF H hc3
        refine w_skip ?_
        refine hN2 _ _ ?_
        refine w_seq fun _ hN9 => ?_
        refine w_reg ?_
        refine stp hA (r_as hA rfl) rfl fun a hA => ?_
        refine o_nil ?_
        refine hN9 _ _ ?_
        refine w_ret ?_
        obtain rfl := Option.some.inj (bS H)
        exact ret1 hA Try.results47 rfl ⟨_, rfl, rfl, (in_lit .i64 9 rfl), hI.forget0⟩

/-! compact.number: function 92 -/
set_option maxRecDepth 20000 in
theorem compact_number.c (μ : Store) (w0 : World) (hμ : Agr μ w0) (x0 : List Int) (u0 : Value) (k0 : List Value) (hx0 : Els (RI .u8) 1 x0 k0) (ho0 : RowOK μ w0 5 1 u0 x0.length k0) (x1 : Int) (hx1 : InR .u64 x1) (x2 : Int) (hx2 : InR .i64 x2) (r : List Int) (H : compact_number.f x0 x1 x2 = some r) :
    Calls Try.prog 92 [u0, .int .u64 x1, .int .i64 x2].toArray w0 (fun e w' => ∃ v, e = .returned v ∧ ∃ (v0 : Value) (c0 : List Value), v = v0 ∧ Els (RI .u8) 1 r c0 ∧ Iv w0 (row 5 1 u0 x0.length k0).foot μ μ [row 5 1 v0 r.length c0] w') := by
  refine enter Try.func92 rfl Try.ntmps92 rfl fun a hA => ?_
  have hI := ho0.start hμ
  have H := bI H
  refine w_seq fun _ hN1 => ?_
  refine w_reg ?_
  refine stp hA (r_as hA rfl) rfl fun a hA => ?_
  refine o_nil ?_
  refine hN1 _ _ ?_
  obtain ⟨⟨c1, c2⟩, hz1, Hk1⟩ := bB H
  refine w_cut (fun a w => ∃ (vvc1 : Value) (ccc1 : List Value), Els (RI .u8) 1 c1 ccc1 ∧ InR .u64 c2 ∧ Fr a 19 [(0, vvc1), (1, .int .u64 c2), (2, .int .i64 x2), (6, (.slice none 0 0))] ∧ Iv w0 (row 5 1 u0 x0.length k0).foot μ μ [row 5 1 vvc1 c1.length ccc1] w) ?_ ?_
  · have H := bI hz1
    refine w_seq fun _ hN2 => ?_
    refine w_reg ?_
    refine stp hA (r_mv hA rfl) rfl fun a hA => 
      stp hA (r_mv hA rfl) rfl fun a hA => ?_
    refine o_nil ?_
    refine hN2 _ _ ?_
    refine w_block ?_
    obtain ⟨z1, hz2, Hk2⟩ := bind_some H
    obtain ⟨n1, hn1⟩ := loopO_some hz2
    refine w_loop (fun n a w => ∃ (s1 : List Int) (s2 : Int) (s3 : Int) (vvs1 : Value) (ccs1 : List Value), loopN (compact_number.s0 x2) n (s1, s2, s3) = some z1 ∧ Els (RI .u8) 1 s1 ccs1 ∧ InR .u64 s2 ∧ InR .i64 s3 ∧ Fr a 19 [(0, vvs1), (1, .int .u64 s2), (2, .int .i64 x2), (6, (.slice none 0 0)), (7, .int .i64 x2), (8, .int .i64 s3)] ∧ Iv w0 (row 5 1 u0 x0.length k0).foot μ μ [row 5 1 vvs1 s1.length ccs1] w) n1 ⟨x0, x1, 0, u0, k0, hn1, hx0, hx1, (in_lit .i64 0 rfl), hA.sub ⟨rfl, rfl, rfl, rfl, rfl, rfl, trivial⟩, hI⟩ ?_
    clear hA hI
    rintro n a w ⟨s1, s2, s3, vvs1, ccs1, hn1, ws1, ws2, ws3, hA, hI⟩
    obtain ⟨m1, rfl, H⟩ := loopN_bind hn1
    clear hn1
    refine w_seq fun _ hN3 => ?_
    refine w_reg ?_
    refine stp hA (r_lss hA rfl rfl) rfl fun a hA => ?_
    refine o_nil ?_
    refine hN3 _ _ ?_
    refine w_seq fun _ hN4 => ?_
    refine w_cond hA rfl (fun hc1 => ?_) (fun hc1 => ?_)
    · have hc10 := hc1; have hc1 := of_decide_eq_true hc1; have H := bT H hc1
      refine w_skip ?_
      refine hN4 _ _ ?_
      refine w_seq fun _ hN5 => ?_
      refine w_block ?_
      refine w_seq fun _ hN6 => ?_
      refine w_reg ?_
      refine stp hA (r_mv hA rfl) rfl fun a hA => 
        stp hA (r_mv hA rfl) rfl fun a hA => 
        stp hA (r_conv Try.underlying45 Try.underlying5 hA rfl) rfl fun a hA => ?_
      have hE1 : Els (RI .u8) 1 ([IntKind.u8.wrap s2] : List Int) ([[.int .u8 (IntKind.u8.wrap s2)]].flatten ++ ([])) := (Els.cons (c := [[.int .u8 (IntKind.u8.wrap s2)]].flatten) ⟨rfl, (wrap_in _ _)⟩ rfl Els.nil)
      refine o_bsl ([[.int .u8 (IntKind.u8.wrap s2)]].flatten ++ ([])) te5 zr5 Try.underlying22 hI hA rfl rfl rfl rfl (by kernel_rfl) rfl fun g1 a w hA hI => ?_
      generalize hcs : ([[.int .u8 (IntKind.u8.wrap s2)]].flatten ++ ([]) : List Value) = cs1 at hE1 hI
      clear hcs
      obtain ⟨hb1, H⟩ := bG H
      have hE3 := ws1.app hE1
      refine o_appL (xs := (s1 : List Int)) (ys := (([IntKind.u8.wrap s2] : List Int) : List Int)) (j := 1) te5 Try.underlying22 hI rfl hA rfl rfl (src_row hI (j := 0) rfl) hE1.len (hE1.ones (one_RI _)) (by first | decide | (have hq := hb1; (try simp only [List.length_cons, List.length_nil] at hq); (try simp only [List.length_cons, List.length_nil]); (try simp only [maxLen]); omega)) (by first | decide | (have hq := hb1; (try simp only [List.length_cons, List.length_nil] at hq); (try simp only [List.length_cons, List.length_nil]); (try simp only [maxLen]); omega)) rfl fun v1 a w hA hI => 
        stp hA (r_as hA rfl) rfl fun a hA => ?_
      refine o_nil ?_
      refine hN6 _ _ ?_
      refine w_reg ?_
      refine stp hA (r_mv hA rfl) rfl fun a hA => 
        stp hA (r_shr hA rfl rfl (by decide)) rfl fun a hA => 
        stp hA (r_as hA rfl) rfl fun a hA => ?_
      refine o_nil ?_
      refine hN5 _ _ ?_
      refine w_reg ?_
      refine stp hA (r_add hA rfl rfl) rfl fun a hA => 
        stp hA (r_mv hA rfl) rfl fun a hA => ?_
      refine o_nil ?_
      exact ⟨m1, Nat.lt_succ_self _, s1 ++ ([IntKind.u8.wrap s2] : List Int), sR .u64 s2 8, IntKind.i64.wrap (s3 + 1), v1, ccs1 ++ cs1, H, hE3, (sR_in rfl ws2 _), (wrap_in _ _), hA.sub ⟨rfl, rfl, rfl, rfl, rfl, rfl, trivial⟩, (hI.sel [1] (by decide) rfl)⟩
    · have hc10 := hc1; have hc1 := of_decide_eq_false hc1; have H := bF H hc1
      refine w_exit rfl ?_
      have H : some (s1, s2) = some z1 := H
      obtain rfl := Option.some.inj H
      have H := Hk2
      cases Option.some.inj (bS H)
      exact ⟨vvs1, ccs1, ws1, ws2, hA.sub ⟨rfl, rfl, rfl, rfl, trivial⟩, hI⟩
  · rintro a w ⟨vvc1, ccc1, wc1, wc2, hA, hI⟩
    have H := Hk1
    refine w_seq fun _ hN7 => ?_
    refine w_reg ?_
    refine stp hA (r_mv hA rfl) rfl fun a hA => 
      stp hA (r_as hA rfl) rfl fun a hA => ?_
    refine o_nil ?_
    refine hN7 _ _ ?_
    refine w_ret ?_
    obtain rfl := Option.some.inj (bS H)
    exact ret1 hA Try.results92 rfl ⟨_, rfl, vvc1, ccc1, rfl, wc1, (hI.less (Store.le.refl _) hI.le)⟩

/-! compact.Put: function 45 -/
set_option maxRecDepth 20000 in
theorem compact_Put.c (μ : Store) (w0 : World) (hμ : Agr μ w0) (x0 : List Int) (u0 : Value) (hx0 : Slc (RI .u8) 1 μ u0 x0) (x1 : Int) (hx1 : InR .u64 x1) (r : List Int) (H : compact_Put.f x0 x1 = some r) :
    Calls Try.prog 45 [u0, .int .u64 x1].toArray w0 (fun e w' => ∃ v, e = .returned v ∧ ∃ (v0 : Value) (c0 : List Value), v = v0 ∧ Els (RI .u8) 1 r c0 ∧ Iv w0 [] μ μ [row 5 1 v0 r.length c0] w') := by
  refine enter Try.func45 rfl Try.ntmps45 rfl fun a hA => ?_
  have hI := Iv.start hμ
  have H := bI H
  refine w_seq fun _ hN1 => ?_
  refine w_reg ?_
  refine stp hA (r_as hA rfl) rfl fun a hA => ?_
  refine o_nil ?_
  refine hN1 _ _ ?_
  refine w_seq fun _ hN2 => ?_
  refine w_reg ?_
  refine stp hA (r_mv hA rfl) rfl fun a hA => ?_
  obtain ⟨r1, hr1, H⟩ := bB H
  refine o_call _ cf88 hA rfl (bytes_Clone.c μ _ hI.agr x0 u0 hx0 r1 hr1) rfl fun v1 a w hz1 hA => ?_
  obtain ⟨_, cs1, rfl, hE1, hi1⟩ := hz1
  have hI := hI.call hi1
  refine stp hA (r_as hA rfl) rfl fun a hA => ?_
  refine o_nil ?_
  refine hN2 _ _ ?_
  refine w_seq fun _ hN3 => ?_
  refine w_seq fun _ hN4 => ?_
  refine w_reg ?_
  refine stp hA (r_mv hA rfl) rfl fun a hA => ?_
  obtain ⟨r2, hr2, H⟩ := bB H
  refine o_callp (u := .int .i64 r2) cf47 hA rfl hI (compact_Len.c μ _ hI.agr x1 hx1 r2 hr2) rfl fun a w hz2 hI hA => 
    stp hA (r_as hA rfl) rfl fun a hA => ?_
  refine o_nil ?_
  refine hN4 _ _ ?_
  refine w_seq fun _ hN5 => ?_
  refine w_reg ?_
  refine stp hA (r_mv hA rfl) rfl fun a hA => ?_
  refine o_nil ?_
  refine hN5 _ _ ?_
  refine w_block ?_
  refine w_seq fun _ hN6 => ?_
  refine w_reg ?_
  refine stp hA (r_eql hA rfl rfl) rfl fun a hA => 
    stp hA (r_as hA rfl) rfl fun a hA => ?_
  refine o_nil ?_
  refine hN6 _ _ ?_
  refine w_cond hA rfl (fun hc1 => ?_) (fun hc1 => ?_)
  · have hc10 := hc1; have hc1 := of_decide_eq_true hc1; have H := bT H hc1
    refine w_seq fun _ hN7 => ?_
    refine w_reg ?_
    refine stp hA (r_mv hA rfl) rfl fun a hA => 
      stp hA (r_mv hA rfl) rfl fun a hA => 
      stp hA (r_conv Try.underlying45 Try.underlying5 hA rfl) rfl fun a hA => ?_
    have hE2 : Els (RI .u8) 1 ([IntKind.u8.wrap x1] : List Int) ([[.int .u8 (IntKind.u8.wrap x1)]].flatten ++ ([])) := (Els.cons (c := [[.int .u8 (IntKind.u8.wrap x1)]].flatten) ⟨rfl, (wrap_in _ _)⟩ rfl Els.nil)
    refine o_bsl ([[.int .u8 (IntKind.u8.wrap x1)]].flatten ++ ([])) te5 zr5 Try.underlying22 hI hA rfl rfl rfl rfl (by kernel_rfl) rfl fun g1 a w hA hI => ?_
    generalize hcs : ([[.int .u8 (IntKind.u8.wrap x1)]].flatten ++ ([]) : List Value) = cs2 at hE2 hI
    clear hcs
    obtain ⟨hb1, H⟩ := bG H
    have hE4 := hE1.app hE2
    refine o_appL (xs := (r1 : List Int)) (ys := (([IntKind.u8.wrap x1] : List Int) : List Int)) (j := 1) te5 Try.underlying22 hI rfl hA rfl rfl (src_row hI (j := 0) rfl) hE2.len (hE2.ones (one_RI _)) (by first | decide | (have hq := hb1; (try simp only [List.length_cons, List.length_nil] at hq); (try simp only [List.length_cons, List.length_nil]); (try simp only [maxLen]); omega)) (by first | decide | (have hq := hb1; (try simp only [List.length_cons, List.length_nil] at hq); (try simp only [List.length_cons, List.length_nil]); (try simp only [maxLen]); omega)) rfl fun v2 a w hA hI => 
      stp hA (r_as hA rfl) rfl fun a hA => ?_
    refine o_nil ?_
    refine hN7 _ _ ?_
    refine w_ret ?_
    obtain rfl := Option.some.inj (bS H)
    exact ret1 hA Try.results45 rfl ⟨_, rfl, v2, cs1 ++ cs2, rfl, hE4, ((hI.sel [1] (by decide) rfl).less (Store.le.refl _) hI.le)⟩
  · have hc10 := hc1; have hc1 := of_decide_eq_false hc1; have H := bF H hc1
    refine w_seq fun _ hN8 => ?_
    refine w_reg ?_
    refine stp hA (r_eql hA rfl rfl) rfl fun a hA => 
      stp hA (r_as hA rfl) rfl fun a hA => ?_
    refine o_nil ?_
    refine hN8 _ _ ?_
    refine w_cond hA rfl (fun hc2 => ?_) (fun hc2 => ?_)
    · have hc20 := hc2; have hc2 := of_decide_eq_true hc2; have H := bT H hc2
      refine w_seq fun _ hN9 => ?_
      refine w_reg ?_
      refine stp hA (r_mv hA rfl) rfl fun a hA => ?_
      have hE5 : Els (RI .u8) 1 ([253] : List Int) ([[.int .u8 253]].flatten ++ ([])) := (Els.cons (c := [[.int .u8 253]].flatten) ⟨rfl, (in_lit .u8 253 rfl)⟩ rfl Els.nil)
      refine o_bsl ([[.int .u8 253]].flatten ++ ([])) te5 zr5 Try.underlying22 hI hA rfl rfl rfl rfl (by kernel_rfl) rfl fun g2 a w hA hI => ?_
      generalize hcs : ([[.int .u8 253]].flatten ++ ([]) : List Value) = cs5 at hE5 hI
      clear hcs
      obtain ⟨hb2, H⟩ := bG H
      have hE7 := hE1.app hE5
      refine o_appL (xs := (r1 : List Int)) (ys := (([253] : List Int) : List Int)) (j := 1) te5 Try.underlying22 hI rfl hA rfl rfl (src_row hI (j := 0) rfl) hE5.len (hE5.ones (one_RI _)) (by first | decide | (have hq := hb2; (try simp only [List.length_cons, List.length_nil] at hq); (try simp only [List.length_cons, List.length_nil]); (try simp only [maxLen]); omega)) (by first | decide | (have hq := hb2; (try simp only [List.length_cons, List.length_nil] at hq); (try simp only [List.length_cons, List.length_nil]); (try simp only [maxLen]); omega)) rfl fun v3 a w hA hI => 
        stp hA (r_mv hA rfl) rfl fun a hA => ?_
      obtain ⟨r3, hr3, H⟩ := bB H
      refine o_call _ cf92 hA rfl (compact_number.c μ _ hI.agr (r1 ++ ([253] : List Int)) v3 (cs1 ++ cs5) hE7 (hI.item (j := 1) rfl) x1 hx1 2 (in_lit .i64 2 rfl) r3 hr3) rfl fun v4 a w hz3 hA => ?_
      obtain ⟨_, cs8, rfl, hE8, hi2⟩ := hz3
      have hI := hI.call1 1 rfl hi2
      refine stp hA (r_as hA rfl) rfl fun a hA => ?_
      refine o_nil ?_
      refine hN9 _ _ ?_
      refine w_ret ?_
      obtain rfl := Option.some.inj (bS H)
      exact ret1 hA Try.results45 rfl ⟨_, rfl, v4, cs8, rfl, hE8, ((hI.sel [0] (by decide) rfl).less (Store.le.refl _) hI.le)⟩
    · have hc20 := hc2; have hc2 := of_decide_eq_false hc2; have H := bF H hc2
      refine w_seq fun _ hN10 => ?_
      refine w_reg ?_
      refine stp hA (r_eql hA rfl rfl) rfl fun a hA => 
        stp hA (r_as hA rfl) rfl fun a hA => ?_
      refine o_nil ?_
      refine hN10 _ _ ?_
      refine w_cond hA rfl (fun hc3 => ?_) (fun hc3 => ?_)
      · have hc30 := hc3; have hc3 := of_decide_eq_true hc3; have H := bT H hc3
        refine w_seq fun _ hN11 => ?_
        refine w_reg ?_
        refine stp hA (r_mv hA rfl) rfl fun a hA => ?_
        have hE9 : Els (RI .u8) 1 ([254] : List Int) ([[.int .u8 254]].flatten ++ ([])) := (Els.cons (c := [[.int .u8 254]].flatten) ⟨rfl, (in_lit .u8 254 rfl)⟩ rfl Els.nil)
        refine o_bsl ([[.int .u8 254]].flatten ++ ([])) te5 zr5 Try.underlying22 hI hA rfl rfl rfl rfl (by kernel_rfl) rfl fun g3 a w hA hI => ?_
        generalize hcs : ([[.int .u8 254]].flatten ++ ([]) : List Value) = cs9 at hE9 hI
        clear hcs
        obtain ⟨hb3, H⟩ := bG H
        have hE11 := hE1.app hE9
        refine o_appL (xs := (r1 : List Int)) (ys := (([254] : List Int) : List Int)) (j := 1) te5 Try.underlying22 hI rfl hA rfl rfl (src_row hI (j := 0) rfl) hE9.len (hE9.ones (one_RI _)) (by first | decide | (have hq := hb3; (try simp only [List.length_cons, List.length_nil] at hq); (try simp only [List.length_cons, List.length_nil]); (try simp only [maxLen]); omega)) (by first | decide | (have hq := hb3; (try simp only [List.length_cons, List.length_nil] at hq); (try simp only [List.length_cons, List.length_nil]); (try simp only [maxLen]); omega)) rfl fun v5 a w hA hI => 
          stp hA (r_mv hA rfl) rfl fun a hA => ?_
        obtain ⟨r4, hr4, H⟩ := bB H
        refine o_call _ cf92 hA rfl (compact_number.c μ _ hI.agr (r1 ++ ([254] : List Int)) v5 (cs1 ++ cs9) hE11 (hI.item (j := 1) rfl) x1 hx1 4 (in_lit .i64 4 rfl) r4 hr4) rfl fun v6 a w hz4 hA => ?_
        obtain ⟨_, cs12, rfl, hE12, hi3⟩ := hz4
        have hI := hI.call1 1 rfl hi3
        refine stp hA (r_as hA rfl) rfl fun a hA => ?_
        refine o_nil ?_
        refine hN11 _ _ ?_
        refine w_ret ?_
        obtain rfl := Option.some.inj (bS H)
        exact ret1 hA Try.results45 rfl ⟨_, rfl, v6, cs12, rfl, hE12, ((hI.sel [0] (by decide) rfl).less (Store.le.refl _) hI.le)⟩
      · have hc30 := hc3; have hc3 := of_decide_eq_false hc3; have H := bF H hc3
        refine w_skip ?_
        refine hN3 _ _ ?_
        refine w_seq fun _ hN12 => ?_
        refine w_reg ?_
        refine stp hA (r_mv hA rfl) rfl fun a hA => ?_
        have hE13 : Els (RI .u8) 1 ([255] : List Int) ([[.int .u8 255]].flatten ++ ([])) := (Els.cons (c := [[.int .u8 255]].flatten) ⟨rfl, (in_lit .u8 255 rfl)⟩ rfl Els.nil)
        refine o_bsl ([[.int .u8 255]].flatten ++ ([])) te5 zr5 Try.underlying22 hI hA rfl rfl rfl rfl (by kernel_rfl) rfl fun g4 a w hA hI => ?_
        generalize hcs : ([[.int .u8 255]].flatten ++ ([]) : List Value) = cs13 at hE13 hI
        clear hcs
        obtain ⟨hb4, H⟩ := bG H
        have hE15 := hE1.app hE13
        refine o_appL (xs := (r1 : List Int)) (ys := (([255] : List Int) : List Int)) (j := 1) te5 Try.underlying22 hI rfl hA rfl rfl (src_row hI (j := 0) rfl) hE13.len (hE13.ones (one_RI _)) (by first | decide | (have hq := hb4; (try simp only [List.length_cons, List.length_nil] at hq); (try simp only [List.length_cons, List.length_nil]); (try simp only [maxLen]); omega)) (by first | decide | (have hq := hb4; (try simp only [List.length_cons, List.length_nil] at hq); (try simp only [List.length_cons, List.length_nil]); (try simp only [maxLen]); omega)) rfl fun v7 a w hA hI => 
          stp hA (r_mv hA rfl) rfl fun a hA => ?_
        obtain ⟨r5, hr5, H⟩ := bB H
        refine o_call _ cf92 hA rfl (compact_number.c μ _ hI.agr (r1 ++ ([255] : List Int)) v7 (cs1 ++ cs13) hE15 (hI.item (j := 1) rfl) x1 hx1 8 (in_lit .i64 8 rfl) r5 hr5) rfl fun v8 a w hz5 hA => ?_
        obtain ⟨_, cs16, rfl, hE16, hi4⟩ := hz5
        have hI := hI.call1 1 rfl hi4
        refine stp hA (r_as hA rfl) rfl fun a hA => ?_
        refine o_nil ?_
        refine hN12 _ _ ?_
        refine w_ret ?_
        obtain rfl := Option.some.inj (bS H)
        exact ret1 hA Try.results45 rfl ⟨_, rfl, v8, cs16, rfl, hE16, ((hI.sel [0] (by decide) rfl).less (Store.le.refl _) hI.le)⟩

/-! compact.Sum: function 42 -/
set_option maxRecDepth 20000 in
theorem compact_Sum.c (μ : Store) (w0 : World) (hμ : Agr μ w0) (x0 : List Int) (u0 : Value) (hx0 : Slc (RI .u64) 1 μ u0 x0) (r : Int × Bool) (H : compact_Sum.f x0 = some r) :
    Calls Try.prog 42 [u0].toArray w0 (fun e w' => ∃ v, e = .returned v ∧ v = .tuple #[.int .u64 r.1, .bool r.2] ∧ (InR .u64 r.1 ∧ True) ∧ Iv w0 [] μ μ [] w') := by
  refine enter Try.func42 rfl Try.ntmps42 rfl fun a hA => ?_
  have hI := Iv.start hμ
  have H := bI H
  refine w_seq fun _ hN1 => ?_
  refine w_reg ?_
  refine stp hA (r_as hA rfl) rfl fun a hA => 
    stp hA (r_as hA rfl) rfl fun a hA => ?_
  refine o_nil ?_
  refine hN1 _ _ ?_
  refine w_seq fun _ hN2 => ?_
  refine w_reg ?_
  refine stp hA (r_as hA rfl) rfl fun a hA => ?_
  refine o_nil ?_
  refine hN2 _ _ ?_
  refine w_seq fun _ hN3 => ?_
  refine w_seq fun _ hN4 => ?_
  refine w_reg ?_
  refine stp hA (r_mv hA rfl) rfl fun a hA => ?_
  obtain ⟨_, hsl1⟩ := Slc.sv hx0
  refine stp hA (r_slen Try.underlying49 hsl1 hA rfl) rfl fun a hA => 
    stp hA (r_mv hA rfl) rfl fun a hA => ?_
  refine o_nil ?_
  refine hN4 _ _ ?_
  refine w_block ?_
  obtain ⟨z1, hz1, Hk1⟩ := bind_some H
  obtain ⟨n1, hn1⟩ := loopO_some hz1
  refine w_loop (fun n a w => ∃ (s1 : Int) (s2 : Int), loopN (compact_Sum.s0 x0) n (s1, s2) = some z1 ∧ InR .u64 s1 ∧ InR .i64 s2 ∧ Fr a 22 [(0, u0), (2, .int .u64 0), (3, .bool false), (4, .int .u64 s1), (7, u0), (8, .int .i64 (x0.length : Int)), (9, .int .i64 s2)] ∧ Iv w0 [] μ μ [] w) n1 ⟨0, 0, hn1, (in_lit .u64 0 rfl), (in_lit .i64 0 rfl), hA.sub ⟨rfl, rfl, rfl, rfl, rfl, rfl, rfl, trivial⟩, hI⟩ ?_
  clear hA hI
  rintro n a w ⟨s1, s2, hn1, ws1, ws2, hA, hI⟩
  obtain ⟨m1, rfl, H⟩ := loopN_bind hn1
  clear hn1
  refine w_seq fun _ hN5 => ?_
  refine w_reg ?_
  refine stp hA (r_lss hA rfl rfl) rfl fun a hA => ?_
  refine o_nil ?_
  refine hN5 _ _ ?_
  refine w_seq fun _ hN6 => ?_
  refine w_cond hA rfl (fun hc1 => ?_) (fun hc1 => ?_)
  · have hc10 := hc1; have hc1 := of_decide_eq_true hc1; have H := bT H hc1
    refine w_skip ?_
    refine hN6 _ _ ?_
    refine w_seq fun _ hN7 => ?_
    refine w_block ?_
    refine w_seq fun _ hN8 => ?_
    refine w_reg ?_
    obtain ⟨hb1, H⟩ := bG H
    obtain ⟨_, he1, _, hat1⟩ := Slc.elem1 hx0 (getD_some 0 hb1.1 hb1.2)
    obtain ⟨rfl, hw1⟩ := he1
    obtain ⟨_, hsl2⟩ := Slc.sv hx0
    refine stp hA (r_six1 Try.underlying49 sz45 hsl2 hA rfl rfl hb1.1 hb1.2) rfl fun a hA => 
      stp hA (r_ldm1 [] [] Try.underlying45 rfl hI.agr hat1 hA rfl rfl) rfl fun a hA => 
      stp hA (r_as hA rfl) rfl fun a hA => ?_
    refine o_nil ?_
    refine hN8 _ _ ?_
    refine w_seq fun _ hN9 => ?_
    refine w_seq fun _ hN10 => ?_
    refine w_reg ?_
    refine stp hA (r_mv hA rfl) rfl fun a hA => 
      stp hA (r_mv hA rfl) rfl fun a hA => 
      stp hA (r_sub hA rfl rfl) rfl fun a hA => 
      stp hA (r_gtr hA rfl rfl) rfl fun a hA => ?_
    refine o_nil ?_
    refine hN10 _ _ ?_
    refine w_cond hA rfl (fun hc2 => ?_) (fun hc2 => ?_)
    · have hc20 := hc2; have hc2 := of_decide_eq_true hc2; have H := bT H hc2
      refine w_seq fun _ hN11 => ?_
      refine w_reg ?_
      refine stp hA (r_as hA rfl) rfl fun a hA => 
        stp hA (r_as hA rfl) rfl fun a hA => ?_
      refine o_nil ?_
      refine hN11 _ _ ?_
      refine w_ret ?_
      have H : some (0, false) = some z1 := H
      obtain rfl := Option.some.inj H
      have H := Hk1
      obtain rfl := Option.some.inj (bS H)
      exact ret2 hA Try.results42 rfl rfl ⟨_, rfl, rfl, ⟨(in_lit .u64 0 rfl), trivial⟩, hI.forget0⟩
    · have hc20 := hc2; have hc2 := of_decide_eq_false hc2; have H := bF H hc2
      refine w_skip ?_
      refine hN9 _ _ ?_
      refine w_reg ?_
      refine stp hA (r_mv hA rfl) rfl fun a hA => 
        stp hA (r_mv hA rfl) rfl fun a hA => 
        stp hA (r_add hA rfl rfl) rfl fun a hA => 
        stp hA (r_as hA rfl) rfl fun a hA => ?_
      refine o_nil ?_
      refine hN7 _ _ ?_
      refine w_reg ?_
      refine stp hA (r_add hA rfl rfl) rfl fun a hA => 
        stp hA (r_mv hA rfl) rfl fun a hA => ?_
      refine o_nil ?_
      exact ⟨m1, Nat.lt_succ_self _, IntKind.u64.wrap (s1 + (x0.getD s2.toNat 0)), IntKind.i64.wrap (s2 + 1), H, (wrap_in _ _), (wrap_in _ _), hA.sub ⟨rfl, rfl, rfl, rfl, rfl, rfl, rfl, trivial⟩, hI⟩
  · have hc10 := hc1; have hc1 := of_decide_eq_false hc1; have H := bF H hc1
    refine w_exit rfl ?_
    refine hN3 _ _ ?_
    refine w_seq fun _ hN12 => ?_
    refine w_reg ?_
    refine stp hA (r_mv hA rfl) rfl fun a hA => 
      stp hA (r_as hA rfl) rfl fun a hA => 
      stp hA (r_as hA rfl) rfl fun a hA => ?_
    refine o_nil ?_
    refine hN12 _ _ ?_
    refine w_ret ?_
    have H : some (s1, true) = some z1 := H
    obtain rfl := Option.some.inj H
    have H := Hk1
    obtain rfl := Option.some.inj (bS H)
    exact ret2 hA Try.results42 rfl rfl ⟨_, rfl, rfl, ⟨ws1, trivial⟩, hI.forget0⟩

/-! sargassoref1.Sum: function 43 -/
set_option maxRecDepth 20000 in
theorem sargassoref1_Sum.c (μ : Store) (w0 : World) (hμ : Agr μ w0) (x0 : List Int) (u0 : Value) (hx0 : Slc (RI .u64) 1 μ u0 x0) (r : Int × Bool) (H : sargassoref1_Sum.f x0 = some r) :
    Calls Try.prog 43 [u0].toArray w0 (fun e w' => ∃ v, e = .returned v ∧ v = .tuple #[.int .u64 r.1, .bool r.2] ∧ (InR .u64 r.1 ∧ True) ∧ Iv w0 [] μ μ [] w') := by
  refine enter Try.func43 rfl Try.ntmps43 rfl fun a hA => ?_
  have hI := Iv.start hμ
  have H := bI H
  refine w_seq fun _ hN1 => ?_
  refine w_reg ?_
  refine stp hA (r_as hA rfl) rfl fun a hA => 
    stp hA (r_as hA rfl) rfl fun a hA => ?_
  refine o_nil ?_
  refine hN1 _ _ ?_
  refine w_seq fun _ hN2 => ?_
  refine w_reg ?_
  refine stp hA (r_as hA rfl) rfl fun a hA => ?_
  refine o_nil ?_
  refine hN2 _ _ ?_
  refine w_seq fun _ hN3 => ?_
  refine w_seq fun _ hN4 => ?_
  refine w_reg ?_
  refine stp hA (r_as hA rfl) rfl fun a hA => ?_
  refine o_nil ?_
  refine hN4 _ _ ?_
  refine w_block ?_
  obtain ⟨z1, hz1, Hk1⟩ := bind_some H
  obtain ⟨n1, hn1⟩ := loopO_some hz1
  refine w_loop (fun n a w => ∃ (s1 : Int) (s2 : Int), loopN (sargassoref1_Sum.s0 x0) n (s1, s2) = some z1 ∧ InR .u64 s1 ∧ InR .i64 s2 ∧ Fr a 33 [(0, u0), (2, .int .u64 0), (3, .bool false), (4, .int .u64 s1), (5, .int .i64 s2)] ∧ Iv w0 [] μ μ [] w) n1 ⟨0, 0, hn1, (in_lit .u64 0 rfl), (in_lit .i64 0 rfl), hA.sub ⟨rfl, rfl, rfl, rfl, rfl, trivial⟩, hI⟩ ?_
  clear hA hI
  rintro n a w ⟨s1, s2, hn1, ws1, ws2, hA, hI⟩
  obtain ⟨m1, rfl, H⟩ := loopN_bind hn1
  clear hn1
  refine w_seq fun _ hN5 => ?_
  refine w_seq fun _ hN6 => ?_
  refine w_reg ?_
  refine stp hA (r_mv hA rfl) rfl fun a hA => 
    stp hA (r_mv hA rfl) rfl fun a hA => ?_
  obtain ⟨_, hsl1⟩ := Slc.sv hx0
  refine stp hA (r_slen Try.underlying49 hsl1 hA rfl) rfl fun a hA => 
    stp hA (r_lss hA rfl rfl) rfl fun a hA => ?_
  refine o_nil ?_
  refine hN6 _ _ ?_
  refine w_cond hA rfl (fun hc1 => ?_) (fun hc1 => ?_)
  · have hc10 := hc1; have hc1 := of_decide_eq_true hc1; have H := bT H hc1
    refine w_skip ?_
    refine hN5 _ _ ?_
    refine w_seq fun _ hN7 => ?_
    refine w_block ?_
    refine w_seq fun _ hN8 => ?_
    obtain ⟨c1, hz2, Hk2⟩ := bB H
    refine w_cut (fun a w => Fr a 33 [(0, u0), (2, .int .u64 0), (3, .bool false), (4, .int .u64 s1), (5, .int .i64 s2), (9, .bool (decide (s2 < (x0.length : Int)))), (25, .bool c1)] ∧ Iv w0 [] μ μ [] w) ?_ ?_
    · have H := bI hz2
      refine w_reg ?_
      refine stp hA (r_mv hA rfl) rfl fun a hA => 
        stp hA (r_mv hA rfl) rfl fun a hA => ?_
      obtain ⟨hb1, H⟩ := bG H
      obtain ⟨_, he1, _, hat1⟩ := Slc.elem1 hx0 (getD_some 0 hb1.1 hb1.2)
      obtain ⟨rfl, hw1⟩ := he1
      obtain ⟨_, hsl2⟩ := Slc.sv hx0
      refine stp hA (r_six1 Try.underlying49 sz45 hsl2 hA rfl rfl hb1.1 hb1.2) rfl fun a hA => 
        stp hA (r_ldm1 [] [] Try.underlying45 rfl hI.agr hat1 hA rfl rfl) rfl fun a hA => 
        stp hA (r_gtr hA rfl rfl) rfl fun a hA => 
        stp hA (r_mv hA rfl) rfl fun a hA => ?_
      rcases Bool.eq_false_or_eq_true (decide (2100000000000000 < (x0.getD s2.toNat 0))) with hc2 | hc2
      · have hc20 := hc2; have hc2 := of_decide_eq_true hc2; have H := bT H hc2
        refine o_no hA rfl rfl (by rw [hc20]; simp [vb]) rfl fun a hA => 
          o_no hA rfl rfl (by rw [hc20]; simp [vb]) rfl fun a hA => 
          o_no hA rfl rfl (by rw [hc20]; simp [vb]) rfl fun a hA => 
          o_no hA rfl rfl (by rw [hc20]; simp [vb]) rfl fun a hA => 
          o_no hA rfl rfl (by rw [hc20]; simp [vb]) rfl fun a hA => 
          o_no hA rfl rfl (by rw [hc20]; simp [vb]) rfl fun a hA => 
          o_no hA rfl rfl (by rw [hc20]; simp [vb]) rfl fun a hA => 
          stp hA (r_pick_t hA rfl hc20 rfl) rfl fun a hA => ?_
        refine o_nil ?_
        cases Option.some.inj (bS H)
        exact ⟨hA.sub ⟨rfl, rfl, rfl, rfl, rfl, rfl, rfl, trivial⟩, hI⟩
      · have hc20 := hc2; have hc2 := of_decide_eq_false hc2; have H := bF H hc2
        refine o_yes hA rfl rfl hc20 <| 
          stp hA (r_mv hA rfl) rfl fun a hA => 
          o_yes hA rfl rfl hc20 <| 
          stp hA (r_mv hA rfl) rfl fun a hA => 
          o_yes hA rfl rfl hc20 <| 
          stp hA (r_mv hA rfl) rfl fun a hA => 
          o_yes hA rfl rfl hc20 <| 
          stp hA (r_six1 Try.underlying49 sz45 hsl2 hA rfl rfl hb1.1 hb1.2) rfl fun a hA => 
          o_yes hA rfl rfl hc20 <| 
          stp hA (r_ldm1 [] [] Try.underlying45 rfl hI.agr hat1 hA rfl rfl) rfl fun a hA => 
          o_yes hA rfl rfl hc20 <| 
          stp hA (r_add hA rfl rfl) rfl fun a hA => 
          o_yes hA rfl rfl hc20 <| 
          stp hA (r_gtr hA rfl rfl) rfl fun a hA => 
          stp hA (r_pick_f hA rfl hc20 rfl) rfl fun a hA => ?_
        refine o_nil ?_
        cases Option.some.inj (bS H)
        exact ⟨hA.sub ⟨rfl, rfl, rfl, rfl, rfl, rfl, rfl, trivial⟩, hI⟩
    · rintro a w ⟨hA, hI⟩
      have H := Hk2
      refine w_cond hA rfl (fun hc3 => ?_) (fun hc3 => ?_)
      · have hc30 := hc3; have H := bT H hc3
        refine w_seq fun _ hN9 => ?_
        refine w_reg ?_
        refine stp hA (r_as hA rfl) rfl fun a hA => 
          stp hA (r_as hA rfl) rfl fun a hA => ?_
        refine o_nil ?_
        refine hN9 _ _ ?_
        refine w_ret ?_
        have H : some (0, false) = some z1 := H
        obtain rfl := Option.some.inj H
        have H := Hk1
        obtain rfl := Option.some.inj (bS H)
        exact ret2 hA Try.results43 rfl rfl ⟨_, rfl, rfl, ⟨(in_lit .u64 0 rfl), trivial⟩, hI.forget0⟩
      · have hc30 := hc3; have hc3 := ft hc3; have H := bF H hc3
        refine w_skip ?_
        refine hN8 _ _ ?_
        refine w_reg ?_
        refine stp hA (r_mv hA rfl) rfl fun a hA => 
          stp hA (r_mv hA rfl) rfl fun a hA => 
          stp hA (r_mv hA rfl) rfl fun a hA => ?_
        obtain ⟨hb2, H⟩ := bG H
        obtain ⟨_, he2, _, hat2⟩ := Slc.elem1 hx0 (getD_some 0 hb2.1 hb2.2)
        obtain ⟨rfl, hw2⟩ := he2
        obtain ⟨_, hsl3⟩ := Slc.sv hx0
        refine stp hA (r_six1 Try.underlying49 sz45 hsl3 hA rfl rfl hb2.1 hb2.2) rfl fun a hA => 
          stp hA (r_ldm1 [] [] Try.underlying45 rfl hI.agr hat2 hA rfl rfl) rfl fun a hA => 
          stp hA (r_add hA rfl rfl) rfl fun a hA => 
          stp hA (r_as hA rfl) rfl fun a hA => ?_
        refine o_nil ?_
        refine hN7 _ _ ?_
        refine w_reg ?_
        refine stp hA (r_mv hA rfl) rfl fun a hA => 
          stp hA (r_add hA rfl rfl) rfl fun a hA => 
          stp hA (r_as hA rfl) rfl fun a hA => ?_
        refine o_nil ?_
        exact ⟨m1, Nat.lt_succ_self _, IntKind.u64.wrap (s1 + (x0.getD s2.toNat 0)), IntKind.i64.wrap (s2 + 1), H, (wrap_in _ _), (wrap_in _ _), hA.sub ⟨rfl, rfl, rfl, rfl, rfl, trivial⟩, hI⟩
  · have hc10 := hc1; have hc1 := of_decide_eq_false hc1; have H := bF H hc1
    refine w_exit rfl ?_
    refine hN3 _ _ ?_
    refine w_seq fun _ hN10 => ?_
    refine w_reg ?_
    refine stp hA (r_mv hA rfl) rfl fun a hA => 
      stp hA (r_as hA rfl) rfl fun a hA => 
      stp hA (r_as hA rfl) rfl fun a hA => ?_
    refine o_nil ?_
    refine hN10 _ _ ?_
    refine w_ret ?_
    have H : some (s1, true) = some z1 := H
    obtain rfl := Option.some.inj H
    have H := Hk1
    obtain rfl := Option.some.inj (bS H)
    exact ret2 hA Try.results43 rfl rfl ⟨_, rfl, rfl, ⟨ws1, trivial⟩, hI.forget0⟩

/-! sargassoref1.Len: function 48 -/
set_option maxRecDepth 20000 in
theorem sargassoref1_Len.c (μ : Store) (w0 : World) (hμ : Agr μ w0) (x0 : Int) (hx0 : InR .u64 x0) (r : Int) (H : sargassoref1_Len.f x0 = some r) :
    Calls Try.prog 48 [.int .u64 x0].toArray w0 (fun e w' => ∃ v, e = .returned v ∧ v = .int .i64 r ∧ InR .i64 r ∧ Iv w0 [] μ μ [] w') := by
  refine enter Try.func48 rfl Try.ntmps48 rfl fun a hA => ?_
  have hI := Iv.start hμ
  have H := bI H
  refine w_seq fun _ hN1 => ?_
  refine w_reg ?_
  refine stp hA (r_as hA rfl) rfl fun a hA => ?_
  refine o_nil ?_
  refine hN1 _ _ ?_
  refine w_seq fun _ hN2 => ?_
  refine w_block ?_
  refine w_seq fun _ hN3 => ?_
  refine w_reg ?_
  refine stp hA (r_mv hA rfl) rfl fun a hA => 
    stp hA (r_lss hA rfl rfl) rfl fun a hA => 
    stp hA (r_as hA rfl) rfl fun a hA => ?_
  refine o_nil ?_
  refine hN3 _ _ ?_
  refine w_cond hA rfl (fun hc1 => ?_) (fun hc1 => ?_)
  · have hc10 := hc1; have hc1 := of_decide_eq_true hc1; have H := bT H hc1
    refine w_seq fun _ hN4 => ?_
    refine w_reg ?_
    refine stp hA (r_as hA rfl) rfl fun a hA => ?_
    refine o_nil ?_
    refine hN4 _ _ ?_
    refine w_ret ?_
    obtain rfl := Option.some.inj (bS H)
    exact ret1 hA Try.results48 rfl ⟨_, rfl, rfl, (in_lit .i64 1 rfl), hI.forget0⟩
  · have hc10 := hc1; have hc1 := of_decide_eq_false hc1; have H := bF H hc1
    refine w_seq fun _ hN5 => ?_
    refine w_reg ?_
    refine stp hA (r_mv hA rfl) rfl fun a hA => 
      stp hA (r_lss hA rfl rfl) rfl fun a hA => 
      stp hA (r_as hA rfl) rfl fun a hA => ?_
    refine o_nil ?_
    refine hN5 _ _ ?_
    refine w_cond hA rfl (fun hc2 => ?_) (fun hc2 => ?_)
    · have hc20 := hc2; have hc2 := of_decide_eq_true hc2; have H := bT H hc2
      refine w_seq fun _ hN6 => ?_
      refine w_reg ?_
      refine stp hA (r_as hA rfl) rfl fun a hA => ?_
      refine o_nil ?_
      refine hN6 _ _ ?_
      refine w_ret ?_
      obtain rfl := Option.some.inj (bS H)
      exact ret1 hA Try.results48 rfl ⟨_, rfl, rfl, (in_lit .i64 3 rfl), hI.forget0⟩
    · have hc20 := hc2; have hc2 := of_decide_eq_false hc2; have H := bF H hc2
      refine w_seq fun _ hN7 => ?_
      refine w_reg ?_
      refine stp hA (r_mv hA rfl) rfl fun a hA => 
        stp hA (r_lss hA rfl rfl) rfl fun a hA => 
        stp hA (r_as hA rfl) rfl fun a hA => ?_
      refine o_nil ?_
      refine hN7 _ _ ?_
      refine w_cond hA rfl (fun hc3 => ?_) (fun hc3 => ?_)
      · have hc30 := hc3; have hc3 := of_decide_eq_true hc3; have H := bT H hc3
        refine w_seq fun _ hN8 => ?_
        refine w_reg ?_
        refine stp hA (r_as hA rfl) rfl fun a hA => ?_
        refine o_nil ?_
        refine hN8 _ _ ?_
        refine w_ret ?_
        obtain rfl := Option.some.inj (bS H)
        exact ret1 hA Try.results48 rfl ⟨_, rfl, rfl, (in_lit .i64 5 rfl), hI.forget0⟩
      · have hc30 := hc3; have hc3 := of_decide_eq_false hc3; have H := bF H hc3
        refine w_skip ?_
        refine hN2 _ _ ?_
        refine w_seq fun _ hN9 => ?_
        refine w_reg ?_
        refine stp hA (r_as hA rfl) rfl fun a hA => ?_
        refine o_nil ?_
        refine hN9 _ _ ?_
        refine w_ret ?_
        obtain rfl := Option.some.inj (bS H)
        exact ret1 hA Try.results48 rfl ⟨_, rfl, rfl, (in_lit .i64 9 rfl), hI.forget0⟩

/-! sargassoref1.little: function 93 -/
set_option maxRecDepth 20000 in
theorem sargassoref1_little.c (μ : Store) (w0 : World) (hμ : Agr μ w0) (x0 : List Int) (u0 : Value) (k0 : List Value) (hx0 : Els (RI .u8) 1 x0 k0) (ho0 : RowOK μ w0 5 1 u0 x0.length k0) (x1 : Int) (hx1 : InR .u64 x1) (x2 : Int) (hx2 : InR .i64 x2) (r : List Int) (H : sargassoref1_little.f x0 x1 x2 = some r) :
    Calls Try.prog 93 [u0, .int .u64 x1, .int .i64 x2].toArray w0 (fun e w' => ∃ v, e = .returned v ∧ ∃ (v0 : Value) (c0 : List Value), v = v0 ∧ Els (RI .u8) 1 r c0 ∧ Iv w0 (row 5 1 u0 x0.length k0).foot μ μ [row 5 1 v0 r.length c0] w') := by
  refine enter Try.func93 rfl Try.ntmps93 rfl fun a hA => ?_
  have hI := ho0.start hμ
  have H := bI H
  refine w_seq fun _ hN1 => ?_
  refine w_reg ?_
  refine stp hA (r_as hA rfl) rfl fun a hA => ?_
  refine o_nil ?_
  refine hN1 _ _ ?_
  obtain ⟨c1, hz1, Hk1⟩ := bB H
  refine w_cut (fun a w => ∃ (vvc1 : Value) (ccc1 : List Value), Els (RI .u8) 1 c1 ccc1 ∧ Fr a 23 [(0, vvc1), (1, .int .u64 x1), (2, .int .i64 x2), (6, (.slice none 0 0))] ∧ Iv w0 (row 5 1 u0 x0.length k0).foot μ μ [row 5 1 vvc1 c1.length ccc1] w) ?_ ?_
  · have H := bI hz1
    refine w_seq fun _ hN2 => ?_
    refine w_reg ?_
    refine stp hA (r_as hA rfl) rfl fun a hA => ?_
    refine o_nil ?_
    refine hN2 _ _ ?_
    refine w_block ?_
    obtain ⟨z1, hz2, Hk2⟩ := bind_some H
    obtain ⟨n1, hn1⟩ := loopO_some hz2
    refine w_loop (fun n a w => ∃ (s1 : List Int) (s2 : Int) (vvs1 : Value) (ccs1 : List Value), loopN (sargassoref1_little.s0 x1 x2) n (s1, s2) = some z1 ∧ Els (RI .u8) 1 s1 ccs1 ∧ InR .i64 s2 ∧ Fr a 23 [(0, vvs1), (1, .int .u64 x1), (2, .int .i64 x2), (6, (.slice none 0 0)), (7, .int .i64 s2)] ∧ Iv w0 (row 5 1 u0 x0.length k0).foot μ μ [row 5 1 vvs1 s1.length ccs1] w) n1 ⟨x0, 0, u0, k0, hn1, hx0, (in_lit .i64 0 rfl), hA.sub ⟨rfl, rfl, rfl, rfl, rfl, trivial⟩, hI⟩ ?_
    clear hA hI
    rintro n a w ⟨s1, s2, vvs1, ccs1, hn1, ws1, ws2, hA, hI⟩
    obtain ⟨m1, rfl, H⟩ := loopN_bind hn1
    clear hn1
    refine w_seq fun _ hN3 => ?_
    refine w_seq fun _ hN4 => ?_
    refine w_reg ?_
    refine stp hA (r_mv hA rfl) rfl fun a hA => 
      stp hA (r_mv hA rfl) rfl fun a hA => 
      stp hA (r_lss hA rfl rfl) rfl fun a hA => ?_
    refine o_nil ?_
    refine hN4 _ _ ?_
    refine w_cond hA rfl (fun hc1 => ?_) (fun hc1 => ?_)
    · have hc10 := hc1; have hc1 := of_decide_eq_true hc1; have H := bT H hc1
      refine w_skip ?_
      refine hN3 _ _ ?_
      refine w_seq fun _ hN5 => ?_
      refine w_block ?_
      refine w_reg ?_
      refine stp hA (r_mv hA rfl) rfl fun a hA => 
        stp hA (r_mv hA rfl) rfl fun a hA => 
        stp hA (r_mv hA rfl) rfl fun a hA => 
        stp hA (r_mul hA rfl rfl) rfl fun a hA => 
        stp hA (r_conv Try.underlying3 Try.underlying40 hA rfl) rfl fun a hA => ?_
      obtain ⟨hb1, H⟩ := bG H
      refine stp hA (r_shr hA rfl rfl hb1) rfl fun a hA => 
        stp hA (r_conv Try.underlying45 Try.underlying5 hA rfl) rfl fun a hA => ?_
      have hE1 : Els (RI .u8) 1 ([IntKind.u8.wrap (sR .u64 x1 (IntKind.u64.wrap (IntKind.i64.wrap (8 * s2))))] : List Int) ([[.int .u8 (IntKind.u8.wrap (sR .u64 x1 (IntKind.u64.wrap (IntKind.i64.wrap (8 * s2)))))]].flatten ++ ([])) := (Els.cons (c := [[.int .u8 (IntKind.u8.wrap (sR .u64 x1 (IntKind.u64.wrap (IntKind.i64.wrap (8 * s2)))))]].flatten) ⟨rfl, (wrap_in _ _)⟩ rfl Els.nil)
      refine o_bsl ([[.int .u8 (IntKind.u8.wrap (sR .u64 x1 (IntKind.u64.wrap (IntKind.i64.wrap (8 * s2)))))]].flatten ++ ([])) te5 zr5 Try.underlying22 hI hA rfl rfl rfl rfl (by kernel_rfl) rfl fun g1 a w hA hI => ?_
      generalize hcs : ([[.int .u8 (IntKind.u8.wrap (sR .u64 x1 (IntKind.u64.wrap (IntKind.i64.wrap (8 * s2)))))]].flatten ++ ([]) : List Value) = cs1 at hE1 hI
      clear hcs
      obtain ⟨hb2, H⟩ := bG H
      have hE3 := ws1.app hE1
      refine o_appL (xs := (s1 : List Int)) (ys := (([IntKind.u8.wrap (sR .u64 x1 (IntKind.u64.wrap (IntKind.i64.wrap (8 * s2))))] : List Int) : List Int)) (j := 1) te5 Try.underlying22 hI rfl hA rfl rfl (src_row hI (j := 0) rfl) hE1.len (hE1.ones (one_RI _)) (by first | decide | (have hq := hb2; (try simp only [List.length_cons, List.length_nil] at hq); (try simp only [List.length_cons, List.length_nil]); (try simp only [maxLen]); omega)) (by first | decide | (have hq := hb2; (try simp only [List.length_cons, List.length_nil] at hq); (try simp only [List.length_cons, List.length_nil]); (try simp only [maxLen]); omega)) rfl fun v1 a w hA hI => 
        stp hA (r_as hA rfl) rfl fun a hA => ?_
      refine o_nil ?_
      refine hN5 _ _ ?_
      refine w_reg ?_
      refine stp hA (r_mv hA rfl) rfl fun a hA => 
        stp hA (r_add hA rfl rfl) rfl fun a hA => 
        stp hA (r_as hA rfl) rfl fun a hA => ?_
      refine o_nil ?_
      exact ⟨m1, Nat.lt_succ_self _, s1 ++ ([IntKind.u8.wrap (sR .u64 x1 (IntKind.u64.wrap (IntKind.i64.wrap (8 * s2))))] : List Int), IntKind.i64.wrap (s2 + 1), v1, ccs1 ++ cs1, H, hE3, (wrap_in _ _), hA.sub ⟨rfl, rfl, rfl, rfl, rfl, trivial⟩, (hI.sel [1] (by decide) rfl)⟩
    · have hc10 := hc1; have hc1 := of_decide_eq_false hc1; have H := bF H hc1
      refine w_exit rfl ?_
      have H : some s1 = some z1 := H
      obtain rfl := Option.some.inj H
      have H := Hk2
      cases Option.some.inj (bS H)
      exact ⟨vvs1, ccs1, ws1, hA.sub ⟨rfl, rfl, rfl, rfl, trivial⟩, hI⟩
  · rintro a w ⟨vvc1, ccc1, wc1, hA, hI⟩
    have H := Hk1
    refine w_seq fun _ hN6 => ?_
    refine w_reg ?_
    refine stp hA (r_mv hA rfl) rfl fun a hA => 
      stp hA (r_as hA rfl) rfl fun a hA => ?_
    refine o_nil ?_
    refine hN6 _ _ ?_
    refine w_ret ?_
    obtain rfl := Option.some.inj (bS H)
    exact ret1 hA Try.results93 rfl ⟨_, rfl, vvc1, ccc1, rfl, wc1, (hI.less (Store.le.refl _) hI.le)⟩

/-! sargassoref1.Put: function 46 -/
set_option maxRecDepth 20000 in
theorem sargassoref1_Put.c (μ : Store) (w0 : World) (hμ : Agr μ w0) (x0 : List Int) (u0 : Value) (k0 : List Value) (hx0 : Els (RI .u8) 1 x0 k0) (ho0 : RowOK μ w0 5 1 u0 x0.length k0) (x1 : Int) (hx1 : InR .u64 x1) (r : List Int) (H : sargassoref1_Put.f x0 x1 = some r) :
    Calls Try.prog 46 [u0, .int .u64 x1].toArray w0 (fun e w' => ∃ v, e = .returned v ∧ ∃ (v0 : Value) (c0 : List Value), v = v0 ∧ Els (RI .u8) 1 r c0 ∧ Iv w0 (row 5 1 u0 x0.length k0).foot μ μ [row 5 1 v0 r.length c0] w') := by
  refine enter Try.func46 rfl Try.ntmps46 rfl fun a hA => ?_
  have hI := ho0.start hμ
  have H := bI H
  refine w_seq fun _ hN1 => ?_
  refine w_reg ?_
  refine stp hA (r_as hA rfl) rfl fun a hA => ?_
  refine o_nil ?_
  refine hN1 _ _ ?_
  refine w_seq fun _ hN2 => ?_
  refine w_seq fun _ hN3 => ?_
  refine w_reg ?_
  refine stp hA (r_mv hA rfl) rfl fun a hA => ?_
  obtain ⟨r1, hr1, H⟩ := bB H
  refine o_callp (u := .int .i64 r1) cf48 hA rfl hI (sargassoref1_Len.c μ _ hI.agr x1 hx1 r1 hr1) rfl fun a w hz1 hI hA => ?_
  refine o_nil ?_
  refine hN3 _ _ ?_
  refine w_block ?_
  refine w_seq fun _ hN4 => ?_
  refine w_reg ?_
  refine stp hA (r_eql hA rfl rfl) rfl fun a hA => 
    stp hA (r_as hA rfl) rfl fun a hA => ?_
  refine o_nil ?_
  refine hN4 _ _ ?_
  refine w_cond hA rfl (fun hc1 => ?_) (fun hc1 => ?_)
  · have hc10 := hc1; have hc1 := of_decide_eq_true hc1; have H := bT H hc1
    refine w_seq fun _ hN5 => ?_
    refine w_reg ?_
    refine stp hA (r_mv hA rfl) rfl fun a hA => 
      stp hA (r_mv hA rfl) rfl fun a hA => 
      stp hA (r_conv Try.underlying45 Try.underlying5 hA rfl) rfl fun a hA => ?_
    have hE1 : Els (RI .u8) 1 ([IntKind.u8.wrap x1] : List Int) ([[.int .u8 (IntKind.u8.wrap x1)]].flatten ++ ([])) := (Els.cons (c := [[.int .u8 (IntKind.u8.wrap x1)]].flatten) ⟨rfl, (wrap_in _ _)⟩ rfl Els.nil)
    refine o_bsl ([[.int .u8 (IntKind.u8.wrap x1)]].flatten ++ ([])) te5 zr5 Try.underlying22 hI hA rfl rfl rfl rfl (by kernel_rfl) rfl fun g1 a w hA hI => ?_
    generalize hcs : ([[.int .u8 (IntKind.u8.wrap x1)]].flatten ++ ([]) : List Value) = cs1 at hE1 hI
    clear hcs
    obtain ⟨hb1, H⟩ := bG H
    have hE3 := hx0.app hE1
    refine o_appL (xs := (x0 : List Int)) (ys := (([IntKind.u8.wrap x1] : List Int) : List Int)) (j := 1) te5 Try.underlying22 hI rfl hA rfl rfl (src_row hI (j := 0) rfl) hE1.len (hE1.ones (one_RI _)) (by first | decide | (have hq := hb1; (try simp only [List.length_cons, List.length_nil] at hq); (try simp only [List.length_cons, List.length_nil]); (try simp only [maxLen]); omega)) (by first | decide | (have hq := hb1; (try simp only [List.length_cons, List.length_nil] at hq); (try simp only [List.length_cons, List.length_nil]); (try simp only [maxLen]); omega)) rfl fun v1 a w hA hI => 
      stp hA (r_as hA rfl) rfl fun a hA => ?_
    refine o_nil ?_
    refine hN5 _ _ ?_
    refine w_ret ?_
    obtain rfl := Option.some.inj (bS H)
    exact ret1 hA Try.results46 rfl ⟨_, rfl, v1, k0 ++ cs1, rfl, hE3, ((hI.sel [1] (by decide) rfl).less (Store.le.refl _) hI.le)⟩
  · have hc10 := hc1; have hc1 := of_decide_eq_false hc1; have H := bF H hc1
    refine w_seq fun _ hN6 => ?_
    refine w_reg ?_
    refine stp hA (r_eql hA rfl rfl) rfl fun a hA => 
      stp hA (r_as hA rfl) rfl fun a hA => ?_
    refine o_nil ?_
    refine hN6 _ _ ?_
    refine w_cond hA rfl (fun hc2 => ?_) (fun hc2 => ?_)
    · have hc20 := hc2; have hc2 := of_decide_eq_true hc2; have H := bT H hc2
      refine w_seq fun _ hN7 => ?_
      refine w_reg ?_
      refine stp hA (r_mv hA rfl) rfl fun a hA => ?_
      have hE4 : Els (RI .u8) 1 ([253] : List Int) ([[.int .u8 253]].flatten ++ ([])) := (Els.cons (c := [[.int .u8 253]].flatten) ⟨rfl, (in_lit .u8 253 rfl)⟩ rfl Els.nil)
      refine o_bsl ([[.int .u8 253]].flatten ++ ([])) te5 zr5 Try.underlying22 hI hA rfl rfl rfl rfl (by kernel_rfl) rfl fun g2 a w hA hI => ?_
      generalize hcs : ([[.int .u8 253]].flatten ++ ([]) : List Value) = cs4 at hE4 hI
      clear hcs
      obtain ⟨hb2, H⟩ := bG H
      have hE6 := hx0.app hE4
      refine o_appL (xs := (x0 : List Int)) (ys := (([253] : List Int) : List Int)) (j := 1) te5 Try.underlying22 hI rfl hA rfl rfl (src_row hI (j := 0) rfl) hE4.len (hE4.ones (one_RI _)) (by first | decide | (have hq := hb2; (try simp only [List.length_cons, List.length_nil] at hq); (try simp only [List.length_cons, List.length_nil]); (try simp only [maxLen]); omega)) (by first | decide | (have hq := hb2; (try simp only [List.length_cons, List.length_nil] at hq); (try simp only [List.length_cons, List.length_nil]); (try simp only [maxLen]); omega)) rfl fun v2 a w hA hI => 
        stp hA (r_mv hA rfl) rfl fun a hA => ?_
      obtain ⟨r2, hr2, H⟩ := bB H
      refine o_call _ cf93 hA rfl (sargassoref1_little.c μ _ hI.agr (x0 ++ ([253] : List Int)) v2 (k0 ++ cs4) hE6 (hI.item (j := 1) rfl) x1 hx1 2 (in_lit .i64 2 rfl) r2 hr2) rfl fun v3 a w hz2 hA => ?_
      obtain ⟨_, cs7, rfl, hE7, hi1⟩ := hz2
      have hI := hI.call1 1 rfl hi1
      refine stp hA (r_as hA rfl) rfl fun a hA => ?_
      refine o_nil ?_
      refine hN7 _ _ ?_
      refine w_ret ?_
      obtain rfl := Option.some.inj (bS H)
      exact ret1 hA Try.results46 rfl ⟨_, rfl, v3, cs7, rfl, hE7, ((hI.sel [0] (by decide) rfl).less (Store.le.refl _) hI.le)⟩
    · have hc20 := hc2; have hc2 := of_decide_eq_false hc2; have H := bF H hc2
      refine w_seq fun _ hN8 => ?_
      refine w_reg ?_
      refine stp hA (r_eql hA rfl rfl) rfl fun a hA => 
        stp hA (r_as hA rfl) rfl fun a hA => ?_
      refine o_nil ?_
      refine hN8 _ _ ?_
      refine w_cond hA rfl (fun hc3 => ?_) (fun hc3 => ?_)
      · have hc30 := hc3; have hc3 := of_decide_eq_true hc3; have H := bT H hc3
        refine w_seq fun _ hN9 => ?_
        refine w_reg ?_
        refine stp hA (r_mv hA rfl) rfl fun a hA => ?_
        have hE8 : Els (RI .u8) 1 ([254] : List Int) ([[.int .u8 254]].flatten ++ ([])) := (Els.cons (c := [[.int .u8 254]].flatten) ⟨rfl, (in_lit .u8 254 rfl)⟩ rfl Els.nil)
        refine o_bsl ([[.int .u8 254]].flatten ++ ([])) te5 zr5 Try.underlying22 hI hA rfl rfl rfl rfl (by kernel_rfl) rfl fun g3 a w hA hI => ?_
        generalize hcs : ([[.int .u8 254]].flatten ++ ([]) : List Value) = cs8 at hE8 hI
        clear hcs
        obtain ⟨hb3, H⟩ := bG H
        have hE10 := hx0.app hE8
        refine o_appL (xs := (x0 : List Int)) (ys := (([254] : List Int) : List Int)) (j := 1) te5 Try.underlying22 hI rfl hA rfl rfl (src_row hI (j := 0) rfl) hE8.len (hE8.ones (one_RI _)) (by first | decide | (have hq := hb3; (try simp only [List.length_cons, List.length_nil] at hq); (try simp only [List.length_cons, List.length_nil]); (try simp only [maxLen]); omega)) (by first | decide | (have hq := hb3; (try simp only [List.length_cons, List.length_nil] at hq); (try simp only [List.length_cons, List.length_nil]); (try simp only [maxLen]); omega)) rfl fun v4 a w hA hI => 
          stp hA (r_mv hA rfl) rfl fun a hA => ?_
        obtain ⟨r3, hr3, H⟩ := bB H
        refine o_call _ cf93 hA rfl (sargassoref1_little.c μ _ hI.agr (x0 ++ ([254] : List Int)) v4 (k0 ++ cs8) hE10 (hI.item (j := 1) rfl) x1 hx1 4 (in_lit .i64 4 rfl) r3 hr3) rfl fun v5 a w hz3 hA => ?_
        obtain ⟨_, cs11, rfl, hE11, hi2⟩ := hz3
        have hI := hI.call1 1 rfl hi2
        refine stp hA (r_as hA rfl) rfl fun a hA => ?_
        refine o_nil ?_
        refine hN9 _ _ ?_
        refine w_ret ?_
        obtain rfl := Option.some.inj (bS H)
        exact ret1 hA Try.results46 rfl ⟨_, rfl, v5, cs11, rfl, hE11, ((hI.sel [0] (by decide) rfl).less (Store.le.refl _) hI.le)⟩
      · have hc30 := hc3; have hc3 := of_decide_eq_false hc3; have H := bF H hc3
        refine w_skip ?_
        refine hN2 _ _ ?_
        refine w_seq fun _ hN10 => ?_
        refine w_reg ?_
        refine stp hA (r_mv hA rfl) rfl fun a hA => ?_
        have hE12 : Els (RI .u8) 1 ([255] : List Int) ([[.int .u8 255]].flatten ++ ([])) := (Els.cons (c := [[.int .u8 255]].flatten) ⟨rfl, (in_lit .u8 255 rfl)⟩ rfl Els.nil)
        refine o_bsl ([[.int .u8 255]].flatten ++ ([])) te5 zr5 Try.underlying22 hI hA rfl rfl rfl rfl (by kernel_rfl) rfl fun g4 a w hA hI => ?_
        generalize hcs : ([[.int .u8 255]].flatten ++ ([]) : List Value) = cs12 at hE12 hI
        clear hcs
        obtain ⟨hb4, H⟩ := bG H
        have hE14 := hx0.app hE12
        refine o_appL (xs := (x0 : List Int)) (ys := (([255] : List Int) : List Int)) (j := 1) te5 Try.underlying22 hI rfl hA rfl rfl (src_row hI (j := 0) rfl) hE12.len (hE12.ones (one_RI _)) (by first | decide | (have hq := hb4; (try simp only [List.length_cons, List.length_nil] at hq); (try simp only [List.length_cons, List.length_nil]); (try simp only [maxLen]); omega)) (by first | decide | (have hq := hb4; (try simp only [List.length_cons, List.length_nil] at hq); (try simp only [List.length_cons, List.length_nil]); (try simp only [maxLen]); omega)) rfl fun v6 a w hA hI => 
          stp hA (r_mv hA rfl) rfl fun a hA => ?_
        obtain ⟨r4, hr4, H⟩ := bB H
        refine o_call _ cf93 hA rfl (sargassoref1_little.c μ _ hI.agr (x0 ++ ([255] : List Int)) v6 (k0 ++ cs12) hE14 (hI.item (j := 1) rfl) x1 hx1 8 (in_lit .i64 8 rfl) r4 hr4) rfl fun v7 a w hz4 hA => ?_
        obtain ⟨_, cs15, rfl, hE15, hi3⟩ := hz4
        have hI := hI.call1 1 rfl hi3
        refine stp hA (r_as hA rfl) rfl fun a hA => ?_
        refine o_nil ?_
        refine hN10 _ _ ?_
        refine w_ret ?_
        obtain rfl := Option.some.inj (bS H)
        exact ret1 hA Try.results46 rfl ⟨_, rfl, v7, cs15, rfl, hE15, ((hI.sel [0] (by decide) rfl).less (Store.le.refl _) hI.le)⟩

/-! compact.Four: function 49 -/
set_option maxRecDepth 20000 in
theorem compact_Four.c (μ : Store) (w0 : World) (hμ : Agr μ w0) (x0 : List Int) (u0 : Value) (hx0 : Slc (RI .u8) 1 μ u0 x0) (x1 : Int) (hx1 : InR .u32 x1) (r : List Int) (H : compact_Four.f x0 x1 = some r) :
    Calls Try.prog 49 [u0, .int .u32 x1].toArray w0 (fun e w' => ∃ v, e = .returned v ∧ ∃ (v0 : Value) (c0 : List Value), v = v0 ∧ Els (RI .u8) 1 r c0 ∧ Iv w0 [] μ μ [row 5 1 v0 r.length c0] w') := by
  refine enter Try.func49 rfl Try.ntmps49 rfl fun a hA => ?_
  have hI := Iv.start hμ
  have H := bI H
  refine w_seq fun _ hN1 => ?_
  refine w_reg ?_
  refine stp hA (r_as hA rfl) rfl fun a hA => ?_
  refine o_nil ?_
  refine hN1 _ _ ?_
  refine w_seq fun _ hN2 => ?_
  refine w_reg ?_
  refine stp hA (r_mv hA rfl) rfl fun a hA => ?_
  obtain ⟨r1, hr1, H⟩ := bB H
  refine o_call _ cf88 hA rfl (bytes_Clone.c μ _ hI.agr x0 u0 hx0 r1 hr1) rfl fun v1 a w hz1 hA => ?_
  obtain ⟨_, cs1, rfl, hE1, hi1⟩ := hz1
  have hI := hI.call hi1
  refine stp hA (r_mv hA rfl) rfl fun a hA => 
    stp hA (r_conv Try.underlying25 Try.underlying45 hA rfl) rfl fun a hA => ?_
  obtain ⟨r2, hr2, H⟩ := bB H
  refine o_call _ cf92 hA rfl (compact_number.c μ _ hI.agr r1 v1 cs1 hE1 (hI.item (j := 0) rfl) (IntKind.u64.wrap x1) (wrap_in _ _) 4 (in_lit .i64 4 rfl) r2 hr2) rfl fun v2 a w hz2 hA => ?_
  obtain ⟨_, cs2, rfl, hE2, hi2⟩ := hz2
  have hI := hI.call1 0 rfl hi2
  refine stp hA (r_as hA rfl) rfl fun a hA => ?_
  refine o_nil ?_
  refine hN2 _ _ ?_
  refine w_ret ?_
  obtain rfl := Option.some.inj (bS H)
  exact ret1 hA Try.results49 rfl ⟨_, rfl, v2, cs2, rfl, hE2, (hI.less (Store.le.refl _) hI.le)⟩

/-! sargassoref1.Four: function 50 -/
set_option maxRecDepth 20000 in
theorem sargassoref1_Four.c (μ : Store) (w0 : World) (hμ : Agr μ w0) (x0 : List Int) (u0 : Value) (k0 : List Value) (hx0 : Els (RI .u8) 1 x0 k0) (ho0 : RowOK μ w0 5 1 u0 x0.length k0) (x1 : Int) (hx1 : InR .u32 x1) (r : List Int) (H : sargassoref1_Four.f x0 x1 = some r) :
    Calls Try.prog 50 [u0, .int .u32 x1].toArray w0 (fun e w' => ∃ v, e = .returned v ∧ ∃ (v0 : Value) (c0 : List Value), v = v0 ∧ Els (RI .u8) 1 r c0 ∧ Iv w0 (row 5 1 u0 x0.length k0).foot μ μ [row 5 1 v0 r.length c0] w') := by
  refine enter Try.func50 rfl Try.ntmps50 rfl fun a hA => ?_
  have hI := ho0.start hμ
  have H := bI H
  refine w_seq fun _ hN1 => ?_
  refine w_reg ?_
  refine stp hA (r_as hA rfl) rfl fun a hA => ?_
  refine o_nil ?_
  refine hN1 _ _ ?_
  refine w_seq fun _ hN2 => ?_
  refine w_reg ?_
  refine stp hA (r_mv hA rfl) rfl fun a hA => 
    stp hA (r_mv hA rfl) rfl fun a hA => 
    stp hA (r_conv Try.underlying25 Try.underlying45 hA rfl) rfl fun a hA => ?_
  obtain ⟨r1, hr1, H⟩ := bB H
  refine o_call _ cf93 hA rfl (sargassoref1_little.c μ _ hI.agr x0 u0 k0 hx0 (hI.item (j := 0) rfl) (IntKind.u64.wrap x1) (wrap_in _ _) 4 (in_lit .i64 4 rfl) r1 hr1) rfl fun v1 a w hz1 hA => ?_
  obtain ⟨_, cs1, rfl, hE1, hi1⟩ := hz1
  have hI := hI.call1 0 rfl hi1
  refine stp hA (r_as hA rfl) rfl fun a hA => ?_
  refine o_nil ?_
  refine hN2 _ _ ?_
  refine w_ret ?_
  obtain rfl := Option.some.inj (bS H)
  exact ret1 hA Try.results50 rfl ⟨_, rfl, v1, cs1, rfl, hE1, (hI.less (Store.le.refl _) hI.le)⟩

/-! compact.Eight: function 51 -/
set_option maxRecDepth 20000 in
theorem compact_Eight.c (μ : Store) (w0 : World) (hμ : Agr μ w0) (x0 : List Int) (u0 : Value) (hx0 : Slc (RI .u8) 1 μ u0 x0) (x1 : Int) (hx1 : InR .u64 x1) (r : List Int) (H : compact_Eight.f x0 x1 = some r) :
    Calls Try.prog 51 [u0, .int .u64 x1].toArray w0 (fun e w' => ∃ v, e = .returned v ∧ ∃ (v0 : Value) (c0 : List Value), v = v0 ∧ Els (RI .u8) 1 r c0 ∧ Iv w0 [] μ μ [row 5 1 v0 r.length c0] w') := by
  refine enter Try.func51 rfl Try.ntmps51 rfl fun a hA => ?_
  have hI := Iv.start hμ
  have H := bI H
  refine w_seq fun _ hN1 => ?_
  refine w_reg ?_
  refine stp hA (r_as hA rfl) rfl fun a hA => ?_
  refine o_nil ?_
  refine hN1 _ _ ?_
  refine w_seq fun _ hN2 => ?_
  refine w_reg ?_
  refine stp hA (r_mv hA rfl) rfl fun a hA => ?_
  obtain ⟨r1, hr1, H⟩ := bB H
  refine o_call _ cf88 hA rfl (bytes_Clone.c μ _ hI.agr x0 u0 hx0 r1 hr1) rfl fun v1 a w hz1 hA => ?_
  obtain ⟨_, cs1, rfl, hE1, hi1⟩ := hz1
  have hI := hI.call hi1
  refine stp hA (r_mv hA rfl) rfl fun a hA => ?_
  obtain ⟨r2, hr2, H⟩ := bB H
  refine o_call _ cf92 hA rfl (compact_number.c μ _ hI.agr r1 v1 cs1 hE1 (hI.item (j := 0) rfl) x1 hx1 8 (in_lit .i64 8 rfl) r2 hr2) rfl fun v2 a w hz2 hA => ?_
  obtain ⟨_, cs2, rfl, hE2, hi2⟩ := hz2
  have hI := hI.call1 0 rfl hi2
  refine stp hA (r_as hA rfl) rfl fun a hA => ?_
  refine o_nil ?_
  refine hN2 _ _ ?_
  refine w_ret ?_
  obtain rfl := Option.some.inj (bS H)
  exact ret1 hA Try.results51 rfl ⟨_, rfl, v2, cs2, rfl, hE2, (hI.less (Store.le.refl _) hI.le)⟩

/-! sargassoref1.Eight: function 52 -/
set_option maxRecDepth 20000 in
theorem sargassoref1_Eight.c (μ : Store) (w0 : World) (hμ : Agr μ w0) (x0 : List Int) (u0 : Value) (k0 : List Value) (hx0 : Els (RI .u8) 1 x0 k0) (ho0 : RowOK μ w0 5 1 u0 x0.length k0) (x1 : Int) (hx1 : InR .u64 x1) (r : List Int) (H : sargassoref1_Eight.f x0 x1 = some r) :
    Calls Try.prog 52 [u0, .int .u64 x1].toArray w0 (fun e w' => ∃ v, e = .returned v ∧ ∃ (v0 : Value) (c0 : List Value), v = v0 ∧ Els (RI .u8) 1 r c0 ∧ Iv w0 (row 5 1 u0 x0.length k0).foot μ μ [row 5 1 v0 r.length c0] w') := by
  refine enter Try.func52 rfl Try.ntmps52 rfl fun a hA => ?_
  have hI := ho0.start hμ
  have H := bI H
  refine w_seq fun _ hN1 => ?_
  refine w_reg ?_
  refine stp hA (r_as hA rfl) rfl fun a hA => ?_
  refine o_nil ?_
  refine hN1 _ _ ?_
  refine w_seq fun _ hN2 => ?_
  refine w_reg ?_
  refine stp hA (r_mv hA rfl) rfl fun a hA => 
    stp hA (r_mv hA rfl) rfl fun a hA => ?_
  obtain ⟨r1, hr1, H⟩ := bB H
  refine o_call _ cf93 hA rfl (sargassoref1_little.c μ _ hI.agr x0 u0 k0 hx0 (hI.item (j := 0) rfl) x1 hx1 8 (in_lit .i64 8 rfl) r1 hr1) rfl fun v1 a w hz1 hA => ?_
  obtain ⟨_, cs1, rfl, hE1, hi1⟩ := hz1
  have hI := hI.call1 0 rfl hi1
  refine stp hA (r_as hA rfl) rfl fun a hA => ?_
  refine o_nil ?_
  refine hN2 _ _ ?_
  refine w_ret ?_
  obtain rfl := Option.some.inj (bS H)
  exact ret1 hA Try.results52 rfl ⟨_, rfl, v1, cs1, rfl, hE1, (hI.less (Store.le.refl _) hI.le)⟩
end Go.Proofs.Ytnbnnphlffhgiaa.T
