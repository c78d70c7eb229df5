/- A helper of this seat's claims: printed by gen.py. It proves no statement by itself. -/
import Derived.Test.YtnbnnphlffhgiaaTy
import Derived.Test.YtnbnnphlffhgiaaF1
namespace Go.Proofs.Ytnbnnphlffhgiaa.T
open Go Go.Proofs Go.Proofs.Ytnbnnphlffhgiaa.K
set_option linter.unusedVariables false
set_option linter.unusedSimpArgs false
/-! math/bits.RotateLeft32: function 116 -/
set_option maxRecDepth 20000 in
theorem math_bits_RotateLeft32.c (μ : Store) (w0 : World) (hμ : Agr μ w0) (x0 : Int) (hx0 : InR .u32 x0) (x1 : Int) (hx1 : InR .i64 x1) (r : Int) (H : math_bits_RotateLeft32.f x0 x1 = some r) :
    Calls Try.prog 116 [.int .u32 x0, .int .i64 x1].toArray w0 (fun e w' => ∃ v, e = .returned v ∧ v = .int .u32 r ∧ InR .u32 r ∧ Iv w0 [] μ μ [] w') := by
  refine enter Try.func116 rfl Try.ntmps116 rfl fun a hA => ?_
  have hI := Iv.start hμ
  have H := bI H
  refine w_seq fun _ hN1 => ?_
  refine w_reg ?_
  refine stp hA (r_as hA rfl) rfl fun a hA => ?_
  refine o_nil ?_
  refine hN1 _ _ ?_
  refine w_seq fun _ hN2 => ?_
  refine w_reg ?_
  refine stp hA (r_mv hA rfl) rfl fun a hA => 
    stp hA (r_conv Try.underlying3 Try.underlying40 hA rfl) rfl fun a hA => 
    stp hA (r_and hA rfl rfl) rfl fun a hA => 
    stp hA (r_as hA rfl) rfl fun a hA => ?_
  refine o_nil ?_
  refine hN2 _ _ ?_
  refine w_seq fun _ hN3 => ?_
  refine w_reg ?_
  refine stp hA (r_mv hA rfl) rfl fun a hA => 
    stp hA (r_mv hA rfl) rfl fun a hA => ?_
  obtain ⟨hb1, H⟩ := bG H
  refine stp hA (r_shl hA rfl rfl hb1) rfl fun a hA => 
    stp hA (r_mv hA rfl) rfl fun a hA => 
    stp hA (r_mv hA rfl) rfl fun a hA => 
    stp hA (r_sub hA rfl rfl) rfl fun a hA => ?_
  obtain ⟨hb2, H⟩ := bG H
  refine stp hA (r_shr hA rfl rfl hb2) rfl fun a hA => 
    stp hA (r_or hA rfl rfl) rfl fun a hA => 
    stp hA (r_as hA rfl) rfl fun a hA => ?_
  refine o_nil ?_
  refine hN3 _ _ ?_
  refine w_ret ?_
  obtain rfl := Option.some.inj (bS H)
  exact ret1 hA Try.results116 rfl ⟨_, rfl, rfl, (wrap_in _ _), hI.forget0⟩

/-! sargassoworld.Number: function 26 -/
set_option maxRecDepth 20000 in
theorem sargassoworld_Number.c (μ : Store) (w0 : World) (hμ : Agr μ w0) (x0 : Int) (hx0 : InR .i64 x0) (x1 : Int) (hx1 : InR .i64 x1) (r : Int) (H : sargassoworld_Number.f x0 x1 = some r) :
    Calls Try.prog 26 [.int .i64 x0, .int .i64 x1].toArray w0 (fun e w' => ∃ v, e = .returned v ∧ v = .int .i64 r ∧ InR .i64 r ∧ Iv w0 [] μ μ [] w') := by
  refine enter Try.func26 rfl Try.ntmps26 rfl fun a hA => ?_
  have hI := Iv.start hμ
  have H := bI H
  refine w_seq fun _ hN1 => ?_
  refine w_reg ?_
  refine stp hA (r_as hA rfl) rfl fun a hA => ?_
  refine o_nil ?_
  refine hN1 _ _ ?_
  refine w_seq fun _ hN2 => ?_
  refine w_reg ?_
  refine stp hA (r_mv hA rfl) rfl fun a hA => 
    stp hA (r_mv hA rfl) rfl fun a hA => ?_
  obtain ⟨hb1, H⟩ := bG H
  refine stp hA (r_rem hA rfl rfl hb1) rfl fun a hA => 
    stp hA (r_as hA rfl) rfl fun a hA => ?_
  refine o_nil ?_
  refine hN2 _ _ ?_
  obtain ⟨c1, hz1, Hk1⟩ := bB H
  refine w_cut (fun a w => InR .i64 c1 ∧ Fr a 15 [(0, .int .i64 x0), (1, .int .i64 x1), (4, .int .i64 0), (5, .int .i64 c1)] ∧ Iv w0 [] μ μ [] w) ?_ ?_
  · have H := bI hz1
    refine w_seq fun _ hN3 => ?_
    refine w_reg ?_
    refine stp hA (r_mv hA rfl) rfl fun a hA => 
      stp hA (r_lss hA rfl rfl) rfl fun a hA => ?_
    refine o_nil ?_
    refine hN3 _ _ ?_
    refine w_cond hA rfl (fun hc1 => ?_) (fun hc1 => ?_)
    · have hc10 := hc1; have hc1 := of_decide_eq_true hc1; have H := bT H hc1
      refine w_reg ?_
      refine stp hA (r_mv hA rfl) rfl fun a hA => 
        stp hA (r_mv hA rfl) rfl fun a hA => 
        stp hA (r_add hA rfl rfl) rfl fun a hA => 
        stp hA (r_as hA rfl) rfl fun a hA => ?_
      refine o_nil ?_
      cases Option.some.inj (bS H)
      exact ⟨(wrap_in _ _), hA.sub ⟨rfl, rfl, rfl, rfl, trivial⟩, hI⟩
    · have hc10 := hc1; have hc1 := of_decide_eq_false hc1; have H := bF H hc1
      refine w_skip ?_
      cases Option.some.inj (bS H)
      exact ⟨(tmod_in hx0 _), hA.sub ⟨rfl, rfl, rfl, rfl, trivial⟩, hI⟩
  · rintro a w ⟨wc1, hA, hI⟩
    have H := Hk1
    refine w_seq fun _ hN4 => ?_
    refine w_reg ?_
    refine stp hA (r_mv hA rfl) rfl fun a hA => 
      stp hA (r_as hA rfl) rfl fun a hA => ?_
    refine o_nil ?_
    refine hN4 _ _ ?_
    refine w_ret ?_
    obtain rfl := Option.some.inj (bS H)
    exact ret1 hA Try.results26 rfl ⟨_, rfl, rfl, wc1, hI.forget0⟩

/-! sargassoref.SameHash: function 28 -/
set_option maxRecDepth 20000 in
theorem sargassoref_SameHash.c (μ : Store) (w0 : World) (hμ : Agr μ w0) (x0 : List Int) (hx0 : Arr .u8 32 x0) (x1 : List Int) (hx1 : Arr .u8 32 x1) (r : Bool) (H : sargassoref_SameHash.f x0 x1 = some r) :
    Calls Try.prog 28 [.agg [av .u8 32 x0].flatten.toArray, .agg [av .u8 32 x1].flatten.toArray].toArray w0 (fun e w' => ∃ v, e = .returned v ∧ v = .bool r ∧ True ∧ Iv w0 [] μ μ [] w') := by
  refine enter Try.func28 rfl Try.ntmps28 rfl fun a hA => ?_
  have hI := Iv.start hμ
  have H := bI H
  refine w_seq fun _ hN1 => ?_
  refine w_reg ?_
  refine o_box [av .u8 32 x0] hI hA rfl rfl rfl fun g1 a w hA hI hg1 => 
    o_box [av .u8 32 x1] hI hA rfl rfl rfl fun g2 a w hA hI hg2 => 
    stp hA (r_as hA rfl) rfl fun a hA => ?_
  refine o_nil ?_
  refine hN1 _ _ ?_
  refine w_seq fun _ hN2 => ?_
  refine w_seq fun _ hN3 => ?_
  refine w_reg ?_
  refine stp hA (r_as hA rfl) rfl fun a hA => ?_
  refine o_nil ?_
  refine hN3 _ _ ?_
  refine w_block ?_
  obtain ⟨z1, hz1, Hk1⟩ := bind_some H
  obtain ⟨n1, hn1⟩ := loopO_some hz1
  refine w_loop (fun n a w => ∃ (s1 : Int), loopN (sargassoref_SameHash.s0 x0 x1) n s1 = some z1 ∧ InR .i64 s1 ∧ Fr a 17 [(0, .agg [av .u8 32 x0].flatten.toArray), (1, .agg [av .u8 32 x1].flatten.toArray), (2, .pointer (some ⟨g1, 0, none⟩)), (3, .pointer (some ⟨g2, 0, none⟩)), (4, .bool false), (5, .int .i64 s1)] ∧ Iv w0 [] μ μ [cel g2 [av .u8 32 x1] 33, cel g1 [av .u8 32 x0] 33] w) n1 ⟨0, hn1, (in_lit .i64 0 rfl), hA.sub ⟨rfl, rfl, rfl, rfl, rfl, rfl, trivial⟩, hI⟩ ?_
  clear hA hI
  rintro n a w ⟨s1, hn1, ws1, hA, hI⟩
  obtain ⟨m1, rfl, H⟩ := loopN_bind hn1
  clear hn1
  refine w_seq fun _ hN4 => ?_
  refine w_seq fun _ hN5 => ?_
  refine w_reg ?_
  refine stp hA (r_mv hA rfl) rfl fun a hA => 
    stp hA (r_lss hA rfl rfl) rfl fun a hA => ?_
  refine o_nil ?_
  refine hN5 _ _ ?_
  refine w_cond hA rfl (fun hc1 => ?_) (fun hc1 => ?_)
  · have hc10 := hc1; have hc1 := of_decide_eq_true hc1; have H := bT H hc1
    refine w_skip ?_
    refine hN4 _ _ ?_
    refine w_seq fun _ hN6 => ?_
    refine w_block ?_
    refine w_seq fun _ hN7 => ?_
    refine w_draw mo (by kernel_rfl) hI ?_
    refine qtp hA (fun _ hI => r_mv hA rfl) rfl fun a hA => ?_
    obtain ⟨hb1, H⟩ := bG H
    refine qtp hA (fun _ hI => r_ixar1 Try.underlying33 sz5 hA rfl rfl hb1.1 hb1.2) rfl fun a hA => 
      qtp hA (fun _ hI => r_ldE (j := 1) [] [] Try.underlying5 rfl hI rfl hA rfl rfl (by omega)) rfl fun a hA => 
      qtp hA (fun _ hI => r_mv hA rfl) rfl fun a hA => 
      qtp hA (fun _ hI => r_ixar1 Try.underlying33 sz5 hA rfl rfl hb1.1 hb1.2) rfl fun a hA => 
      qtp hA (fun _ hI => r_ldE (j := 0) [] [] Try.underlying5 rfl hI rfl hA rfl rfl (by omega)) rfl fun a hA => 
      qtp hA (fun _ hI => r_neq hA rfl rfl) rfl fun a hA => ?_
    refine q_nil fun w hI => ?_
    refine hN7 _ _ ?_
    refine w_cond hA rfl (fun hc2 => ?_) (fun hc2 => ?_)
    · have hc20 := hc2; have hc2 := of_decide_eq_true hc2; have H := bT H hc2
      refine w_seq fun _ hN8 => ?_
      refine w_reg ?_
      refine stp hA (r_as hA rfl) rfl fun a hA => ?_
      refine o_nil ?_
      refine hN8 _ _ ?_
      refine w_ret ?_
      have H : some false = some z1 := H
      obtain rfl := Option.some.inj H
      have H := Hk1
      obtain rfl := Option.some.inj (bS H)
      exact ret1 hA Try.results28 rfl ⟨_, rfl, rfl, trivial, hI.forget0⟩
    · have hc20 := hc2; have hc2 := of_decide_eq_false hc2; have H := bF H hc2
      refine w_skip ?_
      refine hN6 _ _ ?_
      refine w_reg ?_
      refine stp hA (r_mv hA rfl) rfl fun a hA => 
        stp hA (r_add hA rfl rfl) rfl fun a hA => 
        stp hA (r_as hA rfl) rfl fun a hA => ?_
      refine o_nil ?_
      exact ⟨m1, Nat.lt_succ_self _, IntKind.i64.wrap (s1 + 1), H, (wrap_in _ _), hA.sub ⟨rfl, rfl, rfl, rfl, rfl, rfl, trivial⟩, hI⟩
  · have hc10 := hc1; have hc1 := of_decide_eq_false hc1; have H := bF H hc1
    refine w_exit rfl ?_
    refine hN2 _ _ ?_
    refine w_seq fun _ hN9 => ?_
    refine w_reg ?_
    refine stp hA (r_as hA rfl) rfl fun a hA => ?_
    refine o_nil ?_
    refine hN9 _ _ ?_
    refine w_ret ?_
    have H : some true = some z1 := H
    obtain rfl := Option.some.inj H
    have H := Hk1
    obtain rfl := Option.some.inj (bS H)
    exact ret1 hA Try.results28 rfl ⟨_, rfl, rfl, trivial, hI.forget0⟩

/-! sargassoref.Bytes: function 34 -/
set_option maxRecDepth 20000 in
theorem sargassoref_Bytes.c (μ : Store) (w0 : World) (hμ : Agr μ w0) (x0 : List Int) (u0 : Value) (hx0 : Slc (RI .u8) 1 μ u0 x0) (r : List Int) (H : sargassoref_Bytes.f x0 = some r) :
    Calls Try.prog 34 [u0].toArray w0 (fun e w' => ∃ v, e = .returned v ∧ ∃ (v0 : Value) (c0 : List Value), v = v0 ∧ Els (RI .u8) 1 r c0 ∧ Iv w0 [] μ μ [row 5 1 v0 r.length c0] w') := by
  refine enter Try.func34 rfl Try.ntmps34 rfl fun a hA => ?_
  have hI := Iv.start hμ
  have H := bI H
  refine w_seq fun _ hN1 => ?_
  refine w_reg ?_
  refine stp hA (r_as hA rfl) rfl fun a hA => ?_
  refine o_nil ?_
  refine hN1 _ _ ?_
  refine w_seq fun _ hN2 => ?_
  refine w_reg ?_
  refine stp hA (r_mv hA rfl) rfl fun a hA => ?_
  obtain ⟨_, hsl1⟩ := Slc.sv hx0
  refine stp hA (r_slen Try.underlying22 hsl1 hA rfl) rfl fun a hA => ?_
  obtain ⟨hb1, H⟩ := bG H
  refine o_make (RE := (RI .u8)) (c0 := [[.int .u8 0]].flatten) (z0 := 0) ⟨rfl, (in_lit .u8 0 rfl)⟩ te5 rfl zr5 Try.underlying22 hI hA rfl rfl (by have hq := hb1; simp only [maxLen]; omega) rfl fun g1 cs1 a w hE1 hA hI => 
    stp hA (r_as hA rfl) rfl fun a hA => ?_
  refine o_nil ?_
  refine hN2 _ _ ?_
  obtain ⟨c1, hz1, Hk1⟩ := bB H
  refine w_cut (fun a w => ∃ (vvc1 : Value) (ccc1 : List Value), Els (RI .u8) 1 c1 ccc1 ∧ Fr a 22 [(0, u0), (2, (.slice none 0 0)), (3, vvc1)] ∧ Iv w0 [] μ μ [row 5 1 vvc1 c1.length ccc1] w) ?_ ?_
  · have H := bI hz1
    refine w_seq fun _ hN3 => ?_
    refine w_reg ?_
    refine stp hA (r_as hA rfl) rfl fun a hA => ?_
    refine o_nil ?_
    refine hN3 _ _ ?_
    refine w_block ?_
    obtain ⟨z1, hz2, Hk2⟩ := bind_some H
    obtain ⟨n1, hn1⟩ := loopO_some hz2
    refine w_loop (fun n a w => ∃ (s1 : List Int) (s2 : Int) (vvs1 : Value) (ccs1 : List Value), loopN (sargassoref_Bytes.s0 x0) n (s1, s2) = some z1 ∧ Els (RI .u8) 1 s1 ccs1 ∧ InR .i64 s2 ∧ Fr a 22 [(0, u0), (2, (.slice none 0 0)), (3, vvs1), (4, .int .i64 s2)] ∧ Iv w0 [] μ μ [row 5 1 vvs1 s1.length ccs1] w) n1 ⟨List.replicate ((0 : Int).toNat) 0, 0, (.slice (some ⟨g1, 0, none⟩) ((0 : Int).toNat) (((x0.length : Int)).toNat)), cs1, hn1, hE1, (in_lit .i64 0 rfl), hA.sub ⟨rfl, rfl, rfl, rfl, trivial⟩, hI⟩ ?_
    clear hA hI
    rintro n a w ⟨s1, s2, vvs1, ccs1, hn1, ws1, ws2, hA, hI⟩
    obtain ⟨m1, rfl, H⟩ := loopN_bind hn1
    clear hn1
    refine w_seq fun _ hN4 => ?_
    refine w_seq fun _ hN5 => ?_
    refine w_reg ?_
    refine stp hA (r_mv hA rfl) rfl fun a hA => 
      stp hA (r_mv hA rfl) rfl fun a hA => ?_
    obtain ⟨_, hsl2⟩ := Slc.sv hx0
    refine stp hA (r_slen Try.underlying22 hsl2 hA rfl) rfl fun a hA => 
      stp hA (r_lss hA rfl rfl) rfl fun a hA => ?_
    refine o_nil ?_
    refine hN5 _ _ ?_
    refine w_cond hA rfl (fun hc1 => ?_) (fun hc1 => ?_)
    · have hc10 := hc1; have hc1 := of_decide_eq_true hc1; have H := bT H hc1
      refine w_skip ?_
      refine hN4 _ _ ?_
      refine w_seq fun _ hN6 => ?_
      refine w_block ?_
      refine w_reg ?_
      refine stp hA (r_mv hA rfl) rfl fun a hA => 
        stp hA (r_mv hA rfl) rfl fun a hA => 
        stp hA (r_mv hA rfl) rfl fun a hA => ?_
      obtain ⟨hb2, H⟩ := bG H
      obtain ⟨_, he1, _, hat1⟩ := Slc.elem1 hx0 (getD_some 0 hb2.1 hb2.2)
      obtain ⟨rfl, hw1⟩ := he1
      obtain ⟨_, hsl3⟩ := Slc.sv hx0
      refine stp hA (r_six1 Try.underlying22 sz5 hsl3 hA rfl rfl hb2.1 hb2.2) rfl fun a hA => 
        stp hA (r_ldm1 [] [] Try.underlying5 rfl hI.agr hat1 hA rfl rfl) rfl fun a hA => ?_
      have hE2 : Els (RI .u8) 1 ([(x0.getD s2.toNat 0)] : List Int) ([[.int .u8 (x0.getD s2.toNat 0)]].flatten ++ ([])) := (Els.cons (c := [[.int .u8 (x0.getD s2.toNat 0)]].flatten) ⟨rfl, hw1⟩ rfl Els.nil)
      refine o_bsl ([[.int .u8 (x0.getD s2.toNat 0)]].flatten ++ ([])) te5 zr5 Try.underlying22 hI hA rfl rfl rfl rfl (by kernel_rfl) rfl fun g2 a w hA hI => ?_
      generalize hcs : ([[.int .u8 (x0.getD s2.toNat 0)]].flatten ++ ([]) : List Value) = cs2 at hE2 hI
      clear hcs
      obtain ⟨hb3, H⟩ := bG H
      have hE4 := ws1.app hE2
      refine o_appL (xs := (s1 : List Int)) (ys := (([(x0.getD s2.toNat 0)] : List Int) : List Int)) (j := 1) te5 Try.underlying22 hI rfl hA rfl rfl (src_row hI (j := 0) rfl) hE2.len (hE2.ones (one_RI _)) (by first | decide | (have hq := hb3; (try simp only [List.length_cons, List.length_nil] at hq); (try simp only [List.length_cons, List.length_nil]); (try simp only [maxLen]); omega)) (by first | decide | (have hq := hb3; (try simp only [List.length_cons, List.length_nil] at hq); (try simp only [List.length_cons, List.length_nil]); (try simp only [maxLen]); omega)) rfl fun v1 a w hA hI => 
        stp hA (r_as hA rfl) rfl fun a hA => ?_
      refine o_nil ?_
      refine hN6 _ _ ?_
      refine w_reg ?_
      refine stp hA (r_mv hA rfl) rfl fun a hA => 
        stp hA (r_add hA rfl rfl) rfl fun a hA => 
        stp hA (r_as hA rfl) rfl fun a hA => ?_
      refine o_nil ?_
      exact ⟨m1, Nat.lt_succ_self _, s1 ++ ([(x0.getD s2.toNat 0)] : List Int), IntKind.i64.wrap (s2 + 1), v1, ccs1 ++ cs2, H, hE4, (wrap_in _ _), hA.sub ⟨rfl, rfl, rfl, rfl, trivial⟩, (hI.sel [1] (by decide) rfl)⟩
    · have hc10 := hc1; have hc1 := of_decide_eq_false hc1; have H := bF H hc1
      refine w_exit rfl ?_
      have H : some s1 = some z1 := H
      obtain rfl := Option.some.inj H
      have H := Hk2
      cases Option.some.inj (bS H)
      exact ⟨vvs1, ccs1, ws1, hA.sub ⟨rfl, rfl, rfl, trivial⟩, hI⟩
  · rintro a w ⟨vvc1, ccc1, wc1, hA, hI⟩
    have H := Hk1
    refine w_seq fun _ hN7 => ?_
    refine w_reg ?_
    refine stp hA (r_mv hA rfl) rfl fun a hA => 
      stp hA (r_as hA rfl) rfl fun a hA => ?_
    refine o_nil ?_
    refine hN7 _ _ ?_
    refine w_ret ?_
    obtain rfl := Option.some.inj (bS H)
    exact ret1 hA Try.results34 rfl ⟨_, rfl, vvc1, ccc1, rfl, wc1, (hI.less (Store.le.refl _) hI.le)⟩

/-! sargassoref.LessHash: function 39 -/
set_option maxRecDepth 20000 in
theorem sargassoref_LessHash.c (μ : Store) (w0 : World) (hμ : Agr μ w0) (x0 : List Int) (hx0 : Arr .u8 32 x0) (x1 : List Int) (hx1 : Arr .u8 32 x1) (r : Bool) (H : sargassoref_LessHash.f x0 x1 = some r) :
    Calls Try.prog 39 [.agg [av .u8 32 x0].flatten.toArray, .agg [av .u8 32 x1].flatten.toArray].toArray w0 (fun e w' => ∃ v, e = .returned v ∧ v = .bool r ∧ True ∧ Iv w0 [] μ μ [] w') := by
  refine enter Try.func39 rfl Try.ntmps39 rfl fun a hA => ?_
  have hI := Iv.start hμ
  have H := bI H
  refine w_seq fun _ hN1 => ?_
  refine w_reg ?_
  refine o_box [av .u8 32 x0] hI hA rfl rfl rfl fun g1 a w hA hI hg1 => 
    o_box [av .u8 32 x1] hI hA rfl rfl rfl fun g2 a w hA hI hg2 => 
    stp hA (r_as hA rfl) rfl fun a hA => ?_
  refine o_nil ?_
  refine hN1 _ _ ?_
  refine w_seq fun _ hN2 => ?_
  refine w_seq fun _ hN3 => ?_
  refine w_reg ?_
  refine stp hA (r_as hA rfl) rfl fun a hA => ?_
  refine o_nil ?_
  refine hN3 _ _ ?_
  refine w_block ?_
  obtain ⟨z1, hz1, Hk1⟩ := bind_some H
  obtain ⟨n1, hn1⟩ := loopO_some hz1
  refine w_loop (fun n a w => ∃ (s1 : Int), loopN (sargassoref_LessHash.s0 x0 x1) n s1 = some z1 ∧ InR .i64 s1 ∧ Fr a 24 [(0, .agg [av .u8 32 x0].flatten.toArray), (1, .agg [av .u8 32 x1].flatten.toArray), (2, .pointer (some ⟨g1, 0, none⟩)), (3, .pointer (some ⟨g2, 0, none⟩)), (4, .bool false), (5, .int .i64 s1)] ∧ Iv w0 [] μ μ [cel g2 [av .u8 32 x1] 33, cel g1 [av .u8 32 x0] 33] w) n1 ⟨0, hn1, (in_lit .i64 0 rfl), hA.sub ⟨rfl, rfl, rfl, rfl, rfl, rfl, trivial⟩, hI⟩ ?_
  clear hA hI
  rintro n a w ⟨s1, hn1, ws1, hA, hI⟩
  obtain ⟨m1, rfl, H⟩ := loopN_bind hn1
  clear hn1
  refine w_seq fun _ hN4 => ?_
  refine w_seq fun _ hN5 => ?_
  refine w_reg ?_
  refine stp hA (r_mv hA rfl) rfl fun a hA => 
    stp hA (r_lss hA rfl rfl) rfl fun a hA => ?_
  refine o_nil ?_
  refine hN5 _ _ ?_
  refine w_cond hA rfl (fun hc1 => ?_) (fun hc1 => ?_)
  · have hc10 := hc1; have hc1 := of_decide_eq_true hc1; have H := bT H hc1
    refine w_skip ?_
    refine hN4 _ _ ?_
    refine w_seq fun _ hN6 => ?_
    refine w_block ?_
    refine w_seq fun _ hN7 => ?_
    refine w_draw mo (by kernel_rfl) hI ?_
    refine qtp hA (fun _ hI => r_mv hA rfl) rfl fun a hA => ?_
    obtain ⟨hb1, H⟩ := bG H
    refine qtp hA (fun _ hI => r_ixar1 Try.underlying33 sz5 hA rfl rfl hb1.1 hb1.2) rfl fun a hA => 
      qtp hA (fun _ hI => r_ldE (j := 1) [] [] Try.underlying5 rfl hI rfl hA rfl rfl (by omega)) rfl fun a hA => 
      qtp hA (fun _ hI => r_mv hA rfl) rfl fun a hA => 
      qtp hA (fun _ hI => r_ixar1 Try.underlying33 sz5 hA rfl rfl hb1.1 hb1.2) rfl fun a hA => 
      qtp hA (fun _ hI => r_ldE (j := 0) [] [] Try.underlying5 rfl hI rfl hA rfl rfl (by omega)) rfl fun a hA => 
      qtp hA (fun _ hI => r_neq hA rfl rfl) rfl fun a hA => ?_
    refine q_nil fun w hI => ?_
    refine hN7 _ _ ?_
    refine w_cond hA rfl (fun hc2 => ?_) (fun hc2 => ?_)
    · have hc20 := hc2; have hc2 := of_decide_eq_true hc2; have H := bT H hc2
      refine w_seq fun _ hN8 => ?_
      refine w_draw mo (by kernel_rfl) hI ?_
      refine qtp hA (fun _ hI => r_mv hA rfl) rfl fun a hA => 
        qtp hA (fun _ hI => r_ixar1 Try.underlying33 sz5 hA rfl rfl hb1.1 hb1.2) rfl fun a hA => 
        qtp hA (fun _ hI => r_ldE (j := 1) [] [] Try.underlying5 rfl hI rfl hA rfl rfl (by omega)) rfl fun a hA => 
        qtp hA (fun _ hI => r_mv hA rfl) rfl fun a hA => 
        qtp hA (fun _ hI => r_ixar1 Try.underlying33 sz5 hA rfl rfl hb1.1 hb1.2) rfl fun a hA => 
        qtp hA (fun _ hI => r_ldE (j := 0) [] [] Try.underlying5 rfl hI rfl hA rfl rfl (by omega)) rfl fun a hA => 
        qtp hA (fun _ hI => r_lss hA rfl rfl) rfl fun a hA => 
        qtp hA (fun _ hI => r_as hA rfl) rfl fun a hA => ?_
      refine q_nil fun w hI => ?_
      refine hN8 _ _ ?_
      refine w_ret ?_
      have H : some (decide ((x0.getD s1.toNat 0) < (x1.getD s1.toNat 0))) = some z1 := H
      obtain rfl := Option.some.inj H
      have H := Hk1
      obtain rfl := Option.some.inj (bS H)
      exact ret1 hA Try.results39 rfl ⟨_, rfl, rfl, trivial, hI.forget0⟩
    · have hc20 := hc2; have hc2 := of_decide_eq_false hc2; have H := bF H hc2
      refine w_skip ?_
      refine hN6 _ _ ?_
      refine w_reg ?_
      refine stp hA (r_mv hA rfl) rfl fun a hA => 
        stp hA (r_add hA rfl rfl) rfl fun a hA => 
        stp hA (r_as hA rfl) rfl fun a hA => ?_
      refine o_nil ?_
      exact ⟨m1, Nat.lt_succ_self _, IntKind.i64.wrap (s1 + 1), H, (wrap_in _ _), hA.sub ⟨rfl, rfl, rfl, rfl, rfl, rfl, trivial⟩, hI⟩
  · have hc10 := hc1; have hc1 := of_decide_eq_false hc1; have H := bF H hc1
    refine w_exit rfl ?_
    refine hN2 _ _ ?_
    refine w_seq fun _ hN9 => ?_
    refine w_reg ?_
    refine stp hA (r_as hA rfl) rfl fun a hA => ?_
    refine o_nil ?_
    refine hN9 _ _ ?_
    refine w_ret ?_
    have H : some false = some z1 := H
    obtain rfl := Option.some.inj H
    have H := Hk1
    obtain rfl := Option.some.inj (bS H)
    exact ret1 hA Try.results39 rfl ⟨_, rfl, rfl, trivial, hI.forget0⟩

/-! sargassoref.SameBytes: function 44 -/
set_option maxRecDepth 20000 in
theorem sargassoref_SameBytes.c (μ : Store) (w0 : World) (hμ : Agr μ w0) (x0 : List Int) (u0 : Value) (hx0 : Slc (RI .u8) 1 μ u0 x0) (x1 : List Int) (u1 : Value) (hx1 : Slc (RI .u8) 1 μ u1 x1) (r : Bool) (H : sargassoref_SameBytes.f x0 x1 = some r) :
    Calls Try.prog 44 [u0, u1].toArray w0 (fun e w' => ∃ v, e = .returned v ∧ v = .bool r ∧ True ∧ Iv w0 [] μ μ [] w') := by
  refine enter Try.func44 rfl Try.ntmps44 rfl fun a hA => ?_
  have hI := Iv.start hμ
  have H := bI H
  refine w_seq fun _ hN1 => ?_
  refine w_reg ?_
  refine stp hA (r_as hA rfl) rfl fun a hA => ?_
  refine o_nil ?_
  refine hN1 _ _ ?_
  refine w_seq fun _ hN2 => ?_
  refine w_seq fun _ hN3 => ?_
  refine w_reg ?_
  refine stp hA (r_mv hA rfl) rfl fun a hA => ?_
  obtain ⟨_, hsl1⟩ := Slc.sv hx0
  refine stp hA (r_slen Try.underlying22 hsl1 hA rfl) rfl fun a hA => 
    stp hA (r_mv hA rfl) rfl fun a hA => ?_
  obtain ⟨_, hsl2⟩ := Slc.sv hx1
  refine stp hA (r_slen Try.underlying22 hsl2 hA rfl) rfl fun a hA => 
    stp hA (r_neq hA rfl rfl) rfl fun a hA => ?_
  refine o_nil ?_
  refine hN3 _ _ ?_
  refine w_cond hA rfl (fun hc1 => ?_) (fun hc1 => ?_)
  · have hc10 := hc1; have hc1 := of_decide_eq_true hc1; have H := bT H hc1
    refine w_seq fun _ hN4 => ?_
    refine w_reg ?_
    refine stp hA (r_as hA rfl) rfl fun a hA => ?_
    refine o_nil ?_
    refine hN4 _ _ ?_
    refine w_ret ?_
    obtain rfl := Option.some.inj (bS H)
    exact ret1 hA Try.results44 rfl ⟨_, rfl, rfl, trivial, hI.forget0⟩
  · have hc10 := hc1; have hc1 := of_decide_eq_false hc1; have H := bF H hc1
    refine w_skip ?_
    refine hN2 _ _ ?_
    refine w_seq fun _ hN5 => ?_
    refine w_seq fun _ hN6 => ?_
    refine w_reg ?_
    refine stp hA (r_as hA rfl) rfl fun a hA => ?_
    refine o_nil ?_
    refine hN6 _ _ ?_
    refine w_block ?_
    obtain ⟨z1, hz1, Hk1⟩ := bind_some H
    obtain ⟨n1, hn1⟩ := loopO_some hz1
    refine w_loop (fun n a w => ∃ (s1 : Int), loopN (sargassoref_SameBytes.s0 x0 x1) n s1 = some z1 ∧ InR .i64 s1 ∧ Fr a 29 [(0, u0), (1, u1), (4, .bool false), (5, .int .i64 s1), (11, .bool (decide ((x0.length : Int) ≠ (x1.length : Int))))] ∧ Iv w0 [] μ μ [] w) n1 ⟨0, hn1, (in_lit .i64 0 rfl), hA.sub ⟨rfl, rfl, rfl, rfl, rfl, trivial⟩, hI⟩ ?_
    clear hA hI
    rintro n a w ⟨s1, hn1, ws1, hA, hI⟩
    obtain ⟨m1, rfl, H⟩ := loopN_bind hn1
    clear hn1
    refine w_seq fun _ hN7 => ?_
    refine w_seq fun _ hN8 => ?_
    refine w_reg ?_
    refine stp hA (r_mv hA rfl) rfl fun a hA => 
      stp hA (r_mv hA rfl) rfl fun a hA => ?_
    obtain ⟨_, hsl3⟩ := Slc.sv hx0
    refine stp hA (r_slen Try.underlying22 hsl3 hA rfl) rfl fun a hA => 
      stp hA (r_lss hA rfl rfl) rfl fun a hA => ?_
    refine o_nil ?_
    refine hN8 _ _ ?_
    refine w_cond hA rfl (fun hc2 => ?_) (fun hc2 => ?_)
    · have hc20 := hc2; have hc2 := of_decide_eq_true hc2; have H := bT H hc2
      refine w_skip ?_
      refine hN7 _ _ ?_
      refine w_seq fun _ hN9 => ?_
      refine w_block ?_
      refine w_seq fun _ hN10 => ?_
      refine w_draw mo (by kernel_rfl) hI ?_
      refine qtp hA (fun _ hI => r_mv hA rfl) rfl fun a hA => 
        qtp hA (fun _ hI => r_mv hA rfl) rfl fun a hA => ?_
      obtain ⟨hb1, H⟩ := bG H
      obtain ⟨_, he1, _, hat1⟩ := Slc.elem1 hx0 (getD_some 0 hb1.1 hb1.2)
      obtain ⟨rfl, hw1⟩ := he1
      obtain ⟨_, hsl4⟩ := Slc.sv hx0
      refine qtp hA (fun _ hI => r_six1 Try.underlying22 sz5 hsl4 hA rfl rfl hb1.1 hb1.2) rfl fun a hA => 
        qtp hA (fun _ hI => r_ldm1 [] [] Try.underlying5 rfl hI.agr hat1 hA rfl rfl) rfl fun a hA => 
        qtp hA (fun _ hI => r_mv hA rfl) rfl fun a hA => 
        qtp hA (fun _ hI => r_mv hA rfl) rfl fun a hA => ?_
      obtain ⟨hb2, H⟩ := bG H
      obtain ⟨_, he2, _, hat2⟩ := Slc.elem1 hx1 (getD_some 0 hb2.1 hb2.2)
      obtain ⟨rfl, hw2⟩ := he2
      obtain ⟨_, hsl5⟩ := Slc.sv hx1
      refine qtp hA (fun _ hI => r_six1 Try.underlying22 sz5 hsl5 hA rfl rfl hb2.1 hb2.2) rfl fun a hA => 
        qtp hA (fun _ hI => r_ldm1 [] [] Try.underlying5 rfl hI.agr hat2 hA rfl rfl) rfl fun a hA => 
        qtp hA (fun _ hI => r_eql hA rfl rfl) rfl fun a hA => 
        qtp hA (fun _ hI => r_as hA rfl) rfl fun a hA => ?_
      refine q_nil fun w hI => ?_
      refine hN10 _ _ ?_
      refine w_seq fun _ hN11 => ?_
      refine w_reg ?_
      refine stp hA (r_mv hA rfl) rfl fun a hA => 
        stp hA (r_not hA rfl) rfl fun a hA => ?_
      refine o_nil ?_
      refine hN11 _ _ ?_
      refine w_cond hA rfl (fun hc3 => ?_) (fun hc3 => ?_)
      · have hc30 := hc3; have hc3 := nT hc3; have hc3 := of_decide_eq_false hc3; have H := bF H hc3
        refine w_seq fun _ hN12 => ?_
        refine w_reg ?_
        refine stp hA (r_as hA rfl) rfl fun a hA => ?_
        refine o_nil ?_
        refine hN12 _ _ ?_
        refine w_ret ?_
        have H : some false = some z1 := H
        obtain rfl := Option.some.inj H
        have H := Hk1
        obtain rfl := Option.some.inj (bS H)
        exact ret1 hA Try.results44 rfl ⟨_, rfl, rfl, trivial, hI.forget0⟩
      · have hc30 := hc3; have hc3 := nF hc3; have hc3 := of_decide_eq_true hc3; have H := bT H hc3
        refine w_skip ?_
        refine hN9 _ _ ?_
        refine w_reg ?_
        refine stp hA (r_mv hA rfl) rfl fun a hA => 
          stp hA (r_add hA rfl rfl) rfl fun a hA => 
          stp hA (r_as hA rfl) rfl fun a hA => ?_
        refine o_nil ?_
        exact ⟨m1, Nat.lt_succ_self _, IntKind.i64.wrap (s1 + 1), H, (wrap_in _ _), hA.sub ⟨rfl, rfl, rfl, rfl, rfl, trivial⟩, hI⟩
    · have hc20 := hc2; have hc2 := of_decide_eq_false hc2; have H := bF H hc2
      refine w_exit rfl ?_
      refine hN5 _ _ ?_
      refine w_seq fun _ hN13 => ?_
      refine w_reg ?_
      refine stp hA (r_as hA rfl) rfl fun a hA => ?_
      refine o_nil ?_
      refine hN13 _ _ ?_
      refine w_ret ?_
      have H : some true = some z1 := H
      obtain rfl := Option.some.inj H
      have H := Hk1
      obtain rfl := Option.some.inj (bS H)
      exact ret1 hA Try.results44 rfl ⟨_, rfl, rfl, trivial, hI.forget0⟩

/-! sargassoref.SamePoint: function 58 -/
set_option maxRecDepth 20000 in
theorem sargassoref_SamePoint.c (μ : Store) (w0 : World) (hμ : Agr μ w0) (x0 : Point) (hx0 : PointW μ x0) (x1 : Point) (hx1 : PointW μ x1) (r : Bool) (H : sargassoref_SamePoint.f x0 x1 = some r) :
    Calls Try.prog 58 [.agg [av .u8 32 x0.Tx, [.int .u32 x0.N]].flatten.toArray, .agg [av .u8 32 x1.Tx, [.int .u32 x1.N]].flatten.toArray].toArray w0 (fun e w' => ∃ v, e = .returned v ∧ v = .bool r ∧ True ∧ Iv w0 [] μ μ [] w') := by
  refine enter Try.func58 rfl Try.ntmps58 rfl fun a hA => ?_
  have hI := Iv.start hμ
  have H := bI H
  refine w_seq fun _ hN1 => ?_
  refine w_reg ?_
  refine o_box [av .u8 32 x0.Tx, [.int .u32 x0.N]] hI hA rfl rfl rfl fun g1 a w hA hI hg1 => 
    o_box [av .u8 32 x1.Tx, [.int .u32 x1.N]] hI hA rfl rfl rfl fun g2 a w hA hI hg2 => 
    stp hA (r_as hA rfl) rfl fun a hA => ?_
  refine o_nil ?_
  refine hN1 _ _ ?_
  obtain ⟨c1, hz1, Hk1⟩ := bB H
  refine w_cut (fun a w => Fr a 17 [(0, .agg [av .u8 32 x0.Tx, [.int .u32 x0.N]].flatten.toArray), (1, .agg [av .u8 32 x1.Tx, [.int .u32 x1.N]].flatten.toArray), (2, .pointer (some ⟨g1, 0, none⟩)), (3, .pointer (some ⟨g2, 0, none⟩)), (4, .bool c1)] ∧ Iv w0 [] μ μ [cel g2 [av .u8 32 x1.Tx, [.int .u32 x1.N]] 57, cel g1 [av .u8 32 x0.Tx, [.int .u32 x0.N]] 57] w) ?_ ?_
  · have H := bI hz1
    refine w_reg ?_
    refine stp hA (r_fd (k := 0) Try.underlying57 rfl sz33 hA rfl rfl) rfl fun a hA => 
      stp hA (r_ldA (j := 1) [] [av .u8 32 x0.Tx] [[.int .u32 x0.N]] Try.underlying33 rfl sz33 rfl hI rfl hA rfl rfl) rfl fun a hA => 
      stp hA (r_fd (k := 0) Try.underlying57 rfl sz33 hA rfl rfl) rfl fun a hA => 
      stp hA (r_ldA (j := 0) [] [av .u8 32 x1.Tx] [[.int .u32 x1.N]] Try.underlying33 rfl sz33 rfl hI rfl hA rfl rfl) rfl fun a hA => ?_
    obtain ⟨r1, hr1, H⟩ := bB H
    refine o_callp (u := .bool r1) cf28 hA rfl hI (sargassoref_SameHash.c μ _ hI.agr x0.Tx hx0.1 x1.Tx hx1.1 r1 hr1) rfl fun a w hz2 hI hA => 
      stp hA (r_mv hA rfl) rfl fun a hA => ?_
    rcases Bool.eq_false_or_eq_true r1 with hc1 | hc1
    · have hc10 := hc1; have H := bT H hc1
      refine o_yes hA rfl rfl hc10 <| 
        stp hA (r_fd (k := 32) Try.underlying57 rfl sz25 hA rfl rfl) rfl fun a hA => 
        o_yes hA rfl rfl hc10 <| 
        stp hA (r_ld1 (j := 1) [av .u8 32 x0.Tx] [] Try.underlying25 rfl hI rfl hA rfl rfl) rfl fun a hA => 
        o_yes hA rfl rfl hc10 <| 
        stp hA (r_fd (k := 32) Try.underlying57 rfl sz25 hA rfl rfl) rfl fun a hA => 
        o_yes hA rfl rfl hc10 <| 
        stp hA (r_ld1 (j := 0) [av .u8 32 x1.Tx] [] Try.underlying25 rfl hI rfl hA rfl rfl) rfl fun a hA => 
        o_yes hA rfl rfl hc10 <| 
        stp hA (r_eql hA rfl rfl) rfl fun a hA => 
        stp hA (r_pick_t hA rfl hc10 rfl) rfl fun a hA => 
        stp hA (r_as hA rfl) rfl fun a hA => ?_
      refine o_nil ?_
      cases Option.some.inj (bS H)
      exact ⟨hA.sub ⟨rfl, rfl, rfl, rfl, rfl, trivial⟩, hI⟩
    · have hc10 := hc1; have hc1 := ft hc1; have H := bF H hc1
      refine o_no hA rfl rfl (by rw [hc10]; simp [vb]) rfl fun a hA => 
        o_no hA rfl rfl (by rw [hc10]; simp [vb]) rfl fun a hA => 
        o_no hA rfl rfl (by rw [hc10]; simp [vb]) rfl fun a hA => 
        o_no hA rfl rfl (by rw [hc10]; simp [vb]) rfl fun a hA => 
        o_no hA rfl rfl (by rw [hc10]; simp [vb]) rfl fun a hA => 
        stp hA (r_pick_f hA rfl hc10 rfl) rfl fun a hA => 
        stp hA (r_as hA rfl) rfl fun a hA => ?_
      refine o_nil ?_
      cases Option.some.inj (bS H)
      exact ⟨hA.sub ⟨rfl, rfl, rfl, rfl, rfl, trivial⟩, hI⟩
  · rintro a w ⟨hA, hI⟩
    have H := Hk1
    refine w_ret ?_
    obtain rfl := Option.some.inj (bS H)
    exact ret1 hA Try.results58 rfl ⟨_, rfl, rfl, trivial, hI.forget0⟩

/-! sargassoref.SameIn: function 99 -/
set_option maxRecDepth 20000 in
theorem sargassoref_SameIn.c (μ : Store) (w0 : World) (hμ : Agr μ w0) (x0 : In) (u0_0 : Value) (hx0 : InW μ x0 u0_0) (x1 : In) (u1_0 : Value) (hx1 : InW μ x1 u1_0) (r : Bool) (H : sargassoref_SameIn.f x0 x1 = some r) :
    Calls Try.prog 99 [.agg [av .u8 32 x0.From.Tx, [.int .u32 x0.From.N], [u0_0], [.int .u32 x0.Seq]].flatten.toArray, .agg [av .u8 32 x1.From.Tx, [.int .u32 x1.From.N], [u1_0], [.int .u32 x1.Seq]].flatten.toArray].toArray w0 (fun e w' => ∃ v, e = .returned v ∧ v = .bool r ∧ True ∧ Iv w0 [] μ μ [] w') := by
  refine enter Try.func99 rfl Try.ntmps99 rfl fun a hA => ?_
  have hI := Iv.start hμ
  have H := bI H
  refine w_seq fun _ hN1 => ?_
  refine w_reg ?_
  refine o_box [av .u8 32 x0.From.Tx, [.int .u32 x0.From.N], [u0_0], [.int .u32 x0.Seq]] hI hA rfl rfl rfl fun g1 a w hA hI hg1 => 
    o_box [av .u8 32 x1.From.Tx, [.int .u32 x1.From.N], [u1_0], [.int .u32 x1.Seq]] hI hA rfl rfl rfl fun g2 a w hA hI hg2 => 
    stp hA (r_as hA rfl) rfl fun a hA => ?_
  refine o_nil ?_
  refine hN1 _ _ ?_
  obtain ⟨c1, hz1, Hk1⟩ := bB H
  refine w_cut (fun a w => Fr a 24 [(0, .agg [av .u8 32 x0.From.Tx, [.int .u32 x0.From.N], [u0_0], [.int .u32 x0.Seq]].flatten.toArray), (1, .agg [av .u8 32 x1.From.Tx, [.int .u32 x1.From.N], [u1_0], [.int .u32 x1.Seq]].flatten.toArray), (2, .pointer (some ⟨g1, 0, none⟩)), (3, .pointer (some ⟨g2, 0, none⟩)), (4, .bool c1)] ∧ Iv w0 [] μ μ [cel g2 [av .u8 32 x1.From.Tx, [.int .u32 x1.From.N], [u1_0], [.int .u32 x1.Seq]] 71, cel g1 [av .u8 32 x0.From.Tx, [.int .u32 x0.From.N], [u0_0], [.int .u32 x0.Seq]] 71] w) ?_ ?_
  · have H := bI hz1
    refine w_reg ?_
    refine stp hA (r_fd (k := 0) Try.underlying71 rfl sz57 hA rfl rfl) rfl fun a hA => 
      stp hA (r_ldA (j := 1) [] [av .u8 32 x0.From.Tx, [.int .u32 x0.From.N]] [[u0_0], [.int .u32 x0.Seq]] Try.underlying57 rfl sz57 rfl hI rfl hA rfl rfl) rfl fun a hA => 
      stp hA (r_fd (k := 0) Try.underlying71 rfl sz57 hA rfl rfl) rfl fun a hA => 
      stp hA (r_ldA (j := 0) [] [av .u8 32 x1.From.Tx, [.int .u32 x1.From.N]] [[u1_0], [.int .u32 x1.Seq]] Try.underlying57 rfl sz57 rfl hI rfl hA rfl rfl) rfl fun a hA => ?_
    obtain ⟨r1, hr1, H⟩ := bB H
    refine o_callp (u := .bool r1) cf58 hA rfl hI (sargassoref_SamePoint.c μ _ hI.agr x0.From ⟨hx0.1, hx0.2.1⟩ x1.From ⟨hx1.1, hx1.2.1⟩ r1 hr1) rfl fun a w hz2 hI hA => 
      stp hA (r_mv hA rfl) rfl fun a hA => ?_
    rcases Bool.eq_false_or_eq_true r1 with hc1 | hc1
    · have hc10 := hc1; have H := bT H hc1
      refine o_yes hA rfl rfl hc10 <| 
        stp hA (r_fd (k := 33) Try.underlying71 rfl sz22 hA rfl rfl) rfl fun a hA => 
        o_yes hA rfl rfl hc10 <| 
        stp hA (r_ld1 (j := 1) [av .u8 32 x0.From.Tx, [.int .u32 x0.From.N]] [[.int .u32 x0.Seq]] Try.underlying22 rfl hI rfl hA rfl rfl) rfl fun a hA => 
        o_yes hA rfl rfl hc10 <| 
        stp hA (r_fd (k := 33) Try.underlying71 rfl sz22 hA rfl rfl) rfl fun a hA => 
        o_yes hA rfl rfl hc10 <| 
        stp hA (r_ld1 (j := 0) [av .u8 32 x1.From.Tx, [.int .u32 x1.From.N]] [[.int .u32 x1.Seq]] Try.underlying22 rfl hI rfl hA rfl rfl) rfl fun a hA => 
        o_yes hA rfl rfl hc10 <| ?_
      obtain ⟨r2, hr2, H⟩ := bB H
      refine o_callp (u := .bool r2) cf44 hA rfl hI (sargassoref_SameBytes.c μ _ hI.agr x0.Key u0_0 hx0.2.2.1 x1.Key u1_0 hx1.2.2.1 r2 hr2) rfl fun a w hz3 hI hA => 
        stp hA (r_pick_t hA rfl hc10 rfl) rfl fun a hA => 
        stp hA (r_mv hA rfl) rfl fun a hA => ?_
      rcases Bool.eq_false_or_eq_true r2 with hc2 | hc2
      · have hc20 := hc2; have H := bT H hc2
        refine o_yes hA rfl rfl hc20 <| 
          stp hA (r_fd (k := 34) Try.underlying71 rfl sz25 hA rfl rfl) rfl fun a hA => 
          o_yes hA rfl rfl hc20 <| 
          stp hA (r_ld1 (j := 1) [av .u8 32 x0.From.Tx, [.int .u32 x0.From.N], [u0_0]] [] Try.underlying25 rfl hI rfl hA rfl rfl) rfl fun a hA => 
          o_yes hA rfl rfl hc20 <| 
          stp hA (r_fd (k := 34) Try.underlying71 rfl sz25 hA rfl rfl) rfl fun a hA => 
          o_yes hA rfl rfl hc20 <| 
          stp hA (r_ld1 (j := 0) [av .u8 32 x1.From.Tx, [.int .u32 x1.From.N], [u1_0]] [] Try.underlying25 rfl hI rfl hA rfl rfl) rfl fun a hA => 
          o_yes hA rfl rfl hc20 <| 
          stp hA (r_eql hA rfl rfl) rfl fun a hA => 
          stp hA (r_pick_t hA rfl hc20 rfl) rfl fun a hA => 
          stp hA (r_as hA rfl) rfl fun a hA => ?_
        refine o_nil ?_
        cases Option.some.inj (bS H)
        exact ⟨hA.sub ⟨rfl, rfl, rfl, rfl, rfl, trivial⟩, hI⟩
      · have hc20 := hc2; have hc2 := ft hc2; have H := bF H hc2
        refine o_no hA rfl rfl (by rw [hc20]; simp [vb]) rfl fun a hA => 
          o_no hA rfl rfl (by rw [hc20]; simp [vb]) rfl fun a hA => 
          o_no hA rfl rfl (by rw [hc20]; simp [vb]) rfl fun a hA => 
          o_no hA rfl rfl (by rw [hc20]; simp [vb]) rfl fun a hA => 
          o_no hA rfl rfl (by rw [hc20]; simp [vb]) rfl fun a hA => 
          stp hA (r_pick_f hA rfl hc20 rfl) rfl fun a hA => 
          stp hA (r_as hA rfl) rfl fun a hA => ?_
        refine o_nil ?_
        cases Option.some.inj (bS H)
        exact ⟨hA.sub ⟨rfl, rfl, rfl, rfl, rfl, trivial⟩, hI⟩
    · have hc10 := hc1; have hc1 := ft hc1; have H := bF H hc1
      refine o_no hA rfl rfl (by rw [hc10]; simp [vb]) rfl fun a hA => 
        o_no hA rfl rfl (by rw [hc10]; simp [vb]) rfl fun a hA => 
        o_no hA rfl rfl (by rw [hc10]; simp [vb]) rfl fun a hA => 
        o_no hA rfl rfl (by rw [hc10]; simp [vb]) rfl fun a hA => 
        o_no hA rfl rfl (by rw [hc10]; simp [vb]) rfl fun a hA => 
        stp hA (r_pick_f hA rfl hc10 rfl) rfl fun a hA => 
        stp hA (r_mv hA rfl) rfl fun a hA => 
        o_no hA rfl rfl (by simp [vb]) rfl fun a hA => 
        o_no hA rfl rfl (by simp [vb]) rfl fun a hA => 
        o_no hA rfl rfl (by simp [vb]) rfl fun a hA => 
        o_no hA rfl rfl (by simp [vb]) rfl fun a hA => 
        o_no hA rfl rfl (by simp [vb]) rfl fun a hA => 
        stp hA (r_pick_f hA rfl rfl rfl) rfl fun a hA => 
        stp hA (r_as hA rfl) rfl fun a hA => ?_
      refine o_nil ?_
      cases Option.some.inj (bS H)
      exact ⟨hA.sub ⟨rfl, rfl, rfl, rfl, rfl, trivial⟩, hI⟩
  · rintro a w ⟨hA, hI⟩
    have H := Hk1
    refine w_ret ?_
    obtain rfl := Option.some.inj (bS H)
    exact ret1 hA Try.results99 rfl ⟨_, rfl, rfl, trivial, hI.forget0⟩

/-! sargassoref.SameOut: function 100 -/
set_option maxRecDepth 20000 in
theorem sargassoref_SameOut.c (μ : Store) (w0 : World) (hμ : Agr μ w0) (x0 : Out) (hx0 : OutW μ x0) (x1 : Out) (hx1 : OutW μ x1) (r : Bool) (H : sargassoref_SameOut.f x0 x1 = some r) :
    Calls Try.prog 100 [.agg [[.int .u64 x0.Value], av .u8 32 x0.Lock].flatten.toArray, .agg [[.int .u64 x1.Value], av .u8 32 x1.Lock].flatten.toArray].toArray w0 (fun e w' => ∃ v, e = .returned v ∧ v = .bool r ∧ True ∧ Iv w0 [] μ μ [] w') := by
  refine enter Try.func100 rfl Try.ntmps100 rfl fun a hA => ?_
  have hI := Iv.start hμ
  have H := bI H
  refine w_seq fun _ hN1 => ?_
  refine w_reg ?_
  refine o_box [[.int .u64 x0.Value], av .u8 32 x0.Lock] hI hA rfl rfl rfl fun g1 a w hA hI hg1 => 
    o_box [[.int .u64 x1.Value], av .u8 32 x1.Lock] hI hA rfl rfl rfl fun g2 a w hA hI hg2 => 
    stp hA (r_as hA rfl) rfl fun a hA => ?_
  refine o_nil ?_
  refine hN1 _ _ ?_
  obtain ⟨c1, hz1, Hk1⟩ := bB H
  refine w_cut (fun a w => Fr a 17 [(0, .agg [[.int .u64 x0.Value], av .u8 32 x0.Lock].flatten.toArray), (1, .agg [[.int .u64 x1.Value], av .u8 32 x1.Lock].flatten.toArray), (2, .pointer (some ⟨g1, 0, none⟩)), (3, .pointer (some ⟨g2, 0, none⟩)), (4, .bool c1)] ∧ Iv w0 [] μ μ [cel g2 [[.int .u64 x1.Value], av .u8 32 x1.Lock] 73, cel g1 [[.int .u64 x0.Value], av .u8 32 x0.Lock] 73] w) ?_ ?_
  · have H := bI hz1
    refine w_reg ?_
    refine stp hA (r_fd (k := 0) Try.underlying73 rfl sz45 hA rfl rfl) rfl fun a hA => 
      stp hA (r_ld1 (j := 1) [] [av .u8 32 x0.Lock] Try.underlying45 rfl hI rfl hA rfl rfl) rfl fun a hA => 
      stp hA (r_fd (k := 0) Try.underlying73 rfl sz45 hA rfl rfl) rfl fun a hA => 
      stp hA (r_ld1 (j := 0) [] [av .u8 32 x1.Lock] Try.underlying45 rfl hI rfl hA rfl rfl) rfl fun a hA => 
      stp hA (r_eql hA rfl rfl) rfl fun a hA => 
      stp hA (r_mv hA rfl) rfl fun a hA => ?_
    rcases Bool.eq_false_or_eq_true (decide (x0.Value = x1.Value)) with hc1 | hc1
    · have hc10 := hc1; have hc1 := of_decide_eq_true hc1; have H := bT H hc1
      refine o_yes hA rfl rfl hc10 <| 
        stp hA (r_fd (k := 1) Try.underlying73 rfl sz33 hA rfl rfl) rfl fun a hA => 
        o_yes hA rfl rfl hc10 <| 
        stp hA (r_ldA (j := 1) [[.int .u64 x0.Value]] [av .u8 32 x0.Lock] [] Try.underlying33 rfl sz33 rfl hI rfl hA rfl rfl) rfl fun a hA => 
        o_yes hA rfl rfl hc10 <| 
        stp hA (r_fd (k := 1) Try.underlying73 rfl sz33 hA rfl rfl) rfl fun a hA => 
        o_yes hA rfl rfl hc10 <| 
        stp hA (r_ldA (j := 0) [[.int .u64 x1.Value]] [av .u8 32 x1.Lock] [] Try.underlying33 rfl sz33 rfl hI rfl hA rfl rfl) rfl fun a hA => 
        o_yes hA rfl rfl hc10 <| ?_
      obtain ⟨r1, hr1, H⟩ := bB H
      refine o_callp (u := .bool r1) cf28 hA rfl hI (sargassoref_SameHash.c μ _ hI.agr x0.Lock hx0.2 x1.Lock hx1.2 r1 hr1) rfl fun a w hz2 hI hA => 
        stp hA (r_pick_t hA rfl hc10 rfl) rfl fun a hA => 
        stp hA (r_as hA rfl) rfl fun a hA => ?_
      refine o_nil ?_
      cases Option.some.inj (bS H)
      exact ⟨hA.sub ⟨rfl, rfl, rfl, rfl, rfl, trivial⟩, hI⟩
    · have hc10 := hc1; have hc1 := of_decide_eq_false hc1; have H := bF H hc1
      refine o_no hA rfl rfl (by rw [hc10]; simp [vb]) rfl fun a hA => 
        o_no hA rfl rfl (by rw [hc10]; simp [vb]) rfl fun a hA => 
        o_no hA rfl rfl (by rw [hc10]; simp [vb]) rfl fun a hA => 
        o_no hA rfl rfl (by rw [hc10]; simp [vb]) rfl fun a hA => 
        o_no hA rfl rfl (by rw [hc10]; simp [vb]) rfl fun a hA => 
        stp hA (r_pick_f hA rfl hc10 rfl) rfl fun a hA => 
        stp hA (r_as hA rfl) rfl fun a hA => ?_
      refine o_nil ?_
      cases Option.some.inj (bS H)
      exact ⟨hA.sub ⟨rfl, rfl, rfl, rfl, rfl, trivial⟩, hI⟩
  · rintro a w ⟨hA, hI⟩
    have H := Hk1
    refine w_ret ?_
    obtain rfl := Option.some.inj (bS H)
    exact ret1 hA Try.results100 rfl ⟨_, rfl, rfl, trivial, hI.forget0⟩

/-! sargassoref.SameTx: function 66 -/
set_option maxRecDepth 20000 in
theorem sargassoref_SameTx.c (μ : Store) (w0 : World) (hμ : Agr μ w0) (x0 : Tx) (u0_0 : Value) (u0_1 : Value) (hx0 : TxW μ x0 u0_0 u0_1) (x1 : Tx) (u1_0 : Value) (u1_1 : Value) (hx1 : TxW μ x1 u1_0 u1_1) (r : Bool) (H : sargassoref_SameTx.f x0 x1 = some r) :
    Calls Try.prog 66 [.agg [[.int .u32 x0.Version], [u0_0], [u0_1], [.int .u32 x0.Time]].flatten.toArray, .agg [[.int .u32 x1.Version], [u1_0], [u1_1], [.int .u32 x1.Time]].flatten.toArray].toArray w0 (fun e w' => ∃ v, e = .returned v ∧ v = .bool r ∧ True ∧ Iv w0 [] μ μ [] w') := by
  refine enter Try.func66 rfl Try.ntmps66 rfl fun a hA => ?_
  have hI := Iv.start hμ
  have H := bI H
  refine w_seq fun _ hN1 => ?_
  refine w_reg ?_
  refine o_box [[.int .u32 x0.Version], [u0_0], [u0_1], [.int .u32 x0.Time]] hI hA rfl rfl rfl fun g1 a w hA hI hg1 => 
    o_box [[.int .u32 x1.Version], [u1_0], [u1_1], [.int .u32 x1.Time]] hI hA rfl rfl rfl fun g2 a w hA hI hg2 => 
    stp hA (r_as hA rfl) rfl fun a hA => ?_
  refine o_nil ?_
  refine hN1 _ _ ?_
  refine w_seq fun _ hN2 => ?_
  obtain ⟨c1, hz1, Hk1⟩ := bB H
  refine w_cut (fun a w => Fr a 75 [(0, .agg [[.int .u32 x0.Version], [u0_0], [u0_1], [.int .u32 x0.Time]].flatten.toArray), (1, .agg [[.int .u32 x1.Version], [u1_0], [u1_1], [.int .u32 x1.Time]].flatten.toArray), (2, .pointer (some ⟨g1, 0, none⟩)), (3, .pointer (some ⟨g2, 0, none⟩)), (4, .bool false), (36, .bool c1)] ∧ Iv w0 [] μ μ [cel g2 [[.int .u32 x1.Version], [u1_0], [u1_1], [.int .u32 x1.Time]] 67, cel g1 [[.int .u32 x0.Version], [u0_0], [u0_1], [.int .u32 x0.Time]] 67] w) ?_ ?_
  · have H := bI hz1
    refine w_reg ?_
    refine stp hA (r_fd (k := 0) Try.underlying67 rfl sz25 hA rfl rfl) rfl fun a hA => 
      stp hA (r_ld1 (j := 1) [] [[u0_0], [u0_1], [.int .u32 x0.Time]] Try.underlying25 rfl hI rfl hA rfl rfl) rfl fun a hA => 
      stp hA (r_fd (k := 0) Try.underlying67 rfl sz25 hA rfl rfl) rfl fun a hA => 
      stp hA (r_ld1 (j := 0) [] [[u1_0], [u1_1], [.int .u32 x1.Time]] Try.underlying25 rfl hI rfl hA rfl rfl) rfl fun a hA => 
      stp hA (r_neq hA rfl rfl) rfl fun a hA => 
      stp hA (r_mv hA rfl) rfl fun a hA => ?_
    rcases Bool.eq_false_or_eq_true (decide (x0.Version ≠ x1.Version)) with hc1 | hc1
    · have hc10 := hc1; have hc1 := of_decide_eq_true hc1; have H := bT H hc1
      refine o_no hA rfl rfl (by rw [hc10]; simp [vb]) rfl fun a hA => 
        o_no hA rfl rfl (by rw [hc10]; simp [vb]) rfl fun a hA => 
        o_no hA rfl rfl (by rw [hc10]; simp [vb]) rfl fun a hA => 
        o_no hA rfl rfl (by rw [hc10]; simp [vb]) rfl fun a hA => 
        o_no hA rfl rfl (by rw [hc10]; simp [vb]) rfl fun a hA => 
        stp hA (r_pick_t hA rfl hc10 rfl) rfl fun a hA => 
        stp hA (r_mv hA rfl) rfl fun a hA => 
        o_no hA rfl rfl (by simp [vb]) rfl fun a hA => 
        o_no hA rfl rfl (by simp [vb]) rfl fun a hA => 
        o_no hA rfl rfl (by simp [vb]) rfl fun a hA => 
        o_no hA rfl rfl (by simp [vb]) rfl fun a hA => 
        o_no hA rfl rfl (by simp [vb]) rfl fun a hA => 
        o_no hA rfl rfl (by simp [vb]) rfl fun a hA => 
        o_no hA rfl rfl (by simp [vb]) rfl fun a hA => 
        stp hA (r_pick_t hA rfl rfl rfl) rfl fun a hA => 
        stp hA (r_mv hA rfl) rfl fun a hA => 
        o_no hA rfl rfl (by simp [vb]) rfl fun a hA => 
        o_no hA rfl rfl (by simp [vb]) rfl fun a hA => 
        o_no hA rfl rfl (by simp [vb]) rfl fun a hA => 
        o_no hA rfl rfl (by simp [vb]) rfl fun a hA => 
        o_no hA rfl rfl (by simp [vb]) rfl fun a hA => 
        o_no hA rfl rfl (by simp [vb]) rfl fun a hA => 
        o_no hA rfl rfl (by simp [vb]) rfl fun a hA => 
        stp hA (r_pick_t hA rfl rfl rfl) rfl fun a hA => ?_
      refine o_nil ?_
      cases Option.some.inj (bS H)
      exact ⟨hA.sub ⟨rfl, rfl, rfl, rfl, rfl, rfl, trivial⟩, hI⟩
    · have hc10 := hc1; have hc1 := of_decide_eq_false hc1; have H := bF H hc1
      refine o_yes hA rfl rfl hc10 <| 
        stp hA (r_fd (k := 3) Try.underlying67 rfl sz25 hA rfl rfl) rfl fun a hA => 
        o_yes hA rfl rfl hc10 <| 
        stp hA (r_ld1 (j := 1) [[.int .u32 x0.Version], [u0_0], [u0_1]] [] Try.underlying25 rfl hI rfl hA rfl rfl) rfl fun a hA => 
        o_yes hA rfl rfl hc10 <| 
        stp hA (r_fd (k := 3) Try.underlying67 rfl sz25 hA rfl rfl) rfl fun a hA => 
        o_yes hA rfl rfl hc10 <| 
        stp hA (r_ld1 (j := 0) [[.int .u32 x1.Version], [u1_0], [u1_1]] [] Try.underlying25 rfl hI rfl hA rfl rfl) rfl fun a hA => 
        o_yes hA rfl rfl hc10 <| 
        stp hA (r_neq hA rfl rfl) rfl fun a hA => 
        stp hA (r_pick_f hA rfl hc10 rfl) rfl fun a hA => 
        stp hA (r_mv hA rfl) rfl fun a hA => ?_
      rcases Bool.eq_false_or_eq_true (decide (x0.Time ≠ x1.Time)) with hc2 | hc2
      · have hc20 := hc2; have hc2 := of_decide_eq_true hc2; have H := bT H hc2
        refine o_no hA rfl rfl (by rw [hc20]; simp [vb]) rfl fun a hA => 
          o_no hA rfl rfl (by rw [hc20]; simp [vb]) rfl fun a hA => 
          o_no hA rfl rfl (by rw [hc20]; simp [vb]) rfl fun a hA => 
          o_no hA rfl rfl (by rw [hc20]; simp [vb]) rfl fun a hA => 
          o_no hA rfl rfl (by rw [hc20]; simp [vb]) rfl fun a hA => 
          o_no hA rfl rfl (by rw [hc20]; simp [vb]) rfl fun a hA => 
          o_no hA rfl rfl (by rw [hc20]; simp [vb]) rfl fun a hA => 
          stp hA (r_pick_t hA rfl hc20 rfl) rfl fun a hA => 
          stp hA (r_mv hA rfl) rfl fun a hA => 
          o_no hA rfl rfl (by simp [vb]) rfl fun a hA => 
          o_no hA rfl rfl (by simp [vb]) rfl fun a hA => 
          o_no hA rfl rfl (by simp [vb]) rfl fun a hA => 
          o_no hA rfl rfl (by simp [vb]) rfl fun a hA => 
          o_no hA rfl rfl (by simp [vb]) rfl fun a hA => 
          o_no hA rfl rfl (by simp [vb]) rfl fun a hA => 
          o_no hA rfl rfl (by simp [vb]) rfl fun a hA => 
          stp hA (r_pick_t hA rfl rfl rfl) rfl fun a hA => ?_
        refine o_nil ?_
        cases Option.some.inj (bS H)
        exact ⟨hA.sub ⟨rfl, rfl, rfl, rfl, rfl, rfl, trivial⟩, hI⟩
      · have hc20 := hc2; have hc2 := of_decide_eq_false hc2; have H := bF H hc2
        refine o_yes hA rfl rfl hc20 <| 
          stp hA (r_fd (k := 1) Try.underlying67 rfl sz64 hA rfl rfl) rfl fun a hA => 
          o_yes hA rfl rfl hc20 <| 
          stp hA (r_ld1 (j := 1) [[.int .u32 x0.Version]] [[u0_1], [.int .u32 x0.Time]] Try.underlying64 rfl hI rfl hA rfl rfl) rfl fun a hA => 
          o_yes hA rfl rfl hc20 <| ?_
        obtain ⟨_, hsl1⟩ := Slc.sv hx0.2.1
        refine stp hA (r_slen Try.underlying64 hsl1 hA rfl) rfl fun a hA => 
          o_yes hA rfl rfl hc20 <| 
          stp hA (r_fd (k := 1) Try.underlying67 rfl sz64 hA rfl rfl) rfl fun a hA => 
          o_yes hA rfl rfl hc20 <| 
          stp hA (r_ld1 (j := 0) [[.int .u32 x1.Version]] [[u1_1], [.int .u32 x1.Time]] Try.underlying64 rfl hI rfl hA rfl rfl) rfl fun a hA => 
          o_yes hA rfl rfl hc20 <| ?_
        obtain ⟨_, hsl2⟩ := Slc.sv hx1.2.1
        refine stp hA (r_slen Try.underlying64 hsl2 hA rfl) rfl fun a hA => 
          o_yes hA rfl rfl hc20 <| 
          stp hA (r_neq hA rfl rfl) rfl fun a hA => 
          stp hA (r_pick_f hA rfl hc20 rfl) rfl fun a hA => 
          stp hA (r_mv hA rfl) rfl fun a hA => ?_
        rcases Bool.eq_false_or_eq_true (decide ((x0.Ins.length : Int) ≠ (x1.Ins.length : Int))) with hc3 | hc3
        · have hc30 := hc3; have hc3 := of_decide_eq_true hc3; have H := bT H hc3
          refine o_no hA rfl rfl (by rw [hc30]; simp [vb]) rfl fun a hA => 
            o_no hA rfl rfl (by rw [hc30]; simp [vb]) rfl fun a hA => 
            o_no hA rfl rfl (by rw [hc30]; simp [vb]) rfl fun a hA => 
            o_no hA rfl rfl (by rw [hc30]; simp [vb]) rfl fun a hA => 
            o_no hA rfl rfl (by rw [hc30]; simp [vb]) rfl fun a hA => 
            o_no hA rfl rfl (by rw [hc30]; simp [vb]) rfl fun a hA => 
            o_no hA rfl rfl (by rw [hc30]; simp [vb]) rfl fun a hA => 
            stp hA (r_pick_t hA rfl hc30 rfl) rfl fun a hA => ?_
          refine o_nil ?_
          cases Option.some.inj (bS H)
          exact ⟨hA.sub ⟨rfl, rfl, rfl, rfl, rfl, rfl, trivial⟩, hI⟩
        · have hc30 := hc3; have hc3 := of_decide_eq_false hc3; have H := bF H hc3
          refine o_yes hA rfl rfl hc30 <| 
            stp hA (r_fd (k := 2) Try.underlying67 rfl sz65 hA rfl rfl) rfl fun a hA => 
            o_yes hA rfl rfl hc30 <| 
            stp hA (r_ld1 (j := 1) [[.int .u32 x0.Version], [u0_0]] [[.int .u32 x0.Time]] Try.underlying65 rfl hI rfl hA rfl rfl) rfl fun a hA => 
            o_yes hA rfl rfl hc30 <| ?_
          obtain ⟨_, hsl3⟩ := Slc.sv hx0.2.2.1
          refine stp hA (r_slen Try.underlying65 hsl3 hA rfl) rfl fun a hA => 
            o_yes hA rfl rfl hc30 <| 
            stp hA (r_fd (k := 2) Try.underlying67 rfl sz65 hA rfl rfl) rfl fun a hA => 
            o_yes hA rfl rfl hc30 <| 
            stp hA (r_ld1 (j := 0) [[.int .u32 x1.Version], [u1_0]] [[.int .u32 x1.Time]] Try.underlying65 rfl hI rfl hA rfl rfl) rfl fun a hA => 
            o_yes hA rfl rfl hc30 <| ?_
          obtain ⟨_, hsl4⟩ := Slc.sv hx1.2.2.1
          refine stp hA (r_slen Try.underlying65 hsl4 hA rfl) rfl fun a hA => 
            o_yes hA rfl rfl hc30 <| 
            stp hA (r_neq hA rfl rfl) rfl fun a hA => 
            stp hA (r_pick_f hA rfl hc30 rfl) rfl fun a hA => ?_
          refine o_nil ?_
          cases Option.some.inj (bS H)
          exact ⟨hA.sub ⟨rfl, rfl, rfl, rfl, rfl, rfl, trivial⟩, hI⟩
  · rintro a w ⟨hA, hI⟩
    have H := Hk1
    refine w_cond hA rfl (fun hc4 => ?_) (fun hc4 => ?_)
    · have hc40 := hc4; have H := bT H hc4
      refine w_seq fun _ hN3 => ?_
      refine w_reg ?_
      refine stp hA (r_as hA rfl) rfl fun a hA => ?_
      refine o_nil ?_
      refine hN3 _ _ ?_
      refine w_ret ?_
      obtain rfl := Option.some.inj (bS H)
      exact ret1 hA Try.results66 rfl ⟨_, rfl, rfl, trivial, hI.forget0⟩
    · have hc40 := hc4; have hc4 := ft hc4; have H := bF H hc4
      refine w_skip ?_
      refine hN2 _ _ ?_
      refine w_seq fun _ hN4 => ?_
      refine w_seq fun _ hN5 => ?_
      refine w_reg ?_
      refine stp hA (r_as hA rfl) rfl fun a hA => ?_
      refine o_nil ?_
      refine hN5 _ _ ?_
      refine w_block ?_
      obtain ⟨z1, hz2, Hk2⟩ := bind_some H
      obtain ⟨n1, hn1⟩ := loopO_some hz2
      refine w_loop (fun n a w => ∃ (s1 : Int), loopN (sargassoref_SameTx.s0 x0 x1) n s1 = some z1 ∧ InR .i64 s1 ∧ Fr a 75 [(0, .agg [[.int .u32 x0.Version], [u0_0], [u0_1], [.int .u32 x0.Time]].flatten.toArray), (1, .agg [[.int .u32 x1.Version], [u1_0], [u1_1], [.int .u32 x1.Time]].flatten.toArray), (2, .pointer (some ⟨g1, 0, none⟩)), (3, .pointer (some ⟨g2, 0, none⟩)), (4, .bool false), (5, .int .i64 s1), (36, .bool c1)] ∧ Iv w0 [] μ μ [cel g2 [[.int .u32 x1.Version], [u1_0], [u1_1], [.int .u32 x1.Time]] 67, cel g1 [[.int .u32 x0.Version], [u0_0], [u0_1], [.int .u32 x0.Time]] 67] w) n1 ⟨0, hn1, (in_lit .i64 0 rfl), hA.sub ⟨rfl, rfl, rfl, rfl, rfl, rfl, rfl, trivial⟩, hI⟩ ?_
      clear hA hI
      rintro n a w ⟨s1, hn1, ws1, hA, hI⟩
      obtain ⟨m1, rfl, H⟩ := loopN_bind hn1
      clear hn1
      refine w_seq fun _ hN6 => ?_
      refine w_seq fun _ hN7 => ?_
      refine w_reg ?_
      refine stp hA (r_mv hA rfl) rfl fun a hA => 
        stp hA (r_fd (k := 1) Try.underlying67 rfl sz64 hA rfl rfl) rfl fun a hA => 
        stp hA (r_ld1 (j := 1) [[.int .u32 x0.Version]] [[u0_1], [.int .u32 x0.Time]] Try.underlying64 rfl hI rfl hA rfl rfl) rfl fun a hA => ?_
      obtain ⟨_, hsl5⟩ := Slc.sv hx0.2.1
      refine stp hA (r_slen Try.underlying64 hsl5 hA rfl) rfl fun a hA => 
        stp hA (r_lss hA rfl rfl) rfl fun a hA => ?_
      refine o_nil ?_
      refine hN7 _ _ ?_
      refine w_cond hA rfl (fun hc5 => ?_) (fun hc5 => ?_)
      · have hc50 := hc5; have hc5 := of_decide_eq_true hc5; have H := bT H hc5
        refine w_skip ?_
        refine hN6 _ _ ?_
        refine w_seq fun _ hN8 => ?_
        refine w_block ?_
        refine w_seq fun _ hN9 => ?_
        refine w_draw mo (by kernel_rfl) hI ?_
        refine qtp hA (fun _ hI => r_fd (k := 1) Try.underlying67 rfl sz64 hA rfl rfl) rfl fun a hA => 
          qtp hA (fun _ hI => r_ld1 (j := 1) [[.int .u32 x0.Version]] [[u0_1], [.int .u32 x0.Time]] Try.underlying64 rfl hI rfl hA rfl rfl) rfl fun a hA => 
          qtp hA (fun _ hI => r_mv hA rfl) rfl fun a hA => ?_
        obtain ⟨hb1, H⟩ := bG H
        obtain ⟨_, he1, _, hat1⟩ := Slc.elem hx0.2.1 (getD_some default hb1.1 hb1.2)
        obtain ⟨v1, rfl, hw1⟩ := he1
        obtain ⟨_, hsl6⟩ := Slc.sv hx0.2.1
        refine qtp hA (fun _ hI => r_six Try.underlying64 sz71 hsl6 hA rfl rfl hb1.1 hb1.2) rfl fun a hA => 
          qtp hA (fun _ hI => r_ldmA [] [av .u8 32 ((x0.Ins.getD s1.toNat default).From.Tx), [.int .u32 ((x0.Ins.getD s1.toNat default).From.N)], [v1], [.int .u32 ((x0.Ins.getD s1.toNat default).Seq)]] [] Try.underlying71 rfl sz71 rfl hI.agr hat1 hA rfl rfl) rfl fun a hA => 
          qtp hA (fun _ hI => r_fd (k := 1) Try.underlying67 rfl sz64 hA rfl rfl) rfl fun a hA => 
          qtp hA (fun _ hI => r_ld1 (j := 0) [[.int .u32 x1.Version]] [[u1_1], [.int .u32 x1.Time]] Try.underlying64 rfl hI rfl hA rfl rfl) rfl fun a hA => 
          qtp hA (fun _ hI => r_mv hA rfl) rfl fun a hA => ?_
        obtain ⟨hb2, H⟩ := bG H
        obtain ⟨_, he2, _, hat2⟩ := Slc.elem hx1.2.1 (getD_some default hb2.1 hb2.2)
        obtain ⟨v2, rfl, hw2⟩ := he2
        obtain ⟨_, hsl7⟩ := Slc.sv hx1.2.1
        refine qtp hA (fun _ hI => r_six Try.underlying64 sz71 hsl7 hA rfl rfl hb2.1 hb2.2) rfl fun a hA => 
          qtp hA (fun _ hI => r_ldmA [] [av .u8 32 ((x1.Ins.getD s1.toNat default).From.Tx), [.int .u32 ((x1.Ins.getD s1.toNat default).From.N)], [v2], [.int .u32 ((x1.Ins.getD s1.toNat default).Seq)]] [] Try.underlying71 rfl sz71 rfl hI.agr hat2 hA rfl rfl) rfl fun a hA => ?_
        obtain ⟨r1, hr1, H⟩ := bB H
        refine qcall (v := .bool r1) cf99 hA rfl (fun _ hI => plq (sargassoref_SameIn.c μ _ hI.agr (x0.Ins.getD s1.toNat default) v1 ⟨hw1.1, hw1.2.1, hw1.2.2.1, hw1.2.2.2⟩ (x1.Ins.getD s1.toNat default) v2 ⟨hw2.1, hw2.2.1, hw2.2.2.1, hw2.2.2.2⟩ r1 hr1) hI) rfl fun a hA => 
          qtp hA (fun _ hI => r_not hA rfl) rfl fun a hA => ?_
        refine q_nil fun w hI => ?_
        refine hN9 _ _ ?_
        refine w_cond hA rfl (fun hc6 => ?_) (fun hc6 => ?_)
        · have hc60 := hc6; have hc6 := nT hc6; have hc6 := ft hc6; have H := bF H hc6
          refine w_seq fun _ hN10 => ?_
          refine w_reg ?_
          refine stp hA (r_as hA rfl) rfl fun a hA => ?_
          refine o_nil ?_
          refine hN10 _ _ ?_
          refine w_ret ?_
          have H : some false = some z1 := H
          obtain rfl := Option.some.inj H
          have H := Hk2
          obtain rfl := Option.some.inj (bS H)
          exact ret1 hA Try.results66 rfl ⟨_, rfl, rfl, trivial, hI.forget0⟩
        · have hc60 := hc6; have hc6 := nF hc6; have H := bT H hc6
          refine w_skip ?_
          refine hN8 _ _ ?_
          refine w_reg ?_
          refine stp hA (r_mv hA rfl) rfl fun a hA => 
            stp hA (r_add hA rfl rfl) rfl fun a hA => 
            stp hA (r_as hA rfl) rfl fun a hA => ?_
          refine o_nil ?_
          exact ⟨m1, Nat.lt_succ_self _, IntKind.i64.wrap (s1 + 1), H, (wrap_in _ _), hA.sub ⟨rfl, rfl, rfl, rfl, rfl, rfl, rfl, trivial⟩, hI⟩
      · have hc50 := hc5; have hc5 := of_decide_eq_false hc5; have H := bF H hc5
        refine w_exit rfl ?_
        refine hN4 _ _ ?_
        refine w_seq fun _ hN11 => ?_
        refine w_seq fun _ hN12 => ?_
        refine w_reg ?_
        refine stp hA (r_as hA rfl) rfl fun a hA => ?_
        refine o_nil ?_
        refine hN12 _ _ ?_
        refine w_block ?_
        obtain ⟨z2, hz4, Hk3⟩ := bind_some H
        obtain ⟨n2, hn2⟩ := loopO_some hz4
        refine w_loop (fun n a w => ∃ (s2 : Int), loopN (sargassoref_SameTx.s1 x0 x1) n s2 = some z2 ∧ InR .i64 s2 ∧ Fr a 75 [(0, .agg [[.int .u32 x0.Version], [u0_0], [u0_1], [.int .u32 x0.Time]].flatten.toArray), (1, .agg [[.int .u32 x1.Version], [u1_0], [u1_1], [.int .u32 x1.Time]].flatten.toArray), (2, .pointer (some ⟨g1, 0, none⟩)), (3, .pointer (some ⟨g2, 0, none⟩)), (4, .bool false), (5, .int .i64 s1), (6, .int .i64 s2), (36, .bool c1), (41, .bool (decide (s1 < (x0.Ins.length : Int))))] ∧ Iv w0 [] μ μ [cel g2 [[.int .u32 x1.Version], [u1_0], [u1_1], [.int .u32 x1.Time]] 67, cel g1 [[.int .u32 x0.Version], [u0_0], [u0_1], [.int .u32 x0.Time]] 67] w) n2 ⟨0, hn2, (in_lit .i64 0 rfl), hA.sub ⟨rfl, rfl, rfl, rfl, rfl, rfl, rfl, rfl, rfl, trivial⟩, hI⟩ ?_
        clear hA hI
        rintro n a w ⟨s2, hn2, ws2, hA, hI⟩
        obtain ⟨m2, rfl, H⟩ := loopN_bind hn2
        clear hn2
        refine w_seq fun _ hN13 => ?_
        refine w_seq fun _ hN14 => ?_
        refine w_reg ?_
        refine stp hA (r_mv hA rfl) rfl fun a hA => 
          stp hA (r_fd (k := 2) Try.underlying67 rfl sz65 hA rfl rfl) rfl fun a hA => 
          stp hA (r_ld1 (j := 1) [[.int .u32 x0.Version], [u0_0]] [[.int .u32 x0.Time]] Try.underlying65 rfl hI rfl hA rfl rfl) rfl fun a hA => ?_
        obtain ⟨_, hsl8⟩ := Slc.sv hx0.2.2.1
        refine stp hA (r_slen Try.underlying65 hsl8 hA rfl) rfl fun a hA => 
          stp hA (r_lss hA rfl rfl) rfl fun a hA => ?_
        refine o_nil ?_
        refine hN14 _ _ ?_
        refine w_cond hA rfl (fun hc7 => ?_) (fun hc7 => ?_)
        · have hc70 := hc7; have hc7 := of_decide_eq_true hc7; have H := bT H hc7
          refine w_skip ?_
          refine hN13 _ _ ?_
          refine w_seq fun _ hN15 => ?_
          refine w_block ?_
          refine w_seq fun _ hN16 => ?_
          refine w_draw mo (by kernel_rfl) hI ?_
          refine qtp hA (fun _ hI => r_fd (k := 2) Try.underlying67 rfl sz65 hA rfl rfl) rfl fun a hA => 
            qtp hA (fun _ hI => r_ld1 (j := 1) [[.int .u32 x0.Version], [u0_0]] [[.int .u32 x0.Time]] Try.underlying65 rfl hI rfl hA rfl rfl) rfl fun a hA => 
            qtp hA (fun _ hI => r_mv hA rfl) rfl fun a hA => ?_
          obtain ⟨hb3, H⟩ := bG H
          obtain ⟨_, he3, _, hat3⟩ := Slc.elem hx0.2.2.1 (getD_some default hb3.1 hb3.2)
          obtain ⟨rfl, hw3⟩ := he3
          obtain ⟨_, hsl9⟩ := Slc.sv hx0.2.2.1
          refine qtp hA (fun _ hI => r_six Try.underlying65 sz73 hsl9 hA rfl rfl hb3.1 hb3.2) rfl fun a hA => 
            qtp hA (fun _ hI => r_ldmA [] [[.int .u64 ((x0.Outs.getD s2.toNat default).Value)], av .u8 32 ((x0.Outs.getD s2.toNat default).Lock)] [] Try.underlying73 rfl sz73 rfl hI.agr hat3 hA rfl rfl) rfl fun a hA => 
            qtp hA (fun _ hI => r_fd (k := 2) Try.underlying67 rfl sz65 hA rfl rfl) rfl fun a hA => 
            qtp hA (fun _ hI => r_ld1 (j := 0) [[.int .u32 x1.Version], [u1_0]] [[.int .u32 x1.Time]] Try.underlying65 rfl hI rfl hA rfl rfl) rfl fun a hA => 
            qtp hA (fun _ hI => r_mv hA rfl) rfl fun a hA => ?_
          obtain ⟨hb4, H⟩ := bG H
          obtain ⟨_, he4, _, hat4⟩ := Slc.elem hx1.2.2.1 (getD_some default hb4.1 hb4.2)
          obtain ⟨rfl, hw4⟩ := he4
          obtain ⟨_, hsl10⟩ := Slc.sv hx1.2.2.1
          refine qtp hA (fun _ hI => r_six Try.underlying65 sz73 hsl10 hA rfl rfl hb4.1 hb4.2) rfl fun a hA => 
            qtp hA (fun _ hI => r_ldmA [] [[.int .u64 ((x1.Outs.getD s2.toNat default).Value)], av .u8 32 ((x1.Outs.getD s2.toNat default).Lock)] [] Try.underlying73 rfl sz73 rfl hI.agr hat4 hA rfl rfl) rfl fun a hA => ?_
          obtain ⟨r2, hr2, H⟩ := bB H
          refine qcall (v := .bool r2) cf100 hA rfl (fun _ hI => plq (sargassoref_SameOut.c μ _ hI.agr (x0.Outs.getD s2.toNat default) ⟨hw3.1, hw3.2⟩ (x1.Outs.getD s2.toNat default) ⟨hw4.1, hw4.2⟩ r2 hr2) hI) rfl fun a hA => 
            qtp hA (fun _ hI => r_not hA rfl) rfl fun a hA => ?_
          refine q_nil fun w hI => ?_
          refine hN16 _ _ ?_
          refine w_cond hA rfl (fun hc8 => ?_) (fun hc8 => ?_)
          · have hc80 := hc8; have hc8 := nT hc8; have hc8 := ft hc8; have H := bF H hc8
            refine w_seq fun _ hN17 => ?_
            refine w_reg ?_
            refine stp hA (r_as hA rfl) rfl fun a hA => ?_
            refine o_nil ?_
            refine hN17 _ _ ?_
            refine w_ret ?_
            have H : some (.inr false) = some z2 := H
            obtain rfl := Option.some.inj H
            have H := Hk3
            have H : some false = some z1 := H
            obtain rfl := Option.some.inj H
            have H := Hk2
            obtain rfl := Option.some.inj (bS H)
            exact ret1 hA Try.results66 rfl ⟨_, rfl, rfl, trivial, hI.forget0⟩
          · have hc80 := hc8; have hc8 := nF hc8; have H := bT H hc8
            refine w_skip ?_
            refine hN15 _ _ ?_
            refine w_reg ?_
            refine stp hA (r_mv hA rfl) rfl fun a hA => 
              stp hA (r_add hA rfl rfl) rfl fun a hA => 
              stp hA (r_as hA rfl) rfl fun a hA => ?_
            refine o_nil ?_
            exact ⟨m2, Nat.lt_succ_self _, IntKind.i64.wrap (s2 + 1), H, (wrap_in _ _), hA.sub ⟨rfl, rfl, rfl, rfl, rfl, rfl, rfl, rfl, rfl, trivial⟩, hI⟩
        · have hc70 := hc7; have hc7 := of_decide_eq_false hc7; have H := bF H hc7
          refine w_exit rfl ?_
          refine hN11 _ _ ?_
          refine w_seq fun _ hN18 => ?_
          refine w_reg ?_
          refine stp hA (r_as hA rfl) rfl fun a hA => ?_
          refine o_nil ?_
          refine hN18 _ _ ?_
          refine w_ret ?_
          have H : some (.inr true) = some z2 := H
          obtain rfl := Option.some.inj H
          have H := Hk3
          have H : some true = some z1 := H
          obtain rfl := Option.some.inj H
          have H := Hk2
          obtain rfl := Option.some.inj (bS H)
          exact ret1 hA Try.results66 rfl ⟨_, rfl, rfl, trivial, hI.forget0⟩

/-! sargassoref.SameHead: function 69 -/
set_option maxRecDepth 20000 in
theorem sargassoref_SameHead.c (μ : Store) (w0 : World) (hμ : Agr μ w0) (x0 : Head) (hx0 : HeadW μ x0) (x1 : Head) (hx1 : HeadW μ x1) (r : Bool) (H : sargassoref_SameHead.f x0 x1 = some r) :
    Calls Try.prog 69 [.agg [[.int .u32 x0.Version], av .u8 32 x0.Prev, av .u8 32 x0.Root, [.int .u32 x0.Time], [.int .u32 x0.Work], [.int .u32 x0.Nonce]].flatten.toArray, .agg [[.int .u32 x1.Version], av .u8 32 x1.Prev, av .u8 32 x1.Root, [.int .u32 x1.Time], [.int .u32 x1.Work], [.int .u32 x1.Nonce]].flatten.toArray].toArray w0 (fun e w' => ∃ v, e = .returned v ∧ v = .bool r ∧ True ∧ Iv w0 [] μ μ [] w') := by
  refine enter Try.func69 rfl Try.ntmps69 rfl fun a hA => ?_
  have hI := Iv.start hμ
  have H := bI H
  refine w_seq fun _ hN1 => ?_
  refine w_reg ?_
  refine o_box [[.int .u32 x0.Version], av .u8 32 x0.Prev, av .u8 32 x0.Root, [.int .u32 x0.Time], [.int .u32 x0.Work], [.int .u32 x0.Nonce]] hI hA rfl rfl rfl fun g1 a w hA hI hg1 => 
    o_box [[.int .u32 x1.Version], av .u8 32 x1.Prev, av .u8 32 x1.Root, [.int .u32 x1.Time], [.int .u32 x1.Work], [.int .u32 x1.Nonce]] hI hA rfl rfl rfl fun g2 a w hA hI hg2 => 
    stp hA (r_as hA rfl) rfl fun a hA => ?_
  refine o_nil ?_
  refine hN1 _ _ ?_
  obtain ⟨c1, hz1, Hk1⟩ := bB H
  refine w_cut (fun a w => Fr a 45 [(0, .agg [[.int .u32 x0.Version], av .u8 32 x0.Prev, av .u8 32 x0.Root, [.int .u32 x0.Time], [.int .u32 x0.Work], [.int .u32 x0.Nonce]].flatten.toArray), (1, .agg [[.int .u32 x1.Version], av .u8 32 x1.Prev, av .u8 32 x1.Root, [.int .u32 x1.Time], [.int .u32 x1.Work], [.int .u32 x1.Nonce]].flatten.toArray), (2, .pointer (some ⟨g1, 0, none⟩)), (3, .pointer (some ⟨g2, 0, none⟩)), (4, .bool c1)] ∧ Iv w0 [] μ μ [cel g2 [[.int .u32 x1.Version], av .u8 32 x1.Prev, av .u8 32 x1.Root, [.int .u32 x1.Time], [.int .u32 x1.Work], [.int .u32 x1.Nonce]] 76, cel g1 [[.int .u32 x0.Version], av .u8 32 x0.Prev, av .u8 32 x0.Root, [.int .u32 x0.Time], [.int .u32 x0.Work], [.int .u32 x0.Nonce]] 76] w) ?_ ?_
  · have H := bI hz1
    refine w_reg ?_
    refine stp hA (r_fd (k := 0) Try.underlying76 rfl sz25 hA rfl rfl) rfl fun a hA => 
      stp hA (r_ld1 (j := 1) [] [av .u8 32 x0.Prev, av .u8 32 x0.Root, [.int .u32 x0.Time], [.int .u32 x0.Work], [.int .u32 x0.Nonce]] Try.underlying25 rfl hI rfl hA rfl rfl) rfl fun a hA => 
      stp hA (r_fd (k := 0) Try.underlying76 rfl sz25 hA rfl rfl) rfl fun a hA => 
      stp hA (r_ld1 (j := 0) [] [av .u8 32 x1.Prev, av .u8 32 x1.Root, [.int .u32 x1.Time], [.int .u32 x1.Work], [.int .u32 x1.Nonce]] Try.underlying25 rfl hI rfl hA rfl rfl) rfl fun a hA => 
      stp hA (r_eql hA rfl rfl) rfl fun a hA => 
      stp hA (r_mv hA rfl) rfl fun a hA => ?_
    rcases Bool.eq_false_or_eq_true (decide (x0.Version = x1.Version)) with hc1 | hc1
    · have hc10 := hc1; have hc1 := of_decide_eq_true hc1; have H := bT H hc1
      refine o_yes hA rfl rfl hc10 <| 
        stp hA (r_fd (k := 1) Try.underlying76 rfl sz33 hA rfl rfl) rfl fun a hA => 
        o_yes hA rfl rfl hc10 <| 
        stp hA (r_ldA (j := 1) [[.int .u32 x0.Version]] [av .u8 32 x0.Prev] [av .u8 32 x0.Root, [.int .u32 x0.Time], [.int .u32 x0.Work], [.int .u32 x0.Nonce]] Try.underlying33 rfl sz33 rfl hI rfl hA rfl rfl) rfl fun a hA => 
        o_yes hA rfl rfl hc10 <| 
        stp hA (r_fd (k := 1) Try.underlying76 rfl sz33 hA rfl rfl) rfl fun a hA => 
        o_yes hA rfl rfl hc10 <| 
        stp hA (r_ldA (j := 0) [[.int .u32 x1.Version]] [av .u8 32 x1.Prev] [av .u8 32 x1.Root, [.int .u32 x1.Time], [.int .u32 x1.Work], [.int .u32 x1.Nonce]] Try.underlying33 rfl sz33 rfl hI rfl hA rfl rfl) rfl fun a hA => 
        o_yes hA rfl rfl hc10 <| ?_
      obtain ⟨r1, hr1, H⟩ := bB H
      refine o_callp (u := .bool r1) cf28 hA rfl hI (sargassoref_SameHash.c μ _ hI.agr x0.Prev hx0.2.1 x1.Prev hx1.2.1 r1 hr1) rfl fun a w hz2 hI hA => 
        stp hA (r_pick_t hA rfl hc10 rfl) rfl fun a hA => 
        stp hA (r_mv hA rfl) rfl fun a hA => ?_
      rcases Bool.eq_false_or_eq_true r1 with hc2 | hc2
      · have hc20 := hc2; have H := bT H hc2
        refine o_yes hA rfl rfl hc20 <| 
          stp hA (r_fd (k := 33) Try.underlying76 rfl sz33 hA rfl rfl) rfl fun a hA => 
          o_yes hA rfl rfl hc20 <| 
          stp hA (r_ldA (j := 1) [[.int .u32 x0.Version], av .u8 32 x0.Prev] [av .u8 32 x0.Root] [[.int .u32 x0.Time], [.int .u32 x0.Work], [.int .u32 x0.Nonce]] Try.underlying33 rfl sz33 rfl hI rfl hA rfl rfl) rfl fun a hA => 
          o_yes hA rfl rfl hc20 <| 
          stp hA (r_fd (k := 33) Try.underlying76 rfl sz33 hA rfl rfl) rfl fun a hA => 
          o_yes hA rfl rfl hc20 <| 
          stp hA (r_ldA (j := 0) [[.int .u32 x1.Version], av .u8 32 x1.Prev] [av .u8 32 x1.Root] [[.int .u32 x1.Time], [.int .u32 x1.Work], [.int .u32 x1.Nonce]] Try.underlying33 rfl sz33 rfl hI rfl hA rfl rfl) rfl fun a hA => 
          o_yes hA rfl rfl hc20 <| ?_
        obtain ⟨r2, hr2, H⟩ := bB H
        refine o_callp (u := .bool r2) cf28 hA rfl hI (sargassoref_SameHash.c μ _ hI.agr x0.Root hx0.2.2.1 x1.Root hx1.2.2.1 r2 hr2) rfl fun a w hz3 hI hA => 
          stp hA (r_pick_t hA rfl hc20 rfl) rfl fun a hA => 
          stp hA (r_mv hA rfl) rfl fun a hA => ?_
        rcases Bool.eq_false_or_eq_true r2 with hc3 | hc3
        · have hc30 := hc3; have H := bT H hc3
          refine o_yes hA rfl rfl hc30 <| 
            stp hA (r_fd (k := 65) Try.underlying76 rfl sz25 hA rfl rfl) rfl fun a hA => 
            o_yes hA rfl rfl hc30 <| 
            stp hA (r_ld1 (j := 1) [[.int .u32 x0.Version], av .u8 32 x0.Prev, av .u8 32 x0.Root] [[.int .u32 x0.Work], [.int .u32 x0.Nonce]] Try.underlying25 rfl hI rfl hA rfl rfl) rfl fun a hA => 
            o_yes hA rfl rfl hc30 <| 
            stp hA (r_fd (k := 65) Try.underlying76 rfl sz25 hA rfl rfl) rfl fun a hA => 
            o_yes hA rfl rfl hc30 <| 
            stp hA (r_ld1 (j := 0) [[.int .u32 x1.Version], av .u8 32 x1.Prev, av .u8 32 x1.Root] [[.int .u32 x1.Work], [.int .u32 x1.Nonce]] Try.underlying25 rfl hI rfl hA rfl rfl) rfl fun a hA => 
            o_yes hA rfl rfl hc30 <| 
            stp hA (r_eql hA rfl rfl) rfl fun a hA => 
            stp hA (r_pick_t hA rfl hc30 rfl) rfl fun a hA => 
            stp hA (r_mv hA rfl) rfl fun a hA => ?_
          rcases Bool.eq_false_or_eq_true (decide (x0.Time = x1.Time)) with hc4 | hc4
          · have hc40 := hc4; have hc4 := of_decide_eq_true hc4; have H := bT H hc4
            refine o_yes hA rfl rfl hc40 <| 
              stp hA (r_fd (k := 66) Try.underlying76 rfl sz25 hA rfl rfl) rfl fun a hA => 
              o_yes hA rfl rfl hc40 <| 
              stp hA (r_ld1 (j := 1) [[.int .u32 x0.Version], av .u8 32 x0.Prev, av .u8 32 x0.Root, [.int .u32 x0.Time]] [[.int .u32 x0.Nonce]] Try.underlying25 rfl hI rfl hA rfl rfl) rfl fun a hA => 
              o_yes hA rfl rfl hc40 <| 
              stp hA (r_fd (k := 66) Try.underlying76 rfl sz25 hA rfl rfl) rfl fun a hA => 
              o_yes hA rfl rfl hc40 <| 
              stp hA (r_ld1 (j := 0) [[.int .u32 x1.Version], av .u8 32 x1.Prev, av .u8 32 x1.Root, [.int .u32 x1.Time]] [[.int .u32 x1.Nonce]] Try.underlying25 rfl hI rfl hA rfl rfl) rfl fun a hA => 
              o_yes hA rfl rfl hc40 <| 
              stp hA (r_eql hA rfl rfl) rfl fun a hA => 
              stp hA (r_pick_t hA rfl hc40 rfl) rfl fun a hA => 
              stp hA (r_mv hA rfl) rfl fun a hA => ?_
            rcases Bool.eq_false_or_eq_true (decide (x0.Work = x1.Work)) with hc5 | hc5
            · have hc50 := hc5; have hc5 := of_decide_eq_true hc5; have H := bT H hc5
              refine o_yes hA rfl rfl hc50 <| 
                stp hA (r_fd (k := 67) Try.underlying76 rfl sz25 hA rfl rfl) rfl fun a hA => 
                o_yes hA rfl rfl hc50 <| 
                stp hA (r_ld1 (j := 1) [[.int .u32 x0.Version], av .u8 32 x0.Prev, av .u8 32 x0.Root, [.int .u32 x0.Time], [.int .u32 x0.Work]] [] Try.underlying25 rfl hI rfl hA rfl rfl) rfl fun a hA => 
                o_yes hA rfl rfl hc50 <| 
                stp hA (r_fd (k := 67) Try.underlying76 rfl sz25 hA rfl rfl) rfl fun a hA => 
                o_yes hA rfl rfl hc50 <| 
                stp hA (r_ld1 (j := 0) [[.int .u32 x1.Version], av .u8 32 x1.Prev, av .u8 32 x1.Root, [.int .u32 x1.Time], [.int .u32 x1.Work]] [] Try.underlying25 rfl hI rfl hA rfl rfl) rfl fun a hA => 
                o_yes hA rfl rfl hc50 <| 
                stp hA (r_eql hA rfl rfl) rfl fun a hA => 
                stp hA (r_pick_t hA rfl hc50 rfl) rfl fun a hA => 
                stp hA (r_as hA rfl) rfl fun a hA => ?_
              refine o_nil ?_
              cases Option.some.inj (bS H)
              exact ⟨hA.sub ⟨rfl, rfl, rfl, rfl, rfl, trivial⟩, hI⟩
            · have hc50 := hc5; have hc5 := of_decide_eq_false hc5; have H := bF H hc5
              refine o_no hA rfl rfl (by rw [hc50]; simp [vb]) rfl fun a hA => 
                o_no hA rfl rfl (by rw [hc50]; simp [vb]) rfl fun a hA => 
                o_no hA rfl rfl (by rw [hc50]; simp [vb]) rfl fun a hA => 
                o_no hA rfl rfl (by rw [hc50]; simp [vb]) rfl fun a hA => 
                o_no hA rfl rfl (by rw [hc50]; simp [vb]) rfl fun a hA => 
                stp hA (r_pick_f hA rfl hc50 rfl) rfl fun a hA => 
                stp hA (r_as hA rfl) rfl fun a hA => ?_
              refine o_nil ?_
              cases Option.some.inj (bS H)
              exact ⟨hA.sub ⟨rfl, rfl, rfl, rfl, rfl, trivial⟩, hI⟩
          · have hc40 := hc4; have hc4 := of_decide_eq_false hc4; have H := bF H hc4
            refine o_no hA rfl rfl (by rw [hc40]; simp [vb]) rfl fun a hA => 
              o_no hA rfl rfl (by rw [hc40]; simp [vb]) rfl fun a hA => 
              o_no hA rfl rfl (by rw [hc40]; simp [vb]) rfl fun a hA => 
              o_no hA rfl rfl (by rw [hc40]; simp [vb]) rfl fun a hA => 
              o_no hA rfl rfl (by rw [hc40]; simp [vb]) rfl fun a hA => 
              stp hA (r_pick_f hA rfl hc40 rfl) rfl fun a hA => 
              stp hA (r_mv hA rfl) rfl fun a hA => 
              o_no hA rfl rfl (by simp [vb]) rfl fun a hA => 
              o_no hA rfl rfl (by simp [vb]) rfl fun a hA => 
              o_no hA rfl rfl (by simp [vb]) rfl fun a hA => 
              o_no hA rfl rfl (by simp [vb]) rfl fun a hA => 
              o_no hA rfl rfl (by simp [vb]) rfl fun a hA => 
              stp hA (r_pick_f hA rfl rfl rfl) rfl fun a hA => 
              stp hA (r_as hA rfl) rfl fun a hA => ?_
            refine o_nil ?_
            cases Option.some.inj (bS H)
            exact ⟨hA.sub ⟨rfl, rfl, rfl, rfl, rfl, trivial⟩, hI⟩
        · have hc30 := hc3; have hc3 := ft hc3; have H := bF H hc3
          refine o_no hA rfl rfl (by rw [hc30]; simp [vb]) rfl fun a hA => 
            o_no hA rfl rfl (by rw [hc30]; simp [vb]) rfl fun a hA => 
            o_no hA rfl rfl (by rw [hc30]; simp [vb]) rfl fun a hA => 
            o_no hA rfl rfl (by rw [hc30]; simp [vb]) rfl fun a hA => 
            o_no hA rfl rfl (by rw [hc30]; simp [vb]) rfl fun a hA => 
            stp hA (r_pick_f hA rfl hc30 rfl) rfl fun a hA => 
            stp hA (r_mv hA rfl) rfl fun a hA => 
            o_no hA rfl rfl (by simp [vb]) rfl fun a hA => 
            o_no hA rfl rfl (by simp [vb]) rfl fun a hA => 
            o_no hA rfl rfl (by simp [vb]) rfl fun a hA => 
            o_no hA rfl rfl (by simp [vb]) rfl fun a hA => 
            o_no hA rfl rfl (by simp [vb]) rfl fun a hA => 
            stp hA (r_pick_f hA rfl rfl rfl) rfl fun a hA => 
            stp hA (r_mv hA rfl) rfl fun a hA => 
            o_no hA rfl rfl (by simp [vb]) rfl fun a hA => 
            o_no hA rfl rfl (by simp [vb]) rfl fun a hA => 
            o_no hA rfl rfl (by simp [vb]) rfl fun a hA => 
            o_no hA rfl rfl (by simp [vb]) rfl fun a hA => 
            o_no hA rfl rfl (by simp [vb]) rfl fun a hA => 
            stp hA (r_pick_f hA rfl rfl rfl) rfl fun a hA => 
            stp hA (r_as hA rfl) rfl fun a hA => ?_
          refine o_nil ?_
          cases Option.some.inj (bS H)
          exact ⟨hA.sub ⟨rfl, rfl, rfl, rfl, rfl, trivial⟩, hI⟩
      · have hc20 := hc2; have hc2 := ft hc2; have H := bF H hc2
        refine o_no hA rfl rfl (by rw [hc20]; simp [vb]) rfl fun a hA => 
          o_no hA rfl rfl (by rw [hc20]; simp [vb]) rfl fun a hA => 
          o_no hA rfl rfl (by rw [hc20]; simp [vb]) rfl fun a hA => 
          o_no hA rfl rfl (by rw [hc20]; simp [vb]) rfl fun a hA => 
          o_no hA rfl rfl (by rw [hc20]; simp [vb]) rfl fun a hA => 
          stp hA (r_pick_f hA rfl hc20 rfl) rfl fun a hA => 
          stp hA (r_mv hA rfl) rfl fun a hA => 
          o_no hA rfl rfl (by simp [vb]) rfl fun a hA => 
          o_no hA rfl rfl (by simp [vb]) rfl fun a hA => 
          o_no hA rfl rfl (by simp [vb]) rfl fun a hA => 
          o_no hA rfl rfl (by simp [vb]) rfl fun a hA => 
          o_no hA rfl rfl (by simp [vb]) rfl fun a hA => 
          stp hA (r_pick_f hA rfl rfl rfl) rfl fun a hA => 
          stp hA (r_mv hA rfl) rfl fun a hA => 
          o_no hA rfl rfl (by simp [vb]) rfl fun a hA => 
          o_no hA rfl rfl (by simp [vb]) rfl fun a hA => 
          o_no hA rfl rfl (by simp [vb]) rfl fun a hA => 
          o_no hA rfl rfl (by simp [vb]) rfl fun a hA => 
          o_no hA rfl rfl (by simp [vb]) rfl fun a hA => 
          stp hA (r_pick_f hA rfl rfl rfl) rfl fun a hA => 
          stp hA (r_mv hA rfl) rfl fun a hA => 
          o_no hA rfl rfl (by simp [vb]) rfl fun a hA => 
          o_no hA rfl rfl (by simp [vb]) rfl fun a hA => 
          o_no hA rfl rfl (by simp [vb]) rfl fun a hA => 
          o_no hA rfl rfl (by simp [vb]) rfl fun a hA => 
          o_no hA rfl rfl (by simp [vb]) rfl fun a hA => 
          stp hA (r_pick_f hA rfl rfl rfl) rfl fun a hA => 
          stp hA (r_as hA rfl) rfl fun a hA => ?_
        refine o_nil ?_
        cases Option.some.inj (bS H)
        exact ⟨hA.sub ⟨rfl, rfl, rfl, rfl, rfl, trivial⟩, hI⟩
    · have hc10 := hc1; have hc1 := of_decide_eq_false hc1; have H := bF H hc1
      refine o_no hA rfl rfl (by rw [hc10]; simp [vb]) rfl fun a hA => 
        o_no hA rfl rfl (by rw [hc10]; simp [vb]) rfl fun a hA => 
        o_no hA rfl rfl (by rw [hc10]; simp [vb]) rfl fun a hA => 
        o_no hA rfl rfl (by rw [hc10]; simp [vb]) rfl fun a hA => 
        o_no hA rfl rfl (by rw [hc10]; simp [vb]) rfl fun a hA => 
        stp hA (r_pick_f hA rfl hc10 rfl) rfl fun a hA => 
        stp hA (r_mv hA rfl) rfl fun a hA => 
        o_no hA rfl rfl (by simp [vb]) rfl fun a hA => 
        o_no hA rfl rfl (by simp [vb]) rfl fun a hA => 
        o_no hA rfl rfl (by simp [vb]) rfl fun a hA => 
        o_no hA rfl rfl (by simp [vb]) rfl fun a hA => 
        o_no hA rfl rfl (by simp [vb]) rfl fun a hA => 
        stp hA (r_pick_f hA rfl rfl rfl) rfl fun a hA => 
        stp hA (r_mv hA rfl) rfl fun a hA => 
        o_no hA rfl rfl (by simp [vb]) rfl fun a hA => 
        o_no hA rfl rfl (by simp [vb]) rfl fun a hA => 
        o_no hA rfl rfl (by simp [vb]) rfl fun a hA => 
        o_no hA rfl rfl (by simp [vb]) rfl fun a hA => 
        o_no hA rfl rfl (by simp [vb]) rfl fun a hA => 
        stp hA (r_pick_f hA rfl rfl rfl) rfl fun a hA => 
        stp hA (r_mv hA rfl) rfl fun a hA => 
        o_no hA rfl rfl (by simp [vb]) rfl fun a hA => 
        o_no hA rfl rfl (by simp [vb]) rfl fun a hA => 
        o_no hA rfl rfl (by simp [vb]) rfl fun a hA => 
        o_no hA rfl rfl (by simp [vb]) rfl fun a hA => 
        o_no hA rfl rfl (by simp [vb]) rfl fun a hA => 
        stp hA (r_pick_f hA rfl rfl rfl) rfl fun a hA => 
        stp hA (r_mv hA rfl) rfl fun a hA => 
        o_no hA rfl rfl (by simp [vb]) rfl fun a hA => 
        o_no hA rfl rfl (by simp [vb]) rfl fun a hA => 
        o_no hA rfl rfl (by simp [vb]) rfl fun a hA => 
        o_no hA rfl rfl (by simp [vb]) rfl fun a hA => 
        o_no hA rfl rfl (by simp [vb]) rfl fun a hA => 
        stp hA (r_pick_f hA rfl rfl rfl) rfl fun a hA => 
        stp hA (r_as hA rfl) rfl fun a hA => ?_
      refine o_nil ?_
      cases Option.some.inj (bS H)
      exact ⟨hA.sub ⟨rfl, rfl, rfl, rfl, rfl, trivial⟩, hI⟩
  · rintro a w ⟨hA, hI⟩
    have H := Hk1
    refine w_ret ?_
    obtain rfl := Option.some.inj (bS H)
    exact ret1 hA Try.results69 rfl ⟨_, rfl, rfl, trivial, hI.forget0⟩

/-! sargassoref.Hashes: function 73 -/
set_option maxRecDepth 20000 in
theorem sargassoref_Hashes.c (μ : Store) (w0 : World) (hμ : Agr μ w0) (x0 : List (List Int)) (u0 : Value) (hx0 : Slc (RA .u8 32) 32 μ u0 x0) (r : List (List Int)) (H : sargassoref_Hashes.f x0 = some r) :
    Calls Try.prog 73 [u0].toArray w0 (fun e w' => ∃ v, e = .returned v ∧ ∃ (v0 : Value) (c0 : List Value), v = v0 ∧ Els (RA .u8 32) 32 r c0 ∧ Iv w0 [] μ μ [row 33 32 v0 r.length c0] w') := by
  refine enter Try.func73 rfl Try.ntmps73 rfl fun a hA => ?_
  have hI := Iv.start hμ
  have H := bI H
  refine w_seq fun _ hN1 => ?_
  refine w_reg ?_
  refine stp hA (r_as hA rfl) rfl fun a hA => ?_
  refine o_nil ?_
  refine hN1 _ _ ?_
  refine w_seq fun _ hN2 => ?_
  refine w_reg ?_
  refine stp hA (r_mv hA rfl) rfl fun a hA => ?_
  obtain ⟨_, hsl1⟩ := Slc.sv hx0
  refine stp hA (r_slen Try.underlying80 hsl1 hA rfl) rfl fun a hA => ?_
  obtain ⟨hb1, H⟩ := bG H
  refine o_make (RE := (RA .u8 32)) (c0 := [av .u8 32 (List.replicate 32 0)].flatten) (z0 := (List.replicate 32 0)) ⟨rfl, (arr_zero _ _)⟩ te33 rfl zr33 Try.underlying80 hI hA rfl rfl (by have hq := hb1; simp only [maxLen]; omega) rfl fun g1 cs1 a w hE1 hA hI => 
    stp hA (r_as hA rfl) rfl fun a hA => ?_
  refine o_nil ?_
  refine hN2 _ _ ?_
  obtain ⟨c1, hz1, Hk1⟩ := bB H
  refine w_cut (fun a w => ∃ (vvc1 : Value) (ccc1 : List Value), Els (RA .u8 32) 32 c1 ccc1 ∧ Fr a 22 [(0, u0), (2, (.slice none 0 0)), (3, vvc1)] ∧ Iv w0 [] μ μ [row 33 32 vvc1 c1.length ccc1] w) ?_ ?_
  · have H := bI hz1
    refine w_seq fun _ hN3 => ?_
    refine w_reg ?_
    refine stp hA (r_as hA rfl) rfl fun a hA => ?_
    refine o_nil ?_
    refine hN3 _ _ ?_
    refine w_block ?_
    obtain ⟨z1, hz2, Hk2⟩ := bind_some H
    obtain ⟨n1, hn1⟩ := loopO_some hz2
    refine w_loop (fun n a w => ∃ (s1 : List (List Int)) (s2 : Int) (vvs1 : Value) (ccs1 : List Value), loopN (sargassoref_Hashes.s0 x0) n (s1, s2) = some z1 ∧ Els (RA .u8 32) 32 s1 ccs1 ∧ InR .i64 s2 ∧ Fr a 22 [(0, u0), (2, (.slice none 0 0)), (3, vvs1), (4, .int .i64 s2)] ∧ Iv w0 [] μ μ [row 33 32 vvs1 s1.length ccs1] w) n1 ⟨List.replicate ((0 : Int).toNat) (List.replicate 32 0), 0, (.slice (some ⟨g1, 0, none⟩) ((0 : Int).toNat) (((x0.length : Int)).toNat)), cs1, hn1, hE1, (in_lit .i64 0 rfl), hA.sub ⟨rfl, rfl, rfl, rfl, trivial⟩, hI⟩ ?_
    clear hA hI
    rintro n a w ⟨s1, s2, vvs1, ccs1, hn1, ws1, ws2, hA, hI⟩
    obtain ⟨m1, rfl, H⟩ := loopN_bind hn1
    clear hn1
    refine w_seq fun _ hN4 => ?_
    refine w_seq fun _ hN5 => ?_
    refine w_reg ?_
    refine stp hA (r_mv hA rfl) rfl fun a hA => 
      stp hA (r_mv hA rfl) rfl fun a hA => ?_
    obtain ⟨_, hsl2⟩ := Slc.sv hx0
    refine stp hA (r_slen Try.underlying80 hsl2 hA rfl) rfl fun a hA => 
      stp hA (r_lss hA rfl rfl) rfl fun a hA => ?_
    refine o_nil ?_
    refine hN5 _ _ ?_
    refine w_cond hA rfl (fun hc1 => ?_) (fun hc1 => ?_)
    · have hc10 := hc1; have hc1 := of_decide_eq_true hc1; have H := bT H hc1
      refine w_skip ?_
      refine hN4 _ _ ?_
      refine w_seq fun _ hN6 => ?_
      refine w_block ?_
      refine w_reg ?_
      refine stp hA (r_mv hA rfl) rfl fun a hA => 
        stp hA (r_mv hA rfl) rfl fun a hA => 
        stp hA (r_mv hA rfl) rfl fun a hA => ?_
      obtain ⟨hb2, H⟩ := bG H
      obtain ⟨_, he1, _, hat1⟩ := Slc.elem hx0 (getD_some [] hb2.1 hb2.2)
      obtain ⟨rfl, hw1⟩ := he1
      obtain ⟨_, hsl3⟩ := Slc.sv hx0
      refine stp hA (r_six Try.underlying80 sz33 hsl3 hA rfl rfl hb2.1 hb2.2) rfl fun a hA => 
        stp hA (r_ldmA [] [av .u8 32 (x0.getD s2.toNat [])] [] Try.underlying33 rfl sz33 rfl hI.agr hat1 hA rfl rfl) rfl fun a hA => ?_
      have hE2 : Els (RA .u8 32) 32 ([(x0.getD s2.toNat [])] : List (List Int)) ([av .u8 32 (x0.getD s2.toNat [])].flatten ++ ([])) := (Els.cons (c := [av .u8 32 (x0.getD s2.toNat [])].flatten) ⟨rfl, hw1⟩ rfl Els.nil)
      refine o_bsl ([av .u8 32 (x0.getD s2.toNat [])].flatten ++ ([])) te33 zr33 Try.underlying80 hI hA rfl rfl rfl rfl (by kernel_rfl) rfl fun g2 a w hA hI => ?_
      generalize hcs : ([av .u8 32 (x0.getD s2.toNat [])].flatten ++ ([]) : List Value) = cs2 at hE2 hI
      clear hcs
      obtain ⟨hb3, H⟩ := bG H
      have hE4 := ws1.app hE2
      refine o_appL (xs := (s1 : List (List Int))) (ys := (([(x0.getD s2.toNat [])] : List (List Int)) : List (List Int))) (j := 1) te33 Try.underlying80 hI rfl hA rfl rfl (src_row hI (j := 0) rfl) hE2.len (hE2.ones (one_RA _ _)) (by first | decide | (have hq := hb3; (try simp only [List.length_cons, List.length_nil] at hq); (try simp only [List.length_cons, List.length_nil]); (try simp only [maxLen]); omega)) (by first | decide | (have hq := hb3; (try simp only [List.length_cons, List.length_nil] at hq); (try simp only [List.length_cons, List.length_nil]); (try simp only [maxLen]); omega)) rfl fun v1 a w hA hI => 
        stp hA (r_as hA rfl) rfl fun a hA => ?_
      refine o_nil ?_
      refine hN6 _ _ ?_
      refine w_reg ?_
      refine stp hA (r_mv hA rfl) rfl fun a hA => 
        stp hA (r_add hA rfl rfl) rfl fun a hA => 
        stp hA (r_as hA rfl) rfl fun a hA => ?_
      refine o_nil ?_
      exact ⟨m1, Nat.lt_succ_self _, s1 ++ ([(x0.getD s2.toNat [])] : List (List Int)), IntKind.i64.wrap (s2 + 1), v1, ccs1 ++ cs2, H, hE4, (wrap_in _ _), hA.sub ⟨rfl, rfl, rfl, rfl, trivial⟩, (hI.sel [1] (by decide) rfl)⟩
    · have hc10 := hc1; have hc1 := of_decide_eq_false hc1; have H := bF H hc1
      refine w_exit rfl ?_
      have H : some s1 = some z1 := H
      obtain rfl := Option.some.inj H
      have H := Hk2
      cases Option.some.inj (bS H)
      exact ⟨vvs1, ccs1, ws1, hA.sub ⟨rfl, rfl, rfl, trivial⟩, hI⟩
  · rintro a w ⟨vvc1, ccc1, wc1, hA, hI⟩
    have H := Hk1
    refine w_seq fun _ hN7 => ?_
    refine w_reg ?_
    refine stp hA (r_mv hA rfl) rfl fun a hA => 
      stp hA (r_as hA rfl) rfl fun a hA => ?_
    refine o_nil ?_
    refine hN7 _ _ ?_
    refine w_ret ?_
    obtain rfl := Option.some.inj (bS H)
    exact ret1 hA Try.results73 rfl ⟨_, rfl, vvc1, ccc1, rfl, wc1, (hI.less (Store.le.refl _) hI.le)⟩

/-! sargassoref.SameHashes: function 79 -/
set_option maxRecDepth 20000 in
theorem sargassoref_SameHashes.c (μ : Store) (w0 : World) (hμ : Agr μ w0) (x0 : List (List Int)) (u0 : Value) (hx0 : Slc (RA .u8 32) 32 μ u0 x0) (x1 : List (List Int)) (u1 : Value) (hx1 : Slc (RA .u8 32) 32 μ u1 x1) (r : Bool) (H : sargassoref_SameHashes.f x0 x1 = some r) :
    Calls Try.prog 79 [u0, u1].toArray w0 (fun e w' => ∃ v, e = .returned v ∧ v = .bool r ∧ True ∧ Iv w0 [] μ μ [] w') := by
  refine enter Try.func79 rfl Try.ntmps79 rfl fun a hA => ?_
  have hI := Iv.start hμ
  have H := bI H
  refine w_seq fun _ hN1 => ?_
  refine w_reg ?_
  refine stp hA (r_as hA rfl) rfl fun a hA => ?_
  refine o_nil ?_
  refine hN1 _ _ ?_
  refine w_seq fun _ hN2 => ?_
  refine w_seq fun _ hN3 => ?_
  refine w_reg ?_
  refine stp hA (r_mv hA rfl) rfl fun a hA => ?_
  obtain ⟨_, hsl1⟩ := Slc.sv hx0
  refine stp hA (r_slen Try.underlying80 hsl1 hA rfl) rfl fun a hA => 
    stp hA (r_mv hA rfl) rfl fun a hA => ?_
  obtain ⟨_, hsl2⟩ := Slc.sv hx1
  refine stp hA (r_slen Try.underlying80 hsl2 hA rfl) rfl fun a hA => 
    stp hA (r_neq hA rfl rfl) rfl fun a hA => ?_
  refine o_nil ?_
  refine hN3 _ _ ?_
  refine w_cond hA rfl (fun hc1 => ?_) (fun hc1 => ?_)
  · have hc10 := hc1; have hc1 := of_decide_eq_true hc1; have H := bT H hc1
    refine w_seq fun _ hN4 => ?_
    refine w_reg ?_
    refine stp hA (r_as hA rfl) rfl fun a hA => ?_
    refine o_nil ?_
    refine hN4 _ _ ?_
    refine w_ret ?_
    obtain rfl := Option.some.inj (bS H)
    exact ret1 hA Try.results79 rfl ⟨_, rfl, rfl, trivial, hI.forget0⟩
  · have hc10 := hc1; have hc1 := of_decide_eq_false hc1; have H := bF H hc1
    refine w_skip ?_
    refine hN2 _ _ ?_
    refine w_seq fun _ hN5 => ?_
    refine w_seq fun _ hN6 => ?_
    refine w_reg ?_
    refine stp hA (r_as hA rfl) rfl fun a hA => ?_
    refine o_nil ?_
    refine hN6 _ _ ?_
    refine w_block ?_
    obtain ⟨z1, hz1, Hk1⟩ := bind_some H
    obtain ⟨n1, hn1⟩ := loopO_some hz1
    refine w_loop (fun n a w => ∃ (s1 : Int), loopN (sargassoref_SameHashes.s0 x0 x1) n s1 = some z1 ∧ InR .i64 s1 ∧ Fr a 29 [(0, u0), (1, u1), (4, .bool false), (5, .int .i64 s1), (11, .bool (decide ((x0.length : Int) ≠ (x1.length : Int))))] ∧ Iv w0 [] μ μ [] w) n1 ⟨0, hn1, (in_lit .i64 0 rfl), hA.sub ⟨rfl, rfl, rfl, rfl, rfl, trivial⟩, hI⟩ ?_
    clear hA hI
    rintro n a w ⟨s1, hn1, ws1, hA, hI⟩
    obtain ⟨m1, rfl, H⟩ := loopN_bind hn1
    clear hn1
    refine w_seq fun _ hN7 => ?_
    refine w_seq fun _ hN8 => ?_
    refine w_reg ?_
    refine stp hA (r_mv hA rfl) rfl fun a hA => 
      stp hA (r_mv hA rfl) rfl fun a hA => ?_
    obtain ⟨_, hsl3⟩ := Slc.sv hx0
    refine stp hA (r_slen Try.underlying80 hsl3 hA rfl) rfl fun a hA => 
      stp hA (r_lss hA rfl rfl) rfl fun a hA => ?_
    refine o_nil ?_
    refine hN8 _ _ ?_
    refine w_cond hA rfl (fun hc2 => ?_) (fun hc2 => ?_)
    · have hc20 := hc2; have hc2 := of_decide_eq_true hc2; have H := bT H hc2
      refine w_skip ?_
      refine hN7 _ _ ?_
      refine w_seq fun _ hN9 => ?_
      refine w_block ?_
      refine w_seq fun _ hN10 => ?_
      refine w_draw mo (by kernel_rfl) hI ?_
      refine qtp hA (fun _ hI => r_mv hA rfl) rfl fun a hA => 
        qtp hA (fun _ hI => r_mv hA rfl) rfl fun a hA => ?_
      obtain ⟨hb1, H⟩ := bG H
      obtain ⟨_, he1, _, hat1⟩ := Slc.elem hx0 (getD_some [] hb1.1 hb1.2)
      obtain ⟨rfl, hw1⟩ := he1
      obtain ⟨_, hsl4⟩ := Slc.sv hx0
      refine qtp hA (fun _ hI => r_six Try.underlying80 sz33 hsl4 hA rfl rfl hb1.1 hb1.2) rfl fun a hA => 
        qtp hA (fun _ hI => r_ldmA [] [av .u8 32 (x0.getD s1.toNat [])] [] Try.underlying33 rfl sz33 rfl hI.agr hat1 hA rfl rfl) rfl fun a hA => 
        qtp hA (fun _ hI => r_mv hA rfl) rfl fun a hA => 
        qtp hA (fun _ hI => r_mv hA rfl) rfl fun a hA => ?_
      obtain ⟨hb2, H⟩ := bG H
      obtain ⟨_, he2, _, hat2⟩ := Slc.elem hx1 (getD_some [] hb2.1 hb2.2)
      obtain ⟨rfl, hw2⟩ := he2
      obtain ⟨_, hsl5⟩ := Slc.sv hx1
      refine qtp hA (fun _ hI => r_six Try.underlying80 sz33 hsl5 hA rfl rfl hb2.1 hb2.2) rfl fun a hA => 
        qtp hA (fun _ hI => r_ldmA [] [av .u8 32 (x1.getD s1.toNat [])] [] Try.underlying33 rfl sz33 rfl hI.agr hat2 hA rfl rfl) rfl fun a hA => ?_
      obtain ⟨r1, hr1, H⟩ := bB H
      refine qcall (v := .bool r1) cf28 hA rfl (fun _ hI => plq (sargassoref_SameHash.c μ _ hI.agr (x0.getD s1.toNat []) hw1 (x1.getD s1.toNat []) hw2 r1 hr1) hI) rfl fun a hA => 
        qtp hA (fun _ hI => r_as hA rfl) rfl fun a hA => ?_
      refine q_nil fun w hI => ?_
      refine hN10 _ _ ?_
      refine w_seq fun _ hN11 => ?_
      refine w_reg ?_
      refine stp hA (r_mv hA rfl) rfl fun a hA => 
        stp hA (r_not hA rfl) rfl fun a hA => ?_
      refine o_nil ?_
      refine hN11 _ _ ?_
      refine w_cond hA rfl (fun hc3 => ?_) (fun hc3 => ?_)
      · have hc30 := hc3; have hc3 := nT hc3; have hc3 := ft hc3; have H := bF H hc3
        refine w_seq fun _ hN12 => ?_
        refine w_reg ?_
        refine stp hA (r_as hA rfl) rfl fun a hA => ?_
        refine o_nil ?_
        refine hN12 _ _ ?_
        refine w_ret ?_
        have H : some false = some z1 := H
        obtain rfl := Option.some.inj H
        have H := Hk1
        obtain rfl := Option.some.inj (bS H)
        exact ret1 hA Try.results79 rfl ⟨_, rfl, rfl, trivial, hI.forget0⟩
      · have hc30 := hc3; have hc3 := nF hc3; have H := bT H hc3
        refine w_skip ?_
        refine hN9 _ _ ?_
        refine w_reg ?_
        refine stp hA (r_mv hA rfl) rfl fun a hA => 
          stp hA (r_add hA rfl rfl) rfl fun a hA => 
          stp hA (r_as hA rfl) rfl fun a hA => ?_
        refine o_nil ?_
        exact ⟨m1, Nat.lt_succ_self _, IntKind.i64.wrap (s1 + 1), H, (wrap_in _ _), hA.sub ⟨rfl, rfl, rfl, rfl, rfl, trivial⟩, hI⟩
    · have hc20 := hc2; have hc2 := of_decide_eq_false hc2; have H := bF H hc2
      refine w_exit rfl ?_
      refine hN5 _ _ ?_
      refine w_seq fun _ hN13 => ?_
      refine w_reg ?_
      refine stp hA (r_as hA rfl) rfl fun a hA => ?_
      refine o_nil ?_
      refine hN13 _ _ ?_
      refine w_ret ?_
      have H : some true = some z1 := H
      obtain rfl := Option.some.inj H
      have H := Hk1
      obtain rfl := Option.some.inj (bS H)
      exact ret1 hA Try.results79 rfl ⟨_, rfl, rfl, trivial, hI.forget0⟩
end Go.Proofs.Ytnbnnphlffhgiaa.T
