/- Proved: the statement CompactRows, as given (its conditions are those of the given row, and card where there is one; no others): the call ends, with true, and the input reads as it did. This file is one of its parts. -/
import Derived.Test.YtpeelghbhihgkaaDoorPCompactRows1
import Derived.OpenShut
import Derived.ChangeArms
import Derived.DataReads
import Derived.WideShapes
import Derived.Below
import Derived.Carry
import Derived.ChangeOld
import Derived.LaidLaws
import Derived.Stop.ErrReads
import Derived.ChangeVars
import Derived.Test.YtpeelghbhihgkaaDoorRows
import Derived.Test.YtpeelghbhihgkaaDoorProg
import Derived.JoinedOf
import Derived.ProofKit
import Derived.WalkKit
import Derived.ShutString
import Derived.SizedLaws
import Derived.LaidHandle
import Derived.Handed
import Derived.SevenTiedAt
import Derived.Test.YtpeelghbhihgkaaDoorCards
import Derived.Test.YtpeelghbhihgkaaDoorTie
namespace Go.Proofs.YtpeelghbhihgkaaDoor.T
open Go Go.Proofs Go.Proofs.YtpeelghbhihgkaaDoor.K
set_option linter.unusedVariables false
set_option linter.unusedSimpArgs false
set_option maxRecDepth 20000 in
theorem compact_Len.c (μ : Store) (w0 : World) (hμ : Agr μ w0) (x0 : Int) (hx0 : InR .u64 x0) (r : Int) (H : compact_Len.f x0 = some r) :
    Calls Tryd.prog 24 [.int .u64 x0].toArray w0 (fun e w' => ∃ v, e = .returned v ∧ v = .int .i64 r ∧ InR .i64 r ∧ Iv w0 [] μ μ [] w') := by
  refine enter Tryd.func24 rfl Tryd.ntmps24 rfl fun a hA => ?_
  have hI := Iv.start hμ
  have H := bI H
  refine w_seq fun _ hN1 => ?_
  refine w_reg ?_
  refine stp hA (r_as hA rfl) rfl fun a hA => ?_
  refine o_nil ?_
  refine hN1 _ _ ?_
  refine w_seq fun _ hN2 => ?_
  refine w_block ?_
  refine w_seq fun _ hN3 => ?_
  refine w_reg ?_
  refine stp hA (r_mv hA rfl) rfl fun a hA => 
    stp hA (r_lss hA rfl rfl) rfl fun a hA => 
    stp hA (r_as hA rfl) rfl fun a hA => ?_
  refine o_nil ?_
  refine hN3 _ _ ?_
  refine w_cond hA rfl (fun hc1 => ?_) (fun hc1 => ?_)
  · have hc10 := hc1; have hc1 := of_decide_eq_true hc1; have H := bT H hc1
    refine w_seq fun _ hN4 => ?_
    refine w_reg ?_
    refine stp hA (r_as hA rfl) rfl fun a hA => ?_
    refine o_nil ?_
    refine hN4 _ _ ?_
    refine w_ret ?_
    obtain rfl := Option.some.inj (bS H)
    exact ret1 hA Tryd.results24 rfl ⟨_, rfl, rfl, (in_lit .i64 1 rfl), hI.forget0⟩
  · have hc10 := hc1; have hc1 := of_decide_eq_false hc1; have H := bF H hc1
    refine w_seq fun _ hN5 => ?_
    refine w_reg ?_
    refine stp hA (r_mv hA rfl) rfl fun a hA => 
      stp hA (r_lss hA rfl rfl) rfl fun a hA => 
      stp hA (r_as hA rfl) rfl fun a hA => ?_
    refine o_nil ?_
    refine hN5 _ _ ?_
    refine w_cond hA rfl (fun hc2 => ?_) (fun hc2 => ?_)
    · have hc20 := hc2; have hc2 := of_decide_eq_true hc2; have H := bT H hc2
      refine w_seq fun _ hN6 => ?_
      refine w_reg ?_
      refine stp hA (r_as hA rfl) rfl fun a hA => ?_
      refine o_nil ?_
      refine hN6 _ _ ?_
      refine w_ret ?_
      obtain rfl := Option.some.inj (bS H)
      exact ret1 hA Tryd.results24 rfl ⟨_, rfl, rfl, (in_lit .i64 3 rfl), hI.forget0⟩
    · have hc20 := hc2; have hc2 := of_decide_eq_false hc2; have H := bF H hc2
      refine w_seq fun _ hN7 => ?_
      refine w_reg ?_
      refine stp hA (r_mv hA rfl) rfl fun a hA => 
        stp hA (r_lss hA rfl rfl) rfl fun a hA => 
        stp hA (r_as hA rfl) rfl fun a hA => ?_
      refine o_nil ?_
      refine hN7 _ _ ?_
      refine w_cond hA rfl (fun hc3 => ?_) (fun hc3 => ?_)
      · have hc30 := hc3; have hc3 := of_decide_eq_true hc3; have H := bT H hc3
        refine w_seq fun _ hN8 => ?_
        refine w_reg ?_
        refine stp hA (r_as hA rfl) rfl fun a hA => ?_
        refine o_nil ?_
        refine hN8 _ _ ?_
        refine w_ret ?_
        obtain rfl := Option.some.inj (bS H)
        exact ret1 hA Tryd.results24 rfl ⟨_, rfl, rfl, (in_lit .i64 5 rfl), hI.forget0⟩
      · have hc30 := hc3; have hc3 := of_decide_eq_false hc3; have H := bF H hc3
        refine w_skip ?_
        refine hN2 _ _ ?_
        refine w_seq fun _ hN9 => ?_
        refine w_reg ?_
        refine stp hA (r_as hA rfl) rfl fun a hA => ?_
        refine o_nil ?_
        refine hN9 _ _ ?_
        refine w_ret ?_
        obtain rfl := Option.some.inj (bS H)
        exact ret1 hA Tryd.results24 rfl ⟨_, rfl, rfl, (in_lit .i64 9 rfl), hI.forget0⟩
set_option maxRecDepth 20000 in
theorem bytes_Clone.c (μ : Store) (w0 : World) (hμ : Agr μ w0) (x0 : List Int) (u0 : Value) (hx0 : Slc (RI .u8) 1 μ u0 x0) (r : List Int) (H : bytes_Clone.f x0 = some r) :
    Calls Tryd.prog 93 [u0].toArray w0 (fun e w' => ∃ v, e = .returned v ∧ ∃ (v0 : Value) (c0 : List Value), v = v0 ∧ Els (RI .u8) 1 r c0 ∧ Iv w0 [] μ μ [row 5 1 v0 r.length c0] w') := by
  obtain ⟨hb, H⟩ := guard_some H
  obtain rfl := Option.some.inj H
  obtain ⟨cs, hE, A, cp, rfl, h2, h3, h4, h5⟩ := hx0
  refine enter Tryd.func93 rfl Tryd.ntmps93 rfl fun a hA => ?_
  have hI := Iv.start hμ
  refine w_seq fun _ hN1 => w_reg (stp hA (r_as hA rfl) rfl fun a hA => o_nil (hN1 _ _ ?_))
  refine w_seq fun _ hN2 => w_seq fun _ hN3 => w_reg (stp hA (r_mv hA rfl) rfl fun a hA => stp hA (r_eqnil Tryd.underlying23 hA rfl rfl) rfl fun a hA => o_nil (hN3 _ _ ?_))
  refine w_cond hA rfl (fun hc => ?_) (fun hc => ?_)
  · have hx : x0 = [] := List.eq_nil_of_length_eq_zero (by
      rcases Nat.eq_zero_or_pos x0.length with h | h
      · exact h
      · rw [h4 (by omega)] at hc; cases hc)
    subst hx
    cases hE
    refine w_seq fun _ hN4 => w_reg (stp hA (r_as hA rfl) rfl fun a hA => o_nil (hN4 _ _ ?_))
    refine w_ret ?_
    have hI := hI.nilRow 5 1
    exact ret1 hA Tryd.results93 rfl ⟨_, rfl, .slice none 0 0, [], rfl, .nil, hI⟩
  · refine w_skip (hN2 _ _ ?_)
    refine w_seq fun _ hN5 => w_reg ?_
    refine o_bsl [] te5 zr5 Tryd.underlying23 hI hA rfl rfl rfl rfl (by kernel_rfl) rfl fun g a w hA hI => ?_
    refine stp hA (r_mv hA rfl) rfl fun a hA => ?_
    refine o_appL (xs := ([] : List Int)) (ys := x0) (j := 0) te5 Tryd.underlying23 hI rfl hA rfl rfl (src_sl hI.agr ⟨A, cp, rfl, h2, h3, h4, h5⟩ hE.len) hE.len (hE.ones (one_RI _)) (by simp only [List.length_nil, maxLen]; omega) (by simp only [List.length_nil]; omega) rfl fun v a w hA hI => ?_
    refine stp hA (r_as hA rfl) rfl fun a hA => o_nil (hN5 _ _ (w_ret ?_))
    exact ret1 hA Tryd.results93 rfl ⟨_, rfl, v, cs, rfl, hE, hI⟩
set_option maxRecDepth 20000 in
theorem compact_number.c (μ : Store) (w0 : World) (hμ : Agr μ w0) (x0 : List Int) (u0 : Value) (k0 : List Value) (hx0 : Els (RI .u8) 1 x0 k0) (ho0 : RowOK μ w0 5 1 u0 x0.length k0) (x1 : Int) (hx1 : InR .u64 x1) (x2 : Int) (hx2 : InR .i64 x2) (r : List Int) (H : compact_number.f x0 x1 x2 = some r) :
    Calls Tryd.prog 94 [u0, .int .u64 x1, .int .i64 x2].toArray w0 (fun e w' => ∃ v, e = .returned v ∧ ∃ (v0 : Value) (c0 : List Value), v = v0 ∧ Els (RI .u8) 1 r c0 ∧ Iv w0 (row 5 1 u0 x0.length k0).foot μ μ [row 5 1 v0 r.length c0] w') := by
  refine enter Tryd.func94 rfl Tryd.ntmps94 rfl fun a hA => ?_
  have hI := ho0.start hμ
  have H := bI H
  refine w_seq fun _ hN1 => ?_
  refine w_reg ?_
  refine stp hA (r_as hA rfl) rfl fun a hA => ?_
  refine o_nil ?_
  refine hN1 _ _ ?_
  obtain ⟨⟨c1, c2⟩, hz1, Hk1⟩ := bB H
  refine w_cut (fun a w => ∃ (vvc1 : Value) (ccc1 : List Value), Els (RI .u8) 1 c1 ccc1 ∧ InR .u64 c2 ∧ Fr a 19 [(0, vvc1), (1, .int .u64 c2), (2, .int .i64 x2), (6, (.slice none 0 0))] ∧ Iv w0 (row 5 1 u0 x0.length k0).foot μ μ [row 5 1 vvc1 c1.length ccc1] w) ?_ ?_
  · have H := bI hz1
    refine w_seq fun _ hN2 => ?_
    refine w_reg ?_
    refine stp hA (r_mv hA rfl) rfl fun a hA => 
      stp hA (r_mv hA rfl) rfl fun a hA => ?_
    refine o_nil ?_
    refine hN2 _ _ ?_
    refine w_block ?_
    obtain ⟨z1, hz2, Hk2⟩ := bind_some H
    obtain ⟨n1, hn1⟩ := loopO_some hz2
    refine w_loop (fun n a w => ∃ (s1 : List Int) (s2 : Int) (s3 : Int) (vvs1 : Value) (ccs1 : List Value), loopN (compact_number.s0 x2) n (s1, s2, s3) = some z1 ∧ Els (RI .u8) 1 s1 ccs1 ∧ InR .u64 s2 ∧ InR .i64 s3 ∧ Fr a 19 [(0, vvs1), (1, .int .u64 s2), (2, .int .i64 x2), (6, (.slice none 0 0)), (7, .int .i64 x2), (8, .int .i64 s3)] ∧ Iv w0 (row 5 1 u0 x0.length k0).foot μ μ [row 5 1 vvs1 s1.length ccs1] w) n1 ⟨x0, x1, 0, u0, k0, hn1, hx0, hx1, (in_lit .i64 0 rfl), hA.sub ⟨rfl, rfl, rfl, rfl, rfl, rfl, trivial⟩, hI⟩ ?_
    clear hA hI
    rintro n a w ⟨s1, s2, s3, vvs1, ccs1, hn1, ws1, ws2, ws3, hA, hI⟩
    obtain ⟨m1, rfl, H⟩ := loopN_bind hn1
    clear hn1
    refine w_seq fun _ hN3 => ?_
    refine w_reg ?_
    refine stp hA (r_lss hA rfl rfl) rfl fun a hA => ?_
    refine o_nil ?_
    refine hN3 _ _ ?_
    refine w_seq fun _ hN4 => ?_
    refine w_cond hA rfl (fun hc1 => ?_) (fun hc1 => ?_)
    · have hc10 := hc1; have hc1 := of_decide_eq_true hc1; have H := bT H hc1
      refine w_skip ?_
      refine hN4 _ _ ?_
      refine w_seq fun _ hN5 => ?_
      refine w_block ?_
      refine w_seq fun _ hN6 => ?_
      refine w_reg ?_
      refine stp hA (r_mv hA rfl) rfl fun a hA => 
        stp hA (r_mv hA rfl) rfl fun a hA => 
        stp hA (r_conv Tryd.underlying22 Tryd.underlying5 hA rfl) rfl fun a hA => ?_
      have hE1 : Els (RI .u8) 1 ([IntKind.u8.wrap s2] : List Int) ([[.int .u8 (IntKind.u8.wrap s2)]].flatten ++ ([])) := (Els.cons (c := [[.int .u8 (IntKind.u8.wrap s2)]].flatten) ⟨rfl, (wrap_in _ _)⟩ rfl Els.nil)
      refine o_bsl ([[.int .u8 (IntKind.u8.wrap s2)]].flatten ++ ([])) te5 zr5 Tryd.underlying23 hI hA rfl rfl rfl rfl (by kernel_rfl) rfl fun g1 a w hA hI => ?_
      generalize hcs : ([[.int .u8 (IntKind.u8.wrap s2)]].flatten ++ ([]) : List Value) = cs1 at hE1 hI
      clear hcs
      obtain ⟨hb1, H⟩ := bG H
      have hE3 := ws1.app hE1
      refine o_appL (xs := (s1 : List Int)) (ys := (([IntKind.u8.wrap s2] : List Int) : List Int)) (j := 1) te5 Tryd.underlying23 hI rfl hA rfl rfl (src_row hI (j := 0) rfl) hE1.len (hE1.ones (one_RI _)) (by first | decide | (have hq := hb1; (try simp only [List.length_cons, List.length_nil] at hq); (try simp only [List.length_cons, List.length_nil]); (try simp only [maxLen]); omega)) (by first | decide | (have hq := hb1; (try simp only [List.length_cons, List.length_nil] at hq); (try simp only [List.length_cons, List.length_nil]); (try simp only [maxLen]); omega)) rfl fun v1 a w hA hI => 
        stp hA (r_as hA rfl) rfl fun a hA => ?_
      refine o_nil ?_
      refine hN6 _ _ ?_
      refine w_reg ?_
      refine stp hA (r_mv hA rfl) rfl fun a hA => 
        stp hA (r_shr hA rfl rfl (by decide)) rfl fun a hA => 
        stp hA (r_as hA rfl) rfl fun a hA => ?_
      refine o_nil ?_
      refine hN5 _ _ ?_
      refine w_reg ?_
      refine stp hA (r_add hA rfl rfl) rfl fun a hA => 
        stp hA (r_mv hA rfl) rfl fun a hA => ?_
      refine o_nil ?_
      exact ⟨m1, Nat.lt_succ_self _, s1 ++ ([IntKind.u8.wrap s2] : List Int), sR .u64 s2 8, IntKind.i64.wrap (s3 + 1), v1, ccs1 ++ cs1, H, hE3, (sR_in rfl ws2 _), (wrap_in _ _), hA.sub ⟨rfl, rfl, rfl, rfl, rfl, rfl, trivial⟩, (hI.sel [1] (by decide) rfl)⟩
    · have hc10 := hc1; have hc1 := of_decide_eq_false hc1; have H := bF H hc1
      refine w_exit rfl ?_
      have H : some (s1, s2) = some z1 := H
      obtain rfl := Option.some.inj H
      have H := Hk2
      cases Option.some.inj (bS H)
      exact ⟨vvs1, ccs1, ws1, ws2, hA.sub ⟨rfl, rfl, rfl, rfl, trivial⟩, hI⟩
  · rintro a w ⟨vvc1, ccc1, wc1, wc2, hA, hI⟩
    have H := Hk1
    refine w_seq fun _ hN7 => ?_
    refine w_reg ?_
    refine stp hA (r_mv hA rfl) rfl fun a hA => 
      stp hA (r_as hA rfl) rfl fun a hA => ?_
    refine o_nil ?_
    refine hN7 _ _ ?_
    refine w_ret ?_
    obtain rfl := Option.some.inj (bS H)
    exact ret1 hA Tryd.results94 rfl ⟨_, rfl, vvc1, ccc1, rfl, wc1, (hI.less (Store.le.refl _) hI.le)⟩
set_option maxRecDepth 20000 in
theorem compact_Put.c (μ : Store) (w0 : World) (hμ : Agr μ w0) (x0 : List Int) (u0 : Value) (hx0 : Slc (RI .u8) 1 μ u0 x0) (x1 : Int) (hx1 : InR .u64 x1) (r : List Int) (H : compact_Put.f x0 x1 = some r) :
    Calls Tryd.prog 23 [u0, .int .u64 x1].toArray w0 (fun e w' => ∃ v, e = .returned v ∧ ∃ (v0 : Value) (c0 : List Value), v = v0 ∧ Els (RI .u8) 1 r c0 ∧ Iv w0 [] μ μ [row 5 1 v0 r.length c0] w') := by
  refine enter Tryd.func23 rfl Tryd.ntmps23 rfl fun a hA => ?_
  have hI := Iv.start hμ
  have H := bI H
  refine w_seq fun _ hN1 => ?_
  refine w_reg ?_
  refine stp hA (r_as hA rfl) rfl fun a hA => ?_
  refine o_nil ?_
  refine hN1 _ _ ?_
  refine w_seq fun _ hN2 => ?_
  refine w_reg ?_
  refine stp hA (r_mv hA rfl) rfl fun a hA => ?_
  obtain ⟨r1, hr1, H⟩ := bB H
  refine o_call _ cf93 hA rfl (bytes_Clone.c μ _ hI.agr x0 u0 hx0 r1 hr1) rfl fun v1 a w hz1 hA => ?_
  obtain ⟨_, cs1, rfl, hE1, hi1⟩ := hz1
  have hI := hI.call hi1
  refine stp hA (r_as hA rfl) rfl fun a hA => ?_
  refine o_nil ?_
  refine hN2 _ _ ?_
  refine w_seq fun _ hN3 => ?_
  refine w_seq fun _ hN4 => ?_
  refine w_reg ?_
  refine stp hA (r_mv hA rfl) rfl fun a hA => ?_
  obtain ⟨r2, hr2, H⟩ := bB H
  refine o_callp (u := .int .i64 r2) cf24 hA rfl hI (compact_Len.c μ _ hI.agr x1 hx1 r2 hr2) rfl fun a w hz2 hI hA => 
    stp hA (r_as hA rfl) rfl fun a hA => ?_
  refine o_nil ?_
  refine hN4 _ _ ?_
  refine w_seq fun _ hN5 => ?_
  refine w_reg ?_
  refine stp hA (r_mv hA rfl) rfl fun a hA => ?_
  refine o_nil ?_
  refine hN5 _ _ ?_
  refine w_block ?_
  refine w_seq fun _ hN6 => ?_
  refine w_reg ?_
  refine stp hA (r_eql hA rfl rfl) rfl fun a hA => 
    stp hA (r_as hA rfl) rfl fun a hA => ?_
  refine o_nil ?_
  refine hN6 _ _ ?_
  refine w_cond hA rfl (fun hc1 => ?_) (fun hc1 => ?_)
  · have hc10 := hc1; have hc1 := of_decide_eq_true hc1; have H := bT H hc1
    refine w_seq fun _ hN7 => ?_
    refine w_reg ?_
    refine stp hA (r_mv hA rfl) rfl fun a hA => 
      stp hA (r_mv hA rfl) rfl fun a hA => 
      stp hA (r_conv Tryd.underlying22 Tryd.underlying5 hA rfl) rfl fun a hA => ?_
    have hE2 : Els (RI .u8) 1 ([IntKind.u8.wrap x1] : List Int) ([[.int .u8 (IntKind.u8.wrap x1)]].flatten ++ ([])) := (Els.cons (c := [[.int .u8 (IntKind.u8.wrap x1)]].flatten) ⟨rfl, (wrap_in _ _)⟩ rfl Els.nil)
    refine o_bsl ([[.int .u8 (IntKind.u8.wrap x1)]].flatten ++ ([])) te5 zr5 Tryd.underlying23 hI hA rfl rfl rfl rfl (by kernel_rfl) rfl fun g1 a w hA hI => ?_
    generalize hcs : ([[.int .u8 (IntKind.u8.wrap x1)]].flatten ++ ([]) : List Value) = cs2 at hE2 hI
    clear hcs
    obtain ⟨hb1, H⟩ := bG H
    have hE4 := hE1.app hE2
    refine o_appL (xs := (r1 : List Int)) (ys := (([IntKind.u8.wrap x1] : List Int) : List Int)) (j := 1) te5 Tryd.underlying23 hI rfl hA rfl rfl (src_row hI (j := 0) rfl) hE2.len (hE2.ones (one_RI _)) (by first | decide | (have hq := hb1; (try simp only [List.length_cons, List.length_nil] at hq); (try simp only [List.length_cons, List.length_nil]); (try simp only [maxLen]); omega)) (by first | decide | (have hq := hb1; (try simp only [List.length_cons, List.length_nil] at hq); (try simp only [List.length_cons, List.length_nil]); (try simp only [maxLen]); omega)) rfl fun v2 a w hA hI => 
      stp hA (r_as hA rfl) rfl fun a hA => ?_
    refine o_nil ?_
    refine hN7 _ _ ?_
    refine w_ret ?_
    obtain rfl := Option.some.inj (bS H)
    exact ret1 hA Tryd.results23 rfl ⟨_, rfl, v2, cs1 ++ cs2, rfl, hE4, ((hI.sel [1] (by decide) rfl).less (Store.le.refl _) hI.le)⟩
  · have hc10 := hc1; have hc1 := of_decide_eq_false hc1; have H := bF H hc1
    refine w_seq fun _ hN8 => ?_
    refine w_reg ?_
    refine stp hA (r_eql hA rfl rfl) rfl fun a hA => 
      stp hA (r_as hA rfl) rfl fun a hA => ?_
    refine o_nil ?_
    refine hN8 _ _ ?_
    refine w_cond hA rfl (fun hc2 => ?_) (fun hc2 => ?_)
    · have hc20 := hc2; have hc2 := of_decide_eq_true hc2; have H := bT H hc2
      refine w_seq fun _ hN9 => ?_
      refine w_reg ?_
      refine stp hA (r_mv hA rfl) rfl fun a hA => ?_
      have hE5 : Els (RI .u8) 1 ([253] : List Int) ([[.int .u8 253]].flatten ++ ([])) := (Els.cons (c := [[.int .u8 253]].flatten) ⟨rfl, (in_lit .u8 253 rfl)⟩ rfl Els.nil)
      refine o_bsl ([[.int .u8 253]].flatten ++ ([])) te5 zr5 Tryd.underlying23 hI hA rfl rfl rfl rfl (by kernel_rfl) rfl fun g2 a w hA hI => ?_
      generalize hcs : ([[.int .u8 253]].flatten ++ ([]) : List Value) = cs5 at hE5 hI
      clear hcs
      obtain ⟨hb2, H⟩ := bG H
      have hE7 := hE1.app hE5
      refine o_appL (xs := (r1 : List Int)) (ys := (([253] : List Int) : List Int)) (j := 1) te5 Tryd.underlying23 hI rfl hA rfl rfl (src_row hI (j := 0) rfl) hE5.len (hE5.ones (one_RI _)) (by first | decide | (have hq := hb2; (try simp only [List.length_cons, List.length_nil] at hq); (try simp only [List.length_cons, List.length_nil]); (try simp only [maxLen]); omega)) (by first | decide | (have hq := hb2; (try simp only [List.length_cons, List.length_nil] at hq); (try simp only [List.length_cons, List.length_nil]); (try simp only [maxLen]); omega)) rfl fun v3 a w hA hI => 
        stp hA (r_mv hA rfl) rfl fun a hA => ?_
      obtain ⟨r3, hr3, H⟩ := bB H
      refine o_call _ cf94 hA rfl (compact_number.c μ _ hI.agr (r1 ++ ([253] : List Int)) v3 (cs1 ++ cs5) hE7 (hI.item (j := 1) rfl) x1 hx1 2 (in_lit .i64 2 rfl) r3 hr3) rfl fun v4 a w hz3 hA => ?_
      obtain ⟨_, cs8, rfl, hE8, hi2⟩ := hz3
      have hI := hI.call1 1 rfl hi2
      refine stp hA (r_as hA rfl) rfl fun a hA => ?_
      refine o_nil ?_
      refine hN9 _ _ ?_
      refine w_ret ?_
      obtain rfl := Option.some.inj (bS H)
      exact ret1 hA Tryd.results23 rfl ⟨_, rfl, v4, cs8, rfl, hE8, ((hI.sel [0] (by decide) rfl).less (Store.le.refl _) hI.le)⟩
    · have hc20 := hc2; have hc2 := of_decide_eq_false hc2; have H := bF H hc2
      refine w_seq fun _ hN10 => ?_
      refine w_reg ?_
      refine stp hA (r_eql hA rfl rfl) rfl fun a hA => 
        stp hA (r_as hA rfl) rfl fun a hA => ?_
      refine o_nil ?_
      refine hN10 _ _ ?_
      refine w_cond hA rfl (fun hc3 => ?_) (fun hc3 => ?_)
      · have hc30 := hc3; have hc3 := of_decide_eq_true hc3; have H := bT H hc3
        refine w_seq fun _ hN11 => ?_
        refine w_reg ?_
        refine stp hA (r_mv hA rfl) rfl fun a hA => ?_
        have hE9 : Els (RI .u8) 1 ([254] : List Int) ([[.int .u8 254]].flatten ++ ([])) := (Els.cons (c := [[.int .u8 254]].flatten) ⟨rfl, (in_lit .u8 254 rfl)⟩ rfl Els.nil)
        refine o_bsl ([[.int .u8 254]].flatten ++ ([])) te5 zr5 Tryd.underlying23 hI hA rfl rfl rfl rfl (by kernel_rfl) rfl fun g3 a w hA hI => ?_
        generalize hcs : ([[.int .u8 254]].flatten ++ ([]) : List Value) = cs9 at hE9 hI
        clear hcs
        obtain ⟨hb3, H⟩ := bG H
        have hE11 := hE1.app hE9
        refine o_appL (xs := (r1 : List Int)) (ys := (([254] : List Int) : List Int)) (j := 1) te5 Tryd.underlying23 hI rfl hA rfl rfl (src_row hI (j := 0) rfl) hE9.len (hE9.ones (one_RI _)) (by first | decide | (have hq := hb3; (try simp only [List.length_cons, List.length_nil] at hq); (try simp only [List.length_cons, List.length_nil]); (try simp only [maxLen]); omega)) (by first | decide | (have hq := hb3; (try simp only [List.length_cons, List.length_nil] at hq); (try simp only [List.length_cons, List.length_nil]); (try simp only [maxLen]); omega)) rfl fun v5 a w hA hI => 
          stp hA (r_mv hA rfl) rfl fun a hA => ?_
        obtain ⟨r4, hr4, H⟩ := bB H
        refine o_call _ cf94 hA rfl (compact_number.c μ _ hI.agr (r1 ++ ([254] : List Int)) v5 (cs1 ++ cs9) hE11 (hI.item (j := 1) rfl) x1 hx1 4 (in_lit .i64 4 rfl) r4 hr4) rfl fun v6 a w hz4 hA => ?_
        obtain ⟨_, cs12, rfl, hE12, hi3⟩ := hz4
        have hI := hI.call1 1 rfl hi3
        refine stp hA (r_as hA rfl) rfl fun a hA => ?_
        refine o_nil ?_
        refine hN11 _ _ ?_
        refine w_ret ?_
        obtain rfl := Option.some.inj (bS H)
        exact ret1 hA Tryd.results23 rfl ⟨_, rfl, v6, cs12, rfl, hE12, ((hI.sel [0] (by decide) rfl).less (Store.le.refl _) hI.le)⟩
      · have hc30 := hc3; have hc3 := of_decide_eq_false hc3; have H := bF H hc3
        refine w_skip ?_
        refine hN3 _ _ ?_
        refine w_seq fun _ hN12 => ?_
        refine w_reg ?_
        refine stp hA (r_mv hA rfl) rfl fun a hA => ?_
        have hE13 : Els (RI .u8) 1 ([255] : List Int) ([[.int .u8 255]].flatten ++ ([])) := (Els.cons (c := [[.int .u8 255]].flatten) ⟨rfl, (in_lit .u8 255 rfl)⟩ rfl Els.nil)
        refine o_bsl ([[.int .u8 255]].flatten ++ ([])) te5 zr5 Tryd.underlying23 hI hA rfl rfl rfl rfl (by kernel_rfl) rfl fun g4 a w hA hI => ?_
        generalize hcs : ([[.int .u8 255]].flatten ++ ([]) : List Value) = cs13 at hE13 hI
        clear hcs
        obtain ⟨hb4, H⟩ := bG H
        have hE15 := hE1.app hE13
        refine o_appL (xs := (r1 : List Int)) (ys := (([255] : List Int) : List Int)) (j := 1) te5 Tryd.underlying23 hI rfl hA rfl rfl (src_row hI (j := 0) rfl) hE13.len (hE13.ones (one_RI _)) (by first | decide | (have hq := hb4; (try simp only [List.length_cons, List.length_nil] at hq); (try simp only [List.length_cons, List.length_nil]); (try simp only [maxLen]); omega)) (by first | decide | (have hq := hb4; (try simp only [List.length_cons, List.length_nil] at hq); (try simp only [List.length_cons, List.length_nil]); (try simp only [maxLen]); omega)) rfl fun v7 a w hA hI => 
          stp hA (r_mv hA rfl) rfl fun a hA => ?_
        obtain ⟨r5, hr5, H⟩ := bB H
        refine o_call _ cf94 hA rfl (compact_number.c μ _ hI.agr (r1 ++ ([255] : List Int)) v7 (cs1 ++ cs13) hE15 (hI.item (j := 1) rfl) x1 hx1 8 (in_lit .i64 8 rfl) r5 hr5) rfl fun v8 a w hz5 hA => ?_
        obtain ⟨_, cs16, rfl, hE16, hi4⟩ := hz5
        have hI := hI.call1 1 rfl hi4
        refine stp hA (r_as hA rfl) rfl fun a hA => ?_
        refine o_nil ?_
        refine hN12 _ _ ?_
        refine w_ret ?_
        obtain rfl := Option.some.inj (bS H)
        exact ret1 hA Tryd.results23 rfl ⟨_, rfl, v8, cs16, rfl, hE16, ((hI.sel [0] (by decide) rfl).less (Store.le.refl _) hI.le)⟩
set_option maxRecDepth 20000 in
theorem compact_Read.c (μ : Store) (w0 : World) (hμ : Agr μ w0) (x0 : List Int) (u0 : Value) (hx0 : Slc (RI .u8) 1 μ u0 x0) (r : compactReader) (H : compact_Read.f x0 = some r) :
    Calls Tryd.prog 25 [u0].toArray w0 (fun e w' => ∃ v, e = .returned v ∧ ∃ (gq_1 : Nat) (vp_1 : Value) (vp_2 : Value) (μ' : Store), v = .pointer (some ⟨gq_1, 0, none⟩) ∧ Slc (RI .u8) 1 μ' vp_1 r.b ∧ InR .i64 r.at_ ∧ ErS μ' vp_2 r.err ∧ Iv w0 [] μ μ' [cel gq_1 [[vp_1], [.int .i64 r.at_], [vp_2]] 143] w') := by
  refine enter Tryd.func25 rfl Tryd.ntmps25 rfl fun a hA => ?_
  have hI := Iv.start hμ
  have H := bI H
  refine w_seq fun _ hN1 => ?_
  refine w_reg ?_
  refine stp hA (r_as hA rfl) rfl fun a hA => ?_
  refine o_nil ?_
  refine hN1 _ _ ?_
  refine w_seq fun _ hN2 => ?_
  refine w_reg ?_
  refine stp hA (r_mv hA rfl) rfl fun a hA => ?_
  obtain ⟨r1, hr1, H⟩ := bB H
  refine o_call _ cf93 hA rfl (bytes_Clone.c μ _ hI.agr x0 u0 hx0 r1 hr1) rfl fun v1 a w hz1 hA => ?_
  obtain ⟨_, cs1, rfl, hE1, hi1⟩ := hz1
  have hI := hI.call hi1
  refine stp hA (r_bldS (cs := [[v1], [.int .i64 0], [.nilIface]].flatten.toArray) (pl := [(0, 1), (1, 1), (2, 1)]) zr143 Tryd.underlying143 ⟨rfl, sz23, rfl, sz3, rfl, sz34, trivial⟩ hA rfl ((fill_one (own_cell hI (j := 0) rfl) rfl (by kernel_rfl)).trans (by kernel_rfl))) rfl fun a hA => 
    o_box [[v1], [.int .i64 0], [.nilIface]] hI hA rfl rfl rfl fun g1 a w hA hI hg1 => 
    stp hA (r_as hA rfl) rfl fun a hA => ?_
  refine o_nil ?_
  refine hN2 _ _ ?_
  refine w_ret ?_
  obtain ⟨μ1, hle1, hsv1, hI⟩ := hI.freezeRow 1 rfl
  have hS1 : Slc (RI .u8) 1 μ1 v1 r1 := ⟨_, hE1, hsv1⟩
  obtain rfl := Option.some.inj (bS H)
  exact ret1 hA Tryd.results25 rfl ⟨_, rfl, g1, v1, .nilIface, μ1, rfl, hS1, (in_lit .i64 0 rfl), erv_nil, hI⟩
set_option maxRecDepth 20000 in
theorem compact_Reader_next.c (μ : Store) (w0 : World) (hμ : Agr μ w0) (x0 : compactReader) (vp1 : Value) (vp2 : Value) (g0 : Nat) (hp1 : Slc (RI .u8) 1 μ vp1 x0.b) (hp2 : InR .i64 x0.at_) (hp3 : ErS μ vp2 x0.err) (ho0 : Its μ w0 [cel g0 [[vp1], [.int .i64 x0.at_], [vp2]] 143]) (x1 : Int) (hx1 : InR .i64 x1) (e8 : Value) (he8 : ErS μ e8 (Er.b 9)) (r : (List Int) × compactReader) (H : compact_Reader_next.f x0 x1 = some r) :
    Calls Tryd.prog 97 [.pointer (some ⟨g0, 0, none⟩), .int .i64 x1].toArray w0 (fun e w' => ∃ v, e = .returned v ∧ ∃ (v0 : Value) (vp_1 : Value) (vp_2 : Value) (μ' : Store), v = v0 ∧ Slc (RI .u8) 1 μ' v0 (r.1) ∧ Slc (RI .u8) 1 μ' vp_1 (r.2).b ∧ InR .i64 (r.2).at_ ∧ ErS μ' vp_2 (r.2).err ∧ Iv w0 (many [cel g0 [[vp1], [.int .i64 x0.at_], [vp2]] 143]).foot μ μ' [cel g0 [[vp_1], [.int .i64 ((r.2).at_)], [vp_2]] 143] w') := by
  refine enter Tryd.func97 rfl Tryd.ntmps97 rfl fun a hA => ?_
  have hI := Iv.startN hμ ho0
  have H := bI H
  refine w_seq fun _ hN1 => ?_
  refine w_reg ?_
  refine stp hA (r_as hA rfl) rfl fun a hA => ?_
  refine o_nil ?_
  refine hN1 _ _ ?_
  refine w_seq fun _ hN2 => ?_
  refine w_seq fun _ hN3 => ?_
  refine w_reg ?_
  refine stp hA (r_mv hA rfl) rfl fun a hA => 
    stp hA (r_nilc hA rfl) rfl fun a hA => 
    stp hA (r_fd (k := 2) Tryd.underlying143 rfl sz34 hA rfl rfl) rfl fun a hA => 
    stp hA (r_ld1 (j := 0) [[vp1], [.int .i64 x0.at_]] [] Tryd.underlying34 rfl hI rfl hA rfl rfl) rfl fun a hA => 
    stp hA (r_neE erF hI.agr hp3 erv_nil (.inl ⟨.inr ⟨_, rfl⟩, Er.fitR⟩) hA rfl rfl) rfl fun a hA => ?_
  refine o_nil ?_
  refine hN3 _ _ ?_
  refine w_cond hA rfl (fun hc1 => ?_) (fun hc1 => ?_)
  · have hc10 := hc1; have hc1 := of_decide_eq_true hc1; have H := bT H hc1
    refine w_seq fun _ hN4 => ?_
    refine w_reg ?_
    refine stp hA (r_as hA rfl) rfl fun a hA => ?_
    refine o_nil ?_
    refine hN4 _ _ ?_
    refine w_ret ?_
    obtain rfl := Option.some.inj (bS H)
    exact ret1 hA Tryd.results97 rfl ⟨_, rfl, (.slice none 0 0), vp1, vp2, μ, rfl, (slc_nil _ _ _), hp1, hp2, hp3, hI⟩
  · have hc10 := hc1; have hc1 := of_decide_eq_false hc1; have H := bF H hc1
    refine w_skip ?_
    refine hN2 _ _ ?_
    refine w_seq fun _ hN5 => ?_
    refine w_seq fun _ hN6 => ?_
    refine w_draw mo (by kernel_rfl) hI ?_
    refine qtp hA (fun _ hI => r_mv hA rfl) rfl fun a hA => 
      qtp hA (fun _ hI => r_mv hA rfl) rfl fun a hA => 
      qtp hA (fun _ hI => r_nilc hA rfl) rfl fun a hA => 
      qtp hA (fun _ hI => r_fd (k := 0) Tryd.underlying143 rfl sz23 hA rfl rfl) rfl fun a hA => 
      qtp hA (fun _ hI => r_ld1 (j := 0) [] [[.int .i64 x0.at_], [vp2]] Tryd.underlying23 rfl hI rfl hA rfl rfl) rfl fun a hA => ?_
    obtain ⟨_, hsl1⟩ := Slc.sv hp1
    refine qtp hA (fun _ hI => r_slen Tryd.underlying23 hsl1 hA rfl) rfl fun a hA => 
      qtp hA (fun _ hI => r_mv hA rfl) rfl fun a hA => 
      qtp hA (fun _ hI => r_nilc hA rfl) rfl fun a hA => 
      qtp hA (fun _ hI => r_fd (k := 1) Tryd.underlying143 rfl sz3 hA rfl rfl) rfl fun a hA => 
      qtp hA (fun _ hI => r_ld1 (j := 0) [[vp1]] [[vp2]] Tryd.underlying3 rfl hI rfl hA rfl rfl) rfl fun a hA => 
      qtp hA (fun _ hI => r_sub hA rfl rfl) rfl fun a hA => 
      qtp hA (fun _ hI => r_gtr hA rfl rfl) rfl fun a hA => ?_
    refine q_nil fun w hI => ?_
    refine hN6 _ _ ?_
    refine w_cond hA rfl (fun hc2 => ?_) (fun hc2 => ?_)
    · have hc20 := hc2; have hc2 := of_decide_eq_true hc2; have H := bT H hc2
      refine w_seq fun _ hN7 => ?_
      refine w_reg ?_
      refine stp hA (r_mv hA rfl) rfl fun a hA => 
        stp hA (r_ldG Tryd.underlying34 rfl hI.agr he8 hA) rfl fun a hA => 
        stp hA (r_nilc hA rfl) rfl fun a hA => 
        stp hA (r_fd (k := 2) Tryd.underlying143 rfl sz34 hA rfl rfl) rfl fun a hA => ?_
      have hsc : ErS μ e8 xErrEnd := he8
      refine o_st (j := 0) [[vp1], [.int .i64 x0.at_]] [[vp2]] [[e8]] [] sz34 rfl rfl (by intro c hc; simp at hc; subst hc; exact ErV.one hsc) hI rfl hA rfl rfl (cells_err hsc) rfl fun w hI => ?_
      refine o_nil ?_
      refine hN7 _ _ ?_
      refine w_seq fun _ hN8 => ?_
      refine w_reg ?_
      refine stp hA (r_as hA rfl) rfl fun a hA => ?_
      refine o_nil ?_
      refine hN8 _ _ ?_
      refine w_ret ?_
      obtain rfl := Option.some.inj (bS H)
      exact ret1 hA Tryd.results97 rfl ⟨_, rfl, (.slice none 0 0), vp1, e8, μ, rfl, (slc_nil _ _ _), hp1, hp2, he8, hI⟩
    · have hc20 := hc2; have hc2 := of_decide_eq_false hc2; have H := bF H hc2
      refine w_skip ?_
      refine hN5 _ _ ?_
      refine w_seq fun _ hN9 => ?_
      refine w_reg ?_
      refine stp hA (r_mv hA rfl) rfl fun a hA => 
        stp hA (r_nilc hA rfl) rfl fun a hA => 
        stp hA (r_fd (k := 1) Tryd.underlying143 rfl sz3 hA rfl rfl) rfl fun a hA => 
        stp hA (r_ld1 (j := 0) [[vp1]] [[vp2]] Tryd.underlying3 rfl hI rfl hA rfl rfl) rfl fun a hA => 
        stp hA (r_mv hA rfl) rfl fun a hA => 
        stp hA (r_add hA rfl rfl) rfl fun a hA => 
        stp hA (r_nilc hA rfl) rfl fun a hA => 
        stp hA (r_fd (k := 1) Tryd.underlying143 rfl sz3 hA rfl rfl) rfl fun a hA => 
        o_st (j := 0) [[vp1]] [[.int .i64 x0.at_]] [[.int .i64 (IntKind.i64.wrap (x0.at_ + x1))]] [[vp2]] sz3 rfl rfl (fl_cons (one_one rfl) fl_nil) hI rfl hA rfl rfl rfl rfl fun w hI => ?_
      refine o_nil ?_
      refine hN9 _ _ ?_
      refine w_seq fun _ hN10 => ?_
      refine w_draw mo (by kernel_rfl) hI ?_
      refine qtp hA (fun _ hI => r_mv hA rfl) rfl fun a hA => 
        qtp hA (fun _ hI => r_nilc hA rfl) rfl fun a hA => 
        qtp hA (fun _ hI => r_fd (k := 0) Tryd.underlying143 rfl sz23 hA rfl rfl) rfl fun a hA => 
        qtp hA (fun _ hI => r_ld1 (j := 0) [] [[.int .i64 (IntKind.i64.wrap (x0.at_ + x1))], [vp2]] Tryd.underlying23 rfl hI rfl hA rfl rfl) rfl fun a hA => 
        qtp hA (fun _ hI => r_mv hA rfl) rfl fun a hA => 
        qtp hA (fun _ hI => r_nilc hA rfl) rfl fun a hA => 
        qtp hA (fun _ hI => r_fd (k := 1) Tryd.underlying143 rfl sz3 hA rfl rfl) rfl fun a hA => 
        qtp hA (fun _ hI => r_ld1 (j := 0) [[vp1]] [[vp2]] Tryd.underlying3 rfl hI rfl hA rfl rfl) rfl fun a hA => 
        qtp hA (fun _ hI => r_mv hA rfl) rfl fun a hA => 
        qtp hA (fun _ hI => r_sub hA rfl rfl) rfl fun a hA => 
        qtp hA (fun _ hI => r_mv hA rfl) rfl fun a hA => 
        qtp hA (fun _ hI => r_nilc hA rfl) rfl fun a hA => 
        qtp hA (fun _ hI => r_fd (k := 1) Tryd.underlying143 rfl sz3 hA rfl rfl) rfl fun a hA => 
        qtp hA (fun _ hI => r_ld1 (j := 0) [[vp1]] [[vp2]] Tryd.underlying3 rfl hI rfl hA rfl rfl) rfl fun a hA => ?_
      obtain ⟨hb1, H⟩ := bG H
      obtain ⟨v1, hS1, hr1⟩ := r_sl (P := Tryd.prog) (t := 23) (x := .tmp 37) (l := (some (.tmp 43))) (h := (some (.tmp 47))) (i := IntKind.i64.wrap ((IntKind.i64.wrap (x0.at_ + x1)) - x1)) (j := IntKind.i64.wrap (x0.at_ + x1)) Tryd.underlying23 sz5 hp1 hA rfl rfl rfl (by have hq := hb1; omega) (by have hq := hb1; omega) (by have hq := hb1; omega)
      refine qtp hA (fun _ hI => hr1 _ _ _ _ _ _) rfl fun a hA => 
        qtp hA (fun _ hI => r_as hA rfl) rfl fun a hA => ?_
      refine q_nil fun w hI => ?_
      refine hN10 _ _ ?_
      refine w_ret ?_
      obtain rfl := Option.some.inj (bS H)
      exact ret1 hA Tryd.results97 rfl ⟨_, rfl, v1, vp1, vp2, μ, rfl, hS1, hp1, (wrap_in _ _), hp3, hI⟩
set_option maxRecDepth 20000 in
theorem compact_Reader_whole.c (μ : Store) (w0 : World) (hμ : Agr μ w0) (x0 : compactReader) (vp1 : Value) (vp2 : Value) (g0 : Nat) (hp1 : Slc (RI .u8) 1 μ vp1 x0.b) (hp2 : InR .i64 x0.at_) (hp3 : ErS μ vp2 x0.err) (ho0 : Its μ w0 [cel g0 [[vp1], [.int .i64 x0.at_], [vp2]] 143]) (x1 : Int) (hx1 : InR .i64 x1) (e8 : Value) (he8 : ErS μ e8 (Er.b 9)) (r : Int × compactReader) (H : compact_Reader_whole.f x0 x1 = some r) :
    Calls Tryd.prog 95 [.pointer (some ⟨g0, 0, none⟩), .int .i64 x1].toArray w0 (fun e w' => ∃ v, e = .returned v ∧ ∃ (vp_1 : Value) (vp_2 : Value) (μ' : Store), v = .int .u64 (r.1) ∧ InR .u64 (r.1) ∧ Slc (RI .u8) 1 μ' vp_1 (r.2).b ∧ InR .i64 (r.2).at_ ∧ ErS μ' vp_2 (r.2).err ∧ Iv w0 (many [cel g0 [[vp1], [.int .i64 x0.at_], [vp2]] 143]).foot μ μ' [cel g0 [[vp_1], [.int .i64 ((r.2).at_)], [vp_2]] 143] w') := by
  refine enter Tryd.func95 rfl Tryd.ntmps95 rfl fun a hA => ?_
  have hI := Iv.startN hμ ho0
  have H := bI H
  refine w_seq fun _ hN1 => ?_
  refine w_reg ?_
  refine stp hA (r_as hA rfl) rfl fun a hA => ?_
  refine o_nil ?_
  refine hN1 _ _ ?_
  refine w_seq fun _ hN2 => ?_
  refine w_reg ?_
  refine stp hA (r_as hA rfl) rfl fun a hA => ?_
  refine o_nil ?_
  refine hN2 _ _ ?_
  obtain ⟨⟨c1, c2, c3, c4⟩, hz1, Hk1⟩ := bB H
  refine w_cut (fun a w => ∃ (μ1 : Store) (vvc2 : Value) (vvc4 : Value), μ.le μ1 ∧ InR .u64 c1 ∧ Slc (RI .u8) 1 μ1 vvc2 c2 ∧ InR .i64 c3 ∧ ErS μ1 vvc4 c4 ∧ Fr a 26 [(0, .pointer (some ⟨g0, 0, none⟩)), (1, .int .i64 x1), (4, .int .u64 0), (5, .int .u64 c1)] ∧ Iv w0 (many [cel g0 [[vp1], [.int .i64 x0.at_], [vp2]] 143]).foot μ μ1 [cel g0 [[vvc2], [.int .i64 c3], [vvc4]] 143] w) ?_ ?_
  · have H := bI hz1
    refine w_seq fun _ hN3 => ?_
    refine w_reg ?_
    refine stp hA (r_mv hA rfl) rfl fun a hA => 
      stp hA (r_mv hA rfl) rfl fun a hA => ?_
    obtain ⟨r1, hr1, H⟩ := bB H
    refine o_call _ cf97 hA rfl (compact_Reader_next.c μ _ hI.agr x0 vp1 vp2 g0 hp1 hp2 hp3 (hI.handN 1) x1 hx1 e8 he8 r1 hr1) rfl fun v1 a w hz2 hA => ?_
    obtain ⟨_, vp3, vp4, μ2, rfl, hS1, hp4, hp5, hp6, hi1⟩ := hz2
    have hI := hI.backN 1 hi1
    have hI : Iv w0 (many [cel g0 [[vp1], [.int .i64 x0.at_], [vp2]] 143]).foot μ μ2 [cel g0 [[vp3], [.int .i64 r1.2.at_], [vp4]] 143] w := hI
    obtain ⟨_, hsl1⟩ := Slc.sv hS1
    refine stp hA (r_slen Tryd.underlying23 hsl1 hA rfl) rfl fun a hA => 
      stp hA (r_mv hA rfl) rfl fun a hA => ?_
    refine o_nil ?_
    refine hN3 _ _ ?_
    refine w_block ?_
    obtain ⟨z1, hz3, Hk2⟩ := bind_some H
    obtain ⟨n1, hn1⟩ := loopO_some hz3
    refine w_loop (fun n a w => ∃ (s1 : Int) (s2 : Int), loopN (compact_Reader_whole.s0 r1) n (s1, s2) = some z1 ∧ InR .u64 s1 ∧ InR .i64 s2 ∧ Fr a 26 [(0, .pointer (some ⟨g0, 0, none⟩)), (1, .int .i64 x1), (4, .int .u64 0), (5, .int .u64 s1), (10, v1), (11, .int .i64 (r1.1.length : Int)), (12, .int .i64 s2)] ∧ Iv w0 (many [cel g0 [[vp1], [.int .i64 x0.at_], [vp2]] 143]).foot μ μ2 [cel g0 [[vp3], [.int .i64 r1.2.at_], [vp4]] 143] w) n1 ⟨0, 0, hn1, (in_lit .u64 0 rfl), (in_lit .i64 0 rfl), hA.sub ⟨rfl, rfl, rfl, rfl, rfl, rfl, rfl, trivial⟩, hI⟩ ?_
    clear hA hI
    rintro n a w ⟨s1, s2, hn1, ws1, ws2, hA, hI⟩
    obtain ⟨m1, rfl, H⟩ := loopN_bind hn1
    clear hn1
    refine w_seq fun _ hN4 => ?_
    refine w_reg ?_
    refine stp hA (r_lss hA rfl rfl) rfl fun a hA => ?_
    refine o_nil ?_
    refine hN4 _ _ ?_
    refine w_seq fun _ hN5 => ?_
    refine w_cond hA rfl (fun hc1 => ?_) (fun hc1 => ?_)
    · have hc10 := hc1; have hc1 := of_decide_eq_true hc1; have H := bT H hc1
      refine w_skip ?_
      refine hN5 _ _ ?_
      refine w_seq fun _ hN6 => ?_
      refine w_block ?_
      refine w_seq fun _ hN7 => ?_
      refine w_reg ?_
      refine stp hA (r_mv hA rfl) rfl fun a hA => ?_
      obtain ⟨hb1, H⟩ := bG H
      obtain ⟨_, he1, _, hat1⟩ := Slc.elem1 hS1 (getD_some 0 hb1.1 hb1.2)
      obtain ⟨rfl, hw1⟩ := he1
      obtain ⟨_, hsl2⟩ := Slc.sv hS1
      refine stp hA (r_six1 Tryd.underlying23 sz5 hsl2 hA rfl rfl hb1.1 hb1.2) rfl fun a hA => 
        stp hA (r_ldm1 [] [] Tryd.underlying5 rfl hI.agr hat1 hA rfl rfl) rfl fun a hA => 
        stp hA (r_as hA rfl) rfl fun a hA => 
        stp hA (r_as hA rfl) rfl fun a hA => ?_
      refine o_nil ?_
      refine hN7 _ _ ?_
      refine w_reg ?_
      refine stp hA (r_mv hA rfl) rfl fun a hA => 
        stp hA (r_mv hA rfl) rfl fun a hA => 
        stp hA (r_conv Tryd.underlying5 Tryd.underlying22 hA rfl) rfl fun a hA => 
        stp hA (r_mv hA rfl) rfl fun a hA => 
        stp hA (r_mul hA rfl rfl) rfl fun a hA => ?_
      obtain ⟨hb2, H⟩ := bG H
      refine stp hA (r_shl hA rfl rfl hb2) rfl fun a hA => 
        stp hA (r_or hA rfl rfl) rfl fun a hA => 
        stp hA (r_as hA rfl) rfl fun a hA => ?_
      refine o_nil ?_
      refine hN6 _ _ ?_
      refine w_reg ?_
      refine stp hA (r_add hA rfl rfl) rfl fun a hA => 
        stp hA (r_mv hA rfl) rfl fun a hA => ?_
      refine o_nil ?_
      exact ⟨m1, Nat.lt_succ_self _, bOr .u64 s1 (sL .u64 (IntKind.u64.wrap (r1.1.getD s2.toNat 0)) (IntKind.i64.wrap (8 * s2))), IntKind.i64.wrap (s2 + 1), H, (wrap_in _ _), (wrap_in _ _), hA.sub ⟨rfl, rfl, rfl, rfl, rfl, rfl, rfl, trivial⟩, hI⟩
    · have hc10 := hc1; have hc1 := of_decide_eq_false hc1; have H := bF H hc1
      refine w_exit rfl ?_
      have H : some (s1, r1.2.b, r1.2.at_, r1.2.err) = some z1 := H
      obtain rfl := Option.some.inj H
      have H := Hk2
      cases Option.some.inj (bS H)
      exact ⟨μ2, vp3, vp4, hi1.le, ws1, hp4, hp5, hp6, hA.sub ⟨rfl, rfl, rfl, rfl, trivial⟩, hI⟩
  · rintro a w ⟨μ1, vvc2, vvc4, hle1, wc1, wc2, wc3, wc4, hA, hI⟩
    have H := Hk1
    refine w_seq fun _ hN8 => ?_
    refine w_reg ?_
    refine stp hA (r_mv hA rfl) rfl fun a hA => 
      stp hA (r_as hA rfl) rfl fun a hA => ?_
    refine o_nil ?_
    refine hN8 _ _ ?_
    refine w_ret ?_
    obtain rfl := Option.some.inj (bS H)
    exact ret1 hA Tryd.results95 rfl ⟨_, rfl, vvc2, vvc4, μ1, rfl, wc1, wc2, wc3, wc4, hI⟩
set_option maxRecDepth 20000 in
theorem compact_Reader_Num.c (μ : Store) (w0 : World) (hμ : Agr μ w0) (x0 : compactReader) (vp1 : Value) (vp2 : Value) (g0 : Nat) (hp1 : Slc (RI .u8) 1 μ vp1 x0.b) (hp2 : InR .i64 x0.at_) (hp3 : ErS μ vp2 x0.err) (ho0 : Its μ w0 [cel g0 [[vp1], [.int .i64 x0.at_], [vp2]] 143]) (x1 : Int) (hx1 : InR .u64 x1) (e0 : Value) (he0 : ErS μ e0 (Er.b 1)) (e1 : Value) (he1 : ErS μ e1 (Er.b 2)) (e8 : Value) (he8 : ErS μ e8 (Er.b 9)) (r : Int × compactReader) (H : compact_Reader_Num.f x0 x1 = some r) :
    Calls Tryd.prog 27 [.pointer (some ⟨g0, 0, none⟩), .int .u64 x1].toArray w0 (fun e w' => ∃ v, e = .returned v ∧ ∃ (vp_1 : Value) (vp_2 : Value) (μ' : Store), v = .int .u64 (r.1) ∧ InR .u64 (r.1) ∧ Slc (RI .u8) 1 μ' vp_1 (r.2).b ∧ InR .i64 (r.2).at_ ∧ ErS μ' vp_2 (r.2).err ∧ Iv w0 (many [cel g0 [[vp1], [.int .i64 x0.at_], [vp2]] 143]).foot μ μ' [cel g0 [[vp_1], [.int .i64 ((r.2).at_)], [vp_2]] 143] w') := by
  refine enter Tryd.func27 rfl Tryd.ntmps27 rfl fun a hA => ?_
  have hI := Iv.startN hμ ho0
  have H := bI H
  refine w_seq fun _ hN1 => ?_
  refine w_reg ?_
  refine stp hA (r_as hA rfl) rfl fun a hA => ?_
  refine o_nil ?_
  refine hN1 _ _ ?_
  refine w_seq fun _ hN2 => ?_
  refine w_reg ?_
  refine stp hA (r_mv hA rfl) rfl fun a hA => ?_
  obtain ⟨r1, hr1, H⟩ := bB H
  refine o_call _ cf95 hA rfl (compact_Reader_whole.c μ _ hI.agr x0 vp1 vp2 g0 hp1 hp2 hp3 (hI.handN 1) 1 (in_lit .i64 1 rfl) e8 he8 r1 hr1) rfl fun v1 a w hz1 hA => ?_
  obtain ⟨vp3, vp4, μ1, rfl, hw1, hp4, hp5, hp6, hi1⟩ := hz1
  have hI := hI.backN 1 hi1
  have hI : Iv w0 (many [cel g0 [[vp1], [.int .i64 x0.at_], [vp2]] 143]).foot μ μ1 [cel g0 [[vp3], [.int .i64 r1.2.at_], [vp4]] 143] w := hI
  refine stp hA (r_as hA rfl) rfl fun a hA => ?_
  refine o_nil ?_
  refine hN2 _ _ ?_
  refine w_seq fun _ hN3 => ?_
  refine w_reg ?_
  refine stp hA (r_as hA rfl) rfl fun a hA => ?_
  refine o_nil ?_
  refine hN3 _ _ ?_
  obtain ⟨c1, hz2, Hk1⟩ := bB H
  refine w_cut (fun a w => InR .i64 c1 ∧ Fr a 46 [(0, .pointer (some ⟨g0, 0, none⟩)), (1, .int .u64 x1), (4, .int .u64 0), (5, .int .u64 r1.1), (6, .int .i64 c1)] ∧ Iv w0 (many [cel g0 [[vp1], [.int .i64 x0.at_], [vp2]] 143]).foot μ μ1 [cel g0 [[vp3], [.int .i64 r1.2.at_], [vp4]] 143] w) ?_ ?_
  · have H := bI hz2
    refine w_seq fun _ hN4 => ?_
    refine w_reg ?_
    refine stp hA (r_mv hA rfl) rfl fun a hA => ?_
    refine o_nil ?_
    refine hN4 _ _ ?_
    refine w_block ?_
    refine w_seq fun _ hN5 => ?_
    refine w_reg ?_
    refine stp hA (r_eql hA rfl rfl) rfl fun a hA => 
      stp hA (r_as hA rfl) rfl fun a hA => ?_
    refine o_nil ?_
    refine hN5 _ _ ?_
    refine w_cond hA rfl (fun hc1 => ?_) (fun hc1 => ?_)
    · have hc10 := hc1; have hc1 := of_decide_eq_true hc1; have H := bT H hc1
      refine w_reg ?_
      refine stp hA (r_as hA rfl) rfl fun a hA => ?_
      refine o_nil ?_
      cases Option.some.inj (bS H)
      exact ⟨(in_lit .i64 2 rfl), hA.sub ⟨rfl, rfl, rfl, rfl, rfl, trivial⟩, hI⟩
    · have hc10 := hc1; have hc1 := of_decide_eq_false hc1; have H := bF H hc1
      refine w_seq fun _ hN6 => ?_
      refine w_reg ?_
      refine stp hA (r_eql hA rfl rfl) rfl fun a hA => 
        stp hA (r_as hA rfl) rfl fun a hA => ?_
      refine o_nil ?_
      refine hN6 _ _ ?_
      refine w_cond hA rfl (fun hc2 => ?_) (fun hc2 => ?_)
      · have hc20 := hc2; have hc2 := of_decide_eq_true hc2; have H := bT H hc2
        refine w_reg ?_
        refine stp hA (r_as hA rfl) rfl fun a hA => ?_
        refine o_nil ?_
        cases Option.some.inj (bS H)
        exact ⟨(in_lit .i64 4 rfl), hA.sub ⟨rfl, rfl, rfl, rfl, rfl, trivial⟩, hI⟩
      · have hc20 := hc2; have hc2 := of_decide_eq_false hc2; have H := bF H hc2
        refine w_seq fun _ hN7 => ?_
        refine w_reg ?_
        refine stp hA (r_eql hA rfl rfl) rfl fun a hA => 
          stp hA (r_as hA rfl) rfl fun a hA => ?_
        refine o_nil ?_
        refine hN7 _ _ ?_
        refine w_cond hA rfl (fun hc3 => ?_) (fun hc3 => ?_)
        · have hc30 := hc3; have hc3 := of_decide_eq_true hc3; have H := bT H hc3
          refine w_reg ?_
          refine stp hA (r_as hA rfl) rfl fun a hA => ?_
          refine o_nil ?_
          cases Option.some.inj (bS H)
          exact ⟨(in_lit .i64 8 rfl), hA.sub ⟨rfl, rfl, rfl, rfl, rfl, trivial⟩, hI⟩
        · have hc30 := hc3; have hc3 := of_decide_eq_false hc3; have H := bF H hc3
          refine w_skip ?_
          cases Option.some.inj (bS H)
          exact ⟨(in_lit .i64 0 rfl), hA.sub ⟨rfl, rfl, rfl, rfl, rfl, trivial⟩, hI⟩
  · rintro a w ⟨wc1, hA, hI⟩
    have H := Hk1
    obtain ⟨⟨c2, c3, c4, c5⟩, hz3, Hk2⟩ := bB H
    refine w_cut (fun a w => ∃ (μ2 : Store) (vvc3 : Value) (vvc5 : Value), μ1.le μ2 ∧ InR .u64 c2 ∧ Slc (RI .u8) 1 μ2 vvc3 c3 ∧ InR .i64 c4 ∧ ErS μ2 vvc5 c5 ∧ Fr a 46 [(0, .pointer (some ⟨g0, 0, none⟩)), (1, .int .u64 x1), (4, .int .u64 0), (5, .int .u64 c2), (6, .int .i64 c1)] ∧ Iv w0 (many [cel g0 [[vp1], [.int .i64 x0.at_], [vp2]] 143]).foot μ μ2 [cel g0 [[vvc3], [.int .i64 c4], [vvc5]] 143] w) ?_ ?_
    · have H := bI hz3
      refine w_seq fun _ hN8 => ?_
      refine w_reg ?_
      refine stp hA (r_mv hA rfl) rfl fun a hA => 
        stp hA (r_gtr hA rfl rfl) rfl fun a hA => ?_
      refine o_nil ?_
      refine hN8 _ _ ?_
      refine w_cond hA rfl (fun hc4 => ?_) (fun hc4 => ?_)
      · have hc40 := hc4; have hc4 := of_decide_eq_true hc4; have H := bT H hc4
        refine w_reg ?_
        refine stp hA (r_mv hA rfl) rfl fun a hA => 
          stp hA (r_mv hA rfl) rfl fun a hA => ?_
        obtain ⟨r2, hr2, H⟩ := bB H
        refine o_call _ cf95 hA rfl (compact_Reader_whole.c μ1 _ hI.agr r1.2 vp3 vp4 g0 hp4 hp5 hp6 (hI.handN 1) c1 wc1 e8 (ErV.le (fun _ _ h => h) hi1.le he8) r2 hr2) rfl fun v2 a w hz4 hA => ?_
        obtain ⟨vp5, vp6, μ3, rfl, hw2, hp7, hp8, hp9, hi2⟩ := hz4
        have hI := hI.backN 1 hi2
        have hI : Iv w0 (many [cel g0 [[vp1], [.int .i64 x0.at_], [vp2]] 143]).foot μ μ3 [cel g0 [[vp5], [.int .i64 r2.2.at_], [vp6]] 143] w := hI
        refine stp hA (r_as hA rfl) rfl fun a hA => ?_
        refine o_nil ?_
        cases Option.some.inj (bS H)
        exact ⟨μ3, vp5, vp6, hi2.le, hw2, hp7, hp8, hp9, hA.sub ⟨rfl, rfl, rfl, rfl, rfl, trivial⟩, hI⟩
      · have hc40 := hc4; have hc4 := of_decide_eq_false hc4; have H := bF H hc4
        refine w_skip ?_
        cases Option.some.inj (bS H)
        exact ⟨μ1, vp3, vp4, (Store.le.refl _), hw1, hp4, hp5, hp6, hA.sub ⟨rfl, rfl, rfl, rfl, rfl, trivial⟩, hI⟩
    · rintro a w ⟨μ2, vvc3, vvc5, hle1, wc2, wc3, wc4, wc5, hA, hI⟩
      have H := Hk2
      refine w_seq fun _ hN9 => ?_
      refine w_block ?_
      refine w_seq fun _ hN10 => ?_
      refine w_reg ?_
      refine stp hA (r_mv hA rfl) rfl fun a hA => 
        stp hA (r_nilc hA rfl) rfl fun a hA => 
        stp hA (r_fd (k := 2) Tryd.underlying143 rfl sz34 hA rfl rfl) rfl fun a hA => 
        stp hA (r_ld1 (j := 0) [[vvc3], [.int .i64 c4]] [] Tryd.underlying34 rfl hI rfl hA rfl rfl) rfl fun a hA => 
        stp hA (r_neE erF hI.agr wc5 erv_nil (.inl ⟨.inr ⟨_, rfl⟩, Er.fitR⟩) hA rfl rfl) rfl fun a hA => 
        stp hA (r_as hA rfl) rfl fun a hA => ?_
      refine o_nil ?_
      refine hN10 _ _ ?_
      refine w_cond hA rfl (fun hc5 => ?_) (fun hc5 => ?_)
      · have hc50 := hc5; have hc5 := of_decide_eq_true hc5; have H := bT H hc5
        refine w_skip ?_
        refine hN9 _ _ ?_
        refine w_seq fun _ hN11 => ?_
        refine w_reg ?_
        refine stp hA (r_as hA rfl) rfl fun a hA => ?_
        refine o_nil ?_
        refine hN11 _ _ ?_
        refine w_ret ?_
        obtain rfl := Option.some.inj (bS H)
        exact ret1 hA Tryd.results27 rfl ⟨_, rfl, vvc3, vvc5, μ2, rfl, (in_lit .u64 0 rfl), wc3, wc4, wc5, hI⟩
      · have hc50 := hc5; have hc5 := of_decide_eq_false hc5; have H := bF H hc5
        refine w_seq fun _ hN12 => ?_
        refine w_reg ?_
        refine stp hA (r_mv hA rfl) rfl fun a hA => ?_
        obtain ⟨r3, hr3, H⟩ := bB H
        refine o_callp (u := .int .i64 r3) cf24 hA rfl hI (compact_Len.c μ2 _ hI.agr c2 wc2 r3 hr3) rfl fun a w hz5 hI hA => 
          stp hA (r_mv hA rfl) rfl fun a hA => 
          stp hA (r_add hA rfl rfl) rfl fun a hA => 
          stp hA (r_neq hA rfl rfl) rfl fun a hA => 
          stp hA (r_as hA rfl) rfl fun a hA => ?_
        refine o_nil ?_
        refine hN12 _ _ ?_
        refine w_cond hA rfl (fun hc6 => ?_) (fun hc6 => ?_)
        · have hc60 := hc6; have hc6 := of_decide_eq_true hc6; have H := bT H hc6
          refine w_reg ?_
          refine stp hA (r_mv hA rfl) rfl fun a hA => 
            stp hA (r_ldG Tryd.underlying34 rfl hI.agr (ErV.le (fun _ _ h => h) (hi1.le.trans hle1) he0) hA) rfl fun a hA => 
            stp hA (r_nilc hA rfl) rfl fun a hA => 
            stp hA (r_fd (k := 2) Tryd.underlying143 rfl sz34 hA rfl rfl) rfl fun a hA => ?_
          have hsc : ErS μ2 e0 xErrShape := (ErV.le (fun _ _ h => h) (hi1.le.trans hle1) he0)
          refine o_st (j := 0) [[vvc3], [.int .i64 c4]] [[vvc5]] [[e0]] [] sz34 rfl rfl (by intro c hc; simp at hc; subst hc; exact ErV.one hsc) hI rfl hA rfl rfl (cells_err hsc) rfl fun w hI => ?_
          refine o_nil ?_
          refine hN9 _ _ ?_
          refine w_seq fun _ hN13 => ?_
          refine w_reg ?_
          refine stp hA (r_as hA rfl) rfl fun a hA => ?_
          refine o_nil ?_
          refine hN13 _ _ ?_
          refine w_ret ?_
          obtain rfl := Option.some.inj (bS H)
          exact ret1 hA Tryd.results27 rfl ⟨_, rfl, vvc3, e0, μ2, rfl, (in_lit .u64 0 rfl), wc3, wc4, (ErV.le (fun _ _ h => h) (hi1.le.trans hle1) he0), hI⟩
        · have hc60 := hc6; have hc6 := of_decide_eq_false hc6; have H := bF H hc6
          refine w_seq fun _ hN14 => ?_
          refine w_reg ?_
          refine stp hA (r_mv hA rfl) rfl fun a hA => 
            stp hA (r_mv hA rfl) rfl fun a hA => 
            stp hA (r_gtr hA rfl rfl) rfl fun a hA => 
            stp hA (r_as hA rfl) rfl fun a hA => ?_
          refine o_nil ?_
          refine hN14 _ _ ?_
          refine w_cond hA rfl (fun hc7 => ?_) (fun hc7 => ?_)
          · have hc70 := hc7; have hc7 := of_decide_eq_true hc7; have H := bT H hc7
            refine w_reg ?_
            refine stp hA (r_mv hA rfl) rfl fun a hA => 
              stp hA (r_ldG Tryd.underlying34 rfl hI.agr (ErV.le (fun _ _ h => h) (hi1.le.trans hle1) he1) hA) rfl fun a hA => 
              stp hA (r_nilc hA rfl) rfl fun a hA => 
              stp hA (r_fd (k := 2) Tryd.underlying143 rfl sz34 hA rfl rfl) rfl fun a hA => ?_
            have hsc : ErS μ2 e1 xErrMany := (ErV.le (fun _ _ h => h) (hi1.le.trans hle1) he1)
            refine o_st (j := 0) [[vvc3], [.int .i64 c4]] [[vvc5]] [[e1]] [] sz34 rfl rfl (by intro c hc; simp at hc; subst hc; exact ErV.one hsc) hI rfl hA rfl rfl (cells_err hsc) rfl fun w hI => ?_
            refine o_nil ?_
            refine hN9 _ _ ?_
            refine w_seq fun _ hN15 => ?_
            refine w_reg ?_
            refine stp hA (r_as hA rfl) rfl fun a hA => ?_
            refine o_nil ?_
            refine hN15 _ _ ?_
            refine w_ret ?_
            obtain rfl := Option.some.inj (bS H)
            exact ret1 hA Tryd.results27 rfl ⟨_, rfl, vvc3, e1, μ2, rfl, (in_lit .u64 0 rfl), wc3, wc4, (ErV.le (fun _ _ h => h) (hi1.le.trans hle1) he1), hI⟩
          · have hc70 := hc7; have hc7 := of_decide_eq_false hc7; have H := bF H hc7
            refine w_seq fun _ hN16 => ?_
            refine w_reg ?_
            refine stp hA (r_mv hA rfl) rfl fun a hA => 
              stp hA (r_as hA rfl) rfl fun a hA => ?_
            refine o_nil ?_
            refine hN16 _ _ ?_
            refine w_ret ?_
            obtain rfl := Option.some.inj (bS H)
            exact ret1 hA Tryd.results27 rfl ⟨_, rfl, vvc3, vvc5, μ2, rfl, wc2, wc3, wc4, wc5, hI⟩
set_option maxRecDepth 20000 in
theorem compact_Reader_Left.c (μ : Store) (w0 : World) (hμ : Agr μ w0) (x0 : compactReader) (vp1 : Value) (vp2 : Value) (g0 : Nat) (hp1 : Slc (RI .u8) 1 μ vp1 x0.b) (hp2 : InR .i64 x0.at_) (hp3 : ErS μ vp2 x0.err) (ho0 : Its μ w0 [cel g0 [[vp1], [.int .i64 x0.at_], [vp2]] 143]) (r : Int) (H : compact_Reader_Left.f x0 = some r) :
    Calls Tryd.prog 28 [.pointer (some ⟨g0, 0, none⟩)].toArray w0 (fun e w' => ∃ v, e = .returned v ∧ v = .int .i64 r ∧ InR .i64 r ∧ Iv w0 (many [cel g0 [[vp1], [.int .i64 x0.at_], [vp2]] 143]).foot μ μ [cel g0 [[vp1], [.int .i64 x0.at_], [vp2]] 143] w') := by
  refine enter Tryd.func28 rfl Tryd.ntmps28 rfl fun a hA => ?_
  have hI := Iv.startN hμ ho0
  have H := bI H
  refine w_seq fun _ hN1 => ?_
  refine w_reg ?_
  refine stp hA (r_as hA rfl) rfl fun a hA => ?_
  refine o_nil ?_
  refine hN1 _ _ ?_
  refine w_seq fun _ hN2 => ?_
  refine w_draw mo (by kernel_rfl) hI ?_
  refine qtp hA (fun _ hI => r_mv hA rfl) rfl fun a hA => 
    qtp hA (fun _ hI => r_nilc hA rfl) rfl fun a hA => 
    qtp hA (fun _ hI => r_fd (k := 0) Tryd.underlying143 rfl sz23 hA rfl rfl) rfl fun a hA => 
    qtp hA (fun _ hI => r_ld1 (j := 0) [] [[.int .i64 x0.at_], [vp2]] Tryd.underlying23 rfl hI rfl hA rfl rfl) rfl fun a hA => ?_
  obtain ⟨_, hsl1⟩ := Slc.sv hp1
  refine qtp hA (fun _ hI => r_slen Tryd.underlying23 hsl1 hA rfl) rfl fun a hA => 
    qtp hA (fun _ hI => r_mv hA rfl) rfl fun a hA => 
    qtp hA (fun _ hI => r_nilc hA rfl) rfl fun a hA => 
    qtp hA (fun _ hI => r_fd (k := 1) Tryd.underlying143 rfl sz3 hA rfl rfl) rfl fun a hA => 
    qtp hA (fun _ hI => r_ld1 (j := 0) [[vp1]] [[vp2]] Tryd.underlying3 rfl hI rfl hA rfl rfl) rfl fun a hA => 
    qtp hA (fun _ hI => r_sub hA rfl rfl) rfl fun a hA => 
    qtp hA (fun _ hI => r_as hA rfl) rfl fun a hA => ?_
  refine q_nil fun w hI => ?_
  refine hN2 _ _ ?_
  refine w_ret ?_
  obtain rfl := Option.some.inj (bS H)
  exact ret1 hA Tryd.results28 rfl ⟨_, rfl, rfl, (wrap_in _ _), (hI.less (Store.le.refl _) hI.le)⟩
set_option maxRecDepth 20000 in
theorem compact_Reader_Err.c (μ : Store) (w0 : World) (hμ : Agr μ w0) (x0 : compactReader) (vp1 : Value) (vp2 : Value) (g0 : Nat) (hp1 : Slc (RI .u8) 1 μ vp1 x0.b) (hp2 : InR .i64 x0.at_) (hp3 : ErS μ vp2 x0.err) (ho0 : Its μ w0 [cel g0 [[vp1], [.int .i64 x0.at_], [vp2]] 143]) (r : Er) (H : compact_Reader_Err.f x0 = some r) :
    Calls Tryd.prog 30 [.pointer (some ⟨g0, 0, none⟩)].toArray w0 (fun e w' => ∃ v, e = .returned v ∧ ∃ (v0 : Value) (μ' : Store), v = v0 ∧ ErS μ' v0 r ∧ Iv w0 (many [cel g0 [[vp1], [.int .i64 x0.at_], [vp2]] 143]).foot μ μ' [cel g0 [[vp1], [.int .i64 x0.at_], [vp2]] 143] w') := by
  refine enter Tryd.func30 rfl Tryd.ntmps30 rfl fun a hA => ?_
  have hI := Iv.startN hμ ho0
  have H := bI H
  refine w_seq fun _ hN1 => ?_
  refine w_reg ?_
  refine stp hA (r_as hA rfl) rfl fun a hA => ?_
  refine o_nil ?_
  refine hN1 _ _ ?_
  refine w_seq fun _ hN2 => ?_
  refine w_reg ?_
  refine stp hA (r_mv hA rfl) rfl fun a hA => 
    stp hA (r_nilc hA rfl) rfl fun a hA => 
    stp hA (r_fd (k := 2) Tryd.underlying143 rfl sz34 hA rfl rfl) rfl fun a hA => 
    stp hA (r_ld1 (j := 0) [[vp1], [.int .i64 x0.at_]] [] Tryd.underlying34 rfl hI rfl hA rfl rfl) rfl fun a hA => 
    stp hA (r_as hA rfl) rfl fun a hA => ?_
  refine o_nil ?_
  refine hN2 _ _ ?_
  refine w_ret ?_
  obtain rfl := Option.some.inj (bS H)
  exact ret1 hA Tryd.results30 rfl ⟨_, rfl, vp2, μ, rfl, hp3, hI⟩
set_option maxRecDepth 20000 in
theorem compact_Four.c (μ : Store) (w0 : World) (hμ : Agr μ w0) (x0 : List Int) (u0 : Value) (hx0 : Slc (RI .u8) 1 μ u0 x0) (x1 : Int) (hx1 : InR .u32 x1) (r : List Int) (H : compact_Four.f x0 x1 = some r) :
    Calls Tryd.prog 32 [u0, .int .u32 x1].toArray w0 (fun e w' => ∃ v, e = .returned v ∧ ∃ (v0 : Value) (c0 : List Value), v = v0 ∧ Els (RI .u8) 1 r c0 ∧ Iv w0 [] μ μ [row 5 1 v0 r.length c0] w') := by
  refine enter Tryd.func32 rfl Tryd.ntmps32 rfl fun a hA => ?_
  have hI := Iv.start hμ
  have H := bI H
  refine w_seq fun _ hN1 => ?_
  refine w_reg ?_
  refine stp hA (r_as hA rfl) rfl fun a hA => ?_
  refine o_nil ?_
  refine hN1 _ _ ?_
  refine w_seq fun _ hN2 => ?_
  refine w_reg ?_
  refine stp hA (r_mv hA rfl) rfl fun a hA => ?_
  obtain ⟨r1, hr1, H⟩ := bB H
  refine o_call _ cf93 hA rfl (bytes_Clone.c μ _ hI.agr x0 u0 hx0 r1 hr1) rfl fun v1 a w hz1 hA => ?_
  obtain ⟨_, cs1, rfl, hE1, hi1⟩ := hz1
  have hI := hI.call hi1
  refine stp hA (r_mv hA rfl) rfl fun a hA => 
    stp hA (r_conv Tryd.underlying39 Tryd.underlying22 hA rfl) rfl fun a hA => ?_
  obtain ⟨r2, hr2, H⟩ := bB H
  refine o_call _ cf94 hA rfl (compact_number.c μ _ hI.agr r1 v1 cs1 hE1 (hI.item (j := 0) rfl) (IntKind.u64.wrap x1) (wrap_in _ _) 4 (in_lit .i64 4 rfl) r2 hr2) rfl fun v2 a w hz2 hA => ?_
  obtain ⟨_, cs2, rfl, hE2, hi2⟩ := hz2
  have hI := hI.call1 0 rfl hi2
  refine stp hA (r_as hA rfl) rfl fun a hA => ?_
  refine o_nil ?_
  refine hN2 _ _ ?_
  refine w_ret ?_
  obtain rfl := Option.some.inj (bS H)
  exact ret1 hA Tryd.results32 rfl ⟨_, rfl, v2, cs2, rfl, hE2, (hI.less (Store.le.refl _) hI.le)⟩
set_option maxRecDepth 20000 in
theorem compact_Eight.c (μ : Store) (w0 : World) (hμ : Agr μ w0) (x0 : List Int) (u0 : Value) (hx0 : Slc (RI .u8) 1 μ u0 x0) (x1 : Int) (hx1 : InR .u64 x1) (r : List Int) (H : compact_Eight.f x0 x1 = some r) :
    Calls Tryd.prog 33 [u0, .int .u64 x1].toArray w0 (fun e w' => ∃ v, e = .returned v ∧ ∃ (v0 : Value) (c0 : List Value), v = v0 ∧ Els (RI .u8) 1 r c0 ∧ Iv w0 [] μ μ [row 5 1 v0 r.length c0] w') := by
  refine enter Tryd.func33 rfl Tryd.ntmps33 rfl fun a hA => ?_
  have hI := Iv.start hμ
  have H := bI H
  refine w_seq fun _ hN1 => ?_
  refine w_reg ?_
  refine stp hA (r_as hA rfl) rfl fun a hA => ?_
  refine o_nil ?_
  refine hN1 _ _ ?_
  refine w_seq fun _ hN2 => ?_
  refine w_reg ?_
  refine stp hA (r_mv hA rfl) rfl fun a hA => ?_
  obtain ⟨r1, hr1, H⟩ := bB H
  refine o_call _ cf93 hA rfl (bytes_Clone.c μ _ hI.agr x0 u0 hx0 r1 hr1) rfl fun v1 a w hz1 hA => ?_
  obtain ⟨_, cs1, rfl, hE1, hi1⟩ := hz1
  have hI := hI.call hi1
  refine stp hA (r_mv hA rfl) rfl fun a hA => ?_
  obtain ⟨r2, hr2, H⟩ := bB H
  refine o_call _ cf94 hA rfl (compact_number.c μ _ hI.agr r1 v1 cs1 hE1 (hI.item (j := 0) rfl) x1 hx1 8 (in_lit .i64 8 rfl) r2 hr2) rfl fun v2 a w hz2 hA => ?_
  obtain ⟨_, cs2, rfl, hE2, hi2⟩ := hz2
  have hI := hI.call1 0 rfl hi2
  refine stp hA (r_as hA rfl) rfl fun a hA => ?_
  refine o_nil ?_
  refine hN2 _ _ ?_
  refine w_ret ?_
  obtain rfl := Option.some.inj (bS H)
  exact ret1 hA Tryd.results33 rfl ⟨_, rfl, v2, cs2, rfl, hE2, (hI.less (Store.le.refl _) hI.le)⟩
set_option maxRecDepth 20000 in
theorem compact_Reader_Eight.c (μ : Store) (w0 : World) (hμ : Agr μ w0) (x0 : compactReader) (vp1 : Value) (vp2 : Value) (g0 : Nat) (hp1 : Slc (RI .u8) 1 μ vp1 x0.b) (hp2 : InR .i64 x0.at_) (hp3 : ErS μ vp2 x0.err) (ho0 : Its μ w0 [cel g0 [[vp1], [.int .i64 x0.at_], [vp2]] 143]) (e8 : Value) (he8 : ErS μ e8 (Er.b 9)) (r : Int × compactReader) (H : compact_Reader_Eight.f x0 = some r) :
    Calls Tryd.prog 34 [.pointer (some ⟨g0, 0, none⟩)].toArray w0 (fun e w' => ∃ v, e = .returned v ∧ ∃ (vp_1 : Value) (vp_2 : Value) (μ' : Store), v = .int .u64 (r.1) ∧ InR .u64 (r.1) ∧ Slc (RI .u8) 1 μ' vp_1 (r.2).b ∧ InR .i64 (r.2).at_ ∧ ErS μ' vp_2 (r.2).err ∧ Iv w0 (many [cel g0 [[vp1], [.int .i64 x0.at_], [vp2]] 143]).foot μ μ' [cel g0 [[vp_1], [.int .i64 ((r.2).at_)], [vp_2]] 143] w') := by
  refine enter Tryd.func34 rfl Tryd.ntmps34 rfl fun a hA => ?_
  have hI := Iv.startN hμ ho0
  have H := bI H
  refine w_seq fun _ hN1 => ?_
  refine w_reg ?_
  refine stp hA (r_as hA rfl) rfl fun a hA => ?_
  refine o_nil ?_
  refine hN1 _ _ ?_
  refine w_seq fun _ hN2 => ?_
  refine w_reg ?_
  refine stp hA (r_mv hA rfl) rfl fun a hA => ?_
  obtain ⟨r1, hr1, H⟩ := bB H
  refine o_call _ cf95 hA rfl (compact_Reader_whole.c μ _ hI.agr x0 vp1 vp2 g0 hp1 hp2 hp3 (hI.handN 1) 8 (in_lit .i64 8 rfl) e8 he8 r1 hr1) rfl fun v1 a w hz1 hA => ?_
  obtain ⟨vp3, vp4, μ1, rfl, hw1, hp4, hp5, hp6, hi1⟩ := hz1
  have hI := hI.backN 1 hi1
  have hI : Iv w0 (many [cel g0 [[vp1], [.int .i64 x0.at_], [vp2]] 143]).foot μ μ1 [cel g0 [[vp3], [.int .i64 r1.2.at_], [vp4]] 143] w := hI
  refine stp hA (r_as hA rfl) rfl fun a hA => ?_
  refine o_nil ?_
  refine hN2 _ _ ?_
  refine w_ret ?_
  obtain rfl := Option.some.inj (bS H)
  exact ret1 hA Tryd.results34 rfl ⟨_, rfl, vp3, vp4, μ1, rfl, hw1, hp4, hp5, hp6, hI⟩
set_option maxRecDepth 20000 in
theorem compact_Reader_Four.c (μ : Store) (w0 : World) (hμ : Agr μ w0) (x0 : compactReader) (vp1 : Value) (vp2 : Value) (g0 : Nat) (hp1 : Slc (RI .u8) 1 μ vp1 x0.b) (hp2 : InR .i64 x0.at_) (hp3 : ErS μ vp2 x0.err) (ho0 : Its μ w0 [cel g0 [[vp1], [.int .i64 x0.at_], [vp2]] 143]) (e8 : Value) (he8 : ErS μ e8 (Er.b 9)) (r : Int × compactReader) (H : compact_Reader_Four.f x0 = some r) :
    Calls Tryd.prog 35 [.pointer (some ⟨g0, 0, none⟩)].toArray w0 (fun e w' => ∃ v, e = .returned v ∧ ∃ (vp_1 : Value) (vp_2 : Value) (μ' : Store), v = .int .u32 (r.1) ∧ InR .u32 (r.1) ∧ Slc (RI .u8) 1 μ' vp_1 (r.2).b ∧ InR .i64 (r.2).at_ ∧ ErS μ' vp_2 (r.2).err ∧ Iv w0 (many [cel g0 [[vp1], [.int .i64 x0.at_], [vp2]] 143]).foot μ μ' [cel g0 [[vp_1], [.int .i64 ((r.2).at_)], [vp_2]] 143] w') := by
  refine enter Tryd.func35 rfl Tryd.ntmps35 rfl fun a hA => ?_
  have hI := Iv.startN hμ ho0
  have H := bI H
  refine w_seq fun _ hN1 => ?_
  refine w_reg ?_
  refine stp hA (r_as hA rfl) rfl fun a hA => ?_
  refine o_nil ?_
  refine hN1 _ _ ?_
  refine w_seq fun _ hN2 => ?_
  refine w_reg ?_
  refine stp hA (r_mv hA rfl) rfl fun a hA => ?_
  obtain ⟨r1, hr1, H⟩ := bB H
  refine o_call _ cf95 hA rfl (compact_Reader_whole.c μ _ hI.agr x0 vp1 vp2 g0 hp1 hp2 hp3 (hI.handN 1) 4 (in_lit .i64 4 rfl) e8 he8 r1 hr1) rfl fun v1 a w hz1 hA => ?_
  obtain ⟨vp3, vp4, μ1, rfl, hw1, hp4, hp5, hp6, hi1⟩ := hz1
  have hI := hI.backN 1 hi1
  have hI : Iv w0 (many [cel g0 [[vp1], [.int .i64 x0.at_], [vp2]] 143]).foot μ μ1 [cel g0 [[vp3], [.int .i64 r1.2.at_], [vp4]] 143] w := hI
  refine stp hA (r_conv Tryd.underlying22 Tryd.underlying39 hA rfl) rfl fun a hA => 
    stp hA (r_as hA rfl) rfl fun a hA => ?_
  refine o_nil ?_
  refine hN2 _ _ ?_
  refine w_ret ?_
  obtain rfl := Option.some.inj (bS H)
  exact ret1 hA Tryd.results35 rfl ⟨_, rfl, vp3, vp4, μ1, rfl, (wrap_in _ _), hp4, hp5, hp6, hI⟩
set_option maxRecDepth 20000 in
theorem compact_Reader_Bytes.c (μ : Store) (w0 : World) (hμ : Agr μ w0) (x0 : compactReader) (vp1 : Value) (vp2 : Value) (g0 : Nat) (hp1 : Slc (RI .u8) 1 μ vp1 x0.b) (hp2 : InR .i64 x0.at_) (hp3 : ErS μ vp2 x0.err) (ho0 : Its μ w0 [cel g0 [[vp1], [.int .i64 x0.at_], [vp2]] 143]) (x1 : Int) (hx1 : InR .i64 x1) (e8 : Value) (he8 : ErS μ e8 (Er.b 9)) (r : (List Int) × compactReader) (H : compact_Reader_Bytes.f x0 x1 = some r) :
    Calls Tryd.prog 37 [.pointer (some ⟨g0, 0, none⟩), .int .i64 x1].toArray w0 (fun e w' => ∃ v, e = .returned v ∧ ∃ (v0 : Value) (c0 : List Value) (vp_1 : Value) (vp_2 : Value) (μ' : Store), v = v0 ∧ Els (RI .u8) 1 (r.1) c0 ∧ Slc (RI .u8) 1 μ' vp_1 (r.2).b ∧ InR .i64 (r.2).at_ ∧ ErS μ' vp_2 (r.2).err ∧ Iv w0 (many [cel g0 [[vp1], [.int .i64 x0.at_], [vp2]] 143]).foot μ μ' [row 5 1 v0 (r.1).length c0, cel g0 [[vp_1], [.int .i64 ((r.2).at_)], [vp_2]] 143] w') := by
  refine enter Tryd.func37 rfl Tryd.ntmps37 rfl fun a hA => ?_
  have hI := Iv.startN hμ ho0
  have H := bI H
  refine w_seq fun _ hN1 => ?_
  refine w_reg ?_
  refine stp hA (r_as hA rfl) rfl fun a hA => ?_
  refine o_nil ?_
  refine hN1 _ _ ?_
  refine w_seq fun _ hN2 => ?_
  refine w_seq fun _ hN3 => ?_
  refine w_reg ?_
  refine stp hA (r_mv hA rfl) rfl fun a hA => 
    stp hA (r_leq hA rfl rfl) rfl fun a hA => ?_
  refine o_nil ?_
  refine hN3 _ _ ?_
  refine w_cond hA rfl (fun hc1 => ?_) (fun hc1 => ?_)
  · have hc10 := hc1; have hc1 := of_decide_eq_true hc1; have H := bT H hc1
    refine w_seq fun _ hN4 => ?_
    refine w_reg ?_
    refine stp hA (r_as hA rfl) rfl fun a hA => ?_
    refine o_nil ?_
    refine hN4 _ _ ?_
    refine w_ret ?_
    have hI := hI.nilRow 5 1
    obtain rfl := Option.some.inj (bS H)
    exact ret1 hA Tryd.results37 rfl ⟨_, rfl, (.slice none 0 0), [], vp1, vp2, μ, rfl, (Els.nil (RE := (RI .u8)) (sz := 1)), hp1, hp2, hp3, hI⟩
  · have hc10 := hc1; have hc1 := of_decide_eq_false hc1; have H := bF H hc1
    refine w_skip ?_
    refine hN2 _ _ ?_
    refine w_seq fun _ hN5 => ?_
    refine w_reg ?_
    refine stp hA (r_mv hA rfl) rfl fun a hA => 
      stp hA (r_mv hA rfl) rfl fun a hA => ?_
    obtain ⟨r1, hr1, H⟩ := bB H
    refine o_call _ cf97 hA rfl (compact_Reader_next.c μ _ hI.agr x0 vp1 vp2 g0 hp1 hp2 hp3 (hI.handN 1) x1 hx1 e8 he8 r1 hr1) rfl fun v1 a w hz1 hA => ?_
    obtain ⟨_, vp3, vp4, μ1, rfl, hS1, hp4, hp5, hp6, hi1⟩ := hz1
    have hI := hI.backN 1 hi1
    have hI : Iv w0 (many [cel g0 [[vp1], [.int .i64 x0.at_], [vp2]] 143]).foot μ μ1 [cel g0 [[vp3], [.int .i64 r1.2.at_], [vp4]] 143] w := hI
    obtain ⟨r2, hr2, H⟩ := bB H
    refine o_call _ cf93 hA rfl (bytes_Clone.c μ1 _ hI.agr r1.1 v1 hS1 r2 hr2) rfl fun v2 a w hz2 hA => ?_
    obtain ⟨_, cs1, rfl, hE1, hi2⟩ := hz2
    have hI := hI.call hi2
    refine stp hA (r_as hA rfl) rfl fun a hA => ?_
    refine o_nil ?_
    refine hN5 _ _ ?_
    refine w_ret ?_
    obtain rfl := Option.some.inj (bS H)
    exact ret1 hA Tryd.results37 rfl ⟨_, rfl, v2, cs1, vp3, vp4, μ1, rfl, hE1, hp4, hp5, hp6, hI⟩
end Go.Proofs.YtpeelghbhihgkaaDoor.T
namespace Go.Proofs.YtpeelghbhihgkaaDoor.T
open Go Go.Proofs Go.Proofs.YtpeelghbhihgkaaDoor.K
set_option linter.unusedVariables false
set_option linter.unusedSimpArgs false
noncomputable def sargassolaw2_first.f : Option Bool := ((compact_Put.f ([]) 253).bind fun r1 => (((if (r1.length : Int) = 3 then (if 0 < (r1.length : Int) then (if (r1.getD (0 : Int).toNat 0) = 253 then (if 1 < (r1.length : Int) then (if (r1.getD (1 : Int).toNat 0) = 253 then (if 2 < (r1.length : Int) then (if (r1.getD (2 : Int).toNat 0) = 0 then ((compact_Len.f 1).bind fun r2 => some (decide (r2 = 1))) else some false) else none) else some false) else none) else some false) else none) else some false)).bind fun c1 => some c1))
end Go.Proofs.YtpeelghbhihgkaaDoor.T
namespace Go.Proofs.YtpeelghbhihgkaaDoor.T
open Go Go.Proofs Go.Proofs.YtpeelghbhihgkaaDoor.K
set_option linter.unusedVariables false
set_option linter.unusedSimpArgs false
set_option maxRecDepth 20000 in
theorem sargassolaw2_first.c (μ : Store) (w0 : World) (hμ : Agr μ w0) (r : Bool) (H : sargassolaw2_first.f = some r) :
    Calls Tryd.prog 22 [].toArray w0 (fun e w' => ∃ v, e = .returned v ∧ v = .bool r ∧ True ∧ Iv w0 [] μ μ [] w') := by
  refine enter Tryd.func22 rfl Tryd.ntmps22 rfl fun a hA => ?_
  have hI := Iv.start hμ
  have H := bI H
  refine w_seq fun _ hN1 => ?_
  refine w_reg ?_
  refine stp hA (r_as hA rfl) rfl fun a hA => ?_
  refine o_nil ?_
  refine hN1 _ _ ?_
  refine w_seq fun _ hN2 => ?_
  refine w_reg ?_
  obtain ⟨r1, hr1, H⟩ := bB H
  refine o_call _ cf23 hA rfl (compact_Put.c μ _ hI.agr ([]) (.slice none 0 0) (slc_nil _ _ _) 253 (in_lit .u64 253 rfl) r1 hr1) rfl fun v1 a w hz1 hA => ?_
  obtain ⟨_, cs1, rfl, hE1, hi1⟩ := hz1
  have hI := hI.call hi1
  refine stp hA (r_as hA rfl) rfl fun a hA => ?_
  refine o_nil ?_
  refine hN2 _ _ ?_
  obtain ⟨c1, hz2, Hk1⟩ := bB H
  refine w_cut (fun a w => Fr a 28 [(0, .bool c1), (1, v1)] ∧ Iv w0 [] μ μ [row 5 1 v1 r1.length cs1] w) ?_ ?_
  · have H := bI hz2
    refine w_reg ?_
    refine stp hA (r_mv hA rfl) rfl fun a hA => ?_
    have hlen1 := Iv.row_in hI (j := 0) rfl
    refine stp hA (r_rlen (xs := 0) Tryd.underlying23 hI (j := 0) rfl hA rfl) rfl fun a hA => 
      stp hA (r_eql hA rfl rfl) rfl fun a hA => 
      stp hA (r_mv hA rfl) rfl fun a hA => ?_
    rcases Bool.eq_false_or_eq_true (decide ((r1.length : Int) = 3)) with hc1 | hc1
    · have hc10 := hc1; have hc1 := of_decide_eq_true hc1; have H := bT H hc1
      refine o_yes hA rfl rfl hc10 <| 
        stp hA (r_mv hA rfl) rfl fun a hA => 
        o_yes hA rfl rfl hc10 <| ?_
      obtain ⟨hb1, H⟩ := bG H
      refine stp hA (r_rix (j := 0) Tryd.underlying23 sz5 hI rfl hA rfl rfl (by decide) hb1) rfl fun a hA => 
        o_yes hA rfl rfl hc10 <| ?_
      have hq1 := els_get hE1 (by decide) hb1
      refine stp hA (r_rld1 (j := 0) Tryd.underlying5 rfl hI rfl hq1 hA rfl (by simp only [Nat.mul_one])) rfl fun a hA => 
        o_yes hA rfl rfl hc10 <| 
        stp hA (r_eql hA rfl rfl) rfl fun a hA => 
        stp hA (r_pick_t hA rfl hc10 rfl) rfl fun a hA => 
        stp hA (r_mv hA rfl) rfl fun a hA => ?_
      rcases Bool.eq_false_or_eq_true (decide ((r1.getD (0 : Int).toNat 0) = 253)) with hc2 | hc2
      · have hc20 := hc2; have hc2 := of_decide_eq_true hc2; have H := bT H hc2
        refine o_yes hA rfl rfl hc20 <| 
          stp hA (r_mv hA rfl) rfl fun a hA => 
          o_yes hA rfl rfl hc20 <| ?_
        obtain ⟨hb2, H⟩ := bG H
        refine stp hA (r_rix (j := 0) Tryd.underlying23 sz5 hI rfl hA rfl rfl (by decide) hb2) rfl fun a hA => 
          o_yes hA rfl rfl hc20 <| ?_
        have hq2 := els_get hE1 (by decide) hb2
        refine stp hA (r_rld1 (j := 0) Tryd.underlying5 rfl hI rfl hq2 hA rfl (by simp only [Nat.mul_one])) rfl fun a hA => 
          o_yes hA rfl rfl hc20 <| 
          stp hA (r_eql hA rfl rfl) rfl fun a hA => 
          stp hA (r_pick_t hA rfl hc20 rfl) rfl fun a hA => 
          stp hA (r_mv hA rfl) rfl fun a hA => ?_
        rcases Bool.eq_false_or_eq_true (decide ((r1.getD (1 : Int).toNat 0) = 253)) with hc3 | hc3
        · have hc30 := hc3; have hc3 := of_decide_eq_true hc3; have H := bT H hc3
          refine o_yes hA rfl rfl hc30 <| 
            stp hA (r_mv hA rfl) rfl fun a hA => 
            o_yes hA rfl rfl hc30 <| ?_
          obtain ⟨hb3, H⟩ := bG H
          refine stp hA (r_rix (j := 0) Tryd.underlying23 sz5 hI rfl hA rfl rfl (by decide) hb3) rfl fun a hA => 
            o_yes hA rfl rfl hc30 <| ?_
          have hq3 := els_get hE1 (by decide) hb3
          refine stp hA (r_rld1 (j := 0) Tryd.underlying5 rfl hI rfl hq3 hA rfl (by simp only [Nat.mul_one])) rfl fun a hA => 
            o_yes hA rfl rfl hc30 <| 
            stp hA (r_eql hA rfl rfl) rfl fun a hA => 
            stp hA (r_pick_t hA rfl hc30 rfl) rfl fun a hA => 
            stp hA (r_mv hA rfl) rfl fun a hA => ?_
          rcases Bool.eq_false_or_eq_true (decide ((r1.getD (2 : Int).toNat 0) = 0)) with hc4 | hc4
          · have hc40 := hc4; have hc4 := of_decide_eq_true hc4; have H := bT H hc4
            refine o_yes hA rfl rfl hc40 <| ?_
            obtain ⟨r2, hr2, H⟩ := bB H
            refine o_callp (u := .int .i64 r2) cf24 hA rfl hI (compact_Len.c μ _ hI.agr 1 (in_lit .u64 1 rfl) r2 hr2) rfl fun a w hz3 hI hA => 
              o_yes hA rfl rfl hc40 <| 
              stp hA (r_eql hA rfl rfl) rfl fun a hA => 
              stp hA (r_pick_t hA rfl hc40 rfl) rfl fun a hA => 
              stp hA (r_as hA rfl) rfl fun a hA => ?_
            refine o_nil ?_
            cases Option.some.inj (bS H)
            exact ⟨hA.sub ⟨rfl, rfl, trivial⟩, hI⟩
          · have hc40 := hc4; have hc4 := of_decide_eq_false hc4; have H := bF H hc4
            refine o_no hA rfl rfl (by rw [hc40]; simp [vb]) rfl fun a hA => 
              o_no hA rfl rfl (by rw [hc40]; simp [vb]) rfl fun a hA => 
              stp hA (r_pick_f hA rfl hc40 rfl) rfl fun a hA => 
              stp hA (r_as hA rfl) rfl fun a hA => ?_
            refine o_nil ?_
            cases Option.some.inj (bS H)
            exact ⟨hA.sub ⟨rfl, rfl, trivial⟩, hI⟩
        · have hc30 := hc3; have hc3 := of_decide_eq_false hc3; have H := bF H hc3
          refine o_no hA rfl rfl (by rw [hc30]; simp [vb]) rfl fun a hA => 
            o_no hA rfl rfl (by rw [hc30]; simp [vb]) rfl fun a hA => 
            o_no hA rfl rfl (by rw [hc30]; simp [vb]) rfl fun a hA => 
            o_no hA rfl rfl (by rw [hc30]; simp [vb]) rfl fun a hA => 
            stp hA (r_pick_f hA rfl hc30 rfl) rfl fun a hA => 
            stp hA (r_mv hA rfl) rfl fun a hA => 
            o_no hA rfl rfl (by simp [vb]) rfl fun a hA => 
            o_no hA rfl rfl (by simp [vb]) rfl fun a hA => 
            stp hA (r_pick_f hA rfl rfl rfl) rfl fun a hA => 
            stp hA (r_as hA rfl) rfl fun a hA => ?_
          refine o_nil ?_
          cases Option.some.inj (bS H)
          exact ⟨hA.sub ⟨rfl, rfl, trivial⟩, hI⟩
      · have hc20 := hc2; have hc2 := of_decide_eq_false hc2; have H := bF H hc2
        refine o_no hA rfl rfl (by rw [hc20]; simp [vb]) rfl fun a hA => 
          o_no hA rfl rfl (by rw [hc20]; simp [vb]) rfl fun a hA => 
          o_no hA rfl rfl (by rw [hc20]; simp [vb]) rfl fun a hA => 
          o_no hA rfl rfl (by rw [hc20]; simp [vb]) rfl fun a hA => 
          stp hA (r_pick_f hA rfl hc20 rfl) rfl fun a hA => 
          stp hA (r_mv hA rfl) rfl fun a hA => 
          o_no hA rfl rfl (by simp [vb]) rfl fun a hA => 
          o_no hA rfl rfl (by simp [vb]) rfl fun a hA => 
          o_no hA rfl rfl (by simp [vb]) rfl fun a hA => 
          o_no hA rfl rfl (by simp [vb]) rfl fun a hA => 
          stp hA (r_pick_f hA rfl rfl rfl) rfl fun a hA => 
          stp hA (r_mv hA rfl) rfl fun a hA => 
          o_no hA rfl rfl (by simp [vb]) rfl fun a hA => 
          o_no hA rfl rfl (by simp [vb]) rfl fun a hA => 
          stp hA (r_pick_f hA rfl rfl rfl) rfl fun a hA => 
          stp hA (r_as hA rfl) rfl fun a hA => ?_
        refine o_nil ?_
        cases Option.some.inj (bS H)
        exact ⟨hA.sub ⟨rfl, rfl, trivial⟩, hI⟩
    · have hc10 := hc1; have hc1 := of_decide_eq_false hc1; have H := bF H hc1
      refine o_no hA rfl rfl (by rw [hc10]; simp [vb]) rfl fun a hA => 
        o_no hA rfl rfl (by rw [hc10]; simp [vb]) rfl fun a hA => 
        o_no hA rfl rfl (by rw [hc10]; simp [vb]) rfl fun a hA => 
        o_no hA rfl rfl (by rw [hc10]; simp [vb]) rfl fun a hA => 
        stp hA (r_pick_f hA rfl hc10 rfl) rfl fun a hA => 
        stp hA (r_mv hA rfl) rfl fun a hA => 
        o_no hA rfl rfl (by simp [vb]) rfl fun a hA => 
        o_no hA rfl rfl (by simp [vb]) rfl fun a hA => 
        o_no hA rfl rfl (by simp [vb]) rfl fun a hA => 
        o_no hA rfl rfl (by simp [vb]) rfl fun a hA => 
        stp hA (r_pick_f hA rfl rfl rfl) rfl fun a hA => 
        stp hA (r_mv hA rfl) rfl fun a hA => 
        o_no hA rfl rfl (by simp [vb]) rfl fun a hA => 
        o_no hA rfl rfl (by simp [vb]) rfl fun a hA => 
        o_no hA rfl rfl (by simp [vb]) rfl fun a hA => 
        o_no hA rfl rfl (by simp [vb]) rfl fun a hA => 
        stp hA (r_pick_f hA rfl rfl rfl) rfl fun a hA => 
        stp hA (r_mv hA rfl) rfl fun a hA => 
        o_no hA rfl rfl (by simp [vb]) rfl fun a hA => 
        o_no hA rfl rfl (by simp [vb]) rfl fun a hA => 
        stp hA (r_pick_f hA rfl rfl rfl) rfl fun a hA => 
        stp hA (r_as hA rfl) rfl fun a hA => ?_
      refine o_nil ?_
      cases Option.some.inj (bS H)
      exact ⟨hA.sub ⟨rfl, rfl, trivial⟩, hI⟩
  · rintro a w ⟨hA, hI⟩
    have H := Hk1
    refine w_ret ?_
    obtain rfl := Option.some.inj (bS H)
    exact ret1 hA Tryd.results22 rfl ⟨_, rfl, rfl, trivial, hI.forget0⟩
end Go.Proofs.YtpeelghbhihgkaaDoor.T
namespace Go.Proofs.YtpeelghbhihgkaaDoor.T
open Go Go.Proofs Go.Proofs.YtpeelghbhihgkaaDoor.K
set_option linter.unusedVariables false
set_option linter.unusedSimpArgs false
noncomputable def sargassolaw2_CompactRows.s1 (x0 : List Int) (x1 : List Int) (r1 : Bool) : (Int × (List Int) × Int × Er) → Option ((Int × (List Int) × Int × Er) ⊕ Bool) := fun (s3, s4, s5, s6) => (if s3 < (x0.length : Int) then (((if (Int.tmod s3 3) = 0 then (if 0 ≤ s3 ∧ s3 < (x0.length : Int) then ((compact_Reader_Num.f (⟨s4, s5, s6⟩ : compactReader) 18446744073709551615).bind fun r6 => some (decide (r6.1 = (x0.getD s3.toNat 0)), r6.2.b, r6.2.at_, r6.2.err)) else none) else (if (Int.tmod s3 3) = 1 then (if 0 ≤ s3 ∧ s3 < (x0.length : Int) then ((compact_Reader_Four.f (⟨s4, s5, s6⟩ : compactReader)).bind fun r7 => some (decide (r7.1 = (IntKind.u32.wrap (x0.getD s3.toNat 0))), r7.2.b, r7.2.at_, r7.2.err)) else none) else (if 0 ≤ s3 ∧ s3 < (x0.length : Int) then ((compact_Reader_Eight.f (⟨s4, s5, s6⟩ : compactReader)).bind fun r8 => some (decide (r8.1 = (x0.getD s3.toNat 0)), r8.2.b, r8.2.at_, r8.2.err)) else none)))).bind fun (c4, c5, c6, c7) => (if c4 = true then some (.inl (IntKind.i64.wrap (s3 + 1), c5, c6, c7)) else some (.inr false))) else (((if r1 = true then ((compact_Reader_Left.f (⟨s4, s5, s6⟩ : compactReader)).bind fun r9 => (if r9 = (x1.length : Int) then ((compact_Reader_Bytes.f (⟨s4, s5, s6⟩ : compactReader) (x1.length : Int)).bind fun r10 => ((sargassoref_SameBytes.f r10.1 x1).bind fun r11 => (if r11 = true then ((compact_Reader_Err.f r10.2).bind fun r12 => (if r12 = (Er.b 0) then ((compact_Reader_Left.f r10.2).bind fun r13 => some (decide (r13 = 0), r10.2.b, r10.2.at_, r10.2.err)) else some (false, r10.2.b, r10.2.at_, r10.2.err))) else some (false, r10.2.b, r10.2.at_, r10.2.err)))) else some (false, s4, s5, s6))) else some (false, s4, s5, s6))).bind fun (c8, c9, c10, c11) => some (.inr c8)))
noncomputable def sargassolaw2_CompactRows.s0 (x0 : List Int) : ((List Int) × Int) → Option (((List Int) × Int) ⊕ (List Int)) := fun (s1, s2) => (if s2 < (x0.length : Int) then (((if (Int.tmod s2 3) = 0 then (if 0 ≤ s2 ∧ s2 < (x0.length : Int) then ((compact_Put.f s1 (x0.getD s2.toNat 0)).bind fun r2 => some r2) else none) else (if (Int.tmod s2 3) = 1 then (if 0 ≤ s2 ∧ s2 < (x0.length : Int) then ((compact_Four.f s1 (IntKind.u32.wrap (x0.getD s2.toNat 0))).bind fun r3 => some r3) else none) else (if 0 ≤ s2 ∧ s2 < (x0.length : Int) then ((compact_Eight.f s1 (x0.getD s2.toNat 0)).bind fun r4 => some r4) else none)))).bind fun c3 => some (.inl (c3, IntKind.i64.wrap (s2 + 1)))) else some (.inr s1))
noncomputable def sargassolaw2_CompactRows.f (x0 : List Int) (x1 : List Int) : Option Bool := ((sargassolaw2_first.f).bind fun r1 => (if r1 = true then (((if 30 < (x0.length : Int) then some true else some (decide (30 < (x1.length : Int))))).bind fun c1 => (if c1 = true then some r1 else ((loopO (sargassolaw2_CompactRows.s0 x0) ([], 0)).bind fun c2 => (if c2.length + x1.length ≤ 140737488355328 then ((compact_Read.f (c2 ++ x1)).bind fun r5 => loopO (sargassolaw2_CompactRows.s1 x0 x1 r1) (0, r5.b, r5.at_, r5.err)) else none)))) else some false))
end Go.Proofs.YtpeelghbhihgkaaDoor.T
namespace Go.Proofs.YtpeelghbhihgkaaDoor.T
open Go Go.Proofs Go.Proofs.YtpeelghbhihgkaaDoor.K
set_option linter.unusedVariables false
set_option linter.unusedSimpArgs false
set_option maxRecDepth 20000 in
theorem sargassolaw2_CompactRows.c (μ : Store) (w0 : World) (hμ : Agr μ w0) (x0 : List Int) (u0 : Value) (hx0 : Slc (RI .u64) 1 μ u0 x0) (x1 : List Int) (u1 : Value) (hx1 : Slc (RI .u8) 1 μ u1 x1) (e0 : Value) (he0 : ErS μ e0 (Er.b 1)) (e1 : Value) (he1 : ErS μ e1 (Er.b 2)) (e8 : Value) (he8 : ErS μ e8 (Er.b 9)) (r : Bool) (H : sargassolaw2_CompactRows.f x0 x1 = some r) :
    Calls Tryd.prog 5 [u0, u1].toArray w0 (fun e w' => ∃ v, e = .returned v ∧ v = .bool r ∧ True ∧ Iv w0 [] μ μ [] w') := by
  refine enter Tryd.func5 rfl Tryd.ntmps5 rfl fun a hA => ?_
  have hI := Iv.start hμ
  have H := bI H
  refine w_seq fun _ hN1 => ?_
  refine w_reg ?_
  refine stp hA (r_as hA rfl) rfl fun a hA => ?_
  refine o_nil ?_
  refine hN1 _ _ ?_
  refine w_seq fun _ hN2 => ?_
  refine w_reg ?_
  obtain ⟨r1, hr1, H⟩ := bB H
  refine o_callp (u := .bool r1) cf22 hA rfl hI (sargassolaw2_first.c μ _ hI.agr  r1 hr1) rfl fun a w hz1 hI hA => 
    stp hA (r_as hA rfl) rfl fun a hA => ?_
  refine o_nil ?_
  refine hN2 _ _ ?_
  refine w_seq fun _ hN3 => ?_
  refine w_seq fun _ hN4 => ?_
  refine w_reg ?_
  refine stp hA (r_mv hA rfl) rfl fun a hA => 
    stp hA (r_not hA rfl) rfl fun a hA => ?_
  refine o_nil ?_
  refine hN4 _ _ ?_
  refine w_cond hA rfl (fun hc1 => ?_) (fun hc1 => ?_)
  · have hc10 := hc1; have hc1 := nT hc1; have hc1 := ft hc1; have H := bF H hc1
    refine w_seq fun _ hN5 => ?_
    refine w_reg ?_
    refine stp hA (r_as hA rfl) rfl fun a hA => ?_
    refine o_nil ?_
    refine hN5 _ _ ?_
    refine w_ret ?_
    obtain rfl := Option.some.inj (bS H)
    exact ret1 hA Tryd.results5 rfl ⟨_, rfl, rfl, trivial, hI.forget0⟩
  · have hc10 := hc1; have hc1 := nF hc1; have H := bT H hc1
    refine w_skip ?_
    refine hN3 _ _ ?_
    refine w_seq fun _ hN6 => ?_
    obtain ⟨c1, hz2, Hk1⟩ := bB H
    refine w_cut (fun a w => Fr a 120 [(0, u0), (1, u1), (4, .bool false), (5, .bool r1), (13, .bool (!r1)), (21, .bool c1)] ∧ Iv w0 [] μ μ [] w) ?_ ?_
    · have H := bI hz2
      refine w_reg ?_
      refine stp hA (r_mv hA rfl) rfl fun a hA => ?_
      obtain ⟨_, hsl1⟩ := Slc.sv hx0
      refine stp hA (r_slen Tryd.underlying42 hsl1 hA rfl) rfl fun a hA => 
        stp hA (r_gtr hA rfl rfl) rfl fun a hA => 
        stp hA (r_mv hA rfl) rfl fun a hA => ?_
      rcases Bool.eq_false_or_eq_true (decide (30 < (x0.length : Int))) with hc2 | hc2
      · have hc20 := hc2; have hc2 := of_decide_eq_true hc2; have H := bT H hc2
        refine o_no hA rfl rfl (by rw [hc20]; simp [vb]) rfl fun a hA => 
          o_no hA rfl rfl (by rw [hc20]; simp [vb]) rfl fun a hA => 
          o_no hA rfl rfl (by rw [hc20]; simp [vb]) rfl fun a hA => 
          stp hA (r_pick_t hA rfl hc20 rfl) rfl fun a hA => ?_
        refine o_nil ?_
        cases Option.some.inj (bS H)
        exact ⟨hA.sub ⟨rfl, rfl, rfl, rfl, rfl, rfl, trivial⟩, hI⟩
      · have hc20 := hc2; have hc2 := of_decide_eq_false hc2; have H := bF H hc2
        refine o_yes hA rfl rfl hc20 <| 
          stp hA (r_mv hA rfl) rfl fun a hA => 
          o_yes hA rfl rfl hc20 <| ?_
        obtain ⟨_, hsl2⟩ := Slc.sv hx1
        refine stp hA (r_slen Tryd.underlying23 hsl2 hA rfl) rfl fun a hA => 
          o_yes hA rfl rfl hc20 <| 
          stp hA (r_gtr hA rfl rfl) rfl fun a hA => 
          stp hA (r_pick_f hA rfl hc20 rfl) rfl fun a hA => ?_
        refine o_nil ?_
        cases Option.some.inj (bS H)
        exact ⟨hA.sub ⟨rfl, rfl, rfl, rfl, rfl, rfl, trivial⟩, hI⟩
    · rintro a w ⟨hA, hI⟩
      have H := Hk1
      refine w_cond hA rfl (fun hc3 => ?_) (fun hc3 => ?_)
      · have hc30 := hc3; have H := bT H hc3
        refine w_seq fun _ hN7 => ?_
        refine w_reg ?_
        refine stp hA (r_mv hA rfl) rfl fun a hA => 
          stp hA (r_as hA rfl) rfl fun a hA => ?_
        refine o_nil ?_
        refine hN7 _ _ ?_
        refine w_ret ?_
        obtain rfl := Option.some.inj (bS H)
        exact ret1 hA Tryd.results5 rfl ⟨_, rfl, rfl, trivial, hI.forget0⟩
      · have hc30 := hc3; have hc3 := ft hc3; have H := bF H hc3
        refine w_skip ?_
        refine hN6 _ _ ?_
        refine w_seq fun _ hN8 => ?_
        refine w_reg ?_
        refine stp hA (r_as hA rfl) rfl fun a hA => ?_
        refine o_nil ?_
        refine hN8 _ _ ?_
        obtain ⟨c2, hz3, Hk2⟩ := bB H
        refine w_cut (fun a w => ∃ (vvc2 : Value) (ccc2 : List Value), Els (RI .u8) 1 c2 ccc2 ∧ Fr a 120 [(0, u0), (1, u1), (4, .bool false), (5, .bool r1), (6, vvc2), (13, .bool (!r1)), (21, .bool c1)] ∧ Iv w0 [] μ μ [row 5 1 vvc2 c2.length ccc2] w) ?_ ?_
        · have H := bI hz3
          refine w_seq fun _ hN9 => ?_
          refine w_reg ?_
          refine stp hA (r_as hA rfl) rfl fun a hA => ?_
          refine o_nil ?_
          refine hN9 _ _ ?_
          refine w_block ?_
          have hI := hI.nilRow 5 1
          obtain ⟨z1, hz4, Hk3⟩ := bind_some H
          obtain ⟨n1, hn1⟩ := loopO_some hz4
          refine w_loop (fun n a w => ∃ (s1 : List Int) (s2 : Int) (vvs1 : Value) (ccs1 : List Value), loopN (sargassolaw2_CompactRows.s0 x0) n (s1, s2) = some z1 ∧ Els (RI .u8) 1 s1 ccs1 ∧ InR .i64 s2 ∧ Fr a 120 [(0, u0), (1, u1), (4, .bool false), (5, .bool r1), (6, vvs1), (7, .int .i64 s2), (13, .bool (!r1)), (21, .bool c1)] ∧ Iv w0 [] μ μ [row 5 1 vvs1 s1.length ccs1] w) n1 ⟨[], 0, (.slice none 0 0), [], hn1, (Els.nil (RE := (RI .u8)) (sz := 1)), (in_lit .i64 0 rfl), hA.sub ⟨rfl, rfl, rfl, rfl, rfl, rfl, rfl, rfl, trivial⟩, hI⟩ ?_
          clear hA hI
          rintro n a w ⟨s1, s2, vvs1, ccs1, hn1, ws1, ws2, hA, hI⟩
          obtain ⟨m1, rfl, H⟩ := loopN_bind hn1
          clear hn1
          refine w_seq fun _ hN10 => ?_
          refine w_seq fun _ hN11 => ?_
          refine w_reg ?_
          refine stp hA (r_mv hA rfl) rfl fun a hA => 
            stp hA (r_mv hA rfl) rfl fun a hA => ?_
          obtain ⟨_, hsl3⟩ := Slc.sv hx0
          refine stp hA (r_slen Tryd.underlying42 hsl3 hA rfl) rfl fun a hA => 
            stp hA (r_lss hA rfl rfl) rfl fun a hA => ?_
          refine o_nil ?_
          refine hN11 _ _ ?_
          refine w_cond hA rfl (fun hc4 => ?_) (fun hc4 => ?_)
          · have hc40 := hc4; have hc4 := of_decide_eq_true hc4; have H := bT H hc4
            refine w_skip ?_
            refine hN10 _ _ ?_
            obtain ⟨c3, hz5, Hk4⟩ := bB H
            refine w_cut (fun a w => ∃ (vvc3 : Value) (ccc3 : List Value), Els (RI .u8) 1 c3 ccc3 ∧ Fr a 120 [(0, u0), (1, u1), (4, .bool false), (5, .bool r1), (6, vvc3), (7, .int .i64 s2), (13, .bool (!r1)), (21, .bool c1), (26, .bool (decide (s2 < (x0.length : Int))))] ∧ Iv w0 [] μ μ [row 5 1 vvc3 c3.length ccc3] w) ?_ ?_
            · have H := bI hz5
              refine w_block ?_
              refine w_seq fun _ hN12 => ?_
              refine w_reg ?_
              refine stp hA (r_mv hA rfl) rfl fun a hA => 
                stp hA (r_rem hA rfl rfl (by decide)) rfl fun a hA => ?_
              refine o_nil ?_
              refine hN12 _ _ ?_
              refine w_block ?_
              refine w_seq fun _ hN13 => ?_
              refine w_reg ?_
              refine stp hA (r_eql hA rfl rfl) rfl fun a hA => 
                stp hA (r_as hA rfl) rfl fun a hA => ?_
              refine o_nil ?_
              refine hN13 _ _ ?_
              refine w_cond hA rfl (fun hc5 => ?_) (fun hc5 => ?_)
              · have hc50 := hc5; have hc5 := of_decide_eq_true hc5; have H := bT H hc5
                refine w_reg ?_
                refine stp hA (r_mv hA rfl) rfl fun a hA => 
                  stp hA (r_mv hA rfl) rfl fun a hA => 
                  stp hA (r_mv hA rfl) rfl fun a hA => ?_
                obtain ⟨hb1, H⟩ := bG H
                obtain ⟨_, he1, _, hat1⟩ := Slc.elem1 hx0 (getD_some 0 hb1.1 hb1.2)
                obtain ⟨rfl, hw1⟩ := he1
                obtain ⟨_, hsl4⟩ := Slc.sv hx0
                refine stp hA (r_six1 Tryd.underlying42 sz22 hsl4 hA rfl rfl hb1.1 hb1.2) rfl fun a hA => 
                  stp hA (r_ldm1 [] [] Tryd.underlying22 rfl hI.agr hat1 hA rfl rfl) rfl fun a hA => ?_
                obtain ⟨r2, hr2, H⟩ := bB H
                refine o_call (fun v w' => ∃ (v0 : Value) (c0 : List Value), v = v0 ∧ Els (RI .u8) 1 r2 c0 ∧ Iv w [] μ μ [row 5 1 v0 r2.length c0] w') cf23 hA rfl ((by obtain ⟨μ1, hle1, hsv1, hI⟩ := hI.freezeRow 0 rfl; have hS1 : Slc (RI .u8) 1 μ1 vvs1 s1 := ⟨_, ws1, hsv1⟩; exact (compact_Put.c μ1 _ hI.agr s1 vvs1 hS1 (x0.getD s2.toNat 0) hw1 r2 hr2).mono fun _ _ ⟨v, he, b0, b1, hv, f0, hi⟩ => ⟨v, he, b0, b1, hv, f0, hi.low hle1⟩)) rfl fun v1 a w hz6 hA => ?_
                obtain ⟨_, cs1, rfl, hE1, hi1⟩ := hz6
                have hI := hI.call hi1
                refine stp hA (r_as hA rfl) rfl fun a hA => ?_
                refine o_nil ?_
                cases Option.some.inj (bS H)
                exact ⟨v1, cs1, hE1, hA.sub ⟨rfl, rfl, rfl, rfl, rfl, rfl, rfl, rfl, rfl, trivial⟩, (hI.sel [0] (by decide) rfl)⟩
              · have hc50 := hc5; have hc5 := of_decide_eq_false hc5; have H := bF H hc5
                refine w_seq fun _ hN14 => ?_
                refine w_reg ?_
                refine stp hA (r_eql hA rfl rfl) rfl fun a hA => 
                  stp hA (r_as hA rfl) rfl fun a hA => ?_
                refine o_nil ?_
                refine hN14 _ _ ?_
                refine w_cond hA rfl (fun hc6 => ?_) (fun hc6 => ?_)
                · have hc60 := hc6; have hc6 := of_decide_eq_true hc6; have H := bT H hc6
                  refine w_reg ?_
                  refine stp hA (r_mv hA rfl) rfl fun a hA => 
                    stp hA (r_mv hA rfl) rfl fun a hA => 
                    stp hA (r_mv hA rfl) rfl fun a hA => ?_
                  obtain ⟨hb2, H⟩ := bG H
                  obtain ⟨_, he2, _, hat2⟩ := Slc.elem1 hx0 (getD_some 0 hb2.1 hb2.2)
                  obtain ⟨rfl, hw2⟩ := he2
                  obtain ⟨_, hsl5⟩ := Slc.sv hx0
                  refine stp hA (r_six1 Tryd.underlying42 sz22 hsl5 hA rfl rfl hb2.1 hb2.2) rfl fun a hA => 
                    stp hA (r_ldm1 [] [] Tryd.underlying22 rfl hI.agr hat2 hA rfl rfl) rfl fun a hA => 
                    stp hA (r_conv Tryd.underlying22 Tryd.underlying39 hA rfl) rfl fun a hA => ?_
                  obtain ⟨r3, hr3, H⟩ := bB H
                  refine o_call (fun v w' => ∃ (v0 : Value) (c0 : List Value), v = v0 ∧ Els (RI .u8) 1 r3 c0 ∧ Iv w [] μ μ [row 5 1 v0 r3.length c0] w') cf32 hA rfl ((by obtain ⟨μ2, hle2, hsv2, hI⟩ := hI.freezeRow 0 rfl; have hS2 : Slc (RI .u8) 1 μ2 vvs1 s1 := ⟨_, ws1, hsv2⟩; exact (compact_Four.c μ2 _ hI.agr s1 vvs1 hS2 (IntKind.u32.wrap (x0.getD s2.toNat 0)) (wrap_in _ _) r3 hr3).mono fun _ _ ⟨v, he, b0, b1, hv, f0, hi⟩ => ⟨v, he, b0, b1, hv, f0, hi.low hle2⟩)) rfl fun v2 a w hz7 hA => ?_
                  obtain ⟨_, cs2, rfl, hE2, hi2⟩ := hz7
                  have hI := hI.call hi2
                  refine stp hA (r_as hA rfl) rfl fun a hA => ?_
                  refine o_nil ?_
                  cases Option.some.inj (bS H)
                  exact ⟨v2, cs2, hE2, hA.sub ⟨rfl, rfl, rfl, rfl, rfl, rfl, rfl, rfl, rfl, trivial⟩, (hI.sel [0] (by decide) rfl)⟩
                · have hc60 := hc6; have hc6 := of_decide_eq_false hc6; have H := bF H hc6
                  refine w_reg ?_
                  refine stp hA (r_mv hA rfl) rfl fun a hA => 
                    stp hA (r_mv hA rfl) rfl fun a hA => 
                    stp hA (r_mv hA rfl) rfl fun a hA => ?_
                  obtain ⟨hb3, H⟩ := bG H
                  obtain ⟨_, he3, _, hat3⟩ := Slc.elem1 hx0 (getD_some 0 hb3.1 hb3.2)
                  obtain ⟨rfl, hw3⟩ := he3
                  obtain ⟨_, hsl6⟩ := Slc.sv hx0
                  refine stp hA (r_six1 Tryd.underlying42 sz22 hsl6 hA rfl rfl hb3.1 hb3.2) rfl fun a hA => 
                    stp hA (r_ldm1 [] [] Tryd.underlying22 rfl hI.agr hat3 hA rfl rfl) rfl fun a hA => ?_
                  obtain ⟨r4, hr4, H⟩ := bB H
                  refine o_call (fun v w' => ∃ (v0 : Value) (c0 : List Value), v = v0 ∧ Els (RI .u8) 1 r4 c0 ∧ Iv w [] μ μ [row 5 1 v0 r4.length c0] w') cf33 hA rfl ((by obtain ⟨μ3, hle3, hsv3, hI⟩ := hI.freezeRow 0 rfl; have hS3 : Slc (RI .u8) 1 μ3 vvs1 s1 := ⟨_, ws1, hsv3⟩; exact (compact_Eight.c μ3 _ hI.agr s1 vvs1 hS3 (x0.getD s2.toNat 0) hw3 r4 hr4).mono fun _ _ ⟨v, he, b0, b1, hv, f0, hi⟩ => ⟨v, he, b0, b1, hv, f0, hi.low hle3⟩)) rfl fun v3 a w hz8 hA => ?_
                  obtain ⟨_, cs3, rfl, hE3, hi3⟩ := hz8
                  have hI := hI.call hi3
                  refine stp hA (r_as hA rfl) rfl fun a hA => ?_
                  refine o_nil ?_
                  cases Option.some.inj (bS H)
                  exact ⟨v3, cs3, hE3, hA.sub ⟨rfl, rfl, rfl, rfl, rfl, rfl, rfl, rfl, rfl, trivial⟩, (hI.sel [0] (by decide) rfl)⟩
            · rintro a w ⟨vvc3, ccc3, wc3, hA, hI⟩
              have H := Hk4
              refine w_reg ?_
              refine stp hA (r_mv hA rfl) rfl fun a hA => 
                stp hA (r_add hA rfl rfl) rfl fun a hA => 
                stp hA (r_as hA rfl) rfl fun a hA => ?_
              refine o_nil ?_
              exact ⟨m1, Nat.lt_succ_self _, c3, IntKind.i64.wrap (s2 + 1), vvc3, ccc3, H, wc3, (wrap_in _ _), hA.sub ⟨rfl, rfl, rfl, rfl, rfl, rfl, rfl, rfl, trivial⟩, hI⟩
          · have hc40 := hc4; have hc4 := of_decide_eq_false hc4; have H := bF H hc4
            refine w_exit rfl ?_
            have H : some s1 = some z1 := H
            obtain rfl := Option.some.inj H
            have H := Hk3
            cases Option.some.inj (bS H)
            exact ⟨vvs1, ccs1, ws1, hA.sub ⟨rfl, rfl, rfl, rfl, rfl, rfl, rfl, trivial⟩, hI⟩
        · rintro a w ⟨vvc2, ccc2, wc2, hA, hI⟩
          have H := Hk2
          refine w_seq fun _ hN15 => ?_
          refine w_reg ?_
          refine stp hA (r_mv hA rfl) rfl fun a hA => 
            stp hA (r_mv hA rfl) rfl fun a hA => ?_
          obtain ⟨cs4, hE4, hsv4⟩ : Slc (RI .u8) 1 μ u1 x1 := id (hx1)
          obtain ⟨hb4, H⟩ := bG H
          have hE5 := wc2.app hE4
          refine o_appL (xs := (c2 : List Int)) (ys := (x1 : List Int)) (j := 0) te5 Tryd.underlying23 hI rfl hA rfl rfl (src_sl hI.agr hsv4 hE4.len) hE4.len (hE4.ones (one_RI _)) (by first | decide | (have hq := hb4; (try simp only [List.length_cons, List.length_nil] at hq); (try simp only [List.length_cons, List.length_nil]); (try simp only [maxLen]); omega)) (by first | decide | (have hq := hb4; (try simp only [List.length_cons, List.length_nil] at hq); (try simp only [List.length_cons, List.length_nil]); (try simp only [maxLen]); omega)) rfl fun v4 a w hA hI => ?_
          obtain ⟨μ4, hle4, hsv5, hI⟩ := hI.freezeRow 0 rfl
          have hS4 : Slc (RI .u8) 1 μ4 v4 (c2 ++ x1) := ⟨_, hE5, hsv5⟩
          obtain ⟨r5, hr5, H⟩ := bB H
          refine o_call _ cf25 hA rfl (compact_Read.c μ4 _ hI.agr (c2 ++ x1) v4 hS4 r5 hr5) rfl fun v5 a w hz9 hA => ?_
          obtain ⟨g1, vp1, vp2, μ5, rfl, hp1, hp2, hp3, hi4⟩ := hz9
          have hI := hI.call hi4
          refine stp hA (r_as hA rfl) rfl fun a hA => ?_
          refine o_nil ?_
          refine hN15 _ _ ?_
          refine w_seq fun _ hN16 => ?_
          refine w_seq fun _ hN17 => ?_
          refine w_reg ?_
          refine stp hA (r_as hA rfl) rfl fun a hA => ?_
          refine o_nil ?_
          refine hN17 _ _ ?_
          refine w_block ?_
          obtain ⟨z2, hz10, Hk5⟩ := bind_some H
          obtain ⟨n2, hn2⟩ := loopO_some hz10
          refine w_loop (fun n a w => ∃ (s3 : Int) (s4 : List Int) (s5 : Int) (s6 : Er) (μ6 : Store) (vvs4 : Value) (vvs6 : Value), loopN (sargassolaw2_CompactRows.s1 x0 x1 r1) n (s3, s4, s5, s6) = some z2 ∧ μ5.le μ6 ∧ InR .i64 s3 ∧ Slc (RI .u8) 1 μ6 vvs4 s4 ∧ InR .i64 s5 ∧ ErS μ6 vvs6 s6 ∧ Fr a 120 [(0, u0), (1, u1), (4, .bool false), (5, .bool r1), (8, .pointer (some ⟨g1, 0, none⟩)), (9, .int .i64 s3), (13, .bool (!r1)), (21, .bool c1)] ∧ Iv w0 [] μ μ6 [cel g1 [[vvs4], [.int .i64 s5], [vvs6]] 143] w) n2 ⟨0, r5.b, r5.at_, r5.err, μ5, vp1, vp2, hn2, (Store.le.refl _), (in_lit .i64 0 rfl), hp1, hp2, hp3, hA.sub ⟨rfl, rfl, rfl, rfl, rfl, rfl, rfl, rfl, trivial⟩, hI⟩ ?_
          clear hA hI
          rintro n a w ⟨s3, s4, s5, s6, μ6, vvs4, vvs6, hn2, hle5, ws3, ws4, ws5, ws6, hA, hI⟩
          obtain ⟨m2, rfl, H⟩ := loopN_bind hn2
          clear hn2
          refine w_seq fun _ hN18 => ?_
          refine w_seq fun _ hN19 => ?_
          refine w_reg ?_
          refine stp hA (r_mv hA rfl) rfl fun a hA => 
            stp hA (r_mv hA rfl) rfl fun a hA => ?_
          obtain ⟨_, hsl7⟩ := Slc.sv (Slc.le hx0 (fun _ _ h => h) ((hle4.trans hi4.le).trans hle5))
          refine stp hA (r_slen Tryd.underlying42 hsl7 hA rfl) rfl fun a hA => 
            stp hA (r_lss hA rfl rfl) rfl fun a hA => ?_
          refine o_nil ?_
          refine hN19 _ _ ?_
          refine w_cond hA rfl (fun hc7 => ?_) (fun hc7 => ?_)
          · have hc70 := hc7; have hc7 := of_decide_eq_true hc7; have H := bT H hc7
            refine w_skip ?_
            refine hN18 _ _ ?_
            refine w_seq fun _ hN20 => ?_
            refine w_block ?_
            refine w_seq fun _ hN21 => ?_
            refine w_reg ?_
            refine stp hA (r_as hA rfl) rfl fun a hA => ?_
            refine o_nil ?_
            refine hN21 _ _ ?_
            obtain ⟨⟨c4, c5, c6, c7⟩, hz11, Hk6⟩ := bB H
            refine w_cut (fun a w => ∃ (μ7 : Store) (vvc5 : Value) (vvc7 : Value), μ6.le μ7 ∧ Slc (RI .u8) 1 μ7 vvc5 c5 ∧ InR .i64 c6 ∧ ErS μ7 vvc7 c7 ∧ Fr a 120 [(0, u0), (1, u1), (4, .bool false), (5, .bool r1), (8, .pointer (some ⟨g1, 0, none⟩)), (9, .int .i64 s3), (10, .bool c4), (13, .bool (!r1)), (21, .bool c1), (61, .bool (decide (s3 < (x0.length : Int))))] ∧ Iv w0 [] μ μ7 [cel g1 [[vvc5], [.int .i64 c6], [vvc7]] 143] w) ?_ ?_
            · have H := bI hz11
              refine w_seq fun _ hN22 => ?_
              refine w_reg ?_
              refine stp hA (r_mv hA rfl) rfl fun a hA => 
                stp hA (r_rem hA rfl rfl (by decide)) rfl fun a hA => ?_
              refine o_nil ?_
              refine hN22 _ _ ?_
              refine w_block ?_
              refine w_seq fun _ hN23 => ?_
              refine w_reg ?_
              refine stp hA (r_eql hA rfl rfl) rfl fun a hA => 
                stp hA (r_as hA rfl) rfl fun a hA => ?_
              refine o_nil ?_
              refine hN23 _ _ ?_
              refine w_cond hA rfl (fun hc8 => ?_) (fun hc8 => ?_)
              · have hc80 := hc8; have hc8 := of_decide_eq_true hc8; have H := bT H hc8
                refine w_anyS [] mo (fun w (h : Iv w0 [] μ μ6 [cel g1 [[vvs4], [.int .i64 s5], [vvs6]] 143] w) => (h.sel [] (by decide) rfl : Iv w0 [] μ μ6 [] w)) hI fun w hI => ?_
                refine g_easy (i := 0) hA rfl rfl (by kernel_rfl) (.inr (hI.sel [] (by decide) rfl)) (fun _ => r_mv hA rfl) rfl fun a hA => ?_
                refine g_easy (i := 2) hA rfl rfl (by kernel_rfl) (.inr (hI.sel [] (by decide) rfl)) (fun _ => r_mv hA rfl) rfl fun a hA => ?_
                refine g_easy (i := 3) hA rfl rfl (by kernel_rfl) (.inr (hI.sel [] (by decide) rfl)) (fun _ => r_mv hA rfl) rfl fun a hA => ?_
                obtain ⟨hb5, H⟩ := bG H
                obtain ⟨_, he4, _, hat4⟩ := Slc.elem1 (Slc.le hx0 (fun _ _ h => h) ((hle4.trans hi4.le).trans hle5)) (getD_some 0 hb5.1 hb5.2)
                obtain ⟨rfl, hw4⟩ := he4
                obtain ⟨_, hsl8⟩ := Slc.sv (Slc.le hx0 (fun _ _ h => h) ((hle4.trans hi4.le).trans hle5))
                refine g_easy (i := 4) hA rfl rfl (by kernel_rfl) (.inr (hI.sel [] (by decide) rfl)) (fun _ => r_six1 Tryd.underlying42 sz22 hsl8 hA rfl rfl hb5.1 hb5.2) rfl fun a hA => ?_
                refine g_take (i := 5) hA rfl rfl (by kernel_rfl) (hI.sel [] (by decide) rfl) (fun w hI => r_ldm1 [] [] Tryd.underlying22 rfl hI.agr hat4 hA rfl rfl) rfl fun a hA => ?_
                refine g_forced (i := 1) rfl (by kernel_rfl) ?_
                obtain ⟨r6, hr6, H⟩ := bB H
                refine o_call _ cf27 hA rfl (compact_Reader_Num.c μ6 _ hI.agr (⟨s4, s5, s6⟩ : compactReader) vvs4 vvs6 g1 ws4 ws5 ws6 (hI.handN 1) 18446744073709551615 (in_lit .u64 18446744073709551615 rfl) e0 (ErV.le (fun _ _ h => h) ((hle4.trans hi4.le).trans hle5) he0) e1 (ErV.le (fun _ _ h => h) ((hle4.trans hi4.le).trans hle5) he1) e8 (ErV.le (fun _ _ h => h) ((hle4.trans hi4.le).trans hle5) he8) r6 hr6) rfl fun v6 a w hz12 hA => ?_
                obtain ⟨vp3, vp4, μ8, rfl, hw5, hp4, hp5, hp6, hi5⟩ := hz12
                have hI := hI.backN 1 hi5
                have hI : Iv w0 [] μ μ8 [cel g1 [[vp3], [.int .i64 r6.2.at_], [vp4]] 143] w := hI
                refine o_nil ?_
                refine ⟨(.inr ((hI.sel [] (by decide) rfl).less ((hle4.trans hi4.le).trans hle5) hi5.le)), ?_⟩
                refine g_easy (i := 6) hA rfl rfl (by kernel_rfl) (.inr ((hI.sel [] (by decide) rfl).less ((hle4.trans hi4.le).trans hle5) hi5.le)) (fun _ => r_eql hA rfl rfl) rfl fun a hA => ?_
                refine g_easy (i := 7) hA rfl rfl (by kernel_rfl) (.inr ((hI.sel [] (by decide) rfl).less ((hle4.trans hi4.le).trans hle5) hi5.le)) (fun _ => r_as hA rfl) rfl fun a hA => ?_
                refine g_nil (by kernel_rfl) ?_
                cases Option.some.inj (bS H)
                exact ⟨μ8, vp3, vp4, hi5.le, hp4, hp5, hp6, hA.sub ⟨rfl, rfl, rfl, rfl, rfl, rfl, rfl, rfl, rfl, rfl, trivial⟩, hI⟩
              · have hc80 := hc8; have hc8 := of_decide_eq_false hc8; have H := bF H hc8
                refine w_seq fun _ hN24 => ?_
                refine w_reg ?_
                refine stp hA (r_eql hA rfl rfl) rfl fun a hA => 
                  stp hA (r_as hA rfl) rfl fun a hA => ?_
                refine o_nil ?_
                refine hN24 _ _ ?_
                refine w_cond hA rfl (fun hc9 => ?_) (fun hc9 => ?_)
                · have hc90 := hc9; have hc9 := of_decide_eq_true hc9; have H := bT H hc9
                  refine w_anyS [] mo (fun w (h : Iv w0 [] μ μ6 [cel g1 [[vvs4], [.int .i64 s5], [vvs6]] 143] w) => (h.sel [] (by decide) rfl : Iv w0 [] μ μ6 [] w)) hI fun w hI => ?_
                  refine g_easy (i := 0) hA rfl rfl (by kernel_rfl) (.inr (hI.sel [] (by decide) rfl)) (fun _ => r_mv hA rfl) rfl fun a hA => ?_
                  refine g_easy (i := 2) hA rfl rfl (by kernel_rfl) (.inr (hI.sel [] (by decide) rfl)) (fun _ => r_mv hA rfl) rfl fun a hA => ?_
                  refine g_easy (i := 3) hA rfl rfl (by kernel_rfl) (.inr (hI.sel [] (by decide) rfl)) (fun _ => r_mv hA rfl) rfl fun a hA => ?_
                  obtain ⟨hb6, H⟩ := bG H
                  obtain ⟨_, he5, _, hat5⟩ := Slc.elem1 (Slc.le hx0 (fun _ _ h => h) ((hle4.trans hi4.le).trans hle5)) (getD_some 0 hb6.1 hb6.2)
                  obtain ⟨rfl, hw6⟩ := he5
                  obtain ⟨_, hsl9⟩ := Slc.sv (Slc.le hx0 (fun _ _ h => h) ((hle4.trans hi4.le).trans hle5))
                  refine g_easy (i := 4) hA rfl rfl (by kernel_rfl) (.inr (hI.sel [] (by decide) rfl)) (fun _ => r_six1 Tryd.underlying42 sz22 hsl9 hA rfl rfl hb6.1 hb6.2) rfl fun a hA => ?_
                  refine g_take (i := 5) hA rfl rfl (by kernel_rfl) (hI.sel [] (by decide) rfl) (fun w hI => r_ldm1 [] [] Tryd.underlying22 rfl hI.agr hat5 hA rfl rfl) rfl fun a hA => ?_
                  refine g_easy (i := 6) hA rfl rfl (by kernel_rfl) (.inr (hI.sel [] (by decide) rfl)) (fun _ => r_conv Tryd.underlying22 Tryd.underlying39 hA rfl) rfl fun a hA => ?_
                  refine g_forced (i := 1) rfl (by kernel_rfl) ?_
                  obtain ⟨r7, hr7, H⟩ := bB H
                  refine o_call _ cf35 hA rfl (compact_Reader_Four.c μ6 _ hI.agr (⟨s4, s5, s6⟩ : compactReader) vvs4 vvs6 g1 ws4 ws5 ws6 (hI.handN 1) e8 (ErV.le (fun _ _ h => h) ((hle4.trans hi4.le).trans hle5) he8) r7 hr7) rfl fun v7 a w hz13 hA => ?_
                  obtain ⟨vp5, vp6, μ9, rfl, hw7, hp7, hp8, hp9, hi6⟩ := hz13
                  have hI := hI.backN 1 hi6
                  have hI : Iv w0 [] μ μ9 [cel g1 [[vp5], [.int .i64 r7.2.at_], [vp6]] 143] w := hI
                  refine o_nil ?_
                  refine ⟨(.inr ((hI.sel [] (by decide) rfl).less ((hle4.trans hi4.le).trans hle5) hi6.le)), ?_⟩
                  refine g_easy (i := 7) hA rfl rfl (by kernel_rfl) (.inr ((hI.sel [] (by decide) rfl).less ((hle4.trans hi4.le).trans hle5) hi6.le)) (fun _ => r_eql hA rfl rfl) rfl fun a hA => ?_
                  refine g_easy (i := 8) hA rfl rfl (by kernel_rfl) (.inr ((hI.sel [] (by decide) rfl).less ((hle4.trans hi4.le).trans hle5) hi6.le)) (fun _ => r_as hA rfl) rfl fun a hA => ?_
                  refine g_nil (by kernel_rfl) ?_
                  cases Option.some.inj (bS H)
                  exact ⟨μ9, vp5, vp6, hi6.le, hp7, hp8, hp9, hA.sub ⟨rfl, rfl, rfl, rfl, rfl, rfl, rfl, rfl, rfl, rfl, trivial⟩, hI⟩
                · have hc90 := hc9; have hc9 := of_decide_eq_false hc9; have H := bF H hc9
                  refine w_anyS [] mo (fun w (h : Iv w0 [] μ μ6 [cel g1 [[vvs4], [.int .i64 s5], [vvs6]] 143] w) => (h.sel [] (by decide) rfl : Iv w0 [] μ μ6 [] w)) hI fun w hI => ?_
                  refine g_easy (i := 0) hA rfl rfl (by kernel_rfl) (.inr (hI.sel [] (by decide) rfl)) (fun _ => r_mv hA rfl) rfl fun a hA => ?_
                  refine g_easy (i := 2) hA rfl rfl (by kernel_rfl) (.inr (hI.sel [] (by decide) rfl)) (fun _ => r_mv hA rfl) rfl fun a hA => ?_
                  refine g_easy (i := 3) hA rfl rfl (by kernel_rfl) (.inr (hI.sel [] (by decide) rfl)) (fun _ => r_mv hA rfl) rfl fun a hA => ?_
                  obtain ⟨hb7, H⟩ := bG H
                  obtain ⟨_, he6, _, hat6⟩ := Slc.elem1 (Slc.le hx0 (fun _ _ h => h) ((hle4.trans hi4.le).trans hle5)) (getD_some 0 hb7.1 hb7.2)
                  obtain ⟨rfl, hw8⟩ := he6
                  obtain ⟨_, hsl10⟩ := Slc.sv (Slc.le hx0 (fun _ _ h => h) ((hle4.trans hi4.le).trans hle5))
                  refine g_easy (i := 4) hA rfl rfl (by kernel_rfl) (.inr (hI.sel [] (by decide) rfl)) (fun _ => r_six1 Tryd.underlying42 sz22 hsl10 hA rfl rfl hb7.1 hb7.2) rfl fun a hA => ?_
                  refine g_take (i := 5) hA rfl rfl (by kernel_rfl) (hI.sel [] (by decide) rfl) (fun w hI => r_ldm1 [] [] Tryd.underlying22 rfl hI.agr hat6 hA rfl rfl) rfl fun a hA => ?_
                  refine g_forced (i := 1) rfl (by kernel_rfl) ?_
                  obtain ⟨r8, hr8, H⟩ := bB H
                  refine o_call _ cf34 hA rfl (compact_Reader_Eight.c μ6 _ hI.agr (⟨s4, s5, s6⟩ : compactReader) vvs4 vvs6 g1 ws4 ws5 ws6 (hI.handN 1) e8 (ErV.le (fun _ _ h => h) ((hle4.trans hi4.le).trans hle5) he8) r8 hr8) rfl fun v8 a w hz14 hA => ?_
                  obtain ⟨vp7, vp8, μ10, rfl, hw9, hp10, hp11, hp12, hi7⟩ := hz14
                  have hI := hI.backN 1 hi7
                  have hI : Iv w0 [] μ μ10 [cel g1 [[vp7], [.int .i64 r8.2.at_], [vp8]] 143] w := hI
                  refine o_nil ?_
                  refine ⟨(.inr ((hI.sel [] (by decide) rfl).less ((hle4.trans hi4.le).trans hle5) hi7.le)), ?_⟩
                  refine g_easy (i := 6) hA rfl rfl (by kernel_rfl) (.inr ((hI.sel [] (by decide) rfl).less ((hle4.trans hi4.le).trans hle5) hi7.le)) (fun _ => r_eql hA rfl rfl) rfl fun a hA => ?_
                  refine g_easy (i := 7) hA rfl rfl (by kernel_rfl) (.inr ((hI.sel [] (by decide) rfl).less ((hle4.trans hi4.le).trans hle5) hi7.le)) (fun _ => r_as hA rfl) rfl fun a hA => ?_
                  refine g_nil (by kernel_rfl) ?_
                  cases Option.some.inj (bS H)
                  exact ⟨μ10, vp7, vp8, hi7.le, hp10, hp11, hp12, hA.sub ⟨rfl, rfl, rfl, rfl, rfl, rfl, rfl, rfl, rfl, rfl, trivial⟩, hI⟩
            · rintro a w ⟨μ7, vvc5, vvc7, hle6, wc5, wc6, wc7, hA, hI⟩
              have H := Hk6
              refine w_seq fun _ hN25 => ?_
              refine w_reg ?_
              refine stp hA (r_mv hA rfl) rfl fun a hA => 
                stp hA (r_not hA rfl) rfl fun a hA => ?_
              refine o_nil ?_
              refine hN25 _ _ ?_
              refine w_cond hA rfl (fun hc10 => ?_) (fun hc10 => ?_)
              · have hc100 := hc10; have hc10 := nT hc10; have hc10 := ft hc10; have H := bF H hc10
                refine w_seq fun _ hN26 => ?_
                refine w_reg ?_
                refine stp hA (r_as hA rfl) rfl fun a hA => ?_
                refine o_nil ?_
                refine hN26 _ _ ?_
                refine w_ret ?_
                have H : some false = some z2 := H
                obtain rfl := Option.some.inj H
                have H := Hk5
                obtain rfl := Option.some.inj (bS H)
                exact ret1 hA Tryd.results5 rfl ⟨_, rfl, rfl, trivial, hI.forget0⟩
              · have hc100 := hc10; have hc10 := nF hc10; have H := bT H hc10
                refine w_skip ?_
                refine hN20 _ _ ?_
                refine w_reg ?_
                refine stp hA (r_mv hA rfl) rfl fun a hA => 
                  stp hA (r_add hA rfl rfl) rfl fun a hA => 
                  stp hA (r_as hA rfl) rfl fun a hA => ?_
                refine o_nil ?_
                exact ⟨m2, Nat.lt_succ_self _, IntKind.i64.wrap (s3 + 1), c5, c6, c7, μ7, vvc5, vvc7, H, (hle5.trans hle6), (wrap_in _ _), wc5, wc6, wc7, hA.sub ⟨rfl, rfl, rfl, rfl, rfl, rfl, rfl, rfl, trivial⟩, hI⟩
          · have hc70 := hc7; have hc7 := of_decide_eq_false hc7; have H := bF H hc7
            refine w_exit rfl ?_
            refine hN16 _ _ ?_
            obtain ⟨⟨c8, c9, c10, c11⟩, hz15, Hk7⟩ := bB H
            refine w_cut (fun a w => ∃ (μ11 : Store) (vvc9 : Value) (vvc11 : Value), μ6.le μ11 ∧ Slc (RI .u8) 1 μ11 vvc9 c9 ∧ InR .i64 c10 ∧ ErS μ11 vvc11 c11 ∧ Fr a 120 [(0, u0), (1, u1), (4, .bool c8), (5, .bool r1), (8, .pointer (some ⟨g1, 0, none⟩)), (9, .int .i64 s3), (13, .bool (!r1)), (21, .bool c1), (61, .bool (decide (s3 < (x0.length : Int))))] ∧ Iv w0 [] μ μ11 [cel g1 [[vvc9], [.int .i64 c10], [vvc11]] 143] w) ?_ ?_
            · have H := bI hz15
              refine w_reg ?_
              refine stp hA (r_mv hA rfl) rfl fun a hA => 
                stp hA (r_mv hA rfl) rfl fun a hA => ?_
              rcases Bool.eq_false_or_eq_true r1 with hc11 | hc11
              · have hc110 := hc11; have H := bT H hc11
                refine o_yes hA rfl rfl hc110 <| 
                  stp hA (r_mv hA rfl) rfl fun a hA => 
                  o_yes hA rfl rfl hc110 <| ?_
                obtain ⟨r9, hr9, H⟩ := bB H
                refine o_call _ cf28 hA rfl (compact_Reader_Left.c μ6 _ hI.agr (⟨s4, s5, s6⟩ : compactReader) vvs4 vvs6 g1 ws4 ws5 ws6 (hI.handN 1) r9 hr9) rfl fun v9 a w hz16 hA => ?_
                obtain ⟨rfl, hw10, hi8⟩ := hz16
                have hI := hI.backN 1 hi8
                have hI : Iv w0 [] μ μ6 [cel g1 [[vvs4], [.int .i64 s5], [vvs6]] 143] w := hI
                refine o_yes hA rfl rfl hc110 <| 
                  stp hA (r_mv hA rfl) rfl fun a hA => 
                  o_yes hA rfl rfl hc110 <| ?_
                obtain ⟨_, hsl11⟩ := Slc.sv (Slc.le hx1 (fun _ _ h => h) ((hle4.trans hi4.le).trans hle5))
                refine stp hA (r_slen Tryd.underlying23 hsl11 hA rfl) rfl fun a hA => 
                  o_yes hA rfl rfl hc110 <| 
                  stp hA (r_eql hA rfl rfl) rfl fun a hA => 
                  stp hA (r_pick_t hA rfl hc110 rfl) rfl fun a hA => 
                  stp hA (r_mv hA rfl) rfl fun a hA => ?_
                rcases Bool.eq_false_or_eq_true (decide (r9 = (x1.length : Int))) with hc12 | hc12
                · have hc120 := hc12; have hc12 := of_decide_eq_true hc12; have H := bT H hc12
                  refine o_yes hA rfl rfl hc120 <| 
                    stp hA (r_mv hA rfl) rfl fun a hA => 
                    o_yes hA rfl rfl hc120 <| 
                    stp hA (r_mv hA rfl) rfl fun a hA => 
                    o_yes hA rfl rfl hc120 <| ?_
                  obtain ⟨_, hsl12⟩ := Slc.sv (Slc.le hx1 (fun _ _ h => h) ((hle4.trans hi4.le).trans hle5))
                  refine stp hA (r_slen Tryd.underlying23 hsl12 hA rfl) rfl fun a hA => 
                    o_yes hA rfl rfl hc120 <| ?_
                  obtain ⟨r10, hr10, H⟩ := bB H
                  refine o_call _ cf37 hA rfl (compact_Reader_Bytes.c μ6 _ hI.agr (⟨s4, s5, s6⟩ : compactReader) vvs4 vvs6 g1 ws4 ws5 ws6 (hI.handN 1) (x1.length : Int) (len_in (Slc.le hx1 (fun _ _ h => h) ((hle4.trans hi4.le).trans hle5))) e8 (ErV.le (fun _ _ h => h) ((hle4.trans hi4.le).trans hle5) he8) r10 hr10) rfl fun v10 a w hz17 hA => ?_
                  obtain ⟨_, cs6, vp9, vp10, μ12, rfl, hE6, hp13, hp14, hp15, hi9⟩ := hz17
                  have hI := hI.backN 1 hi9
                  have hI : Iv w0 [] μ μ12 [row 5 1 v10 r10.1.length cs6, cel g1 [[vp9], [.int .i64 r10.2.at_], [vp10]] 143] w := hI
                  refine o_yes hA rfl rfl hc120 <| 
                    stp hA (r_mv hA rfl) rfl fun a hA => 
                    o_yes hA rfl rfl hc120 <| ?_
                  obtain ⟨r11, hr11, H⟩ := bB H
                  refine o_callp (u := .bool r11) cf36 hA rfl hI ((by obtain ⟨μ13, hle8, hsv6, hI⟩ := hI.freezeRow 0 rfl; have hS5 : Slc (RI .u8) 1 μ13 v10 r10.1 := ⟨_, hE6, hsv6⟩; exact low_plain hle8 (sargassoref_SameBytes.c μ13 _ hI.agr r10.1 v10 hS5 x1 u1 (Slc.le hx1 (fun _ _ h => h) ((((hle4.trans hi4.le).trans hle5).trans hi9.le).trans hle8)) r11 hr11))) rfl fun a w hz18 hI hA => 
                    stp hA (r_pick_t hA rfl hc120 rfl) rfl fun a hA => 
                    stp hA (r_mv hA rfl) rfl fun a hA => ?_
                  rcases Bool.eq_false_or_eq_true r11 with hc13 | hc13
                  · have hc130 := hc13; have H := bT H hc13
                    refine o_yes hA rfl rfl hc130 <| 
                      stp hA (r_mv hA rfl) rfl fun a hA => 
                      o_yes hA rfl rfl hc130 <| ?_
                    obtain ⟨r12, hr12, H⟩ := bB H
                    have hI := hI.sel [1, 0] (by decide) rfl
                    refine o_call _ cf30 hA rfl (compact_Reader_Err.c μ12 _ hI.agr r10.2 vp9 vp10 g1 hp13 hp14 hp15 (hI.handN 1) r12 hr12) rfl fun v11 a w hz19 hA => ?_
                    obtain ⟨_, μ14, rfl, hS6, hi10⟩ := hz19
                    have hI := hI.backN 1 hi10
                    have hI : Iv w0 [] μ μ14 [cel g1 [[vp9], [.int .i64 r10.2.at_], [vp10]] 143, row 5 1 v10 r10.1.length cs6] w := hI
                    refine o_yes hA rfl rfl hc130 <| 
                      stp hA (r_eqE erF hI.agr hS6 erv_nil (.inl ⟨.inr ⟨_, rfl⟩, Er.fitR⟩) hA rfl rfl) rfl fun a hA => 
                      stp hA (r_pick_t hA rfl hc130 rfl) rfl fun a hA => 
                      stp hA (r_mv hA rfl) rfl fun a hA => ?_
                    rcases Bool.eq_false_or_eq_true (decide (r12 = (Er.b 0))) with hc14 | hc14
                    · have hc140 := hc14; have hc14 := of_decide_eq_true hc14; have H := bT H hc14
                      refine o_yes hA rfl rfl hc140 <| 
                        stp hA (r_mv hA rfl) rfl fun a hA => 
                        o_yes hA rfl rfl hc140 <| ?_
                      obtain ⟨r13, hr13, H⟩ := bB H
                      refine o_call _ cf28 hA rfl (compact_Reader_Left.c μ14 _ hI.agr r10.2 vp9 vp10 g1 (Slc.le hp13 (fun _ _ h => h) hi10.le) hp14 (ErV.le (fun _ _ h => h) hi10.le hp15) (hI.handN 1) r13 hr13) rfl fun v12 a w hz20 hA => ?_
                      obtain ⟨rfl, hw11, hi11⟩ := hz20
                      have hI := hI.backN 1 hi11
                      have hI : Iv w0 [] μ μ14 [cel g1 [[vp9], [.int .i64 r10.2.at_], [vp10]] 143, row 5 1 v10 r10.1.length cs6] w := hI
                      refine o_yes hA rfl rfl hc140 <| 
                        stp hA (r_eql hA rfl rfl) rfl fun a hA => 
                        stp hA (r_pick_t hA rfl hc140 rfl) rfl fun a hA => 
                        stp hA (r_as hA rfl) rfl fun a hA => ?_
                      refine o_nil ?_
                      cases Option.some.inj (bS H)
                      exact ⟨μ14, vp9, vp10, (hi9.le.trans hi10.le), (Slc.le hp13 (fun _ _ h => h) hi10.le), hp14, (ErV.le (fun _ _ h => h) hi10.le hp15), hA.sub ⟨rfl, rfl, rfl, rfl, rfl, rfl, rfl, rfl, rfl, trivial⟩, (hI.sel [0] (by decide) rfl)⟩
                    · have hc140 := hc14; have hc14 := of_decide_eq_false hc14; have H := bF H hc14
                      refine o_no hA rfl rfl (by rw [hc140]; simp [vb]) rfl fun a hA => 
                        o_no hA rfl rfl (by rw [hc140]; simp [vb]) rfl fun a hA => 
                        o_no hA rfl rfl (by rw [hc140]; simp [vb]) rfl fun a hA => 
                        stp hA (r_pick_f hA rfl hc140 rfl) rfl fun a hA => 
                        stp hA (r_as hA rfl) rfl fun a hA => ?_
                      refine o_nil ?_
                      cases Option.some.inj (bS H)
                      exact ⟨μ14, vp9, vp10, (hi9.le.trans hi10.le), (Slc.le hp13 (fun _ _ h => h) hi10.le), hp14, (ErV.le (fun _ _ h => h) hi10.le hp15), hA.sub ⟨rfl, rfl, rfl, rfl, rfl, rfl, rfl, rfl, rfl, trivial⟩, (hI.sel [0] (by decide) rfl)⟩
                  · have hc130 := hc13; have hc13 := ft hc13; have H := bF H hc13
                    refine o_no hA rfl rfl (by rw [hc130]; simp [vb]) rfl fun a hA => 
                      o_no hA rfl rfl (by rw [hc130]; simp [vb]) rfl fun a hA => 
                      o_no hA rfl rfl (by rw [hc130]; simp [vb]) rfl fun a hA => 
                      stp hA (r_pick_f hA rfl hc130 rfl) rfl fun a hA => 
                      stp hA (r_mv hA rfl) rfl fun a hA => 
                      o_no hA rfl rfl (by simp [vb]) rfl fun a hA => 
                      o_no hA rfl rfl (by simp [vb]) rfl fun a hA => 
                      o_no hA rfl rfl (by simp [vb]) rfl fun a hA => 
                      stp hA (r_pick_f hA rfl rfl rfl) rfl fun a hA => 
                      stp hA (r_as hA rfl) rfl fun a hA => ?_
                    refine o_nil ?_
                    cases Option.some.inj (bS H)
                    exact ⟨μ12, vp9, vp10, hi9.le, hp13, hp14, hp15, hA.sub ⟨rfl, rfl, rfl, rfl, rfl, rfl, rfl, rfl, rfl, trivial⟩, (hI.sel [1] (by decide) rfl)⟩
                · have hc120 := hc12; have hc12 := of_decide_eq_false hc12; have H := bF H hc12
                  refine o_no hA rfl rfl (by rw [hc120]; simp [vb]) rfl fun a hA => 
                    o_no hA rfl rfl (by rw [hc120]; simp [vb]) rfl fun a hA => 
                    o_no hA rfl rfl (by rw [hc120]; simp [vb]) rfl fun a hA => 
                    o_no hA rfl rfl (by rw [hc120]; simp [vb]) rfl fun a hA => 
                    o_no hA rfl rfl (by rw [hc120]; simp [vb]) rfl fun a hA => 
                    o_no hA rfl rfl (by rw [hc120]; simp [vb]) rfl fun a hA => 
                    stp hA (r_pick_f hA rfl hc120 rfl) rfl fun a hA => 
                    stp hA (r_mv hA rfl) rfl fun a hA => 
                    o_no hA rfl rfl (by simp [vb]) rfl fun a hA => 
                    o_no hA rfl rfl (by simp [vb]) rfl fun a hA => 
                    o_no hA rfl rfl (by simp [vb]) rfl fun a hA => 
                    stp hA (r_pick_f hA rfl rfl rfl) rfl fun a hA => 
                    stp hA (r_mv hA rfl) rfl fun a hA => 
                    o_no hA rfl rfl (by simp [vb]) rfl fun a hA => 
                    o_no hA rfl rfl (by simp [vb]) rfl fun a hA => 
                    o_no hA rfl rfl (by simp [vb]) rfl fun a hA => 
                    stp hA (r_pick_f hA rfl rfl rfl) rfl fun a hA => 
                    stp hA (r_as hA rfl) rfl fun a hA => ?_
                  refine o_nil ?_
                  cases Option.some.inj (bS H)
                  exact ⟨μ6, vvs4, vvs6, (Store.le.refl _), ws4, ws5, ws6, hA.sub ⟨rfl, rfl, rfl, rfl, rfl, rfl, rfl, rfl, rfl, trivial⟩, hI⟩
              · have hc110 := hc11; have hc11 := ft hc11; have H := bF H hc11
                refine o_no hA rfl rfl (by rw [hc110]; simp [vb]) rfl fun a hA => 
                  o_no hA rfl rfl (by rw [hc110]; simp [vb]) rfl fun a hA => 
                  o_no hA rfl rfl (by rw [hc110]; simp [vb]) rfl fun a hA => 
                  o_no hA rfl rfl (by rw [hc110]; simp [vb]) rfl fun a hA => 
                  o_no hA rfl rfl (by rw [hc110]; simp [vb]) rfl fun a hA => 
                  stp hA (r_pick_f hA rfl hc110 rfl) rfl fun a hA => 
                  stp hA (r_mv hA rfl) rfl fun a hA => 
                  o_no hA rfl rfl (by simp [vb]) rfl fun a hA => 
                  o_no hA rfl rfl (by simp [vb]) rfl fun a hA => 
                  o_no hA rfl rfl (by simp [vb]) rfl fun a hA => 
                  o_no hA rfl rfl (by simp [vb]) rfl fun a hA => 
                  o_no hA rfl rfl (by simp [vb]) rfl fun a hA => 
                  o_no hA rfl rfl (by simp [vb]) rfl fun a hA => 
                  stp hA (r_pick_f hA rfl rfl rfl) rfl fun a hA => 
                  stp hA (r_mv hA rfl) rfl fun a hA => 
                  o_no hA rfl rfl (by simp [vb]) rfl fun a hA => 
                  o_no hA rfl rfl (by simp [vb]) rfl fun a hA => 
                  o_no hA rfl rfl (by simp [vb]) rfl fun a hA => 
                  stp hA (r_pick_f hA rfl rfl rfl) rfl fun a hA => 
                  stp hA (r_mv hA rfl) rfl fun a hA => 
                  o_no hA rfl rfl (by simp [vb]) rfl fun a hA => 
                  o_no hA rfl rfl (by simp [vb]) rfl fun a hA => 
                  o_no hA rfl rfl (by simp [vb]) rfl fun a hA => 
                  stp hA (r_pick_f hA rfl rfl rfl) rfl fun a hA => 
                  stp hA (r_as hA rfl) rfl fun a hA => ?_
                refine o_nil ?_
                cases Option.some.inj (bS H)
                exact ⟨μ6, vvs4, vvs6, (Store.le.refl _), ws4, ws5, ws6, hA.sub ⟨rfl, rfl, rfl, rfl, rfl, rfl, rfl, rfl, rfl, trivial⟩, hI⟩
            · rintro a w ⟨μ11, vvc9, vvc11, hle7, wc9, wc10, wc11, hA, hI⟩
              have H := Hk7
              refine w_ret ?_
              have H : some c8 = some z2 := H
              obtain rfl := Option.some.inj H
              have H := Hk5
              obtain rfl := Option.some.inj (bS H)
              exact ret1 hA Tryd.results5 rfl ⟨_, rfl, rfl, trivial, hI.forget0⟩
end Go.Proofs.YtpeelghbhihgkaaDoor.T
namespace Go.Proofs.YtpeelghbhihgkaaDoor.T
open Go Go.Proofs Go.Proofs.YtpeelghbhihgkaaDoor.K
set_option linter.unusedVariables false
set_option linter.unusedSimpArgs false
def digest_keys.lit0 : List Int := [1116352408, 1899447441, 3049323471, 3921009573, 961987163, 1508970993, 2453635748, 2870763221, 3624381080, 310598401, 607225278, 1426881987, 1925078388, 2162078206, 2614888103, 3248222580, 3835390401, 4022224774, 264347078, 604807628, 770255983, 1249150122, 1555081692, 1996064986, 2554220882, 2821834349, 2952996808, 3210313671, 3336571891, 3584528711, 113926993, 338241895, 666307205, 773529912, 1294757372, 1396182291, 1695183700, 1986661051, 2177026350, 2456956037, 2730485921, 2820302411, 3259730800, 3345764771, 3516065817, 3600352804, 4094571909, 275423344, 430227734, 506948616, 659060556, 883997877, 958139571, 1322822218, 1537002063, 1747873779, 1955562222, 2024104815, 2227730452, 2361852424, 2428436474, 2756734187, 3204031479, 3329325298]
end Go.Proofs.YtpeelghbhihgkaaDoor.T
namespace Go.Proofs.YtpeelghbhihgkaaDoor.T
open Go Go.Proofs Go.Proofs.YtpeelghbhihgkaaDoor.K
set_option linter.unusedVariables false
theorem w64 {x : Int} (h0 : -9223372036854775808 ≤ x) (h1 : x < 9223372036854775808) : IntKind.i64.wrap x = x := wrap_id ⟨h0, h1⟩
theorem wu64 {x : Int} (h0 : 0 ≤ x) (h1 : x < 18446744073709551616) : IntKind.u64.wrap x = x := wrap_id ⟨h0, h1⟩
theorem wu32 {x : Int} (h0 : 0 ≤ x) (h1 : x < 4294967296) : IntKind.u32.wrap x = x := wrap_id ⟨h0, h1⟩
end Go.Proofs.YtpeelghbhihgkaaDoor.T
namespace Go.Proofs.YtpeelghbhihgkaaDoor.T
open Go Go.Proofs Go.Proofs.YtpeelghbhihgkaaDoor.K
set_option linter.unusedVariables false
set_option linter.unusedSimpArgs false
theorem loop_idx {τ ρ : Type} {step : τ → Option (τ ⊕ ρ)} (st : Nat → τ) (n : Nat) (h : ∀ i, i < n → step (st i) = some (.inl (st (i + 1)))) : loopO step (st 0) = loopO step (st n) := by
  induction n with
  | zero => rfl
  | succ n ih => rw [ih (fun i hi => h i (by omega)), loopO_inl (h n (by omega))]
theorem loop_run {τ ρ : Type} {step : τ → Option (τ ⊕ ρ)} (st : Nat → τ) (n : Nat) {r : ρ} {s : τ} (h0 : s = st 0) (h : ∀ i, i < n → step (st i) = some (.inl (st (i + 1)))) (hn : step (st n) = some (.inr r)) : loopO step s = some r := by
  rw [h0, loop_idx st n h, loopO_inr hn]
theorem loop_exists {τ ρ : Type} {step : τ → Option (τ ⊕ ρ)} (I : Nat → τ → Prop) (n : Nat) {r : ρ} {s : τ} (h0 : I 0 s) (h : ∀ i, i < n → ∀ s, I i s → ∃ s', step s = some (.inl s') ∧ I (i + 1) s') (hn : ∀ s, I n s → step s = some (.inr r)) : loopO step s = some r := by
  have key : ∀ m k s, k + m = n → I k s → loopO step s = some r := by
    intro m
    induction m with
    | zero => intro k s e hI; exact loopO_inr (hn s (by rw [← e]; exact hI))
    | succ m ih =>
      intro k s e hI
      obtain ⟨s', h1, h2⟩ := h k (by omega) s hI
      rw [loopO_inl h1]
      exact ih (k + 1) s' (by omega) h2
  exact key n 0 s (by omega) h0
theorem bv_nat (n a : Nat) (h : a < 2 ^ n) : (BitVec.ofInt n (a : Int)).toNat = a := by
  rw [BitVec.toNat_ofInt]
  have : ((a : Int) % ((2 ^ n : Nat) : Int)) = a := Int.emod_eq_of_lt (by omega) (by exact_mod_cast h)
  rw [this]
  rfl
theorem in_u (k : IntKind) (hk : k.signed = false) {a : Nat} (h : a < 2 ^ k.bits) : InR k (a : Int) := by
  cases k <;> simp [IntKind.signed] at hk <;> simp [IntKind.bits] at h <;> simp [InR] <;> omega
theorem bOr_nat (k : IntKind) (hk : k.signed = false) {a b : Nat} (ha : a < 2 ^ k.bits) (hb : b < 2 ^ k.bits) : bOr k a b = ((a ||| b : Nat) : Int) := by
  unfold bOr
  rw [BitVec.toNat_or, bv_nat _ _ ha, bv_nat _ _ hb]
  exact wrap_id (in_u k hk (Nat.or_lt_two_pow ha hb))
theorem sR_nat (k : IntKind) {a n : Nat} (hn : n ≤ k.bits) : sR k (a : Int) (n : Int) = ((a >>> n : Nat) : Int) := by
  unfold sR
  have e : min (n : Int).toNat k.bits = n := by simp; omega
  rw [e, Nat.shiftRight_eq_div_pow]
  rw [Int.fdiv_eq_ediv_of_nonneg _ (by exact Int.pow_nonneg (by omega))]
  push_cast
  rfl
end Go.Proofs.YtpeelghbhihgkaaDoor.T
namespace Go.Proofs.YtpeelghbhihgkaaDoor.T
open Go Go.Proofs Go.Proofs.YtpeelghbhihgkaaDoor.K
set_option linter.unusedVariables false
set_option linter.unusedSimpArgs false
def rotr (x n : Int) : Int := bOr .u32 (sR .u32 x n) (sL .u32 x (32 - n))
def wordAt (b : List Int) (p : Nat) : Int :=
  bOr .u32 (bOr .u32 (bOr .u32 (sL .u32 (IntKind.u32.wrap (b.getD p 0)) 24) (sL .u32 (IntKind.u32.wrap (b.getD (p + 1) 0)) 16)) (sL .u32 (IntKind.u32.wrap (b.getD (p + 2) 0)) 8)) (IntKind.u32.wrap (b.getD (p + 3) 0))
def sg0 (y : Int) : Int := bXor .u32 (bXor .u32 (rotr y 7) (rotr y 18)) (sR .u32 y 3)
def sg1 (x : Int) : Int := bXor .u32 (bXor .u32 (rotr x 17) (rotr x 19)) (sR .u32 x 10)
def schedVal (b : List Int) (p : Nat) (w : List Int) (t : Nat) : Int :=
  if t < 16 then wordAt b (p + 4 * t) else IntKind.u32.wrap (w.getD (t - 16) 0 + sg0 (w.getD (t - 15) 0) + w.getD (t - 7) 0 + sg1 (w.getD (t - 2) 0))
def schedR (b : List Int) (p : Nat) : Nat → List Int
  | 0 => List.replicate 64 0
  | t + 1 => (fun w => w.set t (schedVal b p w t)) (schedR b p t)
def kc : List Int := digest_keys.lit0
def rt1 (x : List Int) (k w : Int) : Int := IntKind.u32.wrap (x.getD 7 0 + bXor .u32 (bXor .u32 (rotr (x.getD 4 0) 6) (rotr (x.getD 4 0) 11)) (rotr (x.getD 4 0) 25) + bXor .u32 (bAnd .u32 (x.getD 4 0) (x.getD 5 0)) (bAnd .u32 (bNot .u32 (x.getD 4 0)) (x.getD 6 0)) + k + w)
def rt2 (x : List Int) : Int := bXor .u32 (bXor .u32 (rotr (x.getD 0 0) 2) (rotr (x.getD 0 0) 13)) (rotr (x.getD 0 0) 22) + bXor .u32 (bXor .u32 (bAnd .u32 (x.getD 0 0) (x.getD 1 0)) (bAnd .u32 (x.getD 0 0) (x.getD 2 0))) (bAnd .u32 (x.getD 1 0) (x.getD 2 0))
def rstep (x : List Int) (k w : Int) : List Int :=
  [IntKind.u32.wrap (rt1 x k w + rt2 x), x.getD 0 0, x.getD 1 0, x.getD 2 0, IntKind.u32.wrap (x.getD 3 0 + rt1 x k w), x.getD 4 0, x.getD 5 0, x.getD 6 0]
def roundR (w s : List Int) : Nat → List Int
  | 0 => s
  | t + 1 => rstep (roundR w s t) (kc.getD t 0) (w.getD t 0)
def addR (x s : List Int) : Nat → List Int
  | 0 => s
  | i + 1 => (fun z => z.set i (IntKind.u32.wrap (z.getD i 0 + x.getD i 0))) (addR x s i)
def mixV (s b : List Int) (p : Nat) : List Int := addR (roundR (schedR b p 64) s 64) s 8
def blocksR (m s : List Int) : Nat → List Int
  | 0 => s
  | n + 1 => mixV (blocksR m s n) m (64 * n)
def iv0 : List Int := [1779033703, 3144134277, 1013904242, 2773480762, 1359893119, 2600822924, 528734635, 1541459225]
def outB (s : List Int) (i : Nat) : Int := IntKind.u8.wrap (sR .u32 (s.getD (i / 4) 0) (24 - 8 * ((i % 4 : Nat) : Int)))
def outL (s : List Int) : List Int := (List.range 32).map (outB s)
def zs (n : Nat) : Nat := (120 - n % 64) % 64
def lenB (n i : Nat) : Int := IntKind.u8.wrap (sR .u64 (IntKind.u64.wrap (8 * (n : Int))) (8 * (7 - (i : Int))))
def padR (m : List Int) : List Int := m ++ ([128] ++ (List.replicate (zs (m.length + 1)) 0 ++ (List.range 8).map (lenB m.length)))
def sha (m : List Int) : List Int := outL (blocksR (padR m) iv0 ((padR m).length / 64))
end Go.Proofs.YtpeelghbhihgkaaDoor.T
namespace Go.Proofs.YtpeelghbhihgkaaDoor.T
open Go Go.Proofs Go.Proofs.YtpeelghbhihgkaaDoor.K
set_option linter.unusedVariables false
set_option linter.unusedSimpArgs false
theorem range_map_succ {α : Type} (f : Nat → α) (i : Nat) : (List.range (i + 1)).map f = (List.range i).map f ++ [f i] := by rw [List.range_succ, List.map_append]; rfl
end Go.Proofs.YtpeelghbhihgkaaDoor.T
namespace Go.Proofs.YtpeelghbhihgkaaDoor.T
open Go Go.Proofs Go.Proofs.YtpeelghbhihgkaaDoor.K
set_option linter.unusedVariables false
set_option linter.unusedSimpArgs false
theorem els_all {α : Type} {RE : α → List Value → Prop} {sz : Nat} {xs : List α} {cs : List Value} {Q : α → Prop} (h : Els RE sz xs cs) (f : ∀ x c, RE x c → Q x) : ∀ x ∈ xs, Q x := by
  induction h with
  | nil => simp
  | cons h _ _ ih =>
    intro y hy
    rcases List.mem_cons.1 hy with rfl | hy
    · exact f _ _ h
    · exact ih y hy
theorem slc_ints {k : IntKind} {μ : Store} {v : Value} {xs : List Int} (h : Slc (RI k) 1 μ v xs) : ∀ x ∈ xs, InR k x := by
  obtain ⟨cs, he, _⟩ := h
  exact els_all he fun x c hc => hc.2
theorem winc (i : Nat) (hi : i < 9223372036854775807) : IntKind.i64.wrap ((i : Int) + 1) = ((i + 1 : Nat) : Int) := by
  rw [w64 (by omega) (by omega)]; omega
theorem take_next {α : Type} (xs : List α) (i : Nat) (d : α) (h : i < xs.length) : xs.take i ++ [xs.getD i d] = xs.take (i + 1) := by
  rw [List.take_add_one]
  simp [List.getD, h]
theorem all_run {step : Int → Option (Int ⊕ Bool)} (n : Nat) (p : Nat → Prop) [DecidablePred p] (hn : n < 9223372036854775807)
    (hs : ∀ i, i < n → step (i : Int) = if p i then some (.inl (IntKind.i64.wrap ((i : Int) + 1))) else some (.inr false)) (he : step (n : Int) = some (.inr true)) : loopO step 0 = some (decide (∀ i, i < n → p i)) := by
  have key : ∀ m k, m + k = n → (∀ i, i < k → p i) → loopO step (k : Int) = some (decide (∀ i, i < n → p i)) := by
    intro m
    induction m with
    | zero =>
      intro k e h
      obtain rfl : k = n := by omega
      rw [loopO_inr he]
      congr 1
      exact (decide_eq_true h).symm
    | succ m ih =>
      intro k e h
      have h1 := hs k (by omega)
      by_cases hp : p k
      · rw [if_pos hp, winc k (by omega)] at h1
        rw [loopO_inl h1]
        refine ih (k + 1) (by omega) fun i hi => ?_
        rcases Nat.lt_or_ge i k with h2 | h2
        · exact h i h2
        · obtain rfl : i = k := by omega
          exact hp
      · rw [if_neg hp] at h1
        rw [loopO_inr h1]
        have : ¬ ∀ i, i < n → p i := fun h2 => hp (h2 k (by omega))
        simp [this]
  exact key n 0 (by omega) (by simp)
theorem ext_iff {α : Type} (xs ys : List α) (d : α) (h : xs.length = ys.length) : (∀ i, i < xs.length → xs.getD i d = ys.getD i d) ↔ xs = ys := by
  constructor
  · intro hh
    apply List.ext_getElem h
    intro i h1 h2
    have := hh i h1
    simpa [List.getD, h1, h2] using this
  · rintro rfl i _
    rfl
theorem samebytes_eq' (xs ys : List Int) (h : xs.length ≤ 140737488355328) : sargassoref_SameBytes.f xs ys = some (decide (xs = ys)) := by
  unfold sargassoref_SameBytes.f
  by_cases hl : xs.length = ys.length
  · rw [if_neg (by omega), all_run xs.length (fun i => xs.getD i 0 = ys.getD i 0) (by omega) (fun i hi => by
      simp only [sargassoref_SameBytes.s0, Int.toNat_natCast]
      rw [if_pos (by omega), if_pos (by omega), if_pos (by omega)]) (by simp [sargassoref_SameBytes.s0])]
    congr 2
    exact propext (ext_iff xs ys 0 hl)
  · rw [if_pos (by omega)]
    have : xs ≠ ys := fun e => hl (by rw [e])
    simp [this]
theorem samebytes_eq (xs : List Int) (h : xs.length ≤ 140737488355328) : sargassoref_SameBytes.f xs xs = some true := by
  rw [samebytes_eq' xs xs h]
  simp
end Go.Proofs.YtpeelghbhihgkaaDoor.T
namespace Go.Proofs.YtpeelghbhihgkaaDoor.T
open Go Go.Proofs Go.Proofs.YtpeelghbhihgkaaDoor.K
set_option linter.unusedVariables false
set_option linter.unusedSimpArgs false
def Hs (l : List (List Int)) : Prop := ∀ x ∈ l, x.length = 32
theorem Hs.at {l : List (List Int)} (h : Hs l) {i : Nat} (hi : i < l.length) : (l.getD i []).length = 32 := by
  have e : l.getD i [] = l[i] := by simp [List.getD, hi]
  rw [e]; exact h _ (List.getElem_mem hi)
def pr (a b : List Int) : List Int := sha (sha (a ++ b))
end Go.Proofs.YtpeelghbhihgkaaDoor.T
namespace Go.Proofs.YtpeelghbhihgkaaDoor.T
open Go Go.Proofs Go.Proofs.YtpeelghbhihgkaaDoor.K
set_option linter.unusedVariables false
set_option linter.unusedSimpArgs false
theorem u8e (x : Int) : IntKind.u8.wrap x = x % 256 := by simp [IntKind.wrap, IntKind.signed, IntKind.bits]
def lb (a m : Nat) : List Int := (List.range m).map fun j => ((a / 2 ^ (8 * j) % 256 : Nat) : Int)
theorem lb_len (a m : Nat) : (lb a m).length = m := by simp [lb]
theorem sR_div (k : IntKind) {a n : Nat} (hn : n ≤ k.bits) : sR k (a : Int) (n : Int) = ((a / 2 ^ n : Nat) : Int) := by
  rw [sR_nat k hn, Nat.shiftRight_eq_div_pow]
theorem number_eq' (r : List Int) (a k : Nat) (hk : k ≤ 100) (hl : r.length + k ≤ 140737488355328) : compact_number.f r (a : Int) (k : Int) = some (r ++ lb a k) := by
  simp only [compact_number.f]
  have h : loopO (compact_number.s0 (k : Int)) (r, (a : Int), 0) = some (r ++ lb a k, ((a / 2 ^ (8 * k) : Nat) : Int)) := by
    refine loop_run (fun j => (r ++ lb a j, ((a / 2 ^ (8 * j) : Nat) : Int), (j : Int))) k (by simp [lb]) (fun j hj => ?_) ?_
    · simp only [compact_number.s0]
      have e1 : IntKind.u8.wrap ((a / 2 ^ (8 * j) : Nat) : Int) = ((a / 2 ^ (8 * j) % 256 : Nat) : Int) := by rw [u8e]; generalize a / 2 ^ (8 * j) = q; omega
      have e2 : sR .u64 ((a / 2 ^ (8 * j) : Nat) : Int) 8 = ((a / 2 ^ (8 * (j + 1)) : Nat) : Int) := by
        have := sR_div .u64 (a := a / 2 ^ (8 * j)) (n := 8) (by decide)
        rw [Nat.div_div_eq_div_mul, ← Nat.pow_add] at this
        exact this
      rw [if_pos (by omega), if_pos (by simp [lb_len]; omega), e1, e2, winc j (by omega), List.append_assoc]
      have : lb a j ++ [((a / 2 ^ (8 * j) % 256 : Nat) : Int)] = lb a (j + 1) := by
        unfold lb; rw [range_map_succ]
      rw [this]
    · simp only [compact_number.s0]
      rw [if_neg (by omega)]
  rw [h, Option.bind_some]
theorem four_eq (b : List Int) (a : Nat) (ha : a < 4294967296) (hl : b.length + 4 ≤ 140737488355328) : compact_Four.f b (a : Int) = some (b ++ lb a 4) := by
  have := number_eq' b a 4 (by omega) hl
  simp only [compact_Four.f, bytes_Clone.f]
  rw [wu64 (by omega) (by omega), if_pos (by omega), Option.bind_some]
  rw [show ((4 : Nat) : Int) = 4 from rfl] at this
  rw [this, Option.bind_some]
structure HN where
  v : Nat
  p : List Int
  r : List Int
  t : Nat
  w : Nat
  n : Nat
deriving DecidableEq
def HN.h (h : HN) : Head := ⟨h.v, h.p, h.r, h.t, h.w, h.n⟩
def hb (h : HN) : List Int := lb h.v 4 ++ (h.p ++ (h.r ++ (lb h.t 4 ++ (lb h.w 4 ++ lb h.n 4))))
end Go.Proofs.YtpeelghbhihgkaaDoor.T
namespace Go.Proofs.YtpeelghbhihgkaaDoor.T
open Go Go.Proofs Go.Proofs.YtpeelghbhihgkaaDoor.K
set_option linter.unusedVariables false
set_option linter.unusedSimpArgs false
theorem gd {α : Type} (l : List α) (d : α) {i : Nat} (h : i < l.length) : l.getD i d = l[i] := by simp [List.getD, h]
end Go.Proofs.YtpeelghbhihgkaaDoor.T
namespace Go.Proofs.YtpeelghbhihgkaaDoor.T
open Go Go.Proofs Go.Proofs.YtpeelghbhihgkaaDoor.K
set_option linter.unusedVariables false
set_option linter.unusedSimpArgs false
def Bs (l : List Int) : Prop := ∀ x ∈ l, InR .u8 x
theorem Bs.app {l m : List Int} (h : Bs l) (k : Bs m) : Bs (l ++ m) := fun x hx => (List.mem_append.1 hx).elim (h x) (k x)
theorem Bs.take {l : List Int} (h : Bs l) (n : Nat) : Bs (l.take n) := fun x hx => h x (List.mem_of_mem_take hx)
theorem Bs.drop {l : List Int} (h : Bs l) (n : Nat) : Bs (l.drop n) := fun x hx => h x (List.mem_of_mem_drop hx)
theorem bs_lb (a m : Nat) : Bs (lb a m) := fun x hx => by
  obtain ⟨j, _, rfl⟩ := List.mem_map.1 hx
  simp only [InR]
  omega
theorem bs_nil : Bs [] := fun x hx => by cases hx
theorem bs_slc {μ : Store} {v : Value} {l : List Int} (h : Slc (RI .u8) 1 μ v l) : Bs l := slc_ints h
def vl : List Int → Nat
  | [] => 0
  | b :: l => b.toNat + 256 * vl l
theorem vl_snoc (l : List Int) (b : Int) : vl (l ++ [b]) = vl l + 256 ^ l.length * b.toNat := by
  induction l with
  | nil => simp [vl]
  | cons x l ih => simp only [List.cons_append, vl, ih, List.length_cons, Nat.pow_succ]; rw [Nat.mul_add, Nat.mul_comm (256 ^ l.length) 256, Nat.mul_assoc]; omega
theorem vl_lt {l : List Int} (h : Bs l) : vl l < 256 ^ l.length := by
  induction l with
  | nil => simp [vl]
  | cons x l ih =>
    have h1 := ih fun y hy => h y (by simp [hy])
    obtain ⟨h2, h3⟩ := h x (by simp)
    simp only [vl, List.length_cons, Nat.pow_succ]
    omega
theorem vl_lb (a m : Nat) : vl (lb a m) = a % 256 ^ m := by
  induction m with
  | zero => simp [lb, vl, Nat.mod_one]
  | succ m ih =>
    have e : lb a (m + 1) = lb a m ++ [((a / 2 ^ (8 * m) % 256 : Nat) : Int)] := by unfold lb; rw [range_map_succ]
    rw [e, vl_snoc, ih, lb_len, Int.toNat_natCast, Nat.pow_mul]
    exact (Nat.mod_mul (x := a) (a := 256 ^ m) (b := 256)).symm
theorem or_shift (a b i : Nat) (ha : a < 256 ^ i) (hb : b < 256) (hi : i < 8) : bOr .u64 (a : Int) (sL .u64 (b : Int) ((8 * i : Nat) : Int)) = ((a + 256 ^ i * b : Nat) : Int) := by
  have e1 : (256 : Nat) ^ i = 2 ^ (8 * i) := by rw [Nat.pow_mul]
  have h64 : (256 : Nat) ^ i * 256 ≤ 2 ^ 64 := by
    rw [e1, show (256 : Nat) = 2 ^ 8 from rfl, ← Nat.pow_add]
    exact Nat.pow_le_pow_right (by decide) (by omega)
  have hlt : 256 ^ i * b < 2 ^ 64 := Nat.lt_of_lt_of_le (Nat.mul_lt_mul_of_pos_left hb (Nat.pow_pos (by decide))) h64
  have hs : sL .u64 (b : Int) ((8 * i : Nat) : Int) = ((256 ^ i * b : Nat) : Int) := by
    unfold sL
    have em : min ((8 * i : Nat) : Int).toNat IntKind.u64.bits = 8 * i := by simp [IntKind.bits]; omega
    rw [em]
    have e2 : (b : Int) * 2 ^ (8 * i) = ((256 ^ i * b : Nat) : Int) := by
      rw [e1]; push_cast; exact Int.mul_comm _ _
    rw [e2]
    exact wu64 (by omega) (by omega)
  rw [hs, bOr_nat .u64 rfl (by simp only [IntKind.bits]; exact Nat.lt_of_lt_of_le ha (by omega)) (by simpa [IntKind.bits] using hlt)]
  congr 1
  have := Nat.two_pow_add_eq_or_of_lt (i := 8 * i) (b := a) (by rw [← e1]; exact ha) b
  rw [← e1] at this
  rw [Nat.or_comm, ← this, Nat.add_comm]
def nx (n : Nat) (s : List Int × Er) : List Int × (List Int × Er) :=
  if s.2 ≠ .b 0 then ([], s) else if s.1.length < n then ([], (s.1, xErrEnd)) else (s.1.take n, (s.1.drop n, s.2))
def Rep (r : compactReader) (s : List Int × Er) : Prop := ∃ pre, r = ⟨pre ++ s.1, (pre.length : Int), s.2⟩ ∧ (pre ++ s.1).length ≤ 1000000 ∧ Bs s.1
theorem nx_bs {n : Nat} {s : List Int × Er} (h : Bs s.1) : Bs (nx n s).1 ∧ Bs (nx n s).2.1 := by
  unfold nx
  split
  · exact ⟨bs_nil, h⟩
  · split
    · exact ⟨bs_nil, h⟩
    · exact ⟨h.take _, h.drop _⟩
theorem nx_len (n : Nat) (s : List Int × Er) : (nx n s).1.length ≤ n := by
  unfold nx
  split
  · simp
  · split
    · simp
    · simp; omega
theorem next_eq {r : compactReader} {s : List Int × Er} (h : Rep r s) (n : Nat) : ∃ r', compact_Reader_next.f r (n : Int) = some ((nx n s).1, r') ∧ Rep r' (nx n s).2 := by
  obtain ⟨pre, rfl, hl, hbs⟩ := h
  obtain ⟨rest, e⟩ := s
  simp only at hl hbs ⊢
  rw [List.length_append] at hl
  simp only [compact_Reader_next.f, nx]
  by_cases he : e = .b 0
  · subst he
    rw [if_neg (show ¬ (Er.b 0 ≠ Er.b 0) from fun h => h rfl), if_neg (show ¬ (Er.b 0 ≠ Er.b 0) from fun h => h rfl)]
    have w1 : IntKind.i64.wrap (((pre ++ rest).length : Int) - (pre.length : Int)) = (rest.length : Int) := by
      rw [List.length_append, w64 (by omega) (by omega)]; omega
    rw [w1]
    by_cases hc : rest.length < n
    · rw [if_pos (by omega), if_pos hc]
      exact ⟨_, rfl, pre, rfl, by rw [List.length_append]; exact hl, hbs⟩
    · rw [if_neg (by omega), if_neg hc]
      have w2 : IntKind.i64.wrap ((pre.length : Int) + (n : Int)) = ((pre.length + n : Nat) : Int) := by rw [w64 (by omega) (by omega)]; omega
      have w3 : IntKind.i64.wrap (((pre.length + n : Nat) : Int) - (n : Int)) = (pre.length : Int) := by rw [w64 (by omega) (by omega)]; omega
      rw [w2, w3, if_pos (by rw [List.length_append]; omega), Int.toNat_natCast, Int.toNat_natCast]
      have e1 : ((pre ++ rest).take (pre.length + n)).drop pre.length = rest.take n := by
        rw [List.take_append, List.take_of_length_le (by omega), Nat.add_sub_cancel_left, List.drop_left' rfl]
      rw [e1]
      refine ⟨_, rfl, pre ++ rest.take n, ?_, ?_, hbs.drop n⟩
      · rw [List.append_assoc, List.take_append_drop, List.length_append, List.length_take, Nat.min_eq_left (by omega)]
      · rw [List.append_assoc, List.take_append_drop, List.length_append]; exact hl
  · rw [if_pos he, if_pos he]
    exact ⟨_, rfl, pre, rfl, by rw [List.length_append]; exact hl, hbs⟩
theorem left_eq {r : compactReader} {s : List Int × Er} (h : Rep r s) : compact_Reader_Left.f r = some (s.1.length : Int) := by
  obtain ⟨pre, rfl, hl, hbs⟩ := h
  rw [List.length_append] at hl
  simp only [compact_Reader_Left.f]
  rw [List.length_append, w64 (by omega) (by omega)]
  congr 1
  omega
theorem err_eq {r : compactReader} {s : List Int × Er} (h : Rep r s) : compact_Reader_Err.f r = some s.2 := by
  obtain ⟨pre, rfl, hl, hbs⟩ := h
  rfl
theorem rep_err {r : compactReader} {s : List Int × Er} (h : Rep r s) : r.err = s.2 := by
  obtain ⟨pre, rfl, hl, hbs⟩ := h
  rfl
theorem read_eq {b : List Int} (hb : Bs b) (hl : b.length ≤ 1000000) : ∃ r, compact_Read.f b = some r ∧ Rep r (b, .b 0) := by
  simp only [compact_Read.f, bytes_Clone.f]
  rw [if_pos (by omega), Option.bind_some]
  exact ⟨_, rfl, [], rfl, by simpa using hl, hb⟩
def wh (n : Nat) (s : List Int × Er) : Nat × (List Int × Er) := (vl (nx n s).1, (nx n s).2)
theorem vl_step (l : List Int) (hb : Bs l) (i : Nat) (hi : i < l.length) (h8 : l.length ≤ 8) : bOr .u64 ((vl (l.take i) : Nat) : Int) (sL .u64 (IntKind.u64.wrap (l.getD i 0)) ((8 * i : Nat) : Int)) = ((vl (l.take (i + 1)) : Nat) : Int) := by
  have hm : l.getD i 0 ∈ l := by
    have e : l.getD i 0 = l[i] := by simp [List.getD, hi]
    rw [e]; exact List.getElem_mem hi
  obtain ⟨h2, h3⟩ := hb _ hm
  have hlt := vl_lt (hb.take i)
  rw [List.length_take, Nat.min_eq_left (by omega)] at hlt
  rw [← take_next l i 0 hi, vl_snoc, List.length_take, Nat.min_eq_left (by omega), wu64 (by omega) (by omega)]
  have e : l.getD i 0 = (((l.getD i 0).toNat : Nat) : Int) := by omega
  have := or_shift (vl (l.take i)) (l.getD i 0).toNat i hlt (by omega) (by omega)
  rw [← e] at this
  exact this
theorem whole_eq {r : compactReader} {s : List Int × Er} (h : Rep r s) (n : Nat) (hn : n ≤ 8) : ∃ r', compact_Reader_whole.f r (n : Int) = some (((wh n s).1 : Int), r') ∧ Rep r' (wh n s).2 := by
  obtain ⟨r', h1, h2⟩ := next_eq h n
  have hb := (nx_bs (n := n) (show Bs s.1 from h.elim fun _ h => h.2.2)).1
  have hlen := nx_len n s
  refine ⟨r', ?_, h2⟩
  simp only [compact_Reader_whole.f, wh]
  rw [h1, Option.bind_some]
  generalize (nx n s).1 = l at *
  have hl : loopO (compact_Reader_whole.s0 (l, r')) (0, 0) = some ((vl l : Int), r'.b, r'.at_, r'.err) := by
    refine loop_run (fun i => (((vl (l.take i) : Nat) : Int), (i : Int))) l.length (by simp [vl]) (fun i hi => ?_) ?_
    · simp only [compact_Reader_whole.s0, Int.toNat_natCast]
      have w8 : IntKind.i64.wrap (8 * (i : Int)) = ((8 * i : Nat) : Int) := by rw [w64 (by omega) (by omega)]; omega
      rw [if_pos (by omega), if_pos (by omega), w8, if_pos (by omega), winc i (by omega), vl_step l hb i hi (by omega)]
    · simp only [compact_Reader_whole.s0]
      rw [if_neg (by omega), List.take_length]
  rw [hl, Option.bind_some]
def ln (n : Nat) : Nat := if n < 253 then 1 else if n < 65536 then 3 else if n < 4294967296 then 5 else 9
theorem len_eq (n : Nat) : compact_Len.f (n : Int) = some (ln n : Int) := by
  simp only [compact_Len.f, ln]
  by_cases h1 : n < 253
  · rw [if_pos (by omega), if_pos h1]; rfl
  · rw [if_neg (by omega), if_neg h1]
    by_cases h2 : n < 65536
    · rw [if_pos (by omega), if_pos h2]; rfl
    · rw [if_neg (by omega), if_neg h2]
      by_cases h3 : n < 4294967296
      · rw [if_pos (by omega), if_pos h3]; rfl
      · rw [if_neg (by omega), if_neg h3]; rfl
def my (n : Nat) : Nat := if n = 253 then 2 else if n = 254 then 4 else if n = 255 then 8 else 0
def nm (most : Int) (s : List Int × Er) : Nat × (List Int × Er) :=
  let a := wh 1 s
  let b := if 0 < my a.1 then wh (my a.1) a.2 else a
  if b.2.2 ≠ .b 0 then (0, b.2) else if ln b.1 ≠ 1 + my a.1 then (0, (b.2.1, xErrShape)) else if most < (b.1 : Int) then (0, (b.2.1, xErrMany)) else b
theorem my_le (n : Nat) : my n ≤ 8 := by unfold my; split <;> (try split) <;> (try split) <;> omega
theorem num_eq {r : compactReader} {s : List Int × Er} (h : Rep r s) (most : Int) : ∃ r', compact_Reader_Num.f r most = some (((nm most s).1 : Int), r') ∧ Rep r' (nm most s).2 := by
  obtain ⟨r1, h1, h2⟩ := whole_eq h 1 (by omega)
  simp only [compact_Reader_Num.f, nm]
  rw [show ((1 : Nat) : Int) = 1 from rfl] at h1
  rw [h1, Option.bind_some]
  generalize wh 1 s = a at *
  obtain ⟨a1, a2⟩ := a
  simp only at h1 h2 ⊢
  have hmy : (if (a1 : Int) = 253 then some (2 : Int) else if (a1 : Int) = 254 then some 4 else if (a1 : Int) = 255 then some 8 else some 0) = some ((my a1 : Nat) : Int) := by
    unfold my
    by_cases c1 : a1 = 253
    · rw [if_pos (by omega), if_pos c1]; rfl
    · rw [if_neg (by omega), if_neg c1]
      by_cases c2 : a1 = 254
      · rw [if_pos (by omega), if_pos c2]; rfl
      · rw [if_neg (by omega), if_neg c2]
        by_cases c3 : a1 = 255
        · rw [if_pos (by omega), if_pos c3]; rfl
        · rw [if_neg (by omega), if_neg c3]; rfl
  rw [hmy, Option.bind_some]
  have hmid : ∃ r2, (if 0 < ((my a1 : Nat) : Int) then (compact_Reader_whole.f r1 ((my a1 : Nat) : Int)).bind fun r2 => some (r2.1, r2.2.b, r2.2.at_, r2.2.err) else some ((a1 : Int), r1.b, r1.at_, r1.err)) = some ((((if 0 < my a1 then wh (my a1) a2 else (a1, a2)).1 : Nat) : Int), r2.b, r2.at_, r2.err) ∧ Rep r2 (if 0 < my a1 then wh (my a1) a2 else (a1, a2)).2 := by
    by_cases hp : 0 < my a1
    · obtain ⟨r2, h3, h4⟩ := whole_eq h2 (my a1) (my_le a1)
      rw [if_pos (by omega), if_pos hp, h3, Option.bind_some]
      exact ⟨r2, rfl, h4⟩
    · rw [if_neg (by omega), if_neg hp]
      exact ⟨r1, rfl, h2⟩
  obtain ⟨r2, h3, h4⟩ := hmid
  rw [h3, Option.bind_some]
  generalize (if 0 < my a1 then wh (my a1) a2 else (a1, a2)) = b at *
  obtain ⟨b1, b2⟩ := b
  simp only at h4 ⊢
  have he := rep_err h4
  have hw : IntKind.i64.wrap (1 + ((my a1 : Nat) : Int)) = ((1 + my a1 : Nat) : Int) := by have := my_le a1; rw [w64 (by omega) (by omega)]; omega
  rw [he, len_eq, Option.bind_some, hw]
  obtain ⟨pre, e1, hl, hbs⟩ := h4
  by_cases c1 : b2.2 = .b 0
  · rw [if_neg (show ¬ (b2.2 ≠ .b 0) from fun h => h c1), if_neg (show ¬ (b2.2 ≠ .b 0) from fun h => h c1)]
    by_cases c2 : ln b1 = 1 + my a1
    · rw [if_neg (show ¬ (((ln b1 : Nat) : Int) ≠ ((1 + my a1 : Nat) : Int)) from fun h => h (by rw [c2])), if_neg (show ¬ (ln b1 ≠ 1 + my a1) from fun h => h c2)]
      by_cases c3 : most < (b1 : Int)
      · rw [if_pos c3, if_pos c3]
        exact ⟨_, rfl, pre, by rw [e1], hl, hbs⟩
      · rw [if_neg c3, if_neg c3]
        exact ⟨_, rfl, pre, by rw [e1], hl, hbs⟩
    · rw [if_pos (by omega), if_pos c2]
      exact ⟨_, rfl, pre, by rw [e1], hl, hbs⟩
  · rw [if_pos c1, if_pos c1]
    exact ⟨_, rfl, pre, by rw [e1], hl, hbs⟩
theorem rfour_eq {r : compactReader} {s : List Int × Er} (h : Rep r s) : ∃ r', compact_Reader_Four.f r = some (((wh 4 s).1 : Int), r') ∧ Rep r' (wh 4 s).2 := by
  obtain ⟨r1, h1, h2⟩ := whole_eq h 4 (by omega)
  refine ⟨r1, ?_, h2⟩
  simp only [compact_Reader_Four.f]
  rw [show ((4 : Nat) : Int) = 4 from rfl] at h1
  have hlt : (wh 4 s).1 < 4294967296 := by
    have h3 := vl_lt (nx_bs (n := 4) (show Bs s.1 from h.elim fun _ h => h.2.2)).1
    have h4 := nx_len 4 s
    have : 256 ^ (nx 4 s).1.length ≤ 256 ^ 4 := Nat.pow_le_pow_right (by decide) h4
    simp only [wh]
    omega
  rw [h1, Option.bind_some, wu32 (by omega) (by omega)]
theorem reight_eq {r : compactReader} {s : List Int × Er} (h : Rep r s) : ∃ r', compact_Reader_Eight.f r = some (((wh 8 s).1 : Int), r') ∧ Rep r' (wh 8 s).2 := by
  obtain ⟨r1, h1, h2⟩ := whole_eq h 8 (by omega)
  refine ⟨r1, ?_, h2⟩
  simp only [compact_Reader_Eight.f]
  rw [show ((8 : Nat) : Int) = 8 from rfl] at h1
  rw [h1, Option.bind_some]
def by_ (n : Int) (s : List Int × Er) : List Int × (List Int × Er) := if n ≤ 0 then ([], s) else nx n.toNat s
theorem rbytes_eq {r : compactReader} {s : List Int × Er} (h : Rep r s) (n : Int) : ∃ r', compact_Reader_Bytes.f r n = some ((by_ n s).1, r') ∧ Rep r' (by_ n s).2 := by
  simp only [compact_Reader_Bytes.f, by_]
  by_cases h0 : n ≤ 0
  · rw [if_pos h0, if_pos h0]
    exact ⟨r, rfl, h⟩
  · rw [if_neg h0, if_neg h0]
    obtain ⟨r1, h1, h2⟩ := next_eq h n.toNat
    rw [Int.toNat_of_nonneg (by omega)] at h1
    have h3 : (nx n.toNat s).1.length ≤ 1000000 := by
      obtain ⟨pre, _, h4, _⟩ := h
      rw [List.length_append] at h4
      unfold nx
      split
      · simp
      · split
        · simp
        · simp; omega
    refine ⟨r1, ?_, h2⟩
    rw [h1, Option.bind_some]
    simp only [bytes_Clone.f]
    rw [if_pos (by omega), Option.bind_some]
end Go.Proofs.YtpeelghbhihgkaaDoor.T
namespace Go.Proofs.YtpeelghbhihgkaaDoor.T
open Go Go.Proofs Go.Proofs.YtpeelghbhihgkaaDoor.K
set_option linter.unusedVariables false
set_option linter.unusedSimpArgs false
def pt (n : Nat) : List Int := if n < 253 then lb n 1 else if n < 65536 then 253 :: lb n 2 else if n < 4294967296 then 254 :: lb n 4 else 255 :: lb n 8
theorem pt_len (n : Nat) : (pt n).length = ln n := by
  unfold pt ln
  split
  · simp [lb_len]
  · split
    · simp [lb_len]
    · split <;> simp [lb_len]
theorem ln_le (n : Nat) : 1 ≤ ln n ∧ ln n ≤ 9 := by unfold ln; split <;> (try split) <;> (try split) <;> omega
theorem bs_pt (n : Nat) : Bs (pt n) := by
  have hc : ∀ (x : Int) (l : List Int), InR .u8 x → Bs l → Bs (x :: l) := fun x l hx hl y hy => by
    rcases List.mem_cons.1 hy with rfl | hy
    · exact hx
    · exact hl y hy
  unfold pt
  split
  · exact bs_lb _ _
  · split
    · exact hc _ _ (by simp [InR]) (bs_lb _ _)
    · split
      · exact hc _ _ (by simp [InR]) (bs_lb _ _)
      · exact hc _ _ (by simp [InR]) (bs_lb _ _)
theorem lb_one (n : Nat) : lb n 1 = [((n % 256 : Nat) : Int)] := by simp [lb, List.range_succ]
theorem put_eq (b : List Int) (n : Nat) (hn : n < 18446744073709551616) (hl : b.length ≤ 1000000) : compact_Put.f b (n : Int) = some (b ++ pt n) := by
  simp only [compact_Put.f, bytes_Clone.f]
  rw [if_pos (by omega), Option.bind_some, len_eq, Option.bind_some]
  unfold ln pt
  by_cases h1 : n < 253
  · rw [if_pos h1, if_pos h1, if_pos (by rfl), if_pos (by omega), u8e, lb_one]
    congr 3
  · rw [if_neg h1, if_neg h1]
    by_cases h2 : n < 65536
    · have := number_eq' (b ++ [253]) n 2 (by omega) (by simp; omega)
      rw [show ((2 : Nat) : Int) = 2 from rfl] at this
      rw [if_pos h2, if_pos h2, if_neg (by decide), if_pos (by rfl), if_pos (by omega), this, Option.bind_some, List.append_assoc]; rfl
    · rw [if_neg h2, if_neg h2]
      by_cases h3 : n < 4294967296
      · have := number_eq' (b ++ [254]) n 4 (by omega) (by simp; omega)
        rw [show ((4 : Nat) : Int) = 4 from rfl] at this
        rw [if_pos h3, if_pos h3, if_neg (by decide), if_neg (by decide), if_pos (by rfl), if_pos (by omega), this, Option.bind_some, List.append_assoc]; rfl
      · have := number_eq' (b ++ [255]) n 8 (by omega) (by simp; omega)
        rw [show ((8 : Nat) : Int) = 8 from rfl] at this
        rw [if_neg h3, if_neg h3, if_neg (by decide), if_neg (by decide), if_neg (by decide), if_pos (by omega), this, Option.bind_some, List.append_assoc]; rfl
theorem eight_eq (b : List Int) (a : Nat) (hl : b.length ≤ 1000000) : compact_Eight.f b (a : Int) = some (b ++ lb a 8) := by
  have := number_eq' b a 8 (by omega) (by omega)
  simp only [compact_Eight.f, bytes_Clone.f]
  rw [if_pos (by omega), Option.bind_some]
  rw [show ((8 : Nat) : Int) = 8 from rfl] at this
  rw [this, Option.bind_some]
theorem first2 : sargassolaw2_first.f = some true := by
  simp only [sargassolaw2_first.f]
  have h := put_eq [] 253 (by omega) (by simp)
  rw [show ((253 : Nat) : Int) = 253 from rfl] at h
  have h1 := len_eq 1
  rw [show ((1 : Nat) : Int) = 1 from rfl] at h1
  rw [h, Option.bind_some, h1]
  rfl
theorem nx_app {n : Nat} {l t : List Int} (h : l.length = n) : nx n (l ++ t, .b 0) = (l, (t, .b 0)) := by
  unfold nx
  rw [if_neg (fun h => h rfl), if_neg (by simp; omega)]
  simp only
  rw [List.take_left' h, List.drop_left' h]
theorem wh_app {n : Nat} {l t : List Int} (h : l.length = n) : wh n (l ++ t, .b 0) = (vl l, (t, .b 0)) := by rw [wh, nx_app h]
theorem wh_lb {n a : Nat} {t : List Int} (h : a < 256 ^ n) : wh n (lb a n ++ t, .b 0) = (a, (t, .b 0)) := by rw [wh_app (lb_len a n), vl_lb, Nat.mod_eq_of_lt h]
theorem wh_cons {b : Int} {t : List Int} : wh 1 (b :: t, .b 0) = (b.toNat, (t, .b 0)) := by
  have := wh_app (n := 1) (l := [b]) (t := t) rfl
  simpa [vl] using this
theorem nm_big (most : Int) (f : Int) (k : Nat) (t : List Int) (hk : my f.toNat = k) (h0 : 0 < k) : nm most (f :: t, .b 0) = (let b := wh k (t, .b 0); if b.2.2 ≠ .b 0 then (0, b.2) else if ln b.1 ≠ 1 + k then (0, (b.2.1, xErrShape)) else if most < (b.1 : Int) then (0, (b.2.1, xErrMany)) else b) := by
  unfold nm
  rw [wh_cons]
  simp only
  rw [hk, if_pos h0]
theorem nm_pt (most : Int) (n : Nat) (hn : n < 18446744073709551616) (t : List Int) : nm most (pt n ++ t, .b 0) = if most < (n : Int) then (0, (t, xErrMany)) else (n, (t, .b 0)) := by
  have big : ∀ (f : Int) (k : Nat), my f.toNat = k → 0 < k → ln n = 1 + k → n < 256 ^ k → nm most ((f :: lb n k) ++ t, .b 0) = if most < (n : Int) then (0, (t, xErrMany)) else (n, (t, .b 0)) := fun f k h1 h2 h3 h4 => by
    rw [List.cons_append, nm_big most f k _ h1 h2]
    simp only
    rw [wh_lb h4]
    simp only
    rw [if_neg (fun h => h rfl), if_neg (fun h => h h3)]
  unfold pt
  by_cases h1 : n < 253
  · rw [if_pos h1, lb_one]
    unfold nm
    rw [List.singleton_append, wh_cons, Int.toNat_natCast, Nat.mod_eq_of_lt (by omega)]
    have e : my n = 0 := by unfold my; rw [if_neg (by omega), if_neg (by omega), if_neg (by omega)]
    simp only
    rw [e, if_neg (Nat.lt_irrefl 0)]
    simp only
    rw [if_neg (fun h => h rfl), if_neg (fun h => h (by unfold ln; rw [if_pos h1]))]
  · rw [if_neg h1]
    by_cases h2 : n < 65536
    · rw [if_pos h2]; exact big 253 2 rfl (by omega) (by unfold ln; rw [if_neg h1, if_pos h2]) (by omega)
    · rw [if_neg h2]
      by_cases h3 : n < 4294967296
      · rw [if_pos h3]; exact big 254 4 rfl (by omega) (by unfold ln; rw [if_neg h1, if_neg h2, if_pos h3]) (by omega)
      · rw [if_neg h3]; exact big 255 8 rfl (by omega) (by unfold ln; rw [if_neg h1, if_neg h2, if_neg h3]) (by omega)
end Go.Proofs.YtpeelghbhihgkaaDoor.T
namespace Go.Proofs.YtpeelghbhihgkaaDoor.T
open Go Go.Proofs Go.Proofs.YtpeelghbhihgkaaDoor.K
set_option linter.unusedVariables false
set_option linter.unusedSimpArgs false
def enc (i x : Nat) : List Int := if i % 3 = 0 then pt x else if i % 3 = 1 then lb (x % 4294967296) 4 else lb x 8
theorem enc_len (i x : Nat) : (enc i x).length ≤ 9 := by
  unfold enc
  split
  · rw [pt_len]; exact (ln_le x).2
  · split <;> rw [lb_len] <;> omega
theorem bs_enc (i x : Nat) : Bs (enc i x) := by
  unfold enc
  split
  · exact bs_pt _
  · split <;> exact bs_lb _ _
theorem sargassolaw2_CompactRows.m (μ : Store) (x0 : List Int) (v0 : Value) (h0 : Slc (RI .u64) 1 μ v0 x0) (x1 : List Int) (v1 : Value) (h1 : Slc (RI .u8) 1 μ v1 x1) : sargassolaw2_CompactRows.f x0 x1 = some true := by
  simp only [sargassolaw2_CompactRows.f, first2, Option.bind_some, if_true]
  by_cases hc : 30 < (x0.length : Int)
  · rw [if_pos hc]; rfl
  by_cases hd : 30 < (x1.length : Int)
  · rw [if_neg hc, Option.bind_some, if_pos (by rw [decide_eq_true hd])]
  rw [if_neg hc, Option.bind_some, if_neg (by rw [decide_eq_false hd]; decide)]
  have hin := slc_ints h0
  have hns : ∀ i, i < x0.length → ∃ a : Nat, x0.getD i 0 = (a : Int) ∧ a < 18446744073709551616 := fun i hi => by
    have e : x0.getD i 0 = x0[i] := by simp [List.getD, hi]
    obtain ⟨a, b⟩ := hin _ (List.getElem_mem hi)
    exact ⟨(x0[i]).toNat, by rw [e]; omega, by omega⟩
  let all := (List.range x0.length).map fun j => enc j (x0.getD j 0).toNat
  have hal : all.length = x0.length := by simp [all]
  have hget : ∀ i, i < x0.length → all.getD i [] = enc i (x0.getD i 0).toNat := fun i hi => by simp [all, List.getD, hi]
  have hlen : ∀ i, i ≤ x0.length → (all.take i).flatten.length ≤ 9 * i := by
    intro i
    induction i with
    | zero => intro _; simp
    | succ i ih =>
      intro hi
      have h2 := ih (by omega)
      have h3 := enc_len i (x0.getD i 0).toNat
      rw [← take_next all i [] (by omega), List.flatten_append, List.length_append, hget i (by omega)]
      simp only [List.flatten_cons, List.flatten_nil, List.append_nil]
      omega
  have hmod : ∀ i : Nat, Int.tmod (i : Int) 3 = ((i % 3 : Nat) : Int) := fun i => by rw [Int.tmod_eq_emod_of_nonneg (by omega)]; omega
  have l1 : loopO (sargassolaw2_CompactRows.s0 x0) ([], 0) = some all.flatten := by
    refine loop_run (fun i => ((all.take i).flatten, (i : Int))) x0.length (by simp) (fun i hi => ?_) ?_
    · obtain ⟨a, ea, ha⟩ := hns i hi
      have hl := hlen i (by omega)
      have hx : (x0.getD i 0).toNat = a := by omega
      simp only [sargassolaw2_CompactRows.s0, Int.toNat_natCast]
      rw [if_pos (by omega), hmod, ← take_next all i [] (by omega), List.flatten_append, hget i hi, hx, ea, winc i (by omega)]
      simp only [List.flatten_cons, List.flatten_nil, List.append_nil]
      unfold enc
      by_cases c0 : i % 3 = 0
      · rw [if_pos (by omega), if_pos (by omega), put_eq _ a ha (by omega), Option.bind_some, Option.bind_some, if_pos c0]
      · rw [if_neg (by omega), if_neg c0]
        by_cases c1 : i % 3 = 1
        · have e32 : IntKind.u32.wrap (a : Int) = ((a % 4294967296 : Nat) : Int) := by simp [IntKind.wrap, IntKind.signed, IntKind.bits]
          rw [if_pos (by omega), if_pos (by omega), e32, four_eq _ _ (by omega) (by omega), Option.bind_some, Option.bind_some, if_pos c1]
        · rw [if_neg (by omega), if_pos (by omega), eight_eq _ a (by omega), Option.bind_some, Option.bind_some, if_neg c1]
    · simp only [sargassolaw2_CompactRows.s0]
      rw [if_neg (by omega), ← hal, List.take_length]
  have hfl : all.flatten.length ≤ 270 := by
    have := hlen x0.length (Nat.le_refl _)
    rw [← hal, List.take_length] at this
    omega
  have hball : Bs all.flatten := fun x hx => by
    obtain ⟨l, hl, hxl⟩ := List.mem_flatten.1 hx
    obtain ⟨j, _, rfl⟩ := List.mem_map.1 hl
    exact bs_enc _ _ x hxl
  rw [l1, Option.bind_some, if_pos (by omega)]
  obtain ⟨r, er, pr⟩ := read_eq (b := all.flatten ++ x1) (hball.app (bs_slc h1)) (by rw [List.length_append]; omega)
  rw [er, Option.bind_some]
  refine loop_exists (fun i s => s.1 = (i : Int) ∧ Rep ⟨s.2.1, s.2.2.1, s.2.2.2⟩ ((all.drop i).flatten ++ x1, .b 0)) x0.length ⟨rfl, pr⟩ ?_ ?_
  · rintro i hi ⟨s1, s2, s3, s4⟩ ⟨h2, h3⟩
    simp only at h2 h3
    subst h2
    obtain ⟨a, ea, ha⟩ := hns i hi
    have hx : (x0.getD i 0).toNat = a := by omega
    have hdr : (all.drop i).flatten ++ x1 = enc i a ++ ((all.drop (i + 1)).flatten ++ x1) := by
      have hi2 : i < all.length := by omega
      have e1 : all[i] = enc i a := by
        have := hget i hi
        rw [hx] at this
        rw [← this]; simp [List.getD, hi2]
      rw [List.drop_eq_getElem_cons hi2, List.flatten_cons, e1, List.append_assoc]
    rw [hdr] at h3
    simp only [sargassolaw2_CompactRows.s1, Int.toNat_natCast]
    rw [if_pos (by omega), hmod, winc i (by omega)]
    simp only [ea]
    unfold enc at h3
    by_cases c0 : i % 3 = 0
    · rw [if_pos c0] at h3
      obtain ⟨r6, e6, p6⟩ := num_eq h3 18446744073709551615
      rw [nm_pt _ a ha, if_neg (by omega)] at e6 p6
      rw [if_pos (by omega), if_pos (by omega), e6, Option.bind_some, Option.bind_some]
      simp only
      rw [if_pos (by simp)]
      exact ⟨_, rfl, rfl, p6⟩
    · rw [if_neg c0] at h3
      rw [if_neg (by omega)]
      by_cases c1 : i % 3 = 1
      · rw [if_pos c1] at h3
        have e32 : IntKind.u32.wrap (a : Int) = ((a % 4294967296 : Nat) : Int) := by simp [IntKind.wrap, IntKind.signed, IntKind.bits]
        obtain ⟨r6, e6, p6⟩ := rfour_eq h3
        rw [wh_lb (by omega)] at e6 p6
        rw [if_pos (by omega), if_pos (by omega), e6, Option.bind_some, Option.bind_some, e32]
        simp only
        rw [if_pos (by simp)]
        exact ⟨_, rfl, rfl, p6⟩
      · rw [if_neg c1] at h3
        obtain ⟨r6, e6, p6⟩ := reight_eq h3
        rw [wh_lb (by omega)] at e6 p6
        rw [if_neg (by omega), if_pos (by omega), e6, Option.bind_some, Option.bind_some]
        simp only
        rw [if_pos (by simp)]
        exact ⟨_, rfl, rfl, p6⟩
  · rintro ⟨s1, s2, s3, s4⟩ ⟨h2, h3⟩
    simp only at h2 h3
    subst h2
    rw [← hal, List.drop_length, List.flatten_nil, List.nil_append] at h3
    simp only [sargassolaw2_CompactRows.s1]
    obtain ⟨r10, e10, p10⟩ := rbytes_eq h3 (x1.length : Int)
    have hb : by_ (x1.length : Int) (x1, .b 0) = (x1, ([], .b 0)) := by
      unfold by_
      split
      · have : x1 = [] := List.eq_nil_of_length_eq_zero (by omega)
        rw [this]
      · rw [Int.toNat_natCast]
        have := nx_app (n := x1.length) (l := x1) (t := []) rfl
        rwa [List.append_nil] at this
    rw [hb] at e10 p10
    rw [if_neg (by omega), left_eq h3, Option.bind_some, if_pos rfl, if_pos trivial, e10, Option.bind_some, show sargassoref_SameBytes.f x1 x1 = some true from samebytes_eq _ (by omega), Option.bind_some, if_pos rfl, err_eq p10, Option.bind_some, if_pos rfl, left_eq p10, Option.bind_some, Option.bind_some]
    rfl
end Go.Proofs.YtpeelghbhihgkaaDoor.T
namespace Go.Proofs.YtpeelghbhihgkaaDoor.K
open Go Go.Proofs Go.ChangeShapes Go.WideShapes Go.RowKit
def mem (w : World) : Store := fun k => w.heap[k]?
theorem agr_mem (w : World) : Agr (mem w) w := fun _ _ h => h
theorem mem_cell {w : World} {g i : Nat} {v : Value} (h : w.cell? ⟨g, i, none⟩ = some v) : (mem w).cell g i = some v := by
  unfold World.cell? at h
  unfold Store.cell mem
  cases hm : w.heap[g]? with
  | none => simp [hm] at h
  | some o => cases o <;> simp_all
theorem wf_in {k : IntKind} {n : Int} (h : (Lit.int k n).wf = true) : InR k n := by
  cases k <;> simp [Lit.wf, IntKind.min, IntKind.max, IntKind.signed, IntKind.bits] at h <;> simp [InR] <;> omega
section
variable {H : Type} {enc : TypeId × Value → H} {P : Program} {w : World} {base : Nat} {spare : Nat → Bool} {held : Bool} {t e : TypeId}
def Rd (enc : TypeId × Value → H) (P : Program) (w : World) (base : Nat) (spare : Nat → Bool) (held : Bool) (t : TypeId) (R : List Value → Prop) : Prop :=
  ∀ fuel cs x, DataW.trod enc P w base spare held fuel t cs = some x → R cs
theorem rd_int {k : IntKind} (ht : P.underlying t = some (.int k)) : Rd enc P w base spare held t (fun c => ∃ n, RI k n c) := by
  intro fuel cs x h
  obtain ⟨n, rfl, _, hw⟩ := DataW.trod_int ht h
  exact ⟨n, rfl, wf_in hw⟩
theorem els_of {α : Type} {RE : α → List Value → Prop} {sz : Nat} : ∀ {n : Nat} {Q : Nat → Value → Prop}, (∀ i, i < n → ∃ x c, RE x c ∧ c.length = sz ∧ ∀ j v, c[j]? = some v → Q (i * sz + j) v) →
    ∃ xs cs, xs.length = n ∧ Els RE sz xs cs ∧ ∀ j v, cs[j]? = some v → Q j v
  | 0, _, _ => ⟨[], [], rfl, .nil, fun j v h => by simp at h⟩
  | n + 1, Q, f => by
    obtain ⟨x, c, h1, h2, h3⟩ := f 0 (by omega)
    obtain ⟨xs, cs, e1, e2, e3⟩ := els_of (n := n) (Q := fun m v => Q (sz + m) v) (fun i hi => by
      obtain ⟨x, c, h1, h2, h3⟩ := f (i + 1) (by omega)
      refine ⟨x, c, h1, h2, fun j v hj => ?_⟩
      have := h3 j v hj
      rwa [Nat.add_mul, Nat.one_mul, Nat.add_comm (i * sz), Nat.add_assoc] at this)
    refine ⟨x :: xs, c ++ cs, by simp [e1], .cons h1 h2 e2, fun j v hj => ?_⟩
    rcases Nat.lt_or_ge j c.length with h | h
    · rw [List.getElem?_append_left h] at hj
      simpa using h3 j v hj
    · rw [List.getElem?_append_right h] at hj
      have := e3 _ _ hj
      rwa [h2, Nat.add_sub_cancel' (by omega)] at this
theorem rd_slice {α : Type} {RE : α → List Value → Prop} {sz : Nat} (ht : P.underlying t = some (.slice e)) (hc : P.cellsOf e = sz) (h0 : 0 < sz) (hr : Rd enc P w base spare held e (fun c => ∃ x, RE x c)) :
    Rd enc P w base spare held t (fun c => ∃ v xs, c = [v] ∧ Slc RE sz (mem w) v xs) := by
  intro fuel cs x h
  rcases DataW.trod_slice ht h with ⟨rfl, _⟩ | ⟨a, len, cap, elems, rest, n, _, rfl, _, _, hl, hm, hlen, hel, _, _⟩
  · exact ⟨_, [], rfl, [], .nil, none, 0, rfl, Nat.le_refl _, Nat.zero_le _, fun h => absurd rfl h, fun h => absurd rfl h⟩
  have each0 : ∀ i, i < len → ∃ x c, RE x c ∧ c.length = sz ∧ ∀ j, j < sz → w.cell? ((a.add (i * sz)).add j) = c[j]? := by
    intro i hi
    have h1 := hel i hi
    rw [List.getElem?_eq_getElem (by omega), hc] at h1
    obtain ⟨c, hc1, hc2⟩ := Option.bind_eq_some_iff.1 h1
    obtain ⟨_, l1, l2⟩ := World.cells?_some hc1
    obtain ⟨x, hx⟩ := hr _ _ _ hc2
    exact ⟨x, c, hx, l1, l2⟩
  have hs : 0 < len → a.spot = none := by
    intro hp
    obtain ⟨x, c, _, l1, l2⟩ := each0 0 hp
    have h2 := (l2 0 h0).trans (List.getElem?_eq_getElem (by omega))
    simpa [Addr.add] using World.cell?_spot h2
  obtain ⟨b, off, spot⟩ := a
  simp only at hs
  have each : ∀ i, i < len → ∃ x c, RE x c ∧ c.length = sz ∧ ∀ j v, c[j]? = some v → (fun m v => w.cell? ⟨b, off + m, none⟩ = some v) (i * sz + j) v := by
    intro i hi
    obtain ⟨x, c, hx, l1, l2⟩ := each0 i hi
    refine ⟨x, c, hx, l1, fun j v hj => ?_⟩
    have hjl : j < sz := by
      have := (List.getElem?_eq_some_iff.1 hj).1
      omega
    have h2 := (l2 j hjl).trans hj
    rw [hs (by omega), add_plain, add_plain] at h2
    simpa [Nat.add_assoc] using h2
  obtain ⟨xs, cs, e1, e2, e3⟩ := els_of (RE := RE) (sz := sz) (Q := fun m v => w.cell? ⟨b, off + m, none⟩ = some v) each
  refine ⟨_, xs, rfl, cs, e2, some ⟨b, off, spot⟩, cap, by rw [e1], by omega, hm, fun hn => by rw [hs (by omega)]; rfl, fun hn j v hj => mem_cell (e3 j v hj)⟩
theorem rd_at {R : List Value → Prop} {v : Value} {d : DataW H} {ps : List MemPlace} (hr : Rd enc P w base spare held t R) (h : DataW.Trod enc P w base spare held t v d ps) : R v.cells.toList := by
  obtain ⟨fuel, hf⟩ := h
  exact hr _ _ _ hf
theorem at_slice {α : Type} {RE : α → List Value → Prop} {sz : Nat} {r : Reach} {b0 : Nat} {v : Value} {d : DataW H} {ps : List MemPlace} (ht : P.underlying t = some (.slice e)) (hval : Value.okWide P w r b0 t v)
    (hr : Rd enc P w base spare held t (fun c => ∃ v xs, c = [v] ∧ Slc RE sz (mem w) v xs)) (h : DataW.Trod enc P w base spare held t v d ps) : ∃ xs, Slc RE sz (mem w) v xs := by
  obtain ⟨a, len, cap, rfl⟩ := okWide_slice ht hval
  obtain ⟨u, xs, e1, h2⟩ := rd_at hr h
  simp [Value.cells] at e1
  subst e1
  exact ⟨xs, h2⟩
theorem again {W W' : World} {v : Value} {d : DataW H} {ps : List MemPlace} (hl : laidOutB P = true) (hr : P.readableRec t = true) (hrow : t < P.types.size) (h : DataW.Trod enc P W 0 (fun _ => true) true t v d ps) (hb : Below W.heap.size W W') :
    DataW.Trod enc P W' 0 (fun b => decide (b < W.heap.size)) true t v d ps :=
  Below.trod hl hr hrow h hb (fun p hp => let ⟨n, hn⟩ := h; DataW.trod_lt n _ _ _ hn p hp)
end
end Go.Proofs.YtpeelghbhihgkaaDoor.K
namespace Go.Proofs.YtpeelghbhihgkaaDoor.K
open Go Go.Proofs
set_option linter.unusedVariables false
theorem laid_each {P : Program} {W : World} : ∀ {l : List (String × DataW Unit)} {ps : List MemPlace}, DataW.LaidVars P W l ps → ∀ {n : String} {d : DataW Unit}, (n, d) ∈ l →
    ∃ g t cs fuel p, P.globalNamed n = some g ∧ (P.globals[g]?).map (·.type) = some t ∧ W.var? P n = some cs ∧ DataW.trod (fun _ => ()) P W 0 (fun _ => true) false fuel t cs.toList = some (d, p) ∧ ∀ x ∈ MemPlace.row ⟨g, 0, none⟩ cs.size ++ p, x ∈ ps
  | [], ps, h, n, d, hm => by cases hm
  | (m, e) :: r, ps, h, n, d, hm => by
    obtain ⟨g, t, cs, fuel, p, q, hg, ht, hv, hd, hr, rfl⟩ := h
    rcases List.mem_cons.1 hm with e1 | hm
    · cases e1
      exact ⟨g, t, cs, fuel, p, hg, ht, hv, hd, fun x hx => List.mem_append_left _ hx⟩
    · obtain ⟨g', t', cs', fuel', p', a1, a2, a3, a4, a5⟩ := laid_each hr hm
      exact ⟨g', t', cs', fuel', p', a1, a2, a3, a4, fun x hx => List.mem_append_right _ (a5 x hx)⟩
theorem sent_of_laid {P : Program} {W : World} {laid : List (String × DataW Unit)} {code : ByteArray → Nat} {n : String} {text : List UInt8} {g : Nat} {ti tp ta te ts : TypeId} {ms : Array (String × TypeId)} {f : Field}
    (h : laidMet P laid W) (hm : (n, .iface "*errors.errorString" (.ptr (.agg [.lit (.string text)]))) ∈ laid) (hg : P.globalNamed n = some g) (ht : (P.globals[g]?).map (·.type) = some ti)
    (hi : P.underlying ti = some (.interface ms)) (hrow : ∀ u, P.typeName? 3 u = some "*errors.errorString" → u = tp) (hp : P.underlying tp = some (.pointer te)) (he : P.underlying te = some (.struct #[f])) (hft : f.type = ts) (hfo : f.offset = 0) (hs : P.underlying ts = some .string) (hc : P.cellsOf te = 1) (hcs : P.cellsOf ts = 1)
    (hcode : ∀ s : ByteArray, s.data.toList = text → code s = g + 1) : ∃ v, ErV tp ta code (mem W) (.b (g + 1)) v := by
  obtain ⟨ps, hl, hnd, hrows⟩ := h
  obtain ⟨g', t', cs, fuel, p, a1, a2, a3, a4, a5⟩ := laid_each hl hm
  obtain rfl := Option.some.inj (hg.symm.trans a1)
  obtain rfl := Option.some.inj (ht.symm.trans a2)
  obtain ⟨l⟩ := cs
  have ok : ∀ u v, l = [.iface u v] → Value.okWide P W .any 0 u v := fun u v e => by
    subst e
    exact (hrows g 0 (a5 _ (by simp [MemPlace.row]))).2 u v (by simpa using World.var?_cell hg a3 0)
  obtain ⟨a, s, rfl, hcell, hst, hz, rfl⟩ := errorString_of_trod hi hrow hp he hft hfo hs hc hcs a4 ok
  obtain ⟨c, t, hb⟩ := (hrows a.block a.off (a5 _ (by simp [MemPlace.row]))).1
  refine ⟨.iface tp (.pointer (some a)), .inr ⟨by omega, mem_cell (by simpa using World.var?_cell hg a3 0), a, s, c, t, rfl, hb, hcode s hst, fun w hw => ?_⟩⟩
  have e : w.heap[a.block]? = W.heap[a.block]? := (hw _ _ hb).trans hb.symm
  unfold World.cell? at hcell ⊢
  rw [e]
  exact hcell
end Go.Proofs.YtpeelghbhihgkaaDoor.K
namespace Go.Proofs.YtpeelghbhihgkaaDoor.T
open Go Go.Proofs Go.Proofs.YtpeelghbhihgkaaDoor.K
set_option linter.unusedVariables false
set_option linter.unusedSimpArgs false
set_option maxRecDepth 100000
theorem own : ownKnob Tryd.prog.godebug = none := by kernel_rfl
noncomputable def low : Nat := (World.holding Tryd.prog default ⟨#[], #[], []⟩).heap.size
abbrev es0 : ByteArray := { data := #[110, 111, 116, 32, 97, 115, 32, 105, 116, 32, 104, 97, 115, 32, 116, 111, 32, 98, 101] }
abbrev es1 : ByteArray := { data := #[116, 111, 111, 32, 109, 97, 110, 121, 44, 32, 111, 114, 32, 116, 111, 111, 32, 102, 101, 119] }
abbrev es2 : ByteArray := { data := #[116, 111, 111, 32, 108, 111, 110, 103] }
abbrev es3 : ByteArray := { data := #[97, 32, 107, 101, 121, 32, 116, 104, 97, 116, 32, 100, 111, 101, 115, 32, 110, 111, 116, 32, 102, 105, 116] }
abbrev es4 : ByteArray := { data := #[97, 110, 32, 97, 109, 111, 117, 110, 116, 32, 116, 104, 97, 116, 32, 99, 97, 110, 39, 116, 32, 98, 101] }
abbrev es5 : ByteArray := { data := #[111, 110, 101, 32, 116, 104, 105, 110, 103, 32, 116, 119, 105, 99, 101] }
abbrev es6 : ByteArray := { data := #[97, 32, 110, 117, 109, 98, 101, 114, 32, 111, 117, 116, 32, 111, 102, 32, 105, 116, 115, 32, 114, 97, 110, 103, 101] }
abbrev es7 : ByteArray := { data := #[108, 101, 115, 115, 32, 99, 111, 109, 101, 115, 32, 105, 110, 32, 116, 104, 97, 110, 32, 103, 111, 101, 115, 32, 111, 117, 116] }
abbrev es8 : ByteArray := { data := #[105, 116, 32, 101, 110, 100, 115, 32, 116, 111, 111, 32, 101, 97, 114, 108, 121] }
abbrev es9 : ByteArray := { data := #[110, 111, 32, 102, 105, 114, 115, 116, 32, 116, 114, 97, 110, 115, 97, 99, 116, 105, 111, 110, 32, 119, 104, 101, 114, 101, 32, 116, 104, 101, 114, 101, 32, 104, 97, 115, 32, 116, 111, 32, 98, 101, 32, 111, 110, 101, 44, 32, 111, 114, 32, 111, 110, 101, 32, 119, 104, 101, 114, 101, 32, 116, 104, 101, 114, 101, 32, 109, 97, 121, 32, 98, 101, 32, 110, 111, 110, 101] }
abbrev es10 : ByteArray := { data := #[97, 32, 114, 111, 111, 116, 32, 116, 104, 97, 116, 32, 100, 111, 101, 115, 32, 110, 111, 116, 32, 102, 105, 116] }
abbrev es11 : ByteArray := { data := #[107, 110, 111, 119, 110, 32, 97, 108, 114, 101, 97, 100, 121] }
abbrev es12 : ByteArray := { data := #[110, 111, 32, 115, 117, 99, 104, 32, 112, 97, 114, 101, 110, 116] }
abbrev es13 : ByteArray := { data := #[98, 101, 104, 105, 110, 100, 32, 119, 104, 97, 116, 32, 105, 115, 32, 110, 111, 116, 32, 118, 97, 108, 105, 100] }
abbrev es14 : ByteArray := { data := #[97, 32, 116, 105, 109, 101, 32, 116, 104, 97, 116, 32, 105, 115, 32, 116, 111, 111, 32, 101, 97, 114, 108, 121] }
abbrev es15 : ByteArray := { data := #[97, 32, 99, 111, 105, 110, 32, 116, 104, 97, 116, 32, 105, 115, 32, 110, 111, 116, 32, 116, 104, 101, 114, 101] }
abbrev es16 : ByteArray := { data := #[97, 32, 99, 111, 105, 110, 32, 116, 104, 97, 116, 32, 105, 115, 32, 116, 111, 111, 32, 121, 111, 117, 110, 103] }
abbrev es17 : ByteArray := { data := #[116, 111, 111, 32, 101, 97, 114, 108, 121, 32, 116, 111, 32, 98, 101, 32, 116, 97, 107, 101, 110] }
abbrev es18 : ByteArray := { data := #[109, 111, 114, 101, 32, 116, 104, 97, 110, 32, 116, 104, 101, 32, 114, 101, 119, 97, 114, 100] }
abbrev es19 : ByteArray := { data := #[97, 32, 99, 111, 105, 110, 32, 116, 104, 97, 116, 32, 105, 115, 32, 115, 112, 101, 110, 116, 32, 105, 110, 32, 116, 104, 101, 32, 112, 111, 111, 108] }
abbrev es20 : ByteArray := { data := #[116, 111, 111, 32, 109, 97, 110, 121, 32, 116, 104, 97, 116, 32, 104, 97, 110, 103, 32, 116, 111, 103, 101, 116, 104, 101, 114] }
abbrev es21 : ByteArray := { data := #[116, 104, 101, 114, 101, 32, 105, 115, 32, 110, 111, 32, 114, 111, 111, 109] }
abbrev es22 : ByteArray := { data := #[116, 104, 101, 114, 101, 32, 105, 115, 32, 110, 111, 110, 101] }
abbrev es23 : ByteArray := { data := #[110, 111, 32, 115, 117, 99, 104, 32, 119, 111, 114, 100] }
abbrev es24 : ByteArray := { data := #[110, 111, 116, 32, 97, 32, 110, 117, 109, 98, 101, 114] }
def setC (v : Value) : Obj → Obj
  | .cells _ t frozen => .cells #[v] t frozen
  | x => x
noncomputable def laidWorld (os : Os) : World :=
  let w0 := World.holding Tryd.prog os ⟨#[.cells #[.string es0] 223, .cells #[.string es1] 223, .cells #[.string es2] 223, .cells #[.string es3] 223, .cells #[.string es4] 223, .cells #[.string es5] 223, .cells #[.string es6] 223, .cells #[.string es7] 223, .cells #[.string es8] 223, .cells #[.string es9] 223, .cells #[.string es10] 223, .cells #[.string es11] 223, .cells #[.string es12] 223, .cells #[.string es13] 223, .cells #[.string es14] 223, .cells #[.string es15] 223, .cells #[.string es16] 223, .cells #[.string es17] 223, .cells #[.string es18] 223, .cells #[.string es19] 223, .cells #[.string es20] 223, .cells #[.string es21] 223, .cells #[.string es22] 223, .cells #[.string es23] 223, .cells #[.string es24] 223], #[], []⟩
  { w0 with heap := (((((((((((((((((((((((((w0.heap.modify 0 (setC (.iface 206 (.pointer (some ⟨low + 0, 0, none⟩))))).modify 1 (setC (.iface 206 (.pointer (some ⟨low + 1, 0, none⟩))))).modify 2 (setC (.iface 206 (.pointer (some ⟨low + 2, 0, none⟩))))).modify 3 (setC (.iface 206 (.pointer (some ⟨low + 3, 0, none⟩))))).modify 4 (setC (.iface 206 (.pointer (some ⟨low + 4, 0, none⟩))))).modify 5 (setC (.iface 206 (.pointer (some ⟨low + 5, 0, none⟩))))).modify 6 (setC (.iface 206 (.pointer (some ⟨low + 6, 0, none⟩))))).modify 7 (setC (.iface 206 (.pointer (some ⟨low + 7, 0, none⟩))))).modify 8 (setC (.iface 206 (.pointer (some ⟨low + 8, 0, none⟩))))).modify 9 (setC (.iface 206 (.pointer (some ⟨low + 9, 0, none⟩))))).modify 10 (setC (.iface 206 (.pointer (some ⟨low + 10, 0, none⟩))))).modify 11 (setC (.iface 206 (.pointer (some ⟨low + 11, 0, none⟩))))).modify 12 (setC (.iface 206 (.pointer (some ⟨low + 12, 0, none⟩))))).modify 13 (setC (.iface 206 (.pointer (some ⟨low + 13, 0, none⟩))))).modify 14 (setC (.iface 206 (.pointer (some ⟨low + 14, 0, none⟩))))).modify 15 (setC (.iface 206 (.pointer (some ⟨low + 15, 0, none⟩))))).modify 16 (setC (.iface 206 (.pointer (some ⟨low + 16, 0, none⟩))))).modify 17 (setC (.iface 206 (.pointer (some ⟨low + 17, 0, none⟩))))).modify 18 (setC (.iface 206 (.pointer (some ⟨low + 18, 0, none⟩))))).modify 19 (setC (.iface 206 (.pointer (some ⟨low + 19, 0, none⟩))))).modify 20 (setC (.iface 206 (.pointer (some ⟨low + 20, 0, none⟩))))).modify 21 (setC (.iface 206 (.pointer (some ⟨low + 21, 0, none⟩))))).modify 22 (setC (.iface 206 (.pointer (some ⟨low + 22, 0, none⟩))))).modify 23 (setC (.iface 206 (.pointer (some ⟨low + 23, 0, none⟩))))).modify 24 (setC (.iface 206 (.pointer (some ⟨low + 24, 0, none⟩))))) }
theorem starE : "*" ++ "errors.errorString" = "*errors.errorString" := by decide
theorem rowE (u : TypeId) (h : Tryd.prog.typeName? 3 u = some "*errors.errorString") : u = 206 :=
  typeName_ptr_named (nm := "errors.errorString") (by rw [starE]; kernel_rfl) (by kernel_rfl) (by decide) u (by rw [starE]; exact h)
theorem ceE : Tryd.prog.cellsOf 223 = 1 := by kernel_rfl
theorem csE : Tryd.prog.cellsOf 9 = 1 := by kernel_rfl
theorem sent0 {W : World} {l : List (String × DataW Unit)} (h : laidMet Tryd.prog l W) (hm : ("sargasso/api.ErrShape", .iface "*errors.errorString" (.ptr (.agg [.lit (.string [110, 111, 116, 32, 97, 115, 32, 105, 116, 32, 104, 97, 115, 32, 116, 111, 32, 98, 101])]))) ∈ l) : ∃ v, ErS (mem W) v (Er.b 1) :=
  sent_of_laid h hm (by kernel_rfl) (by kernel_rfl) Tryd.underlying34 rowE Tryd.underlying206 Tryd.underlying223 rfl rfl Tryd.underlying9 ceE csE (fun s hs => by unfold errCode; rw [hs]; kernel_rfl)
theorem sent1 {W : World} {l : List (String × DataW Unit)} (h : laidMet Tryd.prog l W) (hm : ("sargasso/api.ErrMany", .iface "*errors.errorString" (.ptr (.agg [.lit (.string [116, 111, 111, 32, 109, 97, 110, 121, 44, 32, 111, 114, 32, 116, 111, 111, 32, 102, 101, 119])]))) ∈ l) : ∃ v, ErS (mem W) v (Er.b 2) :=
  sent_of_laid h hm (by kernel_rfl) (by kernel_rfl) Tryd.underlying34 rowE Tryd.underlying206 Tryd.underlying223 rfl rfl Tryd.underlying9 ceE csE (fun s hs => by unfold errCode; rw [hs]; kernel_rfl)
theorem sent8 {W : World} {l : List (String × DataW Unit)} (h : laidMet Tryd.prog l W) (hm : ("sargasso/api.ErrEnd", .iface "*errors.errorString" (.ptr (.agg [.lit (.string [105, 116, 32, 101, 110, 100, 115, 32, 116, 111, 111, 32, 101, 97, 114, 108, 121])]))) ∈ l) : ∃ v, ErS (mem W) v (Er.b 9) :=
  sent_of_laid h hm (by kernel_rfl) (by kernel_rfl) Tryd.underlying34 rowE Tryd.underlying206 Tryd.underlying223 rfl rfl Tryd.underlying9 ceE csE (fun s hs => by unfold errCode; rw [hs]; kernel_rfl)
end Go.Proofs.YtpeelghbhihgkaaDoor.T
namespace Go.Proofs.YtpeelghbhihgkaaDoor.T
open Go Go.Proofs Go.Proofs.YtpeelghbhihgkaaDoor.K
set_option linter.unusedVariables false
set_option linter.unusedSimpArgs false
theorem laid : laidOutB Tryd.prog = true := by kernel_rfl
theorem cl22 : Tryd.prog.cellsOf 22 = 1 := by kernel_rfl
theorem cl5 : Tryd.prog.cellsOf 5 = 1 := by kernel_rfl
theorem rr23 : Tryd.prog.readableRec 23 = true := by kernel_rfl
theorem tr23 : 23 < Tryd.prog.types.size := of_decide_eq_true (by kernel_rfl)
theorem rr42 : Tryd.prog.readableRec 42 = true := by kernel_rfl
theorem tr42 : 42 < Tryd.prog.types.size := of_decide_eq_true (by kernel_rfl)
section
variable {H : Type} {enc : TypeId × Value → H} {w : World} {base : Nat} {spare : Nat → Bool} {held : Bool}
theorem rd22 : Rd enc Tryd.prog w base spare held 22 (fun c => ∃ n, RI .u64 n c) := rd_int Tryd.underlying22
theorem rd5 : Rd enc Tryd.prog w base spare held 5 (fun c => ∃ n, RI .u8 n c) := rd_int Tryd.underlying5
theorem rd23 : Rd enc Tryd.prog w base spare held 23 (fun c => ∃ v xs, c = [v] ∧ Slc (RI .u8) 1 (mem w) v xs) := rd_slice Tryd.underlying23 cl5 (by decide) rd5
theorem rd42 : Rd enc Tryd.prog w base spare held 42 (fun c => ∃ v xs, c = [v] ∧ Slc (RI .u64) 1 (mem w) v xs) := rd_slice Tryd.underlying42 cl22 (by decide) rd22
end
end Go.Proofs.YtpeelghbhihgkaaDoor.T
namespace Go.Proofs.YtpeelghbhihgkaaDoor.J
open Go Go.Proofs
theorem words_cons : ∀ (w r : List Char), w.all (· != ' ') = true → wordsSigns (w ++ ' ' :: r) = w :: wordsSigns r
  | [], r, _ => rfl
  | c :: w, r, h => by
    simp only [List.all_cons, Bool.and_eq_true, bne_iff_ne, ne_eq] at h
    have ih := words_cons w r h.2
    rw [List.cons_append, wordsSigns, ih]
    exact fun e => h.1 e
set_option maxRecDepth 100000
def w0 : List Char := ['h', 'a', 'r', 'n', 'e', 's', 's']
def w1 : List Char := ['4', '4', 'c', '8', '7', '2', '5', '3', 'b', '6', 'd', '1', 'd', '6', '4', '9', 'e', 'a', '9', 'f', '3', '2', '0', '8', '1', 'a', '4', 'd', 'd', '5', 'f', 'b', 'f', 'f', '2', '1', '7', 'a', 'e', 'd', '9', 'a', 'b', '5', 'f', '6', '6', 'e', '5', 'b', '0', '9', '9', '1', 'c', '7', '7', 'e', 'b', '1', '8', 'b', '9', '7']
def w2 : List Char := ['c', 'u', 't']
def w3 : List Char := ['a', 't', ' ', 's', 'a', 'r', 'g', 'a', 's', 's', 'o', '/', 's', 'a', 'r', 'g', 'a', 's', 's', 'o', 'l', 'a', 'w', '2', '.', 'C', 'o', 'm', 'p', 'a', 'c', 't', 'B', 'a', 'c', 'k', ' ', 's', 'a', 'r', 'g', 'a', 's', 's', 'o', '/', 's', 'a', 'r', 'g', 'a', 's', 's', 'o', 'l', 'a', 'w', '2', '.', 'C', 'o', 'm', 'p', 'a', 'c', 't', 'F', 'e', 'w', 'e', 's', 't', ' ', 's', 'a', 'r', 'g', 'a', 's', 's', 'o', '/', 's', 'a', 'r', 'g', 'a', 's', 's', 'o', 'l', 'a', 'w', '2', '.', 'C', 'o', 'm', 'p', 'a', 'c', 't', 'R', 'o', 'w', 's', ' ', 's', 'a', 'r', 'g', 'a', 's', 's', 'o', '/', 's', 'a', 'r', 'g', 'a', 's', 's', 'o', 'l', 'a', 'w', '2', '.', 'C', 'o', 'm', 'p', 'a', 'c', 't', 'R', 'e', 'a', 'd', 's', ' ', 's', 'a', 'r', 'g', 'a', 's', 's', 'o', '/', 's', 'a', 'r', 'g', 'a', 's', 's', 'o', 'l', 'a', 'w', '2', '.', 'C', 'o', 'm', 'p', 'a', 'c', 't', 'S', 't', 'o', 'p', 's', ' ', 's', 'a', 'r', 'g', 'a', 's', 's', 'o', '/', 's', 'a', 'r', 'g', 'a', 's', 's', 'o', 'l', 'a', 'w', '4', '.', 'T', 'x', 'B', 'o', 'u', 'n', 'd', 's', ' ', 's', 'a', 'r', 'g', 'a', 's', 's', 'o', '/', 's', 'a', 'r', 'g', 'a', 's', 's', 'o', 'l', 'a', 'w', '4', '.', 'T', 'x', 'B', 'a', 's', 'e', 's', ' ', 's', 'a', 'r', 'g', 'a', 's', 's', 'o', '/', 's', 'a', 'r', 'g', 'a', 's', 's', 'o', 'l', 'a', 'w', '4', '.', 'T', 'x', 'B', 'a', 'c', 'k', ' ', 's', 'a', 'r', 'g', 'a', 's', 's', 'o', '/', 's', 'a', 'r', 'g', 'a', 's', 's', 'o', 'l', 'a', 'w', '4', '.', 'T', 'x', 'S', 'i', 'z', 'e', 's', ' ', 's', 'a', 'r', 'g', 'a', 's', 's', 'o', '/', 's', 'a', 'r', 'g', 'a', 's', 's', 'o', 'l', 'a', 'w', '4', '.', 'T', 'x', 'T', 'u', 'r', 'n', 'e', 'd', ' ', 's', 'a', 'r', 'g', 'a', 's', 's', 'o', '/', 's', 'a', 'r', 'g', 'a', 's', 's', 'o', 'l', 'a', 'w', '4', '.', 'T', 'x', 'S', 'a', 'y', 's', ' ', 's', 'a', 'r', 'g', 'a', 's', 's', 'o', '/', 's', 'a', 'r', 'g', 'a', 's', 's', 'o', 'l', 'a', 'w', '5', '.', 'H', 'e', 'a', 'd', 'W', 'o', 'r', 'k', ' ', 's', 'a', 'r', 'g', 'a', 's', 's', 'o', '/', 's', 'a', 'r', 'g', 'a', 's', 's', 'o', 'l', 'a', 'w', '5', '.', 'H', 'e', 'a', 'd', 'B', 'a', 'c', 'k', ' ', 's', 'a', 'r', 'g', 'a', 's', 's', 'o', '/', 's', 'a', 'r', 'g', 'a', 's', 's', 'o', 'l', 'a', 'w', '1', '5', '.', 'V', 'a', 'l', 'u', 'e', 'R', 'u', 'l', 'e', 's', ' ', 's', 'a', 'r', 'g', 'a', 's', 's', 'o', '/', 's', 'a', 'r', 'g', 'a', 's', 's', 'o', 'l', 'a', 'w', '1', '5', '.', 'V', 'a', 'l', 'u', 'e', 'K', 'e', 'e', 'p', 's', ' ', 's', 'a', 'r', 'g', 'a', 's', 's', 'o', '/', 's', 'a', 'r', 'g', 'a', 's', 's', 'o', 'l', 'a', 'w', '1', '5', '.', 'V', 'a', 'l', 'u', 'e', 'S', 'a', 'y', 's', ' ', 's', 'a', 'r', 'g', 'a', 's', 's', 'o', '/', 's', 'a', 'r', 'g', 'a', 's', 's', 'o', 'l', 'a', 'w', '2', '0', '.', 'N', 'o', 't', 'e', 's', 'C', 'a', 'p', ' ', 's', 'a', 'r', 'g', 'a', 's', 's', 'o', '/', 's', 'a', 'r', 'g', 'a', 's', 's', 'o', 'l', 'a', 'w', '2', '0', '.', 'N', 'o', 't', 'e', 's', 'P', 'l', 'a', 'y', ' ', 's', 'a', 'r', 'g', 'a', 's', 's', 'o', '/', 's', 'a', 'r', 'g', 'a', 's', 's', 'o', 'l', 'a', 'w', '2', '0', '.', 'N', 'o', 't', 'e', 's', 'O', 'p', 's']
theorem io0 : Tryd.prog.initOrder = String.ofList (w0 ++ ' ' :: (w1 ++ ' ' :: (w2 ++ ' ' :: w3))) := by kernel_rfl
theorem io : Tryd.prog.initOrder.toList = w0 ++ ' ' :: (w1 ++ ' ' :: (w2 ++ ' ' :: w3)) := (congrArg String.toList io0).trans String.toList_ofList
theorem ws : wordsSigns Tryd.prog.initOrder.toList = w0 :: w1 :: w2 :: wordsSigns w3 := by
  rw [io, words_cons _ _ (by kernel_rfl), words_cons _ _ (by kernel_rfl), words_cons _ _ (by kernel_rfl)]
theorem bm (R : List (List Char)) : behindMainWord (w0 :: w1 :: w2 :: R) = w2 :: R := by kernel_rfl
theorem main_of {P : Program} {R : List (List Char)} (h : wordsSigns P.initOrder.toList = w0 :: w1 :: R) : P.mainIs = some (true, w1) := by
  unfold Program.mainIs
  rw [h]
  kernel_rfl
theorem mainIs : Tryd.prog.mainIs = some (true, w1) := main_of ws
theorem bw : behindMainWord (wordsSigns Tryd.prog.initOrder.toList) = w2 :: wordsSigns w3 := by rw [ws, bm]
theorem st (R : List (List Char)) : stripLifts liftWords (w2 :: R) = ([], w2 :: R) := by kernel_rfl
theorem make_of {P : Program} {R : List (List Char)} (h : behindMainWord (wordsSigns P.initOrder.toList) = w2 :: R) : P.make = some .cut := by
  unfold Program.make
  rw [h]
  kernel_rfl
theorem head_of {P : Program} {R : List (List Char)} (h : behindMainWord (wordsSigns P.initOrder.toList) = w2 :: R) : P.headLifts = [] := by
  unfold Program.headLifts
  rw [h, st]
  kernel_rfl
theorem lifts_of {P : Program} {R : List (List Char)} (h : behindMainWord (wordsSigns P.initOrder.toList) = w2 :: R) : P.liftsFinal = false := by
  unfold Program.liftsFinal
  rw [h, head_of h]
  kernel_rfl
theorem may_of {P : Program} {R : List (List Char)} (h : behindMainWord (wordsSigns P.initOrder.toList) = w2 :: R) (h1 : P.laysLater = false) (h2 : P.bearsReflect = false) (h3 : P.doorFits [] = true) : P.mayEnter = true := by
  unfold Program.mayEnter
  rw [h]
  simp only [st, h1, h2, h3]
  kernel_rfl
theorem later : Tryd.prog.laysLater = false := by kernel_rfl
theorem reflect : Tryd.prog.bearsReflect = false := by kernel_rfl
theorem door : Tryd.prog.doorFits [] = true := by kernel_rfl
theorem make : Tryd.prog.make = some .cut := make_of bw
theorem lifts : Tryd.prog.liftsFinal = false := lifts_of bw
theorem may : Tryd.prog.mayEnter = true := may_of bw later reflect door
end Go.Proofs.YtpeelghbhihgkaaDoor.J
namespace Go.Proofs.YtpeelghbhihgkaaDoor.zCompactRows
open Go Go.Proofs Go.Proofs.YtpeelghbhihgkaaDoor.K Go.Proofs.YtpeelghbhihgkaaDoor.T
open Go.ChangeShapes Go.WideShapes Go.ChangeAt Go.RowKit
set_option linter.unusedVariables false
theorem met (os : Os) (args : Array Value) : laidMetH Tryd.prog Rows.compactRowsRow.laid ((laidWorld os).forCall (fun _ _ => 0) ⟨#[], args, []⟩).memory :=
  laidMetH_of_parts (laidMet_of_run' 8 (by kernel_rfl) (by kernel_rfl)) (by kernel_rfl)
set_option maxRecDepth 100000 in
theorem lifted (os : Os) (started : os.Started) (H : Type) (enc : TypeId × Value → H) :
    ReturnsInHanded {} Tryd.checked os 5 .any (fun w args => (Rows.compactRowsSpec.pre enc Tryd.prog Tryd.f5 [] false w args ∧ laidMetH Tryd.prog Rows.compactRowsRow.laid w) ∧ sizedMet enc Tryd.prog Tryd.f5 (OpenSpec.ofChange Rows.compactRowsSpec) false w args) (Rows.compactRowsSpec.post enc Tryd.prog Tryd.f5 false true false false) := by
  refine returnsInHanded_of_change_and (C := Tryd.checked) (X := fun w _ => laidMetH Tryd.prog Rows.compactRowsRow.laid w) (fun _ _ _ hh h => h.of_heap hh) own started (by kernel_rfl) Tryd.func5
    (ChangeSpec.witness_at (enc := enc) (C := Tryd.checked) (os := os) (X := fun w _ => laidMetH Tryd.prog Rows.compactRowsRow.laid w) false (laidWorld os) #[.slice none 0 0, .slice none 0 0] 8 rfl (by kernel_rfl) (by kernel_rfl) (by kernel_rfl) (by kernel_rfl) (by kernel_rfl) (met os _)) ?_
  intro W base args ds gs before hval0 hW hcnd hsz0 hL _
  have hL : laidMet Tryd.prog Rows.compactRowsRow.laid W := hL
  obtain ⟨e0, he0⟩ := sent0 hL (List.mem_of_getElem? (i := 1) rfl)
  obtain ⟨e1, he1⟩ := sent1 hL (List.mem_of_getElem? (i := 2) rfl)
  obtain ⟨e8, he8⟩ := sent8 hL (List.mem_of_getElem? (i := 0) rfl)
  have hW' := hW
  obtain ⟨p, q, hA0, hV, rfl, hfz, hnd⟩ := hW
  have hA : DataW.TrodAll enc Tryd.prog W 0 (fun _ => true) true Tryd.f5.params.toList args.toList ds p := hA0
  have hval : ∀ (j : Nat) t v, Tryd.f5.params[j]? = some t → args[j]? = some v → Value.okWide Tryd.prog W .any base t v := hval0
  rw [Tryd.params5] at hA hval
  obtain ⟨v0, vs0, d0, ds0, p0, q0, hargs, rfl, rfl, h0, r0⟩ := trodAll_cons hA
  obtain ⟨v1, vs1, d1, ds1, p1, q1, rfl, rfl, rfl, h1, r1⟩ := trodAll_cons r0
  obtain ⟨rfl, rfl, rfl⟩ := trodAll_nil r1
  obtain rfl : args = #[v0, v1] := by cases args; simp_all
  obtain ⟨rfl, rfl⟩ := trodVars_none hV
  obtain ⟨x0, w0⟩ := at_slice Tryd.underlying42 (hval 0 42 v0 rfl rfl) rd42 h0
  obtain ⟨x1, w1⟩ := at_slice Tryd.underlying23 (hval 1 23 v1 rfl rfl) rd23 h1
  have hμ : Agr (mem W) W := agr_mem W
  have hm := sargassolaw2_CompactRows.m (mem W) x0 v0 w0 x1 v1 w1
  refine (sargassolaw2_CompactRows.c (mem W) W hμ x0 v0 w0 x1 v1 w1 e0 he0 e1 he1 e8 he8 true hm).mono fun e W' ⟨v, he, hv, _, hI⟩ => ?_
  subst hv
  subst he
  have bel : Below W.heap.size W W' := hI.below
  exact ⟨_, rfl, _, _, _, [], _, [], hW', trodAll_mk1 (shut_bool Tryd.underlying4 _), (trodAll_cons_mk (again laid rr42 tr42 h0 bel) (trodAll_cons_mk (again laid rr23 tr23 h1 bel) trodAll_mk0)), rfl, bel.frame _, fun h => by cases h⟩
theorem closed : joinedFacts Tryd.prog 5 Tryd.f5 Rows.compactRowsSpec Rows.compactRowsRow = true := by
  unfold joinedFacts
  rw [J.may, J.lifts, J.make]
  kernel_rfl
theorem over : Rows.compactRowsRow.holds Tryd.pinned (OpenSpec.ofChange Rows.compactRowsSpec) :=
  OpenClaim.holds_of_wide 5 Tryd.f5 rfl rfl rfl rfl rfl rfl rfl ⟨rfl, rfl, rfl, rfl, rfl⟩ rfl rfl rfl rfl rfl (by kernel_rfl) Tryd.func5 closed
    (of_decide_eq_true (by kernel_rfl)) (by unfold Func.isWrapper; first | (rw [if_pos (by decide +kernel)]; kernel_rfl) | (rw [if_neg (by decide +kernel)]; exact ⟨rfl, rfl⟩))
    (fun os started H enc _ => lifted os started H enc)
theorem card : Rows.CompactRowsCardSaid :=
  Claim7.holds_tied_plain_at .later [] [.sentinel, .sentinel, .sentinel] true (true, "44c87253b6d1d649ea9f32081a4dd5fbff217aed9ab5f66e5b0991c77eb18b97") true
    over (fun _ h => by cases h) (by kernel_rfl) (fun _ h => by cases h) compactRows_row_tie rfl ⟨rfl, rfl⟩ (J.mainIs.trans (congrArg (fun s => some (true, s)) (by kernel_rfl))) rfl
    (fun f fn hf hfn => by
      obtain rfl : f = 5 := Option.some.inj ((show Tryd.prog.funcNamed "sargasso/sargassolaw2.CompactRows" = some 5 by kernel_rfl).symm.trans hf) |>.symm
      obtain rfl : fn = Tryd.f5 := (Option.some.inj (Tryd.func5.symm.trans hfn)).symm
      exact ⟨by kernel_rfl, fun j t ht => by
        rw [Tryd.params5] at ht
        rcases j with _ | _ | j
        · obtain rfl : (42 : TypeId) = t := by simpa using ht
          exact (show Tryd.prog.wantsStandIn 42 = false by kernel_rfl)
        · obtain rfl : (23 : TypeId) = t := by simpa using ht
          exact (show Tryd.prog.wantsStandIn 23 = false by kernel_rfl)
        · simp at ht⟩)
    (by kernel_rfl)
end Go.Proofs.YtpeelghbhihgkaaDoor.zCompactRows
namespace Go.Proofs.YtpeelghbhihgkaaDoor
theorem compactRows_holds : Rows.CompactRowsCardSaid := zCompactRows.card
#print axioms compactRows_holds
end Go.Proofs.YtpeelghbhihgkaaDoor
