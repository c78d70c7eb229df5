/- A helper of this seat's claims: printed by gen.py. It proves no statement by itself. -/
import Derived.Test.YtnbnnphlffhgiaaCH
import Derived.Test.YtnbnnphlffhgiaaGCompactSums
namespace Go.Proofs.Ytnbnnphlffhgiaa.T
open Go Go.Proofs Go.Proofs.Ytnbnnphlffhgiaa.K
set_option linter.unusedVariables false
set_option linter.unusedSimpArgs false
/-! sargassolaw2.CompactSums: function 8 -/
set_option maxRecDepth 20000 in
theorem sargassolaw2_CompactSums.c (μ : Store) (w0 : World) (hμ : Agr μ w0) (x0 : Int) (hx0 : InR .u64 x0) (x1 : Int) (hx1 : InR .u64 x1) (r : Bool) (H : sargassolaw2_CompactSums.f x0 x1 = some r) :
    Calls Try.prog 8 [.int .u64 x0, .int .u64 x1].toArray w0 (fun e w' => ∃ v, e = .returned v ∧ v = .bool r ∧ True ∧ Iv w0 [] μ μ [] w') := by
  refine enter Try.func8 rfl Try.ntmps8 rfl fun a hA => ?_
  have hI := Iv.start hμ
  have H := bI H
  refine w_seq fun _ hN1 => ?_
  refine w_reg ?_
  refine stp hA (r_as hA rfl) rfl fun a hA => ?_
  refine o_nil ?_
  refine hN1 _ _ ?_
  refine w_seq fun _ hN2 => ?_
  refine w_reg ?_
  obtain ⟨r1, hr1, H⟩ := bB H
  refine o_callp (u := .bool r1) cf41 hA rfl hI (sargassolaw2_first.c μ _ hI.agr  r1 hr1) rfl fun a w hz1 hI hA => 
    stp hA (r_as hA rfl) rfl fun a hA => ?_
  refine o_nil ?_
  refine hN2 _ _ ?_
  refine w_seq fun _ hN3 => ?_
  refine w_seq fun _ hN4 => ?_
  refine w_reg ?_
  refine stp hA (r_mv hA rfl) rfl fun a hA => 
    stp hA (r_not hA rfl) rfl fun a hA => ?_
  refine o_nil ?_
  refine hN4 _ _ ?_
  refine w_cond hA rfl (fun hc1 => ?_) (fun hc1 => ?_)
  · have hc10 := hc1; have hc1 := nT hc1; have hc1 := ft hc1; have H := bF H hc1
    refine w_seq fun _ hN5 => ?_
    refine w_reg ?_
    refine stp hA (r_as hA rfl) rfl fun a hA => ?_
    refine o_nil ?_
    refine hN5 _ _ ?_
    refine w_ret ?_
    obtain rfl := Option.some.inj (bS H)
    exact ret1 hA Try.results8 rfl ⟨_, rfl, rfl, trivial, hI.forget0⟩
  · have hc10 := hc1; have hc1 := nF hc1; have H := bT H hc1
    refine w_skip ?_
    refine hN3 _ _ ?_
    refine w_seq fun _ hN6 => ?_
    refine w_reg ?_
    refine stp hA (r_mv hA rfl) rfl fun a hA => 
      stp hA (r_rem hA rfl rfl (by decide)) rfl fun a hA => 
      stp hA (r_as hA rfl) rfl fun a hA => ?_
    refine o_nil ?_
    refine hN6 _ _ ?_
    refine w_seq fun _ hN7 => ?_
    refine w_reg ?_
    refine stp hA (r_mv hA rfl) rfl fun a hA => 
      stp hA (r_rem hA rfl rfl (by decide)) rfl fun a hA => 
      stp hA (r_as hA rfl) rfl fun a hA => ?_
    refine o_nil ?_
    refine hN7 _ _ ?_
    refine w_seq fun _ hN8 => ?_
    refine w_reg ?_
    refine stp hA (r_mv hA rfl) rfl fun a hA => 
      stp hA (r_mv hA rfl) rfl fun a hA => ?_
    have hE1 : Els (RI .u64) 1 [Int.tmod x0 2100000000000001, Int.tmod x1 2100000000000001] ([[.int .u64 (Int.tmod x0 2100000000000001)]].flatten ++ ([[.int .u64 (Int.tmod x1 2100000000000001)]].flatten ++ ([]))) := (Els.cons (c := [[.int .u64 (Int.tmod x0 2100000000000001)]].flatten) ⟨rfl, (tmod_in hx0 _)⟩ rfl (Els.cons (c := [[.int .u64 (Int.tmod x1 2100000000000001)]].flatten) ⟨rfl, (tmod_in hx1 _)⟩ rfl Els.nil))
    refine o_bsl ([[.int .u64 (Int.tmod x0 2100000000000001)]].flatten ++ ([[.int .u64 (Int.tmod x1 2100000000000001)]].flatten ++ ([]))) te45 zr45 Try.underlying49 hI hA rfl rfl rfl rfl (by kernel_rfl) rfl fun g1 a w hA hI => ?_
    generalize hcs : ([[.int .u64 (Int.tmod x0 2100000000000001)]].flatten ++ ([[.int .u64 (Int.tmod x1 2100000000000001)]].flatten ++ ([])) : List Value) = cs1 at hE1 hI
    clear hcs
    obtain ⟨μ1, hle1, hsv1, hI⟩ := hI.freezeRow 0 rfl
    have hS1 : Slc (RI .u64) 1 μ1 (.slice (some ⟨g1, 0, none⟩) 2 2) ([Int.tmod x0 2100000000000001, Int.tmod x1 2100000000000001]) := ⟨_, hE1, hsv1⟩
    obtain ⟨r2, hr2, H⟩ := bB H
    refine o_callp (u := .tuple #[.int .u64 r2.1, .bool r2.2]) cf42 hA rfl hI (compact_Sum.c μ1 _ hI.agr ([Int.tmod x0 2100000000000001, Int.tmod x1 2100000000000001]) (.slice (some ⟨g1, 0, none⟩) 2 2) hS1 r2 hr2) rfl fun a w hz2 hI hA => 
      stp hA (r_mv hA rfl) rfl fun a hA => 
      stp hA (r_extr (vs := [.int .u64 r2.1, .bool r2.2]) hA rfl rfl) rfl fun a hA => 
      stp hA (r_extr (vs := [.int .u64 r2.1, .bool r2.2]) hA rfl rfl) rfl fun a hA => 
      stp hA (r_as hA rfl) rfl fun a hA => 
      stp hA (r_as hA rfl) rfl fun a hA => ?_
    refine o_nil ?_
    refine hN8 _ _ ?_
    refine w_seq fun _ hN9 => ?_
    refine w_reg ?_
    refine stp hA (r_mv hA rfl) rfl fun a hA => 
      stp hA (r_mv hA rfl) rfl fun a hA => ?_
    have hE2 : Els (RI .u64) 1 [Int.tmod x1 2100000000000001, Int.tmod x0 2100000000000001] ([[.int .u64 (Int.tmod x1 2100000000000001)]].flatten ++ ([[.int .u64 (Int.tmod x0 2100000000000001)]].flatten ++ ([]))) := (Els.cons (c := [[.int .u64 (Int.tmod x1 2100000000000001)]].flatten) ⟨rfl, (tmod_in hx1 _)⟩ rfl (Els.cons (c := [[.int .u64 (Int.tmod x0 2100000000000001)]].flatten) ⟨rfl, (tmod_in hx0 _)⟩ rfl Els.nil))
    refine o_bsl ([[.int .u64 (Int.tmod x1 2100000000000001)]].flatten ++ ([[.int .u64 (Int.tmod x0 2100000000000001)]].flatten ++ ([]))) te45 zr45 Try.underlying49 hI hA rfl rfl rfl rfl (by kernel_rfl) rfl fun g2 a w hA hI => ?_
    generalize hcs : ([[.int .u64 (Int.tmod x1 2100000000000001)]].flatten ++ ([[.int .u64 (Int.tmod x0 2100000000000001)]].flatten ++ ([])) : List Value) = cs2 at hE2 hI
    clear hcs
    obtain ⟨μ2, hle2, hsv2, hI⟩ := hI.freezeRow 0 rfl
    have hS2 : Slc (RI .u64) 1 μ2 (.slice (some ⟨g2, 0, none⟩) 2 2) ([Int.tmod x1 2100000000000001, Int.tmod x0 2100000000000001]) := ⟨_, hE2, hsv2⟩
    obtain ⟨r3, hr3, H⟩ := bB H
    refine o_callp (u := .tuple #[.int .u64 r3.1, .bool r3.2]) cf42 hA rfl hI (compact_Sum.c μ2 _ hI.agr ([Int.tmod x1 2100000000000001, Int.tmod x0 2100000000000001]) (.slice (some ⟨g2, 0, none⟩) 2 2) hS2 r3 hr3) rfl fun a w hz3 hI hA => 
      stp hA (r_mv hA rfl) rfl fun a hA => 
      stp hA (r_extr (vs := [.int .u64 r3.1, .bool r3.2]) hA rfl rfl) rfl fun a hA => 
      stp hA (r_extr (vs := [.int .u64 r3.1, .bool r3.2]) hA rfl rfl) rfl fun a hA => 
      stp hA (r_as hA rfl) rfl fun a hA => 
      stp hA (r_as hA rfl) rfl fun a hA => ?_
    refine o_nil ?_
    refine hN9 _ _ ?_
    refine w_seq fun _ hN10 => ?_
    refine w_reg ?_
    refine stp hA (r_mv hA rfl) rfl fun a hA => 
      stp hA (r_mv hA rfl) rfl fun a hA => 
      stp hA (r_sub hA rfl rfl) rfl fun a hA => ?_
    have hE3 : Els (RI .u64) 1 [Int.tmod x0 2100000000000001, IntKind.u64.wrap (2100000000000000 - (Int.tmod x0 2100000000000001))] ([[.int .u64 (Int.tmod x0 2100000000000001)]].flatten ++ ([[.int .u64 (IntKind.u64.wrap (2100000000000000 - (Int.tmod x0 2100000000000001)))]].flatten ++ ([]))) := (Els.cons (c := [[.int .u64 (Int.tmod x0 2100000000000001)]].flatten) ⟨rfl, (tmod_in hx0 _)⟩ rfl (Els.cons (c := [[.int .u64 (IntKind.u64.wrap (2100000000000000 - (Int.tmod x0 2100000000000001)))]].flatten) ⟨rfl, (wrap_in _ _)⟩ rfl Els.nil))
    refine o_bsl ([[.int .u64 (Int.tmod x0 2100000000000001)]].flatten ++ ([[.int .u64 (IntKind.u64.wrap (2100000000000000 - (Int.tmod x0 2100000000000001)))]].flatten ++ ([]))) te45 zr45 Try.underlying49 hI hA rfl rfl rfl rfl (by kernel_rfl) rfl fun g3 a w hA hI => ?_
    generalize hcs : ([[.int .u64 (Int.tmod x0 2100000000000001)]].flatten ++ ([[.int .u64 (IntKind.u64.wrap (2100000000000000 - (Int.tmod x0 2100000000000001)))]].flatten ++ ([])) : List Value) = cs3 at hE3 hI
    clear hcs
    obtain ⟨μ3, hle3, hsv3, hI⟩ := hI.freezeRow 0 rfl
    have hS3 : Slc (RI .u64) 1 μ3 (.slice (some ⟨g3, 0, none⟩) 2 2) ([Int.tmod x0 2100000000000001, IntKind.u64.wrap (2100000000000000 - (Int.tmod x0 2100000000000001))]) := ⟨_, hE3, hsv3⟩
    obtain ⟨r4, hr4, H⟩ := bB H
    refine o_callp (u := .tuple #[.int .u64 r4.1, .bool r4.2]) cf42 hA rfl hI (compact_Sum.c μ3 _ hI.agr ([Int.tmod x0 2100000000000001, IntKind.u64.wrap (2100000000000000 - (Int.tmod x0 2100000000000001))]) (.slice (some ⟨g3, 0, none⟩) 2 2) hS3 r4 hr4) rfl fun a w hz4 hI hA => 
      stp hA (r_mv hA rfl) rfl fun a hA => 
      stp hA (r_extr (vs := [.int .u64 r4.1, .bool r4.2]) hA rfl rfl) rfl fun a hA => 
      stp hA (r_extr (vs := [.int .u64 r4.1, .bool r4.2]) hA rfl rfl) rfl fun a hA => 
      stp hA (r_as hA rfl) rfl fun a hA => 
      stp hA (r_as hA rfl) rfl fun a hA => ?_
    refine o_nil ?_
    refine hN10 _ _ ?_
    refine w_seq fun _ hN11 => ?_
    refine w_reg ?_
    refine stp hA (r_mv hA rfl) rfl fun a hA => 
      stp hA (r_mv hA rfl) rfl fun a hA => 
      stp hA (r_sub hA rfl rfl) rfl fun a hA => ?_
    have hE4 : Els (RI .u64) 1 [Int.tmod x0 2100000000000001, IntKind.u64.wrap (2100000000000000 - (Int.tmod x0 2100000000000001)), 1] ([[.int .u64 (Int.tmod x0 2100000000000001)]].flatten ++ ([[.int .u64 (IntKind.u64.wrap (2100000000000000 - (Int.tmod x0 2100000000000001)))]].flatten ++ ([[.int .u64 1]].flatten ++ ([])))) := (Els.cons (c := [[.int .u64 (Int.tmod x0 2100000000000001)]].flatten) ⟨rfl, (tmod_in hx0 _)⟩ rfl (Els.cons (c := [[.int .u64 (IntKind.u64.wrap (2100000000000000 - (Int.tmod x0 2100000000000001)))]].flatten) ⟨rfl, (wrap_in _ _)⟩ rfl (Els.cons (c := [[.int .u64 1]].flatten) ⟨rfl, (in_lit .u64 1 rfl)⟩ rfl Els.nil)))
    refine o_bsl ([[.int .u64 (Int.tmod x0 2100000000000001)]].flatten ++ ([[.int .u64 (IntKind.u64.wrap (2100000000000000 - (Int.tmod x0 2100000000000001)))]].flatten ++ ([[.int .u64 1]].flatten ++ ([])))) te45 zr45 Try.underlying49 hI hA rfl rfl rfl rfl (by kernel_rfl) rfl fun g4 a w hA hI => ?_
    generalize hcs : ([[.int .u64 (Int.tmod x0 2100000000000001)]].flatten ++ ([[.int .u64 (IntKind.u64.wrap (2100000000000000 - (Int.tmod x0 2100000000000001)))]].flatten ++ ([[.int .u64 1]].flatten ++ ([]))) : List Value) = cs4 at hE4 hI
    clear hcs
    obtain ⟨μ4, hle4, hsv4, hI⟩ := hI.freezeRow 0 rfl
    have hS4 : Slc (RI .u64) 1 μ4 (.slice (some ⟨g4, 0, none⟩) 3 3) ([Int.tmod x0 2100000000000001, IntKind.u64.wrap (2100000000000000 - (Int.tmod x0 2100000000000001)), 1]) := ⟨_, hE4, hsv4⟩
    obtain ⟨r5, hr5, H⟩ := bB H
    refine o_callp (u := .tuple #[.int .u64 r5.1, .bool r5.2]) cf42 hA rfl hI (compact_Sum.c μ4 _ hI.agr ([Int.tmod x0 2100000000000001, IntKind.u64.wrap (2100000000000000 - (Int.tmod x0 2100000000000001)), 1]) (.slice (some ⟨g4, 0, none⟩) 3 3) hS4 r5 hr5) rfl fun a w hz5 hI hA => 
      stp hA (r_mv hA rfl) rfl fun a hA => 
      stp hA (r_extr (vs := [.int .u64 r5.1, .bool r5.2]) hA rfl rfl) rfl fun a hA => 
      stp hA (r_extr (vs := [.int .u64 r5.1, .bool r5.2]) hA rfl rfl) rfl fun a hA => 
      stp hA (r_as hA rfl) rfl fun a hA => 
      stp hA (r_as hA rfl) rfl fun a hA => ?_
    refine o_nil ?_
    refine hN11 _ _ ?_
    refine w_seq fun _ hN12 => ?_
    refine w_reg ?_
    have hE5 : Els (RI .u64) 1 [9223372036854775808, 9223372036854775808] ([[.int .u64 9223372036854775808]].flatten ++ ([[.int .u64 9223372036854775808]].flatten ++ ([]))) := (Els.cons (c := [[.int .u64 9223372036854775808]].flatten) ⟨rfl, (in_lit .u64 9223372036854775808 rfl)⟩ rfl (Els.cons (c := [[.int .u64 9223372036854775808]].flatten) ⟨rfl, (in_lit .u64 9223372036854775808 rfl)⟩ rfl Els.nil))
    refine o_bsl ([[.int .u64 9223372036854775808]].flatten ++ ([[.int .u64 9223372036854775808]].flatten ++ ([]))) te45 zr45 Try.underlying49 hI hA rfl rfl rfl rfl (by kernel_rfl) rfl fun g5 a w hA hI => ?_
    generalize hcs : ([[.int .u64 9223372036854775808]].flatten ++ ([[.int .u64 9223372036854775808]].flatten ++ ([])) : List Value) = cs5 at hE5 hI
    clear hcs
    obtain ⟨μ5, hle5, hsv5, hI⟩ := hI.freezeRow 0 rfl
    have hS5 : Slc (RI .u64) 1 μ5 (.slice (some ⟨g5, 0, none⟩) 2 2) ([9223372036854775808, 9223372036854775808]) := ⟨_, hE5, hsv5⟩
    obtain ⟨r6, hr6, H⟩ := bB H
    refine o_callp (u := .tuple #[.int .u64 r6.1, .bool r6.2]) cf42 hA rfl hI (compact_Sum.c μ5 _ hI.agr ([9223372036854775808, 9223372036854775808]) (.slice (some ⟨g5, 0, none⟩) 2 2) hS5 r6 hr6) rfl fun a w hz6 hI hA => 
      stp hA (r_mv hA rfl) rfl fun a hA => 
      stp hA (r_extr (vs := [.int .u64 r6.1, .bool r6.2]) hA rfl rfl) rfl fun a hA => 
      stp hA (r_extr (vs := [.int .u64 r6.1, .bool r6.2]) hA rfl rfl) rfl fun a hA => 
      stp hA (r_as hA rfl) rfl fun a hA => 
      stp hA (r_as hA rfl) rfl fun a hA => ?_
    refine o_nil ?_
    refine hN12 _ _ ?_
    refine w_seq fun _ hN13 => ?_
    refine w_reg ?_
    obtain ⟨r7, hr7, H⟩ := bB H
    refine o_callp (u := .tuple #[.int .u64 r7.1, .bool r7.2]) cf42 hA rfl hI (compact_Sum.c μ5 _ hI.agr ([]) (.slice none 0 0) (slc_nil _ _ _) r7 hr7) rfl fun a w hz7 hI hA => 
      stp hA (r_mv hA rfl) rfl fun a hA => 
      stp hA (r_extr (vs := [.int .u64 r7.1, .bool r7.2]) hA rfl rfl) rfl fun a hA => 
      stp hA (r_extr (vs := [.int .u64 r7.1, .bool r7.2]) hA rfl rfl) rfl fun a hA => 
      stp hA (r_as hA rfl) rfl fun a hA => 
      stp hA (r_as hA rfl) rfl fun a hA => ?_
    refine o_nil ?_
    refine hN13 _ _ ?_
    obtain ⟨c1, hz8, Hk1⟩ := bB H
    refine w_cut (fun a w => Fr a 116 [(0, .int .u64 (Int.tmod x0 2100000000000001)), (1, .int .u64 (Int.tmod x1 2100000000000001)), (4, .bool c1), (5, .bool r1), (6, .int .u64 r2.1), (7, .bool r2.2), (8, .int .u64 r3.1), (9, .bool r3.2), (10, .int .u64 r4.1), (11, .bool r4.2), (13, .bool r5.2), (15, .bool r6.2), (16, .int .u64 r7.1), (17, .bool r7.2), (20, .bool (!r1))] ∧ Iv w0 [] μ μ5 [] w) ?_ ?_
    · have H := bI hz8
      refine w_reg ?_
      refine stp hA (r_mv hA rfl) rfl fun a hA => 
        stp hA (r_mv hA rfl) rfl fun a hA => ?_
      rcases Bool.eq_false_or_eq_true r1 with hc2 | hc2
      · have hc20 := hc2; have H := bT H hc2
        refine o_yes hA rfl rfl hc20 <| 
          stp hA (r_mv hA rfl) rfl fun a hA => 
          o_yes hA rfl rfl hc20 <| 
          stp hA (r_mv hA rfl) rfl fun a hA => 
          o_yes hA rfl rfl hc20 <| 
          stp hA (r_eqlb Try.underlying4 hA rfl rfl) rfl fun a hA => 
          stp hA (r_pick_t hA rfl hc20 rfl) rfl fun a hA => 
          stp hA (r_mv hA rfl) rfl fun a hA => ?_
        rcases Bool.eq_false_or_eq_true (decide (r2.2 = r3.2)) with hc3 | hc3
        · have hc30 := hc3; have hc3 := of_decide_eq_true hc3; have H := bT H hc3
          refine o_yes hA rfl rfl hc30 <| 
            stp hA (r_mv hA rfl) rfl fun a hA => 
            o_yes hA rfl rfl hc30 <| 
            stp hA (r_mv hA rfl) rfl fun a hA => 
            o_yes hA rfl rfl hc30 <| 
            stp hA (r_mv hA rfl) rfl fun a hA => 
            o_yes hA rfl rfl hc30 <| 
            stp hA (r_add hA rfl rfl) rfl fun a hA => 
            o_yes hA rfl rfl hc30 <| 
            stp hA (r_leq hA rfl rfl) rfl fun a hA => 
            o_yes hA rfl rfl hc30 <| 
            stp hA (r_eqlb Try.underlying4 hA rfl rfl) rfl fun a hA => 
            stp hA (r_pick_t hA rfl hc30 rfl) rfl fun a hA => 
            stp hA (r_mv hA rfl) rfl fun a hA => ?_
          rcases Bool.eq_false_or_eq_true (decide (r2.2 = (decide ((IntKind.u64.wrap ((Int.tmod x0 2100000000000001) + (Int.tmod x1 2100000000000001))) ≤ 2100000000000000)))) with hc4 | hc4
          · have hc40 := hc4; have hc4 := of_decide_eq_true hc4; have H := bT H hc4
            refine o_yes hA rfl rfl hc40 <| 
              stp hA (r_mv hA rfl) rfl fun a hA => 
              o_yes hA rfl rfl hc40 <| 
              stp hA (r_mv hA rfl) rfl fun a hA => 
              o_yes hA rfl rfl hc40 <| 
              stp hA (r_eql hA rfl rfl) rfl fun a hA => 
              stp hA (r_pick_t hA rfl hc40 rfl) rfl fun a hA => 
              stp hA (r_mv hA rfl) rfl fun a hA => ?_
            rcases Bool.eq_false_or_eq_true (decide (r2.1 = r3.1)) with hc5 | hc5
            · have hc50 := hc5; have hc5 := of_decide_eq_true hc5; have H := bT H hc5
              refine o_yes hA rfl rfl hc50 <| 
                stp hA (r_mv hA rfl) rfl fun a hA => 
                o_yes hA rfl rfl hc50 <| 
                stp hA (r_not hA rfl) rfl fun a hA => 
                o_yes hA rfl rfl hc50 <| 
                stp hA (r_mv hA rfl) rfl fun a hA => ?_
              rcases Bool.eq_false_or_eq_true (!r2.2) with hc6 | hc6
              · have hc60 := hc6; have hc6 := nT hc6; have hc6 := ft hc6; have H := bF H hc6
                refine o_no hA rfl rfl (by rw [hc60]; simp [vb]) rfl fun a hA => 
                  o_no hA rfl rfl (by rw [hc60]; simp [vb]) rfl fun a hA => 
                  o_no hA rfl rfl (by rw [hc60]; simp [vb]) rfl fun a hA => 
                  o_no hA rfl rfl (by rw [hc60]; simp [vb]) rfl fun a hA => 
                  o_no hA rfl rfl (by rw [hc60]; simp [vb]) rfl fun a hA => 
                  o_yes hA rfl rfl hc50 <| 
                  stp hA (r_pick_t hA rfl hc60 rfl) rfl fun a hA => 
                  stp hA (r_pick_t hA rfl hc50 rfl) rfl fun a hA => 
                  stp hA (r_mv hA rfl) rfl fun a hA => 
                  o_yes hA rfl rfl rfl <| 
                  stp hA (r_mv hA rfl) rfl fun a hA => 
                  stp hA (r_pick_t hA rfl rfl rfl) rfl fun a hA => 
                  stp hA (r_mv hA rfl) rfl fun a hA => ?_
                rcases Bool.eq_false_or_eq_true r4.2 with hc7 | hc7
                · have hc70 := hc7; have H := bT H hc7
                  refine o_yes hA rfl rfl hc70 <| 
                    stp hA (r_mv hA rfl) rfl fun a hA => 
                    o_yes hA rfl rfl hc70 <| 
                    stp hA (r_eql hA rfl rfl) rfl fun a hA => 
                    stp hA (r_pick_t hA rfl hc70 rfl) rfl fun a hA => 
                    stp hA (r_mv hA rfl) rfl fun a hA => ?_
                  rcases Bool.eq_false_or_eq_true (decide (r4.1 = 2100000000000000)) with hc8 | hc8
                  · have hc80 := hc8; have hc8 := of_decide_eq_true hc8; have H := bT H hc8
                    refine o_yes hA rfl rfl hc80 <| 
                      stp hA (r_mv hA rfl) rfl fun a hA => 
                      o_yes hA rfl rfl hc80 <| 
                      stp hA (r_not hA rfl) rfl fun a hA => 
                      stp hA (r_pick_t hA rfl hc80 rfl) rfl fun a hA => 
                      stp hA (r_mv hA rfl) rfl fun a hA => ?_
                    rcases Bool.eq_false_or_eq_true (!r5.2) with hc9 | hc9
                    · have hc90 := hc9; have hc9 := nT hc9; have hc9 := ft hc9; have H := bF H hc9
                      refine o_yes hA rfl rfl hc90 <| 
                        stp hA (r_mv hA rfl) rfl fun a hA => 
                        o_yes hA rfl rfl hc90 <| 
                        stp hA (r_not hA rfl) rfl fun a hA => 
                        stp hA (r_pick_t hA rfl hc90 rfl) rfl fun a hA => 
                        stp hA (r_mv hA rfl) rfl fun a hA => ?_
                      rcases Bool.eq_false_or_eq_true (!r6.2) with hc10 | hc10
                      · have hc100 := hc10; have hc10 := nT hc10; have hc10 := ft hc10; have H := bF H hc10
                        refine o_yes hA rfl rfl hc100 <| 
                          stp hA (r_mv hA rfl) rfl fun a hA => 
                          stp hA (r_pick_t hA rfl hc100 rfl) rfl fun a hA => 
                          stp hA (r_mv hA rfl) rfl fun a hA => ?_
                        rcases Bool.eq_false_or_eq_true r7.2 with hc11 | hc11
                        · have hc110 := hc11; have H := bT H hc11
                          refine o_yes hA rfl rfl hc110 <| 
                            stp hA (r_mv hA rfl) rfl fun a hA => 
                            o_yes hA rfl rfl hc110 <| 
                            stp hA (r_eql hA rfl rfl) rfl fun a hA => 
                            stp hA (r_pick_t hA rfl hc110 rfl) rfl fun a hA => 
                            stp hA (r_as hA rfl) rfl fun a hA => ?_
                          refine o_nil ?_
                          cases Option.some.inj (bS H)
                          exact ⟨hA.sub ⟨rfl, rfl, rfl, rfl, rfl, rfl, rfl, rfl, rfl, rfl, rfl, rfl, rfl, rfl, rfl, trivial⟩, hI⟩
                        · have hc110 := hc11; have hc11 := ft hc11; have H := bF H hc11
                          refine o_no hA rfl rfl (by rw [hc110]; simp [vb]) rfl fun a hA => 
                            o_no hA rfl rfl (by rw [hc110]; simp [vb]) rfl fun a hA => 
                            stp hA (r_pick_f hA rfl hc110 rfl) rfl fun a hA => 
                            stp hA (r_as hA rfl) rfl fun a hA => ?_
                          refine o_nil ?_
                          cases Option.some.inj (bS H)
                          exact ⟨hA.sub ⟨rfl, rfl, rfl, rfl, rfl, rfl, rfl, rfl, rfl, rfl, rfl, rfl, rfl, rfl, rfl, trivial⟩, hI⟩
                      · have hc100 := hc10; have hc10 := nF hc10; have H := bT H hc10
                        refine o_no hA rfl rfl (by rw [hc100]; simp [vb]) rfl fun a hA => 
                          stp hA (r_pick_f hA rfl hc100 rfl) rfl fun a hA => 
                          stp hA (r_mv hA rfl) rfl fun a hA => 
                          o_no hA rfl rfl (by simp [vb]) rfl fun a hA => 
                          o_no hA rfl rfl (by simp [vb]) rfl fun a hA => 
                          stp hA (r_pick_f hA rfl rfl rfl) rfl fun a hA => 
                          stp hA (r_as hA rfl) rfl fun a hA => ?_
                        refine o_nil ?_
                        cases Option.some.inj (bS H)
                        exact ⟨hA.sub ⟨rfl, rfl, rfl, rfl, rfl, rfl, rfl, rfl, rfl, rfl, rfl, rfl, rfl, rfl, rfl, trivial⟩, hI⟩
                    · have hc90 := hc9; have hc9 := nF hc9; have H := bT H hc9
                      refine o_no hA rfl rfl (by rw [hc90]; simp [vb]) rfl fun a hA => 
                        o_no hA rfl rfl (by rw [hc90]; simp [vb]) rfl fun a hA => 
                        stp hA (r_pick_f hA rfl hc90 rfl) rfl fun a hA => 
                        stp hA (r_mv hA rfl) rfl fun a hA => 
                        o_no hA rfl rfl (by simp [vb]) rfl fun a hA => 
                        stp hA (r_pick_f hA rfl rfl rfl) rfl fun a hA => 
                        stp hA (r_mv hA rfl) rfl fun a hA => 
                        o_no hA rfl rfl (by simp [vb]) rfl fun a hA => 
                        o_no hA rfl rfl (by simp [vb]) rfl fun a hA => 
                        stp hA (r_pick_f hA rfl rfl rfl) rfl fun a hA => 
                        stp hA (r_as hA rfl) rfl fun a hA => ?_
                      refine o_nil ?_
                      cases Option.some.inj (bS H)
                      exact ⟨hA.sub ⟨rfl, rfl, rfl, rfl, rfl, rfl, rfl, rfl, rfl, rfl, rfl, rfl, rfl, rfl, rfl, trivial⟩, hI⟩
                  · have hc80 := hc8; have hc8 := of_decide_eq_false hc8; have H := bF H hc8
                    refine o_no hA rfl rfl (by rw [hc80]; simp [vb]) rfl fun a hA => 
                      o_no hA rfl rfl (by rw [hc80]; simp [vb]) rfl fun a hA => 
                      stp hA (r_pick_f hA rfl hc80 rfl) rfl fun a hA => 
                      stp hA (r_mv hA rfl) rfl fun a hA => 
                      o_no hA rfl rfl (by simp [vb]) rfl fun a hA => 
                      o_no hA rfl rfl (by simp [vb]) rfl fun a hA => 
                      stp hA (r_pick_f hA rfl rfl rfl) rfl fun a hA => 
                      stp hA (r_mv hA rfl) rfl fun a hA => 
                      o_no hA rfl rfl (by simp [vb]) rfl fun a hA => 
                      stp hA (r_pick_f hA rfl rfl rfl) rfl fun a hA => 
                      stp hA (r_mv hA rfl) rfl fun a hA => 
                      o_no hA rfl rfl (by simp [vb]) rfl fun a hA => 
                      o_no hA rfl rfl (by simp [vb]) rfl fun a hA => 
                      stp hA (r_pick_f hA rfl rfl rfl) rfl fun a hA => 
                      stp hA (r_as hA rfl) rfl fun a hA => ?_
                    refine o_nil ?_
                    cases Option.some.inj (bS H)
                    exact ⟨hA.sub ⟨rfl, rfl, rfl, rfl, rfl, rfl, rfl, rfl, rfl, rfl, rfl, rfl, rfl, rfl, rfl, trivial⟩, hI⟩
                · have hc70 := hc7; have hc7 := ft hc7; have H := bF H hc7
                  refine o_no hA rfl rfl (by rw [hc70]; simp [vb]) rfl fun a hA => 
                    o_no hA rfl rfl (by rw [hc70]; simp [vb]) rfl fun a hA => 
                    stp hA (r_pick_f hA rfl hc70 rfl) rfl fun a hA => 
                    stp hA (r_mv hA rfl) rfl fun a hA => 
                    o_no hA rfl rfl (by simp [vb]) rfl fun a hA => 
                    o_no hA rfl rfl (by simp [vb]) rfl fun a hA => 
                    stp hA (r_pick_f hA rfl rfl rfl) rfl fun a hA => 
                    stp hA (r_mv hA rfl) rfl fun a hA => 
                    o_no hA rfl rfl (by simp [vb]) rfl fun a hA => 
                    o_no hA rfl rfl (by simp [vb]) rfl fun a hA => 
                    stp hA (r_pick_f hA rfl rfl rfl) rfl fun a hA => 
                    stp hA (r_mv hA rfl) rfl fun a hA => 
                    o_no hA rfl rfl (by simp [vb]) rfl fun a hA => 
                    stp hA (r_pick_f hA rfl rfl rfl) rfl fun a hA => 
                    stp hA (r_mv hA rfl) rfl fun a hA => 
                    o_no hA rfl rfl (by simp [vb]) rfl fun a hA => 
                    o_no hA rfl rfl (by simp [vb]) rfl fun a hA => 
                    stp hA (r_pick_f hA rfl rfl rfl) rfl fun a hA => 
                    stp hA (r_as hA rfl) rfl fun a hA => ?_
                  refine o_nil ?_
                  cases Option.some.inj (bS H)
                  exact ⟨hA.sub ⟨rfl, rfl, rfl, rfl, rfl, rfl, rfl, rfl, rfl, rfl, rfl, rfl, rfl, rfl, rfl, trivial⟩, hI⟩
              · have hc60 := hc6; have hc6 := nF hc6; have H := bT H hc6
                refine o_yes hA rfl rfl hc60 <| 
                  stp hA (r_mv hA rfl) rfl fun a hA => 
                  o_yes hA rfl rfl hc60 <| 
                  stp hA (r_mv hA rfl) rfl fun a hA => 
                  o_yes hA rfl rfl hc60 <| 
                  stp hA (r_mv hA rfl) rfl fun a hA => 
                  o_yes hA rfl rfl hc60 <| 
                  stp hA (r_add hA rfl rfl) rfl fun a hA => 
                  o_yes hA rfl rfl hc60 <| 
                  stp hA (r_eql hA rfl rfl) rfl fun a hA => 
                  o_yes hA rfl rfl hc50 <| 
                  stp hA (r_pick_f hA rfl hc60 rfl) rfl fun a hA => 
                  stp hA (r_pick_t hA rfl hc50 rfl) rfl fun a hA => 
                  stp hA (r_mv hA rfl) rfl fun a hA => ?_
                rcases Bool.eq_false_or_eq_true (decide (r2.1 = (IntKind.u64.wrap ((Int.tmod x0 2100000000000001) + (Int.tmod x1 2100000000000001))))) with hc12 | hc12
                · have hc120 := hc12; have hc12 := of_decide_eq_true hc12; have H := bT H hc12
                  refine o_yes hA rfl rfl hc120 <| 
                    stp hA (r_mv hA rfl) rfl fun a hA => 
                    stp hA (r_pick_t hA rfl hc120 rfl) rfl fun a hA => 
                    stp hA (r_mv hA rfl) rfl fun a hA => ?_
                  rcases Bool.eq_false_or_eq_true r4.2 with hc13 | hc13
                  · have hc130 := hc13; have H := bT H hc13
                    refine o_yes hA rfl rfl hc130 <| 
                      stp hA (r_mv hA rfl) rfl fun a hA => 
                      o_yes hA rfl rfl hc130 <| 
                      stp hA (r_eql hA rfl rfl) rfl fun a hA => 
                      stp hA (r_pick_t hA rfl hc130 rfl) rfl fun a hA => 
                      stp hA (r_mv hA rfl) rfl fun a hA => ?_
                    rcases Bool.eq_false_or_eq_true (decide (r4.1 = 2100000000000000)) with hc14 | hc14
                    · have hc140 := hc14; have hc14 := of_decide_eq_true hc14; have H := bT H hc14
                      refine o_yes hA rfl rfl hc140 <| 
                        stp hA (r_mv hA rfl) rfl fun a hA => 
                        o_yes hA rfl rfl hc140 <| 
                        stp hA (r_not hA rfl) rfl fun a hA => 
                        stp hA (r_pick_t hA rfl hc140 rfl) rfl fun a hA => 
                        stp hA (r_mv hA rfl) rfl fun a hA => ?_
                      rcases Bool.eq_false_or_eq_true (!r5.2) with hc15 | hc15
                      · have hc150 := hc15; have hc15 := nT hc15; have hc15 := ft hc15; have H := bF H hc15
                        refine o_yes hA rfl rfl hc150 <| 
                          stp hA (r_mv hA rfl) rfl fun a hA => 
                          o_yes hA rfl rfl hc150 <| 
                          stp hA (r_not hA rfl) rfl fun a hA => 
                          stp hA (r_pick_t hA rfl hc150 rfl) rfl fun a hA => 
                          stp hA (r_mv hA rfl) rfl fun a hA => ?_
                        rcases Bool.eq_false_or_eq_true (!r6.2) with hc16 | hc16
                        · have hc160 := hc16; have hc16 := nT hc16; have hc16 := ft hc16; have H := bF H hc16
                          refine o_yes hA rfl rfl hc160 <| 
                            stp hA (r_mv hA rfl) rfl fun a hA => 
                            stp hA (r_pick_t hA rfl hc160 rfl) rfl fun a hA => 
                            stp hA (r_mv hA rfl) rfl fun a hA => ?_
                          rcases Bool.eq_false_or_eq_true r7.2 with hc17 | hc17
                          · have hc170 := hc17; have H := bT H hc17
                            refine o_yes hA rfl rfl hc170 <| 
                              stp hA (r_mv hA rfl) rfl fun a hA => 
                              o_yes hA rfl rfl hc170 <| 
                              stp hA (r_eql hA rfl rfl) rfl fun a hA => 
                              stp hA (r_pick_t hA rfl hc170 rfl) rfl fun a hA => 
                              stp hA (r_as hA rfl) rfl fun a hA => ?_
                            refine o_nil ?_
                            cases Option.some.inj (bS H)
                            exact ⟨hA.sub ⟨rfl, rfl, rfl, rfl, rfl, rfl, rfl, rfl, rfl, rfl, rfl, rfl, rfl, rfl, rfl, trivial⟩, hI⟩
                          · have hc170 := hc17; have hc17 := ft hc17; have H := bF H hc17
                            refine o_no hA rfl rfl (by rw [hc170]; simp [vb]) rfl fun a hA => 
                              o_no hA rfl rfl (by rw [hc170]; simp [vb]) rfl fun a hA => 
                              stp hA (r_pick_f hA rfl hc170 rfl) rfl fun a hA => 
                              stp hA (r_as hA rfl) rfl fun a hA => ?_
                            refine o_nil ?_
                            cases Option.some.inj (bS H)
                            exact ⟨hA.sub ⟨rfl, rfl, rfl, rfl, rfl, rfl, rfl, rfl, rfl, rfl, rfl, rfl, rfl, rfl, rfl, trivial⟩, hI⟩
                        · have hc160 := hc16; have hc16 := nF hc16; have H := bT H hc16
                          refine o_no hA rfl rfl (by rw [hc160]; simp [vb]) rfl fun a hA => 
                            stp hA (r_pick_f hA rfl hc160 rfl) rfl fun a hA => 
                            stp hA (r_mv hA rfl) rfl fun a hA => 
                            o_no hA rfl rfl (by simp [vb]) rfl fun a hA => 
                            o_no hA rfl rfl (by simp [vb]) rfl fun a hA => 
                            stp hA (r_pick_f hA rfl rfl rfl) rfl fun a hA => 
                            stp hA (r_as hA rfl) rfl fun a hA => ?_
                          refine o_nil ?_
                          cases Option.some.inj (bS H)
                          exact ⟨hA.sub ⟨rfl, rfl, rfl, rfl, rfl, rfl, rfl, rfl, rfl, rfl, rfl, rfl, rfl, rfl, rfl, trivial⟩, hI⟩
                      · have hc150 := hc15; have hc15 := nF hc15; have H := bT H hc15
                        refine o_no hA rfl rfl (by rw [hc150]; simp [vb]) rfl fun a hA => 
                          o_no hA rfl rfl (by rw [hc150]; simp [vb]) rfl fun a hA => 
                          stp hA (r_pick_f hA rfl hc150 rfl) rfl fun a hA => 
                          stp hA (r_mv hA rfl) rfl fun a hA => 
                          o_no hA rfl rfl (by simp [vb]) rfl fun a hA => 
                          stp hA (r_pick_f hA rfl rfl rfl) rfl fun a hA => 
                          stp hA (r_mv hA rfl) rfl fun a hA => 
                          o_no hA rfl rfl (by simp [vb]) rfl fun a hA => 
                          o_no hA rfl rfl (by simp [vb]) rfl fun a hA => 
                          stp hA (r_pick_f hA rfl rfl rfl) rfl fun a hA => 
                          stp hA (r_as hA rfl) rfl fun a hA => ?_
                        refine o_nil ?_
                        cases Option.some.inj (bS H)
                        exact ⟨hA.sub ⟨rfl, rfl, rfl, rfl, rfl, rfl, rfl, rfl, rfl, rfl, rfl, rfl, rfl, rfl, rfl, trivial⟩, hI⟩
                    · have hc140 := hc14; have hc14 := of_decide_eq_false hc14; have H := bF H hc14
                      refine o_no hA rfl rfl (by rw [hc140]; simp [vb]) rfl fun a hA => 
                        o_no hA rfl rfl (by rw [hc140]; simp [vb]) rfl fun a hA => 
                        stp hA (r_pick_f hA rfl hc140 rfl) rfl fun a hA => 
                        stp hA (r_mv hA rfl) rfl fun a hA => 
                        o_no hA rfl rfl (by simp [vb]) rfl fun a hA => 
                        o_no hA rfl rfl (by simp [vb]) rfl fun a hA => 
                        stp hA (r_pick_f hA rfl rfl rfl) rfl fun a hA => 
                        stp hA (r_mv hA rfl) rfl fun a hA => 
                        o_no hA rfl rfl (by simp [vb]) rfl fun a hA => 
                        stp hA (r_pick_f hA rfl rfl rfl) rfl fun a hA => 
                        stp hA (r_mv hA rfl) rfl fun a hA => 
                        o_no hA rfl rfl (by simp [vb]) rfl fun a hA => 
                        o_no hA rfl rfl (by simp [vb]) rfl fun a hA => 
                        stp hA (r_pick_f hA rfl rfl rfl) rfl fun a hA => 
                        stp hA (r_as hA rfl) rfl fun a hA => ?_
                      refine o_nil ?_
                      cases Option.some.inj (bS H)
                      exact ⟨hA.sub ⟨rfl, rfl, rfl, rfl, rfl, rfl, rfl, rfl, rfl, rfl, rfl, rfl, rfl, rfl, rfl, trivial⟩, hI⟩
                  · have hc130 := hc13; have hc13 := ft hc13; have H := bF H hc13
                    refine o_no hA rfl rfl (by rw [hc130]; simp [vb]) rfl fun a hA => 
                      o_no hA rfl rfl (by rw [hc130]; simp [vb]) rfl fun a hA => 
                      stp hA (r_pick_f hA rfl hc130 rfl) rfl fun a hA => 
                      stp hA (r_mv hA rfl) rfl fun a hA => 
                      o_no hA rfl rfl (by simp [vb]) rfl fun a hA => 
                      o_no hA rfl rfl (by simp [vb]) rfl fun a hA => 
                      stp hA (r_pick_f hA rfl rfl rfl) rfl fun a hA => 
                      stp hA (r_mv hA rfl) rfl fun a hA => 
                      o_no hA rfl rfl (by simp [vb]) rfl fun a hA => 
                      o_no hA rfl rfl (by simp [vb]) rfl fun a hA => 
                      stp hA (r_pick_f hA rfl rfl rfl) rfl fun a hA => 
                      stp hA (r_mv hA rfl) rfl fun a hA => 
                      o_no hA rfl rfl (by simp [vb]) rfl fun a hA => 
                      stp hA (r_pick_f hA rfl rfl rfl) rfl fun a hA => 
                      stp hA (r_mv hA rfl) rfl fun a hA => 
                      o_no hA rfl rfl (by simp [vb]) rfl fun a hA => 
                      o_no hA rfl rfl (by simp [vb]) rfl fun a hA => 
                      stp hA (r_pick_f hA rfl rfl rfl) rfl fun a hA => 
                      stp hA (r_as hA rfl) rfl fun a hA => ?_
                    refine o_nil ?_
                    cases Option.some.inj (bS H)
                    exact ⟨hA.sub ⟨rfl, rfl, rfl, rfl, rfl, rfl, rfl, rfl, rfl, rfl, rfl, rfl, rfl, rfl, rfl, trivial⟩, hI⟩
                · have hc120 := hc12; have hc12 := of_decide_eq_false hc12; have H := bF H hc12
                  refine o_no hA rfl rfl (by rw [hc120]; simp [vb]) rfl fun a hA => 
                    stp hA (r_pick_f hA rfl hc120 rfl) rfl fun a hA => 
                    stp hA (r_mv hA rfl) rfl fun a hA => 
                    o_no hA rfl rfl (by simp [vb]) rfl fun a hA => 
                    o_no hA rfl rfl (by simp [vb]) rfl fun a hA => 
                    stp hA (r_pick_f hA rfl rfl rfl) rfl fun a hA => 
                    stp hA (r_mv hA rfl) rfl fun a hA => 
                    o_no hA rfl rfl (by simp [vb]) rfl fun a hA => 
                    o_no hA rfl rfl (by simp [vb]) rfl fun a hA => 
                    stp hA (r_pick_f hA rfl rfl rfl) rfl fun a hA => 
                    stp hA (r_mv hA rfl) rfl fun a hA => 
                    o_no hA rfl rfl (by simp [vb]) rfl fun a hA => 
                    o_no hA rfl rfl (by simp [vb]) rfl fun a hA => 
                    stp hA (r_pick_f hA rfl rfl rfl) rfl fun a hA => 
                    stp hA (r_mv hA rfl) rfl fun a hA => 
                    o_no hA rfl rfl (by simp [vb]) rfl fun a hA => 
                    stp hA (r_pick_f hA rfl rfl rfl) rfl fun a hA => 
                    stp hA (r_mv hA rfl) rfl fun a hA => 
                    o_no hA rfl rfl (by simp [vb]) rfl fun a hA => 
                    o_no hA rfl rfl (by simp [vb]) rfl fun a hA => 
                    stp hA (r_pick_f hA rfl rfl rfl) rfl fun a hA => 
                    stp hA (r_as hA rfl) rfl fun a hA => ?_
                  refine o_nil ?_
                  cases Option.some.inj (bS H)
                  exact ⟨hA.sub ⟨rfl, rfl, rfl, rfl, rfl, rfl, rfl, rfl, rfl, rfl, rfl, rfl, rfl, rfl, rfl, trivial⟩, hI⟩
            · have hc50 := hc5; have hc5 := of_decide_eq_false hc5; have H := bF H hc5
              refine o_no hA rfl rfl (by rw [hc50]; simp [vb]) rfl fun a hA => 
                o_no hA rfl rfl (by rw [hc50]; simp [vb]) rfl fun a hA => 
                o_no hA rfl rfl (by rw [hc50]; simp [vb]) rfl fun a hA => 
                o_no hA rfl rfl (by simp [vb, undef]) rfl fun a hA => 
                o_no hA rfl rfl (by simp [vb, undef]) rfl fun a hA => 
                o_no hA rfl rfl (by simp [vb, undef]) rfl fun a hA => 
                o_no hA rfl rfl (by simp [vb, undef]) rfl fun a hA => 
                o_no hA rfl rfl (by simp [vb, undef]) rfl fun a hA => 
                o_no hA rfl rfl (by rw [hc50]; simp [vb]) rfl fun a hA => 
                stp hA (r_pick_f hA rfl hc50 rfl) rfl fun a hA => 
                stp hA (r_mv hA rfl) rfl fun a hA => 
                o_no hA rfl rfl (by simp [vb]) rfl fun a hA => 
                stp hA (r_pick_f hA rfl rfl rfl) rfl fun a hA => 
                stp hA (r_mv hA rfl) rfl fun a hA => 
                o_no hA rfl rfl (by simp [vb]) rfl fun a hA => 
                o_no hA rfl rfl (by simp [vb]) rfl fun a hA => 
                stp hA (r_pick_f hA rfl rfl rfl) rfl fun a hA => 
                stp hA (r_mv hA rfl) rfl fun a hA => 
                o_no hA rfl rfl (by simp [vb]) rfl fun a hA => 
                o_no hA rfl rfl (by simp [vb]) rfl fun a hA => 
                stp hA (r_pick_f hA rfl rfl rfl) rfl fun a hA => 
                stp hA (r_mv hA rfl) rfl fun a hA => 
                o_no hA rfl rfl (by simp [vb]) rfl fun a hA => 
                o_no hA rfl rfl (by simp [vb]) rfl fun a hA => 
                stp hA (r_pick_f hA rfl rfl rfl) rfl fun a hA => 
                stp hA (r_mv hA rfl) rfl fun a hA => 
                o_no hA rfl rfl (by simp [vb]) rfl fun a hA => 
                stp hA (r_pick_f hA rfl rfl rfl) rfl fun a hA => 
                stp hA (r_mv hA rfl) rfl fun a hA => 
                o_no hA rfl rfl (by simp [vb]) rfl fun a hA => 
                o_no hA rfl rfl (by simp [vb]) rfl fun a hA => 
                stp hA (r_pick_f hA rfl rfl rfl) rfl fun a hA => 
                stp hA (r_as hA rfl) rfl fun a hA => ?_
              refine o_nil ?_
              cases Option.some.inj (bS H)
              exact ⟨hA.sub ⟨rfl, rfl, rfl, rfl, rfl, rfl, rfl, rfl, rfl, rfl, rfl, rfl, rfl, rfl, rfl, trivial⟩, hI⟩
          · have hc40 := hc4; have hc4 := of_decide_eq_false hc4; have H := bF H hc4
            refine o_no hA rfl rfl (by rw [hc40]; simp [vb]) rfl fun a hA => 
              o_no hA rfl rfl (by rw [hc40]; simp [vb]) rfl fun a hA => 
              o_no hA rfl rfl (by rw [hc40]; simp [vb]) rfl fun a hA => 
              stp hA (r_pick_f hA rfl hc40 rfl) rfl fun a hA => 
              stp hA (r_mv hA rfl) rfl fun a hA => 
              o_no hA rfl rfl (by simp [vb]) rfl fun a hA => 
              o_no hA rfl rfl (by simp [vb]) rfl fun a hA => 
              o_no hA rfl rfl (by simp [vb]) rfl fun a hA => 
              o_no hA rfl rfl (by simp [vb, undef]) rfl fun a hA => 
              o_no hA rfl rfl (by simp [vb, undef]) rfl fun a hA => 
              o_no hA rfl rfl (by simp [vb, undef]) rfl fun a hA => 
              o_no hA rfl rfl (by simp [vb, undef]) rfl fun a hA => 
              o_no hA rfl rfl (by simp [vb, undef]) rfl fun a hA => 
              o_no hA rfl rfl (by simp [vb]) rfl fun a hA => 
              stp hA (r_pick_f hA rfl rfl rfl) rfl fun a hA => 
              stp hA (r_mv hA rfl) rfl fun a hA => 
              o_no hA rfl rfl (by simp [vb]) rfl fun a hA => 
              stp hA (r_pick_f hA rfl rfl rfl) rfl fun a hA => 
              stp hA (r_mv hA rfl) rfl fun a hA => 
              o_no hA rfl rfl (by simp [vb]) rfl fun a hA => 
              o_no hA rfl rfl (by simp [vb]) rfl fun a hA => 
              stp hA (r_pick_f hA rfl rfl rfl) rfl fun a hA => 
              stp hA (r_mv hA rfl) rfl fun a hA => 
              o_no hA rfl rfl (by simp [vb]) rfl fun a hA => 
              o_no hA rfl rfl (by simp [vb]) rfl fun a hA => 
              stp hA (r_pick_f hA rfl rfl rfl) rfl fun a hA => 
              stp hA (r_mv hA rfl) rfl fun a hA => 
              o_no hA rfl rfl (by simp [vb]) rfl fun a hA => 
              o_no hA rfl rfl (by simp [vb]) rfl fun a hA => 
              stp hA (r_pick_f hA rfl rfl rfl) rfl fun a hA => 
              stp hA (r_mv hA rfl) rfl fun a hA => 
              o_no hA rfl rfl (by simp [vb]) rfl fun a hA => 
              stp hA (r_pick_f hA rfl rfl rfl) rfl fun a hA => 
              stp hA (r_mv hA rfl) rfl fun a hA => 
              o_no hA rfl rfl (by simp [vb]) rfl fun a hA => 
              o_no hA rfl rfl (by simp [vb]) rfl fun a hA => 
              stp hA (r_pick_f hA rfl rfl rfl) rfl fun a hA => 
              stp hA (r_as hA rfl) rfl fun a hA => ?_
            refine o_nil ?_
            cases Option.some.inj (bS H)
            exact ⟨hA.sub ⟨rfl, rfl, rfl, rfl, rfl, rfl, rfl, rfl, rfl, rfl, rfl, rfl, rfl, rfl, rfl, trivial⟩, hI⟩
        · have hc30 := hc3; have hc3 := of_decide_eq_false hc3; have H := bF H hc3
          refine o_no hA rfl rfl (by rw [hc30]; simp [vb]) rfl fun a hA => 
            o_no hA rfl rfl (by rw [hc30]; simp [vb]) rfl fun a hA => 
            o_no hA rfl rfl (by rw [hc30]; simp [vb]) rfl fun a hA => 
            o_no hA rfl rfl (by rw [hc30]; simp [vb]) rfl fun a hA => 
            o_no hA rfl rfl (by rw [hc30]; simp [vb]) rfl fun a hA => 
            o_no hA rfl rfl (by rw [hc30]; simp [vb]) rfl fun a hA => 
            stp hA (r_pick_f hA rfl hc30 rfl) rfl fun a hA => 
            stp hA (r_mv hA rfl) rfl fun a hA => 
            o_no hA rfl rfl (by simp [vb]) rfl fun a hA => 
            o_no hA rfl rfl (by simp [vb]) rfl fun a hA => 
            o_no hA rfl rfl (by simp [vb]) rfl fun a hA => 
            stp hA (r_pick_f hA rfl rfl rfl) rfl fun a hA => 
            stp hA (r_mv hA rfl) rfl fun a hA => 
            o_no hA rfl rfl (by simp [vb]) rfl fun a hA => 
            o_no hA rfl rfl (by simp [vb]) rfl fun a hA => 
            o_no hA rfl rfl (by simp [vb]) rfl fun a hA => 
            o_no hA rfl rfl (by simp [vb, undef]) rfl fun a hA => 
            o_no hA rfl rfl (by simp [vb, undef]) rfl fun a hA => 
            o_no hA rfl rfl (by simp [vb, undef]) rfl fun a hA => 
            o_no hA rfl rfl (by simp [vb, undef]) rfl fun a hA => 
            o_no hA rfl rfl (by simp [vb, undef]) rfl fun a hA => 
            o_no hA rfl rfl (by simp [vb]) rfl fun a hA => 
            stp hA (r_pick_f hA rfl rfl rfl) rfl fun a hA => 
            stp hA (r_mv hA rfl) rfl fun a hA => 
            o_no hA rfl rfl (by simp [vb]) rfl fun a hA => 
            stp hA (r_pick_f hA rfl rfl rfl) rfl fun a hA => 
            stp hA (r_mv hA rfl) rfl fun a hA => 
            o_no hA rfl rfl (by simp [vb]) rfl fun a hA => 
            o_no hA rfl rfl (by simp [vb]) rfl fun a hA => 
            stp hA (r_pick_f hA rfl rfl rfl) rfl fun a hA => 
            stp hA (r_mv hA rfl) rfl fun a hA => 
            o_no hA rfl rfl (by simp [vb]) rfl fun a hA => 
            o_no hA rfl rfl (by simp [vb]) rfl fun a hA => 
            stp hA (r_pick_f hA rfl rfl rfl) rfl fun a hA => 
            stp hA (r_mv hA rfl) rfl fun a hA => 
            o_no hA rfl rfl (by simp [vb]) rfl fun a hA => 
            o_no hA rfl rfl (by simp [vb]) rfl fun a hA => 
            stp hA (r_pick_f hA rfl rfl rfl) rfl fun a hA => 
            stp hA (r_mv hA rfl) rfl fun a hA => 
            o_no hA rfl rfl (by simp [vb]) rfl fun a hA => 
            stp hA (r_pick_f hA rfl rfl rfl) rfl fun a hA => 
            stp hA (r_mv hA rfl) rfl fun a hA => 
            o_no hA rfl rfl (by simp [vb]) rfl fun a hA => 
            o_no hA rfl rfl (by simp [vb]) rfl fun a hA => 
            stp hA (r_pick_f hA rfl rfl rfl) rfl fun a hA => 
            stp hA (r_as hA rfl) rfl fun a hA => ?_
          refine o_nil ?_
          cases Option.some.inj (bS H)
          exact ⟨hA.sub ⟨rfl, rfl, rfl, rfl, rfl, rfl, rfl, rfl, rfl, rfl, rfl, rfl, rfl, rfl, rfl, trivial⟩, hI⟩
      · have hc20 := hc2; have hc2 := ft hc2; have H := bF H hc2
        refine o_no hA rfl rfl (by rw [hc20]; simp [vb]) rfl fun a hA => 
          o_no hA rfl rfl (by rw [hc20]; simp [vb]) rfl fun a hA => 
          o_no hA rfl rfl (by rw [hc20]; simp [vb]) rfl fun a hA => 
          stp hA (r_pick_f hA rfl hc20 rfl) rfl fun a hA => 
          stp hA (r_mv hA rfl) rfl fun a hA => 
          o_no hA rfl rfl (by simp [vb]) rfl fun a hA => 
          o_no hA rfl rfl (by simp [vb]) rfl fun a hA => 
          o_no hA rfl rfl (by simp [vb]) rfl fun a hA => 
          o_no hA rfl rfl (by simp [vb]) rfl fun a hA => 
          o_no hA rfl rfl (by simp [vb]) rfl fun a hA => 
          o_no hA rfl rfl (by simp [vb]) rfl fun a hA => 
          stp hA (r_pick_f hA rfl rfl rfl) rfl fun a hA => 
          stp hA (r_mv hA rfl) rfl fun a hA => 
          o_no hA rfl rfl (by simp [vb]) rfl fun a hA => 
          o_no hA rfl rfl (by simp [vb]) rfl fun a hA => 
          o_no hA rfl rfl (by simp [vb]) rfl fun a hA => 
          stp hA (r_pick_f hA rfl rfl rfl) rfl fun a hA => 
          stp hA (r_mv hA rfl) rfl fun a hA => 
          o_no hA rfl rfl (by simp [vb]) rfl fun a hA => 
          o_no hA rfl rfl (by simp [vb]) rfl fun a hA => 
          o_no hA rfl rfl (by simp [vb]) rfl fun a hA => 
          o_no hA rfl rfl (by simp [vb, undef]) rfl fun a hA => 
          o_no hA rfl rfl (by simp [vb, undef]) rfl fun a hA => 
          o_no hA rfl rfl (by simp [vb, undef]) rfl fun a hA => 
          o_no hA rfl rfl (by simp [vb, undef]) rfl fun a hA => 
          o_no hA rfl rfl (by simp [vb, undef]) rfl fun a hA => 
          o_no hA rfl rfl (by simp [vb]) rfl fun a hA => 
          stp hA (r_pick_f hA rfl rfl rfl) rfl fun a hA => 
          stp hA (r_mv hA rfl) rfl fun a hA => 
          o_no hA rfl rfl (by simp [vb]) rfl fun a hA => 
          stp hA (r_pick_f hA rfl rfl rfl) rfl fun a hA => 
          stp hA (r_mv hA rfl) rfl fun a hA => 
          o_no hA rfl rfl (by simp [vb]) rfl fun a hA => 
          o_no hA rfl rfl (by simp [vb]) rfl fun a hA => 
          stp hA (r_pick_f hA rfl rfl rfl) rfl fun a hA => 
          stp hA (r_mv hA rfl) rfl fun a hA => 
          o_no hA rfl rfl (by simp [vb]) rfl fun a hA => 
          o_no hA rfl rfl (by simp [vb]) rfl fun a hA => 
          stp hA (r_pick_f hA rfl rfl rfl) rfl fun a hA => 
          stp hA (r_mv hA rfl) rfl fun a hA => 
          o_no hA rfl rfl (by simp [vb]) rfl fun a hA => 
          o_no hA rfl rfl (by simp [vb]) rfl fun a hA => 
          stp hA (r_pick_f hA rfl rfl rfl) rfl fun a hA => 
          stp hA (r_mv hA rfl) rfl fun a hA => 
          o_no hA rfl rfl (by simp [vb]) rfl fun a hA => 
          stp hA (r_pick_f hA rfl rfl rfl) rfl fun a hA => 
          stp hA (r_mv hA rfl) rfl fun a hA => 
          o_no hA rfl rfl (by simp [vb]) rfl fun a hA => 
          o_no hA rfl rfl (by simp [vb]) rfl fun a hA => 
          stp hA (r_pick_f hA rfl rfl rfl) rfl fun a hA => 
          stp hA (r_as hA rfl) rfl fun a hA => ?_
        refine o_nil ?_
        cases Option.some.inj (bS H)
        exact ⟨hA.sub ⟨rfl, rfl, rfl, rfl, rfl, rfl, rfl, rfl, rfl, rfl, rfl, rfl, rfl, rfl, rfl, trivial⟩, hI⟩
    · rintro a w ⟨hA, hI⟩
      have H := Hk1
      refine w_ret ?_
      obtain rfl := Option.some.inj (bS H)
      exact ret1 hA Try.results8 rfl ⟨_, rfl, rfl, trivial, hI.forget0⟩
end Go.Proofs.Ytnbnnphlffhgiaa.T
