/- Proved: the statement ValueSays, as given (its conditions are those of the given row, and card where there is one; no others): the call ends, with true, and the input reads as it did. This file is one of its parts. -/
import Derived.Test.YtpeelghbhihgkaaDoorPValueSays3
namespace Go.Proofs.YtpeelghbhihgkaaDoor.T
open Go Go.Proofs Go.Proofs.YtpeelghbhihgkaaDoor.K
set_option linter.unusedVariables false
set_option linter.unusedSimpArgs false
set_option maxRecDepth 20000 in
theorem value_Reward.c (μ : Store) (w0 : World) (hμ : Agr μ w0) (x0 : Int) (hx0 : InR .i64 x0) (x1 : Int) (hx1 : InR .i64 x1) (r : Int) (H : value_Reward.f x0 x1 = some r) :
    Calls Tryd.prog 77 [.int .i64 x0, .int .i64 x1].toArray w0 (fun e w' => ∃ v, e = .returned v ∧ v = .int .u64 r ∧ InR .u64 r ∧ Iv w0 [] μ μ [] w') := by
  refine enter Tryd.func77 rfl Tryd.ntmps77 rfl fun a hA => ?_
  have hI := Iv.start hμ
  have H := bI H
  refine w_seq fun _ hN1 => ?_
  refine w_reg ?_
  refine stp hA (r_as hA rfl) rfl fun a hA => ?_
  refine o_nil ?_
  refine hN1 _ _ ?_
  refine w_seq fun _ hN2 => ?_
  obtain ⟨c1, hz1, Hk1⟩ := bB H
  refine w_cut (fun a w => Fr a 21 [(0, .int .i64 x0), (1, .int .i64 x1), (4, .int .u64 0), (16, .bool c1)] ∧ Iv w0 [] μ μ [] w) ?_ ?_
  · have H := bI hz1
    refine w_reg ?_
    refine stp hA (r_mv hA rfl) rfl fun a hA => 
      stp hA (r_lss hA rfl rfl) rfl fun a hA => 
      stp hA (r_mv hA rfl) rfl fun a hA => ?_
    rcases Bool.eq_false_or_eq_true (decide (x0 < 0)) with hc1 | hc1
    · have hc10 := hc1; have hc1 := of_decide_eq_true hc1; have H := bT H hc1
      refine o_no hA rfl rfl (by rw [hc10]; simp [vb]) rfl fun a hA => 
        o_no hA rfl rfl (by rw [hc10]; simp [vb]) rfl fun a hA => 
        stp hA (r_pick_t hA rfl hc10 rfl) rfl fun a hA => 
        stp hA (r_mv hA rfl) rfl fun a hA => 
        o_no hA rfl rfl (by simp [vb]) rfl fun a hA => 
        o_no hA rfl rfl (by simp [vb]) rfl fun a hA => 
        o_no hA rfl rfl (by simp [vb]) rfl fun a hA => 
        o_no hA rfl rfl (by simp [vb]) rfl fun a hA => 
        stp hA (r_pick_t hA rfl rfl rfl) rfl fun a hA => ?_
      refine o_nil ?_
      cases Option.some.inj (bS H)
      exact ⟨hA.sub ⟨rfl, rfl, rfl, rfl, trivial⟩, hI⟩
    · have hc10 := hc1; have hc1 := of_decide_eq_false hc1; have H := bF H hc1
      refine o_yes hA rfl rfl hc10 <| 
        stp hA (r_mv hA rfl) rfl fun a hA => 
        o_yes hA rfl rfl hc10 <| 
        stp hA (r_lss hA rfl rfl) rfl fun a hA => 
        stp hA (r_pick_f hA rfl hc10 rfl) rfl fun a hA => 
        stp hA (r_mv hA rfl) rfl fun a hA => ?_
      rcases Bool.eq_false_or_eq_true (decide (x1 < 1)) with hc2 | hc2
      · have hc20 := hc2; have hc2 := of_decide_eq_true hc2; have H := bT H hc2
        refine o_no hA rfl rfl (by rw [hc20]; simp [vb]) rfl fun a hA => 
          o_no hA rfl rfl (by rw [hc20]; simp [vb]) rfl fun a hA => 
          o_no hA rfl rfl (by rw [hc20]; simp [vb]) rfl fun a hA => 
          o_no hA rfl rfl (by rw [hc20]; simp [vb]) rfl fun a hA => 
          stp hA (r_pick_t hA rfl hc20 rfl) rfl fun a hA => ?_
        refine o_nil ?_
        cases Option.some.inj (bS H)
        exact ⟨hA.sub ⟨rfl, rfl, rfl, rfl, trivial⟩, hI⟩
      · have hc20 := hc2; have hc2 := of_decide_eq_false hc2; have H := bF H hc2
        refine o_yes hA rfl rfl hc20 <| 
          stp hA (r_mv hA rfl) rfl fun a hA => 
          o_yes hA rfl rfl hc20 <| 
          stp hA (r_mv hA rfl) rfl fun a hA => 
          o_yes hA rfl rfl hc20 <| ?_
        obtain ⟨hb1, H⟩ := bG H
        refine stp hA (r_quo hA rfl rfl hb1) rfl fun a hA => 
          o_yes hA rfl rfl hc20 <| 
          stp hA (r_geq hA rfl rfl) rfl fun a hA => 
          stp hA (r_pick_f hA rfl hc20 rfl) rfl fun a hA => ?_
        refine o_nil ?_
        cases Option.some.inj (bS H)
        exact ⟨hA.sub ⟨rfl, rfl, rfl, rfl, trivial⟩, hI⟩
  · rintro a w ⟨hA, hI⟩
    have H := Hk1
    refine w_cond hA rfl (fun hc3 => ?_) (fun hc3 => ?_)
    · have hc30 := hc3; have H := bT H hc3
      refine w_seq fun _ hN3 => ?_
      refine w_reg ?_
      refine stp hA (r_as hA rfl) rfl fun a hA => ?_
      refine o_nil ?_
      refine hN3 _ _ ?_
      refine w_ret ?_
      obtain rfl := Option.some.inj (bS H)
      exact ret1 hA Tryd.results77 rfl ⟨_, rfl, rfl, (in_lit .u64 0 rfl), hI.forget0⟩
    · have hc30 := hc3; have hc3 := ft hc3; have H := bF H hc3
      refine w_skip ?_
      refine hN2 _ _ ?_
      refine w_seq fun _ hN4 => ?_
      refine w_reg ?_
      refine stp hA (r_mv hA rfl) rfl fun a hA => 
        stp hA (r_mv hA rfl) rfl fun a hA => ?_
      obtain ⟨hb2, H⟩ := bG H
      refine stp hA (r_quo hA rfl rfl hb2) rfl fun a hA => ?_
      obtain ⟨hb3, H⟩ := bG H
      refine stp hA (r_shr hA rfl rfl hb3) rfl fun a hA => 
        stp hA (r_as hA rfl) rfl fun a hA => ?_
      refine o_nil ?_
      refine hN4 _ _ ?_
      refine w_ret ?_
      obtain rfl := Option.some.inj (bS H)
      exact ret1 hA Tryd.results77 rfl ⟨_, rfl, rfl, (sR_in rfl (in_lit .u64 5000000000 rfl) _), hI.forget0⟩
set_option maxRecDepth 20000 in
theorem value_Rules.c (μ : Store) (w0 : World) (hμ : Agr μ w0) (x0 : Rules) (hx0 : RulesW μ x0) (e6 : Value) (he6 : ErS μ e6 (Er.b 7)) (r : Er) (H : value_Rules.f x0 = some r) :
    Calls Tryd.prog 69 [.agg [[.int .i64 x0.Halving], [.int .i64 x0.Maturity], [.int .i64 x0.PoolBytes], [.int .i64 x0.RedoBytes], [.int .i64 x0.LogMost], [.int .i64 x0.Ancestors], [.int .i64 x0.AncestorBytes], [.int .i64 x0.Descendants], [.int .i64 x0.DescendantBytes]].flatten.toArray].toArray w0 (fun e w' => ∃ v, e = .returned v ∧ ∃ (v0 : Value) (μ' : Store), v = v0 ∧ ErS μ' v0 r ∧ Iv w0 [] μ μ' [] w') := by
  refine enter Tryd.func69 rfl Tryd.ntmps69 rfl fun a hA => ?_
  have hI := Iv.start hμ
  have H := bI H
  refine w_seq fun _ hN1 => ?_
  refine w_reg ?_
  refine o_box [[.int .i64 x0.Halving], [.int .i64 x0.Maturity], [.int .i64 x0.PoolBytes], [.int .i64 x0.RedoBytes], [.int .i64 x0.LogMost], [.int .i64 x0.Ancestors], [.int .i64 x0.AncestorBytes], [.int .i64 x0.Descendants], [.int .i64 x0.DescendantBytes]] hI hA rfl rfl rfl fun g1 a w hA hI hg1 => 
    stp hA (r_as hA rfl) rfl fun a hA => ?_
  refine o_nil ?_
  refine hN1 _ _ ?_
  refine w_seq fun _ hN2 => ?_
  refine w_seq fun _ hN3 => ?_
  refine w_reg ?_
  refine stp hA (r_fd (k := 0) Tryd.underlying96 rfl sz3 hA rfl rfl) rfl fun a hA => 
    stp hA (r_ld1 (j := 0) [] [[.int .i64 x0.Maturity], [.int .i64 x0.PoolBytes], [.int .i64 x0.RedoBytes], [.int .i64 x0.LogMost], [.int .i64 x0.Ancestors], [.int .i64 x0.AncestorBytes], [.int .i64 x0.Descendants], [.int .i64 x0.DescendantBytes]] Tryd.underlying3 rfl hI rfl hA rfl rfl) rfl fun a hA => 
    stp hA (r_bldA (cs := [av .i64 3 ([x0.Halving, 1, 1048576])].flatten.toArray) zr162 Tryd.underlying162 sz3 hA rfl (by kernel_rfl)) rfl fun a hA => 
    stp hA (r_fd (k := 1) Tryd.underlying96 rfl sz3 hA rfl rfl) rfl fun a hA => 
    stp hA (r_ld1 (j := 0) [[.int .i64 x0.Halving]] [[.int .i64 x0.PoolBytes], [.int .i64 x0.RedoBytes], [.int .i64 x0.LogMost], [.int .i64 x0.Ancestors], [.int .i64 x0.AncestorBytes], [.int .i64 x0.Descendants], [.int .i64 x0.DescendantBytes]] Tryd.underlying3 rfl hI rfl hA rfl rfl) rfl fun a hA => 
    stp hA (r_bldA (cs := [av .i64 3 ([x0.Maturity, 0, 1000])].flatten.toArray) zr162 Tryd.underlying162 sz3 hA rfl (by kernel_rfl)) rfl fun a hA => 
    stp hA (r_fd (k := 2) Tryd.underlying96 rfl sz3 hA rfl rfl) rfl fun a hA => 
    stp hA (r_ld1 (j := 0) [[.int .i64 x0.Halving], [.int .i64 x0.Maturity]] [[.int .i64 x0.RedoBytes], [.int .i64 x0.LogMost], [.int .i64 x0.Ancestors], [.int .i64 x0.AncestorBytes], [.int .i64 x0.Descendants], [.int .i64 x0.DescendantBytes]] Tryd.underlying3 rfl hI rfl hA rfl rfl) rfl fun a hA => 
    stp hA (r_bldA (cs := [av .i64 3 ([x0.PoolBytes, 1, 16777216])].flatten.toArray) zr162 Tryd.underlying162 sz3 hA rfl (by kernel_rfl)) rfl fun a hA => 
    stp hA (r_fd (k := 3) Tryd.underlying96 rfl sz3 hA rfl rfl) rfl fun a hA => 
    stp hA (r_ld1 (j := 0) [[.int .i64 x0.Halving], [.int .i64 x0.Maturity], [.int .i64 x0.PoolBytes]] [[.int .i64 x0.LogMost], [.int .i64 x0.Ancestors], [.int .i64 x0.AncestorBytes], [.int .i64 x0.Descendants], [.int .i64 x0.DescendantBytes]] Tryd.underlying3 rfl hI rfl hA rfl rfl) rfl fun a hA => 
    stp hA (r_bldA (cs := [av .i64 3 ([x0.RedoBytes, 1, 16777216])].flatten.toArray) zr162 Tryd.underlying162 sz3 hA rfl (by kernel_rfl)) rfl fun a hA => 
    stp hA (r_fd (k := 4) Tryd.underlying96 rfl sz3 hA rfl rfl) rfl fun a hA => 
    stp hA (r_ld1 (j := 0) [[.int .i64 x0.Halving], [.int .i64 x0.Maturity], [.int .i64 x0.PoolBytes], [.int .i64 x0.RedoBytes]] [[.int .i64 x0.Ancestors], [.int .i64 x0.AncestorBytes], [.int .i64 x0.Descendants], [.int .i64 x0.DescendantBytes]] Tryd.underlying3 rfl hI rfl hA rfl rfl) rfl fun a hA => 
    stp hA (r_bldA (cs := [av .i64 3 ([x0.LogMost, 1, 65536])].flatten.toArray) zr162 Tryd.underlying162 sz3 hA rfl (by kernel_rfl)) rfl fun a hA => 
    stp hA (r_fd (k := 5) Tryd.underlying96 rfl sz3 hA rfl rfl) rfl fun a hA => 
    stp hA (r_ld1 (j := 0) [[.int .i64 x0.Halving], [.int .i64 x0.Maturity], [.int .i64 x0.PoolBytes], [.int .i64 x0.RedoBytes], [.int .i64 x0.LogMost]] [[.int .i64 x0.AncestorBytes], [.int .i64 x0.Descendants], [.int .i64 x0.DescendantBytes]] Tryd.underlying3 rfl hI rfl hA rfl rfl) rfl fun a hA => 
    stp hA (r_bldA (cs := [av .i64 3 ([x0.Ancestors, 1, 1000])].flatten.toArray) zr162 Tryd.underlying162 sz3 hA rfl (by kernel_rfl)) rfl fun a hA => 
    stp hA (r_fd (k := 7) Tryd.underlying96 rfl sz3 hA rfl rfl) rfl fun a hA => 
    stp hA (r_ld1 (j := 0) [[.int .i64 x0.Halving], [.int .i64 x0.Maturity], [.int .i64 x0.PoolBytes], [.int .i64 x0.RedoBytes], [.int .i64 x0.LogMost], [.int .i64 x0.Ancestors], [.int .i64 x0.AncestorBytes]] [[.int .i64 x0.DescendantBytes]] Tryd.underlying3 rfl hI rfl hA rfl rfl) rfl fun a hA => 
    stp hA (r_bldA (cs := [av .i64 3 ([x0.Descendants, 1, 1000])].flatten.toArray) zr162 Tryd.underlying162 sz3 hA rfl (by kernel_rfl)) rfl fun a hA => 
    stp hA (r_fd (k := 6) Tryd.underlying96 rfl sz3 hA rfl rfl) rfl fun a hA => 
    stp hA (r_ld1 (j := 0) [[.int .i64 x0.Halving], [.int .i64 x0.Maturity], [.int .i64 x0.PoolBytes], [.int .i64 x0.RedoBytes], [.int .i64 x0.LogMost], [.int .i64 x0.Ancestors]] [[.int .i64 x0.Descendants], [.int .i64 x0.DescendantBytes]] Tryd.underlying3 rfl hI rfl hA rfl rfl) rfl fun a hA => 
    stp hA (r_bldA (cs := [av .i64 3 ([x0.AncestorBytes, 1, 16777216])].flatten.toArray) zr162 Tryd.underlying162 sz3 hA rfl (by kernel_rfl)) rfl fun a hA => 
    stp hA (r_fd (k := 8) Tryd.underlying96 rfl sz3 hA rfl rfl) rfl fun a hA => 
    stp hA (r_ld1 (j := 0) [[.int .i64 x0.Halving], [.int .i64 x0.Maturity], [.int .i64 x0.PoolBytes], [.int .i64 x0.RedoBytes], [.int .i64 x0.LogMost], [.int .i64 x0.Ancestors], [.int .i64 x0.AncestorBytes], [.int .i64 x0.Descendants]] [] Tryd.underlying3 rfl hI rfl hA rfl rfl) rfl fun a hA => 
    stp hA (r_bldA (cs := [av .i64 3 ([x0.DescendantBytes, 1, 16777216])].flatten.toArray) zr162 Tryd.underlying162 sz3 hA rfl (by kernel_rfl)) rfl fun a hA => ?_
  have hE1 : Els (RA .i64 3) 3 ([[x0.Halving, 1, 1048576], [x0.Maturity, 0, 1000], [x0.PoolBytes, 1, 16777216], [x0.RedoBytes, 1, 16777216], [x0.LogMost, 1, 65536], [x0.Ancestors, 1, 1000], [x0.Descendants, 1, 1000], [x0.AncestorBytes, 1, 16777216], [x0.DescendantBytes, 1, 16777216]] : List (List Int)) ([av .i64 3 ([x0.Halving, 1, 1048576])].flatten ++ ([av .i64 3 ([x0.Maturity, 0, 1000])].flatten ++ ([av .i64 3 ([x0.PoolBytes, 1, 16777216])].flatten ++ ([av .i64 3 ([x0.RedoBytes, 1, 16777216])].flatten ++ ([av .i64 3 ([x0.LogMost, 1, 65536])].flatten ++ ([av .i64 3 ([x0.Ancestors, 1, 1000])].flatten ++ ([av .i64 3 ([x0.Descendants, 1, 1000])].flatten ++ ([av .i64 3 ([x0.AncestorBytes, 1, 16777216])].flatten ++ ([av .i64 3 ([x0.DescendantBytes, 1, 16777216])].flatten ++ ([])))))))))) := (Els.cons (c := [av .i64 3 ([x0.Halving, 1, 1048576])].flatten) ⟨rfl, (arr_lit rfl (by simp only [List.forall_mem_cons]; exact ⟨hx0.1, (in_lit .i64 1 rfl), (in_lit .i64 1048576 rfl), by simp⟩))⟩ rfl (Els.cons (c := [av .i64 3 ([x0.Maturity, 0, 1000])].flatten) ⟨rfl, (arr_lit rfl (by simp only [List.forall_mem_cons]; exact ⟨hx0.2.1, (in_lit .i64 0 rfl), (in_lit .i64 1000 rfl), by simp⟩))⟩ rfl (Els.cons (c := [av .i64 3 ([x0.PoolBytes, 1, 16777216])].flatten) ⟨rfl, (arr_lit rfl (by simp only [List.forall_mem_cons]; exact ⟨hx0.2.2.1, (in_lit .i64 1 rfl), (in_lit .i64 16777216 rfl), by simp⟩))⟩ rfl (Els.cons (c := [av .i64 3 ([x0.RedoBytes, 1, 16777216])].flatten) ⟨rfl, (arr_lit rfl (by simp only [List.forall_mem_cons]; exact ⟨hx0.2.2.2.1, (in_lit .i64 1 rfl), (in_lit .i64 16777216 rfl), by simp⟩))⟩ rfl (Els.cons (c := [av .i64 3 ([x0.LogMost, 1, 65536])].flatten) ⟨rfl, (arr_lit rfl (by simp only [List.forall_mem_cons]; exact ⟨hx0.2.2.2.2.1, (in_lit .i64 1 rfl), (in_lit .i64 65536 rfl), by simp⟩))⟩ rfl (Els.cons (c := [av .i64 3 ([x0.Ancestors, 1, 1000])].flatten) ⟨rfl, (arr_lit rfl (by simp only [List.forall_mem_cons]; exact ⟨hx0.2.2.2.2.2.1, (in_lit .i64 1 rfl), (in_lit .i64 1000 rfl), by simp⟩))⟩ rfl (Els.cons (c := [av .i64 3 ([x0.Descendants, 1, 1000])].flatten) ⟨rfl, (arr_lit rfl (by simp only [List.forall_mem_cons]; exact ⟨hx0.2.2.2.2.2.2.2.1, (in_lit .i64 1 rfl), (in_lit .i64 1000 rfl), by simp⟩))⟩ rfl (Els.cons (c := [av .i64 3 ([x0.AncestorBytes, 1, 16777216])].flatten) ⟨rfl, (arr_lit rfl (by simp only [List.forall_mem_cons]; exact ⟨hx0.2.2.2.2.2.2.1, (in_lit .i64 1 rfl), (in_lit .i64 16777216 rfl), by simp⟩))⟩ rfl (Els.cons (c := [av .i64 3 ([x0.DescendantBytes, 1, 16777216])].flatten) ⟨rfl, (arr_lit rfl (by simp only [List.forall_mem_cons]; exact ⟨hx0.2.2.2.2.2.2.2.2, (in_lit .i64 1 rfl), (in_lit .i64 16777216 rfl), by simp⟩))⟩ rfl Els.nil)))))))))
  refine o_bsl ([av .i64 3 ([x0.Halving, 1, 1048576])].flatten ++ ([av .i64 3 ([x0.Maturity, 0, 1000])].flatten ++ ([av .i64 3 ([x0.PoolBytes, 1, 16777216])].flatten ++ ([av .i64 3 ([x0.RedoBytes, 1, 16777216])].flatten ++ ([av .i64 3 ([x0.LogMost, 1, 65536])].flatten ++ ([av .i64 3 ([x0.Ancestors, 1, 1000])].flatten ++ ([av .i64 3 ([x0.Descendants, 1, 1000])].flatten ++ ([av .i64 3 ([x0.AncestorBytes, 1, 16777216])].flatten ++ ([av .i64 3 ([x0.DescendantBytes, 1, 16777216])].flatten ++ ([])))))))))) te162 zr162 Tryd.underlying163 hI hA rfl rfl rfl rfl (by kernel_rfl) rfl fun g2 a w hA hI => ?_
  generalize hcs : ([av .i64 3 ([x0.Halving, 1, 1048576])].flatten ++ ([av .i64 3 ([x0.Maturity, 0, 1000])].flatten ++ ([av .i64 3 ([x0.PoolBytes, 1, 16777216])].flatten ++ ([av .i64 3 ([x0.RedoBytes, 1, 16777216])].flatten ++ ([av .i64 3 ([x0.LogMost, 1, 65536])].flatten ++ ([av .i64 3 ([x0.Ancestors, 1, 1000])].flatten ++ ([av .i64 3 ([x0.Descendants, 1, 1000])].flatten ++ ([av .i64 3 ([x0.AncestorBytes, 1, 16777216])].flatten ++ ([av .i64 3 ([x0.DescendantBytes, 1, 16777216])].flatten ++ ([]))))))))) : List Value) = cs1 at hE1 hI
  clear hcs
  have hlen1 := Iv.row_in hI (j := 0) rfl
  refine stp hA (r_rlen (xs := 0) Tryd.underlying163 hI (j := 0) rfl hA rfl) rfl fun a hA => 
    stp hA (r_mv hA rfl) rfl fun a hA => ?_
  refine o_nil ?_
  refine hN3 _ _ ?_
  refine w_block ?_
  obtain ⟨z1, hz1, Hk1⟩ := bind_some H
  obtain ⟨n1, hn1⟩ := loopO_some hz1
  refine w_loop (fun n a w => ∃ (s1 : Int), loopN (value_Rules.s0 x0) n s1 = some z1 ∧ InR .i64 s1 ∧ Fr a 52 [(0, .agg [[.int .i64 x0.Halving], [.int .i64 x0.Maturity], [.int .i64 x0.PoolBytes], [.int .i64 x0.RedoBytes], [.int .i64 x0.LogMost], [.int .i64 x0.Ancestors], [.int .i64 x0.AncestorBytes], [.int .i64 x0.Descendants], [.int .i64 x0.DescendantBytes]].flatten.toArray), (1, .pointer (some ⟨g1, 0, none⟩)), (2, .nilIface), (32, (.slice (some ⟨g2, 0, none⟩) 9 9)), (33, .int .i64 (([[x0.Halving, 1, 1048576], [x0.Maturity, 0, 1000], [x0.PoolBytes, 1, 16777216], [x0.RedoBytes, 1, 16777216], [x0.LogMost, 1, 65536], [x0.Ancestors, 1, 1000], [x0.Descendants, 1, 1000], [x0.AncestorBytes, 1, 16777216], [x0.DescendantBytes, 1, 16777216]] : List (List Int)).length : Int)), (34, .int .i64 s1)] ∧ Iv w0 [] μ μ [row 162 3 (.slice (some ⟨g2, 0, none⟩) 9 9) ([[x0.Halving, 1, 1048576], [x0.Maturity, 0, 1000], [x0.PoolBytes, 1, 16777216], [x0.RedoBytes, 1, 16777216], [x0.LogMost, 1, 65536], [x0.Ancestors, 1, 1000], [x0.Descendants, 1, 1000], [x0.AncestorBytes, 1, 16777216], [x0.DescendantBytes, 1, 16777216]] : List (List Int)).length cs1, cel g1 [[.int .i64 x0.Halving], [.int .i64 x0.Maturity], [.int .i64 x0.PoolBytes], [.int .i64 x0.RedoBytes], [.int .i64 x0.LogMost], [.int .i64 x0.Ancestors], [.int .i64 x0.AncestorBytes], [.int .i64 x0.Descendants], [.int .i64 x0.DescendantBytes]] 96] w) n1 ⟨0, hn1, (in_lit .i64 0 rfl), hA.sub ⟨rfl, rfl, rfl, rfl, rfl, rfl, trivial⟩, hI⟩ ?_
  clear hA hI
  rintro n a w ⟨s1, hn1, ws1, hA, hI⟩
  obtain ⟨m1, rfl, H⟩ := loopN_bind hn1
  clear hn1
  refine w_seq fun _ hN4 => ?_
  refine w_reg ?_
  refine stp hA (r_lss hA rfl rfl) rfl fun a hA => ?_
  refine o_nil ?_
  refine hN4 _ _ ?_
  refine w_seq fun _ hN5 => ?_
  refine w_cond hA rfl (fun hc1 => ?_) (fun hc1 => ?_)
  · have hc10 := hc1; have hc1 := of_decide_eq_true hc1; have H := bT H hc1
    refine w_skip ?_
    refine hN5 _ _ ?_
    refine w_seq fun _ hN6 => ?_
    refine w_block ?_
    refine w_seq fun _ hN7 => ?_
    refine w_reg ?_
    obtain ⟨hb1, H⟩ := bG H
    refine stp hA (r_rix (j := 0) Tryd.underlying163 sz162 hI rfl hA rfl rfl hb1.1 hb1.2) rfl fun a hA => ?_
    obtain ⟨A1, _, B1, hc2, hl1, _, he1⟩ := Els.at_ hE1 (getD_some [] hb1.1 hb1.2)
    obtain ⟨rfl, hw1⟩ := he1
    refine stp hA (r_rldP (j := 0) (q := s1.toNat * 3) (off := 0) A1 B1 [] [av .i64 3 (([[x0.Halving, 1, 1048576], [x0.Maturity, 0, 1000], [x0.PoolBytes, 1, 16777216], [x0.RedoBytes, 1, 16777216], [x0.LogMost, 1, 65536], [x0.Ancestors, 1, 1000], [x0.Descendants, 1, 1000], [x0.AncestorBytes, 1, 16777216], [x0.DescendantBytes, 1, 16777216]] : List (List Int)).getD s1.toNat [])] [] hc2 hl1 rfl Tryd.underlying162 rfl sz162 rfl hI rfl hA rfl) rfl fun a hA => 
      o_new [av .i64 3 (List.replicate 3 0)] zr162 hI hA rfl fun g3 a w hA hI hg3 => 
      o_st (j := 0) [] [av .i64 3 (List.replicate 3 0)] [av .i64 3 (([[x0.Halving, 1, 1048576], [x0.Maturity, 0, 1000], [x0.PoolBytes, 1, 16777216], [x0.RedoBytes, 1, 16777216], [x0.LogMost, 1, 65536], [x0.Ancestors, 1, 1000], [x0.Descendants, 1, 1000], [x0.AncestorBytes, 1, 16777216], [x0.DescendantBytes, 1, 16777216]] : List (List Int)).getD s1.toNat [])] [] sz162 rfl rfl (fl_cons (one_av _ _ _) fl_nil) hI rfl hA rfl rfl rfl rfl fun w hI => ?_
    refine o_nil ?_
    refine hN7 _ _ ?_
    obtain ⟨c1, hz2, Hk2⟩ := bB H
    refine w_cut (fun a w => Fr a 52 [(0, .agg [[.int .i64 x0.Halving], [.int .i64 x0.Maturity], [.int .i64 x0.PoolBytes], [.int .i64 x0.RedoBytes], [.int .i64 x0.LogMost], [.int .i64 x0.Ancestors], [.int .i64 x0.AncestorBytes], [.int .i64 x0.Descendants], [.int .i64 x0.DescendantBytes]].flatten.toArray), (1, .pointer (some ⟨g1, 0, none⟩)), (2, .nilIface), (4, .pointer (some ⟨g3, 0, none⟩)), (32, (.slice (some ⟨g2, 0, none⟩) 9 9)), (33, .int .i64 (([[x0.Halving, 1, 1048576], [x0.Maturity, 0, 1000], [x0.PoolBytes, 1, 16777216], [x0.RedoBytes, 1, 16777216], [x0.LogMost, 1, 65536], [x0.Ancestors, 1, 1000], [x0.Descendants, 1, 1000], [x0.AncestorBytes, 1, 16777216], [x0.DescendantBytes, 1, 16777216]] : List (List Int)).length : Int)), (34, .int .i64 s1), (35, .bool (decide (s1 < (([[x0.Halving, 1, 1048576], [x0.Maturity, 0, 1000], [x0.PoolBytes, 1, 16777216], [x0.RedoBytes, 1, 16777216], [x0.LogMost, 1, 65536], [x0.Ancestors, 1, 1000], [x0.Descendants, 1, 1000], [x0.AncestorBytes, 1, 16777216], [x0.DescendantBytes, 1, 16777216]] : List (List Int)).length : Int)))), (49, .bool c1)] ∧ Iv w0 [] μ μ [cel g3 [av .i64 3 (([[x0.Halving, 1, 1048576], [x0.Maturity, 0, 1000], [x0.PoolBytes, 1, 16777216], [x0.RedoBytes, 1, 16777216], [x0.LogMost, 1, 65536], [x0.Ancestors, 1, 1000], [x0.Descendants, 1, 1000], [x0.AncestorBytes, 1, 16777216], [x0.DescendantBytes, 1, 16777216]] : List (List Int)).getD s1.toNat [])] 162, row 162 3 (.slice (some ⟨g2, 0, none⟩) 9 9) ([[x0.Halving, 1, 1048576], [x0.Maturity, 0, 1000], [x0.PoolBytes, 1, 16777216], [x0.RedoBytes, 1, 16777216], [x0.LogMost, 1, 65536], [x0.Ancestors, 1, 1000], [x0.Descendants, 1, 1000], [x0.AncestorBytes, 1, 16777216], [x0.DescendantBytes, 1, 16777216]] : List (List Int)).length cs1, cel g1 [[.int .i64 x0.Halving], [.int .i64 x0.Maturity], [.int .i64 x0.PoolBytes], [.int .i64 x0.RedoBytes], [.int .i64 x0.LogMost], [.int .i64 x0.Ancestors], [.int .i64 x0.AncestorBytes], [.int .i64 x0.Descendants], [.int .i64 x0.DescendantBytes]] 96] w) ?_ ?_
    · have H := bI hz2
      refine w_reg ?_
      refine stp hA (r_ixar1 Tryd.underlying162 sz3 hA rfl rfl (by decide) (by decide)) rfl fun a hA => 
        stp hA (r_ldE (j := 0) [] [] Tryd.underlying3 rfl hI rfl hA rfl rfl (by decide)) rfl fun a hA => 
        stp hA (r_ixar1 Tryd.underlying162 sz3 hA rfl rfl (by decide) (by decide)) rfl fun a hA => 
        stp hA (r_ldE (j := 0) [] [] Tryd.underlying3 rfl hI rfl hA rfl rfl (by decide)) rfl fun a hA => 
        stp hA (r_lss hA rfl rfl) rfl fun a hA => 
        stp hA (r_mv hA rfl) rfl fun a hA => ?_
      rcases Bool.eq_false_or_eq_true (decide (((([[x0.Halving, 1, 1048576], [x0.Maturity, 0, 1000], [x0.PoolBytes, 1, 16777216], [x0.RedoBytes, 1, 16777216], [x0.LogMost, 1, 65536], [x0.Ancestors, 1, 1000], [x0.Descendants, 1, 1000], [x0.AncestorBytes, 1, 16777216], [x0.DescendantBytes, 1, 16777216]] : List (List Int)).getD s1.toNat []).getD (0 : Int).toNat 0) < ((([[x0.Halving, 1, 1048576], [x0.Maturity, 0, 1000], [x0.PoolBytes, 1, 16777216], [x0.RedoBytes, 1, 16777216], [x0.LogMost, 1, 65536], [x0.Ancestors, 1, 1000], [x0.Descendants, 1, 1000], [x0.AncestorBytes, 1, 16777216], [x0.DescendantBytes, 1, 16777216]] : List (List Int)).getD s1.toNat []).getD (1 : Int).toNat 0))) with hc3 | hc3
      · have hc30 := hc3; have hc3 := of_decide_eq_true hc3; have H := bT H hc3
        refine o_no hA rfl rfl (by rw [hc30]; simp [vb]) rfl fun a hA => 
          o_no hA rfl rfl (by rw [hc30]; simp [vb]) rfl fun a hA => 
          o_no hA rfl rfl (by rw [hc30]; simp [vb]) rfl fun a hA => 
          o_no hA rfl rfl (by rw [hc30]; simp [vb]) rfl fun a hA => 
          o_no hA rfl rfl (by rw [hc30]; simp [vb]) rfl fun a hA => 
          stp hA (r_pick_t hA rfl hc30 rfl) rfl fun a hA => ?_
        refine o_nil ?_
        cases Option.some.inj (bS H)
        exact ⟨hA.sub ⟨rfl, rfl, rfl, rfl, rfl, rfl, rfl, rfl, rfl, trivial⟩, hI⟩
      · have hc30 := hc3; have hc3 := of_decide_eq_false hc3; have H := bF H hc3
        refine o_yes hA rfl rfl hc30 <| 
          stp hA (r_ixar1 Tryd.underlying162 sz3 hA rfl rfl (by decide) (by decide)) rfl fun a hA => 
          o_yes hA rfl rfl hc30 <| 
          stp hA (r_ldE (j := 0) [] [] Tryd.underlying3 rfl hI rfl hA rfl rfl (by decide)) rfl fun a hA => 
          o_yes hA rfl rfl hc30 <| 
          stp hA (r_ixar1 Tryd.underlying162 sz3 hA rfl rfl (by decide) (by decide)) rfl fun a hA => 
          o_yes hA rfl rfl hc30 <| 
          stp hA (r_ldE (j := 0) [] [] Tryd.underlying3 rfl hI rfl hA rfl rfl (by decide)) rfl fun a hA => 
          o_yes hA rfl rfl hc30 <| 
          stp hA (r_gtr hA rfl rfl) rfl fun a hA => 
          stp hA (r_pick_f hA rfl hc30 rfl) rfl fun a hA => ?_
        refine o_nil ?_
        cases Option.some.inj (bS H)
        exact ⟨hA.sub ⟨rfl, rfl, rfl, rfl, rfl, rfl, rfl, rfl, rfl, trivial⟩, hI⟩
    · rintro a w ⟨hA, hI⟩
      have H := Hk2
      refine w_cond hA rfl (fun hc4 => ?_) (fun hc4 => ?_)
      · have hc40 := hc4; have H := bT H hc4
        refine w_seq fun _ hN8 => ?_
        refine w_reg ?_
        refine stp hA (r_ldG Tryd.underlying34 rfl hI.agr he6 hA) rfl fun a hA => 
          stp hA (r_as hA rfl) rfl fun a hA => ?_
        refine o_nil ?_
        refine hN8 _ _ ?_
        refine w_ret ?_
        have H : some xErrRange = some z1 := H
        obtain rfl := Option.some.inj H
        have H := Hk1
        obtain rfl := Option.some.inj (bS H)
        exact ret1 hA Tryd.results69 rfl ⟨_, rfl, e6, μ, rfl, he6, (hI.sel [] (by decide) rfl)⟩
      · have hc40 := hc4; have hc4 := ft hc4; have H := bF H hc4
        refine w_skip ?_
        refine hN6 _ _ ?_
        refine w_reg ?_
        refine stp hA (r_add hA rfl rfl) rfl fun a hA => 
          stp hA (r_mv hA rfl) rfl fun a hA => ?_
        refine o_nil ?_
        exact ⟨m1, Nat.lt_succ_self _, IntKind.i64.wrap (s1 + 1), H, (wrap_in _ _), hA.sub ⟨rfl, rfl, rfl, rfl, rfl, rfl, trivial⟩, (hI.sel [1, 2] (by decide) rfl)⟩
  · have hc10 := hc1; have hc1 := of_decide_eq_false hc1; have H := bF H hc1
    refine w_exit rfl ?_
    refine hN2 _ _ ?_
    refine w_seq fun _ hN9 => ?_
    refine w_reg ?_
    refine stp hA (r_as hA rfl) rfl fun a hA => ?_
    refine o_nil ?_
    refine hN9 _ _ ?_
    refine w_ret ?_
    have H : some (Er.b 0) = some z1 := H
    obtain rfl := Option.some.inj H
    have H := Hk1
    obtain rfl := Option.some.inj (bS H)
    exact ret1 hA Tryd.results69 rfl ⟨_, rfl, .nilIface, μ, rfl, erv_nil, (hI.sel [] (by decide) rfl)⟩
set_option maxRecDepth 20000 in
theorem value_Fee.c (μ : Store) (w0 : World) (hμ : Agr μ w0) (x0 : Tx) (u0_0 : Value) (u0_1 : Value) (hx0 : TxW μ x0 u0_0 u0_1) (x1 : List Money) (u1 : Value) (hx1 : Slc (RMoney μ) 35 μ u1 x1) (e0 : Value) (he0 : ErS μ e0 (Er.b 1)) (e3 : Value) (he3 : ErS μ e3 (Er.b 4)) (e4 : Value) (he4 : ErS μ e4 (Er.b 5)) (e7 : Value) (he7 : ErS μ e7 (Er.b 8)) (r : Int × Er) (H : value_Fee.f x0 x1 = some r) :
    Calls Tryd.prog 72 [.agg [[.int .u32 x0.Version], [u0_0], [u0_1], [.int .u32 x0.Time]].flatten.toArray, u1].toArray w0 (fun e w' => ∃ v, e = .returned v ∧ ∃ (v1 : Value) (μ' : Store), v = .tuple #[.int .u64 (r.1), v1] ∧ InR .u64 (r.1) ∧ ErS μ' v1 (r.2) ∧ Iv w0 [] μ μ' [] w') := by
  refine enter Tryd.func72 rfl Tryd.ntmps72 rfl fun a hA => ?_
  have hI := Iv.start hμ
  have H := bI H
  refine w_seq fun _ hN1 => ?_
  refine w_reg ?_
  refine o_box [[.int .u32 x0.Version], [u0_0], [u0_1], [.int .u32 x0.Time]] hI hA rfl rfl rfl fun g1 a w hA hI hg1 => 
    stp hA (r_as hA rfl) rfl fun a hA => 
    stp hA (r_as hA rfl) rfl fun a hA => ?_
  refine o_nil ?_
  refine hN1 _ _ ?_
  refine w_seq fun _ hN2 => ?_
  refine w_seq fun _ hN3 => ?_
  refine w_reg ?_
  refine stp hA (r_mv hA rfl) rfl fun a hA => ?_
  obtain ⟨_, hsl1⟩ := Slc.sv hx1
  refine stp hA (r_slen Tryd.underlying102 hsl1 hA rfl) rfl fun a hA => 
    stp hA (r_fd (k := 1) Tryd.underlying68 rfl sz63 hA rfl rfl) rfl fun a hA => 
    stp hA (r_ld1 (j := 0) [[.int .u32 x0.Version]] [[u0_1], [.int .u32 x0.Time]] Tryd.underlying63 rfl hI rfl hA rfl rfl) rfl fun a hA => ?_
  obtain ⟨_, hsl2⟩ := Slc.sv hx0.2.1
  refine stp hA (r_slen Tryd.underlying63 hsl2 hA rfl) rfl fun a hA => 
    stp hA (r_neq hA rfl rfl) rfl fun a hA => ?_
  refine o_nil ?_
  refine hN3 _ _ ?_
  refine w_cond hA rfl (fun hc1 => ?_) (fun hc1 => ?_)
  · have hc10 := hc1; have hc1 := of_decide_eq_true hc1; have H := bT H hc1
    refine w_seq fun _ hN4 => ?_
    refine w_draw mo (by kernel_rfl) hI ?_
    refine qtp hA (fun _ hI => r_ldG Tryd.underlying34 rfl hI.agr he0 hA) rfl fun a hA => 
      qtp hA (fun _ hI => r_as hA rfl) rfl fun a hA => 
      qtp hA (fun _ hI => r_as hA rfl) rfl fun a hA => ?_
    refine q_nil fun w hI => ?_
    refine hN4 _ _ ?_
    refine w_ret ?_
    obtain rfl := Option.some.inj (bS H)
    exact ret2 hA Tryd.results72 rfl rfl ⟨_, rfl, e0, μ, rfl, (in_lit .u64 0 rfl), he0, (hI.sel [] (by decide) rfl)⟩
  · have hc10 := hc1; have hc1 := of_decide_eq_false hc1; have H := bF H hc1
    refine w_skip ?_
    refine hN2 _ _ ?_
    refine w_seq fun _ hN5 => ?_
    refine w_reg ?_
    refine stp hA (r_as hA rfl) rfl fun a hA => ?_
    refine o_nil ?_
    refine hN5 _ _ ?_
    refine w_seq fun _ hN6 => ?_
    refine w_seq fun _ hN7 => ?_
    refine w_reg ?_
    refine stp hA (r_fd (k := 1) Tryd.underlying68 rfl sz63 hA rfl rfl) rfl fun a hA => 
      stp hA (r_ld1 (j := 0) [[.int .u32 x0.Version]] [[u0_1], [.int .u32 x0.Time]] Tryd.underlying63 rfl hI rfl hA rfl rfl) rfl fun a hA => ?_
    obtain ⟨_, hsl3⟩ := Slc.sv hx0.2.1
    refine stp hA (r_slen Tryd.underlying63 hsl3 hA rfl) rfl fun a hA => 
      stp hA (r_mv hA rfl) rfl fun a hA => ?_
    refine o_nil ?_
    refine hN7 _ _ ?_
    refine w_block ?_
    have hI := hI.nilRow 22 1
    obtain ⟨z1, hz1, Hk1⟩ := bind_some H
    obtain ⟨n1, hn1⟩ := loopO_some hz1
    refine w_loop (fun n a w => ∃ (s1 : List Int) (s2 : Int) (vvs1 : Value) (ccs1 : List Value), loopN (value_Fee.s0 x0 x1) n (s1, s2) = some z1 ∧ Els (RI .u64) 1 s1 ccs1 ∧ InR .i64 s2 ∧ Fr a 77 [(0, .agg [[.int .u32 x0.Version], [u0_0], [u0_1], [.int .u32 x0.Time]].flatten.toArray), (1, u1), (2, .pointer (some ⟨g1, 0, none⟩)), (4, .int .u64 0), (5, .nilIface), (6, vvs1), (18, .bool (decide ((x1.length : Int) ≠ (x0.Ins.length : Int)))), (21, u0_0), (22, .int .i64 (x0.Ins.length : Int)), (23, .int .i64 s2)] ∧ Iv w0 [] μ μ [row 22 1 vvs1 s1.length ccs1, cel g1 [[.int .u32 x0.Version], [u0_0], [u0_1], [.int .u32 x0.Time]] 68] w) n1 ⟨[], 0, (.slice none 0 0), [], hn1, (Els.nil (RE := (RI .u64)) (sz := 1)), (in_lit .i64 0 rfl), hA.sub ⟨rfl, rfl, rfl, rfl, rfl, rfl, rfl, rfl, rfl, rfl, trivial⟩, hI⟩ ?_
    clear hA hI
    rintro n a w ⟨s1, s2, vvs1, ccs1, hn1, ws1, ws2, hA, hI⟩
    obtain ⟨m1, rfl, H⟩ := loopN_bind hn1
    clear hn1
    refine w_seq fun _ hN8 => ?_
    refine w_reg ?_
    refine stp hA (r_lss hA rfl rfl) rfl fun a hA => ?_
    refine o_nil ?_
    refine hN8 _ _ ?_
    refine w_seq fun _ hN9 => ?_
    refine w_cond hA rfl (fun hc2 => ?_) (fun hc2 => ?_)
    · have hc20 := hc2; have hc2 := of_decide_eq_true hc2; have H := bT H hc2
      refine w_skip ?_
      refine hN9 _ _ ?_
      refine w_seq fun _ hN10 => ?_
      refine w_block ?_
      refine w_seq fun _ hN11 => ?_
      refine w_reg ?_
      refine stp hA (r_mv hA rfl) rfl fun a hA => ?_
      obtain ⟨hb1, H⟩ := bG H
      obtain ⟨_, he1, _, hat1⟩ := Slc.elem hx0.2.1 (getD_some default hb1.1 hb1.2)
      obtain ⟨v1, rfl, hw1⟩ := he1
      obtain ⟨_, hsl4⟩ := Slc.sv hx0.2.1
      refine stp hA (r_six Tryd.underlying63 sz62 hsl4 hA rfl rfl hb1.1 hb1.2) rfl fun a hA => 
        stp hA (r_ldmA [] [av .u8 32 ((x0.Ins.getD s2.toNat default).From.Tx), [.int .u32 ((x0.Ins.getD s2.toNat default).From.N)], [v1], [.int .u32 ((x0.Ins.getD s2.toNat default).Seq)]] [] Tryd.underlying62 rfl sz62 rfl hI.agr hat1 hA rfl rfl) rfl fun a hA => 
        o_new [av .u8 32 (List.replicate 32 0), [.int .u32 0], [(.slice none 0 0)], [.int .u32 0]] zr62 hI hA rfl fun g2 a w hA hI hg2 => 
        stp hA (r_as hA rfl) rfl fun a hA => ?_
      obtain ⟨_, hsl5⟩ := Slc.sv hw1.2.2.1
      refine o_st (j := 0) [] [av .u8 32 (List.replicate 32 0), [.int .u32 0], [(.slice none 0 0)], [.int .u32 0]] [av .u8 32 ((x0.Ins.getD s2.toNat default).From.Tx), [.int .u32 ((x0.Ins.getD s2.toNat default).From.N)], [v1], [.int .u32 ((x0.Ins.getD s2.toNat default).Seq)]] [] sz62 rfl rfl (fl_cons (one_av _ _ _) (fl_cons (one_one rfl) (fl_cons (one_one (one_sl hsl5)) (fl_cons (one_one rfl) fl_nil)))) hI rfl hA rfl rfl rfl rfl fun w hI => ?_
      refine o_nil ?_
      refine hN11 _ _ ?_
      refine w_seq fun _ hN12 => ?_
      refine w_seq fun _ hN13 => ?_
      refine w_draw mo (by kernel_rfl) hI ?_
      refine qtp hA (fun _ hI => r_fd (k := 33) Tryd.underlying62 rfl sz23 hA rfl rfl) rfl fun a hA => 
        qtp hA (fun _ hI => r_ld1 (j := 0) [av .u8 32 ((x0.Ins.getD s2.toNat default).From.Tx), [.int .u32 ((x0.Ins.getD s2.toNat default).From.N)]] [[.int .u32 ((x0.Ins.getD s2.toNat default).Seq)]] Tryd.underlying23 rfl hI rfl hA rfl rfl) rfl fun a hA => 
        qtp hA (fun _ hI => r_mv hA rfl) rfl fun a hA => 
        qtp hA (fun _ hI => r_mv hA rfl) rfl fun a hA => ?_
      obtain ⟨hb2, H⟩ := bG H
      obtain ⟨_, he2, _, hat2⟩ := Slc.elem hx1 (getD_some default hb2.1 hb2.2)
      obtain ⟨rfl, hw2⟩ := he2
      obtain ⟨_, hsl6⟩ := Slc.sv hx1
      refine qtp hA (fun _ hI => r_six Tryd.underlying102 sz104 hsl6 hA rfl rfl hb2.1 hb2.2) rfl fun a hA => 
        qtp hA (fun _ hI => r_fd (k := so u1 + s2.toNat * 35 + 1) Tryd.underlying104 rfl sz55 hA rfl rfl) rfl fun a hA => 
        qtp hA (fun _ hI => r_ldmA [[.int .u64 ((x1.getD s2.toNat default).Value)]] [av .u8 32 ((x1.getD s2.toNat default).Lock)] [[.int .i64 ((x1.getD s2.toNat default).Height)], [.bool ((x1.getD s2.toNat default).Base)]] Tryd.underlying55 rfl sz55 rfl hI.agr hat2 hA rfl rfl) rfl fun a hA => ?_
      obtain ⟨r1, hr1, H⟩ := bB H
      refine qcall (v := .bool r1) cf127 hA rfl (fun _ hI => plq (spend_Opens.c μ _ hI.agr ((x0.Ins.getD s2.toNat default).Key) v1 hw1.2.2.1 ((x1.getD s2.toNat default).Lock) hw2.2.1 r1 hr1) hI) rfl fun a hA => 
        qtp hA (fun _ hI => r_not hA rfl) rfl fun a hA => ?_
      refine q_nil fun w hI => ?_
      refine hN13 _ _ ?_
      refine w_cond hA rfl (fun hc3 => ?_) (fun hc3 => ?_)
      · have hc30 := hc3; have hc3 := nT hc3; have hc3 := ft hc3; have H := bF H hc3
        refine w_seq fun _ hN14 => ?_
        refine w_any [] mo hI fun w hI => ?_
        refine g_easy (i := 0) hA rfl rfl (by kernel_rfl) (.inr hI) (fun _ => r_mv hA rfl) rfl fun a hA => ?_
        refine g_take (i := 1) hA rfl rfl (by kernel_rfl) hI (fun w hI => r_ldG Tryd.underlying34 rfl hI.agr he3 hA) rfl fun a hA => ?_
        refine g_easy (i := 5) hA rfl rfl (by kernel_rfl) (.inr hI) (fun _ => r_as hA rfl) rfl fun a hA => ?_
        refine g_forced (i := 2) rfl (by kernel_rfl) ?_
        refine stp hA (r_bldS (cs := [[.int .i64 s2], [e3]].flatten.toArray) (pl := [(0, 1), (1, 1)]) zr170 Tryd.underlying170 ⟨rfl, sz3, rfl, sz34, trivial⟩ hA rfl ((fill_one rfl rfl (by kernel_rfl)).trans ((fill_one (cells_err he3) rfl (by kernel_rfl)).trans (by kernel_rfl)))) rfl fun a hA => ?_
        refine o_nil ?_
        refine ⟨(.inr hI), ?_⟩
        refine g_forced (i := 3) rfl (by kernel_rfl) ?_
        refine o_box [[.int .i64 s2], [e3]] hI hA rfl rfl rfl fun g3 a w hA hI hg3 => ?_
        refine o_nil ?_
        refine ⟨(.inr (hI.sel [1, 2, 3] (by decide) rfl)), ?_⟩
        refine g_forced (i := 4) rfl (by kernel_rfl) ?_
        obtain ⟨μ1, hle1, hat3, hI, hth1⟩ := hI.freezeCelT 0 rfl
        have he3 : ErS μ1 (.iface 168 (.pointer (some ⟨g3, 0, none⟩))) (Er.pl s2 xErrKey) := ⟨g3, e3, rfl, hat3, ws2, (ErV.le (fun _ _ h => h) hle1 he3)⟩
        refine stp hA (r_mkI Tryd.underlying168 hA rfl) rfl fun a hA => ?_
        refine o_nil ?_
        refine ⟨(.inr ((hth1 _ _ hI).sel [1, 2, 3] (by decide) rfl)), ?_⟩
        refine g_easy (i := 6) hA rfl rfl (by kernel_rfl) (.inr ((hth1 _ _ hI).sel [1, 2, 3] (by decide) rfl)) (fun _ => r_as hA rfl) rfl fun a hA => ?_
        refine g_nil (by kernel_rfl) ?_
        refine hN14 _ _ ?_
        refine w_ret ?_
        have H : some (0, (Er.pl s2 xErrKey)) = some z1 := H
        obtain rfl := Option.some.inj H
        have H := Hk1
        obtain rfl := Option.some.inj (bS H)
        exact ret2 hA Tryd.results72 rfl rfl ⟨_, rfl, (.iface 168 (.pointer (some ⟨g3, 0, none⟩))), μ1, rfl, (in_lit .u64 0 rfl), he3, (hI.sel [] (by decide) rfl)⟩
      · have hc30 := hc3; have hc3 := nF hc3; have H := bT H hc3
        refine w_skip ?_
        refine hN12 _ _ ?_
        refine w_reg ?_
        refine stp hA (r_mv hA rfl) rfl fun a hA => 
          stp hA (r_mv hA rfl) rfl fun a hA => 
          stp hA (r_mv hA rfl) rfl fun a hA => 
          stp hA (r_six Tryd.underlying102 sz104 hsl6 hA rfl rfl hb2.1 hb2.2) rfl fun a hA => 
          stp hA (r_fd (k := so u1 + s2.toNat * 35) Tryd.underlying104 rfl sz22 hA rfl rfl) rfl fun a hA => 
          stp hA (r_ldm1 [] [av .u8 32 ((x1.getD s2.toNat default).Lock), [.int .i64 ((x1.getD s2.toNat default).Height)], [.bool ((x1.getD s2.toNat default).Base)]] Tryd.underlying22 rfl hI.agr hat2 hA rfl rfl) rfl fun a hA => ?_
        have hE1 : Els (RI .u64) 1 ([(x1.getD s2.toNat default).Value] : List Int) ([[.int .u64 ((x1.getD s2.toNat default).Value)]].flatten ++ ([])) := (Els.cons (c := [[.int .u64 ((x1.getD s2.toNat default).Value)]].flatten) ⟨rfl, hw2.1⟩ rfl Els.nil)
        refine o_bsl ([[.int .u64 ((x1.getD s2.toNat default).Value)]].flatten ++ ([])) te22 zr22 Tryd.underlying42 hI hA rfl rfl rfl rfl (by kernel_rfl) rfl fun g4 a w hA hI => ?_
        generalize hcs : ([[.int .u64 ((x1.getD s2.toNat default).Value)]].flatten ++ ([]) : List Value) = cs1 at hE1 hI
        clear hcs
        obtain ⟨hb3, H⟩ := bG H
        have hE3 := ws1.app hE1
        refine o_appL (xs := (s1 : List Int)) (ys := (([(x1.getD s2.toNat default).Value] : List Int) : List Int)) (j := 2) te22 Tryd.underlying42 hI rfl hA rfl rfl (src_row hI (j := 0) rfl) hE1.len (hE1.ones (one_RI _)) (by first | decide | (have hq := hb3; (try simp only [List.length_cons, List.length_nil] at hq); (try simp only [List.length_cons, List.length_nil]); (try simp only [maxLen]); omega)) (by first | decide | (have hq := hb3; (try simp only [List.length_cons, List.length_nil] at hq); (try simp only [List.length_cons, List.length_nil]); (try simp only [maxLen]); omega)) rfl fun v2 a w hA hI => 
          stp hA (r_as hA rfl) rfl fun a hA => ?_
        refine o_nil ?_
        refine hN10 _ _ ?_
        refine w_reg ?_
        refine stp hA (r_add hA rfl rfl) rfl fun a hA => 
          stp hA (r_mv hA rfl) rfl fun a hA => ?_
        refine o_nil ?_
        exact ⟨m1, Nat.lt_succ_self _, s1 ++ ([(x1.getD s2.toNat default).Value] : List Int), IntKind.i64.wrap (s2 + 1), v2, ccs1 ++ cs1, H, hE3, (wrap_in _ _), hA.sub ⟨rfl, rfl, rfl, rfl, rfl, rfl, rfl, rfl, rfl, rfl, trivial⟩, (hI.sel [2, 3] (by decide) rfl)⟩
    · have hc20 := hc2; have hc2 := of_decide_eq_false hc2; have H := bF H hc2
      refine w_exit rfl ?_
      refine hN6 _ _ ?_
      refine w_seq fun _ hN15 => ?_
      refine w_reg ?_
      refine stp hA (r_mv hA rfl) rfl fun a hA => ?_
      obtain ⟨r2, hr2, H⟩ := bB H
      refine o_callp (u := .tuple #[.int .u64 r2.1, .bool r2.2]) cf128 hA rfl hI ((by obtain ⟨μ2, hle2, hsv2, hI⟩ := hI.freezeRow 0 rfl; have hS1 : Slc (RI .u64) 1 μ2 vvs1 s1 := ⟨_, ws1, hsv2⟩; exact low_plain hle2 (compact_Sum.c μ2 _ hI.agr s1 vvs1 hS1 r2 hr2))) rfl fun a w hz3 hI hA => 
        stp hA (r_mv hA rfl) rfl fun a hA => 
        stp hA (r_extr (vs := [.int .u64 r2.1, .bool r2.2]) hA rfl rfl) rfl fun a hA => 
        stp hA (r_extr (vs := [.int .u64 r2.1, .bool r2.2]) hA rfl rfl) rfl fun a hA => 
        stp hA (r_as hA rfl) rfl fun a hA => 
        stp hA (r_as hA rfl) rfl fun a hA => ?_
      refine o_nil ?_
      refine hN15 _ _ ?_
      refine w_seq fun _ hN16 => ?_
      refine w_reg ?_
      refine stp hA (r_ldA (j := 1) [] [[.int .u32 x0.Version], [u0_0], [u0_1], [.int .u32 x0.Time]] [] Tryd.underlying68 rfl sz68 rfl hI rfl hA rfl rfl) rfl fun a hA => ?_
      obtain ⟨r3, hr3, H⟩ := bB H
      refine o_callp (u := .tuple #[.int .u64 r3.1, .bool r3.2]) cf103 hA rfl hI (tx_Sum.c μ _ hI.agr x0 u0_0 u0_1 ⟨hx0.1, hx0.2.1, hx0.2.2.1, hx0.2.2.2⟩ r3 hr3) rfl fun a w hz4 hI hA => 
        stp hA (r_mv hA rfl) rfl fun a hA => 
        stp hA (r_extr (vs := [.int .u64 r3.1, .bool r3.2]) hA rfl rfl) rfl fun a hA => 
        stp hA (r_extr (vs := [.int .u64 r3.1, .bool r3.2]) hA rfl rfl) rfl fun a hA => 
        stp hA (r_as hA rfl) rfl fun a hA => 
        stp hA (r_as hA rfl) rfl fun a hA => ?_
      refine o_nil ?_
      refine hN16 _ _ ?_
      refine w_seq fun _ hN17 => ?_
      refine w_block ?_
      obtain ⟨c1, hz5, Hk2⟩ := bB H
      refine w_cut (fun a w => Fr a 77 [(0, .agg [[.int .u32 x0.Version], [u0_0], [u0_1], [.int .u32 x0.Time]].flatten.toArray), (1, u1), (2, .pointer (some ⟨g1, 0, none⟩)), (4, .int .u64 0), (5, .nilIface), (6, vvs1), (9, .int .u64 r2.1), (10, .bool r2.2), (11, .int .u64 r3.1), (12, .bool r3.2), (18, .bool (decide ((x1.length : Int) ≠ (x0.Ins.length : Int)))), (21, u0_0), (22, .int .i64 (x0.Ins.length : Int)), (23, .int .i64 s2), (24, .bool (decide (s2 < (x0.Ins.length : Int)))), (61, .bool c1)] ∧ Iv w0 [] μ μ [row 22 1 vvs1 s1.length ccs1, cel g1 [[.int .u32 x0.Version], [u0_0], [u0_1], [.int .u32 x0.Time]] 68] w) ?_ ?_
      · have H := bI hz5
        refine w_reg ?_
        refine stp hA (r_mv hA rfl) rfl fun a hA => 
          stp hA (r_not hA rfl) rfl fun a hA => 
          stp hA (r_mv hA rfl) rfl fun a hA => ?_
        rcases Bool.eq_false_or_eq_true (!r2.2) with hc4 | hc4
        · have hc40 := hc4; have hc4 := nT hc4; have hc4 := ft hc4; have H := bF H hc4
          refine o_no hA rfl rfl (by rw [hc40]; simp [vb]) rfl fun a hA => 
            o_no hA rfl rfl (by rw [hc40]; simp [vb]) rfl fun a hA => 
            stp hA (r_pick_t hA rfl hc40 rfl) rfl fun a hA => 
            stp hA (r_as hA rfl) rfl fun a hA => ?_
          refine o_nil ?_
          cases Option.some.inj (bS H)
          exact ⟨hA.sub ⟨rfl, rfl, rfl, rfl, rfl, rfl, rfl, rfl, rfl, rfl, rfl, rfl, rfl, rfl, rfl, rfl, trivial⟩, hI⟩
        · have hc40 := hc4; have hc4 := nF hc4; have H := bT H hc4
          refine o_yes hA rfl rfl hc40 <| 
            stp hA (r_mv hA rfl) rfl fun a hA => 
            o_yes hA rfl rfl hc40 <| 
            stp hA (r_not hA rfl) rfl fun a hA => 
            stp hA (r_pick_f hA rfl hc40 rfl) rfl fun a hA => 
            stp hA (r_as hA rfl) rfl fun a hA => ?_
          refine o_nil ?_
          cases Option.some.inj (bS H)
          exact ⟨hA.sub ⟨rfl, rfl, rfl, rfl, rfl, rfl, rfl, rfl, rfl, rfl, rfl, rfl, rfl, rfl, rfl, rfl, trivial⟩, hI⟩
      · rintro a w ⟨hA, hI⟩
        have H := Hk2
        refine w_cond hA rfl (fun hc5 => ?_) (fun hc5 => ?_)
        · have hc50 := hc5; have H := bT H hc5
          refine w_seq fun _ hN18 => ?_
          refine w_draw mo (by kernel_rfl) hI ?_
          refine qtp hA (fun _ hI => r_ldG Tryd.underlying34 rfl hI.agr he4 hA) rfl fun a hA => 
            qtp hA (fun _ hI => r_as hA rfl) rfl fun a hA => 
            qtp hA (fun _ hI => r_as hA rfl) rfl fun a hA => ?_
          refine q_nil fun w hI => ?_
          refine hN18 _ _ ?_
          refine w_ret ?_
          have H : some (0, xErrValue) = some z1 := H
          obtain rfl := Option.some.inj H
          have H := Hk1
          obtain rfl := Option.some.inj (bS H)
          exact ret2 hA Tryd.results72 rfl rfl ⟨_, rfl, e4, μ, rfl, (in_lit .u64 0 rfl), he4, (hI.sel [] (by decide) rfl)⟩
        · have hc50 := hc5; have hc5 := ft hc5; have H := bF H hc5
          refine w_seq fun _ hN19 => ?_
          refine w_reg ?_
          refine stp hA (r_mv hA rfl) rfl fun a hA => 
            stp hA (r_mv hA rfl) rfl fun a hA => 
            stp hA (r_lss hA rfl rfl) rfl fun a hA => 
            stp hA (r_as hA rfl) rfl fun a hA => ?_
          refine o_nil ?_
          refine hN19 _ _ ?_
          refine w_cond hA rfl (fun hc6 => ?_) (fun hc6 => ?_)
          · have hc60 := hc6; have hc6 := of_decide_eq_true hc6; have H := bT H hc6
            refine w_seq fun _ hN20 => ?_
            refine w_draw mo (by kernel_rfl) hI ?_
            refine qtp hA (fun _ hI => r_ldG Tryd.underlying34 rfl hI.agr he7 hA) rfl fun a hA => 
              qtp hA (fun _ hI => r_as hA rfl) rfl fun a hA => 
              qtp hA (fun _ hI => r_as hA rfl) rfl fun a hA => ?_
            refine q_nil fun w hI => ?_
            refine hN20 _ _ ?_
            refine w_ret ?_
            have H : some (0, xErrLess) = some z1 := H
            obtain rfl := Option.some.inj H
            have H := Hk1
            obtain rfl := Option.some.inj (bS H)
            exact ret2 hA Tryd.results72 rfl rfl ⟨_, rfl, e7, μ, rfl, (in_lit .u64 0 rfl), he7, (hI.sel [] (by decide) rfl)⟩
          · have hc60 := hc6; have hc6 := of_decide_eq_false hc6; have H := bF H hc6
            refine w_skip ?_
            refine hN17 _ _ ?_
            refine w_seq fun _ hN21 => ?_
            refine w_reg ?_
            refine stp hA (r_mv hA rfl) rfl fun a hA => 
              stp hA (r_mv hA rfl) rfl fun a hA => 
              stp hA (r_sub hA rfl rfl) rfl fun a hA => 
              stp hA (r_as hA rfl) rfl fun a hA => 
              stp hA (r_as hA rfl) rfl fun a hA => ?_
            refine o_nil ?_
            refine hN21 _ _ ?_
            refine w_ret ?_
            have H : some (IntKind.u64.wrap (r2.1 - r3.1), (Er.b 0)) = some z1 := H
            obtain rfl := Option.some.inj H
            have H := Hk1
            obtain rfl := Option.some.inj (bS H)
            exact ret2 hA Tryd.results72 rfl rfl ⟨_, rfl, .nilIface, μ, rfl, (wrap_in _ _), erv_nil, (hI.sel [] (by decide) rfl)⟩
set_option maxRecDepth 20000 in
theorem sargassoref8_Fee.c (μ : Store) (w0 : World) (hμ : Agr μ w0) (x0 : Tx) (u0_0 : Value) (u0_1 : Value) (hx0 : TxW μ x0 u0_0 u0_1) (x1 : List Money) (u1 : Value) (hx1 : Slc (RMoney μ) 35 μ u1 x1) (r : Int × sargassorefFault) (H : sargassoref8_Fee.f x0 x1 = some r) :
    Calls Tryd.prog 75 [.agg [[.int .u32 x0.Version], [u0_0], [u0_1], [.int .u32 x0.Time]].flatten.toArray, u1].toArray w0 (fun e w' => ∃ v, e = .returned v ∧ v = .tuple #[.int .u64 r.1, .agg [[.int .i64 r.2.Code], [.bool r.2.Placed], [.int .i64 r.2.Pos], [.bool r.2.Outer], [.int .i64 r.2.At]].flatten.toArray] ∧ (InR .u64 r.1 ∧ sargassorefFaultW μ r.2) ∧ Iv w0 [] μ μ [] w') := by
  refine enter Tryd.func75 rfl Tryd.ntmps75 rfl fun a hA => ?_
  have hI := Iv.start hμ
  have H := bI H
  refine w_seq fun _ hN1 => ?_
  refine w_reg ?_
  refine o_box [[.int .u32 x0.Version], [u0_0], [u0_1], [.int .u32 x0.Time]] hI hA rfl rfl rfl fun g1 a w hA hI hg1 => 
    stp hA (r_as hA rfl) rfl fun a hA => 
    o_new [[.int .i64 0], [.bool false], [.int .i64 0], [.bool false], [.int .i64 0]] zr109 hI hA rfl fun g2 a w hA hI hg2 => ?_
  refine o_nil ?_
  refine hN1 _ _ ?_
  refine w_seq fun _ hN2 => ?_
  refine w_seq fun _ hN3 => ?_
  refine w_reg ?_
  refine stp hA (r_mv hA rfl) rfl fun a hA => ?_
  obtain ⟨_, hsl1⟩ := Slc.sv hx1
  refine stp hA (r_slen Tryd.underlying102 hsl1 hA rfl) rfl fun a hA => 
    stp hA (r_fd (k := 1) Tryd.underlying68 rfl sz63 hA rfl rfl) rfl fun a hA => 
    stp hA (r_ld1 (j := 1) [[.int .u32 x0.Version]] [[u0_1], [.int .u32 x0.Time]] Tryd.underlying63 rfl hI rfl hA rfl rfl) rfl fun a hA => ?_
  obtain ⟨_, hsl2⟩ := Slc.sv hx0.2.1
  refine stp hA (r_slen Tryd.underlying63 hsl2 hA rfl) rfl fun a hA => 
    stp hA (r_neq hA rfl rfl) rfl fun a hA => ?_
  refine o_nil ?_
  refine hN3 _ _ ?_
  refine w_cond hA rfl (fun hc1 => ?_) (fun hc1 => ?_)
  · have hc10 := hc1; have hc1 := of_decide_eq_true hc1; have H := bT H hc1
    refine w_seq fun _ hN4 => ?_
    refine w_reg ?_
    obtain ⟨r1, hr1, H⟩ := bB H
    refine o_callp (u := .agg [[.int .i64 r1.Code], [.bool r1.Placed], [.int .i64 r1.Pos], [.bool r1.Outer], [.int .i64 r1.At]].flatten.toArray) cf96 hA rfl hI (sargassoref_Bare.c μ _ hI.agr 102 (in_lit .i64 102 rfl) r1 hr1) rfl fun a w hz1 hI hA => 
      stp hA (r_as hA rfl) rfl fun a hA => 
      o_st (j := 0) [] [[.int .i64 0], [.bool false], [.int .i64 0], [.bool false], [.int .i64 0]] [[.int .i64 r1.Code], [.bool r1.Placed], [.int .i64 r1.Pos], [.bool r1.Outer], [.int .i64 r1.At]] [] sz109 rfl rfl (fl_cons (one_one rfl) (fl_cons (one_one rfl) (fl_cons (one_one rfl) (fl_cons (one_one rfl) (fl_cons (one_one rfl) fl_nil))))) hI rfl hA rfl rfl rfl rfl fun w hI => ?_
    refine o_nil ?_
    refine hN4 _ _ ?_
    refine w_ret ?_
    obtain rfl := Option.some.inj (bS H)
    exact retN hA Tryd.results75 (.tmp rfl (.cell rfl (cell_ld Tryd.underlying109 rfl sz109 rfl hI (j := 0) rfl) .nil)) ⟨_, rfl, rfl, ⟨(in_lit .u64 0 rfl), ⟨hz1.1, hz1.2.1, hz1.2.2⟩⟩, hI.forget0⟩
  · have hc10 := hc1; have hc1 := of_decide_eq_false hc1; have H := bF H hc1
    refine w_skip ?_
    refine hN2 _ _ ?_
    refine w_seq fun _ hN5 => ?_
    refine w_reg ?_
    refine stp hA (r_as hA rfl) rfl fun a hA => ?_
    refine o_nil ?_
    refine hN5 _ _ ?_
    refine w_seq fun _ hN6 => ?_
    refine w_seq fun _ hN7 => ?_
    refine w_reg ?_
    refine stp hA (r_as hA rfl) rfl fun a hA => ?_
    refine o_nil ?_
    refine hN7 _ _ ?_
    refine w_block ?_
    have hI := hI.nilRow 22 1
    obtain ⟨z1, hz2, Hk1⟩ := bind_some H
    obtain ⟨n1, hn1⟩ := loopO_some hz2
    refine w_loop (fun n a w => ∃ (s1 : List Int) (s2 : Int) (vvs1 : Value) (ccs1 : List Value), loopN (sargassoref8_Fee.s0 x0 x1) n (s1, s2) = some z1 ∧ Els (RI .u64) 1 s1 ccs1 ∧ InR .i64 s2 ∧ Fr a 74 [(0, .agg [[.int .u32 x0.Version], [u0_0], [u0_1], [.int .u32 x0.Time]].flatten.toArray), (1, u1), (2, .pointer (some ⟨g1, 0, none⟩)), (4, .int .u64 0), (5, .pointer (some ⟨g2, 0, none⟩)), (6, vvs1), (7, .int .i64 s2), (17, .bool (decide ((x1.length : Int) ≠ (x0.Ins.length : Int))))] ∧ Iv w0 [] μ μ [row 22 1 vvs1 s1.length ccs1, cel g2 [[.int .i64 0], [.bool false], [.int .i64 0], [.bool false], [.int .i64 0]] 109, cel g1 [[.int .u32 x0.Version], [u0_0], [u0_1], [.int .u32 x0.Time]] 68] w) n1 ⟨[], 0, (.slice none 0 0), [], hn1, (Els.nil (RE := (RI .u64)) (sz := 1)), (in_lit .i64 0 rfl), hA.sub ⟨rfl, rfl, rfl, rfl, rfl, rfl, rfl, rfl, trivial⟩, hI⟩ ?_
    clear hA hI
    rintro n a w ⟨s1, s2, vvs1, ccs1, hn1, ws1, ws2, hA, hI⟩
    obtain ⟨m1, rfl, H⟩ := loopN_bind hn1
    clear hn1
    refine w_seq fun _ hN8 => ?_
    refine w_seq fun _ hN9 => ?_
    refine w_reg ?_
    refine stp hA (r_mv hA rfl) rfl fun a hA => 
      stp hA (r_mv hA rfl) rfl fun a hA => ?_
    obtain ⟨_, hsl3⟩ := Slc.sv hx1
    refine stp hA (r_slen Tryd.underlying102 hsl3 hA rfl) rfl fun a hA => 
      stp hA (r_lss hA rfl rfl) rfl fun a hA => ?_
    refine o_nil ?_
    refine hN9 _ _ ?_
    refine w_cond hA rfl (fun hc2 => ?_) (fun hc2 => ?_)
    · have hc20 := hc2; have hc2 := of_decide_eq_true hc2; have H := bT H hc2
      refine w_skip ?_
      refine hN8 _ _ ?_
      refine w_seq fun _ hN10 => ?_
      refine w_block ?_
      refine w_seq fun _ hN11 => ?_
      refine w_seq fun _ hN12 => ?_
      refine w_draw mo (by kernel_rfl) hI ?_
      refine qtp hA (fun _ hI => r_fd (k := 1) Tryd.underlying68 rfl sz63 hA rfl rfl) rfl fun a hA => 
        qtp hA (fun _ hI => r_ld1 (j := 2) [[.int .u32 x0.Version]] [[u0_1], [.int .u32 x0.Time]] Tryd.underlying63 rfl hI rfl hA rfl rfl) rfl fun a hA => 
        qtp hA (fun _ hI => r_mv hA rfl) rfl fun a hA => ?_
      obtain ⟨hb1, H⟩ := bG H
      obtain ⟨_, he1, _, hat1⟩ := Slc.elem hx0.2.1 (getD_some default hb1.1 hb1.2)
      obtain ⟨v1, rfl, hw1⟩ := he1
      obtain ⟨_, hsl4⟩ := Slc.sv hx0.2.1
      refine qtp hA (fun _ hI => r_six Tryd.underlying63 sz62 hsl4 hA rfl rfl hb1.1 hb1.2) rfl fun a hA => 
        qtp hA (fun _ hI => r_fd (k := so u0_0 + s2.toNat * 35 + 33) Tryd.underlying62 rfl sz23 hA rfl rfl) rfl fun a hA => 
        qtp hA (fun _ hI => r_ldm1 [av .u8 32 ((x0.Ins.getD s2.toNat default).From.Tx), [.int .u32 ((x0.Ins.getD s2.toNat default).From.N)]] [[.int .u32 ((x0.Ins.getD s2.toNat default).Seq)]] Tryd.underlying23 rfl hI.agr hat1 hA rfl rfl) rfl fun a hA => 
        qtp hA (fun _ hI => r_mv hA rfl) rfl fun a hA => 
        qtp hA (fun _ hI => r_mv hA rfl) rfl fun a hA => ?_
      obtain ⟨hb2, H⟩ := bG H
      obtain ⟨_, he2, _, hat2⟩ := Slc.elem hx1 (getD_some default hb2.1 hb2.2)
      obtain ⟨rfl, hw2⟩ := he2
      obtain ⟨_, hsl5⟩ := Slc.sv hx1
      refine qtp hA (fun _ hI => r_six Tryd.underlying102 sz104 hsl5 hA rfl rfl hb2.1 hb2.2) rfl fun a hA => 
        qtp hA (fun _ hI => r_fd (k := so u1 + s2.toNat * 35 + 1) Tryd.underlying104 rfl sz55 hA rfl rfl) rfl fun a hA => 
        qtp hA (fun _ hI => r_ldmA [[.int .u64 ((x1.getD s2.toNat default).Value)]] [av .u8 32 ((x1.getD s2.toNat default).Lock)] [[.int .i64 ((x1.getD s2.toNat default).Height)], [.bool ((x1.getD s2.toNat default).Base)]] Tryd.underlying55 rfl sz55 rfl hI.agr hat2 hA rfl rfl) rfl fun a hA => ?_
      obtain ⟨r2, hr2, H⟩ := bB H
      refine qcall (v := .bool r2) cf132 hA rfl (fun _ hI => plq (sargassoref1_Opens.c μ _ hI.agr ((x0.Ins.getD s2.toNat default).Key) v1 hw1.2.2.1 ((x1.getD s2.toNat default).Lock) hw2.2.1 r2 hr2) hI) rfl fun a hA => 
        qtp hA (fun _ hI => r_not hA rfl) rfl fun a hA => ?_
      refine q_nil fun w hI => ?_
      refine hN12 _ _ ?_
      refine w_cond hA rfl (fun hc3 => ?_) (fun hc3 => ?_)
      · have hc30 := hc3; have hc3 := nT hc3; have hc3 := ft hc3; have H := bF H hc3
        refine w_seq fun _ hN13 => ?_
        refine w_reg ?_
        refine stp hA (r_mv hA rfl) rfl fun a hA => ?_
        obtain ⟨r3, hr3, H⟩ := bB H
        refine o_callp (u := .agg [[.int .i64 r3.Code], [.bool r3.Placed], [.int .i64 r3.Pos], [.bool r3.Outer], [.int .i64 r3.At]].flatten.toArray) cf74 hA rfl hI (sargassoref_Placed.c μ _ hI.agr 114 (in_lit .i64 114 rfl) s2 ws2 r3 hr3) rfl fun a w hz4 hI hA => 
          stp hA (r_as hA rfl) rfl fun a hA => 
          o_st (j := 1) [] [[.int .i64 0], [.bool false], [.int .i64 0], [.bool false], [.int .i64 0]] [[.int .i64 r3.Code], [.bool r3.Placed], [.int .i64 r3.Pos], [.bool r3.Outer], [.int .i64 r3.At]] [] sz109 rfl rfl (fl_cons (one_one rfl) (fl_cons (one_one rfl) (fl_cons (one_one rfl) (fl_cons (one_one rfl) (fl_cons (one_one rfl) fl_nil))))) hI rfl hA rfl rfl rfl rfl fun w hI => ?_
        refine o_nil ?_
        refine hN13 _ _ ?_
        refine w_ret ?_
        have H : some (0, r3) = some z1 := H
        obtain rfl := Option.some.inj H
        have H := Hk1
        obtain rfl := Option.some.inj (bS H)
        exact retN hA Tryd.results75 (.tmp rfl (.cell rfl (cell_ld Tryd.underlying109 rfl sz109 rfl hI (j := 1) rfl) .nil)) ⟨_, rfl, rfl, ⟨(in_lit .u64 0 rfl), ⟨hz4.1, hz4.2.1, hz4.2.2⟩⟩, hI.forget0⟩
      · have hc30 := hc3; have hc3 := nF hc3; have H := bT H hc3
        refine w_skip ?_
        refine hN11 _ _ ?_
        refine w_reg ?_
        refine stp hA (r_mv hA rfl) rfl fun a hA => 
          stp hA (r_mv hA rfl) rfl fun a hA => 
          stp hA (r_mv hA rfl) rfl fun a hA => 
          stp hA (r_six Tryd.underlying102 sz104 hsl5 hA rfl rfl hb2.1 hb2.2) rfl fun a hA => 
          stp hA (r_fd (k := so u1 + s2.toNat * 35) Tryd.underlying104 rfl sz22 hA rfl rfl) rfl fun a hA => 
          stp hA (r_ldm1 [] [av .u8 32 ((x1.getD s2.toNat default).Lock), [.int .i64 ((x1.getD s2.toNat default).Height)], [.bool ((x1.getD s2.toNat default).Base)]] Tryd.underlying22 rfl hI.agr hat2 hA rfl rfl) rfl fun a hA => ?_
        have hE1 : Els (RI .u64) 1 ([(x1.getD s2.toNat default).Value] : List Int) ([[.int .u64 ((x1.getD s2.toNat default).Value)]].flatten ++ ([])) := (Els.cons (c := [[.int .u64 ((x1.getD s2.toNat default).Value)]].flatten) ⟨rfl, hw2.1⟩ rfl Els.nil)
        refine o_bsl ([[.int .u64 ((x1.getD s2.toNat default).Value)]].flatten ++ ([])) te22 zr22 Tryd.underlying42 hI hA rfl rfl rfl rfl (by kernel_rfl) rfl fun g3 a w hA hI => ?_
        generalize hcs : ([[.int .u64 ((x1.getD s2.toNat default).Value)]].flatten ++ ([]) : List Value) = cs1 at hE1 hI
        clear hcs
        obtain ⟨hb3, H⟩ := bG H
        have hE3 := ws1.app hE1
        refine o_appL (xs := (s1 : List Int)) (ys := (([(x1.getD s2.toNat default).Value] : List Int) : List Int)) (j := 1) te22 Tryd.underlying42 hI rfl hA rfl rfl (src_row hI (j := 0) rfl) hE1.len (hE1.ones (one_RI _)) (by first | decide | (have hq := hb3; (try simp only [List.length_cons, List.length_nil] at hq); (try simp only [List.length_cons, List.length_nil]); (try simp only [maxLen]); omega)) (by first | decide | (have hq := hb3; (try simp only [List.length_cons, List.length_nil] at hq); (try simp only [List.length_cons, List.length_nil]); (try simp only [maxLen]); omega)) rfl fun v2 a w hA hI => 
          stp hA (r_as hA rfl) rfl fun a hA => ?_
        refine o_nil ?_
        refine hN10 _ _ ?_
        refine w_reg ?_
        refine stp hA (r_mv hA rfl) rfl fun a hA => 
          stp hA (r_add hA rfl rfl) rfl fun a hA => 
          stp hA (r_as hA rfl) rfl fun a hA => ?_
        refine o_nil ?_
        exact ⟨m1, Nat.lt_succ_self _, s1 ++ ([(x1.getD s2.toNat default).Value] : List Int), IntKind.i64.wrap (s2 + 1), v2, ccs1 ++ cs1, H, hE3, (wrap_in _ _), hA.sub ⟨rfl, rfl, rfl, rfl, rfl, rfl, rfl, rfl, trivial⟩, (hI.sel [1, 2, 3] (by decide) rfl)⟩
    · have hc20 := hc2; have hc2 := of_decide_eq_false hc2; have H := bF H hc2
      refine w_exit rfl ?_
      refine hN6 _ _ ?_
      refine w_seq fun _ hN14 => ?_
      refine w_reg ?_
      refine stp hA (r_mv hA rfl) rfl fun a hA => ?_
      obtain ⟨r4, hr4, H⟩ := bB H
      refine o_callp (u := .tuple #[.int .u64 r4.1, .bool r4.2]) cf119 hA rfl hI ((by obtain ⟨μ1, hle1, hsv2, hI⟩ := hI.freezeRow 0 rfl; have hS1 : Slc (RI .u64) 1 μ1 vvs1 s1 := ⟨_, ws1, hsv2⟩; exact low_plain hle1 (sargassoref1_Sum.c μ1 _ hI.agr s1 vvs1 hS1 r4 hr4))) rfl fun a w hz5 hI hA => 
        stp hA (r_mv hA rfl) rfl fun a hA => 
        stp hA (r_extr (vs := [.int .u64 r4.1, .bool r4.2]) hA rfl rfl) rfl fun a hA => 
        stp hA (r_extr (vs := [.int .u64 r4.1, .bool r4.2]) hA rfl rfl) rfl fun a hA => 
        stp hA (r_as hA rfl) rfl fun a hA => 
        stp hA (r_as hA rfl) rfl fun a hA => ?_
      refine o_nil ?_
      refine hN14 _ _ ?_
      refine w_seq fun _ hN15 => ?_
      refine w_reg ?_
      refine stp hA (r_ldA (j := 2) [] [[.int .u32 x0.Version], [u0_0], [u0_1], [.int .u32 x0.Time]] [] Tryd.underlying68 rfl sz68 rfl hI rfl hA rfl rfl) rfl fun a hA => ?_
      obtain ⟨r5, hr5, H⟩ := bB H
      refine o_call _ cf120 hA rfl (sargassoref1_Values.c μ _ hI.agr x0 u0_0 u0_1 ⟨hx0.1, hx0.2.1, hx0.2.2.1, hx0.2.2.2⟩ r5 hr5) rfl fun v3 a w hz6 hA => ?_
      obtain ⟨_, cs4, rfl, hE4, hi1⟩ := hz6
      have hI := hI.call hi1
      obtain ⟨r6, hr6, H⟩ := bB H
      refine o_callp (u := .tuple #[.int .u64 r6.1, .bool r6.2]) cf119 hA rfl hI ((by obtain ⟨μ2, hle2, hsv3, hI⟩ := hI.freezeRow 0 rfl; have hS2 : Slc (RI .u64) 1 μ2 v3 r5 := ⟨_, hE4, hsv3⟩; exact low_plain hle2 (sargassoref1_Sum.c μ2 _ hI.agr r5 v3 hS2 r6 hr6))) rfl fun a w hz7 hI hA => 
        stp hA (r_mv hA rfl) rfl fun a hA => 
        stp hA (r_extr (vs := [.int .u64 r6.1, .bool r6.2]) hA rfl rfl) rfl fun a hA => 
        stp hA (r_extr (vs := [.int .u64 r6.1, .bool r6.2]) hA rfl rfl) rfl fun a hA => 
        stp hA (r_as hA rfl) rfl fun a hA => 
        stp hA (r_as hA rfl) rfl fun a hA => ?_
      refine o_nil ?_
      refine hN15 _ _ ?_
      refine w_seq fun _ hN16 => ?_
      obtain ⟨c1, hz8, Hk2⟩ := bB H
      refine w_cut (fun a w => Fr a 74 [(0, .agg [[.int .u32 x0.Version], [u0_0], [u0_1], [.int .u32 x0.Time]].flatten.toArray), (1, u1), (2, .pointer (some ⟨g1, 0, none⟩)), (4, .int .u64 0), (5, .pointer (some ⟨g2, 0, none⟩)), (6, vvs1), (7, .int .i64 s2), (8, .int .u64 r4.1), (9, .bool r4.2), (10, .int .u64 r6.1), (11, .bool r6.2), (17, .bool (decide ((x1.length : Int) ≠ (x0.Ins.length : Int)))), (22, .bool (decide (s2 < (x1.length : Int)))), (64, .bool c1)] ∧ Iv w0 [] μ μ [row 22 1 v3 r5.length cs4, row 22 1 vvs1 s1.length ccs1, cel g2 [[.int .i64 0], [.bool false], [.int .i64 0], [.bool false], [.int .i64 0]] 109, cel g1 [[.int .u32 x0.Version], [u0_0], [u0_1], [.int .u32 x0.Time]] 68] w) ?_ ?_
      · have H := bI hz8
        refine w_reg ?_
        refine stp hA (r_mv hA rfl) rfl fun a hA => 
          stp hA (r_not hA rfl) rfl fun a hA => 
          stp hA (r_mv hA rfl) rfl fun a hA => ?_
        rcases Bool.eq_false_or_eq_true (!r4.2) with hc4 | hc4
        · have hc40 := hc4; have hc4 := nT hc4; have hc4 := ft hc4; have H := bF H hc4
          refine o_no hA rfl rfl (by rw [hc40]; simp [vb]) rfl fun a hA => 
            o_no hA rfl rfl (by rw [hc40]; simp [vb]) rfl fun a hA => 
            stp hA (r_pick_t hA rfl hc40 rfl) rfl fun a hA => ?_
          refine o_nil ?_
          cases Option.some.inj (bS H)
          exact ⟨hA.sub ⟨rfl, rfl, rfl, rfl, rfl, rfl, rfl, rfl, rfl, rfl, rfl, rfl, rfl, rfl, trivial⟩, hI⟩
        · have hc40 := hc4; have hc4 := nF hc4; have H := bT H hc4
          refine o_yes hA rfl rfl hc40 <| 
            stp hA (r_mv hA rfl) rfl fun a hA => 
            o_yes hA rfl rfl hc40 <| 
            stp hA (r_not hA rfl) rfl fun a hA => 
            stp hA (r_pick_f hA rfl hc40 rfl) rfl fun a hA => ?_
          refine o_nil ?_
          cases Option.some.inj (bS H)
          exact ⟨hA.sub ⟨rfl, rfl, rfl, rfl, rfl, rfl, rfl, rfl, rfl, rfl, rfl, rfl, rfl, rfl, trivial⟩, hI⟩
      · rintro a w ⟨hA, hI⟩
        have H := Hk2
        refine w_cond hA rfl (fun hc5 => ?_) (fun hc5 => ?_)
        · have hc50 := hc5; have H := bT H hc5
          refine w_seq fun _ hN17 => ?_
          refine w_reg ?_
          obtain ⟨r7, hr7, H⟩ := bB H
          refine o_callp (u := .agg [[.int .i64 r7.Code], [.bool r7.Placed], [.int .i64 r7.Pos], [.bool r7.Outer], [.int .i64 r7.At]].flatten.toArray) cf96 hA rfl hI (sargassoref_Bare.c μ _ hI.agr 105 (in_lit .i64 105 rfl) r7 hr7) rfl fun a w hz9 hI hA => 
            stp hA (r_as hA rfl) rfl fun a hA => 
            o_st (j := 2) [] [[.int .i64 0], [.bool false], [.int .i64 0], [.bool false], [.int .i64 0]] [[.int .i64 r7.Code], [.bool r7.Placed], [.int .i64 r7.Pos], [.bool r7.Outer], [.int .i64 r7.At]] [] sz109 rfl rfl (fl_cons (one_one rfl) (fl_cons (one_one rfl) (fl_cons (one_one rfl) (fl_cons (one_one rfl) (fl_cons (one_one rfl) fl_nil))))) hI rfl hA rfl rfl rfl rfl fun w hI => ?_
          refine o_nil ?_
          refine hN17 _ _ ?_
          refine w_ret ?_
          have H : some (0, r7) = some z1 := H
          obtain rfl := Option.some.inj H
          have H := Hk1
          obtain rfl := Option.some.inj (bS H)
          exact retN hA Tryd.results75 (.tmp rfl (.cell rfl (cell_ld Tryd.underlying109 rfl sz109 rfl hI (j := 2) rfl) .nil)) ⟨_, rfl, rfl, ⟨(in_lit .u64 0 rfl), ⟨hz9.1, hz9.2.1, hz9.2.2⟩⟩, hI.forget0⟩
        · have hc50 := hc5; have hc5 := ft hc5; have H := bF H hc5
          refine w_skip ?_
          refine hN16 _ _ ?_
          refine w_seq fun _ hN18 => ?_
          refine w_seq fun _ hN19 => ?_
          refine w_reg ?_
          refine stp hA (r_mv hA rfl) rfl fun a hA => 
            stp hA (r_mv hA rfl) rfl fun a hA => 
            stp hA (r_lss hA rfl rfl) rfl fun a hA => ?_
          refine o_nil ?_
          refine hN19 _ _ ?_
          refine w_cond hA rfl (fun hc6 => ?_) (fun hc6 => ?_)
          · have hc60 := hc6; have hc6 := of_decide_eq_true hc6; have H := bT H hc6
            refine w_seq fun _ hN20 => ?_
            refine w_reg ?_
            obtain ⟨r8, hr8, H⟩ := bB H
            refine o_callp (u := .agg [[.int .i64 r8.Code], [.bool r8.Placed], [.int .i64 r8.Pos], [.bool r8.Outer], [.int .i64 r8.At]].flatten.toArray) cf96 hA rfl hI (sargassoref_Bare.c μ _ hI.agr 117 (in_lit .i64 117 rfl) r8 hr8) rfl fun a w hz10 hI hA => 
              stp hA (r_as hA rfl) rfl fun a hA => 
              o_st (j := 2) [] [[.int .i64 0], [.bool false], [.int .i64 0], [.bool false], [.int .i64 0]] [[.int .i64 r8.Code], [.bool r8.Placed], [.int .i64 r8.Pos], [.bool r8.Outer], [.int .i64 r8.At]] [] sz109 rfl rfl (fl_cons (one_one rfl) (fl_cons (one_one rfl) (fl_cons (one_one rfl) (fl_cons (one_one rfl) (fl_cons (one_one rfl) fl_nil))))) hI rfl hA rfl rfl rfl rfl fun w hI => ?_
            refine o_nil ?_
            refine hN20 _ _ ?_
            refine w_ret ?_
            have H : some (0, r8) = some z1 := H
            obtain rfl := Option.some.inj H
            have H := Hk1
            obtain rfl := Option.some.inj (bS H)
            exact retN hA Tryd.results75 (.tmp rfl (.cell rfl (cell_ld Tryd.underlying109 rfl sz109 rfl hI (j := 2) rfl) .nil)) ⟨_, rfl, rfl, ⟨(in_lit .u64 0 rfl), ⟨hz10.1, hz10.2.1, hz10.2.2⟩⟩, hI.forget0⟩
          · have hc60 := hc6; have hc6 := of_decide_eq_false hc6; have H := bF H hc6
            refine w_skip ?_
            refine hN18 _ _ ?_
            refine w_seq fun _ hN21 => ?_
            refine w_reg ?_
            refine stp hA (r_mv hA rfl) rfl fun a hA => 
              stp hA (r_mv hA rfl) rfl fun a hA => 
              stp hA (r_sub hA rfl rfl) rfl fun a hA => ?_
            obtain ⟨r9, hr9, H⟩ := bB H
            refine o_callp (u := .agg [[.int .i64 r9.Code], [.bool r9.Placed], [.int .i64 r9.Pos], [.bool r9.Outer], [.int .i64 r9.At]].flatten.toArray) cf131 hA rfl hI (sargassoref_None.c μ _ hI.agr  r9 hr9) rfl fun a w hz11 hI hA => 
              stp hA (r_as hA rfl) rfl fun a hA => 
              o_st (j := 2) [] [[.int .i64 0], [.bool false], [.int .i64 0], [.bool false], [.int .i64 0]] [[.int .i64 r9.Code], [.bool r9.Placed], [.int .i64 r9.Pos], [.bool r9.Outer], [.int .i64 r9.At]] [] sz109 rfl rfl (fl_cons (one_one rfl) (fl_cons (one_one rfl) (fl_cons (one_one rfl) (fl_cons (one_one rfl) (fl_cons (one_one rfl) fl_nil))))) hI rfl hA rfl rfl rfl rfl fun w hI => ?_
            refine o_nil ?_
            refine hN21 _ _ ?_
            refine w_ret ?_
            have H : some (IntKind.u64.wrap (r4.1 - r6.1), r9) = some z1 := H
            obtain rfl := Option.some.inj H
            have H := Hk1
            obtain rfl := Option.some.inj (bS H)
            exact retN hA Tryd.results75 (.tmp rfl (.cell rfl (cell_ld Tryd.underlying109 rfl sz109 rfl hI (j := 2) rfl) .nil)) ⟨_, rfl, rfl, ⟨(wrap_in _ _), ⟨hz11.1, hz11.2.1, hz11.2.2⟩⟩, hI.forget0⟩
set_option maxRecDepth 20000 in
theorem sargassoref8_within.c (μ : Store) (w0 : World) (hμ : Agr μ w0) (x0 : Int) (hx0 : InR .i64 x0) (x1 : Int) (hx1 : InR .i64 x1) (x2 : Int) (hx2 : InR .i64 x2) (r : Bool) (H : sargassoref8_within.f x0 x1 x2 = some r) :
    Calls Tryd.prog 133 [.int .i64 x0, .int .i64 x1, .int .i64 x2].toArray w0 (fun e w' => ∃ v, e = .returned v ∧ v = .bool r ∧ True ∧ Iv w0 [] μ μ [] w') := by
  refine enter Tryd.func133 rfl Tryd.ntmps133 rfl fun a hA => ?_
  have hI := Iv.start hμ
  have H := bI H
  refine w_seq fun _ hN1 => ?_
  refine w_reg ?_
  refine stp hA (r_as hA rfl) rfl fun a hA => ?_
  refine o_nil ?_
  refine hN1 _ _ ?_
  obtain ⟨c1, hz1, Hk1⟩ := bB H
  refine w_cut (fun a w => Fr a 15 [(0, .int .i64 x0), (1, .int .i64 x1), (2, .int .i64 x2), (6, .bool c1)] ∧ Iv w0 [] μ μ [] w) ?_ ?_
  · have H := bI hz1
    refine w_reg ?_
    refine stp hA (r_mv hA rfl) rfl fun a hA => 
      stp hA (r_mv hA rfl) rfl fun a hA => 
      stp hA (r_geq hA rfl rfl) rfl fun a hA => 
      stp hA (r_mv hA rfl) rfl fun a hA => ?_
    rcases Bool.eq_false_or_eq_true (decide (x1 ≤ x0)) with hc1 | hc1
    · have hc10 := hc1; have hc1 := of_decide_eq_true hc1; have H := bT H hc1
      refine o_yes hA rfl rfl hc10 <| 
        stp hA (r_mv hA rfl) rfl fun a hA => 
        o_yes hA rfl rfl hc10 <| 
        stp hA (r_mv hA rfl) rfl fun a hA => 
        o_yes hA rfl rfl hc10 <| 
        stp hA (r_leq hA rfl rfl) rfl fun a hA => 
        stp hA (r_pick_t hA rfl hc10 rfl) rfl fun a hA => 
        stp hA (r_as hA rfl) rfl fun a hA => ?_
      refine o_nil ?_
      cases Option.some.inj (bS H)
      exact ⟨hA.sub ⟨rfl, rfl, rfl, rfl, trivial⟩, hI⟩
    · have hc10 := hc1; have hc1 := of_decide_eq_false hc1; have H := bF H hc1
      refine o_no hA rfl rfl (by rw [hc10]; simp [vb]) rfl fun a hA => 
        o_no hA rfl rfl (by rw [hc10]; simp [vb]) rfl fun a hA => 
        o_no hA rfl rfl (by rw [hc10]; simp [vb]) rfl fun a hA => 
        stp hA (r_pick_f hA rfl hc10 rfl) rfl fun a hA => 
        stp hA (r_as hA rfl) rfl fun a hA => ?_
      refine o_nil ?_
      cases Option.some.inj (bS H)
      exact ⟨hA.sub ⟨rfl, rfl, rfl, rfl, trivial⟩, hI⟩
  · rintro a w ⟨hA, hI⟩
    have H := Hk1
    refine w_ret ?_
    obtain rfl := Option.some.inj (bS H)
    exact ret1 hA Tryd.results133 rfl ⟨_, rfl, rfl, trivial, hI.forget0⟩
set_option maxRecDepth 20000 in
theorem sargassoref8_Rules.c (μ : Store) (w0 : World) (hμ : Agr μ w0) (x0 : Rules) (hx0 : RulesW μ x0) (r : Bool) (H : sargassoref8_Rules.f x0 = some r) :
    Calls Tryd.prog 76 [.agg [[.int .i64 x0.Halving], [.int .i64 x0.Maturity], [.int .i64 x0.PoolBytes], [.int .i64 x0.RedoBytes], [.int .i64 x0.LogMost], [.int .i64 x0.Ancestors], [.int .i64 x0.AncestorBytes], [.int .i64 x0.Descendants], [.int .i64 x0.DescendantBytes]].flatten.toArray].toArray w0 (fun e w' => ∃ v, e = .returned v ∧ v = .bool r ∧ True ∧ Iv w0 [] μ μ [] w') := by
  refine enter Tryd.func76 rfl Tryd.ntmps76 rfl fun a hA => ?_
  have hI := Iv.start hμ
  have H := bI H
  refine w_seq fun _ hN1 => ?_
  refine w_reg ?_
  refine o_box [[.int .i64 x0.Halving], [.int .i64 x0.Maturity], [.int .i64 x0.PoolBytes], [.int .i64 x0.RedoBytes], [.int .i64 x0.LogMost], [.int .i64 x0.Ancestors], [.int .i64 x0.AncestorBytes], [.int .i64 x0.Descendants], [.int .i64 x0.DescendantBytes]] hI hA rfl rfl rfl fun g1 a w hA hI hg1 => 
    stp hA (r_as hA rfl) rfl fun a hA => ?_
  refine o_nil ?_
  refine hN1 _ _ ?_
  obtain ⟨c1, hz1, Hk1⟩ := bB H
  refine w_cut (fun a w => Fr a 46 [(0, .agg [[.int .i64 x0.Halving], [.int .i64 x0.Maturity], [.int .i64 x0.PoolBytes], [.int .i64 x0.RedoBytes], [.int .i64 x0.LogMost], [.int .i64 x0.Ancestors], [.int .i64 x0.AncestorBytes], [.int .i64 x0.Descendants], [.int .i64 x0.DescendantBytes]].flatten.toArray), (1, .pointer (some ⟨g1, 0, none⟩)), (2, .bool c1)] ∧ Iv w0 [] μ μ [cel g1 [[.int .i64 x0.Halving], [.int .i64 x0.Maturity], [.int .i64 x0.PoolBytes], [.int .i64 x0.RedoBytes], [.int .i64 x0.LogMost], [.int .i64 x0.Ancestors], [.int .i64 x0.AncestorBytes], [.int .i64 x0.Descendants], [.int .i64 x0.DescendantBytes]] 96] w) ?_ ?_
  · have H := bI hz1
    refine w_reg ?_
    refine stp hA (r_fd (k := 0) Tryd.underlying96 rfl sz3 hA rfl rfl) rfl fun a hA => 
      stp hA (r_ld1 (j := 0) [] [[.int .i64 x0.Maturity], [.int .i64 x0.PoolBytes], [.int .i64 x0.RedoBytes], [.int .i64 x0.LogMost], [.int .i64 x0.Ancestors], [.int .i64 x0.AncestorBytes], [.int .i64 x0.Descendants], [.int .i64 x0.DescendantBytes]] Tryd.underlying3 rfl hI rfl hA rfl rfl) rfl fun a hA => ?_
    obtain ⟨r1, hr1, H⟩ := bB H
    refine o_callp (u := .bool r1) cf133 hA rfl hI (sargassoref8_within.c μ _ hI.agr x0.Halving hx0.1 1 (in_lit .i64 1 rfl) 1048576 (in_lit .i64 1048576 rfl) r1 hr1) rfl fun a w hz2 hI hA => 
      stp hA (r_mv hA rfl) rfl fun a hA => ?_
    rcases Bool.eq_false_or_eq_true r1 with hc1 | hc1
    · have hc10 := hc1; have H := bT H hc1
      refine o_yes hA rfl rfl hc10 <| 
        stp hA (r_fd (k := 1) Tryd.underlying96 rfl sz3 hA rfl rfl) rfl fun a hA => 
        o_yes hA rfl rfl hc10 <| 
        stp hA (r_ld1 (j := 0) [[.int .i64 x0.Halving]] [[.int .i64 x0.PoolBytes], [.int .i64 x0.RedoBytes], [.int .i64 x0.LogMost], [.int .i64 x0.Ancestors], [.int .i64 x0.AncestorBytes], [.int .i64 x0.Descendants], [.int .i64 x0.DescendantBytes]] Tryd.underlying3 rfl hI rfl hA rfl rfl) rfl fun a hA => 
        o_yes hA rfl rfl hc10 <| ?_
      obtain ⟨r2, hr2, H⟩ := bB H
      refine o_callp (u := .bool r2) cf133 hA rfl hI (sargassoref8_within.c μ _ hI.agr x0.Maturity hx0.2.1 0 (in_lit .i64 0 rfl) 1000 (in_lit .i64 1000 rfl) r2 hr2) rfl fun a w hz3 hI hA => 
        stp hA (r_pick_t hA rfl hc10 rfl) rfl fun a hA => 
        stp hA (r_mv hA rfl) rfl fun a hA => ?_
      rcases Bool.eq_false_or_eq_true r2 with hc2 | hc2
      · have hc20 := hc2; have H := bT H hc2
        refine o_yes hA rfl rfl hc20 <| 
          stp hA (r_fd (k := 2) Tryd.underlying96 rfl sz3 hA rfl rfl) rfl fun a hA => 
          o_yes hA rfl rfl hc20 <| 
          stp hA (r_ld1 (j := 0) [[.int .i64 x0.Halving], [.int .i64 x0.Maturity]] [[.int .i64 x0.RedoBytes], [.int .i64 x0.LogMost], [.int .i64 x0.Ancestors], [.int .i64 x0.AncestorBytes], [.int .i64 x0.Descendants], [.int .i64 x0.DescendantBytes]] Tryd.underlying3 rfl hI rfl hA rfl rfl) rfl fun a hA => 
          o_yes hA rfl rfl hc20 <| ?_
        obtain ⟨r3, hr3, H⟩ := bB H
        refine o_callp (u := .bool r3) cf133 hA rfl hI (sargassoref8_within.c μ _ hI.agr x0.PoolBytes hx0.2.2.1 1 (in_lit .i64 1 rfl) 16777216 (in_lit .i64 16777216 rfl) r3 hr3) rfl fun a w hz4 hI hA => 
          stp hA (r_pick_t hA rfl hc20 rfl) rfl fun a hA => 
          stp hA (r_mv hA rfl) rfl fun a hA => ?_
        rcases Bool.eq_false_or_eq_true r3 with hc3 | hc3
        · have hc30 := hc3; have H := bT H hc3
          refine o_yes hA rfl rfl hc30 <| 
            stp hA (r_fd (k := 3) Tryd.underlying96 rfl sz3 hA rfl rfl) rfl fun a hA => 
            o_yes hA rfl rfl hc30 <| 
            stp hA (r_ld1 (j := 0) [[.int .i64 x0.Halving], [.int .i64 x0.Maturity], [.int .i64 x0.PoolBytes]] [[.int .i64 x0.LogMost], [.int .i64 x0.Ancestors], [.int .i64 x0.AncestorBytes], [.int .i64 x0.Descendants], [.int .i64 x0.DescendantBytes]] Tryd.underlying3 rfl hI rfl hA rfl rfl) rfl fun a hA => 
            o_yes hA rfl rfl hc30 <| ?_
          obtain ⟨r4, hr4, H⟩ := bB H
          refine o_callp (u := .bool r4) cf133 hA rfl hI (sargassoref8_within.c μ _ hI.agr x0.RedoBytes hx0.2.2.2.1 1 (in_lit .i64 1 rfl) 16777216 (in_lit .i64 16777216 rfl) r4 hr4) rfl fun a w hz5 hI hA => 
            stp hA (r_pick_t hA rfl hc30 rfl) rfl fun a hA => 
            stp hA (r_mv hA rfl) rfl fun a hA => ?_
          rcases Bool.eq_false_or_eq_true r4 with hc4 | hc4
          · have hc40 := hc4; have H := bT H hc4
            refine o_yes hA rfl rfl hc40 <| 
              stp hA (r_fd (k := 4) Tryd.underlying96 rfl sz3 hA rfl rfl) rfl fun a hA => 
              o_yes hA rfl rfl hc40 <| 
              stp hA (r_ld1 (j := 0) [[.int .i64 x0.Halving], [.int .i64 x0.Maturity], [.int .i64 x0.PoolBytes], [.int .i64 x0.RedoBytes]] [[.int .i64 x0.Ancestors], [.int .i64 x0.AncestorBytes], [.int .i64 x0.Descendants], [.int .i64 x0.DescendantBytes]] Tryd.underlying3 rfl hI rfl hA rfl rfl) rfl fun a hA => 
              o_yes hA rfl rfl hc40 <| ?_
            obtain ⟨r5, hr5, H⟩ := bB H
            refine o_callp (u := .bool r5) cf133 hA rfl hI (sargassoref8_within.c μ _ hI.agr x0.LogMost hx0.2.2.2.2.1 1 (in_lit .i64 1 rfl) 65536 (in_lit .i64 65536 rfl) r5 hr5) rfl fun a w hz6 hI hA => 
              stp hA (r_pick_t hA rfl hc40 rfl) rfl fun a hA => 
              stp hA (r_mv hA rfl) rfl fun a hA => ?_
            rcases Bool.eq_false_or_eq_true r5 with hc5 | hc5
            · have hc50 := hc5; have H := bT H hc5
              refine o_yes hA rfl rfl hc50 <| 
                stp hA (r_fd (k := 5) Tryd.underlying96 rfl sz3 hA rfl rfl) rfl fun a hA => 
                o_yes hA rfl rfl hc50 <| 
                stp hA (r_ld1 (j := 0) [[.int .i64 x0.Halving], [.int .i64 x0.Maturity], [.int .i64 x0.PoolBytes], [.int .i64 x0.RedoBytes], [.int .i64 x0.LogMost]] [[.int .i64 x0.AncestorBytes], [.int .i64 x0.Descendants], [.int .i64 x0.DescendantBytes]] Tryd.underlying3 rfl hI rfl hA rfl rfl) rfl fun a hA => 
                o_yes hA rfl rfl hc50 <| ?_
              obtain ⟨r6, hr6, H⟩ := bB H
              refine o_callp (u := .bool r6) cf133 hA rfl hI (sargassoref8_within.c μ _ hI.agr x0.Ancestors hx0.2.2.2.2.2.1 1 (in_lit .i64 1 rfl) 1000 (in_lit .i64 1000 rfl) r6 hr6) rfl fun a w hz7 hI hA => 
                stp hA (r_pick_t hA rfl hc50 rfl) rfl fun a hA => 
                stp hA (r_mv hA rfl) rfl fun a hA => ?_
              rcases Bool.eq_false_or_eq_true r6 with hc6 | hc6
              · have hc60 := hc6; have H := bT H hc6
                refine o_yes hA rfl rfl hc60 <| 
                  stp hA (r_fd (k := 7) Tryd.underlying96 rfl sz3 hA rfl rfl) rfl fun a hA => 
                  o_yes hA rfl rfl hc60 <| 
                  stp hA (r_ld1 (j := 0) [[.int .i64 x0.Halving], [.int .i64 x0.Maturity], [.int .i64 x0.PoolBytes], [.int .i64 x0.RedoBytes], [.int .i64 x0.LogMost], [.int .i64 x0.Ancestors], [.int .i64 x0.AncestorBytes]] [[.int .i64 x0.DescendantBytes]] Tryd.underlying3 rfl hI rfl hA rfl rfl) rfl fun a hA => 
                  o_yes hA rfl rfl hc60 <| ?_
                obtain ⟨r7, hr7, H⟩ := bB H
                refine o_callp (u := .bool r7) cf133 hA rfl hI (sargassoref8_within.c μ _ hI.agr x0.Descendants hx0.2.2.2.2.2.2.2.1 1 (in_lit .i64 1 rfl) 1000 (in_lit .i64 1000 rfl) r7 hr7) rfl fun a w hz8 hI hA => 
                  stp hA (r_pick_t hA rfl hc60 rfl) rfl fun a hA => 
                  stp hA (r_mv hA rfl) rfl fun a hA => ?_
                rcases Bool.eq_false_or_eq_true r7 with hc7 | hc7
                · have hc70 := hc7; have H := bT H hc7
                  refine o_yes hA rfl rfl hc70 <| 
                    stp hA (r_fd (k := 6) Tryd.underlying96 rfl sz3 hA rfl rfl) rfl fun a hA => 
                    o_yes hA rfl rfl hc70 <| 
                    stp hA (r_ld1 (j := 0) [[.int .i64 x0.Halving], [.int .i64 x0.Maturity], [.int .i64 x0.PoolBytes], [.int .i64 x0.RedoBytes], [.int .i64 x0.LogMost], [.int .i64 x0.Ancestors]] [[.int .i64 x0.Descendants], [.int .i64 x0.DescendantBytes]] Tryd.underlying3 rfl hI rfl hA rfl rfl) rfl fun a hA => 
                    o_yes hA rfl rfl hc70 <| ?_
                  obtain ⟨r8, hr8, H⟩ := bB H
                  refine o_callp (u := .bool r8) cf133 hA rfl hI (sargassoref8_within.c μ _ hI.agr x0.AncestorBytes hx0.2.2.2.2.2.2.1 1 (in_lit .i64 1 rfl) 16777216 (in_lit .i64 16777216 rfl) r8 hr8) rfl fun a w hz9 hI hA => 
                    stp hA (r_pick_t hA rfl hc70 rfl) rfl fun a hA => 
                    stp hA (r_mv hA rfl) rfl fun a hA => ?_
                  rcases Bool.eq_false_or_eq_true r8 with hc8 | hc8
                  · have hc80 := hc8; have H := bT H hc8
                    refine o_yes hA rfl rfl hc80 <| 
                      stp hA (r_fd (k := 8) Tryd.underlying96 rfl sz3 hA rfl rfl) rfl fun a hA => 
                      o_yes hA rfl rfl hc80 <| 
                      stp hA (r_ld1 (j := 0) [[.int .i64 x0.Halving], [.int .i64 x0.Maturity], [.int .i64 x0.PoolBytes], [.int .i64 x0.RedoBytes], [.int .i64 x0.LogMost], [.int .i64 x0.Ancestors], [.int .i64 x0.AncestorBytes], [.int .i64 x0.Descendants]] [] Tryd.underlying3 rfl hI rfl hA rfl rfl) rfl fun a hA => 
                      o_yes hA rfl rfl hc80 <| ?_
                    obtain ⟨r9, hr9, H⟩ := bB H
                    refine o_callp (u := .bool r9) cf133 hA rfl hI (sargassoref8_within.c μ _ hI.agr x0.DescendantBytes hx0.2.2.2.2.2.2.2.2 1 (in_lit .i64 1 rfl) 16777216 (in_lit .i64 16777216 rfl) r9 hr9) rfl fun a w hz10 hI hA => 
                      stp hA (r_pick_t hA rfl hc80 rfl) rfl fun a hA => 
                      stp hA (r_as hA rfl) rfl fun a hA => ?_
                    refine o_nil ?_
                    cases Option.some.inj (bS H)
                    exact ⟨hA.sub ⟨rfl, rfl, rfl, trivial⟩, hI⟩
                  · have hc80 := hc8; have hc8 := ft hc8; have H := bF H hc8
                    refine o_no hA rfl rfl (by rw [hc80]; simp [vb]) rfl fun a hA => 
                      o_no hA rfl rfl (by rw [hc80]; simp [vb]) rfl fun a hA => 
                      o_no hA rfl rfl (by rw [hc80]; simp [vb]) rfl fun a hA => 
                      stp hA (r_pick_f hA rfl hc80 rfl) rfl fun a hA => 
                      stp hA (r_as hA rfl) rfl fun a hA => ?_
                    refine o_nil ?_
                    cases Option.some.inj (bS H)
                    exact ⟨hA.sub ⟨rfl, rfl, rfl, trivial⟩, hI⟩
                · have hc70 := hc7; have hc7 := ft hc7; have H := bF H hc7
                  refine o_no hA rfl rfl (by rw [hc70]; simp [vb]) rfl fun a hA => 
                    o_no hA rfl rfl (by rw [hc70]; simp [vb]) rfl fun a hA => 
                    o_no hA rfl rfl (by rw [hc70]; simp [vb]) rfl fun a hA => 
                    stp hA (r_pick_f hA rfl hc70 rfl) rfl fun a hA => 
                    stp hA (r_mv hA rfl) rfl fun a hA => 
                    o_no hA rfl rfl (by simp [vb]) rfl fun a hA => 
                    o_no hA rfl rfl (by simp [vb]) rfl fun a hA => 
                    o_no hA rfl rfl (by simp [vb]) rfl fun a hA => 
                    stp hA (r_pick_f hA rfl rfl rfl) rfl fun a hA => 
                    stp hA (r_as hA rfl) rfl fun a hA => ?_
                  refine o_nil ?_
                  cases Option.some.inj (bS H)
                  exact ⟨hA.sub ⟨rfl, rfl, rfl, trivial⟩, hI⟩
              · have hc60 := hc6; have hc6 := ft hc6; have H := bF H hc6
                refine o_no hA rfl rfl (by rw [hc60]; simp [vb]) rfl fun a hA => 
                  o_no hA rfl rfl (by rw [hc60]; simp [vb]) rfl fun a hA => 
                  o_no hA rfl rfl (by rw [hc60]; simp [vb]) rfl fun a hA => 
                  stp hA (r_pick_f hA rfl hc60 rfl) rfl fun a hA => 
                  stp hA (r_mv hA rfl) rfl fun a hA => 
                  o_no hA rfl rfl (by simp [vb]) rfl fun a hA => 
                  o_no hA rfl rfl (by simp [vb]) rfl fun a hA => 
                  o_no hA rfl rfl (by simp [vb]) rfl fun a hA => 
                  stp hA (r_pick_f hA rfl rfl rfl) rfl fun a hA => 
                  stp hA (r_mv hA rfl) rfl fun a hA => 
                  o_no hA rfl rfl (by simp [vb]) rfl fun a hA => 
                  o_no hA rfl rfl (by simp [vb]) rfl fun a hA => 
                  o_no hA rfl rfl (by simp [vb]) rfl fun a hA => 
                  stp hA (r_pick_f hA rfl rfl rfl) rfl fun a hA => 
                  stp hA (r_as hA rfl) rfl fun a hA => ?_
                refine o_nil ?_
                cases Option.some.inj (bS H)
                exact ⟨hA.sub ⟨rfl, rfl, rfl, trivial⟩, hI⟩
            · have hc50 := hc5; have hc5 := ft hc5; have H := bF H hc5
              refine o_no hA rfl rfl (by rw [hc50]; simp [vb]) rfl fun a hA => 
                o_no hA rfl rfl (by rw [hc50]; simp [vb]) rfl fun a hA => 
                o_no hA rfl rfl (by rw [hc50]; simp [vb]) rfl fun a hA => 
                stp hA (r_pick_f hA rfl hc50 rfl) rfl fun a hA => 
                stp hA (r_mv hA rfl) rfl fun a hA => 
                o_no hA rfl rfl (by simp [vb]) rfl fun a hA => 
                o_no hA rfl rfl (by simp [vb]) rfl fun a hA => 
                o_no hA rfl rfl (by simp [vb]) rfl fun a hA => 
                stp hA (r_pick_f hA rfl rfl rfl) rfl fun a hA => 
                stp hA (r_mv hA rfl) rfl fun a hA => 
                o_no hA rfl rfl (by simp [vb]) rfl fun a hA => 
                o_no hA rfl rfl (by simp [vb]) rfl fun a hA => 
                o_no hA rfl rfl (by simp [vb]) rfl fun a hA => 
                stp hA (r_pick_f hA rfl rfl rfl) rfl fun a hA => 
                stp hA (r_mv hA rfl) rfl fun a hA => 
                o_no hA rfl rfl (by simp [vb]) rfl fun a hA => 
                o_no hA rfl rfl (by simp [vb]) rfl fun a hA => 
                o_no hA rfl rfl (by simp [vb]) rfl fun a hA => 
                stp hA (r_pick_f hA rfl rfl rfl) rfl fun a hA => 
                stp hA (r_as hA rfl) rfl fun a hA => ?_
              refine o_nil ?_
              cases Option.some.inj (bS H)
              exact ⟨hA.sub ⟨rfl, rfl, rfl, trivial⟩, hI⟩
          · have hc40 := hc4; have hc4 := ft hc4; have H := bF H hc4
            refine o_no hA rfl rfl (by rw [hc40]; simp [vb]) rfl fun a hA => 
              o_no hA rfl rfl (by rw [hc40]; simp [vb]) rfl fun a hA => 
              o_no hA rfl rfl (by rw [hc40]; simp [vb]) rfl fun a hA => 
              stp hA (r_pick_f hA rfl hc40 rfl) rfl fun a hA => 
              stp hA (r_mv hA rfl) rfl fun a hA => 
              o_no hA rfl rfl (by simp [vb]) rfl fun a hA => 
              o_no hA rfl rfl (by simp [vb]) rfl fun a hA => 
              o_no hA rfl rfl (by simp [vb]) rfl fun a hA => 
              stp hA (r_pick_f hA rfl rfl rfl) rfl fun a hA => 
              stp hA (r_mv hA rfl) rfl fun a hA => 
              o_no hA rfl rfl (by simp [vb]) rfl fun a hA => 
              o_no hA rfl rfl (by simp [vb]) rfl fun a hA => 
              o_no hA rfl rfl (by simp [vb]) rfl fun a hA => 
              stp hA (r_pick_f hA rfl rfl rfl) rfl fun a hA => 
              stp hA (r_mv hA rfl) rfl fun a hA => 
              o_no hA rfl rfl (by simp [vb]) rfl fun a hA => 
              o_no hA rfl rfl (by simp [vb]) rfl fun a hA => 
              o_no hA rfl rfl (by simp [vb]) rfl fun a hA => 
              stp hA (r_pick_f hA rfl rfl rfl) rfl fun a hA => 
              stp hA (r_mv hA rfl) rfl fun a hA => 
              o_no hA rfl rfl (by simp [vb]) rfl fun a hA => 
              o_no hA rfl rfl (by simp [vb]) rfl fun a hA => 
              o_no hA rfl rfl (by simp [vb]) rfl fun a hA => 
              stp hA (r_pick_f hA rfl rfl rfl) rfl fun a hA => 
              stp hA (r_as hA rfl) rfl fun a hA => ?_
            refine o_nil ?_
            cases Option.some.inj (bS H)
            exact ⟨hA.sub ⟨rfl, rfl, rfl, trivial⟩, hI⟩
        · have hc30 := hc3; have hc3 := ft hc3; have H := bF H hc3
          refine o_no hA rfl rfl (by rw [hc30]; simp [vb]) rfl fun a hA => 
            o_no hA rfl rfl (by rw [hc30]; simp [vb]) rfl fun a hA => 
            o_no hA rfl rfl (by rw [hc30]; simp [vb]) rfl fun a hA => 
            stp hA (r_pick_f hA rfl hc30 rfl) rfl fun a hA => 
            stp hA (r_mv hA rfl) rfl fun a hA => 
            o_no hA rfl rfl (by simp [vb]) rfl fun a hA => 
            o_no hA rfl rfl (by simp [vb]) rfl fun a hA => 
            o_no hA rfl rfl (by simp [vb]) rfl fun a hA => 
            stp hA (r_pick_f hA rfl rfl rfl) rfl fun a hA => 
            stp hA (r_mv hA rfl) rfl fun a hA => 
            o_no hA rfl rfl (by simp [vb]) rfl fun a hA => 
            o_no hA rfl rfl (by simp [vb]) rfl fun a hA => 
            o_no hA rfl rfl (by simp [vb]) rfl fun a hA => 
            stp hA (r_pick_f hA rfl rfl rfl) rfl fun a hA => 
            stp hA (r_mv hA rfl) rfl fun a hA => 
            o_no hA rfl rfl (by simp [vb]) rfl fun a hA => 
            o_no hA rfl rfl (by simp [vb]) rfl fun a hA => 
            o_no hA rfl rfl (by simp [vb]) rfl fun a hA => 
            stp hA (r_pick_f hA rfl rfl rfl) rfl fun a hA => 
            stp hA (r_mv hA rfl) rfl fun a hA => 
            o_no hA rfl rfl (by simp [vb]) rfl fun a hA => 
            o_no hA rfl rfl (by simp [vb]) rfl fun a hA => 
            o_no hA rfl rfl (by simp [vb]) rfl fun a hA => 
            stp hA (r_pick_f hA rfl rfl rfl) rfl fun a hA => 
            stp hA (r_mv hA rfl) rfl fun a hA => 
            o_no hA rfl rfl (by simp [vb]) rfl fun a hA => 
            o_no hA rfl rfl (by simp [vb]) rfl fun a hA => 
            o_no hA rfl rfl (by simp [vb]) rfl fun a hA => 
            stp hA (r_pick_f hA rfl rfl rfl) rfl fun a hA => 
            stp hA (r_as hA rfl) rfl fun a hA => ?_
          refine o_nil ?_
          cases Option.some.inj (bS H)
          exact ⟨hA.sub ⟨rfl, rfl, rfl, trivial⟩, hI⟩
      · have hc20 := hc2; have hc2 := ft hc2; have H := bF H hc2
        refine o_no hA rfl rfl (by rw [hc20]; simp [vb]) rfl fun a hA => 
          o_no hA rfl rfl (by rw [hc20]; simp [vb]) rfl fun a hA => 
          o_no hA rfl rfl (by rw [hc20]; simp [vb]) rfl fun a hA => 
          stp hA (r_pick_f hA rfl hc20 rfl) rfl fun a hA => 
          stp hA (r_mv hA rfl) rfl fun a hA => 
          o_no hA rfl rfl (by simp [vb]) rfl fun a hA => 
          o_no hA rfl rfl (by simp [vb]) rfl fun a hA => 
          o_no hA rfl rfl (by simp [vb]) rfl fun a hA => 
          stp hA (r_pick_f hA rfl rfl rfl) rfl fun a hA => 
          stp hA (r_mv hA rfl) rfl fun a hA => 
          o_no hA rfl rfl (by simp [vb]) rfl fun a hA => 
          o_no hA rfl rfl (by simp [vb]) rfl fun a hA => 
          o_no hA rfl rfl (by simp [vb]) rfl fun a hA => 
          stp hA (r_pick_f hA rfl rfl rfl) rfl fun a hA => 
          stp hA (r_mv hA rfl) rfl fun a hA => 
          o_no hA rfl rfl (by simp [vb]) rfl fun a hA => 
          o_no hA rfl rfl (by simp [vb]) rfl fun a hA => 
          o_no hA rfl rfl (by simp [vb]) rfl fun a hA => 
          stp hA (r_pick_f hA rfl rfl rfl) rfl fun a hA => 
          stp hA (r_mv hA rfl) rfl fun a hA => 
          o_no hA rfl rfl (by simp [vb]) rfl fun a hA => 
          o_no hA rfl rfl (by simp [vb]) rfl fun a hA => 
          o_no hA rfl rfl (by simp [vb]) rfl fun a hA => 
          stp hA (r_pick_f hA rfl rfl rfl) rfl fun a hA => 
          stp hA (r_mv hA rfl) rfl fun a hA => 
          o_no hA rfl rfl (by simp [vb]) rfl fun a hA => 
          o_no hA rfl rfl (by simp [vb]) rfl fun a hA => 
          o_no hA rfl rfl (by simp [vb]) rfl fun a hA => 
          stp hA (r_pick_f hA rfl rfl rfl) rfl fun a hA => 
          stp hA (r_mv hA rfl) rfl fun a hA => 
          o_no hA rfl rfl (by simp [vb]) rfl fun a hA => 
          o_no hA rfl rfl (by simp [vb]) rfl fun a hA => 
          o_no hA rfl rfl (by simp [vb]) rfl fun a hA => 
          stp hA (r_pick_f hA rfl rfl rfl) rfl fun a hA => 
          stp hA (r_as hA rfl) rfl fun a hA => ?_
        refine o_nil ?_
        cases Option.some.inj (bS H)
        exact ⟨hA.sub ⟨rfl, rfl, rfl, trivial⟩, hI⟩
    · have hc10 := hc1; have hc1 := ft hc1; have H := bF H hc1
      refine o_no hA rfl rfl (by rw [hc10]; simp [vb]) rfl fun a hA => 
        o_no hA rfl rfl (by rw [hc10]; simp [vb]) rfl fun a hA => 
        o_no hA rfl rfl (by rw [hc10]; simp [vb]) rfl fun a hA => 
        stp hA (r_pick_f hA rfl hc10 rfl) rfl fun a hA => 
        stp hA (r_mv hA rfl) rfl fun a hA => 
        o_no hA rfl rfl (by simp [vb]) rfl fun a hA => 
        o_no hA rfl rfl (by simp [vb]) rfl fun a hA => 
        o_no hA rfl rfl (by simp [vb]) rfl fun a hA => 
        stp hA (r_pick_f hA rfl rfl rfl) rfl fun a hA => 
        stp hA (r_mv hA rfl) rfl fun a hA => 
        o_no hA rfl rfl (by simp [vb]) rfl fun a hA => 
        o_no hA rfl rfl (by simp [vb]) rfl fun a hA => 
        o_no hA rfl rfl (by simp [vb]) rfl fun a hA => 
        stp hA (r_pick_f hA rfl rfl rfl) rfl fun a hA => 
        stp hA (r_mv hA rfl) rfl fun a hA => 
        o_no hA rfl rfl (by simp [vb]) rfl fun a hA => 
        o_no hA rfl rfl (by simp [vb]) rfl fun a hA => 
        o_no hA rfl rfl (by simp [vb]) rfl fun a hA => 
        stp hA (r_pick_f hA rfl rfl rfl) rfl fun a hA => 
        stp hA (r_mv hA rfl) rfl fun a hA => 
        o_no hA rfl rfl (by simp [vb]) rfl fun a hA => 
        o_no hA rfl rfl (by simp [vb]) rfl fun a hA => 
        o_no hA rfl rfl (by simp [vb]) rfl fun a hA => 
        stp hA (r_pick_f hA rfl rfl rfl) rfl fun a hA => 
        stp hA (r_mv hA rfl) rfl fun a hA => 
        o_no hA rfl rfl (by simp [vb]) rfl fun a hA => 
        o_no hA rfl rfl (by simp [vb]) rfl fun a hA => 
        o_no hA rfl rfl (by simp [vb]) rfl fun a hA => 
        stp hA (r_pick_f hA rfl rfl rfl) rfl fun a hA => 
        stp hA (r_mv hA rfl) rfl fun a hA => 
        o_no hA rfl rfl (by simp [vb]) rfl fun a hA => 
        o_no hA rfl rfl (by simp [vb]) rfl fun a hA => 
        o_no hA rfl rfl (by simp [vb]) rfl fun a hA => 
        stp hA (r_pick_f hA rfl rfl rfl) rfl fun a hA => 
        stp hA (r_mv hA rfl) rfl fun a hA => 
        o_no hA rfl rfl (by simp [vb]) rfl fun a hA => 
        o_no hA rfl rfl (by simp [vb]) rfl fun a hA => 
        o_no hA rfl rfl (by simp [vb]) rfl fun a hA => 
        stp hA (r_pick_f hA rfl rfl rfl) rfl fun a hA => 
        stp hA (r_as hA rfl) rfl fun a hA => ?_
      refine o_nil ?_
      cases Option.some.inj (bS H)
      exact ⟨hA.sub ⟨rfl, rfl, rfl, trivial⟩, hI⟩
  · rintro a w ⟨hA, hI⟩
    have H := Hk1
    refine w_ret ?_
    obtain rfl := Option.some.inj (bS H)
    exact ret1 hA Tryd.results76 rfl ⟨_, rfl, rfl, trivial, hI.forget0⟩
set_option maxRecDepth 20000 in
theorem sargassoref8_Reward.c (μ : Store) (w0 : World) (hμ : Agr μ w0) (x0 : Int) (hx0 : InR .i64 x0) (x1 : Int) (hx1 : InR .i64 x1) (r : Int) (H : sargassoref8_Reward.f x0 x1 = some r) :
    Calls Tryd.prog 78 [.int .i64 x0, .int .i64 x1].toArray w0 (fun e w' => ∃ v, e = .returned v ∧ v = .int .u64 r ∧ InR .u64 r ∧ Iv w0 [] μ μ [] w') := by
  refine enter Tryd.func78 rfl Tryd.ntmps78 rfl fun a hA => ?_
  have hI := Iv.start hμ
  have H := bI H
  refine w_seq fun _ hN1 => ?_
  refine w_reg ?_
  refine stp hA (r_as hA rfl) rfl fun a hA => ?_
  refine o_nil ?_
  refine hN1 _ _ ?_
  refine w_seq fun _ hN2 => ?_
  obtain ⟨c1, hz1, Hk1⟩ := bB H
  refine w_cut (fun a w => Fr a 22 [(0, .int .i64 x0), (1, .int .i64 x1), (4, .int .u64 0), (16, .bool c1)] ∧ Iv w0 [] μ μ [] w) ?_ ?_
  · have H := bI hz1
    refine w_reg ?_
    refine stp hA (r_mv hA rfl) rfl fun a hA => 
      stp hA (r_lss hA rfl rfl) rfl fun a hA => 
      stp hA (r_mv hA rfl) rfl fun a hA => ?_
    rcases Bool.eq_false_or_eq_true (decide (x0 < 0)) with hc1 | hc1
    · have hc10 := hc1; have hc1 := of_decide_eq_true hc1; have H := bT H hc1
      refine o_no hA rfl rfl (by rw [hc10]; simp [vb]) rfl fun a hA => 
        o_no hA rfl rfl (by rw [hc10]; simp [vb]) rfl fun a hA => 
        stp hA (r_pick_t hA rfl hc10 rfl) rfl fun a hA => 
        stp hA (r_mv hA rfl) rfl fun a hA => 
        o_no hA rfl rfl (by simp [vb]) rfl fun a hA => 
        o_no hA rfl rfl (by simp [vb]) rfl fun a hA => 
        o_no hA rfl rfl (by simp [vb]) rfl fun a hA => 
        o_no hA rfl rfl (by simp [vb]) rfl fun a hA => 
        stp hA (r_pick_t hA rfl rfl rfl) rfl fun a hA => ?_
      refine o_nil ?_
      cases Option.some.inj (bS H)
      exact ⟨hA.sub ⟨rfl, rfl, rfl, rfl, trivial⟩, hI⟩
    · have hc10 := hc1; have hc1 := of_decide_eq_false hc1; have H := bF H hc1
      refine o_yes hA rfl rfl hc10 <| 
        stp hA (r_mv hA rfl) rfl fun a hA => 
        o_yes hA rfl rfl hc10 <| 
        stp hA (r_lss hA rfl rfl) rfl fun a hA => 
        stp hA (r_pick_f hA rfl hc10 rfl) rfl fun a hA => 
        stp hA (r_mv hA rfl) rfl fun a hA => ?_
      rcases Bool.eq_false_or_eq_true (decide (x1 < 1)) with hc2 | hc2
      · have hc20 := hc2; have hc2 := of_decide_eq_true hc2; have H := bT H hc2
        refine o_no hA rfl rfl (by rw [hc20]; simp [vb]) rfl fun a hA => 
          o_no hA rfl rfl (by rw [hc20]; simp [vb]) rfl fun a hA => 
          o_no hA rfl rfl (by rw [hc20]; simp [vb]) rfl fun a hA => 
          o_no hA rfl rfl (by rw [hc20]; simp [vb]) rfl fun a hA => 
          stp hA (r_pick_t hA rfl hc20 rfl) rfl fun a hA => ?_
        refine o_nil ?_
        cases Option.some.inj (bS H)
        exact ⟨hA.sub ⟨rfl, rfl, rfl, rfl, trivial⟩, hI⟩
      · have hc20 := hc2; have hc2 := of_decide_eq_false hc2; have H := bF H hc2
        refine o_yes hA rfl rfl hc20 <| 
          stp hA (r_mv hA rfl) rfl fun a hA => 
          o_yes hA rfl rfl hc20 <| 
          stp hA (r_mv hA rfl) rfl fun a hA => 
          o_yes hA rfl rfl hc20 <| ?_
        obtain ⟨hb1, H⟩ := bG H
        refine stp hA (r_quo hA rfl rfl hb1) rfl fun a hA => 
          o_yes hA rfl rfl hc20 <| 
          stp hA (r_geq hA rfl rfl) rfl fun a hA => 
          stp hA (r_pick_f hA rfl hc20 rfl) rfl fun a hA => ?_
        refine o_nil ?_
        cases Option.some.inj (bS H)
        exact ⟨hA.sub ⟨rfl, rfl, rfl, rfl, trivial⟩, hI⟩
  · rintro a w ⟨hA, hI⟩
    have H := Hk1
    refine w_cond hA rfl (fun hc3 => ?_) (fun hc3 => ?_)
    · have hc30 := hc3; have H := bT H hc3
      refine w_seq fun _ hN3 => ?_
      refine w_reg ?_
      refine stp hA (r_as hA rfl) rfl fun a hA => ?_
      refine o_nil ?_
      refine hN3 _ _ ?_
      refine w_ret ?_
      obtain rfl := Option.some.inj (bS H)
      exact ret1 hA Tryd.results78 rfl ⟨_, rfl, rfl, (in_lit .u64 0 rfl), hI.forget0⟩
    · have hc30 := hc3; have hc3 := ft hc3; have H := bF H hc3
      refine w_skip ?_
      refine hN2 _ _ ?_
      refine w_seq fun _ hN4 => ?_
      refine w_reg ?_
      refine stp hA (r_mv hA rfl) rfl fun a hA => 
        stp hA (r_mv hA rfl) rfl fun a hA => ?_
      obtain ⟨hb2, H⟩ := bG H
      refine stp hA (r_quo hA rfl rfl hb2) rfl fun a hA => 
        stp hA (r_conv Tryd.underlying3 Tryd.underlying81 hA rfl) rfl fun a hA => ?_
      obtain ⟨hb3, H⟩ := bG H
      refine stp hA (r_shr hA rfl rfl hb3) rfl fun a hA => 
        stp hA (r_as hA rfl) rfl fun a hA => ?_
      refine o_nil ?_
      refine hN4 _ _ ?_
      refine w_ret ?_
      obtain rfl := Option.some.inj (bS H)
      exact ret1 hA Tryd.results78 rfl ⟨_, rfl, rfl, (sR_in rfl (in_lit .u64 5000000000 rfl) _), hI.forget0⟩
set_option maxRecDepth 20000 in
theorem value_Ripe.c (μ : Store) (w0 : World) (hμ : Agr μ w0) (x0 : Money) (hx0 : MoneyW μ x0) (x1 : Int) (hx1 : InR .i64 x1) (x2 : Int) (hx2 : InR .i64 x2) (r : Bool) (H : value_Ripe.f x0 x1 x2 = some r) :
    Calls Tryd.prog 79 [.agg [[.int .u64 x0.Value], av .u8 32 x0.Lock, [.int .i64 x0.Height], [.bool x0.Base]].flatten.toArray, .int .i64 x1, .int .i64 x2].toArray w0 (fun e w' => ∃ v, e = .returned v ∧ v = .bool r ∧ True ∧ Iv w0 [] μ μ [] w') := by
  refine enter Tryd.func79 rfl Tryd.ntmps79 rfl fun a hA => ?_
  have hI := Iv.start hμ
  have H := bI H
  refine w_seq fun _ hN1 => ?_
  refine w_reg ?_
  refine o_box [[.int .u64 x0.Value], av .u8 32 x0.Lock, [.int .i64 x0.Height], [.bool x0.Base]] hI hA rfl rfl rfl fun g1 a w hA hI hg1 => 
    stp hA (r_as hA rfl) rfl fun a hA => ?_
  refine o_nil ?_
  refine hN1 _ _ ?_
  obtain ⟨c1, hz1, Hk1⟩ := bB H
  refine w_cut (fun a w => Fr a 18 [(0, .agg [[.int .u64 x0.Value], av .u8 32 x0.Lock, [.int .i64 x0.Height], [.bool x0.Base]].flatten.toArray), (1, .int .i64 x1), (2, .int .i64 x2), (3, .pointer (some ⟨g1, 0, none⟩)), (6, .bool c1)] ∧ Iv w0 [] μ μ [cel g1 [[.int .u64 x0.Value], av .u8 32 x0.Lock, [.int .i64 x0.Height], [.bool x0.Base]] 104] w) ?_ ?_
  · have H := bI hz1
    refine w_reg ?_
    refine stp hA (r_fd (k := 34) Tryd.underlying104 rfl sz4 hA rfl rfl) rfl fun a hA => 
      stp hA (r_ld1 (j := 0) [[.int .u64 x0.Value], av .u8 32 x0.Lock, [.int .i64 x0.Height]] [] Tryd.underlying4 rfl hI rfl hA rfl rfl) rfl fun a hA => 
      stp hA (r_not hA rfl) rfl fun a hA => 
      stp hA (r_mv hA rfl) rfl fun a hA => ?_
    rcases Bool.eq_false_or_eq_true (!x0.Base) with hc1 | hc1
    · have hc10 := hc1; have hc1 := nT hc1; have hc1 := ft hc1; have H := bF H hc1
      refine o_no hA rfl rfl (by rw [hc10]; simp [vb]) rfl fun a hA => 
        o_no hA rfl rfl (by rw [hc10]; simp [vb]) rfl fun a hA => 
        o_no hA rfl rfl (by rw [hc10]; simp [vb]) rfl fun a hA => 
        o_no hA rfl rfl (by rw [hc10]; simp [vb]) rfl fun a hA => 
        o_no hA rfl rfl (by rw [hc10]; simp [vb]) rfl fun a hA => 
        o_no hA rfl rfl (by rw [hc10]; simp [vb]) rfl fun a hA => 
        stp hA (r_pick_t hA rfl hc10 rfl) rfl fun a hA => 
        stp hA (r_as hA rfl) rfl fun a hA => ?_
      refine o_nil ?_
      cases Option.some.inj (bS H)
      exact ⟨hA.sub ⟨rfl, rfl, rfl, rfl, rfl, trivial⟩, hI⟩
    · have hc10 := hc1; have hc1 := nF hc1; have H := bT H hc1
      refine o_yes hA rfl rfl hc10 <| 
        stp hA (r_fd (k := 33) Tryd.underlying104 rfl sz3 hA rfl rfl) rfl fun a hA => 
        o_yes hA rfl rfl hc10 <| 
        stp hA (r_ld1 (j := 0) [[.int .u64 x0.Value], av .u8 32 x0.Lock] [[.bool x0.Base]] Tryd.underlying3 rfl hI rfl hA rfl rfl) rfl fun a hA => 
        o_yes hA rfl rfl hc10 <| 
        stp hA (r_mv hA rfl) rfl fun a hA => 
        o_yes hA rfl rfl hc10 <| 
        stp hA (r_add hA rfl rfl) rfl fun a hA => 
        o_yes hA rfl rfl hc10 <| 
        stp hA (r_mv hA rfl) rfl fun a hA => 
        o_yes hA rfl rfl hc10 <| 
        stp hA (r_leq hA rfl rfl) rfl fun a hA => 
        stp hA (r_pick_f hA rfl hc10 rfl) rfl fun a hA => 
        stp hA (r_as hA rfl) rfl fun a hA => ?_
      refine o_nil ?_
      cases Option.some.inj (bS H)
      exact ⟨hA.sub ⟨rfl, rfl, rfl, rfl, rfl, trivial⟩, hI⟩
  · rintro a w ⟨hA, hI⟩
    have H := Hk1
    refine w_ret ?_
    obtain rfl := Option.some.inj (bS H)
    exact ret1 hA Tryd.results79 rfl ⟨_, rfl, rfl, trivial, hI.forget0⟩
set_option maxRecDepth 20000 in
theorem sargassoref8_Ripe.c (μ : Store) (w0 : World) (hμ : Agr μ w0) (x0 : Money) (hx0 : MoneyW μ x0) (x1 : Int) (hx1 : InR .i64 x1) (x2 : Int) (hx2 : InR .i64 x2) (r : Bool) (H : sargassoref8_Ripe.f x0 x1 x2 = some r) :
    Calls Tryd.prog 80 [.agg [[.int .u64 x0.Value], av .u8 32 x0.Lock, [.int .i64 x0.Height], [.bool x0.Base]].flatten.toArray, .int .i64 x1, .int .i64 x2].toArray w0 (fun e w' => ∃ v, e = .returned v ∧ v = .bool r ∧ True ∧ Iv w0 [] μ μ [] w') := by
  refine enter Tryd.func80 rfl Tryd.ntmps80 rfl fun a hA => ?_
  have hI := Iv.start hμ
  have H := bI H
  refine w_seq fun _ hN1 => ?_
  refine w_reg ?_
  refine o_box [[.int .u64 x0.Value], av .u8 32 x0.Lock, [.int .i64 x0.Height], [.bool x0.Base]] hI hA rfl rfl rfl fun g1 a w hA hI hg1 => 
    stp hA (r_as hA rfl) rfl fun a hA => ?_
  refine o_nil ?_
  refine hN1 _ _ ?_
  obtain ⟨c1, hz1, Hk1⟩ := bB H
  refine w_cut (fun a w => Fr a 18 [(0, .agg [[.int .u64 x0.Value], av .u8 32 x0.Lock, [.int .i64 x0.Height], [.bool x0.Base]].flatten.toArray), (1, .int .i64 x1), (2, .int .i64 x2), (3, .pointer (some ⟨g1, 0, none⟩)), (6, .bool c1)] ∧ Iv w0 [] μ μ [cel g1 [[.int .u64 x0.Value], av .u8 32 x0.Lock, [.int .i64 x0.Height], [.bool x0.Base]] 104] w) ?_ ?_
  · have H := bI hz1
    refine w_reg ?_
    refine stp hA (r_fd (k := 34) Tryd.underlying104 rfl sz4 hA rfl rfl) rfl fun a hA => 
      stp hA (r_ld1 (j := 0) [[.int .u64 x0.Value], av .u8 32 x0.Lock, [.int .i64 x0.Height]] [] Tryd.underlying4 rfl hI rfl hA rfl rfl) rfl fun a hA => 
      stp hA (r_not hA rfl) rfl fun a hA => 
      stp hA (r_mv hA rfl) rfl fun a hA => ?_
    rcases Bool.eq_false_or_eq_true (!x0.Base) with hc1 | hc1
    · have hc10 := hc1; have hc1 := nT hc1; have hc1 := ft hc1; have H := bF H hc1
      refine o_no hA rfl rfl (by rw [hc10]; simp [vb]) rfl fun a hA => 
        o_no hA rfl rfl (by rw [hc10]; simp [vb]) rfl fun a hA => 
        o_no hA rfl rfl (by rw [hc10]; simp [vb]) rfl fun a hA => 
        o_no hA rfl rfl (by rw [hc10]; simp [vb]) rfl fun a hA => 
        o_no hA rfl rfl (by rw [hc10]; simp [vb]) rfl fun a hA => 
        o_no hA rfl rfl (by rw [hc10]; simp [vb]) rfl fun a hA => 
        stp hA (r_pick_t hA rfl hc10 rfl) rfl fun a hA => 
        stp hA (r_as hA rfl) rfl fun a hA => ?_
      refine o_nil ?_
      cases Option.some.inj (bS H)
      exact ⟨hA.sub ⟨rfl, rfl, rfl, rfl, rfl, trivial⟩, hI⟩
    · have hc10 := hc1; have hc1 := nF hc1; have H := bT H hc1
      refine o_yes hA rfl rfl hc10 <| 
        stp hA (r_fd (k := 33) Tryd.underlying104 rfl sz3 hA rfl rfl) rfl fun a hA => 
        o_yes hA rfl rfl hc10 <| 
        stp hA (r_ld1 (j := 0) [[.int .u64 x0.Value], av .u8 32 x0.Lock] [[.bool x0.Base]] Tryd.underlying3 rfl hI rfl hA rfl rfl) rfl fun a hA => 
        o_yes hA rfl rfl hc10 <| 
        stp hA (r_mv hA rfl) rfl fun a hA => 
        o_yes hA rfl rfl hc10 <| 
        stp hA (r_add hA rfl rfl) rfl fun a hA => 
        o_yes hA rfl rfl hc10 <| 
        stp hA (r_mv hA rfl) rfl fun a hA => 
        o_yes hA rfl rfl hc10 <| 
        stp hA (r_leq hA rfl rfl) rfl fun a hA => 
        stp hA (r_pick_f hA rfl hc10 rfl) rfl fun a hA => 
        stp hA (r_as hA rfl) rfl fun a hA => ?_
      refine o_nil ?_
      cases Option.some.inj (bS H)
      exact ⟨hA.sub ⟨rfl, rfl, rfl, rfl, rfl, trivial⟩, hI⟩
  · rintro a w ⟨hA, hI⟩
    have H := Hk1
    refine w_ret ?_
    obtain rfl := Option.some.inj (bS H)
    exact ret1 hA Tryd.results80 rfl ⟨_, rfl, rfl, trivial, hI.forget0⟩
end Go.Proofs.YtpeelghbhihgkaaDoor.T
namespace Go.Proofs.YtpeelghbhihgkaaDoor.T
open Go Go.Proofs Go.Proofs.YtpeelghbhihgkaaDoor.K
set_option linter.unusedVariables false
set_option linter.unusedSimpArgs false
noncomputable def sargassolaw15_first.f : Option Bool := ((((value_Reward.f 0 10).bind fun r1 => (if r1 = 5000000000 then ((value_Reward.f 10 10).bind fun r2 => some (decide (r2 = 2500000000))) else some false))).bind fun c1 => some c1)
end Go.Proofs.YtpeelghbhihgkaaDoor.T
namespace Go.Proofs.YtpeelghbhihgkaaDoor.T
open Go Go.Proofs Go.Proofs.YtpeelghbhihgkaaDoor.K
set_option linter.unusedVariables false
set_option linter.unusedSimpArgs false
set_option maxRecDepth 20000 in
theorem sargassolaw15_first.c (μ : Store) (w0 : World) (hμ : Agr μ w0) (r : Bool) (H : sargassolaw15_first.f = some r) :
    Calls Tryd.prog 67 [].toArray w0 (fun e w' => ∃ v, e = .returned v ∧ v = .bool r ∧ True ∧ Iv w0 [] μ μ [] w') := by
  refine enter Tryd.func67 rfl Tryd.ntmps67 rfl fun a hA => ?_
  have hI := Iv.start hμ
  have H := bI H
  refine w_seq fun _ hN1 => ?_
  refine w_reg ?_
  refine stp hA (r_as hA rfl) rfl fun a hA => ?_
  refine o_nil ?_
  refine hN1 _ _ ?_
  obtain ⟨c1, hz1, Hk1⟩ := bB H
  refine w_cut (fun a w => Fr a 7 [(0, .bool c1)] ∧ Iv w0 [] μ μ [] w) ?_ ?_
  · have H := bI hz1
    refine w_reg ?_
    obtain ⟨r1, hr1, H⟩ := bB H
    refine o_callp (u := .int .u64 r1) cf77 hA rfl hI (value_Reward.c μ _ hI.agr 0 (in_lit .i64 0 rfl) 10 (in_lit .i64 10 rfl) r1 hr1) rfl fun a w hz2 hI hA => 
      stp hA (r_eql hA rfl rfl) rfl fun a hA => 
      stp hA (r_mv hA rfl) rfl fun a hA => ?_
    rcases Bool.eq_false_or_eq_true (decide (r1 = 5000000000)) with hc1 | hc1
    · have hc10 := hc1; have hc1 := of_decide_eq_true hc1; have H := bT H hc1
      refine o_yes hA rfl rfl hc10 <| ?_
      obtain ⟨r2, hr2, H⟩ := bB H
      refine o_callp (u := .int .u64 r2) cf77 hA rfl hI (value_Reward.c μ _ hI.agr 10 (in_lit .i64 10 rfl) 10 (in_lit .i64 10 rfl) r2 hr2) rfl fun a w hz3 hI hA => 
        o_yes hA rfl rfl hc10 <| 
        stp hA (r_eql hA rfl rfl) rfl fun a hA => 
        stp hA (r_pick_t hA rfl hc10 rfl) rfl fun a hA => 
        stp hA (r_as hA rfl) rfl fun a hA => ?_
      refine o_nil ?_
      cases Option.some.inj (bS H)
      exact ⟨hA.sub ⟨rfl, trivial⟩, hI⟩
    · have hc10 := hc1; have hc1 := of_decide_eq_false hc1; have H := bF H hc1
      refine o_no hA rfl rfl (by rw [hc10]; simp [vb]) rfl fun a hA => 
        o_no hA rfl rfl (by rw [hc10]; simp [vb]) rfl fun a hA => 
        stp hA (r_pick_f hA rfl hc10 rfl) rfl fun a hA => 
        stp hA (r_as hA rfl) rfl fun a hA => ?_
      refine o_nil ?_
      cases Option.some.inj (bS H)
      exact ⟨hA.sub ⟨rfl, trivial⟩, hI⟩
  · rintro a w ⟨hA, hI⟩
    have H := Hk1
    refine w_ret ?_
    obtain rfl := Option.some.inj (bS H)
    exact ret1 hA Tryd.results67 rfl ⟨_, rfl, rfl, trivial, hI.forget0⟩
end Go.Proofs.YtpeelghbhihgkaaDoor.T
namespace Go.Proofs.YtpeelghbhihgkaaDoor.T
open Go Go.Proofs Go.Proofs.YtpeelghbhihgkaaDoor.K
set_option linter.unusedVariables false
set_option linter.unusedSimpArgs false
noncomputable def sargassolaw15_ValueSays.f (x0 : Int) (x1 : Int) (x2 : Money) (x3 : Int) (x4 : Int) (x5 : Tx) (x6 : List Money) (x7 : Rules) : Option Bool := ((sargassolaw15_first.f).bind fun r1 => (if r1 = true then (((if 20 < (x5.Ins.length : Int) then some true else (if 20 < (x5.Outs.length : Int) then some true else some (decide (20 < (x6.length : Int)))))).bind fun c1 => (if c1 = true then some r1 else (((if x2.Height < 0 then some true else (if 1073741824 < x2.Height then some true else (if x4 < 0 then some true else some (decide (1073741824 < x4)))))).bind fun c2 => ((value_Fee.f x5 x6).bind fun r2 => ((sargassoref8_Fee.f x5 x6).bind fun r3 => ((((sargassoref8_Rules.f x7).bind fun r4 => (if r4 = true then some 0 else some 122))).bind fun c3 => (((if r1 = true then ((value_Reward.f x0 x1).bind fun r5 => ((sargassoref8_Reward.f x0 x1).bind fun r6 => (if r5 = r6 then (if c2 = true then (if r2.1 = r3.1 then ((sargassosee_Same.f r2.2 r3.2).bind fun r7 => (if r7 = true then ((value_Rules.f x7).bind fun r8 => ((sargassosee_Is.f r8 c3).bind fun r9 => some r9)) else some false)) else some false) else ((value_Ripe.f x2 x3 x4).bind fun r10 => ((sargassoref8_Ripe.f x2 x3 x4).bind fun r11 => (if r10 = r11 then (if r2.1 = r3.1 then ((sargassosee_Same.f r2.2 r3.2).bind fun r12 => (if r12 = true then ((value_Rules.f x7).bind fun r13 => ((sargassosee_Is.f r13 c3).bind fun r14 => some r14)) else some false)) else some false) else some false)))) else some false))) else some false)).bind fun c4 => some c4))))))) else some false))
end Go.Proofs.YtpeelghbhihgkaaDoor.T
namespace Go.Proofs.YtpeelghbhihgkaaDoor.T
open Go Go.Proofs Go.Proofs.YtpeelghbhihgkaaDoor.K
set_option linter.unusedVariables false
set_option linter.unusedSimpArgs false
set_option maxRecDepth 20000 in
theorem sargassolaw15_ValueSays.c (μ : Store) (w0 : World) (hμ : Agr μ w0) (x0 : Int) (hx0 : InR .i64 x0) (x1 : Int) (hx1 : InR .i64 x1) (x2 : Money) (hx2 : MoneyW μ x2) (x3 : Int) (hx3 : InR .i64 x3) (x4 : Int) (hx4 : InR .i64 x4) (x5 : Tx) (u5_0 : Value) (u5_1 : Value) (hx5 : TxW μ x5 u5_0 u5_1) (x6 : List Money) (u6 : Value) (hx6 : Slc (RMoney μ) 35 μ u6 x6) (x7 : Rules) (hx7 : RulesW μ x7) (hG : Gl μ) (r : Bool) (H : sargassolaw15_ValueSays.f x0 x1 x2 x3 x4 x5 x6 x7 = some r) :
    Calls Tryd.prog 18 [.int .i64 x0, .int .i64 x1, .agg [[.int .u64 x2.Value], av .u8 32 x2.Lock, [.int .i64 x2.Height], [.bool x2.Base]].flatten.toArray, .int .i64 x3, .int .i64 x4, .agg [[.int .u32 x5.Version], [u5_0], [u5_1], [.int .u32 x5.Time]].flatten.toArray, u6, .agg [[.int .i64 x7.Halving], [.int .i64 x7.Maturity], [.int .i64 x7.PoolBytes], [.int .i64 x7.RedoBytes], [.int .i64 x7.LogMost], [.int .i64 x7.Ancestors], [.int .i64 x7.AncestorBytes], [.int .i64 x7.Descendants], [.int .i64 x7.DescendantBytes]].flatten.toArray].toArray w0 (fun e w' => ∃ v, e = .returned v ∧ v = .bool r ∧ True ∧ Iv w0 [] μ μ [] w') := by
  refine enter Tryd.func18 rfl Tryd.ntmps18 rfl fun a hA => ?_
  have hI := Iv.start hμ
  have H := bI H
  obtain ⟨e0, he0⟩ := hG.g0
  obtain ⟨e3, he3⟩ := hG.g3
  obtain ⟨e4, he4⟩ := hG.g4
  obtain ⟨e6, he6⟩ := hG.g6
  obtain ⟨e7, he7⟩ := hG.g7
  refine w_seq fun _ hN1 => ?_
  refine w_reg ?_
  refine o_box [[.int .u64 x2.Value], av .u8 32 x2.Lock, [.int .i64 x2.Height], [.bool x2.Base]] hI hA rfl rfl rfl fun g1 a w hA hI hg1 => 
    o_box [[.int .u32 x5.Version], [u5_0], [u5_1], [.int .u32 x5.Time]] hI hA rfl rfl rfl fun g2 a w hA hI hg2 => 
    o_box [[.int .i64 x7.Halving], [.int .i64 x7.Maturity], [.int .i64 x7.PoolBytes], [.int .i64 x7.RedoBytes], [.int .i64 x7.LogMost], [.int .i64 x7.Ancestors], [.int .i64 x7.AncestorBytes], [.int .i64 x7.Descendants], [.int .i64 x7.DescendantBytes]] hI hA rfl rfl rfl fun g3 a w hA hI hg3 => 
    stp hA (r_as hA rfl) rfl fun a hA => ?_
  refine o_nil ?_
  refine hN1 _ _ ?_
  refine w_seq fun _ hN2 => ?_
  refine w_reg ?_
  obtain ⟨r1, hr1, H⟩ := bB H
  refine o_callp (u := .bool r1) cf67 hA rfl hI (sargassolaw15_first.c μ _ hI.agr  r1 hr1) rfl fun a w hz1 hI hA => 
    stp hA (r_as hA rfl) rfl fun a hA => ?_
  refine o_nil ?_
  refine hN2 _ _ ?_
  refine w_seq fun _ hN3 => ?_
  refine w_seq fun _ hN4 => ?_
  refine w_reg ?_
  refine stp hA (r_mv hA rfl) rfl fun a hA => 
    stp hA (r_not hA rfl) rfl fun a hA => ?_
  refine o_nil ?_
  refine hN4 _ _ ?_
  refine w_cond hA rfl (fun hc1 => ?_) (fun hc1 => ?_)
  · have hc10 := hc1; have hc1 := nT hc1; have hc1 := ft hc1; have H := bF H hc1
    refine w_seq fun _ hN5 => ?_
    refine w_reg ?_
    refine stp hA (r_as hA rfl) rfl fun a hA => ?_
    refine o_nil ?_
    refine hN5 _ _ ?_
    refine w_ret ?_
    obtain rfl := Option.some.inj (bS H)
    exact ret1 hA Tryd.results18 rfl ⟨_, rfl, rfl, trivial, hI.forget0⟩
  · have hc10 := hc1; have hc1 := nF hc1; have H := bT H hc1
    refine w_skip ?_
    refine hN3 _ _ ?_
    refine w_seq fun _ hN6 => ?_
    obtain ⟨c1, hz2, Hk1⟩ := bB H
    refine w_cut (fun a w => Fr a 113 [(0, .int .i64 x0), (1, .int .i64 x1), (2, .agg [[.int .u64 x2.Value], av .u8 32 x2.Lock, [.int .i64 x2.Height], [.bool x2.Base]].flatten.toArray), (3, .int .i64 x3), (4, .int .i64 x4), (5, .agg [[.int .u32 x5.Version], [u5_0], [u5_1], [.int .u32 x5.Time]].flatten.toArray), (6, u6), (7, .agg [[.int .i64 x7.Halving], [.int .i64 x7.Maturity], [.int .i64 x7.PoolBytes], [.int .i64 x7.RedoBytes], [.int .i64 x7.LogMost], [.int .i64 x7.Ancestors], [.int .i64 x7.AncestorBytes], [.int .i64 x7.Descendants], [.int .i64 x7.DescendantBytes]].flatten.toArray), (10, .pointer (some ⟨g1, 0, none⟩)), (13, .pointer (some ⟨g2, 0, none⟩)), (15, .pointer (some ⟨g3, 0, none⟩)), (16, .bool false), (17, .bool r1), (26, .bool (!r1)), (41, .bool c1)] ∧ Iv w0 [] μ μ [cel g3 [[.int .i64 x7.Halving], [.int .i64 x7.Maturity], [.int .i64 x7.PoolBytes], [.int .i64 x7.RedoBytes], [.int .i64 x7.LogMost], [.int .i64 x7.Ancestors], [.int .i64 x7.AncestorBytes], [.int .i64 x7.Descendants], [.int .i64 x7.DescendantBytes]] 96, cel g2 [[.int .u32 x5.Version], [u5_0], [u5_1], [.int .u32 x5.Time]] 68, cel g1 [[.int .u64 x2.Value], av .u8 32 x2.Lock, [.int .i64 x2.Height], [.bool x2.Base]] 104] w) ?_ ?_
    · have H := bI hz2
      refine w_reg ?_
      refine stp hA (r_fd (k := 1) Tryd.underlying68 rfl sz63 hA rfl rfl) rfl fun a hA => 
        stp hA (r_ld1 (j := 1) [[.int .u32 x5.Version]] [[u5_1], [.int .u32 x5.Time]] Tryd.underlying63 rfl hI rfl hA rfl rfl) rfl fun a hA => ?_
      obtain ⟨_, hsl1⟩ := Slc.sv hx5.2.1
      refine stp hA (r_slen Tryd.underlying63 hsl1 hA rfl) rfl fun a hA => 
        stp hA (r_gtr hA rfl rfl) rfl fun a hA => 
        stp hA (r_mv hA rfl) rfl fun a hA => ?_
      rcases Bool.eq_false_or_eq_true (decide (20 < (x5.Ins.length : Int))) with hc2 | hc2
      · have hc20 := hc2; have hc2 := of_decide_eq_true hc2; have H := bT H hc2
        refine o_no hA rfl rfl (by rw [hc20]; simp [vb]) rfl fun a hA => 
          o_no hA rfl rfl (by rw [hc20]; simp [vb]) rfl fun a hA => 
          o_no hA rfl rfl (by rw [hc20]; simp [vb]) rfl fun a hA => 
          o_no hA rfl rfl (by rw [hc20]; simp [vb]) rfl fun a hA => 
          stp hA (r_pick_t hA rfl hc20 rfl) rfl fun a hA => 
          stp hA (r_mv hA rfl) rfl fun a hA => 
          o_no hA rfl rfl (by simp [vb]) rfl fun a hA => 
          o_no hA rfl rfl (by simp [vb]) rfl fun a hA => 
          o_no hA rfl rfl (by simp [vb]) rfl fun a hA => 
          stp hA (r_pick_t hA rfl rfl rfl) rfl fun a hA => ?_
        refine o_nil ?_
        cases Option.some.inj (bS H)
        exact ⟨hA.sub ⟨rfl, rfl, rfl, rfl, rfl, rfl, rfl, rfl, rfl, rfl, rfl, rfl, rfl, rfl, rfl, trivial⟩, hI⟩
      · have hc20 := hc2; have hc2 := of_decide_eq_false hc2; have H := bF H hc2
        refine o_yes hA rfl rfl hc20 <| 
          stp hA (r_fd (k := 2) Tryd.underlying68 rfl sz66 hA rfl rfl) rfl fun a hA => 
          o_yes hA rfl rfl hc20 <| 
          stp hA (r_ld1 (j := 1) [[.int .u32 x5.Version], [u5_0]] [[.int .u32 x5.Time]] Tryd.underlying66 rfl hI rfl hA rfl rfl) rfl fun a hA => 
          o_yes hA rfl rfl hc20 <| ?_
        obtain ⟨_, hsl2⟩ := Slc.sv hx5.2.2.1
        refine stp hA (r_slen Tryd.underlying66 hsl2 hA rfl) rfl fun a hA => 
          o_yes hA rfl rfl hc20 <| 
          stp hA (r_gtr hA rfl rfl) rfl fun a hA => 
          stp hA (r_pick_f hA rfl hc20 rfl) rfl fun a hA => 
          stp hA (r_mv hA rfl) rfl fun a hA => ?_
        rcases Bool.eq_false_or_eq_true (decide (20 < (x5.Outs.length : Int))) with hc3 | hc3
        · have hc30 := hc3; have hc3 := of_decide_eq_true hc3; have H := bT H hc3
          refine o_no hA rfl rfl (by rw [hc30]; simp [vb]) rfl fun a hA => 
            o_no hA rfl rfl (by rw [hc30]; simp [vb]) rfl fun a hA => 
            o_no hA rfl rfl (by rw [hc30]; simp [vb]) rfl fun a hA => 
            stp hA (r_pick_t hA rfl hc30 rfl) rfl fun a hA => ?_
          refine o_nil ?_
          cases Option.some.inj (bS H)
          exact ⟨hA.sub ⟨rfl, rfl, rfl, rfl, rfl, rfl, rfl, rfl, rfl, rfl, rfl, rfl, rfl, rfl, rfl, trivial⟩, hI⟩
        · have hc30 := hc3; have hc3 := of_decide_eq_false hc3; have H := bF H hc3
          refine o_yes hA rfl rfl hc30 <| 
            stp hA (r_mv hA rfl) rfl fun a hA => 
            o_yes hA rfl rfl hc30 <| ?_
          obtain ⟨_, hsl3⟩ := Slc.sv hx6
          refine stp hA (r_slen Tryd.underlying102 hsl3 hA rfl) rfl fun a hA => 
            o_yes hA rfl rfl hc30 <| 
            stp hA (r_gtr hA rfl rfl) rfl fun a hA => 
            stp hA (r_pick_f hA rfl hc30 rfl) rfl fun a hA => ?_
          refine o_nil ?_
          cases Option.some.inj (bS H)
          exact ⟨hA.sub ⟨rfl, rfl, rfl, rfl, rfl, rfl, rfl, rfl, rfl, rfl, rfl, rfl, rfl, rfl, rfl, trivial⟩, hI⟩
    · rintro a w ⟨hA, hI⟩
      have H := Hk1
      refine w_cond hA rfl (fun hc4 => ?_) (fun hc4 => ?_)
      · have hc40 := hc4; have H := bT H hc4
        refine w_seq fun _ hN7 => ?_
        refine w_reg ?_
        refine stp hA (r_mv hA rfl) rfl fun a hA => 
          stp hA (r_as hA rfl) rfl fun a hA => ?_
        refine o_nil ?_
        refine hN7 _ _ ?_
        refine w_ret ?_
        obtain rfl := Option.some.inj (bS H)
        exact ret1 hA Tryd.results18 rfl ⟨_, rfl, rfl, trivial, hI.forget0⟩
      · have hc40 := hc4; have hc4 := ft hc4; have H := bF H hc4
        refine w_skip ?_
        refine hN6 _ _ ?_
        obtain ⟨c2, hz3, Hk2⟩ := bB H
        refine w_cut (fun a w => Fr a 113 [(0, .int .i64 x0), (1, .int .i64 x1), (2, .agg [[.int .u64 x2.Value], av .u8 32 x2.Lock, [.int .i64 x2.Height], [.bool x2.Base]].flatten.toArray), (3, .int .i64 x3), (4, .int .i64 x4), (5, .agg [[.int .u32 x5.Version], [u5_0], [u5_1], [.int .u32 x5.Time]].flatten.toArray), (6, u6), (7, .agg [[.int .i64 x7.Halving], [.int .i64 x7.Maturity], [.int .i64 x7.PoolBytes], [.int .i64 x7.RedoBytes], [.int .i64 x7.LogMost], [.int .i64 x7.Ancestors], [.int .i64 x7.AncestorBytes], [.int .i64 x7.Descendants], [.int .i64 x7.DescendantBytes]].flatten.toArray), (10, .pointer (some ⟨g1, 0, none⟩)), (13, .pointer (some ⟨g2, 0, none⟩)), (15, .pointer (some ⟨g3, 0, none⟩)), (16, .bool false), (17, .bool r1), (18, .bool c2), (26, .bool (!r1)), (41, .bool c1)] ∧ Iv w0 [] μ μ [cel g3 [[.int .i64 x7.Halving], [.int .i64 x7.Maturity], [.int .i64 x7.PoolBytes], [.int .i64 x7.RedoBytes], [.int .i64 x7.LogMost], [.int .i64 x7.Ancestors], [.int .i64 x7.AncestorBytes], [.int .i64 x7.Descendants], [.int .i64 x7.DescendantBytes]] 96, cel g2 [[.int .u32 x5.Version], [u5_0], [u5_1], [.int .u32 x5.Time]] 68, cel g1 [[.int .u64 x2.Value], av .u8 32 x2.Lock, [.int .i64 x2.Height], [.bool x2.Base]] 104] w) ?_ ?_
        · have H := bI hz3
          refine w_reg ?_
          refine stp hA (r_fd (k := 33) Tryd.underlying104 rfl sz3 hA rfl rfl) rfl fun a hA => 
            stp hA (r_ld1 (j := 2) [[.int .u64 x2.Value], av .u8 32 x2.Lock] [[.bool x2.Base]] Tryd.underlying3 rfl hI rfl hA rfl rfl) rfl fun a hA => 
            stp hA (r_lss hA rfl rfl) rfl fun a hA => 
            stp hA (r_mv hA rfl) rfl fun a hA => ?_
          rcases Bool.eq_false_or_eq_true (decide (x2.Height < 0)) with hc5 | hc5
          · have hc50 := hc5; have hc5 := of_decide_eq_true hc5; have H := bT H hc5
            refine o_no hA rfl rfl (by rw [hc50]; simp [vb]) rfl fun a hA => 
              o_no hA rfl rfl (by rw [hc50]; simp [vb]) rfl fun a hA => 
              o_no hA rfl rfl (by rw [hc50]; simp [vb]) rfl fun a hA => 
              stp hA (r_pick_t hA rfl hc50 rfl) rfl fun a hA => 
              stp hA (r_mv hA rfl) rfl fun a hA => 
              o_no hA rfl rfl (by simp [vb]) rfl fun a hA => 
              o_no hA rfl rfl (by simp [vb]) rfl fun a hA => 
              stp hA (r_pick_t hA rfl rfl rfl) rfl fun a hA => 
              stp hA (r_mv hA rfl) rfl fun a hA => 
              o_no hA rfl rfl (by simp [vb]) rfl fun a hA => 
              o_no hA rfl rfl (by simp [vb]) rfl fun a hA => 
              stp hA (r_pick_t hA rfl rfl rfl) rfl fun a hA => 
              stp hA (r_as hA rfl) rfl fun a hA => ?_
            refine o_nil ?_
            cases Option.some.inj (bS H)
            exact ⟨hA.sub ⟨rfl, rfl, rfl, rfl, rfl, rfl, rfl, rfl, rfl, rfl, rfl, rfl, rfl, rfl, rfl, rfl, trivial⟩, hI⟩
          · have hc50 := hc5; have hc5 := of_decide_eq_false hc5; have H := bF H hc5
            refine o_yes hA rfl rfl hc50 <| 
              stp hA (r_fd (k := 33) Tryd.underlying104 rfl sz3 hA rfl rfl) rfl fun a hA => 
              o_yes hA rfl rfl hc50 <| 
              stp hA (r_ld1 (j := 2) [[.int .u64 x2.Value], av .u8 32 x2.Lock] [[.bool x2.Base]] Tryd.underlying3 rfl hI rfl hA rfl rfl) rfl fun a hA => 
              o_yes hA rfl rfl hc50 <| 
              stp hA (r_gtr hA rfl rfl) rfl fun a hA => 
              stp hA (r_pick_f hA rfl hc50 rfl) rfl fun a hA => 
              stp hA (r_mv hA rfl) rfl fun a hA => ?_
            rcases Bool.eq_false_or_eq_true (decide (1073741824 < x2.Height)) with hc6 | hc6
            · have hc60 := hc6; have hc6 := of_decide_eq_true hc6; have H := bT H hc6
              refine o_no hA rfl rfl (by rw [hc60]; simp [vb]) rfl fun a hA => 
                o_no hA rfl rfl (by rw [hc60]; simp [vb]) rfl fun a hA => 
                stp hA (r_pick_t hA rfl hc60 rfl) rfl fun a hA => 
                stp hA (r_mv hA rfl) rfl fun a hA => 
                o_no hA rfl rfl (by simp [vb]) rfl fun a hA => 
                o_no hA rfl rfl (by simp [vb]) rfl fun a hA => 
                stp hA (r_pick_t hA rfl rfl rfl) rfl fun a hA => 
                stp hA (r_as hA rfl) rfl fun a hA => ?_
              refine o_nil ?_
              cases Option.some.inj (bS H)
              exact ⟨hA.sub ⟨rfl, rfl, rfl, rfl, rfl, rfl, rfl, rfl, rfl, rfl, rfl, rfl, rfl, rfl, rfl, rfl, trivial⟩, hI⟩
            · have hc60 := hc6; have hc6 := of_decide_eq_false hc6; have H := bF H hc6
              refine o_yes hA rfl rfl hc60 <| 
                stp hA (r_mv hA rfl) rfl fun a hA => 
                o_yes hA rfl rfl hc60 <| 
                stp hA (r_lss hA rfl rfl) rfl fun a hA => 
                stp hA (r_pick_f hA rfl hc60 rfl) rfl fun a hA => 
                stp hA (r_mv hA rfl) rfl fun a hA => ?_
              rcases Bool.eq_false_or_eq_true (decide (x4 < 0)) with hc7 | hc7
              · have hc70 := hc7; have hc7 := of_decide_eq_true hc7; have H := bT H hc7
                refine o_no hA rfl rfl (by rw [hc70]; simp [vb]) rfl fun a hA => 
                  o_no hA rfl rfl (by rw [hc70]; simp [vb]) rfl fun a hA => 
                  stp hA (r_pick_t hA rfl hc70 rfl) rfl fun a hA => 
                  stp hA (r_as hA rfl) rfl fun a hA => ?_
                refine o_nil ?_
                cases Option.some.inj (bS H)
                exact ⟨hA.sub ⟨rfl, rfl, rfl, rfl, rfl, rfl, rfl, rfl, rfl, rfl, rfl, rfl, rfl, rfl, rfl, rfl, trivial⟩, hI⟩
              · have hc70 := hc7; have hc7 := of_decide_eq_false hc7; have H := bF H hc7
                refine o_yes hA rfl rfl hc70 <| 
                  stp hA (r_mv hA rfl) rfl fun a hA => 
                  o_yes hA rfl rfl hc70 <| 
                  stp hA (r_gtr hA rfl rfl) rfl fun a hA => 
                  stp hA (r_pick_f hA rfl hc70 rfl) rfl fun a hA => 
                  stp hA (r_as hA rfl) rfl fun a hA => ?_
                refine o_nil ?_
                cases Option.some.inj (bS H)
                exact ⟨hA.sub ⟨rfl, rfl, rfl, rfl, rfl, rfl, rfl, rfl, rfl, rfl, rfl, rfl, rfl, rfl, rfl, rfl, trivial⟩, hI⟩
        · rintro a w ⟨hA, hI⟩
          have H := Hk2
          refine w_seq fun _ hN8 => ?_
          refine w_reg ?_
          refine stp hA (r_ldA (j := 1) [] [[.int .u32 x5.Version], [u5_0], [u5_1], [.int .u32 x5.Time]] [] Tryd.underlying68 rfl sz68 rfl hI rfl hA rfl rfl) rfl fun a hA => 
            stp hA (r_mv hA rfl) rfl fun a hA => ?_
          obtain ⟨r2, hr2, H⟩ := bB H
          refine o_call _ cf72 hA rfl (value_Fee.c μ _ hI.agr x5 u5_0 u5_1 ⟨hx5.1, hx5.2.1, hx5.2.2.1, hx5.2.2.2⟩ x6 u6 hx6 e0 he0 e3 he3 e4 he4 e7 he7 r2 hr2) rfl fun v1 a w hz4 hA => ?_
          obtain ⟨v2, μ1, rfl, hw1, hS1, hi1⟩ := hz4
          have hI := hI.call hi1
          refine stp hA (r_mv hA rfl) rfl fun a hA => 
            stp hA (r_extr (vs := [.int .u64 r2.1, v2]) hA rfl rfl) rfl fun a hA => 
            stp hA (r_extr (vs := [.int .u64 r2.1, v2]) hA rfl rfl) rfl fun a hA => 
            stp hA (r_as hA rfl) rfl fun a hA => 
            stp hA (r_as hA rfl) rfl fun a hA => ?_
          refine o_nil ?_
          refine hN8 _ _ ?_
          refine w_seq fun _ hN9 => ?_
          refine w_reg ?_
          refine stp hA (r_ldA (j := 1) [] [[.int .u32 x5.Version], [u5_0], [u5_1], [.int .u32 x5.Time]] [] Tryd.underlying68 rfl sz68 rfl hI rfl hA rfl rfl) rfl fun a hA => 
            stp hA (r_mv hA rfl) rfl fun a hA => ?_
          obtain ⟨r3, hr3, H⟩ := bB H
          refine o_callp (u := .tuple #[.int .u64 r3.1, .agg [[.int .i64 r3.2.Code], [.bool r3.2.Placed], [.int .i64 r3.2.Pos], [.bool r3.2.Outer], [.int .i64 r3.2.At]].flatten.toArray]) cf75 hA rfl hI (sargassoref8_Fee.c μ1 _ hI.agr x5 u5_0 u5_1 ⟨hx5.1, (Slc.le hx5.2.1 (fun _ _ h => RIn.le hi1.le h) hi1.le), (Slc.le hx5.2.2.1 (fun _ _ h => ROut.le hi1.le h) hi1.le), hx5.2.2.2⟩ x6 u6 (Slc.le hx6 (fun _ _ h => RMoney.le hi1.le h) hi1.le) r3 hr3) rfl fun a w hz5 hI hA => 
            stp hA (r_mv hA rfl) rfl fun a hA => 
            stp hA (r_extr (vs := [.int .u64 r3.1, .agg [[.int .i64 r3.2.Code], [.bool r3.2.Placed], [.int .i64 r3.2.Pos], [.bool r3.2.Outer], [.int .i64 r3.2.At]].flatten.toArray]) hA rfl rfl) rfl fun a hA => 
            stp hA (r_extr (vs := [.int .u64 r3.1, .agg [[.int .i64 r3.2.Code], [.bool r3.2.Placed], [.int .i64 r3.2.Pos], [.bool r3.2.Outer], [.int .i64 r3.2.At]].flatten.toArray]) hA rfl rfl) rfl fun a hA => 
            o_new [[.int .i64 0], [.bool false], [.int .i64 0], [.bool false], [.int .i64 0]] zr109 hI hA rfl fun g4 a w hA hI hg4 => 
            stp hA (r_as hA rfl) rfl fun a hA => 
            o_st (j := 0) [] [[.int .i64 0], [.bool false], [.int .i64 0], [.bool false], [.int .i64 0]] [[.int .i64 r3.2.Code], [.bool r3.2.Placed], [.int .i64 r3.2.Pos], [.bool r3.2.Outer], [.int .i64 r3.2.At]] [] sz109 rfl rfl (fl_cons (one_one rfl) (fl_cons (one_one rfl) (fl_cons (one_one rfl) (fl_cons (one_one rfl) (fl_cons (one_one rfl) fl_nil))))) hI rfl hA rfl rfl rfl rfl fun w hI => ?_
          refine o_nil ?_
          refine hN9 _ _ ?_
          refine w_seq fun _ hN10 => ?_
          refine w_reg ?_
          refine stp hA (r_as hA rfl) rfl fun a hA => ?_
          refine o_nil ?_
          refine hN10 _ _ ?_
          obtain ⟨c3, hz6, Hk3⟩ := bB H
          refine w_cut (fun a w => InR .i64 c3 ∧ Fr a 113 [(0, .int .i64 x0), (1, .int .i64 x1), (2, .agg [[.int .u64 x2.Value], av .u8 32 x2.Lock, [.int .i64 x2.Height], [.bool x2.Base]].flatten.toArray), (3, .int .i64 x3), (4, .int .i64 x4), (5, .agg [[.int .u32 x5.Version], [u5_0], [u5_1], [.int .u32 x5.Time]].flatten.toArray), (6, u6), (7, .agg [[.int .i64 x7.Halving], [.int .i64 x7.Maturity], [.int .i64 x7.PoolBytes], [.int .i64 x7.RedoBytes], [.int .i64 x7.LogMost], [.int .i64 x7.Ancestors], [.int .i64 x7.AncestorBytes], [.int .i64 x7.Descendants], [.int .i64 x7.DescendantBytes]].flatten.toArray), (10, .pointer (some ⟨g1, 0, none⟩)), (13, .pointer (some ⟨g2, 0, none⟩)), (15, .pointer (some ⟨g3, 0, none⟩)), (16, .bool false), (17, .bool r1), (18, .bool c2), (19, .int .u64 r2.1), (20, v2), (21, .int .u64 r3.1), (22, .pointer (some ⟨g4, 0, none⟩)), (23, .int .i64 c3), (26, .bool (!r1)), (41, .bool c1)] ∧ Iv w0 [] μ μ1 [cel g4 [[.int .i64 r3.2.Code], [.bool r3.2.Placed], [.int .i64 r3.2.Pos], [.bool r3.2.Outer], [.int .i64 r3.2.At]] 109, cel g3 [[.int .i64 x7.Halving], [.int .i64 x7.Maturity], [.int .i64 x7.PoolBytes], [.int .i64 x7.RedoBytes], [.int .i64 x7.LogMost], [.int .i64 x7.Ancestors], [.int .i64 x7.AncestorBytes], [.int .i64 x7.Descendants], [.int .i64 x7.DescendantBytes]] 96, cel g2 [[.int .u32 x5.Version], [u5_0], [u5_1], [.int .u32 x5.Time]] 68, cel g1 [[.int .u64 x2.Value], av .u8 32 x2.Lock, [.int .i64 x2.Height], [.bool x2.Base]] 104] w) ?_ ?_
          · have H := bI hz6
            refine w_seq fun _ hN11 => ?_
            refine w_reg ?_
            refine stp hA (r_ldA (j := 1) [] [[.int .i64 x7.Halving], [.int .i64 x7.Maturity], [.int .i64 x7.PoolBytes], [.int .i64 x7.RedoBytes], [.int .i64 x7.LogMost], [.int .i64 x7.Ancestors], [.int .i64 x7.AncestorBytes], [.int .i64 x7.Descendants], [.int .i64 x7.DescendantBytes]] [] Tryd.underlying96 rfl sz96 rfl hI rfl hA rfl rfl) rfl fun a hA => ?_
            obtain ⟨r4, hr4, H⟩ := bB H
            refine o_callp (u := .bool r4) cf76 hA rfl hI (sargassoref8_Rules.c μ1 _ hI.agr x7 ⟨hx7.1, hx7.2.1, hx7.2.2.1, hx7.2.2.2.1, hx7.2.2.2.2.1, hx7.2.2.2.2.2.1, hx7.2.2.2.2.2.2.1, hx7.2.2.2.2.2.2.2.1, hx7.2.2.2.2.2.2.2.2⟩ r4 hr4) rfl fun a w hz7 hI hA => ?_
            refine o_nil ?_
            refine hN11 _ _ ?_
            refine w_cond hA rfl (fun hc8 => ?_) (fun hc8 => ?_)
            · have hc80 := hc8; have H := bT H hc8
              refine w_reg ?_
              refine stp hA (r_as hA rfl) rfl fun a hA => ?_
              refine o_nil ?_
              cases Option.some.inj (bS H)
              exact ⟨(in_lit .i64 0 rfl), hA.sub ⟨rfl, rfl, rfl, rfl, rfl, rfl, rfl, rfl, rfl, rfl, rfl, rfl, rfl, rfl, rfl, rfl, rfl, rfl, rfl, rfl, rfl, trivial⟩, hI⟩
            · have hc80 := hc8; have hc8 := ft hc8; have H := bF H hc8
              refine w_skip ?_
              cases Option.some.inj (bS H)
              exact ⟨(in_lit .i64 122 rfl), hA.sub ⟨rfl, rfl, rfl, rfl, rfl, rfl, rfl, rfl, rfl, rfl, rfl, rfl, rfl, rfl, rfl, rfl, rfl, rfl, rfl, rfl, rfl, trivial⟩, hI⟩
          · rintro a w ⟨wc3, hA, hI⟩
            have H := Hk3
            obtain ⟨c4, hz8, Hk4⟩ := bB H
            refine w_cut (fun a w => ∃ (μ2 : Store), μ1.le μ2 ∧ Fr a 113 [(0, .int .i64 x0), (1, .int .i64 x1), (2, .agg [[.int .u64 x2.Value], av .u8 32 x2.Lock, [.int .i64 x2.Height], [.bool x2.Base]].flatten.toArray), (3, .int .i64 x3), (4, .int .i64 x4), (5, .agg [[.int .u32 x5.Version], [u5_0], [u5_1], [.int .u32 x5.Time]].flatten.toArray), (6, u6), (7, .agg [[.int .i64 x7.Halving], [.int .i64 x7.Maturity], [.int .i64 x7.PoolBytes], [.int .i64 x7.RedoBytes], [.int .i64 x7.LogMost], [.int .i64 x7.Ancestors], [.int .i64 x7.AncestorBytes], [.int .i64 x7.Descendants], [.int .i64 x7.DescendantBytes]].flatten.toArray), (10, .pointer (some ⟨g1, 0, none⟩)), (13, .pointer (some ⟨g2, 0, none⟩)), (15, .pointer (some ⟨g3, 0, none⟩)), (16, .bool c4), (17, .bool r1), (18, .bool c2), (19, .int .u64 r2.1), (20, v2), (21, .int .u64 r3.1), (22, .pointer (some ⟨g4, 0, none⟩)), (23, .int .i64 c3), (26, .bool (!r1)), (41, .bool c1)] ∧ Iv w0 [] μ μ2 [cel g4 [[.int .i64 r3.2.Code], [.bool r3.2.Placed], [.int .i64 r3.2.Pos], [.bool r3.2.Outer], [.int .i64 r3.2.At]] 109, cel g3 [[.int .i64 x7.Halving], [.int .i64 x7.Maturity], [.int .i64 x7.PoolBytes], [.int .i64 x7.RedoBytes], [.int .i64 x7.LogMost], [.int .i64 x7.Ancestors], [.int .i64 x7.AncestorBytes], [.int .i64 x7.Descendants], [.int .i64 x7.DescendantBytes]] 96, cel g2 [[.int .u32 x5.Version], [u5_0], [u5_1], [.int .u32 x5.Time]] 68, cel g1 [[.int .u64 x2.Value], av .u8 32 x2.Lock, [.int .i64 x2.Height], [.bool x2.Base]] 104] w) ?_ ?_
            · have H := bI hz8
              refine w_any [] mo hI fun w hI => ?_
              refine g_easy (i := 0) hA rfl rfl (by kernel_rfl) (.inr hI) (fun _ => r_mv hA rfl) rfl fun a hA => ?_
              refine g_easy (i := 1) hA rfl rfl (by kernel_rfl) (.inr hI) (fun _ => r_mv hA rfl) rfl fun a hA => ?_
              rcases Bool.eq_false_or_eq_true r1 with hc9 | hc9
              · have hc90 := hc9; have H := bT H hc9
                refine g_easy (i := 2) hA rfl (wanted_yes hA rfl rfl hc90) (by kernel_rfl) (.inr hI) (fun _ => r_mv hA rfl) rfl fun a hA => ?_
                refine g_easy (i := 3) hA rfl (wanted_yes hA rfl rfl hc90) (by kernel_rfl) (.inr hI) (fun _ => r_mv hA rfl) rfl fun a hA => ?_
                refine g_easy (i := 5) hA rfl (wanted_yes hA rfl rfl hc90) (by kernel_rfl) (.inr hI) (fun _ => r_mv hA rfl) rfl fun a hA => ?_
                refine g_easy (i := 6) hA rfl (wanted_yes hA rfl rfl hc90) (by kernel_rfl) (.inr hI) (fun _ => r_mv hA rfl) rfl fun a hA => ?_
                refine g_forced (i := 4) rfl (by kernel_rfl) ?_
                refine o_yes hA rfl rfl hc90 <| ?_
                obtain ⟨r5, hr5, H⟩ := bB H
                refine o_callp (u := .int .u64 r5) cf77 hA rfl hI (value_Reward.c μ1 _ hI.agr x0 hx0 x1 hx1 r5 hr5) rfl fun a w hz9 hI hA => ?_
                refine o_nil ?_
                refine ⟨(.inr hI), ?_⟩
                refine g_forced (i := 7) rfl (by kernel_rfl) ?_
                refine o_yes hA rfl rfl hc90 <| ?_
                obtain ⟨r6, hr6, H⟩ := bB H
                refine o_callp (u := .int .u64 r6) cf78 hA rfl hI (sargassoref8_Reward.c μ1 _ hI.agr x0 hx0 x1 hx1 r6 hr6) rfl fun a w hz10 hI hA => ?_
                refine o_nil ?_
                refine ⟨(.inr hI), ?_⟩
                refine g_easy (i := 8) hA rfl (wanted_yes hA rfl rfl hc90) (by kernel_rfl) (.inr hI) (fun _ => r_eql hA rfl rfl) rfl fun a hA => ?_
                refine g_easy (i := 9) hA rfl rfl (by kernel_rfl) (.inr hI) (fun _ => r_pick_t hA rfl hc90 rfl) rfl fun a hA => ?_
                refine g_easy (i := 10) hA rfl rfl (by kernel_rfl) (.inr hI) (fun _ => r_mv hA rfl) rfl fun a hA => ?_
                rcases Bool.eq_false_or_eq_true (decide (r5 = r6)) with hc10 | hc10
                · have hc100 := hc10; have hc10 := of_decide_eq_true hc10; have H := bT H hc10
                  refine g_easy (i := 11) hA rfl (wanted_yes hA rfl rfl hc100) (by kernel_rfl) (.inr hI) (fun _ => r_mv hA rfl) rfl fun a hA => ?_
                  refine g_easy (i := 12) hA rfl (wanted_yes hA rfl rfl hc100) (by kernel_rfl) (.inr hI) (fun _ => r_mv hA rfl) rfl fun a hA => ?_
                  rcases Bool.eq_false_or_eq_true c2 with hc11 | hc11
                  · have hc110 := hc11; have H := bT H hc11
                    refine g_skip (i := 13) hA rfl (wanted_no hA rfl rfl (by rw [hc110]; simp [vb])) (by kernel_rfl) (.inr hI) rfl fun a hA => ?_
                    refine g_skip (i := 14) hA rfl (wanted_no hA rfl rfl (by rw [hc110]; simp [vb])) (by kernel_rfl) (.inr hI) rfl fun a hA => ?_
                    refine g_skip (i := 15) hA rfl (wanted_no hA rfl rfl (by rw [hc110]; simp [vb])) (by kernel_rfl) (.inr hI) rfl fun a hA => ?_
                    refine g_skip (i := 17) hA rfl (wanted_no hA rfl rfl (by rw [hc110]; simp [vb])) (by kernel_rfl) (.inr hI) rfl fun a hA => ?_
                    refine g_skip (i := 18) hA rfl (wanted_no hA rfl rfl (by rw [hc110]; simp [vb])) (by kernel_rfl) (.inr hI) rfl fun a hA => ?_
                    refine g_skip (i := 19) hA rfl (wanted_no hA rfl rfl (by rw [hc110]; simp [vb])) (by kernel_rfl) (.inr hI) rfl fun a hA => ?_
                    refine g_skip (i := 16) hA rfl (wanted_no hA rfl rfl (by rw [hc110]; simp [vb])) (by kernel_rfl) (.inr hI) rfl fun a hA => ?_
                    refine g_skip (i := 20) hA rfl (wanted_no hA rfl rfl (by rw [hc110]; simp [vb])) (by kernel_rfl) (.inr hI) rfl fun a hA => ?_
                    refine g_skip (i := 21) hA rfl (wanted_no hA rfl rfl (by rw [hc110]; simp [vb])) (by kernel_rfl) (.inr hI) rfl fun a hA => ?_
                    refine g_easy (i := 22) hA rfl (wanted_yes hA rfl rfl hc100) (by kernel_rfl) (.inr hI) (fun _ => r_pick_t hA rfl hc110 rfl) rfl fun a hA => ?_
                    refine g_easy (i := 23) hA rfl rfl (by kernel_rfl) (.inr hI) (fun _ => r_pick_t hA rfl hc100 rfl) rfl fun a hA => ?_
                    refine g_easy (i := 24) hA rfl rfl (by kernel_rfl) (.inr hI) (fun _ => r_mv hA rfl) rfl fun a hA => ?_
                    refine g_easy (i := 25) hA rfl (wanted_yes hA rfl rfl rfl) (by kernel_rfl) (.inr hI) (fun _ => r_mv hA rfl) rfl fun a hA => ?_
                    refine g_easy (i := 26) hA rfl (wanted_yes hA rfl rfl rfl) (by kernel_rfl) (.inr hI) (fun _ => r_mv hA rfl) rfl fun a hA => ?_
                    refine g_easy (i := 27) hA rfl (wanted_yes hA rfl rfl rfl) (by kernel_rfl) (.inr hI) (fun _ => r_eql hA rfl rfl) rfl fun a hA => ?_
                    refine g_easy (i := 28) hA rfl rfl (by kernel_rfl) (.inr hI) (fun _ => r_pick_t hA rfl rfl rfl) rfl fun a hA => ?_
                    refine g_easy (i := 29) hA rfl rfl (by kernel_rfl) (.inr hI) (fun _ => r_mv hA rfl) rfl fun a hA => ?_
                    rcases Bool.eq_false_or_eq_true (decide (r2.1 = r3.1)) with hc12 | hc12
                    · have hc120 := hc12; have hc12 := of_decide_eq_true hc12; have H := bT H hc12
                      refine g_easy (i := 30) hA rfl (wanted_yes hA rfl rfl hc120) (by kernel_rfl) (.inr hI) (fun _ => r_mv hA rfl) rfl fun a hA => ?_
                      refine g_take (i := 31) hA rfl (wanted_yes hA rfl rfl hc120) (by kernel_rfl) hI (fun w hI => r_ldA (j := 0) [] [[.int .i64 r3.2.Code], [.bool r3.2.Placed], [.int .i64 r3.2.Pos], [.bool r3.2.Outer], [.int .i64 r3.2.At]] [] Tryd.underlying109 rfl sz109 rfl hI rfl hA rfl rfl) rfl fun a hA => ?_
                      refine g_forced (i := 32) rfl (by kernel_rfl) ?_
                      refine o_yes hA rfl rfl hc120 <| ?_
                      obtain ⟨r7, hr7, H⟩ := bB H
                      refine o_callp (u := .bool r7) cf73 hA rfl hI (sargassosee_Same.c μ1 _ hI.agr r2.2 v2 hS1 r3.2 ⟨hz5.2.1, hz5.2.2.1, hz5.2.2.2⟩ (Gl.le hi1.le hG) r7 hr7) rfl fun a w hz11 hI hA => ?_
                      refine o_nil ?_
                      refine ⟨(.inr hI), ?_⟩
                      refine g_easy (i := 33) hA rfl rfl (by kernel_rfl) (.inr hI) (fun _ => r_pick_t hA rfl hc120 rfl) rfl fun a hA => ?_
                      refine g_easy (i := 34) hA rfl rfl (by kernel_rfl) (.inr hI) (fun _ => r_mv hA rfl) rfl fun a hA => ?_
                      rcases Bool.eq_false_or_eq_true r7 with hc13 | hc13
                      · have hc130 := hc13; have H := bT H hc13
                        refine g_take (i := 35) hA rfl (wanted_yes hA rfl rfl hc130) (by kernel_rfl) hI (fun w hI => r_ldA (j := 1) [] [[.int .i64 x7.Halving], [.int .i64 x7.Maturity], [.int .i64 x7.PoolBytes], [.int .i64 x7.RedoBytes], [.int .i64 x7.LogMost], [.int .i64 x7.Ancestors], [.int .i64 x7.AncestorBytes], [.int .i64 x7.Descendants], [.int .i64 x7.DescendantBytes]] [] Tryd.underlying96 rfl sz96 rfl hI rfl hA rfl rfl) rfl fun a hA => ?_
                        refine g_easy (i := 37) hA rfl (wanted_yes hA rfl rfl hc130) (by kernel_rfl) (.inr hI) (fun _ => r_mv hA rfl) rfl fun a hA => ?_
                        refine g_forced (i := 36) rfl (by kernel_rfl) ?_
                        refine o_yes hA rfl rfl hc130 <| ?_
                        obtain ⟨r8, hr8, H⟩ := bB H
                        refine o_call _ cf69 hA rfl (value_Rules.c μ1 _ hI.agr x7 ⟨hx7.1, hx7.2.1, hx7.2.2.1, hx7.2.2.2.1, hx7.2.2.2.2.1, hx7.2.2.2.2.2.1, hx7.2.2.2.2.2.2.1, hx7.2.2.2.2.2.2.2.1, hx7.2.2.2.2.2.2.2.2⟩ e6 (ErV.le (fun _ _ h => h) hi1.le he6) r8 hr8) rfl fun v3 a w hz12 hA => ?_
                        obtain ⟨_, μ3, rfl, hS2, hi2⟩ := hz12
                        have hI := hI.call hi2
                        refine o_nil ?_
                        refine ⟨(.inr (hI.less hi1.le hi2.le)), ?_⟩
                        refine g_forced (i := 38) rfl (by kernel_rfl) ?_
                        refine o_yes hA rfl rfl hc130 <| ?_
                        obtain ⟨r9, hr9, H⟩ := bB H
                        refine o_callp (u := .bool r9) cf31 hA rfl hI (sargassosee_Is.c μ3 _ hI.agr r8 v3 hS2 c3 wc3 (Gl.le (hi1.le.trans hi2.le) hG) r9 hr9) rfl fun a w hz13 hI hA => ?_
                        refine o_nil ?_
                        refine ⟨(.inr (hI.less hi1.le hi2.le)), ?_⟩
                        refine g_easy (i := 39) hA rfl rfl (by kernel_rfl) (.inr (hI.less hi1.le hi2.le)) (fun _ => r_pick_t hA rfl hc130 rfl) rfl fun a hA => ?_
                        refine g_easy (i := 40) hA rfl rfl (by kernel_rfl) (.inr (hI.less hi1.le hi2.le)) (fun _ => r_as hA rfl) rfl fun a hA => ?_
                        refine g_nil (by kernel_rfl) ?_
                        cases Option.some.inj (bS H)
                        exact ⟨μ3, hi2.le, hA.sub ⟨rfl, rfl, rfl, rfl, rfl, rfl, rfl, rfl, rfl, rfl, rfl, rfl, rfl, rfl, rfl, rfl, rfl, rfl, rfl, rfl, rfl, trivial⟩, hI⟩
                      · have hc130 := hc13; have hc13 := ft hc13; have H := bF H hc13
                        refine g_skip (i := 35) hA rfl (wanted_no hA rfl rfl (by rw [hc130]; simp [vb])) (by kernel_rfl) (.inr hI) rfl fun a hA => ?_
                        refine g_skip (i := 37) hA rfl (wanted_no hA rfl rfl (by rw [hc130]; simp [vb])) (by kernel_rfl) (.inr hI) rfl fun a hA => ?_
                        refine g_skip (i := 36) hA rfl (wanted_no hA rfl rfl (by rw [hc130]; simp [vb])) (by kernel_rfl) (.inr hI) rfl fun a hA => ?_
                        refine g_skip (i := 38) hA rfl (wanted_no hA rfl rfl (by rw [hc130]; simp [vb])) (by kernel_rfl) (.inr hI) rfl fun a hA => ?_
                        refine g_easy (i := 39) hA rfl rfl (by kernel_rfl) (.inr hI) (fun _ => r_pick_f hA rfl hc130 rfl) rfl fun a hA => ?_
                        refine g_easy (i := 40) hA rfl rfl (by kernel_rfl) (.inr hI) (fun _ => r_as hA rfl) rfl fun a hA => ?_
                        refine g_nil (by kernel_rfl) ?_
                        cases Option.some.inj (bS H)
                        exact ⟨μ1, (Store.le.refl _), hA.sub ⟨rfl, rfl, rfl, rfl, rfl, rfl, rfl, rfl, rfl, rfl, rfl, rfl, rfl, rfl, rfl, rfl, rfl, rfl, rfl, rfl, rfl, trivial⟩, hI⟩
                    · have hc120 := hc12; have hc12 := of_decide_eq_false hc12; have H := bF H hc12
                      refine g_skip (i := 30) hA rfl (wanted_no hA rfl rfl (by rw [hc120]; simp [vb])) (by kernel_rfl) (.inr hI) rfl fun a hA => ?_
                      refine g_skip (i := 31) hA rfl (wanted_no hA rfl rfl (by rw [hc120]; simp [vb])) (by kernel_rfl) (.inr hI) rfl fun a hA => ?_
                      refine g_skip (i := 32) hA rfl (wanted_no hA rfl rfl (by rw [hc120]; simp [vb])) (by kernel_rfl) (.inr hI) rfl fun a hA => ?_
                      refine g_easy (i := 33) hA rfl rfl (by kernel_rfl) (.inr hI) (fun _ => r_pick_f hA rfl hc120 rfl) rfl fun a hA => ?_
                      refine g_easy (i := 34) hA rfl rfl (by kernel_rfl) (.inr hI) (fun _ => r_mv hA rfl) rfl fun a hA => ?_
                      refine g_skip (i := 35) hA rfl (wanted_no hA rfl rfl (by simp [vb])) (by kernel_rfl) (.inr hI) rfl fun a hA => ?_
                      refine g_skip (i := 37) hA rfl (wanted_no hA rfl rfl (by simp [vb])) (by kernel_rfl) (.inr hI) rfl fun a hA => ?_
                      refine g_skip (i := 36) hA rfl (wanted_no hA rfl rfl (by simp [vb])) (by kernel_rfl) (.inr hI) rfl fun a hA => ?_
                      refine g_skip (i := 38) hA rfl (wanted_no hA rfl rfl (by simp [vb])) (by kernel_rfl) (.inr hI) rfl fun a hA => ?_
                      refine g_easy (i := 39) hA rfl rfl (by kernel_rfl) (.inr hI) (fun _ => r_pick_f hA rfl rfl rfl) rfl fun a hA => ?_
                      refine g_easy (i := 40) hA rfl rfl (by kernel_rfl) (.inr hI) (fun _ => r_as hA rfl) rfl fun a hA => ?_
                      refine g_nil (by kernel_rfl) ?_
                      cases Option.some.inj (bS H)
                      exact ⟨μ1, (Store.le.refl _), hA.sub ⟨rfl, rfl, rfl, rfl, rfl, rfl, rfl, rfl, rfl, rfl, rfl, rfl, rfl, rfl, rfl, rfl, rfl, rfl, rfl, rfl, rfl, trivial⟩, hI⟩
                  · have hc110 := hc11; have hc11 := ft hc11; have H := bF H hc11
                    refine g_take (i := 13) hA rfl (wanted_yes hA rfl rfl hc110) (by kernel_rfl) hI (fun w hI => r_ldA (j := 3) [] [[.int .u64 x2.Value], av .u8 32 x2.Lock, [.int .i64 x2.Height], [.bool x2.Base]] [] Tryd.underlying104 rfl sz104 rfl hI rfl hA rfl rfl) rfl fun a hA => ?_
                    refine g_easy (i := 14) hA rfl (wanted_yes hA rfl rfl hc110) (by kernel_rfl) (.inr hI) (fun _ => r_mv hA rfl) rfl fun a hA => ?_
                    refine g_easy (i := 15) hA rfl (wanted_yes hA rfl rfl hc110) (by kernel_rfl) (.inr hI) (fun _ => r_mv hA rfl) rfl fun a hA => ?_
                    refine g_take (i := 17) hA rfl (wanted_yes hA rfl rfl hc110) (by kernel_rfl) hI (fun w hI => r_ldA (j := 3) [] [[.int .u64 x2.Value], av .u8 32 x2.Lock, [.int .i64 x2.Height], [.bool x2.Base]] [] Tryd.underlying104 rfl sz104 rfl hI rfl hA rfl rfl) rfl fun a hA => ?_
                    refine g_easy (i := 18) hA rfl (wanted_yes hA rfl rfl hc110) (by kernel_rfl) (.inr hI) (fun _ => r_mv hA rfl) rfl fun a hA => ?_
                    refine g_easy (i := 19) hA rfl (wanted_yes hA rfl rfl hc110) (by kernel_rfl) (.inr hI) (fun _ => r_mv hA rfl) rfl fun a hA => ?_
                    refine g_forced (i := 16) rfl (by kernel_rfl) ?_
                    refine o_yes hA rfl rfl hc110 <| ?_
                    obtain ⟨r10, hr10, H⟩ := bB H
                    refine o_callp (u := .bool r10) cf79 hA rfl hI (value_Ripe.c μ1 _ hI.agr x2 ⟨hx2.1, hx2.2.1, hx2.2.2⟩ x3 hx3 x4 hx4 r10 hr10) rfl fun a w hz14 hI hA => ?_
                    refine o_nil ?_
                    refine ⟨(.inr hI), ?_⟩
                    refine g_forced (i := 20) rfl (by kernel_rfl) ?_
                    refine o_yes hA rfl rfl hc110 <| ?_
                    obtain ⟨r11, hr11, H⟩ := bB H
                    refine o_callp (u := .bool r11) cf80 hA rfl hI (sargassoref8_Ripe.c μ1 _ hI.agr x2 ⟨hx2.1, hx2.2.1, hx2.2.2⟩ x3 hx3 x4 hx4 r11 hr11) rfl fun a w hz15 hI hA => ?_
                    refine o_nil ?_
                    refine ⟨(.inr hI), ?_⟩
                    refine g_easy (i := 21) hA rfl (wanted_yes hA rfl rfl hc110) (by kernel_rfl) (.inr hI) (fun _ => r_eqlb Tryd.underlying4 hA rfl rfl) rfl fun a hA => ?_
                    refine g_easy (i := 22) hA rfl (wanted_yes hA rfl rfl hc100) (by kernel_rfl) (.inr hI) (fun _ => r_pick_f hA rfl hc110 rfl) rfl fun a hA => ?_
                    refine g_easy (i := 23) hA rfl rfl (by kernel_rfl) (.inr hI) (fun _ => r_pick_t hA rfl hc100 rfl) rfl fun a hA => ?_
                    refine g_easy (i := 24) hA rfl rfl (by kernel_rfl) (.inr hI) (fun _ => r_mv hA rfl) rfl fun a hA => ?_
                    rcases Bool.eq_false_or_eq_true (decide (r10 = r11)) with hc14 | hc14
                    · have hc140 := hc14; have hc14 := of_decide_eq_true hc14; have H := bT H hc14
                      refine g_easy (i := 25) hA rfl (wanted_yes hA rfl rfl hc140) (by kernel_rfl) (.inr hI) (fun _ => r_mv hA rfl) rfl fun a hA => ?_
                      refine g_easy (i := 26) hA rfl (wanted_yes hA rfl rfl hc140) (by kernel_rfl) (.inr hI) (fun _ => r_mv hA rfl) rfl fun a hA => ?_
                      refine g_easy (i := 27) hA rfl (wanted_yes hA rfl rfl hc140) (by kernel_rfl) (.inr hI) (fun _ => r_eql hA rfl rfl) rfl fun a hA => ?_
                      refine g_easy (i := 28) hA rfl rfl (by kernel_rfl) (.inr hI) (fun _ => r_pick_t hA rfl hc140 rfl) rfl fun a hA => ?_
                      refine g_easy (i := 29) hA rfl rfl (by kernel_rfl) (.inr hI) (fun _ => r_mv hA rfl) rfl fun a hA => ?_
                      rcases Bool.eq_false_or_eq_true (decide (r2.1 = r3.1)) with hc15 | hc15
                      · have hc150 := hc15; have hc15 := of_decide_eq_true hc15; have H := bT H hc15
                        refine g_easy (i := 30) hA rfl (wanted_yes hA rfl rfl hc150) (by kernel_rfl) (.inr hI) (fun _ => r_mv hA rfl) rfl fun a hA => ?_
                        refine g_take (i := 31) hA rfl (wanted_yes hA rfl rfl hc150) (by kernel_rfl) hI (fun w hI => r_ldA (j := 0) [] [[.int .i64 r3.2.Code], [.bool r3.2.Placed], [.int .i64 r3.2.Pos], [.bool r3.2.Outer], [.int .i64 r3.2.At]] [] Tryd.underlying109 rfl sz109 rfl hI rfl hA rfl rfl) rfl fun a hA => ?_
                        refine g_forced (i := 32) rfl (by kernel_rfl) ?_
                        refine o_yes hA rfl rfl hc150 <| ?_
                        obtain ⟨r12, hr12, H⟩ := bB H
                        refine o_callp (u := .bool r12) cf73 hA rfl hI (sargassosee_Same.c μ1 _ hI.agr r2.2 v2 hS1 r3.2 ⟨hz5.2.1, hz5.2.2.1, hz5.2.2.2⟩ (Gl.le hi1.le hG) r12 hr12) rfl fun a w hz16 hI hA => ?_
                        refine o_nil ?_
                        refine ⟨(.inr hI), ?_⟩
                        refine g_easy (i := 33) hA rfl rfl (by kernel_rfl) (.inr hI) (fun _ => r_pick_t hA rfl hc150 rfl) rfl fun a hA => ?_
                        refine g_easy (i := 34) hA rfl rfl (by kernel_rfl) (.inr hI) (fun _ => r_mv hA rfl) rfl fun a hA => ?_
                        rcases Bool.eq_false_or_eq_true r12 with hc16 | hc16
                        · have hc160 := hc16; have H := bT H hc16
                          refine g_take (i := 35) hA rfl (wanted_yes hA rfl rfl hc160) (by kernel_rfl) hI (fun w hI => r_ldA (j := 1) [] [[.int .i64 x7.Halving], [.int .i64 x7.Maturity], [.int .i64 x7.PoolBytes], [.int .i64 x7.RedoBytes], [.int .i64 x7.LogMost], [.int .i64 x7.Ancestors], [.int .i64 x7.AncestorBytes], [.int .i64 x7.Descendants], [.int .i64 x7.DescendantBytes]] [] Tryd.underlying96 rfl sz96 rfl hI rfl hA rfl rfl) rfl fun a hA => ?_
                          refine g_easy (i := 37) hA rfl (wanted_yes hA rfl rfl hc160) (by kernel_rfl) (.inr hI) (fun _ => r_mv hA rfl) rfl fun a hA => ?_
                          refine g_forced (i := 36) rfl (by kernel_rfl) ?_
                          refine o_yes hA rfl rfl hc160 <| ?_
                          obtain ⟨r13, hr13, H⟩ := bB H
                          refine o_call _ cf69 hA rfl (value_Rules.c μ1 _ hI.agr x7 ⟨hx7.1, hx7.2.1, hx7.2.2.1, hx7.2.2.2.1, hx7.2.2.2.2.1, hx7.2.2.2.2.2.1, hx7.2.2.2.2.2.2.1, hx7.2.2.2.2.2.2.2.1, hx7.2.2.2.2.2.2.2.2⟩ e6 (ErV.le (fun _ _ h => h) hi1.le he6) r13 hr13) rfl fun v4 a w hz17 hA => ?_
                          obtain ⟨_, μ4, rfl, hS3, hi3⟩ := hz17
                          have hI := hI.call hi3
                          refine o_nil ?_
                          refine ⟨(.inr (hI.less hi1.le hi3.le)), ?_⟩
                          refine g_forced (i := 38) rfl (by kernel_rfl) ?_
                          refine o_yes hA rfl rfl hc160 <| ?_
                          obtain ⟨r14, hr14, H⟩ := bB H
                          refine o_callp (u := .bool r14) cf31 hA rfl hI (sargassosee_Is.c μ4 _ hI.agr r13 v4 hS3 c3 wc3 (Gl.le (hi1.le.trans hi3.le) hG) r14 hr14) rfl fun a w hz18 hI hA => ?_
                          refine o_nil ?_
                          refine ⟨(.inr (hI.less hi1.le hi3.le)), ?_⟩
                          refine g_easy (i := 39) hA rfl rfl (by kernel_rfl) (.inr (hI.less hi1.le hi3.le)) (fun _ => r_pick_t hA rfl hc160 rfl) rfl fun a hA => ?_
                          refine g_easy (i := 40) hA rfl rfl (by kernel_rfl) (.inr (hI.less hi1.le hi3.le)) (fun _ => r_as hA rfl) rfl fun a hA => ?_
                          refine g_nil (by kernel_rfl) ?_
                          cases Option.some.inj (bS H)
                          exact ⟨μ4, hi3.le, hA.sub ⟨rfl, rfl, rfl, rfl, rfl, rfl, rfl, rfl, rfl, rfl, rfl, rfl, rfl, rfl, rfl, rfl, rfl, rfl, rfl, rfl, rfl, trivial⟩, hI⟩
                        · have hc160 := hc16; have hc16 := ft hc16; have H := bF H hc16
                          refine g_skip (i := 35) hA rfl (wanted_no hA rfl rfl (by rw [hc160]; simp [vb])) (by kernel_rfl) (.inr hI) rfl fun a hA => ?_
                          refine g_skip (i := 37) hA rfl (wanted_no hA rfl rfl (by rw [hc160]; simp [vb])) (by kernel_rfl) (.inr hI) rfl fun a hA => ?_
                          refine g_skip (i := 36) hA rfl (wanted_no hA rfl rfl (by rw [hc160]; simp [vb])) (by kernel_rfl) (.inr hI) rfl fun a hA => ?_
                          refine g_skip (i := 38) hA rfl (wanted_no hA rfl rfl (by rw [hc160]; simp [vb])) (by kernel_rfl) (.inr hI) rfl fun a hA => ?_
                          refine g_easy (i := 39) hA rfl rfl (by kernel_rfl) (.inr hI) (fun _ => r_pick_f hA rfl hc160 rfl) rfl fun a hA => ?_
                          refine g_easy (i := 40) hA rfl rfl (by kernel_rfl) (.inr hI) (fun _ => r_as hA rfl) rfl fun a hA => ?_
                          refine g_nil (by kernel_rfl) ?_
                          cases Option.some.inj (bS H)
                          exact ⟨μ1, (Store.le.refl _), hA.sub ⟨rfl, rfl, rfl, rfl, rfl, rfl, rfl, rfl, rfl, rfl, rfl, rfl, rfl, rfl, rfl, rfl, rfl, rfl, rfl, rfl, rfl, trivial⟩, hI⟩
                      · have hc150 := hc15; have hc15 := of_decide_eq_false hc15; have H := bF H hc15
                        refine g_skip (i := 30) hA rfl (wanted_no hA rfl rfl (by rw [hc150]; simp [vb])) (by kernel_rfl) (.inr hI) rfl fun a hA => ?_
                        refine g_skip (i := 31) hA rfl (wanted_no hA rfl rfl (by rw [hc150]; simp [vb])) (by kernel_rfl) (.inr hI) rfl fun a hA => ?_
                        refine g_skip (i := 32) hA rfl (wanted_no hA rfl rfl (by rw [hc150]; simp [vb])) (by kernel_rfl) (.inr hI) rfl fun a hA => ?_
                        refine g_easy (i := 33) hA rfl rfl (by kernel_rfl) (.inr hI) (fun _ => r_pick_f hA rfl hc150 rfl) rfl fun a hA => ?_
                        refine g_easy (i := 34) hA rfl rfl (by kernel_rfl) (.inr hI) (fun _ => r_mv hA rfl) rfl fun a hA => ?_
                        refine g_skip (i := 35) hA rfl (wanted_no hA rfl rfl (by simp [vb])) (by kernel_rfl) (.inr hI) rfl fun a hA => ?_
                        refine g_skip (i := 37) hA rfl (wanted_no hA rfl rfl (by simp [vb])) (by kernel_rfl) (.inr hI) rfl fun a hA => ?_
                        refine g_skip (i := 36) hA rfl (wanted_no hA rfl rfl (by simp [vb])) (by kernel_rfl) (.inr hI) rfl fun a hA => ?_
                        refine g_skip (i := 38) hA rfl (wanted_no hA rfl rfl (by simp [vb])) (by kernel_rfl) (.inr hI) rfl fun a hA => ?_
                        refine g_easy (i := 39) hA rfl rfl (by kernel_rfl) (.inr hI) (fun _ => r_pick_f hA rfl rfl rfl) rfl fun a hA => ?_
                        refine g_easy (i := 40) hA rfl rfl (by kernel_rfl) (.inr hI) (fun _ => r_as hA rfl) rfl fun a hA => ?_
                        refine g_nil (by kernel_rfl) ?_
                        cases Option.some.inj (bS H)
                        exact ⟨μ1, (Store.le.refl _), hA.sub ⟨rfl, rfl, rfl, rfl, rfl, rfl, rfl, rfl, rfl, rfl, rfl, rfl, rfl, rfl, rfl, rfl, rfl, rfl, rfl, rfl, rfl, trivial⟩, hI⟩
                    · have hc140 := hc14; have hc14 := of_decide_eq_false hc14; have H := bF H hc14
                      refine g_skip (i := 25) hA rfl (wanted_no hA rfl rfl (by rw [hc140]; simp [vb])) (by kernel_rfl) (.inr hI) rfl fun a hA => ?_
                      refine g_skip (i := 26) hA rfl (wanted_no hA rfl rfl (by rw [hc140]; simp [vb])) (by kernel_rfl) (.inr hI) rfl fun a hA => ?_
                      refine g_skip (i := 27) hA rfl (wanted_no hA rfl rfl (by rw [hc140]; simp [vb])) (by kernel_rfl) (.inr hI) rfl fun a hA => ?_
                      refine g_easy (i := 28) hA rfl rfl (by kernel_rfl) (.inr hI) (fun _ => r_pick_f hA rfl hc140 rfl) rfl fun a hA => ?_
                      refine g_easy (i := 29) hA rfl rfl (by kernel_rfl) (.inr hI) (fun _ => r_mv hA rfl) rfl fun a hA => ?_
                      refine g_skip (i := 30) hA rfl (wanted_no hA rfl rfl (by simp [vb])) (by kernel_rfl) (.inr hI) rfl fun a hA => ?_
                      refine g_skip (i := 31) hA rfl (wanted_no hA rfl rfl (by simp [vb])) (by kernel_rfl) (.inr hI) rfl fun a hA => ?_
                      refine g_skip (i := 32) hA rfl (wanted_no hA rfl rfl (by simp [vb])) (by kernel_rfl) (.inr hI) rfl fun a hA => ?_
                      refine g_easy (i := 33) hA rfl rfl (by kernel_rfl) (.inr hI) (fun _ => r_pick_f hA rfl rfl rfl) rfl fun a hA => ?_
                      refine g_easy (i := 34) hA rfl rfl (by kernel_rfl) (.inr hI) (fun _ => r_mv hA rfl) rfl fun a hA => ?_
                      refine g_skip (i := 35) hA rfl (wanted_no hA rfl rfl (by simp [vb])) (by kernel_rfl) (.inr hI) rfl fun a hA => ?_
                      refine g_skip (i := 37) hA rfl (wanted_no hA rfl rfl (by simp [vb])) (by kernel_rfl) (.inr hI) rfl fun a hA => ?_
                      refine g_skip (i := 36) hA rfl (wanted_no hA rfl rfl (by simp [vb])) (by kernel_rfl) (.inr hI) rfl fun a hA => ?_
                      refine g_skip (i := 38) hA rfl (wanted_no hA rfl rfl (by simp [vb])) (by kernel_rfl) (.inr hI) rfl fun a hA => ?_
                      refine g_easy (i := 39) hA rfl rfl (by kernel_rfl) (.inr hI) (fun _ => r_pick_f hA rfl rfl rfl) rfl fun a hA => ?_
                      refine g_easy (i := 40) hA rfl rfl (by kernel_rfl) (.inr hI) (fun _ => r_as hA rfl) rfl fun a hA => ?_
                      refine g_nil (by kernel_rfl) ?_
                      cases Option.some.inj (bS H)
                      exact ⟨μ1, (Store.le.refl _), hA.sub ⟨rfl, rfl, rfl, rfl, rfl, rfl, rfl, rfl, rfl, rfl, rfl, rfl, rfl, rfl, rfl, rfl, rfl, rfl, rfl, rfl, rfl, trivial⟩, hI⟩
                · have hc100 := hc10; have hc10 := of_decide_eq_false hc10; have H := bF H hc10
                  refine g_skip (i := 11) hA rfl (wanted_no hA rfl rfl (by rw [hc100]; simp [vb])) (by kernel_rfl) (.inr hI) rfl fun a hA => ?_
                  refine g_skip (i := 12) hA rfl (wanted_no hA rfl rfl (by rw [hc100]; simp [vb])) (by kernel_rfl) (.inr hI) rfl fun a hA => ?_
                  refine g_skip (i := 13) hA rfl (wanted_no hA rfl rfl (by simp [vb, undef])) (by kernel_rfl) (.inr hI) rfl fun a hA => ?_
                  refine g_skip (i := 14) hA rfl (wanted_no hA rfl rfl (by simp [vb, undef])) (by kernel_rfl) (.inr hI) rfl fun a hA => ?_
                  refine g_skip (i := 15) hA rfl (wanted_no hA rfl rfl (by simp [vb, undef])) (by kernel_rfl) (.inr hI) rfl fun a hA => ?_
                  refine g_skip (i := 17) hA rfl (wanted_no hA rfl rfl (by simp [vb, undef])) (by kernel_rfl) (.inr hI) rfl fun a hA => ?_
                  refine g_skip (i := 18) hA rfl (wanted_no hA rfl rfl (by simp [vb, undef])) (by kernel_rfl) (.inr hI) rfl fun a hA => ?_
                  refine g_skip (i := 19) hA rfl (wanted_no hA rfl rfl (by simp [vb, undef])) (by kernel_rfl) (.inr hI) rfl fun a hA => ?_
                  refine g_skip (i := 16) hA rfl (wanted_no hA rfl rfl (by simp [vb, undef])) (by kernel_rfl) (.inr hI) rfl fun a hA => ?_
                  refine g_skip (i := 20) hA rfl (wanted_no hA rfl rfl (by simp [vb, undef])) (by kernel_rfl) (.inr hI) rfl fun a hA => ?_
                  refine g_skip (i := 21) hA rfl (wanted_no hA rfl rfl (by simp [vb, undef])) (by kernel_rfl) (.inr hI) rfl fun a hA => ?_
                  refine g_skip (i := 22) hA rfl (wanted_no hA rfl rfl (by rw [hc100]; simp [vb])) (by kernel_rfl) (.inr hI) rfl fun a hA => ?_
                  refine g_easy (i := 23) hA rfl rfl (by kernel_rfl) (.inr hI) (fun _ => r_pick_f hA rfl hc100 rfl) rfl fun a hA => ?_
                  refine g_easy (i := 24) hA rfl rfl (by kernel_rfl) (.inr hI) (fun _ => r_mv hA rfl) rfl fun a hA => ?_
                  refine g_skip (i := 25) hA rfl (wanted_no hA rfl rfl (by simp [vb])) (by kernel_rfl) (.inr hI) rfl fun a hA => ?_
                  refine g_skip (i := 26) hA rfl (wanted_no hA rfl rfl (by simp [vb])) (by kernel_rfl) (.inr hI) rfl fun a hA => ?_
                  refine g_skip (i := 27) hA rfl (wanted_no hA rfl rfl (by simp [vb])) (by kernel_rfl) (.inr hI) rfl fun a hA => ?_
                  refine g_easy (i := 28) hA rfl rfl (by kernel_rfl) (.inr hI) (fun _ => r_pick_f hA rfl rfl rfl) rfl fun a hA => ?_
                  refine g_easy (i := 29) hA rfl rfl (by kernel_rfl) (.inr hI) (fun _ => r_mv hA rfl) rfl fun a hA => ?_
                  refine g_skip (i := 30) hA rfl (wanted_no hA rfl rfl (by simp [vb])) (by kernel_rfl) (.inr hI) rfl fun a hA => ?_
                  refine g_skip (i := 31) hA rfl (wanted_no hA rfl rfl (by simp [vb])) (by kernel_rfl) (.inr hI) rfl fun a hA => ?_
                  refine g_skip (i := 32) hA rfl (wanted_no hA rfl rfl (by simp [vb])) (by kernel_rfl) (.inr hI) rfl fun a hA => ?_
                  refine g_easy (i := 33) hA rfl rfl (by kernel_rfl) (.inr hI) (fun _ => r_pick_f hA rfl rfl rfl) rfl fun a hA => ?_
                  refine g_easy (i := 34) hA rfl rfl (by kernel_rfl) (.inr hI) (fun _ => r_mv hA rfl) rfl fun a hA => ?_
                  refine g_skip (i := 35) hA rfl (wanted_no hA rfl rfl (by simp [vb])) (by kernel_rfl) (.inr hI) rfl fun a hA => ?_
                  refine g_skip (i := 37) hA rfl (wanted_no hA rfl rfl (by simp [vb])) (by kernel_rfl) (.inr hI) rfl fun a hA => ?_
                  refine g_skip (i := 36) hA rfl (wanted_no hA rfl rfl (by simp [vb])) (by kernel_rfl) (.inr hI) rfl fun a hA => ?_
                  refine g_skip (i := 38) hA rfl (wanted_no hA rfl rfl (by simp [vb])) (by kernel_rfl) (.inr hI) rfl fun a hA => ?_
                  refine g_easy (i := 39) hA rfl rfl (by kernel_rfl) (.inr hI) (fun _ => r_pick_f hA rfl rfl rfl) rfl fun a hA => ?_
                  refine g_easy (i := 40) hA rfl rfl (by kernel_rfl) (.inr hI) (fun _ => r_as hA rfl) rfl fun a hA => ?_
                  refine g_nil (by kernel_rfl) ?_
                  cases Option.some.inj (bS H)
                  exact ⟨μ1, (Store.le.refl _), hA.sub ⟨rfl, rfl, rfl, rfl, rfl, rfl, rfl, rfl, rfl, rfl, rfl, rfl, rfl, rfl, rfl, rfl, rfl, rfl, rfl, rfl, rfl, trivial⟩, hI⟩
              · have hc90 := hc9; have hc9 := ft hc9; have H := bF H hc9
                refine g_skip (i := 2) hA rfl (wanted_no hA rfl rfl (by rw [hc90]; simp [vb])) (by kernel_rfl) (.inr hI) rfl fun a hA => ?_
                refine g_skip (i := 3) hA rfl (wanted_no hA rfl rfl (by rw [hc90]; simp [vb])) (by kernel_rfl) (.inr hI) rfl fun a hA => ?_
                refine g_skip (i := 5) hA rfl (wanted_no hA rfl rfl (by rw [hc90]; simp [vb])) (by kernel_rfl) (.inr hI) rfl fun a hA => ?_
                refine g_skip (i := 6) hA rfl (wanted_no hA rfl rfl (by rw [hc90]; simp [vb])) (by kernel_rfl) (.inr hI) rfl fun a hA => ?_
                refine g_skip (i := 4) hA rfl (wanted_no hA rfl rfl (by rw [hc90]; simp [vb])) (by kernel_rfl) (.inr hI) rfl fun a hA => ?_
                refine g_skip (i := 7) hA rfl (wanted_no hA rfl rfl (by rw [hc90]; simp [vb])) (by kernel_rfl) (.inr hI) rfl fun a hA => ?_
                refine g_skip (i := 8) hA rfl (wanted_no hA rfl rfl (by rw [hc90]; simp [vb])) (by kernel_rfl) (.inr hI) rfl fun a hA => ?_
                refine g_easy (i := 9) hA rfl rfl (by kernel_rfl) (.inr hI) (fun _ => r_pick_f hA rfl hc90 rfl) rfl fun a hA => ?_
                refine g_easy (i := 10) hA rfl rfl (by kernel_rfl) (.inr hI) (fun _ => r_mv hA rfl) rfl fun a hA => ?_
                refine g_skip (i := 11) hA rfl (wanted_no hA rfl rfl (by simp [vb])) (by kernel_rfl) (.inr hI) rfl fun a hA => ?_
                refine g_skip (i := 12) hA rfl (wanted_no hA rfl rfl (by simp [vb])) (by kernel_rfl) (.inr hI) rfl fun a hA => ?_
                refine g_skip (i := 13) hA rfl (wanted_no hA rfl rfl (by simp [vb, undef])) (by kernel_rfl) (.inr hI) rfl fun a hA => ?_
                refine g_skip (i := 14) hA rfl (wanted_no hA rfl rfl (by simp [vb, undef])) (by kernel_rfl) (.inr hI) rfl fun a hA => ?_
                refine g_skip (i := 15) hA rfl (wanted_no hA rfl rfl (by simp [vb, undef])) (by kernel_rfl) (.inr hI) rfl fun a hA => ?_
                refine g_skip (i := 17) hA rfl (wanted_no hA rfl rfl (by simp [vb, undef])) (by kernel_rfl) (.inr hI) rfl fun a hA => ?_
                refine g_skip (i := 18) hA rfl (wanted_no hA rfl rfl (by simp [vb, undef])) (by kernel_rfl) (.inr hI) rfl fun a hA => ?_
                refine g_skip (i := 19) hA rfl (wanted_no hA rfl rfl (by simp [vb, undef])) (by kernel_rfl) (.inr hI) rfl fun a hA => ?_
                refine g_skip (i := 16) hA rfl (wanted_no hA rfl rfl (by simp [vb, undef])) (by kernel_rfl) (.inr hI) rfl fun a hA => ?_
                refine g_skip (i := 20) hA rfl (wanted_no hA rfl rfl (by simp [vb, undef])) (by kernel_rfl) (.inr hI) rfl fun a hA => ?_
                refine g_skip (i := 21) hA rfl (wanted_no hA rfl rfl (by simp [vb, undef])) (by kernel_rfl) (.inr hI) rfl fun a hA => ?_
                refine g_skip (i := 22) hA rfl (wanted_no hA rfl rfl (by simp [vb])) (by kernel_rfl) (.inr hI) rfl fun a hA => ?_
                refine g_easy (i := 23) hA rfl rfl (by kernel_rfl) (.inr hI) (fun _ => r_pick_f hA rfl rfl rfl) rfl fun a hA => ?_
                refine g_easy (i := 24) hA rfl rfl (by kernel_rfl) (.inr hI) (fun _ => r_mv hA rfl) rfl fun a hA => ?_
                refine g_skip (i := 25) hA rfl (wanted_no hA rfl rfl (by simp [vb])) (by kernel_rfl) (.inr hI) rfl fun a hA => ?_
                refine g_skip (i := 26) hA rfl (wanted_no hA rfl rfl (by simp [vb])) (by kernel_rfl) (.inr hI) rfl fun a hA => ?_
                refine g_skip (i := 27) hA rfl (wanted_no hA rfl rfl (by simp [vb])) (by kernel_rfl) (.inr hI) rfl fun a hA => ?_
                refine g_easy (i := 28) hA rfl rfl (by kernel_rfl) (.inr hI) (fun _ => r_pick_f hA rfl rfl rfl) rfl fun a hA => ?_
                refine g_easy (i := 29) hA rfl rfl (by kernel_rfl) (.inr hI) (fun _ => r_mv hA rfl) rfl fun a hA => ?_
                refine g_skip (i := 30) hA rfl (wanted_no hA rfl rfl (by simp [vb])) (by kernel_rfl) (.inr hI) rfl fun a hA => ?_
                refine g_skip (i := 31) hA rfl (wanted_no hA rfl rfl (by simp [vb])) (by kernel_rfl) (.inr hI) rfl fun a hA => ?_
                refine g_skip (i := 32) hA rfl (wanted_no hA rfl rfl (by simp [vb])) (by kernel_rfl) (.inr hI) rfl fun a hA => ?_
                refine g_easy (i := 33) hA rfl rfl (by kernel_rfl) (.inr hI) (fun _ => r_pick_f hA rfl rfl rfl) rfl fun a hA => ?_
                refine g_easy (i := 34) hA rfl rfl (by kernel_rfl) (.inr hI) (fun _ => r_mv hA rfl) rfl fun a hA => ?_
                refine g_skip (i := 35) hA rfl (wanted_no hA rfl rfl (by simp [vb])) (by kernel_rfl) (.inr hI) rfl fun a hA => ?_
                refine g_skip (i := 37) hA rfl (wanted_no hA rfl rfl (by simp [vb])) (by kernel_rfl) (.inr hI) rfl fun a hA => ?_
                refine g_skip (i := 36) hA rfl (wanted_no hA rfl rfl (by simp [vb])) (by kernel_rfl) (.inr hI) rfl fun a hA => ?_
                refine g_skip (i := 38) hA rfl (wanted_no hA rfl rfl (by simp [vb])) (by kernel_rfl) (.inr hI) rfl fun a hA => ?_
                refine g_easy (i := 39) hA rfl rfl (by kernel_rfl) (.inr hI) (fun _ => r_pick_f hA rfl rfl rfl) rfl fun a hA => ?_
                refine g_easy (i := 40) hA rfl rfl (by kernel_rfl) (.inr hI) (fun _ => r_as hA rfl) rfl fun a hA => ?_
                refine g_nil (by kernel_rfl) ?_
                cases Option.some.inj (bS H)
                exact ⟨μ1, (Store.le.refl _), hA.sub ⟨rfl, rfl, rfl, rfl, rfl, rfl, rfl, rfl, rfl, rfl, rfl, rfl, rfl, rfl, rfl, rfl, rfl, rfl, rfl, rfl, rfl, trivial⟩, hI⟩
            · rintro a w ⟨μ2, hle1, hA, hI⟩
              have H := Hk4
              refine w_ret ?_
              obtain rfl := Option.some.inj (bS H)
              exact ret1 hA Tryd.results18 rfl ⟨_, rfl, rfl, trivial, hI.forget0⟩
end Go.Proofs.YtpeelghbhihgkaaDoor.T
namespace Go.Proofs.YtpeelghbhihgkaaDoor.T
open Go Go.Proofs Go.Proofs.YtpeelghbhihgkaaDoor.K
set_option linter.unusedVariables false
theorem w64 {x : Int} (h0 : -9223372036854775808 ≤ x) (h1 : x < 9223372036854775808) : IntKind.i64.wrap x = x := wrap_id ⟨h0, h1⟩
theorem wu64 {x : Int} (h0 : 0 ≤ x) (h1 : x < 18446744073709551616) : IntKind.u64.wrap x = x := wrap_id ⟨h0, h1⟩
end Go.Proofs.YtpeelghbhihgkaaDoor.T
namespace Go.Proofs.YtpeelghbhihgkaaDoor.T
open Go Go.Proofs Go.Proofs.YtpeelghbhihgkaaDoor.K
set_option linter.unusedVariables false
theorem reward_eq {x0 x1 : Int} (h0 : InR .i64 x0) (h1 : InR .i64 x1) : value_Reward.f x0 x1 = some (if x0 < 0 ∨ x1 < 1 then 0 else if 64 ≤ x0 / x1 then 0 else 5000000000 / 2 ^ (x0 / x1).toNat) := by
  obtain ⟨a, b⟩ := h0
  obtain ⟨c, d⟩ := h1
  unfold value_Reward.f
  by_cases h : x0 < 0
  · simp [h]
  by_cases h' : x1 < 1
  · simp [h, h']
  have hq : Int.tdiv x0 x1 = x0 / x1 := Int.tdiv_eq_ediv_of_nonneg (by omega)
  have q0 : 0 ≤ x0 / x1 := Int.ediv_nonneg (by omega) (by omega)
  have q1 : x0 / x1 ≤ x0 := Int.ediv_le_self _ (by omega)
  have hn : x1 ≠ 0 := by omega
  rw [hq, w64 (by omega) (by omega)]
  simp only [h, h', hn, if_false, Option.bind_some, or_self, ne_eq, not_false_eq_true, if_true, q0]
  by_cases h6 : 64 ≤ x0 / x1
  · simp [h6]
  · simp only [h6, decide_false, if_false, Bool.false_eq_true, sR]
    rw [show min (x0 / x1).toNat IntKind.u64.bits = (x0 / x1).toNat by simp [IntKind.bits]; omega, Int.fdiv_eq_ediv_of_nonneg _ (Int.pow_nonneg (by omega))]
theorem first15 : sargassolaw15_first.f = some true := by
  unfold sargassolaw15_first.f
  rw [reward_eq ⟨by omega, by omega⟩ ⟨by omega, by omega⟩, reward_eq ⟨by omega, by omega⟩ ⟨by omega, by omega⟩]
  rfl
end Go.Proofs.YtpeelghbhihgkaaDoor.T
namespace Go.Proofs.YtpeelghbhihgkaaDoor.T
open Go Go.Proofs Go.Proofs.YtpeelghbhihgkaaDoor.K
set_option linter.unusedVariables false
set_option linter.unusedSimpArgs false
theorem loop_idx {τ ρ : Type} {step : τ → Option (τ ⊕ ρ)} (st : Nat → τ) (n : Nat) (h : ∀ i, i < n → step (st i) = some (.inl (st (i + 1)))) : loopO step (st 0) = loopO step (st n) := by
  induction n with
  | zero => rfl
  | succ n ih => rw [ih (fun i hi => h i (by omega)), loopO_inl (h n (by omega))]
theorem loop_run {τ ρ : Type} {step : τ → Option (τ ⊕ ρ)} (st : Nat → τ) (n : Nat) {r : ρ} {s : τ} (h0 : s = st 0) (h : ∀ i, i < n → step (st i) = some (.inl (st (i + 1)))) (hn : step (st n) = some (.inr r)) : loopO step s = some r := by
  rw [h0, loop_idx st n h, loopO_inr hn]
theorem bv_nat (n a : Nat) (h : a < 2 ^ n) : (BitVec.ofInt n (a : Int)).toNat = a := by
  rw [BitVec.toNat_ofInt]
  have : ((a : Int) % ((2 ^ n : Nat) : Int)) = a := Int.emod_eq_of_lt (by omega) (by exact_mod_cast h)
  rw [this]
  rfl
theorem in_u (k : IntKind) (hk : k.signed = false) {a : Nat} (h : a < 2 ^ k.bits) : InR k (a : Int) := by
  cases k <;> simp [IntKind.signed] at hk <;> simp [IntKind.bits] at h <;> simp [InR] <;> omega
theorem bAnd_nat (k : IntKind) (hk : k.signed = false) {a b : Nat} (ha : a < 2 ^ k.bits) (hb : b < 2 ^ k.bits) : bAnd k a b = ((a &&& b : Nat) : Int) := by
  unfold bAnd
  rw [BitVec.toNat_and, bv_nat _ _ ha, bv_nat _ _ hb]
  exact wrap_id (in_u k hk (Nat.lt_of_le_of_lt Nat.and_le_left ha))
theorem and_low (n i : Nat) : n &&& (2 ^ i - 1) = n % 2 ^ i := Nat.and_two_pow_sub_one_eq_mod n i
end Go.Proofs.YtpeelghbhihgkaaDoor.T
namespace Go.Proofs.YtpeelghbhihgkaaDoor.T
open Go Go.Proofs Go.Proofs.YtpeelghbhihgkaaDoor.K
set_option linter.unusedVariables false
set_option linter.unusedSimpArgs false
theorem els_all {α : Type} {RE : α → List Value → Prop} {sz : Nat} {xs : List α} {cs : List Value} {Q : α → Prop} (h : Els RE sz xs cs) (f : ∀ x c, RE x c → Q x) : ∀ x ∈ xs, Q x := by
  induction h with
  | nil => simp
  | cons h _ _ ih =>
    intro y hy
    rcases List.mem_cons.1 hy with rfl | hy
    · exact f _ _ h
    · exact ih y hy
theorem slc_ints {k : IntKind} {μ : Store} {v : Value} {xs : List Int} (h : Slc (RI k) 1 μ v xs) : ∀ x ∈ xs, InR k x := by
  obtain ⟨cs, he, _⟩ := h
  exact els_all he fun x c hc => hc.2
theorem getD_mid {α : Type} (pre r : List α) (x d : α) : (pre ++ x :: r).getD ((pre.length : Int).toNat) d = x := by
  simp [List.getD]
theorem mid_lt {α : Type} (pre r : List α) (x : α) : 0 ≤ (pre.length : Int) ∧ (pre.length : Int) < ((pre ++ x :: r).length : Int) := by
  simp; omega
theorem mid_next {α : Type} (pre r : List α) (x : α) (h : (pre ++ x :: r).length ≤ 140737488355328) : IntKind.i64.wrap ((pre.length : Int) + 1) = ((pre ++ [x]).length : Int) := by
  simp at h
  rw [w64 (by omega) (by omega)]; simp
theorem winc (i : Nat) (hi : i < 9223372036854775807) : IntKind.i64.wrap ((i : Int) + 1) = ((i + 1 : Nat) : Int) := by
  rw [w64 (by omega) (by omega)]; omega
theorem take_next {α : Type} (xs : List α) (i : Nat) (d : α) (h : i < xs.length) : xs.take i ++ [xs.getD i d] = xs.take (i + 1) := by
  rw [List.take_add_one]
  simp [List.getD, h]
theorem copy_run {α : Type} {step : (List α × Int) → Option ((List α × Int) ⊕ List α)} (xs : List α) (d : α) (h : xs.length < 9223372036854775807)
    (hs : ∀ i, i < xs.length → step (xs.take i, (i : Int)) = some (.inl (xs.take i ++ [xs.getD i d], IntKind.i64.wrap ((i : Int) + 1)))) (hn : step (xs, (xs.length : Int)) = some (.inr xs)) : loopO step ([], 0) = some xs :=
  loop_run (fun i => (xs.take i, (i : Int))) xs.length rfl (fun i hi => by
    rw [hs i hi, take_next _ _ _ hi, winc i (by omega)]) (by simpa using hn)
theorem bytes_eq (xs : List Int) (h : xs.length ≤ 140737488355328) : sargassoref_Bytes.f xs = some xs := by
  unfold sargassoref_Bytes.f
  rw [if_pos ⟨by omega, by omega, by omega⟩]
  simp only [Int.toNat_zero, List.replicate_zero]
  rw [copy_run xs 0 (by omega) (fun i hi => by
    simp only [sargassoref_Bytes.s0]
    rw [if_pos (by omega), if_pos (by omega), if_pos (by simp; omega), Int.toNat_natCast]) (by simp [sargassoref_Bytes.s0])]
  rfl
theorem all_run {step : Int → Option (Int ⊕ Bool)} (n : Nat) (p : Nat → Prop) [DecidablePred p] (hn : n < 9223372036854775807)
    (hs : ∀ i, i < n → step (i : Int) = if p i then some (.inl (IntKind.i64.wrap ((i : Int) + 1))) else some (.inr false)) (he : step (n : Int) = some (.inr true)) : loopO step 0 = some (decide (∀ i, i < n → p i)) := by
  have key : ∀ m k, m + k = n → (∀ i, i < k → p i) → loopO step (k : Int) = some (decide (∀ i, i < n → p i)) := by
    intro m
    induction m with
    | zero =>
      intro k e h
      obtain rfl : k = n := by omega
      rw [loopO_inr he]
      congr 1
      exact (decide_eq_true h).symm
    | succ m ih =>
      intro k e h
      have h1 := hs k (by omega)
      by_cases hp : p k
      · rw [if_pos hp, winc k (by omega)] at h1
        rw [loopO_inl h1]
        refine ih (k + 1) (by omega) fun i hi => ?_
        rcases Nat.lt_or_ge i k with h2 | h2
        · exact h i h2
        · obtain rfl : i = k := by omega
          exact hp
      · rw [if_neg hp] at h1
        rw [loopO_inr h1]
        have : ¬ ∀ i, i < n → p i := fun h2 => hp (h2 k (by omega))
        simp [this]
  exact key n 0 (by omega) (by simp)
theorem ext_iff {α : Type} (xs ys : List α) (d : α) (h : xs.length = ys.length) : (∀ i, i < xs.length → xs.getD i d = ys.getD i d) ↔ xs = ys := by
  constructor
  · intro hh
    apply List.ext_getElem h
    intro i h1 h2
    have := hh i h1
    simpa [List.getD, h1, h2] using this
  · rintro rfl i _
    rfl
theorem samehash_eq (a b : List Int) (ha : a.length = 32) (hb : b.length = 32) : sargassoref_SameHash.f a b = some (decide (a = b)) := by
  unfold sargassoref_SameHash.f
  rw [all_run 32 (fun i => a.getD i 0 = b.getD i 0) (by omega) (fun i hi => by
    simp only [sargassoref_SameHash.s0, Int.toNat_natCast]
    rw [if_pos (by omega), if_pos (by omega)]
    by_cases h : a.getD i 0 = b.getD i 0
    · rw [if_neg (by simpa using h), if_pos h]
    · rw [if_pos h, if_neg h]) (by simp [sargassoref_SameHash.s0])]
  congr 2
  apply propext
  have := ext_iff a b 0 (by rw [ha, hb])
  rw [ha] at this
  exact this
end Go.Proofs.YtpeelghbhihgkaaDoor.T
namespace Go.Proofs.YtpeelghbhihgkaaDoor.T
open Go Go.Proofs Go.Proofs.YtpeelghbhihgkaaDoor.K
set_option linter.unusedVariables false
set_option linter.unusedSimpArgs false
def sl : List Er := [xErrEnd, xErrShape, xErrLong, xErrMany, xErrValue, xErrTwice, xErrBase, xErrRoot, xErrKnown, xErrParent, xErrInvalid, xErrTime, xErrMissing, xErrKey, xErrYoung, xErrEarly, xErrLess, xErrReward, xErrClash, xErrLimit, xErrFull, xErrRange, xErrNone, xErrWord, xErrNumber]
theorem sl_plain : ∀ e ∈ sl, e ≠ .b 0 ∧ e.isP = false := by decide
theorem alike_eq {e f : Er} (he : e ≠ .b 0) (hf : f ≠ .b 0) (hp : e.isP = false) : sargassosee_Alike.f e f = some (decide (e = f)) := by
  simp only [sargassosee_Alike.f]
  rw [if_neg he, Option.bind_some, if_neg (by simpa using hf), if_pos]
  cases e with
  | pl _ _ => cases hp
  | b n =>
    cases f with
    | pl _ _ => cases n <;> rfl
    | b m =>
      cases n with
      | zero => exact absurd rfl he
      | succ n => rfl
theorem gd {α : Type} (l : List α) (d : α) {i : Nat} (h : i < l.length) : l.getD i d = l[i] := by simp [List.getD, h]
theorem sl_ne : ∀ i, i < 25 → ∀ j, j < 25 → i ≠ j → sl.getD i (.b 0) ≠ sl.getD j (.b 0) := by decide +kernel
theorem sentinel_at (k : Nat) (hk : k < 25) : sargassosee_sentinel.f (sl.getD k (.b 0)) = some (101 + (k : Int)) := by
  have hl : sl.length = 25 := rfl
  have hmem : ∀ i, i < 25 → sl.getD i (.b 0) ∈ sl := fun i hi => by
    have e := gd sl (.b 0) (i := i) (by omega)
    rw [e]; exact List.getElem_mem _
  have h0 : sargassosee_sentinels.f = some sl := rfl
  unfold sargassosee_sentinel.f
  rw [h0, Option.bind_some]
  have hs : ∀ i : Nat, i < 25 → sargassosee_sentinel.s0 (sl.getD k (.b 0)) sl (i : Int) = if k = i then some (.inr (IntKind.i64.wrap (101 + (i : Int)))) else some (.inl (IntKind.i64.wrap ((i : Int) + 1))) := fun i hi => by
    simp only [sargassosee_sentinel.s0]
    rw [if_pos (by omega), if_pos (by omega), Int.toNat_natCast, alike_eq (sl_plain _ (hmem k hk)).1 (sl_plain _ (hmem i hi)).1 (sl_plain _ (hmem k hk)).2, Option.bind_some]
    by_cases h : k = i
    · subst h; rw [if_pos (by simp), if_pos rfl]
    · rw [if_neg (by simpa using sl_ne k hk i hi h), if_neg h]
  have key := loop_idx (step := sargassosee_sentinel.s0 (sl.getD k (.b 0)) sl) (fun i => (i : Int)) k (fun i hi => by rw [hs i (by omega), if_neg (by omega), winc i (by omega)])
  have e0 : ((0 : Nat) : Int) = 0 := rfl
  simp only [e0] at key
  have h1 := hs k hk
  rw [if_pos rfl] at h1
  rw [key, loopO_inr h1, w64 (by omega) (by omega)]
theorem samefault_bare (a b : Int) : sargassoref_SameFault.f ⟨a, false, 0, false, 0⟩ ⟨b, false, 0, false, 0⟩ = some (decide (a = b)) := by
  simp only [sargassoref_SameFault.f]
  by_cases h : a = b
  · simp [h]
  · simp [h]
theorem is_nil (c : Int) : sargassosee_Is.f (.b 0) c = some (decide (0 = c)) := by
  simp only [sargassosee_Is.f, sargassosee_Same.f, sargassosee_Fault.f, sargassoref_Bare.f, sargassoref_None.f, Option.bind_some, if_true]
  rw [samefault_bare, Option.bind_some]; rfl
theorem fault_at (k : Nat) (hk : k < 25) : sargassosee_Fault.f (sl.getD k (.b 0)) = some ⟨101 + (k : Int), false, 0, false, 0⟩ := by
  have hm : sl.getD k (.b 0) ∈ sl := by
    have hl : sl.length = 25 := rfl
    have e := gd sl (.b 0) (i := k) (by omega)
    rw [e]; exact List.getElem_mem _
  obtain ⟨h1, h2⟩ := sl_plain _ hm
  simp only [sargassosee_Fault.f]
  rw [if_neg h1, if_neg (by rw [h2]; decide), sentinel_at k hk]
  rfl
theorem is_at (k : Nat) (hk : k < 25) (c : Int) : sargassosee_Is.f (sl.getD k (.b 0)) c = some (decide (101 + (k : Int) = c)) := by
  simp only [sargassosee_Is.f, sargassosee_Same.f, sargassoref_Bare.f, Option.bind_some]
  rw [fault_at k hk, Option.bind_some, samefault_bare, Option.bind_some, Option.bind_some]
theorem is_range (c : Int) : sargassosee_Is.f xErrRange c = some (decide (122 = c)) := is_at 21 (by decide) c
end Go.Proofs.YtpeelghbhihgkaaDoor.T
namespace Go.Proofs.YtpeelghbhihgkaaDoor.T
open Go Go.Proofs Go.Proofs.YtpeelghbhihgkaaDoor.K
set_option linter.unusedVariables false
set_option linter.unusedSimpArgs false
def wi (a x b : Int) : Prop := a ≤ x ∧ x ≤ b
instance (a x b : Int) : Decidable (wi a x b) := inferInstanceAs (Decidable (_ ∧ _))
def inb (x : Rules) : Prop := wi 1 x.Halving 1048576 ∧ wi 0 x.Maturity 1000 ∧ wi 1 x.PoolBytes 16777216 ∧ wi 1 x.RedoBytes 16777216 ∧ wi 1 x.LogMost 65536 ∧ wi 1 x.Ancestors 1000 ∧ wi 1 x.Descendants 1000 ∧ wi 1 x.AncestorBytes 16777216 ∧ wi 1 x.DescendantBytes 16777216
instance (x : Rules) : Decidable (inb x) := inferInstanceAs (Decidable (_ ∧ _))
def tbl (x : Rules) : List (List Int) := [[x.Halving, 1, 1048576], [x.Maturity, 0, 1000], [x.PoolBytes, 1, 16777216], [x.RedoBytes, 1, 16777216], [x.LogMost, 1, 65536], [x.Ancestors, 1, 1000], [x.Descendants, 1, 1000], [x.AncestorBytes, 1, 16777216], [x.DescendantBytes, 1, 16777216]]
theorem rules_iff (x : Rules) : (∀ i, i < 9 → wi (((tbl x).getD i []).getD 1 0) (((tbl x).getD i []).getD 0 0) (((tbl x).getD i []).getD 2 0)) ↔ inb x := by
  constructor
  · intro h
    exact ⟨h 0 (by omega), h 1 (by omega), h 2 (by omega), h 3 (by omega), h 4 (by omega), h 5 (by omega), h 6 (by omega), h 7 (by omega), h 8 (by omega)⟩
  · rintro ⟨h0, h1, h2, h3, h4, h5, h6, h7, h8⟩ i hi
    have : i = 0 ∨ i = 1 ∨ i = 2 ∨ i = 3 ∨ i = 4 ∨ i = 5 ∨ i = 6 ∨ i = 7 ∨ i = 8 := by omega
    rcases this with rfl | rfl | rfl | rfl | rfl | rfl | rfl | rfl | rfl
    · exact h0
    · exact h1
    · exact h2
    · exact h3
    · exact h4
    · exact h5
    · exact h6
    · exact h7
    · exact h8
theorem look_run' {ρ : Type} {step : Int → Option (Int ⊕ ρ)} (n : Nat) (p : Nat → Prop) [DecidablePred p] (yes no : ρ) (hn : n < 9223372036854775807)
    (hs : ∀ i, i < n → step (i : Int) = if p i then some (.inl (IntKind.i64.wrap ((i : Int) + 1))) else some (.inr no)) (he : step (n : Int) = some (.inr yes)) : loopO step 0 = some (if ∀ i, i < n → p i then yes else no) := by
  have key : ∀ m k, m + k = n → (∀ i, i < k → p i) → loopO step (k : Int) = some (if ∀ i, i < n → p i then yes else no) := by
    intro m
    induction m with
    | zero =>
      intro k e h
      obtain rfl : k = n := by omega
      rw [loopO_inr he, if_pos h]
    | succ m ih =>
      intro k e h
      have h1 := hs k (by omega)
      by_cases hp : p k
      · rw [if_pos hp, winc k (by omega)] at h1
        rw [loopO_inl h1]
        refine ih (k + 1) (by omega) fun i hi => ?_
        rcases Nat.lt_or_ge i k with h2 | h2
        · exact h i h2
        · obtain rfl : i = k := by omega
          exact hp
      · rw [if_neg hp] at h1
        rw [loopO_inr h1, if_neg (fun h2 => hp (h2 k (by omega)))]
  exact key n 0 (by omega) (by simp)
noncomputable def vr (x : Rules) : Er := if inb x then .b 0 else xErrRange
theorem vrules_eq (x : Rules) : value_Rules.f x = some (vr x) := by
  have h := look_run' (step := value_Rules.s0 x) 9 (fun i => wi (((tbl x).getD i []).getD 1 0) (((tbl x).getD i []).getD 0 0) (((tbl x).getD i []).getD 2 0)) (Er.b 0) xErrRange (by omega) (fun i hi => by
    have hl : ((tbl x).length : Int) = 9 := rfl
    show (if (i : Int) < ((tbl x).length : Int) then (if 0 ≤ (i : Int) ∧ (i : Int) < ((tbl x).length : Int) then (((if (((tbl x).getD (i : Int).toNat []).getD (0 : Int).toNat 0) < (((tbl x).getD (i : Int).toNat []).getD (1 : Int).toNat 0) then some true else some (decide ((((tbl x).getD (i : Int).toNat []).getD (2 : Int).toNat 0) < (((tbl x).getD (i : Int).toNat []).getD (0 : Int).toNat 0))))).bind fun c1 => (if c1 = true then (some (.inr xErrRange) : Option (Int ⊕ Er)) else some (.inl (IntKind.i64.wrap ((i : Int) + 1))))) else none) else some (.inr (Er.b 0))) = _
    rw [if_pos (by omega), if_pos (by omega), Int.toNat_natCast, show (0 : Int).toNat = 0 from rfl, show (1 : Int).toNat = 1 from rfl, show (2 : Int).toNat = 2 from rfl]
    generalize (tbl x).getD i [] = r
    by_cases c1 : r.getD 0 0 < r.getD 1 0
    · rw [if_pos c1, Option.bind_some, if_pos rfl, if_neg (fun h => by have := h.1; omega)]
    · rw [if_neg c1, Option.bind_some]
      by_cases c2 : r.getD 2 0 < r.getD 0 0
      · rw [if_pos (decide_eq_true c2), if_neg (fun h => by have := h.2; omega)]
      · rw [if_neg (by simp only [decide_eq_true_eq]; exact c2), if_pos (show wi _ _ _ from ⟨by omega, by omega⟩)]) rfl
  unfold value_Rules.f vr
  rw [h]
  by_cases c : inb x
  · rw [if_pos ((rules_iff x).2 c), if_pos c]
  · rw [if_neg (fun h => c ((rules_iff x).1 h)), if_neg c]
end Go.Proofs.YtpeelghbhihgkaaDoor.T
namespace Go.Proofs.YtpeelghbhihgkaaDoor.T
open Go Go.Proofs Go.Proofs.YtpeelghbhihgkaaDoor.K
set_option linter.unusedVariables false
set_option linter.unusedSimpArgs false
def rotr (x n : Int) : Int := bOr .u32 (sR .u32 x n) (sL .u32 x (32 - n))
def wordAt (b : List Int) (p : Nat) : Int :=
  bOr .u32 (bOr .u32 (bOr .u32 (sL .u32 (IntKind.u32.wrap (b.getD p 0)) 24) (sL .u32 (IntKind.u32.wrap (b.getD (p + 1) 0)) 16)) (sL .u32 (IntKind.u32.wrap (b.getD (p + 2) 0)) 8)) (IntKind.u32.wrap (b.getD (p + 3) 0))
def sg0 (y : Int) : Int := bXor .u32 (bXor .u32 (rotr y 7) (rotr y 18)) (sR .u32 y 3)
def sg1 (x : Int) : Int := bXor .u32 (bXor .u32 (rotr x 17) (rotr x 19)) (sR .u32 x 10)
def schedVal (b : List Int) (p : Nat) (w : List Int) (t : Nat) : Int :=
  if t < 16 then wordAt b (p + 4 * t) else IntKind.u32.wrap (w.getD (t - 16) 0 + sg0 (w.getD (t - 15) 0) + w.getD (t - 7) 0 + sg1 (w.getD (t - 2) 0))
def schedR (b : List Int) (p : Nat) : Nat → List Int
  | 0 => List.replicate 64 0
  | t + 1 => (fun w => w.set t (schedVal b p w t)) (schedR b p t)
def kc : List Int := digest_keys.lit0
def rt1 (x : List Int) (k w : Int) : Int := IntKind.u32.wrap (x.getD 7 0 + bXor .u32 (bXor .u32 (rotr (x.getD 4 0) 6) (rotr (x.getD 4 0) 11)) (rotr (x.getD 4 0) 25) + bXor .u32 (bAnd .u32 (x.getD 4 0) (x.getD 5 0)) (bAnd .u32 (bNot .u32 (x.getD 4 0)) (x.getD 6 0)) + k + w)
def rt2 (x : List Int) : Int := bXor .u32 (bXor .u32 (rotr (x.getD 0 0) 2) (rotr (x.getD 0 0) 13)) (rotr (x.getD 0 0) 22) + bXor .u32 (bXor .u32 (bAnd .u32 (x.getD 0 0) (x.getD 1 0)) (bAnd .u32 (x.getD 0 0) (x.getD 2 0))) (bAnd .u32 (x.getD 1 0) (x.getD 2 0))
def rstep (x : List Int) (k w : Int) : List Int :=
  [IntKind.u32.wrap (rt1 x k w + rt2 x), x.getD 0 0, x.getD 1 0, x.getD 2 0, IntKind.u32.wrap (x.getD 3 0 + rt1 x k w), x.getD 4 0, x.getD 5 0, x.getD 6 0]
def roundR (w s : List Int) : Nat → List Int
  | 0 => s
  | t + 1 => rstep (roundR w s t) (kc.getD t 0) (w.getD t 0)
def addR (x s : List Int) : Nat → List Int
  | 0 => s
  | i + 1 => (fun z => z.set i (IntKind.u32.wrap (z.getD i 0 + x.getD i 0))) (addR x s i)
def mixV (s b : List Int) (p : Nat) : List Int := addR (roundR (schedR b p 64) s 64) s 8
def blocksR (m s : List Int) : Nat → List Int
  | 0 => s
  | n + 1 => mixV (blocksR m s n) m (64 * n)
def iv0 : List Int := [1779033703, 3144134277, 1013904242, 2773480762, 1359893119, 2600822924, 528734635, 1541459225]
def outB (s : List Int) (i : Nat) : Int := IntKind.u8.wrap (sR .u32 (s.getD (i / 4) 0) (24 - 8 * ((i % 4 : Nat) : Int)))
def outL (s : List Int) : List Int := (List.range 32).map (outB s)
def zs (n : Nat) : Nat := (120 - n % 64) % 64
def lenB (n i : Nat) : Int := IntKind.u8.wrap (sR .u64 (IntKind.u64.wrap (8 * (n : Int))) (8 * (7 - (i : Int))))
def padR (m : List Int) : List Int := m ++ ([128] ++ (List.replicate (zs (m.length + 1)) 0 ++ (List.range 8).map (lenB m.length)))
def sha (m : List Int) : List Int := outL (blocksR (padR m) iv0 ((padR m).length / 64))
end Go.Proofs.YtpeelghbhihgkaaDoor.T
namespace Go.Proofs.YtpeelghbhihgkaaDoor.T
open Go Go.Proofs Go.Proofs.YtpeelghbhihgkaaDoor.K
set_option linter.unusedVariables false
set_option linter.unusedSimpArgs false
theorem u32e (x : Int) : IntKind.u32.wrap x = x % 4294967296 := by simp [IntKind.wrap, IntKind.signed, IntKind.bits]
theorem wl (a b : Int) : IntKind.u32.wrap (IntKind.u32.wrap a + b) = IntKind.u32.wrap (a + b) := by simp only [u32e]; omega
theorem wr (a b : Int) : IntKind.u32.wrap (a + IntKind.u32.wrap b) = IntKind.u32.wrap (a + b) := by simp only [u32e]; omega
theorem bOr_comm (k : IntKind) (a b : Int) : bOr k a b = bOr k b a := by unfold bOr; rw [BitVec.or_comm]
theorem right_f (x n : Int) (h0 : 0 ≤ n) (h1 : n ≤ 32) : sargassoref1_right.f x n = some (rotr x n) := by
  simp only [sargassoref1_right.f, rotr]
  rw [wu64 (x := 32 - n) (by omega) (by omega), if_pos h0, if_pos (by omega)]
theorem turn_f (x n : Int) (h0 : 0 < n) (h1 : n < 32) : digest_turn.f x n = some (rotr x n) := by
  simp only [digest_turn.f, math_bits_RotateLeft32.f, rotr]
  have e1 : IntKind.i64.wrap (0 - n) = -n := by rw [w64 (by omega) (by omega)]; omega
  have e2 : IntKind.u64.wrap (-n) = 18446744073709551616 - n := by
    simp [IntKind.wrap, IntKind.signed, IntKind.bits]
    omega
  obtain ⟨m, rfl⟩ : ∃ m : Nat, n = m := ⟨n.toNat, by omega⟩
  have e3 : bAnd .u64 (18446744073709551616 - (m : Int)) 31 = 32 - (m : Int) := by
    have h := bAnd_nat .u64 rfl (a := 18446744073709551616 - m) (b := 31) (by simp [IntKind.bits]; omega) (by simp [IntKind.bits])
    have e : ((18446744073709551616 - m : Nat) : Int) = 18446744073709551616 - (m : Int) := by omega
    rw [e] at h
    have h' : (18446744073709551616 - m) &&& 31 = (18446744073709551616 - m) % 32 := and_low _ 5
    rw [h'] at h
    rw [show ((31 : Nat) : Int) = 31 from rfl] at h
    rw [h]
    omega
  rw [e1, e2, e3, wu64 (x := 32 - (32 - (m : Int))) (by omega) (by omega), if_pos (by omega), if_pos (by omega)]
  have e4 : 32 - (32 - (m : Int)) = m := by omega
  rw [e4, bOr_comm]
  rfl
theorem schedR_len (b : List Int) (p t : Nat) : (schedR b p t).length = 64 := by
  induction t with
  | zero => simp [schedR]
  | succ t ih => simp [schedR, ih]
theorem getD_drop' (l : List Int) (a i : Nat) : (l.drop a).getD i 0 = l.getD (a + i) 0 := by simp [List.getD]
theorem getD_take' (l : List Int) (a i : Nat) (h : i < a) : (l.take a).getD i 0 = l.getD i 0 := by simp [List.getD, h]
theorem wsub (i c : Nat) (hc : c ≤ i) (hi : i < 1000) : IntKind.i64.wrap ((i : Int) - (c : Nat)) = ((i - c : Nat) : Int) := by
  rw [w64 (by omega) (by omega)]; omega
theorem wadd1 (i : Nat) (hi : i < 9223372036854775807) : IntKind.i64.wrap ((i : Int) + 1) = ((i + 1 : Nat) : Int) := by
  rw [w64 (by omega) (by omega)]; omega
theorem wmul4 (i : Nat) (hi : i < 1000) : IntKind.i64.wrap (4 * (i : Int)) = ((4 * i : Nat) : Int) := by
  rw [w64 (by omega) (by omega)]; omega
theorem spread_step (b : List Int) (h : b.length = 64) (w : List Int) (i : Nat) (hi : i < 64) : digest_spread.s0 b ((i : Int), w) = some (.inl (((i + 1 : Nat) : Int), w.set i (schedVal b 0 w i))) := by
  simp only [digest_spread.s0]
  rw [if_pos (by omega)]
  by_cases h16 : i < 16
  · have hl : (b.take ((b.length : Int)).toNat).drop (IntKind.i64.wrap (4 * (i : Int))).toNat = b.drop (4 * i) := by
      rw [wmul4 i (by omega), Int.toNat_natCast, Int.toNat_natCast, List.take_length]
    have hll : (b.drop (4 * i)).length = 64 - 4 * i := by simp [h]
    rw [if_pos (by omega), hl, hll, wmul4 i (by omega), if_pos (by omega), if_pos (by omega), if_pos (by omega), if_pos (by omega), if_pos (by omega), if_pos (by omega)]
    simp only [Option.bind_some, getD_drop', Int.toNat_natCast]
    rw [wadd1 i (by omega)]
    simp only [schedVal, if_pos h16, wordAt, Nat.zero_add]
    rfl
  · have e2 := wsub i 2 (by omega) (by omega)
    have e7 := wsub i 7 (by omega) (by omega)
    have e15 := wsub i 15 (by omega) (by omega)
    have e16 := wsub i 16 (by omega) (by omega)
    simp only [show ((2 : Nat) : Int) = 2 from rfl, show ((7 : Nat) : Int) = 7 from rfl, show ((15 : Nat) : Int) = 15 from rfl, show ((16 : Nat) : Int) = 16 from rfl] at e2 e7 e15 e16
    rw [if_neg (by omega), e2, e7, e15, e16, if_pos (by omega), if_pos (by omega), if_pos (by omega), if_pos (by omega)]
    simp only [Int.toNat_natCast, turn_f _ 17 (by omega) (by omega), turn_f _ 19 (by omega) (by omega), turn_f _ 7 (by omega) (by omega), turn_f _ 18 (by omega) (by omega), Option.bind_some]
    rw [if_pos (by omega), wadd1 i (by omega)]
    simp only [Option.bind_some, schedVal, if_neg h16, sg0, sg1]
    congr 4
    simp only [wl, wr]
    congr 1
    omega
theorem spread_eq (b : List Int) (h : b.length = 64) : digest_spread.f b = some (schedR b 0 64) := by
  simp only [digest_spread.f]
  have e := loop_run (step := digest_spread.s0 b) (s := (0, List.replicate 64 0)) (fun i => ((i : Int), schedR b 0 i)) 64 (r := schedR b 0 64) rfl (fun i hi => by
    rw [spread_step b h _ i hi]
    rfl) (by simp only [digest_spread.s0]; rw [if_neg (by decide)])
  rw [e]
  rfl
theorem mix0_step (w x : List Int) (i : Nat) (hi : i < 64) : digest_mix.s0 w digest_keys.lit0 ((i : Int), x) = some (.inl (((i + 1 : Nat) : Int), rstep x (kc.getD i 0) (w.getD i 0))) := by
  simp only [digest_mix.s0]
  rw [if_pos (by omega)]
  simp only [turn_f _ 6 (by omega) (by omega), turn_f _ 11 (by omega) (by omega), turn_f _ 25 (by omega) (by omega), turn_f _ 2 (by omega) (by omega), turn_f _ 13 (by omega) (by omega), turn_f _ 22 (by omega) (by omega), Option.bind_some, Int.toNat_natCast]
  rw [if_pos (by omega), wadd1 i (by omega)]
  simp only [rstep, rt1, rt2, kc, wl, wr, show (0 : Int).toNat = 0 from rfl, show (1 : Int).toNat = 1 from rfl, show (2 : Int).toNat = 2 from rfl, show (3 : Int).toNat = 3 from rfl, show (4 : Int).toNat = 4 from rfl, show (5 : Int).toNat = 5 from rfl, show (6 : Int).toNat = 6 from rfl, show (7 : Int).toNat = 7 from rfl]
theorem mix_eq (s b : List Int) (h : b.length = 64) : digest_mix.f s b = some (mixV s b 0) := by
  simp only [digest_mix.f, spread_eq b h, digest_keys.f, Option.bind_some]
  have e := loop_run (step := digest_mix.s0 (schedR b 0 64) digest_keys.lit0) (s := (0, s)) (fun i => ((i : Int), roundR (schedR b 0 64) s i)) 64 (r := roundR (schedR b 0 64) s 64) rfl (fun i hi => by
    rw [mix0_step _ _ i hi]
    rfl) (by simp only [digest_mix.s0]; rw [if_neg (by decide)])
  rw [e]
  simp only [Option.bind_some]
  have e := loop_run (step := digest_mix.s1 (roundR (schedR b 0 64) s 64)) (s := (0, s)) (fun i => ((i : Int), addR (roundR (schedR b 0 64) s 64) s i)) 8 (r := mixV s b 0) rfl (fun i hi => by
    simp only [digest_mix.s1]
    rw [if_pos (by omega), if_pos (by omega), wadd1 i (by omega)]
    simp only [Int.toNat_natCast, addR]) (by simp only [digest_mix.s1]; rw [if_neg (by decide)]; rfl)
  rw [e]
  rfl
theorem wordAt_in (m : List Int) (a n t : Nat) (h : t < 16) : wordAt ((m.take (a + 64)).drop a) (4 * t) = wordAt m (a + 4 * t) := by
  have e : ∀ j, j < 64 → ((m.take (a + 64)).drop a).getD j 0 = m.getD (a + j) 0 := fun j hj => by
    rw [getD_drop', getD_take' _ _ _ (by omega)]
  simp only [wordAt]
  rw [e _ (by omega), e _ (by omega), e _ (by omega), e _ (by omega)]
  simp only [Nat.add_assoc]
theorem schedR_in (m : List Int) (a t : Nat) : schedR ((m.take (a + 64)).drop a) 0 t = schedR m a t := by
  induction t with
  | zero => rfl
  | succ t ih =>
    simp only [schedR, ih]
    congr 1
    simp only [schedVal]
    by_cases h : t < 16
    · simp only [if_pos h, Nat.zero_add]
      exact wordAt_in m a 0 t h
    · simp only [if_neg h]
theorem mixV_in (s m : List Int) (a : Nat) : mixV s ((m.take (a + 64)).drop a) 0 = mixV s m a := by
  simp only [mixV, schedR_in]
theorem wordAt_app (m l : List Int) (p : Nat) (h : p + 3 < m.length) : wordAt (m ++ l) p = wordAt m p := by
  have e : ∀ j, j < m.length → (m ++ l).getD j 0 = m.getD j 0 := fun j hj => by simp [List.getD, List.getElem?_append_left hj]
  simp only [wordAt]
  rw [e _ (by omega), e _ (by omega), e _ (by omega), e _ (by omega)]
theorem schedR_app (m l : List Int) (p t : Nat) (h : p + 64 ≤ m.length) : schedR (m ++ l) p t = schedR m p t := by
  induction t with
  | zero => rfl
  | succ t ih =>
    simp only [schedR, ih]
    congr 1
    simp only [schedVal]
    by_cases h : t < 16
    · simp only [if_pos h]
      exact wordAt_app m l _ (by omega)
    · simp only [if_neg h]
theorem blocksR_app (m l s : List Int) (n : Nat) (h : 64 * n ≤ m.length) : blocksR (m ++ l) s n = blocksR m s n := by
  induction n with
  | zero => rfl
  | succ n ih =>
    simp only [blocksR, ih (by omega), mixV]
    rw [schedR_app _ _ _ _ (by omega)]
theorem mixV_drop (s m : List Int) (q a : Nat) : mixV s (m.drop q) a = mixV s m (q + a) := by
  have hw : ∀ p, wordAt (m.drop q) p = wordAt m (q + p) := fun p => by
    simp only [wordAt, getD_drop', Nat.add_assoc]
  have hs : ∀ t, schedR (m.drop q) a t = schedR m (q + a) t := fun t => by
    induction t with
    | zero => rfl
    | succ t ih =>
      simp only [schedR, ih]
      congr 1
      simp only [schedVal, hw, Nat.add_assoc]
  simp only [mixV, hs]
theorem addR_len (x s : List Int) (i : Nat) : (addR x s i).length = s.length := by
  induction i with
  | zero => rfl
  | succ i ih => simp [addR, ih]
theorem mixV_len (s m : List Int) (a : Nat) : (mixV s m a).length = s.length := addR_len _ _ _
theorem blocksR_len (m s : List Int) (n : Nat) : (blocksR m s n).length = s.length := by
  induction n with
  | zero => rfl
  | succ n ih => rw [blocksR, mixV_len, ih]
end Go.Proofs.YtpeelghbhihgkaaDoor.T
namespace Go.Proofs.YtpeelghbhihgkaaDoor.T
open Go Go.Proofs Go.Proofs.YtpeelghbhihgkaaDoor.K
set_option linter.unusedVariables false
set_option linter.unusedSimpArgs false
def WIn (w : digestWriter) (m : List Int) : Prop := w.n = m.length ∧ w.rest = m.drop (64 * (m.length / 64)) ∧ (64 ≤ m.length → w.s = blocksR m iv0 (m.length / 64))
theorem clone_eq (xs : List Int) (h : xs.length ≤ 140737488355328) : bytes_Clone.f xs = some xs := by
  unfold bytes_Clone.f
  rw [if_pos h]
theorem state_eq {w : digestWriter} {m : List Int} (h : WIn w m) : digest_Writer_state.f w = some (blocksR m iv0 (m.length / 64)) := by
  obtain ⟨h1, h2, h3⟩ := h
  simp only [digest_Writer_state.f, digest_begin.f, Option.bind_some, h1]
  by_cases hc : m.length < 64
  · rw [if_pos (by omega), Nat.div_eq_of_lt hc]
    rfl
  · rw [if_neg (by omega), h3 (by omega)]
theorem write_eq {w : digestWriter} {m b : List Int} (h : WIn w m) (hb : m.length + b.length ≤ 1000000) : ∃ w', digest_Writer_Write.f w b = some w' ∧ WIn w' (m ++ b) := by
  have hs := state_eq h
  obtain ⟨h1, h2, h3⟩ := h
  generalize hq : m.length / 64 = q at hs h2
  have hq1 : 64 * q ≤ m.length := by omega
  have hR : w.rest ++ b = (m ++ b).drop (64 * q) := by rw [h2, List.drop_append_of_le_length hq1]
  have hRl : (w.rest ++ b).length = m.length + b.length - 64 * q := by rw [hR]; simp
  generalize hRe : w.rest ++ b = R at hR hRl
  generalize hc : R.length / 64 = c
  have hloop : loopO digest_Writer_Write.s0 (0, blocksR m iv0 q, R) = some (((64 * c : Nat) : Int), blocksR (m ++ b) iv0 (q + c), R) := by
    refine loop_run (fun i => (((64 * i : Nat) : Int), blocksR (m ++ b) iv0 (q + i), R)) c ?_ (fun i hi => ?_) ?_
    · rw [Nat.add_zero, blocksR_app _ _ _ _ hq1]; rfl
    · simp only [digest_Writer_Write.s0]
      have e : IntKind.i64.wrap (((64 * i : Nat) : Int) + 64) = ((64 * i + 64 : Nat) : Int) := by rw [w64 (by omega) (by omega)]; omega
      rw [e, if_pos (by omega), if_pos (by omega), Int.toNat_natCast, Int.toNat_natCast, mix_eq _ _ (by simp; omega)]
      simp only [Option.bind_some]
      rw [mixV_in, hR, mixV_drop, ← Nat.mul_add]
      rfl
    · simp only [digest_Writer_Write.s0]
      rw [w64 (by omega) (by omega), if_neg (by omega)]
  refine ⟨⟨blocksR (m ++ b) iv0 (q + c), R.drop (64 * c), m.length + b.length⟩, ?_, by simp, ?_, fun _ => ?_⟩
  · simp only [digest_Writer_Write.f]
    have hs' : digest_Writer_state.f ⟨w.s, w.rest, w.n⟩ = some (blocksR m iv0 q) := hs
    have hw : w.rest.length + b.length = R.length := by rw [← hRe, List.length_append]
    rw [hs', hRe, hw]
    simp only [Option.bind_some]
    rw [if_pos (by omega), hloop]
    simp only [Option.bind_some]
    rw [if_pos (by omega), Int.toNat_natCast, Int.toNat_natCast, List.take_length, clone_eq _ (by simp; omega)]
    simp only [Option.bind_some]
    rw [h1, w64 (by omega) (by omega)]
  · have : 64 * ((m ++ b).length / 64) = 64 * q + 64 * c := by rw [List.length_append]; omega
    rw [this, hR, List.drop_drop]
  · have : (m ++ b).length / 64 = q + c := by rw [List.length_append]; omega
    rw [this]
theorem set_next {α : Type} (f : Nat → α) (n j : Nat) (z : α) (h : j < n) : ((List.range j).map f ++ List.replicate (n - j) z).set j (f j) = (List.range (j + 1)).map f ++ List.replicate (n - (j + 1)) z := by
  obtain ⟨k, hk⟩ : ∃ k, n - j = k + 1 := ⟨n - j - 1, by omega⟩
  have hk' : n - (j + 1) = k := by omega
  rw [hk, hk', List.set_append_right _ _ (by simp), List.range_succ, List.map_append, List.append_assoc]
  simp [List.replicate_succ]
theorem zeros_loop (step : List Int → Option (List Int ⊕ List Int)) (hs : ∀ l, step l = (if (Int.tmod (l.length : Int) 64) ≠ 56 then (if l.length + 1 ≤ 140737488355328 then some (.inl (l ++ ([0] : List Int))) else none) else some (.inr l)))
    (l : List Int) (h : l.length ≤ 2000000) : loopO step l = some (l ++ List.replicate (zs l.length) 0) := by
  refine loop_run (fun i => l ++ List.replicate i 0) (zs l.length) (by simp) (fun i hi => ?_) ?_
  · rw [hs, if_pos ?_, if_pos (by simp [zs] at hi ⊢; omega)]
    · simp [List.replicate_succ', List.append_assoc]
    · rw [List.length_append, List.length_replicate, Int.tmod_eq_emod_of_nonneg (by omega)]
      simp only [zs] at hi
      omega
  · rw [hs, if_neg ?_]
    rw [List.length_append, List.length_replicate, Int.tmod_eq_emod_of_nonneg (by omega)]
    simp only [zs]
    omega
theorem range_map_succ {α : Type} (f : Nat → α) (i : Nat) : (List.range (i + 1)).map f = (List.range i).map f ++ [f i] := by rw [List.range_succ, List.map_append]; rfl
theorem lenB_digest (n i : Nat) (hn : n ≤ 1000000) (hi : i < 8) : IntKind.u8.wrap (sR .u64 (sL .u64 (IntKind.u64.wrap (n : Int)) 3) (IntKind.i64.wrap (8 * (7 - (i : Int))))) = lenB n i := by
  have e1 : sL .u64 (IntKind.u64.wrap (n : Int)) 3 = IntKind.u64.wrap (8 * (n : Int)) := by
    rw [wu64 (by omega) (by omega)]
    simp only [sL, show (3 : Int).toNat = 3 from rfl]
    rw [show ((2 : Int) ^ (min 3 IntKind.u64.bits)) = 8 from rfl, Int.mul_comm]
  rw [e1, w64 (by omega) (by omega)]
  rfl
theorem padR_len (m : List Int) : (padR m).length = m.length + 1 + zs (m.length + 1) + 8 := by
  simp [padR]; omega
theorem padR_mod (m : List Int) : (padR m).length % 64 = 0 := by
  rw [padR_len]; simp only [zs]; omega
theorem out_eq4 (s : List Int) (i : Nat) (hi : i < 8) : loopO (digest_Writer_Sum.s4 s (i : Int)) (0, (List.range (4 * i)).map (outB s) ++ List.replicate (32 - 4 * i) 0) = some ((List.range (4 * (i + 1))).map (outB s) ++ List.replicate (32 - 4 * (i + 1)) 0) := by
  refine loop_run (fun k => ((k : Int), (List.range (4 * i + k)).map (outB s) ++ List.replicate (32 - (4 * i + k)) 0)) 4 (by simp) (fun k hk => ?_) ?_
  · simp only [digest_Writer_Sum.s4]
    have e1 : IntKind.i64.wrap (24 - IntKind.i64.wrap (8 * (k : Int))) = 24 - 8 * (k : Int) := by
      rw [w64 (x := 8 * (k : Int)) (by omega) (by omega), w64 (by omega) (by omega)]
    have e2 : IntKind.i64.wrap (IntKind.i64.wrap (4 * (i : Int)) + (k : Int)) = ((4 * i + k : Nat) : Int) := by
      rw [w64 (x := 4 * (i : Int)) (by omega) (by omega), w64 (by omega) (by omega)]; omega
    rw [if_pos (by omega), e1, e2, if_pos (by omega), if_pos (by omega), wadd1 k (by omega), Int.toNat_natCast, Int.toNat_natCast]
    have e3 : IntKind.u8.wrap (sR .u32 (s.getD i 0) (24 - 8 * (k : Int))) = outB s (4 * i + k) := by
      have a1 : (4 * i + k) / 4 = i := by omega
      have a2 : (4 * i + k) % 4 = k := by omega
      simp only [outB, a1, a2]
    rw [e3, set_next _ _ _ _ (by omega)]
    rfl
  · simp only [digest_Writer_Sum.s4]
    rw [if_neg (by decide)]
    rfl
theorem out_eq (s : List Int) : loopO (digest_Writer_Sum.s3 s) (0, List.replicate 32 0) = some (outL s) := by
  refine loop_run (fun i => ((i : Int), (List.range (4 * i)).map (outB s) ++ List.replicate (32 - 4 * i) 0)) 8 (by simp) (fun i hi => ?_) ?_
  · simp only [digest_Writer_Sum.s3]
    rw [if_pos (by omega), if_pos (by omega), out_eq4 s i hi]
    simp only [Option.bind_some]
    rw [wadd1 i (by omega)]
  · simp only [digest_Writer_Sum.s3]
    rw [if_neg (by decide)]
    rfl
theorem sum_eq' {w : digestWriter} {m : List Int} (h : WIn w m) (hb : m.length ≤ 1000000) : digest_Writer_Sum.f w = some (sha m) := by
  have hs := state_eq h
  obtain ⟨h1, h2, h3⟩ := h
  generalize hq : m.length / 64 = q at hs h2
  have hq1 : 64 * q ≤ m.length := by omega
  have hrl : w.rest.length = m.length - 64 * q := by rw [h2]; simp
  have hz : zs (w.rest ++ [128]).length = zs (m.length + 1) := by simp only [List.length_append, hrl, zs, List.length_cons, List.length_nil]; omega
  have hz64 : zs (m.length + 1) < 64 := by simp only [zs]; omega
  have hC : w.rest ++ [128] ++ List.replicate (zs (m.length + 1)) 0 ++ (List.range 8).map (lenB m.length) = (padR m).drop (64 * q) := by
    rw [h2, padR, List.drop_append_of_le_length hq1]
    simp only [List.append_assoc]
  have hl1 : loopO (digest_Writer_Sum.s1 w) (w.rest ++ [128] ++ List.replicate (zs (m.length + 1)) 0, 7) = some ((padR m).drop (64 * q)) := by
    refine loop_run (fun i => (w.rest ++ [128] ++ List.replicate (zs (m.length + 1)) 0 ++ (List.range i).map (lenB m.length), 7 - (i : Int))) 8 (by simp) (fun i hi => ?_) ?_
    · simp only [digest_Writer_Sum.s1]
      rw [if_pos (by omega), if_pos (by rw [w64 (by omega) (by omega)]; omega), if_pos (by simp; omega), h1, lenB_digest _ _ hb hi, w64 (by omega) (by omega)]
      congr 2
      rw [range_map_succ, ← List.append_assoc]
      congr 1
      omega
    · simp only [digest_Writer_Sum.s1]
      rw [if_neg (by decide), hC]
  have hpl := padR_len m
  have hpm := padR_mod m
  have hCl : ((padR m).drop (64 * q)).length = (padR m).length - 64 * q := by simp
  generalize hc : ((padR m).drop (64 * q)).length / 64 = c at *
  have hl2 : loopO digest_Writer_Sum.s2 ((padR m).drop (64 * q), 0, blocksR m iv0 q) = some ((padR m).drop (64 * q), blocksR (padR m) iv0 (q + c)) := by
    refine loop_run (fun i => ((padR m).drop (64 * q), ((64 * i : Nat) : Int), blocksR (padR m) iv0 (q + i))) c ?_ (fun i hi => ?_) ?_
    · rw [Nat.add_zero]
      have : blocksR (padR m) iv0 q = blocksR m iv0 q := blocksR_app _ _ _ _ hq1
      rw [this]; rfl
    · simp only [digest_Writer_Sum.s2]
      have e : IntKind.i64.wrap (((64 * i : Nat) : Int) + 64) = ((64 * i + 64 : Nat) : Int) := by rw [w64 (by omega) (by omega)]; omega
      rw [if_pos (by omega), e, if_pos (by omega), Int.toNat_natCast, Int.toNat_natCast, mix_eq _ _ (by simp; omega)]
      simp only [Option.bind_some]
      rw [mixV_in, mixV_drop, ← Nat.mul_add]
      rfl
    · simp only [digest_Writer_Sum.s2]
      rw [if_neg (by omega)]
  simp only [digest_Writer_Sum.f]
  have hs' : digest_Writer_state.f ⟨w.s, w.rest, w.n⟩ = some (blocksR m iv0 q) := hs
  rw [clone_eq _ (by omega)]
  simp only [Option.bind_some]
  rw [if_pos (by omega), zeros_loop digest_Writer_Sum.s0 (fun l => rfl) _ (by simp; omega), hz]
  simp only [Option.bind_some]
  rw [hl1]
  simp only [Option.bind_some]
  rw [hs']
  simp only [Option.bind_some]
  rw [hl2]
  simp only [Option.bind_some]
  rw [out_eq]
  simp only [Option.bind_some, sha]
  congr 3
  omega
theorem wIn0 (s : List Int) : WIn ⟨s, [], 0⟩ [] := ⟨rfl, rfl, fun h => by simp at h⟩
theorem sha_eq (m : List Int) (hb : m.length ≤ 1000000) : digest_Sha.f m = some (sha m) := by
  obtain ⟨w', e, hw⟩ := write_eq (wIn0 (List.replicate 8 0)) (b := m) (by simpa using hb)
  simp only [digest_Sha.f, e, Option.bind_some]
  have : digest_Writer_Sum.f ⟨w'.s, w'.rest, w'.n⟩ = some (sha m) := sum_eq' hw (by simpa using hb)
  rw [this]
  rfl
theorem outL_len (s : List Int) : (outL s).length = 32 := by simp [outL]
theorem sha_len (m : List Int) : (sha m).length = 32 := outL_len _
end Go.Proofs.YtpeelghbhihgkaaDoor.T
namespace Go.Proofs.YtpeelghbhihgkaaDoor.T
open Go Go.Proofs Go.Proofs.YtpeelghbhihgkaaDoor.K
set_option linter.unusedVariables false
set_option linter.unusedSimpArgs false
theorem ref_sched_step (m : List Int) (a : Nat) (ha : a + 64 ≤ m.length) (hm : m.length ≤ 3000000) (w : List Int) (hw : w.length = 64) (i : Nat) (hi : i < 64) : sargassoref1_Sha.s3 m (a : Int) ((i : Int), w) = some (.inl (((i + 1 : Nat) : Int), w.set i (schedVal m a w i))) := by
  simp only [sargassoref1_Sha.s3, hw]
  rw [if_pos (by omega)]
  by_cases h16 : i < 16
  · have e0 : IntKind.i64.wrap ((a : Int) + IntKind.i64.wrap (4 * (i : Int))) = ((a + 4 * i : Nat) : Int) := by
      rw [wmul4 i (by omega), w64 (by omega) (by omega)]; omega
    have e1 : IntKind.i64.wrap (((a + 4 * i : Nat) : Int) + 1) = ((a + 4 * i + 1 : Nat) : Int) := by rw [w64 (by omega) (by omega)]; omega
    have e2 : IntKind.i64.wrap (((a + 4 * i : Nat) : Int) + 2) = ((a + 4 * i + 2 : Nat) : Int) := by rw [w64 (by omega) (by omega)]; omega
    have e3 : IntKind.i64.wrap (((a + 4 * i : Nat) : Int) + 3) = ((a + 4 * i + 3 : Nat) : Int) := by rw [w64 (by omega) (by omega)]; omega
    rw [if_pos (by omega), e0, e1, e2, e3, if_pos (by omega), if_pos (by omega), if_pos (by omega), if_pos (by omega), if_pos (by omega)]
    simp only [Option.bind_some, Int.toNat_natCast]
    rw [wadd1 i (by omega)]
    simp only [schedVal, if_pos h16, wordAt]
  · have e2 := wsub i 2 (by omega) (by omega)
    have e7 := wsub i 7 (by omega) (by omega)
    have e15 := wsub i 15 (by omega) (by omega)
    have e16 := wsub i 16 (by omega) (by omega)
    simp only [show ((2 : Nat) : Int) = 2 from rfl, show ((7 : Nat) : Int) = 7 from rfl, show ((15 : Nat) : Int) = 15 from rfl, show ((16 : Nat) : Int) = 16 from rfl] at e2 e7 e15 e16
    rw [if_neg (by omega), e2, e7, e15, e16, if_pos (by omega), if_pos (by omega), if_pos (by omega), if_pos (by omega)]
    simp only [Int.toNat_natCast, right_f _ 17 (by omega) (by omega), right_f _ 19 (by omega) (by omega), right_f _ 7 (by omega) (by omega), right_f _ 18 (by omega) (by omega), Option.bind_some]
    rw [if_pos (by omega), wadd1 i (by omega)]
    simp only [Option.bind_some, schedVal, if_neg h16, sg0, sg1, wl, wr]
theorem ref_sched (m : List Int) (a : Nat) (ha : a + 64 ≤ m.length) (hm : m.length ≤ 3000000) : loopO (sargassoref1_Sha.s3 m (a : Int)) (0, List.replicate ((64 : Int).toNat) 0) = some (schedR m a 64) := by
  refine loop_run (fun i => ((i : Int), schedR m a i)) 64 rfl (fun i hi => ?_) ?_
  · rw [ref_sched_step m a ha hm _ (schedR_len _ _ _) i hi]
    rfl
  · simp only [sargassoref1_Sha.s3]
    rw [if_neg (by decide)]
theorem roundR_len (w s : List Int) (hs : s.length = 8) (i : Nat) : (roundR w s i).length = 8 := by
  cases i with
  | zero => exact hs
  | succ i => rfl
theorem kc_len : kc.length = 64 := by kernel_rfl
theorem k1_eq : sargassoref1_k.lit0 = kc := by kernel_rfl
theorem ref_round (w s : List Int) (hs : s.length = 8) (hw : w.length = 64) : loopO (sargassoref1_Sha.s4 kc w) (([] : List Int) ++ s, 0) = some (roundR w s 64) := by
  refine loop_run (fun i => (roundR w s i, (i : Int))) 64 rfl (fun i hi => ?_) ?_
  · have hl := roundR_len w s hs i
    have hk := kc_len
    simp only [sargassoref1_Sha.s4, hl]
    rw [if_pos (by omega), if_pos (by decide), if_pos (by decide), if_pos (by decide)]
    simp only [right_f _ 6 (by omega) (by omega), right_f _ 11 (by omega) (by omega), right_f _ 25 (by omega) (by omega), right_f _ 2 (by omega) (by omega), right_f _ 13 (by omega) (by omega), right_f _ 22 (by omega) (by omega), Option.bind_some, Int.toNat_natCast]
    rw [if_pos (by decide), if_pos (by decide), if_pos (by omega), if_pos (by omega), if_pos (by decide), if_pos (by decide), if_pos (by decide), wadd1 i (by omega)]
    simp only [roundR, rstep, rt1, rt2, wl, wr, show (0 : Int).toNat = 0 from rfl, show (1 : Int).toNat = 1 from rfl, show (2 : Int).toNat = 2 from rfl, show (3 : Int).toNat = 3 from rfl, show (4 : Int).toNat = 4 from rfl, show (5 : Int).toNat = 5 from rfl, show (6 : Int).toNat = 6 from rfl, show (7 : Int).toNat = 7 from rfl]
  · simp only [sargassoref1_Sha.s4]
    rw [if_neg (by decide)]
theorem ref_add (x s : List Int) (hs : s.length = 8) (hx : x.length = 8) : loopO (sargassoref1_Sha.s5 x) (0, s) = some (addR x s 8) := by
  refine loop_run (fun i => ((i : Int), addR x s i)) 8 rfl (fun i hi => ?_) ?_
  · have hl := addR_len x s i
    simp only [sargassoref1_Sha.s5, hl, hs, hx]
    rw [if_pos (by omega), if_pos (by omega), if_pos (by omega), wadd1 i (by omega)]
    simp only [Int.toNat_natCast, addR]
  · simp only [sargassoref1_Sha.s5]
    rw [if_neg (by decide)]
theorem ref_out (s : List Int) (hs : s.length = 8) : loopO (sargassoref1_Sha.s6 s) (0, List.replicate 32 0) = some (outL s) := by
  refine loop_run (fun i => ((i : Int), (List.range i).map (outB s) ++ List.replicate (32 - i) 0)) 32 (by simp) (fun i hi => ?_) ?_
  · simp only [sargassoref1_Sha.s6, hs]
    have e1 : IntKind.i64.wrap (Int.tdiv (i : Int) 4) = ((i / 4 : Nat) : Int) := by
      rw [Int.tdiv_eq_ediv_of_nonneg (by omega), w64 (by omega) (by omega)]; omega
    have e2 : Int.tmod (i : Int) 4 = ((i % 4 : Nat) : Int) := by rw [Int.tmod_eq_emod_of_nonneg (by omega)]; omega
    have e3 : IntKind.u64.wrap (IntKind.i64.wrap (24 - IntKind.i64.wrap (8 * ((i % 4 : Nat) : Int)))) = 24 - 8 * ((i % 4 : Nat) : Int) := by
      rw [w64 (x := 8 * ((i % 4 : Nat) : Int)) (by omega) (by omega), w64 (by omega) (by omega), wu64 (by omega) (by omega)]
    rw [if_pos (by omega), e1, e2, e3, if_pos (by omega), if_pos (by omega), if_pos (by omega), wadd1 i (by omega), Int.toNat_natCast, Int.toNat_natCast]
    have e4 : IntKind.u8.wrap (sR .u32 (s.getD (i / 4) 0) (24 - 8 * ((i % 4 : Nat) : Int))) = outB s i := rfl
    rw [e4, set_next _ _ _ _ (by omega)]
  · simp only [sargassoref1_Sha.s6]
    rw [if_neg (by decide)]
    rfl
theorem lenB_ref (n i : Nat) (hn : n ≤ 1000000) (hi : i < 8) : IntKind.u8.wrap (sR .u64 (IntKind.u64.wrap (8 * IntKind.u64.wrap (n : Int))) (IntKind.u64.wrap (IntKind.i64.wrap (8 * (7 - (i : Int)))))) = lenB n i := by
  rw [w64 (by omega) (by omega), wu64 (x := (n : Int)) (by omega) (by omega), wu64 (x := 8 * (7 - (i : Int))) (by omega) (by omega)]
  rfl
theorem ref_pad (m : List Int) (hb : m.length ≤ 1000000) : loopO (sargassoref1_Sha.s1 m) (m ++ [128] ++ List.replicate (zs (m.length + 1)) 0, 7) = some (padR m) := by
  have hz64 : zs (m.length + 1) < 64 := by simp only [zs]; omega
  refine loop_run (fun i => (m ++ [128] ++ List.replicate (zs (m.length + 1)) 0 ++ (List.range i).map (lenB m.length), 7 - (i : Int))) 8 (by simp) (fun i hi => ?_) ?_
  · simp only [sargassoref1_Sha.s1]
    rw [if_pos (by omega), if_pos (by rw [w64 (by omega) (by omega), wu64 (by omega) (by omega)]; omega), if_pos (by simp; omega), lenB_ref _ _ hb hi, w64 (by omega) (by omega)]
    congr 2
    rw [range_map_succ, ← List.append_assoc]
    congr 1
    omega
  · simp only [sargassoref1_Sha.s1]
    rw [if_neg (by decide)]
    simp only [padR, List.append_assoc]
theorem ref_block (M s : List Int) (a : Nat) (hs : s.length = 8) (ha : a + 64 ≤ M.length) (hM : M.length ≤ 3000000) : sargassoref1_Sha.s2 M kc ((a : Int), s) = some (.inl (IntKind.i64.wrap ((a : Int) + 64), mixV s M a)) := by
  simp only [sargassoref1_Sha.s2]
  rw [if_pos (by omega), if_pos (by decide), ref_sched M a ha hM]
  simp only [Option.bind_some]
  rw [if_pos (by omega), ref_round _ _ hs (schedR_len _ _ _)]
  simp only [Option.bind_some]
  rw [ref_add _ _ hs (roundR_len _ _ hs _)]
  simp only [Option.bind_some, mixV]
theorem ref_blocks (M : List Int) (hM : M.length ≤ 3000000) (h64 : M.length % 64 = 0) : loopO (sargassoref1_Sha.s2 M kc) (0, iv0) = some (blocksR M iv0 (M.length / 64)) := by
  refine loop_run (fun i => (((64 * i : Nat) : Int), blocksR M iv0 i)) (M.length / 64) (by simp only [Nat.mul_zero, blocksR]; rfl) (fun i hi => ?_) ?_
  · have hbl : (blocksR M iv0 i).length = 8 := blocksR_len _ _ _
    rw [ref_block M _ (64 * i) hbl (by omega) hM]
    have e : IntKind.i64.wrap (((64 * i : Nat) : Int) + 64) = ((64 * (i + 1) : Nat) : Int) := by rw [w64 (by omega) (by omega)]; omega
    rw [e, blocksR]
  · simp only [sargassoref1_Sha.s2]
    rw [if_neg (by omega)]
theorem ref_sha_eq (m : List Int) (hb : m.length ≤ 1000000) : sargassoref1_Sha.f m = some (sha m) := by
  have hz : zs (m ++ [128]).length = zs (m.length + 1) := by simp
  have hz64 : zs (m.length + 1) < 64 := by simp only [zs]; omega
  have hpl := padR_len m
  have hl2 := ref_blocks (padR m) (by omega) (padR_mod m)
  unfold sargassoref1_Sha.f
  rw [bytes_eq m (by omega), Option.bind_some, if_pos (by omega), zeros_loop sargassoref1_Sha.s0 (fun l => rfl) _ (by simp; omega), hz, Option.bind_some, ref_pad m hb, Option.bind_some]
  unfold sargassoref1_k.f
  rw [k1_eq, Option.bind_some]
  unfold iv0 at hl2
  rw [hl2, Option.bind_some, ref_out _ (blocksR_len _ _ _), Option.bind_some]
  rfl
end Go.Proofs.YtpeelghbhihgkaaDoor.T
namespace Go.Proofs.YtpeelghbhihgkaaDoor.T
open Go Go.Proofs Go.Proofs.YtpeelghbhihgkaaDoor.K
set_option linter.unusedVariables false
set_option linter.unusedSimpArgs false
def Hs (l : List (List Int)) : Prop := ∀ x ∈ l, x.length = 32
theorem Hs.at {l : List (List Int)} (h : Hs l) {i : Nat} (hi : i < l.length) : (l.getD i []).length = 32 := by
  have e : l.getD i [] = l[i] := by simp [List.getD, hi]
  rw [e]; exact h _ (List.getElem_mem hi)
end Go.Proofs.YtpeelghbhihgkaaDoor.T
namespace Go.Proofs.YtpeelghbhihgkaaDoor.T
open Go Go.Proofs Go.Proofs.YtpeelghbhihgkaaDoor.K
set_option linter.unusedVariables false
set_option linter.unusedSimpArgs false
def lb (a m : Nat) : List Int := (List.range m).map fun j => ((a / 2 ^ (8 * j) % 256 : Nat) : Int)
structure HN where
  v : Nat
  p : List Int
  r : List Int
  t : Nat
  w : Nat
  n : Nat
deriving DecidableEq
def HN.h (h : HN) : Head := ⟨h.v, h.p, h.r, h.t, h.w, h.n⟩
def hb (h : HN) : List Int := lb h.v 4 ++ (h.p ++ (h.r ++ (lb h.t 4 ++ (lb h.w 4 ++ lb h.n 4))))
end Go.Proofs.YtpeelghbhihgkaaDoor.T
namespace Go.Proofs.YtpeelghbhihgkaaDoor.T
open Go Go.Proofs Go.Proofs.YtpeelghbhihgkaaDoor.K
set_option linter.unusedVariables false
set_option linter.unusedSimpArgs false
def Bs (l : List Int) : Prop := ∀ x ∈ l, InR .u8 x
theorem Bs.app {l m : List Int} (h : Bs l) (k : Bs m) : Bs (l ++ m) := fun x hx => (List.mem_append.1 hx).elim (h x) (k x)
theorem Bs.take {l : List Int} (h : Bs l) (n : Nat) : Bs (l.take n) := fun x hx => h x (List.mem_of_mem_take hx)
theorem Bs.drop {l : List Int} (h : Bs l) (n : Nat) : Bs (l.drop n) := fun x hx => h x (List.mem_of_mem_drop hx)
def vl : List Int → Nat
  | [] => 0
  | b :: l => b.toNat + 256 * vl l
def nx (n : Nat) (s : List Int × Er) : List Int × (List Int × Er) :=
  if s.2 ≠ .b 0 then ([], s) else if s.1.length < n then ([], (s.1, xErrEnd)) else (s.1.take n, (s.1.drop n, s.2))
def wh (n : Nat) (s : List Int × Er) : Nat × (List Int × Er) := (vl (nx n s).1, (nx n s).2)
def ln (n : Nat) : Nat := if n < 253 then 1 else if n < 65536 then 3 else if n < 4294967296 then 5 else 9
def my (n : Nat) : Nat := if n = 253 then 2 else if n = 254 then 4 else if n = 255 then 8 else 0
def nm (most : Int) (s : List Int × Er) : Nat × (List Int × Er) :=
  let a := wh 1 s
  let b := if 0 < my a.1 then wh (my a.1) a.2 else a
  if b.2.2 ≠ .b 0 then (0, b.2) else if ln b.1 ≠ 1 + my a.1 then (0, (b.2.1, xErrShape)) else if most < (b.1 : Int) then (0, (b.2.1, xErrMany)) else b
def by_ (n : Int) (s : List Int × Er) : List Int × (List Int × Er) := if n ≤ 0 then ([], s) else nx n.toNat s
end Go.Proofs.YtpeelghbhihgkaaDoor.T
namespace Go.Proofs.YtpeelghbhihgkaaDoor.T
open Go Go.Proofs Go.Proofs.YtpeelghbhihgkaaDoor.K
set_option linter.unusedVariables false
set_option linter.unusedSimpArgs false
abbrev Stp (α : Type) := List Int × Er → α × (List Int × Er)
section
variable {α β : Type}
def ret (x : α) : Stp α := fun s => (x, s)
end
end Go.Proofs.YtpeelghbhihgkaaDoor.T
namespace Go.Proofs.YtpeelghbhihgkaaDoor.T
open Go Go.Proofs Go.Proofs.YtpeelghbhihgkaaDoor.K
set_option linter.unusedVariables false
set_option linter.unusedSimpArgs false
structure InOk (i : In) : Prop where
  tx : i.From.Tx.length = 32
  txb : Bs i.From.Tx
  n : InR .u32 i.From.N
  key : Bs i.Key
  seq : InR .u32 i.Seq
structure OutOk (o : Out) : Prop where
  val : InR .u64 o.Value
  lock : o.Lock.length = 32
  lockb : Bs o.Lock
structure TxOk (t : Tx) : Prop where
  v : InR .u32 t.Version
  ins : ∀ i ∈ t.Ins, InOk i
  outs : ∀ o ∈ t.Outs, OutOk o
  t : InR .u32 t.Time
structure Few (a b : Nat) (t : Tx) : Prop where
  ins : t.Ins.length ≤ a
  outs : t.Outs.length ≤ a
  key : ∀ i ∈ t.Ins, i.Key.length ≤ b
theorem Few.mono {a b c d : Nat} {t : Tx} (h : Few a b t) (h1 : a ≤ c) (h2 : b ≤ d) : Few c d t := ⟨Nat.le_trans h.ins h1, Nat.le_trans h.outs h1, fun i hi => Nat.le_trans (h.key i hi) h2⟩
theorem getD_mem {α : Type} {l : List α} {d : α} {i : Nat} (h : i < l.length) : l.getD i d ∈ l := by rw [gd l d h]; exact List.getElem_mem h
end Go.Proofs.YtpeelghbhihgkaaDoor.T
namespace Go.Proofs.YtpeelghbhihgkaaDoor.T
open Go Go.Proofs Go.Proofs.YtpeelghbhihgkaaDoor.K
set_option linter.unusedVariables false
set_option linter.unusedSimpArgs false
noncomputable instance (a b : Nat) (t : Tx) : Decidable (Few a b t) := Classical.propDecidable _
def nullP : Point := ⟨List.replicate 32 0, 4294967295⟩
end Go.Proofs.YtpeelghbhihgkaaDoor.T
namespace Go.Proofs.YtpeelghbhihgkaaDoor.T
open Go Go.Proofs Go.Proofs.YtpeelghbhihgkaaDoor.K
set_option linter.unusedVariables false
def goSum : Int → List Int → Int × Bool
  | s, [] => (s, true)
  | s, x :: r => if 2100000000000000 < s + x then (0, false) else goSum (s + x) r
theorem sum_loop (xs : List Int) (h : xs.length ≤ 140737488355328) (hx : ∀ x ∈ xs, InR .u64 x) : ∀ (r pre : List Int) (s : Int), xs = pre ++ r → 0 ≤ s → s ≤ 2100000000000000 →
    loopO (compact_Sum.s0 xs) (s, (pre.length : Int)) = some (goSum s r)
  | [], pre, s, e, _, _ => by
    obtain rfl : xs = pre := by simpa using e
    exact loopO_inr (by simp [compact_Sum.s0, goSum])
  | x :: r, pre, s, e, h0, h1 => by
    have hr : InR .u64 x := hx x (by simp [e])
    obtain ⟨a, b⟩ := hr
    have h3 := mid_lt pre r x
    have ih := sum_loop xs h hx r (pre ++ [x]) (s + x) (by simp [e]) (by omega)
    subst e
    unfold goSum
    by_cases hc : 2100000000000000 < s + x
    · rw [if_pos hc]
      refine loopO_inr ?_
      simp only [compact_Sum.s0, if_pos h3.2, if_pos h3, getD_mid]
      rw [if_pos (by rw [wu64 (by omega) (by omega)]; omega)]
    · rw [if_neg hc, loopO_inl (s' := (s + x, ((pre ++ [x]).length : Int)))]
      · exact ih (by omega)
      · simp only [compact_Sum.s0, if_pos h3.2, if_pos h3, getD_mid]
        rw [if_neg (by rw [wu64 (by omega) (by omega)]; omega), wu64 (by omega) (by omega), mid_next pre r x h]
theorem sum_eq (xs : List Int) (h : xs.length ≤ 140737488355328) (hx : ∀ x ∈ xs, InR .u64 x) : compact_Sum.f xs = some (goSum 0 xs) :=
  sum_loop xs h hx xs [] 0 rfl (by omega) (by omega)
theorem sum1_loop (xs : List Int) (h : xs.length ≤ 140737488355328) (hx : ∀ x ∈ xs, InR .u64 x) : ∀ (r pre : List Int) (s : Int), xs = pre ++ r → 0 ≤ s → s ≤ 2100000000000000 →
    loopO (sargassoref1_Sum.s0 xs) (s, (pre.length : Int)) = some (goSum s r)
  | [], pre, s, e, _, _ => by
    obtain rfl : xs = pre := by simpa using e
    exact loopO_inr (by simp [sargassoref1_Sum.s0, goSum])
  | x :: r, pre, s, e, h0, h1 => by
    have hr : InR .u64 x := hx x (by simp [e])
    obtain ⟨a, b⟩ := hr
    have h3 := mid_lt pre r x
    have ih := sum1_loop xs h hx r (pre ++ [x]) (s + x) (by simp [e]) (by omega)
    subst e
    unfold goSum
    by_cases hc : 2100000000000000 < s + x
    · rw [if_pos hc]
      refine loopO_inr ?_
      simp only [sargassoref1_Sum.s0, if_pos h3.2, if_pos h3, getD_mid]
      by_cases hb : 2100000000000000 < x
      · rw [if_pos hb]; simp
      · rw [if_neg hb, wu64 (by omega) (by omega)]; simp [hc]
    · rw [if_neg hc, loopO_inl (s' := (s + x, ((pre ++ [x]).length : Int)))]
      · exact ih (by omega)
      · simp only [sargassoref1_Sum.s0, if_pos h3.2, if_pos h3, getD_mid]
        rw [if_neg (by omega), wu64 (by omega) (by omega), mid_next pre r x h]
        simp [hc]
theorem sum1_eq (xs : List Int) (h : xs.length ≤ 140737488355328) (hx : ∀ x ∈ xs, InR .u64 x) : sargassoref1_Sum.f xs = some (goSum 0 xs) :=
  sum1_loop xs h hx xs [] 0 rfl (by omega) (by omega)
end Go.Proofs.YtpeelghbhihgkaaDoor.T
namespace Go.Proofs.YtpeelghbhihgkaaDoor.T
open Go Go.Proofs Go.Proofs.YtpeelghbhihgkaaDoor.K
set_option linter.unusedVariables false
set_option linter.unusedSimpArgs false
theorem in_ok {μ : Store} {x : In} {c : List Value} (h : RIn μ x c) : InOk x := by
  obtain ⟨v0, _, h1, h2, h3, h4⟩ := h
  exact ⟨h1.1, h1.2, h2, fun y hy => slc_ints h3 y hy, h4⟩
theorem out_ok {μ : Store} {x : Out} {c : List Value} (h : ROut μ x c) : OutOk x := by
  obtain ⟨_, h1, h2⟩ := h
  exact ⟨h1, h2.1, h2.2⟩
theorem tx_ok {μ : Store} {x : Tx} {v0 v1 : Value} (h : TxW μ x v0 v1) : TxOk x := by
  obtain ⟨h1, ⟨c1, h2, _⟩, ⟨c2, h3, _⟩, h4⟩ := h
  exact ⟨h1, els_all h2 fun y c hc => in_ok hc, els_all h3 fun y c hc => out_ok hc, h4⟩
theorem values_eq (t : Tx) (hl : t.Outs.length ≤ 1000000) : tx_values.f t = some (t.Outs.map (·.Value)) := by
  simp only [tx_values.f]
  rw [show loopO (tx_values.s0 t) ([], 0) = _ from loop_run (step := tx_values.s0 t) (fun i => ((t.Outs.take i).map (·.Value), (i : Int))) t.Outs.length (r := t.Outs.map (·.Value)) rfl (fun i hi => by
    simp only [tx_values.s0, Int.toNat_natCast]
    rw [if_pos (by omega), if_pos (by omega), if_pos (by simp; omega), winc i (by omega), ← take_next t.Outs i default hi]
    simp) (by simp only [tx_values.s0]; rw [if_neg (by omega), List.take_length])]
  rfl
theorem values1_eq (t : Tx) (hl : t.Outs.length ≤ 1000000) : sargassoref1_Values.f t = some (t.Outs.map (·.Value)) := by
  simp only [sargassoref1_Values.f]
  rw [show loopO (sargassoref1_Values.s0 t) ([], 0) = _ from loop_run (step := sargassoref1_Values.s0 t) (fun i => ((t.Outs.take i).map (·.Value), (i : Int))) t.Outs.length (r := t.Outs.map (·.Value)) rfl (fun i hi => by
    simp only [sargassoref1_Values.s0, Int.toNat_natCast]
    rw [if_pos (by omega), if_pos (by omega), if_pos (by simp; omega), winc i (by omega), ← take_next t.Outs i default hi]
    simp) (by simp only [sargassoref1_Values.s0]; rw [if_neg (by omega), List.take_length])]
  rfl
def vs (t : Tx) : List Int := t.Outs.map (·.Value)
theorem vs_in {t : Tx} (h : TxOk t) : ∀ x ∈ vs t, InR .u64 x := fun x hx => by
  obtain ⟨o, ho, rfl⟩ := List.mem_map.1 hx
  exact (h.outs o ho).val
theorem txsum_eq {t : Tx} (h : TxOk t) (hl : t.Outs.length ≤ 1000000) : tx_Sum.f t = some (goSum 0 (vs t)) := by
  simp only [tx_Sum.f]
  rw [values_eq t hl, Option.bind_some, show t.Outs.map (·.Value) = vs t from rfl, sum_eq _ (by simp [vs]; omega) (vs_in h)]
  rfl
def isBase (t : Tx) : Prop := t.Ins.length = 1 ∧ (t.Ins.getD 0 default).From = nullP
instance (t : Tx) : Decidable (isBase t) := inferInstanceAs (Decidable (_ ∧ _))
def mn (t : Tx) : Prop := t.Ins.length = 0 ∨ 50 < t.Ins.length ∨ t.Outs.length = 0 ∨ 50 < t.Outs.length
instance (t : Tx) : Decidable (mn t) := inferInstanceAs (Decidable (_ ∨ _))
end Go.Proofs.YtpeelghbhihgkaaDoor.T
namespace Go.Proofs.YtpeelghbhihgkaaDoor.T
open Go Go.Proofs Go.Proofs.YtpeelghbhihgkaaDoor.K
set_option linter.unusedVariables false
set_option linter.unusedSimpArgs false
theorem reward8_eq {x0 x1 : Int} (h0 : InR .i64 x0) (h1 : InR .i64 x1) : sargassoref8_Reward.f x0 x1 = value_Reward.f x0 x1 := by
  obtain ⟨a, b⟩ := h0
  obtain ⟨c, d⟩ := h1
  unfold value_Reward.f sargassoref8_Reward.f
  by_cases h : x0 < 0
  · simp [h]
  by_cases h' : x1 < 1
  · simp [h, h']
  have hq : Int.tdiv x0 x1 = x0 / x1 := Int.tdiv_eq_ediv_of_nonneg (by omega)
  have q0 : 0 ≤ x0 / x1 := Int.ediv_nonneg (by omega) (by omega)
  have q1 : x0 / x1 ≤ x0 := Int.ediv_le_self _ (by omega)
  rw [hq, w64 (by omega) (by omega), wu64 (by omega) (by omega)]
theorem reward_some {x0 x1 : Int} (h0 : InR .i64 x0) (h1 : InR .i64 x1) : ∃ r, value_Reward.f x0 x1 = some r := ⟨_, reward_eq h0 h1⟩
theorem within_eq (x a b : Int) : sargassoref8_within.f x a b = some (decide (wi a x b)) := by
  simp only [sargassoref8_within.f]
  by_cases c : a ≤ x
  · rw [if_pos c, Option.bind_some]
    exact congrArg some (decide_eq_decide.2 ⟨fun h => ⟨c, h⟩, fun h => h.2⟩)
  · rw [if_neg c, Option.bind_some, decide_eq_false (fun h => c h.1)]
theorem and_if {p q : Prop} [Decidable p] [Decidable q] : (if decide p = true then some (decide q) else some false) = some (decide (p ∧ q)) := by
  by_cases c : p
  · rw [if_pos (decide_eq_true c)]
    exact congrArg some (decide_eq_decide.2 ⟨fun h => ⟨c, h⟩, fun h => h.2⟩)
  · rw [if_neg (by simp only [decide_eq_true_eq]; exact c), decide_eq_false (fun h => c h.1)]
theorem rules8_eq (x : Rules) : sargassoref8_Rules.f x = some (decide (inb x)) := by
  simp only [sargassoref8_Rules.f, within_eq, Option.bind_some, and_if]
  exact congrArg some (decide_eq_decide.2 Iff.rfl)
theorem same_at (k : Nat) (hk : k < 25) : sargassosee_Same.f (sl.getD k (.b 0)) ⟨101 + (k : Int), false, 0, false, 0⟩ = some true := by
  simp only [sargassosee_Same.f]
  rw [fault_at k hk, Option.bind_some, samefault_bare, decide_eq_true rfl]
  rfl
theorem same_shape : sargassosee_Same.f xErrShape ⟨102, false, 0, false, 0⟩ = some true := same_at 1 (by decide)
theorem same_value : sargassosee_Same.f xErrValue ⟨105, false, 0, false, 0⟩ = some true := same_at 4 (by decide)
theorem same_less : sargassosee_Same.f xErrLess ⟨117, false, 0, false, 0⟩ = some true := same_at 16 (by decide)
theorem same_none : sargassosee_Same.f (.b 0) ⟨0, false, 0, false, 0⟩ = some true := by
  simp [sargassosee_Same.f, sargassosee_Fault.f, sargassoref_None.f, sargassoref_SameFault.f]
theorem same_placed (i : Int) : sargassosee_Same.f (.pl i xErrKey) ⟨114, true, i, false, 0⟩ = some true := by
  have h : sargassosee_sentinel.f xErrKey = some 114 := sentinel_at 13 (by decide)
  have e1 : (Er.pl i xErrKey) ≠ .b 0 := fun h => by cases h
  have e2 : (Er.pl i xErrKey).isP = true := rfl
  have e3 : (Er.pl i xErrKey).err = xErrKey := rfl
  have e4 : (Er.pl i xErrKey).pos = i := rfl
  simp only [sargassosee_Same.f, sargassosee_Fault.f]
  rw [if_neg e1, if_pos e2, e3, e4, Option.bind_some, decide_eq_false (by decide), if_neg (by decide), if_neg (by decide), h]
  simp [sargassoref_Placed.f, sargassoref_SameFault.f]
def op (k l : List Int) : Prop := k.length ≤ 80 ∧ sha k = l
instance (k l : List Int) : Decidable (op k l) := inferInstanceAs (Decidable (_ ∧ _))
theorem opens_eq (k l : List Int) : spend_Opens.f k l = some (decide (op k l)) := by
  simp only [spend_Opens.f, spend_Lock.f]
  by_cases c : k.length ≤ 80
  · rw [if_pos (by omega), sha_eq _ (by omega)]
    simp only [Option.bind_some]
    exact congrArg some (decide_eq_decide.2 ⟨fun h => ⟨c, h⟩, fun h => h.2⟩)
  · rw [if_neg (by omega), Option.bind_some, decide_eq_false (fun h => c h.1)]
theorem opens1_eq (k l : List Int) (hl : l.length = 32) : sargassoref1_Opens.f k l = some (decide (op k l)) := by
  simp only [sargassoref1_Opens.f]
  by_cases c : k.length ≤ 80
  · rw [if_pos (by omega), ref_sha_eq _ (by omega), Option.bind_some, samehash_eq _ _ (sha_len _) hl]
    simp only [Option.bind_some]
    exact congrArg some (decide_eq_decide.2 ⟨fun h => ⟨c, h⟩, fun h => h.2⟩)
  · rw [if_neg (by omega), Option.bind_some, decide_eq_false (fun h => c h.1)]
def MOk (m : Money) : Prop := InR .u64 m.Value ∧ m.Lock.length = 32
theorem fee_end {t : Tx} (ok : TxOk t) (ho : t.Outs.length ≤ 20) {ms : List Money} (hm : ms.length = t.Ins.length) (s : List Int) (hs : s.length ≤ 20) (hin : ∀ x ∈ s, InR .u64 x) :
    ∃ r2 r3, value_Fee.s0 t ms (s, (t.Ins.length : Int)) = some (.inr r2) ∧ sargassoref8_Fee.s0 t ms (s, (t.Ins.length : Int)) = some (.inr r3) ∧ r2.1 = r3.1 ∧ sargassosee_Same.f r2.2 r3.2 = some true := by
  have e1 := sum_eq s (by omega) hin
  have e2 := sum1_eq s (by omega) hin
  have e3 := txsum_eq ok (by omega)
  have e4 := values1_eq t (by omega)
  have e5 := sum1_eq (vs t) (by simp [vs]; omega) (vs_in ok)
  simp only [value_Fee.s0, sargassoref8_Fee.s0]
  rw [if_neg (by omega), if_neg (by omega), e1, e2, e3, e4, show t.Outs.map (·.Value) = vs t from rfl]
  simp only [Option.bind_some]
  rw [e5]
  simp only [Option.bind_some]
  generalize goSum 0 s = a
  generalize goSum 0 (vs t) = b
  have hc : (if a.2 = true then some (!b.2) else some true) = some (!(a.2 && b.2)) := by cases a.2 <;> rfl
  rw [hc]
  simp only [Option.bind_some]
  by_cases c1 : (!(a.2 && b.2)) = true
  · rw [if_pos c1, if_pos c1]
    simp only [sargassoref_Bare.f, Option.bind_some]
    exact ⟨_, _, rfl, rfl, rfl, same_value⟩
  · rw [if_neg c1, if_neg c1]
    by_cases c2 : a.1 < b.1
    · rw [if_pos c2, if_pos c2]
      simp only [sargassoref_Bare.f, Option.bind_some]
      exact ⟨_, _, rfl, rfl, rfl, same_less⟩
    · rw [if_neg c2, if_neg c2]
      simp only [sargassoref_None.f, Option.bind_some]
      exact ⟨_, _, rfl, rfl, rfl, same_none⟩
theorem fee_loop {t : Tx} (ok : TxOk t) (hi : t.Ins.length ≤ 20) (ho : t.Outs.length ≤ 20) {ms : List Money} (hm : ms.length = t.Ins.length) (hk : ∀ m ∈ ms, MOk m) : ∀ (n i : Nat) (s : List Int), n + i = t.Ins.length → s.length = i → (∀ x ∈ s, InR .u64 x) →
    ∃ r2 r3, loopO (value_Fee.s0 t ms) (s, (i : Int)) = some r2 ∧ loopO (sargassoref8_Fee.s0 t ms) (s, (i : Int)) = some r3 ∧ r2.1 = r3.1 ∧ sargassosee_Same.f r2.2 r3.2 = some true := by
  intro n
  induction n with
  | zero =>
    intro i s e hs hin
    obtain rfl : i = t.Ins.length := by omega
    obtain ⟨r2, r3, h2, h3, h⟩ := fee_end ok ho hm s (by omega) hin
    exact ⟨r2, r3, loopO_inr h2, loopO_inr h3, h⟩
  | succ n ih =>
    intro i s e hs hin
    have hmk := hk _ (getD_mem (l := ms) (d := default) (show i < ms.length by omega))
    have s2 : value_Fee.s0 t ms (s, (i : Int)) = if op (t.Ins.getD i default).Key (ms.getD i default).Lock then some (.inl (s ++ [(ms.getD i default).Value], ((i + 1 : Nat) : Int))) else some (.inr (0, Er.pl i xErrKey)) := by
      simp only [value_Fee.s0, Int.toNat_natCast]
      rw [if_pos (by omega), if_pos (by omega), if_pos (by omega), opens_eq, Option.bind_some, winc i (by omega)]
      by_cases c : op (t.Ins.getD i default).Key (ms.getD i default).Lock
      · rw [if_pos (decide_eq_true c), if_pos (by omega), if_pos c]
      · rw [if_neg (by simp only [decide_eq_true_eq]; exact c), if_neg c]
    have s3 : sargassoref8_Fee.s0 t ms (s, (i : Int)) = if op (t.Ins.getD i default).Key (ms.getD i default).Lock then some (.inl (s ++ [(ms.getD i default).Value], ((i + 1 : Nat) : Int))) else some (.inr (0, ⟨114, true, i, false, 0⟩)) := by
      simp only [sargassoref8_Fee.s0, Int.toNat_natCast]
      rw [if_pos (by omega), if_pos (by omega), if_pos (by omega), opens1_eq _ _ hmk.2, Option.bind_some, winc i (by omega)]
      by_cases c : op (t.Ins.getD i default).Key (ms.getD i default).Lock
      · rw [if_pos (decide_eq_true c), if_pos (by omega), if_pos c]
      · rw [if_neg (by simp only [decide_eq_true_eq]; exact c), if_neg c]
        simp [sargassoref_Placed.f]
    by_cases c : op (t.Ins.getD i default).Key (ms.getD i default).Lock
    · rw [if_pos c] at s2 s3
      rw [loopO_inl s2, loopO_inl s3]
      exact ih (i + 1) _ (by omega) (by simp [hs]) (fun x hx => by
        rcases List.mem_append.1 hx with h | h
        · exact hin x h
        · obtain rfl := List.mem_singleton.1 h
          exact hmk.1)
    · rw [if_neg c] at s2 s3
      exact ⟨_, _, loopO_inr s2, loopO_inr s3, rfl, same_placed _⟩
theorem fee_eq {t : Tx} (ok : TxOk t) (hi : t.Ins.length ≤ 20) (ho : t.Outs.length ≤ 20) {ms : List Money} (hk : ∀ m ∈ ms, MOk m) : ∃ r2 r3, value_Fee.f t ms = some r2 ∧ sargassoref8_Fee.f t ms = some r3 ∧ r2.1 = r3.1 ∧ sargassosee_Same.f r2.2 r3.2 = some true := by
  simp only [value_Fee.f, sargassoref8_Fee.f]
  by_cases c : ms.length = t.Ins.length
  · rw [if_neg (by omega), if_neg (by omega)]
    exact fee_loop ok hi ho c hk t.Ins.length 0 [] (by omega) rfl (by simp)
  · rw [if_pos (by omega), if_pos (by omega)]
    simp only [sargassoref_Bare.f, Option.bind_some]
    exact ⟨_, _, rfl, rfl, rfl, same_shape⟩
theorem mok_of {μ : Store} {x : Money} {c : List Value} (h : RMoney μ x c) : MOk x := by
  obtain ⟨_, h1, h2, _⟩ := h
  exact ⟨h1, h2.1⟩
theorem sargassolaw15_ValueSays.m (μ : Store) (x0 : Int) (h0 : InR .i64 x0) (x1 : Int) (h1 : InR .i64 x1) (x2 : Money) (h2 : MoneyW μ x2) (x3 : Int) (h3 : InR .i64 x3) (x4 : Int) (h4 : InR .i64 x4) (x5 : Tx) (v0 v1 : Value) (h5 : TxW μ x5 v0 v1) (x6 : List Money) (u6 : Value) (h6 : Slc (RMoney μ) 35 μ u6 x6) (x7 : Rules) (h7 : RulesW μ x7) : sargassolaw15_ValueSays.f x0 x1 x2 x3 x4 x5 x6 x7 = some true := by
  have ok := tx_ok h5
  have hk : ∀ m ∈ x6, MOk m := by
    obtain ⟨cs, he, _⟩ := h6
    exact els_all he fun y c hc => mok_of hc
  simp only [sargassolaw15_ValueSays.f]
  rw [first15, Option.bind_some, if_pos rfl]
  by_cases c1 : 20 < x5.Ins.length
  · rw [if_pos (by omega), Option.bind_some, if_pos rfl]
  rw [if_neg (by omega)]
  by_cases c2 : 20 < x5.Outs.length
  · rw [if_pos (by omega), Option.bind_some, if_pos rfl]
  rw [if_neg (by omega)]
  by_cases c3 : 20 < x6.length
  · rw [decide_eq_true (by omega), Option.bind_some, if_pos rfl]
  rw [decide_eq_false (by omega), Option.bind_some, if_neg (by decide)]
  obtain ⟨r2, r3, e2, e3, p1, p2⟩ := fee_eq ok (by omega) (by omega) hk
  obtain ⟨w, ew⟩ := reward_some h0 h1
  have hr : sargassoref8_Ripe.f x2 x3 x4 = value_Ripe.f x2 x3 x4 := rfl
  obtain ⟨z, ez⟩ : ∃ z, value_Ripe.f x2 x3 x4 = some z := by
    simp only [value_Ripe.f]
    split
    · exact ⟨_, rfl⟩
    · exact ⟨_, rfl⟩
  obtain ⟨d, ed⟩ : ∃ d, (if x2.Height < 0 then some true else (if 1073741824 < x2.Height then some true else (if x4 < 0 then some true else some (decide (1073741824 < x4))))) = some d := by
    split
    · exact ⟨_, rfl⟩
    · split
      · exact ⟨_, rfl⟩
      · split
        · exact ⟨_, rfl⟩
        · exact ⟨_, rfl⟩
  have hq : ∃ q, (if decide (inb x7) = true then some (0 : Int) else some 122) = some q ∧ sargassosee_Is.f (vr x7) q = some true := by
    unfold vr
    by_cases c : inb x7
    · rw [if_pos (decide_eq_true c), if_pos c]
      exact ⟨0, rfl, by rw [is_nil]; rfl⟩
    · rw [if_neg (by simp only [decide_eq_true_eq]; exact c), if_neg c]
      exact ⟨122, rfl, by rw [is_range]; rfl⟩
  obtain ⟨q, eq, hq⟩ := hq
  rw [ed, Option.bind_some, e2, Option.bind_some, e3, Option.bind_some, rules8_eq, Option.bind_some, eq, Option.bind_some, if_pos rfl, reward8_eq h0 h1, ew, Option.bind_some, Option.bind_some, if_pos rfl, hr, ez, vrules_eq, p2]
  simp only [Option.bind_some]
  rw [if_pos p1, hq]
  cases d <;> simp
end Go.Proofs.YtpeelghbhihgkaaDoor.T
