/- A helper of this seat's claims: printed by gen.py. It proves no statement by itself. -/
import Derived.Test.YtnbnnphlffhgiaaC3
import Derived.Test.YtnbnnphlffhgiaaF4
import Derived.Test.YtnbnnphlffhgiaaK15
namespace Go.Proofs.Ytnbnnphlffhgiaa.T
open Go Go.Proofs Go.Proofs.Ytnbnnphlffhgiaa.K
set_option linter.unusedVariables false
set_option linter.unusedSimpArgs false
/-! spend.Lock: function 54 -/
set_option maxRecDepth 20000 in
theorem spend_Lock.c (μ : Store) (w0 : World) (hμ : Agr μ w0) (x0 : List Int) (u0 : Value) (hx0 : Slc (RI .u8) 1 μ u0 x0) (r : List Int) (H : spend_Lock.f x0 = some r) :
    Calls Try.prog 54 [u0].toArray w0 (fun e w' => ∃ v, e = .returned v ∧ v = .agg [av .u8 32 r].flatten.toArray ∧ Arr .u8 32 r ∧ Iv w0 [] μ μ [] w') := by
  refine enter Try.func54 rfl Try.ntmps54 rfl fun a hA => ?_
  have hI := Iv.start hμ
  have H := bI H
  refine w_seq fun _ hN1 => ?_
  refine w_reg ?_
  refine o_new [av .u8 32 (List.replicate 32 0)] zr33 hI hA rfl fun g1 a w hA hI hg1 => ?_
  refine o_nil ?_
  refine hN1 _ _ ?_
  refine w_seq fun _ hN2 => ?_
  refine w_reg ?_
  refine stp hA (r_mv hA rfl) rfl fun a hA => ?_
  obtain ⟨r1, hr1, H⟩ := bB H
  refine o_callp (u := .agg [av .u8 32 r1].flatten.toArray) cf30 hA rfl hI (digest_Sha.c μ _ hI.agr x0 u0 hx0 r1 hr1) rfl fun a w hz1 hI hA => 
    o_st (j := 0) [] [av .u8 32 (List.replicate 32 0)] [av .u8 32 r1] [] sz33 rfl rfl (fl_cons (one_av _ _ _) fl_nil) hI rfl hA rfl rfl rfl rfl fun w hI => ?_
  refine o_nil ?_
  refine hN2 _ _ ?_
  refine w_ret ?_
  obtain rfl := Option.some.inj (bS H)
  exact retc Try.underlying33 rfl sz33 rfl hI (j := 0) rfl hA Try.results54 rfl ⟨_, rfl, rfl, hz1, hI.forget0⟩

/-! spend.Opens: function 55 -/
set_option maxRecDepth 20000 in
theorem spend_Opens.c (μ : Store) (w0 : World) (hμ : Agr μ w0) (x0 : List Int) (u0 : Value) (hx0 : Slc (RI .u8) 1 μ u0 x0) (x1 : List Int) (hx1 : Arr .u8 32 x1) (r : Bool) (H : spend_Opens.f x0 x1 = some r) :
    Calls Try.prog 55 [u0, .agg [av .u8 32 x1].flatten.toArray].toArray w0 (fun e w' => ∃ v, e = .returned v ∧ v = .bool r ∧ True ∧ Iv w0 [] μ μ [] w') := by
  refine enter Try.func55 rfl Try.ntmps55 rfl fun a hA => ?_
  have hI := Iv.start hμ
  have H := bI H
  refine w_seq fun _ hN1 => ?_
  refine w_reg ?_
  refine o_box [av .u8 32 x1] hI hA rfl rfl rfl fun g1 a w hA hI hg1 => 
    stp hA (r_as hA rfl) rfl fun a hA => ?_
  refine o_nil ?_
  refine hN1 _ _ ?_
  obtain ⟨c1, hz1, Hk1⟩ := bB H
  refine w_cut (fun a w => Fr a 14 [(0, u0), (1, .agg [av .u8 32 x1].flatten.toArray), (3, .pointer (some ⟨g1, 0, none⟩)), (4, .bool c1)] ∧ Iv w0 [] μ μ [cel g1 [av .u8 32 x1] 33] w) ?_ ?_
  · have H := bI hz1
    refine w_any [] mo hI fun w hI => ?_
    refine g_easy (i := 0) hA rfl rfl (by kernel_rfl) (.inr hI) (fun _ => r_mv hA rfl) rfl fun a hA => ?_
    obtain ⟨_, hsl1⟩ := Slc.sv hx0
    refine g_easy (i := 1) hA rfl rfl (by kernel_rfl) (.inr hI) (fun _ => r_slen Try.underlying22 hsl1 hA rfl) rfl fun a hA => ?_
    refine g_easy (i := 2) hA rfl rfl (by kernel_rfl) (.inr hI) (fun _ => r_leq hA rfl rfl) rfl fun a hA => ?_
    refine g_easy (i := 3) hA rfl rfl (by kernel_rfl) (.inr hI) (fun _ => r_mv hA rfl) rfl fun a hA => ?_
    rcases Bool.eq_false_or_eq_true (decide ((x0.length : Int) ≤ 80)) with hc1 | hc1
    · have hc10 := hc1; have hc1 := of_decide_eq_true hc1; have H := bT H hc1
      refine g_easy (i := 4) hA rfl (wanted_yes hA rfl rfl hc10) (by kernel_rfl) (.inr hI) (fun _ => r_mv hA rfl) rfl fun a hA => ?_
      refine g_take (i := 6) hA rfl (wanted_yes hA rfl rfl hc10) (by kernel_rfl) hI (fun w hI => r_ldA (j := 0) [] [av .u8 32 x1] [] Try.underlying33 rfl sz33 rfl hI rfl hA rfl rfl) rfl fun a hA => ?_
      refine g_forced (i := 5) rfl (by kernel_rfl) ?_
      refine o_yes hA rfl rfl hc10 <| ?_
      obtain ⟨r1, hr1, H⟩ := bB H
      refine o_callp (u := .agg [av .u8 32 r1].flatten.toArray) cf54 hA rfl hI (spend_Lock.c μ _ hI.agr x0 u0 hx0 r1 hr1) rfl fun a w hz2 hI hA => ?_
      refine o_nil ?_
      refine ⟨(.inr hI), ?_⟩
      refine g_easy (i := 7) hA rfl (wanted_yes hA rfl rfl hc10) (by kernel_rfl) (.inr hI) (fun _ => r_eqS hA rfl rfl eg33 (eqv_arr Try.underlying33 Try.underlying5 sz5 hz2 hx1)) rfl fun a hA => ?_
      refine g_easy (i := 8) hA rfl rfl (by kernel_rfl) (.inr hI) (fun _ => r_pick_t hA rfl hc10 rfl) rfl fun a hA => ?_
      refine g_easy (i := 9) hA rfl rfl (by kernel_rfl) (.inr hI) (fun _ => r_as hA rfl) rfl fun a hA => ?_
      refine g_nil (by kernel_rfl) ?_
      cases Option.some.inj (bS H)
      exact ⟨hA.sub ⟨rfl, rfl, rfl, rfl, trivial⟩, hI⟩
    · have hc10 := hc1; have hc1 := of_decide_eq_false hc1; have H := bF H hc1
      refine g_skip (i := 4) hA rfl (wanted_no hA rfl rfl (by rw [hc10]; simp [vb])) (by kernel_rfl) (.inr hI) rfl fun a hA => ?_
      refine g_skip (i := 6) hA rfl (wanted_no hA rfl rfl (by rw [hc10]; simp [vb])) (by kernel_rfl) (.inr hI) rfl fun a hA => ?_
      refine g_skip (i := 5) hA rfl (wanted_no hA rfl rfl (by rw [hc10]; simp [vb])) (by kernel_rfl) (.inr hI) rfl fun a hA => ?_
      refine g_skip (i := 7) hA rfl (wanted_no hA rfl rfl (by rw [hc10]; simp [vb])) (by kernel_rfl) (.inr hI) rfl fun a hA => ?_
      refine g_easy (i := 8) hA rfl rfl (by kernel_rfl) (.inr hI) (fun _ => r_pick_f hA rfl hc10 rfl) rfl fun a hA => ?_
      refine g_easy (i := 9) hA rfl rfl (by kernel_rfl) (.inr hI) (fun _ => r_as hA rfl) rfl fun a hA => ?_
      refine g_nil (by kernel_rfl) ?_
      cases Option.some.inj (bS H)
      exact ⟨hA.sub ⟨rfl, rfl, rfl, rfl, trivial⟩, hI⟩
  · rintro a w ⟨hA, hI⟩
    have H := Hk1
    refine w_ret ?_
    obtain rfl := Option.some.inj (bS H)
    exact ret1 hA Try.results55 rfl ⟨_, rfl, rfl, trivial, hI.forget0⟩

/-! spend.Null: function 60 -/
set_option maxRecDepth 20000 in
theorem spend_Null.c (μ : Store) (w0 : World) (hμ : Agr μ w0) (r : Point) (H : spend_Null.f = some r) :
    Calls Try.prog 60 [].toArray w0 (fun e w' => ∃ v, e = .returned v ∧ v = .agg [av .u8 32 r.Tx, [.int .u32 r.N]].flatten.toArray ∧ PointW μ r ∧ Iv w0 [] μ μ [] w') := by
  refine enter Try.func60 rfl Try.ntmps60 rfl fun a hA => ?_
  have hI := Iv.start hμ
  have H := bI H
  refine w_seq fun _ hN1 => ?_
  refine w_reg ?_
  refine o_new [av .u8 32 (List.replicate 32 0), [.int .u32 0]] zr57 hI hA rfl fun g1 a w hA hI hg1 => ?_
  refine o_nil ?_
  refine hN1 _ _ ?_
  refine w_seq fun _ hN2 => ?_
  refine w_reg ?_
  refine stp hA (r_bldS (cs := [av .u8 32 (List.replicate 32 0), [.int .u32 4294967295]].flatten.toArray) (pl := [(0, 32), (32, 1)]) zr57 Try.underlying57 ⟨rfl, sz33, rfl, sz25, trivial⟩ hA rfl (by kernel_rfl)) rfl fun a hA => 
    o_st (j := 0) [] [av .u8 32 (List.replicate 32 0), [.int .u32 0]] [av .u8 32 (List.replicate 32 0), [.int .u32 4294967295]] [] sz57 rfl rfl (fl_cons (one_av _ _ _) (fl_cons (one_one rfl) fl_nil)) hI rfl hA rfl rfl rfl rfl fun w hI => ?_
  refine o_nil ?_
  refine hN2 _ _ ?_
  refine w_ret ?_
  obtain rfl := Option.some.inj (bS H)
  exact retc Try.underlying57 rfl sz57 rfl hI (j := 0) rfl hA Try.results60 rfl ⟨_, rfl, rfl, ⟨(arr_zero _ _), (in_lit .u32 4294967295 rfl)⟩, hI.forget0⟩

/-! spend.IsNull: function 57 -/
set_option maxRecDepth 20000 in
theorem spend_IsNull.c (μ : Store) (w0 : World) (hμ : Agr μ w0) (x0 : Point) (hx0 : PointW μ x0) (r : Bool) (H : spend_IsNull.f x0 = some r) :
    Calls Try.prog 57 [.agg [av .u8 32 x0.Tx, [.int .u32 x0.N]].flatten.toArray].toArray w0 (fun e w' => ∃ v, e = .returned v ∧ v = .bool r ∧ True ∧ Iv w0 [] μ μ [] w') := by
  refine enter Try.func57 rfl Try.ntmps57 rfl fun a hA => ?_
  have hI := Iv.start hμ
  have H := bI H
  refine w_seq fun _ hN1 => ?_
  refine w_reg ?_
  refine o_box [av .u8 32 x0.Tx, [.int .u32 x0.N]] hI hA rfl rfl rfl fun g1 a w hA hI hg1 => 
    stp hA (r_as hA rfl) rfl fun a hA => ?_
  refine o_nil ?_
  refine hN1 _ _ ?_
  refine w_seq fun _ hN2 => ?_
  refine w_any [] mo hI fun w hI => ?_
  refine g_take (i := 0) hA rfl rfl (by kernel_rfl) hI (fun w hI => r_ldA (j := 0) [] [av .u8 32 x0.Tx, [.int .u32 x0.N]] [] Try.underlying57 rfl sz57 rfl hI rfl hA rfl rfl) rfl fun a hA => ?_
  refine g_forced (i := 1) rfl (by kernel_rfl) ?_
  obtain ⟨r1, hr1, H⟩ := bB H
  refine o_callp (u := .agg [av .u8 32 r1.Tx, [.int .u32 r1.N]].flatten.toArray) cf60 hA rfl hI (spend_Null.c μ _ hI.agr  r1 hr1) rfl fun a w hz1 hI hA => ?_
  refine o_nil ?_
  refine ⟨(.inr hI), ?_⟩
  refine g_easy (i := 2) hA rfl rfl (by kernel_rfl) (.inr hI) (fun _ => r_eqS hA rfl rfl eg57 (eqv_struct Try.underlying57 sh57 (eqf_cons (by decide) (partA [] [av .u8 32 x0.Tx] [[.int .u32 x0.N]] Try.underlying33 rfl sz33 rfl rfl) (partA [] [av .u8 32 r1.Tx] [[.int .u32 r1.N]] Try.underlying33 rfl sz33 rfl rfl) (eqv_arr Try.underlying33 Try.underlying5 sz5 hx0.1 hz1.1) (eqf_last (by decide) (part1 [av .u8 32 x0.Tx] [] Try.underlying25 rfl rfl) (part1 [av .u8 32 r1.Tx] [] Try.underlying25 rfl rfl) (eqv_int Try.underlying25))))) rfl fun a hA => ?_
  refine g_easy (i := 3) hA rfl rfl (by kernel_rfl) (.inr hI) (fun _ => r_as hA rfl) rfl fun a hA => ?_
  refine g_nil (by kernel_rfl) ?_
  refine hN2 _ _ ?_
  refine w_ret ?_
  obtain rfl := Option.some.inj (bS H)
  exact ret1 hA Try.results57 rfl ⟨_, rfl, rfl, trivial, hI.forget0⟩

/-! sargassoref1.Opens: function 56 -/
set_option maxRecDepth 20000 in
theorem sargassoref1_Opens.c (μ : Store) (w0 : World) (hμ : Agr μ w0) (x0 : List Int) (u0 : Value) (hx0 : Slc (RI .u8) 1 μ u0 x0) (x1 : List Int) (hx1 : Arr .u8 32 x1) (r : Bool) (H : sargassoref1_Opens.f x0 x1 = some r) :
    Calls Try.prog 56 [u0, .agg [av .u8 32 x1].flatten.toArray].toArray w0 (fun e w' => ∃ v, e = .returned v ∧ v = .bool r ∧ True ∧ Iv w0 [] μ μ [] w') := by
  refine enter Try.func56 rfl Try.ntmps56 rfl fun a hA => ?_
  have hI := Iv.start hμ
  have H := bI H
  refine w_seq fun _ hN1 => ?_
  refine w_reg ?_
  refine o_box [av .u8 32 x1] hI hA rfl rfl rfl fun g1 a w hA hI hg1 => 
    stp hA (r_as hA rfl) rfl fun a hA => ?_
  refine o_nil ?_
  refine hN1 _ _ ?_
  obtain ⟨c1, hz1, Hk1⟩ := bB H
  refine w_cut (fun a w => Fr a 14 [(0, u0), (1, .agg [av .u8 32 x1].flatten.toArray), (3, .pointer (some ⟨g1, 0, none⟩)), (4, .bool c1)] ∧ Iv w0 [] μ μ [cel g1 [av .u8 32 x1] 33] w) ?_ ?_
  · have H := bI hz1
    refine w_any [] mo hI fun w hI => ?_
    refine g_easy (i := 0) hA rfl rfl (by kernel_rfl) (.inr hI) (fun _ => r_mv hA rfl) rfl fun a hA => ?_
    obtain ⟨_, hsl1⟩ := Slc.sv hx0
    refine g_easy (i := 1) hA rfl rfl (by kernel_rfl) (.inr hI) (fun _ => r_slen Try.underlying22 hsl1 hA rfl) rfl fun a hA => ?_
    refine g_easy (i := 2) hA rfl rfl (by kernel_rfl) (.inr hI) (fun _ => r_leq hA rfl rfl) rfl fun a hA => ?_
    refine g_easy (i := 3) hA rfl rfl (by kernel_rfl) (.inr hI) (fun _ => r_mv hA rfl) rfl fun a hA => ?_
    rcases Bool.eq_false_or_eq_true (decide ((x0.length : Int) ≤ 80)) with hc1 | hc1
    · have hc10 := hc1; have hc1 := of_decide_eq_true hc1; have H := bT H hc1
      refine g_easy (i := 4) hA rfl (wanted_yes hA rfl rfl hc10) (by kernel_rfl) (.inr hI) (fun _ => r_mv hA rfl) rfl fun a hA => ?_
      refine g_take (i := 6) hA rfl (wanted_yes hA rfl rfl hc10) (by kernel_rfl) hI (fun w hI => r_ldA (j := 0) [] [av .u8 32 x1] [] Try.underlying33 rfl sz33 rfl hI rfl hA rfl rfl) rfl fun a hA => ?_
      refine g_forced (i := 5) rfl (by kernel_rfl) ?_
      refine o_yes hA rfl rfl hc10 <| ?_
      obtain ⟨r1, hr1, H⟩ := bB H
      refine o_callp (u := .agg [av .u8 32 r1].flatten.toArray) cf33 hA rfl hI (sargassoref1_Sha.c μ _ hI.agr x0 u0 hx0 r1 hr1) rfl fun a w hz2 hI hA => ?_
      refine o_nil ?_
      refine ⟨(.inr hI), ?_⟩
      refine g_forced (i := 7) rfl (by kernel_rfl) ?_
      refine o_yes hA rfl rfl hc10 <| ?_
      obtain ⟨r2, hr2, H⟩ := bB H
      refine o_callp (u := .bool r2) cf28 hA rfl hI (sargassoref_SameHash.c μ _ hI.agr r1 hz2 x1 hx1 r2 hr2) rfl fun a w hz3 hI hA => ?_
      refine o_nil ?_
      refine ⟨(.inr hI), ?_⟩
      refine g_easy (i := 8) hA rfl rfl (by kernel_rfl) (.inr hI) (fun _ => r_pick_t hA rfl hc10 rfl) rfl fun a hA => ?_
      refine g_easy (i := 9) hA rfl rfl (by kernel_rfl) (.inr hI) (fun _ => r_as hA rfl) rfl fun a hA => ?_
      refine g_nil (by kernel_rfl) ?_
      cases Option.some.inj (bS H)
      exact ⟨hA.sub ⟨rfl, rfl, rfl, rfl, trivial⟩, hI⟩
    · have hc10 := hc1; have hc1 := of_decide_eq_false hc1; have H := bF H hc1
      refine g_skip (i := 4) hA rfl (wanted_no hA rfl rfl (by rw [hc10]; simp [vb])) (by kernel_rfl) (.inr hI) rfl fun a hA => ?_
      refine g_skip (i := 6) hA rfl (wanted_no hA rfl rfl (by rw [hc10]; simp [vb])) (by kernel_rfl) (.inr hI) rfl fun a hA => ?_
      refine g_skip (i := 5) hA rfl (wanted_no hA rfl rfl (by rw [hc10]; simp [vb])) (by kernel_rfl) (.inr hI) rfl fun a hA => ?_
      refine g_skip (i := 7) hA rfl (wanted_no hA rfl rfl (by rw [hc10]; simp [vb])) (by kernel_rfl) (.inr hI) rfl fun a hA => ?_
      refine g_easy (i := 8) hA rfl rfl (by kernel_rfl) (.inr hI) (fun _ => r_pick_f hA rfl hc10 rfl) rfl fun a hA => ?_
      refine g_easy (i := 9) hA rfl rfl (by kernel_rfl) (.inr hI) (fun _ => r_as hA rfl) rfl fun a hA => ?_
      refine g_nil (by kernel_rfl) ?_
      cases Option.some.inj (bS H)
      exact ⟨hA.sub ⟨rfl, rfl, rfl, rfl, trivial⟩, hI⟩
  · rintro a w ⟨hA, hI⟩
    have H := Hk1
    refine w_ret ?_
    obtain rfl := Option.some.inj (bS H)
    exact ret1 hA Try.results56 rfl ⟨_, rfl, rfl, trivial, hI.forget0⟩

/-! sargassoref1.Null: function 59 -/
set_option maxRecDepth 20000 in
theorem sargassoref1_Null.c (μ : Store) (w0 : World) (hμ : Agr μ w0) (r : Point) (H : sargassoref1_Null.f = some r) :
    Calls Try.prog 59 [].toArray w0 (fun e w' => ∃ v, e = .returned v ∧ v = .agg [av .u8 32 r.Tx, [.int .u32 r.N]].flatten.toArray ∧ PointW μ r ∧ Iv w0 [] μ μ [] w') := by
  refine enter Try.func59 rfl Try.ntmps59 rfl fun a hA => ?_
  have hI := Iv.start hμ
  have H := bI H
  refine w_seq fun _ hN1 => ?_
  refine w_reg ?_
  refine o_new [av .u8 32 (List.replicate 32 0), [.int .u32 0]] zr57 hI hA rfl fun g1 a w hA hI hg1 => ?_
  refine o_nil ?_
  refine hN1 _ _ ?_
  refine w_seq fun _ hN2 => ?_
  refine w_reg ?_
  refine stp hA (r_bldS (cs := [av .u8 32 (List.replicate 32 0), [.int .u32 4294967295]].flatten.toArray) (pl := [(0, 32), (32, 1)]) zr57 Try.underlying57 ⟨rfl, sz33, rfl, sz25, trivial⟩ hA rfl (by kernel_rfl)) rfl fun a hA => 
    o_st (j := 0) [] [av .u8 32 (List.replicate 32 0), [.int .u32 0]] [av .u8 32 (List.replicate 32 0), [.int .u32 4294967295]] [] sz57 rfl rfl (fl_cons (one_av _ _ _) (fl_cons (one_one rfl) fl_nil)) hI rfl hA rfl rfl rfl rfl fun w hI => ?_
  refine o_nil ?_
  refine hN2 _ _ ?_
  refine w_ret ?_
  obtain rfl := Option.some.inj (bS H)
  exact retc Try.underlying57 rfl sz57 rfl hI (j := 0) rfl hA Try.results59 rfl ⟨_, rfl, rfl, ⟨(arr_zero _ _), (in_lit .u32 4294967295 rfl)⟩, hI.forget0⟩

/-! spend.Compare: function 94 -/
set_option maxRecDepth 20000 in
theorem spend_Compare.c (μ : Store) (w0 : World) (hμ : Agr μ w0) (x0 : Point) (hx0 : PointW μ x0) (x1 : Point) (hx1 : PointW μ x1) (r : Int) (H : spend_Compare.f x0 x1 = some r) :
    Calls Try.prog 94 [.agg [av .u8 32 x0.Tx, [.int .u32 x0.N]].flatten.toArray, .agg [av .u8 32 x1.Tx, [.int .u32 x1.N]].flatten.toArray].toArray w0 (fun e w' => ∃ v, e = .returned v ∧ v = .int .i64 r ∧ True ∧ Iv w0 [] μ μ [] w') := by
  refine enter Try.func94 rfl Try.ntmps94 rfl fun a hA => ?_
  have hI := Iv.start hμ
  have H := bI H
  refine w_seq fun _ hN1 => ?_
  refine w_reg ?_
  refine o_box [av .u8 32 x0.Tx, [.int .u32 x0.N]] hI hA rfl rfl rfl fun g1 a w hA hI hg1 => 
    o_box [av .u8 32 x1.Tx, [.int .u32 x1.N]] hI hA rfl rfl rfl fun g2 a w hA hI hg2 => 
    stp hA (r_as hA rfl) rfl fun a hA => ?_
  refine o_nil ?_
  refine hN1 _ _ ?_
  refine w_seq fun _ hN2 => ?_
  refine w_seq fun _ hN3 => ?_
  refine w_reg ?_
  refine stp hA (r_fd (k := 0) Try.underlying57 rfl sz33 hA rfl rfl) rfl fun a hA => 
    stp hA (r_ldA (j := 1) [] [av .u8 32 x0.Tx] [[.int .u32 x0.N]] Try.underlying33 rfl sz33 rfl hI rfl hA rfl rfl) rfl fun a hA => 
    stp hA (r_fd (k := 0) Try.underlying57 rfl sz33 hA rfl rfl) rfl fun a hA => 
    stp hA (r_ldA (j := 0) [] [av .u8 32 x1.Tx] [[.int .u32 x1.N]] Try.underlying33 rfl sz33 rfl hI rfl hA rfl rfl) rfl fun a hA => ?_
  obtain ⟨r1, hr1, H⟩ := bB H
  refine o_callp (u := .int .i64 r1) cf91 hA rfl hI (digest_Compare.c μ _ hI.agr x0.Tx hx0.1 x1.Tx hx1.1 r1 hr1) rfl fun a w hz1 hI hA => 
    stp hA (r_as hA rfl) rfl fun a hA => ?_
  refine o_nil ?_
  refine hN3 _ _ ?_
  refine w_block ?_
  refine w_seq fun _ hN4 => ?_
  refine w_reg ?_
  refine stp hA (r_mv hA rfl) rfl fun a hA => 
    stp hA (r_neq hA rfl rfl) rfl fun a hA => 
    stp hA (r_as hA rfl) rfl fun a hA => ?_
  refine o_nil ?_
  refine hN4 _ _ ?_
  refine w_cond hA rfl (fun hc1 => ?_) (fun hc1 => ?_)
  · have hc10 := hc1; have hc1 := of_decide_eq_true hc1; have H := bT H hc1
    refine w_seq fun _ hN5 => ?_
    refine w_reg ?_
    refine stp hA (r_mv hA rfl) rfl fun a hA => 
      stp hA (r_as hA rfl) rfl fun a hA => ?_
    refine o_nil ?_
    refine hN5 _ _ ?_
    refine w_ret ?_
    obtain rfl := Option.some.inj (bS H)
    exact ret1 hA Try.results94 rfl ⟨_, rfl, rfl, trivial, hI.forget0⟩
  · have hc10 := hc1; have hc1 := of_decide_eq_false hc1; have H := bF H hc1
    refine w_seq fun _ hN6 => ?_
    refine w_reg ?_
    refine stp hA (r_fd (k := 32) Try.underlying57 rfl sz25 hA rfl rfl) rfl fun a hA => 
      stp hA (r_ld1 (j := 1) [av .u8 32 x0.Tx] [] Try.underlying25 rfl hI rfl hA rfl rfl) rfl fun a hA => 
      stp hA (r_fd (k := 32) Try.underlying57 rfl sz25 hA rfl rfl) rfl fun a hA => 
      stp hA (r_ld1 (j := 0) [av .u8 32 x1.Tx] [] Try.underlying25 rfl hI rfl hA rfl rfl) rfl fun a hA => 
      stp hA (r_lss hA rfl rfl) rfl fun a hA => 
      stp hA (r_as hA rfl) rfl fun a hA => ?_
    refine o_nil ?_
    refine hN6 _ _ ?_
    refine w_cond hA rfl (fun hc2 => ?_) (fun hc2 => ?_)
    · have hc20 := hc2; have hc2 := of_decide_eq_true hc2; have H := bT H hc2
      refine w_seq fun _ hN7 => ?_
      refine w_reg ?_
      refine stp hA (r_as hA rfl) rfl fun a hA => ?_
      refine o_nil ?_
      refine hN7 _ _ ?_
      refine w_ret ?_
      obtain rfl := Option.some.inj (bS H)
      exact ret1 hA Try.results94 rfl ⟨_, rfl, rfl, trivial, hI.forget0⟩
    · have hc20 := hc2; have hc2 := of_decide_eq_false hc2; have H := bF H hc2
      refine w_seq fun _ hN8 => ?_
      refine w_reg ?_
      refine stp hA (r_fd (k := 32) Try.underlying57 rfl sz25 hA rfl rfl) rfl fun a hA => 
        stp hA (r_ld1 (j := 1) [av .u8 32 x0.Tx] [] Try.underlying25 rfl hI rfl hA rfl rfl) rfl fun a hA => 
        stp hA (r_fd (k := 32) Try.underlying57 rfl sz25 hA rfl rfl) rfl fun a hA => 
        stp hA (r_ld1 (j := 0) [av .u8 32 x1.Tx] [] Try.underlying25 rfl hI rfl hA rfl rfl) rfl fun a hA => 
        stp hA (r_gtr hA rfl rfl) rfl fun a hA => 
        stp hA (r_as hA rfl) rfl fun a hA => ?_
      refine o_nil ?_
      refine hN8 _ _ ?_
      refine w_cond hA rfl (fun hc3 => ?_) (fun hc3 => ?_)
      · have hc30 := hc3; have hc3 := of_decide_eq_true hc3; have H := bT H hc3
        refine w_seq fun _ hN9 => ?_
        refine w_reg ?_
        refine stp hA (r_as hA rfl) rfl fun a hA => ?_
        refine o_nil ?_
        refine hN9 _ _ ?_
        refine w_ret ?_
        obtain rfl := Option.some.inj (bS H)
        exact ret1 hA Try.results94 rfl ⟨_, rfl, rfl, trivial, hI.forget0⟩
      · have hc30 := hc3; have hc3 := of_decide_eq_false hc3; have H := bF H hc3
        refine w_skip ?_
        refine hN2 _ _ ?_
        refine w_seq fun _ hN10 => ?_
        refine w_reg ?_
        refine stp hA (r_as hA rfl) rfl fun a hA => ?_
        refine o_nil ?_
        refine hN10 _ _ ?_
        refine w_ret ?_
        obtain rfl := Option.some.inj (bS H)
        exact ret1 hA Try.results94 rfl ⟨_, rfl, rfl, trivial, hI.forget0⟩

/-! spend.Less: function 61 -/
set_option maxRecDepth 20000 in
theorem spend_Less.c (μ : Store) (w0 : World) (hμ : Agr μ w0) (x0 : Point) (hx0 : PointW μ x0) (x1 : Point) (hx1 : PointW μ x1) (r : Bool) (H : spend_Less.f x0 x1 = some r) :
    Calls Try.prog 61 [.agg [av .u8 32 x0.Tx, [.int .u32 x0.N]].flatten.toArray, .agg [av .u8 32 x1.Tx, [.int .u32 x1.N]].flatten.toArray].toArray w0 (fun e w' => ∃ v, e = .returned v ∧ v = .bool r ∧ True ∧ Iv w0 [] μ μ [] w') := by
  refine enter Try.func61 rfl Try.ntmps61 rfl fun a hA => ?_
  have hI := Iv.start hμ
  have H := bI H
  refine w_seq fun _ hN1 => ?_
  refine w_reg ?_
  refine o_box [av .u8 32 x0.Tx, [.int .u32 x0.N]] hI hA rfl rfl rfl fun g1 a w hA hI hg1 => 
    o_box [av .u8 32 x1.Tx, [.int .u32 x1.N]] hI hA rfl rfl rfl fun g2 a w hA hI hg2 => 
    stp hA (r_as hA rfl) rfl fun a hA => ?_
  refine o_nil ?_
  refine hN1 _ _ ?_
  refine w_seq fun _ hN2 => ?_
  refine w_reg ?_
  refine stp hA (r_ldA (j := 1) [] [av .u8 32 x0.Tx, [.int .u32 x0.N]] [] Try.underlying57 rfl sz57 rfl hI rfl hA rfl rfl) rfl fun a hA => 
    stp hA (r_ldA (j := 0) [] [av .u8 32 x1.Tx, [.int .u32 x1.N]] [] Try.underlying57 rfl sz57 rfl hI rfl hA rfl rfl) rfl fun a hA => ?_
  obtain ⟨r1, hr1, H⟩ := bB H
  refine o_callp (u := .int .i64 r1) cf94 hA rfl hI (spend_Compare.c μ _ hI.agr x0 ⟨hx0.1, hx0.2⟩ x1 ⟨hx1.1, hx1.2⟩ r1 hr1) rfl fun a w hz1 hI hA => 
    stp hA (r_lss hA rfl rfl) rfl fun a hA => 
    stp hA (r_as hA rfl) rfl fun a hA => ?_
  refine o_nil ?_
  refine hN2 _ _ ?_
  refine w_ret ?_
  obtain rfl := Option.some.inj (bS H)
  exact ret1 hA Try.results61 rfl ⟨_, rfl, rfl, trivial, hI.forget0⟩

/-! sargassoref1.LessPoint: function 62 -/
set_option maxRecDepth 20000 in
theorem sargassoref1_LessPoint.c (μ : Store) (w0 : World) (hμ : Agr μ w0) (x0 : Point) (hx0 : PointW μ x0) (x1 : Point) (hx1 : PointW μ x1) (r : Bool) (H : sargassoref1_LessPoint.f x0 x1 = some r) :
    Calls Try.prog 62 [.agg [av .u8 32 x0.Tx, [.int .u32 x0.N]].flatten.toArray, .agg [av .u8 32 x1.Tx, [.int .u32 x1.N]].flatten.toArray].toArray w0 (fun e w' => ∃ v, e = .returned v ∧ v = .bool r ∧ True ∧ Iv w0 [] μ μ [] w') := by
  refine enter Try.func62 rfl Try.ntmps62 rfl fun a hA => ?_
  have hI := Iv.start hμ
  have H := bI H
  refine w_seq fun _ hN1 => ?_
  refine w_reg ?_
  refine o_box [av .u8 32 x0.Tx, [.int .u32 x0.N]] hI hA rfl rfl rfl fun g1 a w hA hI hg1 => 
    o_box [av .u8 32 x1.Tx, [.int .u32 x1.N]] hI hA rfl rfl rfl fun g2 a w hA hI hg2 => 
    stp hA (r_as hA rfl) rfl fun a hA => ?_
  refine o_nil ?_
  refine hN1 _ _ ?_
  refine w_seq fun _ hN2 => ?_
  refine w_seq fun _ hN3 => ?_
  refine w_reg ?_
  refine stp hA (r_fd (k := 0) Try.underlying57 rfl sz33 hA rfl rfl) rfl fun a hA => 
    stp hA (r_ldA (j := 1) [] [av .u8 32 x0.Tx] [[.int .u32 x0.N]] Try.underlying33 rfl sz33 rfl hI rfl hA rfl rfl) rfl fun a hA => 
    stp hA (r_fd (k := 0) Try.underlying57 rfl sz33 hA rfl rfl) rfl fun a hA => 
    stp hA (r_ldA (j := 0) [] [av .u8 32 x1.Tx] [[.int .u32 x1.N]] Try.underlying33 rfl sz33 rfl hI rfl hA rfl rfl) rfl fun a hA => ?_
  obtain ⟨r1, hr1, H⟩ := bB H
  refine o_callp (u := .bool r1) cf28 hA rfl hI (sargassoref_SameHash.c μ _ hI.agr x0.Tx hx0.1 x1.Tx hx1.1 r1 hr1) rfl fun a w hz1 hI hA => ?_
  refine o_nil ?_
  refine hN3 _ _ ?_
  refine w_cond hA rfl (fun hc1 => ?_) (fun hc1 => ?_)
  · have hc10 := hc1; have H := bT H hc1
    refine w_seq fun _ hN4 => ?_
    refine w_reg ?_
    refine stp hA (r_fd (k := 32) Try.underlying57 rfl sz25 hA rfl rfl) rfl fun a hA => 
      stp hA (r_ld1 (j := 1) [av .u8 32 x0.Tx] [] Try.underlying25 rfl hI rfl hA rfl rfl) rfl fun a hA => 
      stp hA (r_fd (k := 32) Try.underlying57 rfl sz25 hA rfl rfl) rfl fun a hA => 
      stp hA (r_ld1 (j := 0) [av .u8 32 x1.Tx] [] Try.underlying25 rfl hI rfl hA rfl rfl) rfl fun a hA => 
      stp hA (r_lss hA rfl rfl) rfl fun a hA => 
      stp hA (r_as hA rfl) rfl fun a hA => ?_
    refine o_nil ?_
    refine hN4 _ _ ?_
    refine w_ret ?_
    obtain rfl := Option.some.inj (bS H)
    exact ret1 hA Try.results62 rfl ⟨_, rfl, rfl, trivial, hI.forget0⟩
  · have hc10 := hc1; have hc1 := ft hc1; have H := bF H hc1
    refine w_skip ?_
    refine hN2 _ _ ?_
    refine w_seq fun _ hN5 => ?_
    refine w_reg ?_
    refine stp hA (r_fd (k := 0) Try.underlying57 rfl sz33 hA rfl rfl) rfl fun a hA => 
      stp hA (r_ldA (j := 1) [] [av .u8 32 x0.Tx] [[.int .u32 x0.N]] Try.underlying33 rfl sz33 rfl hI rfl hA rfl rfl) rfl fun a hA => 
      stp hA (r_fd (k := 0) Try.underlying57 rfl sz33 hA rfl rfl) rfl fun a hA => 
      stp hA (r_ldA (j := 0) [] [av .u8 32 x1.Tx] [[.int .u32 x1.N]] Try.underlying33 rfl sz33 rfl hI rfl hA rfl rfl) rfl fun a hA => ?_
    obtain ⟨r2, hr2, H⟩ := bB H
    refine o_callp (u := .bool r2) cf39 hA rfl hI (sargassoref_LessHash.c μ _ hI.agr x0.Tx hx0.1 x1.Tx hx1.1 r2 hr2) rfl fun a w hz2 hI hA => 
      stp hA (r_as hA rfl) rfl fun a hA => ?_
    refine o_nil ?_
    refine hN5 _ _ ?_
    refine w_ret ?_
    obtain rfl := Option.some.inj (bS H)
    exact ret1 hA Try.results62 rfl ⟨_, rfl, rfl, trivial, hI.forget0⟩

/-! tx.Bytes: function 95 -/
set_option maxRecDepth 20000 in
theorem tx_Bytes.c (μ : Store) (w0 : World) (hμ : Agr μ w0) (x0 : Tx) (u0_0 : Value) (u0_1 : Value) (hx0 : TxW μ x0 u0_0 u0_1) (r : List Int) (H : tx_Bytes.f x0 = some r) :
    Calls Try.prog 95 [.agg [[.int .u32 x0.Version], [u0_0], [u0_1], [.int .u32 x0.Time]].flatten.toArray].toArray w0 (fun e w' => ∃ v, e = .returned v ∧ ∃ (v0 : Value) (c0 : List Value), v = v0 ∧ Els (RI .u8) 1 r c0 ∧ Iv w0 [] μ μ [row 5 1 v0 r.length c0] w') := by
  refine enter Try.func95 rfl Try.ntmps95 rfl fun a hA => ?_
  have hI := Iv.start hμ
  have H := bI H
  refine w_seq fun _ hN1 => ?_
  refine w_reg ?_
  refine o_box [[.int .u32 x0.Version], [u0_0], [u0_1], [.int .u32 x0.Time]] hI hA rfl rfl rfl fun g1 a w hA hI hg1 => 
    stp hA (r_as hA rfl) rfl fun a hA => ?_
  refine o_nil ?_
  refine hN1 _ _ ?_
  refine w_seq fun _ hN2 => ?_
  refine w_reg ?_
  refine stp hA (r_fd (k := 0) Try.underlying67 rfl sz25 hA rfl rfl) rfl fun a hA => 
    stp hA (r_ld1 (j := 0) [] [[u0_0], [u0_1], [.int .u32 x0.Time]] Try.underlying25 rfl hI rfl hA rfl rfl) rfl fun a hA => ?_
  obtain ⟨r1, hr1, H⟩ := bB H
  refine o_call _ cf49 hA rfl (compact_Four.c μ _ hI.agr ([]) (.slice none 0 0) (slc_nil _ _ _) x0.Version hx0.1 r1 hr1) rfl fun v1 a w hz1 hA => ?_
  obtain ⟨_, cs1, rfl, hE1, hi1⟩ := hz1
  have hI := hI.call hi1
  refine stp hA (r_as hA rfl) rfl fun a hA => ?_
  refine o_nil ?_
  refine hN2 _ _ ?_
  refine w_seq fun _ hN3 => ?_
  refine w_reg ?_
  refine stp hA (r_mv hA rfl) rfl fun a hA => 
    stp hA (r_fd (k := 1) Try.underlying67 rfl sz64 hA rfl rfl) rfl fun a hA => 
    stp hA (r_ld1 (j := 1) [[.int .u32 x0.Version]] [[u0_1], [.int .u32 x0.Time]] Try.underlying64 rfl hI rfl hA rfl rfl) rfl fun a hA => ?_
  obtain ⟨_, hsl1⟩ := Slc.sv hx0.2.1
  refine stp hA (r_slen Try.underlying64 hsl1 hA rfl) rfl fun a hA => 
    stp hA (r_conv Try.underlying3 Try.underlying45 hA rfl) rfl fun a hA => ?_
  obtain ⟨r2, hr2, H⟩ := bB H
  refine o_call (fun v w' => ∃ (v0 : Value) (c0 : List Value), v = v0 ∧ Els (RI .u8) 1 r2 c0 ∧ Iv w [] μ μ [row 5 1 v0 r2.length c0] w') cf45 hA rfl ((by obtain ⟨μ1, hle1, hsv1, hI⟩ := hI.freezeRow 0 rfl; have hS1 : Slc (RI .u8) 1 μ1 v1 r1 := ⟨_, hE1, hsv1⟩; exact (compact_Put.c μ1 _ hI.agr r1 v1 hS1 (IntKind.u64.wrap (x0.Ins.length : Int)) (wrap_in _ _) r2 hr2).mono fun _ _ ⟨v, he, b0, b1, hv, f0, hi⟩ => ⟨v, he, b0, b1, hv, f0, hi.low hle1⟩)) rfl fun v2 a w hz2 hA => ?_
  obtain ⟨_, cs2, rfl, hE2, hi2⟩ := hz2
  have hI := hI.call hi2
  refine stp hA (r_as hA rfl) rfl fun a hA => ?_
  refine o_nil ?_
  refine hN3 _ _ ?_
  obtain ⟨c1, hz3, Hk1⟩ := bB H
  refine w_cut (fun a w => ∃ (vvc1 : Value) (ccc1 : List Value), Els (RI .u8) 1 c1 ccc1 ∧ Fr a 72 [(0, .agg [[.int .u32 x0.Version], [u0_0], [u0_1], [.int .u32 x0.Time]].flatten.toArray), (1, .pointer (some ⟨g1, 0, none⟩)), (2, (.slice none 0 0)), (3, vvc1)] ∧ Iv w0 [] μ μ [row 5 1 vvc1 c1.length ccc1, row 5 1 v1 r1.length cs1, cel g1 [[.int .u32 x0.Version], [u0_0], [u0_1], [.int .u32 x0.Time]] 67] w) ?_ ?_
  · have H := bI hz3
    refine w_seq fun _ hN4 => ?_
    refine w_reg ?_
    refine stp hA (r_fd (k := 1) Try.underlying67 rfl sz64 hA rfl rfl) rfl fun a hA => 
      stp hA (r_ld1 (j := 2) [[.int .u32 x0.Version]] [[u0_1], [.int .u32 x0.Time]] Try.underlying64 rfl hI rfl hA rfl rfl) rfl fun a hA => ?_
    obtain ⟨_, hsl2⟩ := Slc.sv hx0.2.1
    refine stp hA (r_slen Try.underlying64 hsl2 hA rfl) rfl fun a hA => 
      stp hA (r_mv hA rfl) rfl fun a hA => ?_
    refine o_nil ?_
    refine hN4 _ _ ?_
    refine w_block ?_
    obtain ⟨z1, hz4, Hk2⟩ := bind_some H
    obtain ⟨n1, hn1⟩ := loopO_some hz4
    refine w_loop (fun n a w => ∃ (s1 : List Int) (s2 : Int) (vvs1 : Value) (ccs1 : List Value), loopN (tx_Bytes.s0 x0) n (s1, s2) = some z1 ∧ Els (RI .u8) 1 s1 ccs1 ∧ InR .i64 s2 ∧ Fr a 72 [(0, .agg [[.int .u32 x0.Version], [u0_0], [u0_1], [.int .u32 x0.Time]].flatten.toArray), (1, .pointer (some ⟨g1, 0, none⟩)), (2, (.slice none 0 0)), (3, vvs1), (18, u0_0), (19, .int .i64 (x0.Ins.length : Int)), (20, .int .i64 s2)] ∧ Iv w0 [] μ μ [row 5 1 vvs1 s1.length ccs1, row 5 1 v1 r1.length cs1, cel g1 [[.int .u32 x0.Version], [u0_0], [u0_1], [.int .u32 x0.Time]] 67] w) n1 ⟨r2, 0, v2, cs2, hn1, hE2, (in_lit .i64 0 rfl), hA.sub ⟨rfl, rfl, rfl, rfl, rfl, rfl, rfl, trivial⟩, hI⟩ ?_
    clear hA hI
    rintro n a w ⟨s1, s2, vvs1, ccs1, hn1, ws1, ws2, hA, hI⟩
    obtain ⟨m1, rfl, H⟩ := loopN_bind hn1
    clear hn1
    refine w_seq fun _ hN5 => ?_
    refine w_reg ?_
    refine stp hA (r_lss hA rfl rfl) rfl fun a hA => ?_
    refine o_nil ?_
    refine hN5 _ _ ?_
    refine w_seq fun _ hN6 => ?_
    refine w_cond hA rfl (fun hc1 => ?_) (fun hc1 => ?_)
    · have hc10 := hc1; have hc1 := of_decide_eq_true hc1; have H := bT H hc1
      refine w_skip ?_
      refine hN6 _ _ ?_
      refine w_seq fun _ hN7 => ?_
      refine w_block ?_
      refine w_seq fun _ hN8 => ?_
      refine w_reg ?_
      obtain ⟨hb1, H⟩ := bG H
      obtain ⟨_, he1, _, hat1⟩ := Slc.elem hx0.2.1 (getD_some default hb1.1 hb1.2)
      obtain ⟨v3, rfl, hw1⟩ := he1
      obtain ⟨_, hsl3⟩ := Slc.sv hx0.2.1
      refine stp hA (r_six Try.underlying64 sz71 hsl3 hA rfl rfl hb1.1 hb1.2) rfl fun a hA => 
        stp hA (r_ldmA [] [av .u8 32 ((x0.Ins.getD s2.toNat default).From.Tx), [.int .u32 ((x0.Ins.getD s2.toNat default).From.N)], [v3], [.int .u32 ((x0.Ins.getD s2.toNat default).Seq)]] [] Try.underlying71 rfl sz71 rfl hI.agr hat1 hA rfl rfl) rfl fun a hA => 
        o_new [av .u8 32 (List.replicate 32 0), [.int .u32 0], [(.slice none 0 0)], [.int .u32 0]] zr71 hI hA rfl fun g2 a w hA hI hg2 => ?_
      obtain ⟨_, hsl4⟩ := Slc.sv hw1.2.2.1
      refine o_st (j := 0) [] [av .u8 32 (List.replicate 32 0), [.int .u32 0], [(.slice none 0 0)], [.int .u32 0]] [av .u8 32 ((x0.Ins.getD s2.toNat default).From.Tx), [.int .u32 ((x0.Ins.getD s2.toNat default).From.N)], [v3], [.int .u32 ((x0.Ins.getD s2.toNat default).Seq)]] [] sz71 rfl rfl (fl_cons (one_av _ _ _) (fl_cons (one_one rfl) (fl_cons (one_one (one_sl hsl4)) (fl_cons (one_one rfl) fl_nil)))) hI rfl hA rfl rfl rfl rfl fun w hI => ?_
      refine o_nil ?_
      refine hN8 _ _ ?_
      refine w_seq fun _ hN9 => ?_
      refine w_anyS [] mo (fun w (h : Iv w0 [] μ μ [cel g2 [av .u8 32 ((x0.Ins.getD s2.toNat default).From.Tx), [.int .u32 ((x0.Ins.getD s2.toNat default).From.N)], [v3], [.int .u32 ((x0.Ins.getD s2.toNat default).Seq)]] 71, row 5 1 vvs1 s1.length ccs1, row 5 1 v1 r1.length cs1, cel g1 [[.int .u32 x0.Version], [u0_0], [u0_1], [.int .u32 x0.Time]] 67] w) => (h.sel [0, 2, 3] (by decide) rfl : Iv w0 [] μ μ [cel g2 [av .u8 32 ((x0.Ins.getD s2.toNat default).From.Tx), [.int .u32 ((x0.Ins.getD s2.toNat default).From.N)], [v3], [.int .u32 ((x0.Ins.getD s2.toNat default).Seq)]] 71, row 5 1 v1 r1.length cs1, cel g1 [[.int .u32 x0.Version], [u0_0], [u0_1], [.int .u32 x0.Time]] 67] w)) hI fun w hI => ?_
      refine g_easy (i := 0) hA rfl rfl (by kernel_rfl) (.inr (hI.sel [0, 2, 3] (by decide) rfl)) (fun _ => r_mv hA rfl) rfl fun a hA => ?_
      refine g_easy (i := 1) hA rfl rfl (by kernel_rfl) (.inr (hI.sel [0, 2, 3] (by decide) rfl)) (fun _ => r_fd (k := 0) Try.underlying71 rfl sz57 hA rfl rfl) rfl fun a hA => ?_
      refine g_easy (i := 2) hA rfl rfl (by kernel_rfl) (.inr (hI.sel [0, 2, 3] (by decide) rfl)) (fun _ => r_fd (k := 0) Try.underlying57 rfl sz33 hA rfl rfl) rfl fun a hA => ?_
      refine g_easy (i := 3) hA rfl rfl (by kernel_rfl) (.inr (hI.sel [0, 2, 3] (by decide) rfl)) (fun _ => r_slv (i := 0) (j := 32) Try.underlying33 sz5 hA rfl rfl rfl (by decide) (by decide) (by decide) (by decide) rfl) rfl fun a hA => ?_
      refine g_easy (i := 5) hA rfl rfl (by kernel_rfl) (.inr (hI.sel [0, 2, 3] (by decide) rfl)) (fun _ => r_fd (k := 0) Try.underlying71 rfl sz57 hA rfl rfl) rfl fun a hA => ?_
      refine g_easy (i := 6) hA rfl rfl (by kernel_rfl) (.inr (hI.sel [0, 2, 3] (by decide) rfl)) (fun _ => r_fd (k := 32) Try.underlying57 rfl sz25 hA rfl rfl) rfl fun a hA => ?_
      refine g_take (i := 7) hA rfl rfl (by kernel_rfl) (hI.sel [0, 2, 3] (by decide) rfl) (fun w hI => r_ld1 (j := 0) [av .u8 32 ((x0.Ins.getD s2.toNat default).From.Tx)] [[v3], [.int .u32 ((x0.Ins.getD s2.toNat default).Seq)]] Try.underlying25 rfl hI rfl hA rfl rfl) rfl fun a hA => ?_
      refine g_forced (i := 4) rfl (by kernel_rfl) ?_
      have hE3 := els_av hw1.1
      obtain ⟨hb2, H⟩ := bG H
      have hE4 := ws1.app hE3
      refine o_appL (xs := (s1 : List Int)) (ys := ((x0.Ins.getD s2.toNat default).From.Tx : List Int)) (j := 1) te5 Try.underlying22 hI rfl hA rfl rfl (by simpa using src_cel [] [[.int .u32 ((x0.Ins.getD s2.toNat default).From.N)], [v3], [.int .u32 ((x0.Ins.getD s2.toNat default).Seq)]] hI (j := 0) rfl hw1.1 rfl) hE3.len (hE3.ones (one_RI _)) (by first | decide | (have hq := hb2; (try simp only [List.length_cons, List.length_nil] at hq); (try simp only [List.length_cons, List.length_nil]); (try simp only [maxLen]); omega)) (by first | decide | (have hq := hb2; (try simp only [List.length_cons, List.length_nil] at hq); (try simp only [List.length_cons, List.length_nil]); (try simp only [maxLen]); omega)) rfl fun v4 a w hA hI => ?_
      refine o_nil ?_
      refine ⟨(.inr (hI.sel [0, 2, 3] (by decide) rfl)), ?_⟩
      refine g_forced (i := 8) rfl (by kernel_rfl) ?_
      obtain ⟨r3, hr3, H⟩ := bB H
      refine o_call (fun v w' => ∃ (v0 : Value) (c0 : List Value), v = v0 ∧ Els (RI .u8) 1 r3 c0 ∧ Iv w [] μ μ [row 5 1 v0 r3.length c0] w') cf49 hA rfl ((by obtain ⟨μ2, hle2, hsv3, hI⟩ := hI.freezeRow 1 rfl; have hS2 : Slc (RI .u8) 1 μ2 v4 (s1 ++ ((x0.Ins.getD s2.toNat default).From.Tx)) := ⟨_, hE4, hsv3⟩; exact (compact_Four.c μ2 _ hI.agr (s1 ++ ((x0.Ins.getD s2.toNat default).From.Tx)) v4 hS2 ((x0.Ins.getD s2.toNat default).From.N) hw1.2.1 r3 hr3).mono fun _ _ ⟨v, he, b0, b1, hv, f0, hi⟩ => ⟨v, he, b0, b1, hv, f0, hi.low hle2⟩)) rfl fun v5 a w hz5 hA => ?_
      obtain ⟨_, cs5, rfl, hE5, hi3⟩ := hz5
      have hI := hI.call hi3
      refine o_nil ?_
      refine ⟨(.inr (hI.sel [1, 3, 4] (by decide) rfl)), ?_⟩
      refine g_easy (i := 9) hA rfl rfl (by kernel_rfl) (.inr (hI.sel [1, 3, 4] (by decide) rfl)) (fun _ => r_as hA rfl) rfl fun a hA => ?_
      refine g_nil (by kernel_rfl) ?_
      refine hN9 _ _ ?_
      refine w_seq fun _ hN10 => ?_
      refine w_anyS [] mo (fun w (h : Iv w0 [] μ μ [row 5 1 v5 r3.length cs5, cel g2 [av .u8 32 ((x0.Ins.getD s2.toNat default).From.Tx), [.int .u32 ((x0.Ins.getD s2.toNat default).From.N)], [v3], [.int .u32 ((x0.Ins.getD s2.toNat default).Seq)]] 71, row 5 1 v4 (s1 ++ ((x0.Ins.getD s2.toNat default).From.Tx)).length (ccs1 ++ ([av .u8 32 ((x0.Ins.getD s2.toNat default).From.Tx)].flatten)), row 5 1 v1 r1.length cs1, cel g1 [[.int .u32 x0.Version], [u0_0], [u0_1], [.int .u32 x0.Time]] 67] w) => (h.sel [0, 1, 2, 3, 4] (by decide) rfl : Iv w0 [] μ μ [row 5 1 v5 r3.length cs5, cel g2 [av .u8 32 ((x0.Ins.getD s2.toNat default).From.Tx), [.int .u32 ((x0.Ins.getD s2.toNat default).From.N)], [v3], [.int .u32 ((x0.Ins.getD s2.toNat default).Seq)]] 71, row 5 1 v4 (s1 ++ ((x0.Ins.getD s2.toNat default).From.Tx)).length (ccs1 ++ ([av .u8 32 ((x0.Ins.getD s2.toNat default).From.Tx)].flatten)), row 5 1 v1 r1.length cs1, cel g1 [[.int .u32 x0.Version], [u0_0], [u0_1], [.int .u32 x0.Time]] 67] w)) hI fun w hI => ?_
      refine g_easy (i := 0) hA rfl rfl (by kernel_rfl) (.inr hI) (fun _ => r_mv hA rfl) rfl fun a hA => ?_
      refine g_easy (i := 1) hA rfl rfl (by kernel_rfl) (.inr hI) (fun _ => r_fd (k := 33) Try.underlying71 rfl sz22 hA rfl rfl) rfl fun a hA => ?_
      refine g_take (i := 2) hA rfl rfl (by kernel_rfl) hI (fun w hI => r_ld1 (j := 1) [av .u8 32 ((x0.Ins.getD s2.toNat default).From.Tx), [.int .u32 ((x0.Ins.getD s2.toNat default).From.N)]] [[.int .u32 ((x0.Ins.getD s2.toNat default).Seq)]] Try.underlying22 rfl hI rfl hA rfl rfl) rfl fun a hA => ?_
      obtain ⟨_, hsl5⟩ := Slc.sv hw1.2.2.1
      refine g_easy (i := 3) hA rfl rfl (by kernel_rfl) (.inr hI) (fun _ => r_slen Try.underlying22 hsl5 hA rfl) rfl fun a hA => ?_
      refine g_easy (i := 4) hA rfl rfl (by kernel_rfl) (.inr hI) (fun _ => r_conv Try.underlying3 Try.underlying45 hA rfl) rfl fun a hA => ?_
      refine g_easy (i := 6) hA rfl rfl (by kernel_rfl) (.inr hI) (fun _ => r_fd (k := 33) Try.underlying71 rfl sz22 hA rfl rfl) rfl fun a hA => ?_
      refine g_take (i := 7) hA rfl rfl (by kernel_rfl) hI (fun w hI => r_ld1 (j := 1) [av .u8 32 ((x0.Ins.getD s2.toNat default).From.Tx), [.int .u32 ((x0.Ins.getD s2.toNat default).From.N)]] [[.int .u32 ((x0.Ins.getD s2.toNat default).Seq)]] Try.underlying22 rfl hI rfl hA rfl rfl) rfl fun a hA => ?_
      refine g_forced (i := 5) rfl (by kernel_rfl) ?_
      obtain ⟨r4, hr4, H⟩ := bB H
      refine o_call (fun v w' => ∃ (v0 : Value) (c0 : List Value), v = v0 ∧ Els (RI .u8) 1 r4 c0 ∧ Iv w [] μ μ [row 5 1 v0 r4.length c0] w') cf45 hA rfl ((by obtain ⟨μ3, hle3, hsv4, hI⟩ := hI.freezeRow 0 rfl; have hS3 : Slc (RI .u8) 1 μ3 v5 r3 := ⟨_, hE5, hsv4⟩; exact (compact_Put.c μ3 _ hI.agr r3 v5 hS3 (IntKind.u64.wrap (((x0.Ins.getD s2.toNat default).Key).length : Int)) (wrap_in _ _) r4 hr4).mono fun _ _ ⟨v, he, b0, b1, hv, f0, hi⟩ => ⟨v, he, b0, b1, hv, f0, hi.low hle3⟩)) rfl fun v6 a w hz6 hA => ?_
      obtain ⟨_, cs6, rfl, hE6, hi4⟩ := hz6
      have hI := hI.call hi4
      refine o_nil ?_
      refine ⟨(.inr (hI.sel [1, 2, 3, 4, 5] (by decide) rfl)), ?_⟩
      refine g_forced (i := 8) rfl (by kernel_rfl) ?_
      obtain ⟨cs7, hE7, hsv5⟩ : Slc (RI .u8) 1 μ v3 ((x0.Ins.getD s2.toNat default).Key) := hw1.2.2.1
      obtain ⟨hb3, H⟩ := bG H
      have hE8 := hE6.app hE7
      refine o_appL (xs := (r4 : List Int)) (ys := ((x0.Ins.getD s2.toNat default).Key : List Int)) (j := 0) te5 Try.underlying22 hI rfl hA rfl rfl (src_sl hI.agr hsv5 hE7.len) hE7.len (hE7.ones (one_RI _)) (by first | decide | (have hq := hb3; (try simp only [List.length_cons, List.length_nil] at hq); (try simp only [List.length_cons, List.length_nil]); (try simp only [maxLen]); omega)) (by first | decide | (have hq := hb3; (try simp only [List.length_cons, List.length_nil] at hq); (try simp only [List.length_cons, List.length_nil]); (try simp only [maxLen]); omega)) rfl fun v7 a w hA hI => ?_
      refine o_nil ?_
      refine ⟨(.inr (hI.sel [1, 2, 3, 4, 5] (by decide) rfl)), ?_⟩
      refine g_easy (i := 9) hA rfl rfl (by kernel_rfl) (.inr (hI.sel [1, 2, 3, 4, 5] (by decide) rfl)) (fun _ => r_as hA rfl) rfl fun a hA => ?_
      refine g_nil (by kernel_rfl) ?_
      refine hN10 _ _ ?_
      refine w_reg ?_
      refine stp hA (r_mv hA rfl) rfl fun a hA => 
        stp hA (r_fd (k := 34) Try.underlying71 rfl sz25 hA rfl rfl) rfl fun a hA => 
        stp hA (r_ld1 (j := 2) [av .u8 32 ((x0.Ins.getD s2.toNat default).From.Tx), [.int .u32 ((x0.Ins.getD s2.toNat default).From.N)], [v3]] [] Try.underlying25 rfl hI rfl hA rfl rfl) rfl fun a hA => ?_
      obtain ⟨r5, hr5, H⟩ := bB H
      refine o_call (fun v w' => ∃ (v0 : Value) (c0 : List Value), v = v0 ∧ Els (RI .u8) 1 r5 c0 ∧ Iv w [] μ μ [row 5 1 v0 r5.length c0] w') cf49 hA rfl ((by obtain ⟨μ4, hle4, hsv6, hI⟩ := hI.freezeRow 0 rfl; have hS4 : Slc (RI .u8) 1 μ4 v7 (r4 ++ ((x0.Ins.getD s2.toNat default).Key)) := ⟨_, hE8, hsv6⟩; exact (compact_Four.c μ4 _ hI.agr (r4 ++ ((x0.Ins.getD s2.toNat default).Key)) v7 hS4 ((x0.Ins.getD s2.toNat default).Seq) hw1.2.2.2 r5 hr5).mono fun _ _ ⟨v, he, b0, b1, hv, f0, hi⟩ => ⟨v, he, b0, b1, hv, f0, hi.low hle4⟩)) rfl fun v8 a w hz7 hA => ?_
      obtain ⟨_, cs9, rfl, hE9, hi5⟩ := hz7
      have hI := hI.call hi5
      refine stp hA (r_as hA rfl) rfl fun a hA => ?_
      refine o_nil ?_
      refine hN7 _ _ ?_
      refine w_reg ?_
      refine stp hA (r_add hA rfl rfl) rfl fun a hA => 
        stp hA (r_mv hA rfl) rfl fun a hA => ?_
      refine o_nil ?_
      exact ⟨m1, Nat.lt_succ_self _, r5, IntKind.i64.wrap (s2 + 1), v8, cs9, H, hE9, (wrap_in _ _), hA.sub ⟨rfl, rfl, rfl, rfl, rfl, rfl, rfl, trivial⟩, (hI.sel [0, 5, 6] (by decide) rfl)⟩
    · have hc10 := hc1; have hc1 := of_decide_eq_false hc1; have H := bF H hc1
      refine w_exit rfl ?_
      have H : some s1 = some z1 := H
      obtain rfl := Option.some.inj H
      have H := Hk2
      cases Option.some.inj (bS H)
      exact ⟨vvs1, ccs1, ws1, hA.sub ⟨rfl, rfl, rfl, rfl, trivial⟩, hI⟩
  · rintro a w ⟨vvc1, ccc1, wc1, hA, hI⟩
    have H := Hk1
    refine w_seq fun _ hN11 => ?_
    refine w_reg ?_
    refine stp hA (r_mv hA rfl) rfl fun a hA => 
      stp hA (r_fd (k := 2) Try.underlying67 rfl sz65 hA rfl rfl) rfl fun a hA => 
      stp hA (r_ld1 (j := 2) [[.int .u32 x0.Version], [u0_0]] [[.int .u32 x0.Time]] Try.underlying65 rfl hI rfl hA rfl rfl) rfl fun a hA => ?_
    obtain ⟨_, hsl6⟩ := Slc.sv hx0.2.2.1
    refine stp hA (r_slen Try.underlying65 hsl6 hA rfl) rfl fun a hA => 
      stp hA (r_conv Try.underlying3 Try.underlying45 hA rfl) rfl fun a hA => ?_
    obtain ⟨r6, hr6, H⟩ := bB H
    refine o_call (fun v w' => ∃ (v0 : Value) (c0 : List Value), v = v0 ∧ Els (RI .u8) 1 r6 c0 ∧ Iv w [] μ μ [row 5 1 v0 r6.length c0] w') cf45 hA rfl ((by obtain ⟨μ5, hle5, hsv7, hI⟩ := hI.freezeRow 0 rfl; have hS5 : Slc (RI .u8) 1 μ5 vvc1 c1 := ⟨_, wc1, hsv7⟩; exact (compact_Put.c μ5 _ hI.agr c1 vvc1 hS5 (IntKind.u64.wrap (x0.Outs.length : Int)) (wrap_in _ _) r6 hr6).mono fun _ _ ⟨v, he, b0, b1, hv, f0, hi⟩ => ⟨v, he, b0, b1, hv, f0, hi.low hle5⟩)) rfl fun v9 a w hz8 hA => ?_
    obtain ⟨_, cs10, rfl, hE10, hi6⟩ := hz8
    have hI := hI.call hi6
    refine stp hA (r_as hA rfl) rfl fun a hA => ?_
    refine o_nil ?_
    refine hN11 _ _ ?_
    obtain ⟨c2, hz9, Hk3⟩ := bB H
    refine w_cut (fun a w => ∃ (vvc2 : Value) (ccc2 : List Value), Els (RI .u8) 1 c2 ccc2 ∧ Fr a 72 [(0, .agg [[.int .u32 x0.Version], [u0_0], [u0_1], [.int .u32 x0.Time]].flatten.toArray), (1, .pointer (some ⟨g1, 0, none⟩)), (2, (.slice none 0 0)), (3, vvc2)] ∧ Iv w0 [] μ μ [row 5 1 vvc2 c2.length ccc2, row 5 1 vvc1 c1.length ccc1, row 5 1 v1 r1.length cs1, cel g1 [[.int .u32 x0.Version], [u0_0], [u0_1], [.int .u32 x0.Time]] 67] w) ?_ ?_
    · have H := bI hz9
      refine w_seq fun _ hN12 => ?_
      refine w_reg ?_
      refine stp hA (r_fd (k := 2) Try.underlying67 rfl sz65 hA rfl rfl) rfl fun a hA => 
        stp hA (r_ld1 (j := 3) [[.int .u32 x0.Version], [u0_0]] [[.int .u32 x0.Time]] Try.underlying65 rfl hI rfl hA rfl rfl) rfl fun a hA => ?_
      obtain ⟨_, hsl7⟩ := Slc.sv hx0.2.2.1
      refine stp hA (r_slen Try.underlying65 hsl7 hA rfl) rfl fun a hA => 
        stp hA (r_mv hA rfl) rfl fun a hA => ?_
      refine o_nil ?_
      refine hN12 _ _ ?_
      refine w_block ?_
      obtain ⟨z2, hz10, Hk4⟩ := bind_some H
      obtain ⟨n2, hn2⟩ := loopO_some hz10
      refine w_loop (fun n a w => ∃ (s3 : List Int) (s4 : Int) (vvs3 : Value) (ccs3 : List Value), loopN (tx_Bytes.s1 x0) n (s3, s4) = some z2 ∧ Els (RI .u8) 1 s3 ccs3 ∧ InR .i64 s4 ∧ Fr a 72 [(0, .agg [[.int .u32 x0.Version], [u0_0], [u0_1], [.int .u32 x0.Time]].flatten.toArray), (1, .pointer (some ⟨g1, 0, none⟩)), (2, (.slice none 0 0)), (3, vvs3), (54, u0_1), (55, .int .i64 (x0.Outs.length : Int)), (56, .int .i64 s4)] ∧ Iv w0 [] μ μ [row 5 1 vvs3 s3.length ccs3, row 5 1 vvc1 c1.length ccc1, row 5 1 v1 r1.length cs1, cel g1 [[.int .u32 x0.Version], [u0_0], [u0_1], [.int .u32 x0.Time]] 67] w) n2 ⟨r6, 0, v9, cs10, hn2, hE10, (in_lit .i64 0 rfl), hA.sub ⟨rfl, rfl, rfl, rfl, rfl, rfl, rfl, trivial⟩, hI⟩ ?_
      clear hA hI
      rintro n a w ⟨s3, s4, vvs3, ccs3, hn2, ws3, ws4, hA, hI⟩
      obtain ⟨m2, rfl, H⟩ := loopN_bind hn2
      clear hn2
      refine w_seq fun _ hN13 => ?_
      refine w_reg ?_
      refine stp hA (r_lss hA rfl rfl) rfl fun a hA => ?_
      refine o_nil ?_
      refine hN13 _ _ ?_
      refine w_seq fun _ hN14 => ?_
      refine w_cond hA rfl (fun hc2 => ?_) (fun hc2 => ?_)
      · have hc20 := hc2; have hc2 := of_decide_eq_true hc2; have H := bT H hc2
        refine w_skip ?_
        refine hN14 _ _ ?_
        refine w_seq fun _ hN15 => ?_
        refine w_block ?_
        refine w_seq fun _ hN16 => ?_
        refine w_reg ?_
        obtain ⟨hb4, H⟩ := bG H
        obtain ⟨_, he2, _, hat2⟩ := Slc.elem hx0.2.2.1 (getD_some default hb4.1 hb4.2)
        obtain ⟨rfl, hw2⟩ := he2
        obtain ⟨_, hsl8⟩ := Slc.sv hx0.2.2.1
        refine stp hA (r_six Try.underlying65 sz73 hsl8 hA rfl rfl hb4.1 hb4.2) rfl fun a hA => 
          stp hA (r_ldmA [] [[.int .u64 ((x0.Outs.getD s4.toNat default).Value)], av .u8 32 ((x0.Outs.getD s4.toNat default).Lock)] [] Try.underlying73 rfl sz73 rfl hI.agr hat2 hA rfl rfl) rfl fun a hA => 
          o_new [[.int .u64 0], av .u8 32 (List.replicate 32 0)] zr73 hI hA rfl fun g3 a w hA hI hg3 => 
          o_st (j := 0) [] [[.int .u64 0], av .u8 32 (List.replicate 32 0)] [[.int .u64 ((x0.Outs.getD s4.toNat default).Value)], av .u8 32 ((x0.Outs.getD s4.toNat default).Lock)] [] sz73 rfl rfl (fl_cons (one_one rfl) (fl_cons (one_av _ _ _) fl_nil)) hI rfl hA rfl rfl rfl rfl fun w hI => ?_
        refine o_nil ?_
        refine hN16 _ _ ?_
        refine w_anyS [] mo (fun w (h : Iv w0 [] μ μ [cel g3 [[.int .u64 ((x0.Outs.getD s4.toNat default).Value)], av .u8 32 ((x0.Outs.getD s4.toNat default).Lock)] 73, row 5 1 vvs3 s3.length ccs3, row 5 1 vvc1 c1.length ccc1, row 5 1 v1 r1.length cs1, cel g1 [[.int .u32 x0.Version], [u0_0], [u0_1], [.int .u32 x0.Time]] 67] w) => (h.sel [0, 1, 2, 3, 4] (by decide) rfl : Iv w0 [] μ μ [cel g3 [[.int .u64 ((x0.Outs.getD s4.toNat default).Value)], av .u8 32 ((x0.Outs.getD s4.toNat default).Lock)] 73, row 5 1 vvs3 s3.length ccs3, row 5 1 vvc1 c1.length ccc1, row 5 1 v1 r1.length cs1, cel g1 [[.int .u32 x0.Version], [u0_0], [u0_1], [.int .u32 x0.Time]] 67] w)) hI fun w hI => ?_
        refine g_easy (i := 0) hA rfl rfl (by kernel_rfl) (.inr hI) (fun _ => r_mv hA rfl) rfl fun a hA => ?_
        refine g_easy (i := 1) hA rfl rfl (by kernel_rfl) (.inr hI) (fun _ => r_fd (k := 0) Try.underlying73 rfl sz45 hA rfl rfl) rfl fun a hA => ?_
        refine g_take (i := 2) hA rfl rfl (by kernel_rfl) hI (fun w hI => r_ld1 (j := 0) [] [av .u8 32 ((x0.Outs.getD s4.toNat default).Lock)] Try.underlying45 rfl hI rfl hA rfl rfl) rfl fun a hA => ?_
        refine g_easy (i := 4) hA rfl rfl (by kernel_rfl) (.inr hI) (fun _ => r_fd (k := 1) Try.underlying73 rfl sz33 hA rfl rfl) rfl fun a hA => ?_
        refine g_easy (i := 5) hA rfl rfl (by kernel_rfl) (.inr hI) (fun _ => r_slv (i := 0) (j := 32) Try.underlying33 sz5 hA rfl rfl rfl (by decide) (by decide) (by decide) (by decide) rfl) rfl fun a hA => ?_
        refine g_forced (i := 3) rfl (by kernel_rfl) ?_
        obtain ⟨r7, hr7, H⟩ := bB H
        refine o_call (fun v w' => ∃ (v0 : Value) (c0 : List Value), v = v0 ∧ Els (RI .u8) 1 r7 c0 ∧ Iv w [] μ μ [row 5 1 v0 r7.length c0] w') cf51 hA rfl ((by obtain ⟨μ6, hle6, hsv8, hI⟩ := hI.freezeRow 1 rfl; have hS6 : Slc (RI .u8) 1 μ6 vvs3 s3 := ⟨_, ws3, hsv8⟩; exact (compact_Eight.c μ6 _ hI.agr s3 vvs3 hS6 ((x0.Outs.getD s4.toNat default).Value) hw2.1 r7 hr7).mono fun _ _ ⟨v, he, b0, b1, hv, f0, hi⟩ => ⟨v, he, b0, b1, hv, f0, hi.low hle6⟩)) rfl fun v10 a w hz11 hA => ?_
        obtain ⟨_, cs11, rfl, hE11, hi7⟩ := hz11
        have hI := hI.call hi7
        refine o_nil ?_
        refine ⟨(.inr (hI.sel [1, 2, 3, 4, 5] (by decide) rfl)), ?_⟩
        refine g_forced (i := 6) rfl (by kernel_rfl) ?_
        have hE12 := els_av hw2.2
        obtain ⟨hb5, H⟩ := bG H
        have hE13 := hE11.app hE12
        refine o_appL (xs := (r7 : List Int)) (ys := ((x0.Outs.getD s4.toNat default).Lock : List Int)) (j := 0) te5 Try.underlying22 hI rfl hA rfl rfl (by simpa using src_cel [[.int .u64 ((x0.Outs.getD s4.toNat default).Value)]] [] hI (j := 1) rfl hw2.2 rfl) hE12.len (hE12.ones (one_RI _)) (by first | decide | (have hq := hb5; (try simp only [List.length_cons, List.length_nil] at hq); (try simp only [List.length_cons, List.length_nil]); (try simp only [maxLen]); omega)) (by first | decide | (have hq := hb5; (try simp only [List.length_cons, List.length_nil] at hq); (try simp only [List.length_cons, List.length_nil]); (try simp only [maxLen]); omega)) rfl fun v11 a w hA hI => ?_
        refine o_nil ?_
        refine ⟨(.inr (hI.sel [1, 2, 3, 4, 5] (by decide) rfl)), ?_⟩
        refine g_easy (i := 7) hA rfl rfl (by kernel_rfl) (.inr (hI.sel [1, 2, 3, 4, 5] (by decide) rfl)) (fun _ => r_as hA rfl) rfl fun a hA => ?_
        refine g_nil (by kernel_rfl) ?_
        refine hN15 _ _ ?_
        refine w_reg ?_
        refine stp hA (r_add hA rfl rfl) rfl fun a hA => 
          stp hA (r_mv hA rfl) rfl fun a hA => ?_
        refine o_nil ?_
        exact ⟨m2, Nat.lt_succ_self _, r7 ++ ((x0.Outs.getD s4.toNat default).Lock), IntKind.i64.wrap (s4 + 1), v11, cs11 ++ ([av .u8 32 ((x0.Outs.getD s4.toNat default).Lock)].flatten), H, hE13, (wrap_in _ _), hA.sub ⟨rfl, rfl, rfl, rfl, rfl, rfl, rfl, trivial⟩, (hI.sel [0, 3, 4, 5] (by decide) rfl)⟩
      · have hc20 := hc2; have hc2 := of_decide_eq_false hc2; have H := bF H hc2
        refine w_exit rfl ?_
        have H : some s3 = some z2 := H
        obtain rfl := Option.some.inj H
        have H := Hk4
        cases Option.some.inj (bS H)
        exact ⟨vvs3, ccs3, ws3, hA.sub ⟨rfl, rfl, rfl, rfl, trivial⟩, hI⟩
    · rintro a w ⟨vvc2, ccc2, wc2, hA, hI⟩
      have H := Hk3
      refine w_seq fun _ hN17 => ?_
      refine w_reg ?_
      refine stp hA (r_mv hA rfl) rfl fun a hA => 
        stp hA (r_fd (k := 3) Try.underlying67 rfl sz25 hA rfl rfl) rfl fun a hA => 
        stp hA (r_ld1 (j := 3) [[.int .u32 x0.Version], [u0_0], [u0_1]] [] Try.underlying25 rfl hI rfl hA rfl rfl) rfl fun a hA => ?_
      obtain ⟨r8, hr8, H⟩ := bB H
      refine o_call (fun v w' => ∃ (v0 : Value) (c0 : List Value), v = v0 ∧ Els (RI .u8) 1 r8 c0 ∧ Iv w [] μ μ [row 5 1 v0 r8.length c0] w') cf49 hA rfl ((by obtain ⟨μ7, hle7, hsv10, hI⟩ := hI.freezeRow 0 rfl; have hS7 : Slc (RI .u8) 1 μ7 vvc2 c2 := ⟨_, wc2, hsv10⟩; exact (compact_Four.c μ7 _ hI.agr c2 vvc2 hS7 x0.Time hx0.2.2.2 r8 hr8).mono fun _ _ ⟨v, he, b0, b1, hv, f0, hi⟩ => ⟨v, he, b0, b1, hv, f0, hi.low hle7⟩)) rfl fun v12 a w hz12 hA => ?_
      obtain ⟨_, cs14, rfl, hE14, hi8⟩ := hz12
      have hI := hI.call hi8
      refine stp hA (r_as hA rfl) rfl fun a hA => ?_
      refine o_nil ?_
      refine hN17 _ _ ?_
      refine w_ret ?_
      obtain rfl := Option.some.inj (bS H)
      exact ret1 hA Try.results95 rfl ⟨_, rfl, v12, cs14, rfl, hE14, ((hI.sel [0] (by decide) rfl).less (Store.le.refl _) hI.le)⟩

/-! tx.Size: function 96 -/
set_option maxRecDepth 20000 in
theorem tx_Size.c (μ : Store) (w0 : World) (hμ : Agr μ w0) (x0 : Tx) (u0_0 : Value) (u0_1 : Value) (hx0 : TxW μ x0 u0_0 u0_1) (r : Int) (H : tx_Size.f x0 = some r) :
    Calls Try.prog 96 [.agg [[.int .u32 x0.Version], [u0_0], [u0_1], [.int .u32 x0.Time]].flatten.toArray].toArray w0 (fun e w' => ∃ v, e = .returned v ∧ v = .int .i64 r ∧ InR .i64 r ∧ Iv w0 [] μ μ [] w') := by
  refine enter Try.func96 rfl Try.ntmps96 rfl fun a hA => ?_
  have hI := Iv.start hμ
  have H := bI H
  refine w_seq fun _ hN1 => ?_
  refine w_reg ?_
  refine o_box [[.int .u32 x0.Version], [u0_0], [u0_1], [.int .u32 x0.Time]] hI hA rfl rfl rfl fun g1 a w hA hI hg1 => 
    stp hA (r_as hA rfl) rfl fun a hA => ?_
  refine o_nil ?_
  refine hN1 _ _ ?_
  refine w_seq fun _ hN2 => ?_
  refine w_reg ?_
  refine stp hA (r_ldA (j := 0) [] [[.int .u32 x0.Version], [u0_0], [u0_1], [.int .u32 x0.Time]] [] Try.underlying67 rfl sz67 rfl hI rfl hA rfl rfl) rfl fun a hA => ?_
  obtain ⟨r1, hr1, H⟩ := bB H
  refine o_call _ cf95 hA rfl (tx_Bytes.c μ _ hI.agr x0 u0_0 u0_1 ⟨hx0.1, hx0.2.1, hx0.2.2.1, hx0.2.2.2⟩ r1 hr1) rfl fun v1 a w hz1 hA => ?_
  obtain ⟨_, cs1, rfl, hE1, hi1⟩ := hz1
  have hI := hI.call hi1
  have hlen1 := Iv.row_in hI (j := 0) rfl
  refine stp hA (r_rlen (xs := 0) Try.underlying22 hI (j := 0) rfl hA rfl) rfl fun a hA => 
    stp hA (r_as hA rfl) rfl fun a hA => ?_
  refine o_nil ?_
  refine hN2 _ _ ?_
  refine w_ret ?_
  obtain rfl := Option.some.inj (bS H)
  exact ret1 hA Try.results96 rfl ⟨_, rfl, rfl, hlen1, hI.forget0⟩

/-! slices.Clone[[]sargasso/api.In,sargasso/api.In]: function 97 -/
set_option maxRecDepth 20000 in
theorem slices_Clone_api_In_api_In.c (μ : Store) (w0 : World) (hμ : Agr μ w0) (x0 : List In) (u0 : Value) (hx0 : Slc (RIn μ) 35 μ u0 x0) (r : List In) (H : slices_Clone_api_In_api_In.f x0 = some r) :
    Calls Try.prog 97 [u0].toArray w0 (fun e w' => ∃ v, e = .returned v ∧ ∃ (v0 : Value) (c0 : List Value) (μ' : Store), v = v0 ∧ Els (RIn μ') 35 r c0 ∧ Iv w0 [] μ μ' [row 71 35 v0 r.length c0] w') := by
  obtain ⟨hb, H⟩ := guard_some H
  obtain rfl := Option.some.inj H
  obtain ⟨cs, hE, A, cp, rfl, h2, h3, h4, h5⟩ := hx0
  refine enter Try.func97 rfl Try.ntmps97 rfl fun a hA => ?_
  have hI := Iv.start hμ
  refine w_seq fun _ hN1 => w_reg (stp hA (r_as hA rfl) rfl fun a hA => o_nil (hN1 _ _ ?_))
  refine w_seq fun _ hN2 => w_seq fun _ hN3 => w_reg (stp hA (r_mv hA rfl) rfl fun a hA => stp hA (r_eqnil Try.underlying64 hA rfl rfl) rfl fun a hA => o_nil (hN3 _ _ ?_))
  refine w_cond hA rfl (fun hc => ?_) (fun hc => ?_)
  · have hx : x0 = [] := List.eq_nil_of_length_eq_zero (by
      rcases Nat.eq_zero_or_pos x0.length with h | h
      · exact h
      · rw [h4 (by omega)] at hc; cases hc)
    subst hx
    cases hE
    refine w_seq fun _ hN4 => w_reg (stp hA (r_as hA rfl) rfl fun a hA => o_nil (hN4 _ _ ?_))
    refine w_ret ?_
    have hI := hI.nilRow 71 35
    exact ret1 hA Try.results97 rfl ⟨_, rfl, .slice none 0 0, [], μ, rfl, .nil, hI⟩
  · refine w_skip (hN2 _ _ ?_)
    refine w_seq fun _ hN5 => w_reg ?_
    refine o_bsl [] te71 zr71 Try.underlying64 hI hA rfl rfl rfl rfl (by kernel_rfl) rfl fun g a w hA hI => ?_
    refine stp hA (r_mv hA rfl) rfl fun a hA => ?_
    refine o_appL (xs := ([] : List In)) (ys := x0) (j := 0) te71 Try.underlying64 hI rfl hA rfl rfl (src_sl hI.agr ⟨A, cp, rfl, h2, h3, h4, h5⟩ hE.len) hE.len (hE.ones RIn.ones) (by simp only [List.length_nil, maxLen]; omega) (by simp only [List.length_nil]; omega) rfl fun v a w hA hI => ?_
    refine stp hA (r_as hA rfl) rfl fun a hA => o_nil (hN5 _ _ (w_ret ?_))
    exact ret1 hA Try.results97 rfl ⟨_, rfl, v, cs, μ, rfl, hE, hI⟩

/-! slices.Clone[[]sargasso/api.Out,sargasso/api.Out]: function 98 -/
set_option maxRecDepth 20000 in
theorem slices_Clone_api_Out_api_Out.c (μ : Store) (w0 : World) (hμ : Agr μ w0) (x0 : List Out) (u0 : Value) (hx0 : Slc (ROut μ) 33 μ u0 x0) (r : List Out) (H : slices_Clone_api_Out_api_Out.f x0 = some r) :
    Calls Try.prog 98 [u0].toArray w0 (fun e w' => ∃ v, e = .returned v ∧ ∃ (v0 : Value) (c0 : List Value) (μ' : Store), v = v0 ∧ Els (ROut μ') 33 r c0 ∧ Iv w0 [] μ μ' [row 73 33 v0 r.length c0] w') := by
  obtain ⟨hb, H⟩ := guard_some H
  obtain rfl := Option.some.inj H
  obtain ⟨cs, hE, A, cp, rfl, h2, h3, h4, h5⟩ := hx0
  refine enter Try.func98 rfl Try.ntmps98 rfl fun a hA => ?_
  have hI := Iv.start hμ
  refine w_seq fun _ hN1 => w_reg (stp hA (r_as hA rfl) rfl fun a hA => o_nil (hN1 _ _ ?_))
  refine w_seq fun _ hN2 => w_seq fun _ hN3 => w_reg (stp hA (r_mv hA rfl) rfl fun a hA => stp hA (r_eqnil Try.underlying65 hA rfl rfl) rfl fun a hA => o_nil (hN3 _ _ ?_))
  refine w_cond hA rfl (fun hc => ?_) (fun hc => ?_)
  · have hx : x0 = [] := List.eq_nil_of_length_eq_zero (by
      rcases Nat.eq_zero_or_pos x0.length with h | h
      · exact h
      · rw [h4 (by omega)] at hc; cases hc)
    subst hx
    cases hE
    refine w_seq fun _ hN4 => w_reg (stp hA (r_as hA rfl) rfl fun a hA => o_nil (hN4 _ _ ?_))
    refine w_ret ?_
    have hI := hI.nilRow 73 33
    exact ret1 hA Try.results98 rfl ⟨_, rfl, .slice none 0 0, [], μ, rfl, .nil, hI⟩
  · refine w_skip (hN2 _ _ ?_)
    refine w_seq fun _ hN5 => w_reg ?_
    refine o_bsl [] te73 zr73 Try.underlying65 hI hA rfl rfl rfl rfl (by kernel_rfl) rfl fun g a w hA hI => ?_
    refine stp hA (r_mv hA rfl) rfl fun a hA => ?_
    refine o_appL (xs := ([] : List Out)) (ys := x0) (j := 0) te73 Try.underlying65 hI rfl hA rfl rfl (src_sl hI.agr ⟨A, cp, rfl, h2, h3, h4, h5⟩ hE.len) hE.len (hE.ones ROut.ones) (by simp only [List.length_nil, maxLen]; omega) (by simp only [List.length_nil]; omega) rfl fun v a w hA hI => ?_
    refine stp hA (r_as hA rfl) rfl fun a hA => o_nil (hN5 _ _ (w_ret ?_))
    exact ret1 hA Try.results98 rfl ⟨_, rfl, v, cs, μ, rfl, hE, hI⟩

/-! tx.Clone: function 65 -/
set_option maxRecDepth 20000 in
theorem tx_Clone.c (μ : Store) (w0 : World) (hμ : Agr μ w0) (x0 : Tx) (u0_0 : Value) (u0_1 : Value) (hx0 : TxW μ x0 u0_0 u0_1) (r : Tx) (H : tx_Clone.f x0 = some r) :
    Calls Try.prog 65 [.agg [[.int .u32 x0.Version], [u0_0], [u0_1], [.int .u32 x0.Time]].flatten.toArray].toArray w0 (fun e w' => ∃ v, e = .returned v ∧ ∃ (v0_0 : Value) (v0_1 : Value) (μ' : Store), v = .agg [[.int .u32 r.Version], [v0_0], [v0_1], [.int .u32 r.Time]].flatten.toArray ∧ TxW μ' r v0_0 v0_1 ∧ Iv w0 [] μ μ' [] w') := by
  refine enter Try.func65 rfl Try.ntmps65 rfl fun a hA => ?_
  have hI := Iv.start hμ
  have H := bI H
  refine w_seq fun _ hN1 => ?_
  refine w_reg ?_
  refine o_box [[.int .u32 x0.Version], [u0_0], [u0_1], [.int .u32 x0.Time]] hI hA rfl rfl rfl fun g1 a w hA hI hg1 => 
    o_new [[.int .u32 0], [(.slice none 0 0)], [(.slice none 0 0)], [.int .u32 0]] zr67 hI hA rfl fun g2 a w hA hI hg2 => ?_
  refine o_nil ?_
  refine hN1 _ _ ?_
  refine w_seq fun _ hN2 => ?_
  refine w_any [7, 9] mo hI fun w hI => ?_
  refine g_easy (i := 0) hA rfl rfl (by kernel_rfl) (.inr hI) (fun _ => r_fd (k := 1) Try.underlying67 rfl sz64 hA rfl rfl) rfl fun a hA => ?_
  refine g_take (i := 1) hA rfl rfl (by kernel_rfl) hI (fun w hI => r_ld1 (j := 1) [[.int .u32 x0.Version]] [[u0_1], [.int .u32 x0.Time]] Try.underlying64 rfl hI rfl hA rfl rfl) rfl fun a hA => ?_
  refine g_easy (i := 3) hA rfl rfl (by kernel_rfl) (.inr hI) (fun _ => r_fd (k := 2) Try.underlying67 rfl sz65 hA rfl rfl) rfl fun a hA => ?_
  refine g_take (i := 4) hA rfl rfl (by kernel_rfl) hI (fun w hI => r_ld1 (j := 1) [[.int .u32 x0.Version], [u0_0]] [[.int .u32 x0.Time]] Try.underlying65 rfl hI rfl hA rfl rfl) rfl fun a hA => ?_
  refine g_forced (i := 2) rfl (by kernel_rfl) ?_
  obtain ⟨r1, hr1, H⟩ := bB H
  refine o_call _ cf97 hA rfl (slices_Clone_api_In_api_In.c μ _ hI.agr x0.Ins u0_0 hx0.2.1 r1 hr1) rfl fun v1 a w hz1 hA => ?_
  obtain ⟨_, cs1, μ1, rfl, hE1, hi1⟩ := hz1
  have hI := hI.call hi1
  refine o_nil ?_
  refine ⟨(.inr ((hI.sel [1, 2] (by decide) rfl).less (Store.le.refl _) hi1.le)), ?_⟩
  refine g_easy (i := 6) hA rfl rfl (by kernel_rfl) (.inr ((hI.sel [1, 2] (by decide) rfl).less (Store.le.refl _) hi1.le)) (fun _ => r_fd (k := 1) Try.underlying67 rfl sz64 hA rfl rfl) rfl fun a hA => ?_
  refine g_forced (i := 5) rfl (by kernel_rfl) ?_
  obtain ⟨r2, hr2, H⟩ := bB H
  refine o_call _ cf98 hA rfl (slices_Clone_api_Out_api_Out.c μ1 _ hI.agr x0.Outs u0_1 (Slc.le hx0.2.2.1 (fun _ _ h => ROut.le hi1.le h) hi1.le) r2 hr2) rfl fun v2 a w hz2 hA => ?_
  obtain ⟨_, cs2, μ2, rfl, hE2, hi2⟩ := hz2
  have hI := hI.call hi2
  refine o_nil ?_
  refine ⟨(.inr ((hI.sel [2, 3] (by decide) rfl).less (Store.le.refl _) (hi1.le.trans hi2.le))), ?_⟩
  refine g_forced (i := 7) rfl (by kernel_rfl) ?_
  have hone := own_one hI (j := 1) rfl
  have hcel := own_cell hI (j := 1) rfl
  refine o_st (j := 3) [[.int .u32 x0.Version]] [[u0_0]] [[v1]] [[u0_1], [.int .u32 x0.Time]] sz64 rfl rfl (by intro c hc; simp at hc; subst hc; exact hone) hI rfl hA rfl rfl hcel rfl fun w hI => ?_
  refine o_nil ?_
  refine ⟨(.inl (by kernel_rfl)), ?_⟩
  refine g_easy (i := 8) hA rfl rfl (by kernel_rfl) (.inl (by kernel_rfl)) (fun _ => r_fd (k := 2) Try.underlying67 rfl sz65 hA rfl rfl) rfl fun a hA => ?_
  refine g_forced (i := 9) rfl (by kernel_rfl) ?_
  have hone := own_one hI (j := 0) rfl
  have hcel := own_cell hI (j := 0) rfl
  refine o_st (j := 3) [[.int .u32 x0.Version], [v1]] [[u0_1]] [[v2]] [[.int .u32 x0.Time]] sz65 rfl rfl (by intro c hc; simp at hc; subst hc; exact hone) hI rfl hA rfl rfl hcel rfl fun w hI => ?_
  refine o_nil ?_
  refine ⟨(.inl (by kernel_rfl)), ?_⟩
  refine g_nil (by kernel_rfl) ?_
  refine hN2 _ _ ?_
  obtain ⟨c1, hz3, Hk1⟩ := bB H
  refine w_cut (fun a w => ∃ (μ3 : Store) (ccc1 : List Value), μ2.le μ3 ∧ Els (RIn μ3) 35 c1 ccc1 ∧ Fr a 32 [(0, .agg [[.int .u32 x0.Version], [u0_0], [u0_1], [.int .u32 x0.Time]].flatten.toArray), (1, .pointer (some ⟨g1, 0, none⟩)), (2, .pointer (some ⟨g2, 0, none⟩))] ∧ Iv w0 [] μ μ3 [row 73 33 v2 r2.length cs2, row 71 35 v1 c1.length ccc1, cel g2 [[.int .u32 0], [(.slice none 0 0)], [(.slice none 0 0)], [.int .u32 0]] 67, cel g1 [[.int .u32 x0.Version], [v1], [v2], [.int .u32 x0.Time]] 67] w) ?_ ?_
  · have H := bI hz3
    refine w_seq fun _ hN3 => ?_
    refine w_reg ?_
    refine stp hA (r_fd (k := 1) Try.underlying67 rfl sz64 hA rfl rfl) rfl fun a hA => 
      stp hA (r_ld1 (j := 3) [[.int .u32 x0.Version]] [[v2], [.int .u32 x0.Time]] Try.underlying64 rfl hI rfl hA rfl rfl) rfl fun a hA => ?_
    have hlen1 := Iv.row_in hI (j := 1) rfl
    refine stp hA (r_rlen (xs := 0) Try.underlying64 hI (j := 1) rfl hA rfl) rfl fun a hA => 
      stp hA (r_mv hA rfl) rfl fun a hA => ?_
    refine o_nil ?_
    refine hN3 _ _ ?_
    refine w_block ?_
    obtain ⟨z1, hz4, Hk2⟩ := bind_some H
    obtain ⟨n1, hn1⟩ := loopO_some hz4
    refine w_loop (fun n a w => ∃ (s1 : Int) (s2 : List In) (μ4 : Store) (ccs2 : List Value), loopN (tx_Clone.s0 r1) n (s1, s2) = some z1 ∧ μ2.le μ4 ∧ InR .i64 s1 ∧ Els (RIn μ4) 35 s2 ccs2 ∧ Fr a 32 [(0, .agg [[.int .u32 x0.Version], [u0_0], [u0_1], [.int .u32 x0.Time]].flatten.toArray), (1, .pointer (some ⟨g1, 0, none⟩)), (2, .pointer (some ⟨g2, 0, none⟩)), (14, .int .i64 (r1.length : Int)), (15, .int .i64 s1)] ∧ Iv w0 [] μ μ4 [row 73 33 v2 r2.length cs2, row 71 35 v1 s2.length ccs2, cel g2 [[.int .u32 0], [(.slice none 0 0)], [(.slice none 0 0)], [.int .u32 0]] 67, cel g1 [[.int .u32 x0.Version], [v1], [v2], [.int .u32 x0.Time]] 67] w) n1 ⟨0, r1, μ2, cs1, hn1, (Store.le.refl _), (in_lit .i64 0 rfl), (Els.mono hE1 (fun _ _ h => RIn.le hi2.le h)), hA.sub ⟨rfl, rfl, rfl, rfl, rfl, trivial⟩, hI⟩ ?_
    clear hA hI
    rintro n a w ⟨s1, s2, μ4, ccs2, hn1, hle2, ws1, ws2, hA, hI⟩
    obtain ⟨m1, rfl, H⟩ := loopN_bind hn1
    clear hn1
    refine w_seq fun _ hN4 => ?_
    refine w_reg ?_
    refine stp hA (r_lss hA rfl rfl) rfl fun a hA => ?_
    refine o_nil ?_
    refine hN4 _ _ ?_
    refine w_seq fun _ hN5 => ?_
    refine w_cond hA rfl (fun hc1 => ?_) (fun hc1 => ?_)
    · have hc10 := hc1; have hc1 := of_decide_eq_true hc1; have H := bT H hc1
      refine w_skip ?_
      refine hN5 _ _ ?_
      refine w_seq fun _ hN6 => ?_
      refine w_block ?_
      refine w_seq fun _ hN7 => ?_
      refine w_reg ?_
      refine stp hA (r_mv hA rfl) rfl fun a hA => 
        stp hA (r_as hA rfl) rfl fun a hA => ?_
      refine o_nil ?_
      refine hN7 _ _ ?_
      refine w_any [12] mo hI fun w hI => ?_
      refine g_easy (i := 0) hA rfl rfl (by kernel_rfl) (.inr hI) (fun _ => r_fd (k := 1) Try.underlying67 rfl sz64 hA rfl rfl) rfl fun a hA => ?_
      refine g_take (i := 1) hA rfl rfl (by kernel_rfl) hI (fun w hI => r_ld1 (j := 3) [[.int .u32 x0.Version]] [[v2], [.int .u32 x0.Time]] Try.underlying64 rfl hI rfl hA rfl rfl) rfl fun a hA => ?_
      refine g_easy (i := 2) hA rfl rfl (by kernel_rfl) (.inr hI) (fun _ => r_mv hA rfl) rfl fun a hA => ?_
      refine g_easy (i := 3) hA rfl rfl (by kernel_rfl) (.inr hI) (fun _ => r_fd (k := 1) Try.underlying67 rfl sz64 hA rfl rfl) rfl fun a hA => ?_
      refine g_take (i := 4) hA rfl rfl (by kernel_rfl) hI (fun w hI => r_ld1 (j := 3) [[.int .u32 x0.Version]] [[v2], [.int .u32 x0.Time]] Try.underlying64 rfl hI rfl hA rfl rfl) rfl fun a hA => ?_
      refine g_easy (i := 5) hA rfl rfl (by kernel_rfl) (.inr hI) (fun _ => r_mv hA rfl) rfl fun a hA => ?_
      obtain ⟨hb1, H⟩ := bG H
      refine g_take (i := 6) hA rfl rfl (by kernel_rfl) hI (fun w hI => r_rix (j := 1) Try.underlying64 sz71 hI rfl hA rfl rfl hb1.1 hb1.2) rfl fun a hA => ?_
      refine g_easy (i := 7) hA rfl rfl (by kernel_rfl) (.inr hI) (fun _ => r_fd (k := so v1 + s1.toNat * 35 + 33) Try.underlying71 rfl sz22 hA rfl rfl) rfl fun a hA => ?_
      obtain ⟨A1, _, B1, hc2, hl1, _, he1⟩ := Els.at_ ws2 (getD_some default hb1.1 hb1.2)
      obtain ⟨v3, rfl, hw1⟩ := he1
      refine g_take (i := 8) hA rfl rfl (by kernel_rfl) hI (fun w hI => r_rldQ (j := 1) (q := s1.toNat * 35) (off := 33) A1 B1 [av .u8 32 ((s2.getD s1.toNat default).From.Tx), [.int .u32 ((s2.getD s1.toNat default).From.N)]] [[.int .u32 ((s2.getD s1.toNat default).Seq)]] hc2 hl1 rfl Try.underlying22 rfl hI rfl hA rfl) rfl fun a hA => ?_
      refine g_forced (i := 9) rfl (by kernel_rfl) ?_
      obtain ⟨r3, hr3, H⟩ := bB H
      refine o_call _ cf88 hA rfl (bytes_Clone.c μ4 _ hI.agr ((s2.getD s1.toNat default).Key) v3 hw1.2.2.1 r3 hr3) rfl fun v4 a w hz5 hA => ?_
      obtain ⟨_, cs3, rfl, hE3, hi3⟩ := hz5
      have hI := hI.call hi3
      refine o_nil ?_
      refine ⟨(.inr (hI.sel [1, 2, 3, 4] (by decide) rfl)), ?_⟩
      refine g_mono (I' := fun w => Iv w0 [] μ μ4 [row 5 1 v4 r3.length cs3, row 73 33 v2 r2.length cs2, row 71 35 v1 s2.length ccs2, cel g2 [[.int .u32 0], [(.slice none 0 0)], [(.slice none 0 0)], [.int .u32 0]] 67, cel g1 [[.int .u32 x0.Version], [v1], [v2], [.int .u32 x0.Time]] 67] w) (fun w h => (h.sel [1, 2, 3, 4] (by decide) rfl)) _ _ _ _ ?_
      refine g_take (i := 10) hA rfl rfl (by kernel_rfl) hI (fun w hI => r_rix (j := 2) Try.underlying64 sz71 hI rfl hA rfl rfl hb1.1 hb1.2) rfl fun a hA => ?_
      refine g_easy (i := 11) hA rfl rfl (by kernel_rfl) (.inr hI) (fun _ => r_fd (k := so v1 + s1.toNat * 35 + 33) Try.underlying71 rfl sz22 hA rfl rfl) rfl fun a hA => ?_
      refine g_forced (i := 12) rfl (by kernel_rfl) ?_
      obtain ⟨μ5, hle3, hsv1, hI, hth1⟩ := hI.freezeRowT 0 rfl
      have hS1 : Slc (RI .u8) 1 μ5 v4 r3 := ⟨_, hE3, hsv1⟩
      obtain ⟨A2, _, B2, hc3, hl2, hl3, he2⟩ := Els.at_ (Els.mono ws2 (fun _ _ h => RIn.le hle3 h)) (getD_some default hb1.1 hb1.2)
      obtain ⟨v5, rfl, hw2⟩ := he2
      have hE4 := Els.setAt (y := (⟨(s2.getD s1.toNat default).From, r3, (s2.getD s1.toNat default).Seq⟩ : In)) (d := [av .u8 32 ((s2.getD s1.toNat default).From.Tx), [.int .u32 ((s2.getD s1.toNat default).From.N)], [v4], [.int .u32 ((s2.getD s1.toNat default).Seq)]].flatten) (Els.mono ws2 (fun _ _ h => RIn.le hle3 h)) hc3 (idx_lt hb1.1 hb1.2) hl2 hl3 ⟨v4, rfl, ⟨hw2.1, hw2.2.1, hS1, hw2.2.2.2⟩⟩ rfl
      obtain ⟨_, hsc1⟩ := Slc.sv hS1
      refine o_rstPL (j := 1) (q := s1.toNat * 35) (off := 33) (m' := (s2.set s1.toNat (⟨(s2.getD s1.toNat default).From, r3, (s2.getD s1.toNat default).Seq⟩ : In)).length) A2 B2 [av .u8 32 ((s2.getD s1.toNat default).From.Tx), [.int .u32 ((s2.getD s1.toNat default).From.N)]] [[v5]] [[v4]] [[.int .u32 ((s2.getD s1.toNat default).Seq)]] hc3 hl2 rfl sz22 rfl rfl (fl_cons (one_one (one_sl hsc1)) fl_nil) hI rfl hA rfl rfl (cells_sl hsc1) (by omega) (by first | exact (List.length_set ..).symm | simp) fun w hI => ?_
      refine o_nil ?_
      refine ⟨(.inl (by kernel_rfl)), ?_⟩
      refine g_nil (by kernel_rfl) ?_
      refine hN6 _ _ ?_
      refine w_reg ?_
      refine stp hA (r_add hA rfl rfl) rfl fun a hA => 
        stp hA (r_mv hA rfl) rfl fun a hA => ?_
      refine o_nil ?_
      exact ⟨m1, Nat.lt_succ_self _, IntKind.i64.wrap (s1 + 1), s2.set s1.toNat (⟨(s2.getD s1.toNat default).From, r3, (s2.getD s1.toNat default).Seq⟩ : In), μ5, A2 ++ ([av .u8 32 ((s2.getD s1.toNat default).From.Tx), [.int .u32 ((s2.getD s1.toNat default).From.N)], [v4], [.int .u32 ((s2.getD s1.toNat default).Seq)]].flatten ++ B2), H, (hle2.trans hle3), (wrap_in _ _), hE4, hA.sub ⟨rfl, rfl, rfl, rfl, rfl, trivial⟩, hI⟩
    · have hc10 := hc1; have hc1 := of_decide_eq_false hc1; have H := bF H hc1
      refine w_exit rfl ?_
      have H : some s2 = some z1 := H
      obtain rfl := Option.some.inj H
      have H := Hk2
      cases Option.some.inj (bS H)
      exact ⟨μ4, ccs2, hle2, ws2, hA.sub ⟨rfl, rfl, rfl, trivial⟩, hI⟩
  · rintro a w ⟨μ3, ccc1, hle1, wc1, hA, hI⟩
    have H := Hk1
    refine w_seq fun _ hN8 => ?_
    refine w_reg ?_
    refine stp hA (r_ldA (j := 3) [] [[.int .u32 x0.Version], [v1], [v2], [.int .u32 x0.Time]] [] Try.underlying67 rfl sz67 rfl hI rfl hA rfl rfl) rfl fun a hA => 
      o_st (j := 2) [] [[.int .u32 0], [(.slice none 0 0)], [(.slice none 0 0)], [.int .u32 0]] [[.int .u32 x0.Version], [v1], [v2], [.int .u32 x0.Time]] [] sz67 rfl rfl (fl_cons (one_one rfl) (fl_cons (one_one (own_one hI (j := 1) rfl)) (fl_cons (one_one (own_one hI (j := 0) rfl)) (fl_cons (one_one rfl) fl_nil)))) hI rfl hA rfl rfl rfl rfl fun w hI => ?_
    refine o_nil ?_
    refine hN8 _ _ ?_
    refine w_ret ?_
    obtain ⟨μ6, hle4, hsv2, hI⟩ := hI.freezeRow 1 rfl
    have hS2 : Slc (RIn μ6) 35 μ6 v1 c1 := ⟨_, (Els.mono wc1 (fun _ _ h => RIn.le hle4 h)), hsv2⟩
    obtain ⟨μ7, hle5, hsv3, hI⟩ := hI.freezeRow 0 rfl
    have hS3 : Slc (ROut μ7) 33 μ7 v2 r2 := ⟨_, (Els.mono hE2 (fun _ _ h => ROut.le ((hle1.trans hle4).trans hle5) h)), hsv3⟩
    obtain rfl := Option.some.inj (bS H)
    exact retc Try.underlying67 rfl sz67 rfl hI (j := 0) rfl hA Try.results65 rfl ⟨_, rfl, v1, v2, μ7, rfl, ⟨hx0.1, (Slc.le hS2 (fun _ _ h => RIn.le hle5 h) hle5), hS3, hx0.2.2.2⟩, (hI.sel [] (by decide) rfl)⟩

/-! slices.Grow[[]byte,byte]: function 113, on nothing -/
set_option maxRecDepth 20000 in
theorem slices_Grow_byte_byte.c (μ : Store) (w0 : World) (hμ : Agr μ w0) (x1 : Int) (hx1 : InR .i64 x1) (r : List Int) (H : slices_Grow_byte_byte.f x1 = some r) :
    Calls Try.prog 113 [.slice none 0 0, .int .i64 x1].toArray w0 (fun e w' => ∃ v, e = .returned v ∧ ∃ (v0 : Value) (c0 : List Value), v = v0 ∧ Els (RI .u8) 1 r c0 ∧ Iv w0 [] μ μ [row 5 1 v0 r.length c0] w') := by
  obtain ⟨hb, H⟩ := guard_some H
  obtain rfl := Option.some.inj H
  refine enter Try.func113 rfl Try.ntmps113 rfl fun a hA => ?_
  have hI := Iv.start hμ
  have e1 : IntKind.i64.wrap (x1 - IntKind.i64.wrap (((0 : Nat) : Int) - ((0 : Nat) : Int))) = x1 := by
    rw [wrap_id (k := .i64) (x := ((0 : Nat) : Int) - ((0 : Nat) : Int)) ⟨by omega, by omega⟩]
    simp only [Int.sub_self, Int.sub_zero, Int.natCast_zero]
    exact wrap_id hx1
  refine w_seq fun _ hN1 => w_reg (stp hA (r_as hA rfl) rfl fun a hA => o_nil (hN1 _ _ ?_))
  refine w_seq fun _ hN2 => w_seq fun _ hN3 => w_reg (stp hA (r_mv hA rfl) rfl fun a hA => stp hA (r_lss hA rfl rfl) rfl fun a hA => o_nil (hN3 _ _ ?_))
  refine w_cond hA rfl (fun hc => absurd (of_decide_eq_true hc) (by omega)) (fun _ => w_skip (hN2 _ _ ?_))
  refine w_cut (fun a w => ∃ v0 c0, Fr a 27 [(0, v0)] ∧ Iv w0 [] μ μ [row 5 1 v0 0 c0] w ∧ c0 = []) ?_ ?_
  · refine w_seq fun _ hN4 => w_reg ?_
    refine stp hA (r_mv hA rfl) rfl fun a hA => stp hA (r_mv hA rfl) rfl fun a hA => stp hA (r_cap Try.underlying22 hA rfl) rfl fun a hA => ?_
    refine stp hA (r_mv hA rfl) rfl fun a hA => stp hA (r_len Try.underlying22 hA rfl) rfl fun a hA => ?_
    refine stp hA (r_sub hA rfl rfl) rfl fun a hA => stp hA (r_sub hA rfl rfl) rfl fun a hA => ?_
    rw [e1] at hA
    refine stp hA (r_as hA rfl) rfl fun a hA => o_nil (hN4 _ _ ?_)
    refine w_seq fun _ hN5 => w_reg (stp hA (r_mv hA rfl) rfl fun a hA => stp hA (r_gtr hA rfl rfl) rfl fun a hA => o_nil (hN5 _ _ ?_))
    refine w_cond hA rfl (fun hc => ?_) (fun hc => ?_)
    · have hc := of_decide_eq_true hc
      refine w_reg ?_
      refine stp hA (r_mv hA rfl) rfl fun a hA => stp hA (r_mv hA rfl) rfl fun a hA => stp hA (r_cap Try.underlying22 hA rfl) rfl fun a hA => ?_
      refine stp hA (r_front Try.underlying22 sz5 hA rfl rfl (by decide) (by decide)) rfl fun a hA => stp hA (r_mv hA rfl) rfl fun a hA => ?_
      refine o_appmake te5 rfl Try.underlying22 Try.underlying3 hI hA rfl rfl (by omega) (by omega) (by omega) rfl fun g cap cur a w h1 h2 h3 hA hI hg => ?_
      refine stp hA (r_mv hA rfl) rfl fun a hA => stp hA (r_len Try.underlying22 hA rfl) rfl fun a hA => ?_
      refine stp hA (r_front Try.underlying22 sz5 hA rfl rfl (by decide) (by omega)) rfl fun a hA => stp hA (r_as hA rfl) rfl fun a hA => o_nil ?_
      have hI := hI (row 5 1 (.slice (some ⟨g, 0, none⟩) 0 cap) 0 []) (by simp [row, Value.ownBlock]) ⟨rfl, .inr ⟨g, cap, cur, rfl, Nat.zero_le _, hg, Nat.zero_le _, h2, h3, rfl⟩⟩
      exact ⟨_, _, hA.sub ⟨rfl, trivial⟩, hI, rfl⟩
    · exact w_skip ⟨_, _, hA.sub ⟨rfl, trivial⟩, hI.nilRow 5 1, rfl⟩
  · rintro a w ⟨v0, c0, hA, hI, rfl⟩
    refine w_seq fun _ hN6 => w_reg (stp hA (r_mv hA rfl) rfl fun a hA => stp hA (r_as hA rfl) rfl fun a hA => o_nil (hN6 _ _ ?_))
    refine w_ret ?_
    exact ret1 hA Try.results113 rfl ⟨_, rfl, v0, [], rfl, .nil, hI⟩

/-! slices.Concat[[]byte,byte]: function 101 -/
set_option maxRecDepth 20000 in
theorem slices_Concat_byte_byte.c (μ : Store) (w0 : World) (hμ : Agr μ w0) (x0 : List (List Int)) (u0 : Value) (hx0 : Slc (RS (RI .u8) 1 μ) 1 μ u0 x0) (r : List Int) (H : slices_Concat_byte_byte.f x0 = some r) :
    Calls Try.prog 101 [u0].toArray w0 (fun e w' => ∃ v, e = .returned v ∧ ∃ (v0 : Value) (c0 : List Value), v = v0 ∧ Els (RI .u8) 1 r c0 ∧ Iv w0 [] μ μ [row 5 1 v0 r.length c0] w') := by
  refine enter Try.func101 rfl Try.ntmps101 rfl fun a hA => ?_
  have hI := Iv.start hμ
  have H := bI H
  refine w_seq fun _ hN1 => ?_
  refine w_reg ?_
  refine stp hA (r_as hA rfl) rfl fun a hA => ?_
  refine o_nil ?_
  refine hN1 _ _ ?_
  refine w_seq fun _ hN2 => ?_
  refine w_reg ?_
  refine stp hA (r_as hA rfl) rfl fun a hA => ?_
  refine o_nil ?_
  refine hN2 _ _ ?_
  obtain ⟨c1, hz1, Hk1⟩ := bB H
  refine w_cut (fun a w => InR .i64 c1 ∧ Fr a 36 [(0, u0), (2, (.slice none 0 0)), (3, .int .i64 c1)] ∧ Iv w0 [] μ μ [] w) ?_ ?_
  · have H := bI hz1
    refine w_seq fun _ hN3 => ?_
    refine w_reg ?_
    refine stp hA (r_mv hA rfl) rfl fun a hA => ?_
    obtain ⟨_, hsl1⟩ := Slc.sv hx0
    refine stp hA (r_slen Try.underlying129 hsl1 hA rfl) rfl fun a hA => 
      stp hA (r_mv hA rfl) rfl fun a hA => ?_
    refine o_nil ?_
    refine hN3 _ _ ?_
    refine w_block ?_
    obtain ⟨z1, hz2, Hk2⟩ := bind_some H
    obtain ⟨n1, hn1⟩ := loopO_some hz2
    refine w_loop (fun n a w => ∃ (s1 : Int) (s2 : Int), loopN (slices_Concat_byte_byte.s0 x0) n (s1, s2) = some z1 ∧ InR .i64 s1 ∧ InR .i64 s2 ∧ Fr a 36 [(0, u0), (2, (.slice none 0 0)), (3, .int .i64 s1), (9, u0), (10, .int .i64 (x0.length : Int)), (11, .int .i64 s2)] ∧ Iv w0 [] μ μ [] w) n1 ⟨0, 0, hn1, (in_lit .i64 0 rfl), (in_lit .i64 0 rfl), hA.sub ⟨rfl, rfl, rfl, rfl, rfl, rfl, trivial⟩, hI⟩ ?_
    clear hA hI
    rintro n a w ⟨s1, s2, hn1, ws1, ws2, hA, hI⟩
    obtain ⟨m1, rfl, H⟩ := loopN_bind hn1
    clear hn1
    refine w_seq fun _ hN4 => ?_
    refine w_reg ?_
    refine stp hA (r_lss hA rfl rfl) rfl fun a hA => ?_
    refine o_nil ?_
    refine hN4 _ _ ?_
    refine w_seq fun _ hN5 => ?_
    refine w_cond hA rfl (fun hc1 => ?_) (fun hc1 => ?_)
    · have hc10 := hc1; have hc1 := of_decide_eq_true hc1; have H := bT H hc1
      refine w_skip ?_
      refine hN5 _ _ ?_
      obtain ⟨c2, hz3, Hk3⟩ := bB H
      refine w_cut (fun a w => InR .i64 c2 ∧ Fr a 36 [(0, u0), (2, (.slice none 0 0)), (3, .int .i64 c2), (9, u0), (10, .int .i64 (x0.length : Int)), (11, .int .i64 s2), (12, .bool (decide (s2 < (x0.length : Int))))] ∧ Iv w0 [] μ μ [] w) ?_ ?_
      · have H := bI hz3
        refine w_block ?_
        refine w_seq fun _ hN6 => ?_
        refine w_reg ?_
        obtain ⟨hb1, H⟩ := bG H
        obtain ⟨_, he1, _, hat1⟩ := Slc.elem1 hx0 (getD_some [] hb1.1 hb1.2)
        obtain ⟨v1, rfl, hw1⟩ := he1
        obtain ⟨_, hsl2⟩ := Slc.sv hx0
        refine stp hA (r_six1 Try.underlying129 sz22 hsl2 hA rfl rfl hb1.1 hb1.2) rfl fun a hA => 
          stp hA (r_ldm1 [] [] Try.underlying22 rfl hI.agr hat1 hA rfl rfl) rfl fun a hA => 
          stp hA (r_as hA rfl) rfl fun a hA => ?_
        refine o_nil ?_
        refine hN6 _ _ ?_
        refine w_seq fun _ hN7 => ?_
        refine w_reg ?_
        refine stp hA (r_mv hA rfl) rfl fun a hA => 
          stp hA (r_mv hA rfl) rfl fun a hA => ?_
        obtain ⟨_, hsl3⟩ := Slc.sv hw1
        refine stp hA (r_slen Try.underlying22 hsl3 hA rfl) rfl fun a hA => 
          stp hA (r_add hA rfl rfl) rfl fun a hA => 
          stp hA (r_as hA rfl) rfl fun a hA => ?_
        refine o_nil ?_
        refine hN7 _ _ ?_
        refine w_seq fun _ hN8 => ?_
        refine w_reg ?_
        refine stp hA (r_mv hA rfl) rfl fun a hA => 
          stp hA (r_lss hA rfl rfl) rfl fun a hA => ?_
        refine o_nil ?_
        refine hN8 _ _ ?_
        refine w_cond hA rfl (fun hc2 => ?_) (fun hc2 => ?_)
        · have hc20 := hc2; have hc2 := of_decide_eq_true hc2; have H := bT H hc2
          exact (bN H).elim
        · have hc20 := hc2; have hc2 := of_decide_eq_false hc2; have H := bF H hc2
          refine w_skip ?_
          cases Option.some.inj (bS H)
          exact ⟨(wrap_in _ _), hA.sub ⟨rfl, rfl, rfl, rfl, rfl, rfl, rfl, trivial⟩, hI⟩
      · rintro a w ⟨wc2, hA, hI⟩
        have H := Hk3
        refine w_reg ?_
        refine stp hA (r_add hA rfl rfl) rfl fun a hA => 
          stp hA (r_mv hA rfl) rfl fun a hA => ?_
        refine o_nil ?_
        exact ⟨m1, Nat.lt_succ_self _, c2, IntKind.i64.wrap (s2 + 1), H, wc2, (wrap_in _ _), hA.sub ⟨rfl, rfl, rfl, rfl, rfl, rfl, trivial⟩, hI⟩
    · have hc10 := hc1; have hc1 := of_decide_eq_false hc1; have H := bF H hc1
      refine w_exit rfl ?_
      have H : some s1 = some z1 := H
      obtain rfl := Option.some.inj H
      have H := Hk2
      cases Option.some.inj (bS H)
      exact ⟨ws1, hA.sub ⟨rfl, rfl, rfl, trivial⟩, hI⟩
  · rintro a w ⟨wc1, hA, hI⟩
    have H := Hk1
    refine w_seq fun _ hN9 => ?_
    refine w_reg ?_
    refine stp hA (r_mv hA rfl) rfl fun a hA => ?_
    obtain ⟨r1, hr1, H⟩ := bB H
    refine o_call _ cf113 hA rfl (slices_Grow_byte_byte.c μ _ hI.agr c1 wc1 r1 hr1) rfl fun v2 a w hz4 hA => ?_
    obtain ⟨_, cs1, rfl, hE1, hi1⟩ := hz4
    have hI := hI.call hi1
    refine stp hA (r_as hA rfl) rfl fun a hA => ?_
    refine o_nil ?_
    refine hN9 _ _ ?_
    obtain ⟨c3, hz5, Hk4⟩ := bB H
    refine w_cut (fun a w => ∃ (vvc3 : Value) (ccc3 : List Value), Els (RI .u8) 1 c3 ccc3 ∧ Fr a 36 [(0, u0), (2, (.slice none 0 0)), (3, .int .i64 c1), (6, vvc3)] ∧ Iv w0 [] μ μ [row 5 1 vvc3 c3.length ccc3] w) ?_ ?_
    · have H := bI hz5
      refine w_seq fun _ hN10 => ?_
      refine w_reg ?_
      refine stp hA (r_mv hA rfl) rfl fun a hA => ?_
      obtain ⟨_, hsl4⟩ := Slc.sv hx0
      refine stp hA (r_slen Try.underlying129 hsl4 hA rfl) rfl fun a hA => 
        stp hA (r_mv hA rfl) rfl fun a hA => ?_
      refine o_nil ?_
      refine hN10 _ _ ?_
      refine w_block ?_
      obtain ⟨z2, hz6, Hk5⟩ := bind_some H
      obtain ⟨n2, hn2⟩ := loopO_some hz6
      refine w_loop (fun n a w => ∃ (s3 : List Int) (s4 : Int) (vvs3 : Value) (ccs3 : List Value), loopN (slices_Concat_byte_byte.s1 x0) n (s3, s4) = some z2 ∧ Els (RI .u8) 1 s3 ccs3 ∧ InR .i64 s4 ∧ Fr a 36 [(0, u0), (2, (.slice none 0 0)), (3, .int .i64 c1), (6, vvs3), (25, u0), (26, .int .i64 (x0.length : Int)), (27, .int .i64 s4)] ∧ Iv w0 [] μ μ [row 5 1 vvs3 s3.length ccs3] w) n2 ⟨r1, 0, v2, cs1, hn2, hE1, (in_lit .i64 0 rfl), hA.sub ⟨rfl, rfl, rfl, rfl, rfl, rfl, rfl, trivial⟩, hI⟩ ?_
      clear hA hI
      rintro n a w ⟨s3, s4, vvs3, ccs3, hn2, ws3, ws4, hA, hI⟩
      obtain ⟨m2, rfl, H⟩ := loopN_bind hn2
      clear hn2
      refine w_seq fun _ hN11 => ?_
      refine w_reg ?_
      refine stp hA (r_lss hA rfl rfl) rfl fun a hA => ?_
      refine o_nil ?_
      refine hN11 _ _ ?_
      refine w_seq fun _ hN12 => ?_
      refine w_cond hA rfl (fun hc3 => ?_) (fun hc3 => ?_)
      · have hc30 := hc3; have hc3 := of_decide_eq_true hc3; have H := bT H hc3
        refine w_skip ?_
        refine hN12 _ _ ?_
        refine w_seq fun _ hN13 => ?_
        refine w_block ?_
        refine w_seq fun _ hN14 => ?_
        refine w_reg ?_
        obtain ⟨hb2, H⟩ := bG H
        obtain ⟨_, he2, _, hat2⟩ := Slc.elem1 hx0 (getD_some [] hb2.1 hb2.2)
        obtain ⟨v3, rfl, hw2⟩ := he2
        obtain ⟨_, hsl5⟩ := Slc.sv hx0
        refine stp hA (r_six1 Try.underlying129 sz22 hsl5 hA rfl rfl hb2.1 hb2.2) rfl fun a hA => 
          stp hA (r_ldm1 [] [] Try.underlying22 rfl hI.agr hat2 hA rfl rfl) rfl fun a hA => 
          stp hA (r_as hA rfl) rfl fun a hA => ?_
        refine o_nil ?_
        refine hN14 _ _ ?_
        refine w_reg ?_
        refine stp hA (r_mv hA rfl) rfl fun a hA => 
          stp hA (r_mv hA rfl) rfl fun a hA => ?_
        obtain ⟨cs2, hE2, hsv1⟩ : Slc (RI .u8) 1 μ v3 (x0.getD s4.toNat []) := hw2
        obtain ⟨hb3, H⟩ := bG H
        have hE3 := ws3.app hE2
        refine o_appL (xs := (s3 : List Int)) (ys := ((x0.getD s4.toNat []) : List Int)) (j := 0) te5 Try.underlying22 hI rfl hA rfl rfl (src_sl hI.agr hsv1 hE2.len) hE2.len (hE2.ones (one_RI _)) (by first | decide | (have hq := hb3; (try simp only [List.length_cons, List.length_nil] at hq); (try simp only [List.length_cons, List.length_nil]); (try simp only [maxLen]); omega)) (by first | decide | (have hq := hb3; (try simp only [List.length_cons, List.length_nil] at hq); (try simp only [List.length_cons, List.length_nil]); (try simp only [maxLen]); omega)) rfl fun v4 a w hA hI => 
          stp hA (r_as hA rfl) rfl fun a hA => ?_
        refine o_nil ?_
        refine hN13 _ _ ?_
        refine w_reg ?_
        refine stp hA (r_add hA rfl rfl) rfl fun a hA => 
          stp hA (r_mv hA rfl) rfl fun a hA => ?_
        refine o_nil ?_
        exact ⟨m2, Nat.lt_succ_self _, s3 ++ (x0.getD s4.toNat []), IntKind.i64.wrap (s4 + 1), v4, ccs3 ++ cs2, H, hE3, (wrap_in _ _), hA.sub ⟨rfl, rfl, rfl, rfl, rfl, rfl, rfl, trivial⟩, hI⟩
      · have hc30 := hc3; have hc3 := of_decide_eq_false hc3; have H := bF H hc3
        refine w_exit rfl ?_
        have H : some s3 = some z2 := H
        obtain rfl := Option.some.inj H
        have H := Hk5
        cases Option.some.inj (bS H)
        exact ⟨vvs3, ccs3, ws3, hA.sub ⟨rfl, rfl, rfl, rfl, trivial⟩, hI⟩
    · rintro a w ⟨vvc3, ccc3, wc3, hA, hI⟩
      have H := Hk4
      refine w_seq fun _ hN15 => ?_
      refine w_reg ?_
      refine stp hA (r_mv hA rfl) rfl fun a hA => 
        stp hA (r_as hA rfl) rfl fun a hA => ?_
      refine o_nil ?_
      refine hN15 _ _ ?_
      refine w_ret ?_
      obtain rfl := Option.some.inj (bS H)
      exact ret1 hA Try.results101 rfl ⟨_, rfl, vvc3, ccc3, rfl, wc3, (hI.less (Store.le.refl _) hI.le)⟩

/-! head.Bytes: function 68 -/
set_option maxRecDepth 20000 in
theorem head_Bytes.c (μ : Store) (w0 : World) (hμ : Agr μ w0) (x0 : Head) (hx0 : HeadW μ x0) (r : List Int) (H : head_Bytes.f x0 = some r) :
    Calls Try.prog 68 [.agg [[.int .u32 x0.Version], av .u8 32 x0.Prev, av .u8 32 x0.Root, [.int .u32 x0.Time], [.int .u32 x0.Work], [.int .u32 x0.Nonce]].flatten.toArray].toArray w0 (fun e w' => ∃ v, e = .returned v ∧ ∃ (v0 : Value) (c0 : List Value), v = v0 ∧ Els (RI .u8) 1 r c0 ∧ Iv w0 [] μ μ [row 5 1 v0 r.length c0] w') := by
  refine enter Try.func68 rfl Try.ntmps68 rfl fun a hA => ?_
  have hI := Iv.start hμ
  have H := bI H
  refine w_seq fun _ hN1 => ?_
  refine w_reg ?_
  refine o_box [[.int .u32 x0.Version], av .u8 32 x0.Prev, av .u8 32 x0.Root, [.int .u32 x0.Time], [.int .u32 x0.Work], [.int .u32 x0.Nonce]] hI hA rfl rfl rfl fun g1 a w hA hI hg1 => 
    stp hA (r_as hA rfl) rfl fun a hA => ?_
  refine o_nil ?_
  refine hN1 _ _ ?_
  refine w_seq fun _ hN2 => ?_
  refine w_any [] mo hI fun w hI => ?_
  refine g_easy (i := 0) hA rfl rfl (by kernel_rfl) (.inr hI) (fun _ => r_fd (k := 0) Try.underlying76 rfl sz25 hA rfl rfl) rfl fun a hA => ?_
  refine g_take (i := 1) hA rfl rfl (by kernel_rfl) hI (fun w hI => r_ld1 (j := 0) [] [av .u8 32 x0.Prev, av .u8 32 x0.Root, [.int .u32 x0.Time], [.int .u32 x0.Work], [.int .u32 x0.Nonce]] Try.underlying25 rfl hI rfl hA rfl rfl) rfl fun a hA => ?_
  refine g_easy (i := 3) hA rfl rfl (by kernel_rfl) (.inr hI) (fun _ => r_fd (k := 1) Try.underlying76 rfl sz33 hA rfl rfl) rfl fun a hA => ?_
  refine g_easy (i := 4) hA rfl rfl (by kernel_rfl) (.inr hI) (fun _ => r_slv (i := 0) (j := 32) Try.underlying33 sz5 hA rfl rfl rfl (by decide) (by decide) (by decide) (by decide) rfl) rfl fun a hA => ?_
  refine g_easy (i := 5) hA rfl rfl (by kernel_rfl) (.inr hI) (fun _ => r_fd (k := 33) Try.underlying76 rfl sz33 hA rfl rfl) rfl fun a hA => ?_
  refine g_easy (i := 6) hA rfl rfl (by kernel_rfl) (.inr hI) (fun _ => r_slv (i := 0) (j := 32) Try.underlying33 sz5 hA rfl rfl rfl (by decide) (by decide) (by decide) (by decide) rfl) rfl fun a hA => ?_
  refine g_forced (i := 2) rfl (by kernel_rfl) ?_
  obtain ⟨r1, hr1, H⟩ := bB H
  refine o_call _ cf49 hA rfl (compact_Four.c μ _ hI.agr ([]) (.slice none 0 0) (slc_nil _ _ _) x0.Version hx0.1 r1 hr1) rfl fun v1 a w hz1 hA => ?_
  obtain ⟨_, cs1, rfl, hE1, hi1⟩ := hz1
  have hI := hI.call hi1
  refine o_nil ?_
  refine ⟨(.inr (hI.sel [1] (by decide) rfl)), ?_⟩
  refine g_forced (i := 7) rfl (by kernel_rfl) ?_
  obtain ⟨μ1, hle1, hsv1, hI, hth1⟩ := hI.freezeRowT 0 rfl
  have hS1 : Slc (RI .u8) 1 μ1 v1 r1 := ⟨_, hE1, hsv1⟩
  obtain ⟨μ2, hle2, hat1, hI, hth2⟩ := hI.freezeCelT 0 rfl
  have hS2 : Slc (RI .u8) 1 μ2 (.slice (some ⟨g1, 1, none⟩) 32 32) (x0.Prev) := slc_view0 [[.int .u32 x0.Version]] [av .u8 32 x0.Root, [.int .u32 x0.Time], [.int .u32 x0.Work], [.int .u32 x0.Nonce]] hat1 hx0.2.1 rfl (by decide)
  have hS3 : Slc (RI .u8) 1 μ2 (.slice (some ⟨g1, 33, none⟩) 32 32) (x0.Root) := slc_view0 [[.int .u32 x0.Version], av .u8 32 x0.Prev] [[.int .u32 x0.Time], [.int .u32 x0.Work], [.int .u32 x0.Nonce]] hat1 hx0.2.2.1 rfl (by decide)
  have hE2 : Els (RS (RI .u8) 1 μ2) 1 ([r1, x0.Prev, x0.Root] : List (List Int)) ([[v1]].flatten ++ ([[(.slice (some ⟨g1, 1, none⟩) 32 32)]].flatten ++ ([[(.slice (some ⟨g1, 33, none⟩) 32 32)]].flatten ++ ([])))) := (Els.cons (c := [[v1]].flatten) ⟨_, rfl, (Slc.le hS1 (fun _ _ h => h) hle2)⟩ rfl (Els.cons (c := [[(.slice (some ⟨g1, 1, none⟩) 32 32)]].flatten) ⟨_, rfl, hS2⟩ rfl (Els.cons (c := [[(.slice (some ⟨g1, 33, none⟩) 32 32)]].flatten) ⟨_, rfl, hS3⟩ rfl Els.nil)))
  refine o_bsl ([[v1]].flatten ++ ([[(.slice (some ⟨g1, 1, none⟩) 32 32)]].flatten ++ ([[(.slice (some ⟨g1, 33, none⟩) 32 32)]].flatten ++ ([])))) te22 zr22 Try.underlying129 hI hA rfl rfl rfl rfl ((fill_one (cells1 (Slc.le hS1 (fun _ _ h => h) hle2)) rfl (by kernel_rfl)).trans ((fill_one (cells1 hS2) rfl (by kernel_rfl)).trans ((fill_one (cells1 hS3) rfl (by kernel_rfl)).trans (by kernel_rfl)))) rfl fun g2 a w hA hI => ?_
  generalize hcs : ([[v1]].flatten ++ ([[(.slice (some ⟨g1, 1, none⟩) 32 32)]].flatten ++ ([[(.slice (some ⟨g1, 33, none⟩) 32 32)]].flatten ++ ([]))) : List Value) = cs2 at hE2 hI
  clear hcs
  refine o_nil ?_
  refine ⟨(.inr ((hth1 _ _ (hth2 _ _ hI)).sel [1] (by decide) rfl)), ?_⟩
  refine g_forced (i := 8) rfl (by kernel_rfl) ?_
  obtain ⟨r2, hr2, H⟩ := bB H
  refine o_call (fun v w' => ∃ (v0 : Value) (c0 : List Value), v = v0 ∧ Els (RI .u8) 1 r2 c0 ∧ Iv w [] μ2 μ2 [row 5 1 v0 r2.length c0] w') cf101 hA rfl ((by obtain ⟨μ3, hle3, hsv2, hI⟩ := hI.freezeRow 0 rfl; have hS4 : Slc (RS (RI .u8) 1 μ3) 1 μ3 (.slice (some ⟨g2, 0, none⟩) 3 3) ([r1, x0.Prev, x0.Root] : List (List Int)) := ⟨_, (Els.mono hE2 (fun _ _ h => RS.le (fun _ _ h => h) hle3 h)), hsv2⟩; exact (slices_Concat_byte_byte.c μ3 _ hI.agr ([r1, x0.Prev, x0.Root] : List (List Int)) (.slice (some ⟨g2, 0, none⟩) 3 3) hS4 r2 hr2).mono fun _ _ ⟨v, he, b0, b1, hv, f0, hi⟩ => ⟨v, he, b0, b1, hv, f0, hi.low hle3⟩)) rfl fun v2 a w hz2 hA => ?_
  obtain ⟨_, cs3, rfl, hE3, hi2⟩ := hz2
  have hI := hI.call hi2
  refine o_nil ?_
  refine ⟨(.inr ((hth1 _ _ (hth2 _ _ hI)).sel [1] (by decide) rfl)), ?_⟩
  refine g_easy (i := 9) hA rfl rfl (by kernel_rfl) (.inr ((hth1 _ _ (hth2 _ _ hI)).sel [1] (by decide) rfl)) (fun _ => r_as hA rfl) rfl fun a hA => ?_
  refine g_nil (by kernel_rfl) ?_
  refine hN2 _ _ ?_
  refine w_seq fun _ hN3 => ?_
  refine w_any [] mo hI fun w hI => ?_
  refine g_easy (i := 0) hA rfl rfl (by kernel_rfl) (.inr hI) (fun _ => r_mv hA rfl) rfl fun a hA => ?_
  refine g_easy (i := 1) hA rfl rfl (by kernel_rfl) (.inr hI) (fun _ => r_fd (k := 0 + 65) Try.underlying76 rfl sz25 hA rfl rfl) rfl fun a hA => ?_
  refine g_take (i := 2) hA rfl rfl (by kernel_rfl) hI (fun w hI => r_ldm1 [[.int .u32 x0.Version], av .u8 32 x0.Prev, av .u8 32 x0.Root] [[.int .u32 x0.Work], [.int .u32 x0.Nonce]] Try.underlying25 rfl hI.agr hat1 hA rfl rfl) rfl fun a hA => ?_
  refine g_easy (i := 4) hA rfl rfl (by kernel_rfl) (.inr hI) (fun _ => r_fd (k := 0 + 66) Try.underlying76 rfl sz25 hA rfl rfl) rfl fun a hA => ?_
  refine g_take (i := 5) hA rfl rfl (by kernel_rfl) hI (fun w hI => r_ldm1 [[.int .u32 x0.Version], av .u8 32 x0.Prev, av .u8 32 x0.Root, [.int .u32 x0.Time]] [[.int .u32 x0.Nonce]] Try.underlying25 rfl hI.agr hat1 hA rfl rfl) rfl fun a hA => ?_
  refine g_easy (i := 7) hA rfl rfl (by kernel_rfl) (.inr hI) (fun _ => r_fd (k := 0 + 67) Try.underlying76 rfl sz25 hA rfl rfl) rfl fun a hA => ?_
  refine g_take (i := 8) hA rfl rfl (by kernel_rfl) hI (fun w hI => r_ldm1 [[.int .u32 x0.Version], av .u8 32 x0.Prev, av .u8 32 x0.Root, [.int .u32 x0.Time], [.int .u32 x0.Work]] [] Try.underlying25 rfl hI.agr hat1 hA rfl rfl) rfl fun a hA => ?_
  refine g_forced (i := 3) rfl (by kernel_rfl) ?_
  obtain ⟨r3, hr3, H⟩ := bB H
  refine o_call (fun v w' => ∃ (v0 : Value) (c0 : List Value), v = v0 ∧ Els (RI .u8) 1 r3 c0 ∧ Iv w [] μ2 μ2 [row 5 1 v0 r3.length c0] w') cf49 hA rfl ((by obtain ⟨μ4, hle4, hsv3, hI⟩ := hI.freezeRow 0 rfl; have hS5 : Slc (RI .u8) 1 μ4 v2 r2 := ⟨_, hE3, hsv3⟩; exact (compact_Four.c μ4 _ hI.agr r2 v2 hS5 x0.Time hx0.2.2.2.1 r3 hr3).mono fun _ _ ⟨v, he, b0, b1, hv, f0, hi⟩ => ⟨v, he, b0, b1, hv, f0, hi.low hle4⟩)) rfl fun v3 a w hz3 hA => ?_
  obtain ⟨_, cs4, rfl, hE4, hi3⟩ := hz3
  have hI := hI.call hi3
  refine o_nil ?_
  refine ⟨(.inr (hI.sel [1, 2] (by decide) rfl)), ?_⟩
  refine g_forced (i := 6) rfl (by kernel_rfl) ?_
  obtain ⟨r4, hr4, H⟩ := bB H
  refine o_call (fun v w' => ∃ (v0 : Value) (c0 : List Value), v = v0 ∧ Els (RI .u8) 1 r4 c0 ∧ Iv w [] μ2 μ2 [row 5 1 v0 r4.length c0] w') cf49 hA rfl ((by obtain ⟨μ5, hle5, hsv4, hI⟩ := hI.freezeRow 0 rfl; have hS6 : Slc (RI .u8) 1 μ5 v3 r3 := ⟨_, hE4, hsv4⟩; exact (compact_Four.c μ5 _ hI.agr r3 v3 hS6 x0.Work hx0.2.2.2.2.1 r4 hr4).mono fun _ _ ⟨v, he, b0, b1, hv, f0, hi⟩ => ⟨v, he, b0, b1, hv, f0, hi.low hle5⟩)) rfl fun v4 a w hz4 hA => ?_
  obtain ⟨_, cs5, rfl, hE5, hi4⟩ := hz4
  have hI := hI.call hi4
  refine o_nil ?_
  refine ⟨(.inr (hI.sel [2, 3] (by decide) rfl)), ?_⟩
  refine g_forced (i := 9) rfl (by kernel_rfl) ?_
  obtain ⟨r5, hr5, H⟩ := bB H
  refine o_call (fun v w' => ∃ (v0 : Value) (c0 : List Value), v = v0 ∧ Els (RI .u8) 1 r5 c0 ∧ Iv w [] μ2 μ2 [row 5 1 v0 r5.length c0] w') cf49 hA rfl ((by obtain ⟨μ6, hle6, hsv5, hI⟩ := hI.freezeRow 0 rfl; have hS7 : Slc (RI .u8) 1 μ6 v4 r4 := ⟨_, hE5, hsv5⟩; exact (compact_Four.c μ6 _ hI.agr r4 v4 hS7 x0.Nonce hx0.2.2.2.2.2 r5 hr5).mono fun _ _ ⟨v, he, b0, b1, hv, f0, hi⟩ => ⟨v, he, b0, b1, hv, f0, hi.low hle6⟩)) rfl fun v5 a w hz5 hA => ?_
  obtain ⟨_, cs6, rfl, hE6, hi5⟩ := hz5
  have hI := hI.call hi5
  refine o_nil ?_
  refine ⟨(.inr (hI.sel [3, 4] (by decide) rfl)), ?_⟩
  refine g_easy (i := 10) hA rfl rfl (by kernel_rfl) (.inr (hI.sel [3, 4] (by decide) rfl)) (fun _ => r_as hA rfl) rfl fun a hA => ?_
  refine g_nil (by kernel_rfl) ?_
  refine hN3 _ _ ?_
  refine w_ret ?_
  obtain rfl := Option.some.inj (bS H)
  exact ret1 hA Try.results68 rfl ⟨_, rfl, v5, cs6, rfl, hE6, ((hI.sel [0] (by decide) rfl).less (Store.le.refl _) hI.le)⟩

/-! head.ID: function 70 -/
set_option maxRecDepth 20000 in
theorem head_ID.c (μ : Store) (w0 : World) (hμ : Agr μ w0) (x0 : Head) (hx0 : HeadW μ x0) (r : List Int) (H : head_ID.f x0 = some r) :
    Calls Try.prog 70 [.agg [[.int .u32 x0.Version], av .u8 32 x0.Prev, av .u8 32 x0.Root, [.int .u32 x0.Time], [.int .u32 x0.Work], [.int .u32 x0.Nonce]].flatten.toArray].toArray w0 (fun e w' => ∃ v, e = .returned v ∧ v = .agg [av .u8 32 r].flatten.toArray ∧ Arr .u8 32 r ∧ Iv w0 [] μ μ [] w') := by
  refine enter Try.func70 rfl Try.ntmps70 rfl fun a hA => ?_
  have hI := Iv.start hμ
  have H := bI H
  refine w_seq fun _ hN1 => ?_
  refine w_reg ?_
  refine o_box [[.int .u32 x0.Version], av .u8 32 x0.Prev, av .u8 32 x0.Root, [.int .u32 x0.Time], [.int .u32 x0.Work], [.int .u32 x0.Nonce]] hI hA rfl rfl rfl fun g1 a w hA hI hg1 => 
    o_new [av .u8 32 (List.replicate 32 0)] zr33 hI hA rfl fun g2 a w hA hI hg2 => ?_
  refine o_nil ?_
  refine hN1 _ _ ?_
  refine w_seq fun _ hN2 => ?_
  refine w_reg ?_
  refine stp hA (r_ldA (j := 1) [] [[.int .u32 x0.Version], av .u8 32 x0.Prev, av .u8 32 x0.Root, [.int .u32 x0.Time], [.int .u32 x0.Work], [.int .u32 x0.Nonce]] [] Try.underlying76 rfl sz76 rfl hI rfl hA rfl rfl) rfl fun a hA => ?_
  obtain ⟨r1, hr1, H⟩ := bB H
  refine o_call _ cf68 hA rfl (head_Bytes.c μ _ hI.agr x0 ⟨hx0.1, hx0.2.1, hx0.2.2.1, hx0.2.2.2.1, hx0.2.2.2.2.1, hx0.2.2.2.2.2⟩ r1 hr1) rfl fun v1 a w hz1 hA => ?_
  obtain ⟨_, cs1, rfl, hE1, hi1⟩ := hz1
  have hI := hI.call hi1
  obtain ⟨r2, hr2, H⟩ := bB H
  refine o_callp (u := .agg [av .u8 32 r2].flatten.toArray) cf32 hA rfl hI ((by obtain ⟨μ1, hle1, hsv1, hI⟩ := hI.freezeRow 0 rfl; have hS1 : Slc (RI .u8) 1 μ1 v1 r1 := ⟨_, hE1, hsv1⟩; exact low_plain hle1 (digest_Twice.c μ1 _ hI.agr r1 v1 hS1 r2 hr2))) rfl fun a w hz2 hI hA => 
    o_st (j := 1) [] [av .u8 32 (List.replicate 32 0)] [av .u8 32 r2] [] sz33 rfl rfl (fl_cons (one_av _ _ _) fl_nil) hI rfl hA rfl rfl rfl rfl fun w hI => ?_
  refine o_nil ?_
  refine hN2 _ _ ?_
  refine w_ret ?_
  obtain rfl := Option.some.inj (bS H)
  exact retc Try.underlying33 rfl sz33 rfl hI (j := 1) rfl hA Try.results70 rfl ⟨_, rfl, rfl, hz2, hI.forget0⟩
end Go.Proofs.Ytnbnnphlffhgiaa.T
