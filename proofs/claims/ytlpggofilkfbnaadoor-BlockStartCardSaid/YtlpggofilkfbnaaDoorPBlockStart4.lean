/- Proved: the statement BlockStart, as given (its conditions are those of the given row, and card where there is one; no others): the call ends, with true, and the input reads as it did. This file is one of its parts. -/
import Derived.Test.YtlpggofilkfbnaaDoorPBlockStart3
import Derived.OpenShut
import Derived.ChangeArms
import Derived.DataReads
import Derived.WideShapes
import Derived.Below
import Derived.Carry
import Derived.ChangeOld
import Derived.LaidLaws
import Derived.Stop.ErrReads
import Derived.ChangeVars
import Derived.Test.YtlpggofilkfbnaaDoorRows
import Derived.Test.YtlpggofilkfbnaaDoorProg
import Derived.JoinedOf
import Derived.ProofKit
import Derived.WalkKit
import Derived.ShutString
import Derived.SizedLaws
import Derived.LaidHandle
import Derived.Handed
import Derived.SevenTiedAt
import Derived.Test.YtlpggofilkfbnaaDoorCards
import Derived.Test.YtlpggofilkfbnaaDoorTie
namespace Go.Proofs.YtlpggofilkfbnaaDoor.T
open Go Go.Proofs Go.Proofs.YtlpggofilkfbnaaDoor.K
set_option linter.unusedVariables false
set_option linter.unusedSimpArgs false
set_option maxRecDepth 20000 in
theorem sargassolaw7_BlockStart.c (μ : Store) (w0 : World) (hμ : Agr μ w0) (x0 : Int) (hx0 : InR .i64 x0) (x1 : List Int) (u1 : Value) (hx1 : Slc (RI .u8) 1 μ u1 x1) (e0 : Value) (he0 : ErS μ e0 (Er.b 1)) (e1 : Value) (he1 : ErS μ e1 (Er.b 2)) (e2 : Value) (he2 : ErS μ e2 (Er.b 3)) (e3 : Value) (he3 : ErS μ e3 (Er.b 4)) (e5 : Value) (he5 : ErS μ e5 (Er.b 6)) (e6 : Value) (he6 : ErS μ e6 (Er.b 7)) (e7 : Value) (he7 : ErS μ e7 (Er.b 8)) (e8 : Value) (he8 : ErS μ e8 (Er.b 9)) (r : Bool) (H : sargassolaw7_BlockStart.f x0 x1 = some r) :
    Calls Tryd.prog 5 [.int .i64 x0, u1].toArray w0 (fun e w' => ∃ v, e = .returned v ∧ v = .bool r ∧ True ∧ Iv w0 [] μ μ [] w') := by
  refine enter Tryd.func5 rfl Tryd.ntmps5 rfl fun a hA => ?_
  have hI := Iv.start hμ
  have H := bI H
  refine w_seq fun _ hN1 => ?_
  refine w_reg ?_
  refine stp hA (r_as hA rfl) rfl fun a hA => ?_
  refine o_nil ?_
  refine hN1 _ _ ?_
  refine w_seq fun _ hN2 => ?_
  refine w_reg ?_
  obtain ⟨r1, hr1, H⟩ := bB H
  refine o_callp (u := .bool r1) cf7 hA rfl hI (sargassolaw7_first.c μ _ hI.agr e0 he0 e1 he1 e2 he2 e3 he3 e5 he5 e6 he6 e7 he7 e8 he8 r1 hr1) rfl fun a w hz1 hI hA => 
    stp hA (r_as hA rfl) rfl fun a hA => ?_
  refine o_nil ?_
  refine hN2 _ _ ?_
  refine w_seq fun _ hN3 => ?_
  refine w_seq fun _ hN4 => ?_
  refine w_reg ?_
  refine stp hA (r_mv hA rfl) rfl fun a hA => 
    stp hA (r_not hA rfl) rfl fun a hA => ?_
  refine o_nil ?_
  refine hN4 _ _ ?_
  refine w_cond hA rfl (fun hc1 => ?_) (fun hc1 => ?_)
  · have hc10 := hc1; have hc1 := nT hc1; have hc1 := ft hc1; have H := bF H hc1
    refine w_seq fun _ hN5 => ?_
    refine w_reg ?_
    refine stp hA (r_as hA rfl) rfl fun a hA => ?_
    refine o_nil ?_
    refine hN5 _ _ ?_
    refine w_ret ?_
    obtain rfl := Option.some.inj (bS H)
    exact ret1 hA Tryd.results5 rfl ⟨_, rfl, rfl, trivial, hI.forget0⟩
  · have hc10 := hc1; have hc1 := nF hc1; have H := bT H hc1
    refine w_skip ?_
    refine hN3 _ _ ?_
    refine w_seq fun _ hN6 => ?_
    refine w_seq fun _ hN7 => ?_
    refine w_reg ?_
    refine stp hA (r_mv hA rfl) rfl fun a hA => ?_
    obtain ⟨_, hsl1⟩ := Slc.sv hx1
    refine stp hA (r_slen Tryd.underlying25 hsl1 hA rfl) rfl fun a hA => 
      stp hA (r_gtr hA rfl rfl) rfl fun a hA => ?_
    refine o_nil ?_
    refine hN7 _ _ ?_
    refine w_cond hA rfl (fun hc2 => ?_) (fun hc2 => ?_)
    · have hc20 := hc2; have hc2 := of_decide_eq_true hc2; have H := bT H hc2
      refine w_seq fun _ hN8 => ?_
      refine w_reg ?_
      refine stp hA (r_mv hA rfl) rfl fun a hA => 
        stp hA (r_as hA rfl) rfl fun a hA => ?_
      refine o_nil ?_
      refine hN8 _ _ ?_
      refine w_ret ?_
      obtain rfl := Option.some.inj (bS H)
      exact ret1 hA Tryd.results5 rfl ⟨_, rfl, rfl, trivial, hI.forget0⟩
    · have hc20 := hc2; have hc2 := of_decide_eq_false hc2; have H := bF H hc2
      refine w_skip ?_
      refine hN6 _ _ ?_
      refine w_seq fun _ hN9 => ?_
      refine w_reg ?_
      refine stp hA (r_mv hA rfl) rfl fun a hA => ?_
      obtain ⟨r2, hr2, H⟩ := bB H
      refine o_callp (u := .int .i64 r2) cf14 hA rfl hI (sargassoworld_Number.c μ _ hI.agr x0 hx0 1048576 (in_lit .i64 1048576 rfl) r2 hr2) rfl fun a w hz2 hI hA => 
        stp hA (r_as hA rfl) rfl fun a hA => ?_
      refine o_nil ?_
      refine hN9 _ _ ?_
      refine w_seq fun _ hN10 => ?_
      refine w_reg ?_
      refine stp hA (r_mv hA rfl) rfl fun a hA => 
        stp hA (r_bldA (cs := [av .u8 32 ([3, 0, 0, 0, 0, 0, 0, 0, 0, 0, 0, 0, 0, 0, 0, 0, 0, 0, 0, 0, 0, 0, 0, 0, 0, 0, 0, 0, 0, 0, 0, 0])].flatten.toArray) zr24 Tryd.underlying24 sz5 hA rfl (by kernel_rfl)) rfl fun a hA => 
        stp hA (r_mv hA rfl) rfl fun a hA => ?_
      obtain ⟨r3, hr3, H⟩ := bB H
      refine o_call _ cf9 hA rfl (block_First.c μ _ hI.agr r2 hz2 9 (in_lit .u64 9 rfl) ([3, 0, 0, 0, 0, 0, 0, 0, 0, 0, 0, 0, 0, 0, 0, 0, 0, 0, 0, 0, 0, 0, 0, 0, 0, 0, 0, 0, 0, 0, 0, 0]) (arr_lit rfl (by simp only [List.forall_mem_cons]; exact ⟨(in_lit .u8 3 rfl), (in_lit .u8 0 rfl), (in_lit .u8 0 rfl), (in_lit .u8 0 rfl), (in_lit .u8 0 rfl), (in_lit .u8 0 rfl), (in_lit .u8 0 rfl), (in_lit .u8 0 rfl), (in_lit .u8 0 rfl), (in_lit .u8 0 rfl), (in_lit .u8 0 rfl), (in_lit .u8 0 rfl), (in_lit .u8 0 rfl), (in_lit .u8 0 rfl), (in_lit .u8 0 rfl), (in_lit .u8 0 rfl), (in_lit .u8 0 rfl), (in_lit .u8 0 rfl), (in_lit .u8 0 rfl), (in_lit .u8 0 rfl), (in_lit .u8 0 rfl), (in_lit .u8 0 rfl), (in_lit .u8 0 rfl), (in_lit .u8 0 rfl), (in_lit .u8 0 rfl), (in_lit .u8 0 rfl), (in_lit .u8 0 rfl), (in_lit .u8 0 rfl), (in_lit .u8 0 rfl), (in_lit .u8 0 rfl), (in_lit .u8 0 rfl), (in_lit .u8 0 rfl), by simp⟩)) x1 u1 hx1 r3 hr3) rfl fun v1 a w hz3 hA => ?_
      obtain ⟨v2, v3, μ1, rfl, hw1, hi1⟩ := hz3
      have hI := hI.call hi1
      refine o_new [[.int .u32 0], [(.slice none 0 0)], [(.slice none 0 0)], [.int .u32 0]] zr32 hI hA rfl fun g1 a w hA hI hg1 => ?_
      obtain ⟨_, hsl2⟩ := Slc.sv hw1.2.1
      obtain ⟨_, hsl3⟩ := Slc.sv hw1.2.2.1
      refine o_st (j := 0) [] [[.int .u32 0], [(.slice none 0 0)], [(.slice none 0 0)], [.int .u32 0]] [[.int .u32 r3.Version], [v2], [v3], [.int .u32 r3.Time]] [] sz32 rfl rfl (fl_cons (one_one rfl) (fl_cons (one_one (one_sl hsl2)) (fl_cons (one_one (one_sl hsl3)) (fl_cons (one_one rfl) fl_nil)))) hI rfl hA rfl rfl rfl rfl fun w hI => ?_
      refine o_nil ?_
      refine hN10 _ _ ?_
      refine w_seq fun _ hN11 => ?_
      refine w_reg ?_
      obtain ⟨r4, hr4, H⟩ := bB H
      refine o_call _ cf12 hA rfl (block_Start.c μ1 _ hI.agr  r4 hr4) rfl fun v4 a w hz4 hA => ?_
      obtain ⟨v5, μ2, rfl, hw2, hi2⟩ := hz4
      have hI := hI.call hi2
      refine o_new [[.int .u32 0], av .u8 32 (List.replicate 32 0), av .u8 32 (List.replicate 32 0), [.int .u32 0], [.int .u32 0], [.int .u32 0], [(.slice none 0 0)]] zr39 hI hA rfl fun g2 a w hA hI hg2 => ?_
      obtain ⟨_, hsl4⟩ := Slc.sv hw2.2.2.2.2.2.2
      refine o_st (j := 0) [] [[.int .u32 0], av .u8 32 (List.replicate 32 0), av .u8 32 (List.replicate 32 0), [.int .u32 0], [.int .u32 0], [.int .u32 0], [(.slice none 0 0)]] [[.int .u32 r4.Head.Version], av .u8 32 r4.Head.Prev, av .u8 32 r4.Head.Root, [.int .u32 r4.Head.Time], [.int .u32 r4.Head.Work], [.int .u32 r4.Head.Nonce], [v5]] [] sz39 rfl rfl (fl_cons (one_one rfl) (fl_cons (one_av _ _ _) (fl_cons (one_av _ _ _) (fl_cons (one_one rfl) (fl_cons (one_one rfl) (fl_cons (one_one rfl) (fl_cons (one_one (one_sl hsl4)) fl_nil))))))) hI rfl hA rfl rfl rfl rfl fun w hI => ?_
      refine o_nil ?_
      refine hN11 _ _ ?_
      refine w_seq fun _ hN12 => ?_
      obtain ⟨c1, hz5, Hk1⟩ := bB H
      refine w_cut (fun a w => Fr a 129 [(0, .int .i64 r2), (1, u1), (4, .bool false), (5, .bool r1), (6, .pointer (some ⟨g1, 0, none⟩)), (7, .pointer (some ⟨g2, 0, none⟩)), (12, .bool (!r1)), (15, .bool (decide (70 < (x1.length : Int)))), (51, .bool c1)] ∧ Iv w0 [] μ μ2 [cel g2 [[.int .u32 r4.Head.Version], av .u8 32 r4.Head.Prev, av .u8 32 r4.Head.Root, [.int .u32 r4.Head.Time], [.int .u32 r4.Head.Work], [.int .u32 r4.Head.Nonce], [v5]] 39, cel g1 [[.int .u32 r3.Version], [v2], [v3], [.int .u32 r3.Time]] 32] w) ?_ ?_
      · have H := bI hz5
        refine w_reg ?_
        refine stp hA (r_fd (k := 1) Tryd.underlying32 rfl sz29 hA rfl rfl) rfl fun a hA => 
          stp hA (r_ld1 (j := 1) [[.int .u32 r3.Version]] [[v3], [.int .u32 r3.Time]] Tryd.underlying29 rfl hI rfl hA rfl rfl) rfl fun a hA => ?_
        obtain ⟨_, hsl5⟩ := Slc.sv (Slc.le hw1.2.1 (fun _ _ h => RIn.le hi2.le h) hi2.le)
        refine stp hA (r_slen Tryd.underlying29 hsl5 hA rfl) rfl fun a hA => 
          stp hA (r_neq hA rfl rfl) rfl fun a hA => 
          stp hA (r_mv hA rfl) rfl fun a hA => ?_
        rcases Bool.eq_false_or_eq_true (decide ((r3.Ins.length : Int) ≠ 1)) with hc3 | hc3
        · have hc30 := hc3; have hc3 := of_decide_eq_true hc3; have H := bT H hc3
          refine o_no hA rfl rfl (by rw [hc30]; simp [vb]) rfl fun a hA => 
            o_no hA rfl rfl (by rw [hc30]; simp [vb]) rfl fun a hA => 
            o_no hA rfl rfl (by rw [hc30]; simp [vb]) rfl fun a hA => 
            o_no hA rfl rfl (by rw [hc30]; simp [vb]) rfl fun a hA => 
            stp hA (r_pick_t hA rfl hc30 rfl) rfl fun a hA => 
            stp hA (r_mv hA rfl) rfl fun a hA => 
            o_no hA rfl rfl (by simp [vb]) rfl fun a hA => 
            o_no hA rfl rfl (by simp [vb]) rfl fun a hA => 
            o_no hA rfl rfl (by simp [vb]) rfl fun a hA => 
            o_no hA rfl rfl (by simp [vb]) rfl fun a hA => 
            o_no hA rfl rfl (by simp [vb]) rfl fun a hA => 
            o_no hA rfl rfl (by simp [vb]) rfl fun a hA => 
            o_no hA rfl rfl (by simp [vb]) rfl fun a hA => 
            o_no hA rfl rfl (by simp [vb]) rfl fun a hA => 
            o_no hA rfl rfl (by simp [vb]) rfl fun a hA => 
            o_no hA rfl rfl (by simp [vb]) rfl fun a hA => 
            stp hA (r_pick_t hA rfl rfl rfl) rfl fun a hA => 
            stp hA (r_mv hA rfl) rfl fun a hA => 
            o_no hA rfl rfl (by simp [vb]) rfl fun a hA => 
            o_no hA rfl rfl (by simp [vb]) rfl fun a hA => 
            o_no hA rfl rfl (by simp [vb]) rfl fun a hA => 
            o_no hA rfl rfl (by simp [vb]) rfl fun a hA => 
            stp hA (r_pick_t hA rfl rfl rfl) rfl fun a hA => ?_
          refine o_nil ?_
          cases Option.some.inj (bS H)
          exact ⟨hA.sub ⟨rfl, rfl, rfl, rfl, rfl, rfl, rfl, rfl, rfl, trivial⟩, hI⟩
        · have hc30 := hc3; have hc3 := of_decide_eq_false hc3; have H := bF H hc3
          refine o_yes hA rfl rfl hc30 <| 
            stp hA (r_fd (k := 2) Tryd.underlying32 rfl sz30 hA rfl rfl) rfl fun a hA => 
            o_yes hA rfl rfl hc30 <| 
            stp hA (r_ld1 (j := 1) [[.int .u32 r3.Version], [v2]] [[.int .u32 r3.Time]] Tryd.underlying30 rfl hI rfl hA rfl rfl) rfl fun a hA => 
            o_yes hA rfl rfl hc30 <| ?_
          obtain ⟨_, hsl6⟩ := Slc.sv (Slc.le hw1.2.2.1 (fun _ _ h => ROut.le hi2.le h) hi2.le)
          refine stp hA (r_slen Tryd.underlying30 hsl6 hA rfl) rfl fun a hA => 
            o_yes hA rfl rfl hc30 <| 
            stp hA (r_neq hA rfl rfl) rfl fun a hA => 
            stp hA (r_pick_f hA rfl hc30 rfl) rfl fun a hA => 
            stp hA (r_mv hA rfl) rfl fun a hA => ?_
          rcases Bool.eq_false_or_eq_true (decide ((r3.Outs.length : Int) ≠ 1)) with hc4 | hc4
          · have hc40 := hc4; have hc4 := of_decide_eq_true hc4; have H := bT H hc4
            refine o_no hA rfl rfl (by rw [hc40]; simp [vb]) rfl fun a hA => 
              o_no hA rfl rfl (by rw [hc40]; simp [vb]) rfl fun a hA => 
              o_no hA rfl rfl (by rw [hc40]; simp [vb]) rfl fun a hA => 
              o_no hA rfl rfl (by rw [hc40]; simp [vb]) rfl fun a hA => 
              o_no hA rfl rfl (by rw [hc40]; simp [vb]) rfl fun a hA => 
              o_no hA rfl rfl (by rw [hc40]; simp [vb]) rfl fun a hA => 
              o_no hA rfl rfl (by rw [hc40]; simp [vb]) rfl fun a hA => 
              o_no hA rfl rfl (by rw [hc40]; simp [vb]) rfl fun a hA => 
              o_no hA rfl rfl (by rw [hc40]; simp [vb]) rfl fun a hA => 
              o_no hA rfl rfl (by rw [hc40]; simp [vb]) rfl fun a hA => 
              stp hA (r_pick_t hA rfl hc40 rfl) rfl fun a hA => 
              stp hA (r_mv hA rfl) rfl fun a hA => 
              o_no hA rfl rfl (by simp [vb]) rfl fun a hA => 
              o_no hA rfl rfl (by simp [vb]) rfl fun a hA => 
              o_no hA rfl rfl (by simp [vb]) rfl fun a hA => 
              o_no hA rfl rfl (by simp [vb]) rfl fun a hA => 
              stp hA (r_pick_t hA rfl rfl rfl) rfl fun a hA => ?_
            refine o_nil ?_
            cases Option.some.inj (bS H)
            exact ⟨hA.sub ⟨rfl, rfl, rfl, rfl, rfl, rfl, rfl, rfl, rfl, trivial⟩, hI⟩
          · have hc40 := hc4; have hc4 := of_decide_eq_false hc4; have H := bF H hc4
            refine o_yes hA rfl rfl hc40 <| 
              stp hA (r_fd (k := 1) Tryd.underlying32 rfl sz29 hA rfl rfl) rfl fun a hA => 
              o_yes hA rfl rfl hc40 <| 
              stp hA (r_ld1 (j := 1) [[.int .u32 r3.Version]] [[v3], [.int .u32 r3.Time]] Tryd.underlying29 rfl hI rfl hA rfl rfl) rfl fun a hA => 
              o_yes hA rfl rfl hc40 <| ?_
            obtain ⟨hb1, H⟩ := bG H
            obtain ⟨_, he1, _, hat1⟩ := Slc.elem (Slc.le hw1.2.1 (fun _ _ h => RIn.le hi2.le h) hi2.le) (getD_some default (by decide) hb1)
            obtain ⟨v6, rfl, hw3⟩ := he1
            obtain ⟨_, hsl7⟩ := Slc.sv (Slc.le hw1.2.1 (fun _ _ h => RIn.le hi2.le h) hi2.le)
            refine stp hA (r_six Tryd.underlying29 sz46 hsl7 hA rfl rfl (by decide) hb1) rfl fun a hA => 
              o_yes hA rfl rfl hc40 <| 
              stp hA (r_fd (k := so v2 + (0 : Int).toNat * 35 + 33) Tryd.underlying46 rfl sz25 hA rfl rfl) rfl fun a hA => 
              o_yes hA rfl rfl hc40 <| 
              stp hA (r_ldm1 [av .u8 32 ((r3.Ins.getD (0 : Int).toNat default).From.Tx), [.int .u32 ((r3.Ins.getD (0 : Int).toNat default).From.N)]] [[.int .u32 ((r3.Ins.getD (0 : Int).toNat default).Seq)]] Tryd.underlying25 rfl hI.agr hat1 hA rfl rfl) rfl fun a hA => 
              o_yes hA rfl rfl hc40 <| ?_
            obtain ⟨_, hsl8⟩ := Slc.sv hw3.2.2.1
            refine stp hA (r_slen Tryd.underlying25 hsl8 hA rfl) rfl fun a hA => 
              o_yes hA rfl rfl hc40 <| 
              stp hA (r_mv hA rfl) rfl fun a hA => 
              o_yes hA rfl rfl hc40 <| ?_
            obtain ⟨_, hsl9⟩ := Slc.sv (Slc.le hx1 (fun _ _ h => h) (hi1.le.trans hi2.le))
            refine stp hA (r_slen Tryd.underlying25 hsl9 hA rfl) rfl fun a hA => 
              o_yes hA rfl rfl hc40 <| 
              stp hA (r_add hA rfl rfl) rfl fun a hA => 
              o_yes hA rfl rfl hc40 <| 
              stp hA (r_neq hA rfl rfl) rfl fun a hA => 
              stp hA (r_pick_f hA rfl hc40 rfl) rfl fun a hA => 
              stp hA (r_mv hA rfl) rfl fun a hA => ?_
            rcases Bool.eq_false_or_eq_true (decide ((((r3.Ins.getD (0 : Int).toNat default).Key).length : Int) ≠ (IntKind.i64.wrap (4 + (x1.length : Int))))) with hc5 | hc5
            · have hc50 := hc5; have hc5 := of_decide_eq_true hc5; have H := bT H hc5
              refine o_no hA rfl rfl (by rw [hc50]; simp [vb]) rfl fun a hA => 
                o_no hA rfl rfl (by rw [hc50]; simp [vb]) rfl fun a hA => 
                o_no hA rfl rfl (by rw [hc50]; simp [vb]) rfl fun a hA => 
                o_no hA rfl rfl (by rw [hc50]; simp [vb]) rfl fun a hA => 
                stp hA (r_pick_t hA rfl hc50 rfl) rfl fun a hA => ?_
              refine o_nil ?_
              cases Option.some.inj (bS H)
              exact ⟨hA.sub ⟨rfl, rfl, rfl, rfl, rfl, rfl, rfl, rfl, rfl, trivial⟩, hI⟩
            · have hc50 := hc5; have hc5 := of_decide_eq_false hc5; have H := bF H hc5
              refine o_yes hA rfl rfl hc50 <| 
                stp hA (r_fd (k := 68) Tryd.underlying39 rfl sz37 hA rfl rfl) rfl fun a hA => 
                o_yes hA rfl rfl hc50 <| 
                stp hA (r_ld1 (j := 0) [[.int .u32 r4.Head.Version], av .u8 32 r4.Head.Prev, av .u8 32 r4.Head.Root, [.int .u32 r4.Head.Time], [.int .u32 r4.Head.Work], [.int .u32 r4.Head.Nonce]] [] Tryd.underlying37 rfl hI rfl hA rfl rfl) rfl fun a hA => 
                o_yes hA rfl rfl hc50 <| ?_
              obtain ⟨_, hsl10⟩ := Slc.sv hw2.2.2.2.2.2.2
              refine stp hA (r_slen Tryd.underlying37 hsl10 hA rfl) rfl fun a hA => 
                o_yes hA rfl rfl hc50 <| 
                stp hA (r_neq hA rfl rfl) rfl fun a hA => 
                stp hA (r_pick_f hA rfl hc50 rfl) rfl fun a hA => ?_
              refine o_nil ?_
              cases Option.some.inj (bS H)
              exact ⟨hA.sub ⟨rfl, rfl, rfl, rfl, rfl, rfl, rfl, rfl, rfl, trivial⟩, hI⟩
      · rintro a w ⟨hA, hI⟩
        have H := Hk1
        refine w_cond hA rfl (fun hc6 => ?_) (fun hc6 => ?_)
        · have hc60 := hc6; have H := bT H hc6
          refine w_seq fun _ hN13 => ?_
          refine w_reg ?_
          refine stp hA (r_as hA rfl) rfl fun a hA => ?_
          refine o_nil ?_
          refine hN13 _ _ ?_
          refine w_ret ?_
          obtain rfl := Option.some.inj (bS H)
          exact ret1 hA Tryd.results5 rfl ⟨_, rfl, rfl, trivial, hI.forget0⟩
        · have hc60 := hc6; have hc6 := ft hc6; have H := bF H hc6
          refine w_skip ?_
          refine hN12 _ _ ?_
          refine w_seq fun _ hN14 => ?_
          refine w_reg ?_
          refine stp hA (r_fd (k := 1) Tryd.underlying32 rfl sz29 hA rfl rfl) rfl fun a hA => 
            stp hA (r_ld1 (j := 1) [[.int .u32 r3.Version]] [[v3], [.int .u32 r3.Time]] Tryd.underlying29 rfl hI rfl hA rfl rfl) rfl fun a hA => ?_
          obtain ⟨hb2, H⟩ := bG H
          obtain ⟨_, he2, _, hat2⟩ := Slc.elem (Slc.le hw1.2.1 (fun _ _ h => RIn.le hi2.le h) hi2.le) (getD_some default (by decide) hb2)
          obtain ⟨v7, rfl, hw4⟩ := he2
          obtain ⟨_, hsl11⟩ := Slc.sv (Slc.le hw1.2.1 (fun _ _ h => RIn.le hi2.le h) hi2.le)
          refine stp hA (r_six Tryd.underlying29 sz46 hsl11 hA rfl rfl (by decide) hb2) rfl fun a hA => 
            stp hA (r_fd (k := so v2 + (0 : Int).toNat * 35 + 33) Tryd.underlying46 rfl sz25 hA rfl rfl) rfl fun a hA => 
            stp hA (r_ldm1 [av .u8 32 ((r3.Ins.getD (0 : Int).toNat default).From.Tx), [.int .u32 ((r3.Ins.getD (0 : Int).toNat default).From.N)]] [[.int .u32 ((r3.Ins.getD (0 : Int).toNat default).Seq)]] Tryd.underlying25 rfl hI.agr hat2 hA rfl rfl) rfl fun a hA => 
            stp hA (r_as hA rfl) rfl fun a hA => ?_
          refine o_nil ?_
          refine hN14 _ _ ?_
          refine w_seq fun _ hN15 => ?_
          refine w_draw mo (by kernel_rfl) hI ?_
          refine qtp hA (fun _ hI => r_mv hA rfl) rfl fun a hA => ?_
          obtain ⟨hb3, H⟩ := bG H
          obtain ⟨_, he3, _, hat3⟩ := Slc.elem1 hw4.2.2.1 (getD_some 0 (by decide) hb3)
          obtain ⟨rfl, hw5⟩ := he3
          obtain ⟨_, hsl12⟩ := Slc.sv hw4.2.2.1
          refine qtp hA (fun _ hI => r_six1 Tryd.underlying25 sz5 hsl12 hA rfl rfl (by decide) hb3) rfl fun a hA => 
            qtp hA (fun _ hI => r_ldm1 [] [] Tryd.underlying5 rfl hI.agr hat3 hA rfl rfl) rfl fun a hA => 
            qtp hA (fun _ hI => r_conv Tryd.underlying5 Tryd.underlying3 hA rfl) rfl fun a hA => 
            qtp hA (fun _ hI => r_mv hA rfl) rfl fun a hA => ?_
          obtain ⟨hb4, H⟩ := bG H
          obtain ⟨_, he4, _, hat4⟩ := Slc.elem1 hw4.2.2.1 (getD_some 0 (by decide) hb4)
          obtain ⟨rfl, hw6⟩ := he4
          obtain ⟨_, hsl13⟩ := Slc.sv hw4.2.2.1
          refine qtp hA (fun _ hI => r_six1 Tryd.underlying25 sz5 hsl13 hA rfl rfl (by decide) hb4) rfl fun a hA => 
            qtp hA (fun _ hI => r_ldm1 [] [] Tryd.underlying5 rfl hI.agr hat4 hA rfl rfl) rfl fun a hA => 
            qtp hA (fun _ hI => r_conv Tryd.underlying5 Tryd.underlying3 hA rfl) rfl fun a hA => 
            qtp hA (fun _ hI => r_shl hA rfl rfl (by decide)) rfl fun a hA => 
            qtp hA (fun _ hI => r_or hA rfl rfl) rfl fun a hA => 
            qtp hA (fun _ hI => r_mv hA rfl) rfl fun a hA => ?_
          obtain ⟨hb5, H⟩ := bG H
          obtain ⟨_, he5, _, hat5⟩ := Slc.elem1 hw4.2.2.1 (getD_some 0 (by decide) hb5)
          obtain ⟨rfl, hw7⟩ := he5
          obtain ⟨_, hsl14⟩ := Slc.sv hw4.2.2.1
          refine qtp hA (fun _ hI => r_six1 Tryd.underlying25 sz5 hsl14 hA rfl rfl (by decide) hb5) rfl fun a hA => 
            qtp hA (fun _ hI => r_ldm1 [] [] Tryd.underlying5 rfl hI.agr hat5 hA rfl rfl) rfl fun a hA => 
            qtp hA (fun _ hI => r_conv Tryd.underlying5 Tryd.underlying3 hA rfl) rfl fun a hA => 
            qtp hA (fun _ hI => r_shl hA rfl rfl (by decide)) rfl fun a hA => 
            qtp hA (fun _ hI => r_or hA rfl rfl) rfl fun a hA => 
            qtp hA (fun _ hI => r_mv hA rfl) rfl fun a hA => ?_
          obtain ⟨hb6, H⟩ := bG H
          obtain ⟨_, he6, _, hat6⟩ := Slc.elem1 hw4.2.2.1 (getD_some 0 (by decide) hb6)
          obtain ⟨rfl, hw8⟩ := he6
          obtain ⟨_, hsl15⟩ := Slc.sv hw4.2.2.1
          refine qtp hA (fun _ hI => r_six1 Tryd.underlying25 sz5 hsl15 hA rfl rfl (by decide) hb6) rfl fun a hA => 
            qtp hA (fun _ hI => r_ldm1 [] [] Tryd.underlying5 rfl hI.agr hat6 hA rfl rfl) rfl fun a hA => 
            qtp hA (fun _ hI => r_conv Tryd.underlying5 Tryd.underlying3 hA rfl) rfl fun a hA => 
            qtp hA (fun _ hI => r_shl hA rfl rfl (by decide)) rfl fun a hA => 
            qtp hA (fun _ hI => r_or hA rfl rfl) rfl fun a hA => 
            qtp hA (fun _ hI => r_as hA rfl) rfl fun a hA => ?_
          refine q_nil fun w hI => ?_
          refine hN15 _ _ ?_
          obtain ⟨c2, hz6, Hk2⟩ := bB H
          refine w_cut (fun a w => ∃ (μ3 : Store), μ2.le μ3 ∧ Fr a 129 [(0, .int .i64 r2), (1, u1), (4, .bool c2), (5, .bool r1), (6, .pointer (some ⟨g1, 0, none⟩)), (7, .pointer (some ⟨g2, 0, none⟩)), (8, v7), (9, .int .i64 (bOr .i64 (bOr .i64 (bOr .i64 (IntKind.i64.wrap (((r3.Ins.getD (0 : Int).toNat default).Key).getD (0 : Int).toNat 0)) (sL .i64 (IntKind.i64.wrap (((r3.Ins.getD (0 : Int).toNat default).Key).getD (1 : Int).toNat 0)) 8)) (sL .i64 (IntKind.i64.wrap (((r3.Ins.getD (0 : Int).toNat default).Key).getD (2 : Int).toNat 0)) 16)) (sL .i64 (IntKind.i64.wrap (((r3.Ins.getD (0 : Int).toNat default).Key).getD (3 : Int).toNat 0)) 24))), (12, .bool (!r1)), (15, .bool (decide (70 < (x1.length : Int)))), (51, .bool c1)] ∧ Iv w0 [] μ μ3 [cel g2 [[.int .u32 r4.Head.Version], av .u8 32 r4.Head.Prev, av .u8 32 r4.Head.Root, [.int .u32 r4.Head.Time], [.int .u32 r4.Head.Work], [.int .u32 r4.Head.Nonce], [v5]] 39, cel g1 [[.int .u32 r3.Version], [v2], [v3], [.int .u32 r3.Time]] 32] w) ?_ ?_
          · have H := bI hz6
            refine w_any [] mo hI fun w hI => ?_
            refine g_easy (i := 0) hA rfl rfl (by kernel_rfl) (.inr hI) (fun _ => r_mv hA rfl) rfl fun a hA => ?_
            refine g_easy (i := 1) hA rfl rfl (by kernel_rfl) (.inr hI) (fun _ => r_mv hA rfl) rfl fun a hA => ?_
            rcases Bool.eq_false_or_eq_true r1 with hc7 | hc7
            · have hc70 := hc7; have H := bT H hc7
              refine g_easy (i := 2) hA rfl (wanted_yes hA rfl rfl hc70) (by kernel_rfl) (.inr hI) (fun _ => r_mv hA rfl) rfl fun a hA => ?_
              refine g_easy (i := 3) hA rfl (wanted_yes hA rfl rfl hc70) (by kernel_rfl) (.inr hI) (fun _ => r_mv hA rfl) rfl fun a hA => ?_
              refine g_easy (i := 4) hA rfl (wanted_yes hA rfl rfl hc70) (by kernel_rfl) (.inr hI) (fun _ => r_eql hA rfl rfl) rfl fun a hA => ?_
              refine g_easy (i := 5) hA rfl rfl (by kernel_rfl) (.inr hI) (fun _ => r_pick_t hA rfl hc70 rfl) rfl fun a hA => ?_
              refine g_easy (i := 6) hA rfl rfl (by kernel_rfl) (.inr hI) (fun _ => r_mv hA rfl) rfl fun a hA => ?_
              rcases Bool.eq_false_or_eq_true (decide ((bOr .i64 (bOr .i64 (bOr .i64 (IntKind.i64.wrap (((r3.Ins.getD (0 : Int).toNat default).Key).getD (0 : Int).toNat 0)) (sL .i64 (IntKind.i64.wrap (((r3.Ins.getD (0 : Int).toNat default).Key).getD (1 : Int).toNat 0)) 8)) (sL .i64 (IntKind.i64.wrap (((r3.Ins.getD (0 : Int).toNat default).Key).getD (2 : Int).toNat 0)) 16)) (sL .i64 (IntKind.i64.wrap (((r3.Ins.getD (0 : Int).toNat default).Key).getD (3 : Int).toNat 0)) 24)) = r2)) with hc8 | hc8
              · have hc80 := hc8; have hc8 := of_decide_eq_true hc8; have H := bT H hc8
                refine g_easy (i := 7) hA rfl (wanted_yes hA rfl rfl hc80) (by kernel_rfl) (.inr hI) (fun _ => r_mv hA rfl) rfl fun a hA => ?_
                obtain ⟨hb7, H⟩ := bG H
                obtain ⟨v8, hS1, hr5⟩ := r_sl (P := Tryd.prog) (t := 25) (x := .tmp 86) (l := (some (.const (.int .i64 4)))) (h := none) (i := 4) (j := (((r3.Ins.getD (0 : Int).toNat default).Key).length : Int)) Tryd.underlying25 sz5 hw4.2.2.1 hA rfl rfl rfl (by have hq := hb7; omega) (by have hq := hb7; omega) (by have hq := hb7; omega)
                refine g_easy (i := 8) hA rfl (wanted_yes hA rfl rfl hc80) (by kernel_rfl) (.inr hI) (fun _ => hr5 _ _ _ _ _ _) rfl fun a hA => ?_
                refine g_easy (i := 9) hA rfl (wanted_yes hA rfl rfl hc80) (by kernel_rfl) (.inr hI) (fun _ => r_mv hA rfl) rfl fun a hA => ?_
                refine g_forced (i := 10) rfl (by kernel_rfl) ?_
                refine o_yes hA rfl rfl hc80 <| ?_
                obtain ⟨r5, hr6, H⟩ := bB H
                refine o_callp (u := .bool r5) cf20 hA rfl hI (sargassoref_SameBytes.c μ2 _ hI.agr ((((r3.Ins.getD (0 : Int).toNat default).Key).take ((((r3.Ins.getD (0 : Int).toNat default).Key).length : Int)).toNat).drop (4 : Int).toNat) v8 hS1 x1 u1 (Slc.le hx1 (fun _ _ h => h) (hi1.le.trans hi2.le)) r5 hr6) rfl fun a w hz7 hI hA => ?_
                refine o_nil ?_
                refine ⟨(.inr hI), ?_⟩
                refine g_easy (i := 11) hA rfl rfl (by kernel_rfl) (.inr hI) (fun _ => r_pick_t hA rfl hc80 rfl) rfl fun a hA => ?_
                refine g_easy (i := 12) hA rfl rfl (by kernel_rfl) (.inr hI) (fun _ => r_mv hA rfl) rfl fun a hA => ?_
                rcases Bool.eq_false_or_eq_true r5 with hc9 | hc9
                · have hc90 := hc9; have H := bT H hc9
                  refine g_easy (i := 13) hA rfl (wanted_yes hA rfl rfl hc90) (by kernel_rfl) (.inr hI) (fun _ => r_fd (k := 2) Tryd.underlying32 rfl sz30 hA rfl rfl) rfl fun a hA => ?_
                  refine g_take (i := 14) hA rfl (wanted_yes hA rfl rfl hc90) (by kernel_rfl) hI (fun w hI => r_ld1 (j := 1) [[.int .u32 r3.Version], [v2]] [[.int .u32 r3.Time]] Tryd.underlying30 rfl hI rfl hA rfl rfl) rfl fun a hA => ?_
                  obtain ⟨hb8, H⟩ := bG H
                  obtain ⟨_, he7, _, hat7⟩ := Slc.elem (Slc.le hw1.2.2.1 (fun _ _ h => ROut.le hi2.le h) hi2.le) (getD_some default (by decide) hb8)
                  obtain ⟨rfl, hw9⟩ := he7
                  obtain ⟨_, hsl16⟩ := Slc.sv (Slc.le hw1.2.2.1 (fun _ _ h => ROut.le hi2.le h) hi2.le)
                  refine g_easy (i := 15) hA rfl (wanted_yes hA rfl rfl hc90) (by kernel_rfl) (.inr hI) (fun _ => r_six Tryd.underlying30 sz48 hsl16 hA rfl rfl (by decide) hb8) rfl fun a hA => ?_
                  refine g_easy (i := 16) hA rfl (wanted_yes hA rfl rfl hc90) (by kernel_rfl) (.inr hI) (fun _ => r_fd (k := so v3 + (0 : Int).toNat * 33) Tryd.underlying48 rfl sz22 hA rfl rfl) rfl fun a hA => ?_
                  refine g_take (i := 17) hA rfl (wanted_yes hA rfl rfl hc90) (by kernel_rfl) hI (fun w hI => r_ldm1 [] [av .u8 32 ((r3.Outs.getD (0 : Int).toNat default).Lock)] Tryd.underlying22 rfl hI.agr hat7 hA rfl rfl) rfl fun a hA => ?_
                  refine g_easy (i := 18) hA rfl (wanted_yes hA rfl rfl hc90) (by kernel_rfl) (.inr hI) (fun _ => r_eql hA rfl rfl) rfl fun a hA => ?_
                  refine g_easy (i := 19) hA rfl rfl (by kernel_rfl) (.inr hI) (fun _ => r_pick_t hA rfl hc90 rfl) rfl fun a hA => ?_
                  refine g_easy (i := 20) hA rfl rfl (by kernel_rfl) (.inr hI) (fun _ => r_mv hA rfl) rfl fun a hA => ?_
                  rcases Bool.eq_false_or_eq_true (decide (((r3.Outs.getD (0 : Int).toNat default).Value) = 9)) with hc10 | hc10
                  · have hc100 := hc10; have hc10 := of_decide_eq_true hc10; have H := bT H hc10
                    refine g_take (i := 21) hA rfl (wanted_yes hA rfl rfl hc100) (by kernel_rfl) hI (fun w hI => r_ldA (j := 1) [] [[.int .u32 r3.Version], [v2], [v3], [.int .u32 r3.Time]] [] Tryd.underlying32 rfl sz32 rfl hI rfl hA rfl rfl) rfl fun a hA => ?_
                    refine g_forced (i := 22) rfl (by kernel_rfl) ?_
                    refine o_yes hA rfl rfl hc100 <| ?_
                    obtain ⟨r6, hr7, H⟩ := bB H
                    refine o_callp (u := .bool r6) cf21 hA rfl hI (sargassoref1_Base.c μ2 _ hI.agr r3 v2 v3 ⟨hw1.1, (Slc.le hw1.2.1 (fun _ _ h => RIn.le hi2.le h) hi2.le), (Slc.le hw1.2.2.1 (fun _ _ h => ROut.le hi2.le h) hi2.le), hw1.2.2.2⟩ r6 hr7) rfl fun a w hz8 hI hA => ?_
                    refine o_nil ?_
                    refine ⟨(.inr hI), ?_⟩
                    refine g_easy (i := 23) hA rfl rfl (by kernel_rfl) (.inr hI) (fun _ => r_pick_t hA rfl hc100 rfl) rfl fun a hA => ?_
                    refine g_easy (i := 24) hA rfl rfl (by kernel_rfl) (.inr hI) (fun _ => r_mv hA rfl) rfl fun a hA => ?_
                    rcases Bool.eq_false_or_eq_true r6 with hc11 | hc11
                    · have hc110 := hc11; have H := bT H hc11
                      refine g_take (i := 25) hA rfl (wanted_yes hA rfl rfl hc110) (by kernel_rfl) hI (fun w hI => r_ldA (j := 0) [] [[.int .u32 r4.Head.Version], av .u8 32 r4.Head.Prev, av .u8 32 r4.Head.Root, [.int .u32 r4.Head.Time], [.int .u32 r4.Head.Work], [.int .u32 r4.Head.Nonce], [v5]] [] Tryd.underlying39 rfl sz39 rfl hI rfl hA rfl rfl) rfl fun a hA => ?_
                      refine g_forced (i := 26) rfl (by kernel_rfl) ?_
                      refine o_yes hA rfl rfl hc110 <| ?_
                      obtain ⟨r7, hr8, H⟩ := bB H
                      refine o_call _ cf16 hA rfl (block_Check.c μ2 _ hI.agr r4 v5 ⟨hw2.1, hw2.2.1, hw2.2.2.1, hw2.2.2.2.1, hw2.2.2.2.2.1, hw2.2.2.2.2.2.1, hw2.2.2.2.2.2.2⟩ e0 (ErV.le (fun _ _ h => h) (hi1.le.trans hi2.le) he0) e1 (ErV.le (fun _ _ h => h) (hi1.le.trans hi2.le) he1) e2 (ErV.le (fun _ _ h => h) (hi1.le.trans hi2.le) he2) e3 (ErV.le (fun _ _ h => h) (hi1.le.trans hi2.le) he3) e5 (ErV.le (fun _ _ h => h) (hi1.le.trans hi2.le) he5) e6 (ErV.le (fun _ _ h => h) (hi1.le.trans hi2.le) he6) e7 (ErV.le (fun _ _ h => h) (hi1.le.trans hi2.le) he7) e8 (ErV.le (fun _ _ h => h) (hi1.le.trans hi2.le) he8) r7 hr8) rfl fun v9 a w hz9 hA => ?_
                      obtain ⟨_, μ4, rfl, hS2, hi3⟩ := hz9
                      have hI := hI.call hi3
                      refine o_nil ?_
                      refine ⟨(.inr (hI.less (hi1.le.trans hi2.le) hi3.le)), ?_⟩
                      refine g_mono (I' := fun w => Iv w0 [] μ μ4 [cel g2 [[.int .u32 r4.Head.Version], av .u8 32 r4.Head.Prev, av .u8 32 r4.Head.Root, [.int .u32 r4.Head.Time], [.int .u32 r4.Head.Work], [.int .u32 r4.Head.Nonce], [v5]] 39, cel g1 [[.int .u32 r3.Version], [v2], [v3], [.int .u32 r3.Time]] 32] w) (fun w h => (h.less (hi1.le.trans hi2.le) hi3.le)) _ _ _ _ ?_
                      refine g_take (i := 27) hA rfl (wanted_yes hA rfl rfl hc110) (by kernel_rfl) hI (fun w hI => r_eqE erF hI.agr hS2 erv_nil (.inl ⟨.inr ⟨_, rfl⟩, Er.fitR⟩) hA rfl rfl) rfl fun a hA => ?_
                      refine g_easy (i := 28) hA rfl rfl (by kernel_rfl) (.inr hI) (fun _ => r_pick_t hA rfl hc110 rfl) rfl fun a hA => ?_
                      refine g_easy (i := 29) hA rfl rfl (by kernel_rfl) (.inr hI) (fun _ => r_mv hA rfl) rfl fun a hA => ?_
                      rcases Bool.eq_false_or_eq_true (decide (r7 = (Er.b 0))) with hc12 | hc12
                      · have hc120 := hc12; have hc12 := of_decide_eq_true hc12; have H := bT H hc12
                        refine g_take (i := 30) hA rfl (wanted_yes hA rfl rfl hc120) (by kernel_rfl) hI (fun w hI => r_ldA (j := 0) [] [[.int .u32 r4.Head.Version], av .u8 32 r4.Head.Prev, av .u8 32 r4.Head.Root, [.int .u32 r4.Head.Time], [.int .u32 r4.Head.Work], [.int .u32 r4.Head.Nonce], [v5]] [] Tryd.underlying39 rfl sz39 rfl hI rfl hA rfl rfl) rfl fun a hA => ?_
                        refine g_forced (i := 31) rfl (by kernel_rfl) ?_
                        refine o_yes hA rfl rfl hc120 <| ?_
                        obtain ⟨r8, hr9, H⟩ := bB H
                        refine o_callp (u := .agg [av .u8 32 r8].flatten.toArray) cf23 hA rfl hI (block_ID.c μ4 _ hI.agr r4 v5 ⟨hw2.1, hw2.2.1, hw2.2.2.1, hw2.2.2.2.1, hw2.2.2.2.2.1, hw2.2.2.2.2.2.1, (Slc.le hw2.2.2.2.2.2.2 (fun _ _ h => RTx.le hi3.le h) hi3.le)⟩ r8 hr9) rfl fun a w hz10 hI hA => ?_
                        refine o_nil ?_
                        refine ⟨(.inr hI), ?_⟩
                        refine g_forced (i := 32) rfl (by kernel_rfl) ?_
                        refine o_yes hA rfl rfl hc120 <| ?_
                        obtain ⟨r9, hr10, H⟩ := bB H
                        refine o_call _ cf12 hA rfl (block_Start.c μ4 _ hI.agr  r9 hr10) rfl fun v10 a w hz11 hA => ?_
                        obtain ⟨v11, μ5, rfl, hw10, hi4⟩ := hz11
                        have hI := hI.call hi4
                        refine o_nil ?_
                        refine ⟨(.inr (hI.less ((hi1.le.trans hi2.le).trans hi3.le) hi4.le)), ?_⟩
                        refine g_forced (i := 33) rfl (by kernel_rfl) ?_
                        refine o_yes hA rfl rfl hc120 <| ?_
                        obtain ⟨r10, hr11, H⟩ := bB H
                        refine o_callp (u := .agg [av .u8 32 r10].flatten.toArray) cf23 hA rfl hI (block_ID.c μ5 _ hI.agr r9 v11 ⟨hw10.1, hw10.2.1, hw10.2.2.1, hw10.2.2.2.1, hw10.2.2.2.2.1, hw10.2.2.2.2.2.1, hw10.2.2.2.2.2.2⟩ r10 hr11) rfl fun a w hz12 hI hA => ?_
                        refine o_nil ?_
                        refine ⟨(.inr (hI.less ((hi1.le.trans hi2.le).trans hi3.le) hi4.le)), ?_⟩
                        refine g_forced (i := 34) rfl (by kernel_rfl) ?_
                        refine o_yes hA rfl rfl hc120 <| ?_
                        obtain ⟨r11, hr12, H⟩ := bB H
                        refine o_callp (u := .bool r11) cf22 hA rfl hI (sargassoref_SameHash.c μ5 _ hI.agr r8 hz10 r10 hz12 r11 hr12) rfl fun a w hz13 hI hA => ?_
                        refine o_nil ?_
                        refine ⟨(.inr (hI.less ((hi1.le.trans hi2.le).trans hi3.le) hi4.le)), ?_⟩
                        refine g_easy (i := 35) hA rfl rfl (by kernel_rfl) (.inr (hI.less ((hi1.le.trans hi2.le).trans hi3.le) hi4.le)) (fun _ => r_pick_t hA rfl hc120 rfl) rfl fun a hA => ?_
                        refine g_easy (i := 36) hA rfl rfl (by kernel_rfl) (.inr (hI.less ((hi1.le.trans hi2.le).trans hi3.le) hi4.le)) (fun _ => r_mv hA rfl) rfl fun a hA => ?_
                        rcases Bool.eq_false_or_eq_true r11 with hc13 | hc13
                        · have hc130 := hc13; have H := bT H hc13
                          refine g_easy (i := 37) hA rfl (wanted_yes hA rfl rfl hc130) (by kernel_rfl) (.inr (hI.less ((hi1.le.trans hi2.le).trans hi3.le) hi4.le)) (fun _ => r_fd (k := 0) Tryd.underlying39 rfl sz36 hA rfl rfl) rfl fun a hA => ?_
                          refine g_easy (i := 38) hA rfl (wanted_yes hA rfl rfl hc130) (by kernel_rfl) (.inr (hI.less ((hi1.le.trans hi2.le).trans hi3.le) hi4.le)) (fun _ => r_fd (k := 65) Tryd.underlying36 rfl sz28 hA rfl rfl) rfl fun a hA => ?_
                          refine g_mono (I' := fun w => Iv w0 [] μ μ5 [cel g2 [[.int .u32 r4.Head.Version], av .u8 32 r4.Head.Prev, av .u8 32 r4.Head.Root, [.int .u32 r4.Head.Time], [.int .u32 r4.Head.Work], [.int .u32 r4.Head.Nonce], [v5]] 39, cel g1 [[.int .u32 r3.Version], [v2], [v3], [.int .u32 r3.Time]] 32] w) (fun w h => (h.less ((hi1.le.trans hi2.le).trans hi3.le) hi4.le)) _ _ _ _ ?_
                          refine g_take (i := 39) hA rfl (wanted_yes hA rfl rfl hc130) (by kernel_rfl) hI (fun w hI => r_ld1 (j := 0) [[.int .u32 r4.Head.Version], av .u8 32 r4.Head.Prev, av .u8 32 r4.Head.Root] [[.int .u32 r4.Head.Work], [.int .u32 r4.Head.Nonce], [v5]] Tryd.underlying28 rfl hI rfl hA rfl rfl) rfl fun a hA => ?_
                          refine g_easy (i := 40) hA rfl (wanted_yes hA rfl rfl hc130) (by kernel_rfl) (.inr hI) (fun _ => r_eql hA rfl rfl) rfl fun a hA => ?_
                          refine g_easy (i := 41) hA rfl rfl (by kernel_rfl) (.inr hI) (fun _ => r_pick_t hA rfl hc130 rfl) rfl fun a hA => ?_
                          refine g_easy (i := 42) hA rfl rfl (by kernel_rfl) (.inr hI) (fun _ => r_mv hA rfl) rfl fun a hA => ?_
                          rcases Bool.eq_false_or_eq_true (decide (r4.Head.Time = 1000)) with hc14 | hc14
                          · have hc140 := hc14; have hc14 := of_decide_eq_true hc14; have H := bT H hc14
                            refine g_take (i := 43) hA rfl (wanted_yes hA rfl rfl hc140) (by kernel_rfl) hI (fun w hI => r_ldA (j := 0) [] [[.int .u32 r4.Head.Version], av .u8 32 r4.Head.Prev, av .u8 32 r4.Head.Root, [.int .u32 r4.Head.Time], [.int .u32 r4.Head.Work], [.int .u32 r4.Head.Nonce], [v5]] [] Tryd.underlying39 rfl sz39 rfl hI rfl hA rfl rfl) rfl fun a hA => ?_
                            refine g_take (i := 45) hA rfl (wanted_yes hA rfl rfl hc140) (by kernel_rfl) hI (fun w hI => r_ldA (j := 0) [] [[.int .u32 r4.Head.Version], av .u8 32 r4.Head.Prev, av .u8 32 r4.Head.Root, [.int .u32 r4.Head.Time], [.int .u32 r4.Head.Work], [.int .u32 r4.Head.Nonce], [v5]] [] Tryd.underlying39 rfl sz39 rfl hI rfl hA rfl rfl) rfl fun a hA => ?_
                            refine g_forced (i := 44) rfl (by kernel_rfl) ?_
                            refine o_yes hA rfl rfl hc140 <| ?_
                            obtain ⟨r12, hr13, H⟩ := bB H
                            refine o_callp (u := .int .i64 r12) cf24 hA rfl hI (block_Size.c μ5 _ hI.agr r4 v5 ⟨hw2.1, hw2.2.1, hw2.2.2.1, hw2.2.2.2.1, hw2.2.2.2.2.1, hw2.2.2.2.2.2.1, (Slc.le hw2.2.2.2.2.2.2 (fun _ _ h => RTx.le (hi3.le.trans hi4.le) h) (hi3.le.trans hi4.le))⟩ r12 hr13) rfl fun a w hz14 hI hA => ?_
                            refine o_nil ?_
                            refine ⟨(.inr hI), ?_⟩
                            refine g_forced (i := 46) rfl (by kernel_rfl) ?_
                            refine o_yes hA rfl rfl hc140 <| ?_
                            obtain ⟨r13, hr14, H⟩ := bB H
                            refine o_call _ cf25 hA rfl (block_Bytes.c μ5 _ hI.agr r4 v5 ⟨hw2.1, hw2.2.1, hw2.2.2.1, hw2.2.2.2.1, hw2.2.2.2.2.1, hw2.2.2.2.2.2.1, (Slc.le hw2.2.2.2.2.2.2 (fun _ _ h => RTx.le (hi3.le.trans hi4.le) h) (hi3.le.trans hi4.le))⟩ r13 hr14) rfl fun v12 a w hz15 hA => ?_
                            obtain ⟨_, cs1, rfl, hE1, hi5⟩ := hz15
                            have hI := hI.call hi5
                            refine o_nil ?_
                            refine ⟨(.inr (hI.sel [1, 2] (by decide) rfl)), ?_⟩
                            refine g_mono (I' := fun w => Iv w0 [] μ μ5 [row 5 1 v12 r13.length cs1, cel g2 [[.int .u32 r4.Head.Version], av .u8 32 r4.Head.Prev, av .u8 32 r4.Head.Root, [.int .u32 r4.Head.Time], [.int .u32 r4.Head.Work], [.int .u32 r4.Head.Nonce], [v5]] 39, cel g1 [[.int .u32 r3.Version], [v2], [v3], [.int .u32 r3.Time]] 32] w) (fun w h => (h.sel [1, 2] (by decide) rfl)) _ _ _ _ ?_
                            refine g_take (i := 47) hA rfl (wanted_yes hA rfl rfl hc140) (by kernel_rfl) hI (fun w hI => r_rlen (xs := 0) Tryd.underlying25 hI (j := 0) rfl hA rfl) rfl fun a hA => ?_
                            refine g_easy (i := 48) hA rfl (wanted_yes hA rfl rfl hc140) (by kernel_rfl) (.inr hI) (fun _ => r_eql hA rfl rfl) rfl fun a hA => ?_
                            refine g_easy (i := 49) hA rfl rfl (by kernel_rfl) (.inr hI) (fun _ => r_pick_t hA rfl hc140 rfl) rfl fun a hA => ?_
                            refine g_easy (i := 50) hA rfl rfl (by kernel_rfl) (.inr hI) (fun _ => r_as hA rfl) rfl fun a hA => ?_
                            refine g_nil (by kernel_rfl) ?_
                            cases Option.some.inj (bS H)
                            exact ⟨μ5, (hi3.le.trans hi4.le), hA.sub ⟨rfl, rfl, rfl, rfl, rfl, rfl, rfl, rfl, rfl, rfl, rfl, trivial⟩, (hI.sel [1, 2] (by decide) rfl)⟩
                          · have hc140 := hc14; have hc14 := of_decide_eq_false hc14; have H := bF H hc14
                            refine g_skip (i := 43) hA rfl (wanted_no hA rfl rfl (by rw [hc140]; simp [vb])) (by kernel_rfl) (.inr hI) rfl fun a hA => ?_
                            refine g_skip (i := 45) hA rfl (wanted_no hA rfl rfl (by rw [hc140]; simp [vb])) (by kernel_rfl) (.inr hI) rfl fun a hA => ?_
                            refine g_skip (i := 44) hA rfl (wanted_no hA rfl rfl (by rw [hc140]; simp [vb])) (by kernel_rfl) (.inr hI) rfl fun a hA => ?_
                            refine g_skip (i := 46) hA rfl (wanted_no hA rfl rfl (by rw [hc140]; simp [vb])) (by kernel_rfl) (.inr hI) rfl fun a hA => ?_
                            refine g_skip (i := 47) hA rfl (wanted_no hA rfl rfl (by rw [hc140]; simp [vb])) (by kernel_rfl) (.inr hI) rfl fun a hA => ?_
                            refine g_skip (i := 48) hA rfl (wanted_no hA rfl rfl (by rw [hc140]; simp [vb])) (by kernel_rfl) (.inr hI) rfl fun a hA => ?_
                            refine g_easy (i := 49) hA rfl rfl (by kernel_rfl) (.inr hI) (fun _ => r_pick_f hA rfl hc140 rfl) rfl fun a hA => ?_
                            refine g_easy (i := 50) hA rfl rfl (by kernel_rfl) (.inr hI) (fun _ => r_as hA rfl) rfl fun a hA => ?_
                            refine g_nil (by kernel_rfl) ?_
                            cases Option.some.inj (bS H)
                            exact ⟨μ5, (hi3.le.trans hi4.le), hA.sub ⟨rfl, rfl, rfl, rfl, rfl, rfl, rfl, rfl, rfl, rfl, rfl, trivial⟩, hI⟩
                        · have hc130 := hc13; have hc13 := ft hc13; have H := bF H hc13
                          refine g_skip (i := 37) hA rfl (wanted_no hA rfl rfl (by rw [hc130]; simp [vb])) (by kernel_rfl) (.inr (hI.less ((hi1.le.trans hi2.le).trans hi3.le) hi4.le)) rfl fun a hA => ?_
                          refine g_skip (i := 38) hA rfl (wanted_no hA rfl rfl (by rw [hc130]; simp [vb])) (by kernel_rfl) (.inr (hI.less ((hi1.le.trans hi2.le).trans hi3.le) hi4.le)) rfl fun a hA => ?_
                          refine g_skip (i := 39) hA rfl (wanted_no hA rfl rfl (by rw [hc130]; simp [vb])) (by kernel_rfl) (.inr (hI.less ((hi1.le.trans hi2.le).trans hi3.le) hi4.le)) rfl fun a hA => ?_
                          refine g_skip (i := 40) hA rfl (wanted_no hA rfl rfl (by rw [hc130]; simp [vb])) (by kernel_rfl) (.inr (hI.less ((hi1.le.trans hi2.le).trans hi3.le) hi4.le)) rfl fun a hA => ?_
                          refine g_easy (i := 41) hA rfl rfl (by kernel_rfl) (.inr (hI.less ((hi1.le.trans hi2.le).trans hi3.le) hi4.le)) (fun _ => r_pick_f hA rfl hc130 rfl) rfl fun a hA => ?_
                          refine g_easy (i := 42) hA rfl rfl (by kernel_rfl) (.inr (hI.less ((hi1.le.trans hi2.le).trans hi3.le) hi4.le)) (fun _ => r_mv hA rfl) rfl fun a hA => ?_
                          refine g_skip (i := 43) hA rfl (wanted_no hA rfl rfl (by simp [vb])) (by kernel_rfl) (.inr (hI.less ((hi1.le.trans hi2.le).trans hi3.le) hi4.le)) rfl fun a hA => ?_
                          refine g_skip (i := 45) hA rfl (wanted_no hA rfl rfl (by simp [vb])) (by kernel_rfl) (.inr (hI.less ((hi1.le.trans hi2.le).trans hi3.le) hi4.le)) rfl fun a hA => ?_
                          refine g_skip (i := 44) hA rfl (wanted_no hA rfl rfl (by simp [vb])) (by kernel_rfl) (.inr (hI.less ((hi1.le.trans hi2.le).trans hi3.le) hi4.le)) rfl fun a hA => ?_
                          refine g_skip (i := 46) hA rfl (wanted_no hA rfl rfl (by simp [vb])) (by kernel_rfl) (.inr (hI.less ((hi1.le.trans hi2.le).trans hi3.le) hi4.le)) rfl fun a hA => ?_
                          refine g_skip (i := 47) hA rfl (wanted_no hA rfl rfl (by simp [vb])) (by kernel_rfl) (.inr (hI.less ((hi1.le.trans hi2.le).trans hi3.le) hi4.le)) rfl fun a hA => ?_
                          refine g_skip (i := 48) hA rfl (wanted_no hA rfl rfl (by simp [vb])) (by kernel_rfl) (.inr (hI.less ((hi1.le.trans hi2.le).trans hi3.le) hi4.le)) rfl fun a hA => ?_
                          refine g_easy (i := 49) hA rfl rfl (by kernel_rfl) (.inr (hI.less ((hi1.le.trans hi2.le).trans hi3.le) hi4.le)) (fun _ => r_pick_f hA rfl rfl rfl) rfl fun a hA => ?_
                          refine g_easy (i := 50) hA rfl rfl (by kernel_rfl) (.inr (hI.less ((hi1.le.trans hi2.le).trans hi3.le) hi4.le)) (fun _ => r_as hA rfl) rfl fun a hA => ?_
                          refine g_nil (by kernel_rfl) ?_
                          cases Option.some.inj (bS H)
                          exact ⟨μ5, (hi3.le.trans hi4.le), hA.sub ⟨rfl, rfl, rfl, rfl, rfl, rfl, rfl, rfl, rfl, rfl, rfl, trivial⟩, hI⟩
                      · have hc120 := hc12; have hc12 := of_decide_eq_false hc12; have H := bF H hc12
                        refine g_skip (i := 30) hA rfl (wanted_no hA rfl rfl (by rw [hc120]; simp [vb])) (by kernel_rfl) (.inr hI) rfl fun a hA => ?_
                        refine g_skip (i := 31) hA rfl (wanted_no hA rfl rfl (by rw [hc120]; simp [vb])) (by kernel_rfl) (.inr hI) rfl fun a hA => ?_
                        refine g_skip (i := 32) hA rfl (wanted_no hA rfl rfl (by rw [hc120]; simp [vb])) (by kernel_rfl) (.inr hI) rfl fun a hA => ?_
                        refine g_skip (i := 33) hA rfl (wanted_no hA rfl rfl (by rw [hc120]; simp [vb])) (by kernel_rfl) (.inr hI) rfl fun a hA => ?_
                        refine g_skip (i := 34) hA rfl (wanted_no hA rfl rfl (by rw [hc120]; simp [vb])) (by kernel_rfl) (.inr hI) rfl fun a hA => ?_
                        refine g_easy (i := 35) hA rfl rfl (by kernel_rfl) (.inr hI) (fun _ => r_pick_f hA rfl hc120 rfl) rfl fun a hA => ?_
                        refine g_easy (i := 36) hA rfl rfl (by kernel_rfl) (.inr hI) (fun _ => r_mv hA rfl) rfl fun a hA => ?_
                        refine g_skip (i := 37) hA rfl (wanted_no hA rfl rfl (by simp [vb])) (by kernel_rfl) (.inr hI) rfl fun a hA => ?_
                        refine g_skip (i := 38) hA rfl (wanted_no hA rfl rfl (by simp [vb])) (by kernel_rfl) (.inr hI) rfl fun a hA => ?_
                        refine g_skip (i := 39) hA rfl (wanted_no hA rfl rfl (by simp [vb])) (by kernel_rfl) (.inr hI) rfl fun a hA => ?_
                        refine g_skip (i := 40) hA rfl (wanted_no hA rfl rfl (by simp [vb])) (by kernel_rfl) (.inr hI) rfl fun a hA => ?_
                        refine g_easy (i := 41) hA rfl rfl (by kernel_rfl) (.inr hI) (fun _ => r_pick_f hA rfl rfl rfl) rfl fun a hA => ?_
                        refine g_easy (i := 42) hA rfl rfl (by kernel_rfl) (.inr hI) (fun _ => r_mv hA rfl) rfl fun a hA => ?_
                        refine g_skip (i := 43) hA rfl (wanted_no hA rfl rfl (by simp [vb])) (by kernel_rfl) (.inr hI) rfl fun a hA => ?_
                        refine g_skip (i := 45) hA rfl (wanted_no hA rfl rfl (by simp [vb])) (by kernel_rfl) (.inr hI) rfl fun a hA => ?_
                        refine g_skip (i := 44) hA rfl (wanted_no hA rfl rfl (by simp [vb])) (by kernel_rfl) (.inr hI) rfl fun a hA => ?_
                        refine g_skip (i := 46) hA rfl (wanted_no hA rfl rfl (by simp [vb])) (by kernel_rfl) (.inr hI) rfl fun a hA => ?_
                        refine g_skip (i := 47) hA rfl (wanted_no hA rfl rfl (by simp [vb])) (by kernel_rfl) (.inr hI) rfl fun a hA => ?_
                        refine g_skip (i := 48) hA rfl (wanted_no hA rfl rfl (by simp [vb])) (by kernel_rfl) (.inr hI) rfl fun a hA => ?_
                        refine g_easy (i := 49) hA rfl rfl (by kernel_rfl) (.inr hI) (fun _ => r_pick_f hA rfl rfl rfl) rfl fun a hA => ?_
                        refine g_easy (i := 50) hA rfl rfl (by kernel_rfl) (.inr hI) (fun _ => r_as hA rfl) rfl fun a hA => ?_
                        refine g_nil (by kernel_rfl) ?_
                        cases Option.some.inj (bS H)
                        exact ⟨μ4, hi3.le, hA.sub ⟨rfl, rfl, rfl, rfl, rfl, rfl, rfl, rfl, rfl, rfl, rfl, trivial⟩, hI⟩
                    · have hc110 := hc11; have hc11 := ft hc11; have H := bF H hc11
                      refine g_skip (i := 25) hA rfl (wanted_no hA rfl rfl (by rw [hc110]; simp [vb])) (by kernel_rfl) (.inr hI) rfl fun a hA => ?_
                      refine g_skip (i := 26) hA rfl (wanted_no hA rfl rfl (by rw [hc110]; simp [vb])) (by kernel_rfl) (.inr hI) rfl fun a hA => ?_
                      refine g_skip (i := 27) hA rfl (wanted_no hA rfl rfl (by rw [hc110]; simp [vb])) (by kernel_rfl) (.inr hI) rfl fun a hA => ?_
                      refine g_easy (i := 28) hA rfl rfl (by kernel_rfl) (.inr hI) (fun _ => r_pick_f hA rfl hc110 rfl) rfl fun a hA => ?_
                      refine g_easy (i := 29) hA rfl rfl (by kernel_rfl) (.inr hI) (fun _ => r_mv hA rfl) rfl fun a hA => ?_
                      refine g_skip (i := 30) hA rfl (wanted_no hA rfl rfl (by simp [vb])) (by kernel_rfl) (.inr hI) rfl fun a hA => ?_
                      refine g_skip (i := 31) hA rfl (wanted_no hA rfl rfl (by simp [vb])) (by kernel_rfl) (.inr hI) rfl fun a hA => ?_
                      refine g_skip (i := 32) hA rfl (wanted_no hA rfl rfl (by simp [vb])) (by kernel_rfl) (.inr hI) rfl fun a hA => ?_
                      refine g_skip (i := 33) hA rfl (wanted_no hA rfl rfl (by simp [vb])) (by kernel_rfl) (.inr hI) rfl fun a hA => ?_
                      refine g_skip (i := 34) hA rfl (wanted_no hA rfl rfl (by simp [vb])) (by kernel_rfl) (.inr hI) rfl fun a hA => ?_
                      refine g_easy (i := 35) hA rfl rfl (by kernel_rfl) (.inr hI) (fun _ => r_pick_f hA rfl rfl rfl) rfl fun a hA => ?_
                      refine g_easy (i := 36) hA rfl rfl (by kernel_rfl) (.inr hI) (fun _ => r_mv hA rfl) rfl fun a hA => ?_
                      refine g_skip (i := 37) hA rfl (wanted_no hA rfl rfl (by simp [vb])) (by kernel_rfl) (.inr hI) rfl fun a hA => ?_
                      refine g_skip (i := 38) hA rfl (wanted_no hA rfl rfl (by simp [vb])) (by kernel_rfl) (.inr hI) rfl fun a hA => ?_
                      refine g_skip (i := 39) hA rfl (wanted_no hA rfl rfl (by simp [vb])) (by kernel_rfl) (.inr hI) rfl fun a hA => ?_
                      refine g_skip (i := 40) hA rfl (wanted_no hA rfl rfl (by simp [vb])) (by kernel_rfl) (.inr hI) rfl fun a hA => ?_
                      refine g_easy (i := 41) hA rfl rfl (by kernel_rfl) (.inr hI) (fun _ => r_pick_f hA rfl rfl rfl) rfl fun a hA => ?_
                      refine g_easy (i := 42) hA rfl rfl (by kernel_rfl) (.inr hI) (fun _ => r_mv hA rfl) rfl fun a hA => ?_
                      refine g_skip (i := 43) hA rfl (wanted_no hA rfl rfl (by simp [vb])) (by kernel_rfl) (.inr hI) rfl fun a hA => ?_
                      refine g_skip (i := 45) hA rfl (wanted_no hA rfl rfl (by simp [vb])) (by kernel_rfl) (.inr hI) rfl fun a hA => ?_
                      refine g_skip (i := 44) hA rfl (wanted_no hA rfl rfl (by simp [vb])) (by kernel_rfl) (.inr hI) rfl fun a hA => ?_
                      refine g_skip (i := 46) hA rfl (wanted_no hA rfl rfl (by simp [vb])) (by kernel_rfl) (.inr hI) rfl fun a hA => ?_
                      refine g_skip (i := 47) hA rfl (wanted_no hA rfl rfl (by simp [vb])) (by kernel_rfl) (.inr hI) rfl fun a hA => ?_
                      refine g_skip (i := 48) hA rfl (wanted_no hA rfl rfl (by simp [vb])) (by kernel_rfl) (.inr hI) rfl fun a hA => ?_
                      refine g_easy (i := 49) hA rfl rfl (by kernel_rfl) (.inr hI) (fun _ => r_pick_f hA rfl rfl rfl) rfl fun a hA => ?_
                      refine g_easy (i := 50) hA rfl rfl (by kernel_rfl) (.inr hI) (fun _ => r_as hA rfl) rfl fun a hA => ?_
                      refine g_nil (by kernel_rfl) ?_
                      cases Option.some.inj (bS H)
                      exact ⟨μ2, (Store.le.refl _), hA.sub ⟨rfl, rfl, rfl, rfl, rfl, rfl, rfl, rfl, rfl, rfl, rfl, trivial⟩, hI⟩
                  · have hc100 := hc10; have hc10 := of_decide_eq_false hc10; have H := bF H hc10
                    refine g_skip (i := 21) hA rfl (wanted_no hA rfl rfl (by rw [hc100]; simp [vb])) (by kernel_rfl) (.inr hI) rfl fun a hA => ?_
                    refine g_skip (i := 22) hA rfl (wanted_no hA rfl rfl (by rw [hc100]; simp [vb])) (by kernel_rfl) (.inr hI) rfl fun a hA => ?_
                    refine g_easy (i := 23) hA rfl rfl (by kernel_rfl) (.inr hI) (fun _ => r_pick_f hA rfl hc100 rfl) rfl fun a hA => ?_
                    refine g_easy (i := 24) hA rfl rfl (by kernel_rfl) (.inr hI) (fun _ => r_mv hA rfl) rfl fun a hA => ?_
                    refine g_skip (i := 25) hA rfl (wanted_no hA rfl rfl (by simp [vb])) (by kernel_rfl) (.inr hI) rfl fun a hA => ?_
                    refine g_skip (i := 26) hA rfl (wanted_no hA rfl rfl (by simp [vb])) (by kernel_rfl) (.inr hI) rfl fun a hA => ?_
                    refine g_skip (i := 27) hA rfl (wanted_no hA rfl rfl (by simp [vb])) (by kernel_rfl) (.inr hI) rfl fun a hA => ?_
                    refine g_easy (i := 28) hA rfl rfl (by kernel_rfl) (.inr hI) (fun _ => r_pick_f hA rfl rfl rfl) rfl fun a hA => ?_
                    refine g_easy (i := 29) hA rfl rfl (by kernel_rfl) (.inr hI) (fun _ => r_mv hA rfl) rfl fun a hA => ?_
                    refine g_skip (i := 30) hA rfl (wanted_no hA rfl rfl (by simp [vb])) (by kernel_rfl) (.inr hI) rfl fun a hA => ?_
                    refine g_skip (i := 31) hA rfl (wanted_no hA rfl rfl (by simp [vb])) (by kernel_rfl) (.inr hI) rfl fun a hA => ?_
                    refine g_skip (i := 32) hA rfl (wanted_no hA rfl rfl (by simp [vb])) (by kernel_rfl) (.inr hI) rfl fun a hA => ?_
                    refine g_skip (i := 33) hA rfl (wanted_no hA rfl rfl (by simp [vb])) (by kernel_rfl) (.inr hI) rfl fun a hA => ?_
                    refine g_skip (i := 34) hA rfl (wanted_no hA rfl rfl (by simp [vb])) (by kernel_rfl) (.inr hI) rfl fun a hA => ?_
                    refine g_easy (i := 35) hA rfl rfl (by kernel_rfl) (.inr hI) (fun _ => r_pick_f hA rfl rfl rfl) rfl fun a hA => ?_
                    refine g_easy (i := 36) hA rfl rfl (by kernel_rfl) (.inr hI) (fun _ => r_mv hA rfl) rfl fun a hA => ?_
                    refine g_skip (i := 37) hA rfl (wanted_no hA rfl rfl (by simp [vb])) (by kernel_rfl) (.inr hI) rfl fun a hA => ?_
                    refine g_skip (i := 38) hA rfl (wanted_no hA rfl rfl (by simp [vb])) (by kernel_rfl) (.inr hI) rfl fun a hA => ?_
                    refine g_skip (i := 39) hA rfl (wanted_no hA rfl rfl (by simp [vb])) (by kernel_rfl) (.inr hI) rfl fun a hA => ?_
                    refine g_skip (i := 40) hA rfl (wanted_no hA rfl rfl (by simp [vb])) (by kernel_rfl) (.inr hI) rfl fun a hA => ?_
                    refine g_easy (i := 41) hA rfl rfl (by kernel_rfl) (.inr hI) (fun _ => r_pick_f hA rfl rfl rfl) rfl fun a hA => ?_
                    refine g_easy (i := 42) hA rfl rfl (by kernel_rfl) (.inr hI) (fun _ => r_mv hA rfl) rfl fun a hA => ?_
                    refine g_skip (i := 43) hA rfl (wanted_no hA rfl rfl (by simp [vb])) (by kernel_rfl) (.inr hI) rfl fun a hA => ?_
                    refine g_skip (i := 45) hA rfl (wanted_no hA rfl rfl (by simp [vb])) (by kernel_rfl) (.inr hI) rfl fun a hA => ?_
                    refine g_skip (i := 44) hA rfl (wanted_no hA rfl rfl (by simp [vb])) (by kernel_rfl) (.inr hI) rfl fun a hA => ?_
                    refine g_skip (i := 46) hA rfl (wanted_no hA rfl rfl (by simp [vb])) (by kernel_rfl) (.inr hI) rfl fun a hA => ?_
                    refine g_skip (i := 47) hA rfl (wanted_no hA rfl rfl (by simp [vb])) (by kernel_rfl) (.inr hI) rfl fun a hA => ?_
                    refine g_skip (i := 48) hA rfl (wanted_no hA rfl rfl (by simp [vb])) (by kernel_rfl) (.inr hI) rfl fun a hA => ?_
                    refine g_easy (i := 49) hA rfl rfl (by kernel_rfl) (.inr hI) (fun _ => r_pick_f hA rfl rfl rfl) rfl fun a hA => ?_
                    refine g_easy (i := 50) hA rfl rfl (by kernel_rfl) (.inr hI) (fun _ => r_as hA rfl) rfl fun a hA => ?_
                    refine g_nil (by kernel_rfl) ?_
                    cases Option.some.inj (bS H)
                    exact ⟨μ2, (Store.le.refl _), hA.sub ⟨rfl, rfl, rfl, rfl, rfl, rfl, rfl, rfl, rfl, rfl, rfl, trivial⟩, hI⟩
                · have hc90 := hc9; have hc9 := ft hc9; have H := bF H hc9
                  refine g_skip (i := 13) hA rfl (wanted_no hA rfl rfl (by rw [hc90]; simp [vb])) (by kernel_rfl) (.inr hI) rfl fun a hA => ?_
                  refine g_skip (i := 14) hA rfl (wanted_no hA rfl rfl (by rw [hc90]; simp [vb])) (by kernel_rfl) (.inr hI) rfl fun a hA => ?_
                  refine g_skip (i := 15) hA rfl (wanted_no hA rfl rfl (by rw [hc90]; simp [vb])) (by kernel_rfl) (.inr hI) rfl fun a hA => ?_
                  refine g_skip (i := 16) hA rfl (wanted_no hA rfl rfl (by rw [hc90]; simp [vb])) (by kernel_rfl) (.inr hI) rfl fun a hA => ?_
                  refine g_skip (i := 17) hA rfl (wanted_no hA rfl rfl (by rw [hc90]; simp [vb])) (by kernel_rfl) (.inr hI) rfl fun a hA => ?_
                  refine g_skip (i := 18) hA rfl (wanted_no hA rfl rfl (by rw [hc90]; simp [vb])) (by kernel_rfl) (.inr hI) rfl fun a hA => ?_
                  refine g_easy (i := 19) hA rfl rfl (by kernel_rfl) (.inr hI) (fun _ => r_pick_f hA rfl hc90 rfl) rfl fun a hA => ?_
                  refine g_easy (i := 20) hA rfl rfl (by kernel_rfl) (.inr hI) (fun _ => r_mv hA rfl) rfl fun a hA => ?_
                  refine g_skip (i := 21) hA rfl (wanted_no hA rfl rfl (by simp [vb])) (by kernel_rfl) (.inr hI) rfl fun a hA => ?_
                  refine g_skip (i := 22) hA rfl (wanted_no hA rfl rfl (by simp [vb])) (by kernel_rfl) (.inr hI) rfl fun a hA => ?_
                  refine g_easy (i := 23) hA rfl rfl (by kernel_rfl) (.inr hI) (fun _ => r_pick_f hA rfl rfl rfl) rfl fun a hA => ?_
                  refine g_easy (i := 24) hA rfl rfl (by kernel_rfl) (.inr hI) (fun _ => r_mv hA rfl) rfl fun a hA => ?_
                  refine g_skip (i := 25) hA rfl (wanted_no hA rfl rfl (by simp [vb])) (by kernel_rfl) (.inr hI) rfl fun a hA => ?_
                  refine g_skip (i := 26) hA rfl (wanted_no hA rfl rfl (by simp [vb])) (by kernel_rfl) (.inr hI) rfl fun a hA => ?_
                  refine g_skip (i := 27) hA rfl (wanted_no hA rfl rfl (by simp [vb])) (by kernel_rfl) (.inr hI) rfl fun a hA => ?_
                  refine g_easy (i := 28) hA rfl rfl (by kernel_rfl) (.inr hI) (fun _ => r_pick_f hA rfl rfl rfl) rfl fun a hA => ?_
                  refine g_easy (i := 29) hA rfl rfl (by kernel_rfl) (.inr hI) (fun _ => r_mv hA rfl) rfl fun a hA => ?_
                  refine g_skip (i := 30) hA rfl (wanted_no hA rfl rfl (by simp [vb])) (by kernel_rfl) (.inr hI) rfl fun a hA => ?_
                  refine g_skip (i := 31) hA rfl (wanted_no hA rfl rfl (by simp [vb])) (by kernel_rfl) (.inr hI) rfl fun a hA => ?_
                  refine g_skip (i := 32) hA rfl (wanted_no hA rfl rfl (by simp [vb])) (by kernel_rfl) (.inr hI) rfl fun a hA => ?_
                  refine g_skip (i := 33) hA rfl (wanted_no hA rfl rfl (by simp [vb])) (by kernel_rfl) (.inr hI) rfl fun a hA => ?_
                  refine g_skip (i := 34) hA rfl (wanted_no hA rfl rfl (by simp [vb])) (by kernel_rfl) (.inr hI) rfl fun a hA => ?_
                  refine g_easy (i := 35) hA rfl rfl (by kernel_rfl) (.inr hI) (fun _ => r_pick_f hA rfl rfl rfl) rfl fun a hA => ?_
                  refine g_easy (i := 36) hA rfl rfl (by kernel_rfl) (.inr hI) (fun _ => r_mv hA rfl) rfl fun a hA => ?_
                  refine g_skip (i := 37) hA rfl (wanted_no hA rfl rfl (by simp [vb])) (by kernel_rfl) (.inr hI) rfl fun a hA => ?_
                  refine g_skip (i := 38) hA rfl (wanted_no hA rfl rfl (by simp [vb])) (by kernel_rfl) (.inr hI) rfl fun a hA => ?_
                  refine g_skip (i := 39) hA rfl (wanted_no hA rfl rfl (by simp [vb])) (by kernel_rfl) (.inr hI) rfl fun a hA => ?_
                  refine g_skip (i := 40) hA rfl (wanted_no hA rfl rfl (by simp [vb])) (by kernel_rfl) (.inr hI) rfl fun a hA => ?_
                  refine g_easy (i := 41) hA rfl rfl (by kernel_rfl) (.inr hI) (fun _ => r_pick_f hA rfl rfl rfl) rfl fun a hA => ?_
                  refine g_easy (i := 42) hA rfl rfl (by kernel_rfl) (.inr hI) (fun _ => r_mv hA rfl) rfl fun a hA => ?_
                  refine g_skip (i := 43) hA rfl (wanted_no hA rfl rfl (by simp [vb])) (by kernel_rfl) (.inr hI) rfl fun a hA => ?_
                  refine g_skip (i := 45) hA rfl (wanted_no hA rfl rfl (by simp [vb])) (by kernel_rfl) (.inr hI) rfl fun a hA => ?_
                  refine g_skip (i := 44) hA rfl (wanted_no hA rfl rfl (by simp [vb])) (by kernel_rfl) (.inr hI) rfl fun a hA => ?_
                  refine g_skip (i := 46) hA rfl (wanted_no hA rfl rfl (by simp [vb])) (by kernel_rfl) (.inr hI) rfl fun a hA => ?_
                  refine g_skip (i := 47) hA rfl (wanted_no hA rfl rfl (by simp [vb])) (by kernel_rfl) (.inr hI) rfl fun a hA => ?_
                  refine g_skip (i := 48) hA rfl (wanted_no hA rfl rfl (by simp [vb])) (by kernel_rfl) (.inr hI) rfl fun a hA => ?_
                  refine g_easy (i := 49) hA rfl rfl (by kernel_rfl) (.inr hI) (fun _ => r_pick_f hA rfl rfl rfl) rfl fun a hA => ?_
                  refine g_easy (i := 50) hA rfl rfl (by kernel_rfl) (.inr hI) (fun _ => r_as hA rfl) rfl fun a hA => ?_
                  refine g_nil (by kernel_rfl) ?_
                  cases Option.some.inj (bS H)
                  exact ⟨μ2, (Store.le.refl _), hA.sub ⟨rfl, rfl, rfl, rfl, rfl, rfl, rfl, rfl, rfl, rfl, rfl, trivial⟩, hI⟩
              · have hc80 := hc8; have hc8 := of_decide_eq_false hc8; have H := bF H hc8
                refine g_skip (i := 7) hA rfl (wanted_no hA rfl rfl (by rw [hc80]; simp [vb])) (by kernel_rfl) (.inr hI) rfl fun a hA => ?_
                refine g_skip (i := 8) hA rfl (wanted_no hA rfl rfl (by rw [hc80]; simp [vb])) (by kernel_rfl) (.inr hI) rfl fun a hA => ?_
                refine g_skip (i := 9) hA rfl (wanted_no hA rfl rfl (by rw [hc80]; simp [vb])) (by kernel_rfl) (.inr hI) rfl fun a hA => ?_
                refine g_skip (i := 10) hA rfl (wanted_no hA rfl rfl (by rw [hc80]; simp [vb])) (by kernel_rfl) (.inr hI) rfl fun a hA => ?_
                refine g_easy (i := 11) hA rfl rfl (by kernel_rfl) (.inr hI) (fun _ => r_pick_f hA rfl hc80 rfl) rfl fun a hA => ?_
                refine g_easy (i := 12) hA rfl rfl (by kernel_rfl) (.inr hI) (fun _ => r_mv hA rfl) rfl fun a hA => ?_
                refine g_skip (i := 13) hA rfl (wanted_no hA rfl rfl (by simp [vb])) (by kernel_rfl) (.inr hI) rfl fun a hA => ?_
                refine g_skip (i := 14) hA rfl (wanted_no hA rfl rfl (by simp [vb])) (by kernel_rfl) (.inr hI) rfl fun a hA => ?_
                refine g_skip (i := 15) hA rfl (wanted_no hA rfl rfl (by simp [vb])) (by kernel_rfl) (.inr hI) rfl fun a hA => ?_
                refine g_skip (i := 16) hA rfl (wanted_no hA rfl rfl (by simp [vb])) (by kernel_rfl) (.inr hI) rfl fun a hA => ?_
                refine g_skip (i := 17) hA rfl (wanted_no hA rfl rfl (by simp [vb])) (by kernel_rfl) (.inr hI) rfl fun a hA => ?_
                refine g_skip (i := 18) hA rfl (wanted_no hA rfl rfl (by simp [vb])) (by kernel_rfl) (.inr hI) rfl fun a hA => ?_
                refine g_easy (i := 19) hA rfl rfl (by kernel_rfl) (.inr hI) (fun _ => r_pick_f hA rfl rfl rfl) rfl fun a hA => ?_
                refine g_easy (i := 20) hA rfl rfl (by kernel_rfl) (.inr hI) (fun _ => r_mv hA rfl) rfl fun a hA => ?_
                refine g_skip (i := 21) hA rfl (wanted_no hA rfl rfl (by simp [vb])) (by kernel_rfl) (.inr hI) rfl fun a hA => ?_
                refine g_skip (i := 22) hA rfl (wanted_no hA rfl rfl (by simp [vb])) (by kernel_rfl) (.inr hI) rfl fun a hA => ?_
                refine g_easy (i := 23) hA rfl rfl (by kernel_rfl) (.inr hI) (fun _ => r_pick_f hA rfl rfl rfl) rfl fun a hA => ?_
                refine g_easy (i := 24) hA rfl rfl (by kernel_rfl) (.inr hI) (fun _ => r_mv hA rfl) rfl fun a hA => ?_
                refine g_skip (i := 25) hA rfl (wanted_no hA rfl rfl (by simp [vb])) (by kernel_rfl) (.inr hI) rfl fun a hA => ?_
                refine g_skip (i := 26) hA rfl (wanted_no hA rfl rfl (by simp [vb])) (by kernel_rfl) (.inr hI) rfl fun a hA => ?_
                refine g_skip (i := 27) hA rfl (wanted_no hA rfl rfl (by simp [vb])) (by kernel_rfl) (.inr hI) rfl fun a hA => ?_
                refine g_easy (i := 28) hA rfl rfl (by kernel_rfl) (.inr hI) (fun _ => r_pick_f hA rfl rfl rfl) rfl fun a hA => ?_
                refine g_easy (i := 29) hA rfl rfl (by kernel_rfl) (.inr hI) (fun _ => r_mv hA rfl) rfl fun a hA => ?_
                refine g_skip (i := 30) hA rfl (wanted_no hA rfl rfl (by simp [vb])) (by kernel_rfl) (.inr hI) rfl fun a hA => ?_
                refine g_skip (i := 31) hA rfl (wanted_no hA rfl rfl (by simp [vb])) (by kernel_rfl) (.inr hI) rfl fun a hA => ?_
                refine g_skip (i := 32) hA rfl (wanted_no hA rfl rfl (by simp [vb])) (by kernel_rfl) (.inr hI) rfl fun a hA => ?_
                refine g_skip (i := 33) hA rfl (wanted_no hA rfl rfl (by simp [vb])) (by kernel_rfl) (.inr hI) rfl fun a hA => ?_
                refine g_skip (i := 34) hA rfl (wanted_no hA rfl rfl (by simp [vb])) (by kernel_rfl) (.inr hI) rfl fun a hA => ?_
                refine g_easy (i := 35) hA rfl rfl (by kernel_rfl) (.inr hI) (fun _ => r_pick_f hA rfl rfl rfl) rfl fun a hA => ?_
                refine g_easy (i := 36) hA rfl rfl (by kernel_rfl) (.inr hI) (fun _ => r_mv hA rfl) rfl fun a hA => ?_
                refine g_skip (i := 37) hA rfl (wanted_no hA rfl rfl (by simp [vb])) (by kernel_rfl) (.inr hI) rfl fun a hA => ?_
                refine g_skip (i := 38) hA rfl (wanted_no hA rfl rfl (by simp [vb])) (by kernel_rfl) (.inr hI) rfl fun a hA => ?_
                refine g_skip (i := 39) hA rfl (wanted_no hA rfl rfl (by simp [vb])) (by kernel_rfl) (.inr hI) rfl fun a hA => ?_
                refine g_skip (i := 40) hA rfl (wanted_no hA rfl rfl (by simp [vb])) (by kernel_rfl) (.inr hI) rfl fun a hA => ?_
                refine g_easy (i := 41) hA rfl rfl (by kernel_rfl) (.inr hI) (fun _ => r_pick_f hA rfl rfl rfl) rfl fun a hA => ?_
                refine g_easy (i := 42) hA rfl rfl (by kernel_rfl) (.inr hI) (fun _ => r_mv hA rfl) rfl fun a hA => ?_
                refine g_skip (i := 43) hA rfl (wanted_no hA rfl rfl (by simp [vb])) (by kernel_rfl) (.inr hI) rfl fun a hA => ?_
                refine g_skip (i := 45) hA rfl (wanted_no hA rfl rfl (by simp [vb])) (by kernel_rfl) (.inr hI) rfl fun a hA => ?_
                refine g_skip (i := 44) hA rfl (wanted_no hA rfl rfl (by simp [vb])) (by kernel_rfl) (.inr hI) rfl fun a hA => ?_
                refine g_skip (i := 46) hA rfl (wanted_no hA rfl rfl (by simp [vb])) (by kernel_rfl) (.inr hI) rfl fun a hA => ?_
                refine g_skip (i := 47) hA rfl (wanted_no hA rfl rfl (by simp [vb])) (by kernel_rfl) (.inr hI) rfl fun a hA => ?_
                refine g_skip (i := 48) hA rfl (wanted_no hA rfl rfl (by simp [vb])) (by kernel_rfl) (.inr hI) rfl fun a hA => ?_
                refine g_easy (i := 49) hA rfl rfl (by kernel_rfl) (.inr hI) (fun _ => r_pick_f hA rfl rfl rfl) rfl fun a hA => ?_
                refine g_easy (i := 50) hA rfl rfl (by kernel_rfl) (.inr hI) (fun _ => r_as hA rfl) rfl fun a hA => ?_
                refine g_nil (by kernel_rfl) ?_
                cases Option.some.inj (bS H)
                exact ⟨μ2, (Store.le.refl _), hA.sub ⟨rfl, rfl, rfl, rfl, rfl, rfl, rfl, rfl, rfl, rfl, rfl, trivial⟩, hI⟩
            · have hc70 := hc7; have hc7 := ft hc7; have H := bF H hc7
              refine g_skip (i := 2) hA rfl (wanted_no hA rfl rfl (by rw [hc70]; simp [vb])) (by kernel_rfl) (.inr hI) rfl fun a hA => ?_
              refine g_skip (i := 3) hA rfl (wanted_no hA rfl rfl (by rw [hc70]; simp [vb])) (by kernel_rfl) (.inr hI) rfl fun a hA => ?_
              refine g_skip (i := 4) hA rfl (wanted_no hA rfl rfl (by rw [hc70]; simp [vb])) (by kernel_rfl) (.inr hI) rfl fun a hA => ?_
              refine g_easy (i := 5) hA rfl rfl (by kernel_rfl) (.inr hI) (fun _ => r_pick_f hA rfl hc70 rfl) rfl fun a hA => ?_
              refine g_easy (i := 6) hA rfl rfl (by kernel_rfl) (.inr hI) (fun _ => r_mv hA rfl) rfl fun a hA => ?_
              refine g_skip (i := 7) hA rfl (wanted_no hA rfl rfl (by simp [vb])) (by kernel_rfl) (.inr hI) rfl fun a hA => ?_
              refine g_skip (i := 8) hA rfl (wanted_no hA rfl rfl (by simp [vb])) (by kernel_rfl) (.inr hI) rfl fun a hA => ?_
              refine g_skip (i := 9) hA rfl (wanted_no hA rfl rfl (by simp [vb])) (by kernel_rfl) (.inr hI) rfl fun a hA => ?_
              refine g_skip (i := 10) hA rfl (wanted_no hA rfl rfl (by simp [vb])) (by kernel_rfl) (.inr hI) rfl fun a hA => ?_
              refine g_easy (i := 11) hA rfl rfl (by kernel_rfl) (.inr hI) (fun _ => r_pick_f hA rfl rfl rfl) rfl fun a hA => ?_
              refine g_easy (i := 12) hA rfl rfl (by kernel_rfl) (.inr hI) (fun _ => r_mv hA rfl) rfl fun a hA => ?_
              refine g_skip (i := 13) hA rfl (wanted_no hA rfl rfl (by simp [vb])) (by kernel_rfl) (.inr hI) rfl fun a hA => ?_
              refine g_skip (i := 14) hA rfl (wanted_no hA rfl rfl (by simp [vb])) (by kernel_rfl) (.inr hI) rfl fun a hA => ?_
              refine g_skip (i := 15) hA rfl (wanted_no hA rfl rfl (by simp [vb])) (by kernel_rfl) (.inr hI) rfl fun a hA => ?_
              refine g_skip (i := 16) hA rfl (wanted_no hA rfl rfl (by simp [vb])) (by kernel_rfl) (.inr hI) rfl fun a hA => ?_
              refine g_skip (i := 17) hA rfl (wanted_no hA rfl rfl (by simp [vb])) (by kernel_rfl) (.inr hI) rfl fun a hA => ?_
              refine g_skip (i := 18) hA rfl (wanted_no hA rfl rfl (by simp [vb])) (by kernel_rfl) (.inr hI) rfl fun a hA => ?_
              refine g_easy (i := 19) hA rfl rfl (by kernel_rfl) (.inr hI) (fun _ => r_pick_f hA rfl rfl rfl) rfl fun a hA => ?_
              refine g_easy (i := 20) hA rfl rfl (by kernel_rfl) (.inr hI) (fun _ => r_mv hA rfl) rfl fun a hA => ?_
              refine g_skip (i := 21) hA rfl (wanted_no hA rfl rfl (by simp [vb])) (by kernel_rfl) (.inr hI) rfl fun a hA => ?_
              refine g_skip (i := 22) hA rfl (wanted_no hA rfl rfl (by simp [vb])) (by kernel_rfl) (.inr hI) rfl fun a hA => ?_
              refine g_easy (i := 23) hA rfl rfl (by kernel_rfl) (.inr hI) (fun _ => r_pick_f hA rfl rfl rfl) rfl fun a hA => ?_
              refine g_easy (i := 24) hA rfl rfl (by kernel_rfl) (.inr hI) (fun _ => r_mv hA rfl) rfl fun a hA => ?_
              refine g_skip (i := 25) hA rfl (wanted_no hA rfl rfl (by simp [vb])) (by kernel_rfl) (.inr hI) rfl fun a hA => ?_
              refine g_skip (i := 26) hA rfl (wanted_no hA rfl rfl (by simp [vb])) (by kernel_rfl) (.inr hI) rfl fun a hA => ?_
              refine g_skip (i := 27) hA rfl (wanted_no hA rfl rfl (by simp [vb])) (by kernel_rfl) (.inr hI) rfl fun a hA => ?_
              refine g_easy (i := 28) hA rfl rfl (by kernel_rfl) (.inr hI) (fun _ => r_pick_f hA rfl rfl rfl) rfl fun a hA => ?_
              refine g_easy (i := 29) hA rfl rfl (by kernel_rfl) (.inr hI) (fun _ => r_mv hA rfl) rfl fun a hA => ?_
              refine g_skip (i := 30) hA rfl (wanted_no hA rfl rfl (by simp [vb])) (by kernel_rfl) (.inr hI) rfl fun a hA => ?_
              refine g_skip (i := 31) hA rfl (wanted_no hA rfl rfl (by simp [vb])) (by kernel_rfl) (.inr hI) rfl fun a hA => ?_
              refine g_skip (i := 32) hA rfl (wanted_no hA rfl rfl (by simp [vb])) (by kernel_rfl) (.inr hI) rfl fun a hA => ?_
              refine g_skip (i := 33) hA rfl (wanted_no hA rfl rfl (by simp [vb])) (by kernel_rfl) (.inr hI) rfl fun a hA => ?_
              refine g_skip (i := 34) hA rfl (wanted_no hA rfl rfl (by simp [vb])) (by kernel_rfl) (.inr hI) rfl fun a hA => ?_
              refine g_easy (i := 35) hA rfl rfl (by kernel_rfl) (.inr hI) (fun _ => r_pick_f hA rfl rfl rfl) rfl fun a hA => ?_
              refine g_easy (i := 36) hA rfl rfl (by kernel_rfl) (.inr hI) (fun _ => r_mv hA rfl) rfl fun a hA => ?_
              refine g_skip (i := 37) hA rfl (wanted_no hA rfl rfl (by simp [vb])) (by kernel_rfl) (.inr hI) rfl fun a hA => ?_
              refine g_skip (i := 38) hA rfl (wanted_no hA rfl rfl (by simp [vb])) (by kernel_rfl) (.inr hI) rfl fun a hA => ?_
              refine g_skip (i := 39) hA rfl (wanted_no hA rfl rfl (by simp [vb])) (by kernel_rfl) (.inr hI) rfl fun a hA => ?_
              refine g_skip (i := 40) hA rfl (wanted_no hA rfl rfl (by simp [vb])) (by kernel_rfl) (.inr hI) rfl fun a hA => ?_
              refine g_easy (i := 41) hA rfl rfl (by kernel_rfl) (.inr hI) (fun _ => r_pick_f hA rfl rfl rfl) rfl fun a hA => ?_
              refine g_easy (i := 42) hA rfl rfl (by kernel_rfl) (.inr hI) (fun _ => r_mv hA rfl) rfl fun a hA => ?_
              refine g_skip (i := 43) hA rfl (wanted_no hA rfl rfl (by simp [vb])) (by kernel_rfl) (.inr hI) rfl fun a hA => ?_
              refine g_skip (i := 45) hA rfl (wanted_no hA rfl rfl (by simp [vb])) (by kernel_rfl) (.inr hI) rfl fun a hA => ?_
              refine g_skip (i := 44) hA rfl (wanted_no hA rfl rfl (by simp [vb])) (by kernel_rfl) (.inr hI) rfl fun a hA => ?_
              refine g_skip (i := 46) hA rfl (wanted_no hA rfl rfl (by simp [vb])) (by kernel_rfl) (.inr hI) rfl fun a hA => ?_
              refine g_skip (i := 47) hA rfl (wanted_no hA rfl rfl (by simp [vb])) (by kernel_rfl) (.inr hI) rfl fun a hA => ?_
              refine g_skip (i := 48) hA rfl (wanted_no hA rfl rfl (by simp [vb])) (by kernel_rfl) (.inr hI) rfl fun a hA => ?_
              refine g_easy (i := 49) hA rfl rfl (by kernel_rfl) (.inr hI) (fun _ => r_pick_f hA rfl rfl rfl) rfl fun a hA => ?_
              refine g_easy (i := 50) hA rfl rfl (by kernel_rfl) (.inr hI) (fun _ => r_as hA rfl) rfl fun a hA => ?_
              refine g_nil (by kernel_rfl) ?_
              cases Option.some.inj (bS H)
              exact ⟨μ2, (Store.le.refl _), hA.sub ⟨rfl, rfl, rfl, rfl, rfl, rfl, rfl, rfl, rfl, rfl, rfl, trivial⟩, hI⟩
          · rintro a w ⟨μ3, hle1, hA, hI⟩
            have H := Hk2
            refine w_ret ?_
            obtain rfl := Option.some.inj (bS H)
            exact ret1 hA Tryd.results5 rfl ⟨_, rfl, rfl, trivial, hI.forget0⟩
end Go.Proofs.YtlpggofilkfbnaaDoor.T
namespace Go.Proofs.YtlpggofilkfbnaaDoor.T
open Go Go.Proofs Go.Proofs.YtlpggofilkfbnaaDoor.K
set_option linter.unusedVariables false
theorem w64 {x : Int} (h0 : -9223372036854775808 ≤ x) (h1 : x < 9223372036854775808) : IntKind.i64.wrap x = x := wrap_id ⟨h0, h1⟩
theorem wu64 {x : Int} (h0 : 0 ≤ x) (h1 : x < 18446744073709551616) : IntKind.u64.wrap x = x := wrap_id ⟨h0, h1⟩
theorem wu32 {x : Int} (h0 : 0 ≤ x) (h1 : x < 4294967296) : IntKind.u32.wrap x = x := wrap_id ⟨h0, h1⟩
theorem number_eq {x n : Int} (hx : InR .i64 x) (h0 : 0 < n) (h1 : n < 9223372036854775808) : ∃ y, sargassoworld_Number.f x n = some y ∧ 0 ≤ y ∧ y < n := by
  obtain ⟨a, b⟩ := hx
  have hn : n ≠ 0 := by omega
  unfold sargassoworld_Number.f
  rw [if_pos hn]
  have hb : -n < Int.tmod x n ∧ Int.tmod x n < n := by
    rcases Int.le_total 0 x with h | h
    · rw [Int.tmod_eq_emod_of_nonneg h]; have := Int.emod_nonneg x hn; have := Int.emod_lt_of_pos x h0; omega
    · have e : Int.tmod x n = -(Int.tmod (-x) n) := by rw [Int.neg_tmod, Int.neg_neg]
      rw [e, Int.tmod_eq_emod_of_nonneg (by omega)]; have := Int.emod_nonneg (-x) hn; have := Int.emod_lt_of_pos (-x) h0; omega
  by_cases hc : Int.tmod x n < 0
  · rw [if_pos hc]
    exact ⟨_, rfl, by rw [w64 (by omega) (by omega)]; omega, by rw [w64 (by omega) (by omega)]; omega⟩
  · rw [if_neg hc]
    exact ⟨_, rfl, by omega, by omega⟩
end Go.Proofs.YtlpggofilkfbnaaDoor.T
namespace Go.Proofs.YtlpggofilkfbnaaDoor.T
open Go Go.Proofs Go.Proofs.YtlpggofilkfbnaaDoor.K
set_option linter.unusedVariables false
set_option linter.unusedSimpArgs false
theorem loop_idx {τ ρ : Type} {step : τ → Option (τ ⊕ ρ)} (st : Nat → τ) (n : Nat) (h : ∀ i, i < n → step (st i) = some (.inl (st (i + 1)))) : loopO step (st 0) = loopO step (st n) := by
  induction n with
  | zero => rfl
  | succ n ih => rw [ih (fun i hi => h i (by omega)), loopO_inl (h n (by omega))]
theorem loop_run {τ ρ : Type} {step : τ → Option (τ ⊕ ρ)} (st : Nat → τ) (n : Nat) {r : ρ} {s : τ} (h0 : s = st 0) (h : ∀ i, i < n → step (st i) = some (.inl (st (i + 1)))) (hn : step (st n) = some (.inr r)) : loopO step s = some r := by
  rw [h0, loop_idx st n h, loopO_inr hn]
theorem bv_nat (n a : Nat) (h : a < 2 ^ n) : (BitVec.ofInt n (a : Int)).toNat = a := by
  rw [BitVec.toNat_ofInt]
  have : ((a : Int) % ((2 ^ n : Nat) : Int)) = a := Int.emod_eq_of_lt (by omega) (by exact_mod_cast h)
  rw [this]
  rfl
theorem in_u (k : IntKind) (hk : k.signed = false) {a : Nat} (h : a < 2 ^ k.bits) : InR k (a : Int) := by
  cases k <;> simp [IntKind.signed] at hk <;> simp [IntKind.bits] at h <;> simp [InR] <;> omega
theorem bAnd_nat (k : IntKind) (hk : k.signed = false) {a b : Nat} (ha : a < 2 ^ k.bits) (hb : b < 2 ^ k.bits) : bAnd k a b = ((a &&& b : Nat) : Int) := by
  unfold bAnd
  rw [BitVec.toNat_and, bv_nat _ _ ha, bv_nat _ _ hb]
  exact wrap_id (in_u k hk (Nat.lt_of_le_of_lt Nat.and_le_left ha))
theorem sR_nat (k : IntKind) {a n : Nat} (hn : n ≤ k.bits) : sR k (a : Int) (n : Int) = ((a >>> n : Nat) : Int) := by
  unfold sR
  have e : min (n : Int).toNat k.bits = n := by simp; omega
  rw [e, Nat.shiftRight_eq_div_pow]
  rw [Int.fdiv_eq_ediv_of_nonneg _ (by exact Int.pow_nonneg (by omega))]
  push_cast
  rfl
theorem and_low (n i : Nat) : n &&& (2 ^ i - 1) = n % 2 ^ i := Nat.and_two_pow_sub_one_eq_mod n i
end Go.Proofs.YtlpggofilkfbnaaDoor.T
namespace Go.Proofs.YtlpggofilkfbnaaDoor.T
open Go Go.Proofs Go.Proofs.YtlpggofilkfbnaaDoor.K
set_option linter.unusedVariables false
set_option linter.unusedSimpArgs false
def rotr (x n : Int) : Int := bOr .u32 (sR .u32 x n) (sL .u32 x (32 - n))
def wordAt (b : List Int) (p : Nat) : Int :=
  bOr .u32 (bOr .u32 (bOr .u32 (sL .u32 (IntKind.u32.wrap (b.getD p 0)) 24) (sL .u32 (IntKind.u32.wrap (b.getD (p + 1) 0)) 16)) (sL .u32 (IntKind.u32.wrap (b.getD (p + 2) 0)) 8)) (IntKind.u32.wrap (b.getD (p + 3) 0))
def sg0 (y : Int) : Int := bXor .u32 (bXor .u32 (rotr y 7) (rotr y 18)) (sR .u32 y 3)
def sg1 (x : Int) : Int := bXor .u32 (bXor .u32 (rotr x 17) (rotr x 19)) (sR .u32 x 10)
def schedVal (b : List Int) (p : Nat) (w : List Int) (t : Nat) : Int :=
  if t < 16 then wordAt b (p + 4 * t) else IntKind.u32.wrap (w.getD (t - 16) 0 + sg0 (w.getD (t - 15) 0) + w.getD (t - 7) 0 + sg1 (w.getD (t - 2) 0))
def schedR (b : List Int) (p : Nat) : Nat → List Int
  | 0 => List.replicate 64 0
  | t + 1 => (fun w => w.set t (schedVal b p w t)) (schedR b p t)
def kc : List Int := digest_keys.lit0
def rt1 (x : List Int) (k w : Int) : Int := IntKind.u32.wrap (x.getD 7 0 + bXor .u32 (bXor .u32 (rotr (x.getD 4 0) 6) (rotr (x.getD 4 0) 11)) (rotr (x.getD 4 0) 25) + bXor .u32 (bAnd .u32 (x.getD 4 0) (x.getD 5 0)) (bAnd .u32 (bNot .u32 (x.getD 4 0)) (x.getD 6 0)) + k + w)
def rt2 (x : List Int) : Int := bXor .u32 (bXor .u32 (rotr (x.getD 0 0) 2) (rotr (x.getD 0 0) 13)) (rotr (x.getD 0 0) 22) + bXor .u32 (bXor .u32 (bAnd .u32 (x.getD 0 0) (x.getD 1 0)) (bAnd .u32 (x.getD 0 0) (x.getD 2 0))) (bAnd .u32 (x.getD 1 0) (x.getD 2 0))
def rstep (x : List Int) (k w : Int) : List Int :=
  [IntKind.u32.wrap (rt1 x k w + rt2 x), x.getD 0 0, x.getD 1 0, x.getD 2 0, IntKind.u32.wrap (x.getD 3 0 + rt1 x k w), x.getD 4 0, x.getD 5 0, x.getD 6 0]
def roundR (w s : List Int) : Nat → List Int
  | 0 => s
  | t + 1 => rstep (roundR w s t) (kc.getD t 0) (w.getD t 0)
def addR (x s : List Int) : Nat → List Int
  | 0 => s
  | i + 1 => (fun z => z.set i (IntKind.u32.wrap (z.getD i 0 + x.getD i 0))) (addR x s i)
def mixV (s b : List Int) (p : Nat) : List Int := addR (roundR (schedR b p 64) s 64) s 8
def blocksR (m s : List Int) : Nat → List Int
  | 0 => s
  | n + 1 => mixV (blocksR m s n) m (64 * n)
def iv0 : List Int := [1779033703, 3144134277, 1013904242, 2773480762, 1359893119, 2600822924, 528734635, 1541459225]
def outB (s : List Int) (i : Nat) : Int := IntKind.u8.wrap (sR .u32 (s.getD (i / 4) 0) (24 - 8 * ((i % 4 : Nat) : Int)))
def outL (s : List Int) : List Int := (List.range 32).map (outB s)
def zs (n : Nat) : Nat := (120 - n % 64) % 64
def lenB (n i : Nat) : Int := IntKind.u8.wrap (sR .u64 (IntKind.u64.wrap (8 * (n : Int))) (8 * (7 - (i : Int))))
def padR (m : List Int) : List Int := m ++ ([128] ++ (List.replicate (zs (m.length + 1)) 0 ++ (List.range 8).map (lenB m.length)))
def sha (m : List Int) : List Int := outL (blocksR (padR m) iv0 ((padR m).length / 64))
end Go.Proofs.YtlpggofilkfbnaaDoor.T
namespace Go.Proofs.YtlpggofilkfbnaaDoor.T
open Go Go.Proofs Go.Proofs.YtlpggofilkfbnaaDoor.K
set_option linter.unusedVariables false
set_option linter.unusedSimpArgs false
theorem u32e (x : Int) : IntKind.u32.wrap x = x % 4294967296 := by simp [IntKind.wrap, IntKind.signed, IntKind.bits]
theorem wl (a b : Int) : IntKind.u32.wrap (IntKind.u32.wrap a + b) = IntKind.u32.wrap (a + b) := by simp only [u32e]; omega
theorem wr (a b : Int) : IntKind.u32.wrap (a + IntKind.u32.wrap b) = IntKind.u32.wrap (a + b) := by simp only [u32e]; omega
theorem bOr_comm (k : IntKind) (a b : Int) : bOr k a b = bOr k b a := by unfold bOr; rw [BitVec.or_comm]
theorem turn_f (x n : Int) (h0 : 0 < n) (h1 : n < 32) : digest_turn.f x n = some (rotr x n) := by
  simp only [digest_turn.f, math_bits_RotateLeft32.f, rotr]
  have e1 : IntKind.i64.wrap (0 - n) = -n := by rw [w64 (by omega) (by omega)]; omega
  have e2 : IntKind.u64.wrap (-n) = 18446744073709551616 - n := by
    simp [IntKind.wrap, IntKind.signed, IntKind.bits]
    omega
  obtain ⟨m, rfl⟩ : ∃ m : Nat, n = m := ⟨n.toNat, by omega⟩
  have e3 : bAnd .u64 (18446744073709551616 - (m : Int)) 31 = 32 - (m : Int) := by
    have h := bAnd_nat .u64 rfl (a := 18446744073709551616 - m) (b := 31) (by simp [IntKind.bits]; omega) (by simp [IntKind.bits])
    have e : ((18446744073709551616 - m : Nat) : Int) = 18446744073709551616 - (m : Int) := by omega
    rw [e] at h
    have h' : (18446744073709551616 - m) &&& 31 = (18446744073709551616 - m) % 32 := and_low _ 5
    rw [h'] at h
    rw [show ((31 : Nat) : Int) = 31 from rfl] at h
    rw [h]
    omega
  rw [e1, e2, e3, wu64 (x := 32 - (32 - (m : Int))) (by omega) (by omega), if_pos (by omega), if_pos (by omega)]
  have e4 : 32 - (32 - (m : Int)) = m := by omega
  rw [e4, bOr_comm]
  rfl
theorem getD_drop' (l : List Int) (a i : Nat) : (l.drop a).getD i 0 = l.getD (a + i) 0 := by simp [List.getD]
theorem getD_take' (l : List Int) (a i : Nat) (h : i < a) : (l.take a).getD i 0 = l.getD i 0 := by simp [List.getD, h]
theorem wsub (i c : Nat) (hc : c ≤ i) (hi : i < 1000) : IntKind.i64.wrap ((i : Int) - (c : Nat)) = ((i - c : Nat) : Int) := by
  rw [w64 (by omega) (by omega)]; omega
theorem wadd1 (i : Nat) (hi : i < 9223372036854775807) : IntKind.i64.wrap ((i : Int) + 1) = ((i + 1 : Nat) : Int) := by
  rw [w64 (by omega) (by omega)]; omega
theorem wmul4 (i : Nat) (hi : i < 1000) : IntKind.i64.wrap (4 * (i : Int)) = ((4 * i : Nat) : Int) := by
  rw [w64 (by omega) (by omega)]; omega
theorem spread_step (b : List Int) (h : b.length = 64) (w : List Int) (i : Nat) (hi : i < 64) : digest_spread.s0 b ((i : Int), w) = some (.inl (((i + 1 : Nat) : Int), w.set i (schedVal b 0 w i))) := by
  simp only [digest_spread.s0]
  rw [if_pos (by omega)]
  by_cases h16 : i < 16
  · have hl : (b.take ((b.length : Int)).toNat).drop (IntKind.i64.wrap (4 * (i : Int))).toNat = b.drop (4 * i) := by
      rw [wmul4 i (by omega), Int.toNat_natCast, Int.toNat_natCast, List.take_length]
    have hll : (b.drop (4 * i)).length = 64 - 4 * i := by simp [h]
    rw [if_pos (by omega), hl, hll, wmul4 i (by omega), if_pos (by omega), if_pos (by omega), if_pos (by omega), if_pos (by omega), if_pos (by omega), if_pos (by omega)]
    simp only [Option.bind_some, getD_drop', Int.toNat_natCast]
    rw [wadd1 i (by omega)]
    simp only [schedVal, if_pos h16, wordAt, Nat.zero_add]
    rfl
  · have e2 := wsub i 2 (by omega) (by omega)
    have e7 := wsub i 7 (by omega) (by omega)
    have e15 := wsub i 15 (by omega) (by omega)
    have e16 := wsub i 16 (by omega) (by omega)
    simp only [show ((2 : Nat) : Int) = 2 from rfl, show ((7 : Nat) : Int) = 7 from rfl, show ((15 : Nat) : Int) = 15 from rfl, show ((16 : Nat) : Int) = 16 from rfl] at e2 e7 e15 e16
    rw [if_neg (by omega), e2, e7, e15, e16, if_pos (by omega), if_pos (by omega), if_pos (by omega), if_pos (by omega)]
    simp only [Int.toNat_natCast, turn_f _ 17 (by omega) (by omega), turn_f _ 19 (by omega) (by omega), turn_f _ 7 (by omega) (by omega), turn_f _ 18 (by omega) (by omega), Option.bind_some]
    rw [if_pos (by omega), wadd1 i (by omega)]
    simp only [Option.bind_some, schedVal, if_neg h16, sg0, sg1]
    congr 4
    simp only [wl, wr]
    congr 1
    omega
theorem spread_eq (b : List Int) (h : b.length = 64) : digest_spread.f b = some (schedR b 0 64) := by
  simp only [digest_spread.f]
  have e := loop_run (step := digest_spread.s0 b) (s := (0, List.replicate 64 0)) (fun i => ((i : Int), schedR b 0 i)) 64 (r := schedR b 0 64) rfl (fun i hi => by
    rw [spread_step b h _ i hi]
    rfl) (by simp only [digest_spread.s0]; rw [if_neg (by decide)])
  rw [e]
  rfl
theorem mix0_step (w x : List Int) (i : Nat) (hi : i < 64) : digest_mix.s0 w digest_keys.lit0 ((i : Int), x) = some (.inl (((i + 1 : Nat) : Int), rstep x (kc.getD i 0) (w.getD i 0))) := by
  simp only [digest_mix.s0]
  rw [if_pos (by omega)]
  simp only [turn_f _ 6 (by omega) (by omega), turn_f _ 11 (by omega) (by omega), turn_f _ 25 (by omega) (by omega), turn_f _ 2 (by omega) (by omega), turn_f _ 13 (by omega) (by omega), turn_f _ 22 (by omega) (by omega), Option.bind_some, Int.toNat_natCast]
  rw [if_pos (by omega), wadd1 i (by omega)]
  simp only [rstep, rt1, rt2, kc, wl, wr, show (0 : Int).toNat = 0 from rfl, show (1 : Int).toNat = 1 from rfl, show (2 : Int).toNat = 2 from rfl, show (3 : Int).toNat = 3 from rfl, show (4 : Int).toNat = 4 from rfl, show (5 : Int).toNat = 5 from rfl, show (6 : Int).toNat = 6 from rfl, show (7 : Int).toNat = 7 from rfl]
theorem mix_eq (s b : List Int) (h : b.length = 64) : digest_mix.f s b = some (mixV s b 0) := by
  simp only [digest_mix.f, spread_eq b h, digest_keys.f, Option.bind_some]
  have e := loop_run (step := digest_mix.s0 (schedR b 0 64) digest_keys.lit0) (s := (0, s)) (fun i => ((i : Int), roundR (schedR b 0 64) s i)) 64 (r := roundR (schedR b 0 64) s 64) rfl (fun i hi => by
    rw [mix0_step _ _ i hi]
    rfl) (by simp only [digest_mix.s0]; rw [if_neg (by decide)])
  rw [e]
  simp only [Option.bind_some]
  have e := loop_run (step := digest_mix.s1 (roundR (schedR b 0 64) s 64)) (s := (0, s)) (fun i => ((i : Int), addR (roundR (schedR b 0 64) s 64) s i)) 8 (r := mixV s b 0) rfl (fun i hi => by
    simp only [digest_mix.s1]
    rw [if_pos (by omega), if_pos (by omega), wadd1 i (by omega)]
    simp only [Int.toNat_natCast, addR]) (by simp only [digest_mix.s1]; rw [if_neg (by decide)]; rfl)
  rw [e]
  rfl
theorem wordAt_in (m : List Int) (a n t : Nat) (h : t < 16) : wordAt ((m.take (a + 64)).drop a) (4 * t) = wordAt m (a + 4 * t) := by
  have e : ∀ j, j < 64 → ((m.take (a + 64)).drop a).getD j 0 = m.getD (a + j) 0 := fun j hj => by
    rw [getD_drop', getD_take' _ _ _ (by omega)]
  simp only [wordAt]
  rw [e _ (by omega), e _ (by omega), e _ (by omega), e _ (by omega)]
  simp only [Nat.add_assoc]
theorem schedR_in (m : List Int) (a t : Nat) : schedR ((m.take (a + 64)).drop a) 0 t = schedR m a t := by
  induction t with
  | zero => rfl
  | succ t ih =>
    simp only [schedR, ih]
    congr 1
    simp only [schedVal]
    by_cases h : t < 16
    · simp only [if_pos h, Nat.zero_add]
      exact wordAt_in m a 0 t h
    · simp only [if_neg h]
theorem mixV_in (s m : List Int) (a : Nat) : mixV s ((m.take (a + 64)).drop a) 0 = mixV s m a := by
  simp only [mixV, schedR_in]
theorem wordAt_app (m l : List Int) (p : Nat) (h : p + 3 < m.length) : wordAt (m ++ l) p = wordAt m p := by
  have e : ∀ j, j < m.length → (m ++ l).getD j 0 = m.getD j 0 := fun j hj => by simp [List.getD, List.getElem?_append_left hj]
  simp only [wordAt]
  rw [e _ (by omega), e _ (by omega), e _ (by omega), e _ (by omega)]
theorem schedR_app (m l : List Int) (p t : Nat) (h : p + 64 ≤ m.length) : schedR (m ++ l) p t = schedR m p t := by
  induction t with
  | zero => rfl
  | succ t ih =>
    simp only [schedR, ih]
    congr 1
    simp only [schedVal]
    by_cases h : t < 16
    · simp only [if_pos h]
      exact wordAt_app m l _ (by omega)
    · simp only [if_neg h]
theorem blocksR_app (m l s : List Int) (n : Nat) (h : 64 * n ≤ m.length) : blocksR (m ++ l) s n = blocksR m s n := by
  induction n with
  | zero => rfl
  | succ n ih =>
    simp only [blocksR, ih (by omega), mixV]
    rw [schedR_app _ _ _ _ (by omega)]
theorem mixV_drop (s m : List Int) (q a : Nat) : mixV s (m.drop q) a = mixV s m (q + a) := by
  have hw : ∀ p, wordAt (m.drop q) p = wordAt m (q + p) := fun p => by
    simp only [wordAt, getD_drop', Nat.add_assoc]
  have hs : ∀ t, schedR (m.drop q) a t = schedR m (q + a) t := fun t => by
    induction t with
    | zero => rfl
    | succ t ih =>
      simp only [schedR, ih]
      congr 1
      simp only [schedVal, hw, Nat.add_assoc]
  simp only [mixV, hs]
end Go.Proofs.YtlpggofilkfbnaaDoor.T
namespace Go.Proofs.YtlpggofilkfbnaaDoor.T
open Go Go.Proofs Go.Proofs.YtlpggofilkfbnaaDoor.K
set_option linter.unusedVariables false
set_option linter.unusedSimpArgs false
def WIn (w : digestWriter) (m : List Int) : Prop := w.n = m.length ∧ w.rest = m.drop (64 * (m.length / 64)) ∧ (64 ≤ m.length → w.s = blocksR m iv0 (m.length / 64))
theorem clone_eq (xs : List Int) (h : xs.length ≤ 140737488355328) : bytes_Clone.f xs = some xs := by
  unfold bytes_Clone.f
  rw [if_pos h]
theorem state_eq {w : digestWriter} {m : List Int} (h : WIn w m) : digest_Writer_state.f w = some (blocksR m iv0 (m.length / 64)) := by
  obtain ⟨h1, h2, h3⟩ := h
  simp only [digest_Writer_state.f, digest_begin.f, Option.bind_some, h1]
  by_cases hc : m.length < 64
  · rw [if_pos (by omega), Nat.div_eq_of_lt hc]
    rfl
  · rw [if_neg (by omega), h3 (by omega)]
theorem write_eq {w : digestWriter} {m b : List Int} (h : WIn w m) (hb : m.length + b.length ≤ 1000000) : ∃ w', digest_Writer_Write.f w b = some w' ∧ WIn w' (m ++ b) := by
  have hs := state_eq h
  obtain ⟨h1, h2, h3⟩ := h
  generalize hq : m.length / 64 = q at hs h2
  have hq1 : 64 * q ≤ m.length := by omega
  have hR : w.rest ++ b = (m ++ b).drop (64 * q) := by rw [h2, List.drop_append_of_le_length hq1]
  have hRl : (w.rest ++ b).length = m.length + b.length - 64 * q := by rw [hR]; simp
  generalize hRe : w.rest ++ b = R at hR hRl
  generalize hc : R.length / 64 = c
  have hloop : loopO digest_Writer_Write.s0 (0, blocksR m iv0 q, R) = some (((64 * c : Nat) : Int), blocksR (m ++ b) iv0 (q + c), R) := by
    refine loop_run (fun i => (((64 * i : Nat) : Int), blocksR (m ++ b) iv0 (q + i), R)) c ?_ (fun i hi => ?_) ?_
    · rw [Nat.add_zero, blocksR_app _ _ _ _ hq1]; rfl
    · simp only [digest_Writer_Write.s0]
      have e : IntKind.i64.wrap (((64 * i : Nat) : Int) + 64) = ((64 * i + 64 : Nat) : Int) := by rw [w64 (by omega) (by omega)]; omega
      rw [e, if_pos (by omega), if_pos (by omega), Int.toNat_natCast, Int.toNat_natCast, mix_eq _ _ (by simp; omega)]
      simp only [Option.bind_some]
      rw [mixV_in, hR, mixV_drop, ← Nat.mul_add]
      rfl
    · simp only [digest_Writer_Write.s0]
      rw [w64 (by omega) (by omega), if_neg (by omega)]
  refine ⟨⟨blocksR (m ++ b) iv0 (q + c), R.drop (64 * c), m.length + b.length⟩, ?_, by simp, ?_, fun _ => ?_⟩
  · simp only [digest_Writer_Write.f]
    have hs' : digest_Writer_state.f ⟨w.s, w.rest, w.n⟩ = some (blocksR m iv0 q) := hs
    have hw : w.rest.length + b.length = R.length := by rw [← hRe, List.length_append]
    rw [hs', hRe, hw]
    simp only [Option.bind_some]
    rw [if_pos (by omega), hloop]
    simp only [Option.bind_some]
    rw [if_pos (by omega), Int.toNat_natCast, Int.toNat_natCast, List.take_length, clone_eq _ (by simp; omega)]
    simp only [Option.bind_some]
    rw [h1, w64 (by omega) (by omega)]
  · have : 64 * ((m ++ b).length / 64) = 64 * q + 64 * c := by rw [List.length_append]; omega
    rw [this, hR, List.drop_drop]
  · have : (m ++ b).length / 64 = q + c := by rw [List.length_append]; omega
    rw [this]
theorem set_next {α : Type} (f : Nat → α) (n j : Nat) (z : α) (h : j < n) : ((List.range j).map f ++ List.replicate (n - j) z).set j (f j) = (List.range (j + 1)).map f ++ List.replicate (n - (j + 1)) z := by
  obtain ⟨k, hk⟩ : ∃ k, n - j = k + 1 := ⟨n - j - 1, by omega⟩
  have hk' : n - (j + 1) = k := by omega
  rw [hk, hk', List.set_append_right _ _ (by simp), List.range_succ, List.map_append, List.append_assoc]
  simp [List.replicate_succ]
theorem zeros_loop (step : List Int → Option (List Int ⊕ List Int)) (hs : ∀ l, step l = (if (Int.tmod (l.length : Int) 64) ≠ 56 then (if l.length + 1 ≤ 140737488355328 then some (.inl (l ++ ([0] : List Int))) else none) else some (.inr l)))
    (l : List Int) (h : l.length ≤ 2000000) : loopO step l = some (l ++ List.replicate (zs l.length) 0) := by
  refine loop_run (fun i => l ++ List.replicate i 0) (zs l.length) (by simp) (fun i hi => ?_) ?_
  · rw [hs, if_pos ?_, if_pos (by simp [zs] at hi ⊢; omega)]
    · simp [List.replicate_succ', List.append_assoc]
    · rw [List.length_append, List.length_replicate, Int.tmod_eq_emod_of_nonneg (by omega)]
      simp only [zs] at hi
      omega
  · rw [hs, if_neg ?_]
    rw [List.length_append, List.length_replicate, Int.tmod_eq_emod_of_nonneg (by omega)]
    simp only [zs]
    omega
theorem range_map_succ {α : Type} (f : Nat → α) (i : Nat) : (List.range (i + 1)).map f = (List.range i).map f ++ [f i] := by rw [List.range_succ, List.map_append]; rfl
theorem lenB_digest (n i : Nat) (hn : n ≤ 1000000) (hi : i < 8) : IntKind.u8.wrap (sR .u64 (sL .u64 (IntKind.u64.wrap (n : Int)) 3) (IntKind.i64.wrap (8 * (7 - (i : Int))))) = lenB n i := by
  have e1 : sL .u64 (IntKind.u64.wrap (n : Int)) 3 = IntKind.u64.wrap (8 * (n : Int)) := by
    rw [wu64 (by omega) (by omega)]
    simp only [sL, show (3 : Int).toNat = 3 from rfl]
    rw [show ((2 : Int) ^ (min 3 IntKind.u64.bits)) = 8 from rfl, Int.mul_comm]
  rw [e1, w64 (by omega) (by omega)]
  rfl
theorem padR_len (m : List Int) : (padR m).length = m.length + 1 + zs (m.length + 1) + 8 := by
  simp [padR]; omega
theorem padR_mod (m : List Int) : (padR m).length % 64 = 0 := by
  rw [padR_len]; simp only [zs]; omega
theorem out_eq4 (s : List Int) (i : Nat) (hi : i < 8) : loopO (digest_Writer_Sum.s4 s (i : Int)) (0, (List.range (4 * i)).map (outB s) ++ List.replicate (32 - 4 * i) 0) = some ((List.range (4 * (i + 1))).map (outB s) ++ List.replicate (32 - 4 * (i + 1)) 0) := by
  refine loop_run (fun k => ((k : Int), (List.range (4 * i + k)).map (outB s) ++ List.replicate (32 - (4 * i + k)) 0)) 4 (by simp) (fun k hk => ?_) ?_
  · simp only [digest_Writer_Sum.s4]
    have e1 : IntKind.i64.wrap (24 - IntKind.i64.wrap (8 * (k : Int))) = 24 - 8 * (k : Int) := by
      rw [w64 (x := 8 * (k : Int)) (by omega) (by omega), w64 (by omega) (by omega)]
    have e2 : IntKind.i64.wrap (IntKind.i64.wrap (4 * (i : Int)) + (k : Int)) = ((4 * i + k : Nat) : Int) := by
      rw [w64 (x := 4 * (i : Int)) (by omega) (by omega), w64 (by omega) (by omega)]; omega
    rw [if_pos (by omega), e1, e2, if_pos (by omega), if_pos (by omega), wadd1 k (by omega), Int.toNat_natCast, Int.toNat_natCast]
    have e3 : IntKind.u8.wrap (sR .u32 (s.getD i 0) (24 - 8 * (k : Int))) = outB s (4 * i + k) := by
      have a1 : (4 * i + k) / 4 = i := by omega
      have a2 : (4 * i + k) % 4 = k := by omega
      simp only [outB, a1, a2]
    rw [e3, set_next _ _ _ _ (by omega)]
    rfl
  · simp only [digest_Writer_Sum.s4]
    rw [if_neg (by decide)]
    rfl
theorem out_eq (s : List Int) : loopO (digest_Writer_Sum.s3 s) (0, List.replicate 32 0) = some (outL s) := by
  refine loop_run (fun i => ((i : Int), (List.range (4 * i)).map (outB s) ++ List.replicate (32 - 4 * i) 0)) 8 (by simp) (fun i hi => ?_) ?_
  · simp only [digest_Writer_Sum.s3]
    rw [if_pos (by omega), if_pos (by omega), out_eq4 s i hi]
    simp only [Option.bind_some]
    rw [wadd1 i (by omega)]
  · simp only [digest_Writer_Sum.s3]
    rw [if_neg (by decide)]
    rfl
theorem sum_eq' {w : digestWriter} {m : List Int} (h : WIn w m) (hb : m.length ≤ 1000000) : digest_Writer_Sum.f w = some (sha m) := by
  have hs := state_eq h
  obtain ⟨h1, h2, h3⟩ := h
  generalize hq : m.length / 64 = q at hs h2
  have hq1 : 64 * q ≤ m.length := by omega
  have hrl : w.rest.length = m.length - 64 * q := by rw [h2]; simp
  have hz : zs (w.rest ++ [128]).length = zs (m.length + 1) := by simp only [List.length_append, hrl, zs, List.length_cons, List.length_nil]; omega
  have hz64 : zs (m.length + 1) < 64 := by simp only [zs]; omega
  have hC : w.rest ++ [128] ++ List.replicate (zs (m.length + 1)) 0 ++ (List.range 8).map (lenB m.length) = (padR m).drop (64 * q) := by
    rw [h2, padR, List.drop_append_of_le_length hq1]
    simp only [List.append_assoc]
  have hl1 : loopO (digest_Writer_Sum.s1 w) (w.rest ++ [128] ++ List.replicate (zs (m.length + 1)) 0, 7) = some ((padR m).drop (64 * q)) := by
    refine loop_run (fun i => (w.rest ++ [128] ++ List.replicate (zs (m.length + 1)) 0 ++ (List.range i).map (lenB m.length), 7 - (i : Int))) 8 (by simp) (fun i hi => ?_) ?_
    · simp only [digest_Writer_Sum.s1]
      rw [if_pos (by omega), if_pos (by rw [w64 (by omega) (by omega)]; omega), if_pos (by simp; omega), h1, lenB_digest _ _ hb hi, w64 (by omega) (by omega)]
      congr 2
      rw [range_map_succ, ← List.append_assoc]
      congr 1
      omega
    · simp only [digest_Writer_Sum.s1]
      rw [if_neg (by decide), hC]
  have hpl := padR_len m
  have hpm := padR_mod m
  have hCl : ((padR m).drop (64 * q)).length = (padR m).length - 64 * q := by simp
  generalize hc : ((padR m).drop (64 * q)).length / 64 = c at *
  have hl2 : loopO digest_Writer_Sum.s2 ((padR m).drop (64 * q), 0, blocksR m iv0 q) = some ((padR m).drop (64 * q), blocksR (padR m) iv0 (q + c)) := by
    refine loop_run (fun i => ((padR m).drop (64 * q), ((64 * i : Nat) : Int), blocksR (padR m) iv0 (q + i))) c ?_ (fun i hi => ?_) ?_
    · rw [Nat.add_zero]
      have : blocksR (padR m) iv0 q = blocksR m iv0 q := blocksR_app _ _ _ _ hq1
      rw [this]; rfl
    · simp only [digest_Writer_Sum.s2]
      have e : IntKind.i64.wrap (((64 * i : Nat) : Int) + 64) = ((64 * i + 64 : Nat) : Int) := by rw [w64 (by omega) (by omega)]; omega
      rw [if_pos (by omega), e, if_pos (by omega), Int.toNat_natCast, Int.toNat_natCast, mix_eq _ _ (by simp; omega)]
      simp only [Option.bind_some]
      rw [mixV_in, mixV_drop, ← Nat.mul_add]
      rfl
    · simp only [digest_Writer_Sum.s2]
      rw [if_neg (by omega)]
  simp only [digest_Writer_Sum.f]
  have hs' : digest_Writer_state.f ⟨w.s, w.rest, w.n⟩ = some (blocksR m iv0 q) := hs
  rw [clone_eq _ (by omega)]
  simp only [Option.bind_some]
  rw [if_pos (by omega), zeros_loop digest_Writer_Sum.s0 (fun l => rfl) _ (by simp; omega), hz]
  simp only [Option.bind_some]
  rw [hl1]
  simp only [Option.bind_some]
  rw [hs']
  simp only [Option.bind_some]
  rw [hl2]
  simp only [Option.bind_some]
  rw [out_eq]
  simp only [Option.bind_some, sha]
  congr 3
  omega
theorem wIn0 (s : List Int) : WIn ⟨s, [], 0⟩ [] := ⟨rfl, rfl, fun h => by simp at h⟩
theorem sha_eq (m : List Int) (hb : m.length ≤ 1000000) : digest_Sha.f m = some (sha m) := by
  obtain ⟨w', e, hw⟩ := write_eq (wIn0 (List.replicate 8 0)) (b := m) (by simpa using hb)
  simp only [digest_Sha.f, e, Option.bind_some]
  have : digest_Writer_Sum.f ⟨w'.s, w'.rest, w'.n⟩ = some (sha m) := sum_eq' hw (by simpa using hb)
  rw [this]
  rfl
theorem outL_len (s : List Int) : (outL s).length = 32 := by simp [outL]
theorem sha_len (m : List Int) : (sha m).length = 32 := outL_len _
theorem twice_eq (m : List Int) (hb : m.length ≤ 1000000) : digest_Twice.f m = some (sha (sha m)) := by
  simp only [digest_Twice.f, sha_eq m hb, Option.bind_some, sha_eq (sha m) (by rw [sha_len]; omega)]
theorem sha_arr (m : List Int) : Arr .u8 32 (sha m) := ⟨sha_len m, fun x hx => by
  simp only [sha, outL, List.mem_map] at hx
  obtain ⟨i, _, rfl⟩ := hx
  exact wrap_in _ _⟩
end Go.Proofs.YtlpggofilkfbnaaDoor.T
namespace Go.Proofs.YtlpggofilkfbnaaDoor.T
open Go Go.Proofs Go.Proofs.YtlpggofilkfbnaaDoor.K
set_option linter.unusedVariables false
set_option linter.unusedSimpArgs false
theorem els_all {α : Type} {RE : α → List Value → Prop} {sz : Nat} {xs : List α} {cs : List Value} {Q : α → Prop} (h : Els RE sz xs cs) (f : ∀ x c, RE x c → Q x) : ∀ x ∈ xs, Q x := by
  induction h with
  | nil => simp
  | cons h _ _ ih =>
    intro y hy
    rcases List.mem_cons.1 hy with rfl | hy
    · exact f _ _ h
    · exact ih y hy
theorem slc_ints {k : IntKind} {μ : Store} {v : Value} {xs : List Int} (h : Slc (RI k) 1 μ v xs) : ∀ x ∈ xs, InR k x := by
  obtain ⟨cs, he, _⟩ := h
  exact els_all he fun x c hc => hc.2
theorem getD_mid {α : Type} (pre r : List α) (x d : α) : (pre ++ x :: r).getD ((pre.length : Int).toNat) d = x := by
  simp [List.getD]
theorem mid_lt {α : Type} (pre r : List α) (x : α) : 0 ≤ (pre.length : Int) ∧ (pre.length : Int) < ((pre ++ x :: r).length : Int) := by
  simp; omega
theorem mid_next {α : Type} (pre r : List α) (x : α) (h : (pre ++ x :: r).length ≤ 140737488355328) : IntKind.i64.wrap ((pre.length : Int) + 1) = ((pre ++ [x]).length : Int) := by
  simp at h
  rw [w64 (by omega) (by omega)]; simp
theorem winc (i : Nat) (hi : i < 9223372036854775807) : IntKind.i64.wrap ((i : Int) + 1) = ((i + 1 : Nat) : Int) := by
  rw [w64 (by omega) (by omega)]; omega
theorem take_next {α : Type} (xs : List α) (i : Nat) (d : α) (h : i < xs.length) : xs.take i ++ [xs.getD i d] = xs.take (i + 1) := by
  rw [List.take_add_one]
  simp [List.getD, h]
theorem all_run {step : Int → Option (Int ⊕ Bool)} (n : Nat) (p : Nat → Prop) [DecidablePred p] (hn : n < 9223372036854775807)
    (hs : ∀ i, i < n → step (i : Int) = if p i then some (.inl (IntKind.i64.wrap ((i : Int) + 1))) else some (.inr false)) (he : step (n : Int) = some (.inr true)) : loopO step 0 = some (decide (∀ i, i < n → p i)) := by
  have key : ∀ m k, m + k = n → (∀ i, i < k → p i) → loopO step (k : Int) = some (decide (∀ i, i < n → p i)) := by
    intro m
    induction m with
    | zero =>
      intro k e h
      obtain rfl : k = n := by omega
      rw [loopO_inr he]
      congr 1
      exact (decide_eq_true h).symm
    | succ m ih =>
      intro k e h
      have h1 := hs k (by omega)
      by_cases hp : p k
      · rw [if_pos hp, winc k (by omega)] at h1
        rw [loopO_inl h1]
        refine ih (k + 1) (by omega) fun i hi => ?_
        rcases Nat.lt_or_ge i k with h2 | h2
        · exact h i h2
        · obtain rfl : i = k := by omega
          exact hp
      · rw [if_neg hp] at h1
        rw [loopO_inr h1]
        have : ¬ ∀ i, i < n → p i := fun h2 => hp (h2 k (by omega))
        simp [this]
  exact key n 0 (by omega) (by simp)
theorem ext_iff {α : Type} (xs ys : List α) (d : α) (h : xs.length = ys.length) : (∀ i, i < xs.length → xs.getD i d = ys.getD i d) ↔ xs = ys := by
  constructor
  · intro hh
    apply List.ext_getElem h
    intro i h1 h2
    have := hh i h1
    simpa [List.getD, h1, h2] using this
  · rintro rfl i _
    rfl
theorem samehash_eq (a b : List Int) (ha : a.length = 32) (hb : b.length = 32) : sargassoref_SameHash.f a b = some (decide (a = b)) := by
  unfold sargassoref_SameHash.f
  rw [all_run 32 (fun i => a.getD i 0 = b.getD i 0) (by omega) (fun i hi => by
    simp only [sargassoref_SameHash.s0, Int.toNat_natCast]
    rw [if_pos (by omega), if_pos (by omega)]
    by_cases h : a.getD i 0 = b.getD i 0
    · rw [if_neg (by simpa using h), if_pos h]
    · rw [if_pos h, if_neg h]) (by simp [sargassoref_SameHash.s0])]
  congr 2
  apply propext
  have := ext_iff a b 0 (by rw [ha, hb])
  rw [ha] at this
  exact this
theorem samebytes_eq' (xs ys : List Int) (h : xs.length ≤ 140737488355328) : sargassoref_SameBytes.f xs ys = some (decide (xs = ys)) := by
  unfold sargassoref_SameBytes.f
  by_cases hl : xs.length = ys.length
  · rw [if_neg (by omega), all_run xs.length (fun i => xs.getD i 0 = ys.getD i 0) (by omega) (fun i hi => by
      simp only [sargassoref_SameBytes.s0, Int.toNat_natCast]
      rw [if_pos (by omega), if_pos (by omega), if_pos (by omega)]) (by simp [sargassoref_SameBytes.s0])]
    congr 2
    exact propext (ext_iff xs ys 0 hl)
  · rw [if_pos (by omega)]
    have : xs ≠ ys := fun e => hl (by rw [e])
    simp [this]
theorem samebytes_eq (xs : List Int) (h : xs.length ≤ 140737488355328) : sargassoref_SameBytes.f xs xs = some true := by
  rw [samebytes_eq' xs xs h]
  simp
end Go.Proofs.YtlpggofilkfbnaaDoor.T
namespace Go.Proofs.YtlpggofilkfbnaaDoor.T
open Go Go.Proofs Go.Proofs.YtlpggofilkfbnaaDoor.K
set_option linter.unusedVariables false
set_option linter.unusedSimpArgs false
def Hs (l : List (List Int)) : Prop := ∀ x ∈ l, x.length = 32
theorem Hs.at {l : List (List Int)} (h : Hs l) {i : Nat} (hi : i < l.length) : (l.getD i []).length = 32 := by
  have e : l.getD i [] = l[i] := by simp [List.getD, hi]
  rw [e]; exact h _ (List.getElem_mem hi)
theorem concat_eq (l : List (List Int)) (hn : l.length ≤ 1000) (hl : ∀ x ∈ l, x.length ≤ 1000) : slices_Concat_byte_byte.f l = some l.flatten := by
  have hpre : ∀ i, i ≤ l.length → ((l.take i).flatten.length ≤ 1000 * i) := by
    intro i
    induction i with
    | zero => intro _; simp
    | succ i ih =>
      intro hi
      have h1 := ih (by omega)
      have h2 : (l.getD i []).length ≤ 1000 := by
        have e : l.getD i [] = l[i] := by simp [List.getD, show i < l.length by omega]
        rw [e]; exact hl _ (List.getElem_mem _)
      rw [← take_next l i [] (by omega), List.flatten_append, List.length_append]
      simp only [List.flatten_cons, List.flatten_nil, List.append_nil]
      omega
  have hel : ∀ i, i < l.length → (l.getD i []).length ≤ 1000 := fun i hi => by
    have e : l.getD i [] = l[i] := by simp [List.getD, hi]
    rw [e]; exact hl _ (List.getElem_mem _)
  have hnext : ∀ i, i < l.length → (l.take (i + 1)).flatten = (l.take i).flatten ++ l.getD i [] := fun i hi => by
    rw [← take_next l i [] hi, List.flatten_append]; simp
  have h0 : loopO (slices_Concat_byte_byte.s0 l) (0, 0) = some ((l.flatten.length : Int)) := by
    refine loop_run (fun i => (((l.take i).flatten.length : Int), (i : Int))) l.length (by simp) (fun i hi => ?_) ?_
    · have a := hpre i (by omega)
      have b := hel i hi
      simp only [slices_Concat_byte_byte.s0, Int.toNat_natCast]
      rw [if_pos (by omega), if_pos (by omega), w64 (x := ((l.take i).flatten.length : Int) + ((l.getD i []).length : Int)) (by omega) (by omega), if_neg (by omega), Option.bind_some, winc i (by omega), hnext i hi, List.length_append]
      push_cast
      rfl
    · simp only [slices_Concat_byte_byte.s0]
      rw [if_neg (by omega), List.take_length]
  have h1 : loopO (slices_Concat_byte_byte.s1 l) ([], 0) = some l.flatten := by
    refine loop_run (fun i => ((l.take i).flatten, (i : Int))) l.length (by simp) (fun i hi => ?_) ?_
    · have a := hpre i (by omega)
      have b := hel i hi
      simp only [slices_Concat_byte_byte.s1, Int.toNat_natCast]
      rw [if_pos (by omega), if_pos (by omega), if_pos (by omega), winc i (by omega), hnext i hi]
    · simp only [slices_Concat_byte_byte.s1]
      rw [if_neg (by omega), List.take_length]
  have a := hpre l.length (by omega)
  rw [List.take_length] at a
  simp only [slices_Concat_byte_byte.f, slices_Grow_byte_byte.f, h0, Option.bind_some]
  rw [if_pos (by omega), Option.bind_some, h1, Option.bind_some]
def pr (a b : List Int) : List Int := sha (sha (a ++ b))
theorem pr_len (a b : List Int) : (pr a b).length = 32 := sha_len _
theorem pair_eq (a b : List Int) (ha : a.length = 32) (hb : b.length = 32) : merkle_pair.f a b = some (pr a b) := by
  simp only [merkle_pair.f]
  rw [concat_eq [a, b] (by simp) (by simp [ha, hb]), Option.bind_some]
  simp only [List.flatten_cons, List.flatten_nil, List.append_nil]
  rw [twice_eq _ (by simp [ha, hb])]
  rfl
theorem xor1 (a : Nat) : a ^^^ 1 = if a % 2 = 0 then a + 1 else a - 1 := by
  have h1 : (a ^^^ 1) / 2 = a / 2 := by rw [Nat.xor_div_two]; simp
  have h2 : (a ^^^ 1) % 2 = (a + 1) % 2 := by
    have := Nat.xor_mod_two_pow (a := a) (b := 1) (n := 1)
    rw [show 2 ^ 1 = 2 from rfl] at this
    rw [this]
    have d0 : 0 ^^^ 1 % 2 = 1 := by decide
    have d1 : 1 ^^^ 1 % 2 = 0 := by decide
    rcases Nat.mod_two_eq_zero_or_one a with e | e <;> rw [e] <;> simp only [d0, d1] <;> omega
  split <;> omega
theorem xor64 (a : Nat) (h : a < 1000000) : bXor .i64 (a : Int) 1 = ((a ^^^ 1 : Nat) : Int) := by
  unfold bXor
  have e1 : (BitVec.ofInt IntKind.i64.bits (a : Int)).toNat = a := bv_nat _ _ (by simp [IntKind.bits]; omega)
  have e2 : (BitVec.ofInt IntKind.i64.bits (1 : Int)).toNat = 1 := bv_nat IntKind.i64.bits 1 (by simp [IntKind.bits])
  rw [BitVec.toNat_xor, e1, e2]
  have := xor1 a
  exact w64 (by omega) (by split at this <;> omega)
theorem iMin_nat (a b : Nat) : iMin (a : Int) (b : Int) = ((min a b : Nat) : Int) := by unfold iMin; split <;> omega
def oth (i : Nat) (l : List (List Int)) : List Int := l.getD (min (i ^^^ 1) (l.length - 1)) []
theorem oth_eq (i : Nat) (l : List (List Int)) (h0 : 0 < l.length) (hi : i < 1000000) (hl : l.length < 1000000) : merkle_other.f (i : Int) l = some (oth i l) := by
  simp only [merkle_other.f]
  have e : IntKind.i64.wrap ((l.length : Int) - 1) = ((l.length - 1 : Nat) : Int) := by rw [w64 (by omega) (by omega)]; omega
  rw [xor64 i hi, e, iMin_nat, if_pos (by omega), Int.toNat_natCast]
  rfl
theorem oth_len {i : Nat} {l : List (List Int)} (h : Hs l) (h0 : 0 < l.length) : (oth i l).length = 32 := h.at (by omega)
def upG (l : List (List Int)) (j : Nat) : List Int := pr (l.getD (2 * j) []) (oth (2 * j) l)
def upL (l : List (List Int)) : List (List Int) := (List.range ((l.length + 1) / 2)).map (upG l)
theorem upL_len (l : List (List Int)) : (upL l).length = (l.length + 1) / 2 := by simp [upL]
theorem upL_hs (l : List (List Int)) : Hs (upL l) := fun x hx => by
  simp only [upL, List.mem_map] at hx
  obtain ⟨j, _, rfl⟩ := hx
  exact pr_len _ _
theorem up_eq (l : List (List Int)) (h : Hs l) (hl : l.length < 100000) : merkle_up.f l = some (upL l) := by
  simp only [merkle_up.f]
  have e : loopO (merkle_up.s0 l) ([], 0) = some (upL l) := by
    refine loop_run (fun j => ((List.range j).map (upG l), ((2 * j : Nat) : Int))) ((l.length + 1) / 2) rfl (fun j hj => ?_) ?_
    · simp only [merkle_up.s0, Int.toNat_natCast]
      rw [if_pos (by omega), if_pos (by omega), oth_eq _ _ (by omega) (by omega) (by omega), Option.bind_some, pair_eq _ _ (h.at (by omega)) (oth_len h (by omega)), Option.bind_some, if_pos (by simp; omega), range_map_succ, w64 (by omega) (by omega)]
      congr 3
    · simp only [merkle_up.s0]
      rw [if_neg (by omega)]
      rfl
  rw [e, Option.bind_some]
def topR : Nat → List (List Int) → List (List Int)
  | 0, l => l
  | f + 1, l => if 1 < l.length then topR f (upL l) else l
theorem top_stop {f : Nat} {l : List (List Int)} (h : l.length ≤ 1) : topR f l = l := by
  cases f with
  | zero => rfl
  | succ f => rw [topR, if_neg (by omega)]
def rootL (l : List (List Int)) : List Int := if l.length = 0 then List.replicate 32 0 else (topR l.length l).getD 0 []
theorem top_pos : ∀ (f : Nat) (l : List (List Int)), 0 < l.length → l.length ≤ f → (topR f l).length = 1
  | 0, l, h, h' => by omega
  | f + 1, l, h, h' => by
    by_cases c : 1 < l.length
    · rw [topR, if_pos c]
      exact top_pos f _ (by rw [upL_len]; omega) (by rw [upL_len]; omega)
    · rw [top_stop (by omega)]; omega
theorem top_hs : ∀ (f : Nat) (l : List (List Int)), Hs l → Hs (topR f l)
  | 0, l, h => h
  | f + 1, l, h => by
    by_cases c : 1 < l.length
    · rw [topR, if_pos c]; exact top_hs f _ (upL_hs l)
    · rw [topR, if_neg c]; exact h
theorem root_loop : ∀ (f : Nat) (l : List (List Int)), Hs l → l.length ≤ f → l.length < 100000 → loopO merkle_Root.s0 l = some (topR f l)
  | 0, l, h, hf, hl => loopO_inr (by simp only [merkle_Root.s0]; rw [if_neg (by omega)]; rfl)
  | f + 1, l, h, hf, hl => by
    by_cases c : 1 < l.length
    · rw [loopO_inl (s' := upL l) (by simp only [merkle_Root.s0]; rw [if_pos (by omega), up_eq l h hl]; rfl), topR, if_pos c]
      exact root_loop f _ (upL_hs l) (by rw [upL_len]; omega) (by rw [upL_len]; omega)
    · rw [loopO_inr (r := l) (by simp only [merkle_Root.s0]; rw [if_neg (by omega)]), top_stop (by omega)]
theorem root_eq (l : List (List Int)) (h : Hs l) (hl : l.length < 100000) : merkle_Root.f l = some (rootL l) := by
  simp only [merkle_Root.f, rootL]
  by_cases c : l.length = 0
  · rw [if_pos (by omega), if_pos c]; rfl
  · rw [if_neg (by omega), if_neg c, root_loop _ l h (Nat.le_refl _) hl, Option.bind_some, if_pos (by rw [top_pos _ _ (by omega) (Nat.le_refl _)]; decide)]
    rfl
theorem rootL_len (l : List (List Int)) (h : Hs l) : (rootL l).length = 32 := by
  unfold rootL
  split
  · simp
  · exact (top_hs _ _ h).at (by rw [top_pos _ _ (by omega) (Nat.le_refl _)]; omega)
end Go.Proofs.YtlpggofilkfbnaaDoor.T
namespace Go.Proofs.YtlpggofilkfbnaaDoor.T
open Go Go.Proofs Go.Proofs.YtlpggofilkfbnaaDoor.K
set_option linter.unusedVariables false
set_option linter.unusedSimpArgs false
theorem u8e (x : Int) : IntKind.u8.wrap x = x % 256 := by simp [IntKind.wrap, IntKind.signed, IntKind.bits]
def lb (a m : Nat) : List Int := (List.range m).map fun j => ((a / 2 ^ (8 * j) % 256 : Nat) : Int)
theorem lb_len (a m : Nat) : (lb a m).length = m := by simp [lb]
theorem sR_div (k : IntKind) {a n : Nat} (hn : n ≤ k.bits) : sR k (a : Int) (n : Int) = ((a / 2 ^ n : Nat) : Int) := by
  rw [sR_nat k hn, Nat.shiftRight_eq_div_pow]
theorem number_eq' (r : List Int) (a k : Nat) (hk : k ≤ 100) (hl : r.length + k ≤ 140737488355328) : compact_number.f r (a : Int) (k : Int) = some (r ++ lb a k) := by
  simp only [compact_number.f]
  have h : loopO (compact_number.s0 (k : Int)) (r, (a : Int), 0) = some (r ++ lb a k, ((a / 2 ^ (8 * k) : Nat) : Int)) := by
    refine loop_run (fun j => (r ++ lb a j, ((a / 2 ^ (8 * j) : Nat) : Int), (j : Int))) k (by simp [lb]) (fun j hj => ?_) ?_
    · simp only [compact_number.s0]
      have e1 : IntKind.u8.wrap ((a / 2 ^ (8 * j) : Nat) : Int) = ((a / 2 ^ (8 * j) % 256 : Nat) : Int) := by rw [u8e]; generalize a / 2 ^ (8 * j) = q; omega
      have e2 : sR .u64 ((a / 2 ^ (8 * j) : Nat) : Int) 8 = ((a / 2 ^ (8 * (j + 1)) : Nat) : Int) := by
        have := sR_div .u64 (a := a / 2 ^ (8 * j)) (n := 8) (by decide)
        rw [Nat.div_div_eq_div_mul, ← Nat.pow_add] at this
        exact this
      rw [if_pos (by omega), if_pos (by simp [lb_len]; omega), e1, e2, winc j (by omega), List.append_assoc]
      have : lb a j ++ [((a / 2 ^ (8 * j) % 256 : Nat) : Int)] = lb a (j + 1) := by
        unfold lb; rw [range_map_succ]
      rw [this]
    · simp only [compact_number.s0]
      rw [if_neg (by omega)]
  rw [h, Option.bind_some]
theorem four_eq (b : List Int) (a : Nat) (ha : a < 4294967296) (hl : b.length + 4 ≤ 140737488355328) : compact_Four.f b (a : Int) = some (b ++ lb a 4) := by
  have := number_eq' b a 4 (by omega) hl
  simp only [compact_Four.f, bytes_Clone.f]
  rw [wu64 (by omega) (by omega), if_pos (by omega), Option.bind_some]
  rw [show ((4 : Nat) : Int) = 4 from rfl] at this
  rw [this, Option.bind_some]
structure HN where
  v : Nat
  p : List Int
  r : List Int
  t : Nat
  w : Nat
  n : Nat
deriving DecidableEq
structure HN.Ok (h : HN) : Prop where
  v : h.v < 4294967296
  p : h.p.length = 32
  r : h.r.length = 32
  t : h.t < 4294967296
  w : h.w < 4294967296
  n : h.n < 4294967296
def HN.h (h : HN) : Head := ⟨h.v, h.p, h.r, h.t, h.w, h.n⟩
def hb (h : HN) : List Int := lb h.v 4 ++ (h.p ++ (h.r ++ (lb h.t 4 ++ (lb h.w 4 ++ lb h.n 4))))
theorem hb_len {h : HN} (o : h.Ok) : (hb h).length = 80 := by simp [hb, lb_len, o.p, o.r]
theorem hbytes_eq {h : HN} (o : h.Ok) : head_Bytes.f h.h = some (hb h) := by
  simp only [head_Bytes.f, HN.h]
  have hv := o.v
  have ht := o.t
  have hw := o.w
  have hn := o.n
  rw [four_eq [] h.v hv (by simp), Option.bind_some, concat_eq _ (by simp) (by simp [lb_len, o.p, o.r]), Option.bind_some, four_eq _ h.t ht (by simp [lb_len, o.p, o.r]), Option.bind_some, four_eq _ h.w hw (by simp [lb_len, o.p, o.r]), Option.bind_some, four_eq _ h.n hn (by simp [lb_len, o.p, o.r]), Option.bind_some]
  simp [hb]
theorem hid_eq {h : HN} (o : h.Ok) : head_ID.f h.h = some (sha (sha (hb h))) := by
  simp only [head_ID.f]
  rw [hbytes_eq o, Option.bind_some, twice_eq _ (by rw [hb_len o]; decide)]
  rfl
end Go.Proofs.YtlpggofilkfbnaaDoor.T
namespace Go.Proofs.YtlpggofilkfbnaaDoor.T
open Go Go.Proofs Go.Proofs.YtlpggofilkfbnaaDoor.K
set_option linter.unusedVariables false
set_option linter.unusedSimpArgs false
theorem gd {α : Type} (l : List α) (d : α) {i : Nat} (h : i < l.length) : l.getD i d = l[i] := by simp [List.getD, h]
end Go.Proofs.YtlpggofilkfbnaaDoor.T
namespace Go.Proofs.YtlpggofilkfbnaaDoor.T
open Go Go.Proofs Go.Proofs.YtlpggofilkfbnaaDoor.K
set_option linter.unusedVariables false
set_option linter.unusedSimpArgs false
def Bs (l : List Int) : Prop := ∀ x ∈ l, InR .u8 x
theorem Bs.app {l m : List Int} (h : Bs l) (k : Bs m) : Bs (l ++ m) := fun x hx => (List.mem_append.1 hx).elim (h x) (k x)
theorem Bs.take {l : List Int} (h : Bs l) (n : Nat) : Bs (l.take n) := fun x hx => h x (List.mem_of_mem_take hx)
theorem Bs.drop {l : List Int} (h : Bs l) (n : Nat) : Bs (l.drop n) := fun x hx => h x (List.mem_of_mem_drop hx)
theorem bs_lb (a m : Nat) : Bs (lb a m) := fun x hx => by
  obtain ⟨j, _, rfl⟩ := List.mem_map.1 hx
  simp only [InR]
  omega
theorem bs_nil : Bs [] := fun x hx => by cases hx
def vl : List Int → Nat
  | [] => 0
  | b :: l => b.toNat + 256 * vl l
def nx (n : Nat) (s : List Int × Er) : List Int × (List Int × Er) :=
  if s.2 ≠ .b 0 then ([], s) else if s.1.length < n then ([], (s.1, xErrEnd)) else (s.1.take n, (s.1.drop n, s.2))
def wh (n : Nat) (s : List Int × Er) : Nat × (List Int × Er) := (vl (nx n s).1, (nx n s).2)
def ln (n : Nat) : Nat := if n < 253 then 1 else if n < 65536 then 3 else if n < 4294967296 then 5 else 9
theorem len_eq (n : Nat) : compact_Len.f (n : Int) = some (ln n : Int) := by
  simp only [compact_Len.f, ln]
  by_cases h1 : n < 253
  · rw [if_pos (by omega), if_pos h1]; rfl
  · rw [if_neg (by omega), if_neg h1]
    by_cases h2 : n < 65536
    · rw [if_pos (by omega), if_pos h2]; rfl
    · rw [if_neg (by omega), if_neg h2]
      by_cases h3 : n < 4294967296
      · rw [if_pos (by omega), if_pos h3]; rfl
      · rw [if_neg (by omega), if_neg h3]; rfl
def my (n : Nat) : Nat := if n = 253 then 2 else if n = 254 then 4 else if n = 255 then 8 else 0
def nm (most : Int) (s : List Int × Er) : Nat × (List Int × Er) :=
  let a := wh 1 s
  let b := if 0 < my a.1 then wh (my a.1) a.2 else a
  if b.2.2 ≠ .b 0 then (0, b.2) else if ln b.1 ≠ 1 + my a.1 then (0, (b.2.1, xErrShape)) else if most < (b.1 : Int) then (0, (b.2.1, xErrMany)) else b
def by_ (n : Int) (s : List Int × Er) : List Int × (List Int × Er) := if n ≤ 0 then ([], s) else nx n.toNat s
end Go.Proofs.YtlpggofilkfbnaaDoor.T
namespace Go.Proofs.YtlpggofilkfbnaaDoor.T
open Go Go.Proofs Go.Proofs.YtlpggofilkfbnaaDoor.K
set_option linter.unusedVariables false
set_option linter.unusedSimpArgs false
def pt (n : Nat) : List Int := if n < 253 then lb n 1 else if n < 65536 then 253 :: lb n 2 else if n < 4294967296 then 254 :: lb n 4 else 255 :: lb n 8
theorem pt_len (n : Nat) : (pt n).length = ln n := by
  unfold pt ln
  split
  · simp [lb_len]
  · split
    · simp [lb_len]
    · split <;> simp [lb_len]
theorem ln_le (n : Nat) : 1 ≤ ln n ∧ ln n ≤ 9 := by unfold ln; split <;> (try split) <;> (try split) <;> omega
theorem lb_one (n : Nat) : lb n 1 = [((n % 256 : Nat) : Int)] := by simp [lb, List.range_succ]
theorem put_eq (b : List Int) (n : Nat) (hn : n < 18446744073709551616) (hl : b.length ≤ 1000000) : compact_Put.f b (n : Int) = some (b ++ pt n) := by
  simp only [compact_Put.f, bytes_Clone.f]
  rw [if_pos (by omega), Option.bind_some, len_eq, Option.bind_some]
  unfold ln pt
  by_cases h1 : n < 253
  · rw [if_pos h1, if_pos h1, if_pos (by rfl), if_pos (by omega), u8e, lb_one]
    congr 3
  · rw [if_neg h1, if_neg h1]
    by_cases h2 : n < 65536
    · have := number_eq' (b ++ [253]) n 2 (by omega) (by simp; omega)
      rw [show ((2 : Nat) : Int) = 2 from rfl] at this
      rw [if_pos h2, if_pos h2, if_neg (by decide), if_pos (by rfl), if_pos (by omega), this, Option.bind_some, List.append_assoc]; rfl
    · rw [if_neg h2, if_neg h2]
      by_cases h3 : n < 4294967296
      · have := number_eq' (b ++ [254]) n 4 (by omega) (by simp; omega)
        rw [show ((4 : Nat) : Int) = 4 from rfl] at this
        rw [if_pos h3, if_pos h3, if_neg (by decide), if_neg (by decide), if_pos (by rfl), if_pos (by omega), this, Option.bind_some, List.append_assoc]; rfl
      · have := number_eq' (b ++ [255]) n 8 (by omega) (by simp; omega)
        rw [show ((8 : Nat) : Int) = 8 from rfl] at this
        rw [if_neg h3, if_neg h3, if_neg (by decide), if_neg (by decide), if_neg (by decide), if_pos (by omega), this, Option.bind_some, List.append_assoc]; rfl
theorem eight_eq (b : List Int) (a : Nat) (hl : b.length ≤ 1000000) : compact_Eight.f b (a : Int) = some (b ++ lb a 8) := by
  have := number_eq' b a 8 (by omega) (by omega)
  simp only [compact_Eight.f, bytes_Clone.f]
  rw [if_pos (by omega), Option.bind_some]
  rw [show ((8 : Nat) : Int) = 8 from rfl] at this
  rw [this, Option.bind_some]
end Go.Proofs.YtlpggofilkfbnaaDoor.T
namespace Go.Proofs.YtlpggofilkfbnaaDoor.T
open Go Go.Proofs Go.Proofs.YtlpggofilkfbnaaDoor.K
set_option linter.unusedVariables false
set_option linter.unusedSimpArgs false
abbrev Stp (α : Type) := List Int × Er → α × (List Int × Er)
section
variable {α β : Type}
def ret (x : α) : Stp α := fun s => (x, s)
end
end Go.Proofs.YtlpggofilkfbnaaDoor.T
namespace Go.Proofs.YtlpggofilkfbnaaDoor.T
open Go Go.Proofs Go.Proofs.YtlpggofilkfbnaaDoor.K
set_option linter.unusedVariables false
set_option linter.unusedSimpArgs false
structure InOk (i : In) : Prop where
  tx : i.From.Tx.length = 32
  txb : Bs i.From.Tx
  n : InR .u32 i.From.N
  key : Bs i.Key
  seq : InR .u32 i.Seq
structure OutOk (o : Out) : Prop where
  val : InR .u64 o.Value
  lock : o.Lock.length = 32
  lockb : Bs o.Lock
structure TxOk (t : Tx) : Prop where
  v : InR .u32 t.Version
  ins : ∀ i ∈ t.Ins, InOk i
  outs : ∀ o ∈ t.Outs, OutOk o
  t : InR .u32 t.Time
structure Few (a b : Nat) (t : Tx) : Prop where
  ins : t.Ins.length ≤ a
  outs : t.Outs.length ≤ a
  key : ∀ i ∈ t.Ins, i.Key.length ≤ b
theorem Few.mono {a b c d : Nat} {t : Tx} (h : Few a b t) (h1 : a ≤ c) (h2 : b ≤ d) : Few c d t := ⟨Nat.le_trans h.ins h1, Nat.le_trans h.outs h1, fun i hi => Nat.le_trans (h.key i hi) h2⟩
def ib (i : In) : List Int := i.From.Tx ++ (lb i.From.N.toNat 4 ++ (pt i.Key.length ++ (i.Key ++ lb i.Seq.toNat 4)))
def ob (o : Out) : List Int := lb o.Value.toNat 8 ++ o.Lock
def tb (t : Tx) : List Int := lb t.Version.toNat 4 ++ (pt t.Ins.length ++ ((t.Ins.map ib).flatten ++ (pt t.Outs.length ++ ((t.Outs.map ob).flatten ++ lb t.Time.toNat 4))))
theorem ib_len {i : In} (h : InOk i) : (ib i).length = 40 + ln i.Key.length + i.Key.length := by
  simp only [ib, List.length_append, h.tx, lb_len, pt_len]; omega
theorem ob_len {o : Out} (h : OutOk o) : (ob o).length = 40 := by simp only [ob, List.length_append, h.lock, lb_len]
theorem flat_le {α : Type} (f : α → List Int) (b : Nat) : ∀ (l : List α), (∀ x ∈ l, (f x).length ≤ b) → (l.map f).flatten.length ≤ b * l.length
  | [], _ => by simp
  | x :: l, h => by
    have h1 := flat_le f b l fun y hy => h y (by simp [hy])
    have h2 := h x (by simp)
    simp only [List.map_cons, List.flatten_cons, List.length_append, List.length_cons]
    rw [Nat.mul_add, Nat.mul_one]; omega
theorem ins_le {t : Tx} (h : TxOk t) {a : Nat} (hf : Few a 1000 t) : (t.Ins.map ib).flatten.length ≤ 2000 * t.Ins.length := flat_le ib 2000 t.Ins fun i hi => by
  rw [ib_len (h.ins i hi)]
  have := (ln_le i.Key.length).2
  have := hf.key i hi
  omega
theorem outs_le {t : Tx} (h : TxOk t) : (t.Outs.map ob).flatten.length ≤ 40 * t.Outs.length := flat_le ob 40 t.Outs fun o ho => by rw [ob_len (h.outs o ho)]; omega
theorem tb_le {t : Tx} (h : TxOk t) (hf : Few 100 1000 t) : (tb t).length ≤ 210000 := by
  have h1 := ins_le h hf
  have h2 := outs_le h
  have h3 := (ln_le t.Ins.length).2
  have h4 := (ln_le t.Outs.length).2
  have h5 := hf.ins
  have h6 := hf.outs
  simp only [tb, List.length_append, lb_len, pt_len]
  omega
theorem nat4 {x : Int} (h : InR .u32 x) : x = ((x.toNat : Nat) : Int) ∧ x.toNat < 4294967296 := by obtain ⟨a, b⟩ := h; omega
theorem nat8 {x : Int} (h : InR .u64 x) : x = ((x.toNat : Nat) : Int) ∧ x.toNat < 18446744073709551616 := by obtain ⟨a, b⟩ := h; omega
theorem getD_mem {α : Type} {l : List α} {d : α} {i : Nat} (h : i < l.length) : l.getD i d ∈ l := by rw [gd l d h]; exact List.getElem_mem h
theorem flat_next {α : Type} (f : α → List Int) (l : List α) (d : α) (i : Nat) (h : i < l.length) : ((l.take (i + 1)).map f).flatten = ((l.take i).map f).flatten ++ f (l.getD i d) := by
  rw [← take_next l i d h]; simp
theorem take_few {α : Type} (f : α → List Int) (b : Nat) (l : List α) (h : ∀ x ∈ l, (f x).length ≤ b) (i : Nat) (hi : i ≤ l.length) : ((l.take i).map f).flatten.length ≤ b * l.length := by
  have := flat_le f b (l.take i) fun x hx => h x (List.mem_of_mem_take hx)
  rw [List.length_take, Nat.min_eq_left hi] at this
  exact Nat.le_trans this (Nat.mul_le_mul_left b hi)
theorem tbytes_eq {t : Tx} (h : TxOk t) (hf : Few 100 1000 t) : tx_Bytes.f t = some (tb t) := by
  obtain ⟨v1, v2⟩ := nat4 h.v
  obtain ⟨t1, t2⟩ := nat4 h.t
  have hi := hf.ins
  have ho := hf.outs
  have hil : ∀ i ∈ t.Ins, (ib i).length ≤ 2000 := fun i hi => by
    rw [ib_len (h.ins i hi)]
    have := (ln_le i.Key.length).2
    have := hf.key i hi
    omega
  have hol : ∀ o ∈ t.Outs, (ob o).length ≤ 40 := fun o ho => by rw [ob_len (h.outs o ho)]; omega
  have lp := (ln_le t.Ins.length).2
  have lq := (ln_le t.Outs.length).2
  have L1 : ∀ P : List Int, P.length ≤ 100 → loopO (tx_Bytes.s0 t) (P, 0) = some (P ++ (t.Ins.map ib).flatten) := fun P hP => by
    refine loop_run (fun i => (P ++ ((t.Ins.take i).map ib).flatten, (i : Int))) t.Ins.length (by simp) (fun i hi => ?_) ?_
    · have hm := getD_mem (l := t.Ins) (d := default) hi
      have ok := h.ins _ hm
      have hk := hf.key _ hm
      have hb := take_few ib 2000 t.Ins hil i (by omega)
      rw [flat_next ib t.Ins default i hi]
      simp only [tx_Bytes.s0, Int.toNat_natCast]
      generalize t.Ins.getD i default = x at *
      obtain ⟨n1, n2⟩ := nat4 ok.n
      obtain ⟨s1, s2⟩ := nat4 ok.seq
      have ltx := ok.tx
      have lk := (ln_le x.Key.length).2
      have hf4 := four_eq (P ++ ((t.Ins.take i).map ib).flatten ++ x.From.Tx) x.From.N.toNat n2 (by simp only [List.length_append]; omega)
      have hp := put_eq (P ++ ((t.Ins.take i).map ib).flatten ++ x.From.Tx ++ lb x.From.N.toNat 4) x.Key.length (by omega) (by simp only [List.length_append, lb_len]; omega)
      have hf5 := four_eq (P ++ ((t.Ins.take i).map ib).flatten ++ x.From.Tx ++ lb x.From.N.toNat 4 ++ pt x.Key.length ++ x.Key) x.Seq.toNat s2 (by simp only [List.length_append, lb_len, pt_len]; omega)
      rw [← n1] at hf4
      rw [← s1] at hf5
      rw [if_pos (by omega), if_pos (by omega), if_pos (by simp only [List.length_append]; omega), hf4, Option.bind_some, wu64 (by omega) (by omega), hp, Option.bind_some, if_pos (by simp only [List.length_append, lb_len, pt_len]; omega), hf5, Option.bind_some, winc i (by omega)]
      simp only [ib, List.append_assoc]
    · simp only [tx_Bytes.s0]
      rw [if_neg (by omega), List.take_length]
  have L2 : ∀ P : List Int, P.length ≤ 300000 → loopO (tx_Bytes.s1 t) (P, 0) = some (P ++ (t.Outs.map ob).flatten) := fun P hP => by
    refine loop_run (fun i => (P ++ ((t.Outs.take i).map ob).flatten, (i : Int))) t.Outs.length (by simp) (fun i hi => ?_) ?_
    · have hm := getD_mem (l := t.Outs) (d := default) hi
      have ok := h.outs _ hm
      have hb := take_few ob 40 t.Outs hol i (by omega)
      rw [flat_next ob t.Outs default i hi]
      simp only [tx_Bytes.s1, Int.toNat_natCast]
      generalize t.Outs.getD i default = x at *
      obtain ⟨n1, n2⟩ := nat8 ok.val
      have ltx := ok.lock
      have h8 := eight_eq (P ++ ((t.Outs.take i).map ob).flatten) x.Value.toNat (by simp only [List.length_append]; omega)
      rw [← n1] at h8
      rw [if_pos (by omega), if_pos (by omega), h8, Option.bind_some, if_pos (by simp only [List.length_append, lb_len]; omega), winc i (by omega)]
      simp only [ob, List.append_assoc]
    · simp only [tx_Bytes.s1]
      rw [if_neg (by omega), List.take_length]
  have hI := flat_le ib 2000 t.Ins hil
  have hO := flat_le ob 40 t.Outs hol
  have f1 := four_eq [] t.Version.toNat v2 (by simp)
  rw [← v1] at f1
  have p1 := put_eq (lb t.Version.toNat 4) t.Ins.length (by omega) (by rw [lb_len]; omega)
  have p2 := put_eq (lb t.Version.toNat 4 ++ pt t.Ins.length ++ (t.Ins.map ib).flatten) t.Outs.length (by omega) (by simp only [List.length_append, lb_len, pt_len]; omega)
  have f2 := four_eq (lb t.Version.toNat 4 ++ pt t.Ins.length ++ (t.Ins.map ib).flatten ++ pt t.Outs.length ++ (t.Outs.map ob).flatten) t.Time.toNat t2 (by simp only [List.length_append, lb_len, pt_len]; omega)
  rw [← t1] at f2
  simp only [tx_Bytes.f]
  rw [f1, Option.bind_some, List.nil_append, wu64 (x := (t.Ins.length : Int)) (by omega) (by omega), p1, Option.bind_some, L1 _ (by simp only [List.length_append, lb_len, pt_len]; omega), Option.bind_some, wu64 (x := (t.Outs.length : Int)) (by omega) (by omega), p2, Option.bind_some, L2 _ (by simp only [List.length_append, lb_len, pt_len]; omega), Option.bind_some, f2, Option.bind_some]
  simp only [tb, List.append_assoc]
end Go.Proofs.YtlpggofilkfbnaaDoor.T
namespace Go.Proofs.YtlpggofilkfbnaaDoor.T
open Go Go.Proofs Go.Proofs.YtlpggofilkfbnaaDoor.K
set_option linter.unusedVariables false
set_option linter.unusedSimpArgs false
theorem samepoint_eq (a b : Point) (ha : a.Tx.length = 32) (hb : b.Tx.length = 32) : sargassoref_SamePoint.f a b = some (decide (a = b)) := by
  simp only [sargassoref_SamePoint.f]
  rw [samehash_eq _ _ ha hb]
  obtain ⟨a1, a2⟩ := a
  obtain ⟨b1, b2⟩ := b
  simp only [Option.bind_some, Point.mk.injEq, decide_eq_true_eq]
  by_cases h1 : a1 = b1 <;> by_cases h2 : a2 = b2 <;> simp [h1, h2]
noncomputable instance (a b : Nat) (t : Tx) : Decidable (Few a b t) := Classical.propDecidable _
def nullP : Point := ⟨List.replicate 32 0, 4294967295⟩
theorem point_iff (a b : Point) : a = b ↔ (a.Tx = b.Tx ∧ a.N = b.N) := by
  obtain ⟨a1, a2⟩ := a
  obtain ⟨b1, b2⟩ := b
  simp
end Go.Proofs.YtlpggofilkfbnaaDoor.T
namespace Go.Proofs.YtlpggofilkfbnaaDoor.T
open Go Go.Proofs Go.Proofs.YtlpggofilkfbnaaDoor.K
set_option linter.unusedVariables false
def goSum : Int → List Int → Int × Bool
  | s, [] => (s, true)
  | s, x :: r => if 2100000000000000 < s + x then (0, false) else goSum (s + x) r
theorem sum_loop (xs : List Int) (h : xs.length ≤ 140737488355328) (hx : ∀ x ∈ xs, InR .u64 x) : ∀ (r pre : List Int) (s : Int), xs = pre ++ r → 0 ≤ s → s ≤ 2100000000000000 →
    loopO (compact_Sum.s0 xs) (s, (pre.length : Int)) = some (goSum s r)
  | [], pre, s, e, _, _ => by
    obtain rfl : xs = pre := by simpa using e
    exact loopO_inr (by simp [compact_Sum.s0, goSum])
  | x :: r, pre, s, e, h0, h1 => by
    have hr : InR .u64 x := hx x (by simp [e])
    obtain ⟨a, b⟩ := hr
    have h3 := mid_lt pre r x
    have ih := sum_loop xs h hx r (pre ++ [x]) (s + x) (by simp [e]) (by omega)
    subst e
    unfold goSum
    by_cases hc : 2100000000000000 < s + x
    · rw [if_pos hc]
      refine loopO_inr ?_
      simp only [compact_Sum.s0, if_pos h3.2, if_pos h3, getD_mid]
      rw [if_pos (by rw [wu64 (by omega) (by omega)]; omega)]
    · rw [if_neg hc, loopO_inl (s' := (s + x, ((pre ++ [x]).length : Int)))]
      · exact ih (by omega)
      · simp only [compact_Sum.s0, if_pos h3.2, if_pos h3, getD_mid]
        rw [if_neg (by rw [wu64 (by omega) (by omega)]; omega), wu64 (by omega) (by omega), mid_next pre r x h]
theorem sum_eq (xs : List Int) (h : xs.length ≤ 140737488355328) (hx : ∀ x ∈ xs, InR .u64 x) : compact_Sum.f xs = some (goSum 0 xs) :=
  sum_loop xs h hx xs [] 0 rfl (by omega) (by omega)
end Go.Proofs.YtlpggofilkfbnaaDoor.T
namespace Go.Proofs.YtlpggofilkfbnaaDoor.T
open Go Go.Proofs Go.Proofs.YtlpggofilkfbnaaDoor.K
set_option linter.unusedVariables false
set_option linter.unusedSimpArgs false
theorem find_run {step : Int → Option (Int ⊕ Int)} (n : Nat) (p : Nat → Prop) [DecidablePred p] (hn : n < 9223372036854775807)
    (hs : ∀ i, i < n → step (i : Int) = if p i then some (.inr (i : Int)) else some (.inl (IntKind.i64.wrap ((i : Int) + 1)))) (he : step (n : Int) = some (.inr (-1))) : ∃ r, loopO step 0 = some r ∧ (0 ≤ r ↔ ∃ i, i < n ∧ p i) := by
  have key : ∀ m k, m + k = n → (∀ i, i < k → ¬ p i) → ∃ r, loopO step (k : Int) = some r ∧ (0 ≤ r ↔ ∃ i, i < n ∧ p i) := by
    intro m
    induction m with
    | zero =>
      intro k e h
      obtain rfl : k = n := by omega
      exact ⟨-1, loopO_inr he, ⟨fun h => by omega, fun ⟨i, h1, h2⟩ => absurd h2 (h i h1)⟩⟩
    | succ m ih =>
      intro k e h
      have h1 := hs k (by omega)
      by_cases hp : p k
      · rw [if_pos hp] at h1
        exact ⟨k, loopO_inr h1, ⟨fun _ => ⟨k, by omega, hp⟩, fun _ => by omega⟩⟩
      · rw [if_neg hp, winc k (by omega)] at h1
        rw [loopO_inl h1]
        refine ih (k + 1) (by omega) fun i hi => ?_
        rcases Nat.lt_or_ge i k with h2 | h2
        · exact h i h2
        · obtain rfl : i = k := by omega
          exact hp
  exact key n 0 (by omega) (by simp)
theorem ex_getD {α : Type} (l : List α) (d : α) (p : α → Prop) : (∃ i, i < l.length ∧ p (l.getD i d)) ↔ ∃ x ∈ l, p x := by
  constructor
  · rintro ⟨i, hi, h⟩
    exact ⟨_, getD_mem hi, h⟩
  · rintro ⟨x, hx, h⟩
    obtain ⟨i, hi, rfl⟩ := List.getElem_of_mem hx
    exact ⟨i, hi, by rw [gd l d hi]; exact h⟩
theorem contains_key (l : List In) (hl : l.length ≤ 1000000) : slices_ContainsFunc_api_In_api_In_at_tx_Check_1.f l = some (decide (∃ i ∈ l, 80 < i.Key.length)) := by
  obtain ⟨r, h1, h2⟩ := find_run (step := slices_IndexFunc_api_In_api_In_at_tx_Check_1.s0 l) l.length (fun i => 80 < (l.getD i default).Key.length) (by omega) (fun i hi => by
    simp only [slices_IndexFunc_api_In_api_In_at_tx_Check_1.s0, tx_Check_1.f, Int.toNat_natCast]
    rw [if_pos (by omega), if_pos (by omega), Option.bind_some]
    by_cases c : 80 < (l.getD i default).Key.length
    · rw [if_pos c, if_pos (by simp only [decide_eq_true_eq]; omega)]
    · rw [if_neg c, if_neg (by simp only [decide_eq_true_eq]; omega)]) (by simp [slices_IndexFunc_api_In_api_In_at_tx_Check_1.s0])
  simp only [slices_ContainsFunc_api_In_api_In_at_tx_Check_1.f, slices_IndexFunc_api_In_api_In_at_tx_Check_1.f]
  rw [h1, Option.bind_some]
  exact congrArg some (decide_eq_decide.2 (h2.trans (ex_getD l default fun i => 80 < i.Key.length)))
theorem isnull_eq (p : Point) : spend_IsNull.f p = some (decide (p = nullP)) := by
  simp only [spend_IsNull.f, spend_Null.f, Option.bind_some]
  exact congrArg some (decide_eq_decide.2 (point_iff p nullP).symm)
theorem contains_null (l : List In) (hl : l.length ≤ 1000000) : slices_ContainsFunc_api_In_api_In_at_tx_base_1.f l = some (decide (∃ i ∈ l, i.From = nullP)) := by
  obtain ⟨r, h1, h2⟩ := find_run (step := slices_IndexFunc_api_In_api_In_at_tx_base_1.s0 l) l.length (fun i => (l.getD i default).From = nullP) (by omega) (fun i hi => by
    simp only [slices_IndexFunc_api_In_api_In_at_tx_base_1.s0, tx_base_1.f, Int.toNat_natCast]
    rw [if_pos (by omega), if_pos (by omega), isnull_eq, Option.bind_some, Option.bind_some]
    by_cases c : (l.getD i default).From = nullP
    · rw [if_pos c, if_pos (decide_eq_true c)]
    · rw [if_neg c, if_neg (by simp only [decide_eq_true_eq]; exact c)]) (by simp [slices_IndexFunc_api_In_api_In_at_tx_base_1.s0])
  simp only [slices_ContainsFunc_api_In_api_In_at_tx_base_1.f, slices_IndexFunc_api_In_api_In_at_tx_base_1.f]
  rw [h1, Option.bind_some]
  exact congrArg some (decide_eq_decide.2 (h2.trans (ex_getD l default fun i => i.From = nullP)))
theorem mget_put {K V : Type} [DecidableEq K] (l : List (K × V)) (k k' : K) (v : V) : mget (mput l k v) k' = if k = k' then some v else mget l k' := by
  induction l with
  | nil => simp [mput, mget]
  | cons p l ih =>
    unfold mput
    by_cases h : p.1 = k
    · rw [if_pos h]
      subst h
      by_cases c : p.1 = k'
      · simp [mget, c]
      · simp [mget, c]
    · rw [if_neg h]
      simp only [mget]
      by_cases c : p.1 = k'
      · rw [if_pos c, if_pos c, if_neg (fun e => h (c.trans e.symm))]
      · rw [if_neg c, if_neg c, ih]
def frs (t : Tx) : List Point := t.Ins.map (·.From)
theorem frs_next (t : Tx) (i : Nat) (h : i < t.Ins.length) : (t.Ins.take (i + 1)).map (·.From) = (t.Ins.take i).map (·.From) ++ [(t.Ins.getD i default).From] := by
  rw [← take_next t.Ins i default h]; simp
theorem twice_loop (t : Tx) (hl : t.Ins.length ≤ 1000000) : ∀ (m i : Nat) (s : List (Point × Bool)), m + i = t.Ins.length → (∀ k, ((mget s k).getD false = true ↔ k ∈ (t.Ins.take i).map (·.From))) → ((t.Ins.take i).map (·.From)).Nodup →
    loopO (tx_twice.s0 t) ((i : Int), s) = some (decide (¬ (frs t).Nodup)) := by
  intro m
  induction m with
  | zero =>
    intro i s e h hn
    obtain rfl : i = t.Ins.length := by omega
    rw [List.take_length] at hn
    rw [loopO_inr (by simp only [tx_twice.s0]; rw [if_neg (by omega)]), decide_eq_false (fun h => h hn)]
  | succ m ih =>
    intro i s e h hn
    by_cases c : (t.Ins.getD i default).From ∈ (t.Ins.take i).map (·.From)
    · rw [loopO_inr (by
        simp only [tx_twice.s0, Int.toNat_natCast]
        rw [if_pos (by omega), if_pos (by omega), if_pos ((h _).2 c)])]
      have h2 : ¬ (frs t).Nodup := fun hd => by
        have h3 : ((t.Ins.take (i + 1)).map (·.From)).Nodup := hd.sublist ((List.take_sublist _ _).map _)
        rw [frs_next t i (by omega)] at h3
        exact (List.nodup_append.1 h3).2.2 _ c _ (by simp) rfl
      rw [decide_eq_true h2]
    · rw [loopO_inl (by
        simp only [tx_twice.s0, Int.toNat_natCast]
        rw [if_pos (by omega), if_pos (by omega), if_neg (fun h2 => c ((h _).1 h2)), winc i (by omega)])]
      refine ih (i + 1) _ (by omega) (fun k => ?_) ?_
      · rw [mget_put, frs_next t i (by omega)]
        by_cases ck : (t.Ins.getD i default).From = k
        · rw [if_pos ck, ← ck]; simp
        · rw [if_neg ck, h k, List.mem_append]
          refine ⟨.inl, fun h => ?_⟩
          rcases h with h | h
          · exact h
          · exact absurd (by simpa using h) (fun e => ck (Eq.symm e))
      · rw [frs_next t i (by omega)]
        refine List.nodup_append.2 ⟨hn, by simp, fun a ha b hb => ?_⟩
        have hb' : b = (t.Ins.getD i default).From := by simpa using hb
        intro e
        exact c (by rw [← hb', ← e]; exact ha)
theorem twice_eq' (t : Tx) (hl : t.Ins.length ≤ 1000000) : tx_twice.f t = some (decide (¬ (frs t).Nodup)) := by
  have := twice_loop t hl t.Ins.length 0 [] (by omega) (fun k => by simp [mget]) (by simp)
  exact this
theorem values_eq (t : Tx) (hl : t.Outs.length ≤ 1000000) : tx_values.f t = some (t.Outs.map (·.Value)) := by
  simp only [tx_values.f]
  rw [show loopO (tx_values.s0 t) ([], 0) = _ from loop_run (step := tx_values.s0 t) (fun i => ((t.Outs.take i).map (·.Value), (i : Int))) t.Outs.length (r := t.Outs.map (·.Value)) rfl (fun i hi => by
    simp only [tx_values.s0, Int.toNat_natCast]
    rw [if_pos (by omega), if_pos (by omega), if_pos (by simp; omega), winc i (by omega), ← take_next t.Outs i default hi]
    simp) (by simp only [tx_values.s0]; rw [if_neg (by omega), List.take_length])]
  rfl
def vs (t : Tx) : List Int := t.Outs.map (·.Value)
theorem vs_in {t : Tx} (h : TxOk t) : ∀ x ∈ vs t, InR .u64 x := fun x hx => by
  obtain ⟨o, ho, rfl⟩ := List.mem_map.1 hx
  exact (h.outs o ho).val
theorem txsum_eq {t : Tx} (h : TxOk t) (hl : t.Outs.length ≤ 1000000) : tx_Sum.f t = some (goSum 0 (vs t)) := by
  simp only [tx_Sum.f]
  rw [values_eq t hl, Option.bind_some, show t.Outs.map (·.Value) = vs t from rfl, sum_eq _ (by simp [vs]; omega) (vs_in h)]
  rfl
def isBase (t : Tx) : Prop := t.Ins.length = 1 ∧ (t.Ins.getD 0 default).From = nullP
instance (t : Tx) : Decidable (isBase t) := inferInstanceAs (Decidable (_ ∧ _))
theorem base_eq (t : Tx) : tx_Base.f t = some (decide (isBase t)) := by
  simp only [tx_Base.f]
  by_cases c : t.Ins.length = 1
  · rw [if_pos (by omega), if_pos (by omega), isnull_eq]
    simp only [Option.bind_some]
    exact congrArg some (decide_eq_decide.2 ⟨fun h => ⟨c, h⟩, fun h => h.2⟩)
  · rw [if_neg (by omega), Option.bind_some, decide_eq_false (fun h => c h.1)]
noncomputable def bs (t : Tx) : Er := if isBase t then (if (t.Ins.getD 0 default).Key.length < 4 then xErrBase else .b 0) else if ∃ i ∈ t.Ins, i.From = nullP then xErrBase else .b 0
theorem base1_eq (t : Tx) (hl : t.Ins.length ≤ 1000000) : tx_base.f t = some (bs t) := by
  simp only [tx_base.f]
  rw [base_eq, Option.bind_some]
  unfold bs
  by_cases c : isBase t
  · rw [if_pos (decide_eq_true c), if_pos c, if_pos (by have := c.1; omega)]
    by_cases k : (t.Ins.getD 0 default).Key.length < 4
    · rw [if_pos k, if_pos (show (((t.Ins.getD (0 : Int).toNat default).Key).length : Int) < 4 by rw [show (0 : Int).toNat = 0 from rfl]; omega)]
    · rw [if_neg k, if_neg (show ¬ (((t.Ins.getD (0 : Int).toNat default).Key).length : Int) < 4 by rw [show (0 : Int).toNat = 0 from rfl]; omega)]
  · rw [if_neg (by simp only [decide_eq_true_eq]; exact c), if_neg c, contains_null _ hl, Option.bind_some]
    by_cases k : ∃ i ∈ t.Ins, i.From = nullP
    · rw [if_pos (decide_eq_true k), if_pos k]
    · rw [if_neg (by simp only [decide_eq_true_eq]; exact k), if_neg k]
def mn (t : Tx) : Prop := t.Ins.length = 0 ∨ 50 < t.Ins.length ∨ t.Outs.length = 0 ∨ 50 < t.Outs.length
instance (t : Tx) : Decidable (mn t) := inferInstanceAs (Decidable (_ ∨ _))
noncomputable def ck (t : Tx) : Er := if mn t then xErrMany else if 4000 < (tb t).length then xErrLong else if ∃ i ∈ t.Ins, 80 < i.Key.length then xErrKey else if (goSum 0 (vs t)).2 = false then xErrValue else if ¬ (frs t).Nodup then xErrTwice else bs t
theorem many_eq (t : Tx) : (if (t.Ins.length : Int) = 0 then some true else (if 50 < (t.Ins.length : Int) then some true else (if (t.Outs.length : Int) = 0 then some true else some (decide (50 < (t.Outs.length : Int)))))) = some (decide (mn t)) := by
  have hm : mn t ↔ (t.Ins.length = 0 ∨ 50 < t.Ins.length ∨ t.Outs.length = 0 ∨ 50 < t.Outs.length) := Iff.rfl
  by_cases c1 : t.Ins.length = 0
  · rw [if_pos (by omega), decide_eq_true (hm.2 (.inl c1))]
  · by_cases c2 : 50 < t.Ins.length
    · rw [if_neg (by omega), if_pos (by omega), decide_eq_true (hm.2 (.inr (.inl c2)))]
    · by_cases c3 : t.Outs.length = 0
      · rw [if_neg (by omega), if_neg (by omega), if_pos (by omega), decide_eq_true (hm.2 (.inr (.inr (.inl c3))))]
      · rw [if_neg (by omega), if_neg (by omega), if_neg (by omega)]
        exact congrArg some (decide_eq_decide.2 ⟨fun h => hm.2 (by omega), fun h => by have := hm.1 h; omega⟩)
theorem size_eq {t : Tx} (h : TxOk t) (hf : Few 60 100 t) : tx_Size.f t = some ((tb t).length : Int) := by
  simp only [tx_Size.f]
  rw [tbytes_eq h (hf.mono (by omega) (by omega)), Option.bind_some]
theorem check_eq {t : Tx} (h : TxOk t) (hf : Few 60 100 t) : tx_Check.f t = some (ck t) := by
  have h1 := hf.ins
  have h2 := hf.outs
  simp only [tx_Check.f]
  rw [many_eq, Option.bind_some]
  unfold ck
  by_cases c1 : mn t
  · rw [if_pos (decide_eq_true c1), if_pos c1]
  · rw [if_neg (by simp only [decide_eq_true_eq]; exact c1), if_neg c1, size_eq h hf, Option.bind_some]
    by_cases c2 : 4000 < (tb t).length
    · rw [if_pos (by omega), if_pos c2]
    · rw [if_neg (by omega), if_neg c2, contains_key _ (by omega), Option.bind_some]
      by_cases c3 : ∃ i ∈ t.Ins, 80 < i.Key.length
      · rw [if_pos (decide_eq_true c3), if_pos c3]
      · rw [if_neg (by simp only [decide_eq_true_eq]; exact c3), if_neg c3, txsum_eq h (by omega), Option.bind_some]
        by_cases c4 : (goSum 0 (vs t)).2 = false
        · rw [if_neg (by rw [c4]; decide), if_pos c4]
        · rw [if_pos (by simpa using c4), if_neg c4, twice_eq' t (by omega), Option.bind_some]
          by_cases c5 : ¬ (frs t).Nodup
          · rw [if_pos (decide_eq_true c5), if_pos c5]
          · rw [if_neg (by simp only [decide_eq_true_eq]; exact c5), if_neg c5, base1_eq t (by omega), Option.bind_some]
theorem ck_of {t : Tx} (h1 : ¬ mn t) (h2 : (tb t).length ≤ 4000) (h3 : ∀ i ∈ t.Ins, i.Key.length ≤ 80) (h4 : (goSum 0 (vs t)).2 = true) (h5 : (frs t).Nodup) : ck t = bs t := by
  unfold ck
  rw [if_neg h1, if_neg (by omega), if_neg (fun ⟨i, hi, h⟩ => by have := h3 i hi; omega), if_neg (by rw [h4]; decide), if_neg (fun h => h h5)]
theorem tb_small {t : Tx} (h : TxOk t) (h1 : t.Ins.length ≤ 10) (h2 : t.Outs.length ≤ 10) (h3 : ∀ i ∈ t.Ins, i.Key.length ≤ 80) : (tb t).length ≤ 4000 := by
  have k1 := flat_le ib 130 t.Ins fun i hi => by
    rw [ib_len (h.ins i hi)]
    have := (ln_le i.Key.length).2
    have := h3 i hi
    omega
  have k2 := outs_le h
  have k3 := (ln_le t.Ins.length).2
  have k4 := (ln_le t.Outs.length).2
  simp only [tb, List.length_append, lb_len, pt_len]
  omega
end Go.Proofs.YtlpggofilkfbnaaDoor.T
namespace Go.Proofs.YtlpggofilkfbnaaDoor.T
open Go Go.Proofs Go.Proofs.YtlpggofilkfbnaaDoor.K
set_option linter.unusedVariables false
set_option linter.unusedSimpArgs false
theorem basep_eq {t : Tx} (h : TxOk t) : sargassoref1_Base.f t = some (decide (isBase t)) := by
  simp only [sargassoref1_Base.f]
  by_cases c : t.Ins.length = 1
  · have hm := h.ins _ (getD_mem (l := t.Ins) (d := default) (i := 0) (by omega))
    rw [if_pos (by omega), if_pos (by omega), show Int.toNat 0 = 0 from rfl]
    simp only [sargassoref1_Null.f, Option.bind_some]
    rw [samepoint_eq _ _ hm.tx (by simp), Option.bind_some, Option.bind_some]
    exact congrArg some (decide_eq_decide.2 ⟨fun h => ⟨c, h⟩, fun h => h.2⟩)
  · rw [if_neg (by omega), Option.bind_some, decide_eq_false (fun h => c h.1)]
end Go.Proofs.YtlpggofilkfbnaaDoor.T
namespace Go.Proofs.YtlpggofilkfbnaaDoor.T
open Go Go.Proofs Go.Proofs.YtlpggofilkfbnaaDoor.K
set_option linter.unusedVariables false
set_option linter.unusedSimpArgs false
def idt (t : Tx) : List Int := sha (sha (tb t))
theorem idt_len (t : Tx) : (idt t).length = 32 := sha_len _
def T1 (h : Nat) (v : Int) (l e : List Int) : Tx := ⟨1, [⟨nullP, lb h 4 ++ e, 4294967295⟩], [⟨v, l⟩], 0⟩
theorem zB : Bs (List.replicate 32 0) := fun x hx => by
  obtain rfl : x = 0 := List.eq_of_mem_replicate hx
  simp [InR]
theorem T1_ok {h : Nat} {v : Int} {l e : List Int} (hv : InR .u64 v) (hl : l.length = 32) (lb_ : Bs l) (he : Bs e) : TxOk (T1 h v l e) := by
  refine ⟨by simp [T1, InR], fun i hi => ?_, fun o ho => ?_, by simp [T1, InR]⟩
  · obtain rfl := List.mem_singleton.1 hi
    exact ⟨by simp [nullP], zB, by simp [nullP, InR], (bs_lb _ _).app he, by simp [InR]⟩
  · obtain rfl := List.mem_singleton.1 ho
    exact ⟨hv, hl, lb_⟩
theorem T1_few {h : Nat} {v : Int} {l e : List Int} (he : e.length ≤ 90) : Few 60 100 (T1 h v l e) := by
  refine ⟨by simp [T1], by simp [T1], fun i hi => ?_⟩
  obtain rfl := List.mem_singleton.1 hi
  simp only [List.length_append, lb_len]; omega
theorem u32_nat (x : Int) : IntKind.u32.wrap x = (((IntKind.u32.wrap x).toNat : Nat) : Int) ∧ (IntKind.u32.wrap x).toNat < 4294967296 := nat4 (wrap_in _ _)
theorem first_eq (x0 x1 : Int) (x2 x3 : List Int) (h3 : x3.length ≤ 90) : block_First.f x0 x1 x2 x3 = some (T1 (IntKind.u32.wrap x0).toNat x1 x2 x3) := by
  obtain ⟨e, hl⟩ := u32_nat x0
  have h := four_eq [] _ hl (by simp)
  rw [← e] at h
  simp only [block_First.f]
  rw [h, Option.bind_some, concat_eq _ (by simp) (fun x hx => by
    have : x = [] ++ lb (IntKind.u32.wrap x0).toNat 4 ∨ x = x3 := by simpa using hx
    rcases this with rfl | rfl
    · simp [lb_len]
    · omega), Option.bind_some]
  simp [spend_Null.f, T1, nullP]
theorem id_eq {t : Tx} (h : TxOk t) (hf : Few 60 100 t) : tx_ID.f t = some (idt t) := by
  have n0 := tb_le h (hf.mono (by omega) (by omega))
  simp only [tx_ID.f]
  rw [tbytes_eq h (hf.mono (by omega) (by omega)), Option.bind_some, twice_eq _ (by omega), Option.bind_some]
  rfl
structure TsOk (l : List Tx) : Prop where
  n : l.length ≤ 1000
  ok : ∀ t ∈ l, TxOk t
  few : ∀ t ∈ l, Few 60 100 t
theorem ids_eq {b : Block} (h : TsOk b.Txs) : block_IDs.f b = some (b.Txs.map idt) := by
  have hn := h.n
  simp only [block_IDs.f]
  rw [show loopO (block_IDs.s0 b) ([], 0) = _ from loop_run (step := block_IDs.s0 b) (fun i => ((b.Txs.take i).map idt, (i : Int))) b.Txs.length (r := b.Txs.map idt) rfl (fun i hi => by
    have hm := getD_mem (l := b.Txs) (d := default) hi
    simp only [block_IDs.s0, Int.toNat_natCast]
    rw [if_pos (by omega), if_pos (by omega), id_eq (h.ok _ hm) (h.few _ hm), Option.bind_some, if_pos (by simp; omega), winc i (by omega), ← take_next b.Txs i default hi]
    simp) (by simp only [block_IDs.s0]; rw [if_neg (by omega), List.take_length])]
  rfl
theorem ids_hs (l : List Tx) : Hs (l.map idt) := fun x hx => by
  obtain ⟨t, _, rfl⟩ := List.mem_map.1 hx
  exact idt_len t
def rt (l : List Tx) : List Int := rootL (l.map idt)
theorem rt_len (l : List Tx) : (rt l).length = 32 := rootL_len _ (ids_hs l)
theorem broot_eq {b : Block} (h : TsOk b.Txs) : block_Root.f b = some (rt b.Txs) := by
  have hn := h.n
  simp only [block_Root.f]
  rw [ids_eq h, Option.bind_some, root_eq _ (ids_hs _) (by simp; omega), Option.bind_some]
  rfl
def tbs (l : List Tx) : List Int := (l.map tb).flatten
def bb (h : HN) (l : List Tx) : List Int := hb h ++ (pt l.length ++ tbs l)
theorem bbytes_eq {h : HN} (o : h.Ok) {l : List Tx} (k : TsOk l) : block_Bytes.f ⟨h.h, l⟩ = some (bb h l) := by
  have hn := k.n
  have hl := hb_len o
  have lp := (ln_le l.length).2
  have ht : ∀ t ∈ l, (tb t).length ≤ 210000 := fun t ht => tb_le (k.ok t ht) ((k.few t ht).mono (by omega) (by omega))
  simp only [block_Bytes.f]
  rw [hbytes_eq o, Option.bind_some, wu64 (by omega) (by omega), put_eq _ _ (by omega) (by omega), Option.bind_some, show loopO (block_Bytes.s0 ⟨h.h, l⟩) (hb h ++ pt l.length, 0) = _ from loop_run (step := block_Bytes.s0 ⟨h.h, l⟩) (fun i => (hb h ++ pt l.length ++ ((l.take i).map tb).flatten, (i : Int))) l.length (r := hb h ++ pt l.length ++ tbs l) (by simp) (fun i hi => by
    have hm := getD_mem (l := l) (d := default) hi
    have hb_ := take_few tb 210000 l ht i (by omega)
    have h2 := ht _ hm
    rw [flat_next tb l default i hi]
    simp only [block_Bytes.s0, Int.toNat_natCast]
    rw [if_pos (by omega), if_pos (by omega), tbytes_eq (k.ok _ hm) ((k.few _ hm).mono (by omega) (by omega)), Option.bind_some, if_pos (by simp only [List.length_append, pt_len]; omega), winc i (by omega)]
    simp only [List.append_assoc]) (by simp only [block_Bytes.s0]; rw [if_neg (by omega), List.take_length]; rfl), Option.bind_some]
  simp only [bb, List.append_assoc]
theorem bsize_eq {h : HN} (o : h.Ok) {l : List Tx} (k : TsOk l) : block_Size.f ⟨h.h, l⟩ = some ((bb h l).length : Int) := by
  simp only [block_Size.f]
  rw [bbytes_eq o k, Option.bind_some]
theorem hcheck_eq (h : HN) : head_Check.f h.h = some (if h.w = 0 ∨ 16777216 < h.w then xErrRange else .b 0) := by
  have hw : h.h.Work = (h.w : Int) := rfl
  simp only [head_Check.f]
  by_cases c1 : h.w = 0
  · rw [if_pos (show h.h.Work = 0 by omega), Option.bind_some, if_pos rfl, if_pos (.inl c1)]
  · rw [if_neg (show ¬ h.h.Work = 0 by omega), Option.bind_some]
    by_cases c2 : 16777216 < h.w
    · rw [if_pos (decide_eq_true (by omega)), if_pos (.inr c2)]
    · rw [if_neg (by simp only [decide_eq_true_eq]; omega), if_neg (by omega)]
theorem parts_ok {b : Block} (h : TsOk b.Txs) (h1 : ∀ i, i < b.Txs.length → ck (b.Txs.getD i default) = .b 0) (h2 : ∀ i, i < b.Txs.length → (isBase (b.Txs.getD i default) ↔ i = 0)) : block_parts.f b = some (.b 0) := by
  have hn := h.n
  simp only [block_parts.f]
  have e1 : loopO (block_parts.s1 b) 0 = some (.inr (.b 0)) := loop_run (step := block_parts.s1 b) (fun i => (i : Int)) b.Txs.length rfl (fun i hi => by
    simp only [block_parts.s1, Int.toNat_natCast]
    rw [if_pos (by omega), if_pos (by omega), base_eq, Option.bind_some, if_neg (fun h => h (decide_eq_decide.2 ((h2 i hi).trans (by omega)))), winc i (by omega)]) (by simp only [block_parts.s1]; rw [if_neg (by omega)])
  refine loop_run (step := block_parts.s0 b) (fun i => (i : Int)) b.Txs.length rfl (fun i hi => ?_) ?_
  · have hm := getD_mem (l := b.Txs) (d := default) hi
    simp only [block_parts.s0, Int.toNat_natCast]
    rw [if_pos (by omega), if_pos (by omega), check_eq (h.ok _ hm) (h.few _ hm), h1 i hi, Option.bind_some, if_neg (fun h => h rfl), winc i (by omega)]
  · simp only [block_parts.s0]
    rw [if_neg (by omega), e1]
theorem twice_one {b : Block} {t : Tx} (h : TsOk b.Txs) (e : b.Txs = [t]) (ht : t.Ins.length = 1) : block_twice.f b = some false := by
  simp only [block_twice.f]
  rw [ids_eq h, Option.bind_some, e]
  have hg : b.Txs.getD 0 default = t := by rw [e]; rfl
  have e1 : loopO (block_twice.s1 b [idt t] 0 []) (0, []) = some (.inl (1, mput [] (t.Ins.getD 0 default).From true, mput [] (idt t) true)) := by
    rw [loopO_inl (s' := (1, mput [] (t.Ins.getD 0 default).From true)) (by
      simp only [block_twice.s1]
      rw [show (0 : Int).toNat = 0 from rfl, hg, ht, if_pos (by omega), if_pos (by omega), if_neg (by simp [mget])]
      rfl), loopO_inr (by
      simp only [block_twice.s1]
      rw [show (0 : Int).toNat = 0 from rfl, hg, ht, if_neg (by omega)])]
    rfl
  show loopO (block_twice.s0 b [idt t]) (0, [], []) = some false
  rw [loopO_inl (s' := (1, mput [] (t.Ins.getD 0 default).From true, mput [] (idt t) true)) (by
    simp only [block_twice.s0]
    rw [if_pos (by simp), if_pos (by simp), if_neg (by simp [mget]), if_pos (by rw [e]; simp), e1]), loopO_inr (by
    simp only [block_twice.s0]
    rw [if_neg (by simp)])]
def T0 : Tx := T1 0 0 (sha []) []
def H0 : HN := ⟨1, List.replicate 32 0, rt [T0], 1000, 1, 0⟩
theorem sha_bs (m : List Int) : Bs (sha m) := (sha_arr m).2
theorem T0_ok : TxOk T0 := T1_ok (by simp [InR]) (sha_len _) (sha_bs _) bs_nil
theorem T0_few : Few 60 100 T0 := T1_few (by simp)
theorem Ts0 : TsOk [T0] := ⟨by simp, fun t ht => by obtain rfl := List.mem_singleton.1 ht; exact T0_ok, fun t ht => by obtain rfl := List.mem_singleton.1 ht; exact T0_few⟩
theorem H0_ok : H0.Ok := ⟨by decide, by simp [H0], show (rt [T0]).length = 32 from rt_len _, by decide, by decide, by decide⟩
theorem start_eq : block_Start.f = some ⟨H0.h, [T0]⟩ := by
  simp only [block_Start.f, spend_Lock.f]
  rw [sha_eq _ (by simp), Option.bind_some, Option.bind_some, first_eq _ _ _ _ (by simp), Option.bind_some, show T1 (IntKind.u32.wrap 0).toNat 0 (sha []) [] = T0 from rfl, broot_eq (b := ⟨⟨1, List.replicate 32 0, List.replicate 32 0, 1000, 1, 0⟩, [T0]⟩) Ts0, Option.bind_some]
  rfl
theorem T1_base (h : Nat) (v : Int) (l e : List Int) : isBase (T1 h v l e) := ⟨rfl, rfl⟩
theorem T1_tb {h : Nat} {v : Int} {l e : List Int} (ok : TxOk (T1 h v l e)) (he : e.length ≤ 76) : (tb (T1 h v l e)).length ≤ 4000 := tb_small ok (by simp [T1]) (by simp [T1]) fun i hi => by
  obtain rfl := List.mem_singleton.1 hi
  simp only [List.length_append, lb_len]; omega
theorem ck_T0 : ck T0 = .b 0 := by
  rw [ck_of (t := T0) (fun h => by
    have : T0.Ins.length = 0 ∨ 50 < T0.Ins.length ∨ T0.Outs.length = 0 ∨ 50 < T0.Outs.length := h
    simp [T0, T1] at this) (T1_tb T0_ok (by simp)) (fun i hi => by
    obtain rfl := List.mem_singleton.1 hi
    simp [lb_len]) (by simp [vs, T0, T1, goSum]) (by simp [frs, T0, T1])]
  unfold bs
  rw [if_pos (show isBase T0 from T1_base _ _ _ _), if_neg (by simp [T0, T1, lb_len])]
theorem bb0_len : (bb H0 [T0]).length ≤ 5000 := by
  have h1 := T1_tb T0_ok (by simp)
  have h2 : (tb T0).length ≤ 4000 := h1
  simp only [bb, tbs, List.length_append, hb_len H0_ok, pt_len, List.map_cons, List.map_nil, List.flatten_cons, List.flatten_nil, List.length_nil]
  have := (ln_le [T0].length).2
  omega
theorem check0 : block_Check.f ⟨H0.h, [T0]⟩ = some (.b 0) := by
  simp only [block_Check.f]
  rw [hcheck_eq, if_neg (by decide), Option.bind_some, if_neg (fun h => h rfl), if_neg (by simp), Option.bind_some, if_neg (by simp), bsize_eq H0_ok Ts0, Option.bind_some, if_neg (by have := bb0_len; omega), parts_ok (b := ⟨H0.h, [T0]⟩) Ts0 (fun i hi => by
    have hi : i < 1 := hi
    obtain rfl : i = 0 := by omega
    exact ck_T0) (fun i hi => by
    have hi : i < 1 := hi
    obtain rfl : i = 0 := by omega
    exact ⟨fun _ => rfl, fun _ => T1_base _ _ _ _⟩), Option.bind_some, if_neg (fun h => h rfl), twice_one (b := ⟨H0.h, [T0]⟩) Ts0 rfl rfl, Option.bind_some, if_neg (by decide), broot_eq (b := ⟨H0.h, [T0]⟩) Ts0, Option.bind_some, if_neg (fun h => h rfl)]
theorem first7 : sargassolaw7_first.f = some true := by
  simp only [sargassolaw7_first.f]
  rw [start_eq, Option.bind_some, check0, Option.bind_some, if_pos rfl, Option.bind_some, ids_eq (b := ⟨H0.h, [T0]⟩) Ts0]
  rfl
end Go.Proofs.YtlpggofilkfbnaaDoor.T
namespace Go.Proofs.YtlpggofilkfbnaaDoor.T
open Go Go.Proofs Go.Proofs.YtlpggofilkfbnaaDoor.K
set_option linter.unusedVariables false
set_option linter.unusedSimpArgs false
theorem or64 (a b : Nat) (ha : a < 4294967296) (hb : b < 4294967296) : bOr .i64 (a : Int) (b : Int) = ((a ||| b : Nat) : Int) := by
  unfold bOr
  have e1 : (BitVec.ofInt IntKind.i64.bits (a : Int)).toNat = a := bv_nat _ _ (by simp [IntKind.bits]; omega)
  have e2 : (BitVec.ofInt IntKind.i64.bits (b : Int)).toNat = b := bv_nat _ _ (by simp [IntKind.bits]; omega)
  rw [BitVec.toNat_or, e1, e2]
  have h : a ||| b < 2 ^ 32 := Nat.or_lt_two_pow ha hb
  exact w64 (by omega) (by omega)
theorem sl64 (a n : Nat) (ha : a < 256) (hn : n ≤ 24) : sL .i64 (a : Int) (n : Int) = ((2 ^ n * a : Nat) : Int) := by
  unfold sL
  rw [show min (n : Int).toNat IntKind.i64.bits = n by simp [IntKind.bits]; omega]
  have h1 : 2 ^ n ≤ 2 ^ 24 := Nat.pow_le_pow_right (by decide) hn
  have h2 : 2 ^ n * a ≤ 2 ^ 24 * 255 := Nat.mul_le_mul h1 (by omega)
  have e : (a : Int) * 2 ^ n = ((2 ^ n * a : Nat) : Int) := by push_cast; exact Int.mul_comm _ _
  rw [e]
  exact w64 (by omega) (by omega)
theorem or_sum (a b n : Nat) (h : b < 2 ^ n) : b ||| 2 ^ n * a = b + 2 ^ n * a := by
  rw [Nat.or_comm, ← Nat.two_pow_add_eq_or_of_lt h a, Nat.add_comm]
theorem num_back (h : Nat) (hh : h < 1048576) (e : List Int) : bOr .i64 (bOr .i64 (bOr .i64 (IntKind.i64.wrap ((lb h 4 ++ e).getD (0 : Int).toNat 0)) (sL .i64 (IntKind.i64.wrap ((lb h 4 ++ e).getD (1 : Int).toNat 0)) 8)) (sL .i64 (IntKind.i64.wrap ((lb h 4 ++ e).getD (2 : Int).toNat 0)) 16)) (sL .i64 (IntKind.i64.wrap ((lb h 4 ++ e).getD (3 : Int).toNat 0)) 24) = (h : Int) := by
  have g : ∀ j : Nat, j < 4 → (lb h 4 ++ e).getD j 0 = ((h / 2 ^ (8 * j) % 256 : Nat) : Int) := fun j hj => by
    have hl : j < (lb h 4).length := by rw [lb_len]; exact hj
    rw [gd _ _ (by rw [List.length_append]; omega), List.getElem_append_left hl]
    simp [lb]
  have g0 := g 0 (by omega)
  have g1 := g 1 (by omega)
  have g2 := g 2 (by omega)
  have g3 := g 3 (by omega)
  rw [show (0 : Int).toNat = 0 from rfl, show (1 : Int).toNat = 1 from rfl, show (2 : Int).toNat = 2 from rfl, show (3 : Int).toNat = 3 from rfl, g0, g1, g2, g3]
  have b0 : h / 2 ^ (8 * 0) % 256 < 256 := Nat.mod_lt _ (by decide)
  have b1 : h / 2 ^ (8 * 1) % 256 < 256 := Nat.mod_lt _ (by decide)
  have b2 : h / 2 ^ (8 * 2) % 256 < 256 := Nat.mod_lt _ (by decide)
  have b3 : h / 2 ^ (8 * 3) % 256 < 256 := Nat.mod_lt _ (by decide)
  have hsum : h / 2 ^ (8 * 0) % 256 + 2 ^ 8 * (h / 2 ^ (8 * 1) % 256) + 2 ^ 16 * (h / 2 ^ (8 * 2) % 256) + 2 ^ 24 * (h / 2 ^ (8 * 3) % 256) = h := by
    simp only [Nat.mul_zero, Nat.pow_zero, Nat.div_one, Nat.mul_one, show 2 ^ (8 * 1) = 256 from rfl, show 2 ^ (8 * 2) = 65536 from rfl, show 2 ^ (8 * 3) = 16777216 from rfl, show 2 ^ 8 = 256 from rfl, show 2 ^ 16 = 65536 from rfl, show 2 ^ 24 = 16777216 from rfl]
    omega
  generalize h / 2 ^ (8 * 0) % 256 = q0 at *
  generalize h / 2 ^ (8 * 1) % 256 = q1 at *
  generalize h / 2 ^ (8 * 2) % 256 = q2 at *
  generalize h / 2 ^ (8 * 3) % 256 = q3 at *
  have s1 := sl64 q1 8 b1 (by omega)
  have s2 := sl64 q2 16 b2 (by omega)
  have s3 := sl64 q3 24 b3 (by omega)
  rw [show ((8 : Nat) : Int) = 8 from rfl] at s1
  rw [show ((16 : Nat) : Int) = 16 from rfl] at s2
  rw [show ((24 : Nat) : Int) = 24 from rfl] at s3
  have p8 : (2 : Nat) ^ 8 = 256 := rfl
  have p16 : (2 : Nat) ^ 16 = 65536 := rfl
  have p24 : (2 : Nat) ^ 24 = 16777216 := rfl
  rw [w64 (x := (q0 : Int)) (by omega) (by omega), w64 (x := (q1 : Int)) (by omega) (by omega), w64 (x := (q2 : Int)) (by omega) (by omega), w64 (x := (q3 : Int)) (by omega) (by omega), s1, s2, s3,
    or64 _ _ (by omega) (by omega), or_sum q1 q0 8 (by omega), or64 _ _ (by omega) (by omega), or_sum q2 _ 16 (by omega), or64 _ _ (by omega) (by omega), or_sum q3 _ 24 (by omega), hsum]
theorem sargassolaw7_BlockStart.m (μ : Store) (x0 : Int) (h0 : InR .i64 x0) (x1 : List Int) (u1 : Value) (h1 : Slc (RI .u8) 1 μ u1 x1) : sargassolaw7_BlockStart.f x0 x1 = some true := by
  simp only [sargassolaw7_BlockStart.f]
  rw [first7, Option.bind_some, if_pos rfl]
  by_cases c : 70 < x1.length
  · rw [if_pos (by omega)]
  obtain ⟨y, ey, y0, y1⟩ := number_eq h0 (show (0 : Int) < 1048576 by omega) (by omega)
  obtain ⟨h, rfl⟩ : ∃ h : Nat, y = (h : Int) := ⟨y.toNat, by omega⟩
  have hL : ([3, 0, 0, 0, 0, 0, 0, 0, 0, 0, 0, 0, 0, 0, 0, 0, 0, 0, 0, 0, 0, 0, 0, 0, 0, 0, 0, 0, 0, 0, 0, 0] : List Int).length = 32 := rfl
  have hLb : Bs [3, 0, 0, 0, 0, 0, 0, 0, 0, 0, 0, 0, 0, 0, 0, 0, 0, 0, 0, 0, 0, 0, 0, 0, 0, 0, 0, 0, 0, 0, 0, 0] := fun x hx => by
    have : x = 3 ∨ x = 0 := by simpa using hx
    rcases this with rfl | rfl <;> simp [InR]
  have e32 : (IntKind.u32.wrap (h : Int)).toNat = h := by rw [wu32 (by omega) (by omega)]; omega
  rw [if_neg (by omega), ey, Option.bind_some, first_eq _ _ _ _ (by omega), Option.bind_some, e32, start_eq, Option.bind_some]
  generalize hLL : ([3, 0, 0, 0, 0, 0, 0, 0, 0, 0, 0, 0, 0, 0, 0, 0, 0, 0, 0, 0, 0, 0, 0, 0, 0, 0, 0, 0, 0, 0, 0, 0] : List Int) = L at hL hLb
  have ok : TxOk (T1 h 9 L x1) := T1_ok (by simp [InR]) hL hLb (fun x hx => slc_ints h1 x hx)
  have hI : (T1 h 9 L x1).Ins.length = 1 := rfl
  have hO : (T1 h 9 L x1).Outs.length = 1 := rfl
  have hK : ((T1 h 9 L x1).Ins.getD (0 : Int).toNat default).Key = lb h 4 ++ x1 := rfl
  have hV : ((T1 h 9 L x1).Outs.getD (0 : Int).toNat default).Value = 9 := rfl
  have hkl : (lb h 4 ++ x1).length = 4 + x1.length := by rw [List.length_append, lb_len]
  have hT : (⟨H0.h, [T0]⟩ : Block).Txs.length = 1 := rfl
  have hB : (⟨H0.h, [T0]⟩ : Block).Head.Time = 1000 := rfl
  have hid : block_ID.f ⟨H0.h, [T0]⟩ = some (sha (sha (hb H0))) := by
    simp only [block_ID.f]
    rw [hid_eq H0_ok, Option.bind_some]
  have hdr : ((lb h 4 ++ x1).take (((lb h 4 ++ x1).length : Int)).toNat).drop (4 : Int).toNat = x1 := by
    rw [Int.toNat_natCast, List.take_length, show (4 : Int).toNat = 4 from rfl, List.drop_append, List.drop_of_length_le (l := lb h 4) (by rw [lb_len]; omega), lb_len]
    rfl
  rw [hI, hO, hK, hV, hT, hB, num_back h (by omega) x1, hdr, w64 (x := 4 + (x1.length : Int)) (by omega) (by omega)]
  rw [if_neg (by omega), if_neg (by omega), if_pos (by omega), if_neg (by omega), Option.bind_some, if_neg (by decide), if_pos (by omega), if_pos (by omega), if_pos (by omega), if_pos (by omega), if_pos (by omega), if_pos rfl, if_pos rfl, if_pos (by omega), samebytes_eq _ (by omega), Option.bind_some, if_pos rfl, if_pos (by omega), if_pos rfl, basep_eq ok, decide_eq_true (T1_base _ _ _ _), Option.bind_some, if_pos rfl, check0, Option.bind_some, if_pos rfl, hid, Option.bind_some, Option.bind_some, hid, Option.bind_some, samehash_eq _ _ (sha_len _) (sha_len _), decide_eq_true rfl, Option.bind_some, if_pos rfl, if_pos rfl, bsize_eq H0_ok Ts0, Option.bind_some, bbytes_eq H0_ok Ts0, Option.bind_some, decide_eq_true rfl]
  rfl
end Go.Proofs.YtlpggofilkfbnaaDoor.T
namespace Go.Proofs.YtlpggofilkfbnaaDoor.K
open Go Go.Proofs Go.ChangeShapes Go.WideShapes Go.RowKit
def mem (w : World) : Store := fun k => w.heap[k]?
theorem agr_mem (w : World) : Agr (mem w) w := fun _ _ h => h
theorem mem_cell {w : World} {g i : Nat} {v : Value} (h : w.cell? ⟨g, i, none⟩ = some v) : (mem w).cell g i = some v := by
  unfold World.cell? at h
  unfold Store.cell mem
  cases hm : w.heap[g]? with
  | none => simp [hm] at h
  | some o => cases o <;> simp_all
theorem wf_in {k : IntKind} {n : Int} (h : (Lit.int k n).wf = true) : InR k n := by
  cases k <;> simp [Lit.wf, IntKind.min, IntKind.max, IntKind.signed, IntKind.bits] at h <;> simp [InR] <;> omega
section
variable {H : Type} {enc : TypeId × Value → H} {P : Program} {w : World} {base : Nat} {spare : Nat → Bool} {held : Bool} {t e : TypeId}
def Rd (enc : TypeId × Value → H) (P : Program) (w : World) (base : Nat) (spare : Nat → Bool) (held : Bool) (t : TypeId) (R : List Value → Prop) : Prop :=
  ∀ fuel cs x, DataW.trod enc P w base spare held fuel t cs = some x → R cs
theorem rd_int {k : IntKind} (ht : P.underlying t = some (.int k)) : Rd enc P w base spare held t (fun c => ∃ n, RI k n c) := by
  intro fuel cs x h
  obtain ⟨n, rfl, _, hw⟩ := DataW.trod_int ht h
  exact ⟨n, rfl, wf_in hw⟩
theorem els_of {α : Type} {RE : α → List Value → Prop} {sz : Nat} : ∀ {n : Nat} {Q : Nat → Value → Prop}, (∀ i, i < n → ∃ x c, RE x c ∧ c.length = sz ∧ ∀ j v, c[j]? = some v → Q (i * sz + j) v) →
    ∃ xs cs, xs.length = n ∧ Els RE sz xs cs ∧ ∀ j v, cs[j]? = some v → Q j v
  | 0, _, _ => ⟨[], [], rfl, .nil, fun j v h => by simp at h⟩
  | n + 1, Q, f => by
    obtain ⟨x, c, h1, h2, h3⟩ := f 0 (by omega)
    obtain ⟨xs, cs, e1, e2, e3⟩ := els_of (n := n) (Q := fun m v => Q (sz + m) v) (fun i hi => by
      obtain ⟨x, c, h1, h2, h3⟩ := f (i + 1) (by omega)
      refine ⟨x, c, h1, h2, fun j v hj => ?_⟩
      have := h3 j v hj
      rwa [Nat.add_mul, Nat.one_mul, Nat.add_comm (i * sz), Nat.add_assoc] at this)
    refine ⟨x :: xs, c ++ cs, by simp [e1], .cons h1 h2 e2, fun j v hj => ?_⟩
    rcases Nat.lt_or_ge j c.length with h | h
    · rw [List.getElem?_append_left h] at hj
      simpa using h3 j v hj
    · rw [List.getElem?_append_right h] at hj
      have := e3 _ _ hj
      rwa [h2, Nat.add_sub_cancel' (by omega)] at this
theorem rd_slice {α : Type} {RE : α → List Value → Prop} {sz : Nat} (ht : P.underlying t = some (.slice e)) (hc : P.cellsOf e = sz) (h0 : 0 < sz) (hr : Rd enc P w base spare held e (fun c => ∃ x, RE x c)) :
    Rd enc P w base spare held t (fun c => ∃ v xs, c = [v] ∧ Slc RE sz (mem w) v xs) := by
  intro fuel cs x h
  rcases DataW.trod_slice ht h with ⟨rfl, _⟩ | ⟨a, len, cap, elems, rest, n, _, rfl, _, _, hl, hm, hlen, hel, _, _⟩
  · exact ⟨_, [], rfl, [], .nil, none, 0, rfl, Nat.le_refl _, Nat.zero_le _, fun h => absurd rfl h, fun h => absurd rfl h⟩
  have each0 : ∀ i, i < len → ∃ x c, RE x c ∧ c.length = sz ∧ ∀ j, j < sz → w.cell? ((a.add (i * sz)).add j) = c[j]? := by
    intro i hi
    have h1 := hel i hi
    rw [List.getElem?_eq_getElem (by omega), hc] at h1
    obtain ⟨c, hc1, hc2⟩ := Option.bind_eq_some_iff.1 h1
    obtain ⟨_, l1, l2⟩ := World.cells?_some hc1
    obtain ⟨x, hx⟩ := hr _ _ _ hc2
    exact ⟨x, c, hx, l1, l2⟩
  have hs : 0 < len → a.spot = none := by
    intro hp
    obtain ⟨x, c, _, l1, l2⟩ := each0 0 hp
    have h2 := (l2 0 h0).trans (List.getElem?_eq_getElem (by omega))
    simpa [Addr.add] using World.cell?_spot h2
  obtain ⟨b, off, spot⟩ := a
  simp only at hs
  have each : ∀ i, i < len → ∃ x c, RE x c ∧ c.length = sz ∧ ∀ j v, c[j]? = some v → (fun m v => w.cell? ⟨b, off + m, none⟩ = some v) (i * sz + j) v := by
    intro i hi
    obtain ⟨x, c, hx, l1, l2⟩ := each0 i hi
    refine ⟨x, c, hx, l1, fun j v hj => ?_⟩
    have hjl : j < sz := by
      have := (List.getElem?_eq_some_iff.1 hj).1
      omega
    have h2 := (l2 j hjl).trans hj
    rw [hs (by omega), add_plain, add_plain] at h2
    simpa [Nat.add_assoc] using h2
  obtain ⟨xs, cs, e1, e2, e3⟩ := els_of (RE := RE) (sz := sz) (Q := fun m v => w.cell? ⟨b, off + m, none⟩ = some v) each
  refine ⟨_, xs, rfl, cs, e2, some ⟨b, off, spot⟩, cap, by rw [e1], by omega, hm, fun hn => by rw [hs (by omega)]; rfl, fun hn j v hj => mem_cell (e3 j v hj)⟩
theorem rd_at {R : List Value → Prop} {v : Value} {d : DataW H} {ps : List MemPlace} (hr : Rd enc P w base spare held t R) (h : DataW.Trod enc P w base spare held t v d ps) : R v.cells.toList := by
  obtain ⟨fuel, hf⟩ := h
  exact hr _ _ _ hf
theorem at_slice {α : Type} {RE : α → List Value → Prop} {sz : Nat} {r : Reach} {b0 : Nat} {v : Value} {d : DataW H} {ps : List MemPlace} (ht : P.underlying t = some (.slice e)) (hval : Value.okWide P w r b0 t v)
    (hr : Rd enc P w base spare held t (fun c => ∃ v xs, c = [v] ∧ Slc RE sz (mem w) v xs)) (h : DataW.Trod enc P w base spare held t v d ps) : ∃ xs, Slc RE sz (mem w) v xs := by
  obtain ⟨a, len, cap, rfl⟩ := okWide_slice ht hval
  obtain ⟨u, xs, e1, h2⟩ := rd_at hr h
  simp [Value.cells] at e1
  subst e1
  exact ⟨xs, h2⟩
theorem again {W W' : World} {v : Value} {d : DataW H} {ps : List MemPlace} (hl : laidOutB P = true) (hr : P.readableRec t = true) (hrow : t < P.types.size) (h : DataW.Trod enc P W 0 (fun _ => true) true t v d ps) (hb : Below W.heap.size W W') :
    DataW.Trod enc P W' 0 (fun b => decide (b < W.heap.size)) true t v d ps :=
  Below.trod hl hr hrow h hb (fun p hp => let ⟨n, hn⟩ := h; DataW.trod_lt n _ _ _ hn p hp)
end
end Go.Proofs.YtlpggofilkfbnaaDoor.K
namespace Go.Proofs.YtlpggofilkfbnaaDoor.K
open Go Go.Proofs
set_option linter.unusedVariables false
theorem laid_each {P : Program} {W : World} : ∀ {l : List (String × DataW Unit)} {ps : List MemPlace}, DataW.LaidVars P W l ps → ∀ {n : String} {d : DataW Unit}, (n, d) ∈ l →
    ∃ g t cs fuel p, P.globalNamed n = some g ∧ (P.globals[g]?).map (·.type) = some t ∧ W.var? P n = some cs ∧ DataW.trod (fun _ => ()) P W 0 (fun _ => true) false fuel t cs.toList = some (d, p) ∧ ∀ x ∈ MemPlace.row ⟨g, 0, none⟩ cs.size ++ p, x ∈ ps
  | [], ps, h, n, d, hm => by cases hm
  | (m, e) :: r, ps, h, n, d, hm => by
    obtain ⟨g, t, cs, fuel, p, q, hg, ht, hv, hd, hr, rfl⟩ := h
    rcases List.mem_cons.1 hm with e1 | hm
    · cases e1
      exact ⟨g, t, cs, fuel, p, hg, ht, hv, hd, fun x hx => List.mem_append_left _ hx⟩
    · obtain ⟨g', t', cs', fuel', p', a1, a2, a3, a4, a5⟩ := laid_each hr hm
      exact ⟨g', t', cs', fuel', p', a1, a2, a3, a4, fun x hx => List.mem_append_right _ (a5 x hx)⟩
theorem sent_of_laid {P : Program} {W : World} {laid : List (String × DataW Unit)} {code : ByteArray → Nat} {n : String} {text : List UInt8} {g : Nat} {ti tp ta te ts : TypeId} {ms : Array (String × TypeId)} {f : Field}
    (h : laidMet P laid W) (hm : (n, .iface "*errors.errorString" (.ptr (.agg [.lit (.string text)]))) ∈ laid) (hg : P.globalNamed n = some g) (ht : (P.globals[g]?).map (·.type) = some ti)
    (hi : P.underlying ti = some (.interface ms)) (hrow : ∀ u, P.typeName? 3 u = some "*errors.errorString" → u = tp) (hp : P.underlying tp = some (.pointer te)) (he : P.underlying te = some (.struct #[f])) (hft : f.type = ts) (hfo : f.offset = 0) (hs : P.underlying ts = some .string) (hc : P.cellsOf te = 1) (hcs : P.cellsOf ts = 1)
    (hcode : ∀ s : ByteArray, s.data.toList = text → code s = g + 1) : ∃ v, ErV tp ta code (mem W) (.b (g + 1)) v := by
  obtain ⟨ps, hl, hnd, hrows⟩ := h
  obtain ⟨g', t', cs, fuel, p, a1, a2, a3, a4, a5⟩ := laid_each hl hm
  obtain rfl := Option.some.inj (hg.symm.trans a1)
  obtain rfl := Option.some.inj (ht.symm.trans a2)
  obtain ⟨l⟩ := cs
  have ok : ∀ u v, l = [.iface u v] → Value.okWide P W .any 0 u v := fun u v e => by
    subst e
    exact (hrows g 0 (a5 _ (by simp [MemPlace.row]))).2 u v (by simpa using World.var?_cell hg a3 0)
  obtain ⟨a, s, rfl, hcell, hst, hz, rfl⟩ := errorString_of_trod hi hrow hp he hft hfo hs hc hcs a4 ok
  obtain ⟨c, t, hb⟩ := (hrows a.block a.off (a5 _ (by simp [MemPlace.row]))).1
  refine ⟨.iface tp (.pointer (some a)), .inr ⟨by omega, mem_cell (by simpa using World.var?_cell hg a3 0), a, s, c, t, rfl, hb, hcode s hst, fun w hw => ?_⟩⟩
  have e : w.heap[a.block]? = W.heap[a.block]? := (hw _ _ hb).trans hb.symm
  unfold World.cell? at hcell ⊢
  rw [e]
  exact hcell
end Go.Proofs.YtlpggofilkfbnaaDoor.K
namespace Go.Proofs.YtlpggofilkfbnaaDoor.T
open Go Go.Proofs Go.Proofs.YtlpggofilkfbnaaDoor.K
set_option linter.unusedVariables false
set_option linter.unusedSimpArgs false
set_option maxRecDepth 100000
theorem own : ownKnob Tryd.prog.godebug = none := by kernel_rfl
noncomputable def low : Nat := (World.holding Tryd.prog default ⟨#[], #[], []⟩).heap.size
abbrev es0 : ByteArray := { data := #[116, 111, 111, 32, 109, 97, 110, 121, 44, 32, 111, 114, 32, 116, 111, 111, 32, 102, 101, 119] }
abbrev es1 : ByteArray := { data := #[116, 111, 111, 32, 108, 111, 110, 103] }
abbrev es2 : ByteArray := { data := #[111, 110, 101, 32, 116, 104, 105, 110, 103, 32, 116, 119, 105, 99, 101] }
abbrev es3 : ByteArray := { data := #[97, 32, 114, 111, 111, 116, 32, 116, 104, 97, 116, 32, 100, 111, 101, 115, 32, 110, 111, 116, 32, 102, 105, 116] }
abbrev es4 : ByteArray := { data := #[110, 111, 116, 32, 97, 115, 32, 105, 116, 32, 104, 97, 115, 32, 116, 111, 32, 98, 101] }
abbrev es5 : ByteArray := { data := #[97, 32, 110, 117, 109, 98, 101, 114, 32, 111, 117, 116, 32, 111, 102, 32, 105, 116, 115, 32, 114, 97, 110, 103, 101] }
abbrev es6 : ByteArray := { data := #[110, 111, 32, 102, 105, 114, 115, 116, 32, 116, 114, 97, 110, 115, 97, 99, 116, 105, 111, 110, 32, 119, 104, 101, 114, 101, 32, 116, 104, 101, 114, 101, 32, 104, 97, 115, 32, 116, 111, 32, 98, 101, 32, 111, 110, 101, 44, 32, 111, 114, 32, 111, 110, 101, 32, 119, 104, 101, 114, 101, 32, 116, 104, 101, 114, 101, 32, 109, 97, 121, 32, 98, 101, 32, 110, 111, 110, 101] }
abbrev es7 : ByteArray := { data := #[97, 32, 107, 101, 121, 32, 116, 104, 97, 116, 32, 100, 111, 101, 115, 32, 110, 111, 116, 32, 102, 105, 116] }
abbrev es8 : ByteArray := { data := #[97, 110, 32, 97, 109, 111, 117, 110, 116, 32, 116, 104, 97, 116, 32, 99, 97, 110, 39, 116, 32, 98, 101] }
abbrev es9 : ByteArray := { data := #[105, 116, 32, 101, 110, 100, 115, 32, 116, 111, 111, 32, 101, 97, 114, 108, 121] }
abbrev es10 : ByteArray := { data := #[107, 110, 111, 119, 110, 32, 97, 108, 114, 101, 97, 100, 121] }
abbrev es11 : ByteArray := { data := #[110, 111, 32, 115, 117, 99, 104, 32, 112, 97, 114, 101, 110, 116] }
abbrev es12 : ByteArray := { data := #[98, 101, 104, 105, 110, 100, 32, 119, 104, 97, 116, 32, 105, 115, 32, 110, 111, 116, 32, 118, 97, 108, 105, 100] }
abbrev es13 : ByteArray := { data := #[97, 32, 116, 105, 109, 101, 32, 116, 104, 97, 116, 32, 105, 115, 32, 116, 111, 111, 32, 101, 97, 114, 108, 121] }
abbrev es14 : ByteArray := { data := #[97, 32, 99, 111, 105, 110, 32, 116, 104, 97, 116, 32, 105, 115, 32, 110, 111, 116, 32, 116, 104, 101, 114, 101] }
abbrev es15 : ByteArray := { data := #[97, 32, 99, 111, 105, 110, 32, 116, 104, 97, 116, 32, 105, 115, 32, 116, 111, 111, 32, 121, 111, 117, 110, 103] }
abbrev es16 : ByteArray := { data := #[116, 111, 111, 32, 101, 97, 114, 108, 121, 32, 116, 111, 32, 98, 101, 32, 116, 97, 107, 101, 110] }
abbrev es17 : ByteArray := { data := #[108, 101, 115, 115, 32, 99, 111, 109, 101, 115, 32, 105, 110, 32, 116, 104, 97, 110, 32, 103, 111, 101, 115, 32, 111, 117, 116] }
abbrev es18 : ByteArray := { data := #[109, 111, 114, 101, 32, 116, 104, 97, 110, 32, 116, 104, 101, 32, 114, 101, 119, 97, 114, 100] }
abbrev es19 : ByteArray := { data := #[97, 32, 99, 111, 105, 110, 32, 116, 104, 97, 116, 32, 105, 115, 32, 115, 112, 101, 110, 116, 32, 105, 110, 32, 116, 104, 101, 32, 112, 111, 111, 108] }
abbrev es20 : ByteArray := { data := #[116, 111, 111, 32, 109, 97, 110, 121, 32, 116, 104, 97, 116, 32, 104, 97, 110, 103, 32, 116, 111, 103, 101, 116, 104, 101, 114] }
abbrev es21 : ByteArray := { data := #[116, 104, 101, 114, 101, 32, 105, 115, 32, 110, 111, 32, 114, 111, 111, 109] }
abbrev es22 : ByteArray := { data := #[116, 104, 101, 114, 101, 32, 105, 115, 32, 110, 111, 110, 101] }
abbrev es23 : ByteArray := { data := #[110, 111, 32, 115, 117, 99, 104, 32, 119, 111, 114, 100] }
abbrev es24 : ByteArray := { data := #[110, 111, 116, 32, 97, 32, 110, 117, 109, 98, 101, 114] }
def setC (v : Value) : Obj → Obj
  | .cells _ t frozen => .cells #[v] t frozen
  | x => x
noncomputable def laidWorld (os : Os) : World :=
  let w0 := World.holding Tryd.prog os ⟨#[.cells #[.string es0] 170, .cells #[.string es1] 170, .cells #[.string es2] 170, .cells #[.string es3] 170, .cells #[.string es4] 170, .cells #[.string es5] 170, .cells #[.string es6] 170, .cells #[.string es7] 170, .cells #[.string es8] 170, .cells #[.string es9] 170, .cells #[.string es10] 170, .cells #[.string es11] 170, .cells #[.string es12] 170, .cells #[.string es13] 170, .cells #[.string es14] 170, .cells #[.string es15] 170, .cells #[.string es16] 170, .cells #[.string es17] 170, .cells #[.string es18] 170, .cells #[.string es19] 170, .cells #[.string es20] 170, .cells #[.string es21] 170, .cells #[.string es22] 170, .cells #[.string es23] 170, .cells #[.string es24] 170], #[], []⟩
  { w0 with heap := (((((((((((((((((((((((((w0.heap.modify 0 (setC (.iface 153 (.pointer (some ⟨low + 0, 0, none⟩))))).modify 1 (setC (.iface 153 (.pointer (some ⟨low + 1, 0, none⟩))))).modify 2 (setC (.iface 153 (.pointer (some ⟨low + 2, 0, none⟩))))).modify 3 (setC (.iface 153 (.pointer (some ⟨low + 3, 0, none⟩))))).modify 4 (setC (.iface 153 (.pointer (some ⟨low + 4, 0, none⟩))))).modify 5 (setC (.iface 153 (.pointer (some ⟨low + 5, 0, none⟩))))).modify 6 (setC (.iface 153 (.pointer (some ⟨low + 6, 0, none⟩))))).modify 7 (setC (.iface 153 (.pointer (some ⟨low + 7, 0, none⟩))))).modify 8 (setC (.iface 153 (.pointer (some ⟨low + 8, 0, none⟩))))).modify 9 (setC (.iface 153 (.pointer (some ⟨low + 9, 0, none⟩))))).modify 10 (setC (.iface 153 (.pointer (some ⟨low + 10, 0, none⟩))))).modify 11 (setC (.iface 153 (.pointer (some ⟨low + 11, 0, none⟩))))).modify 12 (setC (.iface 153 (.pointer (some ⟨low + 12, 0, none⟩))))).modify 13 (setC (.iface 153 (.pointer (some ⟨low + 13, 0, none⟩))))).modify 14 (setC (.iface 153 (.pointer (some ⟨low + 14, 0, none⟩))))).modify 15 (setC (.iface 153 (.pointer (some ⟨low + 15, 0, none⟩))))).modify 16 (setC (.iface 153 (.pointer (some ⟨low + 16, 0, none⟩))))).modify 17 (setC (.iface 153 (.pointer (some ⟨low + 17, 0, none⟩))))).modify 18 (setC (.iface 153 (.pointer (some ⟨low + 18, 0, none⟩))))).modify 19 (setC (.iface 153 (.pointer (some ⟨low + 19, 0, none⟩))))).modify 20 (setC (.iface 153 (.pointer (some ⟨low + 20, 0, none⟩))))).modify 21 (setC (.iface 153 (.pointer (some ⟨low + 21, 0, none⟩))))).modify 22 (setC (.iface 153 (.pointer (some ⟨low + 22, 0, none⟩))))).modify 23 (setC (.iface 153 (.pointer (some ⟨low + 23, 0, none⟩))))).modify 24 (setC (.iface 153 (.pointer (some ⟨low + 24, 0, none⟩))))) }
theorem starE : "*" ++ "errors.errorString" = "*errors.errorString" := by decide
theorem rowE (u : TypeId) (h : Tryd.prog.typeName? 3 u = some "*errors.errorString") : u = 153 :=
  typeName_ptr_named (nm := "errors.errorString") (by rw [starE]; kernel_rfl) (by kernel_rfl) (by decide) u (by rw [starE]; exact h)
theorem ceE : Tryd.prog.cellsOf 170 = 1 := by kernel_rfl
theorem csE : Tryd.prog.cellsOf 9 = 1 := by kernel_rfl
theorem sent0 {W : World} {l : List (String × DataW Unit)} (h : laidMet Tryd.prog l W) (hm : ("sargasso/api.ErrMany", .iface "*errors.errorString" (.ptr (.agg [.lit (.string [116, 111, 111, 32, 109, 97, 110, 121, 44, 32, 111, 114, 32, 116, 111, 111, 32, 102, 101, 119])]))) ∈ l) : ∃ v, ErS (mem W) v (Er.b 1) :=
  sent_of_laid h hm (by kernel_rfl) (by kernel_rfl) Tryd.underlying51 rowE Tryd.underlying153 Tryd.underlying170 rfl rfl Tryd.underlying9 ceE csE (fun s hs => by unfold errCode; rw [hs]; kernel_rfl)
theorem sent1 {W : World} {l : List (String × DataW Unit)} (h : laidMet Tryd.prog l W) (hm : ("sargasso/api.ErrLong", .iface "*errors.errorString" (.ptr (.agg [.lit (.string [116, 111, 111, 32, 108, 111, 110, 103])]))) ∈ l) : ∃ v, ErS (mem W) v (Er.b 2) :=
  sent_of_laid h hm (by kernel_rfl) (by kernel_rfl) Tryd.underlying51 rowE Tryd.underlying153 Tryd.underlying170 rfl rfl Tryd.underlying9 ceE csE (fun s hs => by unfold errCode; rw [hs]; kernel_rfl)
theorem sent2 {W : World} {l : List (String × DataW Unit)} (h : laidMet Tryd.prog l W) (hm : ("sargasso/api.ErrTwice", .iface "*errors.errorString" (.ptr (.agg [.lit (.string [111, 110, 101, 32, 116, 104, 105, 110, 103, 32, 116, 119, 105, 99, 101])]))) ∈ l) : ∃ v, ErS (mem W) v (Er.b 3) :=
  sent_of_laid h hm (by kernel_rfl) (by kernel_rfl) Tryd.underlying51 rowE Tryd.underlying153 Tryd.underlying170 rfl rfl Tryd.underlying9 ceE csE (fun s hs => by unfold errCode; rw [hs]; kernel_rfl)
theorem sent3 {W : World} {l : List (String × DataW Unit)} (h : laidMet Tryd.prog l W) (hm : ("sargasso/api.ErrRoot", .iface "*errors.errorString" (.ptr (.agg [.lit (.string [97, 32, 114, 111, 111, 116, 32, 116, 104, 97, 116, 32, 100, 111, 101, 115, 32, 110, 111, 116, 32, 102, 105, 116])]))) ∈ l) : ∃ v, ErS (mem W) v (Er.b 4) :=
  sent_of_laid h hm (by kernel_rfl) (by kernel_rfl) Tryd.underlying51 rowE Tryd.underlying153 Tryd.underlying170 rfl rfl Tryd.underlying9 ceE csE (fun s hs => by unfold errCode; rw [hs]; kernel_rfl)
theorem sent5 {W : World} {l : List (String × DataW Unit)} (h : laidMet Tryd.prog l W) (hm : ("sargasso/api.ErrRange", .iface "*errors.errorString" (.ptr (.agg [.lit (.string [97, 32, 110, 117, 109, 98, 101, 114, 32, 111, 117, 116, 32, 111, 102, 32, 105, 116, 115, 32, 114, 97, 110, 103, 101])]))) ∈ l) : ∃ v, ErS (mem W) v (Er.b 6) :=
  sent_of_laid h hm (by kernel_rfl) (by kernel_rfl) Tryd.underlying51 rowE Tryd.underlying153 Tryd.underlying170 rfl rfl Tryd.underlying9 ceE csE (fun s hs => by unfold errCode; rw [hs]; kernel_rfl)
theorem sent6 {W : World} {l : List (String × DataW Unit)} (h : laidMet Tryd.prog l W) (hm : ("sargasso/api.ErrBase", .iface "*errors.errorString" (.ptr (.agg [.lit (.string [110, 111, 32, 102, 105, 114, 115, 116, 32, 116, 114, 97, 110, 115, 97, 99, 116, 105, 111, 110, 32, 119, 104, 101, 114, 101, 32, 116, 104, 101, 114, 101, 32, 104, 97, 115, 32, 116, 111, 32, 98, 101, 32, 111, 110, 101, 44, 32, 111, 114, 32, 111, 110, 101, 32, 119, 104, 101, 114, 101, 32, 116, 104, 101, 114, 101, 32, 109, 97, 121, 32, 98, 101, 32, 110, 111, 110, 101])]))) ∈ l) : ∃ v, ErS (mem W) v (Er.b 7) :=
  sent_of_laid h hm (by kernel_rfl) (by kernel_rfl) Tryd.underlying51 rowE Tryd.underlying153 Tryd.underlying170 rfl rfl Tryd.underlying9 ceE csE (fun s hs => by unfold errCode; rw [hs]; kernel_rfl)
theorem sent7 {W : World} {l : List (String × DataW Unit)} (h : laidMet Tryd.prog l W) (hm : ("sargasso/api.ErrKey", .iface "*errors.errorString" (.ptr (.agg [.lit (.string [97, 32, 107, 101, 121, 32, 116, 104, 97, 116, 32, 100, 111, 101, 115, 32, 110, 111, 116, 32, 102, 105, 116])]))) ∈ l) : ∃ v, ErS (mem W) v (Er.b 8) :=
  sent_of_laid h hm (by kernel_rfl) (by kernel_rfl) Tryd.underlying51 rowE Tryd.underlying153 Tryd.underlying170 rfl rfl Tryd.underlying9 ceE csE (fun s hs => by unfold errCode; rw [hs]; kernel_rfl)
theorem sent8 {W : World} {l : List (String × DataW Unit)} (h : laidMet Tryd.prog l W) (hm : ("sargasso/api.ErrValue", .iface "*errors.errorString" (.ptr (.agg [.lit (.string [97, 110, 32, 97, 109, 111, 117, 110, 116, 32, 116, 104, 97, 116, 32, 99, 97, 110, 39, 116, 32, 98, 101])]))) ∈ l) : ∃ v, ErS (mem W) v (Er.b 9) :=
  sent_of_laid h hm (by kernel_rfl) (by kernel_rfl) Tryd.underlying51 rowE Tryd.underlying153 Tryd.underlying170 rfl rfl Tryd.underlying9 ceE csE (fun s hs => by unfold errCode; rw [hs]; kernel_rfl)
end Go.Proofs.YtlpggofilkfbnaaDoor.T
namespace Go.Proofs.YtlpggofilkfbnaaDoor.T
open Go Go.Proofs Go.Proofs.YtlpggofilkfbnaaDoor.K
set_option linter.unusedVariables false
set_option linter.unusedSimpArgs false
theorem laid : laidOutB Tryd.prog = true := by kernel_rfl
theorem rr3 : Tryd.prog.readableRec 3 = true := by kernel_rfl
theorem tr3 : 3 < Tryd.prog.types.size := of_decide_eq_true (by kernel_rfl)
theorem cl5 : Tryd.prog.cellsOf 5 = 1 := by kernel_rfl
theorem rr25 : Tryd.prog.readableRec 25 = true := by kernel_rfl
theorem tr25 : 25 < Tryd.prog.types.size := of_decide_eq_true (by kernel_rfl)
section
variable {H : Type} {enc : TypeId × Value → H} {w : World} {base : Nat} {spare : Nat → Bool} {held : Bool}
theorem rd5 : Rd enc Tryd.prog w base spare held 5 (fun c => ∃ n, RI .u8 n c) := rd_int Tryd.underlying5
theorem rd25 : Rd enc Tryd.prog w base spare held 25 (fun c => ∃ v xs, c = [v] ∧ Slc (RI .u8) 1 (mem w) v xs) := rd_slice Tryd.underlying25 cl5 (by decide) rd5
end
end Go.Proofs.YtlpggofilkfbnaaDoor.T
namespace Go.Proofs.YtlpggofilkfbnaaDoor.J
open Go Go.Proofs
theorem words_cons : ∀ (w r : List Char), w.all (· != ' ') = true → wordsSigns (w ++ ' ' :: r) = w :: wordsSigns r
  | [], r, _ => rfl
  | c :: w, r, h => by
    simp only [List.all_cons, Bool.and_eq_true, bne_iff_ne, ne_eq] at h
    have ih := words_cons w r h.2
    rw [List.cons_append, wordsSigns, ih]
    exact fun e => h.1 e
set_option maxRecDepth 100000
def w0 : List Char := ['h', 'a', 'r', 'n', 'e', 's', 's']
def w1 : List Char := ['5', '7', '0', '0', '8', '4', 'c', '9', '6', '4', 'd', '7', '5', '7', 'c', 'b', '9', 'c', 'f', '3', 'c', 'a', '2', '2', 'c', '3', 'b', '2', '1', '9', '2', 'b', 'b', '7', '5', '5', '1', '1', '7', 'f', '7', '5', 'e', '0', '5', '7', '2', '4', 'e', '6', 'f', '1', '7', '4', '5', '3', '1', 'd', '1', 'b', 'c', 'd', '2', '4']
def w2 : List Char := ['c', 'u', 't']
def w3 : List Char := ['a', 't', ' ', 's', 'a', 'r', 'g', 'a', 's', 's', 'o', '/', 's', 'a', 'r', 'g', 'a', 's', 's', 'o', 'l', 'a', 'w', '7', '.', 'B', 'l', 'o', 'c', 'k', 'F', 'i', 'r', 's', 't', ' ', 's', 'a', 'r', 'g', 'a', 's', 's', 'o', '/', 's', 'a', 'r', 'g', 'a', 's', 's', 'o', 'l', 'a', 'w', '7', '.', 'B', 'l', 'o', 'c', 'k', 'K', 'i', 'n', 'd', 's', ' ', 's', 'a', 'r', 'g', 'a', 's', 's', 'o', '/', 's', 'a', 'r', 'g', 'a', 's', 's', 'o', 'l', 'a', 'w', '7', '.', 'B', 'l', 'o', 'c', 'k', 'S', 't', 'a', 'r', 't', ' ', 's', 'a', 'r', 'g', 'a', 's', 's', 'o', '/', 's', 'a', 'r', 'g', 'a', 's', 's', 'o', 'l', 'a', 'w', '7', '.', 'B', 'l', 'o', 'c', 'k', 'B', 'a', 'c', 'k']
theorem io0 : Tryd.prog.initOrder = String.ofList (w0 ++ ' ' :: (w1 ++ ' ' :: (w2 ++ ' ' :: w3))) := by kernel_rfl
theorem io : Tryd.prog.initOrder.toList = w0 ++ ' ' :: (w1 ++ ' ' :: (w2 ++ ' ' :: w3)) := (congrArg String.toList io0).trans String.toList_ofList
theorem ws : wordsSigns Tryd.prog.initOrder.toList = w0 :: w1 :: w2 :: wordsSigns w3 := by
  rw [io, words_cons _ _ (by kernel_rfl), words_cons _ _ (by kernel_rfl), words_cons _ _ (by kernel_rfl)]
theorem bm (R : List (List Char)) : behindMainWord (w0 :: w1 :: w2 :: R) = w2 :: R := by kernel_rfl
theorem main_of {P : Program} {R : List (List Char)} (h : wordsSigns P.initOrder.toList = w0 :: w1 :: R) : P.mainIs = some (true, w1) := by
  unfold Program.mainIs
  rw [h]
  kernel_rfl
theorem mainIs : Tryd.prog.mainIs = some (true, w1) := main_of ws
theorem bw : behindMainWord (wordsSigns Tryd.prog.initOrder.toList) = w2 :: wordsSigns w3 := by rw [ws, bm]
theorem st (R : List (List Char)) : stripLifts liftWords (w2 :: R) = ([], w2 :: R) := by kernel_rfl
theorem make_of {P : Program} {R : List (List Char)} (h : behindMainWord (wordsSigns P.initOrder.toList) = w2 :: R) : P.make = some .cut := by
  unfold Program.make
  rw [h]
  kernel_rfl
theorem head_of {P : Program} {R : List (List Char)} (h : behindMainWord (wordsSigns P.initOrder.toList) = w2 :: R) : P.headLifts = [] := by
  unfold Program.headLifts
  rw [h, st]
  kernel_rfl
theorem lifts_of {P : Program} {R : List (List Char)} (h : behindMainWord (wordsSigns P.initOrder.toList) = w2 :: R) : P.liftsFinal = false := by
  unfold Program.liftsFinal
  rw [h, head_of h]
  kernel_rfl
theorem may_of {P : Program} {R : List (List Char)} (h : behindMainWord (wordsSigns P.initOrder.toList) = w2 :: R) (h1 : P.laysLater = false) (h2 : P.bearsReflect = false) (h3 : P.doorFits [] = true) : P.mayEnter = true := by
  unfold Program.mayEnter
  rw [h]
  simp only [st, h1, h2, h3]
  kernel_rfl
theorem later : Tryd.prog.laysLater = false := by kernel_rfl
theorem reflect : Tryd.prog.bearsReflect = false := by kernel_rfl
theorem door : Tryd.prog.doorFits [] = true := by kernel_rfl
theorem make : Tryd.prog.make = some .cut := make_of bw
theorem lifts : Tryd.prog.liftsFinal = false := lifts_of bw
theorem may : Tryd.prog.mayEnter = true := may_of bw later reflect door
end Go.Proofs.YtlpggofilkfbnaaDoor.J
namespace Go.Proofs.YtlpggofilkfbnaaDoor.zBlockStart
open Go Go.Proofs Go.Proofs.YtlpggofilkfbnaaDoor.K Go.Proofs.YtlpggofilkfbnaaDoor.T
open Go.ChangeShapes Go.WideShapes Go.ChangeAt Go.RowKit
set_option linter.unusedVariables false
theorem met (os : Os) (args : Array Value) : laidMetH Tryd.prog Rows.blockStartRow.laid ((laidWorld os).forCall (fun _ _ => 0) ⟨#[], args, []⟩).memory :=
  laidMetH_of_parts (laidMet_of_run' 8 (by kernel_rfl) (by kernel_rfl)) (by kernel_rfl)
set_option maxRecDepth 100000 in
theorem lifted (os : Os) (started : os.Started) (H : Type) (enc : TypeId × Value → H) :
    ReturnsInHanded {} Tryd.checked os 5 .any (fun w args => (Rows.blockStartSpec.pre enc Tryd.prog Tryd.f5 [] false w args ∧ laidMetH Tryd.prog Rows.blockStartRow.laid w) ∧ sizedMet enc Tryd.prog Tryd.f5 (OpenSpec.ofChange Rows.blockStartSpec) false w args) (Rows.blockStartSpec.post enc Tryd.prog Tryd.f5 false true false false) := by
  refine returnsInHanded_of_change_and (C := Tryd.checked) (X := fun w _ => laidMetH Tryd.prog Rows.blockStartRow.laid w) (fun _ _ _ hh h => h.of_heap hh) own started (by kernel_rfl) Tryd.func5
    (ChangeSpec.witness_at (enc := enc) (C := Tryd.checked) (os := os) (X := fun w _ => laidMetH Tryd.prog Rows.blockStartRow.laid w) false (laidWorld os) #[.int .i64 0, .slice none 0 0] 8 rfl (by kernel_rfl) (by kernel_rfl) (by kernel_rfl) (by kernel_rfl) (by kernel_rfl) (met os _)) ?_
  intro W base args ds gs before hval0 hW hcnd hsz0 hL _
  have hL : laidMet Tryd.prog Rows.blockStartRow.laid W := hL
  obtain ⟨e0, he0⟩ := sent0 hL (List.mem_of_getElem? (i := 1) rfl)
  obtain ⟨e1, he1⟩ := sent1 hL (List.mem_of_getElem? (i := 0) rfl)
  obtain ⟨e2, he2⟩ := sent2 hL (List.mem_of_getElem? (i := 3) rfl)
  obtain ⟨e3, he3⟩ := sent3 hL (List.mem_of_getElem? (i := 5) rfl)
  obtain ⟨e5, he5⟩ := sent5 hL (List.mem_of_getElem? (i := 7) rfl)
  obtain ⟨e6, he6⟩ := sent6 hL (List.mem_of_getElem? (i := 4) rfl)
  obtain ⟨e7, he7⟩ := sent7 hL (List.mem_of_getElem? (i := 6) rfl)
  obtain ⟨e8, he8⟩ := sent8 hL (List.mem_of_getElem? (i := 2) rfl)
  have hW' := hW
  obtain ⟨p, q, hA0, hV, rfl, hfz, hnd⟩ := hW
  have hA : DataW.TrodAll enc Tryd.prog W 0 (fun _ => true) true Tryd.f5.params.toList args.toList ds p := hA0
  have hval : ∀ (j : Nat) t v, Tryd.f5.params[j]? = some t → args[j]? = some v → Value.okWide Tryd.prog W .any base t v := hval0
  rw [Tryd.params5] at hA hval
  obtain ⟨v0, vs0, d0, ds0, p0, q0, hargs, rfl, rfl, h0, r0⟩ := trodAll_cons hA
  obtain ⟨v1, vs1, d1, ds1, p1, q1, rfl, rfl, rfl, h1, r1⟩ := trodAll_cons r0
  obtain ⟨rfl, rfl, rfl⟩ := trodAll_nil r1
  obtain rfl : args = #[v0, v1] := by cases args; simp_all
  obtain ⟨rfl, rfl⟩ := trodVars_none hV
  obtain ⟨x0, rfl, _, _, w0⟩ := open_int Tryd.underlying3 (hval 0 3 v0 rfl rfl) h0
  obtain ⟨x1, w1⟩ := at_slice Tryd.underlying25 (hval 1 25 v1 rfl rfl) rd25 h1
  have hμ : Agr (mem W) W := agr_mem W
  have hm := sargassolaw7_BlockStart.m (mem W) x0 (wf_in w0) x1 v1 w1
  refine (sargassolaw7_BlockStart.c (mem W) W hμ x0 (wf_in w0) x1 v1 w1 e0 he0 e1 he1 e2 he2 e3 he3 e5 he5 e6 he6 e7 he7 e8 he8 true hm).mono fun e W' ⟨v, he, hv, _, hI⟩ => ?_
  subst hv
  subst he
  have bel : Below W.heap.size W W' := hI.below
  exact ⟨_, rfl, _, _, _, [], _, [], hW', trodAll_mk1 (shut_bool Tryd.underlying4 _), (trodAll_cons_mk (again laid rr3 tr3 h0 bel) (trodAll_cons_mk (again laid rr25 tr25 h1 bel) trodAll_mk0)), rfl, bel.frame _, fun h => by cases h⟩
theorem closed : joinedFacts Tryd.prog 5 Tryd.f5 Rows.blockStartSpec Rows.blockStartRow = true := by
  unfold joinedFacts
  rw [J.may, J.lifts, J.make]
  kernel_rfl
theorem over : Rows.blockStartRow.holds Tryd.pinned (OpenSpec.ofChange Rows.blockStartSpec) :=
  OpenClaim.holds_of_wide 5 Tryd.f5 rfl rfl rfl rfl rfl rfl rfl ⟨rfl, rfl, rfl, rfl, rfl⟩ rfl rfl rfl rfl rfl (by kernel_rfl) Tryd.func5 closed
    (of_decide_eq_true (by kernel_rfl)) (by unfold Func.isWrapper; first | (rw [if_pos (by decide +kernel)]; kernel_rfl) | (rw [if_neg (by decide +kernel)]; exact ⟨rfl, rfl⟩))
    (fun os started H enc _ => lifted os started H enc)
theorem card : Rows.BlockStartCardSaid :=
  Claim7.holds_tied_plain_at .later [] [.sentinel, .sentinel, .sentinel, .sentinel, .sentinel, .sentinel, .sentinel, .sentinel] true (true, "570084c964d757cb9cf3ca22c3b2192bb755117f75e05724e6f174531d1bcd24") true
    over (fun _ h => by cases h) (by kernel_rfl) (fun _ h => by cases h) blockStart_row_tie rfl ⟨rfl, rfl⟩ (J.mainIs.trans (congrArg (fun s => some (true, s)) (by kernel_rfl))) rfl
    (fun f fn hf hfn => by
      obtain rfl : f = 5 := Option.some.inj ((show Tryd.prog.funcNamed "sargasso/sargassolaw7.BlockStart" = some 5 by kernel_rfl).symm.trans hf) |>.symm
      obtain rfl : fn = Tryd.f5 := (Option.some.inj (Tryd.func5.symm.trans hfn)).symm
      exact ⟨by kernel_rfl, fun j t ht => by
        rw [Tryd.params5] at ht
        rcases j with _ | _ | j
        · obtain rfl : (3 : TypeId) = t := by simpa using ht
          exact (show Tryd.prog.wantsStandIn 3 = false by kernel_rfl)
        · obtain rfl : (25 : TypeId) = t := by simpa using ht
          exact (show Tryd.prog.wantsStandIn 25 = false by kernel_rfl)
        · simp at ht⟩)
    (by kernel_rfl)
end Go.Proofs.YtlpggofilkfbnaaDoor.zBlockStart
namespace Go.Proofs.YtlpggofilkfbnaaDoor
theorem blockStart_holds : Rows.BlockStartCardSaid := zBlockStart.card
#print axioms blockStart_holds
end Go.Proofs.YtlpggofilkfbnaaDoor
