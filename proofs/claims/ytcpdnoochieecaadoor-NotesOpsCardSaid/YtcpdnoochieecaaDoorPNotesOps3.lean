/- Proved: the statement NotesOps, as given (its conditions are those of the given row, and card where there is one; no others): the call ends, with true, and the input reads as it did. This file is one of its parts. -/
import Derived.Test.YtcpdnoochieecaaDoorPNotesOps2
import Derived.OpenShut
import Derived.ChangeArms
import Derived.DataReads
import Derived.WideShapes
import Derived.Below
import Derived.Carry
import Derived.ChangeOld
import Derived.LaidLaws
import Derived.Stop.ErrReads
import Derived.ChangeVars
import Derived.Test.YtcpdnoochieecaaDoorRows
import Derived.Test.YtcpdnoochieecaaDoorProg
import Derived.JoinedOf
import Derived.ProofKit
import Derived.WalkKit
import Derived.ShutString
import Derived.SizedLaws
import Derived.LaidHandle
import Derived.Handed
import Derived.SevenTiedAt
import Derived.Test.YtcpdnoochieecaaDoorCards
import Derived.Test.YtcpdnoochieecaaDoorTie
namespace Go.Proofs.YtcpdnoochieecaaDoor.T
open Go Go.Proofs Go.Proofs.YtcpdnoochieecaaDoor.K
set_option linter.unusedVariables false
set_option linter.unusedSimpArgs false
set_option maxHeartbeats 4000000 in
set_option maxRecDepth 20000 in
theorem sargassolaw20_NotesOps.c (μ : Store) (w0 : World) (hμ : Agr μ w0) (x0 : Int) (hx0 : InR .i64 x0) (x1 : Int) (hx1 : InR .i64 x1) (x2 : List Int) (hx2 : Arr .u8 32 x2) (hG : Gl μ) (r : Bool) (H : sargassolaw20_NotesOps.f x0 x1 x2 = some r) :
    Calls Tryd.prog 7 [.int .i64 x0, .int .i64 x1, .agg [av .u8 32 x2].flatten.toArray].toArray w0 (fun e w' => ∃ v, e = .returned v ∧ v = .bool r ∧ True ∧ Iv w0 [] μ μ [] w') := by
  refine enter Tryd.func7 rfl Tryd.ntmps7 rfl fun a hA => ?_
  have hI := Iv.start hμ
  have H := bI H
  obtain ⟨e7, he7⟩ := hG.g7
  refine w_seq fun _ hN1 => w_reg <| o_box [av .u8 32 x2] hI hA rfl rfl rfl fun g1 a w hA hI hg1 => 
    sta hA rfl rfl fun a hA => ?_
  refine o_nil <| hN1 _ _ <| w_seq fun _ hN2 => w_reg ?_
  obtain ⟨r1, hr1, H⟩ := bB H
  refine o_callp (u := .bool r1) cf27 hA rfl hI (sargassolaw20_first.c μ _ hI.agr e7 he7 r1 hr1) rfl fun a w hz1 hI hA => 
    sta hA rfl rfl fun a hA => ?_
  refine o_nil <| hN2 _ _ <| w_seq fun _ hN3 => w_seq fun _ hN4 => w_reg <| stm hA rfl rfl fun a hA => 
    stp hA (r_not hA rfl) rfl fun a hA => ?_
  refine o_nil <| hN4 _ _ <| w_cond hA rfl (fun hc1 => ?_) (fun hc1 => ?_)
  · have hc10 := hc1; have hc1 := nT hc1; have hc1 := ft hc1; have H := bF H hc1
    refine w_seq fun _ hN5 => w_reg <| sta hA rfl rfl fun a hA => ?_
    refine o_nil <| hN5 _ _ <| w_ret ?_
    obtain rfl := sJ H
    exact ret1 hA Tryd.results7 rfl ⟨_, rfl, rfl, trivial, hI.forget0⟩
  · have hc10 := hc1; have hc1 := nF hc1; have H := bT H hc1
    refine w_skip <| hN3 _ _ ?_
    obtain ⟨c1, hz2, Hk1⟩ := bB H
    refine w_cut (fun a w => InR .i64 c1 ∧ Fr a 143 [(0, .int .i64 c1), (1, .int .i64 x1), (5, .pointer (some ⟨g1, 0, none⟩)), (6, .bool false), (7, .bool r1)] ∧ Iv w0 [] μ μ [cel g1 [av .u8 32 x2] 26] w) ?_ ?_
    · have H := bI hz2
      refine w_seq fun _ hN6 => w_reg <| stm hA rfl rfl fun a hA => 
        stp hA (r_lss hA rfl rfl) rfl fun a hA => ?_
      refine o_nil <| hN6 _ _ <| w_cond hA rfl (fun hc2 => ?_) (fun hc2 => ?_)
      · have hc20 := hc2; obtain ⟨hc2, H⟩ := dT H hc2
        refine w_reg <| stm hA rfl rfl fun a hA => 
          stp hA (r_add hA rfl rfl) rfl fun a hA => 
          stp hA (r_neg hA rfl) rfl fun a hA => 
          sta hA rfl rfl fun a hA => ?_
        refine o_nil ?_
        cases sJ H
        exact ⟨(wrap_in _ _), hA.sub ⟨rfl, rfl, rfl, rfl, rfl, trivial⟩, hI⟩
      · have hc20 := hc2; obtain ⟨hc2, H⟩ := dF H hc2
        refine w_skip ?_
        cases sJ H
        exact ⟨hx0, hA.sub ⟨rfl, rfl, rfl, rfl, rfl, trivial⟩, hI⟩
    · rintro a w ⟨wc1, hA, hI⟩
      have H := Hk1
      obtain ⟨c2, hz3, Hk2⟩ := bB H
      refine w_cut (fun a w => InR .i64 c2 ∧ Fr a 143 [(0, .int .i64 c1), (1, .int .i64 c2), (5, .pointer (some ⟨g1, 0, none⟩)), (6, .bool false), (7, .bool r1)] ∧ Iv w0 [] μ μ [cel g1 [av .u8 32 x2] 26] w) ?_ ?_
      · have H := bI hz3
        refine w_seq fun _ hN7 => w_reg <| stm hA rfl rfl fun a hA => 
          stp hA (r_lss hA rfl rfl) rfl fun a hA => ?_
        refine o_nil <| hN7 _ _ <| w_cond hA rfl (fun hc3 => ?_) (fun hc3 => ?_)
        · obtain ⟨hc3, H⟩ := dT H hc3
          refine w_reg <| stm hA rfl rfl fun a hA => 
            stp hA (r_add hA rfl rfl) rfl fun a hA => 
            stp hA (r_neg hA rfl) rfl fun a hA => 
            sta hA rfl rfl fun a hA => ?_
          refine o_nil ?_
          cases sJ H
          exact ⟨(wrap_in _ _), hA.sub ⟨rfl, rfl, rfl, rfl, rfl, trivial⟩, hI⟩
        · obtain ⟨hc3, H⟩ := dF H hc3
          refine w_skip ?_
          cases sJ H
          exact ⟨hx1, hA.sub ⟨rfl, rfl, rfl, rfl, rfl, trivial⟩, hI⟩
      · rintro a w ⟨wc2, hA, hI⟩
        have H := Hk2
        refine w_seq fun _ hN8 => w_reg <| stm hA rfl rfl fun a hA => 
          stp hA (r_rem hA rfl rfl (by decide)) rfl fun a hA => 
          sta hA rfl rfl fun a hA => ?_
        refine o_nil <| hN8 _ _ <| w_seq fun _ hN9 => w_reg <| stm hA rfl rfl fun a hA => 
          stp hA (r_rem hA rfl rfl (by decide)) rfl fun a hA => 
          sta hA rfl rfl fun a hA => ?_
        refine o_nil <| hN9 _ _ <| w_seq fun _ hN10 => w_reg ?_
        obtain ⟨r2, hr2, H⟩ := bB H
        refine o_call _ cf28 hA rfl (notes_New.c μ _ hI.agr 20 (in_lit .i64 20 rfl) e7 he7 r2 hr2) rfl fun v1 a w hz4 hA => ?_
        rcases hz4 with ⟨ho1, hz5⟩ | ⟨p1, ho1, hz5⟩
        · skip
          have H := bON H ho1
          obtain ⟨v2, μ1, rfl, hS1, hi1⟩ := hz5
          have hI := hI.call hi1
          refine stm hA rfl rfl fun a hA => 
            stp hA (r_extr (vs := [.pointer none, v2]) hA rfl rfl) rfl fun a hA => 
            stp hA (r_extr (vs := [.pointer none, v2]) hA rfl rfl) rfl fun a hA => 
            sta hA rfl rfl fun a hA => 
            sta hA rfl rfl fun a hA => ?_
          refine o_nil <| hN10 _ _ <| w_seq fun _ hN11 => ?_
          obtain ⟨c3, hz6, Hk3⟩ := bB H
          refine w_cut (fun a w => Fr a 143 [(0, .int .i64 (Int.tmod c1 6)), (1, .int .i64 (Int.tmod c2 6)), (5, .pointer (some ⟨g1, 0, none⟩)), (6, .bool false), (7, .bool r1), (8, .pointer none), (43, .bool c3)] ∧ Iv w0 [] μ μ1 [cel g1 [av .u8 32 x2] 26] w) ?_ ?_
          · have H := bI hz6
            refine w_reg <| stm hA rfl rfl fun a hA => 
              stp hA (r_nilnil_eql Tryd.underlying71 hA rfl rfl) rfl fun a hA => 
              stm hA rfl rfl fun a hA => 
              o_no hA rfl rfl (by simp [vb]) rfl fun a hA => 
              o_no hA rfl rfl (by simp [vb]) rfl fun a hA => 
              stp hA (r_pick_t hA rfl rfl rfl) rfl fun a hA => ?_
            refine o_nil ?_
            cases sJ H
            exact ⟨hA.sub ⟨rfl, rfl, rfl, rfl, rfl, rfl, rfl, trivial⟩, hI⟩
          · rintro a w ⟨hA, hI⟩
            have H := Hk3
            refine w_cond hA rfl (fun hc4 => ?_) (fun hc4 => ?_)
            · have H := bT H hc4
              refine w_seq fun _ hN12 => w_reg <| sta hA rfl rfl fun a hA => ?_
              refine o_nil <| hN12 _ _ <| w_ret ?_
              obtain rfl := sJ H
              exact ret1 hA Tryd.results7 rfl ⟨_, rfl, rfl, trivial, hI.forget0⟩
            · have hc4 := ft hc4; have H := bF H hc4
              exact (bN H).elim
        · skip
          have H := bOS H ho1
          obtain ⟨g2, vp1, cp1, gm1, v3, μ2, rfl, hp1, hp2, hp3, hp4, hS2, hi2⟩ := hz5
          have hI := hI.call hi2
          refine stm hA rfl rfl fun a hA => 
            stp hA (r_extr (vs := [.pointer (some ⟨g2, 0, none⟩), v3]) hA rfl rfl) rfl fun a hA => 
            stp hA (r_extr (vs := [.pointer (some ⟨g2, 0, none⟩), v3]) hA rfl rfl) rfl fun a hA => 
            sta hA rfl rfl fun a hA => 
            sta hA rfl rfl fun a hA => ?_
          refine o_nil <| hN10 _ _ <| w_seq fun _ hN18 => ?_
          obtain ⟨c4, hz9, Hk6⟩ := bB H
          refine w_cut (fun a w => Fr a 143 [(0, .int .i64 (Int.tmod c1 6)), (1, .int .i64 (Int.tmod c2 6)), (5, .pointer (some ⟨g1, 0, none⟩)), (6, .bool false), (7, .bool r1), (8, .pointer (some ⟨g2, 0, none⟩)), (43, .bool c4)] ∧ Iv w0 [] μ μ2 [cel g2 [[.int .i64 p1.most], [.int .i64 p1.op], [vp1], [.map (some gm1)]] 133, row 79 34 vp1 p1.l.length cp1, mpI gm1 (ent kv131 vv131 p1.lost), cel g1 [av .u8 32 x2] 26] w) ?_ ?_
          · have H := bI hz9
            refine w_reg <| stm hA rfl rfl fun a hA => 
              stp hA (r_ptrnil_eql Tryd.underlying71 hA rfl rfl) rfl fun a hA => 
              stm hA rfl rfl fun a hA => 
              o_yes hA rfl rfl rfl <| 
              stm hA rfl rfl fun a hA => 
              o_yes hA rfl rfl rfl <| 
              stp hA (r_neE erF hI.agr hS2 erv_nil (.inl ⟨.inr ⟨_, rfl⟩, Er.fitR⟩) hA rfl rfl) rfl fun a hA => 
              stp hA (r_pick_f hA rfl rfl rfl) rfl fun a hA => ?_
            refine o_nil ?_
            cases sJ H
            exact ⟨hA.sub ⟨rfl, rfl, rfl, rfl, rfl, rfl, rfl, trivial⟩, hI⟩
          · rintro a w ⟨hA, hI⟩
            have H := Hk6
            refine w_cond hA rfl (fun hc6 => ?_) (fun hc6 => ?_)
            · have H := bT H hc6
              refine w_seq fun _ hN19 => w_reg <| sta hA rfl rfl fun a hA => ?_
              refine o_nil <| hN19 _ _ <| w_ret ?_
              obtain rfl := sJ H
              exact ret1 hA Tryd.results7 rfl ⟨_, rfl, rfl, trivial, hI.forget0⟩
            · have hc6 := ft hc6; have H := bF H hc6
              refine w_skip <| hN18 _ _ ?_
              obtain ⟨⟨c5, c6, c7, c8⟩, hz10, Hk7⟩ := bB H
              refine w_cut (fun a w => ∃ (μ3 : Store) (vvc7 : Value) (ccc7 : List Value) (ggc8 : Nat), μ2.le μ3 ∧ InR .i64 c5 ∧ InR .i64 c6 ∧ Els (RNote μ3) 34 c7 ccc7 ∧ mw131 c8 ∧ Fr a 143 [(0, .int .i64 (Int.tmod c1 6)), (1, .int .i64 (Int.tmod c2 6)), (5, .pointer (some ⟨g1, 0, none⟩)), (6, .bool false), (7, .bool r1), (8, .pointer (some ⟨g2, 0, none⟩))] ∧ Iv w0 [] μ μ3 [row 79 34 vvc7 c7.length ccc7, mpI ggc8 (ent kv131 vv131 c8), cel g2 [[.int .i64 c5], [.int .i64 c6], [vvc7], [.map (some ggc8)]] 133, cel g1 [av .u8 32 x2] 26] w) ?_ ?_
              · have H := bI hz10
                refine w_seq fun _ hN20 => w_reg <| sta hA rfl rfl fun a hA => ?_
                refine o_nil <| hN20 _ _ <| w_block ?_
                obtain ⟨z2, hz11, Hk8⟩ := bind_some H
                obtain ⟨n2, hn2⟩ := loopO_some hz11
                refine w_loop (fun n a w => ∃ (s1 : Int) (s2 : Int) (s3 : Int) (s4 : List Note) (s5 : List (Int × Int)) (μ4 : Store) (vvs4 : Value) (ccs4 : List Value) (ggs5 : Nat), loopN (sargassolaw20_NotesOps.s0 x2 c1) n (s1, s2, s3, s4, s5) = some z2 ∧ μ2.le μ4 ∧ InR .i64 s1 ∧ InR .i64 s2 ∧ InR .i64 s3 ∧ Els (RNote μ4) 34 s4 ccs4 ∧ mw131 s5 ∧ Fr a 143 [(0, .int .i64 (Int.tmod c1 6)), (1, .int .i64 (Int.tmod c2 6)), (5, .pointer (some ⟨g1, 0, none⟩)), (6, .bool false), (7, .bool r1), (8, .pointer (some ⟨g2, 0, none⟩)), (10, .int .i64 s1)] ∧ Iv w0 [] μ μ4 [cel g2 [[.int .i64 s2], [.int .i64 s3], [vvs4], [.map (some ggs5)]] 133, row 79 34 vvs4 s4.length ccs4, mpI ggs5 (ent kv131 vv131 s5), cel g1 [av .u8 32 x2] 26] w) n2 ⟨0, p1.most, p1.op, p1.l, p1.lost, μ2, vp1, cp1, gm1, hn2, (Store.le.refl _), (in_lit .i64 0 rfl), hp1, hp2, hp3, hp4, hA.sub ⟨rfl, rfl, rfl, rfl, rfl, rfl, rfl, trivial⟩, hI⟩ ?_
                clear hA hI
                rintro n a w ⟨s1, s2, s3, s4, s5, μ4, vvs4, ccs4, ggs5, hn2, hle2, ws1, ws2, ws3, ws4, ws5, hA, hI⟩
                obtain ⟨m2, rfl, H⟩ := loopN_bind hn2
                clear hn2
                refine w_seq fun _ hN21 => w_seq fun _ hN22 => w_reg <| stm hA rfl rfl fun a hA => 
                  stm hA rfl rfl fun a hA => 
                  stp hA (r_lss hA rfl rfl) rfl fun a hA => ?_
                refine o_nil <| hN22 _ _ <| w_cond hA rfl (fun hc7 => ?_) (fun hc7 => ?_)
                · obtain ⟨hc7, H⟩ := dT H hc7
                  refine w_skip <| hN21 _ _ <| w_seq fun _ hN23 => w_block <| w_reg <| stm hA rfl rfl fun a hA => 
                    stp hA (r_ldA (j := 3) [] [av .u8 32 x2] [] Tryd.underlying26 rfl sz26 rfl hI rfl hA rfl rfl) rfl fun a hA => ?_
                  obtain ⟨r3, hr3, H⟩ := bB H
                  refine o_call _ cf30 hA rfl (notes_Log_Add.c μ4 _ hI.agr (⟨s2, s3, s4, s5⟩ : notesLog) vvs4 ccs4 ggs5 g2 ws2 ws3 ws4 ws5 (hI.handN 3) x2 hx2 2 (in_lit .i64 2 rfl) e7 (ErV.le (fun _ _ h => h) (hi2.le.trans hle2) he7) r3 hr3) rfl fun v4 a w hz12 hA => ?_
                  obtain ⟨_, vp2, cp2, gm2, μ5, rfl, hS3, hp5, hp6, hp7, hp8, hi3⟩ := hz12
                  have hI := hI.back3 hi3
                  refine o_nil <| hN23 _ _ <| w_reg <| stm hA rfl rfl fun a hA => 
                    stp hA (r_add hA rfl rfl) rfl fun a hA => 
                    sta hA rfl rfl fun a hA => ?_
                  refine o_nil <| ⟨m2, Nat.lt_succ_self _, IntKind.i64.wrap (s1 + 1), r3.2.most, r3.2.op, r3.2.l, r3.2.lost, μ5, vp2, cp2, gm2, H, (hle2.trans hi3.le), (wrap_in _ _), hp5, hp6, hp7, hp8, hA.sub ⟨rfl, rfl, rfl, rfl, rfl, rfl, rfl, trivial⟩, hI⟩
                · obtain ⟨hc7, H⟩ := dF H hc7
                  refine w_exit rfl ?_
                  have H : some (s2, s3, s4, s5) = some z2 := H
                  obtain rfl := sI H
                  have H := Hk8
                  cases sJ H
                  exact ⟨μ4, vvs4, ccs4, ggs5, hle2, ws2, ws3, ws4, ws5, hA.sub ⟨rfl, rfl, rfl, rfl, rfl, rfl, trivial⟩, (hI.sl [1, 2, 0, 3] rfl)⟩
              · rintro a w ⟨μ3, vvc7, ccc7, ggc8, hle1, wc5, wc6, wc7, wc8, hA, hI⟩
                have H := Hk7
                refine w_seq fun _ hN24 => w_reg <| stm hA rfl rfl fun a hA => ?_
                obtain ⟨r4, hr4, H⟩ := bB H
                have hI := hI.sl [2, 0, 1, 3] rfl
                refine o_call _ cf29 hA rfl (notes_Log_Begin.c μ3 _ hI.agr (⟨c5, c6, c7, c8⟩ : notesLog) vvc7 ccc7 ggc8 g2 wc5 wc6 wc7 wc8 (hI.handN 3) r4 hr4) rfl fun v5 a w hz13 hA => ?_
                obtain ⟨vp3, cp3, gm3, rfl, hw1, hp9, hp10, hp11, hp12, hi4⟩ := hz13
                have hI := hI.back3 hi4
                refine sta hA rfl rfl fun a hA => ?_
                refine o_nil <| hN24 _ _ <| w_seq fun _ hN25 => w_reg <| stm hA rfl rfl fun a hA => ?_
                obtain ⟨r5, hr5, H⟩ := bB H
                refine o_call _ cf29 hA rfl (notes_Log_Begin.c μ3 _ hI.agr (⟨r4.2.most, r4.2.op, r4.2.l, r4.2.lost⟩ : notesLog) vp3 cp3 gm3 g2 hp9 hp10 hp11 hp12 (hI.handN 3) r5 hr5) rfl fun v6 a w hz14 hA => ?_
                obtain ⟨vp4, cp4, gm4, rfl, hw2, hp13, hp14, hp15, hp16, hi5⟩ := hz14
                have hI := hI.back3 hi5
                refine sta hA rfl rfl fun a hA => ?_
                refine o_nil <| hN25 _ _ ?_
                obtain ⟨⟨c9, c10, c11, c12⟩, hz15, Hk9⟩ := bB H
                refine w_cut (fun a w => ∃ (μ6 : Store) (vvc11 : Value) (ccc11 : List Value) (ggc12 : Nat), μ3.le μ6 ∧ InR .i64 c9 ∧ InR .i64 c10 ∧ Els (RNote μ6) 34 c11 ccc11 ∧ mw131 c12 ∧ Fr a 143 [(0, .int .i64 (Int.tmod c1 6)), (1, .int .i64 (Int.tmod c2 6)), (5, .pointer (some ⟨g1, 0, none⟩)), (6, .bool false), (7, .bool r1), (8, .pointer (some ⟨g2, 0, none⟩)), (11, .int .i64 r4.1), (12, .int .i64 r5.1)] ∧ Iv w0 [] μ μ6 [row 79 34 vvc11 c11.length ccc11, mpI ggc12 (ent kv131 vv131 c12), cel g2 [[.int .i64 c9], [.int .i64 c10], [vvc11], [.map (some ggc12)]] 133, cel g1 [av .u8 32 x2] 26] w) ?_ ?_
                · have H := bI hz15
                  refine w_seq fun _ hN26 => w_reg <| sta hA rfl rfl fun a hA => ?_
                  refine o_nil <| hN26 _ _ <| w_block ?_
                  obtain ⟨z3, hz16, Hk10⟩ := bind_some H
                  obtain ⟨n3, hn3⟩ := loopO_some hz16
                  refine w_loop (fun n a w => ∃ (s6 : Int) (s7 : Int) (s8 : Int) (s9 : List Note) (s10 : List (Int × Int)) (μ7 : Store) (vvs9 : Value) (ccs9 : List Value) (ggs10 : Nat), loopN (sargassolaw20_NotesOps.s1 x2 c2) n (s6, s7, s8, s9, s10) = some z3 ∧ μ3.le μ7 ∧ InR .i64 s6 ∧ InR .i64 s7 ∧ InR .i64 s8 ∧ Els (RNote μ7) 34 s9 ccs9 ∧ mw131 s10 ∧ Fr a 143 [(0, .int .i64 (Int.tmod c1 6)), (1, .int .i64 (Int.tmod c2 6)), (5, .pointer (some ⟨g1, 0, none⟩)), (6, .bool false), (7, .bool r1), (8, .pointer (some ⟨g2, 0, none⟩)), (11, .int .i64 r4.1), (12, .int .i64 r5.1), (13, .int .i64 s6)] ∧ Iv w0 [] μ μ7 [cel g2 [[.int .i64 s7], [.int .i64 s8], [vvs9], [.map (some ggs10)]] 133, row 79 34 vvs9 s9.length ccs9, mpI ggs10 (ent kv131 vv131 s10), cel g1 [av .u8 32 x2] 26] w) n3 ⟨0, r5.2.most, r5.2.op, r5.2.l, r5.2.lost, μ3, vp4, cp4, gm4, hn3, (Store.le.refl _), (in_lit .i64 0 rfl), hp13, hp14, hp15, hp16, hA.sub ⟨rfl, rfl, rfl, rfl, rfl, rfl, rfl, rfl, rfl, trivial⟩, hI⟩ ?_
                  clear hA hI
                  rintro n a w ⟨s6, s7, s8, s9, s10, μ7, vvs9, ccs9, ggs10, hn3, hle4, ws6, ws7, ws8, ws9, ws10, hA, hI⟩
                  obtain ⟨m3, rfl, H⟩ := loopN_bind hn3
                  clear hn3
                  refine w_seq fun _ hN27 => w_seq fun _ hN28 => w_reg <| stm hA rfl rfl fun a hA => 
                    stm hA rfl rfl fun a hA => 
                    stp hA (r_lss hA rfl rfl) rfl fun a hA => ?_
                  refine o_nil <| hN28 _ _ <| w_cond hA rfl (fun hc8 => ?_) (fun hc8 => ?_)
                  · obtain ⟨hc8, H⟩ := dT H hc8
                    refine w_skip <| hN27 _ _ <| w_seq fun _ hN29 => w_block <| w_reg <| stm hA rfl rfl fun a hA => 
                      stp hA (r_ldA (j := 3) [] [av .u8 32 x2] [] Tryd.underlying26 rfl sz26 rfl hI rfl hA rfl rfl) rfl fun a hA => ?_
                    obtain ⟨r6, hr6, H⟩ := bB H
                    refine o_call _ cf30 hA rfl (notes_Log_Add.c μ7 _ hI.agr (⟨s7, s8, s9, s10⟩ : notesLog) vvs9 ccs9 ggs10 g2 ws7 ws8 ws9 ws10 (hI.handN 3) x2 hx2 6 (in_lit .i64 6 rfl) e7 (ErV.le (fun _ _ h => h) ((hi2.le.trans hle1).trans hle4) he7) r6 hr6) rfl fun v7 a w hz17 hA => ?_
                    obtain ⟨_, vp5, cp5, gm5, μ8, rfl, hS4, hp17, hp18, hp19, hp20, hi6⟩ := hz17
                    have hI := hI.back3 hi6
                    refine o_nil <| hN29 _ _ <| w_reg <| stm hA rfl rfl fun a hA => 
                      stp hA (r_add hA rfl rfl) rfl fun a hA => 
                      sta hA rfl rfl fun a hA => ?_
                    refine o_nil <| ⟨m3, Nat.lt_succ_self _, IntKind.i64.wrap (s6 + 1), r6.2.most, r6.2.op, r6.2.l, r6.2.lost, μ8, vp5, cp5, gm5, H, (hle4.trans hi6.le), (wrap_in _ _), hp17, hp18, hp19, hp20, hA.sub ⟨rfl, rfl, rfl, rfl, rfl, rfl, rfl, rfl, rfl, trivial⟩, hI⟩
                  · obtain ⟨hc8, H⟩ := dF H hc8
                    refine w_exit rfl ?_
                    have H : some (s7, s8, s9, s10) = some z3 := H
                    obtain rfl := sI H
                    have H := Hk10
                    cases sJ H
                    exact ⟨μ7, vvs9, ccs9, ggs10, hle4, ws7, ws8, ws9, ws10, hA.sub ⟨rfl, rfl, rfl, rfl, rfl, rfl, rfl, rfl, trivial⟩, (hI.sl [1, 2, 0, 3] rfl)⟩
                · rintro a w ⟨μ6, vvc11, ccc11, ggc12, hle3, wc9, wc10, wc11, wc12, hA, hI⟩
                  have H := Hk9
                  refine w_seq fun _ hN30 => w_reg <| stm hA rfl rfl fun a hA => ?_
                  obtain ⟨r7, hr7, H⟩ := bB H
                  have hI := hI.sl [2, 0, 1, 3] rfl
                  refine o_call _ cf35 hA rfl (notes_Log_Clone.c μ6 _ hI.agr (⟨c9, c10, c11, c12⟩ : notesLog) vvc11 ccc11 ggc12 g2 wc9 wc10 wc11 wc12 (hI.handN 3) r7 hr7) rfl fun v8 a w hz18 hA => ?_
                  obtain ⟨g3, vp6, cp6, gm6, rfl, hp21, hp22, hp23, hp24, hi7⟩ := hz18
                  have hI := hI.backN 3 hi7
                  have hI : Iv w0 [] μ μ6 [cel g3 [[.int .i64 r7.most], [.int .i64 r7.op], [vp6], [.map (some gm6)]] 133, row 79 34 vp6 r7.l.length cp6, mpI gm6 (ent kv131 vv131 r7.lost), cel g2 [[.int .i64 c9], [.int .i64 c10], [vvc11], [.map (some ggc12)]] 133, row 79 34 vvc11 c11.length ccc11, mpI ggc12 (ent kv131 vv131 c12), cel g1 [av .u8 32 x2] 26] w := hI
                  refine sta hA rfl rfl fun a hA => ?_
                  refine o_nil <| hN30 _ _ <| w_seq fun _ hN31 => w_reg <| stm hA rfl rfl fun a hA => 
                    stp hA (r_ldA (j := 6) [] [av .u8 32 x2] [] Tryd.underlying26 rfl sz26 rfl hI rfl hA rfl rfl) rfl fun a hA => ?_
                  obtain ⟨r8, hr8, H⟩ := bB H
                  have hI := hI.sl [3, 4, 5, 0, 1, 2, 6] rfl
                  refine o_call _ cf30 hA rfl (notes_Log_Add.c μ6 _ hI.agr (⟨c9, c10, c11, c12⟩ : notesLog) vvc11 ccc11 ggc12 g2 wc9 wc10 wc11 wc12 (hI.handN 3) x2 hx2 4 (in_lit .i64 4 rfl) e7 (ErV.le (fun _ _ h => h) ((hi2.le.trans hle1).trans hle3) he7) r8 hr8) rfl fun v9 a w hz19 hA => ?_
                  obtain ⟨_, vp7, cp7, gm7, μ9, rfl, hS5, hp25, hp26, hp27, hp28, hi8⟩ := hz19
                  have hI := hI.back3 hi8
                  refine sta hA rfl rfl fun a hA => ?_
                  refine o_nil <| hN31 _ _ <| w_seq fun _ hN32 => w_reg <| stm hA rfl rfl fun a hA => ?_
                  obtain ⟨r9, hr9, H⟩ := bB H
                  refine o_call _ cf33 hA rfl (notes_Log_Of.c μ9 _ hI.agr (⟨r8.2.most, r8.2.op, r8.2.l, r8.2.lost⟩ : notesLog) vp7 cp7 gm7 g2 hp25 hp26 hp27 hp28 (hI.handN 3) 2 (in_lit .i64 2 rfl) r9 hr9) rfl fun v10 a w hz20 hA => ?_
                  obtain ⟨_, cs1, rfl, hE1, hi9⟩ := hz20
                  have hI := hI.backN 3 hi9
                  have hI : Iv w0 [] μ μ9 [row 79 34 v10 r9.length cs1, cel g2 [[.int .i64 r8.2.most], [.int .i64 r8.2.op], [vp7], [.map (some gm7)]] 133, row 79 34 vp7 r8.2.l.length cp7, mpI gm7 (ent kv131 vv131 r8.2.lost), cel g3 [[.int .i64 r7.most], [.int .i64 r7.op], [vp6], [.map (some gm6)]] 133, row 79 34 vp6 r7.l.length cp6, mpI gm6 (ent kv131 vv131 r7.lost), cel g1 [av .u8 32 x2] 26] w := hI
                  refine sta hA rfl rfl fun a hA => ?_
                  refine o_nil <| hN32 _ _ ?_
                  obtain ⟨c13, hz21, Hk11⟩ := bB H
                  refine w_cut (fun a w => Fr a 143 [(6, .bool c13)] ∧ Iv w0 [] μ μ9 [row 79 34 v10 r9.length cs1, cel g2 [[.int .i64 r8.2.most], [.int .i64 r8.2.op], [vp7], [.map (some gm7)]] 133, row 79 34 vp7 r8.2.l.length cp7, mpI gm7 (ent kv131 vv131 r8.2.lost), cel g3 [[.int .i64 r7.most], [.int .i64 r7.op], [vp6], [.map (some gm6)]] 133, row 79 34 vp6 r7.l.length cp6, mpI gm6 (ent kv131 vv131 r7.lost), cel g1 [av .u8 32 x2] 26] w) ?_ ?_
                  · have H := bI hz21
                    refine w_any [] mo hI fun w hI => ?_
                    refine gE 0 hA rfl (.inr hI) (fun _ => r_mv hA rfl) fun a hA => ?_
                    refine gE 1 hA rfl (.inr hI) (fun _ => r_mv hA rfl) fun a hA => ?_
                    rcases Bool.eq_false_or_eq_true r1 with hc9 | hc9
                    · have hc90 := hc9; have H := bT H hc9
                      refine g_easy (i := 2) hA rfl (wanted_yes hA rfl rfl hc90) (by kernel_rfl) (.inr hI) (fun _ => r_mv hA rfl) rfl fun a hA => ?_
                      refine g_easy (i := 3) hA rfl (wanted_yes hA rfl rfl hc90) (by kernel_rfl) (.inr hI) (fun _ => r_eql hA rfl rfl) rfl fun a hA => ?_
                      refine gE 4 hA rfl (.inr hI) (fun _ => r_pick_t hA rfl hc90 rfl) fun a hA => ?_
                      refine gE 5 hA rfl (.inr hI) (fun _ => r_mv hA rfl) fun a hA => ?_
                      rcases Bool.eq_false_or_eq_true (decide (r4.1 = 1)) with hc10 | hc10
                      · have hc100 := hc10; obtain ⟨hc10, H⟩ := dT H hc10
                        refine g_easy (i := 6) hA rfl (wanted_yes hA rfl rfl hc100) (by kernel_rfl) (.inr hI) (fun _ => r_mv hA rfl) rfl fun a hA => ?_
                        refine g_easy (i := 7) hA rfl (wanted_yes hA rfl rfl hc100) (by kernel_rfl) (.inr hI) (fun _ => r_eql hA rfl rfl) rfl fun a hA => ?_
                        refine gE 8 hA rfl (.inr hI) (fun _ => r_pick_t hA rfl hc100 rfl) fun a hA => ?_
                        refine gE 9 hA rfl (.inr hI) (fun _ => r_mv hA rfl) fun a hA => ?_
                        rcases Bool.eq_false_or_eq_true (decide (r5.1 = 2)) with hc11 | hc11
                        · have hc110 := hc11; obtain ⟨hc11, H⟩ := dT H hc11
                          refine g_easy (i := 10) hA rfl (wanted_yes hA rfl rfl hc110) (by kernel_rfl) (.inr hI) (fun _ => r_mv hA rfl) rfl fun a hA => ?_
                          refine gF 11 rfl ?_
                          refine o_yes hA rfl rfl hc110 <| ?_
                          obtain ⟨r10, hr10, H⟩ := bB H
                          have hI := hI.sl [1, 2, 3, 0, 4, 5, 6, 7] rfl
                          refine o_call _ cf32 hA rfl (notes_Log_Op.c μ9 _ hI.agr (⟨r8.2.most, r8.2.op, r8.2.l, r8.2.lost⟩ : notesLog) vp7 cp7 gm7 g2 hp25 hp26 hp27 hp28 (hI.handN 3) r10 hr10) rfl fun v11 a w hz22 hA => ?_
                          obtain ⟨rfl, hw3, hi10⟩ := hz22
                          have hI := hI.back3 hi10
                          refine o_nil <| ⟨(.inr (hI.sl [3, 0, 1, 2, 4, 5, 6, 7] rfl)), ?_⟩
                          refine g_easy (i := 12) hA rfl (wanted_yes hA rfl rfl hc110) (by kernel_rfl) (.inr (hI.sl [3, 0, 1, 2, 4, 5, 6, 7] rfl)) (fun _ => r_eql hA rfl rfl) rfl fun a hA => ?_
                          refine gE 13 hA rfl (.inr (hI.sl [3, 0, 1, 2, 4, 5, 6, 7] rfl)) (fun _ => r_pick_t hA rfl hc110 rfl) fun a hA => ?_
                          refine gE 14 hA rfl (.inr (hI.sl [3, 0, 1, 2, 4, 5, 6, 7] rfl)) (fun _ => r_mv hA rfl) fun a hA => ?_
                          rcases Bool.eq_false_or_eq_true (decide (r10 = 2)) with hc12 | hc12
                          · have hc120 := hc12; obtain ⟨hc12, H⟩ := dT H hc12
                            refine g_easy (i := 15) hA rfl (wanted_yes hA rfl rfl hc120) (by kernel_rfl) (.inr (hI.sl [3, 0, 1, 2, 4, 5, 6, 7] rfl)) (fun _ => r_mv hA rfl) rfl fun a hA => ?_
                            refine g_mono (I' := fun w => Iv w0 [] μ μ9 [cel g2 [[.int .i64 r8.2.most], [.int .i64 r8.2.op], [vp7], [.map (some gm7)]] 133, row 79 34 vp7 r8.2.l.length cp7, mpI gm7 (ent kv131 vv131 r8.2.lost), row 79 34 v10 r9.length cs1, cel g3 [[.int .i64 r7.most], [.int .i64 r7.op], [vp6], [.map (some gm6)]] 133, row 79 34 vp6 r7.l.length cp6, mpI gm6 (ent kv131 vv131 r7.lost), cel g1 [av .u8 32 x2] 26] w) (fun w h => (h.sl [3, 0, 1, 2, 4, 5, 6, 7] rfl)) _ _ _ _ ?_
                            refine g_take (i := 16) hA rfl (wanted_yes hA rfl rfl hc120) (by kernel_rfl) hI (fun w hI => r_eqE erF hI.agr hS5 erv_nil (.inl ⟨.inr ⟨_, rfl⟩, Er.fitR⟩) hA rfl rfl) rfl fun a hA => ?_
                            refine gE 17 hA rfl (.inr hI) (fun _ => r_pick_t hA rfl hc120 rfl) fun a hA => ?_
                            refine gE 18 hA rfl (.inr hI) (fun _ => r_mv hA rfl) fun a hA => ?_
                            rcases Bool.eq_false_or_eq_true (decide (r8.1 = (Er.b 0))) with hc13 | hc13
                            · have hc130 := hc13; obtain ⟨hc13, H⟩ := dT H hc13
                              refine g_easy (i := 19) hA rfl (wanted_yes hA rfl rfl hc130) (by kernel_rfl) (.inr hI) (fun _ => r_mv hA rfl) rfl fun a hA => ?_
                              refine g_easy (i := 22) hA rfl (wanted_yes hA rfl rfl hc130) (by kernel_rfl) (.inr hI) (fun _ => r_mv hA rfl) rfl fun a hA => ?_
                              refine gF 20 rfl ?_
                              refine o_yes hA rfl rfl hc130 <| ?_
                              obtain ⟨r11, hr11, H⟩ := bB H
                              refine o_call _ cf33 hA rfl (notes_Log_Of.c μ9 _ hI.agr (⟨r8.2.most, r8.2.op, r8.2.l, r8.2.lost⟩ : notesLog) vp7 cp7 gm7 g2 hp25 hp26 hp27 hp28 (hI.handN 3) 0 (in_lit .i64 0 rfl) r11 hr11) rfl fun v12 a w hz23 hA => ?_
                              obtain ⟨_, cs2, rfl, hE2, hi11⟩ := hz23
                              have hI := hI.backN 3 hi11
                              have hI : Iv w0 [] μ μ9 [row 79 34 v12 r11.length cs2, cel g2 [[.int .i64 r8.2.most], [.int .i64 r8.2.op], [vp7], [.map (some gm7)]] 133, row 79 34 vp7 r8.2.l.length cp7, mpI gm7 (ent kv131 vv131 r8.2.lost), row 79 34 v10 r9.length cs1, cel g3 [[.int .i64 r7.most], [.int .i64 r7.op], [vp6], [.map (some gm6)]] 133, row 79 34 vp6 r7.l.length cp6, mpI gm6 (ent kv131 vv131 r7.lost), cel g1 [av .u8 32 x2] 26] w := hI
                              refine o_nil <| ⟨(.inr (hI.sl [1, 2, 3, 4, 5, 6, 7, 8] rfl)), ?_⟩
                              refine g_mono (I' := fun w => Iv w0 [] μ μ9 [row 79 34 v12 r11.length cs2, cel g2 [[.int .i64 r8.2.most], [.int .i64 r8.2.op], [vp7], [.map (some gm7)]] 133, row 79 34 vp7 r8.2.l.length cp7, mpI gm7 (ent kv131 vv131 r8.2.lost), row 79 34 v10 r9.length cs1, cel g3 [[.int .i64 r7.most], [.int .i64 r7.op], [vp6], [.map (some gm6)]] 133, row 79 34 vp6 r7.l.length cp6, mpI gm6 (ent kv131 vv131 r7.lost), cel g1 [av .u8 32 x2] 26] w) (fun w h => (h.sl [1, 2, 3, 4, 5, 6, 7, 8] rfl)) _ _ _ _ ?_
                              refine g_take (i := 21) hA rfl (wanted_yes hA rfl rfl hc130) (by kernel_rfl) hI (fun w hI => r_rlen (xs := 0) Tryd.underlying76 hI (j := 0) rfl hA rfl) rfl fun a hA => ?_
                              refine g_easy (i := 23) hA rfl (wanted_yes hA rfl rfl hc130) (by kernel_rfl) (.inr hI) (fun _ => r_eql hA rfl rfl) rfl fun a hA => ?_
                              refine gE 24 hA rfl (.inr hI) (fun _ => r_pick_t hA rfl hc130 rfl) fun a hA => ?_
                              refine gE 25 hA rfl (.inr hI) (fun _ => r_mv hA rfl) fun a hA => ?_
                              rcases Bool.eq_false_or_eq_true (decide ((r11.length : Int) = (Int.tmod c1 6))) with hc14 | hc14
                              · have hc140 := hc14; obtain ⟨hc14, H⟩ := dT H hc14
                                refine g_easy (i := 26) hA rfl (wanted_yes hA rfl rfl hc140) (by kernel_rfl) (.inr hI) (fun _ => r_mv hA rfl) rfl fun a hA => ?_
                                refine gF 27 rfl ?_
                                refine o_yes hA rfl rfl hc140 <| ?_
                                obtain ⟨r12, hr12, H⟩ := bB H
                                have hI := hI.sl [1, 2, 3, 0, 4, 5, 6, 7, 8] rfl
                                refine o_call _ cf33 hA rfl (notes_Log_Of.c μ9 _ hI.agr (⟨r8.2.most, r8.2.op, r8.2.l, r8.2.lost⟩ : notesLog) vp7 cp7 gm7 g2 hp25 hp26 hp27 hp28 (hI.handN 3) 1 (in_lit .i64 1 rfl) r12 hr12) rfl fun v13 a w hz24 hA => ?_
                                obtain ⟨_, cs3, rfl, hE3, hi12⟩ := hz24
                                have hI := hI.backN 3 hi12
                                have hI : Iv w0 [] μ μ9 [row 79 34 v13 r12.length cs3, cel g2 [[.int .i64 r8.2.most], [.int .i64 r8.2.op], [vp7], [.map (some gm7)]] 133, row 79 34 vp7 r8.2.l.length cp7, mpI gm7 (ent kv131 vv131 r8.2.lost), row 79 34 v12 r11.length cs2, row 79 34 v10 r9.length cs1, cel g3 [[.int .i64 r7.most], [.int .i64 r7.op], [vp6], [.map (some gm6)]] 133, row 79 34 vp6 r7.l.length cp6, mpI gm6 (ent kv131 vv131 r7.lost), cel g1 [av .u8 32 x2] 26] w := hI
                                refine o_nil <| ⟨(.inr (hI.sl [4, 1, 2, 3, 5, 6, 7, 8, 9] rfl)), ?_⟩
                                refine g_mono (I' := fun w => Iv w0 [] μ μ9 [row 79 34 v13 r12.length cs3, cel g2 [[.int .i64 r8.2.most], [.int .i64 r8.2.op], [vp7], [.map (some gm7)]] 133, row 79 34 vp7 r8.2.l.length cp7, mpI gm7 (ent kv131 vv131 r8.2.lost), row 79 34 v12 r11.length cs2, row 79 34 v10 r9.length cs1, cel g3 [[.int .i64 r7.most], [.int .i64 r7.op], [vp6], [.map (some gm6)]] 133, row 79 34 vp6 r7.l.length cp6, mpI gm6 (ent kv131 vv131 r7.lost), cel g1 [av .u8 32 x2] 26] w) (fun w h => (h.sl [4, 1, 2, 3, 5, 6, 7, 8, 9] rfl)) _ _ _ _ ?_
                                refine g_take (i := 28) hA rfl (wanted_yes hA rfl rfl hc140) (by kernel_rfl) hI (fun w hI => r_rlen (xs := 0) Tryd.underlying76 hI (j := 0) rfl hA rfl) rfl fun a hA => ?_
                                refine g_easy (i := 29) hA rfl (wanted_yes hA rfl rfl hc140) (by kernel_rfl) (.inr hI) (fun _ => r_eql hA rfl rfl) rfl fun a hA => ?_
                                refine gE 30 hA rfl (.inr hI) (fun _ => r_pick_t hA rfl hc140 rfl) fun a hA => ?_
                                refine gE 31 hA rfl (.inr hI) (fun _ => r_mv hA rfl) fun a hA => ?_
                                rcases Bool.eq_false_or_eq_true (decide ((r12.length : Int) = 0)) with hc15 | hc15
                                · have hc150 := hc15; obtain ⟨hc15, H⟩ := dT H hc15
                                  refine g_easy (i := 32) hA rfl (wanted_yes hA rfl rfl hc150) (by kernel_rfl) (.inr hI) (fun _ => r_mv hA rfl) rfl fun a hA => ?_
                                  refine gF 33 rfl ?_
                                  refine o_yes hA rfl rfl hc150 <| ?_
                                  obtain ⟨r13, hr13, H⟩ := bB H
                                  have hI := hI.sl [1, 2, 3, 0, 4, 5, 6, 7, 8, 9] rfl
                                  refine o_call _ cf34 hA rfl (notes_Log_Lost.c μ9 _ hI.agr (⟨r8.2.most, r8.2.op, r8.2.l, r8.2.lost⟩ : notesLog) vp7 cp7 gm7 g2 hp25 hp26 hp27 hp28 (hI.handN 3) 1 (in_lit .i64 1 rfl) r13 hr13) rfl fun v14 a w hz25 hA => ?_
                                  obtain ⟨rfl, hw4, hi13⟩ := hz25
                                  have hI := hI.back3 hi13
                                  refine o_nil <| ⟨(.inr (hI.sl [3, 0, 1, 2, 4, 5, 6, 7, 8, 9] rfl)), ?_⟩
                                  refine g_easy (i := 34) hA rfl (wanted_yes hA rfl rfl hc150) (by kernel_rfl) (.inr (hI.sl [3, 0, 1, 2, 4, 5, 6, 7, 8, 9] rfl)) (fun _ => r_eql hA rfl rfl) rfl fun a hA => ?_
                                  refine gE 35 hA rfl (.inr (hI.sl [3, 0, 1, 2, 4, 5, 6, 7, 8, 9] rfl)) (fun _ => r_pick_t hA rfl hc150 rfl) fun a hA => ?_
                                  refine gE 36 hA rfl (.inr (hI.sl [3, 0, 1, 2, 4, 5, 6, 7, 8, 9] rfl)) (fun _ => r_mv hA rfl) fun a hA => ?_
                                  rcases Bool.eq_false_or_eq_true (decide (r13 = 0)) with hc16 | hc16
                                  · have hc160 := hc16; obtain ⟨hc16, H⟩ := dT H hc16
                                    refine g_easy (i := 37) hA rfl (wanted_yes hA rfl rfl hc160) (by kernel_rfl) (.inr (hI.sl [3, 0, 1, 2, 4, 5, 6, 7, 8, 9] rfl)) (fun _ => r_mv hA rfl) rfl fun a hA => ?_
                                    refine g_mono (I' := fun w => Iv w0 [] μ μ9 [cel g2 [[.int .i64 r8.2.most], [.int .i64 r8.2.op], [vp7], [.map (some gm7)]] 133, row 79 34 vp7 r8.2.l.length cp7, mpI gm7 (ent kv131 vv131 r8.2.lost), row 79 34 v13 r12.length cs3, row 79 34 v12 r11.length cs2, row 79 34 v10 r9.length cs1, cel g3 [[.int .i64 r7.most], [.int .i64 r7.op], [vp6], [.map (some gm6)]] 133, row 79 34 vp6 r7.l.length cp6, mpI gm6 (ent kv131 vv131 r7.lost), cel g1 [av .u8 32 x2] 26] w) (fun w h => (h.sl [3, 0, 1, 2, 4, 5, 6, 7, 8, 9] rfl)) _ _ _ _ ?_
                                    refine g_take (i := 38) hA rfl (wanted_yes hA rfl rfl hc160) (by kernel_rfl) hI (fun w hI => r_rlen (xs := 0) Tryd.underlying76 hI (j := 5) rfl hA rfl) rfl fun a hA => ?_
                                    refine g_easy (i := 39) hA rfl (wanted_yes hA rfl rfl hc160) (by kernel_rfl) (.inr hI) (fun _ => r_mv hA rfl) rfl fun a hA => ?_
                                    refine g_easy (i := 40) hA rfl (wanted_yes hA rfl rfl hc160) (by kernel_rfl) (.inr hI) (fun _ => r_add hA rfl rfl) rfl fun a hA => ?_
                                    refine g_easy (i := 41) hA rfl (wanted_yes hA rfl rfl hc160) (by kernel_rfl) (.inr hI) (fun _ => r_eql hA rfl rfl) rfl fun a hA => ?_
                                    refine gE 42 hA rfl (.inr hI) (fun _ => r_pick_t hA rfl hc160 rfl) fun a hA => ?_
                                    refine gE 43 hA rfl (.inr hI) (fun _ => r_mv hA rfl) fun a hA => ?_
                                    rcases Bool.eq_false_or_eq_true (decide ((r9.length : Int) = (IntKind.i64.wrap ((Int.tmod c2 6) + 1)))) with hc17 | hc17
                                    · have hc170 := hc17; obtain ⟨hc17, H⟩ := dT H hc17
                                      refine g_easy (i := 44) hA rfl (wanted_yes hA rfl rfl hc170) (by kernel_rfl) (.inr hI) (fun _ => r_mv hA rfl) rfl fun a hA => ?_
                                      refine g_easy (i := 45) hA rfl (wanted_yes hA rfl rfl hc170) (by kernel_rfl) (.inr hI) (fun _ => r_mv hA rfl) rfl fun a hA => ?_
                                      obtain ⟨hb1, H⟩ := bG H
                                      refine g_take (i := 46) hA rfl (wanted_yes hA rfl rfl hc170) (by kernel_rfl) hI (fun w hI => r_rix (j := 5) Tryd.underlying76 sz79 hI rfl hA rfl rfl hb1.1 hb1.2) rfl fun a hA => ?_
                                      refine g_easy (i := 47) hA rfl (wanted_yes hA rfl rfl hc170) (by kernel_rfl) (.inr hI) (fun _ => r_fd (k := so v10 + (Int.tmod c2 6).toNat * 34 + 33) Tryd.underlying79 rfl sz3 hA rfl rfl) rfl fun a hA => ?_
                                      obtain ⟨A1, _, B1, hc18, hl1, _, he1⟩ := Els.at_ hE1 (getD_some default hb1.1 hb1.2)
                                      obtain ⟨rfl, hw5⟩ := he1
                                      refine g_take (i := 48) hA rfl (wanted_yes hA rfl rfl hc170) (by kernel_rfl) hI (fun w hI => r_rldQ (j := 5) (q := (Int.tmod c2 6).toNat * 34) (off := 33) A1 B1 [[.int .i64 ((r9.getD (Int.tmod c2 6).toNat default).Op)], av .u8 32 ((r9.getD (Int.tmod c2 6).toNat default).Tx)] [] hc18 hl1 rfl Tryd.underlying3 rfl hI rfl hA rfl) rfl fun a hA => ?_
                                      refine g_easy (i := 49) hA rfl (wanted_yes hA rfl rfl hc170) (by kernel_rfl) (.inr hI) (fun _ => r_eql hA rfl rfl) rfl fun a hA => ?_
                                      refine gE 50 hA rfl (.inr hI) (fun _ => r_pick_t hA rfl hc170 rfl) fun a hA => ?_
                                      refine gE 51 hA rfl (.inr hI) (fun _ => r_mv hA rfl) fun a hA => ?_
                                      rcases Bool.eq_false_or_eq_true (decide (((r9.getD (Int.tmod c2 6).toNat default).Reason) = 4)) with hc19 | hc19
                                      · have hc190 := hc19; obtain ⟨hc19, H⟩ := dT H hc19
                                        refine g_easy (i := 52) hA rfl (wanted_yes hA rfl rfl hc190) (by kernel_rfl) (.inr hI) (fun _ => r_mv hA rfl) rfl fun a hA => ?_
                                        refine g_easy (i := 53) hA rfl (wanted_yes hA rfl rfl hc190) (by kernel_rfl) (.inr hI) (fun _ => r_mv hA rfl) rfl fun a hA => ?_
                                        refine g_take (i := 54) hA rfl (wanted_yes hA rfl rfl hc190) (by kernel_rfl) hI (fun w hI => r_rix (j := 5) Tryd.underlying76 sz79 hI rfl hA rfl rfl hb1.1 hb1.2) rfl fun a hA => ?_
                                        refine g_easy (i := 55) hA rfl (wanted_yes hA rfl rfl hc190) (by kernel_rfl) (.inr hI) (fun _ => r_fd (k := so v10 + (Int.tmod c2 6).toNat * 34 + 1) Tryd.underlying79 rfl sz26 hA rfl rfl) rfl fun a hA => ?_
                                        obtain ⟨A2, _, B2, hc20, hl2, _, he2⟩ := Els.at_ hE1 (getD_some default hb1.1 hb1.2)
                                        obtain ⟨rfl, hw6⟩ := he2
                                        refine g_take (i := 56) hA rfl (wanted_yes hA rfl rfl hc190) (by kernel_rfl) hI (fun w hI => r_rldP (j := 5) (q := (Int.tmod c2 6).toNat * 34) (off := 1) A2 B2 [[.int .i64 ((r9.getD (Int.tmod c2 6).toNat default).Op)]] [av .u8 32 ((r9.getD (Int.tmod c2 6).toNat default).Tx)] [[.int .i64 ((r9.getD (Int.tmod c2 6).toNat default).Reason)]] hc20 hl2 rfl Tryd.underlying26 rfl sz26 rfl hI rfl hA rfl) rfl fun a hA => ?_
                                        refine g_take (i := 57) hA rfl (wanted_yes hA rfl rfl hc190) (by kernel_rfl) hI (fun w hI => r_ldA (j := 9) [] [av .u8 32 x2] [] Tryd.underlying26 rfl sz26 rfl hI rfl hA rfl rfl) rfl fun a hA => ?_
                                        refine gF 58 rfl ?_
                                        refine o_yes hA rfl rfl hc190 <| ?_
                                        obtain ⟨r14, hr14, H⟩ := bB H
                                        refine o_callp (u := .bool r14) cf26 hA rfl hI (sargassoref_SameHash.c μ9 _ hI.agr ((r9.getD (Int.tmod c2 6).toNat default).Tx) hw6.2.1 x2 hx2 r14 hr14) rfl fun a w hz26 hI hA => ?_
                                        refine o_nil <| ⟨(.inr hI), ?_⟩
                                        refine gE 59 hA rfl (.inr hI) (fun _ => r_pick_t hA rfl hc190 rfl) fun a hA => ?_
                                        refine gE 60 hA rfl (.inr hI) (fun _ => r_mv hA rfl) fun a hA => ?_
                                        rcases Bool.eq_false_or_eq_true r14 with hc21 | hc21
                                        · have hc210 := hc21; have H := bT H hc21
                                          refine g_easy (i := 61) hA rfl (wanted_yes hA rfl rfl hc210) (by kernel_rfl) (.inr hI) (fun _ => r_mv hA rfl) rfl fun a hA => ?_
                                          refine g_easy (i := 64) hA rfl (wanted_yes hA rfl rfl hc210) (by kernel_rfl) (.inr hI) (fun _ => r_mv hA rfl) rfl fun a hA => ?_
                                          refine g_easy (i := 65) hA rfl (wanted_yes hA rfl rfl hc210) (by kernel_rfl) (.inr hI) (fun _ => r_mv hA rfl) rfl fun a hA => ?_
                                          refine g_easy (i := 66) hA rfl (wanted_yes hA rfl rfl hc210) (by kernel_rfl) (.inr hI) (fun _ => r_add hA rfl rfl) rfl fun a hA => ?_
                                          refine gF 62 rfl ?_
                                          refine o_yes hA rfl rfl hc210 <| ?_
                                          obtain ⟨r15, hr15, H⟩ := bB H
                                          have hI := hI.sl [6, 7, 8, 0, 1, 2, 3, 4, 5, 9] rfl
                                          refine o_call _ cf31 hA rfl (notes_Log_All.c μ9 _ hI.agr (⟨r7.most, r7.op, r7.l, r7.lost⟩ : notesLog) vp6 cp6 gm6 g3 hp21 hp22 hp23 hp24 (hI.handN 3) r15 hr15) rfl fun v15 a w hz27 hA => ?_
                                          obtain ⟨_, cs4, rfl, hE4, hi14⟩ := hz27
                                          have hI := hI.backN 3 hi14
                                          have hI : Iv w0 [] μ μ9 [row 79 34 v15 r15.length cs4, cel g3 [[.int .i64 r7.most], [.int .i64 r7.op], [vp6], [.map (some gm6)]] 133, row 79 34 vp6 r7.l.length cp6, mpI gm6 (ent kv131 vv131 r7.lost), cel g2 [[.int .i64 r8.2.most], [.int .i64 r8.2.op], [vp7], [.map (some gm7)]] 133, row 79 34 vp7 r8.2.l.length cp7, mpI gm7 (ent kv131 vv131 r8.2.lost), row 79 34 v13 r12.length cs3, row 79 34 v12 r11.length cs2, row 79 34 v10 r9.length cs1, cel g1 [av .u8 32 x2] 26] w := hI
                                          refine o_nil <| ⟨(.inr (hI.sl [4, 5, 6, 7, 8, 9, 1, 2, 3, 10] rfl)), ?_⟩
                                          refine g_mono (I' := fun w => Iv w0 [] μ μ9 [row 79 34 v15 r15.length cs4, cel g3 [[.int .i64 r7.most], [.int .i64 r7.op], [vp6], [.map (some gm6)]] 133, row 79 34 vp6 r7.l.length cp6, mpI gm6 (ent kv131 vv131 r7.lost), cel g2 [[.int .i64 r8.2.most], [.int .i64 r8.2.op], [vp7], [.map (some gm7)]] 133, row 79 34 vp7 r8.2.l.length cp7, mpI gm7 (ent kv131 vv131 r8.2.lost), row 79 34 v13 r12.length cs3, row 79 34 v12 r11.length cs2, row 79 34 v10 r9.length cs1, cel g1 [av .u8 32 x2] 26] w) (fun w h => (h.sl [4, 5, 6, 7, 8, 9, 1, 2, 3, 10] rfl)) _ _ _ _ ?_
                                          refine g_take (i := 63) hA rfl (wanted_yes hA rfl rfl hc210) (by kernel_rfl) hI (fun w hI => r_rlen (xs := 0) Tryd.underlying76 hI (j := 0) rfl hA rfl) rfl fun a hA => ?_
                                          refine g_easy (i := 67) hA rfl (wanted_yes hA rfl rfl hc210) (by kernel_rfl) (.inr hI) (fun _ => r_eql hA rfl rfl) rfl fun a hA => ?_
                                          refine gE 68 hA rfl (.inr hI) (fun _ => r_pick_t hA rfl hc210 rfl) fun a hA => ?_
                                          refine gE 69 hA rfl (.inr hI) (fun _ => r_mv hA rfl) fun a hA => ?_
                                          rcases Bool.eq_false_or_eq_true (decide ((r15.length : Int) = (IntKind.i64.wrap ((Int.tmod c1 6) + (Int.tmod c2 6))))) with hc22 | hc22
                                          · have hc220 := hc22; obtain ⟨hc22, H⟩ := dT H hc22
                                            refine gF 70 rfl ?_
                                            refine o_yes hA rfl rfl hc220 <| ?_
                                            obtain ⟨r16, hr16, H⟩ := bB H
                                            refine o_callp (u := .bool r16) cf17 hA rfl hI (sargassosee_Is.c μ9 _ hI.agr (Er.b 0) .nilIface erv_nil 0 (in_lit .i64 0 rfl) (Gl.le (((hi2.le.trans hle1).trans hle3).trans hi8.le) hG) r16 hr16) rfl fun a w hz28 hI hA => ?_
                                            refine o_nil <| ⟨(.inr hI), ?_⟩
                                            refine gE 71 hA rfl (.inr hI) (fun _ => r_pick_t hA rfl hc220 rfl) fun a hA => ?_
                                            refine gE 72 hA rfl (.inr hI) (fun _ => r_as hA rfl) fun a hA => ?_
                                            refine gN ?_
                                            cases sJ H
                                            exact ⟨hA.sub ⟨rfl, trivial⟩, (hI.sl [9, 4, 5, 6, 1, 2, 3, 10] rfl)⟩
                                          · have hc220 := hc22; obtain ⟨hc22, H⟩ := dF H hc22
                                            refine g_skip (i := 70) hA rfl (wanted_no hA rfl rfl (by rw [hc220]; simp [vb])) (by kernel_rfl) (.inr hI) rfl fun a hA => ?_
                                            refine gE 71 hA rfl (.inr hI) (fun _ => r_pick_f hA rfl hc220 rfl) fun a hA => ?_
                                            refine gE 72 hA rfl (.inr hI) (fun _ => r_as hA rfl) fun a hA => ?_
                                            refine gN ?_
                                            cases sJ H
                                            exact ⟨hA.sub ⟨rfl, trivial⟩, (hI.sl [9, 4, 5, 6, 1, 2, 3, 10] rfl)⟩
                                        · have hc210 := hc21; have hc21 := ft hc21; have H := bF H hc21
                                          refine g_skip (i := 61) hA rfl (wanted_no hA rfl rfl (by rw [hc210]; simp [vb])) (by kernel_rfl) (.inr hI) rfl fun a hA => ?_
                                          refine g_skip (i := 64) hA rfl (wanted_no hA rfl rfl (by rw [hc210]; simp [vb])) (by kernel_rfl) (.inr hI) rfl fun a hA => ?_
                                          refine g_skip (i := 65) hA rfl (wanted_no hA rfl rfl (by rw [hc210]; simp [vb])) (by kernel_rfl) (.inr hI) rfl fun a hA => ?_
                                          refine g_skip (i := 66) hA rfl (wanted_no hA rfl rfl (by rw [hc210]; simp [vb])) (by kernel_rfl) (.inr hI) rfl fun a hA => ?_
                                          refine g_skip (i := 62) hA rfl (wanted_no hA rfl rfl (by rw [hc210]; simp [vb])) (by kernel_rfl) (.inr hI) rfl fun a hA => ?_
                                          refine g_skip (i := 63) hA rfl (wanted_no hA rfl rfl (by rw [hc210]; simp [vb])) (by kernel_rfl) (.inr hI) rfl fun a hA => ?_
                                          refine g_skip (i := 67) hA rfl (wanted_no hA rfl rfl (by rw [hc210]; simp [vb])) (by kernel_rfl) (.inr hI) rfl fun a hA => ?_
                                          refine gE 68 hA rfl (.inr hI) (fun _ => r_pick_f hA rfl hc210 rfl) fun a hA => ?_
                                          refine gE 69 hA rfl (.inr hI) (fun _ => r_mv hA rfl) fun a hA => ?_
                                          refine g_skip (i := 70) hA rfl (wanted_no hA rfl rfl (by simp [vb])) (by kernel_rfl) (.inr hI) rfl fun a hA => ?_
                                          refine gE 71 hA rfl (.inr hI) (fun _ => r_pick_f hA rfl rfl rfl) fun a hA => ?_
                                          refine gE 72 hA rfl (.inr hI) (fun _ => r_as hA rfl) fun a hA => ?_
                                          refine gN ?_
                                          cases sJ H
                                          exact ⟨hA.sub ⟨rfl, trivial⟩, (hI.sl [5, 0, 1, 2, 6, 7, 8, 9] rfl)⟩
                                      · have hc190 := hc19; obtain ⟨hc19, H⟩ := dF H hc19
                                        refine g_skip (i := 52) hA rfl (wanted_no hA rfl rfl (by rw [hc190]; simp [vb])) (by kernel_rfl) (.inr hI) rfl fun a hA => ?_
                                        refine g_skip (i := 53) hA rfl (wanted_no hA rfl rfl (by rw [hc190]; simp [vb])) (by kernel_rfl) (.inr hI) rfl fun a hA => ?_
                                        refine g_skip (i := 54) hA rfl (wanted_no hA rfl rfl (by rw [hc190]; simp [vb])) (by kernel_rfl) (.inr hI) rfl fun a hA => ?_
                                        refine g_skip (i := 55) hA rfl (wanted_no hA rfl rfl (by rw [hc190]; simp [vb])) (by kernel_rfl) (.inr hI) rfl fun a hA => ?_
                                        refine g_skip (i := 56) hA rfl (wanted_no hA rfl rfl (by rw [hc190]; simp [vb])) (by kernel_rfl) (.inr hI) rfl fun a hA => ?_
                                        refine g_skip (i := 57) hA rfl (wanted_no hA rfl rfl (by rw [hc190]; simp [vb])) (by kernel_rfl) (.inr hI) rfl fun a hA => ?_
                                        refine g_skip (i := 58) hA rfl (wanted_no hA rfl rfl (by rw [hc190]; simp [vb])) (by kernel_rfl) (.inr hI) rfl fun a hA => ?_
                                        refine gE 59 hA rfl (.inr hI) (fun _ => r_pick_f hA rfl hc190 rfl) fun a hA => ?_
                                        refine gE 60 hA rfl (.inr hI) (fun _ => r_mv hA rfl) fun a hA => ?_
                                        refine g_skip (i := 61) hA rfl (wanted_no hA rfl rfl (by simp [vb])) (by kernel_rfl) (.inr hI) rfl fun a hA => ?_
                                        refine g_skip (i := 64) hA rfl (wanted_no hA rfl rfl (by simp [vb])) (by kernel_rfl) (.inr hI) rfl fun a hA => ?_
                                        refine g_skip (i := 65) hA rfl (wanted_no hA rfl rfl (by simp [vb])) (by kernel_rfl) (.inr hI) rfl fun a hA => ?_
                                        refine g_skip (i := 66) hA rfl (wanted_no hA rfl rfl (by simp [vb])) (by kernel_rfl) (.inr hI) rfl fun a hA => ?_
                                        refine g_skip (i := 62) hA rfl (wanted_no hA rfl rfl (by simp [vb])) (by kernel_rfl) (.inr hI) rfl fun a hA => ?_
                                        refine g_skip (i := 63) hA rfl (wanted_no hA rfl rfl (by simp [vb])) (by kernel_rfl) (.inr hI) rfl fun a hA => ?_
                                        refine g_skip (i := 67) hA rfl (wanted_no hA rfl rfl (by simp [vb])) (by kernel_rfl) (.inr hI) rfl fun a hA => ?_
                                        refine gE 68 hA rfl (.inr hI) (fun _ => r_pick_f hA rfl rfl rfl) fun a hA => ?_
                                        refine gE 69 hA rfl (.inr hI) (fun _ => r_mv hA rfl) fun a hA => ?_
                                        refine g_skip (i := 70) hA rfl (wanted_no hA rfl rfl (by simp [vb])) (by kernel_rfl) (.inr hI) rfl fun a hA => ?_
                                        refine gE 71 hA rfl (.inr hI) (fun _ => r_pick_f hA rfl rfl rfl) fun a hA => ?_
                                        refine gE 72 hA rfl (.inr hI) (fun _ => r_as hA rfl) fun a hA => ?_
                                        refine gN ?_
                                        cases sJ H
                                        exact ⟨hA.sub ⟨rfl, trivial⟩, (hI.sl [5, 0, 1, 2, 6, 7, 8, 9] rfl)⟩
                                    · have hc170 := hc17; obtain ⟨hc17, H⟩ := dF H hc17
                                      refine g_skip (i := 44) hA rfl (wanted_no hA rfl rfl (by rw [hc170]; simp [vb])) (by kernel_rfl) (.inr hI) rfl fun a hA => ?_
                                      refine g_skip (i := 45) hA rfl (wanted_no hA rfl rfl (by rw [hc170]; simp [vb])) (by kernel_rfl) (.inr hI) rfl fun a hA => ?_
                                      refine g_skip (i := 46) hA rfl (wanted_no hA rfl rfl (by rw [hc170]; simp [vb])) (by kernel_rfl) (.inr hI) rfl fun a hA => ?_
                                      refine g_skip (i := 47) hA rfl (wanted_no hA rfl rfl (by rw [hc170]; simp [vb])) (by kernel_rfl) (.inr hI) rfl fun a hA => ?_
                                      refine g_skip (i := 48) hA rfl (wanted_no hA rfl rfl (by rw [hc170]; simp [vb])) (by kernel_rfl) (.inr hI) rfl fun a hA => ?_
                                      refine g_skip (i := 49) hA rfl (wanted_no hA rfl rfl (by rw [hc170]; simp [vb])) (by kernel_rfl) (.inr hI) rfl fun a hA => ?_
                                      refine gE 50 hA rfl (.inr hI) (fun _ => r_pick_f hA rfl hc170 rfl) fun a hA => ?_
                                      refine gE 51 hA rfl (.inr hI) (fun _ => r_mv hA rfl) fun a hA => ?_
                                      refine g_skip (i := 52) hA rfl (wanted_no hA rfl rfl (by simp [vb])) (by kernel_rfl) (.inr hI) rfl fun a hA => ?_
                                      refine g_skip (i := 53) hA rfl (wanted_no hA rfl rfl (by simp [vb])) (by kernel_rfl) (.inr hI) rfl fun a hA => ?_
                                      refine g_skip (i := 54) hA rfl (wanted_no hA rfl rfl (by simp [vb])) (by kernel_rfl) (.inr hI) rfl fun a hA => ?_
                                      refine g_skip (i := 55) hA rfl (wanted_no hA rfl rfl (by simp [vb])) (by kernel_rfl) (.inr hI) rfl fun a hA => ?_
                                      refine g_skip (i := 56) hA rfl (wanted_no hA rfl rfl (by simp [vb])) (by kernel_rfl) (.inr hI) rfl fun a hA => ?_
                                      refine g_skip (i := 57) hA rfl (wanted_no hA rfl rfl (by simp [vb])) (by kernel_rfl) (.inr hI) rfl fun a hA => ?_
                                      refine g_skip (i := 58) hA rfl (wanted_no hA rfl rfl (by simp [vb])) (by kernel_rfl) (.inr hI) rfl fun a hA => ?_
                                      refine gE 59 hA rfl (.inr hI) (fun _ => r_pick_f hA rfl rfl rfl) fun a hA => ?_
                                      refine gE 60 hA rfl (.inr hI) (fun _ => r_mv hA rfl) fun a hA => ?_
                                      refine g_skip (i := 61) hA rfl (wanted_no hA rfl rfl (by simp [vb])) (by kernel_rfl) (.inr hI) rfl fun a hA => ?_
                                      refine g_skip (i := 64) hA rfl (wanted_no hA rfl rfl (by simp [vb])) (by kernel_rfl) (.inr hI) rfl fun a hA => ?_
                                      refine g_skip (i := 65) hA rfl (wanted_no hA rfl rfl (by simp [vb])) (by kernel_rfl) (.inr hI) rfl fun a hA => ?_
                                      refine g_skip (i := 66) hA rfl (wanted_no hA rfl rfl (by simp [vb])) (by kernel_rfl) (.inr hI) rfl fun a hA => ?_
                                      refine g_skip (i := 62) hA rfl (wanted_no hA rfl rfl (by simp [vb])) (by kernel_rfl) (.inr hI) rfl fun a hA => ?_
                                      refine g_skip (i := 63) hA rfl (wanted_no hA rfl rfl (by simp [vb])) (by kernel_rfl) (.inr hI) rfl fun a hA => ?_
                                      refine g_skip (i := 67) hA rfl (wanted_no hA rfl rfl (by simp [vb])) (by kernel_rfl) (.inr hI) rfl fun a hA => ?_
                                      refine gE 68 hA rfl (.inr hI) (fun _ => r_pick_f hA rfl rfl rfl) fun a hA => ?_
                                      refine gE 69 hA rfl (.inr hI) (fun _ => r_mv hA rfl) fun a hA => ?_
                                      refine g_skip (i := 70) hA rfl (wanted_no hA rfl rfl (by simp [vb])) (by kernel_rfl) (.inr hI) rfl fun a hA => ?_
                                      refine gE 71 hA rfl (.inr hI) (fun _ => r_pick_f hA rfl rfl rfl) fun a hA => ?_
                                      refine gE 72 hA rfl (.inr hI) (fun _ => r_as hA rfl) fun a hA => ?_
                                      refine gN ?_
                                      cases sJ H
                                      exact ⟨hA.sub ⟨rfl, trivial⟩, (hI.sl [5, 0, 1, 2, 6, 7, 8, 9] rfl)⟩
                                  · have hc160 := hc16; obtain ⟨hc16, H⟩ := dF H hc16
                                    refine g_skip (i := 37) hA rfl (wanted_no hA rfl rfl (by rw [hc160]; simp [vb])) (by kernel_rfl) (.inr (hI.sl [3, 0, 1, 2, 4, 5, 6, 7, 8, 9] rfl)) rfl fun a hA => ?_
                                    refine g_skip (i := 38) hA rfl (wanted_no hA rfl rfl (by rw [hc160]; simp [vb])) (by kernel_rfl) (.inr (hI.sl [3, 0, 1, 2, 4, 5, 6, 7, 8, 9] rfl)) rfl fun a hA => ?_
                                    refine g_skip (i := 39) hA rfl (wanted_no hA rfl rfl (by rw [hc160]; simp [vb])) (by kernel_rfl) (.inr (hI.sl [3, 0, 1, 2, 4, 5, 6, 7, 8, 9] rfl)) rfl fun a hA => ?_
                                    refine g_skip (i := 40) hA rfl (wanted_no hA rfl rfl (by rw [hc160]; simp [vb])) (by kernel_rfl) (.inr (hI.sl [3, 0, 1, 2, 4, 5, 6, 7, 8, 9] rfl)) rfl fun a hA => ?_
                                    refine g_skip (i := 41) hA rfl (wanted_no hA rfl rfl (by rw [hc160]; simp [vb])) (by kernel_rfl) (.inr (hI.sl [3, 0, 1, 2, 4, 5, 6, 7, 8, 9] rfl)) rfl fun a hA => ?_
                                    refine gE 42 hA rfl (.inr (hI.sl [3, 0, 1, 2, 4, 5, 6, 7, 8, 9] rfl)) (fun _ => r_pick_f hA rfl hc160 rfl) fun a hA => ?_
                                    refine gE 43 hA rfl (.inr (hI.sl [3, 0, 1, 2, 4, 5, 6, 7, 8, 9] rfl)) (fun _ => r_mv hA rfl) fun a hA => ?_
                                    refine g_skip (i := 44) hA rfl (wanted_no hA rfl rfl (by simp [vb])) (by kernel_rfl) (.inr (hI.sl [3, 0, 1, 2, 4, 5, 6, 7, 8, 9] rfl)) rfl fun a hA => ?_
                                    refine g_skip (i := 45) hA rfl (wanted_no hA rfl rfl (by simp [vb])) (by kernel_rfl) (.inr (hI.sl [3, 0, 1, 2, 4, 5, 6, 7, 8, 9] rfl)) rfl fun a hA => ?_
                                    refine g_skip (i := 46) hA rfl (wanted_no hA rfl rfl (by simp [vb])) (by kernel_rfl) (.inr (hI.sl [3, 0, 1, 2, 4, 5, 6, 7, 8, 9] rfl)) rfl fun a hA => ?_
                                    refine g_skip (i := 47) hA rfl (wanted_no hA rfl rfl (by simp [vb])) (by kernel_rfl) (.inr (hI.sl [3, 0, 1, 2, 4, 5, 6, 7, 8, 9] rfl)) rfl fun a hA => ?_
                                    refine g_skip (i := 48) hA rfl (wanted_no hA rfl rfl (by simp [vb])) (by kernel_rfl) (.inr (hI.sl [3, 0, 1, 2, 4, 5, 6, 7, 8, 9] rfl)) rfl fun a hA => ?_
                                    refine g_skip (i := 49) hA rfl (wanted_no hA rfl rfl (by simp [vb])) (by kernel_rfl) (.inr (hI.sl [3, 0, 1, 2, 4, 5, 6, 7, 8, 9] rfl)) rfl fun a hA => ?_
                                    refine gE 50 hA rfl (.inr (hI.sl [3, 0, 1, 2, 4, 5, 6, 7, 8, 9] rfl)) (fun _ => r_pick_f hA rfl rfl rfl) fun a hA => ?_
                                    refine gE 51 hA rfl (.inr (hI.sl [3, 0, 1, 2, 4, 5, 6, 7, 8, 9] rfl)) (fun _ => r_mv hA rfl) fun a hA => ?_
                                    refine g_skip (i := 52) hA rfl (wanted_no hA rfl rfl (by simp [vb])) (by kernel_rfl) (.inr (hI.sl [3, 0, 1, 2, 4, 5, 6, 7, 8, 9] rfl)) rfl fun a hA => ?_
                                    refine g_skip (i := 53) hA rfl (wanted_no hA rfl rfl (by simp [vb])) (by kernel_rfl) (.inr (hI.sl [3, 0, 1, 2, 4, 5, 6, 7, 8, 9] rfl)) rfl fun a hA => ?_
                                    refine g_skip (i := 54) hA rfl (wanted_no hA rfl rfl (by simp [vb])) (by kernel_rfl) (.inr (hI.sl [3, 0, 1, 2, 4, 5, 6, 7, 8, 9] rfl)) rfl fun a hA => ?_
                                    refine g_skip (i := 55) hA rfl (wanted_no hA rfl rfl (by simp [vb])) (by kernel_rfl) (.inr (hI.sl [3, 0, 1, 2, 4, 5, 6, 7, 8, 9] rfl)) rfl fun a hA => ?_
                                    refine g_skip (i := 56) hA rfl (wanted_no hA rfl rfl (by simp [vb])) (by kernel_rfl) (.inr (hI.sl [3, 0, 1, 2, 4, 5, 6, 7, 8, 9] rfl)) rfl fun a hA => ?_
                                    refine g_skip (i := 57) hA rfl (wanted_no hA rfl rfl (by simp [vb])) (by kernel_rfl) (.inr (hI.sl [3, 0, 1, 2, 4, 5, 6, 7, 8, 9] rfl)) rfl fun a hA => ?_
                                    refine g_skip (i := 58) hA rfl (wanted_no hA rfl rfl (by simp [vb])) (by kernel_rfl) (.inr (hI.sl [3, 0, 1, 2, 4, 5, 6, 7, 8, 9] rfl)) rfl fun a hA => ?_
                                    refine gE 59 hA rfl (.inr (hI.sl [3, 0, 1, 2, 4, 5, 6, 7, 8, 9] rfl)) (fun _ => r_pick_f hA rfl rfl rfl) fun a hA => ?_
                                    refine gE 60 hA rfl (.inr (hI.sl [3, 0, 1, 2, 4, 5, 6, 7, 8, 9] rfl)) (fun _ => r_mv hA rfl) fun a hA => ?_
                                    refine g_skip (i := 61) hA rfl (wanted_no hA rfl rfl (by simp [vb])) (by kernel_rfl) (.inr (hI.sl [3, 0, 1, 2, 4, 5, 6, 7, 8, 9] rfl)) rfl fun a hA => ?_
                                    refine g_skip (i := 64) hA rfl (wanted_no hA rfl rfl (by simp [vb])) (by kernel_rfl) (.inr (hI.sl [3, 0, 1, 2, 4, 5, 6, 7, 8, 9] rfl)) rfl fun a hA => ?_
                                    refine g_skip (i := 65) hA rfl (wanted_no hA rfl rfl (by simp [vb])) (by kernel_rfl) (.inr (hI.sl [3, 0, 1, 2, 4, 5, 6, 7, 8, 9] rfl)) rfl fun a hA => ?_
                                    refine g_skip (i := 66) hA rfl (wanted_no hA rfl rfl (by simp [vb])) (by kernel_rfl) (.inr (hI.sl [3, 0, 1, 2, 4, 5, 6, 7, 8, 9] rfl)) rfl fun a hA => ?_
                                    refine g_skip (i := 62) hA rfl (wanted_no hA rfl rfl (by simp [vb])) (by kernel_rfl) (.inr (hI.sl [3, 0, 1, 2, 4, 5, 6, 7, 8, 9] rfl)) rfl fun a hA => ?_
                                    refine g_skip (i := 63) hA rfl (wanted_no hA rfl rfl (by simp [vb])) (by kernel_rfl) (.inr (hI.sl [3, 0, 1, 2, 4, 5, 6, 7, 8, 9] rfl)) rfl fun a hA => ?_
                                    refine g_skip (i := 67) hA rfl (wanted_no hA rfl rfl (by simp [vb])) (by kernel_rfl) (.inr (hI.sl [3, 0, 1, 2, 4, 5, 6, 7, 8, 9] rfl)) rfl fun a hA => ?_
                                    refine gE 68 hA rfl (.inr (hI.sl [3, 0, 1, 2, 4, 5, 6, 7, 8, 9] rfl)) (fun _ => r_pick_f hA rfl rfl rfl) fun a hA => ?_
                                    refine gE 69 hA rfl (.inr (hI.sl [3, 0, 1, 2, 4, 5, 6, 7, 8, 9] rfl)) (fun _ => r_mv hA rfl) fun a hA => ?_
                                    refine g_skip (i := 70) hA rfl (wanted_no hA rfl rfl (by simp [vb])) (by kernel_rfl) (.inr (hI.sl [3, 0, 1, 2, 4, 5, 6, 7, 8, 9] rfl)) rfl fun a hA => ?_
                                    refine gE 71 hA rfl (.inr (hI.sl [3, 0, 1, 2, 4, 5, 6, 7, 8, 9] rfl)) (fun _ => r_pick_f hA rfl rfl rfl) fun a hA => ?_
                                    refine gE 72 hA rfl (.inr (hI.sl [3, 0, 1, 2, 4, 5, 6, 7, 8, 9] rfl)) (fun _ => r_as hA rfl) fun a hA => ?_
                                    refine gN ?_
                                    cases sJ H
                                    exact ⟨hA.sub ⟨rfl, trivial⟩, (hI.sl [5, 0, 1, 2, 6, 7, 8, 9] rfl)⟩
                                · have hc150 := hc15; obtain ⟨hc15, H⟩ := dF H hc15
                                  refine g_skip (i := 32) hA rfl (wanted_no hA rfl rfl (by rw [hc150]; simp [vb])) (by kernel_rfl) (.inr hI) rfl fun a hA => ?_
                                  refine g_skip (i := 33) hA rfl (wanted_no hA rfl rfl (by rw [hc150]; simp [vb])) (by kernel_rfl) (.inr hI) rfl fun a hA => ?_
                                  refine g_skip (i := 34) hA rfl (wanted_no hA rfl rfl (by rw [hc150]; simp [vb])) (by kernel_rfl) (.inr hI) rfl fun a hA => ?_
                                  refine gE 35 hA rfl (.inr hI) (fun _ => r_pick_f hA rfl hc150 rfl) fun a hA => ?_
                                  refine gE 36 hA rfl (.inr hI) (fun _ => r_mv hA rfl) fun a hA => ?_
                                  refine g_skip (i := 37) hA rfl (wanted_no hA rfl rfl (by simp [vb])) (by kernel_rfl) (.inr hI) rfl fun a hA => ?_
                                  refine g_skip (i := 38) hA rfl (wanted_no hA rfl rfl (by simp [vb])) (by kernel_rfl) (.inr hI) rfl fun a hA => ?_
                                  refine g_skip (i := 39) hA rfl (wanted_no hA rfl rfl (by simp [vb])) (by kernel_rfl) (.inr hI) rfl fun a hA => ?_
                                  refine g_skip (i := 40) hA rfl (wanted_no hA rfl rfl (by simp [vb])) (by kernel_rfl) (.inr hI) rfl fun a hA => ?_
                                  refine g_skip (i := 41) hA rfl (wanted_no hA rfl rfl (by simp [vb])) (by kernel_rfl) (.inr hI) rfl fun a hA => ?_
                                  refine gE 42 hA rfl (.inr hI) (fun _ => r_pick_f hA rfl rfl rfl) fun a hA => ?_
                                  refine gE 43 hA rfl (.inr hI) (fun _ => r_mv hA rfl) fun a hA => ?_
                                  refine g_skip (i := 44) hA rfl (wanted_no hA rfl rfl (by simp [vb])) (by kernel_rfl) (.inr hI) rfl fun a hA => ?_
                                  refine g_skip (i := 45) hA rfl (wanted_no hA rfl rfl (by simp [vb])) (by kernel_rfl) (.inr hI) rfl fun a hA => ?_
                                  refine g_skip (i := 46) hA rfl (wanted_no hA rfl rfl (by simp [vb])) (by kernel_rfl) (.inr hI) rfl fun a hA => ?_
                                  refine g_skip (i := 47) hA rfl (wanted_no hA rfl rfl (by simp [vb])) (by kernel_rfl) (.inr hI) rfl fun a hA => ?_
                                  refine g_skip (i := 48) hA rfl (wanted_no hA rfl rfl (by simp [vb])) (by kernel_rfl) (.inr hI) rfl fun a hA => ?_
                                  refine g_skip (i := 49) hA rfl (wanted_no hA rfl rfl (by simp [vb])) (by kernel_rfl) (.inr hI) rfl fun a hA => ?_
                                  refine gE 50 hA rfl (.inr hI) (fun _ => r_pick_f hA rfl rfl rfl) fun a hA => ?_
                                  refine gE 51 hA rfl (.inr hI) (fun _ => r_mv hA rfl) fun a hA => ?_
                                  refine g_skip (i := 52) hA rfl (wanted_no hA rfl rfl (by simp [vb])) (by kernel_rfl) (.inr hI) rfl fun a hA => ?_
                                  refine g_skip (i := 53) hA rfl (wanted_no hA rfl rfl (by simp [vb])) (by kernel_rfl) (.inr hI) rfl fun a hA => ?_
                                  refine g_skip (i := 54) hA rfl (wanted_no hA rfl rfl (by simp [vb])) (by kernel_rfl) (.inr hI) rfl fun a hA => ?_
                                  refine g_skip (i := 55) hA rfl (wanted_no hA rfl rfl (by simp [vb])) (by kernel_rfl) (.inr hI) rfl fun a hA => ?_
                                  refine g_skip (i := 56) hA rfl (wanted_no hA rfl rfl (by simp [vb])) (by kernel_rfl) (.inr hI) rfl fun a hA => ?_
                                  refine g_skip (i := 57) hA rfl (wanted_no hA rfl rfl (by simp [vb])) (by kernel_rfl) (.inr hI) rfl fun a hA => ?_
                                  refine g_skip (i := 58) hA rfl (wanted_no hA rfl rfl (by simp [vb])) (by kernel_rfl) (.inr hI) rfl fun a hA => ?_
                                  refine gE 59 hA rfl (.inr hI) (fun _ => r_pick_f hA rfl rfl rfl) fun a hA => ?_
                                  refine gE 60 hA rfl (.inr hI) (fun _ => r_mv hA rfl) fun a hA => ?_
                                  refine g_skip (i := 61) hA rfl (wanted_no hA rfl rfl (by simp [vb])) (by kernel_rfl) (.inr hI) rfl fun a hA => ?_
                                  refine g_skip (i := 64) hA rfl (wanted_no hA rfl rfl (by simp [vb])) (by kernel_rfl) (.inr hI) rfl fun a hA => ?_
                                  refine g_skip (i := 65) hA rfl (wanted_no hA rfl rfl (by simp [vb])) (by kernel_rfl) (.inr hI) rfl fun a hA => ?_
                                  refine g_skip (i := 66) hA rfl (wanted_no hA rfl rfl (by simp [vb])) (by kernel_rfl) (.inr hI) rfl fun a hA => ?_
                                  refine g_skip (i := 62) hA rfl (wanted_no hA rfl rfl (by simp [vb])) (by kernel_rfl) (.inr hI) rfl fun a hA => ?_
                                  refine g_skip (i := 63) hA rfl (wanted_no hA rfl rfl (by simp [vb])) (by kernel_rfl) (.inr hI) rfl fun a hA => ?_
                                  refine g_skip (i := 67) hA rfl (wanted_no hA rfl rfl (by simp [vb])) (by kernel_rfl) (.inr hI) rfl fun a hA => ?_
                                  refine gE 68 hA rfl (.inr hI) (fun _ => r_pick_f hA rfl rfl rfl) fun a hA => ?_
                                  refine gE 69 hA rfl (.inr hI) (fun _ => r_mv hA rfl) fun a hA => ?_
                                  refine g_skip (i := 70) hA rfl (wanted_no hA rfl rfl (by simp [vb])) (by kernel_rfl) (.inr hI) rfl fun a hA => ?_
                                  refine gE 71 hA rfl (.inr hI) (fun _ => r_pick_f hA rfl rfl rfl) fun a hA => ?_
                                  refine gE 72 hA rfl (.inr hI) (fun _ => r_as hA rfl) fun a hA => ?_
                                  refine gN ?_
                                  cases sJ H
                                  exact ⟨hA.sub ⟨rfl, trivial⟩, (hI.sl [5, 1, 2, 3, 6, 7, 8, 9] rfl)⟩
                              · have hc140 := hc14; obtain ⟨hc14, H⟩ := dF H hc14
                                refine g_skip (i := 26) hA rfl (wanted_no hA rfl rfl (by rw [hc140]; simp [vb])) (by kernel_rfl) (.inr hI) rfl fun a hA => ?_
                                refine g_skip (i := 27) hA rfl (wanted_no hA rfl rfl (by rw [hc140]; simp [vb])) (by kernel_rfl) (.inr hI) rfl fun a hA => ?_
                                refine g_skip (i := 28) hA rfl (wanted_no hA rfl rfl (by rw [hc140]; simp [vb])) (by kernel_rfl) (.inr hI) rfl fun a hA => ?_
                                refine g_skip (i := 29) hA rfl (wanted_no hA rfl rfl (by rw [hc140]; simp [vb])) (by kernel_rfl) (.inr hI) rfl fun a hA => ?_
                                refine gE 30 hA rfl (.inr hI) (fun _ => r_pick_f hA rfl hc140 rfl) fun a hA => ?_
                                refine gE 31 hA rfl (.inr hI) (fun _ => r_mv hA rfl) fun a hA => ?_
                                refine g_skip (i := 32) hA rfl (wanted_no hA rfl rfl (by simp [vb])) (by kernel_rfl) (.inr hI) rfl fun a hA => ?_
                                refine g_skip (i := 33) hA rfl (wanted_no hA rfl rfl (by simp [vb])) (by kernel_rfl) (.inr hI) rfl fun a hA => ?_
                                refine g_skip (i := 34) hA rfl (wanted_no hA rfl rfl (by simp [vb])) (by kernel_rfl) (.inr hI) rfl fun a hA => ?_
                                refine gE 35 hA rfl (.inr hI) (fun _ => r_pick_f hA rfl rfl rfl) fun a hA => ?_
                                refine gE 36 hA rfl (.inr hI) (fun _ => r_mv hA rfl) fun a hA => ?_
                                refine g_skip (i := 37) hA rfl (wanted_no hA rfl rfl (by simp [vb])) (by kernel_rfl) (.inr hI) rfl fun a hA => ?_
                                refine g_skip (i := 38) hA rfl (wanted_no hA rfl rfl (by simp [vb])) (by kernel_rfl) (.inr hI) rfl fun a hA => ?_
                                refine g_skip (i := 39) hA rfl (wanted_no hA rfl rfl (by simp [vb])) (by kernel_rfl) (.inr hI) rfl fun a hA => ?_
                                refine g_skip (i := 40) hA rfl (wanted_no hA rfl rfl (by simp [vb])) (by kernel_rfl) (.inr hI) rfl fun a hA => ?_
                                refine g_skip (i := 41) hA rfl (wanted_no hA rfl rfl (by simp [vb])) (by kernel_rfl) (.inr hI) rfl fun a hA => ?_
                                refine gE 42 hA rfl (.inr hI) (fun _ => r_pick_f hA rfl rfl rfl) fun a hA => ?_
                                refine gE 43 hA rfl (.inr hI) (fun _ => r_mv hA rfl) fun a hA => ?_
                                refine g_skip (i := 44) hA rfl (wanted_no hA rfl rfl (by simp [vb])) (by kernel_rfl) (.inr hI) rfl fun a hA => ?_
                                refine g_skip (i := 45) hA rfl (wanted_no hA rfl rfl (by simp [vb])) (by kernel_rfl) (.inr hI) rfl fun a hA => ?_
                                refine g_skip (i := 46) hA rfl (wanted_no hA rfl rfl (by simp [vb])) (by kernel_rfl) (.inr hI) rfl fun a hA => ?_
                                refine g_skip (i := 47) hA rfl (wanted_no hA rfl rfl (by simp [vb])) (by kernel_rfl) (.inr hI) rfl fun a hA => ?_
                                refine g_skip (i := 48) hA rfl (wanted_no hA rfl rfl (by simp [vb])) (by kernel_rfl) (.inr hI) rfl fun a hA => ?_
                                refine g_skip (i := 49) hA rfl (wanted_no hA rfl rfl (by simp [vb])) (by kernel_rfl) (.inr hI) rfl fun a hA => ?_
                                refine gE 50 hA rfl (.inr hI) (fun _ => r_pick_f hA rfl rfl rfl) fun a hA => ?_
                                refine gE 51 hA rfl (.inr hI) (fun _ => r_mv hA rfl) fun a hA => ?_
                                refine g_skip (i := 52) hA rfl (wanted_no hA rfl rfl (by simp [vb])) (by kernel_rfl) (.inr hI) rfl fun a hA => ?_
                                refine g_skip (i := 53) hA rfl (wanted_no hA rfl rfl (by simp [vb])) (by kernel_rfl) (.inr hI) rfl fun a hA => ?_
                                refine g_skip (i := 54) hA rfl (wanted_no hA rfl rfl (by simp [vb])) (by kernel_rfl) (.inr hI) rfl fun a hA => ?_
                                refine g_skip (i := 55) hA rfl (wanted_no hA rfl rfl (by simp [vb])) (by kernel_rfl) (.inr hI) rfl fun a hA => ?_
                                refine g_skip (i := 56) hA rfl (wanted_no hA rfl rfl (by simp [vb])) (by kernel_rfl) (.inr hI) rfl fun a hA => ?_
                                refine g_skip (i := 57) hA rfl (wanted_no hA rfl rfl (by simp [vb])) (by kernel_rfl) (.inr hI) rfl fun a hA => ?_
                                refine g_skip (i := 58) hA rfl (wanted_no hA rfl rfl (by simp [vb])) (by kernel_rfl) (.inr hI) rfl fun a hA => ?_
                                refine gE 59 hA rfl (.inr hI) (fun _ => r_pick_f hA rfl rfl rfl) fun a hA => ?_
                                refine gE 60 hA rfl (.inr hI) (fun _ => r_mv hA rfl) fun a hA => ?_
                                refine g_skip (i := 61) hA rfl (wanted_no hA rfl rfl (by simp [vb])) (by kernel_rfl) (.inr hI) rfl fun a hA => ?_
                                refine g_skip (i := 64) hA rfl (wanted_no hA rfl rfl (by simp [vb])) (by kernel_rfl) (.inr hI) rfl fun a hA => ?_
                                refine g_skip (i := 65) hA rfl (wanted_no hA rfl rfl (by simp [vb])) (by kernel_rfl) (.inr hI) rfl fun a hA => ?_
                                refine g_skip (i := 66) hA rfl (wanted_no hA rfl rfl (by simp [vb])) (by kernel_rfl) (.inr hI) rfl fun a hA => ?_
                                refine g_skip (i := 62) hA rfl (wanted_no hA rfl rfl (by simp [vb])) (by kernel_rfl) (.inr hI) rfl fun a hA => ?_
                                refine g_skip (i := 63) hA rfl (wanted_no hA rfl rfl (by simp [vb])) (by kernel_rfl) (.inr hI) rfl fun a hA => ?_
                                refine g_skip (i := 67) hA rfl (wanted_no hA rfl rfl (by simp [vb])) (by kernel_rfl) (.inr hI) rfl fun a hA => ?_
                                refine gE 68 hA rfl (.inr hI) (fun _ => r_pick_f hA rfl rfl rfl) fun a hA => ?_
                                refine gE 69 hA rfl (.inr hI) (fun _ => r_mv hA rfl) fun a hA => ?_
                                refine g_skip (i := 70) hA rfl (wanted_no hA rfl rfl (by simp [vb])) (by kernel_rfl) (.inr hI) rfl fun a hA => ?_
                                refine gE 71 hA rfl (.inr hI) (fun _ => r_pick_f hA rfl rfl rfl) fun a hA => ?_
                                refine gE 72 hA rfl (.inr hI) (fun _ => r_as hA rfl) fun a hA => ?_
                                refine gN ?_
                                cases sJ H
                                exact ⟨hA.sub ⟨rfl, trivial⟩, (hI.sl [4, 1, 2, 3, 5, 6, 7, 8] rfl)⟩
                            · have hc130 := hc13; obtain ⟨hc13, H⟩ := dF H hc13
                              refine g_skip (i := 19) hA rfl (wanted_no hA rfl rfl (by rw [hc130]; simp [vb])) (by kernel_rfl) (.inr hI) rfl fun a hA => ?_
                              refine g_skip (i := 22) hA rfl (wanted_no hA rfl rfl (by rw [hc130]; simp [vb])) (by kernel_rfl) (.inr hI) rfl fun a hA => ?_
                              refine g_skip (i := 20) hA rfl (wanted_no hA rfl rfl (by rw [hc130]; simp [vb])) (by kernel_rfl) (.inr hI) rfl fun a hA => ?_
                              refine g_skip (i := 21) hA rfl (wanted_no hA rfl rfl (by rw [hc130]; simp [vb])) (by kernel_rfl) (.inr hI) rfl fun a hA => ?_
                              refine g_skip (i := 23) hA rfl (wanted_no hA rfl rfl (by rw [hc130]; simp [vb])) (by kernel_rfl) (.inr hI) rfl fun a hA => ?_
                              refine gE 24 hA rfl (.inr hI) (fun _ => r_pick_f hA rfl hc130 rfl) fun a hA => ?_
                              refine gE 25 hA rfl (.inr hI) (fun _ => r_mv hA rfl) fun a hA => ?_
                              refine g_skip (i := 26) hA rfl (wanted_no hA rfl rfl (by simp [vb])) (by kernel_rfl) (.inr hI) rfl fun a hA => ?_
                              refine g_skip (i := 27) hA rfl (wanted_no hA rfl rfl (by simp [vb])) (by kernel_rfl) (.inr hI) rfl fun a hA => ?_
                              refine g_skip (i := 28) hA rfl (wanted_no hA rfl rfl (by simp [vb])) (by kernel_rfl) (.inr hI) rfl fun a hA => ?_
                              refine g_skip (i := 29) hA rfl (wanted_no hA rfl rfl (by simp [vb])) (by kernel_rfl) (.inr hI) rfl fun a hA => ?_
                              refine gE 30 hA rfl (.inr hI) (fun _ => r_pick_f hA rfl rfl rfl) fun a hA => ?_
                              refine gE 31 hA rfl (.inr hI) (fun _ => r_mv hA rfl) fun a hA => ?_
                              refine g_skip (i := 32) hA rfl (wanted_no hA rfl rfl (by simp [vb])) (by kernel_rfl) (.inr hI) rfl fun a hA => ?_
                              refine g_skip (i := 33) hA rfl (wanted_no hA rfl rfl (by simp [vb])) (by kernel_rfl) (.inr hI) rfl fun a hA => ?_
                              refine g_skip (i := 34) hA rfl (wanted_no hA rfl rfl (by simp [vb])) (by kernel_rfl) (.inr hI) rfl fun a hA => ?_
                              refine gE 35 hA rfl (.inr hI) (fun _ => r_pick_f hA rfl rfl rfl) fun a hA => ?_
                              refine gE 36 hA rfl (.inr hI) (fun _ => r_mv hA rfl) fun a hA => ?_
                              refine g_skip (i := 37) hA rfl (wanted_no hA rfl rfl (by simp [vb])) (by kernel_rfl) (.inr hI) rfl fun a hA => ?_
                              refine g_skip (i := 38) hA rfl (wanted_no hA rfl rfl (by simp [vb])) (by kernel_rfl) (.inr hI) rfl fun a hA => ?_
                              refine g_skip (i := 39) hA rfl (wanted_no hA rfl rfl (by simp [vb])) (by kernel_rfl) (.inr hI) rfl fun a hA => ?_
                              refine g_skip (i := 40) hA rfl (wanted_no hA rfl rfl (by simp [vb])) (by kernel_rfl) (.inr hI) rfl fun a hA => ?_
                              refine g_skip (i := 41) hA rfl (wanted_no hA rfl rfl (by simp [vb])) (by kernel_rfl) (.inr hI) rfl fun a hA => ?_
                              refine gE 42 hA rfl (.inr hI) (fun _ => r_pick_f hA rfl rfl rfl) fun a hA => ?_
                              refine gE 43 hA rfl (.inr hI) (fun _ => r_mv hA rfl) fun a hA => ?_
                              refine g_skip (i := 44) hA rfl (wanted_no hA rfl rfl (by simp [vb])) (by kernel_rfl) (.inr hI) rfl fun a hA => ?_
                              refine g_skip (i := 45) hA rfl (wanted_no hA rfl rfl (by simp [vb])) (by kernel_rfl) (.inr hI) rfl fun a hA => ?_
                              refine g_skip (i := 46) hA rfl (wanted_no hA rfl rfl (by simp [vb])) (by kernel_rfl) (.inr hI) rfl fun a hA => ?_
                              refine g_skip (i := 47) hA rfl (wanted_no hA rfl rfl (by simp [vb])) (by kernel_rfl) (.inr hI) rfl fun a hA => ?_
                              refine g_skip (i := 48) hA rfl (wanted_no hA rfl rfl (by simp [vb])) (by kernel_rfl) (.inr hI) rfl fun a hA => ?_
                              refine g_skip (i := 49) hA rfl (wanted_no hA rfl rfl (by simp [vb])) (by kernel_rfl) (.inr hI) rfl fun a hA => ?_
                              refine gE 50 hA rfl (.inr hI) (fun _ => r_pick_f hA rfl rfl rfl) fun a hA => ?_
                              refine gE 51 hA rfl (.inr hI) (fun _ => r_mv hA rfl) fun a hA => ?_
                              refine g_skip (i := 52) hA rfl (wanted_no hA rfl rfl (by simp [vb])) (by kernel_rfl) (.inr hI) rfl fun a hA => ?_
                              refine g_skip (i := 53) hA rfl (wanted_no hA rfl rfl (by simp [vb])) (by kernel_rfl) (.inr hI) rfl fun a hA => ?_
                              refine g_skip (i := 54) hA rfl (wanted_no hA rfl rfl (by simp [vb])) (by kernel_rfl) (.inr hI) rfl fun a hA => ?_
                              refine g_skip (i := 55) hA rfl (wanted_no hA rfl rfl (by simp [vb])) (by kernel_rfl) (.inr hI) rfl fun a hA => ?_
                              refine g_skip (i := 56) hA rfl (wanted_no hA rfl rfl (by simp [vb])) (by kernel_rfl) (.inr hI) rfl fun a hA => ?_
                              refine g_skip (i := 57) hA rfl (wanted_no hA rfl rfl (by simp [vb])) (by kernel_rfl) (.inr hI) rfl fun a hA => ?_
                              refine g_skip (i := 58) hA rfl (wanted_no hA rfl rfl (by simp [vb])) (by kernel_rfl) (.inr hI) rfl fun a hA => ?_
                              refine gE 59 hA rfl (.inr hI) (fun _ => r_pick_f hA rfl rfl rfl) fun a hA => ?_
                              refine gE 60 hA rfl (.inr hI) (fun _ => r_mv hA rfl) fun a hA => ?_
                              refine g_skip (i := 61) hA rfl (wanted_no hA rfl rfl (by simp [vb])) (by kernel_rfl) (.inr hI) rfl fun a hA => ?_
                              refine g_skip (i := 64) hA rfl (wanted_no hA rfl rfl (by simp [vb])) (by kernel_rfl) (.inr hI) rfl fun a hA => ?_
                              refine g_skip (i := 65) hA rfl (wanted_no hA rfl rfl (by simp [vb])) (by kernel_rfl) (.inr hI) rfl fun a hA => ?_
                              refine g_skip (i := 66) hA rfl (wanted_no hA rfl rfl (by simp [vb])) (by kernel_rfl) (.inr hI) rfl fun a hA => ?_
                              refine g_skip (i := 62) hA rfl (wanted_no hA rfl rfl (by simp [vb])) (by kernel_rfl) (.inr hI) rfl fun a hA => ?_
                              refine g_skip (i := 63) hA rfl (wanted_no hA rfl rfl (by simp [vb])) (by kernel_rfl) (.inr hI) rfl fun a hA => ?_
                              refine g_skip (i := 67) hA rfl (wanted_no hA rfl rfl (by simp [vb])) (by kernel_rfl) (.inr hI) rfl fun a hA => ?_
                              refine gE 68 hA rfl (.inr hI) (fun _ => r_pick_f hA rfl rfl rfl) fun a hA => ?_
                              refine gE 69 hA rfl (.inr hI) (fun _ => r_mv hA rfl) fun a hA => ?_
                              refine g_skip (i := 70) hA rfl (wanted_no hA rfl rfl (by simp [vb])) (by kernel_rfl) (.inr hI) rfl fun a hA => ?_
                              refine gE 71 hA rfl (.inr hI) (fun _ => r_pick_f hA rfl rfl rfl) fun a hA => ?_
                              refine gE 72 hA rfl (.inr hI) (fun _ => r_as hA rfl) fun a hA => ?_
                              refine gN ?_
                              cases sJ H
                              exact ⟨hA.sub ⟨rfl, trivial⟩, (hI.sl [3, 0, 1, 2, 4, 5, 6, 7] rfl)⟩
                          · have hc120 := hc12; obtain ⟨hc12, H⟩ := dF H hc12
                            refine g_skip (i := 15) hA rfl (wanted_no hA rfl rfl (by rw [hc120]; simp [vb])) (by kernel_rfl) (.inr (hI.sl [3, 0, 1, 2, 4, 5, 6, 7] rfl)) rfl fun a hA => ?_
                            refine g_skip (i := 16) hA rfl (wanted_no hA rfl rfl (by rw [hc120]; simp [vb])) (by kernel_rfl) (.inr (hI.sl [3, 0, 1, 2, 4, 5, 6, 7] rfl)) rfl fun a hA => ?_
                            refine gE 17 hA rfl (.inr (hI.sl [3, 0, 1, 2, 4, 5, 6, 7] rfl)) (fun _ => r_pick_f hA rfl hc120 rfl) fun a hA => ?_
                            refine gE 18 hA rfl (.inr (hI.sl [3, 0, 1, 2, 4, 5, 6, 7] rfl)) (fun _ => r_mv hA rfl) fun a hA => ?_
                            refine g_skip (i := 19) hA rfl (wanted_no hA rfl rfl (by simp [vb])) (by kernel_rfl) (.inr (hI.sl [3, 0, 1, 2, 4, 5, 6, 7] rfl)) rfl fun a hA => ?_
                            refine g_skip (i := 22) hA rfl (wanted_no hA rfl rfl (by simp [vb])) (by kernel_rfl) (.inr (hI.sl [3, 0, 1, 2, 4, 5, 6, 7] rfl)) rfl fun a hA => ?_
                            refine g_skip (i := 20) hA rfl (wanted_no hA rfl rfl (by simp [vb])) (by kernel_rfl) (.inr (hI.sl [3, 0, 1, 2, 4, 5, 6, 7] rfl)) rfl fun a hA => ?_
                            refine g_skip (i := 21) hA rfl (wanted_no hA rfl rfl (by simp [vb])) (by kernel_rfl) (.inr (hI.sl [3, 0, 1, 2, 4, 5, 6, 7] rfl)) rfl fun a hA => ?_
                            refine g_skip (i := 23) hA rfl (wanted_no hA rfl rfl (by simp [vb])) (by kernel_rfl) (.inr (hI.sl [3, 0, 1, 2, 4, 5, 6, 7] rfl)) rfl fun a hA => ?_
                            refine gE 24 hA rfl (.inr (hI.sl [3, 0, 1, 2, 4, 5, 6, 7] rfl)) (fun _ => r_pick_f hA rfl rfl rfl) fun a hA => ?_
                            refine gE 25 hA rfl (.inr (hI.sl [3, 0, 1, 2, 4, 5, 6, 7] rfl)) (fun _ => r_mv hA rfl) fun a hA => ?_
                            refine g_skip (i := 26) hA rfl (wanted_no hA rfl rfl (by simp [vb])) (by kernel_rfl) (.inr (hI.sl [3, 0, 1, 2, 4, 5, 6, 7] rfl)) rfl fun a hA => ?_
                            refine g_skip (i := 27) hA rfl (wanted_no hA rfl rfl (by simp [vb])) (by kernel_rfl) (.inr (hI.sl [3, 0, 1, 2, 4, 5, 6, 7] rfl)) rfl fun a hA => ?_
                            refine g_skip (i := 28) hA rfl (wanted_no hA rfl rfl (by simp [vb])) (by kernel_rfl) (.inr (hI.sl [3, 0, 1, 2, 4, 5, 6, 7] rfl)) rfl fun a hA => ?_
                            refine g_skip (i := 29) hA rfl (wanted_no hA rfl rfl (by simp [vb])) (by kernel_rfl) (.inr (hI.sl [3, 0, 1, 2, 4, 5, 6, 7] rfl)) rfl fun a hA => ?_
                            refine gE 30 hA rfl (.inr (hI.sl [3, 0, 1, 2, 4, 5, 6, 7] rfl)) (fun _ => r_pick_f hA rfl rfl rfl) fun a hA => ?_
                            refine gE 31 hA rfl (.inr (hI.sl [3, 0, 1, 2, 4, 5, 6, 7] rfl)) (fun _ => r_mv hA rfl) fun a hA => ?_
                            refine g_skip (i := 32) hA rfl (wanted_no hA rfl rfl (by simp [vb])) (by kernel_rfl) (.inr (hI.sl [3, 0, 1, 2, 4, 5, 6, 7] rfl)) rfl fun a hA => ?_
                            refine g_skip (i := 33) hA rfl (wanted_no hA rfl rfl (by simp [vb])) (by kernel_rfl) (.inr (hI.sl [3, 0, 1, 2, 4, 5, 6, 7] rfl)) rfl fun a hA => ?_
                            refine g_skip (i := 34) hA rfl (wanted_no hA rfl rfl (by simp [vb])) (by kernel_rfl) (.inr (hI.sl [3, 0, 1, 2, 4, 5, 6, 7] rfl)) rfl fun a hA => ?_
                            refine gE 35 hA rfl (.inr (hI.sl [3, 0, 1, 2, 4, 5, 6, 7] rfl)) (fun _ => r_pick_f hA rfl rfl rfl) fun a hA => ?_
                            refine gE 36 hA rfl (.inr (hI.sl [3, 0, 1, 2, 4, 5, 6, 7] rfl)) (fun _ => r_mv hA rfl) fun a hA => ?_
                            refine g_skip (i := 37) hA rfl (wanted_no hA rfl rfl (by simp [vb])) (by kernel_rfl) (.inr (hI.sl [3, 0, 1, 2, 4, 5, 6, 7] rfl)) rfl fun a hA => ?_
                            refine g_skip (i := 38) hA rfl (wanted_no hA rfl rfl (by simp [vb])) (by kernel_rfl) (.inr (hI.sl [3, 0, 1, 2, 4, 5, 6, 7] rfl)) rfl fun a hA => ?_
                            refine g_skip (i := 39) hA rfl (wanted_no hA rfl rfl (by simp [vb])) (by kernel_rfl) (.inr (hI.sl [3, 0, 1, 2, 4, 5, 6, 7] rfl)) rfl fun a hA => ?_
                            refine g_skip (i := 40) hA rfl (wanted_no hA rfl rfl (by simp [vb])) (by kernel_rfl) (.inr (hI.sl [3, 0, 1, 2, 4, 5, 6, 7] rfl)) rfl fun a hA => ?_
                            refine g_skip (i := 41) hA rfl (wanted_no hA rfl rfl (by simp [vb])) (by kernel_rfl) (.inr (hI.sl [3, 0, 1, 2, 4, 5, 6, 7] rfl)) rfl fun a hA => ?_
                            refine gE 42 hA rfl (.inr (hI.sl [3, 0, 1, 2, 4, 5, 6, 7] rfl)) (fun _ => r_pick_f hA rfl rfl rfl) fun a hA => ?_
                            refine gE 43 hA rfl (.inr (hI.sl [3, 0, 1, 2, 4, 5, 6, 7] rfl)) (fun _ => r_mv hA rfl) fun a hA => ?_
                            refine g_skip (i := 44) hA rfl (wanted_no hA rfl rfl (by simp [vb])) (by kernel_rfl) (.inr (hI.sl [3, 0, 1, 2, 4, 5, 6, 7] rfl)) rfl fun a hA => ?_
                            refine g_skip (i := 45) hA rfl (wanted_no hA rfl rfl (by simp [vb])) (by kernel_rfl) (.inr (hI.sl [3, 0, 1, 2, 4, 5, 6, 7] rfl)) rfl fun a hA => ?_
                            refine g_skip (i := 46) hA rfl (wanted_no hA rfl rfl (by simp [vb])) (by kernel_rfl) (.inr (hI.sl [3, 0, 1, 2, 4, 5, 6, 7] rfl)) rfl fun a hA => ?_
                            refine g_skip (i := 47) hA rfl (wanted_no hA rfl rfl (by simp [vb])) (by kernel_rfl) (.inr (hI.sl [3, 0, 1, 2, 4, 5, 6, 7] rfl)) rfl fun a hA => ?_
                            refine g_skip (i := 48) hA rfl (wanted_no hA rfl rfl (by simp [vb])) (by kernel_rfl) (.inr (hI.sl [3, 0, 1, 2, 4, 5, 6, 7] rfl)) rfl fun a hA => ?_
                            refine g_skip (i := 49) hA rfl (wanted_no hA rfl rfl (by simp [vb])) (by kernel_rfl) (.inr (hI.sl [3, 0, 1, 2, 4, 5, 6, 7] rfl)) rfl fun a hA => ?_
                            refine gE 50 hA rfl (.inr (hI.sl [3, 0, 1, 2, 4, 5, 6, 7] rfl)) (fun _ => r_pick_f hA rfl rfl rfl) fun a hA => ?_
                            refine gE 51 hA rfl (.inr (hI.sl [3, 0, 1, 2, 4, 5, 6, 7] rfl)) (fun _ => r_mv hA rfl) fun a hA => ?_
                            refine g_skip (i := 52) hA rfl (wanted_no hA rfl rfl (by simp [vb])) (by kernel_rfl) (.inr (hI.sl [3, 0, 1, 2, 4, 5, 6, 7] rfl)) rfl fun a hA => ?_
                            refine g_skip (i := 53) hA rfl (wanted_no hA rfl rfl (by simp [vb])) (by kernel_rfl) (.inr (hI.sl [3, 0, 1, 2, 4, 5, 6, 7] rfl)) rfl fun a hA => ?_
                            refine g_skip (i := 54) hA rfl (wanted_no hA rfl rfl (by simp [vb])) (by kernel_rfl) (.inr (hI.sl [3, 0, 1, 2, 4, 5, 6, 7] rfl)) rfl fun a hA => ?_
                            refine g_skip (i := 55) hA rfl (wanted_no hA rfl rfl (by simp [vb])) (by kernel_rfl) (.inr (hI.sl [3, 0, 1, 2, 4, 5, 6, 7] rfl)) rfl fun a hA => ?_
                            refine g_skip (i := 56) hA rfl (wanted_no hA rfl rfl (by simp [vb])) (by kernel_rfl) (.inr (hI.sl [3, 0, 1, 2, 4, 5, 6, 7] rfl)) rfl fun a hA => ?_
                            refine g_skip (i := 57) hA rfl (wanted_no hA rfl rfl (by simp [vb])) (by kernel_rfl) (.inr (hI.sl [3, 0, 1, 2, 4, 5, 6, 7] rfl)) rfl fun a hA => ?_
                            refine g_skip (i := 58) hA rfl (wanted_no hA rfl rfl (by simp [vb])) (by kernel_rfl) (.inr (hI.sl [3, 0, 1, 2, 4, 5, 6, 7] rfl)) rfl fun a hA => ?_
                            refine gE 59 hA rfl (.inr (hI.sl [3, 0, 1, 2, 4, 5, 6, 7] rfl)) (fun _ => r_pick_f hA rfl rfl rfl) fun a hA => ?_
                            refine gE 60 hA rfl (.inr (hI.sl [3, 0, 1, 2, 4, 5, 6, 7] rfl)) (fun _ => r_mv hA rfl) fun a hA => ?_
                            refine g_skip (i := 61) hA rfl (wanted_no hA rfl rfl (by simp [vb])) (by kernel_rfl) (.inr (hI.sl [3, 0, 1, 2, 4, 5, 6, 7] rfl)) rfl fun a hA => ?_
                            refine g_skip (i := 64) hA rfl (wanted_no hA rfl rfl (by simp [vb])) (by kernel_rfl) (.inr (hI.sl [3, 0, 1, 2, 4, 5, 6, 7] rfl)) rfl fun a hA => ?_
                            refine g_skip (i := 65) hA rfl (wanted_no hA rfl rfl (by simp [vb])) (by kernel_rfl) (.inr (hI.sl [3, 0, 1, 2, 4, 5, 6, 7] rfl)) rfl fun a hA => ?_
                            refine g_skip (i := 66) hA rfl (wanted_no hA rfl rfl (by simp [vb])) (by kernel_rfl) (.inr (hI.sl [3, 0, 1, 2, 4, 5, 6, 7] rfl)) rfl fun a hA => ?_
                            refine g_skip (i := 62) hA rfl (wanted_no hA rfl rfl (by simp [vb])) (by kernel_rfl) (.inr (hI.sl [3, 0, 1, 2, 4, 5, 6, 7] rfl)) rfl fun a hA => ?_
                            refine g_skip (i := 63) hA rfl (wanted_no hA rfl rfl (by simp [vb])) (by kernel_rfl) (.inr (hI.sl [3, 0, 1, 2, 4, 5, 6, 7] rfl)) rfl fun a hA => ?_
                            refine g_skip (i := 67) hA rfl (wanted_no hA rfl rfl (by simp [vb])) (by kernel_rfl) (.inr (hI.sl [3, 0, 1, 2, 4, 5, 6, 7] rfl)) rfl fun a hA => ?_
                            refine gE 68 hA rfl (.inr (hI.sl [3, 0, 1, 2, 4, 5, 6, 7] rfl)) (fun _ => r_pick_f hA rfl rfl rfl) fun a hA => ?_
                            refine gE 69 hA rfl (.inr (hI.sl [3, 0, 1, 2, 4, 5, 6, 7] rfl)) (fun _ => r_mv hA rfl) fun a hA => ?_
                            refine g_skip (i := 70) hA rfl (wanted_no hA rfl rfl (by simp [vb])) (by kernel_rfl) (.inr (hI.sl [3, 0, 1, 2, 4, 5, 6, 7] rfl)) rfl fun a hA => ?_
                            refine gE 71 hA rfl (.inr (hI.sl [3, 0, 1, 2, 4, 5, 6, 7] rfl)) (fun _ => r_pick_f hA rfl rfl rfl) fun a hA => ?_
                            refine gE 72 hA rfl (.inr (hI.sl [3, 0, 1, 2, 4, 5, 6, 7] rfl)) (fun _ => r_as hA rfl) fun a hA => ?_
                            refine gN ?_
                            cases sJ H
                            exact ⟨hA.sub ⟨rfl, trivial⟩, (hI.sl [3, 0, 1, 2, 4, 5, 6, 7] rfl)⟩
                        · have hc110 := hc11; obtain ⟨hc11, H⟩ := dF H hc11
                          refine g_skip (i := 10) hA rfl (wanted_no hA rfl rfl (by rw [hc110]; simp [vb])) (by kernel_rfl) (.inr hI) rfl fun a hA => ?_
                          refine g_skip (i := 11) hA rfl (wanted_no hA rfl rfl (by rw [hc110]; simp [vb])) (by kernel_rfl) (.inr hI) rfl fun a hA => ?_
                          refine g_skip (i := 12) hA rfl (wanted_no hA rfl rfl (by rw [hc110]; simp [vb])) (by kernel_rfl) (.inr hI) rfl fun a hA => ?_
                          refine gE 13 hA rfl (.inr hI) (fun _ => r_pick_f hA rfl hc110 rfl) fun a hA => ?_
                          refine gE 14 hA rfl (.inr hI) (fun _ => r_mv hA rfl) fun a hA => ?_
                          refine g_skip (i := 15) hA rfl (wanted_no hA rfl rfl (by simp [vb])) (by kernel_rfl) (.inr hI) rfl fun a hA => ?_
                          refine g_skip (i := 16) hA rfl (wanted_no hA rfl rfl (by simp [vb])) (by kernel_rfl) (.inr hI) rfl fun a hA => ?_
                          refine gE 17 hA rfl (.inr hI) (fun _ => r_pick_f hA rfl rfl rfl) fun a hA => ?_
                          refine gE 18 hA rfl (.inr hI) (fun _ => r_mv hA rfl) fun a hA => ?_
                          refine g_skip (i := 19) hA rfl (wanted_no hA rfl rfl (by simp [vb])) (by kernel_rfl) (.inr hI) rfl fun a hA => ?_
                          refine g_skip (i := 22) hA rfl (wanted_no hA rfl rfl (by simp [vb])) (by kernel_rfl) (.inr hI) rfl fun a hA => ?_
                          refine g_skip (i := 20) hA rfl (wanted_no hA rfl rfl (by simp [vb])) (by kernel_rfl) (.inr hI) rfl fun a hA => ?_
                          refine g_skip (i := 21) hA rfl (wanted_no hA rfl rfl (by simp [vb])) (by kernel_rfl) (.inr hI) rfl fun a hA => ?_
                          refine g_skip (i := 23) hA rfl (wanted_no hA rfl rfl (by simp [vb])) (by kernel_rfl) (.inr hI) rfl fun a hA => ?_
                          refine gE 24 hA rfl (.inr hI) (fun _ => r_pick_f hA rfl rfl rfl) fun a hA => ?_
                          refine gE 25 hA rfl (.inr hI) (fun _ => r_mv hA rfl) fun a hA => ?_
                          refine g_skip (i := 26) hA rfl (wanted_no hA rfl rfl (by simp [vb])) (by kernel_rfl) (.inr hI) rfl fun a hA => ?_
                          refine g_skip (i := 27) hA rfl (wanted_no hA rfl rfl (by simp [vb])) (by kernel_rfl) (.inr hI) rfl fun a hA => ?_
                          refine g_skip (i := 28) hA rfl (wanted_no hA rfl rfl (by simp [vb])) (by kernel_rfl) (.inr hI) rfl fun a hA => ?_
                          refine g_skip (i := 29) hA rfl (wanted_no hA rfl rfl (by simp [vb])) (by kernel_rfl) (.inr hI) rfl fun a hA => ?_
                          refine gE 30 hA rfl (.inr hI) (fun _ => r_pick_f hA rfl rfl rfl) fun a hA => ?_
                          refine gE 31 hA rfl (.inr hI) (fun _ => r_mv hA rfl) fun a hA => ?_
                          refine g_skip (i := 32) hA rfl (wanted_no hA rfl rfl (by simp [vb])) (by kernel_rfl) (.inr hI) rfl fun a hA => ?_
                          refine g_skip (i := 33) hA rfl (wanted_no hA rfl rfl (by simp [vb])) (by kernel_rfl) (.inr hI) rfl fun a hA => ?_
                          refine g_skip (i := 34) hA rfl (wanted_no hA rfl rfl (by simp [vb])) (by kernel_rfl) (.inr hI) rfl fun a hA => ?_
                          refine gE 35 hA rfl (.inr hI) (fun _ => r_pick_f hA rfl rfl rfl) fun a hA => ?_
                          refine gE 36 hA rfl (.inr hI) (fun _ => r_mv hA rfl) fun a hA => ?_
                          refine g_skip (i := 37) hA rfl (wanted_no hA rfl rfl (by simp [vb])) (by kernel_rfl) (.inr hI) rfl fun a hA => ?_
                          refine g_skip (i := 38) hA rfl (wanted_no hA rfl rfl (by simp [vb])) (by kernel_rfl) (.inr hI) rfl fun a hA => ?_
                          refine g_skip (i := 39) hA rfl (wanted_no hA rfl rfl (by simp [vb])) (by kernel_rfl) (.inr hI) rfl fun a hA => ?_
                          refine g_skip (i := 40) hA rfl (wanted_no hA rfl rfl (by simp [vb])) (by kernel_rfl) (.inr hI) rfl fun a hA => ?_
                          refine g_skip (i := 41) hA rfl (wanted_no hA rfl rfl (by simp [vb])) (by kernel_rfl) (.inr hI) rfl fun a hA => ?_
                          refine gE 42 hA rfl (.inr hI) (fun _ => r_pick_f hA rfl rfl rfl) fun a hA => ?_
                          refine gE 43 hA rfl (.inr hI) (fun _ => r_mv hA rfl) fun a hA => ?_
                          refine g_skip (i := 44) hA rfl (wanted_no hA rfl rfl (by simp [vb])) (by kernel_rfl) (.inr hI) rfl fun a hA => ?_
                          refine g_skip (i := 45) hA rfl (wanted_no hA rfl rfl (by simp [vb])) (by kernel_rfl) (.inr hI) rfl fun a hA => ?_
                          refine g_skip (i := 46) hA rfl (wanted_no hA rfl rfl (by simp [vb])) (by kernel_rfl) (.inr hI) rfl fun a hA => ?_
                          refine g_skip (i := 47) hA rfl (wanted_no hA rfl rfl (by simp [vb])) (by kernel_rfl) (.inr hI) rfl fun a hA => ?_
                          refine g_skip (i := 48) hA rfl (wanted_no hA rfl rfl (by simp [vb])) (by kernel_rfl) (.inr hI) rfl fun a hA => ?_
                          refine g_skip (i := 49) hA rfl (wanted_no hA rfl rfl (by simp [vb])) (by kernel_rfl) (.inr hI) rfl fun a hA => ?_
                          refine gE 50 hA rfl (.inr hI) (fun _ => r_pick_f hA rfl rfl rfl) fun a hA => ?_
                          refine gE 51 hA rfl (.inr hI) (fun _ => r_mv hA rfl) fun a hA => ?_
                          refine g_skip (i := 52) hA rfl (wanted_no hA rfl rfl (by simp [vb])) (by kernel_rfl) (.inr hI) rfl fun a hA => ?_
                          refine g_skip (i := 53) hA rfl (wanted_no hA rfl rfl (by simp [vb])) (by kernel_rfl) (.inr hI) rfl fun a hA => ?_
                          refine g_skip (i := 54) hA rfl (wanted_no hA rfl rfl (by simp [vb])) (by kernel_rfl) (.inr hI) rfl fun a hA => ?_
                          refine g_skip (i := 55) hA rfl (wanted_no hA rfl rfl (by simp [vb])) (by kernel_rfl) (.inr hI) rfl fun a hA => ?_
                          refine g_skip (i := 56) hA rfl (wanted_no hA rfl rfl (by simp [vb])) (by kernel_rfl) (.inr hI) rfl fun a hA => ?_
                          refine g_skip (i := 57) hA rfl (wanted_no hA rfl rfl (by simp [vb])) (by kernel_rfl) (.inr hI) rfl fun a hA => ?_
                          refine g_skip (i := 58) hA rfl (wanted_no hA rfl rfl (by simp [vb])) (by kernel_rfl) (.inr hI) rfl fun a hA => ?_
                          refine gE 59 hA rfl (.inr hI) (fun _ => r_pick_f hA rfl rfl rfl) fun a hA => ?_
                          refine gE 60 hA rfl (.inr hI) (fun _ => r_mv hA rfl) fun a hA => ?_
                          refine g_skip (i := 61) hA rfl (wanted_no hA rfl rfl (by simp [vb])) (by kernel_rfl) (.inr hI) rfl fun a hA => ?_
                          refine g_skip (i := 64) hA rfl (wanted_no hA rfl rfl (by simp [vb])) (by kernel_rfl) (.inr hI) rfl fun a hA => ?_
                          refine g_skip (i := 65) hA rfl (wanted_no hA rfl rfl (by simp [vb])) (by kernel_rfl) (.inr hI) rfl fun a hA => ?_
                          refine g_skip (i := 66) hA rfl (wanted_no hA rfl rfl (by simp [vb])) (by kernel_rfl) (.inr hI) rfl fun a hA => ?_
                          refine g_skip (i := 62) hA rfl (wanted_no hA rfl rfl (by simp [vb])) (by kernel_rfl) (.inr hI) rfl fun a hA => ?_
                          refine g_skip (i := 63) hA rfl (wanted_no hA rfl rfl (by simp [vb])) (by kernel_rfl) (.inr hI) rfl fun a hA => ?_
                          refine g_skip (i := 67) hA rfl (wanted_no hA rfl rfl (by simp [vb])) (by kernel_rfl) (.inr hI) rfl fun a hA => ?_
                          refine gE 68 hA rfl (.inr hI) (fun _ => r_pick_f hA rfl rfl rfl) fun a hA => ?_
                          refine gE 69 hA rfl (.inr hI) (fun _ => r_mv hA rfl) fun a hA => ?_
                          refine g_skip (i := 70) hA rfl (wanted_no hA rfl rfl (by simp [vb])) (by kernel_rfl) (.inr hI) rfl fun a hA => ?_
                          refine gE 71 hA rfl (.inr hI) (fun _ => r_pick_f hA rfl rfl rfl) fun a hA => ?_
                          refine gE 72 hA rfl (.inr hI) (fun _ => r_as hA rfl) fun a hA => ?_
                          refine gN ?_
                          cases sJ H
                          exact ⟨hA.sub ⟨rfl, trivial⟩, hI⟩
                      · have hc100 := hc10; obtain ⟨hc10, H⟩ := dF H hc10
                        refine g_skip (i := 6) hA rfl (wanted_no hA rfl rfl (by rw [hc100]; simp [vb])) (by kernel_rfl) (.inr hI) rfl fun a hA => ?_
                        refine g_skip (i := 7) hA rfl (wanted_no hA rfl rfl (by rw [hc100]; simp [vb])) (by kernel_rfl) (.inr hI) rfl fun a hA => ?_
                        refine gE 8 hA rfl (.inr hI) (fun _ => r_pick_f hA rfl hc100 rfl) fun a hA => ?_
                        refine gE 9 hA rfl (.inr hI) (fun _ => r_mv hA rfl) fun a hA => ?_
                        refine g_skip (i := 10) hA rfl (wanted_no hA rfl rfl (by simp [vb])) (by kernel_rfl) (.inr hI) rfl fun a hA => ?_
                        refine g_skip (i := 11) hA rfl (wanted_no hA rfl rfl (by simp [vb])) (by kernel_rfl) (.inr hI) rfl fun a hA => ?_
                        refine g_skip (i := 12) hA rfl (wanted_no hA rfl rfl (by simp [vb])) (by kernel_rfl) (.inr hI) rfl fun a hA => ?_
                        refine gE 13 hA rfl (.inr hI) (fun _ => r_pick_f hA rfl rfl rfl) fun a hA => ?_
                        refine gE 14 hA rfl (.inr hI) (fun _ => r_mv hA rfl) fun a hA => ?_
                        refine g_skip (i := 15) hA rfl (wanted_no hA rfl rfl (by simp [vb])) (by kernel_rfl) (.inr hI) rfl fun a hA => ?_
                        refine g_skip (i := 16) hA rfl (wanted_no hA rfl rfl (by simp [vb])) (by kernel_rfl) (.inr hI) rfl fun a hA => ?_
                        refine gE 17 hA rfl (.inr hI) (fun _ => r_pick_f hA rfl rfl rfl) fun a hA => ?_
                        refine gE 18 hA rfl (.inr hI) (fun _ => r_mv hA rfl) fun a hA => ?_
                        refine g_skip (i := 19) hA rfl (wanted_no hA rfl rfl (by simp [vb])) (by kernel_rfl) (.inr hI) rfl fun a hA => ?_
                        refine g_skip (i := 22) hA rfl (wanted_no hA rfl rfl (by simp [vb])) (by kernel_rfl) (.inr hI) rfl fun a hA => ?_
                        refine g_skip (i := 20) hA rfl (wanted_no hA rfl rfl (by simp [vb])) (by kernel_rfl) (.inr hI) rfl fun a hA => ?_
                        refine g_skip (i := 21) hA rfl (wanted_no hA rfl rfl (by simp [vb])) (by kernel_rfl) (.inr hI) rfl fun a hA => ?_
                        refine g_skip (i := 23) hA rfl (wanted_no hA rfl rfl (by simp [vb])) (by kernel_rfl) (.inr hI) rfl fun a hA => ?_
                        refine gE 24 hA rfl (.inr hI) (fun _ => r_pick_f hA rfl rfl rfl) fun a hA => ?_
                        refine gE 25 hA rfl (.inr hI) (fun _ => r_mv hA rfl) fun a hA => ?_
                        refine g_skip (i := 26) hA rfl (wanted_no hA rfl rfl (by simp [vb])) (by kernel_rfl) (.inr hI) rfl fun a hA => ?_
                        refine g_skip (i := 27) hA rfl (wanted_no hA rfl rfl (by simp [vb])) (by kernel_rfl) (.inr hI) rfl fun a hA => ?_
                        refine g_skip (i := 28) hA rfl (wanted_no hA rfl rfl (by simp [vb])) (by kernel_rfl) (.inr hI) rfl fun a hA => ?_
                        refine g_skip (i := 29) hA rfl (wanted_no hA rfl rfl (by simp [vb])) (by kernel_rfl) (.inr hI) rfl fun a hA => ?_
                        refine gE 30 hA rfl (.inr hI) (fun _ => r_pick_f hA rfl rfl rfl) fun a hA => ?_
                        refine gE 31 hA rfl (.inr hI) (fun _ => r_mv hA rfl) fun a hA => ?_
                        refine g_skip (i := 32) hA rfl (wanted_no hA rfl rfl (by simp [vb])) (by kernel_rfl) (.inr hI) rfl fun a hA => ?_
                        refine g_skip (i := 33) hA rfl (wanted_no hA rfl rfl (by simp [vb])) (by kernel_rfl) (.inr hI) rfl fun a hA => ?_
                        refine g_skip (i := 34) hA rfl (wanted_no hA rfl rfl (by simp [vb])) (by kernel_rfl) (.inr hI) rfl fun a hA => ?_
                        refine gE 35 hA rfl (.inr hI) (fun _ => r_pick_f hA rfl rfl rfl) fun a hA => ?_
                        refine gE 36 hA rfl (.inr hI) (fun _ => r_mv hA rfl) fun a hA => ?_
                        refine g_skip (i := 37) hA rfl (wanted_no hA rfl rfl (by simp [vb])) (by kernel_rfl) (.inr hI) rfl fun a hA => ?_
                        refine g_skip (i := 38) hA rfl (wanted_no hA rfl rfl (by simp [vb])) (by kernel_rfl) (.inr hI) rfl fun a hA => ?_
                        refine g_skip (i := 39) hA rfl (wanted_no hA rfl rfl (by simp [vb])) (by kernel_rfl) (.inr hI) rfl fun a hA => ?_
                        refine g_skip (i := 40) hA rfl (wanted_no hA rfl rfl (by simp [vb])) (by kernel_rfl) (.inr hI) rfl fun a hA => ?_
                        refine g_skip (i := 41) hA rfl (wanted_no hA rfl rfl (by simp [vb])) (by kernel_rfl) (.inr hI) rfl fun a hA => ?_
                        refine gE 42 hA rfl (.inr hI) (fun _ => r_pick_f hA rfl rfl rfl) fun a hA => ?_
                        refine gE 43 hA rfl (.inr hI) (fun _ => r_mv hA rfl) fun a hA => ?_
                        refine g_skip (i := 44) hA rfl (wanted_no hA rfl rfl (by simp [vb])) (by kernel_rfl) (.inr hI) rfl fun a hA => ?_
                        refine g_skip (i := 45) hA rfl (wanted_no hA rfl rfl (by simp [vb])) (by kernel_rfl) (.inr hI) rfl fun a hA => ?_
                        refine g_skip (i := 46) hA rfl (wanted_no hA rfl rfl (by simp [vb])) (by kernel_rfl) (.inr hI) rfl fun a hA => ?_
                        refine g_skip (i := 47) hA rfl (wanted_no hA rfl rfl (by simp [vb])) (by kernel_rfl) (.inr hI) rfl fun a hA => ?_
                        refine g_skip (i := 48) hA rfl (wanted_no hA rfl rfl (by simp [vb])) (by kernel_rfl) (.inr hI) rfl fun a hA => ?_
                        refine g_skip (i := 49) hA rfl (wanted_no hA rfl rfl (by simp [vb])) (by kernel_rfl) (.inr hI) rfl fun a hA => ?_
                        refine gE 50 hA rfl (.inr hI) (fun _ => r_pick_f hA rfl rfl rfl) fun a hA => ?_
                        refine gE 51 hA rfl (.inr hI) (fun _ => r_mv hA rfl) fun a hA => ?_
                        refine g_skip (i := 52) hA rfl (wanted_no hA rfl rfl (by simp [vb])) (by kernel_rfl) (.inr hI) rfl fun a hA => ?_
                        refine g_skip (i := 53) hA rfl (wanted_no hA rfl rfl (by simp [vb])) (by kernel_rfl) (.inr hI) rfl fun a hA => ?_
                        refine g_skip (i := 54) hA rfl (wanted_no hA rfl rfl (by simp [vb])) (by kernel_rfl) (.inr hI) rfl fun a hA => ?_
                        refine g_skip (i := 55) hA rfl (wanted_no hA rfl rfl (by simp [vb])) (by kernel_rfl) (.inr hI) rfl fun a hA => ?_
                        refine g_skip (i := 56) hA rfl (wanted_no hA rfl rfl (by simp [vb])) (by kernel_rfl) (.inr hI) rfl fun a hA => ?_
                        refine g_skip (i := 57) hA rfl (wanted_no hA rfl rfl (by simp [vb])) (by kernel_rfl) (.inr hI) rfl fun a hA => ?_
                        refine g_skip (i := 58) hA rfl (wanted_no hA rfl rfl (by simp [vb])) (by kernel_rfl) (.inr hI) rfl fun a hA => ?_
                        refine gE 59 hA rfl (.inr hI) (fun _ => r_pick_f hA rfl rfl rfl) fun a hA => ?_
                        refine gE 60 hA rfl (.inr hI) (fun _ => r_mv hA rfl) fun a hA => ?_
                        refine g_skip (i := 61) hA rfl (wanted_no hA rfl rfl (by simp [vb])) (by kernel_rfl) (.inr hI) rfl fun a hA => ?_
                        refine g_skip (i := 64) hA rfl (wanted_no hA rfl rfl (by simp [vb])) (by kernel_rfl) (.inr hI) rfl fun a hA => ?_
                        refine g_skip (i := 65) hA rfl (wanted_no hA rfl rfl (by simp [vb])) (by kernel_rfl) (.inr hI) rfl fun a hA => ?_
                        refine g_skip (i := 66) hA rfl (wanted_no hA rfl rfl (by simp [vb])) (by kernel_rfl) (.inr hI) rfl fun a hA => ?_
                        refine g_skip (i := 62) hA rfl (wanted_no hA rfl rfl (by simp [vb])) (by kernel_rfl) (.inr hI) rfl fun a hA => ?_
                        refine g_skip (i := 63) hA rfl (wanted_no hA rfl rfl (by simp [vb])) (by kernel_rfl) (.inr hI) rfl fun a hA => ?_
                        refine g_skip (i := 67) hA rfl (wanted_no hA rfl rfl (by simp [vb])) (by kernel_rfl) (.inr hI) rfl fun a hA => ?_
                        refine gE 68 hA rfl (.inr hI) (fun _ => r_pick_f hA rfl rfl rfl) fun a hA => ?_
                        refine gE 69 hA rfl (.inr hI) (fun _ => r_mv hA rfl) fun a hA => ?_
                        refine g_skip (i := 70) hA rfl (wanted_no hA rfl rfl (by simp [vb])) (by kernel_rfl) (.inr hI) rfl fun a hA => ?_
                        refine gE 71 hA rfl (.inr hI) (fun _ => r_pick_f hA rfl rfl rfl) fun a hA => ?_
                        refine gE 72 hA rfl (.inr hI) (fun _ => r_as hA rfl) fun a hA => ?_
                        refine gN ?_
                        cases sJ H
                        exact ⟨hA.sub ⟨rfl, trivial⟩, hI⟩
                    · have hc90 := hc9; have hc9 := ft hc9; have H := bF H hc9
                      refine g_skip (i := 2) hA rfl (wanted_no hA rfl rfl (by rw [hc90]; simp [vb])) (by kernel_rfl) (.inr hI) rfl fun a hA => ?_
                      refine g_skip (i := 3) hA rfl (wanted_no hA rfl rfl (by rw [hc90]; simp [vb])) (by kernel_rfl) (.inr hI) rfl fun a hA => ?_
                      refine gE 4 hA rfl (.inr hI) (fun _ => r_pick_f hA rfl hc90 rfl) fun a hA => ?_
                      refine gE 5 hA rfl (.inr hI) (fun _ => r_mv hA rfl) fun a hA => ?_
                      refine g_skip (i := 6) hA rfl (wanted_no hA rfl rfl (by simp [vb])) (by kernel_rfl) (.inr hI) rfl fun a hA => ?_
                      refine g_skip (i := 7) hA rfl (wanted_no hA rfl rfl (by simp [vb])) (by kernel_rfl) (.inr hI) rfl fun a hA => ?_
                      refine gE 8 hA rfl (.inr hI) (fun _ => r_pick_f hA rfl rfl rfl) fun a hA => ?_
                      refine gE 9 hA rfl (.inr hI) (fun _ => r_mv hA rfl) fun a hA => ?_
                      refine g_skip (i := 10) hA rfl (wanted_no hA rfl rfl (by simp [vb])) (by kernel_rfl) (.inr hI) rfl fun a hA => ?_
                      refine g_skip (i := 11) hA rfl (wanted_no hA rfl rfl (by simp [vb])) (by kernel_rfl) (.inr hI) rfl fun a hA => ?_
                      refine g_skip (i := 12) hA rfl (wanted_no hA rfl rfl (by simp [vb])) (by kernel_rfl) (.inr hI) rfl fun a hA => ?_
                      refine gE 13 hA rfl (.inr hI) (fun _ => r_pick_f hA rfl rfl rfl) fun a hA => ?_
                      refine gE 14 hA rfl (.inr hI) (fun _ => r_mv hA rfl) fun a hA => ?_
                      refine g_skip (i := 15) hA rfl (wanted_no hA rfl rfl (by simp [vb])) (by kernel_rfl) (.inr hI) rfl fun a hA => ?_
                      refine g_skip (i := 16) hA rfl (wanted_no hA rfl rfl (by simp [vb])) (by kernel_rfl) (.inr hI) rfl fun a hA => ?_
                      refine gE 17 hA rfl (.inr hI) (fun _ => r_pick_f hA rfl rfl rfl) fun a hA => ?_
                      refine gE 18 hA rfl (.inr hI) (fun _ => r_mv hA rfl) fun a hA => ?_
                      refine g_skip (i := 19) hA rfl (wanted_no hA rfl rfl (by simp [vb])) (by kernel_rfl) (.inr hI) rfl fun a hA => ?_
                      refine g_skip (i := 22) hA rfl (wanted_no hA rfl rfl (by simp [vb])) (by kernel_rfl) (.inr hI) rfl fun a hA => ?_
                      refine g_skip (i := 20) hA rfl (wanted_no hA rfl rfl (by simp [vb])) (by kernel_rfl) (.inr hI) rfl fun a hA => ?_
                      refine g_skip (i := 21) hA rfl (wanted_no hA rfl rfl (by simp [vb])) (by kernel_rfl) (.inr hI) rfl fun a hA => ?_
                      refine g_skip (i := 23) hA rfl (wanted_no hA rfl rfl (by simp [vb])) (by kernel_rfl) (.inr hI) rfl fun a hA => ?_
                      refine gE 24 hA rfl (.inr hI) (fun _ => r_pick_f hA rfl rfl rfl) fun a hA => ?_
                      refine gE 25 hA rfl (.inr hI) (fun _ => r_mv hA rfl) fun a hA => ?_
                      refine g_skip (i := 26) hA rfl (wanted_no hA rfl rfl (by simp [vb])) (by kernel_rfl) (.inr hI) rfl fun a hA => ?_
                      refine g_skip (i := 27) hA rfl (wanted_no hA rfl rfl (by simp [vb])) (by kernel_rfl) (.inr hI) rfl fun a hA => ?_
                      refine g_skip (i := 28) hA rfl (wanted_no hA rfl rfl (by simp [vb])) (by kernel_rfl) (.inr hI) rfl fun a hA => ?_
                      refine g_skip (i := 29) hA rfl (wanted_no hA rfl rfl (by simp [vb])) (by kernel_rfl) (.inr hI) rfl fun a hA => ?_
                      refine gE 30 hA rfl (.inr hI) (fun _ => r_pick_f hA rfl rfl rfl) fun a hA => ?_
                      refine gE 31 hA rfl (.inr hI) (fun _ => r_mv hA rfl) fun a hA => ?_
                      refine g_skip (i := 32) hA rfl (wanted_no hA rfl rfl (by simp [vb])) (by kernel_rfl) (.inr hI) rfl fun a hA => ?_
                      refine g_skip (i := 33) hA rfl (wanted_no hA rfl rfl (by simp [vb])) (by kernel_rfl) (.inr hI) rfl fun a hA => ?_
                      refine g_skip (i := 34) hA rfl (wanted_no hA rfl rfl (by simp [vb])) (by kernel_rfl) (.inr hI) rfl fun a hA => ?_
                      refine gE 35 hA rfl (.inr hI) (fun _ => r_pick_f hA rfl rfl rfl) fun a hA => ?_
                      refine gE 36 hA rfl (.inr hI) (fun _ => r_mv hA rfl) fun a hA => ?_
                      refine g_skip (i := 37) hA rfl (wanted_no hA rfl rfl (by simp [vb])) (by kernel_rfl) (.inr hI) rfl fun a hA => ?_
                      refine g_skip (i := 38) hA rfl (wanted_no hA rfl rfl (by simp [vb])) (by kernel_rfl) (.inr hI) rfl fun a hA => ?_
                      refine g_skip (i := 39) hA rfl (wanted_no hA rfl rfl (by simp [vb])) (by kernel_rfl) (.inr hI) rfl fun a hA => ?_
                      refine g_skip (i := 40) hA rfl (wanted_no hA rfl rfl (by simp [vb])) (by kernel_rfl) (.inr hI) rfl fun a hA => ?_
                      refine g_skip (i := 41) hA rfl (wanted_no hA rfl rfl (by simp [vb])) (by kernel_rfl) (.inr hI) rfl fun a hA => ?_
                      refine gE 42 hA rfl (.inr hI) (fun _ => r_pick_f hA rfl rfl rfl) fun a hA => ?_
                      refine gE 43 hA rfl (.inr hI) (fun _ => r_mv hA rfl) fun a hA => ?_
                      refine g_skip (i := 44) hA rfl (wanted_no hA rfl rfl (by simp [vb])) (by kernel_rfl) (.inr hI) rfl fun a hA => ?_
                      refine g_skip (i := 45) hA rfl (wanted_no hA rfl rfl (by simp [vb])) (by kernel_rfl) (.inr hI) rfl fun a hA => ?_
                      refine g_skip (i := 46) hA rfl (wanted_no hA rfl rfl (by simp [vb])) (by kernel_rfl) (.inr hI) rfl fun a hA => ?_
                      refine g_skip (i := 47) hA rfl (wanted_no hA rfl rfl (by simp [vb])) (by kernel_rfl) (.inr hI) rfl fun a hA => ?_
                      refine g_skip (i := 48) hA rfl (wanted_no hA rfl rfl (by simp [vb])) (by kernel_rfl) (.inr hI) rfl fun a hA => ?_
                      refine g_skip (i := 49) hA rfl (wanted_no hA rfl rfl (by simp [vb])) (by kernel_rfl) (.inr hI) rfl fun a hA => ?_
                      refine gE 50 hA rfl (.inr hI) (fun _ => r_pick_f hA rfl rfl rfl) fun a hA => ?_
                      refine gE 51 hA rfl (.inr hI) (fun _ => r_mv hA rfl) fun a hA => ?_
                      refine g_skip (i := 52) hA rfl (wanted_no hA rfl rfl (by simp [vb])) (by kernel_rfl) (.inr hI) rfl fun a hA => ?_
                      refine g_skip (i := 53) hA rfl (wanted_no hA rfl rfl (by simp [vb])) (by kernel_rfl) (.inr hI) rfl fun a hA => ?_
                      refine g_skip (i := 54) hA rfl (wanted_no hA rfl rfl (by simp [vb])) (by kernel_rfl) (.inr hI) rfl fun a hA => ?_
                      refine g_skip (i := 55) hA rfl (wanted_no hA rfl rfl (by simp [vb])) (by kernel_rfl) (.inr hI) rfl fun a hA => ?_
                      refine g_skip (i := 56) hA rfl (wanted_no hA rfl rfl (by simp [vb])) (by kernel_rfl) (.inr hI) rfl fun a hA => ?_
                      refine g_skip (i := 57) hA rfl (wanted_no hA rfl rfl (by simp [vb])) (by kernel_rfl) (.inr hI) rfl fun a hA => ?_
                      refine g_skip (i := 58) hA rfl (wanted_no hA rfl rfl (by simp [vb])) (by kernel_rfl) (.inr hI) rfl fun a hA => ?_
                      refine gE 59 hA rfl (.inr hI) (fun _ => r_pick_f hA rfl rfl rfl) fun a hA => ?_
                      refine gE 60 hA rfl (.inr hI) (fun _ => r_mv hA rfl) fun a hA => ?_
                      refine g_skip (i := 61) hA rfl (wanted_no hA rfl rfl (by simp [vb])) (by kernel_rfl) (.inr hI) rfl fun a hA => ?_
                      refine g_skip (i := 64) hA rfl (wanted_no hA rfl rfl (by simp [vb])) (by kernel_rfl) (.inr hI) rfl fun a hA => ?_
                      refine g_skip (i := 65) hA rfl (wanted_no hA rfl rfl (by simp [vb])) (by kernel_rfl) (.inr hI) rfl fun a hA => ?_
                      refine g_skip (i := 66) hA rfl (wanted_no hA rfl rfl (by simp [vb])) (by kernel_rfl) (.inr hI) rfl fun a hA => ?_
                      refine g_skip (i := 62) hA rfl (wanted_no hA rfl rfl (by simp [vb])) (by kernel_rfl) (.inr hI) rfl fun a hA => ?_
                      refine g_skip (i := 63) hA rfl (wanted_no hA rfl rfl (by simp [vb])) (by kernel_rfl) (.inr hI) rfl fun a hA => ?_
                      refine g_skip (i := 67) hA rfl (wanted_no hA rfl rfl (by simp [vb])) (by kernel_rfl) (.inr hI) rfl fun a hA => ?_
                      refine gE 68 hA rfl (.inr hI) (fun _ => r_pick_f hA rfl rfl rfl) fun a hA => ?_
                      refine gE 69 hA rfl (.inr hI) (fun _ => r_mv hA rfl) fun a hA => ?_
                      refine g_skip (i := 70) hA rfl (wanted_no hA rfl rfl (by simp [vb])) (by kernel_rfl) (.inr hI) rfl fun a hA => ?_
                      refine gE 71 hA rfl (.inr hI) (fun _ => r_pick_f hA rfl rfl rfl) fun a hA => ?_
                      refine gE 72 hA rfl (.inr hI) (fun _ => r_as hA rfl) fun a hA => ?_
                      refine gN ?_
                      cases sJ H
                      exact ⟨hA.sub ⟨rfl, trivial⟩, hI⟩
                  · rintro a w ⟨hA, hI⟩
                    have H := Hk11
                    refine w_ret ?_
                    obtain rfl := sJ H
                    exact ret1 hA Tryd.results7 rfl ⟨_, rfl, rfl, trivial, hI.forget0⟩
end Go.Proofs.YtcpdnoochieecaaDoor.T
namespace Go.Proofs.YtcpdnoochieecaaDoor.T
open Go Go.Proofs Go.Proofs.YtcpdnoochieecaaDoor.K
set_option linter.unusedVariables false
theorem w64 {x : Int} (h0 : -9223372036854775808 ≤ x) (h1 : x < 9223372036854775808) : IntKind.i64.wrap x = x := wrap_id ⟨h0, h1⟩
end Go.Proofs.YtcpdnoochieecaaDoor.T
namespace Go.Proofs.YtcpdnoochieecaaDoor.T
open Go Go.Proofs Go.Proofs.YtcpdnoochieecaaDoor.K
set_option linter.unusedVariables false
set_option linter.unusedSimpArgs false
theorem winc (i : Nat) (hi : i < 9223372036854775807) : IntKind.i64.wrap ((i : Int) + 1) = ((i + 1 : Nat) : Int) := by
  rw [w64 (by omega) (by omega)]; omega
theorem take_next {α : Type} (xs : List α) (i : Nat) (d : α) (h : i < xs.length) : xs.take i ++ [xs.getD i d] = xs.take (i + 1) := by
  rw [List.take_add_one]
  simp [List.getD, h]
theorem all_run {step : Int → Option (Int ⊕ Bool)} (n : Nat) (p : Nat → Prop) [DecidablePred p] (hn : n < 9223372036854775807)
    (hs : ∀ i, i < n → step (i : Int) = if p i then some (.inl (IntKind.i64.wrap ((i : Int) + 1))) else some (.inr false)) (he : step (n : Int) = some (.inr true)) : loopO step 0 = some (decide (∀ i, i < n → p i)) := by
  have key : ∀ m k, m + k = n → (∀ i, i < k → p i) → loopO step (k : Int) = some (decide (∀ i, i < n → p i)) := by
    intro m
    induction m with
    | zero =>
      intro k e h
      obtain rfl : k = n := by omega
      rw [loopO_inr he]
      congr 1
      exact (decide_eq_true h).symm
    | succ m ih =>
      intro k e h
      have h1 := hs k (by omega)
      by_cases hp : p k
      · rw [if_pos hp, winc k (by omega)] at h1
        rw [loopO_inl h1]
        refine ih (k + 1) (by omega) fun i hi => ?_
        rcases Nat.lt_or_ge i k with h2 | h2
        · exact h i h2
        · obtain rfl : i = k := by omega
          exact hp
      · rw [if_neg hp] at h1
        rw [loopO_inr h1]
        have : ¬ ∀ i, i < n → p i := fun h2 => hp (h2 k (by omega))
        simp [this]
  exact key n 0 (by omega) (by simp)
theorem ext_iff {α : Type} (xs ys : List α) (d : α) (h : xs.length = ys.length) : (∀ i, i < xs.length → xs.getD i d = ys.getD i d) ↔ xs = ys := by
  constructor
  · intro hh
    apply List.ext_getElem h
    intro i h1 h2
    have := hh i h1
    simpa [List.getD, h1, h2] using this
  · rintro rfl i _
    rfl
theorem samehash_eq (a b : List Int) (ha : a.length = 32) (hb : b.length = 32) : sargassoref_SameHash.f a b = some (decide (a = b)) := by
  unfold sargassoref_SameHash.f
  rw [all_run 32 (fun i => a.getD i 0 = b.getD i 0) (by omega) (fun i hi => by
    simp only [sargassoref_SameHash.s0, Int.toNat_natCast]
    rw [if_pos (by omega), if_pos (by omega)]
    by_cases h : a.getD i 0 = b.getD i 0
    · rw [if_neg (by simpa using h), if_pos h]
    · rw [if_pos h, if_neg h]) (by simp [sargassoref_SameHash.s0])]
  congr 2
  apply propext
  have := ext_iff a b 0 (by rw [ha, hb])
  rw [ha] at this
  exact this
end Go.Proofs.YtcpdnoochieecaaDoor.T
namespace Go.Proofs.YtcpdnoochieecaaDoor.T
open Go Go.Proofs Go.Proofs.YtcpdnoochieecaaDoor.K
set_option linter.unusedVariables false
set_option linter.unusedSimpArgs false
def sl : List Er := [xErrEnd, xErrShape, xErrLong, xErrMany, xErrValue, xErrTwice, xErrBase, xErrRoot, xErrKnown, xErrParent, xErrInvalid, xErrTime, xErrMissing, xErrKey, xErrYoung, xErrEarly, xErrLess, xErrReward, xErrClash, xErrLimit, xErrFull, xErrRange, xErrNone, xErrWord, xErrNumber]
theorem gd {α : Type} (l : List α) (d : α) {i : Nat} (h : i < l.length) : l.getD i d = l[i] := by simp [List.getD, h]
theorem samefault_bare (a b : Int) : sargassoref_SameFault.f ⟨a, false, 0, false, 0⟩ ⟨b, false, 0, false, 0⟩ = some (decide (a = b)) := by
  simp only [sargassoref_SameFault.f]
  by_cases h : a = b
  · simp [h]
  · simp [h]
theorem is_nil (c : Int) : sargassosee_Is.f (.b 0) c = some (decide (0 = c)) := by
  simp only [sargassosee_Is.f, sargassosee_Same.f, sargassosee_Fault.f, sargassoref_Bare.f, sargassoref_None.f, Option.bind_some, if_true]
  rw [samefault_bare, Option.bind_some]; rfl
end Go.Proofs.YtcpdnoochieecaaDoor.T
namespace Go.Proofs.YtcpdnoochieecaaDoor.T
open Go Go.Proofs Go.Proofs.YtcpdnoochieecaaDoor.K
set_option linter.unusedVariables false
set_option linter.unusedSimpArgs false
theorem nt_ends {τ ρ : Type} {step : τ → Option (τ ⊕ ρ)} (I : Nat → τ → Prop) (Post : ρ → Prop) (n : Nat) {s : τ} (h0 : I 0 s) (h : ∀ i, i < n → ∀ s, I i s → (∃ s', step s = some (.inl s') ∧ I (i + 1) s') ∨ ∃ r, step s = some (.inr r) ∧ Post r) (hn : ∀ s, I n s → ∃ r, step s = some (.inr r) ∧ Post r) : ∃ r, loopO step s = some r ∧ Post r := by
  have key : ∀ m k s, k + m = n → I k s → ∃ r, loopO step s = some r ∧ Post r := by
    intro m
    induction m with
    | zero =>
      intro k s e hI
      obtain ⟨r, h1, h2⟩ := hn s (by rw [← e]; exact hI)
      exact ⟨r, loopO_inr h1, h2⟩
    | succ m ih =>
      intro k s e hI
      rcases h k (by omega) s hI with ⟨s', h1, h2⟩ | ⟨r, h1, h2⟩
      · rw [loopO_inl h1]
        exact ih (k + 1) s' (by omega) h2
      · exact ⟨r, loopO_inr h1, h2⟩
  exact key n 0 s (by omega) h0
theorem mget_mput {K V : Type} [DecidableEq K] (l : List (K × V)) (k k' : K) (v : V) : mget (mput l k v) k' = if k = k' then some v else mget l k' := by
  induction l with
  | nil => rfl
  | cons p l ih =>
    simp only [mput]
    by_cases h : p.1 = k
    · rw [if_pos h]
      simp only [mget]
      by_cases h2 : k = k'
      · rw [if_pos h2, if_pos h2]
      · rw [if_neg h2, if_neg h2, if_neg (fun e => h2 (h.symm.trans e))]
    · rw [if_neg h]
      simp only [mget]
      by_cases h2 : p.1 = k'
      · rw [if_pos h2, if_pos h2, if_neg (fun e => h (h2.trans e.symm))]
      · rw [if_neg h2, if_neg h2, ih]
def ofO (l : List Note) (o : Int) : List Note := l.filter fun n => decide (n.Op = o)
def cnt (l : List Note) (o : Int) : Int := ((ofO l o).length : Int)
theorem ofO_app (l l' : List Note) (o : Int) : ofO (l ++ l') o = ofO l o ++ ofO l' o := List.filter_append ..
theorem ofO_one (n : Note) (o : Int) : ofO [n] o = if n.Op = o then [n] else [] := by
  by_cases h : n.Op = o
  · simp [ofO, h]
  · simp [ofO, h]
theorem cnt_next (l : List Note) (n : Note) (o : Int) : cnt (l ++ [n]) o = cnt l o + if n.Op = o then 1 else 0 := by
  unfold cnt
  rw [ofO_app, ofO_one]
  by_cases h : n.Op = o
  · rw [if_pos h, if_pos h]; simp
  · rw [if_neg h, if_neg h]; simp
theorem cnt_le (l : List Note) (o : Int) : cnt l o ≤ (l.length : Int) := by
  have := List.length_filter_le (fun n : Note => decide (n.Op = o)) l
  simp only [cnt, ofO]
  omega
theorem cnt_nn (l : List Note) (o : Int) : 0 ≤ cnt l o := by simp [cnt]
structure St (most op : Int) (H : List Note) (x : notesLog) : Prop where
  m : x.most = most
  o : x.op = op
  l : x.l = H.drop (H.length - most.toNat)
  g : ∀ o, (mget x.lost o).getD 0 = cnt (H.take (H.length - most.toNat)) o
theorem st_new (most : Int) (h0 : 1 ≤ most) (h1 : most ≤ 65536) : notes_New.f most = some (some ⟨most, 0, [], []⟩, .b 0) ∧ St most 0 [] ⟨most, 0, [], []⟩ := by
  constructor
  · simp only [notes_New.f]
    rw [if_neg (by omega), Option.bind_some, if_neg (by simp only [decide_eq_true_eq]; omega)]
  · exact ⟨rfl, rfl, by simp, fun o => by simp [mget, cnt, ofO]⟩
theorem drop_tail (H : List Note) (n : Note) (m : Nat) (hm : 0 < m) (l1 : List Note) (hl : l1 = H.drop (H.length - m) ++ [n]) :
    (m < l1.length → l1.drop 1 = (H ++ [n]).drop ((H ++ [n]).length - m) ∧ (H ++ [n]).take ((H ++ [n]).length - m) = H.take (H.length - m) ++ [l1.getD 0 default]) ∧
    (¬ m < l1.length → l1 = (H ++ [n]).drop ((H ++ [n]).length - m) ∧ (H ++ [n]).take ((H ++ [n]).length - m) = H.take (H.length - m)) := by
  subst hl
  have hlen : (H.drop (H.length - m) ++ [n]).length = min H.length m + 1 := by simp; omega
  have happ : H.drop (H.length - m) ++ [n] = (H ++ [n]).drop (H.length - m) := by rw [List.drop_append_of_le_length (by omega)]
  constructor
  · intro h
    have hHm : m ≤ H.length := by omega
    have e1 : (H ++ [n]).length - m = (H.length - m) + 1 := by simp; omega
    rw [e1]
    refine ⟨by rw [happ, List.drop_drop], ?_⟩
    have hlt : H.length - m < H.length := by omega
    have := take_next (H ++ [n]) (H.length - m) default (by simp; omega)
    rw [← this, List.take_append_of_le_length (by omega)]
    congr 2
    rw [happ]
    simp [List.getD]
  · intro h
    have e1 : (H ++ [n]).length - m = H.length - m := by
      have : H.length < m := by omega
      simp; omega
    rw [e1]
    exact ⟨happ, by rw [List.take_append_of_le_length (by omega)]⟩
theorem nadd_eq {most op : Int} {H : List Note} {x : notesLog} (s : St most op H x) (h0 : 1 ≤ most) (h1 : most ≤ 65536) (hH : H.length ≤ 100000) (h : List Int) (r : Int) (r1 : 1 ≤ r) (r9 : r ≤ 9) :
    ∃ x', notes_Log_Add.f x h r = some (.b 0, x') ∧ St most op (H ++ [⟨op, h, r⟩]) x' := by
  obtain ⟨sm, so, sl_, sg⟩ := s
  obtain ⟨m, ho, xl, lost⟩ := x
  simp only at sm so sl_ sg
  subst sm so
  obtain ⟨l1, hl⟩ : ∃ l1, l1 = xl ++ [(⟨ho, h, r⟩ : Note)] := ⟨_, rfl⟩
  have hd := drop_tail H ⟨ho, h, r⟩ m.toNat (by omega) l1 (by rw [hl, sl_])
  have hxl : xl.length ≤ 100000 := by rw [sl_]; simp; omega
  have hl1 : l1.length = xl.length + 1 := by rw [hl]; simp
  simp only [notes_Log_Add.f]
  rw [if_neg (by omega), Option.bind_some, if_neg (by simp only [decide_eq_true_eq]; omega), if_pos (by omega), ← hl]
  by_cases hc : m.toNat < l1.length
  · obtain ⟨d1, d2⟩ := hd.1 hc
    have hcl : slices_Clone_api_Note_api_Note.f (((l1.take ((l1.length : Int)).toNat)).drop (1 : Int).toNat) = some (l1.drop 1) := by
      simp only [slices_Clone_api_Note_api_Note.f, Int.toNat_natCast, List.take_length]
      rw [show (1 : Int).toNat = 1 from rfl, if_pos (by simp; omega)]
    rw [if_pos (show m < (l1.length : Int) by omega), if_pos (by omega), if_pos (by omega), hcl, Option.bind_some, Option.bind_some]
    refine ⟨_, rfl, ⟨rfl, rfl, d1, fun o => ?_⟩⟩
    rw [d2, cnt_next]
    simp only [show (0 : Int).toNat = 0 from rfl]
    rw [mget_mput]
    by_cases e : (l1.getD 0 default).Op = o
    · rw [if_pos e, if_pos e, e, sg]
      have := cnt_le (H.take (H.length - m.toNat)) o
      have := cnt_nn (H.take (H.length - m.toNat)) o
      have hh : (H.take (H.length - m.toNat)).length ≤ 100000 := by simp; omega
      rw [w64 (by omega) (by omega)]
      rfl
    · rw [if_neg e, if_neg e, sg, Int.add_zero]
  · obtain ⟨d1, d2⟩ := hd.2 hc
    rw [if_neg (show ¬ m < (l1.length : Int) by omega), Option.bind_some]
    exact ⟨_, rfl, ⟨rfl, rfl, d1, fun o => by rw [d2]; exact sg o⟩⟩
theorem st_begin {most op : Int} {H : List Note} {x : notesLog} (s : St most op H x) (h0 : 0 ≤ op) (h1 : op < 9223372036854775807) : ∃ x', notes_Log_Begin.f x = some (op + 1, x') ∧ St most (op + 1) H x' := by
  obtain ⟨sm, so, sl_, sg⟩ := s
  simp only [notes_Log_Begin.f, so]
  rw [w64 (by omega) (by omega)]
  exact ⟨_, rfl, ⟨sm, rfl, sl_, sg⟩⟩
theorem st_len {most op : Int} {H : List Note} {x : notesLog} (s : St most op H x) : x.l.length = min H.length most.toNat := by
  rw [s.l]; simp; omega
theorem st_all {most op : Int} {H : List Note} {x : notesLog} (s : St most op H x) (h1 : most ≤ 65536) : notes_Log_All.f x = some x.l := by
  have := st_len s
  simp only [notes_Log_All.f, slices_Clone_api_Note_api_Note.f]
  rw [if_pos (by omega), Option.bind_some]
theorem st_clone {most op : Int} {H : List Note} {x : notesLog} (s : St most op H x) (h1 : most ≤ 65536) : notes_Log_Clone.f x = some x := by
  have := st_len s
  simp only [notes_Log_Clone.f, slices_Clone_api_Note_api_Note.f, maps_Clone_map_intint_int_int.f]
  rw [if_pos (by omega), Option.bind_some, Option.bind_some]
theorem ixf_eq (x : List Note) (o : Int) (hx : x.length ≤ 1000000) : ∃ r, slices_IndexFunc_api_Note_api_Note_at_notes_Log_Of_1.f x o = some r ∧ ((r = -1 ∧ ∀ j, j < x.length → (x.getD j default).Op = o) ∨ ∃ k : Nat, r = (k : Int) ∧ k < x.length ∧ (∀ j, j < k → (x.getD j default).Op = o) ∧ (x.getD k default).Op ≠ o) := by
  simp only [slices_IndexFunc_api_Note_api_Note_at_notes_Log_Of_1.f]
  refine nt_ends (step := slices_IndexFunc_api_Note_api_Note_at_notes_Log_Of_1.s0 x o) (fun i (s : Int) => s = (i : Int) ∧ ∀ j, j < i → (x.getD j default).Op = o) _ x.length ⟨rfl, fun j hj => by omega⟩ (fun i hi s hs => ?_) (fun s hs => ?_)
  · obtain ⟨rfl, hs⟩ := hs
    simp only [slices_IndexFunc_api_Note_api_Note_at_notes_Log_Of_1.s0, notes_Log_Of_1.f, Int.toNat_natCast]
    rw [if_pos (by omega), if_pos (by omega), Option.bind_some]
    by_cases c : (x.getD i default).Op = o
    · rw [if_neg (by simp only [decide_eq_true_eq]; exact fun h => h c), winc i (by omega)]
      refine .inl ⟨_, rfl, rfl, fun j hj => ?_⟩
      rcases Nat.lt_or_ge j i with h | h
      · exact hs j h
      · obtain rfl : j = i := by omega
        exact c
    · rw [if_pos (decide_eq_true c)]
      exact .inr ⟨_, rfl, .inr ⟨i, rfl, hi, hs, c⟩⟩
  · obtain ⟨rfl, hs⟩ := hs
    simp only [slices_IndexFunc_api_Note_api_Note_at_notes_Log_Of_1.s0]
    rw [if_neg (by omega)]
    exact ⟨_, rfl, .inl ⟨rfl, hs⟩⟩
theorem all_of {l : List Note} {o : Int} (h : ∀ j, j < l.length → (l.getD j default).Op = o) : ofO l o = l := by
  refine List.filter_eq_self.2 fun n hn => ?_
  obtain ⟨j, hj, rfl⟩ := List.getElem_of_mem hn
  have := h j hj
  rw [List.getD, List.getElem?_eq_getElem hj] at this
  exact decide_eq_true this
theorem set_take {α : Type} (l : List α) (i : Nat) (y : α) (h : i < l.length) : (l.set i y).take (i + 1) = l.take i ++ [y] := by
  rw [List.take_add_one, List.take_set_of_le (Nat.le_refl _)]
  simp [h]
theorem delf_eq (x : List Note) (o : Int) (hx : x.length ≤ 1000000) : slices_DeleteFunc_api_Note_api_Note_at_notes_Log_Of_1.f x o = some (ofO x o) := by
  simp only [slices_DeleteFunc_api_Note_api_Note_at_notes_Log_Of_1.f]
  obtain ⟨r, e, h⟩ := ixf_eq x o hx
  rw [e, Option.bind_some]
  rcases h with ⟨rfl, h⟩ | ⟨k, rfl, hk, h1, h2⟩
  · rw [if_pos rfl, all_of h]
  · rw [if_neg (by omega)]
    have ht : ofO (x.take k) o = x.take k := all_of fun j hj => by
      have hj' : j < k := by simp at hj; omega
      have := h1 j hj'
      rw [List.getD] at this ⊢
      rw [List.getElem?_take, if_pos hj']
      exact this
    obtain ⟨z, e2, hz⟩ := nt_ends (step := slices_DeleteFunc_api_Note_api_Note_at_notes_Log_Of_1.s0 o) (fun q (s : Int × Int × List Note) => s.2.1 = ((k + 1 + q : Nat) : Int) ∧ ∃ i : Nat, s.1 = (i : Int) ∧ i ≤ k + q ∧ s.2.2.length = x.length ∧ s.2.2.take i = ofO (x.take (k + 1 + q)) o ∧ ∀ j, k + 1 + q ≤ j → s.2.2.getD j default = x.getD j default) (fun z => ∃ i : Nat, z.1 = (i : Int) ∧ i ≤ z.2.length ∧ z.2.take i = ofO x o) (x.length - (k + 1)) (s := ((k : Int), IntKind.i64.wrap ((k : Int) + 1), x)) ⟨winc k (by omega), k, rfl, by omega, rfl, by
      rw [Nat.add_zero, ← take_next x k default hk, ofO_app, ht, ofO_one, if_neg h2, List.append_nil], fun j _ => rfl⟩ (fun q hq s hs => by
        obtain ⟨s1, s2, s3⟩ := s
        obtain ⟨e1, i, e2, hi, hl, htk, hge⟩ := hs
        simp only at e1 e2 hi hl htk hge
        subst e1 e2
        have hlt : k + 1 + q < x.length := by omega
        have hg := hge (k + 1 + q) (Nat.le_refl _)
        simp only [slices_DeleteFunc_api_Note_api_Note_at_notes_Log_Of_1.s0, notes_Log_Of_1.f, Int.toNat_natCast]
        rw [if_pos (by omega), if_pos (by omega), Option.bind_some]
        have hn := take_next x (k + 1 + q) default hlt
        rw [← hg] at hn
        by_cases c : (s3.getD (k + 1 + q) default).Op = o
        · rw [if_neg (by simp only [decide_eq_true_eq]; exact fun h => h c), if_pos (by omega), Option.bind_some, winc i (by omega), winc (k + 1 + q) (by omega)]
          refine .inl ⟨_, rfl, by simp only; omega, i + 1, rfl, by omega, by simp [hl], ?_, fun j hj => ?_⟩
          · rw [set_take _ _ _ (by omega), htk, show k + 1 + (q + 1) = k + 1 + q + 1 from by omega, ← hn, ofO_app, ofO_one, if_pos c]
          · rw [List.getD, List.getElem?_set_ne (by omega)]
            exact hge j (by omega)
        · rw [if_pos (decide_eq_true c), Option.bind_some, winc (k + 1 + q) (by omega)]
          refine .inl ⟨_, rfl, by simp only; omega, i, rfl, by omega, hl, ?_, fun j hj => hge j (by omega)⟩
          rw [show k + 1 + (q + 1) = k + 1 + q + 1 from by omega, ← hn, ofO_app, ofO_one, if_neg c, List.append_nil, htk]) (fun s hs => by
        obtain ⟨s1, s2, s3⟩ := s
        obtain ⟨e1, i, e2, hi, hl, htk, hge⟩ := hs
        simp only at e1 e2 hi hl htk hge
        subst e1 e2
        simp only [slices_DeleteFunc_api_Note_api_Note_at_notes_Log_Of_1.s0]
        rw [if_neg (by omega)]
        refine ⟨_, rfl, i, rfl, by simp only; omega, ?_⟩
        rw [htk, List.take_of_length_le (by omega)])
    obtain ⟨i, e3, h3, h4⟩ := hz
    obtain ⟨z1, z2⟩ := z
    simp only at e3 h3 h4
    subst e3
    rw [e2, Option.bind_some]
    simp only
    rw [if_pos (by omega), Int.toNat_natCast, h4]
theorem st_of {most op : Int} {H : List Note} {x : notesLog} (s : St most op H x) (h1 : most ≤ 65536) (o : Int) : notes_Log_Of.f x o = some (ofO x.l o) := by
  have := st_len s
  have e := st_all s h1
  simp only [notes_Log_Of.f]
  rw [e, Option.bind_some, delf_eq _ _ (by omega), Option.bind_some]
theorem st_lost {most op : Int} {H : List Note} {x : notesLog} (s : St most op H x) (o : Int) : notes_Log_Lost.f x o = some (cnt (H.take (H.length - most.toNat)) o) := by
  simp only [notes_Log_Lost.f]
  rw [s.g]
theorem st_op {most op : Int} {H : List Note} {x : notesLog} (s : St most op H x) : notes_Log_Op.f x = some op := by simp only [notes_Log_Op.f]; rw [s.o]
theorem st_few {most op : Int} {H : List Note} {x : notesLog} (s : St most op H x) (h : H.length ≤ most.toNat) : x.l = H ∧ ∀ o, notes_Log_Lost.f x o = some 0 := by
  have e : H.length - most.toNat = 0 := by omega
  refine ⟨by rw [s.l, e]; rfl, fun o => ?_⟩
  rw [st_lost s, e]
  simp [cnt, ofO]
theorem first20 : sargassolaw20_first.f = some true := by
  obtain ⟨e, s⟩ := st_new 3 (by omega) (by omega)
  simp only [sargassolaw20_first.f]
  rw [e, Option.bind_some]
  simp only [oM]
  obtain ⟨x', e2, s2⟩ := st_begin s (by omega) (by omega)
  rw [if_pos trivial, st_all s (by omega), Option.bind_some]
  simp only [List.length_nil, Int.natCast_zero, if_true]
  rw [e2, Option.bind_some, Option.bind_some]
  rfl
end Go.Proofs.YtcpdnoochieecaaDoor.T
namespace Go.Proofs.YtcpdnoochieecaaDoor.T
open Go Go.Proofs Go.Proofs.YtcpdnoochieecaaDoor.K
set_option linter.unusedVariables false
set_option linter.unusedSimpArgs false
theorem abs_ok (x : Int) (h : InR .i64 x) : ∃ c, (if x < 0 then some (IntKind.i64.wrap (0 - (IntKind.i64.wrap (x + 1)))) else some x) = some c ∧ 0 ≤ c ∧ InR .i64 c := by
  obtain ⟨h0, h1⟩ := h
  by_cases c : x < 0
  · rw [if_pos c, w64 (x := x + 1) (by omega) (by omega), w64 (by omega) (by omega)]
    exact ⟨_, rfl, by omega, ⟨by omega, by omega⟩⟩
  · rw [if_neg c]; exact ⟨_, rfl, by omega, ⟨h0, h1⟩⟩
theorem mod6 (c : Int) (h : 0 ≤ c) : ∃ n : Nat, Int.tmod c 6 = (n : Int) ∧ n < 6 := by
  rw [Int.tmod_eq_emod_of_nonneg h]
  exact ⟨(c % 6).toNat, by omega, by omega⟩
theorem reps {step : (Int × Int × Int × (List Note) × (List (Int × Int))) → Option ((Int × Int × Int × (List Note) × (List (Int × Int))) ⊕ (Int × Int × (List Note) × (List (Int × Int))))} {most op : Int} {h : List Int} {r : Int} (n : Nat) (hn : n ≤ 10)
    (hs : ∀ s, step s = if s.1 < (n : Int) then (notes_Log_Add.f (⟨s.2.1, s.2.2.1, s.2.2.2.1, s.2.2.2.2⟩ : notesLog) h r).bind fun r3 => some (.inl (IntKind.i64.wrap (s.1 + 1), r3.2.most, r3.2.op, r3.2.l, r3.2.lost)) else some (.inr s.2)) (m1 : 1 ≤ most) (m2 : most ≤ 65536) (r1 : 1 ≤ r) (r9 : r ≤ 9) {H : List Note} (hH : H.length ≤ 1000) {x : notesLog} (s : St most op H x) :
    ∃ z, loopO step (0, x.most, x.op, x.l, x.lost) = some z ∧ St most op (H ++ List.replicate n ⟨op, h, r⟩) ⟨z.1, z.2.1, z.2.2.1, z.2.2.2⟩ := by
  refine nt_ends (step := step) (fun i s => s.1 = (i : Int) ∧ St most op (H ++ List.replicate i ⟨op, h, r⟩) ⟨s.2.1, s.2.2.1, s.2.2.2.1, s.2.2.2.2⟩) _ n ⟨rfl, by simpa using s⟩ (fun i hi s ih => ?_) (fun s ih => ?_)
  · obtain ⟨e, si⟩ := ih
    obtain ⟨x', e1, s1⟩ := nadd_eq si m1 m2 (by simp; omega) h r r1 r9
    rw [hs, e, if_pos (by omega), e1, Option.bind_some, winc i (by omega)]
    refine .inl ⟨_, rfl, rfl, ?_⟩
    rw [List.replicate_succ', ← List.append_assoc]
    exact s1
  · obtain ⟨e, si⟩ := ih
    rw [hs, e, if_neg (by omega)]
    exact ⟨_, rfl, si⟩
theorem sargassolaw20_NotesOps.m (μ : Store) (x0 : Int) (h0 : InR .i64 x0) (x1 : Int) (h1 : InR .i64 x1) (x2 : List Int) (h2 : Arr .u8 32 x2) : sargassolaw20_NotesOps.f x0 x1 x2 = some true := by
  obtain ⟨c1, e1, p1, q1⟩ := abs_ok x0 h0
  obtain ⟨c2, e2, p2, q2⟩ := abs_ok x1 h1
  obtain ⟨a, ea, ha⟩ := mod6 c1 p1
  obtain ⟨b, eb, hb⟩ := mod6 c2 p2
  obtain ⟨en, sn⟩ := st_new 20 (by omega) (by omega)
  obtain ⟨⟨z1, z2, z3, z4⟩, el, sl1⟩ := reps (step := sargassolaw20_NotesOps.s0 x2 c1) (h := x2) (r := 2) a (by omega) (fun s => by simp only [sargassolaw20_NotesOps.s0, ea]) (by omega) (by omega) (by omega) (by omega) (by simp) sn
  simp only at el sl1
  obtain ⟨⟨b1, b2, b3, b4⟩, eB1, sB1⟩ := st_begin sl1 (by omega) (by omega)
  obtain ⟨⟨d1, d2, d3, d4⟩, eB2, sB2⟩ := st_begin sB1 (by omega) (by omega)
  obtain ⟨⟨y1, y2, y3, y4⟩, el2, sl2⟩ := reps (step := sargassolaw20_NotesOps.s1 x2 c2) (h := x2) (r := 6) b (by omega) (fun s => by simp only [sargassolaw20_NotesOps.s1, eb]) (by omega) (by omega) (by omega) (by omega) (by simp; omega) sB2
  simp only at el2 sl2
  obtain ⟨⟨w1, w2, w3, w4⟩, eA, sA⟩ := nadd_eq sl2 (by omega) (by omega) (by simp; omega) x2 4 (by omega) (by omega)
  have hy3 : y3 = List.replicate a ⟨0, x2, 2⟩ ++ List.replicate b ⟨2, x2, 6⟩ := (st_few sl2 (by simp; omega)).1
  obtain ⟨hw3, eL⟩ := st_few sA (by simp; omega)
  have hw3 : w3 = List.replicate a ⟨0, x2, 2⟩ ++ List.replicate b ⟨2, x2, 6⟩ ++ [⟨2, x2, 4⟩] := hw3
  have o0 : ofO w3 0 = List.replicate a ⟨0, x2, 2⟩ := by rw [hw3]; simp [ofO, List.filter_append, List.filter_replicate]
  have o1 : ofO w3 1 = [] := by rw [hw3]; simp [ofO, List.filter_append, List.filter_replicate]
  have o2 : ofO w3 2 = List.replicate b ⟨2, x2, 6⟩ ++ [⟨2, x2, 4⟩] := by rw [hw3]; simp [ofO, List.filter_append, List.filter_replicate]
  have eo := fun o => st_of sA (by omega) o
  have eO := st_op sA
  have eC := st_clone sl2 (by omega)
  have eAll := st_all sl2 (by omega)
  have hg : (List.replicate b (⟨2, x2, 6⟩ : Note) ++ [(⟨2, x2, 4⟩ : Note)]).getD b default = (⟨2, x2, 4⟩ : Note) := by
    simp [List.getD]
  simp only [sargassolaw20_NotesOps.f]
  rw [first20, Option.bind_some, if_pos rfl, e1, Option.bind_some, e2, Option.bind_some, en, Option.bind_some]
  simp only [oM, ea, eb]
  rw [Option.bind_some, if_neg (by decide), el, Option.bind_some]
  simp only
  rw [eB1, Option.bind_some]
  simp only
  rw [eB2, Option.bind_some]
  simp only
  rw [el2, Option.bind_some]
  simp only
  rw [eC, Option.bind_some, eA, Option.bind_some]
  simp only
  rw [eo 2, Option.bind_some]
  simp only
  rw [o2, if_pos trivial, if_pos (by omega), if_pos (by omega), eO, Option.bind_some, if_pos (by omega), if_pos trivial, eo 0, Option.bind_some]
  simp only
  rw [o0, if_pos (by simp), eo 1, Option.bind_some]
  simp only
  rw [o1, if_pos (by simp), eL 1, Option.bind_some, if_pos rfl, w64 (x := (b : Int) + 1) (by omega) (by omega), if_pos (by simp), if_pos (by simp; omega), Int.toNat_natCast, hg, if_pos rfl]
  simp only
  rw [samehash_eq _ _ h2.1 h2.1, decide_eq_true rfl, Option.bind_some, if_pos rfl, eAll, Option.bind_some]
  simp only
  rw [hy3, if_pos (by rw [w64 (by omega) (by omega)]; simp), is_nil, Option.bind_some, Option.bind_some]
  rfl
end Go.Proofs.YtcpdnoochieecaaDoor.T
namespace Go.Proofs.YtcpdnoochieecaaDoor.K
open Go Go.Proofs Go.ChangeShapes Go.WideShapes Go.RowKit
def mem (w : World) : Store := fun k => w.heap[k]?
theorem agr_mem (w : World) : Agr (mem w) w := fun _ _ h => h
theorem mem_cell {w : World} {g i : Nat} {v : Value} (h : w.cell? ⟨g, i, none⟩ = some v) : (mem w).cell g i = some v := by
  unfold World.cell? at h
  unfold Store.cell mem
  cases hm : w.heap[g]? with
  | none => simp [hm] at h
  | some o => cases o <;> simp_all
theorem wf_in {k : IntKind} {n : Int} (h : (Lit.int k n).wf = true) : InR k n := by
  cases k <;> simp [Lit.wf, IntKind.min, IntKind.max, IntKind.signed, IntKind.bits] at h <;> simp [InR] <;> omega
section
variable {H : Type} {enc : TypeId × Value → H} {P : Program} {w : World} {base : Nat} {spare : Nat → Bool} {held : Bool} {t e : TypeId}
def Rd (enc : TypeId × Value → H) (P : Program) (w : World) (base : Nat) (spare : Nat → Bool) (held : Bool) (t : TypeId) (R : List Value → Prop) : Prop :=
  ∀ fuel cs x, DataW.trod enc P w base spare held fuel t cs = some x → R cs
theorem rd_array {k : IntKind} {n : Nat} (ht : P.underlying t = some (.array n e)) (he : P.underlying e = some (.int k)) (hc : P.cellsOf e = 1) (hn : P.cellsOf t = n) :
    Rd enc P w base spare held t (fun c => ∃ xs, RA k n xs c) := by
  intro fuel cs x h
  obtain ⟨xs, m, _, _, hl, hx, hf⟩ := DataW.trod_array ht h
  rw [hn] at hl
  have each : ∀ i, i < n → ∃ z, cs[i]? = some (.int k z) ∧ InR k z := by
    intro i hi
    have h1 := hf i hi
    rw [hc, Nat.mul_one, List.getElem?_eq_getElem (by omega)] at h1
    obtain ⟨z, hz, _, hw⟩ := DataW.trod_int he h1
    refine ⟨z, ?_, wf_in hw⟩
    have := congrArg (·[0]?) hz
    simpa using this
  refine ⟨cs.map fun v => match v with | .int _ z => z | _ => 0, ?_, ?_, ?_⟩
  · simp only [List.flatten_cons, List.flatten_nil, List.append_nil]
    apply List.ext_getElem?
    intro i
    by_cases hi : i < n
    · obtain ⟨z, hz, _⟩ := each i hi
      rw [av_get _ _ _ hi, hz]
      simp [List.getD, hz]
    · rw [List.getElem?_eq_none (by omega), List.getElem?_eq_none (by rw [av_len]; omega)]
  · simpa using hl
  · intro y hy
    obtain ⟨v, hv, rfl⟩ := List.mem_map.1 hy
    obtain ⟨i, hi, rfl⟩ := List.getElem_of_mem hv
    obtain ⟨z, hz, hr⟩ := each i (by omega)
    rw [List.getElem?_eq_getElem hi] at hz
    rw [Option.some.inj hz]
    exact hr
theorem rd_at {R : List Value → Prop} {v : Value} {d : DataW H} {ps : List MemPlace} (hr : Rd enc P w base spare held t R) (h : DataW.Trod enc P w base spare held t v d ps) : R v.cells.toList := by
  obtain ⟨fuel, hf⟩ := h
  exact hr _ _ _ hf
theorem at_agg {R : List Value → Prop} {v : Value} {d : DataW H} {ps : List MemPlace} (hv : ∃ cs, v = .agg cs) (hr : Rd enc P w base spare held t R) (h : DataW.Trod enc P w base spare held t v d ps) : ∃ cs : List Value, v = .agg cs.toArray ∧ R cs := by
  obtain ⟨cs, rfl⟩ := hv
  exact ⟨cs.toList, by simp, rd_at hr h⟩
theorem agg_array {n : Nat} {r : Reach} {b0 : Nat} {v : Value} (ht : P.underlying t = some (.array n e)) (hval : Value.okWide P w r b0 t v) : ∃ cs, v = .agg cs := by
  unfold Value.okWide at hval
  rw [ht] at hval
  obtain ⟨cs, h, _⟩ := hval
  exact ⟨cs, h⟩
theorem again {W W' : World} {v : Value} {d : DataW H} {ps : List MemPlace} (hl : laidOutB P = true) (hr : P.readableRec t = true) (hrow : t < P.types.size) (h : DataW.Trod enc P W 0 (fun _ => true) true t v d ps) (hb : Below W.heap.size W W') :
    DataW.Trod enc P W' 0 (fun b => decide (b < W.heap.size)) true t v d ps :=
  Below.trod hl hr hrow h hb (fun p hp => let ⟨n, hn⟩ := h; DataW.trod_lt n _ _ _ hn p hp)
end
end Go.Proofs.YtcpdnoochieecaaDoor.K
namespace Go.Proofs.YtcpdnoochieecaaDoor.K
open Go Go.Proofs
set_option linter.unusedVariables false
theorem laid_each {P : Program} {W : World} : ∀ {l : List (String × DataW Unit)} {ps : List MemPlace}, DataW.LaidVars P W l ps → ∀ {n : String} {d : DataW Unit}, (n, d) ∈ l →
    ∃ g t cs fuel p, P.globalNamed n = some g ∧ (P.globals[g]?).map (·.type) = some t ∧ W.var? P n = some cs ∧ DataW.trod (fun _ => ()) P W 0 (fun _ => true) false fuel t cs.toList = some (d, p) ∧ ∀ x ∈ MemPlace.row ⟨g, 0, none⟩ cs.size ++ p, x ∈ ps
  | [], ps, h, n, d, hm => by cases hm
  | (m, e) :: r, ps, h, n, d, hm => by
    obtain ⟨g, t, cs, fuel, p, q, hg, ht, hv, hd, hr, rfl⟩ := h
    rcases List.mem_cons.1 hm with e1 | hm
    · cases e1
      exact ⟨g, t, cs, fuel, p, hg, ht, hv, hd, fun x hx => List.mem_append_left _ hx⟩
    · obtain ⟨g', t', cs', fuel', p', a1, a2, a3, a4, a5⟩ := laid_each hr hm
      exact ⟨g', t', cs', fuel', p', a1, a2, a3, a4, fun x hx => List.mem_append_right _ (a5 x hx)⟩
theorem sent_of_laid {P : Program} {W : World} {laid : List (String × DataW Unit)} {code : ByteArray → Nat} {n : String} {text : List UInt8} {g : Nat} {ti tp ta te ts : TypeId} {ms : Array (String × TypeId)} {f : Field}
    (h : laidMet P laid W) (hm : (n, .iface "*errors.errorString" (.ptr (.agg [.lit (.string text)]))) ∈ laid) (hg : P.globalNamed n = some g) (ht : (P.globals[g]?).map (·.type) = some ti)
    (hi : P.underlying ti = some (.interface ms)) (hrow : ∀ u, P.typeName? 3 u = some "*errors.errorString" → u = tp) (hp : P.underlying tp = some (.pointer te)) (he : P.underlying te = some (.struct #[f])) (hft : f.type = ts) (hfo : f.offset = 0) (hs : P.underlying ts = some .string) (hc : P.cellsOf te = 1) (hcs : P.cellsOf ts = 1)
    (hcode : ∀ s : ByteArray, s.data.toList = text → code s = g + 1) : ∃ v, ErV tp ta code (mem W) (.b (g + 1)) v := by
  obtain ⟨ps, hl, hnd, hrows⟩ := h
  obtain ⟨g', t', cs, fuel, p, a1, a2, a3, a4, a5⟩ := laid_each hl hm
  obtain rfl := Option.some.inj (hg.symm.trans a1)
  obtain rfl := Option.some.inj (ht.symm.trans a2)
  obtain ⟨l⟩ := cs
  have ok : ∀ u v, l = [.iface u v] → Value.okWide P W .any 0 u v := fun u v e => by
    subst e
    exact (hrows g 0 (a5 _ (by simp [MemPlace.row]))).2 u v (by simpa using World.var?_cell hg a3 0)
  obtain ⟨a, s, rfl, hcell, hst, hz, rfl⟩ := errorString_of_trod hi hrow hp he hft hfo hs hc hcs a4 ok
  obtain ⟨c, t, hb⟩ := (hrows a.block a.off (a5 _ (by simp [MemPlace.row]))).1
  refine ⟨.iface tp (.pointer (some a)), .inr ⟨by omega, mem_cell (by simpa using World.var?_cell hg a3 0), a, s, c, t, rfl, hb, hcode s hst, fun w hw => ?_⟩⟩
  have e : w.heap[a.block]? = W.heap[a.block]? := (hw _ _ hb).trans hb.symm
  unfold World.cell? at hcell ⊢
  rw [e]
  exact hcell
end Go.Proofs.YtcpdnoochieecaaDoor.K
namespace Go.Proofs.YtcpdnoochieecaaDoor.T
open Go Go.Proofs Go.Proofs.YtcpdnoochieecaaDoor.K
set_option linter.unusedVariables false
set_option linter.unusedSimpArgs false
set_option maxRecDepth 100000
theorem own : ownKnob Tryd.prog.godebug = none := by kernel_rfl
noncomputable def low : Nat := (World.holding Tryd.prog default ⟨#[], #[], []⟩).heap.size
abbrev es0 : ByteArray := { data := #[116, 111, 111, 32, 109, 97, 110, 121, 44, 32, 111, 114, 32, 116, 111, 111, 32, 102, 101, 119] }
abbrev es1 : ByteArray := { data := #[116, 111, 111, 32, 108, 111, 110, 103] }
abbrev es2 : ByteArray := { data := #[111, 110, 101, 32, 116, 104, 105, 110, 103, 32, 116, 119, 105, 99, 101] }
abbrev es3 : ByteArray := { data := #[97, 32, 114, 111, 111, 116, 32, 116, 104, 97, 116, 32, 100, 111, 101, 115, 32, 110, 111, 116, 32, 102, 105, 116] }
abbrev es4 : ByteArray := { data := #[107, 110, 111, 119, 110, 32, 97, 108, 114, 101, 97, 100, 121] }
abbrev es5 : ByteArray := { data := #[110, 111, 32, 115, 117, 99, 104, 32, 112, 97, 114, 101, 110, 116] }
abbrev es6 : ByteArray := { data := #[116, 104, 101, 114, 101, 32, 105, 115, 32, 110, 111, 32, 114, 111, 111, 109] }
abbrev es7 : ByteArray := { data := #[97, 32, 110, 117, 109, 98, 101, 114, 32, 111, 117, 116, 32, 111, 102, 32, 105, 116, 115, 32, 114, 97, 110, 103, 101] }
abbrev es8 : ByteArray := { data := #[110, 111, 32, 102, 105, 114, 115, 116, 32, 116, 114, 97, 110, 115, 97, 99, 116, 105, 111, 110, 32, 119, 104, 101, 114, 101, 32, 116, 104, 101, 114, 101, 32, 104, 97, 115, 32, 116, 111, 32, 98, 101, 32, 111, 110, 101, 44, 32, 111, 114, 32, 111, 110, 101, 32, 119, 104, 101, 114, 101, 32, 116, 104, 101, 114, 101, 32, 109, 97, 121, 32, 98, 101, 32, 110, 111, 110, 101] }
abbrev es9 : ByteArray := { data := #[97, 32, 107, 101, 121, 32, 116, 104, 97, 116, 32, 100, 111, 101, 115, 32, 110, 111, 116, 32, 102, 105, 116] }
abbrev es10 : ByteArray := { data := #[97, 110, 32, 97, 109, 111, 117, 110, 116, 32, 116, 104, 97, 116, 32, 99, 97, 110, 39, 116, 32, 98, 101] }
abbrev es11 : ByteArray := { data := #[105, 116, 32, 101, 110, 100, 115, 32, 116, 111, 111, 32, 101, 97, 114, 108, 121] }
abbrev es12 : ByteArray := { data := #[110, 111, 116, 32, 97, 115, 32, 105, 116, 32, 104, 97, 115, 32, 116, 111, 32, 98, 101] }
abbrev es13 : ByteArray := { data := #[98, 101, 104, 105, 110, 100, 32, 119, 104, 97, 116, 32, 105, 115, 32, 110, 111, 116, 32, 118, 97, 108, 105, 100] }
abbrev es14 : ByteArray := { data := #[97, 32, 116, 105, 109, 101, 32, 116, 104, 97, 116, 32, 105, 115, 32, 116, 111, 111, 32, 101, 97, 114, 108, 121] }
abbrev es15 : ByteArray := { data := #[97, 32, 99, 111, 105, 110, 32, 116, 104, 97, 116, 32, 105, 115, 32, 110, 111, 116, 32, 116, 104, 101, 114, 101] }
abbrev es16 : ByteArray := { data := #[97, 32, 99, 111, 105, 110, 32, 116, 104, 97, 116, 32, 105, 115, 32, 116, 111, 111, 32, 121, 111, 117, 110, 103] }
abbrev es17 : ByteArray := { data := #[116, 111, 111, 32, 101, 97, 114, 108, 121, 32, 116, 111, 32, 98, 101, 32, 116, 97, 107, 101, 110] }
abbrev es18 : ByteArray := { data := #[108, 101, 115, 115, 32, 99, 111, 109, 101, 115, 32, 105, 110, 32, 116, 104, 97, 110, 32, 103, 111, 101, 115, 32, 111, 117, 116] }
abbrev es19 : ByteArray := { data := #[109, 111, 114, 101, 32, 116, 104, 97, 110, 32, 116, 104, 101, 32, 114, 101, 119, 97, 114, 100] }
abbrev es20 : ByteArray := { data := #[97, 32, 99, 111, 105, 110, 32, 116, 104, 97, 116, 32, 105, 115, 32, 115, 112, 101, 110, 116, 32, 105, 110, 32, 116, 104, 101, 32, 112, 111, 111, 108] }
abbrev es21 : ByteArray := { data := #[116, 111, 111, 32, 109, 97, 110, 121, 32, 116, 104, 97, 116, 32, 104, 97, 110, 103, 32, 116, 111, 103, 101, 116, 104, 101, 114] }
abbrev es22 : ByteArray := { data := #[116, 104, 101, 114, 101, 32, 105, 115, 32, 110, 111, 110, 101] }
abbrev es23 : ByteArray := { data := #[110, 111, 32, 115, 117, 99, 104, 32, 119, 111, 114, 100] }
abbrev es24 : ByteArray := { data := #[110, 111, 116, 32, 97, 32, 110, 117, 109, 98, 101, 114] }
def setC (v : Value) : Obj → Obj
  | .cells _ t frozen => .cells #[v] t frozen
  | x => x
noncomputable def laidWorld (os : Os) : World :=
  let w0 := World.holding Tryd.prog os ⟨#[.cells #[.string es0] 227, .cells #[.string es1] 227, .cells #[.string es2] 227, .cells #[.string es3] 227, .cells #[.string es4] 227, .cells #[.string es5] 227, .cells #[.string es6] 227, .cells #[.string es7] 227, .cells #[.string es8] 227, .cells #[.string es9] 227, .cells #[.string es10] 227, .cells #[.string es11] 227, .cells #[.string es12] 227, .cells #[.string es13] 227, .cells #[.string es14] 227, .cells #[.string es15] 227, .cells #[.string es16] 227, .cells #[.string es17] 227, .cells #[.string es18] 227, .cells #[.string es19] 227, .cells #[.string es20] 227, .cells #[.string es21] 227, .cells #[.string es22] 227, .cells #[.string es23] 227, .cells #[.string es24] 227], #[], []⟩
  { w0 with heap := (((((((((((((((((((((((((w0.heap.modify 0 (setC (.iface 210 (.pointer (some ⟨low + 0, 0, none⟩))))).modify 1 (setC (.iface 210 (.pointer (some ⟨low + 1, 0, none⟩))))).modify 2 (setC (.iface 210 (.pointer (some ⟨low + 2, 0, none⟩))))).modify 3 (setC (.iface 210 (.pointer (some ⟨low + 3, 0, none⟩))))).modify 4 (setC (.iface 210 (.pointer (some ⟨low + 4, 0, none⟩))))).modify 5 (setC (.iface 210 (.pointer (some ⟨low + 5, 0, none⟩))))).modify 6 (setC (.iface 210 (.pointer (some ⟨low + 6, 0, none⟩))))).modify 7 (setC (.iface 210 (.pointer (some ⟨low + 7, 0, none⟩))))).modify 8 (setC (.iface 210 (.pointer (some ⟨low + 8, 0, none⟩))))).modify 9 (setC (.iface 210 (.pointer (some ⟨low + 9, 0, none⟩))))).modify 10 (setC (.iface 210 (.pointer (some ⟨low + 10, 0, none⟩))))).modify 11 (setC (.iface 210 (.pointer (some ⟨low + 11, 0, none⟩))))).modify 12 (setC (.iface 210 (.pointer (some ⟨low + 12, 0, none⟩))))).modify 13 (setC (.iface 210 (.pointer (some ⟨low + 13, 0, none⟩))))).modify 14 (setC (.iface 210 (.pointer (some ⟨low + 14, 0, none⟩))))).modify 15 (setC (.iface 210 (.pointer (some ⟨low + 15, 0, none⟩))))).modify 16 (setC (.iface 210 (.pointer (some ⟨low + 16, 0, none⟩))))).modify 17 (setC (.iface 210 (.pointer (some ⟨low + 17, 0, none⟩))))).modify 18 (setC (.iface 210 (.pointer (some ⟨low + 18, 0, none⟩))))).modify 19 (setC (.iface 210 (.pointer (some ⟨low + 19, 0, none⟩))))).modify 20 (setC (.iface 210 (.pointer (some ⟨low + 20, 0, none⟩))))).modify 21 (setC (.iface 210 (.pointer (some ⟨low + 21, 0, none⟩))))).modify 22 (setC (.iface 210 (.pointer (some ⟨low + 22, 0, none⟩))))).modify 23 (setC (.iface 210 (.pointer (some ⟨low + 23, 0, none⟩))))).modify 24 (setC (.iface 210 (.pointer (some ⟨low + 24, 0, none⟩))))) }
theorem starE : "*" ++ "errors.errorString" = "*errors.errorString" := by decide
theorem rowE (u : TypeId) (h : Tryd.prog.typeName? 3 u = some "*errors.errorString") : u = 210 :=
  typeName_ptr_named (nm := "errors.errorString") (by rw [starE]; kernel_rfl) (by kernel_rfl) (by decide) u (by rw [starE]; exact h)
theorem ceE : Tryd.prog.cellsOf 227 = 1 := by kernel_rfl
theorem csE : Tryd.prog.cellsOf 9 = 1 := by kernel_rfl
theorem sent0 {W : World} {l : List (String × DataW Unit)} (h : laidMet Tryd.prog l W) (hm : ("sargasso/api.ErrMany", .iface "*errors.errorString" (.ptr (.agg [.lit (.string [116, 111, 111, 32, 109, 97, 110, 121, 44, 32, 111, 114, 32, 116, 111, 111, 32, 102, 101, 119])]))) ∈ l) : ∃ v, ErS (mem W) v (Er.b 1) :=
  sent_of_laid h hm (by kernel_rfl) (by kernel_rfl) Tryd.underlying47 rowE Tryd.underlying210 Tryd.underlying227 rfl rfl Tryd.underlying9 ceE csE (fun s hs => by unfold errCode; rw [hs]; kernel_rfl)
theorem sent1 {W : World} {l : List (String × DataW Unit)} (h : laidMet Tryd.prog l W) (hm : ("sargasso/api.ErrLong", .iface "*errors.errorString" (.ptr (.agg [.lit (.string [116, 111, 111, 32, 108, 111, 110, 103])]))) ∈ l) : ∃ v, ErS (mem W) v (Er.b 2) :=
  sent_of_laid h hm (by kernel_rfl) (by kernel_rfl) Tryd.underlying47 rowE Tryd.underlying210 Tryd.underlying227 rfl rfl Tryd.underlying9 ceE csE (fun s hs => by unfold errCode; rw [hs]; kernel_rfl)
theorem sent2 {W : World} {l : List (String × DataW Unit)} (h : laidMet Tryd.prog l W) (hm : ("sargasso/api.ErrTwice", .iface "*errors.errorString" (.ptr (.agg [.lit (.string [111, 110, 101, 32, 116, 104, 105, 110, 103, 32, 116, 119, 105, 99, 101])]))) ∈ l) : ∃ v, ErS (mem W) v (Er.b 3) :=
  sent_of_laid h hm (by kernel_rfl) (by kernel_rfl) Tryd.underlying47 rowE Tryd.underlying210 Tryd.underlying227 rfl rfl Tryd.underlying9 ceE csE (fun s hs => by unfold errCode; rw [hs]; kernel_rfl)
theorem sent3 {W : World} {l : List (String × DataW Unit)} (h : laidMet Tryd.prog l W) (hm : ("sargasso/api.ErrRoot", .iface "*errors.errorString" (.ptr (.agg [.lit (.string [97, 32, 114, 111, 111, 116, 32, 116, 104, 97, 116, 32, 100, 111, 101, 115, 32, 110, 111, 116, 32, 102, 105, 116])]))) ∈ l) : ∃ v, ErS (mem W) v (Er.b 4) :=
  sent_of_laid h hm (by kernel_rfl) (by kernel_rfl) Tryd.underlying47 rowE Tryd.underlying210 Tryd.underlying227 rfl rfl Tryd.underlying9 ceE csE (fun s hs => by unfold errCode; rw [hs]; kernel_rfl)
theorem sent4 {W : World} {l : List (String × DataW Unit)} (h : laidMet Tryd.prog l W) (hm : ("sargasso/api.ErrKnown", .iface "*errors.errorString" (.ptr (.agg [.lit (.string [107, 110, 111, 119, 110, 32, 97, 108, 114, 101, 97, 100, 121])]))) ∈ l) : ∃ v, ErS (mem W) v (Er.b 5) :=
  sent_of_laid h hm (by kernel_rfl) (by kernel_rfl) Tryd.underlying47 rowE Tryd.underlying210 Tryd.underlying227 rfl rfl Tryd.underlying9 ceE csE (fun s hs => by unfold errCode; rw [hs]; kernel_rfl)
theorem sent5 {W : World} {l : List (String × DataW Unit)} (h : laidMet Tryd.prog l W) (hm : ("sargasso/api.ErrParent", .iface "*errors.errorString" (.ptr (.agg [.lit (.string [110, 111, 32, 115, 117, 99, 104, 32, 112, 97, 114, 101, 110, 116])]))) ∈ l) : ∃ v, ErS (mem W) v (Er.b 6) :=
  sent_of_laid h hm (by kernel_rfl) (by kernel_rfl) Tryd.underlying47 rowE Tryd.underlying210 Tryd.underlying227 rfl rfl Tryd.underlying9 ceE csE (fun s hs => by unfold errCode; rw [hs]; kernel_rfl)
theorem sent6 {W : World} {l : List (String × DataW Unit)} (h : laidMet Tryd.prog l W) (hm : ("sargasso/api.ErrFull", .iface "*errors.errorString" (.ptr (.agg [.lit (.string [116, 104, 101, 114, 101, 32, 105, 115, 32, 110, 111, 32, 114, 111, 111, 109])]))) ∈ l) : ∃ v, ErS (mem W) v (Er.b 7) :=
  sent_of_laid h hm (by kernel_rfl) (by kernel_rfl) Tryd.underlying47 rowE Tryd.underlying210 Tryd.underlying227 rfl rfl Tryd.underlying9 ceE csE (fun s hs => by unfold errCode; rw [hs]; kernel_rfl)
theorem sent7 {W : World} {l : List (String × DataW Unit)} (h : laidMet Tryd.prog l W) (hm : ("sargasso/api.ErrRange", .iface "*errors.errorString" (.ptr (.agg [.lit (.string [97, 32, 110, 117, 109, 98, 101, 114, 32, 111, 117, 116, 32, 111, 102, 32, 105, 116, 115, 32, 114, 97, 110, 103, 101])]))) ∈ l) : ∃ v, ErS (mem W) v (Er.b 8) :=
  sent_of_laid h hm (by kernel_rfl) (by kernel_rfl) Tryd.underlying47 rowE Tryd.underlying210 Tryd.underlying227 rfl rfl Tryd.underlying9 ceE csE (fun s hs => by unfold errCode; rw [hs]; kernel_rfl)
theorem sent8 {W : World} {l : List (String × DataW Unit)} (h : laidMet Tryd.prog l W) (hm : ("sargasso/api.ErrBase", .iface "*errors.errorString" (.ptr (.agg [.lit (.string [110, 111, 32, 102, 105, 114, 115, 116, 32, 116, 114, 97, 110, 115, 97, 99, 116, 105, 111, 110, 32, 119, 104, 101, 114, 101, 32, 116, 104, 101, 114, 101, 32, 104, 97, 115, 32, 116, 111, 32, 98, 101, 32, 111, 110, 101, 44, 32, 111, 114, 32, 111, 110, 101, 32, 119, 104, 101, 114, 101, 32, 116, 104, 101, 114, 101, 32, 109, 97, 121, 32, 98, 101, 32, 110, 111, 110, 101])]))) ∈ l) : ∃ v, ErS (mem W) v (Er.b 9) :=
  sent_of_laid h hm (by kernel_rfl) (by kernel_rfl) Tryd.underlying47 rowE Tryd.underlying210 Tryd.underlying227 rfl rfl Tryd.underlying9 ceE csE (fun s hs => by unfold errCode; rw [hs]; kernel_rfl)
theorem sent9 {W : World} {l : List (String × DataW Unit)} (h : laidMet Tryd.prog l W) (hm : ("sargasso/api.ErrKey", .iface "*errors.errorString" (.ptr (.agg [.lit (.string [97, 32, 107, 101, 121, 32, 116, 104, 97, 116, 32, 100, 111, 101, 115, 32, 110, 111, 116, 32, 102, 105, 116])]))) ∈ l) : ∃ v, ErS (mem W) v (Er.b 10) :=
  sent_of_laid h hm (by kernel_rfl) (by kernel_rfl) Tryd.underlying47 rowE Tryd.underlying210 Tryd.underlying227 rfl rfl Tryd.underlying9 ceE csE (fun s hs => by unfold errCode; rw [hs]; kernel_rfl)
theorem sent10 {W : World} {l : List (String × DataW Unit)} (h : laidMet Tryd.prog l W) (hm : ("sargasso/api.ErrValue", .iface "*errors.errorString" (.ptr (.agg [.lit (.string [97, 110, 32, 97, 109, 111, 117, 110, 116, 32, 116, 104, 97, 116, 32, 99, 97, 110, 39, 116, 32, 98, 101])]))) ∈ l) : ∃ v, ErS (mem W) v (Er.b 11) :=
  sent_of_laid h hm (by kernel_rfl) (by kernel_rfl) Tryd.underlying47 rowE Tryd.underlying210 Tryd.underlying227 rfl rfl Tryd.underlying9 ceE csE (fun s hs => by unfold errCode; rw [hs]; kernel_rfl)
theorem sent11 {W : World} {l : List (String × DataW Unit)} (h : laidMet Tryd.prog l W) (hm : ("sargasso/api.ErrEnd", .iface "*errors.errorString" (.ptr (.agg [.lit (.string [105, 116, 32, 101, 110, 100, 115, 32, 116, 111, 111, 32, 101, 97, 114, 108, 121])]))) ∈ l) : ∃ v, ErS (mem W) v (Er.b 12) :=
  sent_of_laid h hm (by kernel_rfl) (by kernel_rfl) Tryd.underlying47 rowE Tryd.underlying210 Tryd.underlying227 rfl rfl Tryd.underlying9 ceE csE (fun s hs => by unfold errCode; rw [hs]; kernel_rfl)
theorem sent12 {W : World} {l : List (String × DataW Unit)} (h : laidMet Tryd.prog l W) (hm : ("sargasso/api.ErrShape", .iface "*errors.errorString" (.ptr (.agg [.lit (.string [110, 111, 116, 32, 97, 115, 32, 105, 116, 32, 104, 97, 115, 32, 116, 111, 32, 98, 101])]))) ∈ l) : ∃ v, ErS (mem W) v (Er.b 13) :=
  sent_of_laid h hm (by kernel_rfl) (by kernel_rfl) Tryd.underlying47 rowE Tryd.underlying210 Tryd.underlying227 rfl rfl Tryd.underlying9 ceE csE (fun s hs => by unfold errCode; rw [hs]; kernel_rfl)
theorem sent13 {W : World} {l : List (String × DataW Unit)} (h : laidMet Tryd.prog l W) (hm : ("sargasso/api.ErrInvalid", .iface "*errors.errorString" (.ptr (.agg [.lit (.string [98, 101, 104, 105, 110, 100, 32, 119, 104, 97, 116, 32, 105, 115, 32, 110, 111, 116, 32, 118, 97, 108, 105, 100])]))) ∈ l) : ∃ v, ErS (mem W) v (Er.b 14) :=
  sent_of_laid h hm (by kernel_rfl) (by kernel_rfl) Tryd.underlying47 rowE Tryd.underlying210 Tryd.underlying227 rfl rfl Tryd.underlying9 ceE csE (fun s hs => by unfold errCode; rw [hs]; kernel_rfl)
theorem sent14 {W : World} {l : List (String × DataW Unit)} (h : laidMet Tryd.prog l W) (hm : ("sargasso/api.ErrTime", .iface "*errors.errorString" (.ptr (.agg [.lit (.string [97, 32, 116, 105, 109, 101, 32, 116, 104, 97, 116, 32, 105, 115, 32, 116, 111, 111, 32, 101, 97, 114, 108, 121])]))) ∈ l) : ∃ v, ErS (mem W) v (Er.b 15) :=
  sent_of_laid h hm (by kernel_rfl) (by kernel_rfl) Tryd.underlying47 rowE Tryd.underlying210 Tryd.underlying227 rfl rfl Tryd.underlying9 ceE csE (fun s hs => by unfold errCode; rw [hs]; kernel_rfl)
theorem sent15 {W : World} {l : List (String × DataW Unit)} (h : laidMet Tryd.prog l W) (hm : ("sargasso/api.ErrMissing", .iface "*errors.errorString" (.ptr (.agg [.lit (.string [97, 32, 99, 111, 105, 110, 32, 116, 104, 97, 116, 32, 105, 115, 32, 110, 111, 116, 32, 116, 104, 101, 114, 101])]))) ∈ l) : ∃ v, ErS (mem W) v (Er.b 16) :=
  sent_of_laid h hm (by kernel_rfl) (by kernel_rfl) Tryd.underlying47 rowE Tryd.underlying210 Tryd.underlying227 rfl rfl Tryd.underlying9 ceE csE (fun s hs => by unfold errCode; rw [hs]; kernel_rfl)
theorem sent16 {W : World} {l : List (String × DataW Unit)} (h : laidMet Tryd.prog l W) (hm : ("sargasso/api.ErrYoung", .iface "*errors.errorString" (.ptr (.agg [.lit (.string [97, 32, 99, 111, 105, 110, 32, 116, 104, 97, 116, 32, 105, 115, 32, 116, 111, 111, 32, 121, 111, 117, 110, 103])]))) ∈ l) : ∃ v, ErS (mem W) v (Er.b 17) :=
  sent_of_laid h hm (by kernel_rfl) (by kernel_rfl) Tryd.underlying47 rowE Tryd.underlying210 Tryd.underlying227 rfl rfl Tryd.underlying9 ceE csE (fun s hs => by unfold errCode; rw [hs]; kernel_rfl)
theorem sent17 {W : World} {l : List (String × DataW Unit)} (h : laidMet Tryd.prog l W) (hm : ("sargasso/api.ErrEarly", .iface "*errors.errorString" (.ptr (.agg [.lit (.string [116, 111, 111, 32, 101, 97, 114, 108, 121, 32, 116, 111, 32, 98, 101, 32, 116, 97, 107, 101, 110])]))) ∈ l) : ∃ v, ErS (mem W) v (Er.b 18) :=
  sent_of_laid h hm (by kernel_rfl) (by kernel_rfl) Tryd.underlying47 rowE Tryd.underlying210 Tryd.underlying227 rfl rfl Tryd.underlying9 ceE csE (fun s hs => by unfold errCode; rw [hs]; kernel_rfl)
theorem sent18 {W : World} {l : List (String × DataW Unit)} (h : laidMet Tryd.prog l W) (hm : ("sargasso/api.ErrLess", .iface "*errors.errorString" (.ptr (.agg [.lit (.string [108, 101, 115, 115, 32, 99, 111, 109, 101, 115, 32, 105, 110, 32, 116, 104, 97, 110, 32, 103, 111, 101, 115, 32, 111, 117, 116])]))) ∈ l) : ∃ v, ErS (mem W) v (Er.b 19) :=
  sent_of_laid h hm (by kernel_rfl) (by kernel_rfl) Tryd.underlying47 rowE Tryd.underlying210 Tryd.underlying227 rfl rfl Tryd.underlying9 ceE csE (fun s hs => by unfold errCode; rw [hs]; kernel_rfl)
theorem sent19 {W : World} {l : List (String × DataW Unit)} (h : laidMet Tryd.prog l W) (hm : ("sargasso/api.ErrReward", .iface "*errors.errorString" (.ptr (.agg [.lit (.string [109, 111, 114, 101, 32, 116, 104, 97, 110, 32, 116, 104, 101, 32, 114, 101, 119, 97, 114, 100])]))) ∈ l) : ∃ v, ErS (mem W) v (Er.b 20) :=
  sent_of_laid h hm (by kernel_rfl) (by kernel_rfl) Tryd.underlying47 rowE Tryd.underlying210 Tryd.underlying227 rfl rfl Tryd.underlying9 ceE csE (fun s hs => by unfold errCode; rw [hs]; kernel_rfl)
theorem sent20 {W : World} {l : List (String × DataW Unit)} (h : laidMet Tryd.prog l W) (hm : ("sargasso/api.ErrClash", .iface "*errors.errorString" (.ptr (.agg [.lit (.string [97, 32, 99, 111, 105, 110, 32, 116, 104, 97, 116, 32, 105, 115, 32, 115, 112, 101, 110, 116, 32, 105, 110, 32, 116, 104, 101, 32, 112, 111, 111, 108])]))) ∈ l) : ∃ v, ErS (mem W) v (Er.b 21) :=
  sent_of_laid h hm (by kernel_rfl) (by kernel_rfl) Tryd.underlying47 rowE Tryd.underlying210 Tryd.underlying227 rfl rfl Tryd.underlying9 ceE csE (fun s hs => by unfold errCode; rw [hs]; kernel_rfl)
theorem sent21 {W : World} {l : List (String × DataW Unit)} (h : laidMet Tryd.prog l W) (hm : ("sargasso/api.ErrLimit", .iface "*errors.errorString" (.ptr (.agg [.lit (.string [116, 111, 111, 32, 109, 97, 110, 121, 32, 116, 104, 97, 116, 32, 104, 97, 110, 103, 32, 116, 111, 103, 101, 116, 104, 101, 114])]))) ∈ l) : ∃ v, ErS (mem W) v (Er.b 22) :=
  sent_of_laid h hm (by kernel_rfl) (by kernel_rfl) Tryd.underlying47 rowE Tryd.underlying210 Tryd.underlying227 rfl rfl Tryd.underlying9 ceE csE (fun s hs => by unfold errCode; rw [hs]; kernel_rfl)
theorem sent22 {W : World} {l : List (String × DataW Unit)} (h : laidMet Tryd.prog l W) (hm : ("sargasso/api.ErrNone", .iface "*errors.errorString" (.ptr (.agg [.lit (.string [116, 104, 101, 114, 101, 32, 105, 115, 32, 110, 111, 110, 101])]))) ∈ l) : ∃ v, ErS (mem W) v (Er.b 23) :=
  sent_of_laid h hm (by kernel_rfl) (by kernel_rfl) Tryd.underlying47 rowE Tryd.underlying210 Tryd.underlying227 rfl rfl Tryd.underlying9 ceE csE (fun s hs => by unfold errCode; rw [hs]; kernel_rfl)
theorem sent23 {W : World} {l : List (String × DataW Unit)} (h : laidMet Tryd.prog l W) (hm : ("sargasso/api.ErrWord", .iface "*errors.errorString" (.ptr (.agg [.lit (.string [110, 111, 32, 115, 117, 99, 104, 32, 119, 111, 114, 100])]))) ∈ l) : ∃ v, ErS (mem W) v (Er.b 24) :=
  sent_of_laid h hm (by kernel_rfl) (by kernel_rfl) Tryd.underlying47 rowE Tryd.underlying210 Tryd.underlying227 rfl rfl Tryd.underlying9 ceE csE (fun s hs => by unfold errCode; rw [hs]; kernel_rfl)
theorem sent24 {W : World} {l : List (String × DataW Unit)} (h : laidMet Tryd.prog l W) (hm : ("sargasso/api.ErrNumber", .iface "*errors.errorString" (.ptr (.agg [.lit (.string [110, 111, 116, 32, 97, 32, 110, 117, 109, 98, 101, 114])]))) ∈ l) : ∃ v, ErS (mem W) v (Er.b 25) :=
  sent_of_laid h hm (by kernel_rfl) (by kernel_rfl) Tryd.underlying47 rowE Tryd.underlying210 Tryd.underlying227 rfl rfl Tryd.underlying9 ceE csE (fun s hs => by unfold errCode; rw [hs]; kernel_rfl)
end Go.Proofs.YtcpdnoochieecaaDoor.T
namespace Go.Proofs.YtcpdnoochieecaaDoor.T
open Go Go.Proofs Go.Proofs.YtcpdnoochieecaaDoor.K
set_option linter.unusedVariables false
set_option linter.unusedSimpArgs false
theorem laid : laidOutB Tryd.prog = true := by kernel_rfl
theorem rr3 : Tryd.prog.readableRec 3 = true := by kernel_rfl
theorem tr3 : 3 < Tryd.prog.types.size := of_decide_eq_true (by kernel_rfl)
theorem cl5 : Tryd.prog.cellsOf 5 = 1 := by kernel_rfl
theorem cl26 : Tryd.prog.cellsOf 26 = 32 := by kernel_rfl
theorem rr26 : Tryd.prog.readableRec 26 = true := by kernel_rfl
theorem tr26 : 26 < Tryd.prog.types.size := of_decide_eq_true (by kernel_rfl)
section
variable {H : Type} {enc : TypeId × Value → H} {w : World} {base : Nat} {spare : Nat → Bool} {held : Bool}
theorem rd26 : Rd enc Tryd.prog w base spare held 26 (fun c => ∃ xs, RA .u8 32 xs c) := rd_array Tryd.underlying26 Tryd.underlying5 cl5 cl26
end
end Go.Proofs.YtcpdnoochieecaaDoor.T
namespace Go.Proofs.YtcpdnoochieecaaDoor.J
open Go Go.Proofs
theorem words_cons : ∀ (w r : List Char), w.all (· != ' ') = true → wordsSigns (w ++ ' ' :: r) = w :: wordsSigns r
  | [], r, _ => rfl
  | c :: w, r, h => by
    simp only [List.all_cons, Bool.and_eq_true, bne_iff_ne, ne_eq] at h
    have ih := words_cons w r h.2
    rw [List.cons_append, wordsSigns, ih]
    exact fun e => h.1 e
set_option maxRecDepth 100000
def w0 : List Char := ['h', 'a', 'r', 'n', 'e', 's', 's']
def w1 : List Char := ['8', '9', '4', 'e', '0', '4', '7', '1', '3', 'd', '9', '2', '3', 'b', 'f', 'b', '2', '7', 'b', 'f', 'a', '8', '7', '7', '4', '6', '5', 'f', '2', '2', '4', '7', 'f', 'd', '5', '8', 'a', 'b', '7', '8', '2', '0', 'f', 'e', 'f', '6', '7', '8', 'b', 'f', '1', 'b', 'a', '1', '2', '0', '7', 'd', 'a', 'f', '7', '0', '9', 'b']
def w2 : List Char := ['c', 'u', 't']
def w3 : List Char := ['a', 't', ' ', 's', 'a', 'r', 'g', 'a', 's', 's', 'o', '/', 's', 'a', 'r', 'g', 'a', 's', 's', 'o', 'l', 'a', 'w', '7', '.', 'B', 'l', 'o', 'c', 'k', 'K', 'i', 'n', 'd', 's', ' ', 's', 'a', 'r', 'g', 'a', 's', 's', 'o', '/', 's', 'a', 'r', 'g', 'a', 's', 's', 'o', 'l', 'a', 'w', '1', '1', '.', 'T', 'r', 'e', 'e', 'W', 'a', 'y', 's', ' ', 's', 'a', 'r', 'g', 'a', 's', 's', 'o', '/', 's', 'a', 'r', 'g', 'a', 's', 's', 'o', 'l', 'a', 'w', '2', '0', '.', 'N', 'o', 't', 'e', 's', 'C', 'a', 'p', ' ', 's', 'a', 'r', 'g', 'a', 's', 's', 'o', '/', 's', 'a', 'r', 'g', 'a', 's', 's', 'o', 'l', 'a', 'w', '2', '0', '.', 'N', 'o', 't', 'e', 's', 'P', 'l', 'a', 'y', ' ', 's', 'a', 'r', 'g', 'a', 's', 's', 'o', '/', 's', 'a', 'r', 'g', 'a', 's', 's', 'o', 'l', 'a', 'w', '2', '0', '.', 'N', 'o', 't', 'e', 's', 'O', 'p', 's', ' ', 's', 'a', 'r', 'g', 'a', 's', 's', 'o', '/', 's', 'a', 'r', 'g', 'a', 's', 's', 'o', 'l', 'a', 'w', '2', '4', '.', 'R', 'e', 'd', 'o', 'O', 'r', 'd', 'e', 'r', ' ', 's', 'a', 'r', 'g', 'a', 's', 's', 'o', '/', 's', 'a', 'r', 'g', 'a', 's', 's', 'o', 'l', 'a', 'w', '2', '4', '.', 'R', 'e', 'd', 'o', 'O', 'n']
theorem io0 : Tryd.prog.initOrder = String.ofList (w0 ++ ' ' :: (w1 ++ ' ' :: (w2 ++ ' ' :: w3))) := by kernel_rfl
theorem io : Tryd.prog.initOrder.toList = w0 ++ ' ' :: (w1 ++ ' ' :: (w2 ++ ' ' :: w3)) := (congrArg String.toList io0).trans String.toList_ofList
theorem ws : wordsSigns Tryd.prog.initOrder.toList = w0 :: w1 :: w2 :: wordsSigns w3 := by
  rw [io, words_cons _ _ (by kernel_rfl), words_cons _ _ (by kernel_rfl), words_cons _ _ (by kernel_rfl)]
theorem bm (R : List (List Char)) : behindMainWord (w0 :: w1 :: w2 :: R) = w2 :: R := by kernel_rfl
theorem main_of {P : Program} {R : List (List Char)} (h : wordsSigns P.initOrder.toList = w0 :: w1 :: R) : P.mainIs = some (true, w1) := by
  unfold Program.mainIs
  rw [h]
  kernel_rfl
theorem mainIs : Tryd.prog.mainIs = some (true, w1) := main_of ws
theorem bw : behindMainWord (wordsSigns Tryd.prog.initOrder.toList) = w2 :: wordsSigns w3 := by rw [ws, bm]
theorem st (R : List (List Char)) : stripLifts liftWords (w2 :: R) = ([], w2 :: R) := by kernel_rfl
theorem make_of {P : Program} {R : List (List Char)} (h : behindMainWord (wordsSigns P.initOrder.toList) = w2 :: R) : P.make = some .cut := by
  unfold Program.make
  rw [h]
  kernel_rfl
theorem head_of {P : Program} {R : List (List Char)} (h : behindMainWord (wordsSigns P.initOrder.toList) = w2 :: R) : P.headLifts = [] := by
  unfold Program.headLifts
  rw [h, st]
  kernel_rfl
theorem lifts_of {P : Program} {R : List (List Char)} (h : behindMainWord (wordsSigns P.initOrder.toList) = w2 :: R) : P.liftsFinal = false := by
  unfold Program.liftsFinal
  rw [h, head_of h]
  kernel_rfl
theorem may_of {P : Program} {R : List (List Char)} (h : behindMainWord (wordsSigns P.initOrder.toList) = w2 :: R) (h1 : P.laysLater = false) (h2 : P.bearsReflect = false) (h3 : P.doorFits [] = true) : P.mayEnter = true := by
  unfold Program.mayEnter
  rw [h]
  simp only [st, h1, h2, h3]
  kernel_rfl
theorem later : Tryd.prog.laysLater = false := by kernel_rfl
theorem reflect : Tryd.prog.bearsReflect = false := by kernel_rfl
theorem door : Tryd.prog.doorFits [] = true := by kernel_rfl
theorem make : Tryd.prog.make = some .cut := make_of bw
theorem lifts : Tryd.prog.liftsFinal = false := lifts_of bw
theorem may : Tryd.prog.mayEnter = true := may_of bw later reflect door
end Go.Proofs.YtcpdnoochieecaaDoor.J
namespace Go.Proofs.YtcpdnoochieecaaDoor.zNotesOps
open Go Go.Proofs Go.Proofs.YtcpdnoochieecaaDoor.K Go.Proofs.YtcpdnoochieecaaDoor.T
open Go.ChangeShapes Go.WideShapes Go.ChangeAt Go.RowKit
set_option linter.unusedVariables false
theorem met (os : Os) (args : Array Value) : laidMetH Tryd.prog Rows.notesOpsRow.laid ((laidWorld os).forCall (fun _ _ => 0) ⟨#[], args, []⟩).memory :=
  laidMetH_of_parts (laidMet_of_run' 8 (by kernel_rfl) (by kernel_rfl)) (by kernel_rfl)
set_option maxRecDepth 100000 in
theorem lifted (os : Os) (started : os.Started) (H : Type) (enc : TypeId × Value → H) :
    ReturnsInHanded {} Tryd.checked os 7 .any (fun w args => (Rows.notesOpsSpec.pre enc Tryd.prog Tryd.f7 [] false w args ∧ laidMetH Tryd.prog Rows.notesOpsRow.laid w) ∧ sizedMet enc Tryd.prog Tryd.f7 (OpenSpec.ofChange Rows.notesOpsSpec) false w args) (Rows.notesOpsSpec.post enc Tryd.prog Tryd.f7 false true false false) := by
  refine returnsInHanded_of_change_and (C := Tryd.checked) (X := fun w _ => laidMetH Tryd.prog Rows.notesOpsRow.laid w) (fun _ _ _ hh h => h.of_heap hh) own started (by kernel_rfl) Tryd.func7
    (ChangeSpec.witness_at (enc := enc) (C := Tryd.checked) (os := os) (X := fun w _ => laidMetH Tryd.prog Rows.notesOpsRow.laid w) false (laidWorld os) #[.int .i64 0, .int .i64 0, .agg #[.int .u8 0, .int .u8 0, .int .u8 0, .int .u8 0, .int .u8 0, .int .u8 0, .int .u8 0, .int .u8 0, .int .u8 0, .int .u8 0, .int .u8 0, .int .u8 0, .int .u8 0, .int .u8 0, .int .u8 0, .int .u8 0, .int .u8 0, .int .u8 0, .int .u8 0, .int .u8 0, .int .u8 0, .int .u8 0, .int .u8 0, .int .u8 0, .int .u8 0, .int .u8 0, .int .u8 0, .int .u8 0, .int .u8 0, .int .u8 0, .int .u8 0, .int .u8 0]] 8 rfl (by kernel_rfl) (by kernel_rfl) (by kernel_rfl) (by kernel_rfl) (by kernel_rfl) (met os _)) ?_
  intro W base args ds gs before hval0 hW hcnd hsz0 hL _
  have hL : laidMet Tryd.prog Rows.notesOpsRow.laid W := hL
  have hG : Gl (mem W) := ⟨sent0 hL (List.mem_of_getElem? (i := 3) rfl), sent1 hL (List.mem_of_getElem? (i := 2) rfl), sent2 hL (List.mem_of_getElem? (i := 5) rfl), sent3 hL (List.mem_of_getElem? (i := 7) rfl), sent4 hL (List.mem_of_getElem? (i := 8) rfl), sent5 hL (List.mem_of_getElem? (i := 9) rfl), sent6 hL (List.mem_of_getElem? (i := 20) rfl), sent7 hL (List.mem_of_getElem? (i := 21) rfl), sent8 hL (List.mem_of_getElem? (i := 6) rfl), sent9 hL (List.mem_of_getElem? (i := 13) rfl), sent10 hL (List.mem_of_getElem? (i := 4) rfl), sent11 hL (List.mem_of_getElem? (i := 0) rfl), sent12 hL (List.mem_of_getElem? (i := 1) rfl), sent13 hL (List.mem_of_getElem? (i := 10) rfl), sent14 hL (List.mem_of_getElem? (i := 11) rfl), sent15 hL (List.mem_of_getElem? (i := 12) rfl), sent16 hL (List.mem_of_getElem? (i := 14) rfl), sent17 hL (List.mem_of_getElem? (i := 15) rfl), sent18 hL (List.mem_of_getElem? (i := 16) rfl), sent19 hL (List.mem_of_getElem? (i := 17) rfl), sent20 hL (List.mem_of_getElem? (i := 18) rfl), sent21 hL (List.mem_of_getElem? (i := 19) rfl), sent22 hL (List.mem_of_getElem? (i := 22) rfl), sent23 hL (List.mem_of_getElem? (i := 23) rfl), sent24 hL (List.mem_of_getElem? (i := 24) rfl)⟩
  have hW' := hW
  obtain ⟨p, q, hA0, hV, rfl, hfz, hnd⟩ := hW
  have hA : DataW.TrodAll enc Tryd.prog W 0 (fun _ => true) true Tryd.f7.params.toList args.toList ds p := hA0
  have hval : ∀ (j : Nat) t v, Tryd.f7.params[j]? = some t → args[j]? = some v → Value.okWide Tryd.prog W .any base t v := hval0
  rw [Tryd.params7] at hA hval
  obtain ⟨v0, vs0, d0, ds0, p0, q0, hargs, rfl, rfl, h0, r0⟩ := trodAll_cons hA
  obtain ⟨v1, vs1, d1, ds1, p1, q1, rfl, rfl, rfl, h1, r1⟩ := trodAll_cons r0
  obtain ⟨v2, vs2, d2, ds2, p2, q2, rfl, rfl, rfl, h2, r2⟩ := trodAll_cons r1
  obtain ⟨rfl, rfl, rfl⟩ := trodAll_nil r2
  obtain rfl : args = #[v0, v1, v2] := by cases args; simp_all
  obtain ⟨rfl, rfl⟩ := trodVars_none hV
  obtain ⟨x0, rfl, _, _, w0⟩ := open_int Tryd.underlying3 (hval 0 3 v0 rfl rfl) h0
  obtain ⟨x1, rfl, _, _, w1⟩ := open_int Tryd.underlying3 (hval 1 3 v1 rfl rfl) h1
  obtain ⟨c2, rfl, x2, rfl, w2⟩ := at_agg (agg_array Tryd.underlying26 (hval 2 26 v2 rfl rfl)) rd26 h2
  have hμ : Agr (mem W) W := agr_mem W
  have hm := sargassolaw20_NotesOps.m (mem W) x0 (wf_in w0) x1 (wf_in w1) x2 w2
  refine (sargassolaw20_NotesOps.c (mem W) W hμ x0 (wf_in w0) x1 (wf_in w1) x2 w2 hG true hm).mono fun e W' ⟨v, he, hv, _, hI⟩ => ?_
  subst hv
  subst he
  have bel : Below W.heap.size W W' := hI.below
  exact ⟨_, rfl, _, _, _, [], _, [], hW', trodAll_mk1 (shut_bool Tryd.underlying4 _), (trodAll_cons_mk (again laid rr3 tr3 h0 bel) (trodAll_cons_mk (again laid rr3 tr3 h1 bel) (trodAll_cons_mk (again laid rr26 tr26 h2 bel) trodAll_mk0))), rfl, bel.frame _, fun h => by cases h⟩
theorem closed : joinedFacts Tryd.prog 7 Tryd.f7 Rows.notesOpsSpec Rows.notesOpsRow = true := by
  unfold joinedFacts
  rw [J.may, J.lifts, J.make]
  kernel_rfl
theorem over : Rows.notesOpsRow.holds Tryd.pinned (OpenSpec.ofChange Rows.notesOpsSpec) :=
  OpenClaim.holds_of_wide 7 Tryd.f7 rfl rfl rfl rfl rfl rfl rfl ⟨rfl, rfl, rfl, rfl, rfl⟩ rfl rfl rfl rfl rfl (by kernel_rfl) Tryd.func7 closed
    (of_decide_eq_true (by kernel_rfl)) (by unfold Func.isWrapper; first | (rw [if_pos (by decide +kernel)]; kernel_rfl) | (rw [if_neg (by decide +kernel)]; exact ⟨rfl, rfl⟩))
    (fun os started H enc _ => lifted os started H enc)
theorem card : Rows.NotesOpsCardSaid :=
  Claim7.holds_tied_plain_at .later [] [.sentinel, .sentinel, .sentinel, .sentinel, .sentinel, .sentinel, .sentinel, .sentinel, .sentinel, .sentinel, .sentinel, .sentinel, .sentinel, .sentinel, .sentinel, .sentinel, .sentinel, .sentinel, .sentinel, .sentinel, .sentinel, .sentinel, .sentinel, .sentinel, .sentinel] true (true, "894e04713d923bfb27bfa877465f2247fd58ab7820fef678bf1ba1207daf709b") true
    over (fun _ h => by cases h) (by kernel_rfl) (fun _ h => by cases h) notesOps_row_tie rfl ⟨rfl, rfl⟩ (J.mainIs.trans (congrArg (fun s => some (true, s)) (by kernel_rfl))) rfl
    (fun f fn hf hfn => by
      obtain rfl : f = 7 := Option.some.inj ((show Tryd.prog.funcNamed "sargasso/sargassolaw20.NotesOps" = some 7 by kernel_rfl).symm.trans hf) |>.symm
      obtain rfl : fn = Tryd.f7 := (Option.some.inj (Tryd.func7.symm.trans hfn)).symm
      exact ⟨by kernel_rfl, fun j t ht => by
        rw [Tryd.params7] at ht
        rcases j with _ | _ | _ | j
        · obtain rfl : (3 : TypeId) = t := by simpa using ht
          exact (show Tryd.prog.wantsStandIn 3 = false by kernel_rfl)
        · obtain rfl : (3 : TypeId) = t := by simpa using ht
          exact (show Tryd.prog.wantsStandIn 3 = false by kernel_rfl)
        · obtain rfl : (26 : TypeId) = t := by simpa using ht
          exact (show Tryd.prog.wantsStandIn 26 = false by kernel_rfl)
        · simp at ht⟩)
    (by kernel_rfl)
end Go.Proofs.YtcpdnoochieecaaDoor.zNotesOps
namespace Go.Proofs.YtcpdnoochieecaaDoor
theorem notesOps_holds : Rows.NotesOpsCardSaid := zNotesOps.card
#print axioms notesOps_holds
end Go.Proofs.YtcpdnoochieecaaDoor
