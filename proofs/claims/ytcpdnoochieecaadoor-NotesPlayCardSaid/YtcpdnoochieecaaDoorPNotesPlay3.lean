/- Proved: the statement NotesPlay, as given (its conditions are those of the given row, and card where there is one; no others): the call ends, with true, and the input reads as it did. This file is one of its parts. -/
import Derived.Test.YtcpdnoochieecaaDoorPNotesPlay2
import Derived.OpenShut
import Derived.ChangeArms
import Derived.DataReads
import Derived.WideShapes
import Derived.Below
import Derived.Carry
import Derived.ChangeOld
import Derived.LaidLaws
import Derived.Stop.ErrReads
import Derived.ChangeVars
import Derived.Test.YtcpdnoochieecaaDoorRows
import Derived.Test.YtcpdnoochieecaaDoorProg
import Derived.JoinedOf
import Derived.ProofKit
import Derived.WalkKit
import Derived.ShutString
import Derived.SizedLaws
import Derived.LaidHandle
import Derived.Handed
import Derived.SevenTiedAt
import Derived.Test.YtcpdnoochieecaaDoorCards
import Derived.Test.YtcpdnoochieecaaDoorTie
namespace Go.Proofs.YtcpdnoochieecaaDoor.T
open Go Go.Proofs Go.Proofs.YtcpdnoochieecaaDoor.K
set_option linter.unusedVariables false
set_option linter.unusedSimpArgs false
set_option maxHeartbeats 4000000 in
set_option maxRecDepth 20000 in
theorem sargassolaw20_NotesPlay.c (μ : Store) (w0 : World) (hμ : Agr μ w0) (x0 : Int) (hx0 : InR .i64 x0) (x1 : List sargassolaw20Do) (u1 : Value) (hx1 : Slc (Rsargassolaw20Do μ) 34 μ u1 x1) (x2 : Int) (hx2 : InR .i64 x2) (hG : Gl μ) (r : Bool) (H : sargassolaw20_NotesPlay.f x0 x1 x2 = some r) :
    Calls Tryd.prog 6 [.int .i64 x0, u1, .int .i64 x2].toArray w0 (fun e w' => ∃ v, e = .returned v ∧ v = .bool r ∧ True ∧ Iv w0 [] μ μ [] w') := by
  refine enter Tryd.func6 rfl Tryd.ntmps6 rfl fun a hA => ?_
  have hI := Iv.start hμ
  have H := bI H
  obtain ⟨e7, he7⟩ := hG.g7
  refine w_seq fun _ hN1 => w_reg <| sta hA rfl rfl fun a hA => ?_
  refine o_nil <| hN1 _ _ <| w_seq fun _ hN2 => w_reg ?_
  obtain ⟨r1, hr1, H⟩ := bB H
  refine o_callp (u := .bool r1) cf27 hA rfl hI (sargassolaw20_first.c μ _ hI.agr e7 he7 r1 hr1) rfl fun a w hz1 hI hA => 
    sta hA rfl rfl fun a hA => ?_
  refine o_nil <| hN2 _ _ <| w_seq fun _ hN3 => w_seq fun _ hN4 => w_reg <| stm hA rfl rfl fun a hA => 
    stp hA (r_not hA rfl) rfl fun a hA => ?_
  refine o_nil <| hN4 _ _ <| w_cond hA rfl (fun hc1 => ?_) (fun hc1 => ?_)
  · have hc10 := hc1; have hc1 := nT hc1; have hc1 := ft hc1; have H := bF H hc1
    refine w_seq fun _ hN5 => w_reg <| sta hA rfl rfl fun a hA => ?_
    refine o_nil <| hN5 _ _ <| w_ret ?_
    obtain rfl := sJ H
    exact ret1 hA Tryd.results6 rfl ⟨_, rfl, rfl, trivial, hI.forget0⟩
  · have hc10 := hc1; have hc1 := nF hc1; have H := bT H hc1
    refine w_skip <| hN3 _ _ <| w_seq fun _ hN6 => w_reg <| stm hA rfl rfl fun a hA => ?_
    obtain ⟨r2, hr2, H⟩ := bB H
    refine o_call _ cf28 hA rfl (notes_New.c μ _ hI.agr x0 hx0 e7 he7 r2 hr2) rfl fun v1 a w hz2 hA => ?_
    rcases hz2 with ⟨ho1, hz3⟩ | ⟨p1, ho1, hz3⟩
    · skip
      have H := bON H ho1
      obtain ⟨v2, μ1, rfl, hS1, hi1⟩ := hz3
      have hI := hI.call hi1
      refine stm hA rfl rfl fun a hA => 
        stp hA (r_extr (vs := [.pointer none, v2]) hA rfl rfl) rfl fun a hA => 
        stp hA (r_extr (vs := [.pointer none, v2]) hA rfl rfl) rfl fun a hA => 
        sta hA rfl rfl fun a hA => 
        sta hA rfl rfl fun a hA => ?_
      refine o_nil <| hN6 _ _ <| w_seq fun _ hN7 => ?_
      obtain ⟨c1, hz4, Hk1⟩ := bB H
      refine w_cut (fun a w => Fr a 169 [(0, .int .i64 x0), (1, u1), (2, .int .i64 x2), (6, .bool false), (7, .bool r1), (8, .pointer none), (9, v2), (27, .bool c1)] ∧ Iv w0 [] μ μ1 [] w) ?_ ?_
      · have H := bI hz4
        refine w_reg <| stm hA rfl rfl fun a hA => 
          stp hA (r_lss hA rfl rfl) rfl fun a hA => 
          stm hA rfl rfl fun a hA => ?_
        rcases Bool.eq_false_or_eq_true (decide (x0 < 1)) with hc2 | hc2
        · have hc20 := hc2; obtain ⟨hc2, H⟩ := dT H hc2
          refine o_no hA rfl rfl (by rw [hc20]; simp [vb]) rfl fun a hA => 
            o_no hA rfl rfl (by rw [hc20]; simp [vb]) rfl fun a hA => 
            stp hA (r_pick_t hA rfl hc20 rfl) rfl fun a hA => ?_
          refine o_nil ?_
          cases sJ H
          exact ⟨hA.sub ⟨rfl, rfl, rfl, rfl, rfl, rfl, rfl, rfl, trivial⟩, hI⟩
        · have hc20 := hc2; obtain ⟨hc2, H⟩ := dF H hc2
          refine o_yes hA rfl rfl hc20 <| 
            stm hA rfl rfl fun a hA => 
            o_yes hA rfl rfl hc20 <| 
            stp hA (r_gtr hA rfl rfl) rfl fun a hA => 
            stp hA (r_pick_f hA rfl hc20 rfl) rfl fun a hA => ?_
          refine o_nil ?_
          cases sJ H
          exact ⟨hA.sub ⟨rfl, rfl, rfl, rfl, rfl, rfl, rfl, rfl, trivial⟩, hI⟩
      · rintro a w ⟨hA, hI⟩
        have H := Hk1
        refine w_cond hA rfl (fun hc3 => ?_) (fun hc3 => ?_)
        · have H := bT H hc3
          obtain ⟨c2, hz5, Hk2⟩ := bB H
          refine w_cut (fun a w => Fr a 169 [(0, .int .i64 x0), (1, u1), (2, .int .i64 x2), (6, .bool c2), (7, .bool r1), (8, .pointer none), (9, v2)] ∧ Iv w0 [] μ μ1 [] w) ?_ ?_
          · have H := bI hz5
            refine w_reg <| stm hA rfl rfl fun a hA => 
              stm hA rfl rfl fun a hA => ?_
            rcases Bool.eq_false_or_eq_true r1 with hc4 | hc4
            · have hc40 := hc4; have H := bT H hc4
              refine o_yes hA rfl rfl hc40 <| 
                stm hA rfl rfl fun a hA => 
                o_yes hA rfl rfl hc40 <| 
                stp hA (r_nilnil_eql Tryd.underlying71 hA rfl rfl) rfl fun a hA => 
                stp hA (r_pick_t hA rfl hc40 rfl) rfl fun a hA => 
                stm hA rfl rfl fun a hA => 
                o_yes hA rfl rfl rfl <| 
                stm hA rfl rfl fun a hA => 
                o_yes hA rfl rfl rfl <| ?_
              obtain ⟨r3, hr3, H⟩ := bB H
              refine o_callp (u := .bool r3) cf17 hA rfl hI (sargassosee_Is.c μ1 _ hI.agr r2.2 v2 hS1 122 (in_lit .i64 122 rfl) (Gl.le hi1.le hG) r3 hr3) rfl fun a w hz6 hI hA => 
                stp hA (r_pick_t hA rfl rfl rfl) rfl fun a hA => 
                sta hA rfl rfl fun a hA => ?_
              refine o_nil ?_
              cases sJ H
              exact ⟨hA.sub ⟨rfl, rfl, rfl, rfl, rfl, rfl, rfl, trivial⟩, hI⟩
            · have hc40 := hc4; have hc4 := ft hc4; have H := bF H hc4
              refine o_no hA rfl rfl (by rw [hc40]; simp [vb]) rfl fun a hA => 
                o_no hA rfl rfl (by rw [hc40]; simp [vb]) rfl fun a hA => 
                stp hA (r_pick_f hA rfl hc40 rfl) rfl fun a hA => 
                stm hA rfl rfl fun a hA => 
                o_no hA rfl rfl (by simp [vb]) rfl fun a hA => 
                o_no hA rfl rfl (by simp [vb]) rfl fun a hA => 
                stp hA (r_pick_f hA rfl rfl rfl) rfl fun a hA => 
                sta hA rfl rfl fun a hA => ?_
              refine o_nil ?_
              cases sJ H
              exact ⟨hA.sub ⟨rfl, rfl, rfl, rfl, rfl, rfl, rfl, trivial⟩, hI⟩
          · rintro a w ⟨hA, hI⟩
            have H := Hk2
            refine w_ret ?_
            obtain rfl := sJ H
            exact ret1 hA Tryd.results6 rfl ⟨_, rfl, rfl, trivial, hI.forget0⟩
        · have hc3 := ft hc3; have H := bF H hc3
          refine w_skip <| hN7 _ _ <| w_seq fun _ hN8 => ?_
          obtain ⟨c3, hz7, Hk3⟩ := bB H
          refine w_cut (fun a w => Fr a 169 [(0, .int .i64 x0), (1, u1), (2, .int .i64 x2), (6, .bool false), (7, .bool r1), (8, .pointer none), (9, v2), (47, .bool c3)] ∧ Iv w0 [] μ μ1 [] w) ?_ ?_
          · have H := bI hz7
            refine w_reg <| stm hA rfl rfl fun a hA => 
              stp hA (r_nilnil_eql Tryd.underlying71 hA rfl rfl) rfl fun a hA => 
              stm hA rfl rfl fun a hA => 
              o_no hA rfl rfl (by simp [vb]) rfl fun a hA => 
              o_no hA rfl rfl (by simp [vb]) rfl fun a hA => 
              stp hA (r_pick_t hA rfl rfl rfl) rfl fun a hA => 
              stm hA rfl rfl fun a hA => 
              o_no hA rfl rfl (by simp [vb]) rfl fun a hA => 
              o_no hA rfl rfl (by simp [vb]) rfl fun a hA => 
              o_no hA rfl rfl (by simp [vb]) rfl fun a hA => 
              stp hA (r_pick_t hA rfl rfl rfl) rfl fun a hA => ?_
            refine o_nil ?_
            cases sJ H
            exact ⟨hA.sub ⟨rfl, rfl, rfl, rfl, rfl, rfl, rfl, rfl, trivial⟩, hI⟩
          · rintro a w ⟨hA, hI⟩
            have H := Hk3
            refine w_cond hA rfl (fun hc5 => ?_) (fun hc5 => ?_)
            · have H := bT H hc5
              obtain ⟨⟨⟩, hz8, Hk4⟩ := bB H
              refine w_cut (fun a w => Fr a 169 [(0, .int .i64 x0), (1, u1), (2, .int .i64 x2), (6, .bool false), (7, .bool r1), (8, .pointer none)] ∧ Iv w0 [] μ μ1 [] w) ?_ ?_
              · have H := bI hz8
                refine w_reg <| stm hA rfl rfl fun a hA => 
                  stm hA rfl rfl fun a hA => ?_
                rcases Bool.eq_false_or_eq_true r1 with hc6 | hc6
                · have hc60 := hc6; have H := bT H hc6
                  refine o_yes hA rfl rfl hc60 <| 
                    stm hA rfl rfl fun a hA => 
                    o_yes hA rfl rfl hc60 <| 
                    stp hA (r_nilnil_neq Tryd.underlying71 hA rfl rfl) rfl fun a hA => 
                    stp hA (r_pick_t hA rfl hc60 rfl) rfl fun a hA => 
                    stm hA rfl rfl fun a hA => 
                    o_no hA rfl rfl (by simp [vb]) rfl fun a hA => 
                    o_no hA rfl rfl (by simp [vb]) rfl fun a hA => 
                    stp hA (r_pick_f hA rfl rfl rfl) rfl fun a hA => 
                    sta hA rfl rfl fun a hA => ?_
                  refine o_nil ?_
                  cases sJ H
                  exact ⟨hA.sub ⟨rfl, rfl, rfl, rfl, rfl, rfl, trivial⟩, hI⟩
                · have hc60 := hc6; have hc6 := ft hc6; have H := bF H hc6
                  refine o_no hA rfl rfl (by rw [hc60]; simp [vb]) rfl fun a hA => 
                    o_no hA rfl rfl (by rw [hc60]; simp [vb]) rfl fun a hA => 
                    stp hA (r_pick_f hA rfl hc60 rfl) rfl fun a hA => 
                    stm hA rfl rfl fun a hA => 
                    o_no hA rfl rfl (by simp [vb]) rfl fun a hA => 
                    o_no hA rfl rfl (by simp [vb]) rfl fun a hA => 
                    stp hA (r_pick_f hA rfl rfl rfl) rfl fun a hA => 
                    sta hA rfl rfl fun a hA => ?_
                  refine o_nil ?_
                  cases sJ H
                  exact ⟨hA.sub ⟨rfl, rfl, rfl, rfl, rfl, rfl, trivial⟩, hI⟩
              · rintro a w ⟨hA, hI⟩
                have H := Hk4
                refine w_ret ?_
                obtain rfl := sJ H
                exact ret1 hA Tryd.results6 rfl ⟨_, rfl, rfl, trivial, hI.forget0⟩
            · have hc5 := ft hc5; have H := bF H hc5
              refine w_skip <| hN8 _ _ <| w_seq fun _ hN9 => w_reg <| stm hA rfl rfl fun a hA => 
                stp hA (r_bldS (cs := [[.int .i64 x0], [.int .i64 0], [(.slice none 0 0)], [(.slice none 0 0)]].flatten.toArray) (pl := [(0, 1), (1, 1), (2, 1), (3, 1)]) zr85 Tryd.underlying85 ⟨rfl, sz3, rfl, sz3, rfl, sz76, rfl, sz76, trivial⟩ hA rfl (by kernel_rfl)) rfl fun a hA => 
                o_box [[.int .i64 x0], [.int .i64 0], [(.slice none 0 0)], [(.slice none 0 0)]] hI hA rfl rfl rfl fun g1 a w hA hI hg1 => 
                sta hA rfl rfl fun a hA => ?_
              refine o_nil <| hN9 _ _ <| w_seq fun _ hN10 => w_seq fun _ hN11 => w_reg <| sta hA rfl rfl fun a hA => ?_
              refine o_nil <| hN11 _ _ <| w_block ?_
              obtain ⟨z1, hz9, Hk5⟩ := bind_some H
              obtain ⟨n1, hn1⟩ := loopO_some hz9
              refine w_loop (fun n a w => loopN (sargassolaw20_NotesPlay.s0 x1 r1) n () = some z1 ∧ Fr a 169 [(1, u1), (2, .int .i64 x2), (6, .bool false), (7, .bool r1), (8, .pointer none), (10, .pointer (some ⟨g1, 0, none⟩)), (11, .int .i64 0)] ∧ Iv w0 [] μ μ1 [cel g1 [[.int .i64 x0], [.int .i64 0], [(.slice none 0 0)], [(.slice none 0 0)]] 85] w) n1 ⟨hn1, hA.sub ⟨rfl, rfl, rfl, rfl, rfl, rfl, rfl, trivial⟩, hI⟩ ?_
              clear hA hI
              rintro n a w ⟨hn1, hA, hI⟩
              obtain ⟨m1, rfl, H⟩ := loopN_bind hn1
              clear hn1
              refine w_seq fun _ hN12 => w_seq fun _ hN13 => w_reg <| stm hA rfl rfl fun a hA => 
                stm hA rfl rfl fun a hA => ?_
              obtain ⟨_, hsl1⟩ := Slc.sv (Slc.le hx1 (fun _ _ h => Rsargassolaw20Do.le hi1.le h) hi1.le)
              refine stp hA (r_slen Tryd.underlying82 hsl1 hA rfl) rfl fun a hA => 
                stp hA (r_lss hA rfl rfl) rfl fun a hA => ?_
              refine o_nil <| hN13 _ _ <| w_cond hA rfl (fun hc7 => ?_) (fun hc7 => ?_)
              · obtain ⟨hc7, H⟩ := dT H hc7
                exact (bN H).elim
              · obtain ⟨hc7, H⟩ := dF H hc7
                refine w_exit rfl <| hN10 _ _ <| w_seq fun _ hN16 => w_reg <| stm hA rfl rfl fun a hA => 
                  sta hA rfl rfl fun a hA => ?_
                refine o_nil <| hN16 _ _ <| w_ret ?_
                have H : some r1 = some z1 := H
                obtain rfl := sI H
                have H := Hk5
                obtain rfl := sJ H
                exact ret1 hA Tryd.results6 rfl ⟨_, rfl, rfl, trivial, hI.forget0⟩
    · skip
      have H := bOS H ho1
      obtain ⟨g2, vp1, cp1, gm1, v3, μ2, rfl, hp1, hp2, hp3, hp4, hS2, hi2⟩ := hz3
      have hI := hI.call hi2
      refine stm hA rfl rfl fun a hA => 
        stp hA (r_extr (vs := [.pointer (some ⟨g2, 0, none⟩), v3]) hA rfl rfl) rfl fun a hA => 
        stp hA (r_extr (vs := [.pointer (some ⟨g2, 0, none⟩), v3]) hA rfl rfl) rfl fun a hA => 
        sta hA rfl rfl fun a hA => 
        sta hA rfl rfl fun a hA => ?_
      refine o_nil <| hN6 _ _ <| w_seq fun _ hN17 => ?_
      obtain ⟨c4, hz10, Hk6⟩ := bB H
      refine w_cut (fun a w => Fr a 169 [(0, .int .i64 x0), (1, u1), (2, .int .i64 x2), (6, .bool false), (7, .bool r1), (8, .pointer (some ⟨g2, 0, none⟩)), (9, v3), (27, .bool c4)] ∧ Iv w0 [] μ μ2 [cel g2 [[.int .i64 p1.most], [.int .i64 p1.op], [vp1], [.map (some gm1)]] 133, row 79 34 vp1 p1.l.length cp1, mpI gm1 (ent kv131 vv131 p1.lost)] w) ?_ ?_
      · have H := bI hz10
        refine w_reg <| stm hA rfl rfl fun a hA => 
          stp hA (r_lss hA rfl rfl) rfl fun a hA => 
          stm hA rfl rfl fun a hA => ?_
        rcases Bool.eq_false_or_eq_true (decide (x0 < 1)) with hc8 | hc8
        · have hc80 := hc8; obtain ⟨hc8, H⟩ := dT H hc8
          refine o_no hA rfl rfl (by rw [hc80]; simp [vb]) rfl fun a hA => 
            o_no hA rfl rfl (by rw [hc80]; simp [vb]) rfl fun a hA => 
            stp hA (r_pick_t hA rfl hc80 rfl) rfl fun a hA => ?_
          refine o_nil ?_
          cases sJ H
          exact ⟨hA.sub ⟨rfl, rfl, rfl, rfl, rfl, rfl, rfl, rfl, trivial⟩, hI⟩
        · have hc80 := hc8; obtain ⟨hc8, H⟩ := dF H hc8
          refine o_yes hA rfl rfl hc80 <| 
            stm hA rfl rfl fun a hA => 
            o_yes hA rfl rfl hc80 <| 
            stp hA (r_gtr hA rfl rfl) rfl fun a hA => 
            stp hA (r_pick_f hA rfl hc80 rfl) rfl fun a hA => ?_
          refine o_nil ?_
          cases sJ H
          exact ⟨hA.sub ⟨rfl, rfl, rfl, rfl, rfl, rfl, rfl, rfl, trivial⟩, hI⟩
      · rintro a w ⟨hA, hI⟩
        have H := Hk6
        refine w_cond hA rfl (fun hc9 => ?_) (fun hc9 => ?_)
        · have H := bT H hc9
          obtain ⟨⟨⟩, hz11, Hk7⟩ := bB H
          refine w_cut (fun a w => Fr a 169 [(0, .int .i64 x0), (1, u1), (2, .int .i64 x2), (6, .bool false), (7, .bool r1), (8, .pointer (some ⟨g2, 0, none⟩)), (9, v3)] ∧ Iv w0 [] μ μ2 [cel g2 [[.int .i64 p1.most], [.int .i64 p1.op], [vp1], [.map (some gm1)]] 133, row 79 34 vp1 p1.l.length cp1, mpI gm1 (ent kv131 vv131 p1.lost)] w) ?_ ?_
          · have H := bI hz11
            refine w_reg <| stm hA rfl rfl fun a hA => 
              stm hA rfl rfl fun a hA => ?_
            rcases Bool.eq_false_or_eq_true r1 with hc10 | hc10
            · have hc100 := hc10; have H := bT H hc10
              refine o_yes hA rfl rfl hc100 <| 
                stm hA rfl rfl fun a hA => 
                o_yes hA rfl rfl hc100 <| 
                stp hA (r_ptrnil_eql Tryd.underlying71 hA rfl rfl) rfl fun a hA => 
                stp hA (r_pick_t hA rfl hc100 rfl) rfl fun a hA => 
                stm hA rfl rfl fun a hA => 
                o_no hA rfl rfl (by simp [vb]) rfl fun a hA => 
                o_no hA rfl rfl (by simp [vb]) rfl fun a hA => 
                stp hA (r_pick_f hA rfl rfl rfl) rfl fun a hA => 
                sta hA rfl rfl fun a hA => ?_
              refine o_nil ?_
              cases sJ H
              exact ⟨hA.sub ⟨rfl, rfl, rfl, rfl, rfl, rfl, rfl, trivial⟩, hI⟩
            · have hc100 := hc10; have hc10 := ft hc10; have H := bF H hc10
              refine o_no hA rfl rfl (by rw [hc100]; simp [vb]) rfl fun a hA => 
                o_no hA rfl rfl (by rw [hc100]; simp [vb]) rfl fun a hA => 
                stp hA (r_pick_f hA rfl hc100 rfl) rfl fun a hA => 
                stm hA rfl rfl fun a hA => 
                o_no hA rfl rfl (by simp [vb]) rfl fun a hA => 
                o_no hA rfl rfl (by simp [vb]) rfl fun a hA => 
                stp hA (r_pick_f hA rfl rfl rfl) rfl fun a hA => 
                sta hA rfl rfl fun a hA => ?_
              refine o_nil ?_
              cases sJ H
              exact ⟨hA.sub ⟨rfl, rfl, rfl, rfl, rfl, rfl, rfl, trivial⟩, hI⟩
          · rintro a w ⟨hA, hI⟩
            have H := Hk7
            refine w_ret ?_
            obtain rfl := sJ H
            exact ret1 hA Tryd.results6 rfl ⟨_, rfl, rfl, trivial, hI.forget0⟩
        · have hc9 := ft hc9; have H := bF H hc9
          refine w_skip <| hN17 _ _ <| w_seq fun _ hN18 => ?_
          obtain ⟨c5, hz12, Hk8⟩ := bB H
          refine w_cut (fun a w => Fr a 169 [(0, .int .i64 x0), (1, u1), (2, .int .i64 x2), (6, .bool false), (7, .bool r1), (8, .pointer (some ⟨g2, 0, none⟩)), (9, v3), (47, .bool c5)] ∧ Iv w0 [] μ μ2 [cel g2 [[.int .i64 p1.most], [.int .i64 p1.op], [vp1], [.map (some gm1)]] 133, row 79 34 vp1 p1.l.length cp1, mpI gm1 (ent kv131 vv131 p1.lost)] w) ?_ ?_
          · have H := bI hz12
            refine w_reg <| stm hA rfl rfl fun a hA => 
              stp hA (r_ptrnil_eql Tryd.underlying71 hA rfl rfl) rfl fun a hA => 
              stm hA rfl rfl fun a hA => 
              o_yes hA rfl rfl rfl <| 
              stm hA rfl rfl fun a hA => 
              o_yes hA rfl rfl rfl <| 
              stp hA (r_neE erF hI.agr hS2 erv_nil (.inl ⟨.inr ⟨_, rfl⟩, Er.fitR⟩) hA rfl rfl) rfl fun a hA => 
              stp hA (r_pick_f hA rfl rfl rfl) rfl fun a hA => 
              stm hA rfl rfl fun a hA => ?_
            rcases Bool.eq_false_or_eq_true (decide (r2.2 ≠ (Er.b 0))) with hc11 | hc11
            · have hc110 := hc11; obtain ⟨hc11, H⟩ := dT H hc11
              refine o_no hA rfl rfl (by rw [hc110]; simp [vb]) rfl fun a hA => 
                o_no hA rfl rfl (by rw [hc110]; simp [vb]) rfl fun a hA => 
                o_no hA rfl rfl (by rw [hc110]; simp [vb]) rfl fun a hA => 
                stp hA (r_pick_t hA rfl hc110 rfl) rfl fun a hA => ?_
              refine o_nil ?_
              cases sJ H
              exact ⟨hA.sub ⟨rfl, rfl, rfl, rfl, rfl, rfl, rfl, rfl, trivial⟩, hI⟩
            · have hc110 := hc11; obtain ⟨hc11, H⟩ := dF H hc11
              refine o_yes hA rfl rfl hc110 <| 
                stm hA rfl rfl fun a hA => 
                o_yes hA rfl rfl hc110 <| ?_
              obtain ⟨_, hsl2⟩ := Slc.sv (Slc.le hx1 (fun _ _ h => Rsargassolaw20Do.le hi2.le h) hi2.le)
              refine stp hA (r_slen Tryd.underlying82 hsl2 hA rfl) rfl fun a hA => 
                o_yes hA rfl rfl hc110 <| 
                stp hA (r_gtr hA rfl rfl) rfl fun a hA => 
                stp hA (r_pick_f hA rfl hc110 rfl) rfl fun a hA => ?_
              refine o_nil ?_
              cases sJ H
              exact ⟨hA.sub ⟨rfl, rfl, rfl, rfl, rfl, rfl, rfl, rfl, trivial⟩, hI⟩
          · rintro a w ⟨hA, hI⟩
            have H := Hk8
            refine w_cond hA rfl (fun hc12 => ?_) (fun hc12 => ?_)
            · have H := bT H hc12
              obtain ⟨c6, hz13, Hk9⟩ := bB H
              refine w_cut (fun a w => Fr a 169 [(0, .int .i64 x0), (1, u1), (2, .int .i64 x2), (6, .bool c6), (7, .bool r1), (8, .pointer (some ⟨g2, 0, none⟩))] ∧ Iv w0 [] μ μ2 [cel g2 [[.int .i64 p1.most], [.int .i64 p1.op], [vp1], [.map (some gm1)]] 133, row 79 34 vp1 p1.l.length cp1, mpI gm1 (ent kv131 vv131 p1.lost)] w) ?_ ?_
              · have H := bI hz13
                refine w_reg <| stm hA rfl rfl fun a hA => 
                  stm hA rfl rfl fun a hA => ?_
                rcases Bool.eq_false_or_eq_true r1 with hc13 | hc13
                · have hc130 := hc13; have H := bT H hc13
                  refine o_yes hA rfl rfl hc130 <| 
                    stm hA rfl rfl fun a hA => 
                    o_yes hA rfl rfl hc130 <| 
                    stp hA (r_ptrnil_neq Tryd.underlying71 hA rfl rfl) rfl fun a hA => 
                    stp hA (r_pick_t hA rfl hc130 rfl) rfl fun a hA => 
                    stm hA rfl rfl fun a hA => 
                    o_yes hA rfl rfl rfl <| 
                    stm hA rfl rfl fun a hA => 
                    o_yes hA rfl rfl rfl <| 
                    stp hA (r_eqE erF hI.agr hS2 erv_nil (.inl ⟨.inr ⟨_, rfl⟩, Er.fitR⟩) hA rfl rfl) rfl fun a hA => 
                    stp hA (r_pick_t hA rfl rfl rfl) rfl fun a hA => 
                    sta hA rfl rfl fun a hA => ?_
                  refine o_nil ?_
                  cases sJ H
                  exact ⟨hA.sub ⟨rfl, rfl, rfl, rfl, rfl, rfl, trivial⟩, hI⟩
                · have hc130 := hc13; have hc13 := ft hc13; have H := bF H hc13
                  refine o_no hA rfl rfl (by rw [hc130]; simp [vb]) rfl fun a hA => 
                    o_no hA rfl rfl (by rw [hc130]; simp [vb]) rfl fun a hA => 
                    stp hA (r_pick_f hA rfl hc130 rfl) rfl fun a hA => 
                    stm hA rfl rfl fun a hA => 
                    o_no hA rfl rfl (by simp [vb]) rfl fun a hA => 
                    o_no hA rfl rfl (by simp [vb]) rfl fun a hA => 
                    stp hA (r_pick_f hA rfl rfl rfl) rfl fun a hA => 
                    sta hA rfl rfl fun a hA => ?_
                  refine o_nil ?_
                  cases sJ H
                  exact ⟨hA.sub ⟨rfl, rfl, rfl, rfl, rfl, rfl, trivial⟩, hI⟩
              · rintro a w ⟨hA, hI⟩
                have H := Hk9
                refine w_ret ?_
                obtain rfl := sJ H
                exact ret1 hA Tryd.results6 rfl ⟨_, rfl, rfl, trivial, hI.forget0⟩
            · have hc12 := ft hc12; have H := bF H hc12
              refine w_skip <| hN18 _ _ <| w_seq fun _ hN19 => w_reg <| stm hA rfl rfl fun a hA => 
                stp hA (r_bldS (cs := [[.int .i64 x0], [.int .i64 0], [(.slice none 0 0)], [(.slice none 0 0)]].flatten.toArray) (pl := [(0, 1), (1, 1), (2, 1), (3, 1)]) zr85 Tryd.underlying85 ⟨rfl, sz3, rfl, sz3, rfl, sz76, rfl, sz76, trivial⟩ hA rfl (by kernel_rfl)) rfl fun a hA => 
                o_box [[.int .i64 x0], [.int .i64 0], [(.slice none 0 0)], [(.slice none 0 0)]] hI hA rfl rfl rfl fun g3 a w hA hI hg3 => 
                sta hA rfl rfl fun a hA => ?_
              refine o_nil <| hN19 _ _ <| w_seq fun _ hN20 => w_seq fun _ hN21 => w_reg <| sta hA rfl rfl fun a hA => ?_
              refine o_nil <| hN21 _ _ <| w_block ?_
              have hI := hI.nilRow 79 34
              obtain ⟨z2, hz14, Hk10⟩ := bind_some H
              obtain ⟨n2, hn2⟩ := loopO_some hz14
              refine w_loop (fun n a w => ∃ (s1 : Int) (s2 : Int) (s3 : Int) (s4 : List Note) (s5 : List Note) (s6 : Int) (s7 : Int) (s8 : List Note) (s9 : List (Int × Int)) (μ3 : Store) (vvs4 : Value) (vvs5 : Value) (ccs5 : List Value) (vvs8 : Value) (ccs8 : List Value) (ggs9 : Nat), loopN (sargassolaw20_NotesPlay.s1 x1 x2 r1) n (s1, s2, s3, s4, s5, s6, s7, s8, s9) = some z2 ∧ μ2.le μ3 ∧ InR .i64 s1 ∧ InR .i64 s2 ∧ InR .i64 s3 ∧ Slc (RNote μ3) 34 μ3 vvs4 s4 ∧ Els (RNote μ3) 34 s5 ccs5 ∧ InR .i64 s6 ∧ InR .i64 s7 ∧ Els (RNote μ3) 34 s8 ccs8 ∧ mw131 s9 ∧ Fr a 169 [(1, u1), (2, .int .i64 x2), (6, .bool false), (7, .bool r1), (8, .pointer (some ⟨g2, 0, none⟩)), (10, .pointer (some ⟨g3, 0, none⟩)), (11, .int .i64 s1)] ∧ Iv w0 [] μ μ3 [row 79 34 vvs5 s5.length ccs5, cel g3 [[.int .i64 s2], [.int .i64 s3], [vvs4], [vvs5]] 85, cel g2 [[.int .i64 s6], [.int .i64 s7], [vvs8], [.map (some ggs9)]] 133, row 79 34 vvs8 s8.length ccs8, mpI ggs9 (ent kv131 vv131 s9)] w) n2 ⟨0, x0, 0, [], [], p1.most, p1.op, p1.l, p1.lost, μ2, (.slice none 0 0), (.slice none 0 0), [], vp1, cp1, gm1, hn2, (Store.le.refl _), (in_lit .i64 0 rfl), hx0, (in_lit .i64 0 rfl), (slc_nil _ _ _), (Els.nil (RE := (RNote μ2)) (sz := 34)), hp1, hp2, hp3, hp4, hA.sub ⟨rfl, rfl, rfl, rfl, rfl, rfl, rfl, trivial⟩, hI⟩ ?_
              clear hA hI
              rintro n a w ⟨s1, s2, s3, s4, s5, s6, s7, s8, s9, μ3, vvs4, vvs5, ccs5, vvs8, ccs8, ggs9, hn2, hle1, ws1, ws2, ws3, ws4, ws5, ws6, ws7, ws8, ws9, hA, hI⟩
              obtain ⟨m2, rfl, H⟩ := loopN_bind hn2
              clear hn2
              refine w_seq fun _ hN22 => w_seq fun _ hN23 => w_reg <| stm hA rfl rfl fun a hA => 
                stm hA rfl rfl fun a hA => ?_
              obtain ⟨_, hsl3⟩ := Slc.sv (Slc.le hx1 (fun _ _ h => Rsargassolaw20Do.le (hi2.le.trans hle1) h) (hi2.le.trans hle1))
              refine stp hA (r_slen Tryd.underlying82 hsl3 hA rfl) rfl fun a hA => 
                stp hA (r_lss hA rfl rfl) rfl fun a hA => ?_
              refine o_nil <| hN23 _ _ <| w_cond hA rfl (fun hc14 => ?_) (fun hc14 => ?_)
              · obtain ⟨hc14, H⟩ := dT H hc14
                refine w_skip <| hN22 _ _ <| w_seq fun _ hN24 => w_block <| w_seq fun _ hN25 => w_reg <| stm hA rfl rfl fun a hA => ?_
                obtain ⟨r4, hr4, H⟩ := bB H
                have hI := hI.sl [2, 3, 4, 0, 1] rfl
                refine o_call _ cf35 hA rfl (notes_Log_Clone.c μ3 _ hI.agr (⟨s6, s7, s8, s9⟩ : notesLog) vvs8 ccs8 ggs9 g2 ws6 ws7 ws8 ws9 (hI.handN 3) r4 hr4) rfl fun v4 a w hz15 hA => ?_
                obtain ⟨g4, vp2, cp2, gm2, rfl, hp5, hp6, hp7, hp8, hi3⟩ := hz15
                have hI := hI.backN 3 hi3
                have hI : Iv w0 [] μ μ3 [cel g4 [[.int .i64 r4.most], [.int .i64 r4.op], [vp2], [.map (some gm2)]] 133, row 79 34 vp2 r4.l.length cp2, mpI gm2 (ent kv131 vv131 r4.lost), cel g2 [[.int .i64 s6], [.int .i64 s7], [vvs8], [.map (some ggs9)]] 133, row 79 34 vvs8 s8.length ccs8, mpI ggs9 (ent kv131 vv131 s9), row 79 34 vvs5 s5.length ccs5, cel g3 [[.int .i64 s2], [.int .i64 s3], [vvs4], [vvs5]] 85] w := hI
                refine sta hA rfl rfl fun a hA => ?_
                refine o_nil <| hN25 _ _ <| w_seq fun _ hN26 => w_reg <| stm hA rfl rfl fun a hA => ?_
                obtain ⟨r5, hr5, H⟩ := bB H
                refine o_call _ cf31 hA rfl (notes_Log_All.c μ3 _ hI.agr (⟨r4.most, r4.op, r4.l, r4.lost⟩ : notesLog) vp2 cp2 gm2 g4 hp5 hp6 hp7 hp8 (hI.handN 3) r5 hr5) rfl fun v5 a w hz16 hA => ?_
                obtain ⟨_, cs1, rfl, hE1, hi4⟩ := hz16
                have hI := hI.backN 3 hi4
                have hI : Iv w0 [] μ μ3 [row 79 34 v5 r5.length cs1, cel g4 [[.int .i64 r4.most], [.int .i64 r4.op], [vp2], [.map (some gm2)]] 133, row 79 34 vp2 r4.l.length cp2, mpI gm2 (ent kv131 vv131 r4.lost), cel g2 [[.int .i64 s6], [.int .i64 s7], [vvs8], [.map (some ggs9)]] 133, row 79 34 vvs8 s8.length ccs8, mpI ggs9 (ent kv131 vv131 s9), row 79 34 vvs5 s5.length ccs5, cel g3 [[.int .i64 s2], [.int .i64 s3], [vvs4], [vvs5]] 85] w := hI
                have hlen1 := Iv.row_in hI (j := 0) rfl
                refine stp hA (r_rlen (xs := 0) Tryd.underlying76 hI (j := 0) rfl hA rfl) rfl fun a hA => 
                  sta hA rfl rfl fun a hA => ?_
                refine o_nil <| hN26 _ _ <| w_seq fun _ hN27 => w_seq fun _ hN28 => w_reg <| stm hA rfl rfl fun a hA => 
                  stm hA rfl rfl fun a hA => ?_
                obtain ⟨hb1, H⟩ := bG H
                obtain ⟨_, he1, _, hat1⟩ := Slc.elem (Slc.le hx1 (fun _ _ h => Rsargassolaw20Do.le (hi2.le.trans hle1) h) (hi2.le.trans hle1)) (getD_some default hb1.1 hb1.2)
                obtain ⟨rfl, hw1⟩ := he1
                obtain ⟨_, hsl4⟩ := Slc.sv (Slc.le hx1 (fun _ _ h => Rsargassolaw20Do.le (hi2.le.trans hle1) h) (hi2.le.trans hle1))
                refine stp hA (r_six Tryd.underlying82 sz88 hsl4 hA rfl rfl hb1.1 hb1.2) rfl fun a hA => 
                  stp hA (r_fd (k := so u1 + s1.toNat * 34) Tryd.underlying88 rfl sz3 hA rfl rfl) rfl fun a hA => 
                  stp hA (r_ldm1 [] [[.int .i64 ((x1.getD s1.toNat default).Reason)], av .u8 32 ((x1.getD s1.toNat default).Tx)] Tryd.underlying3 rfl hI.agr hat1 hA rfl rfl) rfl fun a hA => 
                  stp hA (r_eql hA rfl rfl) rfl fun a hA => ?_
                refine o_nil <| hN28 _ _ <| w_cond hA rfl (fun hc15 => ?_) (fun hc15 => ?_)
                · obtain ⟨hc15, H⟩ := dT H hc15
                  refine w_seq fun _ hN29 => w_reg <| stm hA rfl rfl fun a hA => 
                    stm hA rfl rfl fun a hA => 
                    stp hA (r_nilc hA rfl) rfl fun a hA => 
                    stp hA (r_fd (k := 1) Tryd.underlying85 rfl sz3 hA rfl rfl) rfl fun a hA => 
                    stp hA (r_ld1 (j := 8) [[.int .i64 s2]] [[vvs4], [vvs5]] Tryd.underlying3 rfl hI rfl hA rfl rfl) rfl fun a hA => 
                    stp hA (r_add hA rfl rfl) rfl fun a hA => 
                    stp hA (r_nilc hA rfl) rfl fun a hA => 
                    stp hA (r_fd (k := 1) Tryd.underlying85 rfl sz3 hA rfl rfl) rfl fun a hA => 
                    o_st (j := 8) [[.int .i64 s2]] [[.int .i64 s3]] [[.int .i64 (IntKind.i64.wrap (s3 + 1))]] [[vvs4], [vvs5]] sz3 rfl rfl (fl_cons (one_one rfl) fl_nil) hI rfl hA rfl rfl rfl rfl fun w hI => ?_
                  refine o_nil <| hN29 _ _ <| w_seq fun _ hN30 => ?_
                  refine w_anyS [] mo (fun w (h : Iv w0 [] μ μ3 [row 79 34 v5 r5.length cs1, cel g4 [[.int .i64 r4.most], [.int .i64 r4.op], [vp2], [.map (some gm2)]] 133, row 79 34 vp2 r4.l.length cp2, mpI gm2 (ent kv131 vv131 r4.lost), cel g2 [[.int .i64 s6], [.int .i64 s7], [vvs8], [.map (some ggs9)]] 133, row 79 34 vvs8 s8.length ccs8, mpI ggs9 (ent kv131 vv131 s9), row 79 34 vvs5 s5.length ccs5, cel g3 [[.int .i64 s2], [.int .i64 (IntKind.i64.wrap (s3 + 1))], [vvs4], [vvs5]] 85] w) => (h.sl [0, 1, 2, 3, 7, 8] rfl : Iv w0 [] μ μ3 [row 79 34 v5 r5.length cs1, cel g4 [[.int .i64 r4.most], [.int .i64 r4.op], [vp2], [.map (some gm2)]] 133, row 79 34 vp2 r4.l.length cp2, mpI gm2 (ent kv131 vv131 r4.lost), row 79 34 vvs5 s5.length ccs5, cel g3 [[.int .i64 s2], [.int .i64 (IntKind.i64.wrap (s3 + 1))], [vvs4], [vvs5]] 85] w)) hI fun w hI => ?_
                  refine gE 0 hA rfl (.inr (hI.sl [0, 1, 2, 3, 7, 8] rfl)) (fun _ => r_mv hA rfl) fun a hA => ?_
                  refine gE 2 hA rfl (.inr (hI.sl [0, 1, 2, 3, 7, 8] rfl)) (fun _ => r_mv hA rfl) fun a hA => ?_
                  refine gE 3 hA rfl (.inr (hI.sl [0, 1, 2, 3, 7, 8] rfl)) (fun _ => r_nilc hA rfl) fun a hA => ?_
                  refine gE 4 hA rfl (.inr (hI.sl [0, 1, 2, 3, 7, 8] rfl)) (fun _ => r_fd (k := 1) Tryd.underlying85 rfl sz3 hA rfl rfl) fun a hA => ?_
                  refine gT 5 hA rfl (hI.sl [0, 1, 2, 3, 7, 8] rfl) (fun w hI => r_ld1 (j := 5) [[.int .i64 s2]] [[vvs4], [vvs5]] Tryd.underlying3 rfl hI rfl hA rfl rfl) fun a hA => ?_
                  refine gF 1 rfl ?_
                  obtain ⟨r6, hr6, H⟩ := bB H
                  have hI := hI.sl [4, 5, 6, 0, 1, 2, 3, 7, 8] rfl
                  refine o_call _ cf29 hA rfl (notes_Log_Begin.c μ3 _ hI.agr (⟨s6, s7, s8, s9⟩ : notesLog) vvs8 ccs8 ggs9 g2 ws6 ws7 ws8 ws9 (hI.handN 3) r6 hr6) rfl fun v6 a w hz17 hA => ?_
                  obtain ⟨vp3, cp3, gm3, rfl, hw2, hp9, hp10, hp11, hp12, hi5⟩ := hz17
                  have hI := hI.back3 hi5
                  refine o_nil <| ⟨(.inr (hI.sl [3, 4, 5, 6, 7, 8] rfl)), ?_⟩
                  refine gE 6 hA rfl (.inr (hI.sl [3, 4, 5, 6, 7, 8] rfl)) (fun _ => r_neq hA rfl rfl) fun a hA => ?_
                  refine gN <| hN30 _ _ <| w_cond hA rfl (fun hc16 => ?_) (fun hc16 => ?_)
                  · obtain ⟨hc16, H⟩ := dT H hc16
                    refine w_seq fun _ hN31 => w_reg <| sta hA rfl rfl fun a hA => ?_
                    refine o_nil <| hN31 _ _ <| w_ret ?_
                    have H : some false = some z2 := H
                    obtain rfl := sI H
                    have H := Hk10
                    obtain rfl := sJ H
                    exact ret1 hA Tryd.results6 rfl ⟨_, rfl, rfl, trivial, hI.forget0⟩
                  · obtain ⟨hc16, H⟩ := dF H hc16
                    refine w_skip <| hN27 _ _ ?_
                    obtain ⟨c7, hz18, Hk11⟩ := bB H
                    refine w_cut (fun a w => Fr a 169 [(1, u1), (2, .int .i64 x2), (6, .bool false), (7, .bool r1), (8, .pointer (some ⟨g2, 0, none⟩)), (10, .pointer (some ⟨g3, 0, none⟩)), (11, .int .i64 s1), (12, .pointer (some ⟨g4, 0, none⟩)), (13, .int .i64 (r5.length : Int)), (63, .bool (decide (s1 < (x1.length : Int)))), (76, .bool (decide (((x1.getD s1.toNat default).Kind) = 1))), (91, .bool (decide (r6.1 ≠ (IntKind.i64.wrap (s3 + 1))))), (167, .bool c7)] ∧ Iv w0 [] μ μ3 [cel g2 [[.int .i64 r6.2.most], [.int .i64 r6.2.op], [vp3], [.map (some gm3)]] 133, row 79 34 vp3 r6.2.l.length cp3, mpI gm3 (ent kv131 vv131 r6.2.lost), row 79 34 v5 r5.length cs1, cel g4 [[.int .i64 r4.most], [.int .i64 r4.op], [vp2], [.map (some gm2)]] 133, row 79 34 vp2 r4.l.length cp2, mpI gm2 (ent kv131 vv131 r4.lost), row 79 34 vvs5 s5.length ccs5, cel g3 [[.int .i64 s2], [.int .i64 (IntKind.i64.wrap (s3 + 1))], [vvs4], [vvs5]] 85] w) ?_ ?_
                    · have H := bI hz18
                      refine w_any [] mo hI fun w hI => ?_
                      refine gE 0 hA rfl (.inr hI) (fun _ => r_mv hA rfl) fun a hA => ?_
                      refine gE 2 hA rfl (.inr hI) (fun _ => r_mv hA rfl) fun a hA => ?_
                      refine gE 3 hA rfl (.inr hI) (fun _ => r_nilc hA rfl) fun a hA => ?_
                      refine gE 4 hA rfl (.inr hI) (fun _ => r_fd (k := 1) Tryd.underlying85 rfl sz3 hA rfl rfl) fun a hA => ?_
                      refine gT 5 hA rfl hI (fun w hI => r_ld1 (j := 8) [[.int .i64 s2]] [[vvs4], [vvs5]] Tryd.underlying3 rfl hI rfl hA rfl rfl) fun a hA => ?_
                      refine gF 1 rfl ?_
                      obtain ⟨r7, hr7, H⟩ := bB H
                      refine o_call _ cf32 hA rfl (notes_Log_Op.c μ3 _ hI.agr (⟨r6.2.most, r6.2.op, r6.2.l, r6.2.lost⟩ : notesLog) vp3 cp3 gm3 g2 hp9 hp10 hp11 hp12 (hI.handN 3) r7 hr7) rfl fun v7 a w hz19 hA => ?_
                      obtain ⟨rfl, hw3, hi6⟩ := hz19
                      have hI := hI.back3 hi6
                      refine o_nil <| ⟨(.inr hI), ?_⟩
                      refine gE 6 hA rfl (.inr hI) (fun _ => r_neq hA rfl rfl) fun a hA => ?_
                      refine gE 7 hA rfl (.inr hI) (fun _ => r_mv hA rfl) fun a hA => ?_
                      rcases Bool.eq_false_or_eq_true (decide (r7 ≠ (IntKind.i64.wrap (s3 + 1)))) with hc17 | hc17
                      · have hc170 := hc17; obtain ⟨hc17, H⟩ := dT H hc17
                        refine g_skip (i := 8) hA rfl (wanted_no hA rfl rfl (by rw [hc170]; simp [vb])) (by kernel_rfl) (.inr hI) rfl fun a hA => ?_
                        refine g_skip (i := 10) hA rfl (wanted_no hA rfl rfl (by rw [hc170]; simp [vb])) (by kernel_rfl) (.inr hI) rfl fun a hA => ?_
                        refine g_skip (i := 11) hA rfl (wanted_no hA rfl rfl (by rw [hc170]; simp [vb])) (by kernel_rfl) (.inr hI) rfl fun a hA => ?_
                        refine g_skip (i := 12) hA rfl (wanted_no hA rfl rfl (by rw [hc170]; simp [vb])) (by kernel_rfl) (.inr hI) rfl fun a hA => ?_
                        refine g_skip (i := 13) hA rfl (wanted_no hA rfl rfl (by rw [hc170]; simp [vb])) (by kernel_rfl) (.inr hI) rfl fun a hA => ?_
                        refine g_skip (i := 9) hA rfl (wanted_no hA rfl rfl (by rw [hc170]; simp [vb])) (by kernel_rfl) (.inr hI) rfl fun a hA => ?_
                        refine g_skip (i := 14) hA rfl (wanted_no hA rfl rfl (by rw [hc170]; simp [vb])) (by kernel_rfl) (.inr hI) rfl fun a hA => ?_
                        refine g_skip (i := 15) hA rfl (wanted_no hA rfl rfl (by rw [hc170]; simp [vb])) (by kernel_rfl) (.inr hI) rfl fun a hA => ?_
                        refine gE 16 hA rfl (.inr hI) (fun _ => r_pick_t hA rfl hc170 rfl) fun a hA => ?_
                        refine gE 17 hA rfl (.inr hI) (fun _ => r_mv hA rfl) fun a hA => ?_
                        refine g_skip (i := 18) hA rfl (wanted_no hA rfl rfl (by simp [vb])) (by kernel_rfl) (.inr hI) rfl fun a hA => ?_
                        refine g_skip (i := 19) hA rfl (wanted_no hA rfl rfl (by simp [vb])) (by kernel_rfl) (.inr hI) rfl fun a hA => ?_
                        refine g_skip (i := 21) hA rfl (wanted_no hA rfl rfl (by simp [vb])) (by kernel_rfl) (.inr hI) rfl fun a hA => ?_
                        refine g_skip (i := 22) hA rfl (wanted_no hA rfl rfl (by simp [vb])) (by kernel_rfl) (.inr hI) rfl fun a hA => ?_
                        refine g_skip (i := 23) hA rfl (wanted_no hA rfl rfl (by simp [vb])) (by kernel_rfl) (.inr hI) rfl fun a hA => ?_
                        refine g_skip (i := 24) hA rfl (wanted_no hA rfl rfl (by simp [vb])) (by kernel_rfl) (.inr hI) rfl fun a hA => ?_
                        refine g_skip (i := 25) hA rfl (wanted_no hA rfl rfl (by simp [vb])) (by kernel_rfl) (.inr hI) rfl fun a hA => ?_
                        refine g_skip (i := 20) hA rfl (wanted_no hA rfl rfl (by simp [vb])) (by kernel_rfl) (.inr hI) rfl fun a hA => ?_
                        refine g_skip (i := 26) hA rfl (wanted_no hA rfl rfl (by simp [vb])) (by kernel_rfl) (.inr hI) rfl fun a hA => ?_
                        refine g_skip (i := 27) hA rfl (wanted_no hA rfl rfl (by simp [vb])) (by kernel_rfl) (.inr hI) rfl fun a hA => ?_
                        refine g_skip (i := 28) hA rfl (wanted_no hA rfl rfl (by simp [vb])) (by kernel_rfl) (.inr hI) rfl fun a hA => ?_
                        refine gE 29 hA rfl (.inr hI) (fun _ => r_pick_t hA rfl rfl rfl) fun a hA => ?_
                        refine gE 30 hA rfl (.inr hI) (fun _ => r_mv hA rfl) fun a hA => ?_
                        refine g_skip (i := 31) hA rfl (wanted_no hA rfl rfl (by simp [vb])) (by kernel_rfl) (.inr hI) rfl fun a hA => ?_
                        refine g_skip (i := 32) hA rfl (wanted_no hA rfl rfl (by simp [vb])) (by kernel_rfl) (.inr hI) rfl fun a hA => ?_
                        refine g_skip (i := 34) hA rfl (wanted_no hA rfl rfl (by simp [vb])) (by kernel_rfl) (.inr hI) rfl fun a hA => ?_
                        refine g_skip (i := 35) hA rfl (wanted_no hA rfl rfl (by simp [vb])) (by kernel_rfl) (.inr hI) rfl fun a hA => ?_
                        refine g_skip (i := 36) hA rfl (wanted_no hA rfl rfl (by simp [vb])) (by kernel_rfl) (.inr hI) rfl fun a hA => ?_
                        refine g_skip (i := 37) hA rfl (wanted_no hA rfl rfl (by simp [vb])) (by kernel_rfl) (.inr hI) rfl fun a hA => ?_
                        refine g_skip (i := 38) hA rfl (wanted_no hA rfl rfl (by simp [vb])) (by kernel_rfl) (.inr hI) rfl fun a hA => ?_
                        refine g_skip (i := 33) hA rfl (wanted_no hA rfl rfl (by simp [vb])) (by kernel_rfl) (.inr hI) rfl fun a hA => ?_
                        refine g_skip (i := 39) hA rfl (wanted_no hA rfl rfl (by simp [vb])) (by kernel_rfl) (.inr hI) rfl fun a hA => ?_
                        refine g_skip (i := 40) hA rfl (wanted_no hA rfl rfl (by simp [vb])) (by kernel_rfl) (.inr hI) rfl fun a hA => ?_
                        refine g_skip (i := 41) hA rfl (wanted_no hA rfl rfl (by simp [vb])) (by kernel_rfl) (.inr hI) rfl fun a hA => ?_
                        refine gE 42 hA rfl (.inr hI) (fun _ => r_pick_t hA rfl rfl rfl) fun a hA => ?_
                        refine gE 43 hA rfl (.inr hI) (fun _ => r_mv hA rfl) fun a hA => ?_
                        refine g_skip (i := 44) hA rfl (wanted_no hA rfl rfl (by simp [vb])) (by kernel_rfl) (.inr hI) rfl fun a hA => ?_
                        refine g_skip (i := 47) hA rfl (wanted_no hA rfl rfl (by simp [vb])) (by kernel_rfl) (.inr hI) rfl fun a hA => ?_
                        refine g_skip (i := 45) hA rfl (wanted_no hA rfl rfl (by simp [vb])) (by kernel_rfl) (.inr hI) rfl fun a hA => ?_
                        refine g_skip (i := 46) hA rfl (wanted_no hA rfl rfl (by simp [vb])) (by kernel_rfl) (.inr hI) rfl fun a hA => ?_
                        refine g_skip (i := 48) hA rfl (wanted_no hA rfl rfl (by simp [vb])) (by kernel_rfl) (.inr hI) rfl fun a hA => ?_
                        refine gE 49 hA rfl (.inr hI) (fun _ => r_pick_t hA rfl rfl rfl) fun a hA => ?_
                        refine gN ?_
                        cases sJ H
                        exact ⟨hA.sub ⟨rfl, rfl, rfl, rfl, rfl, rfl, rfl, rfl, rfl, rfl, rfl, rfl, rfl, trivial⟩, hI⟩
                      · have hc170 := hc17; obtain ⟨hc17, H⟩ := dF H hc17
                        refine g_easy (i := 8) hA rfl (wanted_yes hA rfl rfl hc170) (by kernel_rfl) (.inr hI) (fun _ => r_mv hA rfl) rfl fun a hA => ?_
                        refine g_easy (i := 10) hA rfl (wanted_yes hA rfl rfl hc170) (by kernel_rfl) (.inr hI) (fun _ => r_mv hA rfl) rfl fun a hA => ?_
                        refine g_easy (i := 11) hA rfl (wanted_yes hA rfl rfl hc170) (by kernel_rfl) (.inr hI) (fun _ => r_nilc hA rfl) rfl fun a hA => ?_
                        refine g_easy (i := 12) hA rfl (wanted_yes hA rfl rfl hc170) (by kernel_rfl) (.inr hI) (fun _ => r_fd (k := 2) Tryd.underlying85 rfl sz76 hA rfl rfl) rfl fun a hA => ?_
                        refine g_take (i := 13) hA rfl (wanted_yes hA rfl rfl hc170) (by kernel_rfl) hI (fun w hI => r_ld1 (j := 8) [[.int .i64 s2], [.int .i64 (IntKind.i64.wrap (s3 + 1))]] [[vvs5]] Tryd.underlying76 rfl hI rfl hA rfl rfl) rfl fun a hA => ?_
                        refine gF 9 rfl ?_
                        refine o_yes hA rfl rfl hc170 <| ?_
                        obtain ⟨r8, hr8, H⟩ := bB H
                        refine o_call _ cf31 hA rfl (notes_Log_All.c μ3 _ hI.agr (⟨r6.2.most, r6.2.op, r6.2.l, r6.2.lost⟩ : notesLog) vp3 cp3 gm3 g2 hp9 hp10 hp11 hp12 (hI.handN 3) r8 hr8) rfl fun v8 a w hz20 hA => ?_
                        obtain ⟨_, cs2, rfl, hE2, hi7⟩ := hz20
                        have hI := hI.backN 3 hi7
                        have hI : Iv w0 [] μ μ3 [row 79 34 v8 r8.length cs2, cel g2 [[.int .i64 r6.2.most], [.int .i64 r6.2.op], [vp3], [.map (some gm3)]] 133, row 79 34 vp3 r6.2.l.length cp3, mpI gm3 (ent kv131 vv131 r6.2.lost), row 79 34 v5 r5.length cs1, cel g4 [[.int .i64 r4.most], [.int .i64 r4.op], [vp2], [.map (some gm2)]] 133, row 79 34 vp2 r4.l.length cp2, mpI gm2 (ent kv131 vv131 r4.lost), row 79 34 vvs5 s5.length ccs5, cel g3 [[.int .i64 s2], [.int .i64 (IntKind.i64.wrap (s3 + 1))], [vvs4], [vvs5]] 85] w := hI
                        refine o_nil <| ⟨(.inr (hI.sl [1, 2, 3, 4, 5, 6, 7, 8, 9] rfl)), ?_⟩
                        refine gF 14 rfl ?_
                        refine o_yes hA rfl rfl hc170 <| ?_
                        obtain ⟨r9, hr9, H⟩ := bB H
                        refine o_callp (u := .bool r9) cf37 hA rfl hI ((by obtain ⟨μ4, hle2, hsv1, hI⟩ := hI.freezeRow 0 rfl; have hS3 : Slc (RNote μ4) 34 μ4 v8 r8 := ⟨_, hE2, hsv1⟩; exact low_plain hle2 (sargassoref_SameNotes.c μ4 _ hI.agr r8 v8 hS3 s4 vvs4 (Slc.le ws4 (fun _ _ h => RNote.le hle2 h) hle2) r9 hr9))) rfl fun a w hz21 hI hA => ?_
                        refine o_nil <| ⟨(.inr (hI.sl [1, 2, 3, 4, 5, 6, 7, 8, 9] rfl)), ?_⟩
                        refine g_easy (i := 15) hA rfl (wanted_yes hA rfl rfl hc170) (by kernel_rfl) (.inr (hI.sl [1, 2, 3, 4, 5, 6, 7, 8, 9] rfl)) (fun _ => r_not hA rfl) rfl fun a hA => ?_
                        refine gE 16 hA rfl (.inr (hI.sl [1, 2, 3, 4, 5, 6, 7, 8, 9] rfl)) (fun _ => r_pick_f hA rfl hc170 rfl) fun a hA => ?_
                        refine gE 17 hA rfl (.inr (hI.sl [1, 2, 3, 4, 5, 6, 7, 8, 9] rfl)) (fun _ => r_mv hA rfl) fun a hA => ?_
                        rcases Bool.eq_false_or_eq_true (!r9) with hc18 | hc18
                        · have hc180 := hc18; have hc18 := nT hc18; have hc18 := ft hc18; have H := bF H hc18
                          refine g_skip (i := 18) hA rfl (wanted_no hA rfl rfl (by rw [hc180]; simp [vb])) (by kernel_rfl) (.inr (hI.sl [1, 2, 3, 4, 5, 6, 7, 8, 9] rfl)) rfl fun a hA => ?_
                          refine g_skip (i := 19) hA rfl (wanted_no hA rfl rfl (by rw [hc180]; simp [vb])) (by kernel_rfl) (.inr (hI.sl [1, 2, 3, 4, 5, 6, 7, 8, 9] rfl)) rfl fun a hA => ?_
                          refine g_skip (i := 21) hA rfl (wanted_no hA rfl rfl (by rw [hc180]; simp [vb])) (by kernel_rfl) (.inr (hI.sl [1, 2, 3, 4, 5, 6, 7, 8, 9] rfl)) rfl fun a hA => ?_
                          refine g_skip (i := 22) hA rfl (wanted_no hA rfl rfl (by rw [hc180]; simp [vb])) (by kernel_rfl) (.inr (hI.sl [1, 2, 3, 4, 5, 6, 7, 8, 9] rfl)) rfl fun a hA => ?_
                          refine g_skip (i := 23) hA rfl (wanted_no hA rfl rfl (by rw [hc180]; simp [vb])) (by kernel_rfl) (.inr (hI.sl [1, 2, 3, 4, 5, 6, 7, 8, 9] rfl)) rfl fun a hA => ?_
                          refine g_skip (i := 24) hA rfl (wanted_no hA rfl rfl (by rw [hc180]; simp [vb])) (by kernel_rfl) (.inr (hI.sl [1, 2, 3, 4, 5, 6, 7, 8, 9] rfl)) rfl fun a hA => ?_
                          refine g_skip (i := 25) hA rfl (wanted_no hA rfl rfl (by rw [hc180]; simp [vb])) (by kernel_rfl) (.inr (hI.sl [1, 2, 3, 4, 5, 6, 7, 8, 9] rfl)) rfl fun a hA => ?_
                          refine g_skip (i := 20) hA rfl (wanted_no hA rfl rfl (by rw [hc180]; simp [vb])) (by kernel_rfl) (.inr (hI.sl [1, 2, 3, 4, 5, 6, 7, 8, 9] rfl)) rfl fun a hA => ?_
                          refine g_skip (i := 26) hA rfl (wanted_no hA rfl rfl (by rw [hc180]; simp [vb])) (by kernel_rfl) (.inr (hI.sl [1, 2, 3, 4, 5, 6, 7, 8, 9] rfl)) rfl fun a hA => ?_
                          refine g_skip (i := 27) hA rfl (wanted_no hA rfl rfl (by rw [hc180]; simp [vb])) (by kernel_rfl) (.inr (hI.sl [1, 2, 3, 4, 5, 6, 7, 8, 9] rfl)) rfl fun a hA => ?_
                          refine g_skip (i := 28) hA rfl (wanted_no hA rfl rfl (by rw [hc180]; simp [vb])) (by kernel_rfl) (.inr (hI.sl [1, 2, 3, 4, 5, 6, 7, 8, 9] rfl)) rfl fun a hA => ?_
                          refine gE 29 hA rfl (.inr (hI.sl [1, 2, 3, 4, 5, 6, 7, 8, 9] rfl)) (fun _ => r_pick_t hA rfl hc180 rfl) fun a hA => ?_
                          refine gE 30 hA rfl (.inr (hI.sl [1, 2, 3, 4, 5, 6, 7, 8, 9] rfl)) (fun _ => r_mv hA rfl) fun a hA => ?_
                          refine g_skip (i := 31) hA rfl (wanted_no hA rfl rfl (by simp [vb])) (by kernel_rfl) (.inr (hI.sl [1, 2, 3, 4, 5, 6, 7, 8, 9] rfl)) rfl fun a hA => ?_
                          refine g_skip (i := 32) hA rfl (wanted_no hA rfl rfl (by simp [vb])) (by kernel_rfl) (.inr (hI.sl [1, 2, 3, 4, 5, 6, 7, 8, 9] rfl)) rfl fun a hA => ?_
                          refine g_skip (i := 34) hA rfl (wanted_no hA rfl rfl (by simp [vb])) (by kernel_rfl) (.inr (hI.sl [1, 2, 3, 4, 5, 6, 7, 8, 9] rfl)) rfl fun a hA => ?_
                          refine g_skip (i := 35) hA rfl (wanted_no hA rfl rfl (by simp [vb])) (by kernel_rfl) (.inr (hI.sl [1, 2, 3, 4, 5, 6, 7, 8, 9] rfl)) rfl fun a hA => ?_
                          refine g_skip (i := 36) hA rfl (wanted_no hA rfl rfl (by simp [vb])) (by kernel_rfl) (.inr (hI.sl [1, 2, 3, 4, 5, 6, 7, 8, 9] rfl)) rfl fun a hA => ?_
                          refine g_skip (i := 37) hA rfl (wanted_no hA rfl rfl (by simp [vb])) (by kernel_rfl) (.inr (hI.sl [1, 2, 3, 4, 5, 6, 7, 8, 9] rfl)) rfl fun a hA => ?_
                          refine g_skip (i := 38) hA rfl (wanted_no hA rfl rfl (by simp [vb])) (by kernel_rfl) (.inr (hI.sl [1, 2, 3, 4, 5, 6, 7, 8, 9] rfl)) rfl fun a hA => ?_
                          refine g_skip (i := 33) hA rfl (wanted_no hA rfl rfl (by simp [vb])) (by kernel_rfl) (.inr (hI.sl [1, 2, 3, 4, 5, 6, 7, 8, 9] rfl)) rfl fun a hA => ?_
                          refine g_skip (i := 39) hA rfl (wanted_no hA rfl rfl (by simp [vb])) (by kernel_rfl) (.inr (hI.sl [1, 2, 3, 4, 5, 6, 7, 8, 9] rfl)) rfl fun a hA => ?_
                          refine g_skip (i := 40) hA rfl (wanted_no hA rfl rfl (by simp [vb])) (by kernel_rfl) (.inr (hI.sl [1, 2, 3, 4, 5, 6, 7, 8, 9] rfl)) rfl fun a hA => ?_
                          refine g_skip (i := 41) hA rfl (wanted_no hA rfl rfl (by simp [vb])) (by kernel_rfl) (.inr (hI.sl [1, 2, 3, 4, 5, 6, 7, 8, 9] rfl)) rfl fun a hA => ?_
                          refine gE 42 hA rfl (.inr (hI.sl [1, 2, 3, 4, 5, 6, 7, 8, 9] rfl)) (fun _ => r_pick_t hA rfl rfl rfl) fun a hA => ?_
                          refine gE 43 hA rfl (.inr (hI.sl [1, 2, 3, 4, 5, 6, 7, 8, 9] rfl)) (fun _ => r_mv hA rfl) fun a hA => ?_
                          refine g_skip (i := 44) hA rfl (wanted_no hA rfl rfl (by simp [vb])) (by kernel_rfl) (.inr (hI.sl [1, 2, 3, 4, 5, 6, 7, 8, 9] rfl)) rfl fun a hA => ?_
                          refine g_skip (i := 47) hA rfl (wanted_no hA rfl rfl (by simp [vb])) (by kernel_rfl) (.inr (hI.sl [1, 2, 3, 4, 5, 6, 7, 8, 9] rfl)) rfl fun a hA => ?_
                          refine g_skip (i := 45) hA rfl (wanted_no hA rfl rfl (by simp [vb])) (by kernel_rfl) (.inr (hI.sl [1, 2, 3, 4, 5, 6, 7, 8, 9] rfl)) rfl fun a hA => ?_
                          refine g_skip (i := 46) hA rfl (wanted_no hA rfl rfl (by simp [vb])) (by kernel_rfl) (.inr (hI.sl [1, 2, 3, 4, 5, 6, 7, 8, 9] rfl)) rfl fun a hA => ?_
                          refine g_skip (i := 48) hA rfl (wanted_no hA rfl rfl (by simp [vb])) (by kernel_rfl) (.inr (hI.sl [1, 2, 3, 4, 5, 6, 7, 8, 9] rfl)) rfl fun a hA => ?_
                          refine gE 49 hA rfl (.inr (hI.sl [1, 2, 3, 4, 5, 6, 7, 8, 9] rfl)) (fun _ => r_pick_t hA rfl rfl rfl) fun a hA => ?_
                          refine gN ?_
                          cases sJ H
                          exact ⟨hA.sub ⟨rfl, rfl, rfl, rfl, rfl, rfl, rfl, rfl, rfl, rfl, rfl, rfl, rfl, trivial⟩, (hI.sl [1, 2, 3, 4, 5, 6, 7, 8, 9] rfl)⟩
                        · have hc180 := hc18; have hc18 := nF hc18; have H := bT H hc18
                          refine g_easy (i := 18) hA rfl (wanted_yes hA rfl rfl hc180) (by kernel_rfl) (.inr (hI.sl [1, 2, 3, 4, 5, 6, 7, 8, 9] rfl)) (fun _ => r_mv hA rfl) rfl fun a hA => ?_
                          refine g_easy (i := 19) hA rfl (wanted_yes hA rfl rfl hc180) (by kernel_rfl) (.inr (hI.sl [1, 2, 3, 4, 5, 6, 7, 8, 9] rfl)) (fun _ => r_mv hA rfl) rfl fun a hA => ?_
                          refine g_easy (i := 21) hA rfl (wanted_yes hA rfl rfl hc180) (by kernel_rfl) (.inr (hI.sl [1, 2, 3, 4, 5, 6, 7, 8, 9] rfl)) (fun _ => r_mv hA rfl) rfl fun a hA => ?_
                          refine g_easy (i := 22) hA rfl (wanted_yes hA rfl rfl hc180) (by kernel_rfl) (.inr (hI.sl [1, 2, 3, 4, 5, 6, 7, 8, 9] rfl)) (fun _ => r_nilc hA rfl) rfl fun a hA => ?_
                          refine g_easy (i := 23) hA rfl (wanted_yes hA rfl rfl hc180) (by kernel_rfl) (.inr (hI.sl [1, 2, 3, 4, 5, 6, 7, 8, 9] rfl)) (fun _ => r_fd (k := 2) Tryd.underlying85 rfl sz76 hA rfl rfl) rfl fun a hA => ?_
                          refine g_mono (I' := fun w => Iv w0 [] μ μ3 [row 79 34 v8 r8.length cs2, cel g2 [[.int .i64 r6.2.most], [.int .i64 r6.2.op], [vp3], [.map (some gm3)]] 133, row 79 34 vp3 r6.2.l.length cp3, mpI gm3 (ent kv131 vv131 r6.2.lost), row 79 34 v5 r5.length cs1, cel g4 [[.int .i64 r4.most], [.int .i64 r4.op], [vp2], [.map (some gm2)]] 133, row 79 34 vp2 r4.l.length cp2, mpI gm2 (ent kv131 vv131 r4.lost), row 79 34 vvs5 s5.length ccs5, cel g3 [[.int .i64 s2], [.int .i64 (IntKind.i64.wrap (s3 + 1))], [vvs4], [vvs5]] 85] w) (fun w h => (h.sl [1, 2, 3, 4, 5, 6, 7, 8, 9] rfl)) _ _ _ _ ?_
                          refine g_take (i := 24) hA rfl (wanted_yes hA rfl rfl hc180) (by kernel_rfl) hI (fun w hI => r_ld1 (j := 9) [[.int .i64 s2], [.int .i64 (IntKind.i64.wrap (s3 + 1))]] [[vvs5]] Tryd.underlying76 rfl hI rfl hA rfl rfl) rfl fun a hA => ?_
                          refine g_easy (i := 25) hA rfl (wanted_yes hA rfl rfl hc180) (by kernel_rfl) (.inr hI) (fun _ => r_mv hA rfl) rfl fun a hA => ?_
                          refine gF 20 rfl ?_
                          refine o_yes hA rfl rfl hc180 <| ?_
                          obtain ⟨r10, hr10, H⟩ := bB H
                          have hI := hI.sl [1, 2, 3, 0, 4, 5, 6, 7, 8, 9] rfl
                          refine o_call _ cf33 hA rfl (notes_Log_Of.c μ3 _ hI.agr (⟨r6.2.most, r6.2.op, r6.2.l, r6.2.lost⟩ : notesLog) vp3 cp3 gm3 g2 hp9 hp10 hp11 hp12 (hI.handN 3) x2 hx2 r10 hr10) rfl fun v9 a w hz22 hA => ?_
                          obtain ⟨_, cs3, rfl, hE3, hi8⟩ := hz22
                          have hI := hI.backN 3 hi8
                          have hI : Iv w0 [] μ μ3 [row 79 34 v9 r10.length cs3, cel g2 [[.int .i64 r6.2.most], [.int .i64 r6.2.op], [vp3], [.map (some gm3)]] 133, row 79 34 vp3 r6.2.l.length cp3, mpI gm3 (ent kv131 vv131 r6.2.lost), row 79 34 v8 r8.length cs2, row 79 34 v5 r5.length cs1, cel g4 [[.int .i64 r4.most], [.int .i64 r4.op], [vp2], [.map (some gm2)]] 133, row 79 34 vp2 r4.l.length cp2, mpI gm2 (ent kv131 vv131 r4.lost), row 79 34 vvs5 s5.length ccs5, cel g3 [[.int .i64 s2], [.int .i64 (IntKind.i64.wrap (s3 + 1))], [vvs4], [vvs5]] 85] w := hI
                          refine o_nil <| ⟨(.inr (hI.sl [4, 1, 2, 3, 5, 6, 7, 8, 9, 10] rfl)), ?_⟩
                          refine gF 26 rfl ?_
                          refine o_yes hA rfl rfl hc180 <| ?_
                          obtain ⟨r11, hr11, H⟩ := bB H
                          refine o_call _ cf38 hA rfl (sargassoref18_Of.c μ3 _ hI.agr s4 vvs4 ws4 x2 hx2 r11 hr11) rfl fun v10 a w hz23 hA => ?_
                          obtain ⟨_, cs4, rfl, hE4, hi9⟩ := hz23
                          have hI := hI.call hi9
                          refine o_nil <| ⟨(.inr (hI.sl [5, 2, 3, 4, 6, 7, 8, 9, 10, 11] rfl)), ?_⟩
                          refine gF 27 rfl ?_
                          refine o_yes hA rfl rfl hc180 <| ?_
                          obtain ⟨r12, hr12, H⟩ := bB H
                          refine o_callp (u := .bool r12) cf37 hA rfl hI ((by obtain ⟨μ5, hle3, hsv2, hI⟩ := hI.freezeRow 1 rfl; have hS4 : Slc (RNote μ5) 34 μ5 v9 r10 := ⟨_, hE3, hsv2⟩; obtain ⟨μ6, hle4, hsv3, hI⟩ := hI.freezeRow 0 rfl; have hS5 : Slc (RNote μ6) 34 μ6 v10 r11 := ⟨_, hE4, hsv3⟩; exact low_plain (hle3.trans hle4) (sargassoref_SameNotes.c μ6 _ hI.agr r10 v9 (Slc.le hS4 (fun _ _ h => RNote.le hle4 h) hle4) r11 v10 hS5 r12 hr12))) rfl fun a w hz24 hI hA => ?_
                          refine o_nil <| ⟨(.inr (hI.sl [5, 2, 3, 4, 6, 7, 8, 9, 10, 11] rfl)), ?_⟩
                          refine g_easy (i := 28) hA rfl (wanted_yes hA rfl rfl hc180) (by kernel_rfl) (.inr (hI.sl [5, 2, 3, 4, 6, 7, 8, 9, 10, 11] rfl)) (fun _ => r_not hA rfl) rfl fun a hA => ?_
                          refine gE 29 hA rfl (.inr (hI.sl [5, 2, 3, 4, 6, 7, 8, 9, 10, 11] rfl)) (fun _ => r_pick_f hA rfl hc180 rfl) fun a hA => ?_
                          refine gE 30 hA rfl (.inr (hI.sl [5, 2, 3, 4, 6, 7, 8, 9, 10, 11] rfl)) (fun _ => r_mv hA rfl) fun a hA => ?_
                          rcases Bool.eq_false_or_eq_true (!r12) with hc19 | hc19
                          · have hc190 := hc19; have hc19 := nT hc19; have hc19 := ft hc19; have H := bF H hc19
                            refine g_skip (i := 31) hA rfl (wanted_no hA rfl rfl (by rw [hc190]; simp [vb])) (by kernel_rfl) (.inr (hI.sl [5, 2, 3, 4, 6, 7, 8, 9, 10, 11] rfl)) rfl fun a hA => ?_
                            refine g_skip (i := 32) hA rfl (wanted_no hA rfl rfl (by rw [hc190]; simp [vb])) (by kernel_rfl) (.inr (hI.sl [5, 2, 3, 4, 6, 7, 8, 9, 10, 11] rfl)) rfl fun a hA => ?_
                            refine g_skip (i := 34) hA rfl (wanted_no hA rfl rfl (by rw [hc190]; simp [vb])) (by kernel_rfl) (.inr (hI.sl [5, 2, 3, 4, 6, 7, 8, 9, 10, 11] rfl)) rfl fun a hA => ?_
                            refine g_skip (i := 35) hA rfl (wanted_no hA rfl rfl (by rw [hc190]; simp [vb])) (by kernel_rfl) (.inr (hI.sl [5, 2, 3, 4, 6, 7, 8, 9, 10, 11] rfl)) rfl fun a hA => ?_
                            refine g_skip (i := 36) hA rfl (wanted_no hA rfl rfl (by rw [hc190]; simp [vb])) (by kernel_rfl) (.inr (hI.sl [5, 2, 3, 4, 6, 7, 8, 9, 10, 11] rfl)) rfl fun a hA => ?_
                            refine g_skip (i := 37) hA rfl (wanted_no hA rfl rfl (by rw [hc190]; simp [vb])) (by kernel_rfl) (.inr (hI.sl [5, 2, 3, 4, 6, 7, 8, 9, 10, 11] rfl)) rfl fun a hA => ?_
                            refine g_skip (i := 38) hA rfl (wanted_no hA rfl rfl (by rw [hc190]; simp [vb])) (by kernel_rfl) (.inr (hI.sl [5, 2, 3, 4, 6, 7, 8, 9, 10, 11] rfl)) rfl fun a hA => ?_
                            refine g_skip (i := 33) hA rfl (wanted_no hA rfl rfl (by rw [hc190]; simp [vb])) (by kernel_rfl) (.inr (hI.sl [5, 2, 3, 4, 6, 7, 8, 9, 10, 11] rfl)) rfl fun a hA => ?_
                            refine g_skip (i := 39) hA rfl (wanted_no hA rfl rfl (by rw [hc190]; simp [vb])) (by kernel_rfl) (.inr (hI.sl [5, 2, 3, 4, 6, 7, 8, 9, 10, 11] rfl)) rfl fun a hA => ?_
                            refine g_skip (i := 40) hA rfl (wanted_no hA rfl rfl (by rw [hc190]; simp [vb])) (by kernel_rfl) (.inr (hI.sl [5, 2, 3, 4, 6, 7, 8, 9, 10, 11] rfl)) rfl fun a hA => ?_
                            refine g_skip (i := 41) hA rfl (wanted_no hA rfl rfl (by rw [hc190]; simp [vb])) (by kernel_rfl) (.inr (hI.sl [5, 2, 3, 4, 6, 7, 8, 9, 10, 11] rfl)) rfl fun a hA => ?_
                            refine gE 42 hA rfl (.inr (hI.sl [5, 2, 3, 4, 6, 7, 8, 9, 10, 11] rfl)) (fun _ => r_pick_t hA rfl hc190 rfl) fun a hA => ?_
                            refine gE 43 hA rfl (.inr (hI.sl [5, 2, 3, 4, 6, 7, 8, 9, 10, 11] rfl)) (fun _ => r_mv hA rfl) fun a hA => ?_
                            refine g_skip (i := 44) hA rfl (wanted_no hA rfl rfl (by simp [vb])) (by kernel_rfl) (.inr (hI.sl [5, 2, 3, 4, 6, 7, 8, 9, 10, 11] rfl)) rfl fun a hA => ?_
                            refine g_skip (i := 47) hA rfl (wanted_no hA rfl rfl (by simp [vb])) (by kernel_rfl) (.inr (hI.sl [5, 2, 3, 4, 6, 7, 8, 9, 10, 11] rfl)) rfl fun a hA => ?_
                            refine g_skip (i := 45) hA rfl (wanted_no hA rfl rfl (by simp [vb])) (by kernel_rfl) (.inr (hI.sl [5, 2, 3, 4, 6, 7, 8, 9, 10, 11] rfl)) rfl fun a hA => ?_
                            refine g_skip (i := 46) hA rfl (wanted_no hA rfl rfl (by simp [vb])) (by kernel_rfl) (.inr (hI.sl [5, 2, 3, 4, 6, 7, 8, 9, 10, 11] rfl)) rfl fun a hA => ?_
                            refine g_skip (i := 48) hA rfl (wanted_no hA rfl rfl (by simp [vb])) (by kernel_rfl) (.inr (hI.sl [5, 2, 3, 4, 6, 7, 8, 9, 10, 11] rfl)) rfl fun a hA => ?_
                            refine gE 49 hA rfl (.inr (hI.sl [5, 2, 3, 4, 6, 7, 8, 9, 10, 11] rfl)) (fun _ => r_pick_t hA rfl rfl rfl) fun a hA => ?_
                            refine gN ?_
                            cases sJ H
                            exact ⟨hA.sub ⟨rfl, rfl, rfl, rfl, rfl, rfl, rfl, rfl, rfl, rfl, rfl, rfl, rfl, trivial⟩, (hI.sl [2, 3, 4, 6, 7, 8, 9, 10, 11] rfl)⟩
                          · have hc190 := hc19; have hc19 := nF hc19; have H := bT H hc19
                            refine g_easy (i := 31) hA rfl (wanted_yes hA rfl rfl hc190) (by kernel_rfl) (.inr (hI.sl [5, 2, 3, 4, 6, 7, 8, 9, 10, 11] rfl)) (fun _ => r_mv hA rfl) rfl fun a hA => ?_
                            refine g_easy (i := 32) hA rfl (wanted_yes hA rfl rfl hc190) (by kernel_rfl) (.inr (hI.sl [5, 2, 3, 4, 6, 7, 8, 9, 10, 11] rfl)) (fun _ => r_mv hA rfl) rfl fun a hA => ?_
                            refine g_easy (i := 34) hA rfl (wanted_yes hA rfl rfl hc190) (by kernel_rfl) (.inr (hI.sl [5, 2, 3, 4, 6, 7, 8, 9, 10, 11] rfl)) (fun _ => r_mv hA rfl) rfl fun a hA => ?_
                            refine g_easy (i := 35) hA rfl (wanted_yes hA rfl rfl hc190) (by kernel_rfl) (.inr (hI.sl [5, 2, 3, 4, 6, 7, 8, 9, 10, 11] rfl)) (fun _ => r_nilc hA rfl) rfl fun a hA => ?_
                            refine g_easy (i := 36) hA rfl (wanted_yes hA rfl rfl hc190) (by kernel_rfl) (.inr (hI.sl [5, 2, 3, 4, 6, 7, 8, 9, 10, 11] rfl)) (fun _ => r_fd (k := 3) Tryd.underlying85 rfl sz76 hA rfl rfl) rfl fun a hA => ?_
                            refine g_mono (I' := fun w => Iv w0 [] μ μ3 [row 79 34 v10 r11.length cs4, row 79 34 v9 r10.length cs3, cel g2 [[.int .i64 r6.2.most], [.int .i64 r6.2.op], [vp3], [.map (some gm3)]] 133, row 79 34 vp3 r6.2.l.length cp3, mpI gm3 (ent kv131 vv131 r6.2.lost), row 79 34 v8 r8.length cs2, row 79 34 v5 r5.length cs1, cel g4 [[.int .i64 r4.most], [.int .i64 r4.op], [vp2], [.map (some gm2)]] 133, row 79 34 vp2 r4.l.length cp2, mpI gm2 (ent kv131 vv131 r4.lost), row 79 34 vvs5 s5.length ccs5, cel g3 [[.int .i64 s2], [.int .i64 (IntKind.i64.wrap (s3 + 1))], [vvs4], [vvs5]] 85] w) (fun w h => (h.sl [5, 2, 3, 4, 6, 7, 8, 9, 10, 11] rfl)) _ _ _ _ ?_
                            refine g_take (i := 37) hA rfl (wanted_yes hA rfl rfl hc190) (by kernel_rfl) hI (fun w hI => r_ld1 (j := 11) [[.int .i64 s2], [.int .i64 (IntKind.i64.wrap (s3 + 1))], [vvs4]] [] Tryd.underlying76 rfl hI rfl hA rfl rfl) rfl fun a hA => ?_
                            refine g_easy (i := 38) hA rfl (wanted_yes hA rfl rfl hc190) (by kernel_rfl) (.inr hI) (fun _ => r_mv hA rfl) rfl fun a hA => ?_
                            refine gF 33 rfl ?_
                            refine o_yes hA rfl rfl hc190 <| ?_
                            obtain ⟨r13, hr13, H⟩ := bB H
                            have hI := hI.sl [2, 3, 4, 0, 1, 5, 6, 7, 8, 9, 10, 11] rfl
                            refine o_call _ cf34 hA rfl (notes_Log_Lost.c μ3 _ hI.agr (⟨r6.2.most, r6.2.op, r6.2.l, r6.2.lost⟩ : notesLog) vp3 cp3 gm3 g2 hp9 hp10 hp11 hp12 (hI.handN 3) x2 hx2 r13 hr13) rfl fun v11 a w hz25 hA => ?_
                            obtain ⟨rfl, hw4, hi10⟩ := hz25
                            have hI := hI.back3 hi10
                            refine o_nil <| ⟨(.inr (hI.sl [3, 4, 0, 1, 2, 5, 6, 7, 8, 9, 10, 11] rfl)), ?_⟩
                            refine gF 39 rfl ?_
                            refine o_yes hA rfl rfl hc190 <| ?_
                            obtain ⟨r14, hr14, H⟩ := bB H
                            refine o_callW (fun w v w' => ∃ (v0 : Value) (c0 : List Value), v = v0 ∧ Els (RNote μ3) 34 r14 c0 ∧ Iv w [] μ3 μ3 [row 79 34 v0 r14.length c0] w') cf38 hA rfl ((by obtain ⟨μ7, hle5, hsv4, hI⟩ := hI.freezeRow 10 rfl; have hS6 : Slc (RNote μ7) 34 μ7 vvs5 s5 := ⟨_, ws5, hsv4⟩; exact (sargassoref18_Of.c μ7 _ hI.agr s5 vvs5 hS6 x2 hx2 r14 hr14).mono fun _ _ ⟨v, he, b0, b1, hv, f0, hi⟩ => ⟨v, he, b0, b1, hv, f0, hi.low hle5⟩)) rfl fun v12 a w hz26 hA => ?_
                            obtain ⟨_, cs5, rfl, hE5, hi11⟩ := hz26
                            have hI := hI.call hi11
                            refine o_nil <| ⟨(.inr (hI.sl [4, 5, 1, 2, 3, 6, 7, 8, 9, 10, 11, 12] rfl)), ?_⟩
                            refine g_mono (I' := fun w => Iv w0 [] μ μ3 [row 79 34 v12 r14.length cs5, cel g2 [[.int .i64 r6.2.most], [.int .i64 r6.2.op], [vp3], [.map (some gm3)]] 133, row 79 34 vp3 r6.2.l.length cp3, mpI gm3 (ent kv131 vv131 r6.2.lost), row 79 34 v10 r11.length cs4, row 79 34 v9 r10.length cs3, row 79 34 v8 r8.length cs2, row 79 34 v5 r5.length cs1, cel g4 [[.int .i64 r4.most], [.int .i64 r4.op], [vp2], [.map (some gm2)]] 133, row 79 34 vp2 r4.l.length cp2, mpI gm2 (ent kv131 vv131 r4.lost), row 79 34 vvs5 s5.length ccs5, cel g3 [[.int .i64 s2], [.int .i64 (IntKind.i64.wrap (s3 + 1))], [vvs4], [vvs5]] 85] w) (fun w h => (h.sl [4, 5, 1, 2, 3, 6, 7, 8, 9, 10, 11, 12] rfl)) _ _ _ _ ?_
                            refine g_take (i := 40) hA rfl (wanted_yes hA rfl rfl hc190) (by kernel_rfl) hI (fun w hI => r_rlen (xs := 0) Tryd.underlying76 hI (j := 0) rfl hA rfl) rfl fun a hA => ?_
                            refine g_easy (i := 41) hA rfl (wanted_yes hA rfl rfl hc190) (by kernel_rfl) (.inr hI) (fun _ => r_neq hA rfl rfl) rfl fun a hA => ?_
                            refine gE 42 hA rfl (.inr hI) (fun _ => r_pick_f hA rfl hc190 rfl) fun a hA => ?_
                            refine gE 43 hA rfl (.inr hI) (fun _ => r_mv hA rfl) fun a hA => ?_
                            rcases Bool.eq_false_or_eq_true (decide (r13 ≠ (r14.length : Int))) with hc20 | hc20
                            · have hc200 := hc20; obtain ⟨hc20, H⟩ := dT H hc20
                              refine g_skip (i := 44) hA rfl (wanted_no hA rfl rfl (by rw [hc200]; simp [vb])) (by kernel_rfl) (.inr hI) rfl fun a hA => ?_
                              refine g_skip (i := 47) hA rfl (wanted_no hA rfl rfl (by rw [hc200]; simp [vb])) (by kernel_rfl) (.inr hI) rfl fun a hA => ?_
                              refine g_skip (i := 45) hA rfl (wanted_no hA rfl rfl (by rw [hc200]; simp [vb])) (by kernel_rfl) (.inr hI) rfl fun a hA => ?_
                              refine g_skip (i := 46) hA rfl (wanted_no hA rfl rfl (by rw [hc200]; simp [vb])) (by kernel_rfl) (.inr hI) rfl fun a hA => ?_
                              refine g_skip (i := 48) hA rfl (wanted_no hA rfl rfl (by rw [hc200]; simp [vb])) (by kernel_rfl) (.inr hI) rfl fun a hA => ?_
                              refine gE 49 hA rfl (.inr hI) (fun _ => r_pick_t hA rfl hc200 rfl) fun a hA => ?_
                              refine gN ?_
                              cases sJ H
                              exact ⟨hA.sub ⟨rfl, rfl, rfl, rfl, rfl, rfl, rfl, rfl, rfl, rfl, rfl, rfl, rfl, trivial⟩, (hI.sl [1, 2, 3, 7, 8, 9, 10, 11, 12] rfl)⟩
                            · have hc200 := hc20; obtain ⟨hc20, H⟩ := dF H hc20
                              refine g_easy (i := 44) hA rfl (wanted_yes hA rfl rfl hc200) (by kernel_rfl) (.inr hI) (fun _ => r_mv hA rfl) rfl fun a hA => ?_
                              refine g_easy (i := 47) hA rfl (wanted_yes hA rfl rfl hc200) (by kernel_rfl) (.inr hI) (fun _ => r_mv hA rfl) rfl fun a hA => ?_
                              refine gF 45 rfl ?_
                              refine o_yes hA rfl rfl hc200 <| ?_
                              obtain ⟨r15, hr15, H⟩ := bB H
                              have hI := hI.sl [8, 9, 10, 0, 1, 2, 3, 4, 5, 6, 7, 11, 12] rfl
                              refine o_call _ cf31 hA rfl (notes_Log_All.c μ3 _ hI.agr (⟨r4.most, r4.op, r4.l, r4.lost⟩ : notesLog) vp2 cp2 gm2 g4 hp5 hp6 hp7 hp8 (hI.handN 3) r15 hr15) rfl fun v13 a w hz27 hA => ?_
                              obtain ⟨_, cs6, rfl, hE6, hi12⟩ := hz27
                              have hI := hI.backN 3 hi12
                              have hI : Iv w0 [] μ μ3 [row 79 34 v13 r15.length cs6, cel g4 [[.int .i64 r4.most], [.int .i64 r4.op], [vp2], [.map (some gm2)]] 133, row 79 34 vp2 r4.l.length cp2, mpI gm2 (ent kv131 vv131 r4.lost), row 79 34 v12 r14.length cs5, cel g2 [[.int .i64 r6.2.most], [.int .i64 r6.2.op], [vp3], [.map (some gm3)]] 133, row 79 34 vp3 r6.2.l.length cp3, mpI gm3 (ent kv131 vv131 r6.2.lost), row 79 34 v10 r11.length cs4, row 79 34 v9 r10.length cs3, row 79 34 v8 r8.length cs2, row 79 34 v5 r5.length cs1, row 79 34 vvs5 s5.length ccs5, cel g3 [[.int .i64 s2], [.int .i64 (IntKind.i64.wrap (s3 + 1))], [vvs4], [vvs5]] 85] w := hI
                              refine o_nil <| ⟨(.inr (hI.sl [4, 5, 6, 7, 8, 9, 10, 11, 1, 2, 3, 12, 13] rfl)), ?_⟩
                              refine g_mono (I' := fun w => Iv w0 [] μ μ3 [row 79 34 v13 r15.length cs6, cel g4 [[.int .i64 r4.most], [.int .i64 r4.op], [vp2], [.map (some gm2)]] 133, row 79 34 vp2 r4.l.length cp2, mpI gm2 (ent kv131 vv131 r4.lost), row 79 34 v12 r14.length cs5, cel g2 [[.int .i64 r6.2.most], [.int .i64 r6.2.op], [vp3], [.map (some gm3)]] 133, row 79 34 vp3 r6.2.l.length cp3, mpI gm3 (ent kv131 vv131 r6.2.lost), row 79 34 v10 r11.length cs4, row 79 34 v9 r10.length cs3, row 79 34 v8 r8.length cs2, row 79 34 v5 r5.length cs1, row 79 34 vvs5 s5.length ccs5, cel g3 [[.int .i64 s2], [.int .i64 (IntKind.i64.wrap (s3 + 1))], [vvs4], [vvs5]] 85] w) (fun w h => (h.sl [4, 5, 6, 7, 8, 9, 10, 11, 1, 2, 3, 12, 13] rfl)) _ _ _ _ ?_
                              refine g_take (i := 46) hA rfl (wanted_yes hA rfl rfl hc200) (by kernel_rfl) hI (fun w hI => r_rlen (xs := 0) Tryd.underlying76 hI (j := 0) rfl hA rfl) rfl fun a hA => ?_
                              refine g_easy (i := 48) hA rfl (wanted_yes hA rfl rfl hc200) (by kernel_rfl) (.inr hI) (fun _ => r_neq hA rfl rfl) rfl fun a hA => ?_
                              refine gE 49 hA rfl (.inr hI) (fun _ => r_pick_f hA rfl hc200 rfl) fun a hA => ?_
                              refine gN ?_
                              cases sJ H
                              exact ⟨hA.sub ⟨rfl, rfl, rfl, rfl, rfl, rfl, rfl, rfl, rfl, rfl, rfl, rfl, rfl, trivial⟩, (hI.sl [5, 6, 7, 11, 1, 2, 3, 12, 13] rfl)⟩
                    · rintro a w ⟨hA, hI⟩
                      have H := Hk11
                      refine w_cond hA rfl (fun hc21 => ?_) (fun hc21 => ?_)
                      · have H := bT H hc21
                        refine w_seq fun _ hN32 => w_reg <| sta hA rfl rfl fun a hA => ?_
                        refine o_nil <| hN32 _ _ <| w_ret ?_
                        have H : some false = some z2 := H
                        obtain rfl := sI H
                        have H := Hk10
                        obtain rfl := sJ H
                        exact ret1 hA Tryd.results6 rfl ⟨_, rfl, rfl, trivial, hI.forget0⟩
                      · have hc21 := ft hc21; have H := bF H hc21
                        refine w_skip <| hN24 _ _ <| w_reg <| stm hA rfl rfl fun a hA => 
                          stp hA (r_add hA rfl rfl) rfl fun a hA => 
                          sta hA rfl rfl fun a hA => ?_
                        refine o_nil <| ⟨m2, Nat.lt_succ_self _, IntKind.i64.wrap (s1 + 1), s2, IntKind.i64.wrap (s3 + 1), s4, s5, r6.2.most, r6.2.op, r6.2.l, r6.2.lost, μ3, vvs4, vvs5, ccs5, vp3, cp3, gm3, H, hle1, (wrap_in _ _), ws2, (wrap_in _ _), ws4, ws5, hp9, hp10, hp11, hp12, hA.sub ⟨rfl, rfl, rfl, rfl, rfl, rfl, rfl, trivial⟩, (hI.sl [7, 8, 0, 1, 2] rfl)⟩
                · obtain ⟨hc15, H⟩ := dF H hc15
                  refine w_seq fun _ hN33 => ?_
                  refine w_anyS [] mo (fun w (h : Iv w0 [] μ μ3 [row 79 34 v5 r5.length cs1, cel g4 [[.int .i64 r4.most], [.int .i64 r4.op], [vp2], [.map (some gm2)]] 133, row 79 34 vp2 r4.l.length cp2, mpI gm2 (ent kv131 vv131 r4.lost), cel g2 [[.int .i64 s6], [.int .i64 s7], [vvs8], [.map (some ggs9)]] 133, row 79 34 vvs8 s8.length ccs8, mpI ggs9 (ent kv131 vv131 s9), row 79 34 vvs5 s5.length ccs5, cel g3 [[.int .i64 s2], [.int .i64 s3], [vvs4], [vvs5]] 85] w) => (h.sl [0, 1, 2, 3] rfl : Iv w0 [] μ μ3 [row 79 34 v5 r5.length cs1, cel g4 [[.int .i64 r4.most], [.int .i64 r4.op], [vp2], [.map (some gm2)]] 133, row 79 34 vp2 r4.l.length cp2, mpI gm2 (ent kv131 vv131 r4.lost)] w)) hI fun w hI => ?_
                  refine gE 0 hA rfl (.inr (hI.sl [0, 1, 2, 3] rfl)) (fun _ => r_mv hA rfl) fun a hA => ?_
                  refine gE 1 hA rfl (.inr (hI.sl [0, 1, 2, 3] rfl)) (fun _ => r_mv hA rfl) fun a hA => ?_
                  refine gE 2 hA rfl (.inr (hI.sl [0, 1, 2, 3] rfl)) (fun _ => r_mv hA rfl) fun a hA => ?_
                  refine gE 3 hA rfl (.inr (hI.sl [0, 1, 2, 3] rfl)) (fun _ => r_six Tryd.underlying82 sz88 hsl4 hA rfl rfl hb1.1 hb1.2) fun a hA => ?_
                  refine gE 4 hA rfl (.inr (hI.sl [0, 1, 2, 3] rfl)) (fun _ => r_fd (k := so u1 + s1.toNat * 34 + 2) Tryd.underlying88 rfl sz26 hA rfl rfl) fun a hA => ?_
                  refine gT 5 hA rfl (hI.sl [0, 1, 2, 3] rfl) (fun w hI => r_ldmA [[.int .i64 ((x1.getD s1.toNat default).Kind)], [.int .i64 ((x1.getD s1.toNat default).Reason)]] [av .u8 32 ((x1.getD s1.toNat default).Tx)] [] Tryd.underlying26 rfl sz26 rfl hI.agr hat1 hA rfl rfl) fun a hA => ?_
                  refine gE 6 hA rfl (.inr (hI.sl [0, 1, 2, 3] rfl)) (fun _ => r_mv hA rfl) fun a hA => ?_
                  refine gE 7 hA rfl (.inr (hI.sl [0, 1, 2, 3] rfl)) (fun _ => r_mv hA rfl) fun a hA => ?_
                  refine gE 8 hA rfl (.inr (hI.sl [0, 1, 2, 3] rfl)) (fun _ => r_six Tryd.underlying82 sz88 hsl4 hA rfl rfl hb1.1 hb1.2) fun a hA => ?_
                  refine gE 9 hA rfl (.inr (hI.sl [0, 1, 2, 3] rfl)) (fun _ => r_fd (k := so u1 + s1.toNat * 34 + 1) Tryd.underlying88 rfl sz3 hA rfl rfl) fun a hA => ?_
                  refine gT 10 hA rfl (hI.sl [0, 1, 2, 3] rfl) (fun w hI => r_ldm1 [[.int .i64 ((x1.getD s1.toNat default).Kind)]] [av .u8 32 ((x1.getD s1.toNat default).Tx)] Tryd.underlying3 rfl hI.agr hat1 hA rfl rfl) fun a hA => ?_
                  refine gE 12 hA rfl (.inr (hI.sl [0, 1, 2, 3] rfl)) (fun _ => r_mv hA rfl) fun a hA => ?_
                  refine gE 13 hA rfl (.inr (hI.sl [0, 1, 2, 3] rfl)) (fun _ => r_mv hA rfl) fun a hA => ?_
                  refine gE 14 hA rfl (.inr (hI.sl [0, 1, 2, 3] rfl)) (fun _ => r_mv hA rfl) fun a hA => ?_
                  refine gE 15 hA rfl (.inr (hI.sl [0, 1, 2, 3] rfl)) (fun _ => r_six Tryd.underlying82 sz88 hsl4 hA rfl rfl hb1.1 hb1.2) fun a hA => ?_
                  refine gE 16 hA rfl (.inr (hI.sl [0, 1, 2, 3] rfl)) (fun _ => r_fd (k := so u1 + s1.toNat * 34 + 2) Tryd.underlying88 rfl sz26 hA rfl rfl) fun a hA => ?_
                  refine gT 17 hA rfl (hI.sl [0, 1, 2, 3] rfl) (fun w hI => r_ldmA [[.int .i64 ((x1.getD s1.toNat default).Kind)], [.int .i64 ((x1.getD s1.toNat default).Reason)]] [av .u8 32 ((x1.getD s1.toNat default).Tx)] [] Tryd.underlying26 rfl sz26 rfl hI.agr hat1 hA rfl rfl) fun a hA => ?_
                  refine gE 18 hA rfl (.inr (hI.sl [0, 1, 2, 3] rfl)) (fun _ => r_mv hA rfl) fun a hA => ?_
                  refine gE 19 hA rfl (.inr (hI.sl [0, 1, 2, 3] rfl)) (fun _ => r_mv hA rfl) fun a hA => ?_
                  refine gE 20 hA rfl (.inr (hI.sl [0, 1, 2, 3] rfl)) (fun _ => r_six Tryd.underlying82 sz88 hsl4 hA rfl rfl hb1.1 hb1.2) fun a hA => ?_
                  refine gE 21 hA rfl (.inr (hI.sl [0, 1, 2, 3] rfl)) (fun _ => r_fd (k := so u1 + s1.toNat * 34 + 1) Tryd.underlying88 rfl sz3 hA rfl rfl) fun a hA => ?_
                  refine gT 22 hA rfl (hI.sl [0, 1, 2, 3] rfl) (fun w hI => r_ldm1 [[.int .i64 ((x1.getD s1.toNat default).Kind)]] [av .u8 32 ((x1.getD s1.toNat default).Tx)] Tryd.underlying3 rfl hI.agr hat1 hA rfl rfl) fun a hA => ?_
                  refine gF 11 rfl ?_
                  obtain ⟨r16, hr16, H⟩ := bB H
                  have hI := hI.sl [4, 5, 6, 0, 1, 2, 3, 7, 8] rfl
                  refine o_call _ cf30 hA rfl (notes_Log_Add.c μ3 _ hI.agr (⟨s6, s7, s8, s9⟩ : notesLog) vvs8 ccs8 ggs9 g2 ws6 ws7 ws8 ws9 (hI.handN 3) ((x1.getD s1.toNat default).Tx) hw1.2.2 ((x1.getD s1.toNat default).Reason) hw1.2.1 e7 (ErV.le (fun _ _ h => h) (hi2.le.trans hle1) he7) r16 hr16) rfl fun v14 a w hz28 hA => ?_
                  obtain ⟨_, vp4, cp4, gm4, μ8, rfl, hS7, hp13, hp14, hp15, hp16, hi13⟩ := hz28
                  have hI := hI.back3 hi13
                  refine o_nil <| ⟨(.inr ((hI.sl [3, 4, 5, 6] rfl).less (hi2.le.trans hle1) hi13.le)), ?_⟩
                  refine gF 23 rfl ?_
                  obtain ⟨r17, hr17, H⟩ := bB H
                  have hI := hI.sl [8, 7, 0, 1, 2, 3, 4, 5, 6] rfl
                  refine o_call _ cf36 hA rfl (sargassoref18_Log_Add.c μ8 _ hI.agr (⟨s2, s3, s4, s5⟩ : sargassoref18Log) vvs4 vvs5 ccs5 g3 ws2 ws3 (Slc.le ws4 (fun _ _ h => RNote.le hi13.le h) hi13.le) ws5 (hI.handN 2) ((x1.getD s1.toNat default).Tx) hw1.2.2 ((x1.getD s1.toNat default).Reason) hw1.2.1 r17 hr17) rfl fun v15 a w hz29 hA => ?_
                  obtain ⟨vp5, vp6, cp5, μ9, rfl, hw5, hp17, hp18, hp19, hp20, hi14⟩ := hz29
                  have hI := hI.back2 hi14
                  refine o_nil <| ⟨(.inr ((hI.sl [5, 6, 7, 8] rfl).less (hi2.le.trans hle1) (hi13.le.trans hi14.le))), ?_⟩
                  refine gF 24 rfl ?_
                  obtain ⟨r18, hr18, H⟩ := bB H
                  refine o_callp (u := .bool r18) cf17 hA rfl hI (sargassosee_Is.c μ9 _ hI.agr r16.1 v14 (ErV.le (fun _ _ h => h) hi14.le hS7) r17.1 hw5 (Gl.le (((hi2.le.trans hle1).trans hi13.le).trans hi14.le) hG) r18 hr18) rfl fun a w hz30 hI hA => ?_
                  refine o_nil <| ⟨(.inr ((hI.sl [5, 6, 7, 8] rfl).less (hi2.le.trans hle1) (hi13.le.trans hi14.le))), ?_⟩
                  refine gE 25 hA rfl (.inr ((hI.sl [5, 6, 7, 8] rfl).less (hi2.le.trans hle1) (hi13.le.trans hi14.le))) (fun _ => r_not hA rfl) fun a hA => ?_
                  refine gN <| hN33 _ _ <| w_cond hA rfl (fun hc22 => ?_) (fun hc22 => ?_)
                  · have hc22 := nT hc22; have hc22 := ft hc22; have H := bF H hc22
                    refine w_seq fun _ hN34 => w_reg <| sta hA rfl rfl fun a hA => ?_
                    refine o_nil <| hN34 _ _ <| w_ret ?_
                    have H : some false = some z2 := H
                    obtain rfl := sI H
                    have H := Hk10
                    obtain rfl := sJ H
                    exact ret1 hA Tryd.results6 rfl ⟨_, rfl, rfl, trivial, hI.forget0⟩
                  · have hc22 := nF hc22; have H := bT H hc22
                    refine w_skip <| hN27 _ _ ?_
                    obtain ⟨c8, hz31, Hk12⟩ := bB H
                    refine w_cut (fun a w => Fr a 169 [(1, u1), (2, .int .i64 x2), (6, .bool false), (7, .bool r1), (8, .pointer (some ⟨g2, 0, none⟩)), (10, .pointer (some ⟨g3, 0, none⟩)), (11, .int .i64 s1), (12, .pointer (some ⟨g4, 0, none⟩)), (13, .int .i64 (r5.length : Int)), (63, .bool (decide (s1 < (x1.length : Int)))), (76, .bool (decide (((x1.getD s1.toNat default).Kind) = 1))), (117, .bool (!r18)), (167, .bool c8)] ∧ Iv w0 [] μ μ9 [cel g3 [[.int .i64 r17.2.Most], [.int .i64 r17.2.Op], [vp5], [vp6]] 85, row 79 34 vp6 r17.2.Gone.length cp5, cel g2 [[.int .i64 r16.2.most], [.int .i64 r16.2.op], [vp4], [.map (some gm4)]] 133, row 79 34 vp4 r16.2.l.length cp4, mpI gm4 (ent kv131 vv131 r16.2.lost), row 79 34 v5 r5.length cs1, cel g4 [[.int .i64 r4.most], [.int .i64 r4.op], [vp2], [.map (some gm2)]] 133, row 79 34 vp2 r4.l.length cp2, mpI gm2 (ent kv131 vv131 r4.lost)] w) ?_ ?_
                    · have H := bI hz31
                      refine w_any [] mo hI fun w hI => ?_
                      refine gE 0 hA rfl (.inr hI) (fun _ => r_mv hA rfl) fun a hA => ?_
                      refine gE 2 hA rfl (.inr hI) (fun _ => r_mv hA rfl) fun a hA => ?_
                      refine gE 3 hA rfl (.inr hI) (fun _ => r_nilc hA rfl) fun a hA => ?_
                      refine gE 4 hA rfl (.inr hI) (fun _ => r_fd (k := 1) Tryd.underlying85 rfl sz3 hA rfl rfl) fun a hA => ?_
                      refine gT 5 hA rfl hI (fun w hI => r_ld1 (j := 0) [[.int .i64 r17.2.Most]] [[vp5], [vp6]] Tryd.underlying3 rfl hI rfl hA rfl rfl) fun a hA => ?_
                      refine gF 1 rfl ?_
                      obtain ⟨r19, hr19, H⟩ := bB H
                      have hI := hI.sl [2, 3, 4, 0, 1, 5, 6, 7, 8] rfl
                      refine o_call _ cf32 hA rfl (notes_Log_Op.c μ9 _ hI.agr (⟨r16.2.most, r16.2.op, r16.2.l, r16.2.lost⟩ : notesLog) vp4 cp4 gm4 g2 hp13 hp14 hp15 hp16 (hI.handN 3) r19 hr19) rfl fun v16 a w hz32 hA => ?_
                      obtain ⟨rfl, hw6, hi15⟩ := hz32
                      have hI := hI.back3 hi15
                      refine o_nil <| ⟨(.inr (hI.sl [3, 4, 0, 1, 2, 5, 6, 7, 8] rfl)), ?_⟩
                      refine gE 6 hA rfl (.inr (hI.sl [3, 4, 0, 1, 2, 5, 6, 7, 8] rfl)) (fun _ => r_neq hA rfl rfl) fun a hA => ?_
                      refine gE 7 hA rfl (.inr (hI.sl [3, 4, 0, 1, 2, 5, 6, 7, 8] rfl)) (fun _ => r_mv hA rfl) fun a hA => ?_
                      rcases Bool.eq_false_or_eq_true (decide (r19 ≠ r17.2.Op)) with hc23 | hc23
                      · have hc230 := hc23; obtain ⟨hc23, H⟩ := dT H hc23
                        refine g_skip (i := 8) hA rfl (wanted_no hA rfl rfl (by rw [hc230]; simp [vb])) (by kernel_rfl) (.inr (hI.sl [3, 4, 0, 1, 2, 5, 6, 7, 8] rfl)) rfl fun a hA => ?_
                        refine g_skip (i := 10) hA rfl (wanted_no hA rfl rfl (by rw [hc230]; simp [vb])) (by kernel_rfl) (.inr (hI.sl [3, 4, 0, 1, 2, 5, 6, 7, 8] rfl)) rfl fun a hA => ?_
                        refine g_skip (i := 11) hA rfl (wanted_no hA rfl rfl (by rw [hc230]; simp [vb])) (by kernel_rfl) (.inr (hI.sl [3, 4, 0, 1, 2, 5, 6, 7, 8] rfl)) rfl fun a hA => ?_
                        refine g_skip (i := 12) hA rfl (wanted_no hA rfl rfl (by rw [hc230]; simp [vb])) (by kernel_rfl) (.inr (hI.sl [3, 4, 0, 1, 2, 5, 6, 7, 8] rfl)) rfl fun a hA => ?_
                        refine g_skip (i := 13) hA rfl (wanted_no hA rfl rfl (by rw [hc230]; simp [vb])) (by kernel_rfl) (.inr (hI.sl [3, 4, 0, 1, 2, 5, 6, 7, 8] rfl)) rfl fun a hA => ?_
                        refine g_skip (i := 9) hA rfl (wanted_no hA rfl rfl (by rw [hc230]; simp [vb])) (by kernel_rfl) (.inr (hI.sl [3, 4, 0, 1, 2, 5, 6, 7, 8] rfl)) rfl fun a hA => ?_
                        refine g_skip (i := 14) hA rfl (wanted_no hA rfl rfl (by rw [hc230]; simp [vb])) (by kernel_rfl) (.inr (hI.sl [3, 4, 0, 1, 2, 5, 6, 7, 8] rfl)) rfl fun a hA => ?_
                        refine g_skip (i := 15) hA rfl (wanted_no hA rfl rfl (by rw [hc230]; simp [vb])) (by kernel_rfl) (.inr (hI.sl [3, 4, 0, 1, 2, 5, 6, 7, 8] rfl)) rfl fun a hA => ?_
                        refine gE 16 hA rfl (.inr (hI.sl [3, 4, 0, 1, 2, 5, 6, 7, 8] rfl)) (fun _ => r_pick_t hA rfl hc230 rfl) fun a hA => ?_
                        refine gE 17 hA rfl (.inr (hI.sl [3, 4, 0, 1, 2, 5, 6, 7, 8] rfl)) (fun _ => r_mv hA rfl) fun a hA => ?_
                        refine g_skip (i := 18) hA rfl (wanted_no hA rfl rfl (by simp [vb])) (by kernel_rfl) (.inr (hI.sl [3, 4, 0, 1, 2, 5, 6, 7, 8] rfl)) rfl fun a hA => ?_
                        refine g_skip (i := 19) hA rfl (wanted_no hA rfl rfl (by simp [vb])) (by kernel_rfl) (.inr (hI.sl [3, 4, 0, 1, 2, 5, 6, 7, 8] rfl)) rfl fun a hA => ?_
                        refine g_skip (i := 21) hA rfl (wanted_no hA rfl rfl (by simp [vb])) (by kernel_rfl) (.inr (hI.sl [3, 4, 0, 1, 2, 5, 6, 7, 8] rfl)) rfl fun a hA => ?_
                        refine g_skip (i := 22) hA rfl (wanted_no hA rfl rfl (by simp [vb])) (by kernel_rfl) (.inr (hI.sl [3, 4, 0, 1, 2, 5, 6, 7, 8] rfl)) rfl fun a hA => ?_
                        refine g_skip (i := 23) hA rfl (wanted_no hA rfl rfl (by simp [vb])) (by kernel_rfl) (.inr (hI.sl [3, 4, 0, 1, 2, 5, 6, 7, 8] rfl)) rfl fun a hA => ?_
                        refine g_skip (i := 24) hA rfl (wanted_no hA rfl rfl (by simp [vb])) (by kernel_rfl) (.inr (hI.sl [3, 4, 0, 1, 2, 5, 6, 7, 8] rfl)) rfl fun a hA => ?_
                        refine g_skip (i := 25) hA rfl (wanted_no hA rfl rfl (by simp [vb])) (by kernel_rfl) (.inr (hI.sl [3, 4, 0, 1, 2, 5, 6, 7, 8] rfl)) rfl fun a hA => ?_
                        refine g_skip (i := 20) hA rfl (wanted_no hA rfl rfl (by simp [vb])) (by kernel_rfl) (.inr (hI.sl [3, 4, 0, 1, 2, 5, 6, 7, 8] rfl)) rfl fun a hA => ?_
                        refine g_skip (i := 26) hA rfl (wanted_no hA rfl rfl (by simp [vb])) (by kernel_rfl) (.inr (hI.sl [3, 4, 0, 1, 2, 5, 6, 7, 8] rfl)) rfl fun a hA => ?_
                        refine g_skip (i := 27) hA rfl (wanted_no hA rfl rfl (by simp [vb])) (by kernel_rfl) (.inr (hI.sl [3, 4, 0, 1, 2, 5, 6, 7, 8] rfl)) rfl fun a hA => ?_
                        refine g_skip (i := 28) hA rfl (wanted_no hA rfl rfl (by simp [vb])) (by kernel_rfl) (.inr (hI.sl [3, 4, 0, 1, 2, 5, 6, 7, 8] rfl)) rfl fun a hA => ?_
                        refine gE 29 hA rfl (.inr (hI.sl [3, 4, 0, 1, 2, 5, 6, 7, 8] rfl)) (fun _ => r_pick_t hA rfl rfl rfl) fun a hA => ?_
                        refine gE 30 hA rfl (.inr (hI.sl [3, 4, 0, 1, 2, 5, 6, 7, 8] rfl)) (fun _ => r_mv hA rfl) fun a hA => ?_
                        refine g_skip (i := 31) hA rfl (wanted_no hA rfl rfl (by simp [vb])) (by kernel_rfl) (.inr (hI.sl [3, 4, 0, 1, 2, 5, 6, 7, 8] rfl)) rfl fun a hA => ?_
                        refine g_skip (i := 32) hA rfl (wanted_no hA rfl rfl (by simp [vb])) (by kernel_rfl) (.inr (hI.sl [3, 4, 0, 1, 2, 5, 6, 7, 8] rfl)) rfl fun a hA => ?_
                        refine g_skip (i := 34) hA rfl (wanted_no hA rfl rfl (by simp [vb])) (by kernel_rfl) (.inr (hI.sl [3, 4, 0, 1, 2, 5, 6, 7, 8] rfl)) rfl fun a hA => ?_
                        refine g_skip (i := 35) hA rfl (wanted_no hA rfl rfl (by simp [vb])) (by kernel_rfl) (.inr (hI.sl [3, 4, 0, 1, 2, 5, 6, 7, 8] rfl)) rfl fun a hA => ?_
                        refine g_skip (i := 36) hA rfl (wanted_no hA rfl rfl (by simp [vb])) (by kernel_rfl) (.inr (hI.sl [3, 4, 0, 1, 2, 5, 6, 7, 8] rfl)) rfl fun a hA => ?_
                        refine g_skip (i := 37) hA rfl (wanted_no hA rfl rfl (by simp [vb])) (by kernel_rfl) (.inr (hI.sl [3, 4, 0, 1, 2, 5, 6, 7, 8] rfl)) rfl fun a hA => ?_
                        refine g_skip (i := 38) hA rfl (wanted_no hA rfl rfl (by simp [vb])) (by kernel_rfl) (.inr (hI.sl [3, 4, 0, 1, 2, 5, 6, 7, 8] rfl)) rfl fun a hA => ?_
                        refine g_skip (i := 33) hA rfl (wanted_no hA rfl rfl (by simp [vb])) (by kernel_rfl) (.inr (hI.sl [3, 4, 0, 1, 2, 5, 6, 7, 8] rfl)) rfl fun a hA => ?_
                        refine g_skip (i := 39) hA rfl (wanted_no hA rfl rfl (by simp [vb])) (by kernel_rfl) (.inr (hI.sl [3, 4, 0, 1, 2, 5, 6, 7, 8] rfl)) rfl fun a hA => ?_
                        refine g_skip (i := 40) hA rfl (wanted_no hA rfl rfl (by simp [vb])) (by kernel_rfl) (.inr (hI.sl [3, 4, 0, 1, 2, 5, 6, 7, 8] rfl)) rfl fun a hA => ?_
                        refine g_skip (i := 41) hA rfl (wanted_no hA rfl rfl (by simp [vb])) (by kernel_rfl) (.inr (hI.sl [3, 4, 0, 1, 2, 5, 6, 7, 8] rfl)) rfl fun a hA => ?_
                        refine gE 42 hA rfl (.inr (hI.sl [3, 4, 0, 1, 2, 5, 6, 7, 8] rfl)) (fun _ => r_pick_t hA rfl rfl rfl) fun a hA => ?_
                        refine gE 43 hA rfl (.inr (hI.sl [3, 4, 0, 1, 2, 5, 6, 7, 8] rfl)) (fun _ => r_mv hA rfl) fun a hA => ?_
                        refine g_skip (i := 44) hA rfl (wanted_no hA rfl rfl (by simp [vb])) (by kernel_rfl) (.inr (hI.sl [3, 4, 0, 1, 2, 5, 6, 7, 8] rfl)) rfl fun a hA => ?_
                        refine g_skip (i := 47) hA rfl (wanted_no hA rfl rfl (by simp [vb])) (by kernel_rfl) (.inr (hI.sl [3, 4, 0, 1, 2, 5, 6, 7, 8] rfl)) rfl fun a hA => ?_
                        refine g_skip (i := 45) hA rfl (wanted_no hA rfl rfl (by simp [vb])) (by kernel_rfl) (.inr (hI.sl [3, 4, 0, 1, 2, 5, 6, 7, 8] rfl)) rfl fun a hA => ?_
                        refine g_skip (i := 46) hA rfl (wanted_no hA rfl rfl (by simp [vb])) (by kernel_rfl) (.inr (hI.sl [3, 4, 0, 1, 2, 5, 6, 7, 8] rfl)) rfl fun a hA => ?_
                        refine g_skip (i := 48) hA rfl (wanted_no hA rfl rfl (by simp [vb])) (by kernel_rfl) (.inr (hI.sl [3, 4, 0, 1, 2, 5, 6, 7, 8] rfl)) rfl fun a hA => ?_
                        refine gE 49 hA rfl (.inr (hI.sl [3, 4, 0, 1, 2, 5, 6, 7, 8] rfl)) (fun _ => r_pick_t hA rfl rfl rfl) fun a hA => ?_
                        refine gN ?_
                        cases sJ H
                        exact ⟨hA.sub ⟨rfl, rfl, rfl, rfl, rfl, rfl, rfl, rfl, rfl, rfl, rfl, rfl, rfl, trivial⟩, (hI.sl [3, 4, 0, 1, 2, 5, 6, 7, 8] rfl)⟩
                      · have hc230 := hc23; obtain ⟨hc23, H⟩ := dF H hc23
                        refine g_easy (i := 8) hA rfl (wanted_yes hA rfl rfl hc230) (by kernel_rfl) (.inr (hI.sl [3, 4, 0, 1, 2, 5, 6, 7, 8] rfl)) (fun _ => r_mv hA rfl) rfl fun a hA => ?_
                        refine g_easy (i := 10) hA rfl (wanted_yes hA rfl rfl hc230) (by kernel_rfl) (.inr (hI.sl [3, 4, 0, 1, 2, 5, 6, 7, 8] rfl)) (fun _ => r_mv hA rfl) rfl fun a hA => ?_
                        refine g_easy (i := 11) hA rfl (wanted_yes hA rfl rfl hc230) (by kernel_rfl) (.inr (hI.sl [3, 4, 0, 1, 2, 5, 6, 7, 8] rfl)) (fun _ => r_nilc hA rfl) rfl fun a hA => ?_
                        refine g_easy (i := 12) hA rfl (wanted_yes hA rfl rfl hc230) (by kernel_rfl) (.inr (hI.sl [3, 4, 0, 1, 2, 5, 6, 7, 8] rfl)) (fun _ => r_fd (k := 2) Tryd.underlying85 rfl sz76 hA rfl rfl) rfl fun a hA => ?_
                        refine g_mono (I' := fun w => Iv w0 [] μ μ9 [cel g2 [[.int .i64 r16.2.most], [.int .i64 r16.2.op], [vp4], [.map (some gm4)]] 133, row 79 34 vp4 r16.2.l.length cp4, mpI gm4 (ent kv131 vv131 r16.2.lost), cel g3 [[.int .i64 r17.2.Most], [.int .i64 r17.2.Op], [vp5], [vp6]] 85, row 79 34 vp6 r17.2.Gone.length cp5, row 79 34 v5 r5.length cs1, cel g4 [[.int .i64 r4.most], [.int .i64 r4.op], [vp2], [.map (some gm2)]] 133, row 79 34 vp2 r4.l.length cp2, mpI gm2 (ent kv131 vv131 r4.lost)] w) (fun w h => (h.sl [3, 4, 0, 1, 2, 5, 6, 7, 8] rfl)) _ _ _ _ ?_
                        refine g_take (i := 13) hA rfl (wanted_yes hA rfl rfl hc230) (by kernel_rfl) hI (fun w hI => r_ld1 (j := 3) [[.int .i64 r17.2.Most], [.int .i64 r17.2.Op]] [[vp6]] Tryd.underlying76 rfl hI rfl hA rfl rfl) rfl fun a hA => ?_
                        refine gF 9 rfl ?_
                        refine o_yes hA rfl rfl hc230 <| ?_
                        obtain ⟨r20, hr20, H⟩ := bB H
                        refine o_call _ cf31 hA rfl (notes_Log_All.c μ9 _ hI.agr (⟨r16.2.most, r16.2.op, r16.2.l, r16.2.lost⟩ : notesLog) vp4 cp4 gm4 g2 hp13 hp14 hp15 hp16 (hI.handN 3) r20 hr20) rfl fun v17 a w hz33 hA => ?_
                        obtain ⟨_, cs7, rfl, hE7, hi16⟩ := hz33
                        have hI := hI.backN 3 hi16
                        have hI : Iv w0 [] μ μ9 [row 79 34 v17 r20.length cs7, cel g2 [[.int .i64 r16.2.most], [.int .i64 r16.2.op], [vp4], [.map (some gm4)]] 133, row 79 34 vp4 r16.2.l.length cp4, mpI gm4 (ent kv131 vv131 r16.2.lost), cel g3 [[.int .i64 r17.2.Most], [.int .i64 r17.2.Op], [vp5], [vp6]] 85, row 79 34 vp6 r17.2.Gone.length cp5, row 79 34 v5 r5.length cs1, cel g4 [[.int .i64 r4.most], [.int .i64 r4.op], [vp2], [.map (some gm2)]] 133, row 79 34 vp2 r4.l.length cp2, mpI gm2 (ent kv131 vv131 r4.lost)] w := hI
                        refine o_nil <| ⟨(.inr (hI.sl [1, 2, 3, 4, 5, 6, 7, 8, 9] rfl)), ?_⟩
                        refine gF 14 rfl ?_
                        refine o_yes hA rfl rfl hc230 <| ?_
                        obtain ⟨r21, hr21, H⟩ := bB H
                        refine o_callp (u := .bool r21) cf37 hA rfl hI ((by obtain ⟨μ10, hle6, hsv5, hI⟩ := hI.freezeRow 0 rfl; have hS8 : Slc (RNote μ10) 34 μ10 v17 r20 := ⟨_, hE7, hsv5⟩; exact low_plain hle6 (sargassoref_SameNotes.c μ10 _ hI.agr r20 v17 hS8 r17.2.L vp5 (Slc.le hp19 (fun _ _ h => RNote.le hle6 h) hle6) r21 hr21))) rfl fun a w hz34 hI hA => ?_
                        refine o_nil <| ⟨(.inr (hI.sl [1, 2, 3, 4, 5, 6, 7, 8, 9] rfl)), ?_⟩
                        refine g_easy (i := 15) hA rfl (wanted_yes hA rfl rfl hc230) (by kernel_rfl) (.inr (hI.sl [1, 2, 3, 4, 5, 6, 7, 8, 9] rfl)) (fun _ => r_not hA rfl) rfl fun a hA => ?_
                        refine gE 16 hA rfl (.inr (hI.sl [1, 2, 3, 4, 5, 6, 7, 8, 9] rfl)) (fun _ => r_pick_f hA rfl hc230 rfl) fun a hA => ?_
                        refine gE 17 hA rfl (.inr (hI.sl [1, 2, 3, 4, 5, 6, 7, 8, 9] rfl)) (fun _ => r_mv hA rfl) fun a hA => ?_
                        rcases Bool.eq_false_or_eq_true (!r21) with hc24 | hc24
                        · have hc240 := hc24; have hc24 := nT hc24; have hc24 := ft hc24; have H := bF H hc24
                          refine g_skip (i := 18) hA rfl (wanted_no hA rfl rfl (by rw [hc240]; simp [vb])) (by kernel_rfl) (.inr (hI.sl [1, 2, 3, 4, 5, 6, 7, 8, 9] rfl)) rfl fun a hA => ?_
                          refine g_skip (i := 19) hA rfl (wanted_no hA rfl rfl (by rw [hc240]; simp [vb])) (by kernel_rfl) (.inr (hI.sl [1, 2, 3, 4, 5, 6, 7, 8, 9] rfl)) rfl fun a hA => ?_
                          refine g_skip (i := 21) hA rfl (wanted_no hA rfl rfl (by rw [hc240]; simp [vb])) (by kernel_rfl) (.inr (hI.sl [1, 2, 3, 4, 5, 6, 7, 8, 9] rfl)) rfl fun a hA => ?_
                          refine g_skip (i := 22) hA rfl (wanted_no hA rfl rfl (by rw [hc240]; simp [vb])) (by kernel_rfl) (.inr (hI.sl [1, 2, 3, 4, 5, 6, 7, 8, 9] rfl)) rfl fun a hA => ?_
                          refine g_skip (i := 23) hA rfl (wanted_no hA rfl rfl (by rw [hc240]; simp [vb])) (by kernel_rfl) (.inr (hI.sl [1, 2, 3, 4, 5, 6, 7, 8, 9] rfl)) rfl fun a hA => ?_
                          refine g_skip (i := 24) hA rfl (wanted_no hA rfl rfl (by rw [hc240]; simp [vb])) (by kernel_rfl) (.inr (hI.sl [1, 2, 3, 4, 5, 6, 7, 8, 9] rfl)) rfl fun a hA => ?_
                          refine g_skip (i := 25) hA rfl (wanted_no hA rfl rfl (by rw [hc240]; simp [vb])) (by kernel_rfl) (.inr (hI.sl [1, 2, 3, 4, 5, 6, 7, 8, 9] rfl)) rfl fun a hA => ?_
                          refine g_skip (i := 20) hA rfl (wanted_no hA rfl rfl (by rw [hc240]; simp [vb])) (by kernel_rfl) (.inr (hI.sl [1, 2, 3, 4, 5, 6, 7, 8, 9] rfl)) rfl fun a hA => ?_
                          refine g_skip (i := 26) hA rfl (wanted_no hA rfl rfl (by rw [hc240]; simp [vb])) (by kernel_rfl) (.inr (hI.sl [1, 2, 3, 4, 5, 6, 7, 8, 9] rfl)) rfl fun a hA => ?_
                          refine g_skip (i := 27) hA rfl (wanted_no hA rfl rfl (by rw [hc240]; simp [vb])) (by kernel_rfl) (.inr (hI.sl [1, 2, 3, 4, 5, 6, 7, 8, 9] rfl)) rfl fun a hA => ?_
                          refine g_skip (i := 28) hA rfl (wanted_no hA rfl rfl (by rw [hc240]; simp [vb])) (by kernel_rfl) (.inr (hI.sl [1, 2, 3, 4, 5, 6, 7, 8, 9] rfl)) rfl fun a hA => ?_
                          refine gE 29 hA rfl (.inr (hI.sl [1, 2, 3, 4, 5, 6, 7, 8, 9] rfl)) (fun _ => r_pick_t hA rfl hc240 rfl) fun a hA => ?_
                          refine gE 30 hA rfl (.inr (hI.sl [1, 2, 3, 4, 5, 6, 7, 8, 9] rfl)) (fun _ => r_mv hA rfl) fun a hA => ?_
                          refine g_skip (i := 31) hA rfl (wanted_no hA rfl rfl (by simp [vb])) (by kernel_rfl) (.inr (hI.sl [1, 2, 3, 4, 5, 6, 7, 8, 9] rfl)) rfl fun a hA => ?_
                          refine g_skip (i := 32) hA rfl (wanted_no hA rfl rfl (by simp [vb])) (by kernel_rfl) (.inr (hI.sl [1, 2, 3, 4, 5, 6, 7, 8, 9] rfl)) rfl fun a hA => ?_
                          refine g_skip (i := 34) hA rfl (wanted_no hA rfl rfl (by simp [vb])) (by kernel_rfl) (.inr (hI.sl [1, 2, 3, 4, 5, 6, 7, 8, 9] rfl)) rfl fun a hA => ?_
                          refine g_skip (i := 35) hA rfl (wanted_no hA rfl rfl (by simp [vb])) (by kernel_rfl) (.inr (hI.sl [1, 2, 3, 4, 5, 6, 7, 8, 9] rfl)) rfl fun a hA => ?_
                          refine g_skip (i := 36) hA rfl (wanted_no hA rfl rfl (by simp [vb])) (by kernel_rfl) (.inr (hI.sl [1, 2, 3, 4, 5, 6, 7, 8, 9] rfl)) rfl fun a hA => ?_
                          refine g_skip (i := 37) hA rfl (wanted_no hA rfl rfl (by simp [vb])) (by kernel_rfl) (.inr (hI.sl [1, 2, 3, 4, 5, 6, 7, 8, 9] rfl)) rfl fun a hA => ?_
                          refine g_skip (i := 38) hA rfl (wanted_no hA rfl rfl (by simp [vb])) (by kernel_rfl) (.inr (hI.sl [1, 2, 3, 4, 5, 6, 7, 8, 9] rfl)) rfl fun a hA => ?_
                          refine g_skip (i := 33) hA rfl (wanted_no hA rfl rfl (by simp [vb])) (by kernel_rfl) (.inr (hI.sl [1, 2, 3, 4, 5, 6, 7, 8, 9] rfl)) rfl fun a hA => ?_
                          refine g_skip (i := 39) hA rfl (wanted_no hA rfl rfl (by simp [vb])) (by kernel_rfl) (.inr (hI.sl [1, 2, 3, 4, 5, 6, 7, 8, 9] rfl)) rfl fun a hA => ?_
                          refine g_skip (i := 40) hA rfl (wanted_no hA rfl rfl (by simp [vb])) (by kernel_rfl) (.inr (hI.sl [1, 2, 3, 4, 5, 6, 7, 8, 9] rfl)) rfl fun a hA => ?_
                          refine g_skip (i := 41) hA rfl (wanted_no hA rfl rfl (by simp [vb])) (by kernel_rfl) (.inr (hI.sl [1, 2, 3, 4, 5, 6, 7, 8, 9] rfl)) rfl fun a hA => ?_
                          refine gE 42 hA rfl (.inr (hI.sl [1, 2, 3, 4, 5, 6, 7, 8, 9] rfl)) (fun _ => r_pick_t hA rfl rfl rfl) fun a hA => ?_
                          refine gE 43 hA rfl (.inr (hI.sl [1, 2, 3, 4, 5, 6, 7, 8, 9] rfl)) (fun _ => r_mv hA rfl) fun a hA => ?_
                          refine g_skip (i := 44) hA rfl (wanted_no hA rfl rfl (by simp [vb])) (by kernel_rfl) (.inr (hI.sl [1, 2, 3, 4, 5, 6, 7, 8, 9] rfl)) rfl fun a hA => ?_
                          refine g_skip (i := 47) hA rfl (wanted_no hA rfl rfl (by simp [vb])) (by kernel_rfl) (.inr (hI.sl [1, 2, 3, 4, 5, 6, 7, 8, 9] rfl)) rfl fun a hA => ?_
                          refine g_skip (i := 45) hA rfl (wanted_no hA rfl rfl (by simp [vb])) (by kernel_rfl) (.inr (hI.sl [1, 2, 3, 4, 5, 6, 7, 8, 9] rfl)) rfl fun a hA => ?_
                          refine g_skip (i := 46) hA rfl (wanted_no hA rfl rfl (by simp [vb])) (by kernel_rfl) (.inr (hI.sl [1, 2, 3, 4, 5, 6, 7, 8, 9] rfl)) rfl fun a hA => ?_
                          refine g_skip (i := 48) hA rfl (wanted_no hA rfl rfl (by simp [vb])) (by kernel_rfl) (.inr (hI.sl [1, 2, 3, 4, 5, 6, 7, 8, 9] rfl)) rfl fun a hA => ?_
                          refine gE 49 hA rfl (.inr (hI.sl [1, 2, 3, 4, 5, 6, 7, 8, 9] rfl)) (fun _ => r_pick_t hA rfl rfl rfl) fun a hA => ?_
                          refine gN ?_
                          cases sJ H
                          exact ⟨hA.sub ⟨rfl, rfl, rfl, rfl, rfl, rfl, rfl, rfl, rfl, rfl, rfl, rfl, rfl, trivial⟩, (hI.sl [4, 5, 1, 2, 3, 6, 7, 8, 9] rfl)⟩
                        · have hc240 := hc24; have hc24 := nF hc24; have H := bT H hc24
                          refine g_easy (i := 18) hA rfl (wanted_yes hA rfl rfl hc240) (by kernel_rfl) (.inr (hI.sl [1, 2, 3, 4, 5, 6, 7, 8, 9] rfl)) (fun _ => r_mv hA rfl) rfl fun a hA => ?_
                          refine g_easy (i := 19) hA rfl (wanted_yes hA rfl rfl hc240) (by kernel_rfl) (.inr (hI.sl [1, 2, 3, 4, 5, 6, 7, 8, 9] rfl)) (fun _ => r_mv hA rfl) rfl fun a hA => ?_
                          refine g_easy (i := 21) hA rfl (wanted_yes hA rfl rfl hc240) (by kernel_rfl) (.inr (hI.sl [1, 2, 3, 4, 5, 6, 7, 8, 9] rfl)) (fun _ => r_mv hA rfl) rfl fun a hA => ?_
                          refine g_easy (i := 22) hA rfl (wanted_yes hA rfl rfl hc240) (by kernel_rfl) (.inr (hI.sl [1, 2, 3, 4, 5, 6, 7, 8, 9] rfl)) (fun _ => r_nilc hA rfl) rfl fun a hA => ?_
                          refine g_easy (i := 23) hA rfl (wanted_yes hA rfl rfl hc240) (by kernel_rfl) (.inr (hI.sl [1, 2, 3, 4, 5, 6, 7, 8, 9] rfl)) (fun _ => r_fd (k := 2) Tryd.underlying85 rfl sz76 hA rfl rfl) rfl fun a hA => ?_
                          refine g_mono (I' := fun w => Iv w0 [] μ μ9 [row 79 34 v17 r20.length cs7, cel g2 [[.int .i64 r16.2.most], [.int .i64 r16.2.op], [vp4], [.map (some gm4)]] 133, row 79 34 vp4 r16.2.l.length cp4, mpI gm4 (ent kv131 vv131 r16.2.lost), cel g3 [[.int .i64 r17.2.Most], [.int .i64 r17.2.Op], [vp5], [vp6]] 85, row 79 34 vp6 r17.2.Gone.length cp5, row 79 34 v5 r5.length cs1, cel g4 [[.int .i64 r4.most], [.int .i64 r4.op], [vp2], [.map (some gm2)]] 133, row 79 34 vp2 r4.l.length cp2, mpI gm2 (ent kv131 vv131 r4.lost)] w) (fun w h => (h.sl [1, 2, 3, 4, 5, 6, 7, 8, 9] rfl)) _ _ _ _ ?_
                          refine g_take (i := 24) hA rfl (wanted_yes hA rfl rfl hc240) (by kernel_rfl) hI (fun w hI => r_ld1 (j := 4) [[.int .i64 r17.2.Most], [.int .i64 r17.2.Op]] [[vp6]] Tryd.underlying76 rfl hI rfl hA rfl rfl) rfl fun a hA => ?_
                          refine g_easy (i := 25) hA rfl (wanted_yes hA rfl rfl hc240) (by kernel_rfl) (.inr hI) (fun _ => r_mv hA rfl) rfl fun a hA => ?_
                          refine gF 20 rfl ?_
                          refine o_yes hA rfl rfl hc240 <| ?_
                          obtain ⟨r22, hr22, H⟩ := bB H
                          have hI := hI.sl [1, 2, 3, 0, 4, 5, 6, 7, 8, 9] rfl
                          refine o_call _ cf33 hA rfl (notes_Log_Of.c μ9 _ hI.agr (⟨r16.2.most, r16.2.op, r16.2.l, r16.2.lost⟩ : notesLog) vp4 cp4 gm4 g2 hp13 hp14 hp15 hp16 (hI.handN 3) x2 hx2 r22 hr22) rfl fun v18 a w hz35 hA => ?_
                          obtain ⟨_, cs8, rfl, hE8, hi17⟩ := hz35
                          have hI := hI.backN 3 hi17
                          have hI : Iv w0 [] μ μ9 [row 79 34 v18 r22.length cs8, cel g2 [[.int .i64 r16.2.most], [.int .i64 r16.2.op], [vp4], [.map (some gm4)]] 133, row 79 34 vp4 r16.2.l.length cp4, mpI gm4 (ent kv131 vv131 r16.2.lost), row 79 34 v17 r20.length cs7, cel g3 [[.int .i64 r17.2.Most], [.int .i64 r17.2.Op], [vp5], [vp6]] 85, row 79 34 vp6 r17.2.Gone.length cp5, row 79 34 v5 r5.length cs1, cel g4 [[.int .i64 r4.most], [.int .i64 r4.op], [vp2], [.map (some gm2)]] 133, row 79 34 vp2 r4.l.length cp2, mpI gm2 (ent kv131 vv131 r4.lost)] w := hI
                          refine o_nil <| ⟨(.inr (hI.sl [4, 1, 2, 3, 5, 6, 7, 8, 9, 10] rfl)), ?_⟩
                          refine gF 26 rfl ?_
                          refine o_yes hA rfl rfl hc240 <| ?_
                          obtain ⟨r23, hr23, H⟩ := bB H
                          refine o_call _ cf38 hA rfl (sargassoref18_Of.c μ9 _ hI.agr r17.2.L vp5 hp19 x2 hx2 r23 hr23) rfl fun v19 a w hz36 hA => ?_
                          obtain ⟨_, cs9, rfl, hE9, hi18⟩ := hz36
                          have hI := hI.call hi18
                          refine o_nil <| ⟨(.inr (hI.sl [5, 2, 3, 4, 6, 7, 8, 9, 10, 11] rfl)), ?_⟩
                          refine gF 27 rfl ?_
                          refine o_yes hA rfl rfl hc240 <| ?_
                          obtain ⟨r24, hr24, H⟩ := bB H
                          refine o_callp (u := .bool r24) cf37 hA rfl hI ((by obtain ⟨μ11, hle7, hsv6, hI⟩ := hI.freezeRow 1 rfl; have hS9 : Slc (RNote μ11) 34 μ11 v18 r22 := ⟨_, hE8, hsv6⟩; obtain ⟨μ12, hle8, hsv7, hI⟩ := hI.freezeRow 0 rfl; have hS10 : Slc (RNote μ12) 34 μ12 v19 r23 := ⟨_, hE9, hsv7⟩; exact low_plain (hle7.trans hle8) (sargassoref_SameNotes.c μ12 _ hI.agr r22 v18 (Slc.le hS9 (fun _ _ h => RNote.le hle8 h) hle8) r23 v19 hS10 r24 hr24))) rfl fun a w hz37 hI hA => ?_
                          refine o_nil <| ⟨(.inr (hI.sl [5, 2, 3, 4, 6, 7, 8, 9, 10, 11] rfl)), ?_⟩
                          refine g_easy (i := 28) hA rfl (wanted_yes hA rfl rfl hc240) (by kernel_rfl) (.inr (hI.sl [5, 2, 3, 4, 6, 7, 8, 9, 10, 11] rfl)) (fun _ => r_not hA rfl) rfl fun a hA => ?_
                          refine gE 29 hA rfl (.inr (hI.sl [5, 2, 3, 4, 6, 7, 8, 9, 10, 11] rfl)) (fun _ => r_pick_f hA rfl hc240 rfl) fun a hA => ?_
                          refine gE 30 hA rfl (.inr (hI.sl [5, 2, 3, 4, 6, 7, 8, 9, 10, 11] rfl)) (fun _ => r_mv hA rfl) fun a hA => ?_
                          rcases Bool.eq_false_or_eq_true (!r24) with hc25 | hc25
                          · have hc250 := hc25; have hc25 := nT hc25; have hc25 := ft hc25; have H := bF H hc25
                            refine g_skip (i := 31) hA rfl (wanted_no hA rfl rfl (by rw [hc250]; simp [vb])) (by kernel_rfl) (.inr (hI.sl [5, 2, 3, 4, 6, 7, 8, 9, 10, 11] rfl)) rfl fun a hA => ?_
                            refine g_skip (i := 32) hA rfl (wanted_no hA rfl rfl (by rw [hc250]; simp [vb])) (by kernel_rfl) (.inr (hI.sl [5, 2, 3, 4, 6, 7, 8, 9, 10, 11] rfl)) rfl fun a hA => ?_
                            refine g_skip (i := 34) hA rfl (wanted_no hA rfl rfl (by rw [hc250]; simp [vb])) (by kernel_rfl) (.inr (hI.sl [5, 2, 3, 4, 6, 7, 8, 9, 10, 11] rfl)) rfl fun a hA => ?_
                            refine g_skip (i := 35) hA rfl (wanted_no hA rfl rfl (by rw [hc250]; simp [vb])) (by kernel_rfl) (.inr (hI.sl [5, 2, 3, 4, 6, 7, 8, 9, 10, 11] rfl)) rfl fun a hA => ?_
                            refine g_skip (i := 36) hA rfl (wanted_no hA rfl rfl (by rw [hc250]; simp [vb])) (by kernel_rfl) (.inr (hI.sl [5, 2, 3, 4, 6, 7, 8, 9, 10, 11] rfl)) rfl fun a hA => ?_
                            refine g_skip (i := 37) hA rfl (wanted_no hA rfl rfl (by rw [hc250]; simp [vb])) (by kernel_rfl) (.inr (hI.sl [5, 2, 3, 4, 6, 7, 8, 9, 10, 11] rfl)) rfl fun a hA => ?_
                            refine g_skip (i := 38) hA rfl (wanted_no hA rfl rfl (by rw [hc250]; simp [vb])) (by kernel_rfl) (.inr (hI.sl [5, 2, 3, 4, 6, 7, 8, 9, 10, 11] rfl)) rfl fun a hA => ?_
                            refine g_skip (i := 33) hA rfl (wanted_no hA rfl rfl (by rw [hc250]; simp [vb])) (by kernel_rfl) (.inr (hI.sl [5, 2, 3, 4, 6, 7, 8, 9, 10, 11] rfl)) rfl fun a hA => ?_
                            refine g_skip (i := 39) hA rfl (wanted_no hA rfl rfl (by rw [hc250]; simp [vb])) (by kernel_rfl) (.inr (hI.sl [5, 2, 3, 4, 6, 7, 8, 9, 10, 11] rfl)) rfl fun a hA => ?_
                            refine g_skip (i := 40) hA rfl (wanted_no hA rfl rfl (by rw [hc250]; simp [vb])) (by kernel_rfl) (.inr (hI.sl [5, 2, 3, 4, 6, 7, 8, 9, 10, 11] rfl)) rfl fun a hA => ?_
                            refine g_skip (i := 41) hA rfl (wanted_no hA rfl rfl (by rw [hc250]; simp [vb])) (by kernel_rfl) (.inr (hI.sl [5, 2, 3, 4, 6, 7, 8, 9, 10, 11] rfl)) rfl fun a hA => ?_
                            refine gE 42 hA rfl (.inr (hI.sl [5, 2, 3, 4, 6, 7, 8, 9, 10, 11] rfl)) (fun _ => r_pick_t hA rfl hc250 rfl) fun a hA => ?_
                            refine gE 43 hA rfl (.inr (hI.sl [5, 2, 3, 4, 6, 7, 8, 9, 10, 11] rfl)) (fun _ => r_mv hA rfl) fun a hA => ?_
                            refine g_skip (i := 44) hA rfl (wanted_no hA rfl rfl (by simp [vb])) (by kernel_rfl) (.inr (hI.sl [5, 2, 3, 4, 6, 7, 8, 9, 10, 11] rfl)) rfl fun a hA => ?_
                            refine g_skip (i := 47) hA rfl (wanted_no hA rfl rfl (by simp [vb])) (by kernel_rfl) (.inr (hI.sl [5, 2, 3, 4, 6, 7, 8, 9, 10, 11] rfl)) rfl fun a hA => ?_
                            refine g_skip (i := 45) hA rfl (wanted_no hA rfl rfl (by simp [vb])) (by kernel_rfl) (.inr (hI.sl [5, 2, 3, 4, 6, 7, 8, 9, 10, 11] rfl)) rfl fun a hA => ?_
                            refine g_skip (i := 46) hA rfl (wanted_no hA rfl rfl (by simp [vb])) (by kernel_rfl) (.inr (hI.sl [5, 2, 3, 4, 6, 7, 8, 9, 10, 11] rfl)) rfl fun a hA => ?_
                            refine g_skip (i := 48) hA rfl (wanted_no hA rfl rfl (by simp [vb])) (by kernel_rfl) (.inr (hI.sl [5, 2, 3, 4, 6, 7, 8, 9, 10, 11] rfl)) rfl fun a hA => ?_
                            refine gE 49 hA rfl (.inr (hI.sl [5, 2, 3, 4, 6, 7, 8, 9, 10, 11] rfl)) (fun _ => r_pick_t hA rfl rfl rfl) fun a hA => ?_
                            refine gN ?_
                            cases sJ H
                            exact ⟨hA.sub ⟨rfl, rfl, rfl, rfl, rfl, rfl, rfl, rfl, rfl, rfl, rfl, rfl, rfl, trivial⟩, (hI.sl [6, 7, 2, 3, 4, 8, 9, 10, 11] rfl)⟩
                          · have hc250 := hc25; have hc25 := nF hc25; have H := bT H hc25
                            refine g_easy (i := 31) hA rfl (wanted_yes hA rfl rfl hc250) (by kernel_rfl) (.inr (hI.sl [5, 2, 3, 4, 6, 7, 8, 9, 10, 11] rfl)) (fun _ => r_mv hA rfl) rfl fun a hA => ?_
                            refine g_easy (i := 32) hA rfl (wanted_yes hA rfl rfl hc250) (by kernel_rfl) (.inr (hI.sl [5, 2, 3, 4, 6, 7, 8, 9, 10, 11] rfl)) (fun _ => r_mv hA rfl) rfl fun a hA => ?_
                            refine g_easy (i := 34) hA rfl (wanted_yes hA rfl rfl hc250) (by kernel_rfl) (.inr (hI.sl [5, 2, 3, 4, 6, 7, 8, 9, 10, 11] rfl)) (fun _ => r_mv hA rfl) rfl fun a hA => ?_
                            refine g_easy (i := 35) hA rfl (wanted_yes hA rfl rfl hc250) (by kernel_rfl) (.inr (hI.sl [5, 2, 3, 4, 6, 7, 8, 9, 10, 11] rfl)) (fun _ => r_nilc hA rfl) rfl fun a hA => ?_
                            refine g_easy (i := 36) hA rfl (wanted_yes hA rfl rfl hc250) (by kernel_rfl) (.inr (hI.sl [5, 2, 3, 4, 6, 7, 8, 9, 10, 11] rfl)) (fun _ => r_fd (k := 3) Tryd.underlying85 rfl sz76 hA rfl rfl) rfl fun a hA => ?_
                            refine g_mono (I' := fun w => Iv w0 [] μ μ9 [row 79 34 v19 r23.length cs9, row 79 34 v18 r22.length cs8, cel g2 [[.int .i64 r16.2.most], [.int .i64 r16.2.op], [vp4], [.map (some gm4)]] 133, row 79 34 vp4 r16.2.l.length cp4, mpI gm4 (ent kv131 vv131 r16.2.lost), row 79 34 v17 r20.length cs7, cel g3 [[.int .i64 r17.2.Most], [.int .i64 r17.2.Op], [vp5], [vp6]] 85, row 79 34 vp6 r17.2.Gone.length cp5, row 79 34 v5 r5.length cs1, cel g4 [[.int .i64 r4.most], [.int .i64 r4.op], [vp2], [.map (some gm2)]] 133, row 79 34 vp2 r4.l.length cp2, mpI gm2 (ent kv131 vv131 r4.lost)] w) (fun w h => (h.sl [5, 2, 3, 4, 6, 7, 8, 9, 10, 11] rfl)) _ _ _ _ ?_
                            refine g_take (i := 37) hA rfl (wanted_yes hA rfl rfl hc250) (by kernel_rfl) hI (fun w hI => r_ld1 (j := 6) [[.int .i64 r17.2.Most], [.int .i64 r17.2.Op], [vp5]] [] Tryd.underlying76 rfl hI rfl hA rfl rfl) rfl fun a hA => ?_
                            refine g_easy (i := 38) hA rfl (wanted_yes hA rfl rfl hc250) (by kernel_rfl) (.inr hI) (fun _ => r_mv hA rfl) rfl fun a hA => ?_
                            refine gF 33 rfl ?_
                            refine o_yes hA rfl rfl hc250 <| ?_
                            obtain ⟨r25, hr25, H⟩ := bB H
                            have hI := hI.sl [2, 3, 4, 0, 1, 5, 6, 7, 8, 9, 10, 11] rfl
                            refine o_call _ cf34 hA rfl (notes_Log_Lost.c μ9 _ hI.agr (⟨r16.2.most, r16.2.op, r16.2.l, r16.2.lost⟩ : notesLog) vp4 cp4 gm4 g2 hp13 hp14 hp15 hp16 (hI.handN 3) x2 hx2 r25 hr25) rfl fun v20 a w hz38 hA => ?_
                            obtain ⟨rfl, hw7, hi19⟩ := hz38
                            have hI := hI.back3 hi19
                            refine o_nil <| ⟨(.inr (hI.sl [3, 4, 0, 1, 2, 5, 6, 7, 8, 9, 10, 11] rfl)), ?_⟩
                            refine gF 39 rfl ?_
                            refine o_yes hA rfl rfl hc250 <| ?_
                            obtain ⟨r26, hr26, H⟩ := bB H
                            refine o_callW (fun w v w' => ∃ (v0 : Value) (c0 : List Value), v = v0 ∧ Els (RNote μ9) 34 r26 c0 ∧ Iv w [] μ9 μ9 [row 79 34 v0 r26.length c0] w') cf38 hA rfl ((by obtain ⟨μ13, hle9, hsv8, hI⟩ := hI.freezeRow 7 rfl; have hS11 : Slc (RNote μ13) 34 μ13 vp6 r17.2.Gone := ⟨_, hp20, hsv8⟩; exact (sargassoref18_Of.c μ13 _ hI.agr r17.2.Gone vp6 hS11 x2 hx2 r26 hr26).mono fun _ _ ⟨v, he, b0, b1, hv, f0, hi⟩ => ⟨v, he, b0, b1, hv, f0, hi.low hle9⟩)) rfl fun v21 a w hz39 hA => ?_
                            obtain ⟨_, cs10, rfl, hE10, hi20⟩ := hz39
                            have hI := hI.call hi20
                            refine o_nil <| ⟨(.inr (hI.sl [4, 5, 1, 2, 3, 6, 7, 8, 9, 10, 11, 12] rfl)), ?_⟩
                            refine g_mono (I' := fun w => Iv w0 [] μ μ9 [row 79 34 v21 r26.length cs10, cel g2 [[.int .i64 r16.2.most], [.int .i64 r16.2.op], [vp4], [.map (some gm4)]] 133, row 79 34 vp4 r16.2.l.length cp4, mpI gm4 (ent kv131 vv131 r16.2.lost), row 79 34 v19 r23.length cs9, row 79 34 v18 r22.length cs8, row 79 34 v17 r20.length cs7, cel g3 [[.int .i64 r17.2.Most], [.int .i64 r17.2.Op], [vp5], [vp6]] 85, row 79 34 vp6 r17.2.Gone.length cp5, row 79 34 v5 r5.length cs1, cel g4 [[.int .i64 r4.most], [.int .i64 r4.op], [vp2], [.map (some gm2)]] 133, row 79 34 vp2 r4.l.length cp2, mpI gm2 (ent kv131 vv131 r4.lost)] w) (fun w h => (h.sl [4, 5, 1, 2, 3, 6, 7, 8, 9, 10, 11, 12] rfl)) _ _ _ _ ?_
                            refine g_take (i := 40) hA rfl (wanted_yes hA rfl rfl hc250) (by kernel_rfl) hI (fun w hI => r_rlen (xs := 0) Tryd.underlying76 hI (j := 0) rfl hA rfl) rfl fun a hA => ?_
                            refine g_easy (i := 41) hA rfl (wanted_yes hA rfl rfl hc250) (by kernel_rfl) (.inr hI) (fun _ => r_neq hA rfl rfl) rfl fun a hA => ?_
                            refine gE 42 hA rfl (.inr hI) (fun _ => r_pick_f hA rfl hc250 rfl) fun a hA => ?_
                            refine gE 43 hA rfl (.inr hI) (fun _ => r_mv hA rfl) fun a hA => ?_
                            rcases Bool.eq_false_or_eq_true (decide (r25 ≠ (r26.length : Int))) with hc26 | hc26
                            · have hc260 := hc26; obtain ⟨hc26, H⟩ := dT H hc26
                              refine g_skip (i := 44) hA rfl (wanted_no hA rfl rfl (by rw [hc260]; simp [vb])) (by kernel_rfl) (.inr hI) rfl fun a hA => ?_
                              refine g_skip (i := 47) hA rfl (wanted_no hA rfl rfl (by rw [hc260]; simp [vb])) (by kernel_rfl) (.inr hI) rfl fun a hA => ?_
                              refine g_skip (i := 45) hA rfl (wanted_no hA rfl rfl (by rw [hc260]; simp [vb])) (by kernel_rfl) (.inr hI) rfl fun a hA => ?_
                              refine g_skip (i := 46) hA rfl (wanted_no hA rfl rfl (by rw [hc260]; simp [vb])) (by kernel_rfl) (.inr hI) rfl fun a hA => ?_
                              refine g_skip (i := 48) hA rfl (wanted_no hA rfl rfl (by rw [hc260]; simp [vb])) (by kernel_rfl) (.inr hI) rfl fun a hA => ?_
                              refine gE 49 hA rfl (.inr hI) (fun _ => r_pick_t hA rfl hc260 rfl) fun a hA => ?_
                              refine gN ?_
                              cases sJ H
                              exact ⟨hA.sub ⟨rfl, rfl, rfl, rfl, rfl, rfl, rfl, rfl, rfl, rfl, rfl, rfl, rfl, trivial⟩, (hI.sl [7, 8, 1, 2, 3, 9, 10, 11, 12] rfl)⟩
                            · have hc260 := hc26; obtain ⟨hc26, H⟩ := dF H hc26
                              refine g_easy (i := 44) hA rfl (wanted_yes hA rfl rfl hc260) (by kernel_rfl) (.inr hI) (fun _ => r_mv hA rfl) rfl fun a hA => ?_
                              refine g_easy (i := 47) hA rfl (wanted_yes hA rfl rfl hc260) (by kernel_rfl) (.inr hI) (fun _ => r_mv hA rfl) rfl fun a hA => ?_
                              refine gF 45 rfl ?_
                              refine o_yes hA rfl rfl hc260 <| ?_
                              obtain ⟨r27, hr27, H⟩ := bB H
                              have hI := hI.sl [10, 11, 12, 0, 1, 2, 3, 4, 5, 6, 7, 8, 9] rfl
                              refine o_call _ cf31 hA rfl (notes_Log_All.c μ9 _ hI.agr (⟨r4.most, r4.op, r4.l, r4.lost⟩ : notesLog) vp2 cp2 gm2 g4 hp5 hp6 hp7 hp8 (hI.handN 3) r27 hr27) rfl fun v22 a w hz40 hA => ?_
                              obtain ⟨_, cs11, rfl, hE11, hi21⟩ := hz40
                              have hI := hI.backN 3 hi21
                              have hI : Iv w0 [] μ μ9 [row 79 34 v22 r27.length cs11, cel g4 [[.int .i64 r4.most], [.int .i64 r4.op], [vp2], [.map (some gm2)]] 133, row 79 34 vp2 r4.l.length cp2, mpI gm2 (ent kv131 vv131 r4.lost), row 79 34 v21 r26.length cs10, cel g2 [[.int .i64 r16.2.most], [.int .i64 r16.2.op], [vp4], [.map (some gm4)]] 133, row 79 34 vp4 r16.2.l.length cp4, mpI gm4 (ent kv131 vv131 r16.2.lost), row 79 34 v19 r23.length cs9, row 79 34 v18 r22.length cs8, row 79 34 v17 r20.length cs7, cel g3 [[.int .i64 r17.2.Most], [.int .i64 r17.2.Op], [vp5], [vp6]] 85, row 79 34 vp6 r17.2.Gone.length cp5, row 79 34 v5 r5.length cs1] w := hI
                              refine o_nil <| ⟨(.inr (hI.sl [4, 5, 6, 7, 8, 9, 10, 11, 12, 13, 1, 2, 3] rfl)), ?_⟩
                              refine g_mono (I' := fun w => Iv w0 [] μ μ9 [row 79 34 v22 r27.length cs11, cel g4 [[.int .i64 r4.most], [.int .i64 r4.op], [vp2], [.map (some gm2)]] 133, row 79 34 vp2 r4.l.length cp2, mpI gm2 (ent kv131 vv131 r4.lost), row 79 34 v21 r26.length cs10, cel g2 [[.int .i64 r16.2.most], [.int .i64 r16.2.op], [vp4], [.map (some gm4)]] 133, row 79 34 vp4 r16.2.l.length cp4, mpI gm4 (ent kv131 vv131 r16.2.lost), row 79 34 v19 r23.length cs9, row 79 34 v18 r22.length cs8, row 79 34 v17 r20.length cs7, cel g3 [[.int .i64 r17.2.Most], [.int .i64 r17.2.Op], [vp5], [vp6]] 85, row 79 34 vp6 r17.2.Gone.length cp5, row 79 34 v5 r5.length cs1] w) (fun w h => (h.sl [4, 5, 6, 7, 8, 9, 10, 11, 12, 13, 1, 2, 3] rfl)) _ _ _ _ ?_
                              refine g_take (i := 46) hA rfl (wanted_yes hA rfl rfl hc260) (by kernel_rfl) hI (fun w hI => r_rlen (xs := 0) Tryd.underlying76 hI (j := 0) rfl hA rfl) rfl fun a hA => ?_
                              refine g_easy (i := 48) hA rfl (wanted_yes hA rfl rfl hc260) (by kernel_rfl) (.inr hI) (fun _ => r_neq hA rfl rfl) rfl fun a hA => ?_
                              refine gE 49 hA rfl (.inr hI) (fun _ => r_pick_f hA rfl hc260 rfl) fun a hA => ?_
                              refine gN ?_
                              cases sJ H
                              exact ⟨hA.sub ⟨rfl, rfl, rfl, rfl, rfl, rfl, rfl, rfl, rfl, rfl, rfl, rfl, rfl, trivial⟩, (hI.sl [11, 12, 5, 6, 7, 13, 1, 2, 3] rfl)⟩
                    · rintro a w ⟨hA, hI⟩
                      have H := Hk12
                      refine w_cond hA rfl (fun hc27 => ?_) (fun hc27 => ?_)
                      · have H := bT H hc27
                        refine w_seq fun _ hN35 => w_reg <| sta hA rfl rfl fun a hA => ?_
                        refine o_nil <| hN35 _ _ <| w_ret ?_
                        have H : some false = some z2 := H
                        obtain rfl := sI H
                        have H := Hk10
                        obtain rfl := sJ H
                        exact ret1 hA Tryd.results6 rfl ⟨_, rfl, rfl, trivial, hI.forget0⟩
                      · have hc27 := ft hc27; have H := bF H hc27
                        refine w_skip <| hN24 _ _ <| w_reg <| stm hA rfl rfl fun a hA => 
                          stp hA (r_add hA rfl rfl) rfl fun a hA => 
                          sta hA rfl rfl fun a hA => ?_
                        refine o_nil <| ⟨m2, Nat.lt_succ_self _, IntKind.i64.wrap (s1 + 1), r17.2.Most, r17.2.Op, r17.2.L, r17.2.Gone, r16.2.most, r16.2.op, r16.2.l, r16.2.lost, μ9, vp5, vp6, cp5, vp4, cp4, gm4, H, ((hle1.trans hi13.le).trans hi14.le), (wrap_in _ _), hp17, hp18, hp19, hp20, hp13, hp14, hp15, hp16, hA.sub ⟨rfl, rfl, rfl, rfl, rfl, rfl, rfl, trivial⟩, (hI.sl [1, 0, 2, 3, 4] rfl)⟩
              · obtain ⟨hc14, H⟩ := dF H hc14
                refine w_exit rfl <| hN20 _ _ <| w_seq fun _ hN36 => w_reg <| stm hA rfl rfl fun a hA => 
                  sta hA rfl rfl fun a hA => ?_
                refine o_nil <| hN36 _ _ <| w_ret ?_
                have H : some r1 = some z2 := H
                obtain rfl := sI H
                have H := Hk10
                obtain rfl := sJ H
                exact ret1 hA Tryd.results6 rfl ⟨_, rfl, rfl, trivial, hI.forget0⟩
end Go.Proofs.YtcpdnoochieecaaDoor.T
namespace Go.Proofs.YtcpdnoochieecaaDoor.T
open Go Go.Proofs Go.Proofs.YtcpdnoochieecaaDoor.K
set_option linter.unusedVariables false
theorem w64 {x : Int} (h0 : -9223372036854775808 ≤ x) (h1 : x < 9223372036854775808) : IntKind.i64.wrap x = x := wrap_id ⟨h0, h1⟩
end Go.Proofs.YtcpdnoochieecaaDoor.T
namespace Go.Proofs.YtcpdnoochieecaaDoor.T
open Go Go.Proofs Go.Proofs.YtcpdnoochieecaaDoor.K
set_option linter.unusedVariables false
set_option linter.unusedSimpArgs false
theorem loop_idx {τ ρ : Type} {step : τ → Option (τ ⊕ ρ)} (st : Nat → τ) (n : Nat) (h : ∀ i, i < n → step (st i) = some (.inl (st (i + 1)))) : loopO step (st 0) = loopO step (st n) := by
  induction n with
  | zero => rfl
  | succ n ih => rw [ih (fun i hi => h i (by omega)), loopO_inl (h n (by omega))]
theorem loop_run {τ ρ : Type} {step : τ → Option (τ ⊕ ρ)} (st : Nat → τ) (n : Nat) {r : ρ} {s : τ} (h0 : s = st 0) (h : ∀ i, i < n → step (st i) = some (.inl (st (i + 1)))) (hn : step (st n) = some (.inr r)) : loopO step s = some r := by
  rw [h0, loop_idx st n h, loopO_inr hn]
end Go.Proofs.YtcpdnoochieecaaDoor.T
namespace Go.Proofs.YtcpdnoochieecaaDoor.T
open Go Go.Proofs Go.Proofs.YtcpdnoochieecaaDoor.K
set_option linter.unusedVariables false
set_option linter.unusedSimpArgs false
theorem winc (i : Nat) (hi : i < 9223372036854775807) : IntKind.i64.wrap ((i : Int) + 1) = ((i + 1 : Nat) : Int) := by
  rw [w64 (by omega) (by omega)]; omega
theorem take_next {α : Type} (xs : List α) (i : Nat) (d : α) (h : i < xs.length) : xs.take i ++ [xs.getD i d] = xs.take (i + 1) := by
  rw [List.take_add_one]
  simp [List.getD, h]
theorem copy_run {α : Type} {step : (List α × Int) → Option ((List α × Int) ⊕ List α)} (xs : List α) (d : α) (h : xs.length < 9223372036854775807)
    (hs : ∀ i, i < xs.length → step (xs.take i, (i : Int)) = some (.inl (xs.take i ++ [xs.getD i d], IntKind.i64.wrap ((i : Int) + 1)))) (hn : step (xs, (xs.length : Int)) = some (.inr xs)) : loopO step ([], 0) = some xs :=
  loop_run (fun i => (xs.take i, (i : Int))) xs.length rfl (fun i hi => by
    rw [hs i hi, take_next _ _ _ hi, winc i (by omega)]) (by simpa using hn)
theorem all_run {step : Int → Option (Int ⊕ Bool)} (n : Nat) (p : Nat → Prop) [DecidablePred p] (hn : n < 9223372036854775807)
    (hs : ∀ i, i < n → step (i : Int) = if p i then some (.inl (IntKind.i64.wrap ((i : Int) + 1))) else some (.inr false)) (he : step (n : Int) = some (.inr true)) : loopO step 0 = some (decide (∀ i, i < n → p i)) := by
  have key : ∀ m k, m + k = n → (∀ i, i < k → p i) → loopO step (k : Int) = some (decide (∀ i, i < n → p i)) := by
    intro m
    induction m with
    | zero =>
      intro k e h
      obtain rfl : k = n := by omega
      rw [loopO_inr he]
      congr 1
      exact (decide_eq_true h).symm
    | succ m ih =>
      intro k e h
      have h1 := hs k (by omega)
      by_cases hp : p k
      · rw [if_pos hp, winc k (by omega)] at h1
        rw [loopO_inl h1]
        refine ih (k + 1) (by omega) fun i hi => ?_
        rcases Nat.lt_or_ge i k with h2 | h2
        · exact h i h2
        · obtain rfl : i = k := by omega
          exact hp
      · rw [if_neg hp] at h1
        rw [loopO_inr h1]
        have : ¬ ∀ i, i < n → p i := fun h2 => hp (h2 k (by omega))
        simp [this]
  exact key n 0 (by omega) (by simp)
theorem ext_iff {α : Type} (xs ys : List α) (d : α) (h : xs.length = ys.length) : (∀ i, i < xs.length → xs.getD i d = ys.getD i d) ↔ xs = ys := by
  constructor
  · intro hh
    apply List.ext_getElem h
    intro i h1 h2
    have := hh i h1
    simpa [List.getD, h1, h2] using this
  · rintro rfl i _
    rfl
theorem samehash_eq (a b : List Int) (ha : a.length = 32) (hb : b.length = 32) : sargassoref_SameHash.f a b = some (decide (a = b)) := by
  unfold sargassoref_SameHash.f
  rw [all_run 32 (fun i => a.getD i 0 = b.getD i 0) (by omega) (fun i hi => by
    simp only [sargassoref_SameHash.s0, Int.toNat_natCast]
    rw [if_pos (by omega), if_pos (by omega)]
    by_cases h : a.getD i 0 = b.getD i 0
    · rw [if_neg (by simpa using h), if_pos h]
    · rw [if_pos h, if_neg h]) (by simp [sargassoref_SameHash.s0])]
  congr 2
  apply propext
  have := ext_iff a b 0 (by rw [ha, hb])
  rw [ha] at this
  exact this
end Go.Proofs.YtcpdnoochieecaaDoor.T
namespace Go.Proofs.YtcpdnoochieecaaDoor.T
open Go Go.Proofs Go.Proofs.YtcpdnoochieecaaDoor.K
set_option linter.unusedVariables false
set_option linter.unusedSimpArgs false
def sl : List Er := [xErrEnd, xErrShape, xErrLong, xErrMany, xErrValue, xErrTwice, xErrBase, xErrRoot, xErrKnown, xErrParent, xErrInvalid, xErrTime, xErrMissing, xErrKey, xErrYoung, xErrEarly, xErrLess, xErrReward, xErrClash, xErrLimit, xErrFull, xErrRange, xErrNone, xErrWord, xErrNumber]
theorem sl_plain : ∀ e ∈ sl, e ≠ .b 0 ∧ e.isP = false := by decide
theorem alike_eq {e f : Er} (he : e ≠ .b 0) (hf : f ≠ .b 0) (hp : e.isP = false) : sargassosee_Alike.f e f = some (decide (e = f)) := by
  simp only [sargassosee_Alike.f]
  rw [if_neg he, Option.bind_some, if_neg (by simpa using hf), if_pos]
  cases e with
  | pl _ _ => cases hp
  | b n =>
    cases f with
    | pl _ _ => cases n <;> rfl
    | b m =>
      cases n with
      | zero => exact absurd rfl he
      | succ n => rfl
theorem gd {α : Type} (l : List α) (d : α) {i : Nat} (h : i < l.length) : l.getD i d = l[i] := by simp [List.getD, h]
theorem sl_ne : ∀ i, i < 25 → ∀ j, j < 25 → i ≠ j → sl.getD i (.b 0) ≠ sl.getD j (.b 0) := by decide +kernel
theorem sentinel_at (k : Nat) (hk : k < 25) : sargassosee_sentinel.f (sl.getD k (.b 0)) = some (101 + (k : Int)) := by
  have hl : sl.length = 25 := rfl
  have hmem : ∀ i, i < 25 → sl.getD i (.b 0) ∈ sl := fun i hi => by
    have e := gd sl (.b 0) (i := i) (by omega)
    rw [e]; exact List.getElem_mem _
  have h0 : sargassosee_sentinels.f = some sl := rfl
  unfold sargassosee_sentinel.f
  rw [h0, Option.bind_some]
  have hs : ∀ i : Nat, i < 25 → sargassosee_sentinel.s0 (sl.getD k (.b 0)) sl (i : Int) = if k = i then some (.inr (IntKind.i64.wrap (101 + (i : Int)))) else some (.inl (IntKind.i64.wrap ((i : Int) + 1))) := fun i hi => by
    simp only [sargassosee_sentinel.s0]
    rw [if_pos (by omega), if_pos (by omega), Int.toNat_natCast, alike_eq (sl_plain _ (hmem k hk)).1 (sl_plain _ (hmem i hi)).1 (sl_plain _ (hmem k hk)).2, Option.bind_some]
    by_cases h : k = i
    · subst h; rw [if_pos (by simp), if_pos rfl]
    · rw [if_neg (by simpa using sl_ne k hk i hi h), if_neg h]
  have key := loop_idx (step := sargassosee_sentinel.s0 (sl.getD k (.b 0)) sl) (fun i => (i : Int)) k (fun i hi => by rw [hs i (by omega), if_neg (by omega), winc i (by omega)])
  have e0 : ((0 : Nat) : Int) = 0 := rfl
  simp only [e0] at key
  have h1 := hs k hk
  rw [if_pos rfl] at h1
  rw [key, loopO_inr h1, w64 (by omega) (by omega)]
theorem samefault_bare (a b : Int) : sargassoref_SameFault.f ⟨a, false, 0, false, 0⟩ ⟨b, false, 0, false, 0⟩ = some (decide (a = b)) := by
  simp only [sargassoref_SameFault.f]
  by_cases h : a = b
  · simp [h]
  · simp [h]
theorem is_nil (c : Int) : sargassosee_Is.f (.b 0) c = some (decide (0 = c)) := by
  simp only [sargassosee_Is.f, sargassosee_Same.f, sargassosee_Fault.f, sargassoref_Bare.f, sargassoref_None.f, Option.bind_some, if_true]
  rw [samefault_bare, Option.bind_some]; rfl
theorem fault_at (k : Nat) (hk : k < 25) : sargassosee_Fault.f (sl.getD k (.b 0)) = some ⟨101 + (k : Int), false, 0, false, 0⟩ := by
  have hm : sl.getD k (.b 0) ∈ sl := by
    have hl : sl.length = 25 := rfl
    have e := gd sl (.b 0) (i := k) (by omega)
    rw [e]; exact List.getElem_mem _
  obtain ⟨h1, h2⟩ := sl_plain _ hm
  simp only [sargassosee_Fault.f]
  rw [if_neg h1, if_neg (by rw [h2]; decide), sentinel_at k hk]
  rfl
theorem is_at (k : Nat) (hk : k < 25) (c : Int) : sargassosee_Is.f (sl.getD k (.b 0)) c = some (decide (101 + (k : Int) = c)) := by
  simp only [sargassosee_Is.f, sargassosee_Same.f, sargassoref_Bare.f, Option.bind_some]
  rw [fault_at k hk, Option.bind_some, samefault_bare, Option.bind_some, Option.bind_some]
theorem is_range (c : Int) : sargassosee_Is.f xErrRange c = some (decide (122 = c)) := is_at 21 (by decide) c
end Go.Proofs.YtcpdnoochieecaaDoor.T
namespace Go.Proofs.YtcpdnoochieecaaDoor.T
open Go Go.Proofs Go.Proofs.YtcpdnoochieecaaDoor.K
set_option linter.unusedVariables false
set_option linter.unusedSimpArgs false
theorem nt_ends {τ ρ : Type} {step : τ → Option (τ ⊕ ρ)} (I : Nat → τ → Prop) (Post : ρ → Prop) (n : Nat) {s : τ} (h0 : I 0 s) (h : ∀ i, i < n → ∀ s, I i s → (∃ s', step s = some (.inl s') ∧ I (i + 1) s') ∨ ∃ r, step s = some (.inr r) ∧ Post r) (hn : ∀ s, I n s → ∃ r, step s = some (.inr r) ∧ Post r) : ∃ r, loopO step s = some r ∧ Post r := by
  have key : ∀ m k s, k + m = n → I k s → ∃ r, loopO step s = some r ∧ Post r := by
    intro m
    induction m with
    | zero =>
      intro k s e hI
      obtain ⟨r, h1, h2⟩ := hn s (by rw [← e]; exact hI)
      exact ⟨r, loopO_inr h1, h2⟩
    | succ m ih =>
      intro k s e hI
      rcases h k (by omega) s hI with ⟨s', h1, h2⟩ | ⟨r, h1, h2⟩
      · rw [loopO_inl h1]
        exact ih (k + 1) s' (by omega) h2
      · exact ⟨r, loopO_inr h1, h2⟩
  exact key n 0 s (by omega) h0
theorem nt_getD_mem {α : Type} {l : List α} {d : α} {i : Nat} (h : i < l.length) : l.getD i d ∈ l := by simp [List.getD, h]
theorem mget_mput {K V : Type} [DecidableEq K] (l : List (K × V)) (k k' : K) (v : V) : mget (mput l k v) k' = if k = k' then some v else mget l k' := by
  induction l with
  | nil => rfl
  | cons p l ih =>
    simp only [mput]
    by_cases h : p.1 = k
    · rw [if_pos h]
      simp only [mget]
      by_cases h2 : k = k'
      · rw [if_pos h2, if_pos h2]
      · rw [if_neg h2, if_neg h2, if_neg (fun e => h2 (h.symm.trans e))]
    · rw [if_neg h]
      simp only [mget]
      by_cases h2 : p.1 = k'
      · rw [if_pos h2, if_pos h2, if_neg (fun e => h (h2.trans e.symm))]
      · rw [if_neg h2, if_neg h2, ih]
def ofO (l : List Note) (o : Int) : List Note := l.filter fun n => decide (n.Op = o)
def cnt (l : List Note) (o : Int) : Int := ((ofO l o).length : Int)
theorem ofO_app (l l' : List Note) (o : Int) : ofO (l ++ l') o = ofO l o ++ ofO l' o := List.filter_append ..
theorem ofO_one (n : Note) (o : Int) : ofO [n] o = if n.Op = o then [n] else [] := by
  by_cases h : n.Op = o
  · simp [ofO, h]
  · simp [ofO, h]
theorem cnt_next (l : List Note) (n : Note) (o : Int) : cnt (l ++ [n]) o = cnt l o + if n.Op = o then 1 else 0 := by
  unfold cnt
  rw [ofO_app, ofO_one]
  by_cases h : n.Op = o
  · rw [if_pos h, if_pos h]; simp
  · rw [if_neg h, if_neg h]; simp
theorem cnt_le (l : List Note) (o : Int) : cnt l o ≤ (l.length : Int) := by
  have := List.length_filter_le (fun n : Note => decide (n.Op = o)) l
  simp only [cnt, ofO]
  omega
theorem cnt_nn (l : List Note) (o : Int) : 0 ≤ cnt l o := by simp [cnt]
structure St (most op : Int) (H : List Note) (x : notesLog) : Prop where
  m : x.most = most
  o : x.op = op
  l : x.l = H.drop (H.length - most.toNat)
  g : ∀ o, (mget x.lost o).getD 0 = cnt (H.take (H.length - most.toNat)) o
theorem st_new (most : Int) (h0 : 1 ≤ most) (h1 : most ≤ 65536) : notes_New.f most = some (some ⟨most, 0, [], []⟩, .b 0) ∧ St most 0 [] ⟨most, 0, [], []⟩ := by
  constructor
  · simp only [notes_New.f]
    rw [if_neg (by omega), Option.bind_some, if_neg (by simp only [decide_eq_true_eq]; omega)]
  · exact ⟨rfl, rfl, by simp, fun o => by simp [mget, cnt, ofO]⟩
theorem st_new_bad (most : Int) (h : most < 1 ∨ 65536 < most) : notes_New.f most = some (none, xErrRange) := by
  simp only [notes_New.f]
  by_cases h0 : most < 1
  · rw [if_pos h0, Option.bind_some, if_pos rfl]
  · rw [if_neg h0, Option.bind_some, if_pos (decide_eq_true (by omega))]
theorem drop_tail (H : List Note) (n : Note) (m : Nat) (hm : 0 < m) (l1 : List Note) (hl : l1 = H.drop (H.length - m) ++ [n]) :
    (m < l1.length → l1.drop 1 = (H ++ [n]).drop ((H ++ [n]).length - m) ∧ (H ++ [n]).take ((H ++ [n]).length - m) = H.take (H.length - m) ++ [l1.getD 0 default]) ∧
    (¬ m < l1.length → l1 = (H ++ [n]).drop ((H ++ [n]).length - m) ∧ (H ++ [n]).take ((H ++ [n]).length - m) = H.take (H.length - m)) := by
  subst hl
  have hlen : (H.drop (H.length - m) ++ [n]).length = min H.length m + 1 := by simp; omega
  have happ : H.drop (H.length - m) ++ [n] = (H ++ [n]).drop (H.length - m) := by rw [List.drop_append_of_le_length (by omega)]
  constructor
  · intro h
    have hHm : m ≤ H.length := by omega
    have e1 : (H ++ [n]).length - m = (H.length - m) + 1 := by simp; omega
    rw [e1]
    refine ⟨by rw [happ, List.drop_drop], ?_⟩
    have hlt : H.length - m < H.length := by omega
    have := take_next (H ++ [n]) (H.length - m) default (by simp; omega)
    rw [← this, List.take_append_of_le_length (by omega)]
    congr 2
    rw [happ]
    simp [List.getD]
  · intro h
    have e1 : (H ++ [n]).length - m = H.length - m := by
      have : H.length < m := by omega
      simp; omega
    rw [e1]
    exact ⟨happ, by rw [List.take_append_of_le_length (by omega)]⟩
theorem nadd_eq {most op : Int} {H : List Note} {x : notesLog} (s : St most op H x) (h0 : 1 ≤ most) (h1 : most ≤ 65536) (hH : H.length ≤ 100000) (h : List Int) (r : Int) (r1 : 1 ≤ r) (r9 : r ≤ 9) :
    ∃ x', notes_Log_Add.f x h r = some (.b 0, x') ∧ St most op (H ++ [⟨op, h, r⟩]) x' := by
  obtain ⟨sm, so, sl_, sg⟩ := s
  obtain ⟨m, ho, xl, lost⟩ := x
  simp only at sm so sl_ sg
  subst sm so
  obtain ⟨l1, hl⟩ : ∃ l1, l1 = xl ++ [(⟨ho, h, r⟩ : Note)] := ⟨_, rfl⟩
  have hd := drop_tail H ⟨ho, h, r⟩ m.toNat (by omega) l1 (by rw [hl, sl_])
  have hxl : xl.length ≤ 100000 := by rw [sl_]; simp; omega
  have hl1 : l1.length = xl.length + 1 := by rw [hl]; simp
  simp only [notes_Log_Add.f]
  rw [if_neg (by omega), Option.bind_some, if_neg (by simp only [decide_eq_true_eq]; omega), if_pos (by omega), ← hl]
  by_cases hc : m.toNat < l1.length
  · obtain ⟨d1, d2⟩ := hd.1 hc
    have hcl : slices_Clone_api_Note_api_Note.f (((l1.take ((l1.length : Int)).toNat)).drop (1 : Int).toNat) = some (l1.drop 1) := by
      simp only [slices_Clone_api_Note_api_Note.f, Int.toNat_natCast, List.take_length]
      rw [show (1 : Int).toNat = 1 from rfl, if_pos (by simp; omega)]
    rw [if_pos (show m < (l1.length : Int) by omega), if_pos (by omega), if_pos (by omega), hcl, Option.bind_some, Option.bind_some]
    refine ⟨_, rfl, ⟨rfl, rfl, d1, fun o => ?_⟩⟩
    rw [d2, cnt_next]
    simp only [show (0 : Int).toNat = 0 from rfl]
    rw [mget_mput]
    by_cases e : (l1.getD 0 default).Op = o
    · rw [if_pos e, if_pos e, e, sg]
      have := cnt_le (H.take (H.length - m.toNat)) o
      have := cnt_nn (H.take (H.length - m.toNat)) o
      have hh : (H.take (H.length - m.toNat)).length ≤ 100000 := by simp; omega
      rw [w64 (by omega) (by omega)]
      rfl
    · rw [if_neg e, if_neg e, sg, Int.add_zero]
  · obtain ⟨d1, d2⟩ := hd.2 hc
    rw [if_neg (show ¬ m < (l1.length : Int) by omega), Option.bind_some]
    exact ⟨_, rfl, ⟨rfl, rfl, d1, fun o => by rw [d2]; exact sg o⟩⟩
theorem nadd_bad (x : notesLog) (h : List Int) (r : Int) (hr : r < 1 ∨ 9 < r) : notes_Log_Add.f x h r = some (xErrRange, x) := by
  simp only [notes_Log_Add.f]
  by_cases h0 : r < 1
  · rw [if_pos h0, Option.bind_some, if_pos rfl]
  · rw [if_neg h0, Option.bind_some, if_pos (decide_eq_true (by omega))]
theorem st_begin {most op : Int} {H : List Note} {x : notesLog} (s : St most op H x) (h0 : 0 ≤ op) (h1 : op < 9223372036854775807) : ∃ x', notes_Log_Begin.f x = some (op + 1, x') ∧ St most (op + 1) H x' := by
  obtain ⟨sm, so, sl_, sg⟩ := s
  simp only [notes_Log_Begin.f, so]
  rw [w64 (by omega) (by omega)]
  exact ⟨_, rfl, ⟨sm, rfl, sl_, sg⟩⟩
theorem st_len {most op : Int} {H : List Note} {x : notesLog} (s : St most op H x) : x.l.length = min H.length most.toNat := by
  rw [s.l]; simp; omega
theorem st_all {most op : Int} {H : List Note} {x : notesLog} (s : St most op H x) (h1 : most ≤ 65536) : notes_Log_All.f x = some x.l := by
  have := st_len s
  simp only [notes_Log_All.f, slices_Clone_api_Note_api_Note.f]
  rw [if_pos (by omega), Option.bind_some]
theorem st_clone {most op : Int} {H : List Note} {x : notesLog} (s : St most op H x) (h1 : most ≤ 65536) : notes_Log_Clone.f x = some x := by
  have := st_len s
  simp only [notes_Log_Clone.f, slices_Clone_api_Note_api_Note.f, maps_Clone_map_intint_int_int.f]
  rw [if_pos (by omega), Option.bind_some, Option.bind_some]
theorem ixf_eq (x : List Note) (o : Int) (hx : x.length ≤ 1000000) : ∃ r, slices_IndexFunc_api_Note_api_Note_at_notes_Log_Of_1.f x o = some r ∧ ((r = -1 ∧ ∀ j, j < x.length → (x.getD j default).Op = o) ∨ ∃ k : Nat, r = (k : Int) ∧ k < x.length ∧ (∀ j, j < k → (x.getD j default).Op = o) ∧ (x.getD k default).Op ≠ o) := by
  simp only [slices_IndexFunc_api_Note_api_Note_at_notes_Log_Of_1.f]
  refine nt_ends (step := slices_IndexFunc_api_Note_api_Note_at_notes_Log_Of_1.s0 x o) (fun i (s : Int) => s = (i : Int) ∧ ∀ j, j < i → (x.getD j default).Op = o) _ x.length ⟨rfl, fun j hj => by omega⟩ (fun i hi s hs => ?_) (fun s hs => ?_)
  · obtain ⟨rfl, hs⟩ := hs
    simp only [slices_IndexFunc_api_Note_api_Note_at_notes_Log_Of_1.s0, notes_Log_Of_1.f, Int.toNat_natCast]
    rw [if_pos (by omega), if_pos (by omega), Option.bind_some]
    by_cases c : (x.getD i default).Op = o
    · rw [if_neg (by simp only [decide_eq_true_eq]; exact fun h => h c), winc i (by omega)]
      refine .inl ⟨_, rfl, rfl, fun j hj => ?_⟩
      rcases Nat.lt_or_ge j i with h | h
      · exact hs j h
      · obtain rfl : j = i := by omega
        exact c
    · rw [if_pos (decide_eq_true c)]
      exact .inr ⟨_, rfl, .inr ⟨i, rfl, hi, hs, c⟩⟩
  · obtain ⟨rfl, hs⟩ := hs
    simp only [slices_IndexFunc_api_Note_api_Note_at_notes_Log_Of_1.s0]
    rw [if_neg (by omega)]
    exact ⟨_, rfl, .inl ⟨rfl, hs⟩⟩
theorem all_of {l : List Note} {o : Int} (h : ∀ j, j < l.length → (l.getD j default).Op = o) : ofO l o = l := by
  refine List.filter_eq_self.2 fun n hn => ?_
  obtain ⟨j, hj, rfl⟩ := List.getElem_of_mem hn
  have := h j hj
  rw [List.getD, List.getElem?_eq_getElem hj] at this
  exact decide_eq_true this
theorem set_take {α : Type} (l : List α) (i : Nat) (y : α) (h : i < l.length) : (l.set i y).take (i + 1) = l.take i ++ [y] := by
  rw [List.take_add_one, List.take_set_of_le (Nat.le_refl _)]
  simp [h]
theorem delf_eq (x : List Note) (o : Int) (hx : x.length ≤ 1000000) : slices_DeleteFunc_api_Note_api_Note_at_notes_Log_Of_1.f x o = some (ofO x o) := by
  simp only [slices_DeleteFunc_api_Note_api_Note_at_notes_Log_Of_1.f]
  obtain ⟨r, e, h⟩ := ixf_eq x o hx
  rw [e, Option.bind_some]
  rcases h with ⟨rfl, h⟩ | ⟨k, rfl, hk, h1, h2⟩
  · rw [if_pos rfl, all_of h]
  · rw [if_neg (by omega)]
    have ht : ofO (x.take k) o = x.take k := all_of fun j hj => by
      have hj' : j < k := by simp at hj; omega
      have := h1 j hj'
      rw [List.getD] at this ⊢
      rw [List.getElem?_take, if_pos hj']
      exact this
    obtain ⟨z, e2, hz⟩ := nt_ends (step := slices_DeleteFunc_api_Note_api_Note_at_notes_Log_Of_1.s0 o) (fun q (s : Int × Int × List Note) => s.2.1 = ((k + 1 + q : Nat) : Int) ∧ ∃ i : Nat, s.1 = (i : Int) ∧ i ≤ k + q ∧ s.2.2.length = x.length ∧ s.2.2.take i = ofO (x.take (k + 1 + q)) o ∧ ∀ j, k + 1 + q ≤ j → s.2.2.getD j default = x.getD j default) (fun z => ∃ i : Nat, z.1 = (i : Int) ∧ i ≤ z.2.length ∧ z.2.take i = ofO x o) (x.length - (k + 1)) (s := ((k : Int), IntKind.i64.wrap ((k : Int) + 1), x)) ⟨winc k (by omega), k, rfl, by omega, rfl, by
      rw [Nat.add_zero, ← take_next x k default hk, ofO_app, ht, ofO_one, if_neg h2, List.append_nil], fun j _ => rfl⟩ (fun q hq s hs => by
        obtain ⟨s1, s2, s3⟩ := s
        obtain ⟨e1, i, e2, hi, hl, htk, hge⟩ := hs
        simp only at e1 e2 hi hl htk hge
        subst e1 e2
        have hlt : k + 1 + q < x.length := by omega
        have hg := hge (k + 1 + q) (Nat.le_refl _)
        simp only [slices_DeleteFunc_api_Note_api_Note_at_notes_Log_Of_1.s0, notes_Log_Of_1.f, Int.toNat_natCast]
        rw [if_pos (by omega), if_pos (by omega), Option.bind_some]
        have hn := take_next x (k + 1 + q) default hlt
        rw [← hg] at hn
        by_cases c : (s3.getD (k + 1 + q) default).Op = o
        · rw [if_neg (by simp only [decide_eq_true_eq]; exact fun h => h c), if_pos (by omega), Option.bind_some, winc i (by omega), winc (k + 1 + q) (by omega)]
          refine .inl ⟨_, rfl, by simp only; omega, i + 1, rfl, by omega, by simp [hl], ?_, fun j hj => ?_⟩
          · rw [set_take _ _ _ (by omega), htk, show k + 1 + (q + 1) = k + 1 + q + 1 from by omega, ← hn, ofO_app, ofO_one, if_pos c]
          · rw [List.getD, List.getElem?_set_ne (by omega)]
            exact hge j (by omega)
        · rw [if_pos (decide_eq_true c), Option.bind_some, winc (k + 1 + q) (by omega)]
          refine .inl ⟨_, rfl, by simp only; omega, i, rfl, by omega, hl, ?_, fun j hj => hge j (by omega)⟩
          rw [show k + 1 + (q + 1) = k + 1 + q + 1 from by omega, ← hn, ofO_app, ofO_one, if_neg c, List.append_nil, htk]) (fun s hs => by
        obtain ⟨s1, s2, s3⟩ := s
        obtain ⟨e1, i, e2, hi, hl, htk, hge⟩ := hs
        simp only at e1 e2 hi hl htk hge
        subst e1 e2
        simp only [slices_DeleteFunc_api_Note_api_Note_at_notes_Log_Of_1.s0]
        rw [if_neg (by omega)]
        refine ⟨_, rfl, i, rfl, by simp only; omega, ?_⟩
        rw [htk, List.take_of_length_le (by omega)])
    obtain ⟨i, e3, h3, h4⟩ := hz
    obtain ⟨z1, z2⟩ := z
    simp only at e3 h3 h4
    subst e3
    rw [e2, Option.bind_some]
    simp only
    rw [if_pos (by omega), Int.toNat_natCast, h4]
theorem st_of {most op : Int} {H : List Note} {x : notesLog} (s : St most op H x) (h1 : most ≤ 65536) (o : Int) : notes_Log_Of.f x o = some (ofO x.l o) := by
  have := st_len s
  have e := st_all s h1
  simp only [notes_Log_Of.f]
  rw [e, Option.bind_some, delf_eq _ _ (by omega), Option.bind_some]
theorem st_lost {most op : Int} {H : List Note} {x : notesLog} (s : St most op H x) (o : Int) : notes_Log_Lost.f x o = some (cnt (H.take (H.length - most.toNat)) o) := by
  simp only [notes_Log_Lost.f]
  rw [s.g]
theorem st_op {most op : Int} {H : List Note} {x : notesLog} (s : St most op H x) : notes_Log_Op.f x = some op := by simp only [notes_Log_Op.f]; rw [s.o]
theorem first20 : sargassolaw20_first.f = some true := by
  obtain ⟨e, s⟩ := st_new 3 (by omega) (by omega)
  simp only [sargassolaw20_first.f]
  rw [e, Option.bind_some]
  simp only [oM]
  obtain ⟨x', e2, s2⟩ := st_begin s (by omega) (by omega)
  rw [if_pos trivial, st_all s (by omega), Option.bind_some]
  simp only [List.length_nil, Int.natCast_zero, if_true]
  rw [e2, Option.bind_some, Option.bind_some]
  rfl
end Go.Proofs.YtcpdnoochieecaaDoor.T
namespace Go.Proofs.YtcpdnoochieecaaDoor.T
open Go Go.Proofs Go.Proofs.YtcpdnoochieecaaDoor.K
set_option linter.unusedVariables false
set_option linter.unusedSimpArgs false
theorem refnotes_eq (l : List Note) (h : l.length ≤ 1000000) : sargassoref_Notes.f l = some l := by
  simp only [sargassoref_Notes.f]
  rw [if_pos (by omega)]
  have e : loopO (sargassoref_Notes.s0 l) ([], 0) = some l := copy_run l default (by omega) (fun i hi => by
    simp only [sargassoref_Notes.s0, Int.toNat_natCast]
    rw [if_pos (by omega), if_pos (by omega), if_pos (by simp; omega)]) (by
    simp only [sargassoref_Notes.s0]
    rw [if_neg (by omega)])
  have e2 : loopO (sargassoref_Notes.s0 l) ((List.replicate ((0 : Int).toNat) (⟨0, (List.replicate 32 0), 0⟩ : Note) : List Note), 0) = some l := e
  rw [e2, Option.bind_some]
theorem samenotes_self (l : List Note) (h : l.length ≤ 1000000) (ht : ∀ n ∈ l, n.Tx.length = 32) : sargassoref_SameNotes.f l l = some true := by
  simp only [sargassoref_SameNotes.f]
  rw [if_neg (fun h => h rfl), all_run l.length (fun _ => True) (by omega) (fun i hi => by
    have hm := nt_getD_mem (l := l) (d := default) hi
    simp only [sargassoref_SameNotes.s0, Int.toNat_natCast]
    rw [if_pos (by omega), if_pos (by omega), if_pos (by omega)]
    have e : sargassoref_SameNote1.f (l.getD i default) (l.getD i default) = some true := by
      simp only [sargassoref_SameNote1.f]
      rw [if_pos trivial, samehash_eq _ _ (ht _ hm) (ht _ hm), decide_eq_true rfl, Option.bind_some, if_pos rfl, Option.bind_some]
      simp
    rw [e, Option.bind_some, if_pos rfl, if_pos trivial]) (by
    simp only [sargassoref_SameNotes.s0]
    rw [if_neg (by omega)])]
  simp
theorem refof_eq (l : List Note) (o : Int) (h : l.length ≤ 1000000) : sargassoref18_Of.f l o = some (ofO l o) := by
  simp only [sargassoref18_Of.f]
  rw [loop_run (step := sargassoref18_Of.s0 l o) (s := ([], 0)) (fun i => (ofO (l.take i) o, (i : Int))) l.length (r := ofO l o) rfl (fun i hi => by
    have hle : (ofO (l.take i) o).length ≤ l.length := by
      have := List.length_filter_le (fun n : Note => decide (n.Op = o)) (l.take i)
      simp only [ofO]
      simp at this
      omega
    simp only [sargassoref18_Of.s0, Int.toNat_natCast]
    rw [if_pos (by omega), if_pos (by omega), winc i (by omega), ← take_next l i default hi, ofO_app, ofO_one]
    by_cases c : (l.getD i default).Op = o
    · rw [if_pos c, if_pos (by omega), if_pos c, Option.bind_some]
    · rw [if_neg c, if_neg c, Option.bind_some, List.append_nil]) (by
    simp only [sargassoref18_Of.s0]
    rw [if_neg (by omega), List.take_length]), Option.bind_some]
structure Ys (most op : Int) (H : List Note) (y : sargassoref18Log) : Prop where
  m : y.Most = most
  o : y.Op = op
  l : y.L = H.drop (H.length - most.toNat)
  g : y.Gone = H.take (H.length - most.toNat)
theorem refadd_eq {most op : Int} {H : List Note} {y : sargassoref18Log} (s : Ys most op H y) (h0 : 1 ≤ most) (h1 : most ≤ 65536) (hH : H.length ≤ 100000) (h : List Int) (r : Int) (r1 : 1 ≤ r) (r9 : r ≤ 9) :
    ∃ y', sargassoref18_Log_Add.f y h r = some (0, y') ∧ Ys most op (H ++ [⟨op, h, r⟩]) y' := by
  obtain ⟨sm, so, sl_, sg⟩ := s
  obtain ⟨m, ho, yl, gone⟩ := y
  simp only at sm so sl_ sg
  subst sm so
  obtain ⟨l1, hl⟩ : ∃ l1, l1 = yl ++ [(⟨ho, h, r⟩ : Note)] := ⟨_, rfl⟩
  have hd := drop_tail H ⟨ho, h, r⟩ m.toNat (by omega) l1 (by rw [hl, sl_])
  have hyl : yl.length ≤ 100000 := by rw [sl_]; simp; omega
  have hgl : gone.length ≤ 100000 := by rw [sg]; simp; omega
  have hl1 : l1.length = yl.length + 1 := by rw [hl]; simp
  simp only [sargassoref18_Log_Add.f]
  rw [if_neg (by omega), Option.bind_some, if_neg (by simp only [decide_eq_true_eq]; omega), refnotes_eq yl (by omega), Option.bind_some, if_pos (by omega), ← hl, Option.bind_some]
  by_cases hc : m.toNat < l1.length
  · obtain ⟨d1, d2⟩ := hd.1 hc
    rw [if_pos (show m < (l1.length : Int) by omega), if_pos (by omega), if_pos (by omega), if_pos (by omega), Option.bind_some]
    refine ⟨_, rfl, ⟨rfl, rfl, ?_, ?_⟩⟩
    · simp only [Int.toNat_natCast, List.take_length, show (1 : Int).toNat = 1 from rfl]
      exact d1
    · rw [d2, sg]
      rfl
  · obtain ⟨d1, d2⟩ := hd.2 hc
    rw [if_neg (show ¬ m < (l1.length : Int) by omega), Option.bind_some]
    exact ⟨_, rfl, ⟨rfl, rfl, d1, by rw [d2]; exact sg⟩⟩
theorem refadd_bad (y : sargassoref18Log) (h : List Int) (r : Int) (hr : r < 1 ∨ 9 < r) : sargassoref18_Log_Add.f y h r = some (122, y) := by
  simp only [sargassoref18_Log_Add.f]
  by_cases h0 : r < 1
  · rw [if_pos h0, Option.bind_some, if_pos rfl]
  · rw [if_neg h0, Option.bind_some, if_pos (decide_eq_true (by omega))]
end Go.Proofs.YtcpdnoochieecaaDoor.T
namespace Go.Proofs.YtcpdnoochieecaaDoor.T
open Go Go.Proofs Go.Proofs.YtcpdnoochieecaaDoor.K
set_option linter.unusedVariables false
set_option linter.unusedSimpArgs false
theorem nt_chk {most op : Int} {H : List Note} {x : notesLog} {L G C : List Note} (s : St most op H x) (h1 : most ≤ 65536) (hH : H.length ≤ 100000) (hL : L = H.drop (H.length - most.toNat)) (hG : G = H.take (H.length - most.toNat)) (ht : ∀ n ∈ H, n.Tx.length = 32) (o : Int) :
    ((notes_Log_Op.f (⟨x.most, x.op, x.l, x.lost⟩ : notesLog)).bind fun r7 => (if r7 ≠ op then some true else ((notes_Log_All.f (⟨x.most, x.op, x.l, x.lost⟩ : notesLog)).bind fun r8 => ((sargassoref_SameNotes.f r8 L).bind fun r9 => (if r9 = true then ((notes_Log_Of.f (⟨x.most, x.op, x.l, x.lost⟩ : notesLog) o).bind fun r10 => ((sargassoref18_Of.f L o).bind fun r11 => ((sargassoref_SameNotes.f r10 r11).bind fun r12 => (if r12 = true then ((notes_Log_Lost.f (⟨x.most, x.op, x.l, x.lost⟩ : notesLog) o).bind fun r13 => ((sargassoref18_Of.f G o).bind fun r14 => (if r13 ≠ (r14.length : Int) then some true else ((some C).bind fun r15 => some (decide ((r15.length : Int) ≠ (C.length : Int))))))) else some true)))) else some true))))) = some false := by
  have hx : (⟨x.most, x.op, x.l, x.lost⟩ : notesLog) = x := rfl
  have hl := s.l
  have hLl : L.length ≤ 1000000 := by rw [hL]; simp; omega
  have hGl : G.length ≤ 1000000 := by rw [hG]; simp; omega
  have htL : ∀ n ∈ L, n.Tx.length = 32 := fun n hn => ht n (List.mem_of_mem_drop (hL ▸ hn))
  have hof : (ofO L o).length ≤ 1000000 := by
    have := List.length_filter_le (fun n : Note => decide (n.Op = o)) L
    simp only [ofO]; omega
  rw [hx, st_op s, Option.bind_some, if_neg (fun h => h rfl), st_all s h1, Option.bind_some, hl, ← hL, samenotes_self L hLl htL, Option.bind_some, if_pos rfl, st_of s h1, Option.bind_some, hl, ← hL, refof_eq L o hLl, Option.bind_some, samenotes_self _ hof (fun n hn => htL n (List.mem_filter.1 hn).1), Option.bind_some, if_pos rfl, st_lost s, Option.bind_some, refof_eq G o hGl, Option.bind_some, ← hG]
  rw [if_neg (show ¬ (cnt G o ≠ ((ofO G o).length : Int)) from fun h => h rfl), Option.bind_some]
  simp
theorem sargassolaw20_NotesPlay.m (μ : Store) (x0 : Int) (h0 : InR .i64 x0) (x1 : List sargassolaw20Do) (u1 : Value) (h1 : Slc (Rsargassolaw20Do μ) 34 μ u1 x1) (x2 : Int) (h2 : InR .i64 x2) : sargassolaw20_NotesPlay.f x0 x1 x2 = some true := by
  have hd : ∀ d ∈ x1, d.Tx.length = 32 := by
    obtain ⟨cs, hE, hs⟩ := h1
    clear hs h0 h2
    induction hE with
    | nil => simp
    | cons a b c ih =>
      intro d hd
      rcases List.mem_cons.1 hd with rfl | hd
      · exact a.2.2.2.1
      · exact ih d hd
  simp only [sargassolaw20_NotesPlay.f]
  rw [first20, Option.bind_some, if_pos rfl]
  by_cases c0 : x0 < 1 ∨ 65536 < x0
  · rw [st_new_bad x0 c0, Option.bind_some]
    simp only [oM]
    have e : (if x0 < 1 then some true else some (decide (65536 < x0))) = some true := by
      by_cases c : x0 < 1
      · rw [if_pos c]
      · rw [if_neg c, decide_eq_true (by omega)]
    rw [e, Option.bind_some, if_pos rfl, if_pos trivial, is_range, Option.bind_some, Option.bind_some]
    rfl
  have e : (if x0 < 1 then some true else some (decide (65536 < x0))) = some false := by
    rw [if_neg (by omega), decide_eq_false (by omega)]
  obtain ⟨en, sn⟩ := st_new x0 (by omega) (by omega)
  rw [en, Option.bind_some]
  simp only [oM]
  rw [e, Option.bind_some, if_neg (by decide), if_neg (fun h => h rfl), Option.bind_some]
  by_cases c1 : 100 < x1.length
  · rw [if_pos (decide_eq_true (by omega))]
    simp
  rw [if_neg (by simp only [decide_eq_true_eq]; omega)]
  obtain ⟨r, hr, rfl⟩ := nt_ends (step := sargassolaw20_NotesPlay.s1 x1 x2 true) (fun i s => s.1 = (i : Int) ∧ ∃ (op : Int) (H : List Note), 0 ≤ op ∧ op ≤ (i : Int) ∧ H.length ≤ i ∧ (∀ n ∈ H, n.Tx.length = 32) ∧ Ys x0 op H ⟨s.2.1, s.2.2.1, s.2.2.2.1, s.2.2.2.2.1⟩ ∧ St x0 op H ⟨s.2.2.2.2.2.1, s.2.2.2.2.2.2.1, s.2.2.2.2.2.2.2.1, s.2.2.2.2.2.2.2.2⟩) (fun r => r = true) x1.length (s := (0, x0, 0, [], [], x0, 0, [], [])) ⟨rfl, 0, [], by omega, by omega, by simp, by simp, ⟨rfl, rfl, by simp, by simp⟩, sn⟩ (fun i hi s ih => by
    obtain ⟨s1, s2, s3, s4, s5, s6, s7, s8, s9⟩ := s
    obtain ⟨e1, op, H, o1, o2, hH, ht, ys, st⟩ := ih
    simp only at e1 ys st
    subst e1
    have hm := nt_getD_mem (l := x1) (d := default) hi
    have htx := hd _ hm
    generalize hq : x1.getD i default = q at *
    have ecl := st_clone st (by omega)
    have eal := st_all st (by omega)
    obtain ⟨y1, y2, y3, y4⟩ := ys
    simp only at y1 y2 y3 y4
    subst y1 y2
    left
    simp only [sargassolaw20_NotesPlay.s1, Int.toNat_natCast]
    rw [if_pos (by omega), ecl, Option.bind_some]
    simp only
    rw [eal, Option.bind_some, if_pos (by omega), hq]
    by_cases k : q.Kind = 1
    · obtain ⟨x', eb, sb⟩ := st_begin st o1 (by omega)
      have hw : IntKind.i64.wrap (s3 + 1) = s3 + 1 := w64 (by omega) (by omega)
      rw [if_pos k, eb, Option.bind_some, hw, if_neg (fun h => h rfl)]
      have hc := nt_chk (C := s8) sb (by omega) (by omega) y3 y4 ht x2
      simp only at hc ⊢
      rw [hc, Option.bind_some, if_neg (by decide), winc i (by omega)]
      exact ⟨_, rfl, rfl, s3 + 1, H, by omega, by omega, by omega, ht, ⟨rfl, rfl, y3, y4⟩, sb⟩
    · rw [if_neg k]
      by_cases b : q.Reason < 1 ∨ 9 < q.Reason
      · rw [nadd_bad _ _ _ b, Option.bind_some, refadd_bad _ _ _ b, Option.bind_some]
        simp only
        rw [is_range, decide_eq_true rfl, Option.bind_some, if_pos rfl]
        have hc := nt_chk (C := s8) st (by omega) (by omega) y3 y4 ht x2
        simp only at hc
        rw [hc, Option.bind_some, if_neg (by decide), winc i (by omega)]
        exact ⟨_, rfl, rfl, s3, H, by omega, by omega, by omega, ht, ⟨rfl, rfl, y3, y4⟩, st⟩
      · obtain ⟨x', ea, sa⟩ := nadd_eq st (by omega) (by omega) (by omega) q.Tx q.Reason (by omega) (by omega)
        obtain ⟨y', er, sr⟩ := refadd_eq (y := ⟨s2, s3, s4, s5⟩) (op := s3) (H := H) ⟨rfl, rfl, y3, y4⟩ (by simp only; omega) (by simp only; omega) (by omega) q.Tx q.Reason (by omega) (by omega)
        rw [ea, Option.bind_some, er, Option.bind_some]
        simp only
        rw [is_nil, decide_eq_true rfl, Option.bind_some, if_pos rfl]
        have ht' : ∀ n ∈ H ++ [(⟨s3, q.Tx, q.Reason⟩ : Note)], n.Tx.length = 32 := fun n hn => by
          rcases List.mem_append.1 hn with hn | hn
          · exact ht n hn
          · rw [List.mem_singleton.1 hn]; exact htx
        have hc := nt_chk (C := s8) sa (by omega) (by simp; omega) sr.l sr.g ht' x2
        rw [← sr.o] at hc
        try simp only at hc
        rw [hc, Option.bind_some, if_neg (by decide), winc i (by omega)]
        exact ⟨_, rfl, rfl, s3, _, by omega, by omega, by simp; omega, ht', sr, sa⟩) (fun s ih => by
    obtain ⟨s1, s2, s3, s4, s5, s6, s7, s8, s9⟩ := s
    obtain ⟨e1, op, H, o1, o2, hH, ht, ys, st⟩ := ih
    simp only at e1 ys st
    subst e1
    have ecl := st_clone st (by omega)
    have eal := st_all st (by omega)
    simp only [sargassolaw20_NotesPlay.s1]
    rw [if_neg (by omega)]
    exact ⟨_, rfl, rfl⟩)
  exact hr
end Go.Proofs.YtcpdnoochieecaaDoor.T
namespace Go.Proofs.YtcpdnoochieecaaDoor.K
open Go Go.Proofs Go.ChangeShapes Go.WideShapes Go.RowKit
def mem (w : World) : Store := fun k => w.heap[k]?
theorem agr_mem (w : World) : Agr (mem w) w := fun _ _ h => h
theorem mem_cell {w : World} {g i : Nat} {v : Value} (h : w.cell? ⟨g, i, none⟩ = some v) : (mem w).cell g i = some v := by
  unfold World.cell? at h
  unfold Store.cell mem
  cases hm : w.heap[g]? with
  | none => simp [hm] at h
  | some o => cases o <;> simp_all
theorem wf_in {k : IntKind} {n : Int} (h : (Lit.int k n).wf = true) : InR k n := by
  cases k <;> simp [Lit.wf, IntKind.min, IntKind.max, IntKind.signed, IntKind.bits] at h <;> simp [InR] <;> omega
section
variable {H : Type} {enc : TypeId × Value → H} {P : Program} {w : World} {base : Nat} {spare : Nat → Bool} {held : Bool} {t e : TypeId}
def Rd (enc : TypeId × Value → H) (P : Program) (w : World) (base : Nat) (spare : Nat → Bool) (held : Bool) (t : TypeId) (R : List Value → Prop) : Prop :=
  ∀ fuel cs x, DataW.trod enc P w base spare held fuel t cs = some x → R cs
theorem rd_int {k : IntKind} (ht : P.underlying t = some (.int k)) : Rd enc P w base spare held t (fun c => ∃ n, RI k n c) := by
  intro fuel cs x h
  obtain ⟨n, rfl, _, hw⟩ := DataW.trod_int ht h
  exact ⟨n, rfl, wf_in hw⟩
theorem rd_array {k : IntKind} {n : Nat} (ht : P.underlying t = some (.array n e)) (he : P.underlying e = some (.int k)) (hc : P.cellsOf e = 1) (hn : P.cellsOf t = n) :
    Rd enc P w base spare held t (fun c => ∃ xs, RA k n xs c) := by
  intro fuel cs x h
  obtain ⟨xs, m, _, _, hl, hx, hf⟩ := DataW.trod_array ht h
  rw [hn] at hl
  have each : ∀ i, i < n → ∃ z, cs[i]? = some (.int k z) ∧ InR k z := by
    intro i hi
    have h1 := hf i hi
    rw [hc, Nat.mul_one, List.getElem?_eq_getElem (by omega)] at h1
    obtain ⟨z, hz, _, hw⟩ := DataW.trod_int he h1
    refine ⟨z, ?_, wf_in hw⟩
    have := congrArg (·[0]?) hz
    simpa using this
  refine ⟨cs.map fun v => match v with | .int _ z => z | _ => 0, ?_, ?_, ?_⟩
  · simp only [List.flatten_cons, List.flatten_nil, List.append_nil]
    apply List.ext_getElem?
    intro i
    by_cases hi : i < n
    · obtain ⟨z, hz, _⟩ := each i hi
      rw [av_get _ _ _ hi, hz]
      simp [List.getD, hz]
    · rw [List.getElem?_eq_none (by omega), List.getElem?_eq_none (by rw [av_len]; omega)]
  · simpa using hl
  · intro y hy
    obtain ⟨v, hv, rfl⟩ := List.mem_map.1 hy
    obtain ⟨i, hi, rfl⟩ := List.getElem_of_mem hv
    obtain ⟨z, hz, hr⟩ := each i (by omega)
    rw [List.getElem?_eq_getElem hi] at hz
    rw [Option.some.inj hz]
    exact hr
theorem els_of {α : Type} {RE : α → List Value → Prop} {sz : Nat} : ∀ {n : Nat} {Q : Nat → Value → Prop}, (∀ i, i < n → ∃ x c, RE x c ∧ c.length = sz ∧ ∀ j v, c[j]? = some v → Q (i * sz + j) v) →
    ∃ xs cs, xs.length = n ∧ Els RE sz xs cs ∧ ∀ j v, cs[j]? = some v → Q j v
  | 0, _, _ => ⟨[], [], rfl, .nil, fun j v h => by simp at h⟩
  | n + 1, Q, f => by
    obtain ⟨x, c, h1, h2, h3⟩ := f 0 (by omega)
    obtain ⟨xs, cs, e1, e2, e3⟩ := els_of (n := n) (Q := fun m v => Q (sz + m) v) (fun i hi => by
      obtain ⟨x, c, h1, h2, h3⟩ := f (i + 1) (by omega)
      refine ⟨x, c, h1, h2, fun j v hj => ?_⟩
      have := h3 j v hj
      rwa [Nat.add_mul, Nat.one_mul, Nat.add_comm (i * sz), Nat.add_assoc] at this)
    refine ⟨x :: xs, c ++ cs, by simp [e1], .cons h1 h2 e2, fun j v hj => ?_⟩
    rcases Nat.lt_or_ge j c.length with h | h
    · rw [List.getElem?_append_left h] at hj
      simpa using h3 j v hj
    · rw [List.getElem?_append_right h] at hj
      have := e3 _ _ hj
      rwa [h2, Nat.add_sub_cancel' (by omega)] at this
theorem rd_slice {α : Type} {RE : α → List Value → Prop} {sz : Nat} (ht : P.underlying t = some (.slice e)) (hc : P.cellsOf e = sz) (h0 : 0 < sz) (hr : Rd enc P w base spare held e (fun c => ∃ x, RE x c)) :
    Rd enc P w base spare held t (fun c => ∃ v xs, c = [v] ∧ Slc RE sz (mem w) v xs) := by
  intro fuel cs x h
  rcases DataW.trod_slice ht h with ⟨rfl, _⟩ | ⟨a, len, cap, elems, rest, n, _, rfl, _, _, hl, hm, hlen, hel, _, _⟩
  · exact ⟨_, [], rfl, [], .nil, none, 0, rfl, Nat.le_refl _, Nat.zero_le _, fun h => absurd rfl h, fun h => absurd rfl h⟩
  have each0 : ∀ i, i < len → ∃ x c, RE x c ∧ c.length = sz ∧ ∀ j, j < sz → w.cell? ((a.add (i * sz)).add j) = c[j]? := by
    intro i hi
    have h1 := hel i hi
    rw [List.getElem?_eq_getElem (by omega), hc] at h1
    obtain ⟨c, hc1, hc2⟩ := Option.bind_eq_some_iff.1 h1
    obtain ⟨_, l1, l2⟩ := World.cells?_some hc1
    obtain ⟨x, hx⟩ := hr _ _ _ hc2
    exact ⟨x, c, hx, l1, l2⟩
  have hs : 0 < len → a.spot = none := by
    intro hp
    obtain ⟨x, c, _, l1, l2⟩ := each0 0 hp
    have h2 := (l2 0 h0).trans (List.getElem?_eq_getElem (by omega))
    simpa [Addr.add] using World.cell?_spot h2
  obtain ⟨b, off, spot⟩ := a
  simp only at hs
  have each : ∀ i, i < len → ∃ x c, RE x c ∧ c.length = sz ∧ ∀ j v, c[j]? = some v → (fun m v => w.cell? ⟨b, off + m, none⟩ = some v) (i * sz + j) v := by
    intro i hi
    obtain ⟨x, c, hx, l1, l2⟩ := each0 i hi
    refine ⟨x, c, hx, l1, fun j v hj => ?_⟩
    have hjl : j < sz := by
      have := (List.getElem?_eq_some_iff.1 hj).1
      omega
    have h2 := (l2 j hjl).trans hj
    rw [hs (by omega), add_plain, add_plain] at h2
    simpa [Nat.add_assoc] using h2
  obtain ⟨xs, cs, e1, e2, e3⟩ := els_of (RE := RE) (sz := sz) (Q := fun m v => w.cell? ⟨b, off + m, none⟩ = some v) each
  refine ⟨_, xs, rfl, cs, e2, some ⟨b, off, spot⟩, cap, by rw [e1], by omega, hm, fun hn => by rw [hs (by omega)]; rfl, fun hn j v hj => mem_cell (e3 j v hj)⟩
theorem rd_struct {fs : Array Field} {fuel : Nat} {cs : List Value} {x : DataW H × List MemPlace} (ht : P.underlying t = some (.struct fs)) (h : DataW.trod enc P w base spare held fuel t cs = some x) :
    cs.length = P.cellsOf t ∧ ∀ (i : Nat) (f : Field), fs[i]? = some f → ∃ n y, DataW.trod enc P w base spare held n f.type ((cs.drop f.offset).take (P.cellsOf f.type)) = some y := by
  obtain ⟨xs, n, _, _, hl, hx, hf⟩ := DataW.trod_struct ht h
  refine ⟨hl, fun i f hi => ?_⟩
  have h1 := hf i f hi
  have : i < fs.size := (Array.getElem?_eq_some_iff.1 hi).1
  rw [List.getElem?_eq_getElem (by omega)] at h1
  exact ⟨n, _, h1⟩
theorem chop {α : Type} (cs : List α) (o n m : Nat) (h : o + n = m) : cs.drop o = (cs.drop o).take n ++ cs.drop m := by
  subst h
  rw [← List.drop_drop, List.take_append_drop]
theorem rd_at {R : List Value → Prop} {v : Value} {d : DataW H} {ps : List MemPlace} (hr : Rd enc P w base spare held t R) (h : DataW.Trod enc P w base spare held t v d ps) : R v.cells.toList := by
  obtain ⟨fuel, hf⟩ := h
  exact hr _ _ _ hf
theorem at_slice {α : Type} {RE : α → List Value → Prop} {sz : Nat} {r : Reach} {b0 : Nat} {v : Value} {d : DataW H} {ps : List MemPlace} (ht : P.underlying t = some (.slice e)) (hval : Value.okWide P w r b0 t v)
    (hr : Rd enc P w base spare held t (fun c => ∃ v xs, c = [v] ∧ Slc RE sz (mem w) v xs)) (h : DataW.Trod enc P w base spare held t v d ps) : ∃ xs, Slc RE sz (mem w) v xs := by
  obtain ⟨a, len, cap, rfl⟩ := okWide_slice ht hval
  obtain ⟨u, xs, e1, h2⟩ := rd_at hr h
  simp [Value.cells] at e1
  subst e1
  exact ⟨xs, h2⟩
theorem again {W W' : World} {v : Value} {d : DataW H} {ps : List MemPlace} (hl : laidOutB P = true) (hr : P.readableRec t = true) (hrow : t < P.types.size) (h : DataW.Trod enc P W 0 (fun _ => true) true t v d ps) (hb : Below W.heap.size W W') :
    DataW.Trod enc P W' 0 (fun b => decide (b < W.heap.size)) true t v d ps :=
  Below.trod hl hr hrow h hb (fun p hp => let ⟨n, hn⟩ := h; DataW.trod_lt n _ _ _ hn p hp)
end
end Go.Proofs.YtcpdnoochieecaaDoor.K
namespace Go.Proofs.YtcpdnoochieecaaDoor.K
open Go Go.Proofs
set_option linter.unusedVariables false
theorem laid_each {P : Program} {W : World} : ∀ {l : List (String × DataW Unit)} {ps : List MemPlace}, DataW.LaidVars P W l ps → ∀ {n : String} {d : DataW Unit}, (n, d) ∈ l →
    ∃ g t cs fuel p, P.globalNamed n = some g ∧ (P.globals[g]?).map (·.type) = some t ∧ W.var? P n = some cs ∧ DataW.trod (fun _ => ()) P W 0 (fun _ => true) false fuel t cs.toList = some (d, p) ∧ ∀ x ∈ MemPlace.row ⟨g, 0, none⟩ cs.size ++ p, x ∈ ps
  | [], ps, h, n, d, hm => by cases hm
  | (m, e) :: r, ps, h, n, d, hm => by
    obtain ⟨g, t, cs, fuel, p, q, hg, ht, hv, hd, hr, rfl⟩ := h
    rcases List.mem_cons.1 hm with e1 | hm
    · cases e1
      exact ⟨g, t, cs, fuel, p, hg, ht, hv, hd, fun x hx => List.mem_append_left _ hx⟩
    · obtain ⟨g', t', cs', fuel', p', a1, a2, a3, a4, a5⟩ := laid_each hr hm
      exact ⟨g', t', cs', fuel', p', a1, a2, a3, a4, fun x hx => List.mem_append_right _ (a5 x hx)⟩
theorem sent_of_laid {P : Program} {W : World} {laid : List (String × DataW Unit)} {code : ByteArray → Nat} {n : String} {text : List UInt8} {g : Nat} {ti tp ta te ts : TypeId} {ms : Array (String × TypeId)} {f : Field}
    (h : laidMet P laid W) (hm : (n, .iface "*errors.errorString" (.ptr (.agg [.lit (.string text)]))) ∈ laid) (hg : P.globalNamed n = some g) (ht : (P.globals[g]?).map (·.type) = some ti)
    (hi : P.underlying ti = some (.interface ms)) (hrow : ∀ u, P.typeName? 3 u = some "*errors.errorString" → u = tp) (hp : P.underlying tp = some (.pointer te)) (he : P.underlying te = some (.struct #[f])) (hft : f.type = ts) (hfo : f.offset = 0) (hs : P.underlying ts = some .string) (hc : P.cellsOf te = 1) (hcs : P.cellsOf ts = 1)
    (hcode : ∀ s : ByteArray, s.data.toList = text → code s = g + 1) : ∃ v, ErV tp ta code (mem W) (.b (g + 1)) v := by
  obtain ⟨ps, hl, hnd, hrows⟩ := h
  obtain ⟨g', t', cs, fuel, p, a1, a2, a3, a4, a5⟩ := laid_each hl hm
  obtain rfl := Option.some.inj (hg.symm.trans a1)
  obtain rfl := Option.some.inj (ht.symm.trans a2)
  obtain ⟨l⟩ := cs
  have ok : ∀ u v, l = [.iface u v] → Value.okWide P W .any 0 u v := fun u v e => by
    subst e
    exact (hrows g 0 (a5 _ (by simp [MemPlace.row]))).2 u v (by simpa using World.var?_cell hg a3 0)
  obtain ⟨a, s, rfl, hcell, hst, hz, rfl⟩ := errorString_of_trod hi hrow hp he hft hfo hs hc hcs a4 ok
  obtain ⟨c, t, hb⟩ := (hrows a.block a.off (a5 _ (by simp [MemPlace.row]))).1
  refine ⟨.iface tp (.pointer (some a)), .inr ⟨by omega, mem_cell (by simpa using World.var?_cell hg a3 0), a, s, c, t, rfl, hb, hcode s hst, fun w hw => ?_⟩⟩
  have e : w.heap[a.block]? = W.heap[a.block]? := (hw _ _ hb).trans hb.symm
  unfold World.cell? at hcell ⊢
  rw [e]
  exact hcell
end Go.Proofs.YtcpdnoochieecaaDoor.K
namespace Go.Proofs.YtcpdnoochieecaaDoor.T
open Go Go.Proofs Go.Proofs.YtcpdnoochieecaaDoor.K
set_option linter.unusedVariables false
set_option linter.unusedSimpArgs false
set_option maxRecDepth 100000
theorem own : ownKnob Tryd.prog.godebug = none := by kernel_rfl
noncomputable def low : Nat := (World.holding Tryd.prog default ⟨#[], #[], []⟩).heap.size
abbrev es0 : ByteArray := { data := #[116, 111, 111, 32, 109, 97, 110, 121, 44, 32, 111, 114, 32, 116, 111, 111, 32, 102, 101, 119] }
abbrev es1 : ByteArray := { data := #[116, 111, 111, 32, 108, 111, 110, 103] }
abbrev es2 : ByteArray := { data := #[111, 110, 101, 32, 116, 104, 105, 110, 103, 32, 116, 119, 105, 99, 101] }
abbrev es3 : ByteArray := { data := #[97, 32, 114, 111, 111, 116, 32, 116, 104, 97, 116, 32, 100, 111, 101, 115, 32, 110, 111, 116, 32, 102, 105, 116] }
abbrev es4 : ByteArray := { data := #[107, 110, 111, 119, 110, 32, 97, 108, 114, 101, 97, 100, 121] }
abbrev es5 : ByteArray := { data := #[110, 111, 32, 115, 117, 99, 104, 32, 112, 97, 114, 101, 110, 116] }
abbrev es6 : ByteArray := { data := #[116, 104, 101, 114, 101, 32, 105, 115, 32, 110, 111, 32, 114, 111, 111, 109] }
abbrev es7 : ByteArray := { data := #[97, 32, 110, 117, 109, 98, 101, 114, 32, 111, 117, 116, 32, 111, 102, 32, 105, 116, 115, 32, 114, 97, 110, 103, 101] }
abbrev es8 : ByteArray := { data := #[110, 111, 32, 102, 105, 114, 115, 116, 32, 116, 114, 97, 110, 115, 97, 99, 116, 105, 111, 110, 32, 119, 104, 101, 114, 101, 32, 116, 104, 101, 114, 101, 32, 104, 97, 115, 32, 116, 111, 32, 98, 101, 32, 111, 110, 101, 44, 32, 111, 114, 32, 111, 110, 101, 32, 119, 104, 101, 114, 101, 32, 116, 104, 101, 114, 101, 32, 109, 97, 121, 32, 98, 101, 32, 110, 111, 110, 101] }
abbrev es9 : ByteArray := { data := #[97, 32, 107, 101, 121, 32, 116, 104, 97, 116, 32, 100, 111, 101, 115, 32, 110, 111, 116, 32, 102, 105, 116] }
abbrev es10 : ByteArray := { data := #[97, 110, 32, 97, 109, 111, 117, 110, 116, 32, 116, 104, 97, 116, 32, 99, 97, 110, 39, 116, 32, 98, 101] }
abbrev es11 : ByteArray := { data := #[105, 116, 32, 101, 110, 100, 115, 32, 116, 111, 111, 32, 101, 97, 114, 108, 121] }
abbrev es12 : ByteArray := { data := #[110, 111, 116, 32, 97, 115, 32, 105, 116, 32, 104, 97, 115, 32, 116, 111, 32, 98, 101] }
abbrev es13 : ByteArray := { data := #[98, 101, 104, 105, 110, 100, 32, 119, 104, 97, 116, 32, 105, 115, 32, 110, 111, 116, 32, 118, 97, 108, 105, 100] }
abbrev es14 : ByteArray := { data := #[97, 32, 116, 105, 109, 101, 32, 116, 104, 97, 116, 32, 105, 115, 32, 116, 111, 111, 32, 101, 97, 114, 108, 121] }
abbrev es15 : ByteArray := { data := #[97, 32, 99, 111, 105, 110, 32, 116, 104, 97, 116, 32, 105, 115, 32, 110, 111, 116, 32, 116, 104, 101, 114, 101] }
abbrev es16 : ByteArray := { data := #[97, 32, 99, 111, 105, 110, 32, 116, 104, 97, 116, 32, 105, 115, 32, 116, 111, 111, 32, 121, 111, 117, 110, 103] }
abbrev es17 : ByteArray := { data := #[116, 111, 111, 32, 101, 97, 114, 108, 121, 32, 116, 111, 32, 98, 101, 32, 116, 97, 107, 101, 110] }
abbrev es18 : ByteArray := { data := #[108, 101, 115, 115, 32, 99, 111, 109, 101, 115, 32, 105, 110, 32, 116, 104, 97, 110, 32, 103, 111, 101, 115, 32, 111, 117, 116] }
abbrev es19 : ByteArray := { data := #[109, 111, 114, 101, 32, 116, 104, 97, 110, 32, 116, 104, 101, 32, 114, 101, 119, 97, 114, 100] }
abbrev es20 : ByteArray := { data := #[97, 32, 99, 111, 105, 110, 32, 116, 104, 97, 116, 32, 105, 115, 32, 115, 112, 101, 110, 116, 32, 105, 110, 32, 116, 104, 101, 32, 112, 111, 111, 108] }
abbrev es21 : ByteArray := { data := #[116, 111, 111, 32, 109, 97, 110, 121, 32, 116, 104, 97, 116, 32, 104, 97, 110, 103, 32, 116, 111, 103, 101, 116, 104, 101, 114] }
abbrev es22 : ByteArray := { data := #[116, 104, 101, 114, 101, 32, 105, 115, 32, 110, 111, 110, 101] }
abbrev es23 : ByteArray := { data := #[110, 111, 32, 115, 117, 99, 104, 32, 119, 111, 114, 100] }
abbrev es24 : ByteArray := { data := #[110, 111, 116, 32, 97, 32, 110, 117, 109, 98, 101, 114] }
def setC (v : Value) : Obj → Obj
  | .cells _ t frozen => .cells #[v] t frozen
  | x => x
noncomputable def laidWorld (os : Os) : World :=
  let w0 := World.holding Tryd.prog os ⟨#[.cells #[.string es0] 227, .cells #[.string es1] 227, .cells #[.string es2] 227, .cells #[.string es3] 227, .cells #[.string es4] 227, .cells #[.string es5] 227, .cells #[.string es6] 227, .cells #[.string es7] 227, .cells #[.string es8] 227, .cells #[.string es9] 227, .cells #[.string es10] 227, .cells #[.string es11] 227, .cells #[.string es12] 227, .cells #[.string es13] 227, .cells #[.string es14] 227, .cells #[.string es15] 227, .cells #[.string es16] 227, .cells #[.string es17] 227, .cells #[.string es18] 227, .cells #[.string es19] 227, .cells #[.string es20] 227, .cells #[.string es21] 227, .cells #[.string es22] 227, .cells #[.string es23] 227, .cells #[.string es24] 227], #[], []⟩
  { w0 with heap := (((((((((((((((((((((((((w0.heap.modify 0 (setC (.iface 210 (.pointer (some ⟨low + 0, 0, none⟩))))).modify 1 (setC (.iface 210 (.pointer (some ⟨low + 1, 0, none⟩))))).modify 2 (setC (.iface 210 (.pointer (some ⟨low + 2, 0, none⟩))))).modify 3 (setC (.iface 210 (.pointer (some ⟨low + 3, 0, none⟩))))).modify 4 (setC (.iface 210 (.pointer (some ⟨low + 4, 0, none⟩))))).modify 5 (setC (.iface 210 (.pointer (some ⟨low + 5, 0, none⟩))))).modify 6 (setC (.iface 210 (.pointer (some ⟨low + 6, 0, none⟩))))).modify 7 (setC (.iface 210 (.pointer (some ⟨low + 7, 0, none⟩))))).modify 8 (setC (.iface 210 (.pointer (some ⟨low + 8, 0, none⟩))))).modify 9 (setC (.iface 210 (.pointer (some ⟨low + 9, 0, none⟩))))).modify 10 (setC (.iface 210 (.pointer (some ⟨low + 10, 0, none⟩))))).modify 11 (setC (.iface 210 (.pointer (some ⟨low + 11, 0, none⟩))))).modify 12 (setC (.iface 210 (.pointer (some ⟨low + 12, 0, none⟩))))).modify 13 (setC (.iface 210 (.pointer (some ⟨low + 13, 0, none⟩))))).modify 14 (setC (.iface 210 (.pointer (some ⟨low + 14, 0, none⟩))))).modify 15 (setC (.iface 210 (.pointer (some ⟨low + 15, 0, none⟩))))).modify 16 (setC (.iface 210 (.pointer (some ⟨low + 16, 0, none⟩))))).modify 17 (setC (.iface 210 (.pointer (some ⟨low + 17, 0, none⟩))))).modify 18 (setC (.iface 210 (.pointer (some ⟨low + 18, 0, none⟩))))).modify 19 (setC (.iface 210 (.pointer (some ⟨low + 19, 0, none⟩))))).modify 20 (setC (.iface 210 (.pointer (some ⟨low + 20, 0, none⟩))))).modify 21 (setC (.iface 210 (.pointer (some ⟨low + 21, 0, none⟩))))).modify 22 (setC (.iface 210 (.pointer (some ⟨low + 22, 0, none⟩))))).modify 23 (setC (.iface 210 (.pointer (some ⟨low + 23, 0, none⟩))))).modify 24 (setC (.iface 210 (.pointer (some ⟨low + 24, 0, none⟩))))) }
theorem starE : "*" ++ "errors.errorString" = "*errors.errorString" := by decide
theorem rowE (u : TypeId) (h : Tryd.prog.typeName? 3 u = some "*errors.errorString") : u = 210 :=
  typeName_ptr_named (nm := "errors.errorString") (by rw [starE]; kernel_rfl) (by kernel_rfl) (by decide) u (by rw [starE]; exact h)
theorem ceE : Tryd.prog.cellsOf 227 = 1 := by kernel_rfl
theorem csE : Tryd.prog.cellsOf 9 = 1 := by kernel_rfl
theorem sent0 {W : World} {l : List (String × DataW Unit)} (h : laidMet Tryd.prog l W) (hm : ("sargasso/api.ErrMany", .iface "*errors.errorString" (.ptr (.agg [.lit (.string [116, 111, 111, 32, 109, 97, 110, 121, 44, 32, 111, 114, 32, 116, 111, 111, 32, 102, 101, 119])]))) ∈ l) : ∃ v, ErS (mem W) v (Er.b 1) :=
  sent_of_laid h hm (by kernel_rfl) (by kernel_rfl) Tryd.underlying47 rowE Tryd.underlying210 Tryd.underlying227 rfl rfl Tryd.underlying9 ceE csE (fun s hs => by unfold errCode; rw [hs]; kernel_rfl)
theorem sent1 {W : World} {l : List (String × DataW Unit)} (h : laidMet Tryd.prog l W) (hm : ("sargasso/api.ErrLong", .iface "*errors.errorString" (.ptr (.agg [.lit (.string [116, 111, 111, 32, 108, 111, 110, 103])]))) ∈ l) : ∃ v, ErS (mem W) v (Er.b 2) :=
  sent_of_laid h hm (by kernel_rfl) (by kernel_rfl) Tryd.underlying47 rowE Tryd.underlying210 Tryd.underlying227 rfl rfl Tryd.underlying9 ceE csE (fun s hs => by unfold errCode; rw [hs]; kernel_rfl)
theorem sent2 {W : World} {l : List (String × DataW Unit)} (h : laidMet Tryd.prog l W) (hm : ("sargasso/api.ErrTwice", .iface "*errors.errorString" (.ptr (.agg [.lit (.string [111, 110, 101, 32, 116, 104, 105, 110, 103, 32, 116, 119, 105, 99, 101])]))) ∈ l) : ∃ v, ErS (mem W) v (Er.b 3) :=
  sent_of_laid h hm (by kernel_rfl) (by kernel_rfl) Tryd.underlying47 rowE Tryd.underlying210 Tryd.underlying227 rfl rfl Tryd.underlying9 ceE csE (fun s hs => by unfold errCode; rw [hs]; kernel_rfl)
theorem sent3 {W : World} {l : List (String × DataW Unit)} (h : laidMet Tryd.prog l W) (hm : ("sargasso/api.ErrRoot", .iface "*errors.errorString" (.ptr (.agg [.lit (.string [97, 32, 114, 111, 111, 116, 32, 116, 104, 97, 116, 32, 100, 111, 101, 115, 32, 110, 111, 116, 32, 102, 105, 116])]))) ∈ l) : ∃ v, ErS (mem W) v (Er.b 4) :=
  sent_of_laid h hm (by kernel_rfl) (by kernel_rfl) Tryd.underlying47 rowE Tryd.underlying210 Tryd.underlying227 rfl rfl Tryd.underlying9 ceE csE (fun s hs => by unfold errCode; rw [hs]; kernel_rfl)
theorem sent4 {W : World} {l : List (String × DataW Unit)} (h : laidMet Tryd.prog l W) (hm : ("sargasso/api.ErrKnown", .iface "*errors.errorString" (.ptr (.agg [.lit (.string [107, 110, 111, 119, 110, 32, 97, 108, 114, 101, 97, 100, 121])]))) ∈ l) : ∃ v, ErS (mem W) v (Er.b 5) :=
  sent_of_laid h hm (by kernel_rfl) (by kernel_rfl) Tryd.underlying47 rowE Tryd.underlying210 Tryd.underlying227 rfl rfl Tryd.underlying9 ceE csE (fun s hs => by unfold errCode; rw [hs]; kernel_rfl)
theorem sent5 {W : World} {l : List (String × DataW Unit)} (h : laidMet Tryd.prog l W) (hm : ("sargasso/api.ErrParent", .iface "*errors.errorString" (.ptr (.agg [.lit (.string [110, 111, 32, 115, 117, 99, 104, 32, 112, 97, 114, 101, 110, 116])]))) ∈ l) : ∃ v, ErS (mem W) v (Er.b 6) :=
  sent_of_laid h hm (by kernel_rfl) (by kernel_rfl) Tryd.underlying47 rowE Tryd.underlying210 Tryd.underlying227 rfl rfl Tryd.underlying9 ceE csE (fun s hs => by unfold errCode; rw [hs]; kernel_rfl)
theorem sent6 {W : World} {l : List (String × DataW Unit)} (h : laidMet Tryd.prog l W) (hm : ("sargasso/api.ErrFull", .iface "*errors.errorString" (.ptr (.agg [.lit (.string [116, 104, 101, 114, 101, 32, 105, 115, 32, 110, 111, 32, 114, 111, 111, 109])]))) ∈ l) : ∃ v, ErS (mem W) v (Er.b 7) :=
  sent_of_laid h hm (by kernel_rfl) (by kernel_rfl) Tryd.underlying47 rowE Tryd.underlying210 Tryd.underlying227 rfl rfl Tryd.underlying9 ceE csE (fun s hs => by unfold errCode; rw [hs]; kernel_rfl)
theorem sent7 {W : World} {l : List (String × DataW Unit)} (h : laidMet Tryd.prog l W) (hm : ("sargasso/api.ErrRange", .iface "*errors.errorString" (.ptr (.agg [.lit (.string [97, 32, 110, 117, 109, 98, 101, 114, 32, 111, 117, 116, 32, 111, 102, 32, 105, 116, 115, 32, 114, 97, 110, 103, 101])]))) ∈ l) : ∃ v, ErS (mem W) v (Er.b 8) :=
  sent_of_laid h hm (by kernel_rfl) (by kernel_rfl) Tryd.underlying47 rowE Tryd.underlying210 Tryd.underlying227 rfl rfl Tryd.underlying9 ceE csE (fun s hs => by unfold errCode; rw [hs]; kernel_rfl)
theorem sent8 {W : World} {l : List (String × DataW Unit)} (h : laidMet Tryd.prog l W) (hm : ("sargasso/api.ErrBase", .iface "*errors.errorString" (.ptr (.agg [.lit (.string [110, 111, 32, 102, 105, 114, 115, 116, 32, 116, 114, 97, 110, 115, 97, 99, 116, 105, 111, 110, 32, 119, 104, 101, 114, 101, 32, 116, 104, 101, 114, 101, 32, 104, 97, 115, 32, 116, 111, 32, 98, 101, 32, 111, 110, 101, 44, 32, 111, 114, 32, 111, 110, 101, 32, 119, 104, 101, 114, 101, 32, 116, 104, 101, 114, 101, 32, 109, 97, 121, 32, 98, 101, 32, 110, 111, 110, 101])]))) ∈ l) : ∃ v, ErS (mem W) v (Er.b 9) :=
  sent_of_laid h hm (by kernel_rfl) (by kernel_rfl) Tryd.underlying47 rowE Tryd.underlying210 Tryd.underlying227 rfl rfl Tryd.underlying9 ceE csE (fun s hs => by unfold errCode; rw [hs]; kernel_rfl)
theorem sent9 {W : World} {l : List (String × DataW Unit)} (h : laidMet Tryd.prog l W) (hm : ("sargasso/api.ErrKey", .iface "*errors.errorString" (.ptr (.agg [.lit (.string [97, 32, 107, 101, 121, 32, 116, 104, 97, 116, 32, 100, 111, 101, 115, 32, 110, 111, 116, 32, 102, 105, 116])]))) ∈ l) : ∃ v, ErS (mem W) v (Er.b 10) :=
  sent_of_laid h hm (by kernel_rfl) (by kernel_rfl) Tryd.underlying47 rowE Tryd.underlying210 Tryd.underlying227 rfl rfl Tryd.underlying9 ceE csE (fun s hs => by unfold errCode; rw [hs]; kernel_rfl)
theorem sent10 {W : World} {l : List (String × DataW Unit)} (h : laidMet Tryd.prog l W) (hm : ("sargasso/api.ErrValue", .iface "*errors.errorString" (.ptr (.agg [.lit (.string [97, 110, 32, 97, 109, 111, 117, 110, 116, 32, 116, 104, 97, 116, 32, 99, 97, 110, 39, 116, 32, 98, 101])]))) ∈ l) : ∃ v, ErS (mem W) v (Er.b 11) :=
  sent_of_laid h hm (by kernel_rfl) (by kernel_rfl) Tryd.underlying47 rowE Tryd.underlying210 Tryd.underlying227 rfl rfl Tryd.underlying9 ceE csE (fun s hs => by unfold errCode; rw [hs]; kernel_rfl)
theorem sent11 {W : World} {l : List (String × DataW Unit)} (h : laidMet Tryd.prog l W) (hm : ("sargasso/api.ErrEnd", .iface "*errors.errorString" (.ptr (.agg [.lit (.string [105, 116, 32, 101, 110, 100, 115, 32, 116, 111, 111, 32, 101, 97, 114, 108, 121])]))) ∈ l) : ∃ v, ErS (mem W) v (Er.b 12) :=
  sent_of_laid h hm (by kernel_rfl) (by kernel_rfl) Tryd.underlying47 rowE Tryd.underlying210 Tryd.underlying227 rfl rfl Tryd.underlying9 ceE csE (fun s hs => by unfold errCode; rw [hs]; kernel_rfl)
theorem sent12 {W : World} {l : List (String × DataW Unit)} (h : laidMet Tryd.prog l W) (hm : ("sargasso/api.ErrShape", .iface "*errors.errorString" (.ptr (.agg [.lit (.string [110, 111, 116, 32, 97, 115, 32, 105, 116, 32, 104, 97, 115, 32, 116, 111, 32, 98, 101])]))) ∈ l) : ∃ v, ErS (mem W) v (Er.b 13) :=
  sent_of_laid h hm (by kernel_rfl) (by kernel_rfl) Tryd.underlying47 rowE Tryd.underlying210 Tryd.underlying227 rfl rfl Tryd.underlying9 ceE csE (fun s hs => by unfold errCode; rw [hs]; kernel_rfl)
theorem sent13 {W : World} {l : List (String × DataW Unit)} (h : laidMet Tryd.prog l W) (hm : ("sargasso/api.ErrInvalid", .iface "*errors.errorString" (.ptr (.agg [.lit (.string [98, 101, 104, 105, 110, 100, 32, 119, 104, 97, 116, 32, 105, 115, 32, 110, 111, 116, 32, 118, 97, 108, 105, 100])]))) ∈ l) : ∃ v, ErS (mem W) v (Er.b 14) :=
  sent_of_laid h hm (by kernel_rfl) (by kernel_rfl) Tryd.underlying47 rowE Tryd.underlying210 Tryd.underlying227 rfl rfl Tryd.underlying9 ceE csE (fun s hs => by unfold errCode; rw [hs]; kernel_rfl)
theorem sent14 {W : World} {l : List (String × DataW Unit)} (h : laidMet Tryd.prog l W) (hm : ("sargasso/api.ErrTime", .iface "*errors.errorString" (.ptr (.agg [.lit (.string [97, 32, 116, 105, 109, 101, 32, 116, 104, 97, 116, 32, 105, 115, 32, 116, 111, 111, 32, 101, 97, 114, 108, 121])]))) ∈ l) : ∃ v, ErS (mem W) v (Er.b 15) :=
  sent_of_laid h hm (by kernel_rfl) (by kernel_rfl) Tryd.underlying47 rowE Tryd.underlying210 Tryd.underlying227 rfl rfl Tryd.underlying9 ceE csE (fun s hs => by unfold errCode; rw [hs]; kernel_rfl)
theorem sent15 {W : World} {l : List (String × DataW Unit)} (h : laidMet Tryd.prog l W) (hm : ("sargasso/api.ErrMissing", .iface "*errors.errorString" (.ptr (.agg [.lit (.string [97, 32, 99, 111, 105, 110, 32, 116, 104, 97, 116, 32, 105, 115, 32, 110, 111, 116, 32, 116, 104, 101, 114, 101])]))) ∈ l) : ∃ v, ErS (mem W) v (Er.b 16) :=
  sent_of_laid h hm (by kernel_rfl) (by kernel_rfl) Tryd.underlying47 rowE Tryd.underlying210 Tryd.underlying227 rfl rfl Tryd.underlying9 ceE csE (fun s hs => by unfold errCode; rw [hs]; kernel_rfl)
theorem sent16 {W : World} {l : List (String × DataW Unit)} (h : laidMet Tryd.prog l W) (hm : ("sargasso/api.ErrYoung", .iface "*errors.errorString" (.ptr (.agg [.lit (.string [97, 32, 99, 111, 105, 110, 32, 116, 104, 97, 116, 32, 105, 115, 32, 116, 111, 111, 32, 121, 111, 117, 110, 103])]))) ∈ l) : ∃ v, ErS (mem W) v (Er.b 17) :=
  sent_of_laid h hm (by kernel_rfl) (by kernel_rfl) Tryd.underlying47 rowE Tryd.underlying210 Tryd.underlying227 rfl rfl Tryd.underlying9 ceE csE (fun s hs => by unfold errCode; rw [hs]; kernel_rfl)
theorem sent17 {W : World} {l : List (String × DataW Unit)} (h : laidMet Tryd.prog l W) (hm : ("sargasso/api.ErrEarly", .iface "*errors.errorString" (.ptr (.agg [.lit (.string [116, 111, 111, 32, 101, 97, 114, 108, 121, 32, 116, 111, 32, 98, 101, 32, 116, 97, 107, 101, 110])]))) ∈ l) : ∃ v, ErS (mem W) v (Er.b 18) :=
  sent_of_laid h hm (by kernel_rfl) (by kernel_rfl) Tryd.underlying47 rowE Tryd.underlying210 Tryd.underlying227 rfl rfl Tryd.underlying9 ceE csE (fun s hs => by unfold errCode; rw [hs]; kernel_rfl)
theorem sent18 {W : World} {l : List (String × DataW Unit)} (h : laidMet Tryd.prog l W) (hm : ("sargasso/api.ErrLess", .iface "*errors.errorString" (.ptr (.agg [.lit (.string [108, 101, 115, 115, 32, 99, 111, 109, 101, 115, 32, 105, 110, 32, 116, 104, 97, 110, 32, 103, 111, 101, 115, 32, 111, 117, 116])]))) ∈ l) : ∃ v, ErS (mem W) v (Er.b 19) :=
  sent_of_laid h hm (by kernel_rfl) (by kernel_rfl) Tryd.underlying47 rowE Tryd.underlying210 Tryd.underlying227 rfl rfl Tryd.underlying9 ceE csE (fun s hs => by unfold errCode; rw [hs]; kernel_rfl)
theorem sent19 {W : World} {l : List (String × DataW Unit)} (h : laidMet Tryd.prog l W) (hm : ("sargasso/api.ErrReward", .iface "*errors.errorString" (.ptr (.agg [.lit (.string [109, 111, 114, 101, 32, 116, 104, 97, 110, 32, 116, 104, 101, 32, 114, 101, 119, 97, 114, 100])]))) ∈ l) : ∃ v, ErS (mem W) v (Er.b 20) :=
  sent_of_laid h hm (by kernel_rfl) (by kernel_rfl) Tryd.underlying47 rowE Tryd.underlying210 Tryd.underlying227 rfl rfl Tryd.underlying9 ceE csE (fun s hs => by unfold errCode; rw [hs]; kernel_rfl)
theorem sent20 {W : World} {l : List (String × DataW Unit)} (h : laidMet Tryd.prog l W) (hm : ("sargasso/api.ErrClash", .iface "*errors.errorString" (.ptr (.agg [.lit (.string [97, 32, 99, 111, 105, 110, 32, 116, 104, 97, 116, 32, 105, 115, 32, 115, 112, 101, 110, 116, 32, 105, 110, 32, 116, 104, 101, 32, 112, 111, 111, 108])]))) ∈ l) : ∃ v, ErS (mem W) v (Er.b 21) :=
  sent_of_laid h hm (by kernel_rfl) (by kernel_rfl) Tryd.underlying47 rowE Tryd.underlying210 Tryd.underlying227 rfl rfl Tryd.underlying9 ceE csE (fun s hs => by unfold errCode; rw [hs]; kernel_rfl)
theorem sent21 {W : World} {l : List (String × DataW Unit)} (h : laidMet Tryd.prog l W) (hm : ("sargasso/api.ErrLimit", .iface "*errors.errorString" (.ptr (.agg [.lit (.string [116, 111, 111, 32, 109, 97, 110, 121, 32, 116, 104, 97, 116, 32, 104, 97, 110, 103, 32, 116, 111, 103, 101, 116, 104, 101, 114])]))) ∈ l) : ∃ v, ErS (mem W) v (Er.b 22) :=
  sent_of_laid h hm (by kernel_rfl) (by kernel_rfl) Tryd.underlying47 rowE Tryd.underlying210 Tryd.underlying227 rfl rfl Tryd.underlying9 ceE csE (fun s hs => by unfold errCode; rw [hs]; kernel_rfl)
theorem sent22 {W : World} {l : List (String × DataW Unit)} (h : laidMet Tryd.prog l W) (hm : ("sargasso/api.ErrNone", .iface "*errors.errorString" (.ptr (.agg [.lit (.string [116, 104, 101, 114, 101, 32, 105, 115, 32, 110, 111, 110, 101])]))) ∈ l) : ∃ v, ErS (mem W) v (Er.b 23) :=
  sent_of_laid h hm (by kernel_rfl) (by kernel_rfl) Tryd.underlying47 rowE Tryd.underlying210 Tryd.underlying227 rfl rfl Tryd.underlying9 ceE csE (fun s hs => by unfold errCode; rw [hs]; kernel_rfl)
theorem sent23 {W : World} {l : List (String × DataW Unit)} (h : laidMet Tryd.prog l W) (hm : ("sargasso/api.ErrWord", .iface "*errors.errorString" (.ptr (.agg [.lit (.string [110, 111, 32, 115, 117, 99, 104, 32, 119, 111, 114, 100])]))) ∈ l) : ∃ v, ErS (mem W) v (Er.b 24) :=
  sent_of_laid h hm (by kernel_rfl) (by kernel_rfl) Tryd.underlying47 rowE Tryd.underlying210 Tryd.underlying227 rfl rfl Tryd.underlying9 ceE csE (fun s hs => by unfold errCode; rw [hs]; kernel_rfl)
theorem sent24 {W : World} {l : List (String × DataW Unit)} (h : laidMet Tryd.prog l W) (hm : ("sargasso/api.ErrNumber", .iface "*errors.errorString" (.ptr (.agg [.lit (.string [110, 111, 116, 32, 97, 32, 110, 117, 109, 98, 101, 114])]))) ∈ l) : ∃ v, ErS (mem W) v (Er.b 25) :=
  sent_of_laid h hm (by kernel_rfl) (by kernel_rfl) Tryd.underlying47 rowE Tryd.underlying210 Tryd.underlying227 rfl rfl Tryd.underlying9 ceE csE (fun s hs => by unfold errCode; rw [hs]; kernel_rfl)
end Go.Proofs.YtcpdnoochieecaaDoor.T
namespace Go.Proofs.YtcpdnoochieecaaDoor.T
open Go Go.Proofs Go.Proofs.YtcpdnoochieecaaDoor.K
set_option linter.unusedVariables false
set_option linter.unusedSimpArgs false
theorem laid : laidOutB Tryd.prog = true := by kernel_rfl
theorem cl3 : Tryd.prog.cellsOf 3 = 1 := by kernel_rfl
theorem rr3 : Tryd.prog.readableRec 3 = true := by kernel_rfl
theorem tr3 : 3 < Tryd.prog.types.size := of_decide_eq_true (by kernel_rfl)
theorem cl5 : Tryd.prog.cellsOf 5 = 1 := by kernel_rfl
theorem cl26 : Tryd.prog.cellsOf 26 = 32 := by kernel_rfl
theorem cl88 : Tryd.prog.cellsOf 88 = 34 := by kernel_rfl
theorem rr82 : Tryd.prog.readableRec 82 = true := by kernel_rfl
theorem tr82 : 82 < Tryd.prog.types.size := of_decide_eq_true (by kernel_rfl)
section
variable {H : Type} {enc : TypeId × Value → H} {w : World} {base : Nat} {spare : Nat → Bool} {held : Bool}
theorem rd3 : Rd enc Tryd.prog w base spare held 3 (fun c => ∃ n, RI .i64 n c) := rd_int Tryd.underlying3
theorem rd26 : Rd enc Tryd.prog w base spare held 26 (fun c => ∃ xs, RA .u8 32 xs c) := rd_array Tryd.underlying26 Tryd.underlying5 cl5 cl26
theorem rd88 : Rd enc Tryd.prog w base spare held 88 (fun c => ∃ x, Rsargassolaw20Do (mem w) x c) := by
  intro fuel cs x h
  obtain ⟨hl, hf⟩ := rd_struct Tryd.underlying88 h
  rw [cl88] at hl
  obtain ⟨n0, y0, h0⟩ := hf 0 _ rfl
  obtain ⟨x0, e0, w0⟩ := rd3 _ _ _ h0
  have e0 : (cs.drop 0).take (Tryd.prog.cellsOf 3) = _ := e0
  rw [cl3] at e0
  have c0 := chop cs 0 1 1 rfl
  rw [e0] at c0
  obtain ⟨n1, y1, h1⟩ := hf 1 _ rfl
  obtain ⟨x1, e1, w1⟩ := rd3 _ _ _ h1
  have e1 : (cs.drop 1).take (Tryd.prog.cellsOf 3) = _ := e1
  rw [cl3] at e1
  have c1 := chop cs 1 1 2 rfl
  rw [e1] at c1
  obtain ⟨n2, y2, h2⟩ := hf 2 _ rfl
  obtain ⟨x2, e2, w2⟩ := rd26 _ _ _ h2
  have e2 : (cs.drop 2).take (Tryd.prog.cellsOf 26) = _ := e2
  rw [cl26] at e2
  have c2 := chop cs 2 32 34 rfl
  rw [e2] at c2
  rw [List.drop_eq_nil_of_le (i := 34) (by omega)] at c2
  rw [c2] at c1
  rw [c1] at c0
  rw [List.drop_zero] at c0
  exact ⟨⟨x0, x1, x2⟩,  by rw [c0]; simp [sargassolaw20DoC], ⟨w0, w1, w2⟩⟩
theorem rd82 : Rd enc Tryd.prog w base spare held 82 (fun c => ∃ v xs, c = [v] ∧ Slc (Rsargassolaw20Do (mem w)) 34 (mem w) v xs) := rd_slice Tryd.underlying82 cl88 (by decide) rd88
end
end Go.Proofs.YtcpdnoochieecaaDoor.T
namespace Go.Proofs.YtcpdnoochieecaaDoor.J
open Go Go.Proofs
theorem words_cons : ∀ (w r : List Char), w.all (· != ' ') = true → wordsSigns (w ++ ' ' :: r) = w :: wordsSigns r
  | [], r, _ => rfl
  | c :: w, r, h => by
    simp only [List.all_cons, Bool.and_eq_true, bne_iff_ne, ne_eq] at h
    have ih := words_cons w r h.2
    rw [List.cons_append, wordsSigns, ih]
    exact fun e => h.1 e
set_option maxRecDepth 100000
def w0 : List Char := ['h', 'a', 'r', 'n', 'e', 's', 's']
def w1 : List Char := ['8', '9', '4', 'e', '0', '4', '7', '1', '3', 'd', '9', '2', '3', 'b', 'f', 'b', '2', '7', 'b', 'f', 'a', '8', '7', '7', '4', '6', '5', 'f', '2', '2', '4', '7', 'f', 'd', '5', '8', 'a', 'b', '7', '8', '2', '0', 'f', 'e', 'f', '6', '7', '8', 'b', 'f', '1', 'b', 'a', '1', '2', '0', '7', 'd', 'a', 'f', '7', '0', '9', 'b']
def w2 : List Char := ['c', 'u', 't']
def w3 : List Char := ['a', 't', ' ', 's', 'a', 'r', 'g', 'a', 's', 's', 'o', '/', 's', 'a', 'r', 'g', 'a', 's', 's', 'o', 'l', 'a', 'w', '7', '.', 'B', 'l', 'o', 'c', 'k', 'K', 'i', 'n', 'd', 's', ' ', 's', 'a', 'r', 'g', 'a', 's', 's', 'o', '/', 's', 'a', 'r', 'g', 'a', 's', 's', 'o', 'l', 'a', 'w', '1', '1', '.', 'T', 'r', 'e', 'e', 'W', 'a', 'y', 's', ' ', 's', 'a', 'r', 'g', 'a', 's', 's', 'o', '/', 's', 'a', 'r', 'g', 'a', 's', 's', 'o', 'l', 'a', 'w', '2', '0', '.', 'N', 'o', 't', 'e', 's', 'C', 'a', 'p', ' ', 's', 'a', 'r', 'g', 'a', 's', 's', 'o', '/', 's', 'a', 'r', 'g', 'a', 's', 's', 'o', 'l', 'a', 'w', '2', '0', '.', 'N', 'o', 't', 'e', 's', 'P', 'l', 'a', 'y', ' ', 's', 'a', 'r', 'g', 'a', 's', 's', 'o', '/', 's', 'a', 'r', 'g', 'a', 's', 's', 'o', 'l', 'a', 'w', '2', '0', '.', 'N', 'o', 't', 'e', 's', 'O', 'p', 's', ' ', 's', 'a', 'r', 'g', 'a', 's', 's', 'o', '/', 's', 'a', 'r', 'g', 'a', 's', 's', 'o', 'l', 'a', 'w', '2', '4', '.', 'R', 'e', 'd', 'o', 'O', 'r', 'd', 'e', 'r', ' ', 's', 'a', 'r', 'g', 'a', 's', 's', 'o', '/', 's', 'a', 'r', 'g', 'a', 's', 's', 'o', 'l', 'a', 'w', '2', '4', '.', 'R', 'e', 'd', 'o', 'O', 'n']
theorem io0 : Tryd.prog.initOrder = String.ofList (w0 ++ ' ' :: (w1 ++ ' ' :: (w2 ++ ' ' :: w3))) := by kernel_rfl
theorem io : Tryd.prog.initOrder.toList = w0 ++ ' ' :: (w1 ++ ' ' :: (w2 ++ ' ' :: w3)) := (congrArg String.toList io0).trans String.toList_ofList
theorem ws : wordsSigns Tryd.prog.initOrder.toList = w0 :: w1 :: w2 :: wordsSigns w3 := by
  rw [io, words_cons _ _ (by kernel_rfl), words_cons _ _ (by kernel_rfl), words_cons _ _ (by kernel_rfl)]
theorem bm (R : List (List Char)) : behindMainWord (w0 :: w1 :: w2 :: R) = w2 :: R := by kernel_rfl
theorem main_of {P : Program} {R : List (List Char)} (h : wordsSigns P.initOrder.toList = w0 :: w1 :: R) : P.mainIs = some (true, w1) := by
  unfold Program.mainIs
  rw [h]
  kernel_rfl
theorem mainIs : Tryd.prog.mainIs = some (true, w1) := main_of ws
theorem bw : behindMainWord (wordsSigns Tryd.prog.initOrder.toList) = w2 :: wordsSigns w3 := by rw [ws, bm]
theorem st (R : List (List Char)) : stripLifts liftWords (w2 :: R) = ([], w2 :: R) := by kernel_rfl
theorem make_of {P : Program} {R : List (List Char)} (h : behindMainWord (wordsSigns P.initOrder.toList) = w2 :: R) : P.make = some .cut := by
  unfold Program.make
  rw [h]
  kernel_rfl
theorem head_of {P : Program} {R : List (List Char)} (h : behindMainWord (wordsSigns P.initOrder.toList) = w2 :: R) : P.headLifts = [] := by
  unfold Program.headLifts
  rw [h, st]
  kernel_rfl
theorem lifts_of {P : Program} {R : List (List Char)} (h : behindMainWord (wordsSigns P.initOrder.toList) = w2 :: R) : P.liftsFinal = false := by
  unfold Program.liftsFinal
  rw [h, head_of h]
  kernel_rfl
theorem may_of {P : Program} {R : List (List Char)} (h : behindMainWord (wordsSigns P.initOrder.toList) = w2 :: R) (h1 : P.laysLater = false) (h2 : P.bearsReflect = false) (h3 : P.doorFits [] = true) : P.mayEnter = true := by
  unfold Program.mayEnter
  rw [h]
  simp only [st, h1, h2, h3]
  kernel_rfl
theorem later : Tryd.prog.laysLater = false := by kernel_rfl
theorem reflect : Tryd.prog.bearsReflect = false := by kernel_rfl
theorem door : Tryd.prog.doorFits [] = true := by kernel_rfl
theorem make : Tryd.prog.make = some .cut := make_of bw
theorem lifts : Tryd.prog.liftsFinal = false := lifts_of bw
theorem may : Tryd.prog.mayEnter = true := may_of bw later reflect door
end Go.Proofs.YtcpdnoochieecaaDoor.J
namespace Go.Proofs.YtcpdnoochieecaaDoor.zNotesPlay
open Go Go.Proofs Go.Proofs.YtcpdnoochieecaaDoor.K Go.Proofs.YtcpdnoochieecaaDoor.T
open Go.ChangeShapes Go.WideShapes Go.ChangeAt Go.RowKit
set_option linter.unusedVariables false
theorem met (os : Os) (args : Array Value) : laidMetH Tryd.prog Rows.notesPlayRow.laid ((laidWorld os).forCall (fun _ _ => 0) ⟨#[], args, []⟩).memory :=
  laidMetH_of_parts (laidMet_of_run' 8 (by kernel_rfl) (by kernel_rfl)) (by kernel_rfl)
set_option maxRecDepth 100000 in
theorem lifted (os : Os) (started : os.Started) (H : Type) (enc : TypeId × Value → H) :
    ReturnsInHanded {} Tryd.checked os 6 .any (fun w args => (Rows.notesPlaySpec.pre enc Tryd.prog Tryd.f6 [] false w args ∧ laidMetH Tryd.prog Rows.notesPlayRow.laid w) ∧ sizedMet enc Tryd.prog Tryd.f6 (OpenSpec.ofChange Rows.notesPlaySpec) false w args) (Rows.notesPlaySpec.post enc Tryd.prog Tryd.f6 false true false false) := by
  refine returnsInHanded_of_change_and (C := Tryd.checked) (X := fun w _ => laidMetH Tryd.prog Rows.notesPlayRow.laid w) (fun _ _ _ hh h => h.of_heap hh) own started (by kernel_rfl) Tryd.func6
    (ChangeSpec.witness_at (enc := enc) (C := Tryd.checked) (os := os) (X := fun w _ => laidMetH Tryd.prog Rows.notesPlayRow.laid w) false (laidWorld os) #[.int .i64 0, .slice none 0 0, .int .i64 0] 8 rfl (by kernel_rfl) (by kernel_rfl) (by kernel_rfl) (by kernel_rfl) (by kernel_rfl) (met os _)) ?_
  intro W base args ds gs before hval0 hW hcnd hsz0 hL _
  have hL : laidMet Tryd.prog Rows.notesPlayRow.laid W := hL
  have hG : Gl (mem W) := ⟨sent0 hL (List.mem_of_getElem? (i := 3) rfl), sent1 hL (List.mem_of_getElem? (i := 2) rfl), sent2 hL (List.mem_of_getElem? (i := 5) rfl), sent3 hL (List.mem_of_getElem? (i := 7) rfl), sent4 hL (List.mem_of_getElem? (i := 8) rfl), sent5 hL (List.mem_of_getElem? (i := 9) rfl), sent6 hL (List.mem_of_getElem? (i := 20) rfl), sent7 hL (List.mem_of_getElem? (i := 21) rfl), sent8 hL (List.mem_of_getElem? (i := 6) rfl), sent9 hL (List.mem_of_getElem? (i := 13) rfl), sent10 hL (List.mem_of_getElem? (i := 4) rfl), sent11 hL (List.mem_of_getElem? (i := 0) rfl), sent12 hL (List.mem_of_getElem? (i := 1) rfl), sent13 hL (List.mem_of_getElem? (i := 10) rfl), sent14 hL (List.mem_of_getElem? (i := 11) rfl), sent15 hL (List.mem_of_getElem? (i := 12) rfl), sent16 hL (List.mem_of_getElem? (i := 14) rfl), sent17 hL (List.mem_of_getElem? (i := 15) rfl), sent18 hL (List.mem_of_getElem? (i := 16) rfl), sent19 hL (List.mem_of_getElem? (i := 17) rfl), sent20 hL (List.mem_of_getElem? (i := 18) rfl), sent21 hL (List.mem_of_getElem? (i := 19) rfl), sent22 hL (List.mem_of_getElem? (i := 22) rfl), sent23 hL (List.mem_of_getElem? (i := 23) rfl), sent24 hL (List.mem_of_getElem? (i := 24) rfl)⟩
  have hW' := hW
  obtain ⟨p, q, hA0, hV, rfl, hfz, hnd⟩ := hW
  have hA : DataW.TrodAll enc Tryd.prog W 0 (fun _ => true) true Tryd.f6.params.toList args.toList ds p := hA0
  have hval : ∀ (j : Nat) t v, Tryd.f6.params[j]? = some t → args[j]? = some v → Value.okWide Tryd.prog W .any base t v := hval0
  rw [Tryd.params6] at hA hval
  obtain ⟨v0, vs0, d0, ds0, p0, q0, hargs, rfl, rfl, h0, r0⟩ := trodAll_cons hA
  obtain ⟨v1, vs1, d1, ds1, p1, q1, rfl, rfl, rfl, h1, r1⟩ := trodAll_cons r0
  obtain ⟨v2, vs2, d2, ds2, p2, q2, rfl, rfl, rfl, h2, r2⟩ := trodAll_cons r1
  obtain ⟨rfl, rfl, rfl⟩ := trodAll_nil r2
  obtain rfl : args = #[v0, v1, v2] := by cases args; simp_all
  obtain ⟨rfl, rfl⟩ := trodVars_none hV
  obtain ⟨x0, rfl, _, _, w0⟩ := open_int Tryd.underlying3 (hval 0 3 v0 rfl rfl) h0
  obtain ⟨x1, w1⟩ := at_slice Tryd.underlying82 (hval 1 82 v1 rfl rfl) rd82 h1
  obtain ⟨x2, rfl, _, _, w2⟩ := open_int Tryd.underlying3 (hval 2 3 v2 rfl rfl) h2
  have hμ : Agr (mem W) W := agr_mem W
  have hm := sargassolaw20_NotesPlay.m (mem W) x0 (wf_in w0) x1 v1 w1 x2 (wf_in w2)
  refine (sargassolaw20_NotesPlay.c (mem W) W hμ x0 (wf_in w0) x1 v1 w1 x2 (wf_in w2) hG true hm).mono fun e W' ⟨v, he, hv, _, hI⟩ => ?_
  subst hv
  subst he
  have bel : Below W.heap.size W W' := hI.below
  exact ⟨_, rfl, _, _, _, [], _, [], hW', trodAll_mk1 (shut_bool Tryd.underlying4 _), (trodAll_cons_mk (again laid rr3 tr3 h0 bel) (trodAll_cons_mk (again laid rr82 tr82 h1 bel) (trodAll_cons_mk (again laid rr3 tr3 h2 bel) trodAll_mk0))), rfl, bel.frame _, fun h => by cases h⟩
theorem closed : joinedFacts Tryd.prog 6 Tryd.f6 Rows.notesPlaySpec Rows.notesPlayRow = true := by
  unfold joinedFacts
  rw [J.may, J.lifts, J.make]
  kernel_rfl
theorem over : Rows.notesPlayRow.holds Tryd.pinned (OpenSpec.ofChange Rows.notesPlaySpec) :=
  OpenClaim.holds_of_wide 6 Tryd.f6 rfl rfl rfl rfl rfl rfl rfl ⟨rfl, rfl, rfl, rfl, rfl⟩ rfl rfl rfl rfl rfl (by kernel_rfl) Tryd.func6 closed
    (of_decide_eq_true (by kernel_rfl)) (by unfold Func.isWrapper; first | (rw [if_pos (by decide +kernel)]; kernel_rfl) | (rw [if_neg (by decide +kernel)]; exact ⟨rfl, rfl⟩))
    (fun os started H enc _ => lifted os started H enc)
theorem card : Rows.NotesPlayCardSaid :=
  Claim7.holds_tied_plain_at .later [] [.sentinel, .sentinel, .sentinel, .sentinel, .sentinel, .sentinel, .sentinel, .sentinel, .sentinel, .sentinel, .sentinel, .sentinel, .sentinel, .sentinel, .sentinel, .sentinel, .sentinel, .sentinel, .sentinel, .sentinel, .sentinel, .sentinel, .sentinel, .sentinel, .sentinel] true (true, "894e04713d923bfb27bfa877465f2247fd58ab7820fef678bf1ba1207daf709b") true
    over (fun _ h => by cases h) (by kernel_rfl) (fun _ h => by cases h) notesPlay_row_tie rfl ⟨rfl, rfl⟩ (J.mainIs.trans (congrArg (fun s => some (true, s)) (by kernel_rfl))) rfl
    (fun f fn hf hfn => by
      obtain rfl : f = 6 := Option.some.inj ((show Tryd.prog.funcNamed "sargasso/sargassolaw20.NotesPlay" = some 6 by kernel_rfl).symm.trans hf) |>.symm
      obtain rfl : fn = Tryd.f6 := (Option.some.inj (Tryd.func6.symm.trans hfn)).symm
      exact ⟨by kernel_rfl, fun j t ht => by
        rw [Tryd.params6] at ht
        rcases j with _ | _ | _ | j
        · obtain rfl : (3 : TypeId) = t := by simpa using ht
          exact (show Tryd.prog.wantsStandIn 3 = false by kernel_rfl)
        · obtain rfl : (82 : TypeId) = t := by simpa using ht
          exact (show Tryd.prog.wantsStandIn 82 = false by kernel_rfl)
        · obtain rfl : (3 : TypeId) = t := by simpa using ht
          exact (show Tryd.prog.wantsStandIn 3 = false by kernel_rfl)
        · simp at ht⟩)
    (by kernel_rfl)
end Go.Proofs.YtcpdnoochieecaaDoor.zNotesPlay
namespace Go.Proofs.YtcpdnoochieecaaDoor
theorem notesPlay_holds : Rows.NotesPlayCardSaid := zNotesPlay.card
#print axioms notesPlay_holds
end Go.Proofs.YtcpdnoochieecaaDoor
