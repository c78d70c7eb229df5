/- Proved: the statement TxOwn, as given (its conditions are those of the given row, and card where there is one; no others): the call ends, with true, and the input reads as it did. This file is one of its parts. -/
import Derived.Test.YtkfpmcplfodikaaPTxOwn1
import Derived.LaidEql
import Derived.OpenShut
import Derived.ChangeArms
import Derived.DataReads
import Derived.WideShapes
import Derived.Below
import Derived.Carry
import Derived.ChangeOld
import Derived.Test.YtkfpmcplfodikaaProg
import Derived.Test.YtkfpmcplfodikaaRows
import Derived.JoinedOf
import Derived.ProofKit
import Derived.WalkKit
import Derived.ShutString
import Derived.SizedLaws
namespace Go.Proofs.Ytkfpmcplfodikaa.T
open Go Go.Proofs Go.Proofs.Ytkfpmcplfodikaa.K
set_option linter.unusedVariables false
set_option linter.unusedSimpArgs false
set_option maxRecDepth 20000 in
theorem tx_Bytes.c (μ : Store) (w0 : World) (hμ : Agr μ w0) (x0 : Tx) (u0_0 : Value) (u0_1 : Value) (hx0 : TxW μ x0 u0_0 u0_1) (r : List Int) (H : tx_Bytes.f x0 = some r) :
    Calls Try.prog 8 [.agg [[.int .u32 x0.Version], [u0_0], [u0_1], [.int .u32 x0.Time]].flatten.toArray].toArray w0 (fun e w' => ∃ v, e = .returned v ∧ ∃ (v0 : Value) (c0 : List Value), v = v0 ∧ Els (RI .u8) 1 r c0 ∧ Iv w0 [] μ μ [row 5 1 v0 r.length c0] w') := by
  refine enter Try.func8 rfl Try.ntmps8 rfl fun a hA => ?_
  have hI := Iv.start hμ
  have H := bI H
  refine w_seq fun _ hN1 => w_reg <| o_box [[.int .u32 x0.Version], [u0_0], [u0_1], [.int .u32 x0.Time]] hI hA rfl rfl rfl fun g1 a w hA hI hg1 => 
    sta hA rfl rfl fun a hA => ?_
  refine o_nil <| hN1 _ _ <| w_seq fun _ hN2 => w_reg <| stp hA (r_fd (k := 0) Try.underlying26 rfl sz22 hA rfl rfl) rfl fun a hA => 
    stp hA (r_ld1 (j := 0) [] [[u0_0], [u0_1], [.int .u32 x0.Time]] Try.underlying22 rfl hI rfl hA rfl rfl) rfl fun a hA => ?_
  obtain ⟨r1, hr1, H⟩ := bB H
  refine o_call _ cf15 hA rfl (compact_Four.c μ _ hI.agr ([]) (.slice none 0 0) (slc_nil _ _ _) x0.Version hx0.1 r1 hr1) rfl fun v1 a w hz1 hA => ?_
  obtain ⟨_, cs1, rfl, hE1, hi1⟩ := hz1
  have hI := hI.call hi1
  refine sta hA rfl rfl fun a hA => ?_
  refine o_nil <| hN2 _ _ <| w_seq fun _ hN3 => w_reg <| stm hA rfl rfl fun a hA => 
    stp hA (r_fd (k := 1) Try.underlying26 rfl sz23 hA rfl rfl) rfl fun a hA => 
    stp hA (r_ld1 (j := 1) [[.int .u32 x0.Version]] [[u0_1], [.int .u32 x0.Time]] Try.underlying23 rfl hI rfl hA rfl rfl) rfl fun a hA => ?_
  obtain ⟨_, hsl1⟩ := Slc.sv hx0.2.1
  refine stp hA (r_slen Try.underlying23 hsl1 hA rfl) rfl fun a hA => 
    stp hA (r_conv Try.underlying3 Try.underlying37 hA rfl) rfl fun a hA => ?_
  obtain ⟨r2, hr2, H⟩ := bB H
  refine o_callW (fun w v w' => ∃ (v0 : Value) (c0 : List Value), v = v0 ∧ Els (RI .u8) 1 r2 c0 ∧ Iv w [] μ μ [row 5 1 v0 r2.length c0] w') cf16 hA rfl ((by obtain ⟨μ1, hle1, hsv1, hI⟩ := hI.freezeRow 0 rfl; have hS1 : Slc (RI .u8) 1 μ1 v1 r1 := ⟨_, hE1, hsv1⟩; exact (compact_Put.c μ1 _ hI.agr r1 v1 hS1 (IntKind.u64.wrap (x0.Ins.length : Int)) (wrap_in _ _) r2 hr2).mono fun _ _ ⟨v, he, b0, b1, hv, f0, hi⟩ => ⟨v, he, b0, b1, hv, f0, hi.low hle1⟩)) rfl fun v2 a w hz2 hA => ?_
  obtain ⟨_, cs2, rfl, hE2, hi2⟩ := hz2
  have hI := hI.call hi2
  refine sta hA rfl rfl fun a hA => ?_
  refine o_nil <| hN3 _ _ ?_
  obtain ⟨c1, hz3, Hk1⟩ := bB H
  refine w_cut (fun a w => ∃ (vvc1 : Value) (ccc1 : List Value), Els (RI .u8) 1 c1 ccc1 ∧ Fr a 72 [(1, .pointer (some ⟨g1, 0, none⟩)), (2, (.slice none 0 0)), (3, vvc1)] ∧ Iv w0 [] μ μ [row 5 1 vvc1 c1.length ccc1, row 5 1 v1 r1.length cs1, cel g1 [[.int .u32 x0.Version], [u0_0], [u0_1], [.int .u32 x0.Time]] 26] w) ?_ ?_
  · have H := bI hz3
    refine w_seq fun _ hN4 => w_reg <| stp hA (r_fd (k := 1) Try.underlying26 rfl sz23 hA rfl rfl) rfl fun a hA => 
      stp hA (r_ld1 (j := 2) [[.int .u32 x0.Version]] [[u0_1], [.int .u32 x0.Time]] Try.underlying23 rfl hI rfl hA rfl rfl) rfl fun a hA => ?_
    obtain ⟨_, hsl2⟩ := Slc.sv hx0.2.1
    refine stp hA (r_slen Try.underlying23 hsl2 hA rfl) rfl fun a hA => 
      stm hA rfl rfl fun a hA => ?_
    refine o_nil <| hN4 _ _ <| w_block ?_
    obtain ⟨z1, hz4, Hk2⟩ := bind_some H
    obtain ⟨n1, hn1⟩ := loopO_some hz4
    refine w_loop (fun n a w => ∃ (s1 : List Int) (s2 : Int) (vvs1 : Value) (ccs1 : List Value), loopN (tx_Bytes.s0 x0) n (s1, s2) = some z1 ∧ Els (RI .u8) 1 s1 ccs1 ∧ InR .i64 s2 ∧ Fr a 72 [(1, .pointer (some ⟨g1, 0, none⟩)), (2, (.slice none 0 0)), (3, vvs1), (18, u0_0), (19, .int .i64 (x0.Ins.length : Int)), (20, .int .i64 s2)] ∧ Iv w0 [] μ μ [row 5 1 vvs1 s1.length ccs1, row 5 1 v1 r1.length cs1, cel g1 [[.int .u32 x0.Version], [u0_0], [u0_1], [.int .u32 x0.Time]] 26] w) n1 ⟨r2, 0, v2, cs2, hn1, hE2, (in_lit .i64 0 rfl), hA.sub ⟨rfl, rfl, rfl, rfl, rfl, rfl, trivial⟩, hI⟩ ?_
    clear hA hI
    rintro n a w ⟨s1, s2, vvs1, ccs1, hn1, ws1, ws2, hA, hI⟩
    obtain ⟨m1, rfl, H⟩ := loopN_bind hn1
    clear hn1
    refine w_seq fun _ hN5 => w_reg <| stp hA (r_lss hA rfl rfl) rfl fun a hA => ?_
    refine o_nil <| hN5 _ _ <| w_seq fun _ hN6 => w_cond hA rfl (fun hc1 => ?_) (fun hc1 => ?_)
    · obtain ⟨hc1, H⟩ := dT H hc1
      refine w_skip <| hN6 _ _ <| w_seq fun _ hN7 => w_block <| w_seq fun _ hN8 => w_reg ?_
      obtain ⟨hb1, H⟩ := bG H
      obtain ⟨_, he1, _, hat1⟩ := Slc.elem hx0.2.1 (getD_some default hb1.1 hb1.2)
      obtain ⟨v3, rfl, hw1⟩ := he1
      obtain ⟨_, hsl3⟩ := Slc.sv hx0.2.1
      refine stp hA (r_six Try.underlying23 sz36 hsl3 hA rfl rfl hb1.1 hb1.2) rfl fun a hA => 
        stp hA (r_ldmA [] [av .u8 32 ((x0.Ins.getD s2.toNat default).From.Tx), [.int .u32 ((x0.Ins.getD s2.toNat default).From.N)], [v3], [.int .u32 ((x0.Ins.getD s2.toNat default).Seq)]] [] Try.underlying36 rfl sz36 rfl hI.agr hat1 hA rfl rfl) rfl fun a hA => 
        o_new [av .u8 32 (List.replicate 32 0), [.int .u32 0], [(.slice none 0 0)], [.int .u32 0]] zr36 hI hA rfl fun g2 a w hA hI hg2 => ?_
      obtain ⟨_, hsl4⟩ := Slc.sv hw1.2.2.1
      refine o_st (j := 0) [] [av .u8 32 (List.replicate 32 0), [.int .u32 0], [(.slice none 0 0)], [.int .u32 0]] [av .u8 32 ((x0.Ins.getD s2.toNat default).From.Tx), [.int .u32 ((x0.Ins.getD s2.toNat default).From.N)], [v3], [.int .u32 ((x0.Ins.getD s2.toNat default).Seq)]] [] sz36 rfl rfl (fl_cons (one_av _ _ _) (fl_cons (oneC rfl) (fl_cons (oneC (one_sl hsl4)) (fl_cons (oneC rfl) fl_nil)))) hI rfl hA rfl rfl rfl rfl fun w hI => ?_
      refine o_nil <| hN8 _ _ <| w_seq fun _ hN9 => ?_
      refine w_anyS [] mo (fun w (h : Iv w0 [] μ μ [cel g2 [av .u8 32 ((x0.Ins.getD s2.toNat default).From.Tx), [.int .u32 ((x0.Ins.getD s2.toNat default).From.N)], [v3], [.int .u32 ((x0.Ins.getD s2.toNat default).Seq)]] 36, row 5 1 vvs1 s1.length ccs1, row 5 1 v1 r1.length cs1, cel g1 [[.int .u32 x0.Version], [u0_0], [u0_1], [.int .u32 x0.Time]] 26] w) => (h.sl [0, 2, 3] rfl : Iv w0 [] μ μ [cel g2 [av .u8 32 ((x0.Ins.getD s2.toNat default).From.Tx), [.int .u32 ((x0.Ins.getD s2.toNat default).From.N)], [v3], [.int .u32 ((x0.Ins.getD s2.toNat default).Seq)]] 36, row 5 1 v1 r1.length cs1, cel g1 [[.int .u32 x0.Version], [u0_0], [u0_1], [.int .u32 x0.Time]] 26] w)) hI fun w hI => ?_
      refine gE 0 hA rfl (.inr (hI.sl [0, 2, 3] rfl)) (fun _ => r_mv hA rfl) fun a hA => ?_
      refine gE 1 hA rfl (.inr (hI.sl [0, 2, 3] rfl)) (fun _ => r_fd (k := 0) Try.underlying36 rfl sz33 hA rfl rfl) fun a hA => ?_
      refine gE 2 hA rfl (.inr (hI.sl [0, 2, 3] rfl)) (fun _ => r_fd (k := 0) Try.underlying33 rfl sz31 hA rfl rfl) fun a hA => ?_
      refine gE 3 hA rfl (.inr (hI.sl [0, 2, 3] rfl)) (fun _ => r_slv (i := 0) (j := 32) Try.underlying31 sz5 hA rfl rfl rfl (by decide) (by decide) (by decide) (by decide) rfl) fun a hA => ?_
      refine gE 5 hA rfl (.inr (hI.sl [0, 2, 3] rfl)) (fun _ => r_fd (k := 0) Try.underlying36 rfl sz33 hA rfl rfl) fun a hA => ?_
      refine gE 6 hA rfl (.inr (hI.sl [0, 2, 3] rfl)) (fun _ => r_fd (k := 32) Try.underlying33 rfl sz22 hA rfl rfl) fun a hA => ?_
      refine gT 7 hA rfl (hI.sl [0, 2, 3] rfl) (fun w hI => r_ld1 (j := 0) [av .u8 32 ((x0.Ins.getD s2.toNat default).From.Tx)] [[v3], [.int .u32 ((x0.Ins.getD s2.toNat default).Seq)]] Try.underlying22 rfl hI rfl hA rfl rfl) fun a hA => ?_
      refine gF 4 rfl ?_
      have hE3 := els_av hw1.1
      obtain ⟨hb2, H⟩ := bG H
      have hE4 := ws1.app hE3
      refine o_appG (xs := (s1 : List Int)) (ys := ((x0.Ins.getD s2.toNat default).From.Tx : List Int)) (M := 140737488355328) 1 te5 Try.underlying34 hI rfl hA rfl rfl (by simpa using src_cel [] [[.int .u32 ((x0.Ins.getD s2.toNat default).From.N)], [v3], [.int .u32 ((x0.Ins.getD s2.toNat default).Seq)]] hI (j := 0) rfl hw1.1 rfl) hE3.len (hE3.ones (one_RI _)) hb2 rfl fun v4 a w hA hI => ?_
      refine o_nil <| ⟨(.inr (hI.sl [0, 2, 3] rfl)), ?_⟩
      refine gF 8 rfl ?_
      obtain ⟨r3, hr3, H⟩ := bB H
      refine o_callW (fun w v w' => ∃ (v0 : Value) (c0 : List Value), v = v0 ∧ Els (RI .u8) 1 r3 c0 ∧ Iv w [] μ μ [row 5 1 v0 r3.length c0] w') cf15 hA rfl ((by obtain ⟨μ2, hle2, hsv3, hI⟩ := hI.freezeRow 1 rfl; have hS2 : Slc (RI .u8) 1 μ2 v4 (s1 ++ ((x0.Ins.getD s2.toNat default).From.Tx)) := ⟨_, hE4, hsv3⟩; exact (compact_Four.c μ2 _ hI.agr (s1 ++ ((x0.Ins.getD s2.toNat default).From.Tx)) v4 hS2 ((x0.Ins.getD s2.toNat default).From.N) hw1.2.1 r3 hr3).mono fun _ _ ⟨v, he, b0, b1, hv, f0, hi⟩ => ⟨v, he, b0, b1, hv, f0, hi.low hle2⟩)) rfl fun v5 a w hz5 hA => ?_
      obtain ⟨_, cs5, rfl, hE5, hi3⟩ := hz5
      have hI := hI.call hi3
      refine o_nil <| ⟨(.inr (hI.sl [1, 3, 4] rfl)), ?_⟩
      refine gE 9 hA rfl (.inr (hI.sl [1, 3, 4] rfl)) (fun _ => r_as hA rfl) fun a hA => ?_
      refine gN <| hN9 _ _ <| w_seq fun _ hN10 => ?_
      refine w_anyS [] mo (fun w (h : Iv w0 [] μ μ [row 5 1 v5 r3.length cs5, cel g2 [av .u8 32 ((x0.Ins.getD s2.toNat default).From.Tx), [.int .u32 ((x0.Ins.getD s2.toNat default).From.N)], [v3], [.int .u32 ((x0.Ins.getD s2.toNat default).Seq)]] 36, row 5 1 v4 (s1 ++ ((x0.Ins.getD s2.toNat default).From.Tx)).length (ccs1 ++ ([av .u8 32 ((x0.Ins.getD s2.toNat default).From.Tx)].flatten)), row 5 1 v1 r1.length cs1, cel g1 [[.int .u32 x0.Version], [u0_0], [u0_1], [.int .u32 x0.Time]] 26] w) => (h.sl [0, 1, 2, 3, 4] rfl : Iv w0 [] μ μ [row 5 1 v5 r3.length cs5, cel g2 [av .u8 32 ((x0.Ins.getD s2.toNat default).From.Tx), [.int .u32 ((x0.Ins.getD s2.toNat default).From.N)], [v3], [.int .u32 ((x0.Ins.getD s2.toNat default).Seq)]] 36, row 5 1 v4 (s1 ++ ((x0.Ins.getD s2.toNat default).From.Tx)).length (ccs1 ++ ([av .u8 32 ((x0.Ins.getD s2.toNat default).From.Tx)].flatten)), row 5 1 v1 r1.length cs1, cel g1 [[.int .u32 x0.Version], [u0_0], [u0_1], [.int .u32 x0.Time]] 26] w)) hI fun w hI => ?_
      refine gE 0 hA rfl (.inr hI) (fun _ => r_mv hA rfl) fun a hA => ?_
      refine gE 1 hA rfl (.inr hI) (fun _ => r_fd (k := 33) Try.underlying36 rfl sz34 hA rfl rfl) fun a hA => ?_
      refine gT 2 hA rfl hI (fun w hI => r_ld1 (j := 1) [av .u8 32 ((x0.Ins.getD s2.toNat default).From.Tx), [.int .u32 ((x0.Ins.getD s2.toNat default).From.N)]] [[.int .u32 ((x0.Ins.getD s2.toNat default).Seq)]] Try.underlying34 rfl hI rfl hA rfl rfl) fun a hA => ?_
      obtain ⟨_, hsl5⟩ := Slc.sv hw1.2.2.1
      refine gE 3 hA rfl (.inr hI) (fun _ => r_slen Try.underlying34 hsl5 hA rfl) fun a hA => ?_
      refine gE 4 hA rfl (.inr hI) (fun _ => r_conv Try.underlying3 Try.underlying37 hA rfl) fun a hA => ?_
      refine gE 6 hA rfl (.inr hI) (fun _ => r_fd (k := 33) Try.underlying36 rfl sz34 hA rfl rfl) fun a hA => ?_
      refine gT 7 hA rfl hI (fun w hI => r_ld1 (j := 1) [av .u8 32 ((x0.Ins.getD s2.toNat default).From.Tx), [.int .u32 ((x0.Ins.getD s2.toNat default).From.N)]] [[.int .u32 ((x0.Ins.getD s2.toNat default).Seq)]] Try.underlying34 rfl hI rfl hA rfl rfl) fun a hA => ?_
      refine gF 5 rfl ?_
      obtain ⟨r4, hr4, H⟩ := bB H
      refine o_callW (fun w v w' => ∃ (v0 : Value) (c0 : List Value), v = v0 ∧ Els (RI .u8) 1 r4 c0 ∧ Iv w [] μ μ [row 5 1 v0 r4.length c0] w') cf16 hA rfl ((by obtain ⟨μ3, hle3, hsv4, hI⟩ := hI.freezeRow 0 rfl; have hS3 : Slc (RI .u8) 1 μ3 v5 r3 := ⟨_, hE5, hsv4⟩; exact (compact_Put.c μ3 _ hI.agr r3 v5 hS3 (IntKind.u64.wrap (((x0.Ins.getD s2.toNat default).Key).length : Int)) (wrap_in _ _) r4 hr4).mono fun _ _ ⟨v, he, b0, b1, hv, f0, hi⟩ => ⟨v, he, b0, b1, hv, f0, hi.low hle3⟩)) rfl fun v6 a w hz6 hA => ?_
      obtain ⟨_, cs6, rfl, hE6, hi4⟩ := hz6
      have hI := hI.call hi4
      refine o_nil <| ⟨(.inr (hI.sl [1, 2, 3, 4, 5] rfl)), ?_⟩
      refine gF 8 rfl ?_
      obtain ⟨cs7, hE7, hsv5⟩ : Slc (RI .u8) 1 μ v3 ((x0.Ins.getD s2.toNat default).Key) := id (hw1.2.2.1)
      obtain ⟨hb3, H⟩ := bG H
      have hE8 := hE6.app hE7
      refine o_appG (xs := (r4 : List Int)) (ys := ((x0.Ins.getD s2.toNat default).Key : List Int)) (M := 140737488355328) 0 te5 Try.underlying34 hI rfl hA rfl rfl (src_sl hI.agr hsv5 hE7.len) hE7.len (hE7.ones (one_RI _)) hb3 rfl fun v7 a w hA hI => ?_
      refine o_nil <| ⟨(.inr (hI.sl [1, 2, 3, 4, 5] rfl)), ?_⟩
      refine gE 9 hA rfl (.inr (hI.sl [1, 2, 3, 4, 5] rfl)) (fun _ => r_as hA rfl) fun a hA => ?_
      refine gN <| hN10 _ _ <| w_reg <| stm hA rfl rfl fun a hA => 
        stp hA (r_fd (k := 34) Try.underlying36 rfl sz22 hA rfl rfl) rfl fun a hA => 
        stp hA (r_ld1 (j := 2) [av .u8 32 ((x0.Ins.getD s2.toNat default).From.Tx), [.int .u32 ((x0.Ins.getD s2.toNat default).From.N)], [v3]] [] Try.underlying22 rfl hI rfl hA rfl rfl) rfl fun a hA => ?_
      obtain ⟨r5, hr5, H⟩ := bB H
      refine o_callW (fun w v w' => ∃ (v0 : Value) (c0 : List Value), v = v0 ∧ Els (RI .u8) 1 r5 c0 ∧ Iv w [] μ μ [row 5 1 v0 r5.length c0] w') cf15 hA rfl ((by obtain ⟨μ4, hle4, hsv6, hI⟩ := hI.freezeRow 0 rfl; have hS4 : Slc (RI .u8) 1 μ4 v7 (r4 ++ ((x0.Ins.getD s2.toNat default).Key)) := ⟨_, hE8, hsv6⟩; exact (compact_Four.c μ4 _ hI.agr (r4 ++ ((x0.Ins.getD s2.toNat default).Key)) v7 hS4 ((x0.Ins.getD s2.toNat default).Seq) hw1.2.2.2 r5 hr5).mono fun _ _ ⟨v, he, b0, b1, hv, f0, hi⟩ => ⟨v, he, b0, b1, hv, f0, hi.low hle4⟩)) rfl fun v8 a w hz7 hA => ?_
      obtain ⟨_, cs9, rfl, hE9, hi5⟩ := hz7
      have hI := hI.call hi5
      refine sta hA rfl rfl fun a hA => ?_
      refine o_nil <| hN7 _ _ <| w_reg <| stp hA (r_add hA rfl rfl) rfl fun a hA => 
        stm hA rfl rfl fun a hA => ?_
      refine o_nil <| ⟨m1, Nat.lt_succ_self _, r5, IntKind.i64.wrap (s2 + 1), v8, cs9, H, hE9, (wrap_in _ _), hA.sub ⟨rfl, rfl, rfl, rfl, rfl, rfl, trivial⟩, (hI.sl [0, 5, 6] rfl)⟩
    · obtain ⟨hc1, H⟩ := dF H hc1
      refine w_exit rfl ?_
      have H : some s1 = some z1 := H
      obtain rfl := sI H
      have H := Hk2
      cases sJ H
      exact ⟨vvs1, ccs1, ws1, hA.sub ⟨rfl, rfl, rfl, trivial⟩, hI⟩
  · rintro a w ⟨vvc1, ccc1, wc1, hA, hI⟩
    have H := Hk1
    refine w_seq fun _ hN11 => w_reg <| stm hA rfl rfl fun a hA => 
      stp hA (r_fd (k := 2) Try.underlying26 rfl sz24 hA rfl rfl) rfl fun a hA => 
      stp hA (r_ld1 (j := 2) [[.int .u32 x0.Version], [u0_0]] [[.int .u32 x0.Time]] Try.underlying24 rfl hI rfl hA rfl rfl) rfl fun a hA => ?_
    obtain ⟨_, hsl6⟩ := Slc.sv hx0.2.2.1
    refine stp hA (r_slen Try.underlying24 hsl6 hA rfl) rfl fun a hA => 
      stp hA (r_conv Try.underlying3 Try.underlying37 hA rfl) rfl fun a hA => ?_
    obtain ⟨r6, hr6, H⟩ := bB H
    refine o_callW (fun w v w' => ∃ (v0 : Value) (c0 : List Value), v = v0 ∧ Els (RI .u8) 1 r6 c0 ∧ Iv w [] μ μ [row 5 1 v0 r6.length c0] w') cf16 hA rfl ((by obtain ⟨μ5, hle5, hsv7, hI⟩ := hI.freezeRow 0 rfl; have hS5 : Slc (RI .u8) 1 μ5 vvc1 c1 := ⟨_, wc1, hsv7⟩; exact (compact_Put.c μ5 _ hI.agr c1 vvc1 hS5 (IntKind.u64.wrap (x0.Outs.length : Int)) (wrap_in _ _) r6 hr6).mono fun _ _ ⟨v, he, b0, b1, hv, f0, hi⟩ => ⟨v, he, b0, b1, hv, f0, hi.low hle5⟩)) rfl fun v9 a w hz8 hA => ?_
    obtain ⟨_, cs10, rfl, hE10, hi6⟩ := hz8
    have hI := hI.call hi6
    refine sta hA rfl rfl fun a hA => ?_
    refine o_nil <| hN11 _ _ ?_
    obtain ⟨c2, hz9, Hk3⟩ := bB H
    refine w_cut (fun a w => ∃ (vvc2 : Value) (ccc2 : List Value), Els (RI .u8) 1 c2 ccc2 ∧ Fr a 72 [(1, .pointer (some ⟨g1, 0, none⟩)), (2, (.slice none 0 0)), (3, vvc2)] ∧ Iv w0 [] μ μ [row 5 1 vvc2 c2.length ccc2, row 5 1 vvc1 c1.length ccc1, row 5 1 v1 r1.length cs1, cel g1 [[.int .u32 x0.Version], [u0_0], [u0_1], [.int .u32 x0.Time]] 26] w) ?_ ?_
    · have H := bI hz9
      refine w_seq fun _ hN12 => w_reg <| stp hA (r_fd (k := 2) Try.underlying26 rfl sz24 hA rfl rfl) rfl fun a hA => 
        stp hA (r_ld1 (j := 3) [[.int .u32 x0.Version], [u0_0]] [[.int .u32 x0.Time]] Try.underlying24 rfl hI rfl hA rfl rfl) rfl fun a hA => ?_
      obtain ⟨_, hsl7⟩ := Slc.sv hx0.2.2.1
      refine stp hA (r_slen Try.underlying24 hsl7 hA rfl) rfl fun a hA => 
        stm hA rfl rfl fun a hA => ?_
      refine o_nil <| hN12 _ _ <| w_block ?_
      obtain ⟨z2, hz10, Hk4⟩ := bind_some H
      obtain ⟨n2, hn2⟩ := loopO_some hz10
      refine w_loop (fun n a w => ∃ (s3 : List Int) (s4 : Int) (vvs3 : Value) (ccs3 : List Value), loopN (tx_Bytes.s1 x0) n (s3, s4) = some z2 ∧ Els (RI .u8) 1 s3 ccs3 ∧ InR .i64 s4 ∧ Fr a 72 [(1, .pointer (some ⟨g1, 0, none⟩)), (2, (.slice none 0 0)), (3, vvs3), (54, u0_1), (55, .int .i64 (x0.Outs.length : Int)), (56, .int .i64 s4)] ∧ Iv w0 [] μ μ [row 5 1 vvs3 s3.length ccs3, row 5 1 vvc1 c1.length ccc1, row 5 1 v1 r1.length cs1, cel g1 [[.int .u32 x0.Version], [u0_0], [u0_1], [.int .u32 x0.Time]] 26] w) n2 ⟨r6, 0, v9, cs10, hn2, hE10, (in_lit .i64 0 rfl), hA.sub ⟨rfl, rfl, rfl, rfl, rfl, rfl, trivial⟩, hI⟩ ?_
      clear hA hI
      rintro n a w ⟨s3, s4, vvs3, ccs3, hn2, ws3, ws4, hA, hI⟩
      obtain ⟨m2, rfl, H⟩ := loopN_bind hn2
      clear hn2
      refine w_seq fun _ hN13 => w_reg <| stp hA (r_lss hA rfl rfl) rfl fun a hA => ?_
      refine o_nil <| hN13 _ _ <| w_seq fun _ hN14 => w_cond hA rfl (fun hc2 => ?_) (fun hc2 => ?_)
      · obtain ⟨hc2, H⟩ := dT H hc2
        refine w_skip <| hN14 _ _ <| w_seq fun _ hN15 => w_block <| w_seq fun _ hN16 => w_reg ?_
        obtain ⟨hb4, H⟩ := bG H
        obtain ⟨_, he2, _, hat2⟩ := Slc.elem hx0.2.2.1 (getD_some default hb4.1 hb4.2)
        obtain ⟨rfl, hw2⟩ := he2
        obtain ⟨_, hsl8⟩ := Slc.sv hx0.2.2.1
        refine stp hA (r_six Try.underlying24 sz39 hsl8 hA rfl rfl hb4.1 hb4.2) rfl fun a hA => 
          stp hA (r_ldmA [] [[.int .u64 ((x0.Outs.getD s4.toNat default).Value)], av .u8 32 ((x0.Outs.getD s4.toNat default).Lock)] [] Try.underlying39 rfl sz39 rfl hI.agr hat2 hA rfl rfl) rfl fun a hA => 
          o_new [[.int .u64 0], av .u8 32 (List.replicate 32 0)] zr39 hI hA rfl fun g3 a w hA hI hg3 => 
          o_st (j := 0) [] [[.int .u64 0], av .u8 32 (List.replicate 32 0)] [[.int .u64 ((x0.Outs.getD s4.toNat default).Value)], av .u8 32 ((x0.Outs.getD s4.toNat default).Lock)] [] sz39 rfl rfl (fl_cons (oneC rfl) (fl_cons (one_av _ _ _) fl_nil)) hI rfl hA rfl rfl rfl rfl fun w hI => ?_
        refine o_nil <| hN16 _ _ ?_
        refine w_anyS [] mo (fun w (h : Iv w0 [] μ μ [cel g3 [[.int .u64 ((x0.Outs.getD s4.toNat default).Value)], av .u8 32 ((x0.Outs.getD s4.toNat default).Lock)] 39, row 5 1 vvs3 s3.length ccs3, row 5 1 vvc1 c1.length ccc1, row 5 1 v1 r1.length cs1, cel g1 [[.int .u32 x0.Version], [u0_0], [u0_1], [.int .u32 x0.Time]] 26] w) => (h.sl [0, 1, 2, 3, 4] rfl : Iv w0 [] μ μ [cel g3 [[.int .u64 ((x0.Outs.getD s4.toNat default).Value)], av .u8 32 ((x0.Outs.getD s4.toNat default).Lock)] 39, row 5 1 vvs3 s3.length ccs3, row 5 1 vvc1 c1.length ccc1, row 5 1 v1 r1.length cs1, cel g1 [[.int .u32 x0.Version], [u0_0], [u0_1], [.int .u32 x0.Time]] 26] w)) hI fun w hI => ?_
        refine gE 0 hA rfl (.inr hI) (fun _ => r_mv hA rfl) fun a hA => ?_
        refine gE 1 hA rfl (.inr hI) (fun _ => r_fd (k := 0) Try.underlying39 rfl sz37 hA rfl rfl) fun a hA => ?_
        refine gT 2 hA rfl hI (fun w hI => r_ld1 (j := 0) [] [av .u8 32 ((x0.Outs.getD s4.toNat default).Lock)] Try.underlying37 rfl hI rfl hA rfl rfl) fun a hA => ?_
        refine gE 4 hA rfl (.inr hI) (fun _ => r_fd (k := 1) Try.underlying39 rfl sz31 hA rfl rfl) fun a hA => ?_
        refine gE 5 hA rfl (.inr hI) (fun _ => r_slv (i := 0) (j := 32) Try.underlying31 sz5 hA rfl rfl rfl (by decide) (by decide) (by decide) (by decide) rfl) fun a hA => ?_
        refine gF 3 rfl ?_
        obtain ⟨r7, hr7, H⟩ := bB H
        refine o_callW (fun w v w' => ∃ (v0 : Value) (c0 : List Value), v = v0 ∧ Els (RI .u8) 1 r7 c0 ∧ Iv w [] μ μ [row 5 1 v0 r7.length c0] w') cf17 hA rfl ((by obtain ⟨μ6, hle6, hsv8, hI⟩ := hI.freezeRow 1 rfl; have hS6 : Slc (RI .u8) 1 μ6 vvs3 s3 := ⟨_, ws3, hsv8⟩; exact (compact_Eight.c μ6 _ hI.agr s3 vvs3 hS6 ((x0.Outs.getD s4.toNat default).Value) hw2.1 r7 hr7).mono fun _ _ ⟨v, he, b0, b1, hv, f0, hi⟩ => ⟨v, he, b0, b1, hv, f0, hi.low hle6⟩)) rfl fun v10 a w hz11 hA => ?_
        obtain ⟨_, cs11, rfl, hE11, hi7⟩ := hz11
        have hI := hI.call hi7
        refine o_nil <| ⟨(.inr (hI.sl [1, 2, 3, 4, 5] rfl)), ?_⟩
        refine gF 6 rfl ?_
        have hE12 := els_av hw2.2
        obtain ⟨hb5, H⟩ := bG H
        have hE13 := hE11.app hE12
        refine o_appG (xs := (r7 : List Int)) (ys := ((x0.Outs.getD s4.toNat default).Lock : List Int)) (M := 140737488355328) 0 te5 Try.underlying34 hI rfl hA rfl rfl (by simpa using src_cel [[.int .u64 ((x0.Outs.getD s4.toNat default).Value)]] [] hI (j := 1) rfl hw2.2 rfl) hE12.len (hE12.ones (one_RI _)) hb5 rfl fun v11 a w hA hI => ?_
        refine o_nil <| ⟨(.inr (hI.sl [1, 2, 3, 4, 5] rfl)), ?_⟩
        refine gE 7 hA rfl (.inr (hI.sl [1, 2, 3, 4, 5] rfl)) (fun _ => r_as hA rfl) fun a hA => ?_
        refine gN <| hN15 _ _ <| w_reg <| stp hA (r_add hA rfl rfl) rfl fun a hA => 
          stm hA rfl rfl fun a hA => ?_
        refine o_nil <| ⟨m2, Nat.lt_succ_self _, r7 ++ ((x0.Outs.getD s4.toNat default).Lock), IntKind.i64.wrap (s4 + 1), v11, cs11 ++ ([av .u8 32 ((x0.Outs.getD s4.toNat default).Lock)].flatten), H, hE13, (wrap_in _ _), hA.sub ⟨rfl, rfl, rfl, rfl, rfl, rfl, trivial⟩, (hI.sl [0, 3, 4, 5] rfl)⟩
      · obtain ⟨hc2, H⟩ := dF H hc2
        refine w_exit rfl ?_
        have H : some s3 = some z2 := H
        obtain rfl := sI H
        have H := Hk4
        cases sJ H
        exact ⟨vvs3, ccs3, ws3, hA.sub ⟨rfl, rfl, rfl, trivial⟩, hI⟩
    · rintro a w ⟨vvc2, ccc2, wc2, hA, hI⟩
      have H := Hk3
      refine w_seq fun _ hN17 => w_reg <| stm hA rfl rfl fun a hA => 
        stp hA (r_fd (k := 3) Try.underlying26 rfl sz22 hA rfl rfl) rfl fun a hA => 
        stp hA (r_ld1 (j := 3) [[.int .u32 x0.Version], [u0_0], [u0_1]] [] Try.underlying22 rfl hI rfl hA rfl rfl) rfl fun a hA => ?_
      obtain ⟨r8, hr8, H⟩ := bB H
      refine o_callW (fun w v w' => ∃ (v0 : Value) (c0 : List Value), v = v0 ∧ Els (RI .u8) 1 r8 c0 ∧ Iv w [] μ μ [row 5 1 v0 r8.length c0] w') cf15 hA rfl ((by obtain ⟨μ7, hle7, hsv10, hI⟩ := hI.freezeRow 0 rfl; have hS7 : Slc (RI .u8) 1 μ7 vvc2 c2 := ⟨_, wc2, hsv10⟩; exact (compact_Four.c μ7 _ hI.agr c2 vvc2 hS7 x0.Time hx0.2.2.2 r8 hr8).mono fun _ _ ⟨v, he, b0, b1, hv, f0, hi⟩ => ⟨v, he, b0, b1, hv, f0, hi.low hle7⟩)) rfl fun v12 a w hz12 hA => ?_
      obtain ⟨_, cs14, rfl, hE14, hi8⟩ := hz12
      have hI := hI.call hi8
      refine sta hA rfl rfl fun a hA => ?_
      refine o_nil <| hN17 _ _ <| w_ret ?_
      obtain rfl := sJ H
      exact ret1 hA Try.results8 rfl ⟨_, rfl, v12, cs14, rfl, hE14, ((hI.sl [0] rfl).less (Store.le.refl _) hI.le)⟩
set_option maxRecDepth 20000 in
theorem tx_Size.c (μ : Store) (w0 : World) (hμ : Agr μ w0) (x0 : Tx) (u0_0 : Value) (u0_1 : Value) (hx0 : TxW μ x0 u0_0 u0_1) (r : Int) (H : tx_Size.f x0 = some r) :
    Calls Try.prog 9 [.agg [[.int .u32 x0.Version], [u0_0], [u0_1], [.int .u32 x0.Time]].flatten.toArray].toArray w0 (fun e w' => ∃ v, e = .returned v ∧ v = .int .i64 r ∧ InR .i64 r ∧ Iv w0 [] μ μ [] w') := by
  refine enter Try.func9 rfl Try.ntmps9 rfl fun a hA => ?_
  have hI := Iv.start hμ
  have H := bI H
  refine w_seq fun _ hN1 => w_reg <| o_box [[.int .u32 x0.Version], [u0_0], [u0_1], [.int .u32 x0.Time]] hI hA rfl rfl rfl fun g1 a w hA hI hg1 => 
    sta hA rfl rfl fun a hA => ?_
  refine o_nil <| hN1 _ _ <| w_seq fun _ hN2 => w_reg <| stp hA (r_ldA (j := 0) [] [[.int .u32 x0.Version], [u0_0], [u0_1], [.int .u32 x0.Time]] [] Try.underlying26 rfl sz26 rfl hI rfl hA rfl rfl) rfl fun a hA => ?_
  obtain ⟨r1, hr1, H⟩ := bB H
  refine o_call _ cf8 hA rfl (tx_Bytes.c μ _ hI.agr x0 u0_0 u0_1 ⟨hx0.1, hx0.2.1, hx0.2.2.1, hx0.2.2.2⟩ r1 hr1) rfl fun v1 a w hz1 hA => ?_
  obtain ⟨_, cs1, rfl, hE1, hi1⟩ := hz1
  have hI := hI.call hi1
  have hlen1 := Iv.row_in hI (j := 0) rfl
  refine stp hA (r_rlen (xs := 0) Try.underlying34 hI (j := 0) rfl hA rfl) rfl fun a hA => 
    sta hA rfl rfl fun a hA => ?_
  refine o_nil <| hN2 _ _ <| w_ret ?_
  obtain rfl := sJ H
  exact ret1 hA Try.results9 rfl ⟨_, rfl, rfl, hlen1, hI.forget0⟩
set_option maxRecDepth 20000 in
theorem slices_Clone_api_In_api_In.c (μ : Store) (w0 : World) (hμ : Agr μ w0) (x0 : List In) (u0 : Value) (hx0 : Slc (RIn μ) 35 μ u0 x0) (r : List In) (H : slices_Clone_api_In_api_In.f x0 = some r) :
    Calls Try.prog 10 [u0].toArray w0 (fun e w' => ∃ v, e = .returned v ∧ ∃ (v0 : Value) (c0 : List Value) (μ' : Store), v = v0 ∧ Els (RIn μ') 35 r c0 ∧ Iv w0 [] μ μ' [row 36 35 v0 r.length c0] w') := by
  obtain ⟨hb, H⟩ := guard_some H
  obtain rfl := sI H
  obtain ⟨cs, hE, A, cp, rfl, h2, h3, h4, h5⟩ := hx0
  refine enter Try.func10 rfl Try.ntmps10 rfl fun a hA => ?_
  have hI := Iv.start hμ
  refine w_seq fun _ hN1 => w_reg (stp hA (r_as hA rfl) rfl fun a hA => o_nil (hN1 _ _ ?_))
  refine w_seq fun _ hN2 => w_seq fun _ hN3 => w_reg (stp hA (r_mv hA rfl) rfl fun a hA => stp hA (r_eqnil Try.underlying23 hA rfl rfl) rfl fun a hA => o_nil (hN3 _ _ ?_))
  refine w_cond hA rfl (fun hc => ?_) (fun hc => ?_)
  · have hx : x0 = [] := List.eq_nil_of_length_eq_zero (by
      rcases Nat.eq_zero_or_pos x0.length with h | h
      · exact h
      · rw [h4 (by omega)] at hc; cases hc)
    subst hx
    cases hE
    refine w_seq fun _ hN4 => w_reg (stp hA (r_as hA rfl) rfl fun a hA => o_nil (hN4 _ _ ?_))
    refine w_ret ?_
    have hI := hI.nilRow 36 35
    exact ret1 hA Try.results10 rfl ⟨_, rfl, .slice none 0 0, [], μ, rfl, .nil, hI⟩
  · refine w_skip (hN2 _ _ ?_)
    refine w_seq fun _ hN5 => w_reg ?_
    refine o_bsl [] te36 zr36 Try.underlying23 hI hA rfl rfl rfl rfl (by kernel_rfl) rfl fun g a w hA hI => ?_
    refine stp hA (r_mv hA rfl) rfl fun a hA => ?_
    refine o_appL (xs := ([] : List In)) (ys := x0) (j := 0) te36 Try.underlying23 hI rfl hA rfl rfl (src_sl hI.agr ⟨A, cp, rfl, h2, h3, h4, h5⟩ hE.len) hE.len (hE.ones RIn.ones) (by simp only [List.length_nil, maxLen]; omega) (by simp only [List.length_nil]; omega) rfl fun v a w hA hI => ?_
    refine stp hA (r_as hA rfl) rfl fun a hA => o_nil (hN5 _ _ (w_ret ?_))
    exact ret1 hA Try.results10 rfl ⟨_, rfl, v, cs, μ, rfl, hE, hI⟩
set_option maxRecDepth 20000 in
theorem slices_Clone_api_Out_api_Out.c (μ : Store) (w0 : World) (hμ : Agr μ w0) (x0 : List Out) (u0 : Value) (hx0 : Slc (ROut μ) 33 μ u0 x0) (r : List Out) (H : slices_Clone_api_Out_api_Out.f x0 = some r) :
    Calls Try.prog 11 [u0].toArray w0 (fun e w' => ∃ v, e = .returned v ∧ ∃ (v0 : Value) (c0 : List Value), v = v0 ∧ Els (ROut μ) 33 r c0 ∧ Iv w0 [] μ μ [row 39 33 v0 r.length c0] w') := by
  obtain ⟨hb, H⟩ := guard_some H
  obtain rfl := sI H
  obtain ⟨cs, hE, A, cp, rfl, h2, h3, h4, h5⟩ := hx0
  refine enter Try.func11 rfl Try.ntmps11 rfl fun a hA => ?_
  have hI := Iv.start hμ
  refine w_seq fun _ hN1 => w_reg (stp hA (r_as hA rfl) rfl fun a hA => o_nil (hN1 _ _ ?_))
  refine w_seq fun _ hN2 => w_seq fun _ hN3 => w_reg (stp hA (r_mv hA rfl) rfl fun a hA => stp hA (r_eqnil Try.underlying24 hA rfl rfl) rfl fun a hA => o_nil (hN3 _ _ ?_))
  refine w_cond hA rfl (fun hc => ?_) (fun hc => ?_)
  · have hx : x0 = [] := List.eq_nil_of_length_eq_zero (by
      rcases Nat.eq_zero_or_pos x0.length with h | h
      · exact h
      · rw [h4 (by omega)] at hc; cases hc)
    subst hx
    cases hE
    refine w_seq fun _ hN4 => w_reg (stp hA (r_as hA rfl) rfl fun a hA => o_nil (hN4 _ _ ?_))
    refine w_ret ?_
    have hI := hI.nilRow 39 33
    exact ret1 hA Try.results11 rfl ⟨_, rfl, .slice none 0 0, [], rfl, .nil, hI⟩
  · refine w_skip (hN2 _ _ ?_)
    refine w_seq fun _ hN5 => w_reg ?_
    refine o_bsl [] te39 zr39 Try.underlying24 hI hA rfl rfl rfl rfl (by kernel_rfl) rfl fun g a w hA hI => ?_
    refine stp hA (r_mv hA rfl) rfl fun a hA => ?_
    refine o_appL (xs := ([] : List Out)) (ys := x0) (j := 0) te39 Try.underlying24 hI rfl hA rfl rfl (src_sl hI.agr ⟨A, cp, rfl, h2, h3, h4, h5⟩ hE.len) hE.len (hE.ones ROut.ones) (by simp only [List.length_nil, maxLen]; omega) (by simp only [List.length_nil]; omega) rfl fun v a w hA hI => ?_
    refine stp hA (r_as hA rfl) rfl fun a hA => o_nil (hN5 _ _ (w_ret ?_))
    exact ret1 hA Try.results11 rfl ⟨_, rfl, v, cs, rfl, hE, hI⟩
set_option maxRecDepth 20000 in
theorem tx_Clone.c (μ : Store) (w0 : World) (hμ : Agr μ w0) (x0 : Tx) (u0_0 : Value) (u0_1 : Value) (hx0 : TxW μ x0 u0_0 u0_1) (r : Tx) (H : tx_Clone.f x0 = some r) :
    Calls Try.prog 6 [.agg [[.int .u32 x0.Version], [u0_0], [u0_1], [.int .u32 x0.Time]].flatten.toArray].toArray w0 (fun e w' => ∃ v, e = .returned v ∧ ∃ (v0_0 : Value) (v0_1 : Value) (μ' : Store), v = .agg [[.int .u32 r.Version], [v0_0], [v0_1], [.int .u32 r.Time]].flatten.toArray ∧ TxW μ' r v0_0 v0_1 ∧ Iv w0 [] μ μ' [] w') := by
  refine enter Try.func6 rfl Try.ntmps6 rfl fun a hA => ?_
  have hI := Iv.start hμ
  have H := bI H
  refine w_seq fun _ hN1 => w_reg <| o_box [[.int .u32 x0.Version], [u0_0], [u0_1], [.int .u32 x0.Time]] hI hA rfl rfl rfl fun g1 a w hA hI hg1 => 
    o_new [[.int .u32 0], [(.slice none 0 0)], [(.slice none 0 0)], [.int .u32 0]] zr26 hI hA rfl fun g2 a w hA hI hg2 => ?_
  refine o_nil <| hN1 _ _ <| w_seq fun _ hN2 => ?_
  refine w_any [7, 9] mo hI fun w hI => ?_
  refine gE 0 hA rfl (.inr hI) (fun _ => r_fd (k := 1) Try.underlying26 rfl sz23 hA rfl rfl) fun a hA => ?_
  refine gT 1 hA rfl hI (fun w hI => r_ld1 (j := 1) [[.int .u32 x0.Version]] [[u0_1], [.int .u32 x0.Time]] Try.underlying23 rfl hI rfl hA rfl rfl) fun a hA => ?_
  refine gE 3 hA rfl (.inr hI) (fun _ => r_fd (k := 2) Try.underlying26 rfl sz24 hA rfl rfl) fun a hA => ?_
  refine gT 4 hA rfl hI (fun w hI => r_ld1 (j := 1) [[.int .u32 x0.Version], [u0_0]] [[.int .u32 x0.Time]] Try.underlying24 rfl hI rfl hA rfl rfl) fun a hA => ?_
  refine gF 2 rfl ?_
  obtain ⟨r1, hr1, H⟩ := bB H
  refine o_call _ cf10 hA rfl (slices_Clone_api_In_api_In.c μ _ hI.agr x0.Ins u0_0 hx0.2.1 r1 hr1) rfl fun v1 a w hz1 hA => ?_
  obtain ⟨_, cs1, μ1, rfl, hE1, hi1⟩ := hz1
  have hI := hI.call hi1
  refine o_nil <| ⟨(.inr ((hI.sl [1, 2] rfl).less (Store.le.refl _) hi1.le)), ?_⟩
  refine gE 6 hA rfl (.inr ((hI.sl [1, 2] rfl).less (Store.le.refl _) hi1.le)) (fun _ => r_fd (k := 1) Try.underlying26 rfl sz23 hA rfl rfl) fun a hA => ?_
  refine gF 5 rfl ?_
  obtain ⟨r2, hr2, H⟩ := bB H
  refine o_call _ cf11 hA rfl (slices_Clone_api_Out_api_Out.c μ1 _ hI.agr x0.Outs u0_1 (Slc.le hx0.2.2.1 (fun _ _ h => ROut.le hi1.le h) hi1.le) r2 hr2) rfl fun v2 a w hz2 hA => ?_
  obtain ⟨_, cs2, rfl, hE2, hi2⟩ := hz2
  have hI := hI.call hi2
  refine o_nil <| ⟨(.inr ((hI.sl [2, 3] rfl).less (Store.le.refl _) hi1.le)), ?_⟩
  refine gF 7 rfl ?_
  have hone := own_one hI (j := 1) rfl
  have hcel := own_cell hI (j := 1) rfl
  refine o_st (j := 3) [[.int .u32 x0.Version]] [[u0_0]] [[v1]] [[u0_1], [.int .u32 x0.Time]] sz23 rfl rfl (by intro c hc; simp at hc; subst hc; exact hone) hI rfl hA rfl rfl hcel rfl fun w hI => ?_
  refine o_nil <| ⟨(.inl (by kernel_rfl)), ?_⟩
  refine gE 8 hA rfl (.inl (by kernel_rfl)) (fun _ => r_fd (k := 2) Try.underlying26 rfl sz24 hA rfl rfl) fun a hA => ?_
  refine gF 9 rfl ?_
  have hone := own_one hI (j := 0) rfl
  have hcel := own_cell hI (j := 0) rfl
  refine o_st (j := 3) [[.int .u32 x0.Version], [v1]] [[u0_1]] [[v2]] [[.int .u32 x0.Time]] sz24 rfl rfl (by intro c hc; simp at hc; subst hc; exact hone) hI rfl hA rfl rfl hcel rfl fun w hI => ?_
  refine o_nil <| ⟨(.inl (by kernel_rfl)), ?_⟩
  refine gN <| hN2 _ _ ?_
  obtain ⟨c1, hz3, Hk1⟩ := bB H
  refine w_cut (fun a w => ∃ (μ2 : Store) (ccc1 : List Value), μ1.le μ2 ∧ Els (RIn μ2) 35 c1 ccc1 ∧ Fr a 32 [(1, .pointer (some ⟨g1, 0, none⟩)), (2, .pointer (some ⟨g2, 0, none⟩))] ∧ Iv w0 [] μ μ2 [row 39 33 v2 r2.length cs2, row 36 35 v1 c1.length ccc1, cel g2 [[.int .u32 0], [(.slice none 0 0)], [(.slice none 0 0)], [.int .u32 0]] 26, cel g1 [[.int .u32 x0.Version], [v1], [v2], [.int .u32 x0.Time]] 26] w) ?_ ?_
  · have H := bI hz3
    refine w_seq fun _ hN3 => w_reg <| stp hA (r_fd (k := 1) Try.underlying26 rfl sz23 hA rfl rfl) rfl fun a hA => 
      stp hA (r_ld1 (j := 3) [[.int .u32 x0.Version]] [[v2], [.int .u32 x0.Time]] Try.underlying23 rfl hI rfl hA rfl rfl) rfl fun a hA => ?_
    have hlen1 := Iv.row_in hI (j := 1) rfl
    refine stp hA (r_rlen (xs := 0) Try.underlying23 hI (j := 1) rfl hA rfl) rfl fun a hA => 
      stm hA rfl rfl fun a hA => ?_
    refine o_nil <| hN3 _ _ <| w_block ?_
    obtain ⟨z1, hz4, Hk2⟩ := bind_some H
    obtain ⟨n1, hn1⟩ := loopO_some hz4
    refine w_loop (fun n a w => ∃ (s1 : Int) (s2 : List In) (μ3 : Store) (ccs2 : List Value), loopN (tx_Clone.s0 r1) n (s1, s2) = some z1 ∧ μ1.le μ3 ∧ InR .i64 s1 ∧ Els (RIn μ3) 35 s2 ccs2 ∧ Fr a 32 [(1, .pointer (some ⟨g1, 0, none⟩)), (2, .pointer (some ⟨g2, 0, none⟩)), (14, .int .i64 (r1.length : Int)), (15, .int .i64 s1)] ∧ Iv w0 [] μ μ3 [row 39 33 v2 r2.length cs2, row 36 35 v1 s2.length ccs2, cel g2 [[.int .u32 0], [(.slice none 0 0)], [(.slice none 0 0)], [.int .u32 0]] 26, cel g1 [[.int .u32 x0.Version], [v1], [v2], [.int .u32 x0.Time]] 26] w) n1 ⟨0, r1, μ1, cs1, hn1, (Store.le.refl _), (in_lit .i64 0 rfl), hE1, hA.sub ⟨rfl, rfl, rfl, rfl, trivial⟩, hI⟩ ?_
    clear hA hI
    rintro n a w ⟨s1, s2, μ3, ccs2, hn1, hle2, ws1, ws2, hA, hI⟩
    obtain ⟨m1, rfl, H⟩ := loopN_bind hn1
    clear hn1
    refine w_seq fun _ hN4 => w_reg <| stp hA (r_lss hA rfl rfl) rfl fun a hA => ?_
    refine o_nil <| hN4 _ _ <| w_seq fun _ hN5 => w_cond hA rfl (fun hc1 => ?_) (fun hc1 => ?_)
    · obtain ⟨hc1, H⟩ := dT H hc1
      refine w_skip <| hN5 _ _ <| w_seq fun _ hN6 => w_block <| w_seq fun _ hN7 => w_reg <| stm hA rfl rfl fun a hA => 
        sta hA rfl rfl fun a hA => ?_
      refine o_nil <| hN7 _ _ ?_
      refine w_any [12] mo hI fun w hI => ?_
      refine gE 0 hA rfl (.inr hI) (fun _ => r_fd (k := 1) Try.underlying26 rfl sz23 hA rfl rfl) fun a hA => ?_
      refine gT 1 hA rfl hI (fun w hI => r_ld1 (j := 3) [[.int .u32 x0.Version]] [[v2], [.int .u32 x0.Time]] Try.underlying23 rfl hI rfl hA rfl rfl) fun a hA => ?_
      refine gE 2 hA rfl (.inr hI) (fun _ => r_mv hA rfl) fun a hA => ?_
      refine gE 3 hA rfl (.inr hI) (fun _ => r_fd (k := 1) Try.underlying26 rfl sz23 hA rfl rfl) fun a hA => ?_
      refine gT 4 hA rfl hI (fun w hI => r_ld1 (j := 3) [[.int .u32 x0.Version]] [[v2], [.int .u32 x0.Time]] Try.underlying23 rfl hI rfl hA rfl rfl) fun a hA => ?_
      refine gE 5 hA rfl (.inr hI) (fun _ => r_mv hA rfl) fun a hA => ?_
      obtain ⟨hb1, H⟩ := bG H
      refine gT 6 hA rfl hI (fun w hI => r_rix (j := 1) Try.underlying23 sz36 hI rfl hA rfl rfl hb1.1 hb1.2) fun a hA => ?_
      refine gE 7 hA rfl (.inr hI) (fun _ => r_fd (k := so v1 + s1.toNat * 35 + 33) Try.underlying36 rfl sz34 hA rfl rfl) fun a hA => ?_
      obtain ⟨A1, _, B1, hc2, hl1, _, he1⟩ := Els.at_ ws2 (getD_some default hb1.1 hb1.2)
      obtain ⟨v3, rfl, hw1⟩ := he1
      refine gT 8 hA rfl hI (fun w hI => r_rldQ (j := 1) (q := s1.toNat * 35) (off := 33) A1 B1 [av .u8 32 ((s2.getD s1.toNat default).From.Tx), [.int .u32 ((s2.getD s1.toNat default).From.N)]] [[.int .u32 ((s2.getD s1.toNat default).Seq)]] hc2 hl1 rfl Try.underlying34 rfl hI rfl hA rfl) fun a hA => ?_
      refine gF 9 rfl ?_
      obtain ⟨r3, hr3, H⟩ := bB H
      refine o_call _ cf12 hA rfl (bytes_Clone.c μ3 _ hI.agr ((s2.getD s1.toNat default).Key) v3 hw1.2.2.1 r3 hr3) rfl fun v4 a w hz5 hA => ?_
      obtain ⟨_, cs3, rfl, hE3, hi3⟩ := hz5
      have hI := hI.call hi3
      refine o_nil <| ⟨(.inr (hI.sl [1, 2, 3, 4] rfl)), ?_⟩
      refine g_mono (I' := fun w => Iv w0 [] μ μ3 [row 5 1 v4 r3.length cs3, row 39 33 v2 r2.length cs2, row 36 35 v1 s2.length ccs2, cel g2 [[.int .u32 0], [(.slice none 0 0)], [(.slice none 0 0)], [.int .u32 0]] 26, cel g1 [[.int .u32 x0.Version], [v1], [v2], [.int .u32 x0.Time]] 26] w) (fun w h => (h.sl [1, 2, 3, 4] rfl)) _ _ _ _ ?_
      refine gT 10 hA rfl hI (fun w hI => r_rix (j := 2) Try.underlying23 sz36 hI rfl hA rfl rfl hb1.1 hb1.2) fun a hA => ?_
      refine gE 11 hA rfl (.inr hI) (fun _ => r_fd (k := so v1 + s1.toNat * 35 + 33) Try.underlying36 rfl sz34 hA rfl rfl) fun a hA => ?_
      refine gF 12 rfl ?_
      obtain ⟨μ4, hle3, hsv1, hI, hth1⟩ := hI.freezeRowT 0 rfl
      have hS1 : Slc (RI .u8) 1 μ4 v4 r3 := ⟨_, hE3, hsv1⟩
      obtain ⟨A2, _, B2, hc3, hl2, hl3, he2⟩ := Els.at_ (Els.mono ws2 (fun _ _ h => RIn.le hle3 h)) (getD_some default hb1.1 hb1.2)
      obtain ⟨v5, rfl, hw2⟩ := he2
      have hE4 := Els.setAt (y := (⟨(s2.getD s1.toNat default).From, r3, (s2.getD s1.toNat default).Seq⟩ : In)) (d := [av .u8 32 ((s2.getD s1.toNat default).From.Tx), [.int .u32 ((s2.getD s1.toNat default).From.N)], [v4], [.int .u32 ((s2.getD s1.toNat default).Seq)]].flatten) (Els.mono ws2 (fun _ _ h => RIn.le hle3 h)) hc3 (idx_lt hb1.1 hb1.2) hl2 hl3 ⟨v4, rfl, ⟨hw2.1, hw2.2.1, hS1, hw2.2.2.2⟩⟩ rfl
      obtain ⟨_, hsc1⟩ := Slc.sv hS1
      refine o_rstPL (j := 1) (q := s1.toNat * 35) (off := 33) (m' := (s2.set s1.toNat (⟨(s2.getD s1.toNat default).From, r3, (s2.getD s1.toNat default).Seq⟩ : In)).length) A2 B2 [av .u8 32 ((s2.getD s1.toNat default).From.Tx), [.int .u32 ((s2.getD s1.toNat default).From.N)]] [[v5]] [[v4]] [[.int .u32 ((s2.getD s1.toNat default).Seq)]] hc3 hl2 rfl sz34 rfl rfl (fl_cons (oneC (one_sl hsc1)) fl_nil) hI rfl hA rfl rfl (cells_sl hsc1) (by omega) (by first | exact (List.length_set ..).symm | simp) fun w hI => ?_
      refine o_nil <| ⟨(.inl (by kernel_rfl)), ?_⟩
      refine gN <| hN6 _ _ <| w_reg <| stp hA (r_add hA rfl rfl) rfl fun a hA => 
        stm hA rfl rfl fun a hA => ?_
      refine o_nil <| ⟨m1, Nat.lt_succ_self _, IntKind.i64.wrap (s1 + 1), s2.set s1.toNat (⟨(s2.getD s1.toNat default).From, r3, (s2.getD s1.toNat default).Seq⟩ : In), μ4, A2 ++ ([av .u8 32 ((s2.getD s1.toNat default).From.Tx), [.int .u32 ((s2.getD s1.toNat default).From.N)], [v4], [.int .u32 ((s2.getD s1.toNat default).Seq)]].flatten ++ B2), H, (hle2.trans hle3), (wrap_in _ _), hE4, hA.sub ⟨rfl, rfl, rfl, rfl, trivial⟩, hI⟩
    · obtain ⟨hc1, H⟩ := dF H hc1
      refine w_exit rfl ?_
      have H : some s2 = some z1 := H
      obtain rfl := sI H
      have H := Hk2
      cases sJ H
      exact ⟨μ3, ccs2, hle2, ws2, hA.sub ⟨rfl, rfl, trivial⟩, hI⟩
  · rintro a w ⟨μ2, ccc1, hle1, wc1, hA, hI⟩
    have H := Hk1
    refine w_seq fun _ hN8 => w_reg <| stp hA (r_ldA (j := 3) [] [[.int .u32 x0.Version], [v1], [v2], [.int .u32 x0.Time]] [] Try.underlying26 rfl sz26 rfl hI rfl hA rfl rfl) rfl fun a hA => 
      o_st (j := 2) [] [[.int .u32 0], [(.slice none 0 0)], [(.slice none 0 0)], [.int .u32 0]] [[.int .u32 x0.Version], [v1], [v2], [.int .u32 x0.Time]] [] sz26 rfl rfl (fl_cons (oneC rfl) (fl_cons (oneC (own_one hI (j := 1) rfl)) (fl_cons (oneC (own_one hI (j := 0) rfl)) (fl_cons (oneC rfl) fl_nil)))) hI rfl hA rfl rfl rfl rfl fun w hI => ?_
    refine o_nil <| hN8 _ _ <| w_ret ?_
    obtain ⟨μ5, hle4, hsv2, hI⟩ := hI.freezeRow 1 rfl
    have hS2 : Slc (RIn μ5) 35 μ5 v1 c1 := ⟨_, (Els.mono wc1 (fun _ _ h => RIn.le hle4 h)), hsv2⟩
    obtain ⟨μ6, hle5, hsv3, hI⟩ := hI.freezeRow 0 rfl
    have hS3 : Slc (ROut μ6) 33 μ6 v2 r2 := ⟨_, hE2, hsv3⟩
    obtain rfl := sJ H
    exact retc Try.underlying26 rfl sz26 rfl hI (j := 0) rfl hA Try.results6 rfl ⟨_, rfl, v1, v2, μ6, rfl, ⟨hx0.1, (Slc.le hS2 (fun _ _ h => RIn.le hle5 h) hle5), hS3, hx0.2.2.2⟩, (hI.sl [] rfl)⟩
end Go.Proofs.Ytkfpmcplfodikaa.T
namespace Go.Proofs.Ytkfpmcplfodikaa.T
open Go Go.Proofs Go.Proofs.Ytkfpmcplfodikaa.K
set_option linter.unusedVariables false
set_option linter.unusedSimpArgs false
noncomputable def sargassolaw4_first.f : Option Bool := ((((tx_Bytes.f (⟨0, ([] : List In), ([] : List Out), 0⟩ : Tx)).bind fun r1 => (if (r1.length : Int) = 10 then ((tx_Size.f (⟨0, ([] : List In), ([] : List Out), 0⟩ : Tx)).bind fun r2 => some (decide (r2 = 10))) else some false))).bind fun c1 => some c1)
noncomputable def sargassolaw4_light.s0 (x0 : Tx) : Int → Option (Int ⊕ Bool) := fun s1 => (if s1 < (x0.Ins.length : Int) then (if 0 ≤ s1 ∧ s1 < (x0.Ins.length : Int) then (if 100 < (((x0.Ins.getD s1.toNat default).Key).length : Int) then some (.inr false) else some (.inl (IntKind.i64.wrap (s1 + 1)))) else none) else some (.inr true))
noncomputable def sargassolaw4_light.f (x0 : Tx) : Option Bool := (((if 60 < (x0.Ins.length : Int) then some true else some (decide (60 < (x0.Outs.length : Int))))).bind fun c1 => (if c1 = true then some false else loopO (sargassolaw4_light.s0 x0) 0))
end Go.Proofs.Ytkfpmcplfodikaa.T
namespace Go.Proofs.Ytkfpmcplfodikaa.T
open Go Go.Proofs Go.Proofs.Ytkfpmcplfodikaa.K
set_option linter.unusedVariables false
set_option linter.unusedSimpArgs false
set_option maxRecDepth 20000 in
theorem sargassolaw4_first.c (μ : Store) (w0 : World) (hμ : Agr μ w0) (r : Bool) (H : sargassolaw4_first.f = some r) :
    Calls Try.prog 4 [].toArray w0 (fun e w' => ∃ v, e = .returned v ∧ v = .bool r ∧ True ∧ Iv w0 [] μ μ [] w') := by
  refine enter Try.func4 rfl Try.ntmps4 rfl fun a hA => ?_
  have hI := Iv.start hμ
  have H := bI H
  refine w_seq fun _ hN1 => w_reg <| sta hA rfl rfl fun a hA => ?_
  refine o_nil <| hN1 _ _ ?_
  obtain ⟨c1, hz1, Hk1⟩ := bB H
  refine w_cut (fun a w => Fr a 10 [(0, .bool c1)] ∧ Iv w0 [] μ μ [] w) ?_ ?_
  · have H := bI hz1
    refine w_reg <| stp hA (r_bldS (cs := [[.int .u32 0], [(.slice none 0 0)], [(.slice none 0 0)], [.int .u32 0]].flatten.toArray) (pl := [(0, 1), (1, 1), (2, 1), (3, 1)]) zr26 Try.underlying26 ⟨rfl, sz22, rfl, sz23, rfl, sz24, rfl, sz22, trivial⟩ hA rfl (by kernel_rfl)) rfl fun a hA => ?_
    obtain ⟨r1, hr1, H⟩ := bB H
    refine o_call _ cf8 hA rfl (tx_Bytes.c μ _ hI.agr (⟨0, ([] : List In), ([] : List Out), 0⟩ : Tx) (.slice none 0 0) (.slice none 0 0) ⟨(in_lit .u32 0 rfl), (slc_nil _ _ _), (slc_nil _ _ _), (in_lit .u32 0 rfl)⟩ r1 hr1) rfl fun v1 a w hz2 hA => ?_
    obtain ⟨_, cs1, rfl, hE1, hi1⟩ := hz2
    have hI := hI.call hi1
    have hlen1 := Iv.row_in hI (j := 0) rfl
    refine stp hA (r_rlen (xs := 0) Try.underlying34 hI (j := 0) rfl hA rfl) rfl fun a hA => 
      stp hA (r_eql hA rfl rfl) rfl fun a hA => 
      stm hA rfl rfl fun a hA => ?_
    rcases Bool.eq_false_or_eq_true (decide ((r1.length : Int) = 10)) with hc1 | hc1
    · have hc10 := hc1; obtain ⟨hc1, H⟩ := dT H hc1
      refine o_yes hA rfl rfl hc10 <| 
        stp hA (r_bldS (cs := [[.int .u32 0], [(.slice none 0 0)], [(.slice none 0 0)], [.int .u32 0]].flatten.toArray) (pl := [(0, 1), (1, 1), (2, 1), (3, 1)]) zr26 Try.underlying26 ⟨rfl, sz22, rfl, sz23, rfl, sz24, rfl, sz22, trivial⟩ hA rfl (by kernel_rfl)) rfl fun a hA => 
        o_yes hA rfl rfl hc10 <| ?_
      obtain ⟨r2, hr2, H⟩ := bB H
      refine o_callp (u := .int .i64 r2) cf9 hA rfl hI (tx_Size.c μ _ hI.agr (⟨0, ([] : List In), ([] : List Out), 0⟩ : Tx) (.slice none 0 0) (.slice none 0 0) ⟨(in_lit .u32 0 rfl), (slc_nil _ _ _), (slc_nil _ _ _), (in_lit .u32 0 rfl)⟩ r2 hr2) rfl fun a w hz3 hI hA => 
        o_yes hA rfl rfl hc10 <| 
        stp hA (r_eql hA rfl rfl) rfl fun a hA => 
        stp hA (r_pick_t hA rfl hc10 rfl) rfl fun a hA => 
        sta hA rfl rfl fun a hA => ?_
      refine o_nil ?_
      cases sJ H
      exact ⟨hA.sub ⟨rfl, trivial⟩, (hI.sl [] rfl)⟩
    · have hc10 := hc1; obtain ⟨hc1, H⟩ := dF H hc1
      refine o_no hA rfl rfl (by rw [hc10]; simp [vb]) rfl fun a hA => 
        o_no hA rfl rfl (by rw [hc10]; simp [vb]) rfl fun a hA => 
        o_no hA rfl rfl (by rw [hc10]; simp [vb]) rfl fun a hA => 
        stp hA (r_pick_f hA rfl hc10 rfl) rfl fun a hA => 
        sta hA rfl rfl fun a hA => ?_
      refine o_nil ?_
      cases sJ H
      exact ⟨hA.sub ⟨rfl, trivial⟩, (hI.sl [] rfl)⟩
  · rintro a w ⟨hA, hI⟩
    have H := Hk1
    refine w_ret ?_
    obtain rfl := sJ H
    exact ret1 hA Try.results4 rfl ⟨_, rfl, rfl, trivial, hI.forget0⟩
set_option maxRecDepth 20000 in
theorem sargassolaw4_light.c (μ : Store) (w0 : World) (hμ : Agr μ w0) (x0 : Tx) (u0_0 : Value) (u0_1 : Value) (hx0 : TxW μ x0 u0_0 u0_1) (r : Bool) (H : sargassolaw4_light.f x0 = some r) :
    Calls Try.prog 5 [.agg [[.int .u32 x0.Version], [u0_0], [u0_1], [.int .u32 x0.Time]].flatten.toArray].toArray w0 (fun e w' => ∃ v, e = .returned v ∧ v = .bool r ∧ True ∧ Iv w0 [] μ μ [] w') := by
  refine enter Try.func5 rfl Try.ntmps5 rfl fun a hA => ?_
  have hI := Iv.start hμ
  have H := bI H
  refine w_seq fun _ hN1 => w_reg <| o_box [[.int .u32 x0.Version], [u0_0], [u0_1], [.int .u32 x0.Time]] hI hA rfl rfl rfl fun g1 a w hA hI hg1 => 
    sta hA rfl rfl fun a hA => ?_
  refine o_nil <| hN1 _ _ <| w_seq fun _ hN2 => ?_
  obtain ⟨c1, hz1, Hk1⟩ := bB H
  refine w_cut (fun a w => Fr a 29 [(1, .pointer (some ⟨g1, 0, none⟩)), (2, .bool false), (13, .bool c1)] ∧ Iv w0 [] μ μ [cel g1 [[.int .u32 x0.Version], [u0_0], [u0_1], [.int .u32 x0.Time]] 26] w) ?_ ?_
  · have H := bI hz1
    refine w_reg <| stp hA (r_fd (k := 1) Try.underlying26 rfl sz23 hA rfl rfl) rfl fun a hA => 
      stp hA (r_ld1 (j := 0) [[.int .u32 x0.Version]] [[u0_1], [.int .u32 x0.Time]] Try.underlying23 rfl hI rfl hA rfl rfl) rfl fun a hA => ?_
    obtain ⟨_, hsl1⟩ := Slc.sv hx0.2.1
    refine stp hA (r_slen Try.underlying23 hsl1 hA rfl) rfl fun a hA => 
      stp hA (r_gtr hA rfl rfl) rfl fun a hA => 
      stm hA rfl rfl fun a hA => ?_
    rcases Bool.eq_false_or_eq_true (decide (60 < (x0.Ins.length : Int))) with hc1 | hc1
    · have hc10 := hc1; obtain ⟨hc1, H⟩ := dT H hc1
      refine o_no hA rfl rfl (by rw [hc10]; simp [vb]) rfl fun a hA => 
        o_no hA rfl rfl (by rw [hc10]; simp [vb]) rfl fun a hA => 
        o_no hA rfl rfl (by rw [hc10]; simp [vb]) rfl fun a hA => 
        o_no hA rfl rfl (by rw [hc10]; simp [vb]) rfl fun a hA => 
        stp hA (r_pick_t hA rfl hc10 rfl) rfl fun a hA => ?_
      refine o_nil ?_
      cases sJ H
      exact ⟨hA.sub ⟨rfl, rfl, rfl, trivial⟩, hI⟩
    · have hc10 := hc1; obtain ⟨hc1, H⟩ := dF H hc1
      refine o_yes hA rfl rfl hc10 <| 
        stp hA (r_fd (k := 2) Try.underlying26 rfl sz24 hA rfl rfl) rfl fun a hA => 
        o_yes hA rfl rfl hc10 <| 
        stp hA (r_ld1 (j := 0) [[.int .u32 x0.Version], [u0_0]] [[.int .u32 x0.Time]] Try.underlying24 rfl hI rfl hA rfl rfl) rfl fun a hA => 
        o_yes hA rfl rfl hc10 <| ?_
      obtain ⟨_, hsl2⟩ := Slc.sv hx0.2.2.1
      refine stp hA (r_slen Try.underlying24 hsl2 hA rfl) rfl fun a hA => 
        o_yes hA rfl rfl hc10 <| 
        stp hA (r_gtr hA rfl rfl) rfl fun a hA => 
        stp hA (r_pick_f hA rfl hc10 rfl) rfl fun a hA => ?_
      refine o_nil ?_
      cases sJ H
      exact ⟨hA.sub ⟨rfl, rfl, rfl, trivial⟩, hI⟩
  · rintro a w ⟨hA, hI⟩
    have H := Hk1
    refine w_cond hA rfl (fun hc2 => ?_) (fun hc2 => ?_)
    · have H := bT H hc2
      refine w_seq fun _ hN3 => w_reg <| sta hA rfl rfl fun a hA => ?_
      refine o_nil <| hN3 _ _ <| w_ret ?_
      obtain rfl := sJ H
      exact ret1 hA Try.results5 rfl ⟨_, rfl, rfl, trivial, hI.forget0⟩
    · have hc2 := ft hc2; have H := bF H hc2
      refine w_skip <| hN2 _ _ <| w_seq fun _ hN4 => w_seq fun _ hN5 => w_reg <| sta hA rfl rfl fun a hA => ?_
      refine o_nil <| hN5 _ _ <| w_block ?_
      obtain ⟨z1, hz2, Hk2⟩ := bind_some H
      obtain ⟨n1, hn1⟩ := loopO_some hz2
      refine w_loop (fun n a w => ∃ (s1 : Int), loopN (sargassolaw4_light.s0 x0) n s1 = some z1 ∧ InR .i64 s1 ∧ Fr a 29 [(1, .pointer (some ⟨g1, 0, none⟩)), (2, .bool false), (3, .int .i64 s1)] ∧ Iv w0 [] μ μ [cel g1 [[.int .u32 x0.Version], [u0_0], [u0_1], [.int .u32 x0.Time]] 26] w) n1 ⟨0, hn1, (in_lit .i64 0 rfl), hA.sub ⟨rfl, rfl, rfl, trivial⟩, hI⟩ ?_
      clear hA hI
      rintro n a w ⟨s1, hn1, ws1, hA, hI⟩
      obtain ⟨m1, rfl, H⟩ := loopN_bind hn1
      clear hn1
      refine w_seq fun _ hN6 => w_seq fun _ hN7 => w_reg <| stm hA rfl rfl fun a hA => 
        stp hA (r_fd (k := 1) Try.underlying26 rfl sz23 hA rfl rfl) rfl fun a hA => 
        stp hA (r_ld1 (j := 0) [[.int .u32 x0.Version]] [[u0_1], [.int .u32 x0.Time]] Try.underlying23 rfl hI rfl hA rfl rfl) rfl fun a hA => ?_
      obtain ⟨_, hsl3⟩ := Slc.sv hx0.2.1
      refine stp hA (r_slen Try.underlying23 hsl3 hA rfl) rfl fun a hA => 
        stp hA (r_lss hA rfl rfl) rfl fun a hA => ?_
      refine o_nil <| hN7 _ _ <| w_cond hA rfl (fun hc3 => ?_) (fun hc3 => ?_)
      · obtain ⟨hc3, H⟩ := dT H hc3
        refine w_skip <| hN6 _ _ <| w_seq fun _ hN8 => w_block <| w_seq fun _ hN9 => w_reg <| stp hA (r_fd (k := 1) Try.underlying26 rfl sz23 hA rfl rfl) rfl fun a hA => 
          stp hA (r_ld1 (j := 0) [[.int .u32 x0.Version]] [[u0_1], [.int .u32 x0.Time]] Try.underlying23 rfl hI rfl hA rfl rfl) rfl fun a hA => 
          stm hA rfl rfl fun a hA => ?_
        obtain ⟨hb1, H⟩ := bG H
        obtain ⟨_, he1, _, hat1⟩ := Slc.elem hx0.2.1 (getD_some default hb1.1 hb1.2)
        obtain ⟨v1, rfl, hw1⟩ := he1
        obtain ⟨_, hsl4⟩ := Slc.sv hx0.2.1
        refine stp hA (r_six Try.underlying23 sz36 hsl4 hA rfl rfl hb1.1 hb1.2) rfl fun a hA => 
          stp hA (r_fd (k := so u0_0 + s1.toNat * 35 + 33) Try.underlying36 rfl sz34 hA rfl rfl) rfl fun a hA => 
          stp hA (r_ldm1 [av .u8 32 ((x0.Ins.getD s1.toNat default).From.Tx), [.int .u32 ((x0.Ins.getD s1.toNat default).From.N)]] [[.int .u32 ((x0.Ins.getD s1.toNat default).Seq)]] Try.underlying34 rfl hI.agr hat1 hA rfl rfl) rfl fun a hA => ?_
        obtain ⟨_, hsl5⟩ := Slc.sv hw1.2.2.1
        refine stp hA (r_slen Try.underlying34 hsl5 hA rfl) rfl fun a hA => 
          stp hA (r_gtr hA rfl rfl) rfl fun a hA => ?_
        refine o_nil <| hN9 _ _ <| w_cond hA rfl (fun hc4 => ?_) (fun hc4 => ?_)
        · obtain ⟨hc4, H⟩ := dT H hc4
          refine w_seq fun _ hN10 => w_reg <| sta hA rfl rfl fun a hA => ?_
          refine o_nil <| hN10 _ _ <| w_ret ?_
          have H : some false = some z1 := H
          obtain rfl := sI H
          have H := Hk2
          obtain rfl := sJ H
          exact ret1 hA Try.results5 rfl ⟨_, rfl, rfl, trivial, hI.forget0⟩
        · obtain ⟨hc4, H⟩ := dF H hc4
          refine w_skip <| hN8 _ _ <| w_reg <| stm hA rfl rfl fun a hA => 
            stp hA (r_add hA rfl rfl) rfl fun a hA => 
            sta hA rfl rfl fun a hA => ?_
          refine o_nil <| ⟨m1, Nat.lt_succ_self _, IntKind.i64.wrap (s1 + 1), H, (wrap_in _ _), hA.sub ⟨rfl, rfl, rfl, trivial⟩, hI⟩
      · obtain ⟨hc3, H⟩ := dF H hc3
        refine w_exit rfl <| hN4 _ _ <| w_seq fun _ hN11 => w_reg <| sta hA rfl rfl fun a hA => ?_
        refine o_nil <| hN11 _ _ <| w_ret ?_
        have H : some true = some z1 := H
        obtain rfl := sI H
        have H := Hk2
        obtain rfl := sJ H
        exact ret1 hA Try.results5 rfl ⟨_, rfl, rfl, trivial, hI.forget0⟩
end Go.Proofs.Ytkfpmcplfodikaa.T
namespace Go.Proofs.Ytkfpmcplfodikaa.K
open Go Go.Proofs
set_option linter.unusedVariables false
inductive Er where
  | b (n : Nat)
  | pl (p : Int) (e : Er)
deriving DecidableEq, Inhabited
def Er.isP : Er → Bool
  | .pl _ _ => true
  | _ => false
def Er.pos : Er → Int
  | .pl p _ => p
  | _ => 0
def Er.err : Er → Er
  | .pl _ e => e
  | _ => .b 0
def Er.cmp : Er → Er → Bool
  | .b 0, .b 0 => false
  | .pl _ _, .pl _ _ => false
  | _, _ => true
def ErB (tp : TypeId) (code : ByteArray → Nat) (μ : Store) (v : Value) (x : Nat) : Prop :=
  (x = 0 ∧ v = .nilIface) ∨ (x ≠ 0 ∧ μ.cell (x - 1) 0 = some v ∧ ∃ (a : Addr) (s : ByteArray) (c : Array Value) (t : TypeId), v = .iface tp (.pointer (some a)) ∧ μ a.block = some (.cells c t (0, 0)) ∧ code s = x ∧ ∀ w : World, Agr μ w → w.cell? a = some (.string s))
def ErV (tp ta : TypeId) (code : ByteArray → Nat) (μ : Store) : Er → Value → Prop
  | .b x, v => ErB tp code μ v x
  | .pl p e, v => ∃ (g : Nat) (u : Value), v = .iface ta (.pointer (some ⟨g, 0, none⟩)) ∧ At μ g 0 [[.int .i64 p], [u]].flatten ∧ InR .i64 p ∧ ErV tp ta code μ e u
section
variable {tp ta : TypeId} {code : ByteArray → Nat} {μ ν : Store} {v v' : Value} {x y : Er} {i j : Nat}
theorem ErB.le (hl : μ.le ν) (h : ErB tp code μ v i) : ErB tp code ν v i := by
  rcases h with h | ⟨h0, h1, a, s, c, t, h2, h3, h4, h5⟩
  · exact .inl h
  · exact .inr ⟨h0, hl.cell h1, a, s, c, t, h2, hl _ _ h3, h4, fun w hw => h5 w (fun k o e => hw k o (hl k o e))⟩
theorem ErV.le (_ : ∀ (a b : Nat) (h : True), True) (hl : μ.le ν) : ∀ {x : Er} {v : Value}, ErV tp ta code μ x v → ErV tp ta code ν x v
  | .b _, _, h => ErB.le hl h
  | .pl _ _, _, ⟨g, u, h1, h2, h3, h4⟩ => ⟨g, u, h1, h2.le hl, h3, h4.le (fun _ _ h => h) hl⟩
theorem ErB.one (h : ErB tp code μ v i) : v.oneCell' = true := by
  rcases h with ⟨_, rfl⟩ | ⟨_, _, a, s, c, t, rfl, _⟩ <;> rfl
theorem ErV.one : ∀ {x : Er} {v : Value}, ErV tp ta code μ x v → v.oneCell' = true
  | .b _, _, h => ErB.one h
  | .pl _ _, _, ⟨_, _, h1, _⟩ => by subst h1; rfl
theorem ErB.same (h : ErB tp code μ v i) (h' : ErB tp code μ v' i) : v = v' := by
  rcases h with ⟨e, rfl⟩ | ⟨e, h1, a, s, c, t, rfl, h3⟩
  · rcases h' with ⟨_, rfl⟩ | ⟨e', _⟩
    · rfl
    · exact absurd e e'
  · rcases h' with ⟨e', _⟩ | ⟨_, h1', _⟩
    · exact absurd e' e
    · exact Option.some.inj (h1.symm.trans h1')
theorem ErV.load {g : Nat} (h : ErV tp ta code μ (.b (g + 1)) v) : μ.cell g 0 = some v := by
  rcases (show ErB tp code μ v (g + 1) from h) with ⟨e, _⟩ | ⟨_, h1, _⟩
  · cases e
  · exact h1
def aP (ta : TypeId) : Value → Value
  | .iface t u => if t = ta then u else .pointer none
  | _ => .pointer none
theorem ErV.isP (h : ErV tp ta code μ x v) (hp : x.isP = true) : ∃ (g : Nat) (u : Value), aP ta v = .pointer (some ⟨g, 0, none⟩) ∧ At μ g 0 [[.int .i64 x.pos], [u]].flatten ∧ InR .i64 x.pos ∧ ErV tp ta code μ x.err u := by
  cases x with
  | b n => cases hp
  | pl p e =>
    obtain ⟨g, u, rfl, h2, h3, h4⟩ := h
    exact ⟨g, u, by simp [aP], h2, h3, h4⟩
theorem ErV.low {l : List (Er × Value)} (hle : μ.le ν) (h : ErV tp ta code ν x v) (hx : x ∈ l.map (·.1)) (hl : ∀ p ∈ l, ErV tp ta code μ p.1 p.2 ∧ p.1.isP = false) : ErV tp ta code μ x v := by
  obtain ⟨p, hp, rfl⟩ := List.mem_map.1 hx
  obtain ⟨h1, h2⟩ := hl p hp
  cases hq : p.1 with
  | pl _ _ => rw [hq] at h2; cases h2
  | b n =>
    rw [hq] at h h1
    have h3 : ErB tp code ν p.2 n := ErB.le hle h1
    rw [ErB.same (show ErB tp code ν v n from h) h3]
    exact h1
def RErV (tp ta : TypeId) (code : ByteArray → Nat) (μ : Store) (x : Er) (c : List Value) : Prop := ∃ v : Value, c = [[v]].flatten ∧ ErV tp ta code μ x v
theorem RErV.le (hl : μ.le ν) {c : List Value} (h : RErV tp ta code μ x c) : RErV tp ta code ν x c := let ⟨v, h0, h1⟩ := h; ⟨v, h0, h1.le (fun _ _ h => h) hl⟩
theorem RErV.ones : ∀ (x : Er) (c : List Value), RErV tp ta code μ x c → ∀ u ∈ c, u.oneCell' = true := by
  rintro x c ⟨v, rfl, h⟩ u hu
  have : u = v := by simpa using hu
  subst this
  exact h.one
structure ErF (P : Program) (ti tp ta : TypeId) : Prop where
  ne : tp ≠ ta
  hi : ∃ ms, P.underlying ti = some (.interface ms)
  hp : ∃ te i j, P.underlying tp = some (.pointer te) ∧ P.info? tp = some i ∧ i.comparable = true ∧ P.info? te = some j ∧ j.size ≠ 0
theorem ErF.of {P : Program} {ti tp te : TypeId} {ms : Array (String × TypeId)} (hi : P.underlying ti = some (.interface ms)) (hp : P.underlying tp = some (.pointer te)) (hc : (P.info? tp).map (·.comparable) = some true) (hs : (P.info? te).map (·.size) = some 1) (hn : tp ≠ ta) : ErF P ti tp ta := by
  obtain ⟨i, hi', hc'⟩ := Option.map_eq_some_iff.1 hc
  obtain ⟨j, hj, hs'⟩ := Option.map_eq_some_iff.1 hs
  exact ⟨hn, ⟨ms, hi⟩, ⟨te, i, j, hp, hi', hc', hj, by rw [hs']; decide⟩⟩
def Er.fit (x y : Er) : Bool := !x.isP || !y.isP
end
section
variable {P : Program} {w : World} {ds : List Deferred} {a : Act} {n : Nat} {L : List (Nat × Value)} {dst : Option Nat} {ty t t' tp ta : TypeId} {pos : String} {aft : Array Edge} {gd : Option (Nat × Bool)} {x y : Operand} {code : ByteArray → Nat} {μ : Store} {v v' : Value} {i j : Er}
def Lits (x y : Operand) (i j : Er) : Prop := ((∃ c, x = .const c) ∨ ∃ c, y = .const c) ∧ i.fit j = true ∨ i.cmp j = true
theorem Lits.fit (h : Lits x y i j) : i.fit j = true := by
  rcases h with h | h
  · exact h.2
  · cases i <;> cases j <;> first | rfl | cases h
theorem Lits.nil (h : Lits x y (.b 0) (.b 0)) : (∃ c, x = .const c) ∨ ∃ c, y = .const c := by
  rcases h with h | h
  · exact h.1
  · cases h
end
end Go.Proofs.Ytkfpmcplfodikaa.K
namespace Go.Proofs.Ytkfpmcplfodikaa.K
open Go
set_option linter.unusedVariables false
section
variable {W0 : World} {md : List Nat} {μ0 μ ν ν' : Store} {its : List It} {w : World} {v : Value} {e sz m : Nat} {cs : List Value} {tp ta : TypeId} {code : ByteArray → Nat} {x : Er} {u : Value}
theorem ErV.thaw {l : List (Er × Value)} (hle : μ.le ν) (hle' : μ.le ν') (hk : ∀ k o, ν k = some o → ν' k = some o ∨ v.ownBlock = some k) (hS : SlV ν v m cs) (h : ErV tp ta code ν x u) (hl : ∀ p ∈ l, ErV tp ta code μ p.1 p.2 ∧ p.1.isP = false)
    (hx : x ∈ l.map (·.1) ∨ ((x.isP = true ∧ x.err ∈ l.map (·.1)) ∧ m ≠ 0 ∧ ∃ z, cs[0]? = some z ∧ ∀ p, z ≠ .int .i64 p)) (h0 : v.ownBlock = none ∨ so v = 0) : ErV tp ta code ν' x u := by
  rcases hx with hx | ⟨⟨h1, h2⟩, hm, z, hz, hp⟩
  · exact (ErV.low hle h hx hl).le (fun _ _ h => h) hle'
  · cases x with
    | b n => cases h1
    | pl p y =>
      obtain ⟨g, u', rfl, hA, hr, he⟩ := h
      refine ⟨g, u', rfl, fun j c hc => ?_, hr, (ErV.low hle he h2 hl).le (fun _ _ h => h) hle'⟩
      have h3 := hA j c hc
      have hg : v.ownBlock ≠ some g := fun e => by
        obtain ⟨A, cp, e1, _, _, e4, e5⟩ := hS
        have e6 := e5 hm 0 z hz
        have e7 := e4 hm
        subst e7
        rw [e1] at e
        have : g = sb v := by simpa [Value.ownBlock] using e.symm
        have ho : so v = 0 := by
          rcases h0 with h0 | h0
          · rw [e1] at h0; simp [Value.ownBlock] at h0
          · exact h0
        rw [ho, ← this] at e6
        have e8 := hA 0 (.int .i64 p) rfl
        rw [e6] at e8
        exact hp p (Option.some.inj e8)
      unfold Store.cell at h3 ⊢
      cases hm' : ν g with
      | none => simp [hm'] at h3
      | some o =>
        rcases hk g o hm' with h4 | h4
        · rw [h4]; rw [hm'] at h3; exact h3
        · exact absurd h4 hg
end
end Go.Proofs.Ytkfpmcplfodikaa.K
namespace Go.Proofs.Ytkfpmcplfodikaa.K
open Go
set_option linter.unusedVariables false
set_option linter.unusedSimpArgs false
def hole (μ : Store) (q : Option Nat) : Store := fun k => if q = some k then none else μ k
section
variable {W0 : World} {md : List Nat} {μ0 μ ν ν' : Store} {its : List It} {w : World} {v : Value} {e sz m n N : Nat} {cs : List Value} {q : Option Nat}
theorem hole_some {k : Nat} {o : Obj} (h : hole μ q k = some o) : μ k = some o ∧ q ≠ some k := by
  unfold hole at h
  split at h
  · cases h
  · exact ⟨h, by assumption⟩
theorem hole_at {k : Nat} (h : q ≠ some k) : hole μ q k = μ k := by unfold hole; rw [if_neg h]
theorem hole_le : (hole μ q).le μ := fun _ _ h => (hole_some h).1
theorem le_hole (h : μ.le ν) (hg : ∀ g, q = some g → μ g = none) : μ.le (hole ν q) := fun k o e => by
  rw [hole_at fun e' => ?_]
  · exact h k o e
  · rw [hg k e'] at e; cases e
theorem le_none {g : Nat} (h : μ.le ν) (hn : ν g = none) : μ g = none := by
  cases hm : μ g with
  | none => rfl
  | some o => rw [h g o hm] at hn; cases hn
theorem hole_mono (h : μ.le ν) : (hole μ q).le (hole ν q) := fun k o e => by
  obtain ⟨h1, h2⟩ := hole_some e
  rw [hole_at h2]; exact h k o h1
theorem SlV.hole (h : SlV μ v n cs) (hne : n ≠ 0 → q ≠ some (sb v)) : SlV (K.hole μ q) v n cs := by
  obtain ⟨A, cp, h1, h2, h3, h4, h5⟩ := h
  refine ⟨A, cp, h1, h2, h3, h4, fun hn j u hu => ?_⟩
  have := h5 hn j u hu
  unfold Store.cell at this ⊢
  rw [hole_at (hne hn)]
  exact this
structure Was (N : Nat) (μ : Store) (e sz : Nat) (v : Value) (n : Nat) (cs : List Value) : Prop where
  low : ∀ g, v.ownBlock = some g → N ≤ g ∧ μ g ≠ none
  own : ∀ w : World, (∀ g, v.ownBlock = some g → w.heap[g]? = μ g) → w.ownsRow 0 e sz v n cs
theorem Was.le (h : Was N μ e sz v n cs) (hl : μ.le ν) : Was N ν e sz v n cs := by
  have hs : ∀ g, v.ownBlock = some g → ν g = μ g := fun g hg => by
    cases hm : μ g with
    | none => exact absurd hm (h.low g hg).2
    | some o => exact hl g o hm
  exact ⟨fun g hg => ⟨(h.low g hg).1, by rw [hs g hg]; exact (h.low g hg).2⟩, fun w hw => h.own w fun g hg => (hw g hg).trans (hs g hg)⟩
theorem Was.hole (h : Was N μ e sz v n cs) (hq : ∀ g, v.ownBlock = some g → q ≠ some g) : Was N (K.hole μ q) e sz v n cs :=
  ⟨fun g hg => ⟨(h.low g hg).1, by rw [hole_at (hq g hg)]; exact (h.low g hg).2⟩, fun w hw => h.own w fun g hg => (hw g hg).trans (hole_at (hq g hg))⟩
theorem Iv.freezeRowW (hI : Iv W0 [] μ0 μ its w) (j : Nat) (hj : its[j]? = some (row e sz v m cs)) : ∃ μ', μ.le μ' ∧ SlV μ' v m cs ∧ Iv W0 [] μ0 μ' (its.eraseIdx j) w ∧ Was W0.heap.size μ' e sz v m cs ∧ ∀ g, v.ownBlock = some g → μ g = none := by
  have hown := hI.row_ok hj
  have hmem := List.mem_of_getElem? hj
  have hfo : ∀ k, k ∈ (row e sz v m cs).foot ↔ v.ownBlock = some k := fun k => by simp [row]
  obtain ⟨hok, hft⟩ := hI.own _ hmem
  rcases hown.2 with ⟨rfl, rfl⟩ | ⟨g, cap, cur, rfl, hbg, hg, hnc, hcm, hcs, htake⟩
  · exact ⟨μ, Store.le.refl _, ⟨none, 0, rfl, Nat.le_refl _, by simp [maxLen], fun h => absurd rfl h, fun h => absurd rfl h⟩, hI.drop (List.eraseIdx_sublist its j), ⟨by simp [Value.ownBlock], fun w' _ => (row e sz _ _ cs).loc w w' (by simp [row, Value.ownBlock]) hok⟩, by simp [Value.ownBlock]⟩
  · obtain ⟨μ', h1, h2, h3⟩ := hI.freeze j hj (g := g) (by simp [row, Value.ownBlock]) hg
    have hgf := hft g ((hfo g).2 (by simp [Value.ownBlock]))
    refine ⟨μ', h1, ⟨_, _, rfl, hnc, hcm, fun _ => rfl, fun _ i u hu => ?_⟩, h3, ⟨fun g' hg' => ?_, fun w' hw' => (row e sz _ _ cs).loc w w' (fun g' hg' => ?_) hok⟩, fun g' hg' => ?_⟩
    · simp only [sb, so, Nat.zero_add, Store.cell, h2]
      rw [← htake, List.getElem?_take] at hu
      split at hu
      · simpa using hu
      · cases hu
    · have : g' = g := by simpa [Value.ownBlock] using hg'.symm
      subst this
      exact ⟨by simpa using hgf.2.2, by rw [h2]; simp⟩
    · have : g' = g := by simpa [row, Value.ownBlock] using hg'
      subst this
      rw [hw' g' (by simp [Value.ownBlock]), h2]; exact hg.symm
    · have : g' = g := by simpa [Value.ownBlock] using hg'.symm
      subst this
      exact hgf.2.1
theorem Iv.thawW (h : Iv W0 [] μ0 μ its w) (hW : Was N μ e sz v m cs) (h0 : ∀ g, N ≤ g → μ0 g = none) (hN : W0.heap.size ≤ N) : Iv W0 [] μ0 (hole μ v.ownBlock) (row e sz v m cs :: its) w := by
  have hfo : ∀ k, k ∈ (row e sz v m cs).foot ↔ v.ownBlock = some k := fun k => by simp [row]
  refine ⟨h.os, h.tape, h.out, h.size, h.frame, le_hole h.le (fun g hg => h0 g (hW.low g hg).1), fun k o e => h.agr k o (hole_le k o e), fun k o e => h.fresh k o (hole_le k o e), ?_, fun i hi => ?_⟩
  · rw [List.flatMap_cons, List.nodup_append]
    refine ⟨by simp only [row]; cases v.ownBlock <;> simp, h.nodup, fun g hg g' hg' e => ?_⟩
    subst e
    obtain ⟨i, hi, hgi⟩ := List.mem_flatMap.1 hg'
    exact (hW.low g ((hfo g).1 hg)).2 ((h.own i hi).2 g hgi).2.1
  · rcases List.mem_cons.1 hi with rfl | hi
    · refine ⟨hW.own w (fun g hg => ?_), fun g hg => ?_⟩
      · cases hm : μ g with
        | none => exact absurd hm (hW.low g hg).2
        | some o => exact h.agr g o hm
      have hg' := (hfo g).1 hg
      obtain ⟨a, b⟩ := hW.low g hg'
      refine ⟨?_, by unfold hole; rw [if_pos hg'], .inl (Nat.le_trans hN a)⟩
      cases hm : μ g with
      | none => exact absurd hm b
      | some o => exact (Array.getElem?_eq_some_iff.1 (h.agr g o hm)).1
    · obtain ⟨a, b⟩ := h.own i hi
      refine ⟨a, fun g hg => ?_⟩
      obtain ⟨b1, b2, b3⟩ := b g hg
      refine ⟨b1, ?_, b3⟩
      unfold hole
      split
      · rfl
      · exact b2
theorem Iv.call2 {md : List Nat} (h : Iv W0 md μ0 μ its w) (hs : ν.le μ) {w' : World} (h' : Iv w [] ν ν' [] w') : ∃ μ2, μ.le μ2 ∧ ν'.le μ2 ∧ Iv W0 md μ0 μ2 its w' ∧ ∀ k o, ν' k = some o → ν k = some o ∨ μ k = none := by
  have hlt : ∀ k o, μ k = some o → k < w.heap.size := fun k o e => (Array.getElem?_eq_some_iff.1 (h.agr k o e)).1
  have hout : ∀ k o, ν' k = some o → ν k = some o ∨ μ k = none := fun k o e => by
    rcases h'.fresh k o e with e' | e' | e'
    · exact .inl e'
    · refine .inr ?_
      cases hm : μ k with
      | none => rfl
      | some o' => have := hlt k o' hm; omega
    · simp at e'
  have hle : μ.le (fun k => match μ k with | some o => some o | none => ν' k) := fun k o e => by simp [e]
  have hle' : ν'.le (fun k => match μ k with | some o => some o | none => ν' k) := fun k o e => by
    rcases hout k o e with e' | e'
    · simp [hs k o e']
    · simp [e', e]
  refine ⟨_, hle, hle', ?_, hout⟩
  have h2 : Iv w [] μ (fun k => match μ k with | some o => some o | none => ν' k) [] w' := by
    refine ⟨h'.os, h'.tape, h'.out, h'.size, h'.frame, hle, fun k o e => ?_, fun k o e => ?_, by simp, by simp⟩
    · cases hm : μ k with
      | some o' =>
        simp only [hm] at e
        cases e
        exact (h'.frame k (hlt k _ hm) (by simp)).trans (h.agr k _ hm)
      | none =>
        simp only [hm] at e
        exact h'.agr k o e
    · cases hm : μ k with
      | some o' =>
        simp only [hm] at e
        exact .inl e
      | none =>
        simp only [hm] at e
        rcases h'.fresh k o e with e' | e' | e'
        · rw [hs k o e'] at hm; cases hm
        · exact .inr (.inl e')
        · simp at e'
  have := h.call h2
  simpa using this
end
end Go.Proofs.Ytkfpmcplfodikaa.K
namespace Go.Proofs.Ytkfpmcplfodikaa.T
open Go Go.Proofs Go.Proofs.Ytkfpmcplfodikaa.K
set_option linter.unusedVariables false
set_option linter.unusedSimpArgs false
theorem hole_none_le {μ : Store} : μ.le (hole μ none) := fun k o e => by rw [hole_at (by simp)]; exact e
structure OwnK (N : Nat) (μ : Store) (i : Int) (l : List In) (cc : List Value) : Prop where
  ex : ∃ q, (∀ g, q = some g → N ≤ g ∧ μ g ≠ none) ∧ Els (RIn (hole μ q)) 35 (l.drop 1) (cc.drop 35) ∧ (i = 0 → q = none) ∧
    (i ≠ 0 → ∃ (X : In) (vk : Value) (ck : List Value), l[0]? = some X ∧ cc.take 35 = [av .u8 32 X.From.Tx, [.int .u32 X.From.N], [vk], [.int .u32 X.Seq]].flatten ∧ vk.ownBlock = q ∧ Els (RI .u8) 1 X.Key ck ∧ Was N μ 5 1 vk X.Key.length ck)
theorem OwnK.start {N : Nat} {μ : Store} {l : List In} {cc : List Value} (h : Els (RIn μ) 35 l cc) : OwnK N μ 0 l cc :=
  ⟨none, by simp, by have := (h.drop 1).mono fun x c hr => RIn.le hole_none_le hr; simpa using this, fun _ => rfl, fun h => absurd rfl h⟩
theorem OwnK.fin {N : Nat} {μ : Store} {i : Int} {l : List In} {cc : List Value} (h : OwnK N μ i l cc) (hi : 0 < i) : OwnK N μ 1 l cc := by
  obtain ⟨q, h1, h2, h3, h4⟩ := h.ex
  exact ⟨q, h1, h2, fun h => absurd h (by decide), fun _ => h4 (by omega)⟩
theorem OwnK.step {N : Nat} {μ μ' : Store} {i : Int} {l : List In} {cc : List Value} (h : OwnK N μ i l cc) (hi : 0 ≤ i ∧ i < (l.length : Int)) (hle : μ.le μ') {v : Value} {r : List Int} {cs : List Value} (hW : Was N μ' 5 1 v r.length cs) (hno : ∀ g, v.ownBlock = some g → μ g = none) (hE : Els (RI .u8) 1 r cs) (hS : Slc (RI .u8) 1 μ' v r)
    (hw : InW μ' (⟨(l.getD i.toNat default).From, r, (l.getD i.toNat default).Seq⟩ : In) v) {A c B : List Value} (hc : cc = A ++ (c ++ B)) (hA : A.length = i.toNat * 35) (hcl : c.length = 35) (j : Int) (hj : j = i + 1) :
    OwnK N μ' j (l.set i.toNat (⟨(l.getD i.toNat default).From, r, (l.getD i.toNat default).Seq⟩ : In)) (A ++ ([av .u8 32 ((l.getD i.toNat default).From.Tx), [.int .u32 ((l.getD i.toNat default).From.N)], [v], [.int .u32 ((l.getD i.toNat default).Seq)]].flatten ++ B)) := by
  subst hj
  obtain ⟨q, h1, h2, h3, h4⟩ := h.ex
  have hlen : ([av .u8 32 ((l.getD i.toNat default).From.Tx), [.int .u32 ((l.getD i.toNat default).From.N)], [v], [.int .u32 ((l.getD i.toNat default).Seq)]].flatten : List Value).length = 35 := by simp [av_len]
  generalize hX : (⟨(l.getD i.toNat default).From, r, (l.getD i.toNat default).Seq⟩ : In) = X at hw ⊢
  by_cases hz : i = 0
  · subst hz
    have hA' : A = [] := List.eq_nil_of_length_eq_zero (by simpa using hA)
    subst hA'
    simp only [List.nil_append] at hc ⊢
    refine ⟨v.ownBlock, fun g hg => hW.low g hg, ?_, fun h => absurd h (by decide), fun _ => ⟨X, v, cs, ?_, ?_, rfl, ?_, ?_⟩⟩
    · rw [List.drop_left' hlen]
      rw [hc, List.drop_left' hcl] at h2
      have e : (l.set (0 : Int).toNat X).drop 1 = l.drop 1 := by cases l <;> simp
      rw [e]
      rw [h3 rfl] at h2
      exact h2.mono fun x c hr => RIn.le ((hole_le).trans (le_hole hle hno)) hr
    · show (l.set 0 X)[0]? = some X
      exact List.getElem?_set_self (by have := hi.2; omega)
    · rw [List.take_left' hlen, ← hX]
    · rw [← hX]; exact hE
    · rw [← hX]; exact hW
  · obtain ⟨X0, vk, ck, e1, e2, e3, e4, e5⟩ := h4 hz
    have hi1 : 1 ≤ i.toNat := by omega
    have hA35 : 35 ≤ A.length := by rw [hA]; omega
    refine ⟨q, fun g hg => ⟨(h1 g hg).1, ?_⟩, ?_, fun h => absurd h (by omega), fun _ => ⟨X0, vk, ck, ?_, ?_, e3, e4, e5.le hle⟩⟩
    · intro hn
      cases hm : μ g with
      | none => exact (h1 g hg).2 hm
      | some o => rw [hle g o hm] at hn; cases hn
    · have hd : (l.set i.toNat X).drop 1 = (l.drop 1).set (i.toNat - 1) X := by
        cases l with
        | nil => simp
        | cons y ys =>
          obtain ⟨m, hm⟩ : ∃ m, i.toNat = m + 1 := ⟨i.toNat - 1, by omega⟩
          rw [hm]; simp
      rw [hd, List.drop_append_of_le_length hA35]
      rw [hc, List.drop_append_of_le_length hA35] at h2
      have h2' := h2.mono fun x c hr => RIn.le (hole_mono hle) hr
      refine Els.setAt h2' rfl (by rw [List.length_drop]; omega) (by rw [List.length_drop, hA]; omega) hcl ⟨v, by rw [← hX]; rfl, ?_⟩ hlen
      refine ⟨hw.1, hw.2.1, ?_, hw.2.2.2⟩
      obtain ⟨cs', k1, k2⟩ := hw.2.2.1
      refine ⟨cs', k1, SlV.hole k2 fun hn hq => ?_⟩
      obtain ⟨a, cp, rfl, _, _, k3, _⟩ := k2
      have hb : (Value.slice a X.Key.length cp).ownBlock = some (sb (Value.slice a X.Key.length cp)) := by
        rcases a with _ | a
        · exact absurd (k3 hn) (by simp)
        · rfl
      exact (h1 _ hq).2 (hno _ hb)
    · rw [List.getElem?_set_ne (by omega)]; exact e1
    · rw [List.take_append_of_le_length hA35]
      rw [hc, List.take_append_of_le_length hA35] at e2
      exact e2
end Go.Proofs.Ytkfpmcplfodikaa.T
namespace Go.Proofs.Ytkfpmcplfodikaa.T
open Go Go.Proofs Go.Proofs.Ytkfpmcplfodikaa.K
set_option linter.unusedVariables false
set_option linter.unusedSimpArgs false
set_option maxRecDepth 20000 in
theorem tx_Clone.o (μ : Store) (w0 : World) (hμ : Agr μ w0) (x0 : Tx) (u0_0 : Value) (u0_1 : Value) (hx0 : TxW μ x0 u0_0 u0_1) (r : Tx) (H : tx_Clone.f x0 = some r) :
    Calls Try.prog 6 [.agg [[.int .u32 x0.Version], [u0_0], [u0_1], [.int .u32 x0.Time]].flatten.toArray].toArray w0 (fun e w' => ∃ v, e = .returned v ∧ ∃ (v0_0 v0_1 : Value) (μ' : Store) (c0 c1 : List Value), v = .agg [[.int .u32 r.Version], [v0_0], [v0_1], [.int .u32 r.Time]].flatten.toArray ∧ InR .u32 r.Version ∧ InR .u32 r.Time ∧ Els (RIn μ') 35 r.Ins c0 ∧ Els (ROut μ') 33 r.Outs c1 ∧ (r.Ins ≠ [] → OwnK w0.heap.size μ' 1 r.Ins c0) ∧ Iv w0 [] μ μ' [row 39 33 v0_1 r.Outs.length c1, row 36 35 v0_0 r.Ins.length c0] w') := by
  refine enter Try.func6 rfl Try.ntmps6 rfl fun a hA => ?_
  have hI := Iv.start hμ
  have H := bI H
  refine w_seq fun _ hN1 => w_reg <| o_box [[.int .u32 x0.Version], [u0_0], [u0_1], [.int .u32 x0.Time]] hI hA rfl rfl rfl fun g1 a w hA hI hg1 => 
    o_new [[.int .u32 0], [(.slice none 0 0)], [(.slice none 0 0)], [.int .u32 0]] zr26 hI hA rfl fun g2 a w hA hI hg2 => ?_
  refine o_nil <| hN1 _ _ <| w_seq fun _ hN2 => ?_
  refine w_any [7, 9] mo hI fun w hI => ?_
  refine gE 0 hA rfl (.inr hI) (fun _ => r_fd (k := 1) Try.underlying26 rfl sz23 hA rfl rfl) fun a hA => ?_
  refine gT 1 hA rfl hI (fun w hI => r_ld1 (j := 1) [[.int .u32 x0.Version]] [[u0_1], [.int .u32 x0.Time]] Try.underlying23 rfl hI rfl hA rfl rfl) fun a hA => ?_
  refine gE 3 hA rfl (.inr hI) (fun _ => r_fd (k := 2) Try.underlying26 rfl sz24 hA rfl rfl) fun a hA => ?_
  refine gT 4 hA rfl hI (fun w hI => r_ld1 (j := 1) [[.int .u32 x0.Version], [u0_0]] [[.int .u32 x0.Time]] Try.underlying24 rfl hI rfl hA rfl rfl) fun a hA => ?_
  refine gF 2 rfl ?_
  obtain ⟨r1, hr1, H⟩ := bB H
  refine o_call _ cf10 hA rfl (slices_Clone_api_In_api_In.c μ _ hI.agr x0.Ins u0_0 hx0.2.1 r1 hr1) rfl fun v1 a w hz1 hA => ?_
  obtain ⟨_, cs1, μ1, rfl, hE1, hi1⟩ := hz1
  have hI := hI.call hi1
  refine o_nil <| ⟨(.inr ((hI.sl [1, 2] rfl).less (Store.le.refl _) hi1.le)), ?_⟩
  refine gE 6 hA rfl (.inr ((hI.sl [1, 2] rfl).less (Store.le.refl _) hi1.le)) (fun _ => r_fd (k := 1) Try.underlying26 rfl sz23 hA rfl rfl) fun a hA => ?_
  refine gF 5 rfl ?_
  obtain ⟨r2, hr2, H⟩ := bB H
  refine o_call _ cf11 hA rfl (slices_Clone_api_Out_api_Out.c μ1 _ hI.agr x0.Outs u0_1 (Slc.le hx0.2.2.1 (fun _ _ h => ROut.le hi1.le h) hi1.le) r2 hr2) rfl fun v2 a w hz2 hA => ?_
  obtain ⟨_, cs2, rfl, hE2, hi2⟩ := hz2
  have hI := hI.call hi2
  refine o_nil <| ⟨(.inr ((hI.sl [2, 3] rfl).less (Store.le.refl _) hi1.le)), ?_⟩
  refine gF 7 rfl ?_
  have hone := own_one hI (j := 1) rfl
  have hcel := own_cell hI (j := 1) rfl
  refine o_st (j := 3) [[.int .u32 x0.Version]] [[u0_0]] [[v1]] [[u0_1], [.int .u32 x0.Time]] sz23 rfl rfl (by intro c hc; simp at hc; subst hc; exact hone) hI rfl hA rfl rfl hcel rfl fun w hI => ?_
  refine o_nil <| ⟨(.inl (by kernel_rfl)), ?_⟩
  refine gE 8 hA rfl (.inl (by kernel_rfl)) (fun _ => r_fd (k := 2) Try.underlying26 rfl sz24 hA rfl rfl) fun a hA => ?_
  refine gF 9 rfl ?_
  have hone := own_one hI (j := 0) rfl
  have hcel := own_cell hI (j := 0) rfl
  refine o_st (j := 3) [[.int .u32 x0.Version], [v1]] [[u0_1]] [[v2]] [[.int .u32 x0.Time]] sz24 rfl rfl (by intro c hc; simp at hc; subst hc; exact hone) hI rfl hA rfl rfl hcel rfl fun w hI => ?_
  refine o_nil <| ⟨(.inl (by kernel_rfl)), ?_⟩
  refine gN <| hN2 _ _ ?_
  obtain ⟨c1, hz3, Hk1⟩ := bB H
  refine w_cut (fun a w => ∃ (μ2 : Store) (ccc1 : List Value), (c1 ≠ [] → OwnK w0.heap.size μ2 1 c1 ccc1) ∧ μ1.le μ2 ∧ Els (RIn μ2) 35 c1 ccc1 ∧ Fr a 32 [(1, .pointer (some ⟨g1, 0, none⟩)), (2, .pointer (some ⟨g2, 0, none⟩))] ∧ Iv w0 [] μ μ2 [row 39 33 v2 r2.length cs2, row 36 35 v1 c1.length ccc1, cel g2 [[.int .u32 0], [(.slice none 0 0)], [(.slice none 0 0)], [.int .u32 0]] 26, cel g1 [[.int .u32 x0.Version], [v1], [v2], [.int .u32 x0.Time]] 26] w) ?_ ?_
  · have H := bI hz3
    refine w_seq fun _ hN3 => w_reg <| stp hA (r_fd (k := 1) Try.underlying26 rfl sz23 hA rfl rfl) rfl fun a hA => 
      stp hA (r_ld1 (j := 3) [[.int .u32 x0.Version]] [[v2], [.int .u32 x0.Time]] Try.underlying23 rfl hI rfl hA rfl rfl) rfl fun a hA => ?_
    have hlen1 := Iv.row_in hI (j := 1) rfl
    refine stp hA (r_rlen (xs := 0) Try.underlying23 hI (j := 1) rfl hA rfl) rfl fun a hA => 
      stm hA rfl rfl fun a hA => ?_
    refine o_nil <| hN3 _ _ <| w_block ?_
    obtain ⟨z1, hz4, Hk2⟩ := bind_some H
    obtain ⟨n1, hn1⟩ := loopO_some hz4
    refine w_loop (fun n a w => ∃ (s1 : Int) (s2 : List In) (μ3 : Store) (ccs2 : List Value), loopN (tx_Clone.s0 r1) n (s1, s2) = some z1 ∧ (s2.length = r1.length ∧ 0 ≤ s1 ∧ OwnK w0.heap.size μ3 s1 s2 ccs2) ∧ μ1.le μ3 ∧ InR .i64 s1 ∧ Els (RIn μ3) 35 s2 ccs2 ∧ Fr a 32 [(1, .pointer (some ⟨g1, 0, none⟩)), (2, .pointer (some ⟨g2, 0, none⟩)), (14, .int .i64 (r1.length : Int)), (15, .int .i64 s1)] ∧ Iv w0 [] μ μ3 [row 39 33 v2 r2.length cs2, row 36 35 v1 s2.length ccs2, cel g2 [[.int .u32 0], [(.slice none 0 0)], [(.slice none 0 0)], [.int .u32 0]] 26, cel g1 [[.int .u32 x0.Version], [v1], [v2], [.int .u32 x0.Time]] 26] w) n1 ⟨0, r1, μ1, cs1, hn1, ⟨rfl, by decide, OwnK.start hE1⟩, (Store.le.refl _), (in_lit .i64 0 rfl), hE1, hA.sub ⟨rfl, rfl, rfl, rfl, trivial⟩, hI⟩ ?_
    clear hA hI
    rintro n a w ⟨s1, s2, μ3, ccs2, hn1, ⟨hln, h0, hown⟩, hle2, ws1, ws2, hA, hI⟩
    obtain ⟨m1, rfl, H⟩ := loopN_bind hn1
    clear hn1
    refine w_seq fun _ hN4 => w_reg <| stp hA (r_lss hA rfl rfl) rfl fun a hA => ?_
    refine o_nil <| hN4 _ _ <| w_seq fun _ hN5 => w_cond hA rfl (fun hc1 => ?_) (fun hc1 => ?_)
    · obtain ⟨hc1, H⟩ := dT H hc1
      refine w_skip <| hN5 _ _ <| w_seq fun _ hN6 => w_block <| w_seq fun _ hN7 => w_reg <| stm hA rfl rfl fun a hA => 
        sta hA rfl rfl fun a hA => ?_
      refine o_nil <| hN7 _ _ ?_
      refine w_any [12] mo hI fun w hI => ?_
      refine gE 0 hA rfl (.inr hI) (fun _ => r_fd (k := 1) Try.underlying26 rfl sz23 hA rfl rfl) fun a hA => ?_
      refine gT 1 hA rfl hI (fun w hI => r_ld1 (j := 3) [[.int .u32 x0.Version]] [[v2], [.int .u32 x0.Time]] Try.underlying23 rfl hI rfl hA rfl rfl) fun a hA => ?_
      refine gE 2 hA rfl (.inr hI) (fun _ => r_mv hA rfl) fun a hA => ?_
      refine gE 3 hA rfl (.inr hI) (fun _ => r_fd (k := 1) Try.underlying26 rfl sz23 hA rfl rfl) fun a hA => ?_
      refine gT 4 hA rfl hI (fun w hI => r_ld1 (j := 3) [[.int .u32 x0.Version]] [[v2], [.int .u32 x0.Time]] Try.underlying23 rfl hI rfl hA rfl rfl) fun a hA => ?_
      refine gE 5 hA rfl (.inr hI) (fun _ => r_mv hA rfl) fun a hA => ?_
      obtain ⟨hb1, H⟩ := bG H
      refine gT 6 hA rfl hI (fun w hI => r_rix (j := 1) Try.underlying23 sz36 hI rfl hA rfl rfl hb1.1 hb1.2) fun a hA => ?_
      refine gE 7 hA rfl (.inr hI) (fun _ => r_fd (k := so v1 + s1.toNat * 35 + 33) Try.underlying36 rfl sz34 hA rfl rfl) fun a hA => ?_
      obtain ⟨A1, _, B1, hc2, hl1, _, he1⟩ := Els.at_ ws2 (getD_some default hb1.1 hb1.2)
      obtain ⟨v3, rfl, hw1⟩ := he1
      refine gT 8 hA rfl hI (fun w hI => r_rldQ (j := 1) (q := s1.toNat * 35) (off := 33) A1 B1 [av .u8 32 ((s2.getD s1.toNat default).From.Tx), [.int .u32 ((s2.getD s1.toNat default).From.N)]] [[.int .u32 ((s2.getD s1.toNat default).Seq)]] hc2 hl1 rfl Try.underlying34 rfl hI rfl hA rfl) fun a hA => ?_
      refine gF 9 rfl ?_
      obtain ⟨r3, hr3, H⟩ := bB H
      refine o_call _ cf12 hA rfl (bytes_Clone.c μ3 _ hI.agr ((s2.getD s1.toNat default).Key) v3 hw1.2.2.1 r3 hr3) rfl fun v4 a w hz5 hA => ?_
      obtain ⟨_, cs3, rfl, hE3, hi3⟩ := hz5
      have hI := hI.call hi3
      refine o_nil <| ⟨(.inr (hI.sl [1, 2, 3, 4] rfl)), ?_⟩
      refine g_mono (I' := fun w => Iv w0 [] μ μ3 [row 5 1 v4 r3.length cs3, row 39 33 v2 r2.length cs2, row 36 35 v1 s2.length ccs2, cel g2 [[.int .u32 0], [(.slice none 0 0)], [(.slice none 0 0)], [.int .u32 0]] 26, cel g1 [[.int .u32 x0.Version], [v1], [v2], [.int .u32 x0.Time]] 26] w) (fun w h => (h.sl [1, 2, 3, 4] rfl)) _ _ _ _ ?_
      refine gT 10 hA rfl hI (fun w hI => r_rix (j := 2) Try.underlying23 sz36 hI rfl hA rfl rfl hb1.1 hb1.2) fun a hA => ?_
      refine gE 11 hA rfl (.inr hI) (fun _ => r_fd (k := so v1 + s1.toNat * 35 + 33) Try.underlying36 rfl sz34 hA rfl rfl) fun a hA => ?_
      refine gF 12 rfl ?_
      obtain ⟨μ4, hle3, hsv1, hI, hwas, hno⟩ := hI.freezeRowW 0 rfl
      have hS1 : Slc (RI .u8) 1 μ4 v4 r3 := ⟨_, hE3, hsv1⟩
      obtain ⟨A2, _, B2, hc3, hl2, hl3, he2⟩ := Els.at_ (Els.mono ws2 (fun _ _ h => RIn.le hle3 h)) (getD_some default hb1.1 hb1.2)
      obtain ⟨v5, rfl, hw2⟩ := he2
      have hE4 := Els.setAt (y := (⟨(s2.getD s1.toNat default).From, r3, (s2.getD s1.toNat default).Seq⟩ : In)) (d := [av .u8 32 ((s2.getD s1.toNat default).From.Tx), [.int .u32 ((s2.getD s1.toNat default).From.N)], [v4], [.int .u32 ((s2.getD s1.toNat default).Seq)]].flatten) (Els.mono ws2 (fun _ _ h => RIn.le hle3 h)) hc3 (idx_lt hb1.1 hb1.2) hl2 hl3 ⟨v4, rfl, ⟨hw2.1, hw2.2.1, hS1, hw2.2.2.2⟩⟩ rfl
      obtain ⟨_, hsc1⟩ := Slc.sv hS1
      have hw1s : IntKind.i64.wrap (s1 + 1) = s1 + 1 := wrap_id ⟨by have := ws1.1; omega, by have := hlen1.2; omega⟩
      have hown2 := hown.step hb1 hle3 hwas hno hE3 hS1 ⟨hw2.1, hw2.2.1, hS1, hw2.2.2.2⟩ hc3 hl2 hl3 (IntKind.i64.wrap (s1 + 1)) hw1s
      refine o_rstPL (j := 1) (q := s1.toNat * 35) (off := 33) (m' := (s2.set s1.toNat (⟨(s2.getD s1.toNat default).From, r3, (s2.getD s1.toNat default).Seq⟩ : In)).length) A2 B2 [av .u8 32 ((s2.getD s1.toNat default).From.Tx), [.int .u32 ((s2.getD s1.toNat default).From.N)]] [[v5]] [[v4]] [[.int .u32 ((s2.getD s1.toNat default).Seq)]] hc3 hl2 rfl sz34 rfl rfl (fl_cons (oneC (one_sl hsc1)) fl_nil) hI rfl hA rfl rfl (cells_sl hsc1) (by omega) (by first | exact (List.length_set ..).symm | simp) fun w hI => ?_
      refine o_nil <| ⟨(.inl (by kernel_rfl)), ?_⟩
      refine gN <| hN6 _ _ <| w_reg <| stp hA (r_add hA rfl rfl) rfl fun a hA => 
        stm hA rfl rfl fun a hA => ?_
      refine o_nil <| ⟨m1, Nat.lt_succ_self _, IntKind.i64.wrap (s1 + 1), s2.set s1.toNat (⟨(s2.getD s1.toNat default).From, r3, (s2.getD s1.toNat default).Seq⟩ : In), μ4, A2 ++ ([av .u8 32 ((s2.getD s1.toNat default).From.Tx), [.int .u32 ((s2.getD s1.toNat default).From.N)], [v4], [.int .u32 ((s2.getD s1.toNat default).Seq)]].flatten ++ B2), H, ⟨by rw [List.length_set]; exact hln, by rw [hw1s]; omega, hown2⟩, (hle2.trans hle3), (wrap_in _ _), hE4, hA.sub ⟨rfl, rfl, rfl, rfl, trivial⟩, hI⟩
    · obtain ⟨hc1, H⟩ := dF H hc1
      refine w_exit rfl ?_
      have H : some s2 = some z1 := H
      obtain rfl := sI H
      have H := Hk2
      cases sJ H
      exact ⟨μ3, ccs2, fun hne => hown.fin (by have := List.length_pos_iff.2 hne; omega), hle2, ws2, hA.sub ⟨rfl, rfl, trivial⟩, hI⟩
  · rintro a w ⟨μ2, ccc1, hown, hle1, wc1, hA, hI⟩
    have H := Hk1
    refine w_seq fun _ hN8 => w_reg <| stp hA (r_ldA (j := 3) [] [[.int .u32 x0.Version], [v1], [v2], [.int .u32 x0.Time]] [] Try.underlying26 rfl sz26 rfl hI rfl hA rfl rfl) rfl fun a hA => 
      o_st (j := 2) [] [[.int .u32 0], [(.slice none 0 0)], [(.slice none 0 0)], [.int .u32 0]] [[.int .u32 x0.Version], [v1], [v2], [.int .u32 x0.Time]] [] sz26 rfl rfl (fl_cons (oneC rfl) (fl_cons (oneC (own_one hI (j := 1) rfl)) (fl_cons (oneC (own_one hI (j := 0) rfl)) (fl_cons (oneC rfl) fl_nil)))) hI rfl hA rfl rfl rfl rfl fun w hI => ?_
    refine o_nil <| hN8 _ _ <| w_ret ?_
    obtain rfl := sJ H
    exact retc Try.underlying26 rfl sz26 rfl hI (j := 2) rfl hA Try.results6 rfl ⟨_, rfl, v1, v2, μ2, ccc1, cs2, rfl, hx0.1, hx0.2.2.2, wc1, hE2, hown, (hI.sl [0, 1] rfl)⟩
end Go.Proofs.Ytkfpmcplfodikaa.T
namespace Go.Proofs.Ytkfpmcplfodikaa.T
open Go Go.Proofs Go.Proofs.Ytkfpmcplfodikaa.K
set_option linter.unusedVariables false
set_option linter.unusedSimpArgs false
theorem own_end {w0 w : World} {μ H0 : Store} {its : List It} {vk v2 v3 : Value} {kk : List Int} {ck tl cO : List Value} {n1 n2 : Nat} {rest : List In} {outs : List Out} {X : In}
    (hI : Iv w0 [] μ H0 (row 5 1 vk kk.length ck :: row 36 35 v2 n1 ((InC X vk).flatten ++ tl) :: row 39 33 v3 n2 cO :: its) w) (hEk : Els (RI .u8) 1 kk ck) (hX : X.Key = kk) (hX1 : Arr .u8 32 X.From.Tx) (hX2 : InR .u32 X.From.N) (hX3 : InR .u32 X.Seq) (hEt : Els (RIn H0) 35 rest tl) (hEO : Els (ROut H0) 33 outs cO) (hn1 : n1 = (X :: rest).length) (hn2 : n2 = outs.length) :
    ∃ μ3, H0.le μ3 ∧ Slc (RIn μ3) 35 μ3 v2 (X :: rest) ∧ Slc (ROut μ3) 33 μ3 v3 outs ∧ Iv w0 [] μ μ3 its w := by
  subst hn1 hn2 hX
  obtain ⟨μa, hla, hsa, hI, -⟩ := hI.freezeRowW 0 rfl
  obtain ⟨μb, hlb, hsb, hI, -⟩ := hI.freezeRowW 0 rfl
  obtain ⟨μc, hlc, hsc, hI, -⟩ := hI.freezeRowW 0 rfl
  have hbc : H0.le μc := hla.trans (hlb.trans hlc)
  refine ⟨μc, hbc, ⟨_, Els.cons ⟨vk, rfl, hX1, hX2, ⟨ck, hEk, hsa.le (hlb.trans hlc)⟩, hX3⟩ (by simp [InC, av_len]) (hEt.mono fun _ _ h => RIn.le hbc h), hsb.le hlc⟩, ⟨_, hEO.mono fun _ _ h => ROut.le hbc h, hsc⟩, hI⟩
def OwnP (r1 : Bool) (r3 r4 x0 : Tx) : Prop := r1 = true ∧ sargassoref_SameTx.f r4 x0 = some true ∧ r3.Ins ≠ [] ∧ r3.Outs ≠ [] ∧ ∀ c : Tx, (c.Ins.length = r3.Ins.length ∧ (c.Ins.getD 0 default).Seq = IntKind.u32.wrap ((r3.Ins.getD 0 default).Seq + 1) ∧ (c.Ins.getD 0 default).From = (r3.Ins.getD 0 default).From ∧ (c.Ins.getD 0 default).Key.length = (r3.Ins.getD 0 default).Key.length) → sargassoref_SameTx.f c x0 = some false
open Classical in
noncomputable def ownR (r1 : Bool) (r3 r4 x0 : Tx) : Option Bool := if OwnP r1 r3 r4 x0 then some true else none
theorem ownR_some {r1 r : Bool} {r3 r4 x0 : Tx} (h : ownR r1 r3 r4 x0 = some r) : OwnP r1 r3 r4 x0 ∧ r = true := by
  unfold ownR at h
  split at h
  · exact ⟨by assumption, by cases h; rfl⟩
  · cases h
end Go.Proofs.Ytkfpmcplfodikaa.T
namespace Go.Proofs.Ytkfpmcplfodikaa.T
open Go Go.Proofs Go.Proofs.Ytkfpmcplfodikaa.K
set_option linter.unusedVariables false
set_option linter.unusedSimpArgs false
noncomputable def sargassolaw4_TxOwn.f (x0 : Tx) : Option Bool := ((sargassolaw4_first.f).bind fun r1 => (if r1 = true then ((((sargassolaw4_light.f x0).bind fun r2 => (if r2 = true then (if (x0.Ins.length : Int) = 0 then some true else some (decide ((x0.Outs.length : Int) = 0))) else some true))).bind fun c1 => (if c1 = true then some r1 else ((tx_Clone.f x0).bind fun r3 => ((tx_Clone.f x0).bind fun r4 => (((if (r3.Ins.length : Int) ≠ (x0.Ins.length : Int) then some true else (if (r3.Outs.length : Int) ≠ (x0.Outs.length : Int) then some true else (if 0 < (r3.Ins.length : Int) then (if 0 < (x0.Ins.length : Int) then some (decide ((((r3.Ins.getD (0 : Int).toNat default).Key).length : Int) ≠ (((x0.Ins.getD (0 : Int).toNat default).Key).length : Int))) else none) else none)))).bind fun c2 => (if c2 = true then some false else ownR r1 r3 r4 x0)))))) else some false))
end Go.Proofs.Ytkfpmcplfodikaa.T
namespace Go.Proofs.Ytkfpmcplfodikaa.T
open Go Go.Proofs Go.Proofs.Ytkfpmcplfodikaa.K
set_option linter.unusedVariables false
set_option linter.unusedSimpArgs false
theorem cf7 : CalleeF Try.prog 7 := ⟨Try.f7, Try.func7, by decide, rfl⟩
set_option maxRecDepth 20000 in
theorem sargassolaw4_TxOwn.c (μ : Store) (w0 : World) (hμ : Agr μ w0) (x0 : Tx) (u0_0 : Value) (u0_1 : Value) (hx0 : TxW μ x0 u0_0 u0_1) (r : Bool) (H : sargassolaw4_TxOwn.f x0 = some r) :
    Calls Try.prog 3 [.agg [[.int .u32 x0.Version], [u0_0], [u0_1], [.int .u32 x0.Time]].flatten.toArray].toArray w0 (fun e w' => ∃ v, e = .returned v ∧ v = .bool r ∧ True ∧ Iv w0 [] μ μ [] w') := by
  refine enter Try.func3 rfl Try.ntmps3 rfl fun a hA => ?_
  have hI := Iv.start hμ
  have H := bI H
  refine w_seq fun _ hN1 => w_reg <| o_box [[.int .u32 x0.Version], [u0_0], [u0_1], [.int .u32 x0.Time]] hI hA rfl rfl rfl fun g1 a w hA hI hg1 => 
    sta hA rfl rfl fun a hA => ?_
  refine o_nil <| hN1 _ _ <| w_seq fun _ hN2 => w_reg ?_
  obtain ⟨r1, hr1, H⟩ := bB H
  refine o_callp (u := .bool r1) cf4 hA rfl hI (sargassolaw4_first.c μ _ hI.agr  r1 hr1) rfl fun a w hz1 hI hA => 
    sta hA rfl rfl fun a hA => ?_
  refine o_nil <| hN2 _ _ <| w_seq fun _ hN3 => w_seq fun _ hN4 => w_reg <| stm hA rfl rfl fun a hA => 
    stp hA (r_not hA rfl) rfl fun a hA => ?_
  refine o_nil <| hN4 _ _ <| w_cond hA rfl (fun hc1 => ?_) (fun hc1 => ?_)
  · have hc1 := nT hc1; have hc1 := ft hc1; have H := bF H hc1
    refine w_seq fun _ hN5 => w_reg <| sta hA rfl rfl fun a hA => ?_
    refine o_nil <| hN5 _ _ <| w_ret ?_
    obtain rfl := sJ H
    exact ret1 hA Try.results3 rfl ⟨_, rfl, rfl, trivial, hI.forget0⟩
  · have hc1 := nF hc1; have H := bT H hc1
    refine w_skip <| hN3 _ _ <| w_seq fun _ hN6 => ?_
    obtain ⟨c1, hz2, Hk1⟩ := bB H
    refine w_cut (fun a w => Fr a 104 [(1, .pointer (some ⟨g1, 0, none⟩)), (2, .bool false), (3, .bool r1), (23, .bool c1)] ∧ Iv w0 [] μ μ [cel g1 [[.int .u32 x0.Version], [u0_0], [u0_1], [.int .u32 x0.Time]] 26] w) ?_ ?_
    · have H := bI hz2
      refine w_reg <| stp hA (r_ldA (j := 0) [] [[.int .u32 x0.Version], [u0_0], [u0_1], [.int .u32 x0.Time]] [] Try.underlying26 rfl sz26 rfl hI rfl hA rfl rfl) rfl fun a hA => ?_
      obtain ⟨r2, hr2, H⟩ := bB H
      refine o_callp (u := .bool r2) cf5 hA rfl hI (sargassolaw4_light.c μ _ hI.agr x0 u0_0 u0_1 ⟨hx0.1, hx0.2.1, hx0.2.2.1, hx0.2.2.2⟩ r2 hr2) rfl fun a w hz3 hI hA => 
        stp hA (r_not hA rfl) rfl fun a hA => 
        stm hA rfl rfl fun a hA => ?_
      rcases Bool.eq_false_or_eq_true (!r2) with hc2 | hc2
      · have hc20 := hc2; have hc2 := nT hc2; have hc2 := ft hc2; have H := bF H hc2
        refine o_no hA rfl rfl (by rw [hc20]; simp [vb]) rfl fun a hA => 
          o_no hA rfl rfl (by rw [hc20]; simp [vb]) rfl fun a hA => 
          o_no hA rfl rfl (by rw [hc20]; simp [vb]) rfl fun a hA => 
          o_no hA rfl rfl (by rw [hc20]; simp [vb]) rfl fun a hA => 
          stp hA (r_pick_t hA rfl hc20 rfl) rfl fun a hA => 
          stm hA rfl rfl fun a hA => 
          o_no hA rfl rfl (by simp [vb]) rfl fun a hA => 
          o_no hA rfl rfl (by simp [vb]) rfl fun a hA => 
          o_no hA rfl rfl (by simp [vb]) rfl fun a hA => 
          o_no hA rfl rfl (by simp [vb]) rfl fun a hA => 
          stp hA (r_pick_t hA rfl rfl rfl) rfl fun a hA => ?_
        refine o_nil ?_
        cases sJ H
        exact ⟨hA.sub ⟨rfl, rfl, rfl, rfl, trivial⟩, hI⟩
      · have hc20 := hc2; have hc2 := nF hc2; have H := bT H hc2
        refine o_yes hA rfl rfl hc20 <| 
          stp hA (r_fd (k := 1) Try.underlying26 rfl sz23 hA rfl rfl) rfl fun a hA => 
          o_yes hA rfl rfl hc20 <| 
          stp hA (r_ld1 (j := 0) [[.int .u32 x0.Version]] [[u0_1], [.int .u32 x0.Time]] Try.underlying23 rfl hI rfl hA rfl rfl) rfl fun a hA => 
          o_yes hA rfl rfl hc20 <| ?_
        obtain ⟨_, hsl1⟩ := Slc.sv hx0.2.1
        refine stp hA (r_slen Try.underlying23 hsl1 hA rfl) rfl fun a hA => 
          o_yes hA rfl rfl hc20 <| 
          stp hA (r_eql hA rfl rfl) rfl fun a hA => 
          stp hA (r_pick_f hA rfl hc20 rfl) rfl fun a hA => 
          stm hA rfl rfl fun a hA => ?_
        rcases Bool.eq_false_or_eq_true (decide ((x0.Ins.length : Int) = 0)) with hc3 | hc3
        · have hc30 := hc3; obtain ⟨hc3, H⟩ := dT H hc3
          refine o_no hA rfl rfl (by rw [hc30]; simp [vb]) rfl fun a hA => 
            o_no hA rfl rfl (by rw [hc30]; simp [vb]) rfl fun a hA => 
            o_no hA rfl rfl (by rw [hc30]; simp [vb]) rfl fun a hA => 
            o_no hA rfl rfl (by rw [hc30]; simp [vb]) rfl fun a hA => 
            stp hA (r_pick_t hA rfl hc30 rfl) rfl fun a hA => ?_
          refine o_nil ?_
          cases sJ H
          exact ⟨hA.sub ⟨rfl, rfl, rfl, rfl, trivial⟩, hI⟩
        · have hc30 := hc3; obtain ⟨hc3, H⟩ := dF H hc3
          refine o_yes hA rfl rfl hc30 <| 
            stp hA (r_fd (k := 2) Try.underlying26 rfl sz24 hA rfl rfl) rfl fun a hA => 
            o_yes hA rfl rfl hc30 <| 
            stp hA (r_ld1 (j := 0) [[.int .u32 x0.Version], [u0_0]] [[.int .u32 x0.Time]] Try.underlying24 rfl hI rfl hA rfl rfl) rfl fun a hA => 
            o_yes hA rfl rfl hc30 <| ?_
          obtain ⟨_, hsl2⟩ := Slc.sv hx0.2.2.1
          refine stp hA (r_slen Try.underlying24 hsl2 hA rfl) rfl fun a hA => 
            o_yes hA rfl rfl hc30 <| 
            stp hA (r_eql hA rfl rfl) rfl fun a hA => 
            stp hA (r_pick_f hA rfl hc30 rfl) rfl fun a hA => ?_
          refine o_nil ?_
          cases sJ H
          exact ⟨hA.sub ⟨rfl, rfl, rfl, rfl, trivial⟩, hI⟩
    · rintro a w ⟨hA, hI⟩
      have H := Hk1
      refine w_cond hA rfl (fun hc4 => ?_) (fun hc4 => ?_)
      · have H := bT H hc4
        refine w_seq fun _ hN7 => w_reg <| stm hA rfl rfl fun a hA => 
          sta hA rfl rfl fun a hA => ?_
        refine o_nil <| hN7 _ _ <| w_ret ?_
        obtain rfl := sJ H
        exact ret1 hA Try.results3 rfl ⟨_, rfl, rfl, trivial, hI.forget0⟩
      · have hc4 := ft hc4; have H := bF H hc4
        refine w_skip <| hN6 _ _ <| w_seq fun _ hN8 => w_reg <| stp hA (r_ldA (j := 0) [] [[.int .u32 x0.Version], [u0_0], [u0_1], [.int .u32 x0.Time]] [] Try.underlying26 rfl sz26 rfl hI rfl hA rfl rfl) rfl fun a hA => ?_
        obtain ⟨r3, hr3, H⟩ := bB H
        refine o_call _ cf6 hA rfl (tx_Clone.o μ _ hI.agr x0 u0_0 u0_1 ⟨hx0.1, hx0.2.1, hx0.2.2.1, hx0.2.2.2⟩ r3 hr3) rfl fun v1 a w hz4 hA => ?_
        obtain ⟨v2, v3, μa, cI, cO, rfl, hVe, hTi, hEI, hEO, hown, hi1⟩ := hz4
        have hsz1 := hI.size
        have hI := hI.call hi1
        obtain ⟨μb, hleb, hsvO, hI, hWO, hnO⟩ := hI.freezeRowW 0 rfl
        obtain ⟨μ1, hlec, hsvI, hI, hWI, hnI⟩ := hI.freezeRowW 0 rfl
        have hle1 : μ.le μ1 := hi1.le.trans (hleb.trans hlec)
        have hw1 : TxW μ1 r3 v2 v3 := ⟨hVe, ⟨_, hEI.mono fun _ _ h => RIn.le (hleb.trans hlec) h, hsvI⟩, ⟨_, hEO.mono fun _ _ h => ROut.le (hleb.trans hlec) h, hsvO.le hlec⟩, hTi⟩
        refine o_new [[.int .u32 0], [(.slice none 0 0)], [(.slice none 0 0)], [.int .u32 0]] zr26 hI hA rfl fun g2 a w hA hI hg2 => ?_
        obtain ⟨_, hsl3⟩ := Slc.sv hw1.2.1
        obtain ⟨_, hsl4⟩ := Slc.sv hw1.2.2.1
        refine o_st (j := 0) [] [[.int .u32 0], [(.slice none 0 0)], [(.slice none 0 0)], [.int .u32 0]] [[.int .u32 r3.Version], [v2], [v3], [.int .u32 r3.Time]] [] sz26 rfl rfl (fl_cons (oneC rfl) (fl_cons (oneC (one_sl hsl3)) (fl_cons (oneC (one_sl hsl4)) (fl_cons (oneC rfl) fl_nil)))) hI rfl hA rfl rfl rfl rfl fun w hI => ?_
        refine o_nil <| hN8 _ _ <| w_seq fun _ hN9 => w_reg <| stp hA (r_ldA (j := 1) [] [[.int .u32 x0.Version], [u0_0], [u0_1], [.int .u32 x0.Time]] [] Try.underlying26 rfl sz26 rfl hI rfl hA rfl rfl) rfl fun a hA => ?_
        obtain ⟨r4, hr4, H⟩ := bB H
        refine o_call _ cf6 hA rfl (tx_Clone.c μ _ (fun k o e => hI.agr k o (hle1 k o e)) x0 u0_0 u0_1 ⟨hx0.1, hx0.2.1, hx0.2.2.1, hx0.2.2.2⟩ r4 hr4) rfl fun v4 a w hz5 hA => ?_
        obtain ⟨v5, v6, ν, rfl, hw2, hi2⟩ := hz5
        obtain ⟨μ2, hle2, hνle, hI, hνn⟩ := hI.call2 hle1 hi2
        refine o_new [[.int .u32 0], [(.slice none 0 0)], [(.slice none 0 0)], [.int .u32 0]] zr26 hI hA rfl fun g3 a w hA hI hg3 => ?_
        obtain ⟨_, hsl5⟩ := Slc.sv hw2.2.1
        obtain ⟨_, hsl6⟩ := Slc.sv hw2.2.2.1
        refine o_st (j := 0) [] [[.int .u32 0], [(.slice none 0 0)], [(.slice none 0 0)], [.int .u32 0]] [[.int .u32 r4.Version], [v5], [v6], [.int .u32 r4.Time]] [] sz26 rfl rfl (fl_cons (oneC rfl) (fl_cons (oneC (one_sl hsl5)) (fl_cons (oneC (one_sl hsl6)) (fl_cons (oneC rfl) fl_nil)))) hI rfl hA rfl rfl rfl rfl fun w hI => ?_
        refine o_nil <| hN9 _ _ <| w_seq fun _ hN10 => ?_
        obtain ⟨c2, hz6, Hk2⟩ := bB H
        refine w_cut (fun a w => Fr a 104 [(1, .pointer (some ⟨g1, 0, none⟩)), (2, .bool false), (3, .bool r1), (4, .pointer (some ⟨g2, 0, none⟩)), (5, .pointer (some ⟨g3, 0, none⟩)), (59, .bool c2)] ∧ Iv w0 [] μ μ2 [cel g3 [[.int .u32 r4.Version], [v5], [v6], [.int .u32 r4.Time]] 26, cel g2 [[.int .u32 r3.Version], [v2], [v3], [.int .u32 r3.Time]] 26, cel g1 [[.int .u32 x0.Version], [u0_0], [u0_1], [.int .u32 x0.Time]] 26] w) ?_ ?_
        · have H := bI hz6
          refine w_draw mo (by kernel_rfl) hI ?_
          refine qtp hA (fun _ hI => r_fd (k := 1) Try.underlying26 rfl sz23 hA rfl rfl) rfl fun a hA => 
            qtp hA (fun _ hI => r_ld1 (j := 1) [[.int .u32 r3.Version]] [[v3], [.int .u32 r3.Time]] Try.underlying23 rfl hI rfl hA rfl rfl) rfl fun a hA => ?_
          obtain ⟨_, hsl7⟩ := Slc.sv (Slc.le hw1.2.1 (fun _ _ h => RIn.le hle2 h) hle2)
          refine qtp hA (fun _ hI => r_slen Try.underlying23 hsl7 hA rfl) rfl fun a hA => 
            qtp hA (fun _ hI => r_fd (k := 1) Try.underlying26 rfl sz23 hA rfl rfl) rfl fun a hA => 
            qtp hA (fun _ hI => r_ld1 (j := 2) [[.int .u32 x0.Version]] [[u0_1], [.int .u32 x0.Time]] Try.underlying23 rfl hI rfl hA rfl rfl) rfl fun a hA => ?_
          obtain ⟨_, hsl8⟩ := Slc.sv (Slc.le hx0.2.1 (fun _ _ h => RIn.le (hle1.trans hle2) h) (hle1.trans hle2))
          refine qtp hA (fun _ hI => r_slen Try.underlying23 hsl8 hA rfl) rfl fun a hA => 
            qtp hA (fun _ hI => r_neq hA rfl rfl) rfl fun a hA => 
            qtp hA (fun _ hI => r_mv hA rfl) rfl fun a hA => ?_
          rcases Bool.eq_false_or_eq_true (decide ((r3.Ins.length : Int) ≠ (x0.Ins.length : Int))) with hc5 | hc5
          · have hc50 := hc5; obtain ⟨hc5, H⟩ := dT H hc5
            refine q_no hA rfl rfl (by rw [hc50]; simp [vb]) rfl fun a hA => 
              q_no hA rfl rfl (by rw [hc50]; simp [vb]) rfl fun a hA => 
              q_no hA rfl rfl (by rw [hc50]; simp [vb]) rfl fun a hA => 
              q_no hA rfl rfl (by rw [hc50]; simp [vb]) rfl fun a hA => 
              q_no hA rfl rfl (by rw [hc50]; simp [vb]) rfl fun a hA => 
              q_no hA rfl rfl (by rw [hc50]; simp [vb]) rfl fun a hA => 
              q_no hA rfl rfl (by rw [hc50]; simp [vb]) rfl fun a hA => 
              qtp hA (fun _ hI => r_pick_t hA rfl hc50 rfl) rfl fun a hA => 
              qtp hA (fun _ hI => r_mv hA rfl) rfl fun a hA => 
              q_no hA rfl rfl (by simp [vb]) rfl fun a hA => 
              q_no hA rfl rfl (by simp [vb]) rfl fun a hA => 
              q_no hA rfl rfl (by simp [vb]) rfl fun a hA => 
              q_no hA rfl rfl (by simp [vb]) rfl fun a hA => 
              q_no hA rfl rfl (by simp [vb]) rfl fun a hA => 
              q_no hA rfl rfl (by simp [vb]) rfl fun a hA => 
              q_no hA rfl rfl (by simp [vb]) rfl fun a hA => 
              q_no hA rfl rfl (by simp [vb]) rfl fun a hA => 
              q_no hA rfl rfl (by simp [vb]) rfl fun a hA => 
              q_no hA rfl rfl (by simp [vb]) rfl fun a hA => 
              q_no hA rfl rfl (by simp [vb]) rfl fun a hA => 
              q_no hA rfl rfl (by simp [vb]) rfl fun a hA => 
              q_no hA rfl rfl (by simp [vb]) rfl fun a hA => 
              qtp hA (fun _ hI => r_pick_t hA rfl rfl rfl) rfl fun a hA => ?_
            refine q_nil fun w hI => ?_
            cases sJ H
            exact ⟨hA.sub ⟨rfl, rfl, rfl, rfl, rfl, rfl, trivial⟩, hI⟩
          · have hc50 := hc5; obtain ⟨hc5, H⟩ := dF H hc5
            refine q_yes hA rfl rfl hc50 <| 
              qtp hA (fun _ hI => r_fd (k := 2) Try.underlying26 rfl sz24 hA rfl rfl) rfl fun a hA => 
              q_yes hA rfl rfl hc50 <| 
              qtp hA (fun _ hI => r_ld1 (j := 1) [[.int .u32 r3.Version], [v2]] [[.int .u32 r3.Time]] Try.underlying24 rfl hI rfl hA rfl rfl) rfl fun a hA => 
              q_yes hA rfl rfl hc50 <| ?_
            obtain ⟨_, hsl9⟩ := Slc.sv (Slc.le hw1.2.2.1 (fun _ _ h => ROut.le hle2 h) hle2)
            refine qtp hA (fun _ hI => r_slen Try.underlying24 hsl9 hA rfl) rfl fun a hA => 
              q_yes hA rfl rfl hc50 <| 
              qtp hA (fun _ hI => r_fd (k := 2) Try.underlying26 rfl sz24 hA rfl rfl) rfl fun a hA => 
              q_yes hA rfl rfl hc50 <| 
              qtp hA (fun _ hI => r_ld1 (j := 2) [[.int .u32 x0.Version], [u0_0]] [[.int .u32 x0.Time]] Try.underlying24 rfl hI rfl hA rfl rfl) rfl fun a hA => 
              q_yes hA rfl rfl hc50 <| ?_
            obtain ⟨_, hsl10⟩ := Slc.sv (Slc.le hx0.2.2.1 (fun _ _ h => ROut.le (hle1.trans hle2) h) (hle1.trans hle2))
            refine qtp hA (fun _ hI => r_slen Try.underlying24 hsl10 hA rfl) rfl fun a hA => 
              q_yes hA rfl rfl hc50 <| 
              qtp hA (fun _ hI => r_neq hA rfl rfl) rfl fun a hA => 
              qtp hA (fun _ hI => r_pick_f hA rfl hc50 rfl) rfl fun a hA => 
              qtp hA (fun _ hI => r_mv hA rfl) rfl fun a hA => ?_
            rcases Bool.eq_false_or_eq_true (decide ((r3.Outs.length : Int) ≠ (x0.Outs.length : Int))) with hc6 | hc6
            · have hc60 := hc6; obtain ⟨hc6, H⟩ := dT H hc6
              refine q_no hA rfl rfl (by rw [hc60]; simp [vb]) rfl fun a hA => 
                q_no hA rfl rfl (by rw [hc60]; simp [vb]) rfl fun a hA => 
                q_no hA rfl rfl (by rw [hc60]; simp [vb]) rfl fun a hA => 
                q_no hA rfl rfl (by rw [hc60]; simp [vb]) rfl fun a hA => 
                q_no hA rfl rfl (by rw [hc60]; simp [vb]) rfl fun a hA => 
                q_no hA rfl rfl (by rw [hc60]; simp [vb]) rfl fun a hA => 
                q_no hA rfl rfl (by rw [hc60]; simp [vb]) rfl fun a hA => 
                q_no hA rfl rfl (by rw [hc60]; simp [vb]) rfl fun a hA => 
                q_no hA rfl rfl (by rw [hc60]; simp [vb]) rfl fun a hA => 
                q_no hA rfl rfl (by rw [hc60]; simp [vb]) rfl fun a hA => 
                q_no hA rfl rfl (by rw [hc60]; simp [vb]) rfl fun a hA => 
                q_no hA rfl rfl (by rw [hc60]; simp [vb]) rfl fun a hA => 
                q_no hA rfl rfl (by rw [hc60]; simp [vb]) rfl fun a hA => 
                qtp hA (fun _ hI => r_pick_t hA rfl hc60 rfl) rfl fun a hA => ?_
              refine q_nil fun w hI => ?_
              cases sJ H
              exact ⟨hA.sub ⟨rfl, rfl, rfl, rfl, rfl, rfl, trivial⟩, hI⟩
            · have hc60 := hc6; obtain ⟨hc6, H⟩ := dF H hc6
              refine q_yes hA rfl rfl hc60 <| 
                qtp hA (fun _ hI => r_fd (k := 1) Try.underlying26 rfl sz23 hA rfl rfl) rfl fun a hA => 
                q_yes hA rfl rfl hc60 <| 
                qtp hA (fun _ hI => r_ld1 (j := 1) [[.int .u32 r3.Version]] [[v3], [.int .u32 r3.Time]] Try.underlying23 rfl hI rfl hA rfl rfl) rfl fun a hA => 
                q_yes hA rfl rfl hc60 <| ?_
              obtain ⟨hb1, H⟩ := bG H
              obtain ⟨_, he1, _, hat1⟩ := Slc.elem (Slc.le hw1.2.1 (fun _ _ h => RIn.le hle2 h) hle2) (getD_some default (by decide) hb1)
              obtain ⟨v7, rfl, hw3⟩ := he1
              obtain ⟨_, hsl11⟩ := Slc.sv (Slc.le hw1.2.1 (fun _ _ h => RIn.le hle2 h) hle2)
              refine qtp hA (fun _ hI => r_six Try.underlying23 sz36 hsl11 hA rfl rfl (by decide) hb1) rfl fun a hA => 
                q_yes hA rfl rfl hc60 <| 
                qtp hA (fun _ hI => r_fd (k := so v2 + (0 : Int).toNat * 35 + 33) Try.underlying36 rfl sz34 hA rfl rfl) rfl fun a hA => 
                q_yes hA rfl rfl hc60 <| 
                qtp hA (fun _ hI => r_ldm1 [av .u8 32 ((r3.Ins.getD (0 : Int).toNat default).From.Tx), [.int .u32 ((r3.Ins.getD (0 : Int).toNat default).From.N)]] [[.int .u32 ((r3.Ins.getD (0 : Int).toNat default).Seq)]] Try.underlying34 rfl hI.agr hat1 hA rfl rfl) rfl fun a hA => 
                q_yes hA rfl rfl hc60 <| ?_
              obtain ⟨_, hsl12⟩ := Slc.sv hw3.2.2.1
              refine qtp hA (fun _ hI => r_slen Try.underlying34 hsl12 hA rfl) rfl fun a hA => 
                q_yes hA rfl rfl hc60 <| 
                qtp hA (fun _ hI => r_fd (k := 1) Try.underlying26 rfl sz23 hA rfl rfl) rfl fun a hA => 
                q_yes hA rfl rfl hc60 <| 
                qtp hA (fun _ hI => r_ld1 (j := 2) [[.int .u32 x0.Version]] [[u0_1], [.int .u32 x0.Time]] Try.underlying23 rfl hI rfl hA rfl rfl) rfl fun a hA => 
                q_yes hA rfl rfl hc60 <| ?_
              obtain ⟨hb2, H⟩ := bG H
              obtain ⟨_, he2, _, hat2⟩ := Slc.elem (Slc.le hx0.2.1 (fun _ _ h => RIn.le (hle1.trans hle2) h) (hle1.trans hle2)) (getD_some default (by decide) hb2)
              obtain ⟨v8, rfl, hw4⟩ := he2
              obtain ⟨_, hsl13⟩ := Slc.sv (Slc.le hx0.2.1 (fun _ _ h => RIn.le (hle1.trans hle2) h) (hle1.trans hle2))
              refine qtp hA (fun _ hI => r_six Try.underlying23 sz36 hsl13 hA rfl rfl (by decide) hb2) rfl fun a hA => 
                q_yes hA rfl rfl hc60 <| 
                qtp hA (fun _ hI => r_fd (k := so u0_0 + (0 : Int).toNat * 35 + 33) Try.underlying36 rfl sz34 hA rfl rfl) rfl fun a hA => 
                q_yes hA rfl rfl hc60 <| 
                qtp hA (fun _ hI => r_ldm1 [av .u8 32 ((x0.Ins.getD (0 : Int).toNat default).From.Tx), [.int .u32 ((x0.Ins.getD (0 : Int).toNat default).From.N)]] [[.int .u32 ((x0.Ins.getD (0 : Int).toNat default).Seq)]] Try.underlying34 rfl hI.agr hat2 hA rfl rfl) rfl fun a hA => 
                q_yes hA rfl rfl hc60 <| ?_
              obtain ⟨_, hsl14⟩ := Slc.sv hw4.2.2.1
              refine qtp hA (fun _ hI => r_slen Try.underlying34 hsl14 hA rfl) rfl fun a hA => 
                q_yes hA rfl rfl hc60 <| 
                qtp hA (fun _ hI => r_neq hA rfl rfl) rfl fun a hA => 
                qtp hA (fun _ hI => r_pick_f hA rfl hc60 rfl) rfl fun a hA => ?_
              refine q_nil fun w hI => ?_
              cases sJ H
              exact ⟨hA.sub ⟨rfl, rfl, rfl, rfl, rfl, rfl, trivial⟩, hI⟩
        · rintro a w ⟨hA, hI⟩
          have H := Hk2
          refine w_cond hA rfl (fun hc7 => ?_) (fun hc7 => ?_)
          · have H := bT H hc7
            refine w_seq fun _ hN11 => w_reg <| sta hA rfl rfl fun a hA => ?_
            refine o_nil <| hN11 _ _ <| w_ret ?_
            obtain rfl := sJ H
            exact ret1 hA Try.results3 rfl ⟨_, rfl, rfl, trivial, hI.forget0⟩
          · have hc7 := ft hc7; have H := bF H hc7
            obtain ⟨⟨hr1, hsd, hni, hno, hsc⟩, rfl⟩ := ownR_some (by simpa using H)
            subst hr1
            obtain ⟨q, hq1, hEt, -, hqk⟩ := (hown hni).ex
            obtain ⟨X, vk, ck, hX0, hck, rfl, hEk, hWk⟩ := hqk (by decide)
            have hfr : ∀ g, w0.heap.size ≤ g → μ g = none := fun g hg => by
              cases hm : μ g with
              | none => rfl
              | some o => have := (Array.getElem?_eq_some_iff.1 (hμ g o hm)).1; omega
            have hνn2 : ∀ g, w0.heap.size ≤ g → μ1 g ≠ none → ν g = none := fun g hg hn => by
              cases hm : ν g with
              | none => rfl
              | some o =>
                rcases hνn g o hm with e | e
                · rw [hfr g hg] at e; cases e
                · exact absurd e hn
            have hI := ((hI.thawW (hWO.le (hlec.trans hle2)) hfr (Nat.le_refl _)).thawW ((hWI.le hle2).hole (q := v3.ownBlock) (fun g hg hg' => (hWO.low g hg').2 (hnI g hg))) hfr (Nat.le_refl _)).thawW (((hWk.le (hleb.trans (hlec.trans hle2))).hole (q := v3.ownBlock) (fun g hg hg' => (hWk.low g hg).2 (hnO g hg'))).hole (q := v2.ownBlock) (fun g hg hg' => ((hWk.le hleb).low g hg).2 (hnI g hg'))) (fun g hg => hfr g (Nat.le_trans hsz1 hg)) hsz1
            have hνH : ν.le (hole (hole (hole μ2 v3.ownBlock) v2.ownBlock) vk.ownBlock) := le_hole (le_hole (le_hole hνle fun g hg => hνn2 g (hWO.low g hg).1 ((hWO.le hlec).low g hg).2) fun g hg => hνn2 g (hWI.low g hg).1 (hWI.low g hg).2) fun g hg => hνn2 g (Nat.le_trans hsz1 (hWk.low g hg).1) ((hWk.le (hleb.trans hlec)).low g hg).2
            have hEt := hEt.mono fun _ _ h => RIn.le (hole_mono (q := vk.ownBlock) (le_hole (q := v2.ownBlock) (le_hole (q := v3.ownBlock) (hleb.trans (hlec.trans hle2)) hnO) fun g hg => le_none hleb (hnI g hg))) h
            have hEO := hEO.mono fun _ _ h => ROut.le hI.le (show ROut μ _ _ from h)
            have hcI : cI = [] ++ (([av .u8 32 X.From.Tx, [.int .u32 X.From.N], [vk]] ++ ([[Value.int .u32 X.Seq]] ++ ([] : List (List Value)))).flatten ++ cI.drop 35) := (List.take_append_drop 35 cI).symm.trans (by rw [hck]; rfl)
            have hlI : 0 < r3.Ins.length := List.length_pos_iff.2 hni
            have hlO : 0 < r3.Outs.length := List.length_pos_iff.2 hno
            have hbI : (0 : Int) < (r3.Ins.length : Int) := by omega
            have hbO : (0 : Int) < (r3.Outs.length : Int) := by omega
            obtain ⟨_, _, _, _, _, _, _, _, hXw⟩ := hEI.at_ hX0
            have hXc : r3.Ins = X :: r3.Ins.drop 1 := by cases h : r3.Ins with
              | nil => exact absurd h hni
              | cons y ys => rw [h] at hX0; cases hX0; rfl
            generalize hH0 : hole (hole (hole μ2 v3.ownBlock) v2.ownBlock) vk.ownBlock = H0 at hI hνH hEt hEO
            obtain ⟨AO, _, BO, hcO, hlA, hlc, rfl, hYw⟩ := hEO.at_ (getD_some default (by decide) hbO)
            generalize hY : r3.Outs.getD (0 : Int).toNat default = Y at hcO hlc hYw
            have hEO2 := Els.setAt (y := (⟨IntKind.u64.wrap (Y.Value + 1), Y.Lock⟩ : Out)) (d := [[.int .u64 (IntKind.u64.wrap (Y.Value + 1))], av .u8 32 Y.Lock].flatten) hEO hcO (idx_lt (by decide) hbO) hlA hlc ⟨rfl, wrap_in _ _, hYw.2⟩ (by simp [av_len])
            refine w_skip <| hN10 _ _ <| w_seq fun _ hN12 => w_reg <| stp hA (r_fd (k := 1) Try.underlying26 rfl sz23 hA rfl rfl) rfl fun a hA =>  
              stp hA (r_ld1 (j := 4) [[.int .u32 r3.Version]] [[v3], [.int .u32 r3.Time]] Try.underlying23 rfl hI rfl hA rfl rfl) rfl fun a hA =>  
              stp hA (r_rix (j := 1) Try.underlying23 sz36 hI rfl hA rfl rfl (by decide) hbI) rfl fun a hA =>  
              stp hA (r_fd (k := so v2 + (0 : Int).toNat * 35 + 34) Try.underlying36 rfl sz22 hA rfl rfl) rfl fun a hA =>  
              stp hA (r_rldQ (j := 1) (q := (0 : Int).toNat * 35) (off := 34) [] (cI.drop 35) [av .u8 32 X.From.Tx, [.int .u32 X.From.N], [vk]] [] hcI rfl rfl Try.underlying22 rfl hI rfl hA rfl) rfl fun a hA => 
              stp hA (r_add hA rfl rfl) rfl fun a hA => 
              stp hA (r_rix (j := 1) Try.underlying23 sz36 hI rfl hA rfl rfl (by decide) hbI) rfl fun a hA =>  
              stp hA (r_fd (k := so v2 + (0 : Int).toNat * 35 + 34) Try.underlying36 rfl sz22 hA rfl rfl) rfl fun a hA =>  
              o_rstPL (j := 1) (q := (0 : Int).toNat * 35) (off := 34) (m' := r3.Ins.length) [] (cI.drop 35) [av .u8 32 X.From.Tx, [.int .u32 X.From.N], [vk]] [[.int .u32 X.Seq]] [[.int .u32 (IntKind.u32.wrap (X.Seq + 1))]] [] hcI rfl rfl sz22 rfl rfl (fl_cons (oneC rfl) fl_nil) hI rfl hA rfl rfl rfl hlI rfl fun w hI => ?_
            refine o_nil <| hN12 _ _ <| w_seq fun _ hN13 => w_reg <| stp hA (r_fd (k := 2) Try.underlying26 rfl sz24 hA rfl rfl) rfl fun a hA =>  
              stp hA (r_ld1 (j := 4) [[.int .u32 r3.Version], [v2]] [[.int .u32 r3.Time]] Try.underlying24 rfl hI rfl hA rfl rfl) rfl fun a hA =>  
              stp hA (r_rix (j := 2) Try.underlying24 sz39 hI rfl hA rfl rfl (by decide) hbO) rfl fun a hA =>  
              stp hA (r_fd (k := so v3 + (0 : Int).toNat * 33 + 0) Try.underlying39 rfl sz37 hA rfl rfl) rfl fun a hA =>  
              stp hA (r_rldQ (j := 2) (q := (0 : Int).toNat * 33) (off := 0) AO BO [] [av .u8 32 Y.Lock] hcO hlA rfl Try.underlying37 rfl hI rfl hA rfl) rfl fun a hA => 
              stp hA (r_add hA rfl rfl) rfl fun a hA => 
              stp hA (r_rix (j := 2) Try.underlying24 sz39 hI rfl hA rfl rfl (by decide) hbO) rfl fun a hA =>  
              stp hA (r_fd (k := so v3 + (0 : Int).toNat * 33 + 0) Try.underlying39 rfl sz37 hA rfl rfl) rfl fun a hA =>  
              o_rstPL (j := 2) (q := (0 : Int).toNat * 33) (off := 0) (m' := r3.Outs.length) AO BO [] [[.int .u64 Y.Value]] [[.int .u64 (IntKind.u64.wrap (Y.Value + 1))]] [av .u8 32 Y.Lock] hcO hlA rfl sz37 rfl rfl (fl_cons (oneC rfl) fl_nil) hI rfl hA rfl rfl rfl hlO rfl fun w hI => ?_
            refine o_nil <| hN13 _ _ ?_
            have hcJ : [] ++ (([av .u8 32 X.From.Tx, [.int .u32 X.From.N], [vk]] ++ ([[Value.int .u32 (IntKind.u32.wrap (X.Seq + 1))]] ++ ([] : List (List Value)))).flatten ++ cI.drop 35) = [] ++ (([av .u8 32 X.From.Tx, [.int .u32 X.From.N]] ++ ([[vk]] ++ [[Value.int .u32 (IntKind.u32.wrap (X.Seq + 1))]])).flatten ++ cI.drop 35) := rfl
            have hd1 : (r3.Ins.drop 1).length + 1 = r3.Ins.length := by rw [List.length_drop]; omega
            refine w_cut (fun a w => ∃ (c : Tx) (vI vO : Value) (μ3 : Store), TxW μ3 c vI vO ∧ (c.Ins.length = r3.Ins.length ∧ (c.Ins.getD 0 default).Seq = IntKind.u32.wrap ((r3.Ins.getD 0 default).Seq + 1) ∧ (c.Ins.getD 0 default).From = (r3.Ins.getD 0 default).From ∧ (c.Ins.getD 0 default).Key.length = (r3.Ins.getD 0 default).Key.length) ∧ μ.le μ3 ∧ ν.le μ3 ∧ Fr a 104 [(1, .pointer (some ⟨g1, 0, none⟩)), (2, .bool false), (3, .bool true), (4, .pointer (some ⟨g2, 0, none⟩)), (5, .pointer (some ⟨g3, 0, none⟩))] ∧ Iv w0 [] μ μ3 [cel g3 [[.int .u32 r4.Version], [v5], [v6], [.int .u32 r4.Time]] 26, cel g2 [[.int .u32 c.Version], [vI], [vO], [.int .u32 c.Time]] 26, cel g1 [[.int .u32 x0.Version], [u0_0], [u0_1], [.int .u32 x0.Time]] 26] w) ?_ ?_
            · refine w_seq fun _ hN15 => w_reg <| stp hA (r_fd (k := 1) Try.underlying26 rfl sz23 hA rfl rfl) rfl fun a hA =>  
                stp hA (r_ld1 (j := 4) [[.int .u32 r3.Version]] [[v3], [.int .u32 r3.Time]] Try.underlying23 rfl hI rfl hA rfl rfl) rfl fun a hA =>  
                stp hA (r_rix (j := 1) Try.underlying23 sz36 hI rfl hA rfl rfl (by decide) hbI) rfl fun a hA =>  
                stp hA (r_fd (k := so v2 + (0 : Int).toNat * 35 + 33) Try.underlying36 rfl sz34 hA rfl rfl) rfl fun a hA =>  
                stp hA (r_rldQ (j := 1) (q := (0 : Int).toNat * 35) (off := 33) [] (cI.drop 35) [av .u8 32 X.From.Tx, [.int .u32 X.From.N]] [[.int .u32 (IntKind.u32.wrap (X.Seq + 1))]] hcJ rfl rfl Try.underlying34 rfl hI rfl hA rfl) rfl fun a hA => 
                stp hA (r_rlen (xs := 0) Try.underlying34 hI (j := 0) rfl hA rfl) rfl fun a hA => 
                stp hA (r_gtr hA rfl rfl) rfl fun a hA => ?_
              refine o_nil <| hN15 _ _ <| w_cond hA rfl (fun hc8 => ?_) (fun hc8 => ?_)
              · have hbK : (0 : Int) < (X.Key.length : Int) := by simpa using hc8
                obtain ⟨hck2, hkr⟩ := els_int_cs hEk
                have hck0 : ck[(0 : Int).toNat * 1]? = some (.int .u8 (X.Key.getD 0 0)) := by
                  rw [hck2]
                  cases hk : X.Key with
                  | nil => rw [hk] at hbK; simp at hbK
                  | cons y ys => rfl
                refine w_reg <| stp hA (r_fd (k := 1) Try.underlying26 rfl sz23 hA rfl rfl) rfl fun a hA =>  
                  stp hA (r_ld1 (j := 4) [[.int .u32 r3.Version]] [[v3], [.int .u32 r3.Time]] Try.underlying23 rfl hI rfl hA rfl rfl) rfl fun a hA =>  
                  stp hA (r_rix (j := 1) Try.underlying23 sz36 hI rfl hA rfl rfl (by decide) hbI) rfl fun a hA =>  
                  stp hA (r_fd (k := so v2 + (0 : Int).toNat * 35 + 33) Try.underlying36 rfl sz34 hA rfl rfl) rfl fun a hA =>  
                  stp hA (r_rldQ (j := 1) (q := (0 : Int).toNat * 35) (off := 33) [] (cI.drop 35) [av .u8 32 X.From.Tx, [.int .u32 X.From.N]] [[.int .u32 (IntKind.u32.wrap (X.Seq + 1))]] hcJ rfl rfl Try.underlying34 rfl hI rfl hA rfl) rfl fun a hA => 
                  stp hA (r_rix (j := 0) Try.underlying34 sz5 hI rfl hA rfl rfl (by decide) hbK) rfl fun a hA =>  
                  stp hA (r_rld1 (j := 0) (q := (0 : Int).toNat * 1) Try.underlying5 rfl hI rfl hck0 hA rfl rfl) rfl fun a hA => 
                  stp hA (r_add hA rfl rfl) rfl fun a hA => 
                  stp hA (r_rix (j := 0) Try.underlying34 sz5 hI rfl hA rfl rfl (by decide) hbK) rfl fun a hA =>  
                  o_rst (j := 0) (q := (0 : Int).toNat * 1) (k := .u8) (z := IntKind.u8.wrap (X.Key.getD 0 0 + 1)) (xs := X.Key) sz5 hI rfl hA rfl rfl rfl rfl (by omega) fun w hI => ?_
                obtain ⟨μ3, h1, h2, h3, hI⟩ := own_end (X := (⟨X.From, X.Key.set ((0 : Int).toNat * 1) (IntKind.u8.wrap (X.Key.getD 0 0 + 1)), (IntKind.u32.wrap (X.Seq + 1))⟩ : In)) (rest := r3.Ins.drop 1) (kk := X.Key.set ((0 : Int).toNat * 1) (IntKind.u8.wrap (X.Key.getD 0 0 + 1))) hI (by
                  rw [hck2, ← List.map_set]
                  exact els_int fun y hy => by
                    rcases List.mem_or_eq_of_mem_set hy with h | h
                    · exact hkr y h
                    · rw [h]; exact wrap_in _ _) rfl hXw.1 hXw.2.1 (wrap_in _ _) hEt hEO2 (by simp only [List.length_cons]; omega) (by simp)
                exact o_nil ⟨(⟨r3.Version, (⟨X.From, X.Key.set ((0 : Int).toNat * 1) (IntKind.u8.wrap (X.Key.getD 0 0 + 1)), (IntKind.u32.wrap (X.Seq + 1))⟩ : In) :: r3.Ins.drop 1, _, r3.Time⟩ : Tx), v2, v3, μ3, ⟨hVe, h2, h3, hTi⟩, ⟨by simp only [List.length_cons]; omega, by rw [hXc]; rfl, by rw [hXc]; rfl, by rw [hXc]; simp⟩, hI.le, hνH.trans h1, hA.sub ⟨rfl, rfl, rfl, rfl, rfl, trivial⟩, hI⟩
              · obtain ⟨μ3, h1, h2, h3, hI⟩ := own_end (X := (⟨X.From, X.Key, (IntKind.u32.wrap (X.Seq + 1))⟩ : In)) (rest := r3.Ins.drop 1) (kk := X.Key) hI hEk rfl hXw.1 hXw.2.1 (wrap_in _ _) hEt hEO2 (by simp only [List.length_cons]; omega) (by simp)
                exact w_skip ⟨(⟨r3.Version, (⟨X.From, X.Key, (IntKind.u32.wrap (X.Seq + 1))⟩ : In) :: r3.Ins.drop 1, _, r3.Time⟩ : Tx), v2, v3, μ3, ⟨hVe, h2, h3, hTi⟩, ⟨by simp only [List.length_cons]; omega, by rw [hXc]; rfl, by rw [hXc]; rfl, by rw [hXc]; simp⟩, hI.le, hνH.trans h1, hA.sub ⟨rfl, rfl, rfl, rfl, rfl, trivial⟩, hI⟩
            · rintro a w ⟨c, vI, vO, μ3, hcW, hcs, hl3, hν3, hA, hI⟩
              have hx3 := TxW.le hl3 hx0
              have hd3 := TxW.le hν3 hw2
              refine w_seq fun _ hN16 => w_reg <| stm hA rfl rfl fun a hA => 
                stm hA rfl rfl fun a hA => 
                o_yes hA rfl rfl rfl <| 
                stp hA (r_ldA (j := 0) [] [[.int .u32 r4.Version], [v5], [v6], [.int .u32 r4.Time]] [] Try.underlying26 rfl sz26 rfl hI rfl hA rfl rfl) rfl fun a hA => 
                o_yes hA rfl rfl rfl <| 
                stp hA (r_ldA (j := 2) [] [[.int .u32 x0.Version], [u0_0], [u0_1], [.int .u32 x0.Time]] [] Try.underlying26 rfl sz26 rfl hI rfl hA rfl rfl) rfl fun a hA => 
                o_yes hA rfl rfl rfl <| 
                o_callp (u := .bool true) cf7 hA rfl hI (sargassoref_SameTx.c μ3 _ hI.agr r4 v5 v6 hd3 x0 u0_0 u0_1 hx3 true hsd) rfl fun a w _ hI hA => 
                stp hA (r_pick_t hA rfl rfl rfl) rfl fun a hA => 
                stm hA rfl rfl fun a hA => 
                o_yes hA rfl rfl rfl <| 
                stp hA (r_ldA (j := 1) [] [[.int .u32 c.Version], [vI], [vO], [.int .u32 c.Time]] [] Try.underlying26 rfl sz26 rfl hI rfl hA rfl rfl) rfl fun a hA => 
                o_yes hA rfl rfl rfl <| 
                stp hA (r_ldA (j := 2) [] [[.int .u32 x0.Version], [u0_0], [u0_1], [.int .u32 x0.Time]] [] Try.underlying26 rfl sz26 rfl hI rfl hA rfl rfl) rfl fun a hA => 
                o_yes hA rfl rfl rfl <| 
                o_callp (u := .bool false) cf7 hA rfl hI (sargassoref_SameTx.c μ3 _ hI.agr c vI vO hcW x0 u0_0 u0_1 hx3 false (hsc c hcs)) rfl fun a w _ hI hA => 
                o_yes hA rfl rfl rfl <| 
                stp hA (r_not hA rfl) rfl fun a hA => 
                stp hA (r_pick_t hA rfl rfl rfl) rfl fun a hA => 
                sta hA rfl rfl fun a hA => ?_
              refine o_nil <| hN16 _ _ <| w_ret ?_
              exact ret1 hA Try.results3 rfl ⟨_, rfl, rfl, trivial, hI.forget0⟩
end Go.Proofs.Ytkfpmcplfodikaa.T
namespace Go.Proofs.Ytkfpmcplfodikaa.T
open Go Go.Proofs Go.Proofs.Ytkfpmcplfodikaa.K
set_option linter.unusedVariables false
set_option linter.unusedSimpArgs false
theorem w64 {x : Int} (h0 : -9223372036854775808 ≤ x) (h1 : x < 9223372036854775808) : IntKind.i64.wrap x = x := wrap_id ⟨h0, h1⟩
theorem wu64 {x : Int} (h0 : 0 ≤ x) (h1 : x < 18446744073709551616) : IntKind.u64.wrap x = x := wrap_id ⟨h0, h1⟩
theorem loop_idx {τ ρ : Type} {step : τ → Option (τ ⊕ ρ)} (st : Nat → τ) (n : Nat) (h : ∀ i, i < n → step (st i) = some (.inl (st (i + 1)))) : loopO step (st 0) = loopO step (st n) := by
  induction n with
  | zero => rfl
  | succ n ih => rw [ih (fun i hi => h i (by omega)), loopO_inl (h n (by omega))]
theorem loop_run {τ ρ : Type} {step : τ → Option (τ ⊕ ρ)} (st : Nat → τ) (n : Nat) {r : ρ} {s : τ} (h0 : s = st 0) (h : ∀ i, i < n → step (st i) = some (.inl (st (i + 1)))) (hn : step (st n) = some (.inr r)) : loopO step s = some r := by
  rw [h0, loop_idx st n h, loopO_inr hn]
theorem sR_nat (k : IntKind) {a n : Nat} (hn : n ≤ k.bits) : sR k (a : Int) (n : Int) = ((a >>> n : Nat) : Int) := by
  unfold sR
  have e : min (n : Int).toNat k.bits = n := by simp; omega
  rw [e, Nat.shiftRight_eq_div_pow]
  rw [Int.fdiv_eq_ediv_of_nonneg _ (by exact Int.pow_nonneg (by omega))]
  push_cast
  rfl
theorem els_all {α : Type} {RE : α → List Value → Prop} {sz : Nat} {xs : List α} {cs : List Value} {Q : α → Prop} (h : Els RE sz xs cs) (f : ∀ x c, RE x c → Q x) : ∀ x ∈ xs, Q x := by
  induction h with
  | nil => simp
  | cons h _ _ ih =>
    intro y hy
    rcases List.mem_cons.1 hy with rfl | hy
    · exact f _ _ h
    · exact ih y hy
theorem slc_ints {k : IntKind} {μ : Store} {v : Value} {xs : List Int} (h : Slc (RI k) 1 μ v xs) : ∀ x ∈ xs, InR k x := by
  obtain ⟨cs, he, _⟩ := h
  exact els_all he fun x c hc => hc.2
theorem winc (i : Nat) (hi : i < 9223372036854775807) : IntKind.i64.wrap ((i : Int) + 1) = ((i + 1 : Nat) : Int) := by
  rw [w64 (by omega) (by omega)]; omega
theorem take_next {α : Type} (xs : List α) (i : Nat) (d : α) (h : i < xs.length) : xs.take i ++ [xs.getD i d] = xs.take (i + 1) := by
  rw [List.take_add_one]
  simp [List.getD, h]
theorem all_run {step : Int → Option (Int ⊕ Bool)} (n : Nat) (p : Nat → Prop) [DecidablePred p] (hn : n < 9223372036854775807)
    (hs : ∀ i, i < n → step (i : Int) = if p i then some (.inl (IntKind.i64.wrap ((i : Int) + 1))) else some (.inr false)) (he : step (n : Int) = some (.inr true)) : loopO step 0 = some (decide (∀ i, i < n → p i)) := by
  have key : ∀ m k, m + k = n → (∀ i, i < k → p i) → loopO step (k : Int) = some (decide (∀ i, i < n → p i)) := by
    intro m
    induction m with
    | zero =>
      intro k e h
      obtain rfl : k = n := by omega
      rw [loopO_inr he]
      congr 1
      exact (decide_eq_true h).symm
    | succ m ih =>
      intro k e h
      have h1 := hs k (by omega)
      by_cases hp : p k
      · rw [if_pos hp, winc k (by omega)] at h1
        rw [loopO_inl h1]
        refine ih (k + 1) (by omega) fun i hi => ?_
        rcases Nat.lt_or_ge i k with h2 | h2
        · exact h i h2
        · obtain rfl : i = k := by omega
          exact hp
      · rw [if_neg hp] at h1
        rw [loopO_inr h1]
        have : ¬ ∀ i, i < n → p i := fun h2 => hp (h2 k (by omega))
        simp [this]
  exact key n 0 (by omega) (by simp)
theorem ext_iff {α : Type} (xs ys : List α) (d : α) (h : xs.length = ys.length) : (∀ i, i < xs.length → xs.getD i d = ys.getD i d) ↔ xs = ys := by
  constructor
  · intro hh
    apply List.ext_getElem h
    intro i h1 h2
    have := hh i h1
    simpa [List.getD, h1, h2] using this
  · rintro rfl i _
    rfl
theorem samehash_eq (a b : List Int) (ha : a.length = 32) (hb : b.length = 32) : sargassoref_SameHash.f a b = some (decide (a = b)) := by
  unfold sargassoref_SameHash.f
  rw [all_run 32 (fun i => a.getD i 0 = b.getD i 0) (by omega) (fun i hi => by
    simp only [sargassoref_SameHash.s0, Int.toNat_natCast]
    rw [if_pos (by omega), if_pos (by omega)]
    by_cases h : a.getD i 0 = b.getD i 0
    · rw [if_neg (by simpa using h), if_pos h]
    · rw [if_pos h, if_neg h]) (by simp [sargassoref_SameHash.s0])]
  congr 2
  apply propext
  have := ext_iff a b 0 (by rw [ha, hb])
  rw [ha] at this
  exact this
theorem samebytes_eq' (xs ys : List Int) (h : xs.length ≤ 140737488355328) : sargassoref_SameBytes.f xs ys = some (decide (xs = ys)) := by
  unfold sargassoref_SameBytes.f
  by_cases hl : xs.length = ys.length
  · rw [if_neg (by omega), all_run xs.length (fun i => xs.getD i 0 = ys.getD i 0) (by omega) (fun i hi => by
      simp only [sargassoref_SameBytes.s0, Int.toNat_natCast]
      rw [if_pos (by omega), if_pos (by omega), if_pos (by omega)]) (by simp [sargassoref_SameBytes.s0])]
    congr 2
    exact propext (ext_iff xs ys 0 hl)
  · rw [if_pos (by omega)]
    have : xs ≠ ys := fun e => hl (by rw [e])
    simp [this]
theorem range_map_succ {α : Type} (f : Nat → α) (i : Nat) : (List.range (i + 1)).map f = (List.range i).map f ++ [f i] := by rw [List.range_succ, List.map_append]; rfl
theorem gd {α : Type} (l : List α) (d : α) {i : Nat} (h : i < l.length) : l.getD i d = l[i] := by simp [List.getD, h]
theorem u8e (x : Int) : IntKind.u8.wrap x = x % 256 := by simp [IntKind.wrap, IntKind.signed, IntKind.bits]
def lb (a m : Nat) : List Int := (List.range m).map fun j => ((a / 2 ^ (8 * j) % 256 : Nat) : Int)
theorem lb_len (a m : Nat) : (lb a m).length = m := by simp [lb]
theorem sR_div (k : IntKind) {a n : Nat} (hn : n ≤ k.bits) : sR k (a : Int) (n : Int) = ((a / 2 ^ n : Nat) : Int) := by
  rw [sR_nat k hn, Nat.shiftRight_eq_div_pow]
theorem number_eq' (r : List Int) (a k : Nat) (hk : k ≤ 100) (hl : r.length + k ≤ 140737488355328) : compact_number.f r (a : Int) (k : Int) = some (r ++ lb a k) := by
  simp only [compact_number.f]
  have h : loopO (compact_number.s0 (k : Int)) (r, (a : Int), 0) = some (r ++ lb a k, ((a / 2 ^ (8 * k) : Nat) : Int)) := by
    refine loop_run (fun j => (r ++ lb a j, ((a / 2 ^ (8 * j) : Nat) : Int), (j : Int))) k (by simp [lb]) (fun j hj => ?_) ?_
    · simp only [compact_number.s0]
      have e1 : IntKind.u8.wrap ((a / 2 ^ (8 * j) : Nat) : Int) = ((a / 2 ^ (8 * j) % 256 : Nat) : Int) := by rw [u8e]; generalize a / 2 ^ (8 * j) = q; omega
      have e2 : sR .u64 ((a / 2 ^ (8 * j) : Nat) : Int) 8 = ((a / 2 ^ (8 * (j + 1)) : Nat) : Int) := by
        have := sR_div .u64 (a := a / 2 ^ (8 * j)) (n := 8) (by decide)
        rw [Nat.div_div_eq_div_mul, ← Nat.pow_add] at this
        exact this
      rw [if_pos (by omega), if_pos (by simp [lb_len]; omega), e1, e2, winc j (by omega), List.append_assoc]
      have : lb a j ++ [((a / 2 ^ (8 * j) % 256 : Nat) : Int)] = lb a (j + 1) := by
        unfold lb; rw [range_map_succ]
      rw [this]
    · simp only [compact_number.s0]
      rw [if_neg (by omega)]
  rw [h, Option.bind_some]
theorem four_eq (b : List Int) (a : Nat) (ha : a < 4294967296) (hl : b.length + 4 ≤ 140737488355328) : compact_Four.f b (a : Int) = some (b ++ lb a 4) := by
  have := number_eq' b a 4 (by omega) hl
  simp only [compact_Four.f, bytes_Clone.f]
  rw [wu64 (by omega) (by omega), if_pos (by omega), Option.bind_some]
  rw [show ((4 : Nat) : Int) = 4 from rfl] at this
  rw [this, Option.bind_some]
structure HN where
  v : Nat
  p : List Int
  r : List Int
  t : Nat
  w : Nat
  n : Nat
deriving DecidableEq
def hb (h : HN) : List Int := lb h.v 4 ++ (h.p ++ (h.r ++ (lb h.t 4 ++ (lb h.w 4 ++ lb h.n 4))))
def Bs (l : List Int) : Prop := ∀ x ∈ l, InR .u8 x
def ln (n : Nat) : Nat := if n < 253 then 1 else if n < 65536 then 3 else if n < 4294967296 then 5 else 9
theorem len_eq (n : Nat) : compact_Len.f (n : Int) = some (ln n : Int) := by
  simp only [compact_Len.f, ln]
  by_cases h1 : n < 253
  · rw [if_pos (by omega), if_pos h1]; rfl
  · rw [if_neg (by omega), if_neg h1]
    by_cases h2 : n < 65536
    · rw [if_pos (by omega), if_pos h2]; rfl
    · rw [if_neg (by omega), if_neg h2]
      by_cases h3 : n < 4294967296
      · rw [if_pos (by omega), if_pos h3]; rfl
      · rw [if_neg (by omega), if_neg h3]; rfl
def pt (n : Nat) : List Int := if n < 253 then lb n 1 else if n < 65536 then 253 :: lb n 2 else if n < 4294967296 then 254 :: lb n 4 else 255 :: lb n 8
theorem pt_len (n : Nat) : (pt n).length = ln n := by
  unfold pt ln
  split
  · simp [lb_len]
  · split
    · simp [lb_len]
    · split <;> simp [lb_len]
theorem ln_le (n : Nat) : 1 ≤ ln n ∧ ln n ≤ 9 := by unfold ln; split <;> (try split) <;> (try split) <;> omega
theorem lb_one (n : Nat) : lb n 1 = [((n % 256 : Nat) : Int)] := by simp [lb, List.range_succ]
theorem put_eq (b : List Int) (n : Nat) (hn : n < 18446744073709551616) (hl : b.length ≤ 1000000) : compact_Put.f b (n : Int) = some (b ++ pt n) := by
  simp only [compact_Put.f, bytes_Clone.f]
  rw [if_pos (by omega), Option.bind_some, len_eq, Option.bind_some]
  unfold ln pt
  by_cases h1 : n < 253
  · rw [if_pos h1, if_pos h1, if_pos (by rfl), if_pos (by omega), u8e, lb_one]
    congr 3
  · rw [if_neg h1, if_neg h1]
    by_cases h2 : n < 65536
    · have := number_eq' (b ++ [253]) n 2 (by omega) (by simp; omega)
      rw [show ((2 : Nat) : Int) = 2 from rfl] at this
      rw [if_pos h2, if_pos h2, if_neg (by decide), if_pos (by rfl), if_pos (by omega), this, Option.bind_some, List.append_assoc]; rfl
    · rw [if_neg h2, if_neg h2]
      by_cases h3 : n < 4294967296
      · have := number_eq' (b ++ [254]) n 4 (by omega) (by simp; omega)
        rw [show ((4 : Nat) : Int) = 4 from rfl] at this
        rw [if_pos h3, if_pos h3, if_neg (by decide), if_neg (by decide), if_pos (by rfl), if_pos (by omega), this, Option.bind_some, List.append_assoc]; rfl
      · have := number_eq' (b ++ [255]) n 8 (by omega) (by simp; omega)
        rw [show ((8 : Nat) : Int) = 8 from rfl] at this
        rw [if_neg h3, if_neg h3, if_neg (by decide), if_neg (by decide), if_neg (by decide), if_pos (by omega), this, Option.bind_some, List.append_assoc]; rfl
theorem eight_eq (b : List Int) (a : Nat) (hl : b.length ≤ 1000000) : compact_Eight.f b (a : Int) = some (b ++ lb a 8) := by
  have := number_eq' b a 8 (by omega) (by omega)
  simp only [compact_Eight.f, bytes_Clone.f]
  rw [if_pos (by omega), Option.bind_some]
  rw [show ((8 : Nat) : Int) = 8 from rfl] at this
  rw [this, Option.bind_some]
section
variable {α β : Type}
end
structure InOk (i : In) : Prop where
  tx : i.From.Tx.length = 32
  txb : Bs i.From.Tx
  n : InR .u32 i.From.N
  key : Bs i.Key
  seq : InR .u32 i.Seq
structure OutOk (o : Out) : Prop where
  val : InR .u64 o.Value
  lock : o.Lock.length = 32
  lockb : Bs o.Lock
structure TxOk (t : Tx) : Prop where
  v : InR .u32 t.Version
  ins : ∀ i ∈ t.Ins, InOk i
  outs : ∀ o ∈ t.Outs, OutOk o
  t : InR .u32 t.Time
structure Few (a b : Nat) (t : Tx) : Prop where
  ins : t.Ins.length ≤ a
  outs : t.Outs.length ≤ a
  key : ∀ i ∈ t.Ins, i.Key.length ≤ b
theorem Few.mono {a b c d : Nat} {t : Tx} (h : Few a b t) (h1 : a ≤ c) (h2 : b ≤ d) : Few c d t := ⟨Nat.le_trans h.ins h1, Nat.le_trans h.outs h1, fun i hi => Nat.le_trans (h.key i hi) h2⟩
def ib (i : In) : List Int := i.From.Tx ++ (lb i.From.N.toNat 4 ++ (pt i.Key.length ++ (i.Key ++ lb i.Seq.toNat 4)))
def ob (o : Out) : List Int := lb o.Value.toNat 8 ++ o.Lock
def tb (t : Tx) : List Int := lb t.Version.toNat 4 ++ (pt t.Ins.length ++ ((t.Ins.map ib).flatten ++ (pt t.Outs.length ++ ((t.Outs.map ob).flatten ++ lb t.Time.toNat 4))))
theorem ib_len {i : In} (h : InOk i) : (ib i).length = 40 + ln i.Key.length + i.Key.length := by
  simp only [ib, List.length_append, h.tx, lb_len, pt_len]; omega
theorem ob_len {o : Out} (h : OutOk o) : (ob o).length = 40 := by simp only [ob, List.length_append, h.lock, lb_len]
theorem flat_le {α : Type} (f : α → List Int) (b : Nat) : ∀ (l : List α), (∀ x ∈ l, (f x).length ≤ b) → (l.map f).flatten.length ≤ b * l.length
  | [], _ => by simp
  | x :: l, h => by
    have h1 := flat_le f b l fun y hy => h y (by simp [hy])
    have h2 := h x (by simp)
    simp only [List.map_cons, List.flatten_cons, List.length_append, List.length_cons]
    rw [Nat.mul_add, Nat.mul_one]; omega
theorem nat4 {x : Int} (h : InR .u32 x) : x = ((x.toNat : Nat) : Int) ∧ x.toNat < 4294967296 := by obtain ⟨a, b⟩ := h; omega
theorem nat8 {x : Int} (h : InR .u64 x) : x = ((x.toNat : Nat) : Int) ∧ x.toNat < 18446744073709551616 := by obtain ⟨a, b⟩ := h; omega
theorem getD_mem {α : Type} {l : List α} {d : α} {i : Nat} (h : i < l.length) : l.getD i d ∈ l := by rw [gd l d h]; exact List.getElem_mem h
theorem flat_next {α : Type} (f : α → List Int) (l : List α) (d : α) (i : Nat) (h : i < l.length) : ((l.take (i + 1)).map f).flatten = ((l.take i).map f).flatten ++ f (l.getD i d) := by
  rw [← take_next l i d h]; simp
theorem take_few {α : Type} (f : α → List Int) (b : Nat) (l : List α) (h : ∀ x ∈ l, (f x).length ≤ b) (i : Nat) (hi : i ≤ l.length) : ((l.take i).map f).flatten.length ≤ b * l.length := by
  have := flat_le f b (l.take i) fun x hx => h x (List.mem_of_mem_take hx)
  rw [List.length_take, Nat.min_eq_left hi] at this
  exact Nat.le_trans this (Nat.mul_le_mul_left b hi)
theorem tbytes_eq {t : Tx} (h : TxOk t) (hf : Few 100 1000 t) : tx_Bytes.f t = some (tb t) := by
  obtain ⟨v1, v2⟩ := nat4 h.v
  obtain ⟨t1, t2⟩ := nat4 h.t
  have hi := hf.ins
  have ho := hf.outs
  have hil : ∀ i ∈ t.Ins, (ib i).length ≤ 2000 := fun i hi => by
    rw [ib_len (h.ins i hi)]
    have := (ln_le i.Key.length).2
    have := hf.key i hi
    omega
  have hol : ∀ o ∈ t.Outs, (ob o).length ≤ 40 := fun o ho => by rw [ob_len (h.outs o ho)]; omega
  have lp := (ln_le t.Ins.length).2
  have lq := (ln_le t.Outs.length).2
  have L1 : ∀ P : List Int, P.length ≤ 100 → loopO (tx_Bytes.s0 t) (P, 0) = some (P ++ (t.Ins.map ib).flatten) := fun P hP => by
    refine loop_run (fun i => (P ++ ((t.Ins.take i).map ib).flatten, (i : Int))) t.Ins.length (by simp) (fun i hi => ?_) ?_
    · have hm := getD_mem (l := t.Ins) (d := default) hi
      have ok := h.ins _ hm
      have hk := hf.key _ hm
      have hb := take_few ib 2000 t.Ins hil i (by omega)
      rw [flat_next ib t.Ins default i hi]
      simp only [tx_Bytes.s0, Int.toNat_natCast]
      generalize t.Ins.getD i default = x at *
      obtain ⟨n1, n2⟩ := nat4 ok.n
      obtain ⟨s1, s2⟩ := nat4 ok.seq
      have ltx := ok.tx
      have lk := (ln_le x.Key.length).2
      have hf4 := four_eq (P ++ ((t.Ins.take i).map ib).flatten ++ x.From.Tx) x.From.N.toNat n2 (by simp only [List.length_append]; omega)
      have hp := put_eq (P ++ ((t.Ins.take i).map ib).flatten ++ x.From.Tx ++ lb x.From.N.toNat 4) x.Key.length (by omega) (by simp only [List.length_append, lb_len]; omega)
      have hf5 := four_eq (P ++ ((t.Ins.take i).map ib).flatten ++ x.From.Tx ++ lb x.From.N.toNat 4 ++ pt x.Key.length ++ x.Key) x.Seq.toNat s2 (by simp only [List.length_append, lb_len, pt_len]; omega)
      rw [← n1] at hf4
      rw [← s1] at hf5
      rw [if_pos (by omega), if_pos (by omega), if_pos (by simp only [List.length_append]; omega), hf4, Option.bind_some, wu64 (by omega) (by omega), hp, Option.bind_some, if_pos (by simp only [List.length_append, lb_len, pt_len]; omega), hf5, Option.bind_some, winc i (by omega)]
      simp only [ib, List.append_assoc]
    · simp only [tx_Bytes.s0]
      rw [if_neg (by omega), List.take_length]
  have L2 : ∀ P : List Int, P.length ≤ 300000 → loopO (tx_Bytes.s1 t) (P, 0) = some (P ++ (t.Outs.map ob).flatten) := fun P hP => by
    refine loop_run (fun i => (P ++ ((t.Outs.take i).map ob).flatten, (i : Int))) t.Outs.length (by simp) (fun i hi => ?_) ?_
    · have hm := getD_mem (l := t.Outs) (d := default) hi
      have ok := h.outs _ hm
      have hb := take_few ob 40 t.Outs hol i (by omega)
      rw [flat_next ob t.Outs default i hi]
      simp only [tx_Bytes.s1, Int.toNat_natCast]
      generalize t.Outs.getD i default = x at *
      obtain ⟨n1, n2⟩ := nat8 ok.val
      have ltx := ok.lock
      have h8 := eight_eq (P ++ ((t.Outs.take i).map ob).flatten) x.Value.toNat (by simp only [List.length_append]; omega)
      rw [← n1] at h8
      rw [if_pos (by omega), if_pos (by omega), h8, Option.bind_some, if_pos (by simp only [List.length_append, lb_len]; omega), winc i (by omega)]
      simp only [ob, List.append_assoc]
    · simp only [tx_Bytes.s1]
      rw [if_neg (by omega), List.take_length]
  have hI := flat_le ib 2000 t.Ins hil
  have hO := flat_le ob 40 t.Outs hol
  have f1 := four_eq [] t.Version.toNat v2 (by simp)
  rw [← v1] at f1
  have p1 := put_eq (lb t.Version.toNat 4) t.Ins.length (by omega) (by rw [lb_len]; omega)
  have p2 := put_eq (lb t.Version.toNat 4 ++ pt t.Ins.length ++ (t.Ins.map ib).flatten) t.Outs.length (by omega) (by simp only [List.length_append, lb_len, pt_len]; omega)
  have f2 := four_eq (lb t.Version.toNat 4 ++ pt t.Ins.length ++ (t.Ins.map ib).flatten ++ pt t.Outs.length ++ (t.Outs.map ob).flatten) t.Time.toNat t2 (by simp only [List.length_append, lb_len, pt_len]; omega)
  rw [← t1] at f2
  simp only [tx_Bytes.f]
  rw [f1, Option.bind_some, List.nil_append, wu64 (x := (t.Ins.length : Int)) (by omega) (by omega), p1, Option.bind_some, L1 _ (by simp only [List.length_append, lb_len, pt_len]; omega), Option.bind_some, wu64 (x := (t.Outs.length : Int)) (by omega) (by omega), p2, Option.bind_some, L2 _ (by simp only [List.length_append, lb_len, pt_len]; omega), Option.bind_some, f2, Option.bind_some]
  simp only [tb, List.append_assoc]
def ztx : Tx := ⟨0, [], [], 0⟩
theorem look_run {ρ : Type} {step : Int → Option (Int ⊕ ρ)} (n : Nat) (p : Nat → Prop) [DecidablePred p] (yes no : ρ) (hn : n < 9223372036854775807)
    (hs : ∀ i, i < n → step (i : Int) = if p i then some (.inl (IntKind.i64.wrap ((i : Int) + 1))) else some (.inr no)) (he : step (n : Int) = some (.inr yes)) : loopO step 0 = some (if ∀ i, i < n → p i then yes else no) := by
  have key : ∀ m k, m + k = n → (∀ i, i < k → p i) → loopO step (k : Int) = some (if ∀ i, i < n → p i then yes else no) := by
    intro m
    induction m with
    | zero =>
      intro k e h
      obtain rfl : k = n := by omega
      rw [loopO_inr he, if_pos h]
    | succ m ih =>
      intro k e h
      have h1 := hs k (by omega)
      by_cases hp : p k
      · rw [if_pos hp, winc k (by omega)] at h1
        rw [loopO_inl h1]
        refine ih (k + 1) (by omega) fun i hi => ?_
        rcases Nat.lt_or_ge i k with h2 | h2
        · exact h i h2
        · obtain rfl : i = k := by omega
          exact hp
      · rw [if_neg hp] at h1
        rw [loopO_inr h1, if_neg (fun h2 => hp (h2 k (by omega)))]
  exact key n 0 (by omega) (by simp)
theorem all_getD {α : Type} (l : List α) (d : α) (p : α → Prop) : (∀ i, i < l.length → p (l.getD i d)) ↔ ∀ x ∈ l, p x := by
  constructor
  · intro h x hx
    obtain ⟨i, hi, rfl⟩ := List.getElem_of_mem hx
    have := h i hi
    rwa [gd l d hi] at this
  · intro h i hi
    rw [gd l d hi]
    exact h _ (List.getElem_mem hi)
theorem samepoint_eq (a b : Point) (ha : a.Tx.length = 32) (hb : b.Tx.length = 32) : sargassoref_SamePoint.f a b = some (decide (a = b)) := by
  simp only [sargassoref_SamePoint.f]
  rw [samehash_eq _ _ ha hb]
  obtain ⟨a1, a2⟩ := a
  obtain ⟨b1, b2⟩ := b
  simp only [Option.bind_some, Point.mk.injEq, decide_eq_true_eq]
  by_cases h1 : a1 = b1 <;> by_cases h2 : a2 = b2 <;> simp [h1, h2]
noncomputable instance (a b : Nat) (t : Tx) : Decidable (Few a b t) := Classical.propDecidable _
theorem point_iff (a b : Point) : a = b ↔ (a.Tx = b.Tx ∧ a.N = b.N) := by
  obtain ⟨a1, a2⟩ := a
  obtain ⟨b1, b2⟩ := b
  simp
theorem light_eq (t : Tx) : sargassolaw4_light.f t = some (decide (Few 60 100 t)) := by
  have hf : Few 60 100 t ↔ t.Ins.length ≤ 60 ∧ t.Outs.length ≤ 60 ∧ ∀ i ∈ t.Ins, i.Key.length ≤ 100 := ⟨fun h => ⟨h.ins, h.outs, h.key⟩, fun ⟨a, b, c⟩ => ⟨a, b, c⟩⟩
  have he : decide (Few 60 100 t) = decide (t.Ins.length ≤ 60 ∧ t.Outs.length ≤ 60 ∧ ∀ i ∈ t.Ins, i.Key.length ≤ 100) := decide_eq_decide.2 hf
  rw [he]
  simp only [sargassolaw4_light.f]
  by_cases h1 : t.Ins.length ≤ 60
  · rw [if_neg (by omega), Option.bind_some]
    by_cases h2 : t.Outs.length ≤ 60
    · rw [if_neg (by simp; omega), look_run t.Ins.length (fun i => (t.Ins.getD i default).Key.length ≤ 100) true false (by omega) (fun i hi => by
        simp only [sargassolaw4_light.s0, Int.toNat_natCast]
        rw [if_pos (by omega), if_pos (by omega)]
        by_cases c : (t.Ins.getD i default).Key.length ≤ 100
        · rw [if_neg (by omega), if_pos c]
        · rw [if_pos (by omega), if_neg c]) (by simp [sargassolaw4_light.s0])]
      have := all_getD t.Ins default (fun x => x.Key.length ≤ 100)
      by_cases c : ∀ i ∈ t.Ins, i.Key.length ≤ 100
      · rw [if_pos (this.2 c), decide_eq_true ⟨h1, h2, c⟩]
      · rw [if_neg (fun h => c (this.1 h)), decide_eq_false (fun h => c h.2.2)]
    · rw [if_pos (by simp; omega), decide_eq_false (fun h => h2 h.2.1)]
  · rw [if_pos (by omega), Option.bind_some, if_pos rfl, decide_eq_false (fun h => h1 h.1)]
theorem out_iff (x y : Out) : x = y ↔ (x.Value = y.Value ∧ x.Lock = y.Lock) := by
  obtain ⟨x1, x2⟩ := x
  obtain ⟨y1, y2⟩ := y
  simp
theorem in_iff (x y : In) : x = y ↔ ((x.From.Tx = y.From.Tx ∧ x.From.N = y.From.N) ∧ x.Seq = y.Seq ∧ x.Key = y.Key) := by
  obtain ⟨⟨x1, x2⟩, x3, x4⟩ := x
  obtain ⟨⟨y1, y2⟩, y3, y4⟩ := y
  simp only [In.mk.injEq, Point.mk.injEq]
  constructor
  · rintro ⟨a, b, c⟩; exact ⟨a, c, b⟩
  · rintro ⟨a, b, c⟩; exact ⟨a, c, b⟩
theorem tx_iff (t u : Tx) : t = u ↔ (t.Version = u.Version ∧ t.Time = u.Time ∧ t.Outs = u.Outs ∧ t.Ins = u.Ins) := by
  obtain ⟨a, b, c, d⟩ := t
  obtain ⟨e, f, g, h⟩ := u
  simp only [Tx.mk.injEq]
  constructor
  · rintro ⟨a, b, c, d⟩; exact ⟨a, d, c, b⟩
  · rintro ⟨a, b, c, d⟩; exact ⟨a, d, c, b⟩
theorem sameout_eq {x y : Out} (h : OutOk x) (k : OutOk y) : sargassoref_SameOut.f x y = some (decide (x = y)) := by
  simp only [sargassoref_SameOut.f]
  have hi := out_iff x y
  by_cases c1 : x.Value = y.Value
  · rw [if_pos c1, samehash_eq _ _ h.lock k.lock, Option.bind_some, Option.bind_some]
    exact congrArg some (decide_eq_decide.2 ⟨fun h => hi.2 ⟨c1, h⟩, fun h => (hi.1 h).2⟩)
  · rw [if_neg c1, Option.bind_some, decide_eq_false (fun h => c1 (hi.1 h).1)]
theorem samein_eq {x y : In} (h : InOk x) (k : InOk y) (hl : x.Key.length ≤ 1000000) : sargassoref_SameIn.f x y = some (decide (x = y)) := by
  simp only [sargassoref_SameIn.f]
  have hi := in_iff x y
  rw [samepoint_eq _ _ h.tx k.tx, Option.bind_some]
  have hp := point_iff x.From y.From
  by_cases c1 : x.From = y.From
  · rw [if_pos (decide_eq_true c1), samebytes_eq' _ _ (by omega), Option.bind_some]
    by_cases c2 : x.Key = y.Key
    · rw [if_pos (decide_eq_true c2), Option.bind_some]
      exact congrArg some (decide_eq_decide.2 ⟨fun h => hi.2 ⟨hp.1 c1, h, c2⟩, fun h => (hi.1 h).2.1⟩)
    · rw [if_neg (by simp only [decide_eq_true_eq]; exact c2), Option.bind_some, decide_eq_false (fun h => c2 (hi.1 h).2.2)]
  · rw [if_neg (by simp only [decide_eq_true_eq]; exact c1), Option.bind_some, decide_eq_false (fun h => c1 (hp.2 (hi.1 h).1))]
theorem sametx_eq {t u : Tx} (h : TxOk t) (k : TxOk u) (h1 : t.Ins.length ≤ 1000000) (h2 : t.Outs.length ≤ 1000000) (h3 : ∀ i ∈ t.Ins, i.Key.length ≤ 1000000) : sargassoref_SameTx.f t u = some (decide (t = u)) := by
  simp only [sargassoref_SameTx.f]
  have hi := tx_iff t u
  by_cases c1 : t.Version = u.Version
  · rw [if_neg (fun h => h c1)]
    by_cases c2 : t.Time = u.Time
    · rw [if_neg (fun h => h c2)]
      by_cases c3 : t.Ins.length = u.Ins.length
      · rw [if_neg (by omega), Option.bind_some]
        by_cases c4 : t.Outs.length = u.Outs.length
        · rw [if_neg (by simp only [decide_eq_true_eq]; omega)]
          have e1 : loopO (sargassoref_SameTx.s1 t u) 0 = some (if ∀ i, i < t.Outs.length → t.Outs.getD i default = u.Outs.getD i default then (Sum.inr true : Int ⊕ Bool) else Sum.inr false) := look_run t.Outs.length (fun i => t.Outs.getD i default = u.Outs.getD i default) (Sum.inr true) (Sum.inr false) (by omega) (fun i hi => by
            simp only [sargassoref_SameTx.s1, Int.toNat_natCast]
            rw [if_pos (by omega), if_pos (by omega), if_pos (by omega), sameout_eq (h.outs _ (getD_mem hi)) (k.outs _ (getD_mem (show i < u.Outs.length by omega))), Option.bind_some]
            by_cases c : t.Outs.getD i default = u.Outs.getD i default
            · rw [if_pos c, if_pos (decide_eq_true c)]
            · rw [if_neg c, if_neg (by simp only [decide_eq_true_eq]; exact c)]) (by simp [sargassoref_SameTx.s1])
          have e2 : loopO (sargassoref_SameTx.s1 t u) 0 = some (.inr (decide (t.Outs = u.Outs))) := by
            rw [e1]
            have e := ext_iff t.Outs u.Outs default c4
            by_cases c : t.Outs = u.Outs
            · rw [if_pos (e.2 c), decide_eq_true c]
            · rw [if_neg (fun h => c (e.1 h)), decide_eq_false c]
          rw [look_run t.Ins.length (fun i => t.Ins.getD i default = u.Ins.getD i default) (decide (t.Outs = u.Outs)) false (by omega) (fun i hi => by
            simp only [sargassoref_SameTx.s0, Int.toNat_natCast]
            rw [if_pos (by omega), if_pos (by omega), if_pos (by omega), samein_eq (h.ins _ (getD_mem hi)) (k.ins _ (getD_mem (show i < u.Ins.length by omega))) (h3 _ (getD_mem hi)), Option.bind_some]
            by_cases c : t.Ins.getD i default = u.Ins.getD i default
            · rw [if_pos c, if_pos (decide_eq_true c)]
            · rw [if_neg c, if_neg (by simp only [decide_eq_true_eq]; exact c)]) (by
            simp only [sargassoref_SameTx.s0]
            rw [if_neg (by omega), e2])]
          have e := ext_iff t.Ins u.Ins default c3
          by_cases c : t.Ins = u.Ins
          · rw [if_pos (e.2 c)]
            exact congrArg some (decide_eq_decide.2 ⟨fun h => hi.2 ⟨c1, c2, h, c⟩, fun h => (hi.1 h).2.2.1⟩)
          · rw [if_neg (fun h => c (e.1 h)), decide_eq_false (fun h => c (hi.1 h).2.2.2)]
        · rw [if_pos (by simp only [decide_eq_true_eq]; omega), decide_eq_false (fun h => c4 (by rw [h]))]
      · rw [if_pos (by omega), Option.bind_some, if_pos rfl, decide_eq_false (fun h => c3 (by rw [h]))]
    · rw [if_pos c2, Option.bind_some, if_pos rfl, decide_eq_false (fun h => c2 (hi.1 h).2.1)]
  · rw [if_pos c1, Option.bind_some, if_pos rfl, decide_eq_false (fun h => c1 (hi.1 h).1)]
theorem in_ok {μ : Store} {x : In} {c : List Value} (h : RIn μ x c) : InOk x := by
  obtain ⟨v0, _, h1, h2, h3, h4⟩ := h
  exact ⟨h1.1, h1.2, h2, fun y hy => slc_ints h3 y hy, h4⟩
theorem out_ok {μ : Store} {x : Out} {c : List Value} (h : ROut μ x c) : OutOk x := by
  obtain ⟨_, h1, h2⟩ := h
  exact ⟨h1, h2.1, h2.2⟩
theorem tx_ok {μ : Store} {x : Tx} {v0 v1 : Value} (h : TxW μ x v0 v1) : TxOk x := by
  obtain ⟨h1, ⟨c1, h2, _⟩, ⟨c2, h3, _⟩, h4⟩ := h
  exact ⟨h1, els_all h2 fun y c hc => in_ok hc, els_all h3 fun y c hc => out_ok hc, h4⟩
theorem size_eq {t : Tx} (h : TxOk t) (hf : Few 60 100 t) : tx_Size.f t = some ((tb t).length : Int) := by
  simp only [tx_Size.f]
  rw [tbytes_eq h (hf.mono (by omega) (by omega)), Option.bind_some]
theorem ztx_ok : TxOk ztx := ⟨by simp [ztx, InR, IntKind.min, IntKind.max], by simp [ztx], by simp [ztx], by simp [ztx, InR, IntKind.min, IntKind.max]⟩
theorem ztx_few : Few 60 100 ztx := ⟨by decide, by decide, by simp [ztx]⟩
theorem first4 : sargassolaw4_first.f = some true := by
  simp only [sargassolaw4_first.f]
  rw [show (⟨0, [], [], 0⟩ : Tx) = ztx from rfl, tbytes_eq ztx_ok (ztx_few.mono (by omega) (by omega)), Option.bind_some, size_eq ztx_ok ztx_few]
  rfl
theorem txclone_eq {t : Tx} (h : TxOk t) (hf : Few 60 100 t) : tx_Clone.f t = some t := by
  have h1 := hf.ins
  have h2 := hf.outs
  simp only [tx_Clone.f, slices_Clone_api_In_api_In.f, slices_Clone_api_Out_api_Out.f]
  rw [if_pos (by omega), if_pos (by omega), Option.bind_some, Option.bind_some, show loopO (tx_Clone.s0 t.Ins) (0, t.Ins) = _ from loop_run (step := tx_Clone.s0 t.Ins) (fun i => ((i : Int), t.Ins)) t.Ins.length (r := t.Ins) rfl (fun i hi => by
    have hk := hf.key _ (getD_mem (d := default) hi)
    simp only [tx_Clone.s0, Int.toNat_natCast, bytes_Clone.f]
    rw [if_pos (by omega), if_pos (by omega), if_pos (by omega), Option.bind_some, winc i (by omega)]
    have : t.Ins.set i (⟨(t.Ins.getD i default).From, (t.Ins.getD i default).Key, (t.Ins.getD i default).Seq⟩ : In) = t.Ins := by
      rw [gd _ _ hi]
      exact List.set_getElem_self hi
    rw [this]) (by simp only [tx_Clone.s0]; rw [if_neg (by omega)])]
  rfl
end Go.Proofs.Ytkfpmcplfodikaa.T
namespace Go.Proofs.Ytkfpmcplfodikaa.T
open Go Go.Proofs Go.Proofs.Ytkfpmcplfodikaa.K
set_option linter.unusedVariables false
set_option linter.unusedSimpArgs false
theorem wrap_ne {n : Int} (h : InR .u32 n) : IntKind.u32.wrap (n + 1) ≠ n := by
  have h1 : 0 ≤ n := h.1
  have h2 : n < 4294967296 := h.2
  simp only [IntKind.wrap, IntKind.signed, IntKind.bits]
  intro e
  simp at e
  omega
theorem own_other {t c : Tx} (h : TxOk t) (hf : Few 60 100 t) (hn : t.Ins ≠ []) (hc : c.Ins.length = t.Ins.length ∧ (c.Ins.getD 0 default).Seq = IntKind.u32.wrap ((t.Ins.getD 0 default).Seq + 1) ∧ (c.Ins.getD 0 default).From = (t.Ins.getD 0 default).From ∧ (c.Ins.getD 0 default).Key.length = (t.Ins.getD 0 default).Key.length) : sargassoref_SameTx.f c t = some false := by
  obtain ⟨h1, h2, h3, h4⟩ := hc
  have hl : 0 < t.Ins.length := List.length_pos_iff.2 hn
  have hi := h.ins _ (getD_mem (d := default) hl)
  have hk := hf.key _ (getD_mem (d := default) hl)
  have e1 : sargassoref_SameIn.f (c.Ins.getD 0 default) (t.Ins.getD 0 default) = some false := by
    simp only [sargassoref_SameIn.f]
    rw [samepoint_eq _ _ (by rw [h3]; exact hi.tx) hi.tx, Option.bind_some, if_pos (decide_eq_true h3), samebytes_eq' _ _ (by omega), Option.bind_some]
    by_cases c2 : (c.Ins.getD 0 default).Key = (t.Ins.getD 0 default).Key
    · rw [if_pos (decide_eq_true c2), Option.bind_some, decide_eq_false (by rw [h2]; exact wrap_ne hi.seq)]
    · rw [if_neg (by simp only [decide_eq_true_eq]; exact c2), Option.bind_some]
  have e2 : loopO (sargassoref_SameTx.s0 c t) 0 = some false := loopO_inr (by
    simp only [sargassoref_SameTx.s0]
    rw [if_pos (by omega), if_pos (by omega), if_pos (by omega), show (0 : Int).toNat = 0 from rfl, e1, Option.bind_some, if_neg (by decide)])
  simp only [sargassoref_SameTx.f]
  rw [e2]
  split
  · rfl
  · split
    · rfl
    · split
      · rfl
      · rw [Option.bind_some]
        split <;> rfl
theorem sargassolaw4_TxOwn.m (μ : Store) (x0 : Tx) (v0 v1 : Value) (h0 : TxW μ x0 v0 v1) : sargassolaw4_TxOwn.f x0 = some true := by
  have ok := tx_ok h0
  simp only [sargassolaw4_TxOwn.f]
  rw [first4, Option.bind_some, if_pos rfl, light_eq, Option.bind_some]
  by_cases hf : Few 60 100 x0
  · rw [if_pos (decide_eq_true hf)]
    have a1 := hf.ins
    have a2 := hf.outs
    by_cases c1 : x0.Ins.length = 0
    · rw [if_pos (by omega), Option.bind_some, if_pos rfl]
    · rw [if_neg (by omega), Option.bind_some]
      by_cases c2 : x0.Outs.length = 0
      · rw [if_pos (by simp only [decide_eq_true_eq]; omega)]
      · rw [if_neg (by simp only [decide_eq_true_eq]; omega), txclone_eq ok hf, Option.bind_some, Option.bind_some, if_neg (by simp), if_neg (by simp), if_pos (by omega), if_pos (by omega), Option.bind_some, if_neg (by simp)]
        have hn : x0.Ins ≠ [] := fun h => c1 (by rw [h]; rfl)
        unfold ownR
        exact if_pos ⟨rfl, by rw [sametx_eq ok ok (by omega) (by omega) fun i hi => by have := hf.key i hi; omega, decide_eq_true rfl], hn, fun h => c2 (by rw [h]; rfl), fun c hc => own_other ok hf hn hc⟩
  · rw [if_neg (by simp only [decide_eq_true_eq]; exact hf), Option.bind_some, if_pos rfl]
end Go.Proofs.Ytkfpmcplfodikaa.T
namespace Go.Proofs.Ytkfpmcplfodikaa.K
open Go Go.Proofs Go.ChangeShapes Go.WideShapes Go.RowKit
def mem (w : World) : Store := fun k => w.heap[k]?
theorem agr_mem (w : World) : Agr (mem w) w := fun _ _ h => h
theorem mem_cell {w : World} {g i : Nat} {v : Value} (h : w.cell? ⟨g, i, none⟩ = some v) : (mem w).cell g i = some v := by
  unfold World.cell? at h
  unfold Store.cell mem
  cases hm : w.heap[g]? with
  | none => simp [hm] at h
  | some o => cases o <;> simp_all
theorem wf_in {k : IntKind} {n : Int} (h : (Lit.int k n).wf = true) : InR k n := by
  cases k <;> simp [Lit.wf, IntKind.min, IntKind.max, IntKind.signed, IntKind.bits] at h <;> simp [InR] <;> omega
section
variable {H : Type} {enc : TypeId × Value → H} {P : Program} {w : World} {base : Nat} {spare : Nat → Bool} {held : Bool} {t e : TypeId}
def Rd (enc : TypeId × Value → H) (P : Program) (w : World) (base : Nat) (spare : Nat → Bool) (held : Bool) (t : TypeId) (R : List Value → Prop) : Prop :=
  ∀ fuel cs x, DataW.trod enc P w base spare held fuel t cs = some x → R cs
theorem rd_int {k : IntKind} (ht : P.underlying t = some (.int k)) : Rd enc P w base spare held t (fun c => ∃ n, RI k n c) := by
  intro fuel cs x h
  obtain ⟨n, rfl, _, hw⟩ := DataW.trod_int ht h
  exact ⟨n, rfl, wf_in hw⟩
theorem rd_array {k : IntKind} {n : Nat} (ht : P.underlying t = some (.array n e)) (he : P.underlying e = some (.int k)) (hc : P.cellsOf e = 1) (hn : P.cellsOf t = n) :
    Rd enc P w base spare held t (fun c => ∃ xs, RA k n xs c) := by
  intro fuel cs x h
  obtain ⟨xs, m, _, _, hl, hx, hf⟩ := DataW.trod_array ht h
  rw [hn] at hl
  have each : ∀ i, i < n → ∃ z, cs[i]? = some (.int k z) ∧ InR k z := by
    intro i hi
    have h1 := hf i hi
    rw [hc, Nat.mul_one, List.getElem?_eq_getElem (by omega)] at h1
    obtain ⟨z, hz, _, hw⟩ := DataW.trod_int he h1
    refine ⟨z, ?_, wf_in hw⟩
    have := congrArg (·[0]?) hz
    simpa using this
  refine ⟨cs.map fun v => match v with | .int _ z => z | _ => 0, ?_, ?_, ?_⟩
  · simp only [List.flatten_cons, List.flatten_nil, List.append_nil]
    apply List.ext_getElem?
    intro i
    by_cases hi : i < n
    · obtain ⟨z, hz, _⟩ := each i hi
      rw [av_get _ _ _ hi, hz]
      simp [List.getD, hz]
    · rw [List.getElem?_eq_none (by omega), List.getElem?_eq_none (by rw [av_len]; omega)]
  · simpa using hl
  · intro y hy
    obtain ⟨v, hv, rfl⟩ := List.mem_map.1 hy
    obtain ⟨i, hi, rfl⟩ := List.getElem_of_mem hv
    obtain ⟨z, hz, hr⟩ := each i (by omega)
    rw [List.getElem?_eq_getElem hi] at hz
    rw [Option.some.inj hz]
    exact hr
theorem els_of {α : Type} {RE : α → List Value → Prop} {sz : Nat} : ∀ {n : Nat} {Q : Nat → Value → Prop}, (∀ i, i < n → ∃ x c, RE x c ∧ c.length = sz ∧ ∀ j v, c[j]? = some v → Q (i * sz + j) v) →
    ∃ xs cs, xs.length = n ∧ Els RE sz xs cs ∧ ∀ j v, cs[j]? = some v → Q j v
  | 0, _, _ => ⟨[], [], rfl, .nil, fun j v h => by simp at h⟩
  | n + 1, Q, f => by
    obtain ⟨x, c, h1, h2, h3⟩ := f 0 (by omega)
    obtain ⟨xs, cs, e1, e2, e3⟩ := els_of (n := n) (Q := fun m v => Q (sz + m) v) (fun i hi => by
      obtain ⟨x, c, h1, h2, h3⟩ := f (i + 1) (by omega)
      refine ⟨x, c, h1, h2, fun j v hj => ?_⟩
      have := h3 j v hj
      rwa [Nat.add_mul, Nat.one_mul, Nat.add_comm (i * sz), Nat.add_assoc] at this)
    refine ⟨x :: xs, c ++ cs, by simp [e1], .cons h1 h2 e2, fun j v hj => ?_⟩
    rcases Nat.lt_or_ge j c.length with h | h
    · rw [List.getElem?_append_left h] at hj
      simpa using h3 j v hj
    · rw [List.getElem?_append_right h] at hj
      have := e3 _ _ hj
      rwa [h2, Nat.add_sub_cancel' (by omega)] at this
theorem rd_slice {α : Type} {RE : α → List Value → Prop} {sz : Nat} (ht : P.underlying t = some (.slice e)) (hc : P.cellsOf e = sz) (h0 : 0 < sz) (hr : Rd enc P w base spare held e (fun c => ∃ x, RE x c)) :
    Rd enc P w base spare held t (fun c => ∃ v xs, c = [v] ∧ Slc RE sz (mem w) v xs) := by
  intro fuel cs x h
  rcases DataW.trod_slice ht h with ⟨rfl, _⟩ | ⟨a, len, cap, elems, rest, n, _, rfl, _, _, hl, hm, hlen, hel, _, _⟩
  · exact ⟨_, [], rfl, [], .nil, none, 0, rfl, Nat.le_refl _, Nat.zero_le _, fun h => absurd rfl h, fun h => absurd rfl h⟩
  have each0 : ∀ i, i < len → ∃ x c, RE x c ∧ c.length = sz ∧ ∀ j, j < sz → w.cell? ((a.add (i * sz)).add j) = c[j]? := by
    intro i hi
    have h1 := hel i hi
    rw [List.getElem?_eq_getElem (by omega), hc] at h1
    obtain ⟨c, hc1, hc2⟩ := Option.bind_eq_some_iff.1 h1
    obtain ⟨_, l1, l2⟩ := World.cells?_some hc1
    obtain ⟨x, hx⟩ := hr _ _ _ hc2
    exact ⟨x, c, hx, l1, l2⟩
  have hs : 0 < len → a.spot = none := by
    intro hp
    obtain ⟨x, c, _, l1, l2⟩ := each0 0 hp
    have h2 := (l2 0 h0).trans (List.getElem?_eq_getElem (by omega))
    simpa [Addr.add] using World.cell?_spot h2
  obtain ⟨b, off, spot⟩ := a
  simp only at hs
  have each : ∀ i, i < len → ∃ x c, RE x c ∧ c.length = sz ∧ ∀ j v, c[j]? = some v → (fun m v => w.cell? ⟨b, off + m, none⟩ = some v) (i * sz + j) v := by
    intro i hi
    obtain ⟨x, c, hx, l1, l2⟩ := each0 i hi
    refine ⟨x, c, hx, l1, fun j v hj => ?_⟩
    have hjl : j < sz := by
      have := (List.getElem?_eq_some_iff.1 hj).1
      omega
    have h2 := (l2 j hjl).trans hj
    rw [hs (by omega), add_plain, add_plain] at h2
    simpa [Nat.add_assoc] using h2
  obtain ⟨xs, cs, e1, e2, e3⟩ := els_of (RE := RE) (sz := sz) (Q := fun m v => w.cell? ⟨b, off + m, none⟩ = some v) each
  refine ⟨_, xs, rfl, cs, e2, some ⟨b, off, spot⟩, cap, by rw [e1], by omega, hm, fun hn => by rw [hs (by omega)]; rfl, fun hn j v hj => mem_cell (e3 j v hj)⟩
theorem rd_struct {fs : Array Field} {fuel : Nat} {cs : List Value} {x : DataW H × List MemPlace} (ht : P.underlying t = some (.struct fs)) (h : DataW.trod enc P w base spare held fuel t cs = some x) :
    cs.length = P.cellsOf t ∧ ∀ (i : Nat) (f : Field), fs[i]? = some f → ∃ n y, DataW.trod enc P w base spare held n f.type ((cs.drop f.offset).take (P.cellsOf f.type)) = some y := by
  obtain ⟨xs, n, _, _, hl, hx, hf⟩ := DataW.trod_struct ht h
  refine ⟨hl, fun i f hi => ?_⟩
  have h1 := hf i f hi
  have : i < fs.size := (Array.getElem?_eq_some_iff.1 hi).1
  rw [List.getElem?_eq_getElem (by omega)] at h1
  exact ⟨n, _, h1⟩
theorem chop {α : Type} (cs : List α) (o n m : Nat) (h : o + n = m) : cs.drop o = (cs.drop o).take n ++ cs.drop m := by
  subst h
  rw [← List.drop_drop, List.take_append_drop]
theorem rd_at {R : List Value → Prop} {v : Value} {d : DataW H} {ps : List MemPlace} (hr : Rd enc P w base spare held t R) (h : DataW.Trod enc P w base spare held t v d ps) : R v.cells.toList := by
  obtain ⟨fuel, hf⟩ := h
  exact hr _ _ _ hf
theorem at_agg {R : List Value → Prop} {v : Value} {d : DataW H} {ps : List MemPlace} (hv : ∃ cs, v = .agg cs) (hr : Rd enc P w base spare held t R) (h : DataW.Trod enc P w base spare held t v d ps) : ∃ cs : List Value, v = .agg cs.toArray ∧ R cs := by
  obtain ⟨cs, rfl⟩ := hv
  exact ⟨cs.toList, by simp, rd_at hr h⟩
theorem agg_struct {fs : Array Field} {r : Reach} {b0 : Nat} {v : Value} (ht : P.underlying t = some (.struct fs)) (hval : Value.okWide P w r b0 t v) : ∃ cs, v = .agg cs := let ⟨cs, h, _⟩ := okWide_struct ht hval; ⟨cs, h⟩
theorem again {W W' : World} {v : Value} {d : DataW H} {ps : List MemPlace} (hl : laidOutB P = true) (hr : P.readableRec t = true) (hrow : t < P.types.size) (h : DataW.Trod enc P W 0 (fun _ => true) true t v d ps) (hb : Below W.heap.size W W') :
    DataW.Trod enc P W' 0 (fun b => decide (b < W.heap.size)) true t v d ps :=
  Below.trod hl hr hrow h hb (fun p hp => let ⟨n, hn⟩ := h; DataW.trod_lt n _ _ _ hn p hp)
end
end Go.Proofs.Ytkfpmcplfodikaa.K
namespace Go.Proofs.Ytkfpmcplfodikaa.T
open Go Go.Proofs Go.Proofs.Ytkfpmcplfodikaa.K
set_option linter.unusedVariables false
set_option linter.unusedSimpArgs false
theorem laid : laidOutB Try.prog = true := by kernel_rfl
theorem cl22 : Try.prog.cellsOf 22 = 1 := by kernel_rfl
theorem cl5 : Try.prog.cellsOf 5 = 1 := by kernel_rfl
theorem cl31 : Try.prog.cellsOf 31 = 32 := by kernel_rfl
theorem cl33 : Try.prog.cellsOf 33 = 33 := by kernel_rfl
theorem cl34 : Try.prog.cellsOf 34 = 1 := by kernel_rfl
theorem cl36 : Try.prog.cellsOf 36 = 35 := by kernel_rfl
theorem cl23 : Try.prog.cellsOf 23 = 1 := by kernel_rfl
theorem cl37 : Try.prog.cellsOf 37 = 1 := by kernel_rfl
theorem cl39 : Try.prog.cellsOf 39 = 33 := by kernel_rfl
theorem cl24 : Try.prog.cellsOf 24 = 1 := by kernel_rfl
theorem cl26 : Try.prog.cellsOf 26 = 4 := by kernel_rfl
theorem rr26 : Try.prog.readableRec 26 = true := by kernel_rfl
theorem tr26 : 26 < Try.prog.types.size := of_decide_eq_true (by kernel_rfl)
section
variable {H : Type} {enc : TypeId × Value → H} {w : World} {base : Nat} {spare : Nat → Bool} {held : Bool}
theorem rd22 : Rd enc Try.prog w base spare held 22 (fun c => ∃ n, RI .u32 n c) := rd_int Try.underlying22
theorem rd5 : Rd enc Try.prog w base spare held 5 (fun c => ∃ n, RI .u8 n c) := rd_int Try.underlying5
theorem rd31 : Rd enc Try.prog w base spare held 31 (fun c => ∃ xs, RA .u8 32 xs c) := rd_array Try.underlying31 Try.underlying5 cl5 cl31
theorem rd33 : Rd enc Try.prog w base spare held 33 (fun c => ∃ x, RPoint (mem w) x c) := by
  intro fuel cs x h
  obtain ⟨hl, hf⟩ := rd_struct Try.underlying33 h
  rw [cl33] at hl
  obtain ⟨n0, y0, h0⟩ := hf 0 _ rfl
  obtain ⟨x0, e0, w0⟩ := rd31 _ _ _ h0
  have e0 : (cs.drop 0).take (Try.prog.cellsOf 31) = _ := e0
  rw [cl31] at e0
  have c0 := chop cs 0 32 32 rfl
  rw [e0] at c0
  obtain ⟨n1, y1, h1⟩ := hf 1 _ rfl
  obtain ⟨x1, e1, w1⟩ := rd22 _ _ _ h1
  have e1 : (cs.drop 32).take (Try.prog.cellsOf 22) = _ := e1
  rw [cl22] at e1
  have c1 := chop cs 32 1 33 rfl
  rw [e1] at c1
  rw [List.drop_eq_nil_of_le (i := 33) (by omega)] at c1
  rw [c1] at c0
  rw [List.drop_zero] at c0
  exact ⟨⟨x0, x1⟩,  by rw [c0]; simp [PointC], ⟨w0, w1⟩⟩
theorem rd34 : Rd enc Try.prog w base spare held 34 (fun c => ∃ v xs, c = [v] ∧ Slc (RI .u8) 1 (mem w) v xs) := rd_slice Try.underlying34 cl5 (by decide) rd5
theorem rd36 : Rd enc Try.prog w base spare held 36 (fun c => ∃ x, RIn (mem w) x c) := by
  intro fuel cs x h
  obtain ⟨hl, hf⟩ := rd_struct Try.underlying36 h
  rw [cl36] at hl
  obtain ⟨n0, y0, h0⟩ := hf 0 _ rfl
  obtain ⟨x0, e0, w0_0, w0_1⟩ := rd33 _ _ _ h0
  have e0 : (cs.drop 0).take (Try.prog.cellsOf 33) = _ := e0
  rw [cl33] at e0
  have c0 := chop cs 0 33 33 rfl
  rw [e0] at c0
  obtain ⟨n1, y1, h1⟩ := hf 1 _ rfl
  obtain ⟨v1, x1, e1, w1⟩ := rd34 _ _ _ h1
  have e1 : (cs.drop 33).take (Try.prog.cellsOf 34) = _ := e1
  rw [cl34] at e1
  have c1 := chop cs 33 1 34 rfl
  rw [e1] at c1
  obtain ⟨n2, y2, h2⟩ := hf 2 _ rfl
  obtain ⟨x2, e2, w2⟩ := rd22 _ _ _ h2
  have e2 : (cs.drop 34).take (Try.prog.cellsOf 22) = _ := e2
  rw [cl22] at e2
  have c2 := chop cs 34 1 35 rfl
  rw [e2] at c2
  rw [List.drop_eq_nil_of_le (i := 35) (by omega)] at c2
  rw [c2] at c1
  rw [c1] at c0
  rw [List.drop_zero] at c0
  exact ⟨⟨x0, x1, x2⟩, v1,  by rw [c0]; simp [InC, PointC], ⟨w0_0, w0_1, w1, w2⟩⟩
theorem rd23 : Rd enc Try.prog w base spare held 23 (fun c => ∃ v xs, c = [v] ∧ Slc (RIn (mem w)) 35 (mem w) v xs) := rd_slice Try.underlying23 cl36 (by decide) rd36
theorem rd37 : Rd enc Try.prog w base spare held 37 (fun c => ∃ n, RI .u64 n c) := rd_int Try.underlying37
theorem rd39 : Rd enc Try.prog w base spare held 39 (fun c => ∃ x, ROut (mem w) x c) := by
  intro fuel cs x h
  obtain ⟨hl, hf⟩ := rd_struct Try.underlying39 h
  rw [cl39] at hl
  obtain ⟨n0, y0, h0⟩ := hf 0 _ rfl
  obtain ⟨x0, e0, w0⟩ := rd37 _ _ _ h0
  have e0 : (cs.drop 0).take (Try.prog.cellsOf 37) = _ := e0
  rw [cl37] at e0
  have c0 := chop cs 0 1 1 rfl
  rw [e0] at c0
  obtain ⟨n1, y1, h1⟩ := hf 1 _ rfl
  obtain ⟨x1, e1, w1⟩ := rd31 _ _ _ h1
  have e1 : (cs.drop 1).take (Try.prog.cellsOf 31) = _ := e1
  rw [cl31] at e1
  have c1 := chop cs 1 32 33 rfl
  rw [e1] at c1
  rw [List.drop_eq_nil_of_le (i := 33) (by omega)] at c1
  rw [c1] at c0
  rw [List.drop_zero] at c0
  exact ⟨⟨x0, x1⟩,  by rw [c0]; simp [OutC], ⟨w0, w1⟩⟩
theorem rd24 : Rd enc Try.prog w base spare held 24 (fun c => ∃ v xs, c = [v] ∧ Slc (ROut (mem w)) 33 (mem w) v xs) := rd_slice Try.underlying24 cl39 (by decide) rd39
theorem rd26 : Rd enc Try.prog w base spare held 26 (fun c => ∃ x, RTx (mem w) x c) := by
  intro fuel cs x h
  obtain ⟨hl, hf⟩ := rd_struct Try.underlying26 h
  rw [cl26] at hl
  obtain ⟨n0, y0, h0⟩ := hf 0 _ rfl
  obtain ⟨x0, e0, w0⟩ := rd22 _ _ _ h0
  have e0 : (cs.drop 0).take (Try.prog.cellsOf 22) = _ := e0
  rw [cl22] at e0
  have c0 := chop cs 0 1 1 rfl
  rw [e0] at c0
  obtain ⟨n1, y1, h1⟩ := hf 1 _ rfl
  obtain ⟨v1, x1, e1, w1⟩ := rd23 _ _ _ h1
  have e1 : (cs.drop 1).take (Try.prog.cellsOf 23) = _ := e1
  rw [cl23] at e1
  have c1 := chop cs 1 1 2 rfl
  rw [e1] at c1
  obtain ⟨n2, y2, h2⟩ := hf 2 _ rfl
  obtain ⟨v2, x2, e2, w2⟩ := rd24 _ _ _ h2
  have e2 : (cs.drop 2).take (Try.prog.cellsOf 24) = _ := e2
  rw [cl24] at e2
  have c2 := chop cs 2 1 3 rfl
  rw [e2] at c2
  obtain ⟨n3, y3, h3⟩ := hf 3 _ rfl
  obtain ⟨x3, e3, w3⟩ := rd22 _ _ _ h3
  have e3 : (cs.drop 3).take (Try.prog.cellsOf 22) = _ := e3
  rw [cl22] at e3
  have c3 := chop cs 3 1 4 rfl
  rw [e3] at c3
  rw [List.drop_eq_nil_of_le (i := 4) (by omega)] at c3
  rw [c3] at c2
  rw [c2] at c1
  rw [c1] at c0
  rw [List.drop_zero] at c0
  exact ⟨⟨x0, x1, x2, x3⟩, v1, v2,  by rw [c0]; simp [TxC], ⟨w0, w1, w2, w3⟩⟩
end
end Go.Proofs.Ytkfpmcplfodikaa.T
namespace Go.Proofs.Ytkfpmcplfodikaa.J
open Go Go.Proofs
theorem words_cons : ∀ (w r : List Char), w.all (· != ' ') = true → wordsSigns (w ++ ' ' :: r) = w :: wordsSigns r
  | [], r, _ => rfl
  | c :: w, r, h => by
    simp only [List.all_cons, Bool.and_eq_true, bne_iff_ne, ne_eq] at h
    have ih := words_cons w r h.2
    rw [List.cons_append, wordsSigns, ih]
    exact fun e => h.1 e
set_option maxRecDepth 100000
def w0 : List Char := ['h', 'a', 'r', 'n', 'e', 's', 's']
def w1 : List Char := ['f', '6', 'b', '9', '4', '4', 'a', '9', 'f', '5', '6', 'b', 'f', '3', '3', 'a', 'e', '6', '9', 'b', '7', '6', '5', '6', '4', 'd', 'd', '2', 'a', '6', '7', '4', 'a', '9', '4', 'e', 'c', '2', '3', '0', '0', '0', '2', '0', '2', 'f', '4', 'c', '2', '8', 'c', '6', 'c', '6', '7', '8', 'a', 'a', '9', '5', 'e', '5', 'b', '7']
def w2 : List Char := ['c', 'u', 't']
def w3 : List Char := ['a', 't', ' ', 's', 'a', 'r', 'g', 'a', 's', 's', 'o', '/', 's', 'a', 'r', 'g', 'a', 's', 's', 'o', 'l', 'a', 'w', '4', '.', 'T', 'x', 'O', 'w', 'n']
theorem io0 : Try.prog.initOrder = String.ofList (w0 ++ ' ' :: (w1 ++ ' ' :: (w2 ++ ' ' :: w3))) := by kernel_rfl
theorem io : Try.prog.initOrder.toList = w0 ++ ' ' :: (w1 ++ ' ' :: (w2 ++ ' ' :: w3)) := (congrArg String.toList io0).trans String.toList_ofList
theorem ws : wordsSigns Try.prog.initOrder.toList = w0 :: w1 :: w2 :: wordsSigns w3 := by
  rw [io, words_cons _ _ (by kernel_rfl), words_cons _ _ (by kernel_rfl), words_cons _ _ (by kernel_rfl)]
theorem bm (R : List (List Char)) : behindMainWord (w0 :: w1 :: w2 :: R) = w2 :: R := by kernel_rfl
theorem bw : behindMainWord (wordsSigns Try.prog.initOrder.toList) = w2 :: wordsSigns w3 := by rw [ws, bm]
theorem st (R : List (List Char)) : stripLifts liftWords (w2 :: R) = ([], w2 :: R) := by kernel_rfl
theorem make_of {P : Program} {R : List (List Char)} (h : behindMainWord (wordsSigns P.initOrder.toList) = w2 :: R) : P.make = some .cut := by
  unfold Program.make
  rw [h]
  kernel_rfl
theorem head_of {P : Program} {R : List (List Char)} (h : behindMainWord (wordsSigns P.initOrder.toList) = w2 :: R) : P.headLifts = [] := by
  unfold Program.headLifts
  rw [h, st]
  kernel_rfl
theorem lifts_of {P : Program} {R : List (List Char)} (h : behindMainWord (wordsSigns P.initOrder.toList) = w2 :: R) : P.liftsFinal = false := by
  unfold Program.liftsFinal
  rw [h, head_of h]
  kernel_rfl
theorem may_of {P : Program} {R : List (List Char)} (h : behindMainWord (wordsSigns P.initOrder.toList) = w2 :: R) (h1 : P.laysLater = false) (h2 : P.bearsReflect = false) (h3 : P.doorFits [] = true) : P.mayEnter = true := by
  unfold Program.mayEnter
  rw [h]
  simp only [st, h1, h2, h3]
  kernel_rfl
theorem later : Try.prog.laysLater = false := by kernel_rfl
theorem reflect : Try.prog.bearsReflect = false := by kernel_rfl
theorem door : Try.prog.doorFits [] = true := by kernel_rfl
theorem make : Try.prog.make = some .cut := make_of bw
theorem lifts : Try.prog.liftsFinal = false := lifts_of bw
theorem may : Try.prog.mayEnter = true := may_of bw later reflect door
end Go.Proofs.Ytkfpmcplfodikaa.J
namespace Go.Proofs.Ytkfpmcplfodikaa.zTxOwn
open Go Go.Proofs Go.Proofs.Ytkfpmcplfodikaa.K Go.Proofs.Ytkfpmcplfodikaa.T
open Go.ChangeShapes Go.WideShapes Go.ChangeAt Go.RowKit
set_option linter.unusedVariables false
theorem own : ownKnob Try.prog.godebug = none := by kernel_rfl
set_option maxRecDepth 100000 in
theorem lifted (os : Os) (started : os.Started) (H : Type) (enc : TypeId × Value → H) :
    ReturnsInHanded {} Try.checked os 3 .any (Rows.txOwnSpec.pre6 enc Try.prog Try.f3 Rows.txOwnRow.domain false) (Rows.txOwnSpec.post enc Try.prog Try.f3 false true false false) := by
  refine returnsInHanded_of_change_sized (C := Try.checked) own started (by kernel_rfl) Try.func3
    (ChangeSpec.witness6 (enc := enc) (C := Try.checked) false ⟨#[], #[.agg #[.int .u32 0, .slice none 0 0, .slice none 0 0, .int .u32 0]], []⟩ 8 (by kernel_rfl) (by kernel_rfl) (by kernel_rfl) (by kernel_rfl)) ?_
  intro W base args ds gs before hval0 hW hcnd hsz0 _
  have hW' := hW
  obtain ⟨p, q, hA0, hV, rfl, hfz, hnd⟩ := hW
  have hA : DataW.TrodAll enc Try.prog W 0 (fun _ => true) true Try.f3.params.toList args.toList ds p := hA0
  have hval : ∀ (j : Nat) t v, Try.f3.params[j]? = some t → args[j]? = some v → Value.okWide Try.prog W .any base t v := hval0
  rw [Try.params3] at hA hval
  obtain ⟨v0, vs0, d0, ds0, p0, q0, hargs, rfl, rfl, h0, r0⟩ := trodAll_cons hA
  obtain ⟨rfl, rfl, rfl⟩ := trodAll_nil r0
  obtain rfl : args = #[v0] := by cases args; simp_all
  obtain ⟨rfl, rfl⟩ := trodVars_none hV
  obtain ⟨c0, rfl, x0, u0_0, u0_1, rfl, w0⟩ := at_agg (agg_struct Try.underlying26 (hval 0 26 v0 rfl rfl)) rd26 h0
  have hμ : Agr (mem W) W := agr_mem W
  have hm := sargassolaw4_TxOwn.m (mem W) x0 u0_0 u0_1 w0
  refine (sargassolaw4_TxOwn.c (mem W) W hμ x0 u0_0 u0_1 w0 true hm).mono fun e W' ⟨v, he, hv, _, hI⟩ => ?_
  subst hv
  subst he
  have bel : Below W.heap.size W W' := hI.below
  exact ⟨_, rfl, _, _, _, [], _, [], hW', trodAll_mk1 (shut_bool Try.underlying4 _), (trodAll_cons_mk (again laid rr26 tr26 h0 bel) trodAll_mk0), rfl, bel.frame _, fun h => by cases h⟩
theorem closed : joinedFacts Try.prog 3 Try.f3 Rows.txOwnSpec Rows.txOwnRow = true := by
  unfold joinedFacts
  rw [J.may, J.lifts, J.make]
  kernel_rfl
theorem over : Rows.txOwnRow.holds Try.pinned (OpenSpec.ofChange Rows.txOwnSpec) :=
  OpenClaim.holds_of_wide 3 Try.f3 rfl rfl rfl rfl rfl rfl rfl ⟨rfl, rfl, rfl, rfl, rfl⟩ rfl rfl rfl rfl rfl (by kernel_rfl) Try.func3 closed
    (of_decide_eq_true (by kernel_rfl)) (by unfold Func.isWrapper; first | (rw [if_pos (by decide +kernel)]; kernel_rfl) | (rw [if_neg (by decide +kernel)]; exact ⟨rfl, rfl⟩))
    (fun os started H enc _ => lifted os started H enc)
end Go.Proofs.Ytkfpmcplfodikaa.zTxOwn
namespace Go.Proofs.Ytkfpmcplfodikaa
theorem txOwn_holds : Rows.TxOwnSaid := zTxOwn.over
#print axioms txOwn_holds
end Go.Proofs.Ytkfpmcplfodikaa
