/- Proved: the statement BlockSays, as given (its conditions are those of the given row, and card where there is one; no others): the call ends, with true, and the input reads as it did. This file is one of its parts. -/
import Derived.Test.YticejmbhhehfdaaGreatDoorPBlockSays4
namespace Go.Proofs.YticejmbhhehfdaaGreatDoor.T
open Go Go.Proofs Go.Proofs.YticejmbhhehfdaaGreatDoor.K
set_option linter.unusedVariables false
set_option linter.unusedSimpArgs false
set_option maxRecDepth 20000
theorem tx_Bytes.c (μ:Store)(w0:World)(hμ:Agr μ w0)(x0:Tx)(u0_0 u0_1:Value)(hx0:TxW μ x0 u0_0 u0_1)(r:List Int)(H:tx_Bytes.f x0=some r) :
  Calls Tryz.prog 41 [.agg [[.int .u32 x0.Version],[u0_0],[u0_1],[.int .u32 x0.Time]].flatten.toArray].toArray w0 (fun e w'=>∃ v,e=.returned v∧∃(v0:Value)(c0:List Value),v=v0∧Els (RI .u8) 1 r c0∧Iv w0 [] μ μ [row 5 1 v0 r.length c0] w'):=by
 refine enter Tryz.func41 rfl Tryz.ntmps41 rfl fun a hA=>?_
 have hI:=Iv.start hμ
 have H:=bI H
 refine w_seq fun _ hN1=>w_reg<|o_box [[.int .u32 x0.Version],[u0_0],[u0_1],[.int .u32 x0.Time]] hI hA rfl rfl rfl fun g1 a w hA hI hg1 =>
  sta hA rfl rfl fun a hA=>?_
 refine o_nil<|hN1 _ _<|w_seq fun _ hN2=>w_reg<|stp hA (r_fd (k:=0) U63 rfl sz22 hA rfl rfl) rfl fun a hA =>
  stp hA (r_ld1 (j:=0) [] [[u0_0],[u0_1],[.int .u32 x0.Time]] U22 rfl hI rfl hA rfl rfl) rfl fun a hA=>?_
 obtain ⟨r1,hr1,H⟩:=bB H
 refine o_call _ cf83 hA rfl (compact_Four.c μ _ hI.agr ([]) Sn (slc_nil _ _ _) x0.Version hx0.1 r1 hr1) rfl fun v1 a w hz1 hA=>?_
 obtain ⟨_,cs1,rfl,hE1,hi1⟩:=hz1
 have hI:=hI.call hi1
 refine sta hA rfl rfl fun a hA=>?_
 refine o_nil<|hN2 _ _<|w_seq fun _ hN3=>w_reg<|stm hA rfl rfl fun a hA =>
  stp hA (r_fd (k:=1) U63 rfl sz60 hA rfl rfl) rfl fun a hA =>
  stp hA (r_ld1 (j:=1) [[.int .u32 x0.Version]] [[u0_1],[.int .u32 x0.Time]] U60 rfl hI rfl hA rfl rfl) rfl fun a hA=>?_
 obtain ⟨_,hsl1⟩:=Slc.sv hx0.2.1
 refine stp hA (r_slen U60 hsl1 hA rfl) rfl fun a hA =>
  stp hA (r_conv U3 U70 hA rfl) rfl fun a hA=>?_
 obtain ⟨r2,hr2,H⟩:=bB H
 refine o_call (fun v w'=>∃(v0:Value)(c0:List Value),v=v0∧Els (RI .u8) 1 r2 c0∧Iv w [] μ μ [row 5 1 v0 r2.length c0] w') cf39 hA rfl ((by obtain ⟨μ1,hle1,hsv1,hI⟩:=hI.freezeRow 0 rfl;have hS1:Slc (RI .u8) 1 μ1 v1 r1:=⟨_,hE1,hsv1⟩;exact (compact_Put.c μ1 _ hI.agr r1 v1 hS1 (IntKind.u64.wrap (x0.Ins.length:Int)) (wrap_in _ _) r2 hr2).mono fun _ _ ⟨v,he,b0,b1,hv,f0,hi⟩=>⟨v,he,b0,b1,hv,f0,hi.low hle1⟩)) rfl fun v2 a w hz2 hA=>?_
 obtain ⟨_,cs2,rfl,hE2,hi2⟩:=hz2
 have hI:=hI.call hi2
 refine sta hA rfl rfl fun a hA=>?_
 refine o_nil<|hN3 _ _ ?_
 obtain ⟨c1,hz3,Hk1⟩:=bB H
 refine w_cut (fun a w=>∃(vvc1:Value)(ccc1:List Value),Els (RI .u8) 1 c1 ccc1∧Fr a 72 [(1,pt g1 0),(2,Sn),(3,vvc1)]∧Iv w0 [] μ μ [row 5 1 vvc1 c1.length ccc1,row 5 1 v1 r1.length cs1,cel g1 [[.int .u32 x0.Version],[u0_0],[u0_1],[.int .u32 x0.Time]] 63] w) ?_ ?_
 ·have H:=bI hz3
  refine w_seq fun _ hN4=>w_reg<|stp hA (r_fd (k:=1) U63 rfl sz60 hA rfl rfl) rfl fun a hA =>
   stp hA (r_ld1 (j:=2) [[.int .u32 x0.Version]] [[u0_1],[.int .u32 x0.Time]] U60 rfl hI rfl hA rfl rfl) rfl fun a hA=>?_
  obtain ⟨_,hsl2⟩:=Slc.sv hx0.2.1
  refine stp hA (r_slen U60 hsl2 hA rfl) rfl fun a hA =>
   stm hA rfl rfl fun a hA=>?_
  refine o_nil<|hN4 _ _<|w_block ?_
  obtain ⟨z1,hz4,Hk2⟩:=bind_some H
  obtain ⟨n1,hn1⟩:=loopO_some hz4
  refine w_loop (fun n a w=>∃(s1:List Int)(s2:Int)(vvs1:Value)(ccs1:List Value),loopN (tx_Bytes.s0 x0) n (s1,s2)=some z1∧Els (RI .u8) 1 s1 ccs1∧InR .i64 s2∧Fr a 72 [(1,pt g1 0),(2,Sn),(3,vvs1),(18,u0_0),(19,.int .i64 (x0.Ins.length:Int)),(20,.int .i64 s2)]∧Iv w0 [] μ μ [row 5 1 vvs1 s1.length ccs1,row 5 1 v1 r1.length cs1,cel g1 [[.int .u32 x0.Version],[u0_0],[u0_1],[.int .u32 x0.Time]] 63] w) n1 ⟨r2,0,v2,cs2,hn1,hE2,(in_lit .i64 0 rfl),hA.sub ⟨rfl,rfl,rfl,rfl,rfl,rfl,trivial⟩,hI⟩ ?_
  clear hA hI
  rintro n a w ⟨s1,s2,vvs1,ccs1,hn1,ws1,ws2,hA,hI⟩
  obtain ⟨m1,rfl,H⟩:=loopN_bind hn1
  clear hn1
  refine w_seq fun _ hN5=>w_reg<|stp hA (r_lss hA rfl rfl) rfl fun a hA=>?_
  refine o_nil<|hN5 _ _<|w_seq fun _ hN6=>w_cond hA rfl (fun hc1=>?_) (fun hc1=>?_)
  ·obtain ⟨hc1,H⟩:=dT H hc1
   refine w_skip<|hN6 _ _<|w_seq fun _ hN7=>w_block<|w_seq fun _ hN8=>w_reg ?_
   obtain ⟨hb1,H⟩:=bG H
   obtain ⟨_,he1,_,hat1⟩:=Slc.elem hx0.2.1 (getD_some default hb1.1 hb1.2)
   obtain ⟨v3,rfl,hw1⟩:=he1
   obtain ⟨_,hsl3⟩:=Slc.sv hx0.2.1
   refine stp hA (r_six U60 sz67 hsl3 hA rfl rfl hb1.1 hb1.2) rfl fun a hA =>
    stp hA (r_ldmA [] [av .u8 32 ((x0.Ins.getD s2.toNat default).From.Tx),[.int .u32 ((x0.Ins.getD s2.toNat default).From.N)],[v3],[.int .u32 ((x0.Ins.getD s2.toNat default).Seq)]] [] U67 rfl sz67 rfl hI.agr hat1 hA rfl rfl) rfl fun a hA =>
    o_new [av .u8 32 Z32,[.int .u32 0],[Sn],[.int .u32 0]] zr67 hI hA rfl fun g2 a w hA hI hg2=>?_
   obtain ⟨_,hsl4⟩:=Slc.sv hw1.2.2.1
   refine o_st (j:=0) [] [av .u8 32 Z32,[.int .u32 0],[Sn],[.int .u32 0]] [av .u8 32 ((x0.Ins.getD s2.toNat default).From.Tx),[.int .u32 ((x0.Ins.getD s2.toNat default).From.N)],[v3],[.int .u32 ((x0.Ins.getD s2.toNat default).Seq)]] [] sz67 rfl rfl (fl_cons (one_av _ _ _) (fO rfl (fl_cons (one_one (one_sl hsl4)) (fO rfl fl_nil)))) hI rfl hA rfl rfl rfl rfl fun w hI=>?_
   refine o_nil<|hN8 _ _<|w_seq fun _ hN9=>?_
   refine w_anyS [] mo (fun w (h:Iv w0 [] μ μ [cel g2 [av .u8 32 ((x0.Ins.getD s2.toNat default).From.Tx),[.int .u32 ((x0.Ins.getD s2.toNat default).From.N)],[v3],[.int .u32 ((x0.Ins.getD s2.toNat default).Seq)]] 67,row 5 1 vvs1 s1.length ccs1,row 5 1 v1 r1.length cs1,cel g1 [[.int .u32 x0.Version],[u0_0],[u0_1],[.int .u32 x0.Time]] 63] w)=>(h.sl [0,2,3] rfl:Iv w0 [] μ μ [cel g2 [av .u8 32 ((x0.Ins.getD s2.toNat default).From.Tx),[.int .u32 ((x0.Ins.getD s2.toNat default).From.N)],[v3],[.int .u32 ((x0.Ins.getD s2.toNat default).Seq)]] 67,row 5 1 v1 r1.length cs1,cel g1 [[.int .u32 x0.Version],[u0_0],[u0_1],[.int .u32 x0.Time]] 63] w)) hI fun w hI=>?_
   refine gE 0 hA rfl (.inr (hI.sl [0,2,3] rfl)) (fun _=>r_mv hA rfl) fun a hA=>?_
   refine gE 1 hA rfl (.inr (hI.sl [0,2,3] rfl)) (fun _=>r_fd (k:=0) U67 rfl sz65 hA rfl rfl) fun a hA=>?_
   refine gE 2 hA rfl (.inr (hI.sl [0,2,3] rfl)) (fun _=>r_fd (k:=0) U65 rfl sz24 hA rfl rfl) fun a hA=>?_
   refine gE 3 hA rfl (.inr (hI.sl [0,2,3] rfl)) (fun _=>r_slv (i:=0) (j:=32) U24 sz5 hA rfl rfl rfl (by decide) (by decide) (by decide) (by decide) rfl) fun a hA=>?_
   refine gE 5 hA rfl (.inr (hI.sl [0,2,3] rfl)) (fun _=>r_fd (k:=0) U67 rfl sz65 hA rfl rfl) fun a hA=>?_
   refine gE 6 hA rfl (.inr (hI.sl [0,2,3] rfl)) (fun _=>r_fd (k:=32) U65 rfl sz22 hA rfl rfl) fun a hA=>?_
   refine gT 7 hA rfl (hI.sl [0,2,3] rfl) (fun w hI=>r_ld1 (j:=0) [av .u8 32 ((x0.Ins.getD s2.toNat default).From.Tx)] [[v3],[.int .u32 ((x0.Ins.getD s2.toNat default).Seq)]] U22 rfl hI rfl hA rfl rfl) fun a hA=>?_
   refine gF 4 rfl ?_
   have hE3:=els_av hw1.1
   obtain ⟨hb2,H⟩:=bG H
   have hE4:=ws1.app hE3
   refine o_appG (xs:=(s1:List Int)) (ys:=((x0.Ins.getD s2.toNat default).From.Tx:List Int)) (M:=140737488355328) 1 te5 U30 hI rfl hA rfl rfl (by simpa using src_cel [] [[.int .u32 ((x0.Ins.getD s2.toNat default).From.N)],[v3],[.int .u32 ((x0.Ins.getD s2.toNat default).Seq)]] hI (j:=0) rfl hw1.1 rfl) hE3.len (hE3.ones (one_RI _)) hb2 rfl fun v4 a w hA hI=>?_
   refine o_nil<|⟨(.inr (hI.sl [0,2,3] rfl)),?_⟩
   refine gF 8 rfl ?_
   obtain ⟨r3,hr3,H⟩:=bB H
   refine o_call (fun v w'=>∃(v0:Value)(c0:List Value),v=v0∧Els (RI .u8) 1 r3 c0∧Iv w [] μ μ [row 5 1 v0 r3.length c0] w') cf83 hA rfl ((by obtain ⟨μ2,hle2,hsv3,hI⟩:=hI.freezeRow 1 rfl;have hS2:Slc (RI .u8) 1 μ2 v4 (s1++((x0.Ins.getD s2.toNat default).From.Tx)):=⟨_,hE4,hsv3⟩;exact (compact_Four.c μ2 _ hI.agr (s1++((x0.Ins.getD s2.toNat default).From.Tx)) v4 hS2 ((x0.Ins.getD s2.toNat default).From.N) hw1.2.1 r3 hr3).mono fun _ _ ⟨v,he,b0,b1,hv,f0,hi⟩=>⟨v,he,b0,b1,hv,f0,hi.low hle2⟩)) rfl fun v5 a w hz5 hA=>?_
   obtain ⟨_,cs5,rfl,hE5,hi3⟩:=hz5
   have hI:=hI.call hi3
   refine o_nil<|⟨(.inr (hI.sl [1,3,4] rfl)),?_⟩
   refine gE 9 hA rfl (.inr (hI.sl [1,3,4] rfl)) (fun _=>r_as hA rfl) fun a hA=>?_
   refine gN<|hN9 _ _<|w_seq fun _ hN10=>?_
   refine w_anyS [] mo (fun w (h:Iv w0 [] μ μ [row 5 1 v5 r3.length cs5,cel g2 [av .u8 32 ((x0.Ins.getD s2.toNat default).From.Tx),[.int .u32 ((x0.Ins.getD s2.toNat default).From.N)],[v3],[.int .u32 ((x0.Ins.getD s2.toNat default).Seq)]] 67,row 5 1 v4 (s1++((x0.Ins.getD s2.toNat default).From.Tx)).length (ccs1++([av .u8 32 ((x0.Ins.getD s2.toNat default).From.Tx)].flatten)),row 5 1 v1 r1.length cs1,cel g1 [[.int .u32 x0.Version],[u0_0],[u0_1],[.int .u32 x0.Time]] 63] w)=>(h.sl [0,1,2,3,4] rfl:Iv w0 [] μ μ [row 5 1 v5 r3.length cs5,cel g2 [av .u8 32 ((x0.Ins.getD s2.toNat default).From.Tx),[.int .u32 ((x0.Ins.getD s2.toNat default).From.N)],[v3],[.int .u32 ((x0.Ins.getD s2.toNat default).Seq)]] 67,row 5 1 v4 (s1++((x0.Ins.getD s2.toNat default).From.Tx)).length (ccs1++([av .u8 32 ((x0.Ins.getD s2.toNat default).From.Tx)].flatten)),row 5 1 v1 r1.length cs1,cel g1 [[.int .u32 x0.Version],[u0_0],[u0_1],[.int .u32 x0.Time]] 63] w)) hI fun w hI=>?_
   refine gE 0 hA rfl (.inr hI) (fun _=>r_mv hA rfl) fun a hA=>?_
   refine gE 1 hA rfl (.inr hI) (fun _=>r_fd (k:=33) U67 rfl sz30 hA rfl rfl) fun a hA=>?_
   refine gT 2 hA rfl hI (fun w hI=>r_ld1 (j:=1) [av .u8 32 ((x0.Ins.getD s2.toNat default).From.Tx),[.int .u32 ((x0.Ins.getD s2.toNat default).From.N)]] [[.int .u32 ((x0.Ins.getD s2.toNat default).Seq)]] U30 rfl hI rfl hA rfl rfl) fun a hA=>?_
   obtain ⟨_,hsl5⟩:=Slc.sv hw1.2.2.1
   refine gE 3 hA rfl (.inr hI) (fun _=>r_slen U30 hsl5 hA rfl) fun a hA=>?_
   refine gE 4 hA rfl (.inr hI) (fun _=>r_conv U3 U70 hA rfl) fun a hA=>?_
   refine gE 6 hA rfl (.inr hI) (fun _=>r_fd (k:=33) U67 rfl sz30 hA rfl rfl) fun a hA=>?_
   refine gT 7 hA rfl hI (fun w hI=>r_ld1 (j:=1) [av .u8 32 ((x0.Ins.getD s2.toNat default).From.Tx),[.int .u32 ((x0.Ins.getD s2.toNat default).From.N)]] [[.int .u32 ((x0.Ins.getD s2.toNat default).Seq)]] U30 rfl hI rfl hA rfl rfl) fun a hA=>?_
   refine gF 5 rfl ?_
   obtain ⟨r4,hr4,H⟩:=bB H
   refine o_call (fun v w'=>∃(v0:Value)(c0:List Value),v=v0∧Els (RI .u8) 1 r4 c0∧Iv w [] μ μ [row 5 1 v0 r4.length c0] w') cf39 hA rfl ((by obtain ⟨μ3,hle3,hsv4,hI⟩:=hI.freezeRow 0 rfl;have hS3:Slc (RI .u8) 1 μ3 v5 r3:=⟨_,hE5,hsv4⟩;exact (compact_Put.c μ3 _ hI.agr r3 v5 hS3 (IntKind.u64.wrap (((x0.Ins.getD s2.toNat default).Key).length:Int)) (wrap_in _ _) r4 hr4).mono fun _ _ ⟨v,he,b0,b1,hv,f0,hi⟩=>⟨v,he,b0,b1,hv,f0,hi.low hle3⟩)) rfl fun v6 a w hz6 hA=>?_
   obtain ⟨_,cs6,rfl,hE6,hi4⟩:=hz6
   have hI:=hI.call hi4
   refine o_nil<|⟨(.inr (hI.sl [1,2,3,4,5] rfl)),?_⟩
   refine gF 8 rfl ?_
   obtain ⟨cs7,hE7,hsv5⟩:Slc (RI .u8) 1 μ v3 ((x0.Ins.getD s2.toNat default).Key):=id (hw1.2.2.1)
   obtain ⟨hb3,H⟩:=bG H
   have hE8:=hE6.app hE7
   refine o_appG (xs:=(r4:List Int)) (ys:=((x0.Ins.getD s2.toNat default).Key:List Int)) (M:=140737488355328) 0 te5 U30 hI rfl hA rfl rfl (src_sl hI.agr hsv5 hE7.len) hE7.len (hE7.ones (one_RI _)) hb3 rfl fun v7 a w hA hI=>?_
   refine o_nil<|⟨(.inr (hI.sl [1,2,3,4,5] rfl)),?_⟩
   refine gE 9 hA rfl (.inr (hI.sl [1,2,3,4,5] rfl)) (fun _=>r_as hA rfl) fun a hA=>?_
   refine gN<|hN10 _ _<|w_reg<|stm hA rfl rfl fun a hA =>
    stp hA (r_fd (k:=34) U67 rfl sz22 hA rfl rfl) rfl fun a hA =>
    stp hA (r_ld1 (j:=2) [av .u8 32 ((x0.Ins.getD s2.toNat default).From.Tx),[.int .u32 ((x0.Ins.getD s2.toNat default).From.N)],[v3]] [] U22 rfl hI rfl hA rfl rfl) rfl fun a hA=>?_
   obtain ⟨r5,hr5,H⟩:=bB H
   refine o_call (fun v w'=>∃(v0:Value)(c0:List Value),v=v0∧Els (RI .u8) 1 r5 c0∧Iv w [] μ μ [row 5 1 v0 r5.length c0] w') cf83 hA rfl ((by obtain ⟨μ4,hle4,hsv6,hI⟩:=hI.freezeRow 0 rfl;have hS4:Slc (RI .u8) 1 μ4 v7 (r4++((x0.Ins.getD s2.toNat default).Key)):=⟨_,hE8,hsv6⟩;exact (compact_Four.c μ4 _ hI.agr (r4++((x0.Ins.getD s2.toNat default).Key)) v7 hS4 ((x0.Ins.getD s2.toNat default).Seq) hw1.2.2.2 r5 hr5).mono fun _ _ ⟨v,he,b0,b1,hv,f0,hi⟩=>⟨v,he,b0,b1,hv,f0,hi.low hle4⟩)) rfl fun v8 a w hz7 hA=>?_
   obtain ⟨_,cs9,rfl,hE9,hi5⟩:=hz7
   have hI:=hI.call hi5
   refine sta hA rfl rfl fun a hA=>?_
   refine o_nil<|hN7 _ _<|w_reg<|stp hA (r_add hA rfl rfl) rfl fun a hA =>
    stm hA rfl rfl fun a hA=>?_
   refine o_nil<|⟨m1,lS _,r5,IntKind.i64.wrap (s2+1),v8,cs9,H,hE9,(wrap_in _ _),hA.sub ⟨rfl,rfl,rfl,rfl,rfl,rfl,trivial⟩,(hI.sl [0,5,6] rfl)⟩
  ·obtain ⟨hc1,H⟩:=dF H hc1
   refine w_exit rfl ?_
   have H:some s1=some z1:=H
   obtain rfl:=sI H
   have H:=Hk2
   cases sJ H
   exact ⟨vvs1,ccs1,ws1,hA.sub ⟨rfl,rfl,rfl,trivial⟩,hI⟩
 ·rintro a w ⟨vvc1,ccc1,wc1,hA,hI⟩
  have H:=Hk1
  refine w_seq fun _ hN11=>w_reg<|stm hA rfl rfl fun a hA =>
   stp hA (r_fd (k:=2) U63 rfl sz61 hA rfl rfl) rfl fun a hA =>
   stp hA (r_ld1 (j:=2) [[.int .u32 x0.Version],[u0_0]] [[.int .u32 x0.Time]] U61 rfl hI rfl hA rfl rfl) rfl fun a hA=>?_
  obtain ⟨_,hsl6⟩:=Slc.sv hx0.2.2.1
  refine stp hA (r_slen U61 hsl6 hA rfl) rfl fun a hA =>
   stp hA (r_conv U3 U70 hA rfl) rfl fun a hA=>?_
  obtain ⟨r6,hr6,H⟩:=bB H
  refine o_call (fun v w'=>∃(v0:Value)(c0:List Value),v=v0∧Els (RI .u8) 1 r6 c0∧Iv w [] μ μ [row 5 1 v0 r6.length c0] w') cf39 hA rfl ((by obtain ⟨μ5,hle5,hsv7,hI⟩:=hI.freezeRow 0 rfl;have hS5:Slc (RI .u8) 1 μ5 vvc1 c1:=⟨_,wc1,hsv7⟩;exact (compact_Put.c μ5 _ hI.agr c1 vvc1 hS5 (IntKind.u64.wrap (x0.Outs.length:Int)) (wrap_in _ _) r6 hr6).mono fun _ _ ⟨v,he,b0,b1,hv,f0,hi⟩=>⟨v,he,b0,b1,hv,f0,hi.low hle5⟩)) rfl fun v9 a w hz8 hA=>?_
  obtain ⟨_,cs10,rfl,hE10,hi6⟩:=hz8
  have hI:=hI.call hi6
  refine sta hA rfl rfl fun a hA=>?_
  refine o_nil<|hN11 _ _ ?_
  obtain ⟨c2,hz9,Hk3⟩:=bB H
  refine w_cut (fun a w=>∃(vvc2:Value)(ccc2:List Value),Els (RI .u8) 1 c2 ccc2∧Fr a 72 [(1,pt g1 0),(2,Sn),(3,vvc2)]∧Iv w0 [] μ μ [row 5 1 vvc2 c2.length ccc2,row 5 1 vvc1 c1.length ccc1,row 5 1 v1 r1.length cs1,cel g1 [[.int .u32 x0.Version],[u0_0],[u0_1],[.int .u32 x0.Time]] 63] w) ?_ ?_
  ·have H:=bI hz9
   refine w_seq fun _ hN12=>w_reg<|stp hA (r_fd (k:=2) U63 rfl sz61 hA rfl rfl) rfl fun a hA =>
    stp hA (r_ld1 (j:=3) [[.int .u32 x0.Version],[u0_0]] [[.int .u32 x0.Time]] U61 rfl hI rfl hA rfl rfl) rfl fun a hA=>?_
   obtain ⟨_,hsl7⟩:=Slc.sv hx0.2.2.1
   refine stp hA (r_slen U61 hsl7 hA rfl) rfl fun a hA =>
    stm hA rfl rfl fun a hA=>?_
   refine o_nil<|hN12 _ _<|w_block ?_
   obtain ⟨z2,hz10,Hk4⟩:=bind_some H
   obtain ⟨n2,hn2⟩:=loopO_some hz10
   refine w_loop (fun n a w=>∃(s3:List Int)(s4:Int)(vvs3:Value)(ccs3:List Value),loopN (tx_Bytes.s1 x0) n (s3,s4)=some z2∧Els (RI .u8) 1 s3 ccs3∧InR .i64 s4∧Fr a 72 [(1,pt g1 0),(2,Sn),(3,vvs3),(54,u0_1),(55,.int .i64 (x0.Outs.length:Int)),(56,.int .i64 s4)]∧Iv w0 [] μ μ [row 5 1 vvs3 s3.length ccs3,row 5 1 vvc1 c1.length ccc1,row 5 1 v1 r1.length cs1,cel g1 [[.int .u32 x0.Version],[u0_0],[u0_1],[.int .u32 x0.Time]] 63] w) n2 ⟨r6,0,v9,cs10,hn2,hE10,(in_lit .i64 0 rfl),hA.sub ⟨rfl,rfl,rfl,rfl,rfl,rfl,trivial⟩,hI⟩ ?_
   clear hA hI
   rintro n a w ⟨s3,s4,vvs3,ccs3,hn2,ws3,ws4,hA,hI⟩
   obtain ⟨m2,rfl,H⟩:=loopN_bind hn2
   clear hn2
   refine w_seq fun _ hN13=>w_reg<|stp hA (r_lss hA rfl rfl) rfl fun a hA=>?_
   refine o_nil<|hN13 _ _<|w_seq fun _ hN14=>w_cond hA rfl (fun hc2=>?_) (fun hc2=>?_)
   ·obtain ⟨hc2,H⟩:=dT H hc2
    refine w_skip<|hN14 _ _<|w_seq fun _ hN15=>w_block<|w_seq fun _ hN16=>w_reg ?_
    obtain ⟨hb4,H⟩:=bG H
    obtain ⟨_,he2,_,hat2⟩:=Slc.elem hx0.2.2.1 (getD_some default hb4.1 hb4.2)
    obtain ⟨rfl,hw2⟩:=he2
    obtain ⟨_,hsl8⟩:=Slc.sv hx0.2.2.1
    refine stp hA (r_six U61 sz106 hsl8 hA rfl rfl hb4.1 hb4.2) rfl fun a hA =>
     stp hA (r_ldmA [] [[.int .u64 ((x0.Outs.getD s4.toNat default).Value)],av .u8 32 ((x0.Outs.getD s4.toNat default).Lock)] [] U106 rfl sz106 rfl hI.agr hat2 hA rfl rfl) rfl fun a hA =>
     o_new [[.int .u64 0],av .u8 32 Z32] zr106 hI hA rfl fun g3 a w hA hI hg3 =>
     o_st (j:=0) [] [[.int .u64 0],av .u8 32 Z32] [[.int .u64 ((x0.Outs.getD s4.toNat default).Value)],av .u8 32 ((x0.Outs.getD s4.toNat default).Lock)] [] sz106 rfl rfl (fO rfl (fl_cons (one_av _ _ _) fl_nil)) hI rfl hA rfl rfl rfl rfl fun w hI=>?_
    refine o_nil<|hN16 _ _ ?_
    refine w_anyS [] mo (fun w (h:Iv w0 [] μ μ [cel g3 [[.int .u64 ((x0.Outs.getD s4.toNat default).Value)],av .u8 32 ((x0.Outs.getD s4.toNat default).Lock)] 106,row 5 1 vvs3 s3.length ccs3,row 5 1 vvc1 c1.length ccc1,row 5 1 v1 r1.length cs1,cel g1 [[.int .u32 x0.Version],[u0_0],[u0_1],[.int .u32 x0.Time]] 63] w)=>(h.sl [0,1,2,3,4] rfl:Iv w0 [] μ μ [cel g3 [[.int .u64 ((x0.Outs.getD s4.toNat default).Value)],av .u8 32 ((x0.Outs.getD s4.toNat default).Lock)] 106,row 5 1 vvs3 s3.length ccs3,row 5 1 vvc1 c1.length ccc1,row 5 1 v1 r1.length cs1,cel g1 [[.int .u32 x0.Version],[u0_0],[u0_1],[.int .u32 x0.Time]] 63] w)) hI fun w hI=>?_
    refine gE 0 hA rfl (.inr hI) (fun _=>r_mv hA rfl) fun a hA=>?_
    refine gE 1 hA rfl (.inr hI) (fun _=>r_fd (k:=0) U106 rfl sz70 hA rfl rfl) fun a hA=>?_
    refine gT 2 hA rfl hI (fun w hI=>r_ld1 (j:=0) [] [av .u8 32 ((x0.Outs.getD s4.toNat default).Lock)] U70 rfl hI rfl hA rfl rfl) fun a hA=>?_
    refine gE 4 hA rfl (.inr hI) (fun _=>r_fd (k:=1) U106 rfl sz24 hA rfl rfl) fun a hA=>?_
    refine gE 5 hA rfl (.inr hI) (fun _=>r_slv (i:=0) (j:=32) U24 sz5 hA rfl rfl rfl (by decide) (by decide) (by decide) (by decide) rfl) fun a hA=>?_
    refine gF 3 rfl ?_
    obtain ⟨r7,hr7,H⟩:=bB H
    refine o_call (fun v w'=>∃(v0:Value)(c0:List Value),v=v0∧Els (RI .u8) 1 r7 c0∧Iv w [] μ μ [row 5 1 v0 r7.length c0] w') cf84 hA rfl ((by obtain ⟨μ6,hle6,hsv8,hI⟩:=hI.freezeRow 1 rfl;have hS6:Slc (RI .u8) 1 μ6 vvs3 s3:=⟨_,ws3,hsv8⟩;exact (compact_Eight.c μ6 _ hI.agr s3 vvs3 hS6 ((x0.Outs.getD s4.toNat default).Value) hw2.1 r7 hr7).mono fun _ _ ⟨v,he,b0,b1,hv,f0,hi⟩=>⟨v,he,b0,b1,hv,f0,hi.low hle6⟩)) rfl fun v10 a w hz11 hA=>?_
    obtain ⟨_,cs11,rfl,hE11,hi7⟩:=hz11
    have hI:=hI.call hi7
    refine o_nil<|⟨(.inr (hI.sl [1,2,3,4,5] rfl)),?_⟩
    refine gF 6 rfl ?_
    have hE12:=els_av hw2.2
    obtain ⟨hb5,H⟩:=bG H
    have hE13:=hE11.app hE12
    refine o_appG (xs:=(r7:List Int)) (ys:=((x0.Outs.getD s4.toNat default).Lock:List Int)) (M:=140737488355328) 0 te5 U30 hI rfl hA rfl rfl (by simpa using src_cel [[.int .u64 ((x0.Outs.getD s4.toNat default).Value)]] [] hI (j:=1) rfl hw2.2 rfl) hE12.len (hE12.ones (one_RI _)) hb5 rfl fun v11 a w hA hI=>?_
    refine o_nil<|⟨(.inr (hI.sl [1,2,3,4,5] rfl)),?_⟩
    refine gE 7 hA rfl (.inr (hI.sl [1,2,3,4,5] rfl)) (fun _=>r_as hA rfl) fun a hA=>?_
    refine gN<|hN15 _ _<|w_reg<|stp hA (r_add hA rfl rfl) rfl fun a hA =>
     stm hA rfl rfl fun a hA=>?_
    refine o_nil<|⟨m2,lS _,r7++((x0.Outs.getD s4.toNat default).Lock),IntKind.i64.wrap (s4+1),v11,cs11++([av .u8 32 ((x0.Outs.getD s4.toNat default).Lock)].flatten),H,hE13,(wrap_in _ _),hA.sub ⟨rfl,rfl,rfl,rfl,rfl,rfl,trivial⟩,(hI.sl [0,3,4,5] rfl)⟩
   ·obtain ⟨hc2,H⟩:=dF H hc2
    refine w_exit rfl ?_
    have H:some s3=some z2:=H
    obtain rfl:=sI H
    have H:=Hk4
    cases sJ H
    exact ⟨vvs3,ccs3,ws3,hA.sub ⟨rfl,rfl,rfl,trivial⟩,hI⟩
  ·rintro a w ⟨vvc2,ccc2,wc2,hA,hI⟩
   have H:=Hk3
   refine w_seq fun _ hN17=>w_reg<|stm hA rfl rfl fun a hA =>
    stp hA (r_fd (k:=3) U63 rfl sz22 hA rfl rfl) rfl fun a hA =>
    stp hA (r_ld1 (j:=3) [[.int .u32 x0.Version],[u0_0],[u0_1]] [] U22 rfl hI rfl hA rfl rfl) rfl fun a hA=>?_
   obtain ⟨r8,hr8,H⟩:=bB H
   refine o_call (fun v w'=>∃(v0:Value)(c0:List Value),v=v0∧Els (RI .u8) 1 r8 c0∧Iv w [] μ μ [row 5 1 v0 r8.length c0] w') cf83 hA rfl ((by obtain ⟨μ7,hle7,hsv10,hI⟩:=hI.freezeRow 0 rfl;have hS7:Slc (RI .u8) 1 μ7 vvc2 c2:=⟨_,wc2,hsv10⟩;exact (compact_Four.c μ7 _ hI.agr c2 vvc2 hS7 x0.Time hx0.2.2.2 r8 hr8).mono fun _ _ ⟨v,he,b0,b1,hv,f0,hi⟩=>⟨v,he,b0,b1,hv,f0,hi.low hle7⟩)) rfl fun v12 a w hz12 hA=>?_
   obtain ⟨_,cs14,rfl,hE14,hi8⟩:=hz12
   have hI:=hI.call hi8
   refine sta hA rfl rfl fun a hA=>?_
   refine o_nil<|hN17 _ _<|w_ret ?_
   obtain rfl:=sJ H
   exact ret1 hA Tryz.results41 rfl ⟨_,rfl,v12,cs14,rfl,hE14,((hI.sl [0] rfl).less (Store.le.refl _) hI.le)⟩
theorem tx_ID.c (μ:Store)(w0:World)(hμ:Agr μ w0)(x0:Tx)(u0_0 u0_1:Value)(hx0:TxW μ x0 u0_0 u0_1)(r:List Int)(H:tx_ID.f x0=some r) :
  Calls Tryz.prog 47 [.agg [[.int .u32 x0.Version],[u0_0],[u0_1],[.int .u32 x0.Time]].flatten.toArray].toArray w0 (fun e w'=>∃ v,e=.returned v∧v=.agg [av .u8 32 r].flatten.toArray∧Arr .u8 32 r∧Iv w0 [] μ μ [] w'):=by
 refine enter Tryz.func47 rfl Tryz.ntmps47 rfl fun a hA=>?_
 have hI:=Iv.start hμ
 have H:=bI H
 refine w_seq fun _ hN1=>w_reg<|o_box [[.int .u32 x0.Version],[u0_0],[u0_1],[.int .u32 x0.Time]] hI hA rfl rfl rfl fun g1 a w hA hI hg1 =>
  o_new [av .u8 32 Z32] zr24 hI hA rfl fun g2 a w hA hI hg2=>?_
 refine o_nil<|hN1 _ _<|w_seq fun _ hN2=>w_reg<|stp hA (r_ldA (j:=1) [] [[.int .u32 x0.Version],[u0_0],[u0_1],[.int .u32 x0.Time]] [] U63 rfl sz63 rfl hI rfl hA rfl rfl) rfl fun a hA=>?_
 obtain ⟨r1,hr1,H⟩:=bB H
 refine o_call _ cf41 hA rfl (tx_Bytes.c μ _ hI.agr x0 u0_0 u0_1 ⟨hx0.1,hx0.2.1,hx0.2.2.1,hx0.2.2.2⟩ r1 hr1) rfl fun v1 a w hz1 hA=>?_
 obtain ⟨_,cs1,rfl,hE1,hi1⟩:=hz1
 have hI:=hI.call hi1
 obtain ⟨r2,hr2,H⟩:=bB H
 refine o_callp (u:=.agg [av .u8 32 r2].flatten.toArray) cf85 hA rfl hI ((by obtain ⟨μ1,hle1,hsv1,hI⟩:=hI.freezeRow 0 rfl;have hS1:Slc (RI .u8) 1 μ1 v1 r1:=⟨_,hE1,hsv1⟩;exact low_plain hle1 (digest_Twice.c μ1 _ hI.agr r1 v1 hS1 r2 hr2))) rfl fun a w hz2 hI hA =>
  o_st (j:=1) [] [av .u8 32 Z32] [av .u8 32 r2] [] sz24 rfl rfl (fl_cons (one_av _ _ _) fl_nil) hI rfl hA rfl rfl rfl rfl fun w hI=>?_
 refine o_nil<|hN2 _ _<|w_ret ?_
 obtain rfl:=sJ H
 exact retc U24 rfl sz24 rfl hI (j:=1) rfl hA Tryz.results47 rfl ⟨_,rfl,rfl,hz2,hI.forget0⟩
theorem tx_Size.c (μ:Store)(w0:World)(hμ:Agr μ w0)(x0:Tx)(u0_0 u0_1:Value)(hx0:TxW μ x0 u0_0 u0_1)(r:Int)(H:tx_Size.f x0=some r) :
  Calls Tryz.prog 112 [.agg [[.int .u32 x0.Version],[u0_0],[u0_1],[.int .u32 x0.Time]].flatten.toArray].toArray w0 (fun e w'=>∃ v,e=.returned v∧v=.int .i64 r∧InR .i64 r∧Iv w0 [] μ μ [] w'):=by
 refine enter Tryz.func112 rfl Tryz.ntmps112 rfl fun a hA=>?_
 have hI:=Iv.start hμ
 have H:=bI H
 refine w_seq fun _ hN1=>w_reg<|o_box [[.int .u32 x0.Version],[u0_0],[u0_1],[.int .u32 x0.Time]] hI hA rfl rfl rfl fun g1 a w hA hI hg1 =>
  sta hA rfl rfl fun a hA=>?_
 refine o_nil<|hN1 _ _<|w_seq fun _ hN2=>w_reg<|stp hA (r_ldA (j:=0) [] [[.int .u32 x0.Version],[u0_0],[u0_1],[.int .u32 x0.Time]] [] U63 rfl sz63 rfl hI rfl hA rfl rfl) rfl fun a hA=>?_
 obtain ⟨r1,hr1,H⟩:=bB H
 refine o_call _ cf41 hA rfl (tx_Bytes.c μ _ hI.agr x0 u0_0 u0_1 ⟨hx0.1,hx0.2.1,hx0.2.2.1,hx0.2.2.2⟩ r1 hr1) rfl fun v1 a w hz1 hA=>?_
 obtain ⟨_,cs1,rfl,hE1,hi1⟩:=hz1
 have hI:=hI.call hi1
 have hlen1:=Iv.row_in hI (j:=0) rfl
 refine stp hA (r_rlen (xs:=0) U30 hI (j:=0) rfl hA rfl) rfl fun a hA =>
  sta hA rfl rfl fun a hA=>?_
 refine o_nil<|hN2 _ _<|w_ret ?_
 obtain rfl:=sJ H
 exact ret1 hA Tryz.results112 rfl ⟨_,rfl,rfl,hlen1,hI.forget0⟩
theorem tx_Check_1.c (μ:Store)(w0:World)(hμ:Agr μ w0)(x0:In)(u0_0:Value)(hx0:InW μ x0 u0_0)(r:Bool)(H:tx_Check_1.f x0=some r) :
  Calls Tryz.prog 114 [.agg [av .u8 32 x0.From.Tx,[.int .u32 x0.From.N],[u0_0],[.int .u32 x0.Seq]].flatten.toArray].toArray w0 (fun e w'=>∃ v,e=.returned v∧v=.bool r∧True∧Iv w0 [] μ μ [] w'):=by
 refine enter Tryz.func114 rfl Tryz.ntmps114 rfl fun a hA=>?_
 have hI:=Iv.start hμ
 have H:=bI H
 refine w_seq fun _ hN1=>w_reg<|o_box [av .u8 32 x0.From.Tx,[.int .u32 x0.From.N],[u0_0],[.int .u32 x0.Seq]] hI hA rfl rfl rfl fun g1 a w hA hI hg1 =>
  sta hA rfl rfl fun a hA=>?_
 refine o_nil<|hN1 _ _<|w_seq fun _ hN2=>w_reg<|stp hA (r_fd (k:=33) U67 rfl sz30 hA rfl rfl) rfl fun a hA =>
  stp hA (r_ld1 (j:=0) [av .u8 32 x0.From.Tx,[.int .u32 x0.From.N]] [[.int .u32 x0.Seq]] U30 rfl hI rfl hA rfl rfl) rfl fun a hA=>?_
 obtain ⟨_,hsl1⟩:=Slc.sv hx0.2.2.1
 refine stp hA (r_slen U30 hsl1 hA rfl) rfl fun a hA =>
  stp hA (r_gtr hA rfl rfl) rfl fun a hA =>
  sta hA rfl rfl fun a hA=>?_
 refine o_nil<|hN2 _ _<|w_ret ?_
 obtain rfl:=sJ H
 exact ret1 hA Tryz.results114 rfl ⟨_,rfl,rfl,trivial,hI.forget0⟩
theorem tx_values.c (μ:Store)(w0:World)(hμ:Agr μ w0)(x0:Tx)(u0_0 u0_1:Value)(hx0:TxW μ x0 u0_0 u0_1)(r:List Int)(H:tx_values.f x0=some r) :
  Calls Tryz.prog 127 [.agg [[.int .u32 x0.Version],[u0_0],[u0_1],[.int .u32 x0.Time]].flatten.toArray].toArray w0 (fun e w'=>∃ v,e=.returned v∧∃(v0:Value)(c0:List Value),v=v0∧Els (RI .u64) 1 r c0∧Iv w0 [] μ μ [row 70 1 v0 r.length c0] w'):=by
 refine enter Tryz.func127 rfl Tryz.ntmps127 rfl fun a hA=>?_
 have hI:=Iv.start hμ
 have H:=bI H
 refine w_seq fun _ hN1=>w_reg<|o_box [[.int .u32 x0.Version],[u0_0],[u0_1],[.int .u32 x0.Time]] hI hA rfl rfl rfl fun g1 a w hA hI hg1 =>
  sta hA rfl rfl fun a hA=>?_
 refine o_nil<|hN1 _ _<|w_seq fun _ hN2=>w_reg<|sta hA rfl rfl fun a hA=>?_
 refine o_nil<|hN2 _ _ ?_
 obtain ⟨c1,hz1,Hk1⟩:=bB H
 refine w_cut (fun a w=>∃(vvc1:Value)(ccc1:List Value),Els (RI .u64) 1 c1 ccc1∧Fr a 20 [(2,Sn),(3,vvc1)]∧Iv w0 [] μ μ [row 70 1 vvc1 c1.length ccc1,cel g1 [[.int .u32 x0.Version],[u0_0],[u0_1],[.int .u32 x0.Time]] 63] w) ?_ ?_
 ·have H:=bI hz1
  refine w_seq fun _ hN3=>w_reg<|stp hA (r_fd (k:=2) U63 rfl sz61 hA rfl rfl) rfl fun a hA =>
   stp hA (r_ld1 (j:=0) [[.int .u32 x0.Version],[u0_0]] [[.int .u32 x0.Time]] U61 rfl hI rfl hA rfl rfl) rfl fun a hA=>?_
  obtain ⟨_,hsl1⟩:=Slc.sv hx0.2.2.1
  refine stp hA (r_slen U61 hsl1 hA rfl) rfl fun a hA =>
   stm hA rfl rfl fun a hA=>?_
  refine o_nil<|hN3 _ _<|w_block ?_
  have hI:=hI.nilRow 70 1
  obtain ⟨z1,hz2,Hk2⟩:=bind_some H
  obtain ⟨n1,hn1⟩:=loopO_some hz2
  refine w_loop (fun n a w=>∃(s1:List Int)(s2:Int)(vvs1:Value)(ccs1:List Value),loopN (tx_values.s0 x0) n (s1,s2)=some z1∧Els (RI .u64) 1 s1 ccs1∧InR .i64 s2∧Fr a 20 [(2,Sn),(3,vvs1),(7,u0_1),(8,.int .i64 (x0.Outs.length:Int)),(9,.int .i64 s2)]∧Iv w0 [] μ μ [row 70 1 vvs1 s1.length ccs1,cel g1 [[.int .u32 x0.Version],[u0_0],[u0_1],[.int .u32 x0.Time]] 63] w) n1 ⟨[],0,Sn,[],hn1,(Els.nil (RE:=(RI .u64)) (sz:=1)),(in_lit .i64 0 rfl),hA.sub ⟨rfl,rfl,rfl,rfl,rfl,trivial⟩,hI⟩ ?_
  clear hA hI
  rintro n a w ⟨s1,s2,vvs1,ccs1,hn1,ws1,ws2,hA,hI⟩
  obtain ⟨m1,rfl,H⟩:=loopN_bind hn1
  clear hn1
  refine w_seq fun _ hN4=>w_reg<|stp hA (r_lss hA rfl rfl) rfl fun a hA=>?_
  refine o_nil<|hN4 _ _<|w_seq fun _ hN5=>w_cond hA rfl (fun hc1=>?_) (fun hc1=>?_)
  ·obtain ⟨hc1,H⟩:=dT H hc1
   refine w_skip<|hN5 _ _<|w_seq fun _ hN6=>w_block<|w_seq fun _ hN7=>w_reg ?_
   obtain ⟨hb1,H⟩:=bG H
   obtain ⟨_,he1,_,hat1⟩:=Slc.elem hx0.2.2.1 (getD_some default hb1.1 hb1.2)
   obtain ⟨rfl,hw1⟩:=he1
   obtain ⟨_,hsl2⟩:=Slc.sv hx0.2.2.1
   refine stp hA (r_six U61 sz106 hsl2 hA rfl rfl hb1.1 hb1.2) rfl fun a hA =>
    stp hA (r_ldmA [] [[.int .u64 ((x0.Outs.getD s2.toNat default).Value)],av .u8 32 ((x0.Outs.getD s2.toNat default).Lock)] [] U106 rfl sz106 rfl hI.agr hat1 hA rfl rfl) rfl fun a hA =>
    o_new [[.int .u64 0],av .u8 32 Z32] zr106 hI hA rfl fun g2 a w hA hI hg2 =>
    o_st (j:=0) [] [[.int .u64 0],av .u8 32 Z32] [[.int .u64 ((x0.Outs.getD s2.toNat default).Value)],av .u8 32 ((x0.Outs.getD s2.toNat default).Lock)] [] sz106 rfl rfl (fO rfl (fl_cons (one_av _ _ _) fl_nil)) hI rfl hA rfl rfl rfl rfl fun w hI=>?_
   refine o_nil<|hN7 _ _<|w_reg<|stm hA rfl rfl fun a hA =>
    stp hA (r_fd (k:=0) U106 rfl sz70 hA rfl rfl) rfl fun a hA =>
    stp hA (r_ld1 (j:=0) [] [av .u8 32 ((x0.Outs.getD s2.toNat default).Lock)] U70 rfl hI rfl hA rfl rfl) rfl fun a hA=>?_
   have hE1:Els (RI .u64) 1 ([(x0.Outs.getD s2.toNat default).Value]:List Int) _:=(Els.cons (c:=[[.int .u64 ((x0.Outs.getD s2.toNat default).Value)]].flatten) ⟨rfl,hw1.1⟩ rfl Els.nil)
   refine o_bsl ([[.int .u64 ((x0.Outs.getD s2.toNat default).Value)]].flatten++([])) te70 zr70 U129 hI hA rfl rfl rfl rfl (by kernel_rfl) rfl fun g3 a w hA hI=>?_
   generalize hcs:([[.int .u64 ((x0.Outs.getD s2.toNat default).Value)]].flatten++([]):List Value)=cs1 at hE1 hI
   clear hcs
   obtain ⟨hb2,H⟩:=bG H
   have hE3:=ws1.app hE1
   refine o_appG (xs:=(s1:List Int)) (ys:=(([(x0.Outs.getD s2.toNat default).Value]:List Int):List Int)) (M:=17592186044416) 2 te70 U129 hI rfl hA rfl rfl (src_row hI (j:=0) rfl) hE1.len (hE1.ones (one_RI _)) hb2 rfl fun v1 a w hA hI =>
    sta hA rfl rfl fun a hA=>?_
   refine o_nil<|hN6 _ _<|w_reg<|stp hA (r_add hA rfl rfl) rfl fun a hA =>
    stm hA rfl rfl fun a hA=>?_
   refine o_nil<|⟨m1,lS _,s1++([(x0.Outs.getD s2.toNat default).Value]:List Int),IntKind.i64.wrap (s2+1),v1,ccs1++cs1,H,hE3,(wrap_in _ _),hA.sub ⟨rfl,rfl,rfl,rfl,rfl,trivial⟩,(hI.sl [2,3] rfl)⟩
  ·obtain ⟨hc1,H⟩:=dF H hc1
   refine w_exit rfl ?_
   have H:some s1=some z1:=H
   obtain rfl:=sI H
   have H:=Hk2
   cases sJ H
   exact ⟨vvs1,ccs1,ws1,hA.sub ⟨rfl,rfl,trivial⟩,hI⟩
 ·rintro a w ⟨vvc1,ccc1,wc1,hA,hI⟩
  have H:=Hk1
  refine w_seq fun _ hN8=>w_reg<|stm hA rfl rfl fun a hA =>
   sta hA rfl rfl fun a hA=>?_
  refine o_nil<|hN8 _ _<|w_ret ?_
  obtain rfl:=sJ H
  exact ret1 hA Tryz.results127 rfl ⟨_,rfl,vvc1,ccc1,rfl,wc1,((hI.sl [0] rfl).less (Store.le.refl _) hI.le)⟩
theorem tx_Sum.c (μ:Store)(w0:World)(hμ:Agr μ w0)(x0:Tx)(u0_0 u0_1:Value)(hx0:TxW μ x0 u0_0 u0_1)(r:Int×Bool)(H:tx_Sum.f x0=some r) :
  Calls Tryz.prog 115 [.agg [[.int .u32 x0.Version],[u0_0],[u0_1],[.int .u32 x0.Time]].flatten.toArray].toArray w0 (fun e w'=>∃ v,e=.returned v∧v=.tuple #[.int .u64 r.1,.bool r.2]∧(InR .u64 r.1∧True)∧Iv w0 [] μ μ [] w'):=by
 refine enter Tryz.func115 rfl Tryz.ntmps115 rfl fun a hA=>?_
 have hI:=Iv.start hμ
 have H:=bI H
 refine w_seq fun _ hN1=>w_reg<|o_box [[.int .u32 x0.Version],[u0_0],[u0_1],[.int .u32 x0.Time]] hI hA rfl rfl rfl fun g1 a w hA hI hg1 =>
  sta hA rfl rfl fun a hA =>
  sta hA rfl rfl fun a hA=>?_
 refine o_nil<|hN1 _ _<|w_seq fun _ hN2=>w_reg<|stp hA (r_ldA (j:=0) [] [[.int .u32 x0.Version],[u0_0],[u0_1],[.int .u32 x0.Time]] [] U63 rfl sz63 rfl hI rfl hA rfl rfl) rfl fun a hA=>?_
 obtain ⟨r1,hr1,H⟩:=bB H
 refine o_call _ cf127 hA rfl (tx_values.c μ _ hI.agr x0 u0_0 u0_1 ⟨hx0.1,hx0.2.1,hx0.2.2.1,hx0.2.2.2⟩ r1 hr1) rfl fun v1 a w hz1 hA=>?_
 obtain ⟨_,cs1,rfl,hE1,hi1⟩:=hz1
 have hI:=hI.call hi1
 obtain ⟨r2,hr2,H⟩:=bB H
 refine o_callp (u:=.tuple #[.int .u64 r2.1,.bool r2.2]) cf126 hA rfl hI ((by obtain ⟨μ1,hle1,hsv1,hI⟩:=hI.freezeRow 0 rfl;have hS1:Slc (RI .u64) 1 μ1 v1 r1:=⟨_,hE1,hsv1⟩;exact low_plain hle1 (compact_Sum.c μ1 _ hI.agr r1 v1 hS1 r2 hr2))) rfl fun a w hz2 hI hA =>
  stp hA (r_extr (vs:=[.int .u64 r2.1,.bool r2.2]) hA rfl rfl) rfl fun a hA =>
  stp hA (r_extr (vs:=[.int .u64 r2.1,.bool r2.2]) hA rfl rfl) rfl fun a hA =>
  sta hA rfl rfl fun a hA =>
  sta hA rfl rfl fun a hA=>?_
 refine o_nil<|hN2 _ _<|w_ret ?_
 obtain rfl:=sJ H
 exact ret2 hA Tryz.results115 rfl rfl ⟨_,rfl,rfl,⟨hz2.1,trivial⟩,hI.forget0⟩
theorem tx_twice.c (μ:Store)(w0:World)(hμ:Agr μ w0)(x0:Tx)(u0_0 u0_1:Value)(hx0:TxW μ x0 u0_0 u0_1)(r:Bool)(H:tx_twice.f x0=some r) :
  Calls Tryz.prog 116 [.agg [[.int .u32 x0.Version],[u0_0],[u0_1],[.int .u32 x0.Time]].flatten.toArray].toArray w0 (fun e w'=>∃ v,e=.returned v∧v=.bool r∧True∧Iv w0 [] μ μ [] w'):=by
 refine enter Tryz.func116 rfl Tryz.ntmps116 rfl fun a hA=>?_
 have hI:=Iv.start hμ
 have H:=bI H
 refine w_seq fun _ hN1=>w_reg<|o_box [[.int .u32 x0.Version],[u0_0],[u0_1],[.int .u32 x0.Time]] hI hA rfl rfl rfl fun g1 a w hA hI hg1 =>
  sta hA rfl rfl fun a hA=>?_
 refine o_nil<|hN1 _ _<|w_seq fun _ hN2=>w_reg<|o_mkmap kv126 vv126 hI hA rfl fun g2 a w hI hA =>
  sta hA rfl rfl fun a hA=>?_
 refine o_nil<|hN2 _ _<|w_seq fun _ hN3=>w_seq fun _ hN4=>w_reg<|stp hA (r_fd (k:=1) U63 rfl sz60 hA rfl rfl) rfl fun a hA =>
  stp hA (r_ld1 (j:=1) [[.int .u32 x0.Version]] [[u0_1],[.int .u32 x0.Time]] U60 rfl hI rfl hA rfl rfl) rfl fun a hA=>?_
 obtain ⟨_,hsl1⟩:=Slc.sv hx0.2.1
 refine stp hA (r_slen U60 hsl1 hA rfl) rfl fun a hA =>
  stm hA rfl rfl fun a hA=>?_
 refine o_nil<|hN4 _ _<|w_block ?_
 obtain ⟨z1,hz1,Hk1⟩:=bind_some H
 obtain ⟨n1,hn1⟩:=loopO_some hz1
 refine w_loop (fun n a w=>∃(s1:Int)(s2:List (Point×Bool)),loopN (tx_twice.s0 x0) n (s1,s2)=some z1∧InR .i64 s1∧mw126 s2∧Fr a 22 [(2,.bool false),(3,.map (some g2)),(8,u0_0),(9,.int .i64 (x0.Ins.length:Int)),(10,.int .i64 s1)]∧Iv w0 [] μ μ [mpI g2 (ent kv126 vv126 s2),cel g1 [[.int .u32 x0.Version],[u0_0],[u0_1],[.int .u32 x0.Time]] 63] w) n1 ⟨0,([]:List (Point×Bool)),hn1,(in_lit .i64 0 rfl),mw_nil,hA.sub ⟨rfl,rfl,rfl,rfl,rfl,trivial⟩,hI⟩ ?_
 clear hA hI
 rintro n a w ⟨s1,s2,hn1,ws1,ws2,hA,hI⟩
 obtain ⟨m1,rfl,H⟩:=loopN_bind hn1
 clear hn1
 refine w_seq fun _ hN5=>w_reg<|stp hA (r_lss hA rfl rfl) rfl fun a hA=>?_
 refine o_nil<|hN5 _ _<|w_seq fun _ hN6=>w_cond hA rfl (fun hc1=>?_) (fun hc1=>?_)
 ·obtain ⟨hc1,H⟩:=dT H hc1
  refine w_skip<|hN6 _ _<|w_seq fun _ hN7=>w_block<|w_seq fun _ hN8=>w_reg ?_
  obtain ⟨hb1,H⟩:=bG H
  obtain ⟨_,he1,_,hat1⟩:=Slc.elem hx0.2.1 (getD_some default hb1.1 hb1.2)
  obtain ⟨v1,rfl,hw1⟩:=he1
  obtain ⟨_,hsl2⟩:=Slc.sv hx0.2.1
  refine stp hA (r_six U60 sz67 hsl2 hA rfl rfl hb1.1 hb1.2) rfl fun a hA =>
   stp hA (r_ldmA [] [av .u8 32 ((x0.Ins.getD s1.toNat default).From.Tx),[.int .u32 ((x0.Ins.getD s1.toNat default).From.N)],[v1],[.int .u32 ((x0.Ins.getD s1.toNat default).Seq)]] [] U67 rfl sz67 rfl hI.agr hat1 hA rfl rfl) rfl fun a hA =>
   o_new [av .u8 32 Z32,[.int .u32 0],[Sn],[.int .u32 0]] zr67 hI hA rfl fun g3 a w hA hI hg3=>?_
  obtain ⟨_,hsl3⟩:=Slc.sv hw1.2.2.1
  refine o_st (j:=0) [] [av .u8 32 Z32,[.int .u32 0],[Sn],[.int .u32 0]] [av .u8 32 ((x0.Ins.getD s1.toNat default).From.Tx),[.int .u32 ((x0.Ins.getD s1.toNat default).From.N)],[v1],[.int .u32 ((x0.Ins.getD s1.toNat default).Seq)]] [] sz67 rfl rfl (fl_cons (one_av _ _ _) (fO rfl (fl_cons (one_one (one_sl hsl3)) (fO rfl fl_nil)))) hI rfl hA rfl rfl rfl rfl fun w hI=>?_
  refine o_nil<|hN8 _ _<|w_seq fun _ hN9=>w_seq fun _ hN10=>w_reg<|stm hA rfl rfl fun a hA =>
   stp hA (r_fd (k:=0) U67 rfl sz65 hA rfl rfl) rfl fun a hA =>
   stp hA (r_ldA (j:=0) [] [av .u8 32 ((x0.Ins.getD s1.toNat default).From.Tx),[.int .u32 ((x0.Ins.getD s1.toNat default).From.N)]] [[v1],[.int .u32 ((x0.Ins.getD s1.toNat default).Seq)]] U65 rfl sz65 rfl hI rfl hA rfl rfl) rfl fun a hA =>
   stp hA (r_look (j:=1) kn126 U126 mz126 ws2 ⟨hw1.1,hw1.2.1⟩ hI rfl hA rfl rfl) rfl fun a hA=>?_
  refine o_nil<|hN10 _ _<|w_cond hA rfl (fun hc2=>?_) (fun hc2=>?_)
  ·have H:=bT H hc2
   refine w_seq fun _ hN11=>w_reg<|sta hA rfl rfl fun a hA=>?_
   refine o_nil<|hN11 _ _<|w_ret ?_
   have H:some true=some z1:=H
   obtain rfl:=sI H
   have H:=Hk1
   obtain rfl:=sJ H
   exact ret1 hA Tryz.results116 rfl ⟨_,rfl,rfl,trivial,hI.forget0⟩
  ·have hc2:=ft hc2;have H:=bF H hc2
   refine w_skip<|hN9 _ _<|w_reg<|stm hA rfl rfl fun a hA =>
    stp hA (r_fd (k:=0) U67 rfl sz65 hA rfl rfl) rfl fun a hA =>
    stp hA (r_ldA (j:=0) [] [av .u8 32 ((x0.Ins.getD s1.toNat default).From.Tx),[.int .u32 ((x0.Ins.getD s1.toNat default).From.N)]] [[v1],[.int .u32 ((x0.Ins.getD s1.toNat default).Seq)]] U65 rfl sz65 rfl hI rfl hA rfl rfl) rfl fun a hA =>
    o_mput (j:=1) (k:=((x0.Ins.getD s1.toNat default).From)) true kn126 U126 ws2 ⟨hw1.1,hw1.2.1⟩ hI rfl hA rfl rfl rfl fun w hI=>?_
   refine o_nil<|hN7 _ _<|w_reg<|stp hA (r_add hA rfl rfl) rfl fun a hA =>
    stm hA rfl rfl fun a hA=>?_
   refine o_nil<|⟨m1,lS _,IntKind.i64.wrap (s1+1),mput s2 ((x0.Ins.getD s1.toNat default).From) true,H,(wrap_in _ _),(MW.put ws2 ⟨hw1.1,hw1.2.1⟩ trivial),hA.sub ⟨rfl,rfl,rfl,rfl,rfl,trivial⟩,(hI.sl [1,2] rfl)⟩
 ·obtain ⟨hc1,H⟩:=dF H hc1
  refine w_exit rfl<|hN3 _ _<|w_seq fun _ hN12=>w_reg<|sta hA rfl rfl fun a hA=>?_
  refine o_nil<|hN12 _ _<|w_ret ?_
  have H:some false=some z1:=H
  obtain rfl:=sI H
  have H:=Hk1
  obtain rfl:=sJ H
  exact ret1 hA Tryz.results116 rfl ⟨_,rfl,rfl,trivial,hI.forget0⟩
theorem tx_Base.c (μ:Store)(w0:World)(hμ:Agr μ w0)(x0:Tx)(u0_0 u0_1:Value)(hx0:TxW μ x0 u0_0 u0_1)(r:Bool)(H:tx_Base.f x0=some r) :
  Calls Tryz.prog 92 [.agg [[.int .u32 x0.Version],[u0_0],[u0_1],[.int .u32 x0.Time]].flatten.toArray].toArray w0 (fun e w'=>∃ v,e=.returned v∧v=.bool r∧True∧Iv w0 [] μ μ [] w'):=by
 refine enter Tryz.func92 rfl Tryz.ntmps92 rfl fun a hA=>?_
 have hI:=Iv.start hμ
 have H:=bI H
 refine w_seq fun _ hN1=>w_reg<|o_box [[.int .u32 x0.Version],[u0_0],[u0_1],[.int .u32 x0.Time]] hI hA rfl rfl rfl fun g1 a w hA hI hg1 =>
  sta hA rfl rfl fun a hA=>?_
 refine o_nil<|hN1 _ _ ?_
 obtain ⟨c1,hz1,Hk1⟩:=bB H
 refine w_cut (fun a w=>Fr a 15 [(2,.bool c1)]∧Iv w0 [] μ μ [cel g1 [[.int .u32 x0.Version],[u0_0],[u0_1],[.int .u32 x0.Time]] 63] w) ?_ ?_
 ·have H:=bI hz1
  refine w_reg<|stp hA (r_fd (k:=1) U63 rfl sz60 hA rfl rfl) rfl fun a hA =>
   stp hA (r_ld1 (j:=0) [[.int .u32 x0.Version]] [[u0_1],[.int .u32 x0.Time]] U60 rfl hI rfl hA rfl rfl) rfl fun a hA=>?_
  obtain ⟨_,hsl1⟩:=Slc.sv hx0.2.1
  refine stp hA (r_slen U60 hsl1 hA rfl) rfl fun a hA =>
   stp hA (r_eql hA rfl rfl) rfl fun a hA =>
   stm hA rfl rfl fun a hA=>?_
  rcases Bool.eq_false_or_eq_true (decide ((x0.Ins.length:Int)=1)) with hc1 | hc1
  ·have hc10:=hc1;obtain ⟨hc1,H⟩:=dT H hc1
   refine o_yes hA rfl rfl hc10 <|
    stp hA (r_fd (k:=1) U63 rfl sz60 hA rfl rfl) rfl fun a hA =>
    o_yes hA rfl rfl hc10 <|
    stp hA (r_ld1 (j:=0) [[.int .u32 x0.Version]] [[u0_1],[.int .u32 x0.Time]] U60 rfl hI rfl hA rfl rfl) rfl fun a hA =>
    o_yes hA rfl rfl hc10<|?_
   obtain ⟨hb1,H⟩:=bG H
   obtain ⟨_,he1,_,hat1⟩:=Slc.elem hx0.2.1 (getD_some default (by decide) hb1)
   obtain ⟨v1,rfl,hw1⟩:=he1
   obtain ⟨_,hsl2⟩:=Slc.sv hx0.2.1
   refine stp hA (r_six U60 sz67 hsl2 hA rfl rfl (by decide) hb1) rfl fun a hA =>
    o_yes hA rfl rfl hc10 <|
    stp hA (r_fd (k:=so u0_0+(0:Int).toNat * 35) U67 rfl sz65 hA rfl rfl) rfl fun a hA =>
    o_yes hA rfl rfl hc10 <|
    stp hA (r_ldmA [] [av .u8 32 ((x0.Ins.getD (0:Int).toNat default).From.Tx),[.int .u32 ((x0.Ins.getD (0:Int).toNat default).From.N)]] [[v1],[.int .u32 ((x0.Ins.getD (0:Int).toNat default).Seq)]] U65 rfl sz65 rfl hI.agr hat1 hA rfl rfl) rfl fun a hA =>
    o_yes hA rfl rfl hc10<|?_
   obtain ⟨r1,hr1,H⟩:=bB H
   refine o_callp (u:=.bool r1) cf118 hA rfl hI (spend_IsNull.c μ _ hI.agr ((x0.Ins.getD (0:Int).toNat default).From) ⟨hw1.1,hw1.2.1⟩ r1 hr1) rfl fun a w hz2 hI hA =>
    stp hA (r_pick_t hA rfl hc10 rfl) rfl fun a hA =>
    sta hA rfl rfl fun a hA=>?_
   refine o_nil ?_
   cases sJ H
   exact ⟨hA.sub ⟨rfl,trivial⟩,hI⟩
  ·have hc10:=hc1;obtain ⟨hc1,H⟩:=dF H hc1
   refine o_no hA rfl rfl (by rw [hc10];simp [vb]) rfl fun a hA =>
    o_no hA rfl rfl (by rw [hc10];simp [vb]) rfl fun a hA =>
    o_no hA rfl rfl (by rw [hc10];simp [vb]) rfl fun a hA =>
    o_no hA rfl rfl (by rw [hc10];simp [vb]) rfl fun a hA =>
    o_no hA rfl rfl (by rw [hc10];simp [vb]) rfl fun a hA =>
    o_no hA rfl rfl (by rw [hc10];simp [vb]) rfl fun a hA =>
    stp hA (r_pick_f hA rfl hc10 rfl) rfl fun a hA =>
    sta hA rfl rfl fun a hA=>?_
   refine o_nil ?_
   cases sJ H
   exact ⟨hA.sub ⟨rfl,trivial⟩,hI⟩
 ·rintro a w ⟨hA,hI⟩
  have H:=Hk1
  refine w_ret ?_
  obtain rfl:=sJ H
  exact ret1 hA Tryz.results92 rfl ⟨_,rfl,rfl,trivial,hI.forget0⟩
theorem tx_base_1.c (μ:Store)(w0:World)(hμ:Agr μ w0)(x0:In)(u0_0:Value)(hx0:InW μ x0 u0_0)(r:Bool)(H:tx_base_1.f x0=some r) :
  Calls Tryz.prog 128 [.agg [av .u8 32 x0.From.Tx,[.int .u32 x0.From.N],[u0_0],[.int .u32 x0.Seq]].flatten.toArray].toArray w0 (fun e w'=>∃ v,e=.returned v∧v=.bool r∧True∧Iv w0 [] μ μ [] w'):=by
 refine enter Tryz.func128 rfl Tryz.ntmps128 rfl fun a hA=>?_
 have hI:=Iv.start hμ
 have H:=bI H
 refine w_seq fun _ hN1=>w_reg<|o_box [av .u8 32 x0.From.Tx,[.int .u32 x0.From.N],[u0_0],[.int .u32 x0.Seq]] hI hA rfl rfl rfl fun g1 a w hA hI hg1 =>
  sta hA rfl rfl fun a hA=>?_
 refine o_nil<|hN1 _ _<|w_seq fun _ hN2=>w_reg<|stp hA (r_fd (k:=0) U67 rfl sz65 hA rfl rfl) rfl fun a hA =>
  stp hA (r_ldA (j:=0) [] [av .u8 32 x0.From.Tx,[.int .u32 x0.From.N]] [[u0_0],[.int .u32 x0.Seq]] U65 rfl sz65 rfl hI rfl hA rfl rfl) rfl fun a hA=>?_
 obtain ⟨r1,hr1,H⟩:=bB H
 refine o_callp (u:=.bool r1) cf118 hA rfl hI (spend_IsNull.c μ _ hI.agr x0.From ⟨hx0.1,hx0.2.1⟩ r1 hr1) rfl fun a w hz1 hI hA =>
  sta hA rfl rfl fun a hA=>?_
 refine o_nil<|hN2 _ _<|w_ret ?_
 obtain rfl:=sJ H
 exact ret1 hA Tryz.results128 rfl ⟨_,rfl,rfl,trivial,hI.forget0⟩
theorem slices_IndexFunc_api_In_api_In_at_tx_base_1.c (μ:Store)(w0:World)(hμ:Agr μ w0)(x0:List In)(u0:Value)(hx0:Slc (RIn μ) 35 μ u0 x0)(r:Int)(H:slices_IndexFunc_api_In_api_In_at_tx_base_1.f x0=some r) :
  Calls Tryz.prog 125 [u0,.func (.func 128) #[] #[]].toArray w0 (fun e w'=>∃ v,e=.returned v∧v=.int .i64 r∧InR .i64 r∧Iv w0 [] μ μ [] w'):=by
 refine enter Tryz.func125 rfl Tryz.ntmps125 rfl fun a hA=>?_
 have hI:=Iv.start hμ
 have H:=bI H
 refine w_seq fun _ hN1=>w_reg<|sta hA rfl rfl fun a hA=>?_
 refine o_nil<|hN1 _ _<|w_seq fun _ hN2=>w_seq fun _ hN3=>w_reg<|stm hA rfl rfl fun a hA=>?_
 obtain ⟨_,hsl1⟩:=Slc.sv hx0
 refine stp hA (r_slen U60 hsl1 hA rfl) rfl fun a hA =>
  stm hA rfl rfl fun a hA=>?_
 refine o_nil<|hN3 _ _<|w_block ?_
 obtain ⟨z1,hz1,Hk1⟩:=bind_some H
 obtain ⟨n1,hn1⟩:=loopO_some hz1
 refine w_loop (fun n a w=>∃(s1:Int),loopN (slices_IndexFunc_api_In_api_In_at_tx_base_1.s0 x0) n s1=some z1∧InR .i64 s1∧Fr a 19 [(0,u0),(1,.func (.func 128) #[] #[]),(4,.int .i64 0),(7,.int .i64 (x0.length:Int)),(8,.int .i64 s1)]∧Iv w0 [] μ μ [] w) n1 ⟨0,hn1,(in_lit .i64 0 rfl),hA.sub ⟨rfl,rfl,rfl,rfl,rfl,trivial⟩,hI⟩ ?_
 clear hA hI
 rintro n a w ⟨s1,hn1,ws1,hA,hI⟩
 obtain ⟨m1,rfl,H⟩:=loopN_bind hn1
 clear hn1
 refine w_seq fun _ hN4=>w_reg<|stp hA (r_lss hA rfl rfl) rfl fun a hA=>?_
 refine o_nil<|hN4 _ _<|w_seq fun _ hN5=>w_cond hA rfl (fun hc1=>?_) (fun hc1=>?_)
 ·obtain ⟨hc1,H⟩:=dT H hc1
  refine w_skip<|hN5 _ _<|w_seq fun _ hN6=>w_block<|w_seq fun _ hN7=>w_reg<|stm hA rfl rfl fun a hA =>
   sta hA rfl rfl fun a hA=>?_
  refine o_nil<|hN7 _ _<|w_seq fun _ hN8=>w_reg<|stm hA rfl rfl fun a hA =>
   stm hA rfl rfl fun a hA =>
   stm hA rfl rfl fun a hA=>?_
  obtain ⟨hb1,H⟩:=bG H
  obtain ⟨_,he1,_,hat1⟩:=Slc.elem hx0 (getD_some default hb1.1 hb1.2)
  obtain ⟨v1,rfl,hw1⟩:=he1
  obtain ⟨_,hsl2⟩:=Slc.sv hx0
  refine stp hA (r_six U60 sz67 hsl2 hA rfl rfl hb1.1 hb1.2) rfl fun a hA =>
   stp hA (r_ldmA [] [av .u8 32 ((x0.getD s1.toNat default).From.Tx),[.int .u32 ((x0.getD s1.toNat default).From.N)],[v1],[.int .u32 ((x0.getD s1.toNat default).Seq)]] [] U67 rfl sz67 rfl hI.agr hat1 hA rfl rfl) rfl fun a hA=>?_
  obtain ⟨r1,hr1,H⟩:=bB H
  refine o_callpc (u:=.bool r1) cf128 hA rfl rfl hI (tx_base_1.c μ _ hI.agr (x0.getD s1.toNat default) v1 ⟨hw1.1,hw1.2.1,hw1.2.2.1,hw1.2.2.2⟩ r1 hr1) rfl fun a w hz2 hI hA=>?_
  refine o_nil<|hN8 _ _<|w_cond hA rfl (fun hc2=>?_) (fun hc2=>?_)
  ·have H:=bT H hc2
   refine w_seq fun _ hN9=>w_reg<|stm hA rfl rfl fun a hA =>
    sta hA rfl rfl fun a hA=>?_
   refine o_nil<|hN9 _ _<|w_ret ?_
   have H:some s1=some z1:=H
   obtain rfl:=sI H
   have H:=Hk1
   obtain rfl:=sJ H
   exact ret1 hA Tryz.results125 rfl ⟨_,rfl,rfl,ws1,hI.forget0⟩
  ·have hc2:=ft hc2;have H:=bF H hc2
   refine w_skip<|hN6 _ _<|w_reg<|stp hA (r_add hA rfl rfl) rfl fun a hA =>
    stm hA rfl rfl fun a hA=>?_
   refine o_nil<|⟨m1,lS _,IntKind.i64.wrap (s1+1),H,(wrap_in _ _),hA.sub ⟨rfl,rfl,rfl,rfl,rfl,trivial⟩,hI⟩
 ·obtain ⟨hc1,H⟩:=dF H hc1
  refine w_exit rfl<|hN2 _ _<|w_seq fun _ hN10=>w_reg<|sta hA rfl rfl fun a hA=>?_
  refine o_nil<|hN10 _ _<|w_ret ?_
  have H:some (-1)=some z1:=H
  obtain rfl:=sI H
  have H:=Hk1
  obtain rfl:=sJ H
  exact ret1 hA Tryz.results125 rfl ⟨_,rfl,rfl,(in_lit .i64 (-1) rfl),hI.forget0⟩
theorem slices_ContainsFunc_api_In_api_In_at_tx_base_1.c (μ:Store)(w0:World)(hμ:Agr μ w0)(x0:List In)(u0:Value)(hx0:Slc (RIn μ) 35 μ u0 x0)(r:Bool)(H:slices_ContainsFunc_api_In_api_In_at_tx_base_1.f x0=some r) :
  Calls Tryz.prog 113 [u0,.func (.func 128) #[] #[]].toArray w0 (fun e w'=>∃ v,e=.returned v∧v=.bool r∧True∧Iv w0 [] μ μ [] w'):=by
 refine enter Tryz.func113 rfl Tryz.ntmps113 rfl fun a hA=>?_
 have hI:=Iv.start hμ
 have H:=bI H
 refine w_seq fun _ hN1=>w_reg<|sta hA rfl rfl fun a hA=>?_
 refine o_nil<|hN1 _ _<|w_seq fun _ hN2=>w_reg<|stm hA rfl rfl fun a hA =>
  stm hA rfl rfl fun a hA=>?_
 obtain ⟨r1,hr1,H⟩:=bB H
 refine o_callp (u:=.int .i64 r1) cf125 hA rfl hI (slices_IndexFunc_api_In_api_In_at_tx_base_1.c μ _ hI.agr x0 u0 hx0 r1 hr1) rfl fun a w hz1 hI hA =>
  stp hA (r_geq hA rfl rfl) rfl fun a hA =>
  sta hA rfl rfl fun a hA=>?_
 refine o_nil<|hN2 _ _<|w_ret ?_
 obtain rfl:=sJ H
 exact ret1 hA Tryz.results113 rfl ⟨_,rfl,rfl,trivial,hI.forget0⟩
theorem tx_base.c (μ:Store)(w0:World)(hμ:Agr μ w0)(x0:Tx)(u0_0 u0_1:Value)(hx0:TxW μ x0 u0_0 u0_1)(e6:Value)(he6:ErS μ e6 (Er.b 7))(r:Er)(H:tx_base.f x0=some r) :
  Calls Tryz.prog 117 [.agg [[.int .u32 x0.Version],[u0_0],[u0_1],[.int .u32 x0.Time]].flatten.toArray].toArray w0 (fun e w'=>∃ v,e=.returned v∧∃(v0:Value)(μ':Store),v=v0∧ErS μ' v0 r∧Iv w0 [] μ μ' [] w'):=by
 refine enter Tryz.func117 rfl Tryz.ntmps117 rfl fun a hA=>?_
 have hI:=Iv.start hμ
 have H:=bI H
 refine w_seq fun _ hN1=>w_reg<|o_box [[.int .u32 x0.Version],[u0_0],[u0_1],[.int .u32 x0.Time]] hI hA rfl rfl rfl fun g1 a w hA hI hg1 =>
  sta hA rfl rfl fun a hA=>?_
 refine o_nil<|hN1 _ _<|w_seq fun _ hN2=>w_seq fun _ hN3=>w_reg<|stp hA (r_ldA (j:=0) [] [[.int .u32 x0.Version],[u0_0],[u0_1],[.int .u32 x0.Time]] [] U63 rfl sz63 rfl hI rfl hA rfl rfl) rfl fun a hA=>?_
 obtain ⟨r1,hr1,H⟩:=bB H
 refine o_callp (u:=.bool r1) cf92 hA rfl hI (tx_Base.c μ _ hI.agr x0 u0_0 u0_1 ⟨hx0.1,hx0.2.1,hx0.2.2.1,hx0.2.2.2⟩ r1 hr1) rfl fun a w hz1 hI hA=>?_
 refine o_nil<|hN3 _ _<|w_cond hA rfl (fun hc1=>?_) (fun hc1=>?_)
 ·have H:=bT H hc1
  refine w_seq fun _ hN4=>w_seq fun _ hN5=>w_reg<|stp hA (r_fd (k:=1) U63 rfl sz60 hA rfl rfl) rfl fun a hA =>
   stp hA (r_ld1 (j:=0) [[.int .u32 x0.Version]] [[u0_1],[.int .u32 x0.Time]] U60 rfl hI rfl hA rfl rfl) rfl fun a hA=>?_
  obtain ⟨hb1,H⟩:=bG H
  obtain ⟨_,he1,_,hat1⟩:=Slc.elem hx0.2.1 (getD_some default (by decide) hb1)
  obtain ⟨v1,rfl,hw1⟩:=he1
  obtain ⟨_,hsl1⟩:=Slc.sv hx0.2.1
  refine stp hA (r_six U60 sz67 hsl1 hA rfl rfl (by decide) hb1) rfl fun a hA =>
   stp hA (r_fd (k:=so u0_0+(0:Int).toNat * 35+33) U67 rfl sz30 hA rfl rfl) rfl fun a hA =>
   stp hA (r_ldm1 [av .u8 32 ((x0.Ins.getD (0:Int).toNat default).From.Tx),[.int .u32 ((x0.Ins.getD (0:Int).toNat default).From.N)]] [[.int .u32 ((x0.Ins.getD (0:Int).toNat default).Seq)]] U30 rfl hI.agr hat1 hA rfl rfl) rfl fun a hA=>?_
  obtain ⟨_,hsl2⟩:=Slc.sv hw1.2.2.1
  refine stp hA (r_slen U30 hsl2 hA rfl) rfl fun a hA =>
   stp hA (r_lss hA rfl rfl) rfl fun a hA=>?_
  refine o_nil<|hN5 _ _<|w_cond hA rfl (fun hc2=>?_) (fun hc2=>?_)
  ·obtain ⟨hc2,H⟩:=dT H hc2
   refine w_seq fun _ hN6=>w_reg<|stp hA (r_ldG U35 rfl hI.agr he6 hA) rfl fun a hA =>
    sta hA rfl rfl fun a hA=>?_
   refine o_nil<|hN6 _ _<|w_ret ?_
   obtain rfl:=sJ H
   exact ret1 hA Tryz.results117 rfl ⟨_,rfl,e6,μ,rfl,he6,(hI.sl [] rfl)⟩
  ·obtain ⟨hc2,H⟩:=dF H hc2
   refine w_skip<|hN4 _ _<|w_seq fun _ hN7=>w_reg<|sta hA rfl rfl fun a hA=>?_
   refine o_nil<|hN7 _ _<|w_ret ?_
   obtain rfl:=sJ H
   exact ret1 hA Tryz.results117 rfl ⟨_,rfl,.nilIface,μ,rfl,erv_nil,(hI.sl [] rfl)⟩
 ·have hc1:=ft hc1;have H:=bF H hc1
  refine w_skip<|hN2 _ _<|w_seq fun _ hN8=>w_seq fun _ hN9=>w_reg<|stp hA (r_fd (k:=1) U63 rfl sz60 hA rfl rfl) rfl fun a hA =>
   stp hA (r_ld1 (j:=0) [[.int .u32 x0.Version]] [[u0_1],[.int .u32 x0.Time]] U60 rfl hI rfl hA rfl rfl) rfl fun a hA=>?_
  obtain ⟨r2,hr2,H⟩:=bB H
  refine o_callp (u:=.bool r2) cf113 hA rfl hI (slices_ContainsFunc_api_In_api_In_at_tx_base_1.c μ _ hI.agr x0.Ins u0_0 hx0.2.1 r2 hr2) rfl fun a w hz2 hI hA=>?_
  refine o_nil<|hN9 _ _<|w_cond hA rfl (fun hc3=>?_) (fun hc3=>?_)
  ·have H:=bT H hc3
   refine w_seq fun _ hN10=>w_reg<|stp hA (r_ldG U35 rfl hI.agr he6 hA) rfl fun a hA =>
    sta hA rfl rfl fun a hA=>?_
   refine o_nil<|hN10 _ _<|w_ret ?_
   obtain rfl:=sJ H
   exact ret1 hA Tryz.results117 rfl ⟨_,rfl,e6,μ,rfl,he6,(hI.sl [] rfl)⟩
  ·have hc3:=ft hc3;have H:=bF H hc3
   refine w_skip<|hN8 _ _<|w_seq fun _ hN11=>w_reg<|sta hA rfl rfl fun a hA=>?_
   refine o_nil<|hN11 _ _<|w_ret ?_
   obtain rfl:=sJ H
   exact ret1 hA Tryz.results117 rfl ⟨_,rfl,.nilIface,μ,rfl,erv_nil,(hI.sl [] rfl)⟩
theorem slices_IndexFunc_api_In_api_In_at_tx_Check_1.c (μ:Store)(w0:World)(hμ:Agr μ w0)(x0:List In)(u0:Value)(hx0:Slc (RIn μ) 35 μ u0 x0)(r:Int)(H:slices_IndexFunc_api_In_api_In_at_tx_Check_1.f x0=some r) :
  Calls Tryz.prog 125 [u0,.func (.func 114) #[] #[]].toArray w0 (fun e w'=>∃ v,e=.returned v∧v=.int .i64 r∧InR .i64 r∧Iv w0 [] μ μ [] w'):=by
 refine enter Tryz.func125 rfl Tryz.ntmps125 rfl fun a hA=>?_
 have hI:=Iv.start hμ
 have H:=bI H
 refine w_seq fun _ hN1=>w_reg<|sta hA rfl rfl fun a hA=>?_
 refine o_nil<|hN1 _ _<|w_seq fun _ hN2=>w_seq fun _ hN3=>w_reg<|stm hA rfl rfl fun a hA=>?_
 obtain ⟨_,hsl1⟩:=Slc.sv hx0
 refine stp hA (r_slen U60 hsl1 hA rfl) rfl fun a hA =>
  stm hA rfl rfl fun a hA=>?_
 refine o_nil<|hN3 _ _<|w_block ?_
 obtain ⟨z1,hz1,Hk1⟩:=bind_some H
 obtain ⟨n1,hn1⟩:=loopO_some hz1
 refine w_loop (fun n a w=>∃(s1:Int),loopN (slices_IndexFunc_api_In_api_In_at_tx_Check_1.s0 x0) n s1=some z1∧InR .i64 s1∧Fr a 19 [(0,u0),(1,.func (.func 114) #[] #[]),(4,.int .i64 0),(7,.int .i64 (x0.length:Int)),(8,.int .i64 s1)]∧Iv w0 [] μ μ [] w) n1 ⟨0,hn1,(in_lit .i64 0 rfl),hA.sub ⟨rfl,rfl,rfl,rfl,rfl,trivial⟩,hI⟩ ?_
 clear hA hI
 rintro n a w ⟨s1,hn1,ws1,hA,hI⟩
 obtain ⟨m1,rfl,H⟩:=loopN_bind hn1
 clear hn1
 refine w_seq fun _ hN4=>w_reg<|stp hA (r_lss hA rfl rfl) rfl fun a hA=>?_
 refine o_nil<|hN4 _ _<|w_seq fun _ hN5=>w_cond hA rfl (fun hc1=>?_) (fun hc1=>?_)
 ·obtain ⟨hc1,H⟩:=dT H hc1
  refine w_skip<|hN5 _ _<|w_seq fun _ hN6=>w_block<|w_seq fun _ hN7=>w_reg<|stm hA rfl rfl fun a hA =>
   sta hA rfl rfl fun a hA=>?_
  refine o_nil<|hN7 _ _<|w_seq fun _ hN8=>w_reg<|stm hA rfl rfl fun a hA =>
   stm hA rfl rfl fun a hA =>
   stm hA rfl rfl fun a hA=>?_
  obtain ⟨hb1,H⟩:=bG H
  obtain ⟨_,he1,_,hat1⟩:=Slc.elem hx0 (getD_some default hb1.1 hb1.2)
  obtain ⟨v1,rfl,hw1⟩:=he1
  obtain ⟨_,hsl2⟩:=Slc.sv hx0
  refine stp hA (r_six U60 sz67 hsl2 hA rfl rfl hb1.1 hb1.2) rfl fun a hA =>
   stp hA (r_ldmA [] [av .u8 32 ((x0.getD s1.toNat default).From.Tx),[.int .u32 ((x0.getD s1.toNat default).From.N)],[v1],[.int .u32 ((x0.getD s1.toNat default).Seq)]] [] U67 rfl sz67 rfl hI.agr hat1 hA rfl rfl) rfl fun a hA=>?_
  obtain ⟨r1,hr1,H⟩:=bB H
  refine o_callpc (u:=.bool r1) cf114 hA rfl rfl hI (tx_Check_1.c μ _ hI.agr (x0.getD s1.toNat default) v1 ⟨hw1.1,hw1.2.1,hw1.2.2.1,hw1.2.2.2⟩ r1 hr1) rfl fun a w hz2 hI hA=>?_
  refine o_nil<|hN8 _ _<|w_cond hA rfl (fun hc2=>?_) (fun hc2=>?_)
  ·have H:=bT H hc2
   refine w_seq fun _ hN9=>w_reg<|stm hA rfl rfl fun a hA =>
    sta hA rfl rfl fun a hA=>?_
   refine o_nil<|hN9 _ _<|w_ret ?_
   have H:some s1=some z1:=H
   obtain rfl:=sI H
   have H:=Hk1
   obtain rfl:=sJ H
   exact ret1 hA Tryz.results125 rfl ⟨_,rfl,rfl,ws1,hI.forget0⟩
  ·have hc2:=ft hc2;have H:=bF H hc2
   refine w_skip<|hN6 _ _<|w_reg<|stp hA (r_add hA rfl rfl) rfl fun a hA =>
    stm hA rfl rfl fun a hA=>?_
   refine o_nil<|⟨m1,lS _,IntKind.i64.wrap (s1+1),H,(wrap_in _ _),hA.sub ⟨rfl,rfl,rfl,rfl,rfl,trivial⟩,hI⟩
 ·obtain ⟨hc1,H⟩:=dF H hc1
  refine w_exit rfl<|hN2 _ _<|w_seq fun _ hN10=>w_reg<|sta hA rfl rfl fun a hA=>?_
  refine o_nil<|hN10 _ _<|w_ret ?_
  have H:some (-1)=some z1:=H
  obtain rfl:=sI H
  have H:=Hk1
  obtain rfl:=sJ H
  exact ret1 hA Tryz.results125 rfl ⟨_,rfl,rfl,(in_lit .i64 (-1) rfl),hI.forget0⟩
theorem slices_ContainsFunc_api_In_api_In_at_tx_Check_1.c (μ:Store)(w0:World)(hμ:Agr μ w0)(x0:List In)(u0:Value)(hx0:Slc (RIn μ) 35 μ u0 x0)(r:Bool)(H:slices_ContainsFunc_api_In_api_In_at_tx_Check_1.f x0=some r) :
  Calls Tryz.prog 113 [u0,.func (.func 114) #[] #[]].toArray w0 (fun e w'=>∃ v,e=.returned v∧v=.bool r∧True∧Iv w0 [] μ μ [] w'):=by
 refine enter Tryz.func113 rfl Tryz.ntmps113 rfl fun a hA=>?_
 have hI:=Iv.start hμ
 have H:=bI H
 refine w_seq fun _ hN1=>w_reg<|sta hA rfl rfl fun a hA=>?_
 refine o_nil<|hN1 _ _<|w_seq fun _ hN2=>w_reg<|stm hA rfl rfl fun a hA =>
  stm hA rfl rfl fun a hA=>?_
 obtain ⟨r1,hr1,H⟩:=bB H
 refine o_callp (u:=.int .i64 r1) cf125 hA rfl hI (slices_IndexFunc_api_In_api_In_at_tx_Check_1.c μ _ hI.agr x0 u0 hx0 r1 hr1) rfl fun a w hz1 hI hA =>
  stp hA (r_geq hA rfl rfl) rfl fun a hA =>
  sta hA rfl rfl fun a hA=>?_
 refine o_nil<|hN2 _ _<|w_ret ?_
 obtain rfl:=sJ H
 exact ret1 hA Tryz.results113 rfl ⟨_,rfl,rfl,trivial,hI.forget0⟩
theorem tx_Check.c (μ:Store)(w0:World)(hμ:Agr μ w0)(x0:Tx)(u0_0 u0_1:Value)(hx0:TxW μ x0 u0_0 u0_1)(e1:Value)(he1:ErS μ e1 (Er.b 2))(e2:Value)(he2:ErS μ e2 (Er.b 3))(e3:Value)(he3:ErS μ e3 (Er.b 4))(e6:Value)(he6:ErS μ e6 (Er.b 7))(e7:Value)(he7:ErS μ e7 (Er.b 8))(e8:Value)(he8:ErS μ e8 (Er.b 9))(r:Er)(H:tx_Check.f x0=some r) :
  Calls Tryz.prog 91 [.agg [[.int .u32 x0.Version],[u0_0],[u0_1],[.int .u32 x0.Time]].flatten.toArray].toArray w0 (fun e w'=>∃ v,e=.returned v∧∃(v0:Value)(μ':Store),v=v0∧ErS μ' v0 r∧Iv w0 [] μ μ' [] w'):=by
 refine enter Tryz.func91 rfl Tryz.ntmps91 rfl fun a hA=>?_
 have hI:=Iv.start hμ
 have H:=bI H
 refine w_seq fun _ hN1=>w_reg<|o_box [[.int .u32 x0.Version],[u0_0],[u0_1],[.int .u32 x0.Time]] hI hA rfl rfl rfl fun g1 a w hA hI hg1 =>
  sta hA rfl rfl fun a hA=>?_
 refine o_nil<|hN1 _ _<|w_seq fun _ hN2=>w_block ?_
 obtain ⟨c1,hz1,Hk1⟩:=bB H
 refine w_cut (fun a w=>Fr a 52 [(1,pt g1 0),(2,.nilIface),(5,.bool c1)]∧Iv w0 [] μ μ [cel g1 [[.int .u32 x0.Version],[u0_0],[u0_1],[.int .u32 x0.Time]] 63] w) ?_ ?_
 ·have H:=bI hz1
  refine w_reg<|stp hA (r_fd (k:=1) U63 rfl sz60 hA rfl rfl) rfl fun a hA =>
   stp hA (r_ld1 (j:=0) [[.int .u32 x0.Version]] [[u0_1],[.int .u32 x0.Time]] U60 rfl hI rfl hA rfl rfl) rfl fun a hA=>?_
  obtain ⟨_,hsl1⟩:=Slc.sv hx0.2.1
  refine stp hA (r_slen U60 hsl1 hA rfl) rfl fun a hA =>
   stp hA (r_eql hA rfl rfl) rfl fun a hA =>
   stm hA rfl rfl fun a hA=>?_
  rcases Bool.eq_false_or_eq_true (decide ((x0.Ins.length:Int)=0)) with hc1 | hc1
  ·have hc10:=hc1;obtain ⟨hc1,H⟩:=dT H hc1
   refine o_no hA rfl rfl (by rw [hc10];simp [vb]) rfl fun a hA =>
    o_no hA rfl rfl (by rw [hc10];simp [vb]) rfl fun a hA =>
    o_no hA rfl rfl (by rw [hc10];simp [vb]) rfl fun a hA =>
    o_no hA rfl rfl (by rw [hc10];simp [vb]) rfl fun a hA =>
    stp hA (r_pick_t hA rfl hc10 rfl) rfl fun a hA =>
    stm hA rfl rfl fun a hA =>
    o_no hA rfl rfl (by simp [vb]) rfl fun a hA =>
    o_no hA rfl rfl (by simp [vb]) rfl fun a hA =>
    o_no hA rfl rfl (by simp [vb]) rfl fun a hA =>
    o_no hA rfl rfl (by simp [vb]) rfl fun a hA =>
    stp hA (r_pick_t hA rfl rfl rfl) rfl fun a hA =>
    stm hA rfl rfl fun a hA =>
    o_no hA rfl rfl (by simp [vb]) rfl fun a hA =>
    o_no hA rfl rfl (by simp [vb]) rfl fun a hA =>
    o_no hA rfl rfl (by simp [vb]) rfl fun a hA =>
    o_no hA rfl rfl (by simp [vb]) rfl fun a hA =>
    stp hA (r_pick_t hA rfl rfl rfl) rfl fun a hA =>
    sta hA rfl rfl fun a hA=>?_
   refine o_nil ?_
   cases sJ H
   exact ⟨hA.sub ⟨rfl,rfl,rfl,trivial⟩,hI⟩
  ·have hc10:=hc1;obtain ⟨hc1,H⟩:=dF H hc1
   refine o_yes hA rfl rfl hc10 <|
    stp hA (r_fd (k:=1) U63 rfl sz60 hA rfl rfl) rfl fun a hA =>
    o_yes hA rfl rfl hc10 <|
    stp hA (r_ld1 (j:=0) [[.int .u32 x0.Version]] [[u0_1],[.int .u32 x0.Time]] U60 rfl hI rfl hA rfl rfl) rfl fun a hA =>
    o_yes hA rfl rfl hc10<|?_
   obtain ⟨_,hsl2⟩:=Slc.sv hx0.2.1
   refine stp hA (r_slen U60 hsl2 hA rfl) rfl fun a hA =>
    o_yes hA rfl rfl hc10 <|
    stp hA (r_gtr hA rfl rfl) rfl fun a hA =>
    stp hA (r_pick_f hA rfl hc10 rfl) rfl fun a hA =>
    stm hA rfl rfl fun a hA=>?_
   rcases Bool.eq_false_or_eq_true (decide (50 < (x0.Ins.length:Int))) with hc2 | hc2
   ·have hc20:=hc2;obtain ⟨hc2,H⟩:=dT H hc2
    refine o_no hA rfl rfl (by rw [hc20];simp [vb]) rfl fun a hA =>
     o_no hA rfl rfl (by rw [hc20];simp [vb]) rfl fun a hA =>
     o_no hA rfl rfl (by rw [hc20];simp [vb]) rfl fun a hA =>
     o_no hA rfl rfl (by rw [hc20];simp [vb]) rfl fun a hA =>
     stp hA (r_pick_t hA rfl hc20 rfl) rfl fun a hA =>
     stm hA rfl rfl fun a hA =>
     o_no hA rfl rfl (by simp [vb]) rfl fun a hA =>
     o_no hA rfl rfl (by simp [vb]) rfl fun a hA =>
     o_no hA rfl rfl (by simp [vb]) rfl fun a hA =>
     o_no hA rfl rfl (by simp [vb]) rfl fun a hA =>
     stp hA (r_pick_t hA rfl rfl rfl) rfl fun a hA =>
     sta hA rfl rfl fun a hA=>?_
    refine o_nil ?_
    cases sJ H
    exact ⟨hA.sub ⟨rfl,rfl,rfl,trivial⟩,hI⟩
   ·have hc20:=hc2;obtain ⟨hc2,H⟩:=dF H hc2
    refine o_yes hA rfl rfl hc20 <|
     stp hA (r_fd (k:=2) U63 rfl sz61 hA rfl rfl) rfl fun a hA =>
     o_yes hA rfl rfl hc20 <|
     stp hA (r_ld1 (j:=0) [[.int .u32 x0.Version],[u0_0]] [[.int .u32 x0.Time]] U61 rfl hI rfl hA rfl rfl) rfl fun a hA =>
     o_yes hA rfl rfl hc20<|?_
    obtain ⟨_,hsl3⟩:=Slc.sv hx0.2.2.1
    refine stp hA (r_slen U61 hsl3 hA rfl) rfl fun a hA =>
     o_yes hA rfl rfl hc20 <|
     stp hA (r_eql hA rfl rfl) rfl fun a hA =>
     stp hA (r_pick_f hA rfl hc20 rfl) rfl fun a hA =>
     stm hA rfl rfl fun a hA=>?_
    rcases Bool.eq_false_or_eq_true (decide ((x0.Outs.length:Int)=0)) with hc3 | hc3
    ·have hc30:=hc3;obtain ⟨hc3,H⟩:=dT H hc3
     refine o_no hA rfl rfl (by rw [hc30];simp [vb]) rfl fun a hA =>
      o_no hA rfl rfl (by rw [hc30];simp [vb]) rfl fun a hA =>
      o_no hA rfl rfl (by rw [hc30];simp [vb]) rfl fun a hA =>
      o_no hA rfl rfl (by rw [hc30];simp [vb]) rfl fun a hA =>
      stp hA (r_pick_t hA rfl hc30 rfl) rfl fun a hA =>
      sta hA rfl rfl fun a hA=>?_
     refine o_nil ?_
     cases sJ H
     exact ⟨hA.sub ⟨rfl,rfl,rfl,trivial⟩,hI⟩
    ·have hc30:=hc3;obtain ⟨hc3,H⟩:=dF H hc3
     refine o_yes hA rfl rfl hc30 <|
      stp hA (r_fd (k:=2) U63 rfl sz61 hA rfl rfl) rfl fun a hA =>
      o_yes hA rfl rfl hc30 <|
      stp hA (r_ld1 (j:=0) [[.int .u32 x0.Version],[u0_0]] [[.int .u32 x0.Time]] U61 rfl hI rfl hA rfl rfl) rfl fun a hA =>
      o_yes hA rfl rfl hc30<|?_
     obtain ⟨_,hsl4⟩:=Slc.sv hx0.2.2.1
     refine stp hA (r_slen U61 hsl4 hA rfl) rfl fun a hA =>
      o_yes hA rfl rfl hc30 <|
      stp hA (r_gtr hA rfl rfl) rfl fun a hA =>
      stp hA (r_pick_f hA rfl hc30 rfl) rfl fun a hA =>
      sta hA rfl rfl fun a hA=>?_
     refine o_nil ?_
     cases sJ H
     exact ⟨hA.sub ⟨rfl,rfl,rfl,trivial⟩,hI⟩
 ·rintro a w ⟨hA,hI⟩
  have H:=Hk1
  refine w_cond hA rfl (fun hc4=>?_) (fun hc4=>?_)
  ·have H:=bT H hc4
   refine w_seq fun _ hN3=>w_reg<|stp hA (r_ldG U35 rfl hI.agr he1 hA) rfl fun a hA =>
    sta hA rfl rfl fun a hA=>?_
   refine o_nil<|hN3 _ _<|w_ret ?_
   obtain rfl:=sJ H
   exact ret1 hA Tryz.results91 rfl ⟨_,rfl,e1,μ,rfl,he1,(hI.sl [] rfl)⟩
  ·have hc4:=ft hc4;have H:=bF H hc4
   refine w_seq fun _ hN4=>w_reg<|stp hA (r_ldA (j:=0) [] [[.int .u32 x0.Version],[u0_0],[u0_1],[.int .u32 x0.Time]] [] U63 rfl sz63 rfl hI rfl hA rfl rfl) rfl fun a hA=>?_
   obtain ⟨r1,hr1,H⟩:=bB H
   refine o_callp (u:=.int .i64 r1) cf112 hA rfl hI (tx_Size.c μ _ hI.agr x0 u0_0 u0_1 ⟨hx0.1,hx0.2.1,hx0.2.2.1,hx0.2.2.2⟩ r1 hr1) rfl fun a w hz2 hI hA =>
    stp hA (r_gtr hA rfl rfl) rfl fun a hA =>
    sta hA rfl rfl fun a hA=>?_
   refine o_nil<|hN4 _ _<|w_cond hA rfl (fun hc5=>?_) (fun hc5=>?_)
   ·obtain ⟨hc5,H⟩:=dT H hc5
    refine w_seq fun _ hN5=>w_reg<|stp hA (r_ldG U35 rfl hI.agr he2 hA) rfl fun a hA =>
     sta hA rfl rfl fun a hA=>?_
    refine o_nil<|hN5 _ _<|w_ret ?_
    obtain rfl:=sJ H
    exact ret1 hA Tryz.results91 rfl ⟨_,rfl,e2,μ,rfl,he2,(hI.sl [] rfl)⟩
   ·obtain ⟨hc5,H⟩:=dF H hc5
    refine w_seq fun _ hN6=>w_reg<|stp hA (r_fd (k:=1) U63 rfl sz60 hA rfl rfl) rfl fun a hA =>
     stp hA (r_ld1 (j:=0) [[.int .u32 x0.Version]] [[u0_1],[.int .u32 x0.Time]] U60 rfl hI rfl hA rfl rfl) rfl fun a hA=>?_
    obtain ⟨r2,hr2,H⟩:=bB H
    refine o_callp (u:=.bool r2) cf113 hA rfl hI (slices_ContainsFunc_api_In_api_In_at_tx_Check_1.c μ _ hI.agr x0.Ins u0_0 hx0.2.1 r2 hr2) rfl fun a w hz3 hI hA =>
     sta hA rfl rfl fun a hA=>?_
    refine o_nil<|hN6 _ _<|w_cond hA rfl (fun hc6=>?_) (fun hc6=>?_)
    ·have H:=bT H hc6
     refine w_seq fun _ hN7=>w_reg<|stp hA (r_ldG U35 rfl hI.agr he7 hA) rfl fun a hA =>
      sta hA rfl rfl fun a hA=>?_
     refine o_nil<|hN7 _ _<|w_ret ?_
     obtain rfl:=sJ H
     exact ret1 hA Tryz.results91 rfl ⟨_,rfl,e7,μ,rfl,he7,(hI.sl [] rfl)⟩
    ·have hc6:=ft hc6;have H:=bF H hc6
     refine w_skip<|hN2 _ _<|w_seq fun _ hN8=>w_seq fun _ hN9=>w_reg<|stp hA (r_ldA (j:=0) [] [[.int .u32 x0.Version],[u0_0],[u0_1],[.int .u32 x0.Time]] [] U63 rfl sz63 rfl hI rfl hA rfl rfl) rfl fun a hA=>?_
     obtain ⟨r3,hr3,H⟩:=bB H
     refine o_callp (u:=.tuple #[.int .u64 r3.1,.bool r3.2]) cf115 hA rfl hI (tx_Sum.c μ _ hI.agr x0 u0_0 u0_1 ⟨hx0.1,hx0.2.1,hx0.2.2.1,hx0.2.2.2⟩ r3 hr3) rfl fun a w hz4 hI hA =>
      stm hA rfl rfl fun a hA =>
      stp hA (r_extr (vs:=[.int .u64 r3.1,.bool r3.2]) hA rfl rfl) rfl fun a hA =>
      stp hA (r_extr (vs:=[.int .u64 r3.1,.bool r3.2]) hA rfl rfl) rfl fun a hA =>
      sta hA rfl rfl fun a hA =>
      sta hA rfl rfl fun a hA=>?_
     refine o_nil<|hN9 _ _<|w_seq fun _ hN10=>w_reg<|stm hA rfl rfl fun a hA =>
      stp hA (r_not hA rfl) rfl fun a hA=>?_
     refine o_nil<|hN10 _ _<|w_cond hA rfl (fun hc7=>?_) (fun hc7=>?_)
     ·have hc7:=nT hc7;have hc7:=ft hc7;have H:=bF H hc7
      refine w_seq fun _ hN11=>w_reg<|stp hA (r_ldG U35 rfl hI.agr he8 hA) rfl fun a hA =>
       sta hA rfl rfl fun a hA=>?_
      refine o_nil<|hN11 _ _<|w_ret ?_
      obtain rfl:=sJ H
      exact ret1 hA Tryz.results91 rfl ⟨_,rfl,e8,μ,rfl,he8,(hI.sl [] rfl)⟩
     ·have hc7:=nF hc7;have H:=bT H hc7
      refine w_skip<|hN8 _ _<|w_seq fun _ hN12=>w_seq fun _ hN13=>w_reg<|stp hA (r_ldA (j:=0) [] [[.int .u32 x0.Version],[u0_0],[u0_1],[.int .u32 x0.Time]] [] U63 rfl sz63 rfl hI rfl hA rfl rfl) rfl fun a hA=>?_
      obtain ⟨r4,hr4,H⟩:=bB H
      refine o_callp (u:=.bool r4) cf116 hA rfl hI (tx_twice.c μ _ hI.agr x0 u0_0 u0_1 ⟨hx0.1,hx0.2.1,hx0.2.2.1,hx0.2.2.2⟩ r4 hr4) rfl fun a w hz5 hI hA=>?_
      refine o_nil<|hN13 _ _<|w_cond hA rfl (fun hc8=>?_) (fun hc8=>?_)
      ·have H:=bT H hc8
       refine w_seq fun _ hN14=>w_reg<|stp hA (r_ldG U35 rfl hI.agr he3 hA) rfl fun a hA =>
        sta hA rfl rfl fun a hA=>?_
       refine o_nil<|hN14 _ _<|w_ret ?_
       obtain rfl:=sJ H
       exact ret1 hA Tryz.results91 rfl ⟨_,rfl,e3,μ,rfl,he3,(hI.sl [] rfl)⟩
      ·have hc8:=ft hc8;have H:=bF H hc8
       refine w_skip<|hN12 _ _<|w_seq fun _ hN15=>w_reg<|stp hA (r_ldA (j:=0) [] [[.int .u32 x0.Version],[u0_0],[u0_1],[.int .u32 x0.Time]] [] U63 rfl sz63 rfl hI rfl hA rfl rfl) rfl fun a hA=>?_
       obtain ⟨r5,hr5,H⟩:=bB H
       refine o_call _ cf117 hA rfl (tx_base.c μ _ hI.agr x0 u0_0 u0_1 ⟨hx0.1,hx0.2.1,hx0.2.2.1,hx0.2.2.2⟩ e6 he6 r5 hr5) rfl fun v1 a w hz6 hA=>?_
       obtain ⟨_,μ1,rfl,hS1,hi1⟩:=hz6
       have hI:=hI.call hi1
       refine sta hA rfl rfl fun a hA=>?_
       refine o_nil<|hN15 _ _<|w_ret ?_
       obtain rfl:=sJ H
       exact ret1 hA Tryz.results91 rfl ⟨_,rfl,v1,μ1,rfl,hS1,(hI.sl [] rfl)⟩
theorem q1_HeadBytes.c (μ:Store)(w0:World)(hμ:Agr μ w0)(x0:Head)(hx0:HeadW μ x0)(r:List Int)(H:q1_HeadBytes.f x0=some r) :
  Calls Tryz.prog 28 [.agg [[.int .u32 x0.Version],av .u8 32 x0.Prev,av .u8 32 x0.Root,[.int .u32 x0.Time],[.int .u32 x0.Work],[.int .u32 x0.Nonce]].flatten.toArray].toArray w0 (fun e w'=>∃ v,e=.returned v∧∃(v0:Value)(c0:List Value),v=v0∧Els (RI .u8) 1 r c0∧Iv w0 [] μ μ [row 5 1 v0 r.length c0] w'):=by
 refine enter Tryz.func28 rfl Tryz.ntmps28 rfl fun a hA=>?_
 have hI:=Iv.start hμ
 have H:=bI H
 refine w_seq fun _ hN1=>w_reg<|o_box [[.int .u32 x0.Version],av .u8 32 x0.Prev,av .u8 32 x0.Root,[.int .u32 x0.Time],[.int .u32 x0.Work],[.int .u32 x0.Nonce]] hI hA rfl rfl rfl fun g1 a w hA hI hg1 =>
  sta hA rfl rfl fun a hA=>?_
 refine o_nil<|hN1 _ _<|w_seq fun _ hN2=>?_
 refine w_anyS [] mo (fun w (h:Iv w0 [] μ μ [cel g1 [[.int .u32 x0.Version],av .u8 32 x0.Prev,av .u8 32 x0.Root,[.int .u32 x0.Time],[.int .u32 x0.Work],[.int .u32 x0.Nonce]] 26] w)=>(h.sl [0] rfl:Iv w0 [] μ μ [cel g1 [[.int .u32 x0.Version],av .u8 32 x0.Prev,av .u8 32 x0.Root,[.int .u32 x0.Time],[.int .u32 x0.Work],[.int .u32 x0.Nonce]] 26] w)) hI fun w hI=>?_
 refine gE 0 hA rfl (.inr hI) (fun _=>r_fd (k:=0) U26 rfl sz22 hA rfl rfl) fun a hA=>?_
 refine gT 1 hA rfl hI (fun w hI=>r_ld1 (j:=0) [] [av .u8 32 x0.Prev,av .u8 32 x0.Root,[.int .u32 x0.Time],[.int .u32 x0.Work],[.int .u32 x0.Nonce]] U22 rfl hI rfl hA rfl rfl) fun a hA=>?_
 refine gE 3 hA rfl (.inr hI) (fun _=>r_fd (k:=1) U26 rfl sz24 hA rfl rfl) fun a hA=>?_
 refine gE 4 hA rfl (.inr hI) (fun _=>r_slv (i:=0) (j:=32) U24 sz5 hA rfl rfl rfl (by decide) (by decide) (by decide) (by decide) rfl) fun a hA=>?_
 refine gF 2 rfl ?_
 have hI:=hI.nilRow 5 1
 obtain ⟨r1,hr1,H⟩:=bB H
 refine o_call _ cf67 hA rfl (q1_Four.c μ _ hI.agr ([]) Sn ([]) (Els.nil (RE:=(RI .u8)) (sz:=1)) (hI.item (j:=0) rfl) x0.Version hx0.1 r1 hr1) rfl fun v1 a w hz1 hA=>?_
 obtain ⟨_,cs1,rfl,hE1,hi1⟩:=hz1
 have hI:=hI.call1 0 rfl hi1
 refine o_nil<|⟨(.inr (hI.sl [1] rfl)),?_⟩
 refine gF 5 rfl ?_
 have hE2:=els_av hx0.2.1
 obtain ⟨hb1,H⟩:=bG H
 have hE3:=hE1.app hE2
 refine o_appG (xs:=(r1:List Int)) (ys:=(x0.Prev:List Int)) (M:=140737488355328) 0 te5 U30 hI rfl hA rfl rfl (by simpa using src_cel [[.int .u32 x0.Version]] [av .u8 32 x0.Root,[.int .u32 x0.Time],[.int .u32 x0.Work],[.int .u32 x0.Nonce]] hI (j:=1) rfl hx0.2.1 rfl) hE2.len (hE2.ones (one_RI _)) hb1 rfl fun v2 a w hA hI=>?_
 refine o_nil<|⟨(.inr (hI.sl [1] rfl)),?_⟩
 refine gE 6 hA rfl (.inr (hI.sl [1] rfl)) (fun _=>r_as hA rfl) fun a hA=>?_
 refine gN<|hN2 _ _<|w_seq fun _ hN3=>w_reg<|stm hA rfl rfl fun a hA =>
  stp hA (r_fd (k:=33) U26 rfl sz24 hA rfl rfl) rfl fun a hA =>
  stp hA (r_slv (i:=0) (j:=32) U24 sz5 hA rfl rfl rfl (by decide) (by decide) (by decide) (by decide) rfl) rfl fun a hA=>?_
 have hE4:=els_av hx0.2.2.1
 obtain ⟨hb2,H⟩:=bG H
 have hE5:=hE3.app hE4
 refine o_appG (xs:=(r1++x0.Prev:List Int)) (ys:=(x0.Root:List Int)) (M:=140737488355328) 0 te5 U30 hI rfl hA rfl rfl (by simpa [av_len] using src_cel [[.int .u32 x0.Version],av .u8 32 x0.Prev] [[.int .u32 x0.Time],[.int .u32 x0.Work],[.int .u32 x0.Nonce]] hI (j:=1) rfl hx0.2.2.1 rfl) hE4.len (hE4.ones (one_RI _)) hb2 rfl fun v3 a w hA hI =>
  sta hA rfl rfl fun a hA=>?_
 refine o_nil<|hN3 _ _<|w_seq fun _ hN4=>?_
 refine w_anyS [] mo (fun w (h:Iv w0 [] μ μ [row 5 1 v3 ((r1++x0.Prev)++x0.Root).length ((cs1++([av .u8 32 x0.Prev].flatten))++([av .u8 32 x0.Root].flatten)),cel g1 [[.int .u32 x0.Version],av .u8 32 x0.Prev,av .u8 32 x0.Root,[.int .u32 x0.Time],[.int .u32 x0.Work],[.int .u32 x0.Nonce]] 26] w)=>(h.sl [1] rfl:Iv w0 [] μ μ [cel g1 [[.int .u32 x0.Version],av .u8 32 x0.Prev,av .u8 32 x0.Root,[.int .u32 x0.Time],[.int .u32 x0.Work],[.int .u32 x0.Nonce]] 26] w)) hI fun w hI=>?_
 refine gE 0 hA rfl (.inr (hI.sl [1] rfl)) (fun _=>r_mv hA rfl) fun a hA=>?_
 refine gE 1 hA rfl (.inr (hI.sl [1] rfl)) (fun _=>r_fd (k:=65) U26 rfl sz22 hA rfl rfl) fun a hA=>?_
 refine gT 2 hA rfl (hI.sl [1] rfl) (fun w hI=>r_ld1 (j:=0) [[.int .u32 x0.Version],av .u8 32 x0.Prev,av .u8 32 x0.Root] [[.int .u32 x0.Work],[.int .u32 x0.Nonce]] U22 rfl hI rfl hA rfl rfl) fun a hA=>?_
 refine gE 4 hA rfl (.inr (hI.sl [1] rfl)) (fun _=>r_fd (k:=66) U26 rfl sz22 hA rfl rfl) fun a hA=>?_
 refine gT 5 hA rfl (hI.sl [1] rfl) (fun w hI=>r_ld1 (j:=0) [[.int .u32 x0.Version],av .u8 32 x0.Prev,av .u8 32 x0.Root,[.int .u32 x0.Time]] [[.int .u32 x0.Nonce]] U22 rfl hI rfl hA rfl rfl) fun a hA=>?_
 refine gE 7 hA rfl (.inr (hI.sl [1] rfl)) (fun _=>r_fd (k:=67) U26 rfl sz22 hA rfl rfl) fun a hA=>?_
 refine gT 8 hA rfl (hI.sl [1] rfl) (fun w hI=>r_ld1 (j:=0) [[.int .u32 x0.Version],av .u8 32 x0.Prev,av .u8 32 x0.Root,[.int .u32 x0.Time],[.int .u32 x0.Work]] [] U22 rfl hI rfl hA rfl rfl) fun a hA=>?_
 refine gF 3 rfl ?_
 obtain ⟨r2,hr2,H⟩:=bB H
 refine o_call _ cf67 hA rfl (q1_Four.c μ _ hI.agr ((r1++x0.Prev)++x0.Root) v3 ((cs1++([av .u8 32 x0.Prev].flatten))++([av .u8 32 x0.Root].flatten)) hE5 (hI.item (j:=0) rfl) x0.Time hx0.2.2.2.1 r2 hr2) rfl fun v4 a w hz2 hA=>?_
 obtain ⟨_,cs6,rfl,hE6,hi2⟩:=hz2
 have hI:=hI.call1 0 rfl hi2
 refine o_nil<|⟨(.inr (hI.sl [1] rfl)),?_⟩
 refine gF 6 rfl ?_
 obtain ⟨r3,hr3,H⟩:=bB H
 refine o_call _ cf67 hA rfl (q1_Four.c μ _ hI.agr r2 v4 cs6 hE6 (hI.item (j:=0) rfl) x0.Work hx0.2.2.2.2.1 r3 hr3) rfl fun v5 a w hz3 hA=>?_
 obtain ⟨_,cs7,rfl,hE7,hi3⟩:=hz3
 have hI:=hI.call1 0 rfl hi3
 refine o_nil<|⟨(.inr (hI.sl [1] rfl)),?_⟩
 refine gF 9 rfl ?_
 obtain ⟨r4,hr4,H⟩:=bB H
 refine o_call _ cf67 hA rfl (q1_Four.c μ _ hI.agr r3 v5 cs7 hE7 (hI.item (j:=0) rfl) x0.Nonce hx0.2.2.2.2.2 r4 hr4) rfl fun v6 a w hz4 hA=>?_
 obtain ⟨_,cs8,rfl,hE8,hi4⟩:=hz4
 have hI:=hI.call1 0 rfl hi4
 refine o_nil<|⟨(.inr (hI.sl [1] rfl)),?_⟩
 refine gE 10 hA rfl (.inr (hI.sl [1] rfl)) (fun _=>r_as hA rfl) fun a hA=>?_
 refine gN<|hN4 _ _<|w_ret ?_
 obtain rfl:=sJ H
 exact ret1 hA Tryz.results28 rfl ⟨_,rfl,v6,cs8,rfl,hE8,((hI.sl [0] rfl).less (Store.le.refl _) hI.le)⟩
theorem q1_TxBytes.c (μ:Store)(w0:World)(hμ:Agr μ w0)(x0:Tx)(u0_0 u0_1:Value)(hx0:TxW μ x0 u0_0 u0_1)(r:List Int)(H:q1_TxBytes.f x0=some r) :
  Calls Tryz.prog 29 [.agg [[.int .u32 x0.Version],[u0_0],[u0_1],[.int .u32 x0.Time]].flatten.toArray].toArray w0 (fun e w'=>∃ v,e=.returned v∧∃(v0:Value)(c0:List Value),v=v0∧Els (RI .u8) 1 r c0∧Iv w0 [] μ μ [row 5 1 v0 r.length c0] w'):=by
 refine enter Tryz.func29 rfl Tryz.ntmps29 rfl fun a hA=>?_
 have hI:=Iv.start hμ
 have H:=bI H
 refine w_seq fun _ hN1=>w_reg<|o_box [[.int .u32 x0.Version],[u0_0],[u0_1],[.int .u32 x0.Time]] hI hA rfl rfl rfl fun g1 a w hA hI hg1 =>
  sta hA rfl rfl fun a hA=>?_
 refine o_nil<|hN1 _ _<|w_seq fun _ hN2=>?_
 refine w_anyS [] mo (fun w (h:Iv w0 [] μ μ [cel g1 [[.int .u32 x0.Version],[u0_0],[u0_1],[.int .u32 x0.Time]] 63] w)=>(h.sl [0] rfl:Iv w0 [] μ μ [cel g1 [[.int .u32 x0.Version],[u0_0],[u0_1],[.int .u32 x0.Time]] 63] w)) hI fun w hI=>?_
 refine gE 0 hA rfl (.inr hI) (fun _=>r_fd (k:=0) U63 rfl sz22 hA rfl rfl) fun a hA=>?_
 refine gT 1 hA rfl hI (fun w hI=>r_ld1 (j:=0) [] [[u0_0],[u0_1],[.int .u32 x0.Time]] U22 rfl hI rfl hA rfl rfl) fun a hA=>?_
 refine gE 3 hA rfl (.inr hI) (fun _=>r_fd (k:=1) U63 rfl sz60 hA rfl rfl) fun a hA=>?_
 refine gT 4 hA rfl hI (fun w hI=>r_ld1 (j:=0) [[.int .u32 x0.Version]] [[u0_1],[.int .u32 x0.Time]] U60 rfl hI rfl hA rfl rfl) fun a hA=>?_
 obtain ⟨_,hsl1⟩:=Slc.sv hx0.2.1
 refine gE 5 hA rfl (.inr hI) (fun _=>r_slen U60 hsl1 hA rfl) fun a hA=>?_
 refine gE 6 hA rfl (.inr hI) (fun _=>r_conv U3 U70 hA rfl) fun a hA=>?_
 refine gF 2 rfl ?_
 have hI:=hI.nilRow 5 1
 obtain ⟨r1,hr1,H⟩:=bB H
 refine o_call _ cf67 hA rfl (q1_Four.c μ _ hI.agr ([]) Sn ([]) (Els.nil (RE:=(RI .u8)) (sz:=1)) (hI.item (j:=0) rfl) x0.Version hx0.1 r1 hr1) rfl fun v1 a w hz1 hA=>?_
 obtain ⟨_,cs1,rfl,hE1,hi1⟩:=hz1
 have hI:=hI.call1 0 rfl hi1
 refine o_nil<|⟨(.inr (hI.sl [1] rfl)),?_⟩
 refine gF 7 rfl ?_
 obtain ⟨r2,hr2,H⟩:=bB H
 refine o_call _ cf27 hA rfl (q1_Put.c μ _ hI.agr r1 v1 cs1 hE1 (hI.item (j:=0) rfl) (IntKind.u64.wrap (x0.Ins.length:Int)) (wrap_in _ _) r2 hr2) rfl fun v2 a w hz2 hA=>?_
 obtain ⟨_,cs2,rfl,hE2,hi2⟩:=hz2
 have hI:=hI.call1 0 rfl hi2
 refine o_nil<|⟨(.inr (hI.sl [1] rfl)),?_⟩
 refine gE 8 hA rfl (.inr (hI.sl [1] rfl)) (fun _=>r_as hA rfl) fun a hA=>?_
 refine gN<|hN2 _ _ ?_
 obtain ⟨c1,hz3,Hk1⟩:=bB H
 refine w_cut (fun a w=>∃(vvc1:Value)(ccc1:List Value),Els (RI .u8) 1 c1 ccc1∧Fr a 81 [(1,pt g1 0),(2,Sn),(3,vvc1)]∧Iv w0 [] μ μ [row 5 1 vvc1 c1.length ccc1,cel g1 [[.int .u32 x0.Version],[u0_0],[u0_1],[.int .u32 x0.Time]] 63] w) ?_ ?_
 ·have H:=bI hz3
  refine w_seq fun _ hN3=>w_reg<|sta hA rfl rfl fun a hA=>?_
  refine o_nil<|hN3 _ _<|w_block ?_
  obtain ⟨z1,hz4,Hk2⟩:=bind_some H
  obtain ⟨n1,hn1⟩:=loopO_some hz4
  refine w_loop (fun n a w=>∃(s1:List Int)(s2:Int)(vvs1:Value)(ccs1:List Value),loopN (q1_TxBytes.s0 x0) n (s1,s2)=some z1∧Els (RI .u8) 1 s1 ccs1∧InR .i64 s2∧Fr a 81 [(1,pt g1 0),(2,Sn),(3,vvs1),(4,.int .i64 s2)]∧Iv w0 [] μ μ [row 5 1 vvs1 s1.length ccs1,cel g1 [[.int .u32 x0.Version],[u0_0],[u0_1],[.int .u32 x0.Time]] 63] w) n1 ⟨r2,0,v2,cs2,hn1,hE2,(in_lit .i64 0 rfl),hA.sub ⟨rfl,rfl,rfl,rfl,trivial⟩,hI⟩ ?_
  clear hA hI
  rintro n a w ⟨s1,s2,vvs1,ccs1,hn1,ws1,ws2,hA,hI⟩
  obtain ⟨m1,rfl,H⟩:=loopN_bind hn1
  clear hn1
  refine w_seq fun _ hN4=>w_seq fun _ hN5=>w_reg<|stm hA rfl rfl fun a hA =>
   stp hA (r_fd (k:=1) U63 rfl sz60 hA rfl rfl) rfl fun a hA =>
   stp hA (r_ld1 (j:=1) [[.int .u32 x0.Version]] [[u0_1],[.int .u32 x0.Time]] U60 rfl hI rfl hA rfl rfl) rfl fun a hA=>?_
  obtain ⟨_,hsl2⟩:=Slc.sv hx0.2.1
  refine stp hA (r_slen U60 hsl2 hA rfl) rfl fun a hA =>
   stp hA (r_lss hA rfl rfl) rfl fun a hA=>?_
  refine o_nil<|hN5 _ _<|w_cond hA rfl (fun hc1=>?_) (fun hc1=>?_)
  ·obtain ⟨hc1,H⟩:=dT H hc1
   refine w_skip<|hN4 _ _<|w_seq fun _ hN6=>w_block<|w_seq fun _ hN7=>w_reg<|stp hA (r_fd (k:=1) U63 rfl sz60 hA rfl rfl) rfl fun a hA =>
    stp hA (r_ld1 (j:=1) [[.int .u32 x0.Version]] [[u0_1],[.int .u32 x0.Time]] U60 rfl hI rfl hA rfl rfl) rfl fun a hA =>
    stm hA rfl rfl fun a hA=>?_
   obtain ⟨hb1,H⟩:=bG H
   obtain ⟨_,he1,_,hat1⟩:=Slc.elem hx0.2.1 (getD_some default hb1.1 hb1.2)
   obtain ⟨v3,rfl,hw1⟩:=he1
   obtain ⟨_,hsl3⟩:=Slc.sv hx0.2.1
   refine stp hA (r_six U60 sz67 hsl3 hA rfl rfl hb1.1 hb1.2) rfl fun a hA =>
    stp hA (r_ldmA [] [av .u8 32 ((x0.Ins.getD s2.toNat default).From.Tx),[.int .u32 ((x0.Ins.getD s2.toNat default).From.N)],[v3],[.int .u32 ((x0.Ins.getD s2.toNat default).Seq)]] [] U67 rfl sz67 rfl hI.agr hat1 hA rfl rfl) rfl fun a hA =>
    o_new [av .u8 32 Z32,[.int .u32 0],[Sn],[.int .u32 0]] zr67 hI hA rfl fun g2 a w hA hI hg2=>?_
   obtain ⟨_,hsl4⟩:=Slc.sv hw1.2.2.1
   refine o_st (j:=0) [] [av .u8 32 Z32,[.int .u32 0],[Sn],[.int .u32 0]] [av .u8 32 ((x0.Ins.getD s2.toNat default).From.Tx),[.int .u32 ((x0.Ins.getD s2.toNat default).From.N)],[v3],[.int .u32 ((x0.Ins.getD s2.toNat default).Seq)]] [] sz67 rfl rfl (fl_cons (one_av _ _ _) (fO rfl (fl_cons (one_one (one_sl hsl4)) (fO rfl fl_nil)))) hI rfl hA rfl rfl rfl rfl fun w hI=>?_
   refine o_nil<|hN7 _ _<|w_seq fun _ hN8=>w_reg<|stm hA rfl rfl fun a hA =>
    stp hA (r_fd (k:=0) U67 rfl sz65 hA rfl rfl) rfl fun a hA =>
    stp hA (r_fd (k:=0) U65 rfl sz24 hA rfl rfl) rfl fun a hA =>
    stp hA (r_slv (i:=0) (j:=32) U24 sz5 hA rfl rfl rfl (by decide) (by decide) (by decide) (by decide) rfl) rfl fun a hA=>?_
   have hE3:=els_av hw1.1
   obtain ⟨hb2,H⟩:=bG H
   have hE4:=ws1.app hE3
   refine o_appG (xs:=(s1:List Int)) (ys:=((x0.Ins.getD s2.toNat default).From.Tx:List Int)) (M:=140737488355328) 1 te5 U30 hI rfl hA rfl rfl (by simpa using src_cel [] [[.int .u32 ((x0.Ins.getD s2.toNat default).From.N)],[v3],[.int .u32 ((x0.Ins.getD s2.toNat default).Seq)]] hI (j:=0) rfl hw1.1 rfl) hE3.len (hE3.ones (one_RI _)) hb2 rfl fun v4 a w hA hI =>
    sta hA rfl rfl fun a hA=>?_
   refine o_nil<|hN8 _ _<|w_seq fun _ hN9=>?_
   refine w_anyS [] mo (fun w (h:Iv w0 [] μ μ [cel g2 [av .u8 32 ((x0.Ins.getD s2.toNat default).From.Tx),[.int .u32 ((x0.Ins.getD s2.toNat default).From.N)],[v3],[.int .u32 ((x0.Ins.getD s2.toNat default).Seq)]] 67,row 5 1 v4 (s1++((x0.Ins.getD s2.toNat default).From.Tx)).length (ccs1++([av .u8 32 ((x0.Ins.getD s2.toNat default).From.Tx)].flatten)),cel g1 [[.int .u32 x0.Version],[u0_0],[u0_1],[.int .u32 x0.Time]] 63] w)=>(h.sl [0,2] rfl:Iv w0 [] μ μ [cel g2 [av .u8 32 ((x0.Ins.getD s2.toNat default).From.Tx),[.int .u32 ((x0.Ins.getD s2.toNat default).From.N)],[v3],[.int .u32 ((x0.Ins.getD s2.toNat default).Seq)]] 67,cel g1 [[.int .u32 x0.Version],[u0_0],[u0_1],[.int .u32 x0.Time]] 63] w)) hI fun w hI=>?_
   refine gE 0 hA rfl (.inr (hI.sl [0,2] rfl)) (fun _=>r_mv hA rfl) fun a hA=>?_
   refine gE 1 hA rfl (.inr (hI.sl [0,2] rfl)) (fun _=>r_fd (k:=0) U67 rfl sz65 hA rfl rfl) fun a hA=>?_
   refine gE 2 hA rfl (.inr (hI.sl [0,2] rfl)) (fun _=>r_fd (k:=32) U65 rfl sz22 hA rfl rfl) fun a hA=>?_
   refine gT 3 hA rfl (hI.sl [0,2] rfl) (fun w hI=>r_ld1 (j:=0) [av .u8 32 ((x0.Ins.getD s2.toNat default).From.Tx)] [[v3],[.int .u32 ((x0.Ins.getD s2.toNat default).Seq)]] U22 rfl hI rfl hA rfl rfl) fun a hA=>?_
   refine gE 5 hA rfl (.inr (hI.sl [0,2] rfl)) (fun _=>r_fd (k:=33) U67 rfl sz30 hA rfl rfl) fun a hA=>?_
   refine gT 6 hA rfl (hI.sl [0,2] rfl) (fun w hI=>r_ld1 (j:=0) [av .u8 32 ((x0.Ins.getD s2.toNat default).From.Tx),[.int .u32 ((x0.Ins.getD s2.toNat default).From.N)]] [[.int .u32 ((x0.Ins.getD s2.toNat default).Seq)]] U30 rfl hI rfl hA rfl rfl) fun a hA=>?_
   obtain ⟨_,hsl5⟩:=Slc.sv hw1.2.2.1
   refine gE 7 hA rfl (.inr (hI.sl [0,2] rfl)) (fun _=>r_slen U30 hsl5 hA rfl) fun a hA=>?_
   refine gE 8 hA rfl (.inr (hI.sl [0,2] rfl)) (fun _=>r_conv U3 U70 hA rfl) fun a hA=>?_
   refine gF 4 rfl ?_
   obtain ⟨r3,hr3,H⟩:=bB H
   refine o_call _ cf67 hA rfl (q1_Four.c μ _ hI.agr (s1++((x0.Ins.getD s2.toNat default).From.Tx)) v4 (ccs1++([av .u8 32 ((x0.Ins.getD s2.toNat default).From.Tx)].flatten)) hE4 (hI.item (j:=1) rfl) ((x0.Ins.getD s2.toNat default).From.N) hw1.2.1 r3 hr3) rfl fun v5 a w hz5 hA=>?_
   obtain ⟨_,cs5,rfl,hE5,hi3⟩:=hz5
   have hI:=hI.call1 1 rfl hi3
   refine o_nil<|⟨(.inr (hI.sl [1,2] rfl)),?_⟩
   refine gF 9 rfl ?_
   obtain ⟨r4,hr4,H⟩:=bB H
   refine o_call _ cf27 hA rfl (q1_Put.c μ _ hI.agr r3 v5 cs5 hE5 (hI.item (j:=0) rfl) (IntKind.u64.wrap (((x0.Ins.getD s2.toNat default).Key).length:Int)) (wrap_in _ _) r4 hr4) rfl fun v6 a w hz6 hA=>?_
   obtain ⟨_,cs6,rfl,hE6,hi4⟩:=hz6
   have hI:=hI.call1 0 rfl hi4
   refine o_nil<|⟨(.inr (hI.sl [1,2] rfl)),?_⟩
   refine gE 10 hA rfl (.inr (hI.sl [1,2] rfl)) (fun _=>r_as hA rfl) fun a hA=>?_
   refine gN<|hN9 _ _ ?_
   refine w_anyS [] mo (fun w (h:Iv w0 [] μ μ [row 5 1 v6 r4.length cs6,cel g2 [av .u8 32 ((x0.Ins.getD s2.toNat default).From.Tx),[.int .u32 ((x0.Ins.getD s2.toNat default).From.N)],[v3],[.int .u32 ((x0.Ins.getD s2.toNat default).Seq)]] 67,cel g1 [[.int .u32 x0.Version],[u0_0],[u0_1],[.int .u32 x0.Time]] 63] w)=>(h.sl [1,2] rfl:Iv w0 [] μ μ [cel g2 [av .u8 32 ((x0.Ins.getD s2.toNat default).From.Tx),[.int .u32 ((x0.Ins.getD s2.toNat default).From.N)],[v3],[.int .u32 ((x0.Ins.getD s2.toNat default).Seq)]] 67,cel g1 [[.int .u32 x0.Version],[u0_0],[u0_1],[.int .u32 x0.Time]] 63] w)) hI fun w hI=>?_
   refine gE 0 hA rfl (.inr (hI.sl [1,2] rfl)) (fun _=>r_mv hA rfl) fun a hA=>?_
   refine gE 1 hA rfl (.inr (hI.sl [1,2] rfl)) (fun _=>r_fd (k:=33) U67 rfl sz30 hA rfl rfl) fun a hA=>?_
   refine gT 2 hA rfl (hI.sl [1,2] rfl) (fun w hI=>r_ld1 (j:=0) [av .u8 32 ((x0.Ins.getD s2.toNat default).From.Tx),[.int .u32 ((x0.Ins.getD s2.toNat default).From.N)]] [[.int .u32 ((x0.Ins.getD s2.toNat default).Seq)]] U30 rfl hI rfl hA rfl rfl) fun a hA=>?_
   refine gE 4 hA rfl (.inr (hI.sl [1,2] rfl)) (fun _=>r_fd (k:=34) U67 rfl sz22 hA rfl rfl) fun a hA=>?_
   refine gT 5 hA rfl (hI.sl [1,2] rfl) (fun w hI=>r_ld1 (j:=0) [av .u8 32 ((x0.Ins.getD s2.toNat default).From.Tx),[.int .u32 ((x0.Ins.getD s2.toNat default).From.N)],[v3]] [] U22 rfl hI rfl hA rfl rfl) fun a hA=>?_
   refine gF 3 rfl ?_
   obtain ⟨cs7,hE7,hsv2⟩:Slc (RI .u8) 1 μ v3 ((x0.Ins.getD s2.toNat default).Key):=id (hw1.2.2.1)
   obtain ⟨hb3,H⟩:=bG H
   have hE8:=hE6.app hE7
   refine o_appG (xs:=(r4:List Int)) (ys:=((x0.Ins.getD s2.toNat default).Key:List Int)) (M:=140737488355328) 0 te5 U30 hI rfl hA rfl rfl (src_sl hI.agr hsv2 hE7.len) hE7.len (hE7.ones (one_RI _)) hb3 rfl fun v7 a w hA hI=>?_
   refine o_nil<|⟨(.inr (hI.sl [1,2] rfl)),?_⟩
   refine gF 6 rfl ?_
   obtain ⟨r5,hr5,H⟩:=bB H
   refine o_call _ cf67 hA rfl (q1_Four.c μ _ hI.agr (r4++((x0.Ins.getD s2.toNat default).Key)) v7 (cs6++cs7) hE8 (hI.item (j:=0) rfl) ((x0.Ins.getD s2.toNat default).Seq) hw1.2.2.2 r5 hr5) rfl fun v8 a w hz7 hA=>?_
   obtain ⟨_,cs9,rfl,hE9,hi5⟩:=hz7
   have hI:=hI.call1 0 rfl hi5
   refine o_nil<|⟨(.inr (hI.sl [1,2] rfl)),?_⟩
   refine gE 7 hA rfl (.inr (hI.sl [1,2] rfl)) (fun _=>r_as hA rfl) fun a hA=>?_
   refine gN<|hN6 _ _<|w_reg<|stm hA rfl rfl fun a hA =>
    stp hA (r_add hA rfl rfl) rfl fun a hA =>
    sta hA rfl rfl fun a hA=>?_
   refine o_nil<|⟨m1,lS _,r5,IntKind.i64.wrap (s2+1),v8,cs9,H,hE9,(wrap_in _ _),hA.sub ⟨rfl,rfl,rfl,rfl,trivial⟩,(hI.sl [0,2] rfl)⟩
  ·obtain ⟨hc1,H⟩:=dF H hc1
   refine w_exit rfl ?_
   have H:some s1=some z1:=H
   obtain rfl:=sI H
   have H:=Hk2
   cases sJ H
   exact ⟨vvs1,ccs1,ws1,hA.sub ⟨rfl,rfl,rfl,trivial⟩,hI⟩
 ·rintro a w ⟨vvc1,ccc1,wc1,hA,hI⟩
  have H:=Hk1
  refine w_seq fun _ hN10=>w_reg<|stm hA rfl rfl fun a hA =>
   stp hA (r_fd (k:=2) U63 rfl sz61 hA rfl rfl) rfl fun a hA =>
   stp hA (r_ld1 (j:=1) [[.int .u32 x0.Version],[u0_0]] [[.int .u32 x0.Time]] U61 rfl hI rfl hA rfl rfl) rfl fun a hA=>?_
  obtain ⟨_,hsl6⟩:=Slc.sv hx0.2.2.1
  refine stp hA (r_slen U61 hsl6 hA rfl) rfl fun a hA =>
   stp hA (r_conv U3 U70 hA rfl) rfl fun a hA=>?_
  obtain ⟨r6,hr6,H⟩:=bB H
  refine o_call _ cf27 hA rfl (q1_Put.c μ _ hI.agr c1 vvc1 ccc1 wc1 (hI.item (j:=0) rfl) (IntKind.u64.wrap (x0.Outs.length:Int)) (wrap_in _ _) r6 hr6) rfl fun v9 a w hz8 hA=>?_
  obtain ⟨_,cs10,rfl,hE10,hi6⟩:=hz8
  have hI:=hI.call1 0 rfl hi6
  refine sta hA rfl rfl fun a hA=>?_
  refine o_nil<|hN10 _ _ ?_
  obtain ⟨c2,hz9,Hk3⟩:=bB H
  refine w_cut (fun a w=>∃(vvc2:Value)(ccc2:List Value),Els (RI .u8) 1 c2 ccc2∧Fr a 81 [(1,pt g1 0),(2,Sn),(3,vvc2)]∧Iv w0 [] μ μ [row 5 1 vvc2 c2.length ccc2,cel g1 [[.int .u32 x0.Version],[u0_0],[u0_1],[.int .u32 x0.Time]] 63] w) ?_ ?_
  ·have H:=bI hz9
   refine w_seq fun _ hN11=>w_reg<|sta hA rfl rfl fun a hA=>?_
   refine o_nil<|hN11 _ _<|w_block ?_
   obtain ⟨z2,hz10,Hk4⟩:=bind_some H
   obtain ⟨n2,hn2⟩:=loopO_some hz10
   refine w_loop (fun n a w=>∃(s3:List Int)(s4:Int)(vvs3:Value)(ccs3:List Value),loopN (q1_TxBytes.s1 x0) n (s3,s4)=some z2∧Els (RI .u8) 1 s3 ccs3∧InR .i64 s4∧Fr a 81 [(1,pt g1 0),(2,Sn),(3,vvs3),(6,.int .i64 s4)]∧Iv w0 [] μ μ [row 5 1 vvs3 s3.length ccs3,cel g1 [[.int .u32 x0.Version],[u0_0],[u0_1],[.int .u32 x0.Time]] 63] w) n2 ⟨r6,0,v9,cs10,hn2,hE10,(in_lit .i64 0 rfl),hA.sub ⟨rfl,rfl,rfl,rfl,trivial⟩,hI⟩ ?_
   clear hA hI
   rintro n a w ⟨s3,s4,vvs3,ccs3,hn2,ws3,ws4,hA,hI⟩
   obtain ⟨m2,rfl,H⟩:=loopN_bind hn2
   clear hn2
   refine w_seq fun _ hN12=>w_seq fun _ hN13=>w_reg<|stm hA rfl rfl fun a hA =>
    stp hA (r_fd (k:=2) U63 rfl sz61 hA rfl rfl) rfl fun a hA =>
    stp hA (r_ld1 (j:=1) [[.int .u32 x0.Version],[u0_0]] [[.int .u32 x0.Time]] U61 rfl hI rfl hA rfl rfl) rfl fun a hA=>?_
   obtain ⟨_,hsl7⟩:=Slc.sv hx0.2.2.1
   refine stp hA (r_slen U61 hsl7 hA rfl) rfl fun a hA =>
    stp hA (r_lss hA rfl rfl) rfl fun a hA=>?_
   refine o_nil<|hN13 _ _<|w_cond hA rfl (fun hc2=>?_) (fun hc2=>?_)
   ·obtain ⟨hc2,H⟩:=dT H hc2
    refine w_skip<|hN12 _ _<|w_seq fun _ hN14=>w_block ?_
    refine w_anyS [] mo (fun w (h:Iv w0 [] μ μ [row 5 1 vvs3 s3.length ccs3,cel g1 [[.int .u32 x0.Version],[u0_0],[u0_1],[.int .u32 x0.Time]] 63] w)=>(h.sl [1] rfl:Iv w0 [] μ μ [cel g1 [[.int .u32 x0.Version],[u0_0],[u0_1],[.int .u32 x0.Time]] 63] w)) hI fun w hI=>?_
    refine gE 0 hA rfl (.inr (hI.sl [1] rfl)) (fun _=>r_mv hA rfl) fun a hA=>?_
    refine gE 1 hA rfl (.inr (hI.sl [1] rfl)) (fun _=>r_fd (k:=2) U63 rfl sz61 hA rfl rfl) fun a hA=>?_
    refine gT 2 hA rfl (hI.sl [1] rfl) (fun w hI=>r_ld1 (j:=0) [[.int .u32 x0.Version],[u0_0]] [[.int .u32 x0.Time]] U61 rfl hI rfl hA rfl rfl) fun a hA=>?_
    refine gE 3 hA rfl (.inr (hI.sl [1] rfl)) (fun _=>r_mv hA rfl) fun a hA=>?_
    obtain ⟨hb4,H⟩:=bG H
    obtain ⟨_,he2,_,hat2⟩:=Slc.elem hx0.2.2.1 (getD_some default hb4.1 hb4.2)
    obtain ⟨rfl,hw2⟩:=he2
    obtain ⟨_,hsl8⟩:=Slc.sv hx0.2.2.1
    refine gE 4 hA rfl (.inr (hI.sl [1] rfl)) (fun _=>r_six U61 sz106 hsl8 hA rfl rfl hb4.1 hb4.2) fun a hA=>?_
    refine gE 5 hA rfl (.inr (hI.sl [1] rfl)) (fun _=>r_fd (k:=so u0_1+s4.toNat * 33) U106 rfl sz70 hA rfl rfl) fun a hA=>?_
    refine gT 6 hA rfl (hI.sl [1] rfl) (fun w hI=>r_ldm1 [] [av .u8 32 ((x0.Outs.getD s4.toNat default).Lock)] U70 rfl hI.agr hat2 hA rfl rfl) fun a hA=>?_
    refine gE 8 hA rfl (.inr (hI.sl [1] rfl)) (fun _=>r_fd (k:=2) U63 rfl sz61 hA rfl rfl) fun a hA=>?_
    refine gT 9 hA rfl (hI.sl [1] rfl) (fun w hI=>r_ld1 (j:=0) [[.int .u32 x0.Version],[u0_0]] [[.int .u32 x0.Time]] U61 rfl hI rfl hA rfl rfl) fun a hA=>?_
    refine gE 10 hA rfl (.inr (hI.sl [1] rfl)) (fun _=>r_mv hA rfl) fun a hA=>?_
    refine gE 11 hA rfl (.inr (hI.sl [1] rfl)) (fun _=>r_six U61 sz106 hsl8 hA rfl rfl hb4.1 hb4.2) fun a hA=>?_
    refine gE 12 hA rfl (.inr (hI.sl [1] rfl)) (fun _=>r_fd (k:=so u0_1+s4.toNat * 33+1) U106 rfl sz24 hA rfl rfl) fun a hA=>?_
    obtain ⟨v10,hS1,hr7⟩:=r_sla (b:=0) (P:=Tryz.prog) (t:=24) (x:=.tmp 74) (l:=none) (h:=none) (i:=0) (j:=32) U24 sz5 (at_in [[.int .u64 ((x0.Outs.getD s4.toNat default).Value)]] [av .u8 32 ((x0.Outs.getD s4.toNat default).Lock)] [] hat2 rfl) hw2.2 (by decide) hA rfl rfl rfl (by omega) (by omega) (by omega)
    refine gE 13 hA rfl (.inr (hI.sl [1] rfl)) (fun _=>hr7 _ _ _ _ _ _) fun a hA=>?_
    refine gF 7 rfl ?_
    obtain ⟨r7,hr8,H⟩:=bB H
    refine o_call _ cf68 hA rfl (q1_Eight.c μ _ hI.agr s3 vvs3 ccs3 ws3 (hI.item (j:=0) rfl) ((x0.Outs.getD s4.toNat default).Value) hw2.1 r7 hr8) rfl fun v11 a w hz11 hA=>?_
    obtain ⟨_,cs11,rfl,hE11,hi7⟩:=hz11
    have hI:=hI.call1 0 rfl hi7
    refine o_nil<|⟨(.inr (hI.sl [1] rfl)),?_⟩
    refine gF 14 rfl ?_
    obtain ⟨cs12,hE12,hsv3⟩:Slc (RI .u8) 1 μ v10 ((((x0.Outs.getD s4.toNat default).Lock).take (32:Int).toNat).drop (0:Int).toNat):=id (hS1)
    obtain ⟨hb5,H⟩:=bG H
    have hE13:=hE11.app hE12
    refine o_appG (xs:=(r7:List Int)) (ys:=((((x0.Outs.getD s4.toNat default).Lock).take (32:Int).toNat).drop (0:Int).toNat:List Int)) (M:=140737488355328) 0 te5 U30 hI rfl hA rfl rfl (src_sl hI.agr hsv3 hE12.len) hE12.len (hE12.ones (one_RI _)) hb5 rfl fun v12 a w hA hI=>?_
    refine o_nil<|⟨(.inr (hI.sl [1] rfl)),?_⟩
    refine gE 15 hA rfl (.inr (hI.sl [1] rfl)) (fun _=>r_as hA rfl) fun a hA=>?_
    refine gN<|hN14 _ _<|w_reg<|stm hA rfl rfl fun a hA =>
     stp hA (r_add hA rfl rfl) rfl fun a hA =>
     sta hA rfl rfl fun a hA=>?_
    refine o_nil<|⟨m2,lS _,r7++((((x0.Outs.getD s4.toNat default).Lock).take (32:Int).toNat).drop (0:Int).toNat),IntKind.i64.wrap (s4+1),v12,cs11++cs12,H,hE13,(wrap_in _ _),hA.sub ⟨rfl,rfl,rfl,rfl,trivial⟩,hI⟩
   ·obtain ⟨hc2,H⟩:=dF H hc2
    refine w_exit rfl ?_
    have H:some s3=some z2:=H
    obtain rfl:=sI H
    have H:=Hk4
    cases sJ H
    exact ⟨vvs3,ccs3,ws3,hA.sub ⟨rfl,rfl,rfl,trivial⟩,hI⟩
  ·rintro a w ⟨vvc2,ccc2,wc2,hA,hI⟩
   have H:=Hk3
   refine w_seq fun _ hN15=>w_reg<|stm hA rfl rfl fun a hA =>
    stp hA (r_fd (k:=3) U63 rfl sz22 hA rfl rfl) rfl fun a hA =>
    stp hA (r_ld1 (j:=1) [[.int .u32 x0.Version],[u0_0],[u0_1]] [] U22 rfl hI rfl hA rfl rfl) rfl fun a hA=>?_
   obtain ⟨r8,hr9,H⟩:=bB H
   refine o_call _ cf67 hA rfl (q1_Four.c μ _ hI.agr c2 vvc2 ccc2 wc2 (hI.item (j:=0) rfl) x0.Time hx0.2.2.2 r8 hr9) rfl fun v13 a w hz12 hA=>?_
   obtain ⟨_,cs14,rfl,hE14,hi8⟩:=hz12
   have hI:=hI.call1 0 rfl hi8
   refine sta hA rfl rfl fun a hA=>?_
   refine o_nil<|hN15 _ _<|w_ret ?_
   obtain rfl:=sJ H
   exact ret1 hA Tryz.results29 rfl ⟨_,rfl,v13,cs14,rfl,hE14,((hI.sl [0] rfl).less (Store.le.refl _) hI.le)⟩
theorem q1_BlockBytes.c (μ:Store)(w0:World)(hμ:Agr μ w0)(x0:Block)(u0_0:Value)(hx0:BlockW μ x0 u0_0)(r:List Int)(H:q1_BlockBytes.f x0=some r) :
  Calls Tryz.prog 6 [.agg [[.int .u32 x0.Head.Version],av .u8 32 x0.Head.Prev,av .u8 32 x0.Head.Root,[.int .u32 x0.Head.Time],[.int .u32 x0.Head.Work],[.int .u32 x0.Head.Nonce],[u0_0]].flatten.toArray].toArray w0 (fun e w'=>∃ v,e=.returned v∧∃(v0:Value)(c0:List Value),v=v0∧Els (RI .u8) 1 r c0∧Iv w0 [] μ μ [row 5 1 v0 r.length c0] w'):=by
 refine enter Tryz.func6 rfl Tryz.ntmps6 rfl fun a hA=>?_
 have hI:=Iv.start hμ
 have H:=bI H
 refine w_seq fun _ hN1=>w_reg<|o_box [[.int .u32 x0.Head.Version],av .u8 32 x0.Head.Prev,av .u8 32 x0.Head.Root,[.int .u32 x0.Head.Time],[.int .u32 x0.Head.Work],[.int .u32 x0.Head.Nonce],[u0_0]] hI hA rfl rfl rfl fun g1 a w hA hI hg1 =>
  sta hA rfl rfl fun a hA=>?_
 refine o_nil<|hN1 _ _<|w_seq fun _ hN2=>?_
 refine w_anyS [] mo (fun w (h:Iv w0 [] μ μ [cel g1 [[.int .u32 x0.Head.Version],av .u8 32 x0.Head.Prev,av .u8 32 x0.Head.Root,[.int .u32 x0.Head.Time],[.int .u32 x0.Head.Work],[.int .u32 x0.Head.Nonce],[u0_0]] 29] w)=>(h.sl [0] rfl:Iv w0 [] μ μ [cel g1 [[.int .u32 x0.Head.Version],av .u8 32 x0.Head.Prev,av .u8 32 x0.Head.Root,[.int .u32 x0.Head.Time],[.int .u32 x0.Head.Work],[.int .u32 x0.Head.Nonce],[u0_0]] 29] w)) hI fun w hI=>?_
 refine gE 0 hA rfl (.inr hI) (fun _=>r_fd (k:=0) U29 rfl sz26 hA rfl rfl) fun a hA=>?_
 refine gT 1 hA rfl hI (fun w hI=>r_ldA (j:=0) [] [[.int .u32 x0.Head.Version],av .u8 32 x0.Head.Prev,av .u8 32 x0.Head.Root,[.int .u32 x0.Head.Time],[.int .u32 x0.Head.Work],[.int .u32 x0.Head.Nonce]] [[u0_0]] U26 rfl sz26 rfl hI rfl hA rfl rfl) fun a hA=>?_
 refine gE 3 hA rfl (.inr hI) (fun _=>r_fd (k:=68) U29 rfl sz27 hA rfl rfl) fun a hA=>?_
 refine gT 4 hA rfl hI (fun w hI=>r_ld1 (j:=0) [[.int .u32 x0.Head.Version],av .u8 32 x0.Head.Prev,av .u8 32 x0.Head.Root,[.int .u32 x0.Head.Time],[.int .u32 x0.Head.Work],[.int .u32 x0.Head.Nonce]] [] U27 rfl hI rfl hA rfl rfl) fun a hA=>?_
 obtain ⟨_,hsl1⟩:=Slc.sv hx0.2.2.2.2.2.2
 refine gE 5 hA rfl (.inr hI) (fun _=>r_slen U27 hsl1 hA rfl) fun a hA=>?_
 refine gE 6 hA rfl (.inr hI) (fun _=>r_conv U3 U70 hA rfl) fun a hA=>?_
 refine gF 2 rfl ?_
 obtain ⟨r1,hr1,H⟩:=bB H
 refine o_call _ cf28 hA rfl (q1_HeadBytes.c μ _ hI.agr x0.Head ⟨hx0.1,hx0.2.1,hx0.2.2.1,hx0.2.2.2.1,hx0.2.2.2.2.1,hx0.2.2.2.2.2.1⟩ r1 hr1) rfl fun v1 a w hz1 hA=>?_
 obtain ⟨_,cs1,rfl,hE1,hi1⟩:=hz1
 have hI:=hI.call hi1
 refine o_nil<|⟨(.inr (hI.sl [1] rfl)),?_⟩
 refine gF 7 rfl ?_
 obtain ⟨r2,hr2,H⟩:=bB H
 refine o_call _ cf27 hA rfl (q1_Put.c μ _ hI.agr r1 v1 cs1 hE1 (hI.item (j:=0) rfl) (IntKind.u64.wrap (x0.Txs.length:Int)) (wrap_in _ _) r2 hr2) rfl fun v2 a w hz2 hA=>?_
 obtain ⟨_,cs2,rfl,hE2,hi2⟩:=hz2
 have hI:=hI.call1 0 rfl hi2
 refine o_nil<|⟨(.inr (hI.sl [1] rfl)),?_⟩
 refine gE 8 hA rfl (.inr (hI.sl [1] rfl)) (fun _=>r_as hA rfl) fun a hA=>?_
 refine gN<|hN2 _ _ ?_
 obtain ⟨c1,hz3,Hk1⟩:=bB H
 refine w_cut (fun a w=>∃(vvc1:Value)(ccc1:List Value),Els (RI .u8) 1 c1 ccc1∧Fr a 29 [(2,Sn),(3,vvc1)]∧Iv w0 [] μ μ [row 5 1 vvc1 c1.length ccc1,cel g1 [[.int .u32 x0.Head.Version],av .u8 32 x0.Head.Prev,av .u8 32 x0.Head.Root,[.int .u32 x0.Head.Time],[.int .u32 x0.Head.Work],[.int .u32 x0.Head.Nonce],[u0_0]] 29] w) ?_ ?_
 ·have H:=bI hz3
  refine w_seq fun _ hN3=>w_reg<|sta hA rfl rfl fun a hA=>?_
  refine o_nil<|hN3 _ _<|w_block ?_
  obtain ⟨z1,hz4,Hk2⟩:=bind_some H
  obtain ⟨n1,hn1⟩:=loopO_some hz4
  refine w_loop (fun n a w=>∃(s1:List Int)(s2:Int)(vvs1:Value)(ccs1:List Value),loopN (q1_BlockBytes.s0 x0) n (s1,s2)=some z1∧Els (RI .u8) 1 s1 ccs1∧InR .i64 s2∧Fr a 29 [(1,pt g1 0),(2,Sn),(3,vvs1),(4,.int .i64 s2)]∧Iv w0 [] μ μ [row 5 1 vvs1 s1.length ccs1,cel g1 [[.int .u32 x0.Head.Version],av .u8 32 x0.Head.Prev,av .u8 32 x0.Head.Root,[.int .u32 x0.Head.Time],[.int .u32 x0.Head.Work],[.int .u32 x0.Head.Nonce],[u0_0]] 29] w) n1 ⟨r2,0,v2,cs2,hn1,hE2,(in_lit .i64 0 rfl),hA.sub ⟨rfl,rfl,rfl,rfl,trivial⟩,hI⟩ ?_
  clear hA hI
  rintro n a w ⟨s1,s2,vvs1,ccs1,hn1,ws1,ws2,hA,hI⟩
  obtain ⟨m1,rfl,H⟩:=loopN_bind hn1
  clear hn1
  refine w_seq fun _ hN4=>w_seq fun _ hN5=>w_reg<|stm hA rfl rfl fun a hA =>
   stp hA (r_fd (k:=68) U29 rfl sz27 hA rfl rfl) rfl fun a hA =>
   stp hA (r_ld1 (j:=1) [[.int .u32 x0.Head.Version],av .u8 32 x0.Head.Prev,av .u8 32 x0.Head.Root,[.int .u32 x0.Head.Time],[.int .u32 x0.Head.Work],[.int .u32 x0.Head.Nonce]] [] U27 rfl hI rfl hA rfl rfl) rfl fun a hA=>?_
  obtain ⟨_,hsl2⟩:=Slc.sv hx0.2.2.2.2.2.2
  refine stp hA (r_slen U27 hsl2 hA rfl) rfl fun a hA =>
   stp hA (r_lss hA rfl rfl) rfl fun a hA=>?_
  refine o_nil<|hN5 _ _<|w_cond hA rfl (fun hc1=>?_) (fun hc1=>?_)
  ·obtain ⟨hc1,H⟩:=dT H hc1
   refine w_skip<|hN4 _ _<|w_seq fun _ hN6=>w_block<|w_reg<|stm hA rfl rfl fun a hA =>
    stp hA (r_fd (k:=68) U29 rfl sz27 hA rfl rfl) rfl fun a hA =>
    stp hA (r_ld1 (j:=1) [[.int .u32 x0.Head.Version],av .u8 32 x0.Head.Prev,av .u8 32 x0.Head.Root,[.int .u32 x0.Head.Time],[.int .u32 x0.Head.Work],[.int .u32 x0.Head.Nonce]] [] U27 rfl hI rfl hA rfl rfl) rfl fun a hA =>
    stm hA rfl rfl fun a hA=>?_
   obtain ⟨hb1,H⟩:=bG H
   obtain ⟨_,he1,_,hat1⟩:=Slc.elem hx0.2.2.2.2.2.2 (getD_some default hb1.1 hb1.2)
   obtain ⟨v3,v4,rfl,hw1⟩:=he1
   obtain ⟨_,hsl3⟩:=Slc.sv hx0.2.2.2.2.2.2
   refine stp hA (r_six U27 sz63 hsl3 hA rfl rfl hb1.1 hb1.2) rfl fun a hA =>
    stp hA (r_ldmA [] [[.int .u32 ((x0.Txs.getD s2.toNat default).Version)],[v3],[v4],[.int .u32 ((x0.Txs.getD s2.toNat default).Time)]] [] U63 rfl sz63 rfl hI.agr hat1 hA rfl rfl) rfl fun a hA=>?_
   obtain ⟨r3,hr3,H⟩:=bB H
   refine o_call _ cf29 hA rfl (q1_TxBytes.c μ _ hI.agr (x0.Txs.getD s2.toNat default) v3 v4 ⟨hw1.1,hw1.2.1,hw1.2.2.1,hw1.2.2.2⟩ r3 hr3) rfl fun v5 a w hz5 hA=>?_
   obtain ⟨_,cs3,rfl,hE3,hi3⟩:=hz5
   have hI:=hI.call hi3
   obtain ⟨hb2,H⟩:=bG H
   have hE5:=ws1.app hE3
   refine o_appG (xs:=(s1:List Int)) (ys:=(r3:List Int)) (M:=140737488355328) 1 te5 U30 hI rfl hA rfl rfl (src_row hI (j:=0) rfl) hE3.len (hE3.ones (one_RI _)) hb2 rfl fun v6 a w hA hI =>
    sta hA rfl rfl fun a hA=>?_
   refine o_nil<|hN6 _ _<|w_reg<|stm hA rfl rfl fun a hA =>
    stp hA (r_add hA rfl rfl) rfl fun a hA =>
    sta hA rfl rfl fun a hA=>?_
   refine o_nil<|⟨m1,lS _,s1++r3,IntKind.i64.wrap (s2+1),v6,ccs1++cs3,H,hE5,(wrap_in _ _),hA.sub ⟨rfl,rfl,rfl,rfl,trivial⟩,(hI.sl [1,2] rfl)⟩
  ·obtain ⟨hc1,H⟩:=dF H hc1
   refine w_exit rfl ?_
   have H:some s1=some z1:=H
   obtain rfl:=sI H
   have H:=Hk2
   cases sJ H
   exact ⟨vvs1,ccs1,ws1,hA.sub ⟨rfl,rfl,trivial⟩,hI⟩
 ·rintro a w ⟨vvc1,ccc1,wc1,hA,hI⟩
  have H:=Hk1
  refine w_seq fun _ hN7=>w_reg<|stm hA rfl rfl fun a hA =>
   sta hA rfl rfl fun a hA=>?_
  refine o_nil<|hN7 _ _<|w_ret ?_
  obtain rfl:=sJ H
  exact ret1 hA Tryz.results6 rfl ⟨_,rfl,vvc1,ccc1,rfl,wc1,((hI.sl [0] rfl).less (Store.le.refl _) hI.le)⟩
theorem tx_Take.c (μ:Store)(w0:World)(hμ:Agr μ w0)(x0:cRd)(vp1 vp2:Value)(g0:Nat)(hp1:Slc (RI .u8) 1 μ vp1 x0.b)(hp2:InR .i64 x0.at_)(hp3:ErS μ vp2 x0.err)(ho0:Its μ w0 [cel g0 [[vp1],[.int .i64 x0.at_],[vp2]] 109])(e0:Value)(he0:ErS μ e0 (Er.b 1))(e1:Value)(he1:ErS μ e1 (Er.b 2))(e9:Value)(he9:ErS μ e9 (Er.b 10))(r:Tx×cRd)(H:tx_Take.f x0=some r) :
  Calls Tryz.prog 33 [pt g0 0].toArray w0 (fun e w'=>∃ v,e=.returned v∧∃(v0_0 v0_1 vp_1 vp_2:Value)(μ':Store),v=.agg [[.int .u32 ((r.1).Version)],[v0_0],[v0_1],[.int .u32 ((r.1).Time)]].flatten.toArray∧TxW μ' (r.1) v0_0 v0_1∧Slc (RI .u8) 1 μ' vp_1 (r.2).b∧InR .i64 (r.2).at_∧ErS μ' vp_2 (r.2).err∧Iv w0 (many [cel g0 [[vp1],[.int .i64 x0.at_],[vp2]] 109]).foot μ μ' [cel g0 [[vp_1],[.int .i64 ((r.2).at_)],[vp_2]] 109] w'):=by
 refine enter Tryz.func33 rfl Tryz.ntmps33 rfl fun a hA=>?_
 have hI:=Iv.startN hμ ho0
 have H:=bI H
 refine w_seq fun _ hN1=>w_reg<|o_new [[.int .u32 0],[Sn],[Sn],[.int .u32 0]] zr63 hI hA rfl fun g1 a w hA hI hg1=>?_
 refine o_nil<|hN1 _ _<|w_seq fun _ hN2=>w_reg<|stm hA rfl rfl fun a hA=>?_
 obtain ⟨r1,hr1,H⟩:=bB H
 have hI:=hI.sl [1,0] rfl
 refine o_call _ cf70 hA rfl (cR_Four.c μ _ hI.agr x0 vp1 vp2 g0 hp1 hp2 hp3 (hI.handN 1) e9 he9 r1 hr1) rfl fun v1 a w hz1 hA=>?_
 obtain ⟨vp3,vp4,μ1,rfl,hw1,hp4,hp5,hp6,hi1⟩:=hz1
 have hI:=hI.back1 hi1
 refine stp hA (r_bldS (cs:=[[.int .u32 r1.1],[Sn],[Sn],[.int .u32 0]].flatten.toArray) (pl:=[(0,1),(1,1),(2,1),(3,1)]) zr63 U63 ⟨rfl,sz22,rfl,sz60,rfl,sz61,rfl,sz22,trivial⟩ hA rfl (by kernel_rfl)) rfl fun a hA =>
  o_new [[.int .u32 0],[Sn],[Sn],[.int .u32 0]] zr63 hI hA rfl fun g2 a w hA hI hg2 =>
  o_st (j:=0) [] [[.int .u32 0],[Sn],[Sn],[.int .u32 0]] [[.int .u32 r1.1],[Sn],[Sn],[.int .u32 0]] [] sz63 rfl rfl (fO rfl (fO rfl (fO rfl (fO rfl fl_nil)))) hI rfl hA rfl rfl rfl rfl fun w hI=>?_
 refine o_nil<|hN2 _ _ ?_
 obtain ⟨⟨c1,c2,c3,c4⟩,hz2,Hk1⟩:=bB H
 refine w_cut (fun a w=>∃(μ2:Store)(vvc1:Value)(ccc1:List Value)(vvc2 vvc4:Value),μ1.le μ2∧Els (RIn μ2) 35 c1 ccc1∧Slc (RI .u8) 1 μ2 vvc2 c2∧InR .i64 c3∧ErS μ2 vvc4 c4∧Fr a 62 [(0,pt g0 0),(2,pt g1 0),(3,pt g2 0)]∧Iv w0 (many [cel g0 [[vp1],[.int .i64 x0.at_],[vp2]] 109]).foot μ μ2 [row 67 35 vvc1 c1.length ccc1,cel g2 [[.int .u32 r1.1],[vvc1],[Sn],[.int .u32 0]] 63,cel g0 [[vvc2],[.int .i64 c3],[vvc4]] 109,cel g1 [[.int .u32 0],[Sn],[Sn],[.int .u32 0]] 63] w) ?_ ?_
 ·have H:=bI hz2
  refine w_seq fun _ hN3=>w_reg<|stm hA rfl rfl fun a hA=>?_
  obtain ⟨r2,hr2,H⟩:=bB H
  have hI:=hI.sl [1,0,2] rfl
  refine o_call _ cf32 hA rfl (cR_Num.c μ1 _ hI.agr r1.2 vp3 vp4 g0 hp4 hp5 hp6 (hI.handN 1) 50 (in_lit .u64 50 rfl) e0 (ErV.le (fun _ _ h=>h) hi1.le he0) e1 (ErV.le (fun _ _ h=>h) hi1.le he1) e9 (ErV.le (fun _ _ h=>h) hi1.le he9) r2 hr2) rfl fun v2 a w hz3 hA=>?_
  obtain ⟨vp5,vp6,μ3,rfl,hw2,hp7,hp8,hp9,hi2⟩:=hz3
  have hI:=hI.back1 hi2
  refine stm hA rfl rfl fun a hA=>?_
  refine o_nil<|hN3 _ _<|w_block ?_
  have hI:=hI.nilRow 67 35
  obtain ⟨z1,hz4,Hk2⟩:=bind_some H
  obtain ⟨n1,hn1⟩:=loopO_some hz4
  refine w_loop (fun n a w=>∃(s1:Int)(s2:List Int)(s3:Int)(s4:Er)(s5:List In)(μ4:Store)(vvs2 vvs4 vvs5:Value)(ccs5:List Value),loopN (tx_Take.s0 r2) n (s1,s2,s3,s4,s5)=some z1∧μ3.le μ4∧InR .u64 s1∧Slc (RI .u8) 1 μ4 vvs2 s2∧InR .i64 s3∧ErS μ4 vvs4 s4∧Els (RIn μ4) 35 s5 ccs5∧Fr a 62 [(0,pt g0 0),(2,pt g1 0),(3,pt g2 0),(10,.int .u64 r2.1),(11,.int .u64 s1)]∧Iv w0 (many [cel g0 [[vp1],[.int .i64 x0.at_],[vp2]] 109]).foot μ μ4 [row 67 35 vvs5 s5.length ccs5,cel g0 [[vvs2],[.int .i64 s3],[vvs4]] 109,cel g2 [[.int .u32 r1.1],[vvs5],[Sn],[.int .u32 0]] 63,cel g1 [[.int .u32 0],[Sn],[Sn],[.int .u32 0]] 63] w) n1 ⟨0,r2.2.b,r2.2.at_,r2.2.err,[],μ3,vp5,vp6,Sn,[],hn1,(Store.le.refl _),(in_lit .u64 0 rfl),hp7,hp8,hp9,(Els.nil (RE:=(RIn μ3)) (sz:=35)),hA.sub ⟨rfl,rfl,rfl,rfl,rfl,trivial⟩,hI⟩ ?_
  clear hA hI
  rintro n a w ⟨s1,s2,s3,s4,s5,μ4,vvs2,vvs4,vvs5,ccs5,hn1,hle2,ws1,ws2,ws3,ws4,ws5,hA,hI⟩
  obtain ⟨m1,rfl,H⟩:=loopN_bind hn1
  clear hn1
  refine w_seq fun _ hN4=>w_reg<|stp hA (r_lss hA rfl rfl) rfl fun a hA=>?_
  refine o_nil<|hN4 _ _<|w_seq fun _ hN5=>w_cond hA rfl (fun hc1=>?_) (fun hc1=>?_)
  ·obtain ⟨hc1,H⟩:=dT H hc1
   refine w_skip<|hN5 _ _<|w_seq fun _ hN6=>w_block<|w_seq fun _ hN7=>w_reg<|o_new [av .u8 32 Z32,[.int .u32 0],[Sn],[.int .u32 0]] zr67 hI hA rfl fun g3 a w hA hI hg3=>?_
   refine o_nil<|hN7 _ _<|w_seq fun _ hN8=>w_reg<|stm hA rfl rfl fun a hA=>?_
   obtain ⟨r3,hr3,H⟩:=bB H
   have hI:=hI.sl [2,0,1,3,4] rfl
   refine o_call _ cf71 hA rfl (cR_Hash.c μ4 _ hI.agr (⟨s2,s3,s4⟩:cRd) vvs2 vvs4 g0 ws2 ws3 ws4 (hI.handN 1) e9 (ErV.le (fun _ _ h=>h) ((hi1.le.trans hi2.le).trans hle2) he9) r3 hr3) rfl fun v3 a w hz5 hA=>?_
   obtain ⟨vp7,vp8,μ5,rfl,hw3,hp10,hp11,hp12,hi3⟩:=hz5
   have hI:=hI.back1 hi3
   refine stp hA (r_fd (k:=0) U67 rfl sz65 hA rfl rfl) rfl fun a hA =>
    stp hA (r_fd (k:=0) U65 rfl sz24 hA rfl rfl) rfl fun a hA =>
    o_st (j:=1) [] [av .u8 32 Z32] [av .u8 32 r3.1] [[.int .u32 0],[Sn],[.int .u32 0]] sz24 rfl rfl (fl_cons (one_av _ _ _) fl_nil) hI rfl hA rfl rfl rfl rfl fun w hI=>?_
   refine o_nil<|hN8 _ _<|w_seq fun _ hN9=>w_reg<|stm hA rfl rfl fun a hA=>?_
   obtain ⟨r4,hr4,H⟩:=bB H
   refine o_call _ cf70 hA rfl (cR_Four.c μ5 _ hI.agr r3.2 vp7 vp8 g0 hp10 hp11 hp12 (hI.handN 1) e9 (ErV.le (fun _ _ h=>h) (((hi1.le.trans hi2.le).trans hle2).trans hi3.le) he9) r4 hr4) rfl fun v4 a w hz6 hA=>?_
   obtain ⟨vp9,vp10,μ6,rfl,hw4,hp13,hp14,hp15,hi4⟩:=hz6
   have hI:=hI.back1 hi4
   refine stp hA (r_fd (k:=0) U67 rfl sz65 hA rfl rfl) rfl fun a hA =>
    stp hA (r_fd (k:=32) U65 rfl sz22 hA rfl rfl) rfl fun a hA =>
    o_st (j:=1) [av .u8 32 r3.1] [[.int .u32 0]] [[.int .u32 r4.1]] [[Sn],[.int .u32 0]] sz22 rfl rfl (fO rfl fl_nil) hI rfl hA rfl rfl rfl rfl fun w hI=>?_
   refine o_nil<|hN9 _ _<|w_seq fun _ hN10=>w_reg<|stm hA rfl rfl fun a hA =>
    stm hA rfl rfl fun a hA=>?_
   obtain ⟨r5,hr5,H⟩:=bB H
   refine o_call _ cf32 hA rfl (cR_Num.c μ6 _ hI.agr r4.2 vp9 vp10 g0 hp13 hp14 hp15 (hI.handN 1) 80 (in_lit .u64 80 rfl) e0 (ErV.le (fun _ _ h=>h) ((((hi1.le.trans hi2.le).trans hle2).trans hi3.le).trans hi4.le) he0) e1 (ErV.le (fun _ _ h=>h) ((((hi1.le.trans hi2.le).trans hle2).trans hi3.le).trans hi4.le) he1) e9 (ErV.le (fun _ _ h=>h) ((((hi1.le.trans hi2.le).trans hle2).trans hi3.le).trans hi4.le) he9) r5 hr5) rfl fun v5 a w hz7 hA=>?_
   obtain ⟨vp11,vp12,μ7,rfl,hw5,hp16,hp17,hp18,hi5⟩:=hz7
   have hI:=hI.back1 hi5
   refine stp hA (r_conv U70 U3 hA rfl) rfl fun a hA=>?_
   obtain ⟨r6,hr6,H⟩:=bB H
   refine o_call _ cf74 hA rfl (cR_Bytes.c μ7 _ hI.agr r5.2 vp11 vp12 g0 hp16 hp17 hp18 (hI.handN 1) (IntKind.i64.wrap r5.1) (wrap_in _ _) e9 (ErV.le (fun _ _ h=>h) (((((hi1.le.trans hi2.le).trans hle2).trans hi3.le).trans hi4.le).trans hi5.le) he9) r6 hr6) rfl fun v6 a w hz8 hA=>?_
   obtain ⟨_,cs1,vp13,vp14,μ8,rfl,hE1,hp19,hp20,hp21,hi6⟩:=hz8
   have hI:=hI.backN 1 hi6
   have hI:Iv w0 (many [cel g0 [[vp1],[.int .i64 x0.at_],[vp2]] 109]).foot μ μ8 [row 5 1 v6 r6.1.length cs1,cel g0 [[vp13],[.int .i64 r6.2.at_],[vp14]] 109,cel g3 [av .u8 32 r3.1,[.int .u32 r4.1],[Sn],[.int .u32 0]] 67,row 67 35 vvs5 s5.length ccs5,cel g2 [[.int .u32 r1.1],[vvs5],[Sn],[.int .u32 0]] 63,cel g1 [[.int .u32 0],[Sn],[Sn],[.int .u32 0]] 63] w:=hI
   refine stp hA (r_fd (k:=33) U67 rfl sz30 hA rfl rfl) rfl fun a hA=>?_
   have hone:=own_one hI (j:=0) rfl
   have hcel:=own_cell hI (j:=0) rfl
   refine o_st (j:=2) [av .u8 32 r3.1,[.int .u32 r4.1]] [[Sn]] [[v6]] [[.int .u32 0]] sz30 rfl rfl (by intro c hc;simp at hc;subst hc;exact hone) hI rfl hA rfl rfl hcel rfl fun w hI=>?_
   refine o_nil<|hN10 _ _<|w_seq fun _ hN11=>w_reg<|stm hA rfl rfl fun a hA=>?_
   obtain ⟨r7,hr7,H⟩:=bB H
   have hI:=hI.sl [1,0,2,3,4,5] rfl
   refine o_call _ cf70 hA rfl (cR_Four.c μ8 _ hI.agr r6.2 vp13 vp14 g0 hp19 hp20 hp21 (hI.handN 1) e9 (ErV.le (fun _ _ h=>h) ((((((hi1.le.trans hi2.le).trans hle2).trans hi3.le).trans hi4.le).trans hi5.le).trans hi6.le) he9) r7 hr7) rfl fun v7 a w hz9 hA=>?_
   obtain ⟨vp15,vp16,μ9,rfl,hw6,hp22,hp23,hp24,hi7⟩:=hz9
   have hI:=hI.back1 hi7
   refine stp hA (r_fd (k:=34) U67 rfl sz22 hA rfl rfl) rfl fun a hA =>
    o_st (j:=2) [av .u8 32 r3.1,[.int .u32 r4.1],[v6]] [[.int .u32 0]] [[.int .u32 r7.1]] [] sz22 rfl rfl (fO rfl fl_nil) hI rfl hA rfl rfl rfl rfl fun w hI=>?_
   refine o_nil<|hN11 _ _<|w_reg<|stp hA (r_fd (k:=1) U63 rfl sz60 hA rfl rfl) rfl fun a hA =>
    stp hA (r_ld1 (j:=4) [[.int .u32 r1.1]] [[Sn],[.int .u32 0]] U60 rfl hI rfl hA rfl rfl) rfl fun a hA =>
    stp hA (r_ldA (j:=2) [] [av .u8 32 r3.1,[.int .u32 r4.1],[v6],[.int .u32 r7.1]] [] U67 rfl sz67 rfl hI rfl hA rfl rfl) rfl fun a hA=>?_
   obtain ⟨μ10,hle3,hsv1,hI⟩:=hI.freezeRow 1 rfl
   have hS1:Slc (RI .u8) 1 μ10 v6 r6.1:=⟨_,hE1,hsv1⟩
   have hE2:Els (RIn μ10) 35 ([(⟨(⟨r3.1,r4.1⟩:Point),r6.1,r7.1⟩:In)]:List In) _:=(Els.cons (c:=[av .u8 32 r3.1,[.int .u32 r4.1],[v6],[.int .u32 r7.1]].flatten) ⟨v6,rfl,⟨hw3,hw4,hS1,hw6⟩⟩ rfl Els.nil)
   refine o_bsl ([av .u8 32 r3.1,[.int .u32 r4.1],[v6],[.int .u32 r7.1]].flatten++([])) te67 zr67 U60 hI hA rfl rfl rfl rfl (by kernel_rfl) rfl fun g4 a w hA hI=>?_
   generalize hcs:([av .u8 32 r3.1,[.int .u32 r4.1],[v6],[.int .u32 r7.1]].flatten++([]):List Value)=cs2 at hE2 hI
   clear hcs
   obtain ⟨hb1,H⟩:=bG H
   have hE4:=(Els.mono ws5 (fun _ _ h=>RIn.le (((((hi3.le.trans hi4.le).trans hi5.le).trans hi6.le).trans hi7.le).trans hle3) h)).app hE2
   refine o_appG (xs:=(s5:List In)) (ys:=(([(⟨(⟨r3.1,r4.1⟩:Point),r6.1,r7.1⟩:In)]:List In):List In)) (M:=1954687338268) 3 te67 U60 hI rfl hA rfl rfl (src_row hI (j:=0) rfl) hE2.len (hE2.ones RIn.ones) hb1 rfl fun v8 a w hA hI =>
    stp hA (r_fd (k:=1) U63 rfl sz60 hA rfl rfl) rfl fun a hA=>?_
   have hone:=own_one hI (j:=3) rfl
   have hcel:=own_cell hI (j:=3) rfl
   refine o_st (j:=4) [[.int .u32 r1.1]] [[vvs5]] [[v8]] [[Sn],[.int .u32 0]] sz60 rfl rfl (by intro c hc;simp at hc;subst hc;exact hone) hI rfl hA rfl rfl hcel rfl fun w hI=>?_
   refine o_nil<|hN6 _ _<|w_reg<|stp hA (r_add hA rfl rfl) rfl fun a hA =>
    stm hA rfl rfl fun a hA=>?_
   refine o_nil<|⟨m1,lS _,IntKind.u64.wrap (s1+1),r7.2.b,r7.2.at_,r7.2.err,s5++([(⟨(⟨r3.1,r4.1⟩:Point),r6.1,r7.1⟩:In)]:List In),μ10,vp15,vp16,v8,ccs5++cs2,H,((((((hle2.trans hi3.le).trans hi4.le).trans hi5.le).trans hi6.le).trans hi7.le).trans hle3),(wrap_in _ _),(Slc.le hp22 (fun _ _ h=>h) hle3),hp23,(ErV.le (fun _ _ h=>h) hle3 hp24),hE4,hA.sub ⟨rfl,rfl,rfl,rfl,rfl,trivial⟩,(hI.sl [3,1,4,5] rfl)⟩
  ·obtain ⟨hc1,H⟩:=dF H hc1
   refine w_exit rfl ?_
   have H:some (s5,s2,s3,s4)=some z1:=H
   obtain rfl:=sI H
   have H:=Hk2
   cases sJ H
   exact ⟨μ4,vvs5,ccs5,vvs2,vvs4,(hi2.le.trans hle2),ws5,ws2,ws3,ws4,hA.sub ⟨rfl,rfl,rfl,trivial⟩,(hI.sl [0,2,1,3] rfl)⟩
 ·rintro a w ⟨μ2,vvc1,ccc1,vvc2,vvc4,hle1,wc1,wc2,wc3,wc4,hA,hI⟩
  have H:=Hk1
  obtain ⟨⟨c5,c6,c7,c8⟩,hz10,Hk3⟩:=bB H
  refine w_cut (fun a w=>∃(μ11:Store)(vvc5:Value)(ccc5:List Value)(vvc6 vvc8:Value),μ2.le μ11∧Els (ROut μ11) 33 c5 ccc5∧Slc (RI .u8) 1 μ11 vvc6 c6∧InR .i64 c7∧ErS μ11 vvc8 c8∧Fr a 62 [(0,pt g0 0),(2,pt g1 0),(3,pt g2 0)]∧Iv w0 (many [cel g0 [[vp1],[.int .i64 x0.at_],[vp2]] 109]).foot μ μ11 [row 106 33 vvc5 c5.length ccc5,row 67 35 vvc1 c1.length ccc1,cel g2 [[.int .u32 r1.1],[vvc1],[vvc5],[.int .u32 0]] 63,cel g0 [[vvc6],[.int .i64 c7],[vvc8]] 109,cel g1 [[.int .u32 0],[Sn],[Sn],[.int .u32 0]] 63] w) ?_ ?_
  ·have H:=bI hz10
   refine w_seq fun _ hN12=>w_reg<|stm hA rfl rfl fun a hA=>?_
   obtain ⟨r8,hr8,H⟩:=bB H
   have hI:=hI.sl [2,0,1,3] rfl
   refine o_call _ cf32 hA rfl (cR_Num.c μ2 _ hI.agr (⟨c2,c3,c4⟩:cRd) vvc2 vvc4 g0 wc2 wc3 wc4 (hI.handN 1) 50 (in_lit .u64 50 rfl) e0 (ErV.le (fun _ _ h=>h) (hi1.le.trans hle1) he0) e1 (ErV.le (fun _ _ h=>h) (hi1.le.trans hle1) he1) e9 (ErV.le (fun _ _ h=>h) (hi1.le.trans hle1) he9) r8 hr8) rfl fun v9 a w hz11 hA=>?_
   obtain ⟨vp17,vp18,μ12,rfl,hw7,hp25,hp26,hp27,hi8⟩:=hz11
   have hI:=hI.back1 hi8
   refine stm hA rfl rfl fun a hA=>?_
   refine o_nil<|hN12 _ _<|w_block ?_
   have hI:=hI.nilRow 106 33
   obtain ⟨z2,hz12,Hk4⟩:=bind_some H
   obtain ⟨n2,hn2⟩:=loopO_some hz12
   refine w_loop (fun n a w=>∃(s6:Int)(s7:List Int)(s8:Int)(s9:Er)(s10:List Out)(μ13:Store)(vvs7 vvs9 vvs10:Value)(ccs10:List Value),loopN (tx_Take.s1 r8) n (s6,s7,s8,s9,s10)=some z2∧μ12.le μ13∧InR .u64 s6∧Slc (RI .u8) 1 μ13 vvs7 s7∧InR .i64 s8∧ErS μ13 vvs9 s9∧Els (ROut μ13) 33 s10 ccs10∧Fr a 62 [(0,pt g0 0),(2,pt g1 0),(3,pt g2 0),(38,.int .u64 r8.1),(39,.int .u64 s6)]∧Iv w0 (many [cel g0 [[vp1],[.int .i64 x0.at_],[vp2]] 109]).foot μ μ13 [row 106 33 vvs10 s10.length ccs10,cel g0 [[vvs7],[.int .i64 s8],[vvs9]] 109,row 67 35 vvc1 c1.length ccc1,cel g2 [[.int .u32 r1.1],[vvc1],[vvs10],[.int .u32 0]] 63,cel g1 [[.int .u32 0],[Sn],[Sn],[.int .u32 0]] 63] w) n2 ⟨0,r8.2.b,r8.2.at_,r8.2.err,[],μ12,vp17,vp18,Sn,[],hn2,(Store.le.refl _),(in_lit .u64 0 rfl),hp25,hp26,hp27,(Els.nil (RE:=(ROut μ12)) (sz:=33)),hA.sub ⟨rfl,rfl,rfl,rfl,rfl,trivial⟩,hI⟩ ?_
   clear hA hI
   rintro n a w ⟨s6,s7,s8,s9,s10,μ13,vvs7,vvs9,vvs10,ccs10,hn2,hle5,ws6,ws7,ws8,ws9,ws10,hA,hI⟩
   obtain ⟨m2,rfl,H⟩:=loopN_bind hn2
   clear hn2
   refine w_seq fun _ hN13=>w_reg<|stp hA (r_lss hA rfl rfl) rfl fun a hA=>?_
   refine o_nil<|hN13 _ _<|w_seq fun _ hN14=>w_cond hA rfl (fun hc2=>?_) (fun hc2=>?_)
   ·obtain ⟨hc2,H⟩:=dT H hc2
    refine w_skip<|hN14 _ _<|w_seq fun _ hN15=>w_block<|w_seq fun _ hN16=>w_reg<|stm hA rfl rfl fun a hA=>?_
    obtain ⟨r9,hr9,H⟩:=bB H
    have hI:=hI.sl [1,0,2,3,4] rfl
    refine o_call _ cf75 hA rfl (cR_Eight.c μ13 _ hI.agr (⟨s7,s8,s9⟩:cRd) vvs7 vvs9 g0 ws7 ws8 ws9 (hI.handN 1) e9 (ErV.le (fun _ _ h=>h) (((hi1.le.trans hle1).trans hi8.le).trans hle5) he9) r9 hr9) rfl fun v10 a w hz13 hA=>?_
    obtain ⟨vp19,vp20,μ14,rfl,hw8,hp28,hp29,hp30,hi9⟩:=hz13
    have hI:=hI.back1 hi9
    refine stp hA (r_bldS (cs:=[[.int .u64 r9.1],av .u8 32 Z32].flatten.toArray) (pl:=[(0,1),(1,32)]) zr106 U106 ⟨rfl,sz70,rfl,sz24,trivial⟩ hA rfl (by kernel_rfl)) rfl fun a hA =>
     o_new [[.int .u64 0],av .u8 32 Z32] zr106 hI hA rfl fun g5 a w hA hI hg5 =>
     o_st (j:=0) [] [[.int .u64 0],av .u8 32 Z32] [[.int .u64 r9.1],av .u8 32 Z32] [] sz106 rfl rfl (fO rfl (fl_cons (one_av _ _ _) fl_nil)) hI rfl hA rfl rfl rfl rfl fun w hI=>?_
    refine o_nil<|hN16 _ _<|w_seq fun _ hN17=>w_reg<|stm hA rfl rfl fun a hA=>?_
    obtain ⟨r10,hr10,H⟩:=bB H
    have hI:=hI.sl [1,0,2,3,4,5] rfl
    refine o_call _ cf71 hA rfl (cR_Hash.c μ14 _ hI.agr r9.2 vp19 vp20 g0 hp28 hp29 hp30 (hI.handN 1) e9 (ErV.le (fun _ _ h=>h) ((((hi1.le.trans hle1).trans hi8.le).trans hle5).trans hi9.le) he9) r10 hr10) rfl fun v11 a w hz14 hA=>?_
    obtain ⟨vp21,vp22,μ15,rfl,hw9,hp31,hp32,hp33,hi10⟩:=hz14
    have hI:=hI.back1 hi10
    refine stp hA (r_fd (k:=1) U106 rfl sz24 hA rfl rfl) rfl fun a hA =>
     o_st (j:=1) [[.int .u64 r9.1]] [av .u8 32 Z32] [av .u8 32 r10.1] [] sz24 rfl rfl (fl_cons (one_av _ _ _) fl_nil) hI rfl hA rfl rfl rfl rfl fun w hI=>?_
    refine o_nil<|hN17 _ _<|w_reg<|stp hA (r_fd (k:=2) U63 rfl sz61 hA rfl rfl) rfl fun a hA =>
     stp hA (r_ld1 (j:=4) [[.int .u32 r1.1],[vvc1]] [[.int .u32 0]] U61 rfl hI rfl hA rfl rfl) rfl fun a hA =>
     stp hA (r_ldA (j:=1) [] [[.int .u64 r9.1],av .u8 32 r10.1] [] U106 rfl sz106 rfl hI rfl hA rfl rfl) rfl fun a hA=>?_
    have hE5:Els (ROut μ15) 33 ([(⟨r9.1,r10.1⟩:Out)]:List Out) _:=(Els.cons (c:=[[.int .u64 r9.1],av .u8 32 r10.1].flatten) ⟨rfl,⟨hw8,hw9⟩⟩ rfl Els.nil)
    refine o_bsl ([[.int .u64 r9.1],av .u8 32 r10.1].flatten++([])) te106 zr106 U61 hI hA rfl rfl rfl rfl (by kernel_rfl) rfl fun g6 a w hA hI=>?_
    generalize hcs:([[.int .u64 r9.1],av .u8 32 r10.1].flatten++([]):List Value)=cs5 at hE5 hI
    clear hcs
    obtain ⟨hb2,H⟩:=bG H
    have hE7:=ws10.app hE5
    refine o_appG (xs:=(s10:List Out)) (ys:=(([(⟨r9.1,r10.1⟩:Out)]:List Out):List Out)) (M:=3518437208883) 3 te106 U61 hI rfl hA rfl rfl (src_row hI (j:=0) rfl) hE5.len (hE5.ones ROut.ones) hb2 rfl fun v12 a w hA hI =>
     stp hA (r_fd (k:=2) U63 rfl sz61 hA rfl rfl) rfl fun a hA=>?_
    have hone:=own_one hI (j:=3) rfl
    have hcel:=own_cell hI (j:=3) rfl
    refine o_st (j:=5) [[.int .u32 r1.1],[vvc1]] [[vvs10]] [[v12]] [[.int .u32 0]] sz61 rfl rfl (by intro c hc;simp at hc;subst hc;exact hone) hI rfl hA rfl rfl hcel rfl fun w hI=>?_
    refine o_nil<|hN15 _ _<|w_reg<|stp hA (r_add hA rfl rfl) rfl fun a hA =>
     stm hA rfl rfl fun a hA=>?_
    refine o_nil<|⟨m2,lS _,IntKind.u64.wrap (s6+1),r10.2.b,r10.2.at_,r10.2.err,s10++([(⟨r9.1,r10.1⟩:Out)]:List Out),μ15,vp21,vp22,v12,ccs10++cs5,H,((hle5.trans hi9.le).trans hi10.le),(wrap_in _ _),hp31,hp32,hp33,hE7,hA.sub ⟨rfl,rfl,rfl,rfl,rfl,trivial⟩,(hI.sl [3,1,4,5,6] rfl)⟩
   ·obtain ⟨hc2,H⟩:=dF H hc2
    refine w_exit rfl ?_
    have H:some (s10,s7,s8,s9)=some z2:=H
    obtain rfl:=sI H
    have H:=Hk4
    cases sJ H
    exact ⟨μ13,vvs10,ccs10,vvs7,vvs9,(hi8.le.trans hle5),ws10,ws7,ws8,ws9,hA.sub ⟨rfl,rfl,rfl,trivial⟩,(hI.sl [0,2,3,1,4] rfl)⟩
  ·rintro a w ⟨μ11,vvc5,ccc5,vvc6,vvc8,hle4,wc5,wc6,wc7,wc8,hA,hI⟩
   have H:=Hk3
   refine w_seq fun _ hN18=>w_reg<|stm hA rfl rfl fun a hA=>?_
   obtain ⟨r11,hr11,H⟩:=bB H
   have hI:=hI.sl [3,0,1,2,4] rfl
   refine o_call _ cf70 hA rfl (cR_Four.c μ11 _ hI.agr (⟨c6,c7,c8⟩:cRd) vvc6 vvc8 g0 wc6 wc7 wc8 (hI.handN 1) e9 (ErV.le (fun _ _ h=>h) ((hi1.le.trans hle1).trans hle4) he9) r11 hr11) rfl fun v13 a w hz15 hA=>?_
   obtain ⟨vp23,vp24,μ16,rfl,hw10,hp34,hp35,hp36,hi11⟩:=hz15
   have hI:=hI.back1 hi11
   refine stp hA (r_fd (k:=3) U63 rfl sz22 hA rfl rfl) rfl fun a hA =>
    o_st (j:=3) [[.int .u32 r1.1],[vvc1],[vvc5]] [[.int .u32 0]] [[.int .u32 r11.1]] [] sz22 rfl rfl (fO rfl fl_nil) hI rfl hA rfl rfl rfl rfl fun w hI=>?_
   refine o_nil<|hN18 _ _<|w_seq fun _ hN19=>w_seq fun _ hN20=>w_reg<|stm hA rfl rfl fun a hA=>?_
   obtain ⟨r12,hr12,H⟩:=bB H
   refine o_call _ cf34 hA rfl (cR_Err.c μ16 _ hI.agr r11.2 vp23 vp24 g0 hp34 hp35 hp36 (hI.handN 1) r12 hr12) rfl fun v14 a w hz16 hA=>?_
   obtain ⟨_,μ17,rfl,hS2,hi12⟩:=hz16
   have hI:=hI.back1 hi12
   refine stp hA (r_neE erF hI.agr hS2 erv_nil (.inl ⟨.inr ⟨_,rfl⟩,Er.fitR⟩) hA rfl rfl) rfl fun a hA=>?_
   refine o_nil<|hN20 _ _<|w_cond hA rfl (fun hc3=>?_) (fun hc3=>?_)
   ·obtain ⟨hc3,H⟩:=dT H hc3
    refine w_seq fun _ hN21=>w_reg<|stp hA (r_bldS (cs:=[[.int .u32 0],[Sn],[Sn],[.int .u32 0]].flatten.toArray) (pl:=[(0,1),(1,1),(2,1),(3,1)]) zr63 U63 ⟨rfl,sz22,rfl,sz60,rfl,sz61,rfl,sz22,trivial⟩ hA rfl (by kernel_rfl)) rfl fun a hA =>
     o_st (j:=4) [] [[.int .u32 0],[Sn],[Sn],[.int .u32 0]] [[.int .u32 0],[Sn],[Sn],[.int .u32 0]] [] sz63 rfl rfl (fO rfl (fO rfl (fO rfl (fO rfl fl_nil)))) hI rfl hA rfl rfl rfl rfl fun w hI=>?_
    refine o_nil<|hN21 _ _<|w_ret ?_
    obtain rfl:=sJ H
    exact retc U63 rfl sz63 rfl hI (j:=4) rfl hA Tryz.results33 rfl ⟨_,rfl,Sn,Sn,vp23,vp24,μ17,rfl,⟨(in_lit .u32 0 rfl),(slc_nil _ _ _),(slc_nil _ _ _),(in_lit .u32 0 rfl)⟩,(Slc.le hp34 (fun _ _ h=>h) hi12.le),hp35,(ErV.le (fun _ _ h=>h) hi12.le hp36),(hI.sl [0] rfl)⟩
   ·obtain ⟨hc3,H⟩:=dF H hc3
    refine w_skip<|hN19 _ _<|w_seq fun _ hN22=>w_reg<|stp hA (r_ldA (j:=3) [] [[.int .u32 r1.1],[vvc1],[vvc5],[.int .u32 r11.1]] [] U63 rfl sz63 rfl hI rfl hA rfl rfl) rfl fun a hA =>
     o_st (j:=4) [] [[.int .u32 0],[Sn],[Sn],[.int .u32 0]] [[.int .u32 r1.1],[vvc1],[vvc5],[.int .u32 r11.1]] [] sz63 rfl rfl (fO rfl (fl_cons (one_one (own_one hI (j:=2) rfl)) (fl_cons (one_one (own_one hI (j:=1) rfl)) (fO rfl fl_nil)))) hI rfl hA rfl rfl rfl rfl fun w hI=>?_
    refine o_nil<|hN22 _ _<|w_ret ?_
    obtain ⟨μ18,hle6,hsv4,hI⟩:=hI.freezeRow 2 rfl
    have hS3:Slc (RIn μ18) 35 μ18 vvc1 c1:=⟨_,(Els.mono wc1 (fun _ _ h=>RIn.le (((hle4.trans hi11.le).trans hi12.le).trans hle6) h)),hsv4⟩
    obtain ⟨μ19,hle7,hsv5,hI⟩:=hI.freezeRow 1 rfl
    have hS4:Slc (ROut μ19) 33 μ19 vvc5 c5:=⟨_,wc5,hsv5⟩
    obtain rfl:=sJ H
    exact retc U63 rfl sz63 rfl hI (j:=2) rfl hA Tryz.results33 rfl ⟨_,rfl,vvc1,vvc5,vp23,vp24,μ19,rfl,⟨hw1,(Slc.le hS3 (fun _ _ h=>RIn.le hle7 h) hle7),hS4,hw10⟩,(Slc.le hp34 (fun _ _ h=>h) ((hi12.le.trans hle6).trans hle7)),hp35,(ErV.le (fun _ _ h=>h) ((hi12.le.trans hle6).trans hle7) hp36),(hI.sl [0] rfl)⟩
theorem q1_TakeHead.c (μ:Store)(w0:World)(hμ:Agr μ w0)(x0:q1Rd)(vp1:Value)(g0:Nat)(hp1:Slc (RI .u8) 1 μ vp1 x0.B)(hp2:InR .i64 x0.E)(ho0:Its μ w0 [cel g0 [[vp1],[.int .i64 x0.E]] 81])(r:Head×q1Rd)(H:q1_TakeHead.f x0=some r) :
  Calls Tryz.prog 36 [pt g0 0].toArray w0 (fun e w'=>∃ v,e=.returned v∧∃(vp_1:Value)(μ':Store),v=.agg [[.int .u32 ((r.1).Version)],av .u8 32 ((r.1).Prev),av .u8 32 ((r.1).Root),[.int .u32 ((r.1).Time)],[.int .u32 ((r.1).Work)],[.int .u32 ((r.1).Nonce)]].flatten.toArray∧HeadW μ (r.1)∧Slc (RI .u8) 1 μ' vp_1 (r.2).B∧InR .i64 (r.2).E∧Iv w0 (many [cel g0 [[vp1],[.int .i64 x0.E]] 81]).foot μ μ' [cel g0 [[vp_1],[.int .i64 ((r.2).E)]] 81] w'):=by
 refine enter Tryz.func36 rfl Tryz.ntmps36 rfl fun a hA=>?_
 have hI:=Iv.startN hμ ho0
 have H:=bI H
 refine w_seq fun _ hN1=>w_reg<|o_new [[.int .u32 0],av .u8 32 Z32,av .u8 32 Z32,[.int .u32 0],[.int .u32 0],[.int .u32 0]] zr26 hI hA rfl fun g1 a w hA hI hg1=>?_
 refine o_nil<|hN1 _ _<|w_seq fun _ hN2=>w_reg<|o_new [[.int .u32 0],av .u8 32 Z32,av .u8 32 Z32,[.int .u32 0],[.int .u32 0],[.int .u32 0]] zr26 hI hA rfl fun g2 a w hA hI hg2=>?_
 refine o_nil<|hN2 _ _<|w_seq fun _ hN3=>w_reg<|stm hA rfl rfl fun a hA=>?_
 obtain ⟨r1,hr1,H⟩:=bB H
 have hI:=hI.sl [2,0,1] rfl
 refine o_call _ cf76 hA rfl (q1R_Four.c μ _ hI.agr x0 vp1 g0 hp1 hp2 (hI.handN 1) r1 hr1) rfl fun v1 a w hz1 hA=>?_
 obtain ⟨vp2,μ1,rfl,hw1,hp3,hp4,hi1⟩:=hz1
 have hI:=hI.back1 hi1
 refine stp hA (r_fd (k:=0) U26 rfl sz22 hA rfl rfl) rfl fun a hA =>
  o_st (j:=1) [] [[.int .u32 0]] [[.int .u32 r1.1]] [av .u8 32 Z32,av .u8 32 Z32,[.int .u32 0],[.int .u32 0],[.int .u32 0]] sz22 rfl rfl (fO rfl fl_nil) hI rfl hA rfl rfl rfl rfl fun w hI=>?_
 refine o_nil<|hN3 _ _<|w_seq fun _ hN4=>w_reg<|stm hA rfl rfl fun a hA=>?_
 obtain ⟨r2,hr2,H⟩:=bB H
 refine o_call _ cf77 hA rfl (q1R_Hash.c μ1 _ hI.agr r1.2 vp2 g0 hp3 hp4 (hI.handN 1) r2 hr2) rfl fun v2 a w hz2 hA=>?_
 obtain ⟨vp3,μ2,rfl,hw2,hp5,hp6,hi2⟩:=hz2
 have hI:=hI.back1 hi2
 refine stp hA (r_fd (k:=1) U26 rfl sz24 hA rfl rfl) rfl fun a hA =>
  o_st (j:=1) [[.int .u32 r1.1]] [av .u8 32 Z32] [av .u8 32 r2.1] [av .u8 32 Z32,[.int .u32 0],[.int .u32 0],[.int .u32 0]] sz24 rfl rfl (fl_cons (one_av _ _ _) fl_nil) hI rfl hA rfl rfl rfl rfl fun w hI=>?_
 refine o_nil<|hN4 _ _<|w_seq fun _ hN5=>w_reg<|stm hA rfl rfl fun a hA=>?_
 obtain ⟨r3,hr3,H⟩:=bB H
 refine o_call _ cf77 hA rfl (q1R_Hash.c μ2 _ hI.agr r2.2 vp3 g0 hp5 hp6 (hI.handN 1) r3 hr3) rfl fun v3 a w hz3 hA=>?_
 obtain ⟨vp4,μ3,rfl,hw3,hp7,hp8,hi3⟩:=hz3
 have hI:=hI.back1 hi3
 refine stp hA (r_fd (k:=33) U26 rfl sz24 hA rfl rfl) rfl fun a hA =>
  o_st (j:=1) [[.int .u32 r1.1],av .u8 32 r2.1] [av .u8 32 Z32] [av .u8 32 r3.1] [[.int .u32 0],[.int .u32 0],[.int .u32 0]] sz24 rfl rfl (fl_cons (one_av _ _ _) fl_nil) hI rfl hA rfl rfl rfl rfl fun w hI=>?_
 refine o_nil<|hN5 _ _<|w_seq fun _ hN6=>w_reg<|stm hA rfl rfl fun a hA=>?_
 obtain ⟨r4,hr4,H⟩:=bB H
 refine o_call _ cf76 hA rfl (q1R_Four.c μ3 _ hI.agr r3.2 vp4 g0 hp7 hp8 (hI.handN 1) r4 hr4) rfl fun v4 a w hz4 hA=>?_
 obtain ⟨vp5,μ4,rfl,hw4,hp9,hp10,hi4⟩:=hz4
 have hI:=hI.back1 hi4
 refine stp hA (r_fd (k:=65) U26 rfl sz22 hA rfl rfl) rfl fun a hA =>
  o_st (j:=1) [[.int .u32 r1.1],av .u8 32 r2.1,av .u8 32 r3.1] [[.int .u32 0]] [[.int .u32 r4.1]] [[.int .u32 0],[.int .u32 0]] sz22 rfl rfl (fO rfl fl_nil) hI rfl hA rfl rfl rfl rfl fun w hI=>?_
 refine o_nil<|hN6 _ _<|w_seq fun _ hN7=>w_reg<|stm hA rfl rfl fun a hA=>?_
 obtain ⟨r5,hr5,H⟩:=bB H
 refine o_call _ cf76 hA rfl (q1R_Four.c μ4 _ hI.agr r4.2 vp5 g0 hp9 hp10 (hI.handN 1) r5 hr5) rfl fun v5 a w hz5 hA=>?_
 obtain ⟨vp6,μ5,rfl,hw5,hp11,hp12,hi5⟩:=hz5
 have hI:=hI.back1 hi5
 refine stp hA (r_fd (k:=66) U26 rfl sz22 hA rfl rfl) rfl fun a hA =>
  o_st (j:=1) [[.int .u32 r1.1],av .u8 32 r2.1,av .u8 32 r3.1,[.int .u32 r4.1]] [[.int .u32 0]] [[.int .u32 r5.1]] [[.int .u32 0]] sz22 rfl rfl (fO rfl fl_nil) hI rfl hA rfl rfl rfl rfl fun w hI=>?_
 refine o_nil<|hN7 _ _<|w_seq fun _ hN8=>w_reg<|stm hA rfl rfl fun a hA=>?_
 obtain ⟨r6,hr6,H⟩:=bB H
 refine o_call _ cf76 hA rfl (q1R_Four.c μ5 _ hI.agr r5.2 vp6 g0 hp11 hp12 (hI.handN 1) r6 hr6) rfl fun v6 a w hz6 hA=>?_
 obtain ⟨vp7,μ6,rfl,hw6,hp13,hp14,hi6⟩:=hz6
 have hI:=hI.back1 hi6
 refine stp hA (r_fd (k:=67) U26 rfl sz22 hA rfl rfl) rfl fun a hA =>
  o_st (j:=1) [[.int .u32 r1.1],av .u8 32 r2.1,av .u8 32 r3.1,[.int .u32 r4.1],[.int .u32 r5.1]] [[.int .u32 0]] [[.int .u32 r6.1]] [] sz22 rfl rfl (fO rfl fl_nil) hI rfl hA rfl rfl rfl rfl fun w hI=>?_
 refine o_nil<|hN8 _ _<|w_seq fun _ hN9=>w_seq fun _ hN10=>w_reg<|stm hA rfl rfl fun a hA =>
  stp hA (r_nilc hA rfl) rfl fun a hA =>
  stp hA (r_fd (k:=1) U81 rfl sz3 hA rfl rfl) rfl fun a hA =>
  stp hA (r_ld1 (j:=0) [[vp7]] [] U3 rfl hI rfl hA rfl rfl) rfl fun a hA =>
  stp hA (r_neq hA rfl rfl) rfl fun a hA=>?_
 refine o_nil<|hN10 _ _<|w_cond hA rfl (fun hc1=>?_) (fun hc1=>?_)
 ·obtain ⟨hc1,H⟩:=dT H hc1
  refine w_seq fun _ hN11=>w_reg<|stp hA (r_bldS (cs:=[[.int .u32 0],av .u8 32 Z32,av .u8 32 Z32,[.int .u32 0],[.int .u32 0],[.int .u32 0]].flatten.toArray) (pl:=[(0,1),(1,32),(33,32),(65,1),(66,1),(67,1)]) zr26 U26 ⟨rfl,sz22,rfl,sz24,rfl,sz24,rfl,sz22,rfl,sz22,rfl,sz22,trivial⟩ hA rfl (by kernel_rfl)) rfl fun a hA =>
   o_st (j:=2) [] [[.int .u32 0],av .u8 32 Z32,av .u8 32 Z32,[.int .u32 0],[.int .u32 0],[.int .u32 0]] [[.int .u32 0],av .u8 32 Z32,av .u8 32 Z32,[.int .u32 0],[.int .u32 0],[.int .u32 0]] [] sz26 rfl rfl (fO rfl (fl_cons (one_av _ _ _) (fl_cons (one_av _ _ _) (fO rfl (fO rfl (fO rfl fl_nil)))))) hI rfl hA rfl rfl rfl rfl fun w hI=>?_
  refine o_nil<|hN11 _ _<|w_ret ?_
  obtain rfl:=sJ H
  exact retc U26 rfl sz26 rfl hI (j:=2) rfl hA Tryz.results36 rfl ⟨_,rfl,vp7,μ6,rfl,⟨(in_lit .u32 0 rfl),(arr_zero _ _),(arr_zero _ _),(in_lit .u32 0 rfl),(in_lit .u32 0 rfl),(in_lit .u32 0 rfl)⟩,hp13,hp14,(hI.sl [0] rfl)⟩
 ·obtain ⟨hc1,H⟩:=dF H hc1
  refine w_skip<|hN9 _ _<|w_seq fun _ hN12=>w_reg<|stp hA (r_ldA (j:=1) [] [[.int .u32 r1.1],av .u8 32 r2.1,av .u8 32 r3.1,[.int .u32 r4.1],[.int .u32 r5.1],[.int .u32 r6.1]] [] U26 rfl sz26 rfl hI rfl hA rfl rfl) rfl fun a hA =>
   o_st (j:=2) [] [[.int .u32 0],av .u8 32 Z32,av .u8 32 Z32,[.int .u32 0],[.int .u32 0],[.int .u32 0]] [[.int .u32 r1.1],av .u8 32 r2.1,av .u8 32 r3.1,[.int .u32 r4.1],[.int .u32 r5.1],[.int .u32 r6.1]] [] sz26 rfl rfl (fO rfl (fl_cons (one_av _ _ _) (fl_cons (one_av _ _ _) (fO rfl (fO rfl (fO rfl fl_nil)))))) hI rfl hA rfl rfl rfl rfl fun w hI=>?_
  refine o_nil<|hN12 _ _<|w_ret ?_
  obtain rfl:=sJ H
  exact retc U26 rfl sz26 rfl hI (j:=2) rfl hA Tryz.results36 rfl ⟨_,rfl,vp7,μ6,rfl,⟨hw1,hw2,hw3,hw4,hw5,hw6⟩,hp13,hp14,(hI.sl [0] rfl)⟩
theorem q1_TakeTx.c (μ:Store)(w0:World)(hμ:Agr μ w0)(x0:q1Rd)(vp1:Value)(g0:Nat)(hp1:Slc (RI .u8) 1 μ vp1 x0.B)(hp2:InR .i64 x0.E)(ho0:Its μ w0 [cel g0 [[vp1],[.int .i64 x0.E]] 81])(r:Tx×q1Rd)(H:q1_TakeTx.f x0=some r) :
  Calls Tryz.prog 38 [pt g0 0].toArray w0 (fun e w'=>∃ v,e=.returned v∧∃(v0_0 v0_1 vp_1:Value)(μ':Store),v=.agg [[.int .u32 ((r.1).Version)],[v0_0],[v0_1],[.int .u32 ((r.1).Time)]].flatten.toArray∧TxW μ' (r.1) v0_0 v0_1∧Slc (RI .u8) 1 μ' vp_1 (r.2).B∧InR .i64 (r.2).E∧Iv w0 (many [cel g0 [[vp1],[.int .i64 x0.E]] 81]).foot μ μ' [cel g0 [[vp_1],[.int .i64 ((r.2).E)]] 81] w'):=by
 refine enter Tryz.func38 rfl Tryz.ntmps38 rfl fun a hA=>?_
 have hI:=Iv.startN hμ ho0
 have H:=bI H
 refine w_seq fun _ hN1=>w_reg<|o_new [[.int .u32 0],[Sn],[Sn],[.int .u32 0]] zr63 hI hA rfl fun g1 a w hA hI hg1=>?_
 refine o_nil<|hN1 _ _<|w_seq fun _ hN2=>w_reg<|o_new [[.int .u32 0],[Sn],[Sn],[.int .u32 0]] zr63 hI hA rfl fun g2 a w hA hI hg2=>?_
 refine o_nil<|hN2 _ _<|w_seq fun _ hN3=>w_reg<|stm hA rfl rfl fun a hA=>?_
 obtain ⟨r1,hr1,H⟩:=bB H
 have hI:=hI.sl [2,0,1] rfl
 refine o_call _ cf76 hA rfl (q1R_Four.c μ _ hI.agr x0 vp1 g0 hp1 hp2 (hI.handN 1) r1 hr1) rfl fun v1 a w hz1 hA=>?_
 obtain ⟨vp2,μ1,rfl,hw1,hp3,hp4,hi1⟩:=hz1
 have hI:=hI.back1 hi1
 refine stp hA (r_fd (k:=0) U63 rfl sz22 hA rfl rfl) rfl fun a hA =>
  o_st (j:=1) [] [[.int .u32 0]] [[.int .u32 r1.1]] [[Sn],[Sn],[.int .u32 0]] sz22 rfl rfl (fO rfl fl_nil) hI rfl hA rfl rfl rfl rfl fun w hI=>?_
 refine o_nil<|hN3 _ _<|w_seq fun _ hN4=>w_reg<|stm hA rfl rfl fun a hA=>?_
 obtain ⟨r2,hr2,H⟩:=bB H
 refine o_call _ cf37 hA rfl (q1R_Num.c μ1 _ hI.agr r1.2 vp2 g0 hp3 hp4 (hI.handN 1) 50 (in_lit .u64 50 rfl) r2 hr2) rfl fun v2 a w hz2 hA=>?_
 obtain ⟨vp3,μ2,rfl,hw2,hp5,hp6,hi2⟩:=hz2
 have hI:=hI.back1 hi2
 refine sta hA rfl rfl fun a hA=>?_
 refine o_nil<|hN4 _ _ ?_
 obtain ⟨⟨c1,c2,c3⟩,hz3,Hk1⟩:=bB H
 refine w_cut (fun a w=>∃(μ3:Store)(vvc1 vvc3:Value)(ccc3:List Value),μ2.le μ3∧Slc (RI .u8) 1 μ3 vvc1 c1∧InR .i64 c2∧Els (RIn μ3) 35 c3 ccc3∧Fr a 86 [(0,pt g0 0),(2,pt g1 0),(3,pt g2 0)]∧Iv w0 (many [cel g0 [[vp1],[.int .i64 x0.E]] 81]).foot μ μ3 [row 67 35 vvc3 c3.length ccc3,cel g0 [[vvc1],[.int .i64 c2]] 81,cel g2 [[.int .u32 r1.1],[vvc3],[Sn],[.int .u32 0]] 63,cel g1 [[.int .u32 0],[Sn],[Sn],[.int .u32 0]] 63] w) ?_ ?_
 ·have H:=bI hz3
  refine w_seq fun _ hN5=>w_reg<|sta hA rfl rfl fun a hA=>?_
  refine o_nil<|hN5 _ _<|w_block ?_
  have hI:=hI.nilRow 67 35
  obtain ⟨z1,hz4,Hk2⟩:=bind_some H
  obtain ⟨n1,hn1⟩:=loopO_some hz4
  refine w_loop (fun n a w=>∃(s1:Int)(s2:List Int)(s3:Int)(s4:List In)(μ4:Store)(vvs2 vvs4:Value)(ccs4:List Value),loopN (q1_TakeTx.s0 r2) n (s1,s2,s3,s4)=some z1∧μ2.le μ4∧InR .u64 s1∧Slc (RI .u8) 1 μ4 vvs2 s2∧InR .i64 s3∧Els (RIn μ4) 35 s4 ccs4∧Fr a 86 [(0,pt g0 0),(2,pt g1 0),(3,pt g2 0),(4,.int .u64 r2.1),(5,.int .u64 s1)]∧Iv w0 (many [cel g0 [[vp1],[.int .i64 x0.E]] 81]).foot μ μ4 [row 67 35 vvs4 s4.length ccs4,cel g0 [[vvs2],[.int .i64 s3]] 81,cel g2 [[.int .u32 r1.1],[vvs4],[Sn],[.int .u32 0]] 63,cel g1 [[.int .u32 0],[Sn],[Sn],[.int .u32 0]] 63] w) n1 ⟨0,r2.2.B,r2.2.E,[],μ2,vp3,Sn,[],hn1,(Store.le.refl _),(in_lit .u64 0 rfl),hp5,hp6,(Els.nil (RE:=(RIn μ2)) (sz:=35)),hA.sub ⟨rfl,rfl,rfl,rfl,rfl,trivial⟩,hI⟩ ?_
  clear hA hI
  rintro n a w ⟨s1,s2,s3,s4,μ4,vvs2,vvs4,ccs4,hn1,hle2,ws1,ws2,ws3,ws4,hA,hI⟩
  obtain ⟨m1,rfl,H⟩:=loopN_bind hn1
  clear hn1
  refine w_seq fun _ hN6=>?_
  obtain ⟨c4,hz5,Hk3⟩:=bB H
  refine w_cut (fun a w=>Fr a 86 [(0,pt g0 0),(2,pt g1 0),(3,pt g2 0),(4,.int .u64 r2.1),(5,.int .u64 s1),(24,.bool c4)]∧Iv w0 (many [cel g0 [[vp1],[.int .i64 x0.E]] 81]).foot μ μ4 [row 67 35 vvs4 s4.length ccs4,cel g0 [[vvs2],[.int .i64 s3]] 81,cel g2 [[.int .u32 r1.1],[vvs4],[Sn],[.int .u32 0]] 63,cel g1 [[.int .u32 0],[Sn],[Sn],[.int .u32 0]] 63] w) ?_ ?_
  ·have H:=bI hz5
   refine w_reg<|stm hA rfl rfl fun a hA =>
    stm hA rfl rfl fun a hA =>
    stp hA (r_lss hA rfl rfl) rfl fun a hA =>
    stm hA rfl rfl fun a hA=>?_
   rcases Bool.eq_false_or_eq_true (decide (s1 < r2.1)) with hc1 | hc1
   ·have hc10:=hc1;obtain ⟨hc1,H⟩:=dT H hc1
    refine o_yes hA rfl rfl hc10 <|
     stm hA rfl rfl fun a hA =>
     o_yes hA rfl rfl hc10 <|
     stp hA (r_nilc hA rfl) rfl fun a hA =>
     o_yes hA rfl rfl hc10 <|
     stp hA (r_fd (k:=1) U81 rfl sz3 hA rfl rfl) rfl fun a hA =>
     o_yes hA rfl rfl hc10 <|
     stp hA (r_ld1 (j:=1) [[vvs2]] [] U3 rfl hI rfl hA rfl rfl) rfl fun a hA =>
     o_yes hA rfl rfl hc10 <|
     stp hA (r_eql hA rfl rfl) rfl fun a hA =>
     stp hA (r_pick_t hA rfl hc10 rfl) rfl fun a hA=>?_
    refine o_nil ?_
    cases sJ H
    exact ⟨hA.sub ⟨rfl,rfl,rfl,rfl,rfl,rfl,trivial⟩,hI⟩
   ·have hc10:=hc1;obtain ⟨hc1,H⟩:=dF H hc1
    refine o_no hA rfl rfl (by rw [hc10];simp [vb]) rfl fun a hA =>
     o_no hA rfl rfl (by rw [hc10];simp [vb]) rfl fun a hA =>
     o_no hA rfl rfl (by rw [hc10];simp [vb]) rfl fun a hA =>
     o_no hA rfl rfl (by rw [hc10];simp [vb]) rfl fun a hA =>
     o_no hA rfl rfl (by rw [hc10];simp [vb]) rfl fun a hA =>
     stp hA (r_pick_f hA rfl hc10 rfl) rfl fun a hA=>?_
    refine o_nil ?_
    cases sJ H
    exact ⟨hA.sub ⟨rfl,rfl,rfl,rfl,rfl,rfl,trivial⟩,hI⟩
  ·rintro a w ⟨hA,hI⟩
   have H:=Hk3
   refine w_cond hA rfl (fun hc2=>?_) (fun hc2=>?_)
   ·have H:=bT H hc2
    refine w_skip<|hN6 _ _<|w_seq fun _ hN7=>w_block<|w_seq fun _ hN8=>w_reg<|o_new [av .u8 32 Z32,[.int .u32 0],[Sn],[.int .u32 0]] zr67 hI hA rfl fun g3 a w hA hI hg3=>?_
    refine o_nil<|hN8 _ _<|w_seq fun _ hN9=>w_reg<|stm hA rfl rfl fun a hA=>?_
    obtain ⟨r3,hr3,H⟩:=bB H
    have hI:=hI.sl [2,0,1,3,4] rfl
    refine o_call _ cf77 hA rfl (q1R_Hash.c μ4 _ hI.agr (⟨s2,s3⟩:q1Rd) vvs2 g0 ws2 ws3 (hI.handN 1) r3 hr3) rfl fun v3 a w hz6 hA=>?_
    obtain ⟨vp4,μ5,rfl,hw3,hp7,hp8,hi3⟩:=hz6
    have hI:=hI.back1 hi3
    refine stp hA (r_fd (k:=0) U67 rfl sz65 hA rfl rfl) rfl fun a hA =>
     stp hA (r_fd (k:=0) U65 rfl sz24 hA rfl rfl) rfl fun a hA =>
     o_st (j:=1) [] [av .u8 32 Z32] [av .u8 32 r3.1] [[.int .u32 0],[Sn],[.int .u32 0]] sz24 rfl rfl (fl_cons (one_av _ _ _) fl_nil) hI rfl hA rfl rfl rfl rfl fun w hI=>?_
    refine o_nil<|hN9 _ _<|w_seq fun _ hN10=>w_reg<|stm hA rfl rfl fun a hA=>?_
    obtain ⟨r4,hr4,H⟩:=bB H
    refine o_call _ cf76 hA rfl (q1R_Four.c μ5 _ hI.agr r3.2 vp4 g0 hp7 hp8 (hI.handN 1) r4 hr4) rfl fun v4 a w hz7 hA=>?_
    obtain ⟨vp5,μ6,rfl,hw4,hp9,hp10,hi4⟩:=hz7
    have hI:=hI.back1 hi4
    refine stp hA (r_fd (k:=0) U67 rfl sz65 hA rfl rfl) rfl fun a hA =>
     stp hA (r_fd (k:=32) U65 rfl sz22 hA rfl rfl) rfl fun a hA =>
     o_st (j:=1) [av .u8 32 r3.1] [[.int .u32 0]] [[.int .u32 r4.1]] [[Sn],[.int .u32 0]] sz22 rfl rfl (fO rfl fl_nil) hI rfl hA rfl rfl rfl rfl fun w hI=>?_
    refine o_nil<|hN10 _ _<|w_seq fun _ hN11=>w_reg<|stm hA rfl rfl fun a hA =>
     stm hA rfl rfl fun a hA=>?_
    obtain ⟨r5,hr5,H⟩:=bB H
    refine o_call _ cf37 hA rfl (q1R_Num.c μ6 _ hI.agr r4.2 vp5 g0 hp9 hp10 (hI.handN 1) 80 (in_lit .u64 80 rfl) r5 hr5) rfl fun v5 a w hz8 hA=>?_
    obtain ⟨vp6,μ7,rfl,hw5,hp11,hp12,hi5⟩:=hz8
    have hI:=hI.back1 hi5
    refine stp hA (r_conv U70 U3 hA rfl) rfl fun a hA=>?_
    obtain ⟨r6,hr6,H⟩:=bB H
    refine o_call _ cf79 hA rfl (q1R_Bytes.c μ7 _ hI.agr r5.2 vp6 g0 hp11 hp12 (hI.handN 1) (IntKind.i64.wrap r5.1) (wrap_in _ _) r6 hr6) rfl fun v6 a w hz9 hA=>?_
    obtain ⟨_,cs1,vp7,μ8,rfl,hE1,hp13,hp14,hi6⟩:=hz9
    have hI:=hI.backN 1 hi6
    have hI:Iv w0 (many [cel g0 [[vp1],[.int .i64 x0.E]] 81]).foot μ μ8 [row 5 1 v6 r6.1.length cs1,cel g0 [[vp7],[.int .i64 r6.2.E]] 81,cel g3 [av .u8 32 r3.1,[.int .u32 r4.1],[Sn],[.int .u32 0]] 67,row 67 35 vvs4 s4.length ccs4,cel g2 [[.int .u32 r1.1],[vvs4],[Sn],[.int .u32 0]] 63,cel g1 [[.int .u32 0],[Sn],[Sn],[.int .u32 0]] 63] w:=hI
    refine stp hA (r_fd (k:=33) U67 rfl sz30 hA rfl rfl) rfl fun a hA=>?_
    have hone:=own_one hI (j:=0) rfl
    have hcel:=own_cell hI (j:=0) rfl
    refine o_st (j:=2) [av .u8 32 r3.1,[.int .u32 r4.1]] [[Sn]] [[v6]] [[.int .u32 0]] sz30 rfl rfl (by intro c hc;simp at hc;subst hc;exact hone) hI rfl hA rfl rfl hcel rfl fun w hI=>?_
    refine o_nil<|hN11 _ _<|w_seq fun _ hN12=>w_reg<|stm hA rfl rfl fun a hA=>?_
    obtain ⟨r7,hr7,H⟩:=bB H
    have hI:=hI.sl [1,0,2,3,4,5] rfl
    refine o_call _ cf76 hA rfl (q1R_Four.c μ8 _ hI.agr r6.2 vp7 g0 hp13 hp14 (hI.handN 1) r7 hr7) rfl fun v7 a w hz10 hA=>?_
    obtain ⟨vp8,μ9,rfl,hw6,hp15,hp16,hi7⟩:=hz10
    have hI:=hI.back1 hi7
    refine stp hA (r_fd (k:=34) U67 rfl sz22 hA rfl rfl) rfl fun a hA =>
     o_st (j:=2) [av .u8 32 r3.1,[.int .u32 r4.1],[v6]] [[.int .u32 0]] [[.int .u32 r7.1]] [] sz22 rfl rfl (fO rfl fl_nil) hI rfl hA rfl rfl rfl rfl fun w hI=>?_
    refine o_nil<|hN12 _ _<|w_reg<|stp hA (r_fd (k:=1) U63 rfl sz60 hA rfl rfl) rfl fun a hA =>
     stp hA (r_ld1 (j:=4) [[.int .u32 r1.1]] [[Sn],[.int .u32 0]] U60 rfl hI rfl hA rfl rfl) rfl fun a hA =>
     stp hA (r_ldA (j:=2) [] [av .u8 32 r3.1,[.int .u32 r4.1],[v6],[.int .u32 r7.1]] [] U67 rfl sz67 rfl hI rfl hA rfl rfl) rfl fun a hA=>?_
    obtain ⟨μ10,hle3,hsv1,hI⟩:=hI.freezeRow 1 rfl
    have hS1:Slc (RI .u8) 1 μ10 v6 r6.1:=⟨_,hE1,hsv1⟩
    have hE2:Els (RIn μ10) 35 ([(⟨(⟨r3.1,r4.1⟩:Point),r6.1,r7.1⟩:In)]:List In) _:=(Els.cons (c:=[av .u8 32 r3.1,[.int .u32 r4.1],[v6],[.int .u32 r7.1]].flatten) ⟨v6,rfl,⟨hw3,hw4,hS1,hw6⟩⟩ rfl Els.nil)
    refine o_bsl ([av .u8 32 r3.1,[.int .u32 r4.1],[v6],[.int .u32 r7.1]].flatten++([])) te67 zr67 U60 hI hA rfl rfl rfl rfl (by kernel_rfl) rfl fun g4 a w hA hI=>?_
    generalize hcs:([av .u8 32 r3.1,[.int .u32 r4.1],[v6],[.int .u32 r7.1]].flatten++([]):List Value)=cs2 at hE2 hI
    clear hcs
    obtain ⟨hb1,H⟩:=bG H
    have hE4:=(Els.mono ws4 (fun _ _ h=>RIn.le (((((hi3.le.trans hi4.le).trans hi5.le).trans hi6.le).trans hi7.le).trans hle3) h)).app hE2
    refine o_appG (xs:=(s4:List In)) (ys:=(([(⟨(⟨r3.1,r4.1⟩:Point),r6.1,r7.1⟩:In)]:List In):List In)) (M:=1954687338268) 3 te67 U60 hI rfl hA rfl rfl (src_row hI (j:=0) rfl) hE2.len (hE2.ones RIn.ones) hb1 rfl fun v8 a w hA hI =>
     stp hA (r_fd (k:=1) U63 rfl sz60 hA rfl rfl) rfl fun a hA=>?_
    have hone:=own_one hI (j:=3) rfl
    have hcel:=own_cell hI (j:=3) rfl
    refine o_st (j:=4) [[.int .u32 r1.1]] [[vvs4]] [[v8]] [[Sn],[.int .u32 0]] sz60 rfl rfl (by intro c hc;simp at hc;subst hc;exact hone) hI rfl hA rfl rfl hcel rfl fun w hI=>?_
    refine o_nil<|hN7 _ _<|w_reg<|stm hA rfl rfl fun a hA =>
     stp hA (r_add hA rfl rfl) rfl fun a hA =>
     sta hA rfl rfl fun a hA=>?_
    refine o_nil<|⟨m1,lS _,IntKind.u64.wrap (s1+1),r7.2.B,r7.2.E,s4++([(⟨(⟨r3.1,r4.1⟩:Point),r6.1,r7.1⟩:In)]:List In),μ10,vp8,v8,ccs4++cs2,H,((((((hle2.trans hi3.le).trans hi4.le).trans hi5.le).trans hi6.le).trans hi7.le).trans hle3),(wrap_in _ _),(Slc.le hp15 (fun _ _ h=>h) hle3),hp16,hE4,hA.sub ⟨rfl,rfl,rfl,rfl,rfl,trivial⟩,(hI.sl [3,1,4,5] rfl)⟩
   ·have hc2:=ft hc2;have H:=bF H hc2
    refine w_exit rfl ?_
    have H:some (s2,s3,s4)=some z1:=H
    obtain rfl:=sI H
    have H:=Hk2
    cases sJ H
    exact ⟨μ4,vvs2,vvs4,ccs4,hle2,ws2,ws3,ws4,hA.sub ⟨rfl,rfl,rfl,trivial⟩,hI⟩
 ·rintro a w ⟨μ3,vvc1,vvc3,ccc3,hle1,wc1,wc2,wc3,hA,hI⟩
  have H:=Hk1
  refine w_seq fun _ hN13=>w_reg<|stm hA rfl rfl fun a hA=>?_
  obtain ⟨r8,hr8,H⟩:=bB H
  have hI:=hI.sl [1,0,2,3] rfl
  refine o_call _ cf37 hA rfl (q1R_Num.c μ3 _ hI.agr (⟨c1,c2⟩:q1Rd) vvc1 g0 wc1 wc2 (hI.handN 1) 50 (in_lit .u64 50 rfl) r8 hr8) rfl fun v9 a w hz11 hA=>?_
  obtain ⟨vp9,μ11,rfl,hw7,hp17,hp18,hi8⟩:=hz11
  have hI:=hI.back1 hi8
  refine sta hA rfl rfl fun a hA=>?_
  refine o_nil<|hN13 _ _ ?_
  obtain ⟨⟨c5,c6,c7⟩,hz12,Hk4⟩:=bB H
  refine w_cut (fun a w=>∃(μ12:Store)(vvc5 vvc7:Value)(ccc7:List Value),μ11.le μ12∧Slc (RI .u8) 1 μ12 vvc5 c5∧InR .i64 c6∧Els (ROut μ12) 33 c7 ccc7∧Fr a 86 [(0,pt g0 0),(2,pt g1 0),(3,pt g2 0)]∧Iv w0 (many [cel g0 [[vp1],[.int .i64 x0.E]] 81]).foot μ μ12 [row 106 33 vvc7 c7.length ccc7,cel g0 [[vvc5],[.int .i64 c6]] 81,row 67 35 vvc3 c3.length ccc3,cel g2 [[.int .u32 r1.1],[vvc3],[vvc7],[.int .u32 0]] 63,cel g1 [[.int .u32 0],[Sn],[Sn],[.int .u32 0]] 63] w) ?_ ?_
  ·have H:=bI hz12
   refine w_seq fun _ hN14=>w_reg<|sta hA rfl rfl fun a hA=>?_
   refine o_nil<|hN14 _ _<|w_block ?_
   have hI:=hI.nilRow 106 33
   obtain ⟨z2,hz13,Hk5⟩:=bind_some H
   obtain ⟨n2,hn2⟩:=loopO_some hz13
   refine w_loop (fun n a w=>∃(s5:Int)(s6:List Int)(s7:Int)(s8:List Out)(μ13:Store)(vvs6 vvs8:Value)(ccs8:List Value),loopN (q1_TakeTx.s1 r8) n (s5,s6,s7,s8)=some z2∧μ11.le μ13∧InR .u64 s5∧Slc (RI .u8) 1 μ13 vvs6 s6∧InR .i64 s7∧Els (ROut μ13) 33 s8 ccs8∧Fr a 86 [(0,pt g0 0),(2,pt g1 0),(3,pt g2 0),(7,.int .u64 r8.1),(8,.int .u64 s5)]∧Iv w0 (many [cel g0 [[vp1],[.int .i64 x0.E]] 81]).foot μ μ13 [row 106 33 vvs8 s8.length ccs8,cel g0 [[vvs6],[.int .i64 s7]] 81,row 67 35 vvc3 c3.length ccc3,cel g2 [[.int .u32 r1.1],[vvc3],[vvs8],[.int .u32 0]] 63,cel g1 [[.int .u32 0],[Sn],[Sn],[.int .u32 0]] 63] w) n2 ⟨0,r8.2.B,r8.2.E,[],μ11,vp9,Sn,[],hn2,(Store.le.refl _),(in_lit .u64 0 rfl),hp17,hp18,(Els.nil (RE:=(ROut μ11)) (sz:=33)),hA.sub ⟨rfl,rfl,rfl,rfl,rfl,trivial⟩,hI⟩ ?_
   clear hA hI
   rintro n a w ⟨s5,s6,s7,s8,μ13,vvs6,vvs8,ccs8,hn2,hle5,ws5,ws6,ws7,ws8,hA,hI⟩
   obtain ⟨m2,rfl,H⟩:=loopN_bind hn2
   clear hn2
   refine w_seq fun _ hN15=>?_
   obtain ⟨c8,hz14,Hk6⟩:=bB H
   refine w_cut (fun a w=>Fr a 86 [(0,pt g0 0),(2,pt g1 0),(3,pt g2 0),(7,.int .u64 r8.1),(8,.int .u64 s5),(61,.bool c8)]∧Iv w0 (many [cel g0 [[vp1],[.int .i64 x0.E]] 81]).foot μ μ13 [row 106 33 vvs8 s8.length ccs8,cel g0 [[vvs6],[.int .i64 s7]] 81,row 67 35 vvc3 c3.length ccc3,cel g2 [[.int .u32 r1.1],[vvc3],[vvs8],[.int .u32 0]] 63,cel g1 [[.int .u32 0],[Sn],[Sn],[.int .u32 0]] 63] w) ?_ ?_
   ·have H:=bI hz14
    refine w_reg<|stm hA rfl rfl fun a hA =>
     stm hA rfl rfl fun a hA =>
     stp hA (r_lss hA rfl rfl) rfl fun a hA =>
     stm hA rfl rfl fun a hA=>?_
    rcases Bool.eq_false_or_eq_true (decide (s5 < r8.1)) with hc3 | hc3
    ·have hc30:=hc3;obtain ⟨hc3,H⟩:=dT H hc3
     refine o_yes hA rfl rfl hc30 <|
      stm hA rfl rfl fun a hA =>
      o_yes hA rfl rfl hc30 <|
      stp hA (r_nilc hA rfl) rfl fun a hA =>
      o_yes hA rfl rfl hc30 <|
      stp hA (r_fd (k:=1) U81 rfl sz3 hA rfl rfl) rfl fun a hA =>
      o_yes hA rfl rfl hc30 <|
      stp hA (r_ld1 (j:=1) [[vvs6]] [] U3 rfl hI rfl hA rfl rfl) rfl fun a hA =>
      o_yes hA rfl rfl hc30 <|
      stp hA (r_eql hA rfl rfl) rfl fun a hA =>
      stp hA (r_pick_t hA rfl hc30 rfl) rfl fun a hA=>?_
     refine o_nil ?_
     cases sJ H
     exact ⟨hA.sub ⟨rfl,rfl,rfl,rfl,rfl,rfl,trivial⟩,hI⟩
    ·have hc30:=hc3;obtain ⟨hc3,H⟩:=dF H hc3
     refine o_no hA rfl rfl (by rw [hc30];simp [vb]) rfl fun a hA =>
      o_no hA rfl rfl (by rw [hc30];simp [vb]) rfl fun a hA =>
      o_no hA rfl rfl (by rw [hc30];simp [vb]) rfl fun a hA =>
      o_no hA rfl rfl (by rw [hc30];simp [vb]) rfl fun a hA =>
      o_no hA rfl rfl (by rw [hc30];simp [vb]) rfl fun a hA =>
      stp hA (r_pick_f hA rfl hc30 rfl) rfl fun a hA=>?_
     refine o_nil ?_
     cases sJ H
     exact ⟨hA.sub ⟨rfl,rfl,rfl,rfl,rfl,rfl,trivial⟩,hI⟩
   ·rintro a w ⟨hA,hI⟩
    have H:=Hk6
    refine w_cond hA rfl (fun hc4=>?_) (fun hc4=>?_)
    ·have H:=bT H hc4
     refine w_skip<|hN15 _ _<|w_seq fun _ hN16=>w_block<|w_seq fun _ hN17=>w_reg<|o_new [[.int .u64 0],av .u8 32 Z32] zr106 hI hA rfl fun g5 a w hA hI hg5=>?_
     refine o_nil<|hN17 _ _<|w_seq fun _ hN18=>w_reg<|stm hA rfl rfl fun a hA=>?_
     obtain ⟨r9,hr9,H⟩:=bB H
     have hI:=hI.sl [2,0,1,3,4,5] rfl
     refine o_call _ cf80 hA rfl (q1R_Eight.c μ13 _ hI.agr (⟨s6,s7⟩:q1Rd) vvs6 g0 ws6 ws7 (hI.handN 1) r9 hr9) rfl fun v10 a w hz15 hA=>?_
     obtain ⟨vp10,μ14,rfl,hw8,hp19,hp20,hi9⟩:=hz15
     have hI:=hI.back1 hi9
     refine stp hA (r_fd (k:=0) U106 rfl sz70 hA rfl rfl) rfl fun a hA =>
      o_st (j:=1) [] [[.int .u64 0]] [[.int .u64 r9.1]] [av .u8 32 Z32] sz70 rfl rfl (fO rfl fl_nil) hI rfl hA rfl rfl rfl rfl fun w hI=>?_
     refine o_nil<|hN18 _ _<|w_seq fun _ hN19=>w_reg<|stm hA rfl rfl fun a hA=>?_
     obtain ⟨r10,hr10,H⟩:=bB H
     refine o_call _ cf77 hA rfl (q1R_Hash.c μ14 _ hI.agr r9.2 vp10 g0 hp19 hp20 (hI.handN 1) r10 hr10) rfl fun v11 a w hz16 hA=>?_
     obtain ⟨vp11,μ15,rfl,hw9,hp21,hp22,hi10⟩:=hz16
     have hI:=hI.back1 hi10
     refine stp hA (r_fd (k:=1) U106 rfl sz24 hA rfl rfl) rfl fun a hA =>
      o_st (j:=1) [[.int .u64 r9.1]] [av .u8 32 Z32] [av .u8 32 r10.1] [] sz24 rfl rfl (fl_cons (one_av _ _ _) fl_nil) hI rfl hA rfl rfl rfl rfl fun w hI=>?_
     refine o_nil<|hN19 _ _<|w_reg<|stp hA (r_fd (k:=2) U63 rfl sz61 hA rfl rfl) rfl fun a hA =>
      stp hA (r_ld1 (j:=4) [[.int .u32 r1.1],[vvc3]] [[.int .u32 0]] U61 rfl hI rfl hA rfl rfl) rfl fun a hA =>
      stp hA (r_ldA (j:=1) [] [[.int .u64 r9.1],av .u8 32 r10.1] [] U106 rfl sz106 rfl hI rfl hA rfl rfl) rfl fun a hA=>?_
     have hE5:Els (ROut μ15) 33 ([(⟨r9.1,r10.1⟩:Out)]:List Out) _:=(Els.cons (c:=[[.int .u64 r9.1],av .u8 32 r10.1].flatten) ⟨rfl,⟨hw8,hw9⟩⟩ rfl Els.nil)
     refine o_bsl ([[.int .u64 r9.1],av .u8 32 r10.1].flatten++([])) te106 zr106 U61 hI hA rfl rfl rfl rfl (by kernel_rfl) rfl fun g6 a w hA hI=>?_
     generalize hcs:([[.int .u64 r9.1],av .u8 32 r10.1].flatten++([]):List Value)=cs5 at hE5 hI
     clear hcs
     obtain ⟨hb2,H⟩:=bG H
     have hE7:=ws8.app hE5
     refine o_appG (xs:=(s8:List Out)) (ys:=(([(⟨r9.1,r10.1⟩:Out)]:List Out):List Out)) (M:=3518437208883) 3 te106 U61 hI rfl hA rfl rfl (src_row hI (j:=0) rfl) hE5.len (hE5.ones ROut.ones) hb2 rfl fun v12 a w hA hI =>
      stp hA (r_fd (k:=2) U63 rfl sz61 hA rfl rfl) rfl fun a hA=>?_
     have hone:=own_one hI (j:=3) rfl
     have hcel:=own_cell hI (j:=3) rfl
     refine o_st (j:=5) [[.int .u32 r1.1],[vvc3]] [[vvs8]] [[v12]] [[.int .u32 0]] sz61 rfl rfl (by intro c hc;simp at hc;subst hc;exact hone) hI rfl hA rfl rfl hcel rfl fun w hI=>?_
     refine o_nil<|hN16 _ _<|w_reg<|stm hA rfl rfl fun a hA =>
      stp hA (r_add hA rfl rfl) rfl fun a hA =>
      sta hA rfl rfl fun a hA=>?_
     refine o_nil<|⟨m2,lS _,IntKind.u64.wrap (s5+1),r10.2.B,r10.2.E,s8++([(⟨r9.1,r10.1⟩:Out)]:List Out),μ15,vp11,v12,ccs8++cs5,H,((hle5.trans hi9.le).trans hi10.le),(wrap_in _ _),hp21,hp22,hE7,hA.sub ⟨rfl,rfl,rfl,rfl,rfl,trivial⟩,(hI.sl [3,1,4,5,6] rfl)⟩
    ·have hc4:=ft hc4;have H:=bF H hc4
     refine w_exit rfl ?_
     have H:some (s6,s7,s8)=some z2:=H
     obtain rfl:=sI H
     have H:=Hk5
     cases sJ H
     exact ⟨μ13,vvs6,vvs8,ccs8,hle5,ws6,ws7,ws8,hA.sub ⟨rfl,rfl,rfl,trivial⟩,hI⟩
  ·rintro a w ⟨μ12,vvc5,vvc7,ccc7,hle4,wc5,wc6,wc7,hA,hI⟩
   have H:=Hk4
   refine w_seq fun _ hN20=>w_reg<|stm hA rfl rfl fun a hA=>?_
   obtain ⟨r11,hr11,H⟩:=bB H
   have hI:=hI.sl [1,0,2,3,4] rfl
   refine o_call _ cf76 hA rfl (q1R_Four.c μ12 _ hI.agr (⟨c5,c6⟩:q1Rd) vvc5 g0 wc5 wc6 (hI.handN 1) r11 hr11) rfl fun v13 a w hz17 hA=>?_
   obtain ⟨vp12,μ16,rfl,hw10,hp23,hp24,hi11⟩:=hz17
   have hI:=hI.back1 hi11
   refine stp hA (r_fd (k:=3) U63 rfl sz22 hA rfl rfl) rfl fun a hA =>
    o_st (j:=3) [[.int .u32 r1.1],[vvc3],[vvc7]] [[.int .u32 0]] [[.int .u32 r11.1]] [] sz22 rfl rfl (fO rfl fl_nil) hI rfl hA rfl rfl rfl rfl fun w hI=>?_
   refine o_nil<|hN20 _ _<|w_seq fun _ hN21=>w_seq fun _ hN22=>w_reg<|stm hA rfl rfl fun a hA =>
    stp hA (r_nilc hA rfl) rfl fun a hA =>
    stp hA (r_fd (k:=1) U81 rfl sz3 hA rfl rfl) rfl fun a hA =>
    stp hA (r_ld1 (j:=0) [[vp12]] [] U3 rfl hI rfl hA rfl rfl) rfl fun a hA =>
    stp hA (r_neq hA rfl rfl) rfl fun a hA=>?_
   refine o_nil<|hN22 _ _<|w_cond hA rfl (fun hc5=>?_) (fun hc5=>?_)
   ·obtain ⟨hc5,H⟩:=dT H hc5
    refine w_seq fun _ hN23=>w_reg<|stp hA (r_bldS (cs:=[[.int .u32 0],[Sn],[Sn],[.int .u32 0]].flatten.toArray) (pl:=[(0,1),(1,1),(2,1),(3,1)]) zr63 U63 ⟨rfl,sz22,rfl,sz60,rfl,sz61,rfl,sz22,trivial⟩ hA rfl (by kernel_rfl)) rfl fun a hA =>
     o_st (j:=4) [] [[.int .u32 0],[Sn],[Sn],[.int .u32 0]] [[.int .u32 0],[Sn],[Sn],[.int .u32 0]] [] sz63 rfl rfl (fO rfl (fO rfl (fO rfl (fO rfl fl_nil)))) hI rfl hA rfl rfl rfl rfl fun w hI=>?_
    refine o_nil<|hN23 _ _<|w_ret ?_
    obtain rfl:=sJ H
    exact retc U63 rfl sz63 rfl hI (j:=4) rfl hA Tryz.results38 rfl ⟨_,rfl,Sn,Sn,vp12,μ16,rfl,⟨(in_lit .u32 0 rfl),(slc_nil _ _ _),(slc_nil _ _ _),(in_lit .u32 0 rfl)⟩,hp23,hp24,(hI.sl [0] rfl)⟩
   ·obtain ⟨hc5,H⟩:=dF H hc5
    refine w_skip<|hN21 _ _<|w_seq fun _ hN24=>w_reg<|stp hA (r_ldA (j:=3) [] [[.int .u32 r1.1],[vvc3],[vvc7],[.int .u32 r11.1]] [] U63 rfl sz63 rfl hI rfl hA rfl rfl) rfl fun a hA =>
     o_st (j:=4) [] [[.int .u32 0],[Sn],[Sn],[.int .u32 0]] [[.int .u32 r1.1],[vvc3],[vvc7],[.int .u32 r11.1]] [] sz63 rfl rfl (fO rfl (fl_cons (one_one (own_one hI (j:=2) rfl)) (fl_cons (one_one (own_one hI (j:=1) rfl)) (fO rfl fl_nil)))) hI rfl hA rfl rfl rfl rfl fun w hI=>?_
    refine o_nil<|hN24 _ _<|w_ret ?_
    obtain ⟨μ17,hle6,hsv4,hI⟩:=hI.freezeRow 2 rfl
    have hS2:Slc (RIn μ17) 35 μ17 vvc3 c3:=⟨_,(Els.mono wc3 (fun _ _ h=>RIn.le (((hi8.le.trans hle4).trans hi11.le).trans hle6) h)),hsv4⟩
    obtain ⟨μ18,hle7,hsv5,hI⟩:=hI.freezeRow 1 rfl
    have hS3:Slc (ROut μ18) 33 μ18 vvc7 c7:=⟨_,wc7,hsv5⟩
    obtain rfl:=sJ H
    exact retc U63 rfl sz63 rfl hI (j:=2) rfl hA Tryz.results38 rfl ⟨_,rfl,vvc3,vvc7,vp12,μ18,rfl,⟨hw1,(Slc.le hS2 (fun _ _ h=>RIn.le hle7 h) hle7),hS3,hw10⟩,(Slc.le hp23 (fun _ _ h=>h) (hle6.trans hle7)),hp24,(hI.sl [0] rfl)⟩
theorem q1_ReadBlock.c (μ:Store)(w0:World)(hμ:Agr μ w0)(x0:List Int)(u0:Value)(hx0:Slc (RI .u8) 1 μ u0 x0)(r:Block×Int)(H:q1_ReadBlock.f x0=some r) :
  Calls Tryz.prog 8 [u0].toArray w0 (fun e w'=>∃ v,e=.returned v∧∃(v0_0:Value)(μ':Store),v=.tuple #[.agg [[.int .u32 ((r.1).Head.Version)],av .u8 32 ((r.1).Head.Prev),av .u8 32 ((r.1).Head.Root),[.int .u32 ((r.1).Head.Time)],[.int .u32 ((r.1).Head.Work)],[.int .u32 ((r.1).Head.Nonce)],[v0_0]].flatten.toArray,.int .i64 (r.2)]∧BlockW μ' (r.1) v0_0∧InR .i64 (r.2)∧Iv w0 [] μ μ' [] w'):=by
 refine enter Tryz.func8 rfl Tryz.ntmps8 rfl fun a hA=>?_
 have hI:=Iv.start hμ
 have H:=bI H
 refine w_seq fun _ hN1=>w_reg<|o_new [[.int .u32 0],av .u8 32 Z32,av .u8 32 Z32,[.int .u32 0],[.int .u32 0],[.int .u32 0],[Sn]] zr29 hI hA rfl fun g1 a w hA hI hg1 =>
  sta hA rfl rfl fun a hA=>?_
 refine o_nil<|hN1 _ _<|w_seq fun _ hN2=>w_reg<|stm hA rfl rfl fun a hA =>
  stp hA (r_bldS (cs:=[[u0],[.int .i64 0]].flatten.toArray) (pl:=[(0,1),(1,1)]) zr81 U81 ⟨rfl,sz30,rfl,sz3,trivial⟩ hA rfl ((fill_one (cells1 hx0) rfl (by kernel_rfl)).trans (by kernel_rfl))) rfl fun a hA =>
  o_box [[u0],[.int .i64 0]] hI hA rfl rfl rfl fun g2 a w hA hI hg2 =>
  sta hA rfl rfl fun a hA=>?_
 refine o_nil<|hN2 _ _<|w_seq fun _ hN3=>w_reg<|stm hA rfl rfl fun a hA=>?_
 obtain ⟨r1,hr1,H⟩:=bB H
 refine o_call _ cf36 hA rfl (q1_TakeHead.c μ _ hI.agr (⟨x0,0⟩:q1Rd) u0 g2 hx0 (in_lit .i64 0 rfl) (hI.handN 1) r1 hr1) rfl fun v1 a w hz1 hA=>?_
 obtain ⟨vp1,μ1,rfl,hw1,hp1,hp2,hi1⟩:=hz1
 have hI:=hI.back1 hi1
 refine stp hA (r_bldS (cs:=[[.int .u32 r1.1.Version],av .u8 32 r1.1.Prev,av .u8 32 r1.1.Root,[.int .u32 r1.1.Time],[.int .u32 r1.1.Work],[.int .u32 r1.1.Nonce],[Sn]].flatten.toArray) (pl:=[(0,68),(68,1)]) zr29 U29 ⟨rfl,sz26,rfl,sz27,trivial⟩ hA rfl (by kernel_rfl)) rfl fun a hA =>
  o_new [[.int .u32 0],av .u8 32 Z32,av .u8 32 Z32,[.int .u32 0],[.int .u32 0],[.int .u32 0],[Sn]] zr29 hI hA rfl fun g3 a w hA hI hg3 =>
  o_st (j:=0) [] [[.int .u32 0],av .u8 32 Z32,av .u8 32 Z32,[.int .u32 0],[.int .u32 0],[.int .u32 0],[Sn]] [[.int .u32 r1.1.Version],av .u8 32 r1.1.Prev,av .u8 32 r1.1.Root,[.int .u32 r1.1.Time],[.int .u32 r1.1.Work],[.int .u32 r1.1.Nonce],[Sn]] [] sz29 rfl rfl (fO rfl (fl_cons (one_av _ _ _) (fl_cons (one_av _ _ _) (fO rfl (fO rfl (fO rfl (fO rfl fl_nil))))))) hI rfl hA rfl rfl rfl rfl fun w hI=>?_
 refine o_nil<|hN3 _ _<|w_seq fun _ hN4=>w_reg<|stm hA rfl rfl fun a hA=>?_
 obtain ⟨r2,hr2,H⟩:=bB H
 have hI:=hI.sl [1,0,2] rfl
 refine o_call _ cf37 hA rfl (q1R_Num.c μ1 _ hI.agr r1.2 vp1 g2 hp1 hp2 (hI.handN 1) 200 (in_lit .u64 200 rfl) r2 hr2) rfl fun v2 a w hz2 hA=>?_
 obtain ⟨vp2,μ2,rfl,hw2,hp3,hp4,hi2⟩:=hz2
 have hI:=hI.back1 hi2
 refine sta hA rfl rfl fun a hA=>?_
 refine o_nil<|hN4 _ _ ?_
 obtain ⟨⟨c1,c2,c3⟩,hz3,Hk1⟩:=bB H
 refine w_cut (fun a w=>∃(μ3:Store)(vvc1 vvc3:Value)(ccc3:List Value),μ2.le μ3∧Slc (RI .u8) 1 μ3 vvc1 c1∧InR .i64 c2∧Els (RTx μ3) 4 c3 ccc3∧Fr a 62 [(2,pt g1 0),(3,.int .i64 0),(4,pt g2 0),(5,pt g3 0)]∧Iv w0 [] μ μ3 [row 63 4 vvc3 c3.length ccc3,cel g2 [[vvc1],[.int .i64 c2]] 81,cel g3 [[.int .u32 r1.1.Version],av .u8 32 r1.1.Prev,av .u8 32 r1.1.Root,[.int .u32 r1.1.Time],[.int .u32 r1.1.Work],[.int .u32 r1.1.Nonce],[vvc3]] 29,cel g1 [[.int .u32 0],av .u8 32 Z32,av .u8 32 Z32,[.int .u32 0],[.int .u32 0],[.int .u32 0],[Sn]] 29] w) ?_ ?_
 ·have H:=bI hz3
  refine w_seq fun _ hN5=>w_reg<|sta hA rfl rfl fun a hA=>?_
  refine o_nil<|hN5 _ _<|w_block ?_
  have hI:=hI.nilRow 63 4
  obtain ⟨z1,hz4,Hk2⟩:=bind_some H
  obtain ⟨n1,hn1⟩:=loopO_some hz4
  refine w_loop (fun n a w=>∃(s1:Int)(s2:List Int)(s3:Int)(s4:List Tx)(μ4:Store)(vvs2 vvs4:Value)(ccs4:List Value),loopN (q1_ReadBlock.s0 r2) n (s1,s2,s3,s4)=some z1∧μ2.le μ4∧InR .u64 s1∧Slc (RI .u8) 1 μ4 vvs2 s2∧InR .i64 s3∧Els (RTx μ4) 4 s4 ccs4∧Fr a 62 [(2,pt g1 0),(3,.int .i64 0),(4,pt g2 0),(5,pt g3 0),(6,.int .u64 r2.1),(7,.int .u64 s1)]∧Iv w0 [] μ μ4 [row 63 4 vvs4 s4.length ccs4,cel g2 [[vvs2],[.int .i64 s3]] 81,cel g3 [[.int .u32 r1.1.Version],av .u8 32 r1.1.Prev,av .u8 32 r1.1.Root,[.int .u32 r1.1.Time],[.int .u32 r1.1.Work],[.int .u32 r1.1.Nonce],[vvs4]] 29,cel g1 [[.int .u32 0],av .u8 32 Z32,av .u8 32 Z32,[.int .u32 0],[.int .u32 0],[.int .u32 0],[Sn]] 29] w) n1 ⟨0,r2.2.B,r2.2.E,[],μ2,vp2,Sn,[],hn1,(Store.le.refl _),(in_lit .u64 0 rfl),hp3,hp4,(Els.nil (RE:=(RTx μ2)) (sz:=4)),hA.sub ⟨rfl,rfl,rfl,rfl,rfl,rfl,trivial⟩,hI⟩ ?_
  clear hA hI
  rintro n a w ⟨s1,s2,s3,s4,μ4,vvs2,vvs4,ccs4,hn1,hle2,ws1,ws2,ws3,ws4,hA,hI⟩
  obtain ⟨m1,rfl,H⟩:=loopN_bind hn1
  clear hn1
  refine w_seq fun _ hN6=>?_
  obtain ⟨c4,hz5,Hk3⟩:=bB H
  refine w_cut (fun a w=>Fr a 62 [(2,pt g1 0),(3,.int .i64 0),(4,pt g2 0),(5,pt g3 0),(6,.int .u64 r2.1),(7,.int .u64 s1),(25,.bool c4)]∧Iv w0 [] μ μ4 [row 63 4 vvs4 s4.length ccs4,cel g2 [[vvs2],[.int .i64 s3]] 81,cel g3 [[.int .u32 r1.1.Version],av .u8 32 r1.1.Prev,av .u8 32 r1.1.Root,[.int .u32 r1.1.Time],[.int .u32 r1.1.Work],[.int .u32 r1.1.Nonce],[vvs4]] 29,cel g1 [[.int .u32 0],av .u8 32 Z32,av .u8 32 Z32,[.int .u32 0],[.int .u32 0],[.int .u32 0],[Sn]] 29] w) ?_ ?_
  ·have H:=bI hz5
   refine w_reg<|stm hA rfl rfl fun a hA =>
    stm hA rfl rfl fun a hA =>
    stp hA (r_lss hA rfl rfl) rfl fun a hA =>
    stm hA rfl rfl fun a hA=>?_
   rcases Bool.eq_false_or_eq_true (decide (s1 < r2.1)) with hc1 | hc1
   ·have hc10:=hc1;obtain ⟨hc1,H⟩:=dT H hc1
    refine o_yes hA rfl rfl hc10 <|
     stm hA rfl rfl fun a hA =>
     o_yes hA rfl rfl hc10 <|
     stp hA (r_nilc hA rfl) rfl fun a hA =>
     o_yes hA rfl rfl hc10 <|
     stp hA (r_fd (k:=1) U81 rfl sz3 hA rfl rfl) rfl fun a hA =>
     o_yes hA rfl rfl hc10 <|
     stp hA (r_ld1 (j:=1) [[vvs2]] [] U3 rfl hI rfl hA rfl rfl) rfl fun a hA =>
     o_yes hA rfl rfl hc10 <|
     stp hA (r_eql hA rfl rfl) rfl fun a hA =>
     stp hA (r_pick_t hA rfl hc10 rfl) rfl fun a hA=>?_
    refine o_nil ?_
    cases sJ H
    exact ⟨hA.sub ⟨rfl,rfl,rfl,rfl,rfl,rfl,rfl,trivial⟩,hI⟩
   ·have hc10:=hc1;obtain ⟨hc1,H⟩:=dF H hc1
    refine o_no hA rfl rfl (by rw [hc10];simp [vb]) rfl fun a hA =>
     o_no hA rfl rfl (by rw [hc10];simp [vb]) rfl fun a hA =>
     o_no hA rfl rfl (by rw [hc10];simp [vb]) rfl fun a hA =>
     o_no hA rfl rfl (by rw [hc10];simp [vb]) rfl fun a hA =>
     o_no hA rfl rfl (by rw [hc10];simp [vb]) rfl fun a hA =>
     stp hA (r_pick_f hA rfl hc10 rfl) rfl fun a hA=>?_
    refine o_nil ?_
    cases sJ H
    exact ⟨hA.sub ⟨rfl,rfl,rfl,rfl,rfl,rfl,rfl,trivial⟩,hI⟩
  ·rintro a w ⟨hA,hI⟩
   have H:=Hk3
   refine w_cond hA rfl (fun hc2=>?_) (fun hc2=>?_)
   ·have H:=bT H hc2
    refine w_skip<|hN6 _ _<|w_seq fun _ hN7=>w_block ?_
    refine w_any [3,5,7] mo hI fun w hI=>?_
    refine gE 0 hA rfl (.inr hI) (fun _=>r_fd (k:=68) U29 rfl sz27 hA rfl rfl) fun a hA=>?_
    refine gE 2 hA rfl (.inr hI) (fun _=>r_mv hA rfl) fun a hA=>?_
    refine g_fork (i:=1) (is:=[3]) (by kernel_rfl) (List.forall_mem_cons.2 ⟨⟨_,rfl,?_⟩,(List.forall_mem_cons.2 ⟨⟨_,rfl,?_⟩,List.forall_mem_nil _⟩)⟩)
    ·skip
     refine stp hA (r_ld1 (j:=2) [[.int .u32 r1.1.Version],av .u8 32 r1.1.Prev,av .u8 32 r1.1.Root,[.int .u32 r1.1.Time],[.int .u32 r1.1.Work],[.int .u32 r1.1.Nonce]] [] U27 rfl hI rfl hA rfl rfl) rfl fun a hA=>?_
     refine o_nil<|⟨(.inr hI),?_⟩
     refine gF 3 rfl ?_
     obtain ⟨r3,hr3,H⟩:=bB H
     have hI:=hI.sl [1,0,2,3] rfl
     refine o_call _ cf38 hA rfl (q1_TakeTx.c μ4 _ hI.agr (⟨s2,s3⟩:q1Rd) vvs2 g2 ws2 ws3 (hI.handN 1) r3 hr3) rfl fun v3 a w hz6 hA=>?_
     obtain ⟨v4,v5,vp3,μ5,rfl,hw3,hp5,hp6,hi3⟩:=hz6
     have hI:=hI.back1 hi3
     refine o_nil<|⟨(.inl (by kernel_rfl)),?_⟩
     refine gF 4 rfl ?_
     have hE1:Els (RTx μ5) 4 ([r3.1]:List Tx) _:=(Els.cons (c:=[[.int .u32 r3.1.Version],[v4],[v5],[.int .u32 r3.1.Time]].flatten) ⟨v4,v5,rfl,⟨hw3.1,hw3.2.1,hw3.2.2.1,hw3.2.2.2⟩⟩ rfl Els.nil)
     refine o_bsl ([[.int .u32 r3.1.Version],[v4],[v5],[.int .u32 r3.1.Time]].flatten++([])) te63 zr63 U27 hI hA rfl rfl rfl rfl (by kernel_rfl) rfl fun g4 a w hA hI=>?_
     generalize hcs:([[.int .u32 r3.1.Version],[v4],[v5],[.int .u32 r3.1.Time]].flatten++([]):List Value)=cs1 at hE1 hI
     clear hcs
     refine o_nil<|⟨(.inl (by kernel_rfl)),?_⟩
     refine gF 5 rfl ?_
     obtain ⟨hb1,H⟩:=bG H
     have hE3:=(Els.mono ws4 (fun _ _ h=>RTx.le hi3.le h)).app hE1
     refine o_appG (xs:=(s4:List Tx)) (ys:=(([r3.1]:List Tx):List Tx)) (M:=2199023255552) 2 te63 U27 hI rfl hA rfl rfl (src_row hI (j:=0) rfl) hE1.len (hE1.ones RTx.ones) hb1 rfl fun v6 a w hA hI=>?_
     refine o_nil<|⟨(.inl (by kernel_rfl)),?_⟩
     refine gE 6 hA rfl (.inl (by kernel_rfl)) (fun _=>r_fd (k:=68) U29 rfl sz27 hA rfl rfl) fun a hA=>?_
     refine gF 7 rfl ?_
     have hone:=own_one hI (j:=2) rfl
     have hcel:=own_cell hI (j:=2) rfl
     refine o_st (j:=3) [[.int .u32 r1.1.Version],av .u8 32 r1.1.Prev,av .u8 32 r1.1.Root,[.int .u32 r1.1.Time],[.int .u32 r1.1.Work],[.int .u32 r1.1.Nonce]] [[vvs4]] [[v6]] [] sz27 rfl rfl (by intro c hc;simp at hc;subst hc;exact hone) hI rfl hA rfl rfl hcel rfl fun w hI=>?_
     refine o_nil<|⟨(.inl (by kernel_rfl)),?_⟩
     refine gN<|hN7 _ _<|w_reg<|stm hA rfl rfl fun a hA =>
      stp hA (r_add hA rfl rfl) rfl fun a hA =>
      sta hA rfl rfl fun a hA=>?_
     refine o_nil<|⟨m1,lS _,IntKind.u64.wrap (s1+1),r3.2.B,r3.2.E,s4++([r3.1]:List Tx),μ5,vp3,v6,ccs4++cs1,H,(hle2.trans hi3.le),(wrap_in _ _),hp5,hp6,hE3,hA.sub ⟨rfl,rfl,rfl,rfl,rfl,rfl,trivial⟩,(hI.sl [2,1,3,4] rfl)⟩
    ·skip
     obtain ⟨r3,hr3,H⟩:=bB H
     have hI:=hI.sl [1,0,2,3] rfl
     refine o_call _ cf38 hA rfl (q1_TakeTx.c μ4 _ hI.agr (⟨s2,s3⟩:q1Rd) vvs2 g2 ws2 ws3 (hI.handN 1) r3 hr3) rfl fun v3 a w hz6 hA=>?_
     obtain ⟨v4,v5,vp3,μ5,rfl,hw3,hp5,hp6,hi3⟩:=hz6
     have hI:=hI.back1 hi3
     refine o_nil<|⟨(.inl (by kernel_rfl)),?_⟩
     refine g_fork (i:=1) (is:=[4]) (by kernel_rfl) (List.forall_mem_cons.2 ⟨⟨_,rfl,?_⟩,(List.forall_mem_cons.2 ⟨⟨_,rfl,?_⟩,List.forall_mem_nil _⟩)⟩)
     ·skip
      refine stp hA (r_ld1 (j:=2) [[.int .u32 r1.1.Version],av .u8 32 r1.1.Prev,av .u8 32 r1.1.Root,[.int .u32 r1.1.Time],[.int .u32 r1.1.Work],[.int .u32 r1.1.Nonce]] [] U27 rfl hI rfl hA rfl rfl) rfl fun a hA=>?_
      refine o_nil<|⟨(.inl (by kernel_rfl)),?_⟩
      refine gF 4 rfl ?_
      have hE1:Els (RTx μ5) 4 ([r3.1]:List Tx) _:=(Els.cons (c:=[[.int .u32 r3.1.Version],[v4],[v5],[.int .u32 r3.1.Time]].flatten) ⟨v4,v5,rfl,⟨hw3.1,hw3.2.1,hw3.2.2.1,hw3.2.2.2⟩⟩ rfl Els.nil)
      refine o_bsl ([[.int .u32 r3.1.Version],[v4],[v5],[.int .u32 r3.1.Time]].flatten++([])) te63 zr63 U27 hI hA rfl rfl rfl rfl (by kernel_rfl) rfl fun g4 a w hA hI=>?_
      generalize hcs:([[.int .u32 r3.1.Version],[v4],[v5],[.int .u32 r3.1.Time]].flatten++([]):List Value)=cs1 at hE1 hI
      clear hcs
      refine o_nil<|⟨(.inl (by kernel_rfl)),?_⟩
      refine gF 5 rfl ?_
      obtain ⟨hb1,H⟩:=bG H
      have hE3:=(Els.mono ws4 (fun _ _ h=>RTx.le hi3.le h)).app hE1
      refine o_appG (xs:=(s4:List Tx)) (ys:=(([r3.1]:List Tx):List Tx)) (M:=2199023255552) 2 te63 U27 hI rfl hA rfl rfl (src_row hI (j:=0) rfl) hE1.len (hE1.ones RTx.ones) hb1 rfl fun v6 a w hA hI=>?_
      refine o_nil<|⟨(.inl (by kernel_rfl)),?_⟩
      refine gE 6 hA rfl (.inl (by kernel_rfl)) (fun _=>r_fd (k:=68) U29 rfl sz27 hA rfl rfl) fun a hA=>?_
      refine gF 7 rfl ?_
      have hone:=own_one hI (j:=2) rfl
      have hcel:=own_cell hI (j:=2) rfl
      refine o_st (j:=3) [[.int .u32 r1.1.Version],av .u8 32 r1.1.Prev,av .u8 32 r1.1.Root,[.int .u32 r1.1.Time],[.int .u32 r1.1.Work],[.int .u32 r1.1.Nonce]] [[vvs4]] [[v6]] [] sz27 rfl rfl (by intro c hc;simp at hc;subst hc;exact hone) hI rfl hA rfl rfl hcel rfl fun w hI=>?_
      refine o_nil<|⟨(.inl (by kernel_rfl)),?_⟩
      refine gN<|hN7 _ _<|w_reg<|stm hA rfl rfl fun a hA =>
       stp hA (r_add hA rfl rfl) rfl fun a hA =>
       sta hA rfl rfl fun a hA=>?_
      refine o_nil<|⟨m1,lS _,IntKind.u64.wrap (s1+1),r3.2.B,r3.2.E,s4++([r3.1]:List Tx),μ5,vp3,v6,ccs4++cs1,H,(hle2.trans hi3.le),(wrap_in _ _),hp5,hp6,hE3,hA.sub ⟨rfl,rfl,rfl,rfl,rfl,rfl,trivial⟩,(hI.sl [2,1,3,4] rfl)⟩
     ·skip
      have hE1:Els (RTx μ5) 4 ([r3.1]:List Tx) _:=(Els.cons (c:=[[.int .u32 r3.1.Version],[v4],[v5],[.int .u32 r3.1.Time]].flatten) ⟨v4,v5,rfl,⟨hw3.1,hw3.2.1,hw3.2.2.1,hw3.2.2.2⟩⟩ rfl Els.nil)
      refine o_bsl ([[.int .u32 r3.1.Version],[v4],[v5],[.int .u32 r3.1.Time]].flatten++([])) te63 zr63 U27 hI hA rfl rfl rfl rfl (by kernel_rfl) rfl fun g4 a w hA hI=>?_
      generalize hcs:([[.int .u32 r3.1.Version],[v4],[v5],[.int .u32 r3.1.Time]].flatten++([]):List Value)=cs1 at hE1 hI
      clear hcs
      refine o_nil<|⟨(.inl (by kernel_rfl)),?_⟩
      refine gF 1 rfl ?_
      refine stp hA (r_ld1 (j:=3) [[.int .u32 r1.1.Version],av .u8 32 r1.1.Prev,av .u8 32 r1.1.Root,[.int .u32 r1.1.Time],[.int .u32 r1.1.Work],[.int .u32 r1.1.Nonce]] [] U27 rfl hI rfl hA rfl rfl) rfl fun a hA=>?_
      refine o_nil<|⟨(.inl (by kernel_rfl)),?_⟩
      refine gF 5 rfl ?_
      obtain ⟨hb1,H⟩:=bG H
      have hE3:=(Els.mono ws4 (fun _ _ h=>RTx.le hi3.le h)).app hE1
      refine o_appG (xs:=(s4:List Tx)) (ys:=(([r3.1]:List Tx):List Tx)) (M:=2199023255552) 2 te63 U27 hI rfl hA rfl rfl (src_row hI (j:=0) rfl) hE1.len (hE1.ones RTx.ones) hb1 rfl fun v6 a w hA hI=>?_
      refine o_nil<|⟨(.inl (by kernel_rfl)),?_⟩
      refine gE 6 hA rfl (.inl (by kernel_rfl)) (fun _=>r_fd (k:=68) U29 rfl sz27 hA rfl rfl) fun a hA=>?_
      refine gF 7 rfl ?_
      have hone:=own_one hI (j:=2) rfl
      have hcel:=own_cell hI (j:=2) rfl
      refine o_st (j:=3) [[.int .u32 r1.1.Version],av .u8 32 r1.1.Prev,av .u8 32 r1.1.Root,[.int .u32 r1.1.Time],[.int .u32 r1.1.Work],[.int .u32 r1.1.Nonce]] [[vvs4]] [[v6]] [] sz27 rfl rfl (by intro c hc;simp at hc;subst hc;exact hone) hI rfl hA rfl rfl hcel rfl fun w hI=>?_
      refine o_nil<|⟨(.inl (by kernel_rfl)),?_⟩
      refine gN<|hN7 _ _<|w_reg<|stm hA rfl rfl fun a hA =>
       stp hA (r_add hA rfl rfl) rfl fun a hA =>
       sta hA rfl rfl fun a hA=>?_
      refine o_nil<|⟨m1,lS _,IntKind.u64.wrap (s1+1),r3.2.B,r3.2.E,s4++([r3.1]:List Tx),μ5,vp3,v6,ccs4++cs1,H,(hle2.trans hi3.le),(wrap_in _ _),hp5,hp6,hE3,hA.sub ⟨rfl,rfl,rfl,rfl,rfl,rfl,trivial⟩,(hI.sl [2,1,3,4] rfl)⟩
   ·have hc2:=ft hc2;have H:=bF H hc2
    refine w_exit rfl ?_
    have H:some (s2,s3,s4)=some z1:=H
    obtain rfl:=sI H
    have H:=Hk2
    cases sJ H
    exact ⟨μ4,vvs2,vvs4,ccs4,hle2,ws2,ws3,ws4,hA.sub ⟨rfl,rfl,rfl,rfl,trivial⟩,hI⟩
 ·rintro a w ⟨μ3,vvc1,vvc3,ccc3,hle1,wc1,wc2,wc3,hA,hI⟩
  have H:=Hk1
  obtain ⟨c5,hz7,Hk4⟩:=bB H
  refine w_cut (fun a w=>InR .i64 c5∧Fr a 62 [(2,pt g1 0),(3,.int .i64 0),(4,pt g2 0),(5,pt g3 0)]∧Iv w0 [] μ μ3 [row 63 4 vvc3 c3.length ccc3,cel g2 [[vvc1],[.int .i64 c5]] 81,cel g3 [[.int .u32 r1.1.Version],av .u8 32 r1.1.Prev,av .u8 32 r1.1.Root,[.int .u32 r1.1.Time],[.int .u32 r1.1.Work],[.int .u32 r1.1.Nonce],[vvc3]] 29,cel g1 [[.int .u32 0],av .u8 32 Z32,av .u8 32 Z32,[.int .u32 0],[.int .u32 0],[.int .u32 0],[Sn]] 29] w) ?_ ?_
  ·have H:=bI hz7
   obtain ⟨c6,hz8,Hk5⟩:=bB H
   refine w_cut (fun a w=>Fr a 62 [(2,pt g1 0),(3,.int .i64 0),(4,pt g2 0),(5,pt g3 0),(47,.bool c6)]∧Iv w0 [] μ μ3 [row 63 4 vvc3 c3.length ccc3,cel g2 [[vvc1],[.int .i64 c2]] 81,cel g3 [[.int .u32 r1.1.Version],av .u8 32 r1.1.Prev,av .u8 32 r1.1.Root,[.int .u32 r1.1.Time],[.int .u32 r1.1.Work],[.int .u32 r1.1.Nonce],[vvc3]] 29,cel g1 [[.int .u32 0],av .u8 32 Z32,av .u8 32 Z32,[.int .u32 0],[.int .u32 0],[.int .u32 0],[Sn]] 29] w) ?_ ?_
   ·have H:=bI hz8
    refine w_reg<|stm hA rfl rfl fun a hA =>
     stp hA (r_nilc hA rfl) rfl fun a hA =>
     stp hA (r_fd (k:=1) U81 rfl sz3 hA rfl rfl) rfl fun a hA =>
     stp hA (r_ld1 (j:=1) [[vvc1]] [] U3 rfl hI rfl hA rfl rfl) rfl fun a hA =>
     stp hA (r_eql hA rfl rfl) rfl fun a hA =>
     stm hA rfl rfl fun a hA=>?_
    rcases Bool.eq_false_or_eq_true (decide (c2=0)) with hc3 | hc3
    ·have hc30:=hc3;obtain ⟨hc3,H⟩:=dT H hc3
     refine o_yes hA rfl rfl hc30 <|
      stm hA rfl rfl fun a hA =>
      o_yes hA rfl rfl hc30 <|
      stp hA (r_nilc hA rfl) rfl fun a hA =>
      o_yes hA rfl rfl hc30 <|
      stp hA (r_fd (k:=0) U81 rfl sz30 hA rfl rfl) rfl fun a hA =>
      o_yes hA rfl rfl hc30 <|
      stp hA (r_ld1 (j:=1) [] [[.int .i64 c2]] U30 rfl hI rfl hA rfl rfl) rfl fun a hA =>
      o_yes hA rfl rfl hc30<|?_
     obtain ⟨_,hsl1⟩:=Slc.sv wc1
     refine stp hA (r_slen U30 hsl1 hA rfl) rfl fun a hA =>
      o_yes hA rfl rfl hc30 <|
      stp hA (r_gtr hA rfl rfl) rfl fun a hA =>
      stp hA (r_pick_t hA rfl hc30 rfl) rfl fun a hA=>?_
     refine o_nil ?_
     cases sJ H
     exact ⟨hA.sub ⟨rfl,rfl,rfl,rfl,rfl,trivial⟩,hI⟩
    ·have hc30:=hc3;obtain ⟨hc3,H⟩:=dF H hc3
     refine o_no hA rfl rfl (by rw [hc30];simp [vb]) rfl fun a hA =>
      o_no hA rfl rfl (by rw [hc30];simp [vb]) rfl fun a hA =>
      o_no hA rfl rfl (by rw [hc30];simp [vb]) rfl fun a hA =>
      o_no hA rfl rfl (by rw [hc30];simp [vb]) rfl fun a hA =>
      o_no hA rfl rfl (by rw [hc30];simp [vb]) rfl fun a hA =>
      o_no hA rfl rfl (by rw [hc30];simp [vb]) rfl fun a hA =>
      stp hA (r_pick_f hA rfl hc30 rfl) rfl fun a hA=>?_
     refine o_nil ?_
     cases sJ H
     exact ⟨hA.sub ⟨rfl,rfl,rfl,rfl,rfl,trivial⟩,hI⟩
   ·rintro a w ⟨hA,hI⟩
    have H:=Hk5
    refine w_cond hA rfl (fun hc4=>?_) (fun hc4=>?_)
    ·have H:=bT H hc4
     refine w_reg<|stm hA rfl rfl fun a hA =>
      stp hA (r_nilc hA rfl) rfl fun a hA =>
      stp hA (r_fd (k:=1) U81 rfl sz3 hA rfl rfl) rfl fun a hA =>
      o_st (j:=1) [[vvc1]] [[.int .i64 c2]] [[.int .i64 102]] [] sz3 rfl rfl (fO rfl fl_nil) hI rfl hA rfl rfl rfl rfl fun w hI=>?_
     refine o_nil ?_
     cases sJ H
     exact ⟨(in_lit .i64 102 rfl),hA.sub ⟨rfl,rfl,rfl,rfl,trivial⟩,hI⟩
    ·have hc4:=ft hc4;have H:=bF H hc4
     refine w_skip ?_
     cases sJ H
     exact ⟨wc2,hA.sub ⟨rfl,rfl,rfl,rfl,trivial⟩,hI⟩
  ·rintro a w ⟨wc5,hA,hI⟩
   have H:=Hk4
   refine w_seq fun _ hN8=>w_seq fun _ hN9=>w_reg<|stm hA rfl rfl fun a hA =>
    stp hA (r_nilc hA rfl) rfl fun a hA =>
    stp hA (r_fd (k:=1) U81 rfl sz3 hA rfl rfl) rfl fun a hA =>
    stp hA (r_ld1 (j:=1) [[vvc1]] [] U3 rfl hI rfl hA rfl rfl) rfl fun a hA =>
    stp hA (r_neq hA rfl rfl) rfl fun a hA=>?_
   refine o_nil<|hN9 _ _<|w_cond hA rfl (fun hc5=>?_) (fun hc5=>?_)
   ·obtain ⟨hc5,H⟩:=dT H hc5
    obtain ⟨c7,hz9,Hk6⟩:=bB H
    refine w_cut (fun a w=>InR .i64 c7∧Fr a 62 [(2,pt g1 0),(3,.int .i64 c7),(5,pt g3 0)]∧Iv w0 [] μ μ3 [row 63 4 vvc3 c3.length ccc3,cel g2 [[vvc1],[.int .i64 c5]] 81,cel g3 [[.int .u32 r1.1.Version],av .u8 32 r1.1.Prev,av .u8 32 r1.1.Root,[.int .u32 r1.1.Time],[.int .u32 r1.1.Work],[.int .u32 r1.1.Nonce],[vvc3]] 29,cel g1 [[.int .u32 0],av .u8 32 Z32,av .u8 32 Z32,[.int .u32 0],[.int .u32 0],[.int .u32 0],[Sn]] 29] w) ?_ ?_
    ·have H:=bI hz9
     refine w_anyS [] mo (fun w (h:Iv w0 [] μ μ3 [row 63 4 vvc3 c3.length ccc3,cel g2 [[vvc1],[.int .i64 c5]] 81,cel g3 [[.int .u32 r1.1.Version],av .u8 32 r1.1.Prev,av .u8 32 r1.1.Root,[.int .u32 r1.1.Time],[.int .u32 r1.1.Work],[.int .u32 r1.1.Nonce],[vvc3]] 29,cel g1 [[.int .u32 0],av .u8 32 Z32,av .u8 32 Z32,[.int .u32 0],[.int .u32 0],[.int .u32 0],[Sn]] 29] w)=>(h.sl [0,1,2,3] rfl:Iv w0 [] μ μ3 [row 63 4 vvc3 c3.length ccc3,cel g2 [[vvc1],[.int .i64 c5]] 81,cel g3 [[.int .u32 r1.1.Version],av .u8 32 r1.1.Prev,av .u8 32 r1.1.Root,[.int .u32 r1.1.Time],[.int .u32 r1.1.Work],[.int .u32 r1.1.Nonce],[vvc3]] 29,cel g1 [[.int .u32 0],av .u8 32 Z32,av .u8 32 Z32,[.int .u32 0],[.int .u32 0],[.int .u32 0],[Sn]] 29] w)) hI fun w hI=>?_
     refine gE 1 hA rfl (.inr hI) (fun _=>r_mv hA rfl) fun a hA=>?_
     refine gE 2 hA rfl (.inr hI) (fun _=>r_nilc hA rfl) fun a hA=>?_
     refine gE 3 hA rfl (.inr hI) (fun _=>r_fd (k:=1) U81 rfl sz3 hA rfl rfl) fun a hA=>?_
     refine gT 4 hA rfl hI (fun w hI=>r_ld1 (j:=1) [[vvc1]] [] U3 rfl hI rfl hA rfl rfl) fun a hA=>?_
     refine gF 0 rfl ?_
     refine stp hA (r_bldS (cs:=[[.int .u32 0],av .u8 32 Z32,av .u8 32 Z32,[.int .u32 0],[.int .u32 0],[.int .u32 0],[Sn]].flatten.toArray) (pl:=[(0,68),(68,1)]) zr29 U29 ⟨rfl,sz26,rfl,sz27,trivial⟩ hA rfl (by kernel_rfl)) rfl fun a hA=>?_
     refine o_nil<|⟨(.inr hI),?_⟩
     refine gF 5 rfl ?_
     refine o_st (j:=3) [] [[.int .u32 0],av .u8 32 Z32,av .u8 32 Z32,[.int .u32 0],[.int .u32 0],[.int .u32 0],[Sn]] [[.int .u32 0],av .u8 32 Z32,av .u8 32 Z32,[.int .u32 0],[.int .u32 0],[.int .u32 0],[Sn]] [] sz29 rfl rfl (fO rfl (fl_cons (one_av _ _ _) (fl_cons (one_av _ _ _) (fO rfl (fO rfl (fO rfl (fO rfl fl_nil))))))) hI rfl hA rfl rfl rfl rfl fun w hI=>?_
     refine o_nil<|⟨(.inr hI),?_⟩
     refine gE 6 hA rfl (.inr hI) (fun _=>r_as hA rfl) fun a hA=>?_
     refine gN ?_
     cases sJ H
     exact ⟨wc5,hA.sub ⟨rfl,rfl,rfl,trivial⟩,hI⟩
    ·rintro a w ⟨wc7,hA,hI⟩
     have H:=Hk6
     refine w_ret ?_
     obtain rfl:=sJ H
     exact retN hA Tryz.results8 (.cell rfl (cell_ld U29 rfl sz29 rfl hI (j:=3) rfl) (.tmp rfl .nil)) ⟨_,rfl,Sn,μ3,rfl,⟨(in_lit .u32 0 rfl),(arr_zero _ _),(arr_zero _ _),(in_lit .u32 0 rfl),(in_lit .u32 0 rfl),(in_lit .u32 0 rfl),(slc_nil _ _ _)⟩,wc7,(hI.sl [] rfl)⟩
   ·obtain ⟨hc5,H⟩:=dF H hc5
    refine w_skip<|hN8 _ _<|w_seq fun _ hN10=>w_reg<|stp hA (r_ldA (j:=2) [] [[.int .u32 r1.1.Version],av .u8 32 r1.1.Prev,av .u8 32 r1.1.Root,[.int .u32 r1.1.Time],[.int .u32 r1.1.Work],[.int .u32 r1.1.Nonce],[vvc3]] [] U29 rfl sz29 rfl hI rfl hA rfl rfl) rfl fun a hA =>
     o_st (j:=3) [] [[.int .u32 0],av .u8 32 Z32,av .u8 32 Z32,[.int .u32 0],[.int .u32 0],[.int .u32 0],[Sn]] [[.int .u32 r1.1.Version],av .u8 32 r1.1.Prev,av .u8 32 r1.1.Root,[.int .u32 r1.1.Time],[.int .u32 r1.1.Work],[.int .u32 r1.1.Nonce],[vvc3]] [] sz29 rfl rfl (fO rfl (fl_cons (one_av _ _ _) (fl_cons (one_av _ _ _) (fO rfl (fO rfl (fO rfl (fl_cons (one_one (own_one hI (j:=0) rfl)) fl_nil))))))) hI rfl hA rfl rfl rfl rfl fun w hI =>
     sta hA rfl rfl fun a hA=>?_
    refine o_nil<|hN10 _ _<|w_ret ?_
    obtain ⟨μ6,hle3,hsv2,hI⟩:=hI.freezeRow 0 rfl
    have hS1:Slc (RTx μ6) 4 μ6 vvc3 c3:=⟨_,(Els.mono wc3 (fun _ _ h=>RTx.le hle3 h)),hsv2⟩
    obtain rfl:=sJ H
    exact retN hA Tryz.results8 (.cell rfl (cell_ld U29 rfl sz29 rfl hI (j:=2) rfl) (.tmp rfl .nil)) ⟨_,rfl,vvc3,μ6,rfl,⟨hw1.1,hw1.2.1,hw1.2.2.1,hw1.2.2.2.1,hw1.2.2.2.2.1,hw1.2.2.2.2.2,hS1⟩,(in_lit .i64 0 rfl),(hI.sl [] rfl)⟩
theorem q1_HeadID.c (μ:Store)(w0:World)(hμ:Agr μ w0)(x0:Head)(hx0:HeadW μ x0)(r:List Int)(H:q1_HeadID.f x0=some r) :
  Calls Tryz.prog 14 [.agg [[.int .u32 x0.Version],av .u8 32 x0.Prev,av .u8 32 x0.Root,[.int .u32 x0.Time],[.int .u32 x0.Work],[.int .u32 x0.Nonce]].flatten.toArray].toArray w0 (fun e w'=>∃ v,e=.returned v∧v=.agg [av .u8 32 r].flatten.toArray∧Arr .u8 32 r∧Iv w0 [] μ μ [] w'):=by
 refine enter Tryz.func14 rfl Tryz.ntmps14 rfl fun a hA=>?_
 have hI:=Iv.start hμ
 have H:=bI H
 refine w_seq fun _ hN1=>w_reg<|o_box [[.int .u32 x0.Version],av .u8 32 x0.Prev,av .u8 32 x0.Root,[.int .u32 x0.Time],[.int .u32 x0.Work],[.int .u32 x0.Nonce]] hI hA rfl rfl rfl fun g1 a w hA hI hg1 =>
  o_new [av .u8 32 Z32] zr24 hI hA rfl fun g2 a w hA hI hg2=>?_
 refine o_nil<|hN1 _ _<|w_seq fun _ hN2=>w_reg<|stp hA (r_ldA (j:=1) [] [[.int .u32 x0.Version],av .u8 32 x0.Prev,av .u8 32 x0.Root,[.int .u32 x0.Time],[.int .u32 x0.Work],[.int .u32 x0.Nonce]] [] U26 rfl sz26 rfl hI rfl hA rfl rfl) rfl fun a hA=>?_
 obtain ⟨r1,hr1,H⟩:=bB H
 refine o_call _ cf28 hA rfl (q1_HeadBytes.c μ _ hI.agr x0 ⟨hx0.1,hx0.2.1,hx0.2.2.1,hx0.2.2.2.1,hx0.2.2.2.2.1,hx0.2.2.2.2.2⟩ r1 hr1) rfl fun v1 a w hz1 hA=>?_
 obtain ⟨_,cs1,rfl,hE1,hi1⟩:=hz1
 have hI:=hI.call hi1
 obtain ⟨r2,hr2,H⟩:=bB H
 refine o_callp (u:=.agg [av .u8 32 r2].flatten.toArray) cf43 hA rfl hI ((by obtain ⟨μ1,hle1,hsv1,hI⟩:=hI.freezeRow 0 rfl;have hS1:Slc (RI .u8) 1 μ1 v1 r1:=⟨_,hE1,hsv1⟩;exact low_plain hle1 (q1_Twice.c μ1 _ hI.agr r1 v1 hS1 r2 hr2))) rfl fun a w hz2 hI hA =>
  o_st (j:=1) [] [av .u8 32 Z32] [av .u8 32 r2] [] sz24 rfl rfl (fl_cons (one_av _ _ _) fl_nil) hI rfl hA rfl rfl rfl rfl fun w hI=>?_
 refine o_nil<|hN2 _ _<|w_ret ?_
 obtain rfl:=sJ H
 exact retc U24 rfl sz24 rfl hI (j:=1) rfl hA Tryz.results14 rfl ⟨_,rfl,rfl,hz2,hI.forget0⟩
theorem q1_ID.c (μ:Store)(w0:World)(hμ:Agr μ w0)(x0:Tx)(u0_0 u0_1:Value)(hx0:TxW μ x0 u0_0 u0_1)(r:List Int)(H:q1_ID.f x0=some r) :
  Calls Tryz.prog 46 [.agg [[.int .u32 x0.Version],[u0_0],[u0_1],[.int .u32 x0.Time]].flatten.toArray].toArray w0 (fun e w'=>∃ v,e=.returned v∧v=.agg [av .u8 32 r].flatten.toArray∧Arr .u8 32 r∧Iv w0 [] μ μ [] w'):=by
 refine enter Tryz.func46 rfl Tryz.ntmps46 rfl fun a hA=>?_
 have hI:=Iv.start hμ
 have H:=bI H
 refine w_seq fun _ hN1=>w_reg<|o_box [[.int .u32 x0.Version],[u0_0],[u0_1],[.int .u32 x0.Time]] hI hA rfl rfl rfl fun g1 a w hA hI hg1 =>
  o_new [av .u8 32 Z32] zr24 hI hA rfl fun g2 a w hA hI hg2=>?_
 refine o_nil<|hN1 _ _<|w_seq fun _ hN2=>w_reg<|stp hA (r_ldA (j:=1) [] [[.int .u32 x0.Version],[u0_0],[u0_1],[.int .u32 x0.Time]] [] U63 rfl sz63 rfl hI rfl hA rfl rfl) rfl fun a hA=>?_
 obtain ⟨r1,hr1,H⟩:=bB H
 refine o_call _ cf29 hA rfl (q1_TxBytes.c μ _ hI.agr x0 u0_0 u0_1 ⟨hx0.1,hx0.2.1,hx0.2.2.1,hx0.2.2.2⟩ r1 hr1) rfl fun v1 a w hz1 hA=>?_
 obtain ⟨_,cs1,rfl,hE1,hi1⟩:=hz1
 have hI:=hI.call hi1
 obtain ⟨r2,hr2,H⟩:=bB H
 refine o_callp (u:=.agg [av .u8 32 r2].flatten.toArray) cf43 hA rfl hI ((by obtain ⟨μ1,hle1,hsv1,hI⟩:=hI.freezeRow 0 rfl;have hS1:Slc (RI .u8) 1 μ1 v1 r1:=⟨_,hE1,hsv1⟩;exact low_plain hle1 (q1_Twice.c μ1 _ hI.agr r1 v1 hS1 r2 hr2))) rfl fun a w hz2 hI hA =>
  o_st (j:=1) [] [av .u8 32 Z32] [av .u8 32 r2] [] sz24 rfl rfl (fl_cons (one_av _ _ _) fl_nil) hI rfl hA rfl rfl rfl rfl fun w hI=>?_
 refine o_nil<|hN2 _ _<|w_ret ?_
 obtain rfl:=sJ H
 exact retc U24 rfl sz24 rfl hI (j:=1) rfl hA Tryz.results46 rfl ⟨_,rfl,rfl,hz2,hI.forget0⟩
theorem q1_IDs.c (μ:Store)(w0:World)(hμ:Agr μ w0)(x0:List Tx)(u0:Value)(hx0:Slc (RTx μ) 4 μ u0 x0)(r:List (List Int))(H:q1_IDs.f x0=some r) :
  Calls Tryz.prog 17 [u0].toArray w0 (fun e w'=>∃ v,e=.returned v∧∃(v0:Value)(c0:List Value),v=v0∧Els (RA .u8 32) 32 r c0∧Iv w0 [] μ μ [row 24 32 v0 r.length c0] w'):=by
 refine enter Tryz.func17 rfl Tryz.ntmps17 rfl fun a hA=>?_
 have hI:=Iv.start hμ
 have H:=bI H
 refine w_seq fun _ hN1=>w_reg<|sta hA rfl rfl fun a hA=>?_
 refine o_nil<|hN1 _ _<|w_seq fun _ hN2=>w_reg<|sta hA rfl rfl fun a hA=>?_
 refine o_nil<|hN2 _ _ ?_
 obtain ⟨c1,hz1,Hk1⟩:=bB H
 refine w_cut (fun a w=>∃(vvc1:Value)(ccc1:List Value),Els (RA .u8 32) 32 c1 ccc1∧Fr a 20 [(2,Sn),(3,vvc1)]∧Iv w0 [] μ μ [row 24 32 vvc1 c1.length ccc1] w) ?_ ?_
 ·have H:=bI hz1
  refine w_seq fun _ hN3=>w_reg<|sta hA rfl rfl fun a hA=>?_
  refine o_nil<|hN3 _ _<|w_block ?_
  have hI:=hI.nilRow 24 32
  obtain ⟨z1,hz2,Hk2⟩:=bind_some H
  obtain ⟨n1,hn1⟩:=loopO_some hz2
  refine w_loop (fun n a w=>∃(s1:List (List Int))(s2:Int)(vvs1:Value)(ccs1:List Value),loopN (q1_IDs.s0 x0) n (s1,s2)=some z1∧Els (RA .u8 32) 32 s1 ccs1∧InR .i64 s2∧Fr a 20 [(0,u0),(2,Sn),(3,vvs1),(4,.int .i64 s2)]∧Iv w0 [] μ μ [row 24 32 vvs1 s1.length ccs1] w) n1 ⟨[],0,Sn,[],hn1,(Els.nil (RE:=(RA .u8 32)) (sz:=32)),(in_lit .i64 0 rfl),hA.sub ⟨rfl,rfl,rfl,rfl,trivial⟩,hI⟩ ?_
  clear hA hI
  rintro n a w ⟨s1,s2,vvs1,ccs1,hn1,ws1,ws2,hA,hI⟩
  obtain ⟨m1,rfl,H⟩:=loopN_bind hn1
  clear hn1
  refine w_seq fun _ hN4=>w_seq fun _ hN5=>w_reg<|stm hA rfl rfl fun a hA =>
   stm hA rfl rfl fun a hA=>?_
  obtain ⟨_,hsl1⟩:=Slc.sv hx0
  refine stp hA (r_slen U27 hsl1 hA rfl) rfl fun a hA =>
   stp hA (r_lss hA rfl rfl) rfl fun a hA=>?_
  refine o_nil<|hN5 _ _<|w_cond hA rfl (fun hc1=>?_) (fun hc1=>?_)
  ·obtain ⟨hc1,H⟩:=dT H hc1
   refine w_skip<|hN4 _ _<|w_seq fun _ hN6=>w_block<|w_reg<|stm hA rfl rfl fun a hA =>
    stm hA rfl rfl fun a hA =>
    stm hA rfl rfl fun a hA=>?_
   obtain ⟨hb1,H⟩:=bG H
   obtain ⟨_,he1,_,hat1⟩:=Slc.elem hx0 (getD_some default hb1.1 hb1.2)
   obtain ⟨v1,v2,rfl,hw1⟩:=he1
   obtain ⟨_,hsl2⟩:=Slc.sv hx0
   refine stp hA (r_six U27 sz63 hsl2 hA rfl rfl hb1.1 hb1.2) rfl fun a hA =>
    stp hA (r_ldmA [] [[.int .u32 ((x0.getD s2.toNat default).Version)],[v1],[v2],[.int .u32 ((x0.getD s2.toNat default).Time)]] [] U63 rfl sz63 rfl hI.agr hat1 hA rfl rfl) rfl fun a hA=>?_
   obtain ⟨r1,hr1,H⟩:=bB H
   refine o_callp (u:=.agg [av .u8 32 r1].flatten.toArray) cf46 hA rfl hI (q1_ID.c μ _ hI.agr (x0.getD s2.toNat default) v1 v2 ⟨hw1.1,hw1.2.1,hw1.2.2.1,hw1.2.2.2⟩ r1 hr1) rfl fun a w hz3 hI hA=>?_
   have hE1:Els (RA .u8 32) 32 ([r1]:List (List Int)) _:=(Els.cons (c:=[av .u8 32 r1].flatten) ⟨rfl,hz3⟩ rfl Els.nil)
   refine o_bsl ([av .u8 32 r1].flatten++([])) te24 zr24 U46 hI hA rfl rfl rfl rfl (by kernel_rfl) rfl fun g1 a w hA hI=>?_
   generalize hcs:([av .u8 32 r1].flatten++([]):List Value)=cs1 at hE1 hI
   clear hcs
   obtain ⟨hb2,H⟩:=bG H
   have hE3:=ws1.app hE1
   refine o_appG (xs:=(s1:List (List Int))) (ys:=(([r1]:List (List Int)):List (List Int))) (M:=4398046511104) 1 te24 U46 hI rfl hA rfl rfl (src_row hI (j:=0) rfl) hE1.len (hE1.ones (one_RA _ _)) hb2 rfl fun v3 a w hA hI =>
    sta hA rfl rfl fun a hA=>?_
   refine o_nil<|hN6 _ _<|w_reg<|stm hA rfl rfl fun a hA =>
    stp hA (r_add hA rfl rfl) rfl fun a hA =>
    sta hA rfl rfl fun a hA=>?_
   refine o_nil<|⟨m1,lS _,s1++([r1]:List (List Int)),IntKind.i64.wrap (s2+1),v3,ccs1++cs1,H,hE3,(wrap_in _ _),hA.sub ⟨rfl,rfl,rfl,rfl,trivial⟩,(hI.sl [1] rfl)⟩
  ·obtain ⟨hc1,H⟩:=dF H hc1
   refine w_exit rfl ?_
   have H:some s1=some z1:=H
   obtain rfl:=sI H
   have H:=Hk2
   cases sJ H
   exact ⟨vvs1,ccs1,ws1,hA.sub ⟨rfl,rfl,trivial⟩,hI⟩
 ·rintro a w ⟨vvc1,ccc1,wc1,hA,hI⟩
  have H:=Hk1
  refine w_seq fun _ hN7=>w_reg<|stm hA rfl rfl fun a hA =>
   sta hA rfl rfl fun a hA=>?_
  refine o_nil<|hN7 _ _<|w_ret ?_
  obtain rfl:=sJ H
  exact ret1 hA Tryz.results17 rfl ⟨_,rfl,vvc1,ccc1,rfl,wc1,(hI.less (Store.le.refl _) hI.le)⟩
theorem q1_CheckHead.c (μ:Store)(w0:World)(hμ:Agr μ w0)(x0:Head)(hx0:HeadW μ x0)(r:Int)(H:q1_CheckHead.f x0=some r) :
  Calls Tryz.prog 53 [.agg [[.int .u32 x0.Version],av .u8 32 x0.Prev,av .u8 32 x0.Root,[.int .u32 x0.Time],[.int .u32 x0.Work],[.int .u32 x0.Nonce]].flatten.toArray].toArray w0 (fun e w'=>∃ v,e=.returned v∧v=.int .i64 r∧InR .i64 r∧Iv w0 [] μ μ [] w'):=by
 refine enter Tryz.func53 rfl Tryz.ntmps53 rfl fun a hA=>?_
 have hI:=Iv.start hμ
 have H:=bI H
 refine w_seq fun _ hN1=>w_reg<|o_box [[.int .u32 x0.Version],av .u8 32 x0.Prev,av .u8 32 x0.Root,[.int .u32 x0.Time],[.int .u32 x0.Work],[.int .u32 x0.Nonce]] hI hA rfl rfl rfl fun g1 a w hA hI hg1 =>
  sta hA rfl rfl fun a hA=>?_
 refine o_nil<|hN1 _ _<|w_seq fun _ hN2=>?_
 obtain ⟨c1,hz1,Hk1⟩:=bB H
 refine w_cut (fun a w=>Fr a 11 [(2,.int .i64 0),(10,.bool c1)]∧Iv w0 [] μ μ [cel g1 [[.int .u32 x0.Version],av .u8 32 x0.Prev,av .u8 32 x0.Root,[.int .u32 x0.Time],[.int .u32 x0.Work],[.int .u32 x0.Nonce]] 26] w) ?_ ?_
 ·have H:=bI hz1
  refine w_reg<|stp hA (r_fd (k:=66) U26 rfl sz22 hA rfl rfl) rfl fun a hA =>
   stp hA (r_ld1 (j:=0) [[.int .u32 x0.Version],av .u8 32 x0.Prev,av .u8 32 x0.Root,[.int .u32 x0.Time]] [[.int .u32 x0.Nonce]] U22 rfl hI rfl hA rfl rfl) rfl fun a hA =>
   stp hA (r_eql hA rfl rfl) rfl fun a hA =>
   stm hA rfl rfl fun a hA=>?_
  rcases Bool.eq_false_or_eq_true (decide (x0.Work=0)) with hc1 | hc1
  ·have hc10:=hc1;obtain ⟨hc1,H⟩:=dT H hc1
   refine o_no hA rfl rfl (by rw [hc10];simp [vb]) rfl fun a hA =>
    o_no hA rfl rfl (by rw [hc10];simp [vb]) rfl fun a hA =>
    o_no hA rfl rfl (by rw [hc10];simp [vb]) rfl fun a hA =>
    stp hA (r_pick_t hA rfl hc10 rfl) rfl fun a hA=>?_
   refine o_nil ?_
   cases sJ H
   exact ⟨hA.sub ⟨rfl,rfl,trivial⟩,hI⟩
  ·have hc10:=hc1;obtain ⟨hc1,H⟩:=dF H hc1
   refine o_yes hA rfl rfl hc10 <|
    stp hA (r_fd (k:=66) U26 rfl sz22 hA rfl rfl) rfl fun a hA =>
    o_yes hA rfl rfl hc10 <|
    stp hA (r_ld1 (j:=0) [[.int .u32 x0.Version],av .u8 32 x0.Prev,av .u8 32 x0.Root,[.int .u32 x0.Time]] [[.int .u32 x0.Nonce]] U22 rfl hI rfl hA rfl rfl) rfl fun a hA =>
    o_yes hA rfl rfl hc10 <|
    stp hA (r_gtr hA rfl rfl) rfl fun a hA =>
    stp hA (r_pick_f hA rfl hc10 rfl) rfl fun a hA=>?_
   refine o_nil ?_
   cases sJ H
   exact ⟨hA.sub ⟨rfl,rfl,trivial⟩,hI⟩
 ·rintro a w ⟨hA,hI⟩
  have H:=Hk1
  refine w_cond hA rfl (fun hc2=>?_) (fun hc2=>?_)
  ·have H:=bT H hc2
   refine w_seq fun _ hN3=>w_reg<|sta hA rfl rfl fun a hA=>?_
   refine o_nil<|hN3 _ _<|w_ret ?_
   obtain rfl:=sJ H
   exact ret1 hA Tryz.results53 rfl ⟨_,rfl,rfl,(in_lit .i64 122 rfl),hI.forget0⟩
  ·have hc2:=ft hc2;have H:=bF H hc2
   refine w_skip<|hN2 _ _<|w_seq fun _ hN4=>w_reg<|sta hA rfl rfl fun a hA=>?_
   refine o_nil<|hN4 _ _<|w_ret ?_
   obtain rfl:=sJ H
   exact ret1 hA Tryz.results53 rfl ⟨_,rfl,rfl,(in_lit .i64 0 rfl),hI.forget0⟩
theorem q1_Base.c (μ:Store)(w0:World)(hμ:Agr μ w0)(x0:Tx)(u0_0 u0_1:Value)(hx0:TxW μ x0 u0_0 u0_1)(r:Bool)(H:q1_Base.f x0=some r) :
  Calls Tryz.prog 57 [.agg [[.int .u32 x0.Version],[u0_0],[u0_1],[.int .u32 x0.Time]].flatten.toArray].toArray w0 (fun e w'=>∃ v,e=.returned v∧v=.bool r∧True∧Iv w0 [] μ μ [] w'):=by
 refine enter Tryz.func57 rfl Tryz.ntmps57 rfl fun a hA=>?_
 have hI:=Iv.start hμ
 have H:=bI H
 refine w_seq fun _ hN1=>w_reg<|o_box [[.int .u32 x0.Version],[u0_0],[u0_1],[.int .u32 x0.Time]] hI hA rfl rfl rfl fun g1 a w hA hI hg1 =>
  sta hA rfl rfl fun a hA=>?_
 refine o_nil<|hN1 _ _ ?_
 obtain ⟨c1,hz1,Hk1⟩:=bB H
 refine w_cut (fun a w=>Fr a 16 [(2,.bool c1)]∧Iv w0 [] μ μ [cel g1 [[.int .u32 x0.Version],[u0_0],[u0_1],[.int .u32 x0.Time]] 63] w) ?_ ?_
 ·have H:=bI hz1
  refine w_any [] mo hI fun w hI=>?_
  refine gE 0 hA rfl (.inr hI) (fun _=>r_fd (k:=1) U63 rfl sz60 hA rfl rfl) fun a hA=>?_
  refine gT 1 hA rfl hI (fun w hI=>r_ld1 (j:=0) [[.int .u32 x0.Version]] [[u0_1],[.int .u32 x0.Time]] U60 rfl hI rfl hA rfl rfl) fun a hA=>?_
  obtain ⟨_,hsl1⟩:=Slc.sv hx0.2.1
  refine gE 2 hA rfl (.inr hI) (fun _=>r_slen U60 hsl1 hA rfl) fun a hA=>?_
  refine gE 3 hA rfl (.inr hI) (fun _=>r_eql hA rfl rfl) fun a hA=>?_
  refine gE 4 hA rfl (.inr hI) (fun _=>r_mv hA rfl) fun a hA=>?_
  rcases Bool.eq_false_or_eq_true (decide ((x0.Ins.length:Int)=1)) with hc1 | hc1
  ·have hc10:=hc1;obtain ⟨hc1,H⟩:=dT H hc1
   refine g_easy (i:=5) hA rfl (wanted_yes hA rfl rfl hc10) (by kernel_rfl) (.inr hI) (fun _=>r_fd (k:=1) U63 rfl sz60 hA rfl rfl) rfl fun a hA=>?_
   refine g_take (i:=6) hA rfl (wanted_yes hA rfl rfl hc10) (by kernel_rfl) hI (fun w hI=>r_ld1 (j:=0) [[.int .u32 x0.Version]] [[u0_1],[.int .u32 x0.Time]] U60 rfl hI rfl hA rfl rfl) rfl fun a hA=>?_
   obtain ⟨hb1,H⟩:=bG H
   obtain ⟨_,he1,_,hat1⟩:=Slc.elem hx0.2.1 (getD_some default (by decide) hb1)
   obtain ⟨v1,rfl,hw1⟩:=he1
   obtain ⟨_,hsl2⟩:=Slc.sv hx0.2.1
   refine g_easy (i:=7) hA rfl (wanted_yes hA rfl rfl hc10) (by kernel_rfl) (.inr hI) (fun _=>r_six U60 sz67 hsl2 hA rfl rfl (by decide) hb1) rfl fun a hA=>?_
   refine g_easy (i:=8) hA rfl (wanted_yes hA rfl rfl hc10) (by kernel_rfl) (.inr hI) (fun _=>r_fd (k:=so u0_0+(0:Int).toNat * 35) U67 rfl sz65 hA rfl rfl) rfl fun a hA=>?_
   refine g_take (i:=9) hA rfl (wanted_yes hA rfl rfl hc10) (by kernel_rfl) hI (fun w hI=>r_ldmA [] [av .u8 32 ((x0.Ins.getD (0:Int).toNat default).From.Tx),[.int .u32 ((x0.Ins.getD (0:Int).toNat default).From.N)]] [[v1],[.int .u32 ((x0.Ins.getD (0:Int).toNat default).Seq)]] U65 rfl sz65 rfl hI.agr hat1 hA rfl rfl) rfl fun a hA=>?_
   refine gF 10 rfl ?_
   refine o_yes hA rfl rfl hc10<|?_
   obtain ⟨r1,hr1,H⟩:=bB H
   refine o_callp (u:=.agg [av .u8 32 r1.Tx,[.int .u32 r1.N]].flatten.toArray) cf97 hA rfl hI (q1_Null.c μ _ hI.agr  r1 hr1) rfl fun a w hz2 hI hA=>?_
   refine o_nil<|⟨(.inr hI),?_⟩
   refine gF 11 rfl ?_
   refine o_yes hA rfl rfl hc10<|?_
   obtain ⟨r2,hr2,H⟩:=bB H
   refine o_callp (u:=.bool r2) cf96 hA rfl hI (q0_SamePoint.c μ _ hI.agr ((x0.Ins.getD (0:Int).toNat default).From) ⟨hw1.1,hw1.2.1⟩ r1 ⟨hz2.1,hz2.2⟩ r2 hr2) rfl fun a w hz3 hI hA=>?_
   refine o_nil<|⟨(.inr hI),?_⟩
   refine gE 12 hA rfl (.inr hI) (fun _=>r_pick_t hA rfl hc10 rfl) fun a hA=>?_
   refine gE 13 hA rfl (.inr hI) (fun _=>r_as hA rfl) fun a hA=>?_
   refine gN ?_
   cases sJ H
   exact ⟨hA.sub ⟨rfl,trivial⟩,hI⟩
  ·have hc10:=hc1;obtain ⟨hc1,H⟩:=dF H hc1
   refine g_skip (i:=5) hA rfl (wanted_no hA rfl rfl (by rw [hc10];simp [vb])) (by kernel_rfl) (.inr hI) rfl fun a hA=>?_
   refine g_skip (i:=6) hA rfl (wanted_no hA rfl rfl (by rw [hc10];simp [vb])) (by kernel_rfl) (.inr hI) rfl fun a hA=>?_
   refine g_skip (i:=7) hA rfl (wanted_no hA rfl rfl (by rw [hc10];simp [vb])) (by kernel_rfl) (.inr hI) rfl fun a hA=>?_
   refine g_skip (i:=8) hA rfl (wanted_no hA rfl rfl (by rw [hc10];simp [vb])) (by kernel_rfl) (.inr hI) rfl fun a hA=>?_
   refine g_skip (i:=9) hA rfl (wanted_no hA rfl rfl (by rw [hc10];simp [vb])) (by kernel_rfl) (.inr hI) rfl fun a hA=>?_
   refine g_skip (i:=10) hA rfl (wanted_no hA rfl rfl (by rw [hc10];simp [vb])) (by kernel_rfl) (.inr hI) rfl fun a hA=>?_
   refine g_skip (i:=11) hA rfl (wanted_no hA rfl rfl (by rw [hc10];simp [vb])) (by kernel_rfl) (.inr hI) rfl fun a hA=>?_
   refine gE 12 hA rfl (.inr hI) (fun _=>r_pick_f hA rfl hc10 rfl) fun a hA=>?_
   refine gE 13 hA rfl (.inr hI) (fun _=>r_as hA rfl) fun a hA=>?_
   refine gN ?_
   cases sJ H
   exact ⟨hA.sub ⟨rfl,trivial⟩,hI⟩
 ·rintro a w ⟨hA,hI⟩
  have H:=Hk1
  refine w_ret ?_
  obtain rfl:=sJ H
  exact ret1 hA Tryz.results57 rfl ⟨_,rfl,rfl,trivial,hI.forget0⟩
theorem q1_Size.c (μ:Store)(w0:World)(hμ:Agr μ w0)(x0:Tx)(u0_0 u0_1:Value)(hx0:TxW μ x0 u0_0 u0_1)(r:Int)(H:q1_Size.f x0=some r) :
  Calls Tryz.prog 93 [.agg [[.int .u32 x0.Version],[u0_0],[u0_1],[.int .u32 x0.Time]].flatten.toArray].toArray w0 (fun e w'=>∃ v,e=.returned v∧v=.int .i64 r∧InR .i64 r∧Iv w0 [] μ μ [] w'):=by
 refine enter Tryz.func93 rfl Tryz.ntmps93 rfl fun a hA=>?_
 have hI:=Iv.start hμ
 have H:=bI H
 refine w_seq fun _ hN1=>w_reg<|o_box [[.int .u32 x0.Version],[u0_0],[u0_1],[.int .u32 x0.Time]] hI hA rfl rfl rfl fun g1 a w hA hI hg1 =>
  sta hA rfl rfl fun a hA=>?_
 refine o_nil<|hN1 _ _<|w_seq fun _ hN2=>w_reg<|stp hA (r_ldA (j:=0) [] [[.int .u32 x0.Version],[u0_0],[u0_1],[.int .u32 x0.Time]] [] U63 rfl sz63 rfl hI rfl hA rfl rfl) rfl fun a hA=>?_
 obtain ⟨r1,hr1,H⟩:=bB H
 refine o_call _ cf29 hA rfl (q1_TxBytes.c μ _ hI.agr x0 u0_0 u0_1 ⟨hx0.1,hx0.2.1,hx0.2.2.1,hx0.2.2.2⟩ r1 hr1) rfl fun v1 a w hz1 hA=>?_
 obtain ⟨_,cs1,rfl,hE1,hi1⟩:=hz1
 have hI:=hI.call hi1
 have hlen1:=Iv.row_in hI (j:=0) rfl
 refine stp hA (r_rlen (xs:=0) U30 hI (j:=0) rfl hA rfl) rfl fun a hA =>
  sta hA rfl rfl fun a hA=>?_
 refine o_nil<|hN2 _ _<|w_ret ?_
 obtain rfl:=sJ H
 exact ret1 hA Tryz.results93 rfl ⟨_,rfl,rfl,hlen1,hI.forget0⟩
theorem q1_Values.c (μ:Store)(w0:World)(hμ:Agr μ w0)(x0:Tx)(u0_0 u0_1:Value)(hx0:TxW μ x0 u0_0 u0_1)(r:List Int)(H:q1_Values.f x0=some r) :
  Calls Tryz.prog 95 [.agg [[.int .u32 x0.Version],[u0_0],[u0_1],[.int .u32 x0.Time]].flatten.toArray].toArray w0 (fun e w'=>∃ v,e=.returned v∧∃(v0:Value)(c0:List Value),v=v0∧Els (RI .u64) 1 r c0∧Iv w0 [] μ μ [row 70 1 v0 r.length c0] w'):=by
 refine enter Tryz.func95 rfl Tryz.ntmps95 rfl fun a hA=>?_
 have hI:=Iv.start hμ
 have H:=bI H
 refine w_seq fun _ hN1=>w_reg<|o_box [[.int .u32 x0.Version],[u0_0],[u0_1],[.int .u32 x0.Time]] hI hA rfl rfl rfl fun g1 a w hA hI hg1 =>
  sta hA rfl rfl fun a hA=>?_
 refine o_nil<|hN1 _ _<|w_seq fun _ hN2=>w_reg<|sta hA rfl rfl fun a hA=>?_
 refine o_nil<|hN2 _ _ ?_
 obtain ⟨c1,hz1,Hk1⟩:=bB H
 refine w_cut (fun a w=>∃(vvc1:Value)(ccc1:List Value),Els (RI .u64) 1 c1 ccc1∧Fr a 22 [(2,Sn),(3,vvc1)]∧Iv w0 [] μ μ [row 70 1 vvc1 c1.length ccc1,cel g1 [[.int .u32 x0.Version],[u0_0],[u0_1],[.int .u32 x0.Time]] 63] w) ?_ ?_
 ·have H:=bI hz1
  refine w_seq fun _ hN3=>w_reg<|sta hA rfl rfl fun a hA=>?_
  refine o_nil<|hN3 _ _<|w_block ?_
  have hI:=hI.nilRow 70 1
  obtain ⟨z1,hz2,Hk2⟩:=bind_some H
  obtain ⟨n1,hn1⟩:=loopO_some hz2
  refine w_loop (fun n a w=>∃(s1:List Int)(s2:Int)(vvs1:Value)(ccs1:List Value),loopN (q1_Values.s0 x0) n (s1,s2)=some z1∧Els (RI .u64) 1 s1 ccs1∧InR .i64 s2∧Fr a 22 [(1,pt g1 0),(2,Sn),(3,vvs1),(4,.int .i64 s2)]∧Iv w0 [] μ μ [row 70 1 vvs1 s1.length ccs1,cel g1 [[.int .u32 x0.Version],[u0_0],[u0_1],[.int .u32 x0.Time]] 63] w) n1 ⟨[],0,Sn,[],hn1,(Els.nil (RE:=(RI .u64)) (sz:=1)),(in_lit .i64 0 rfl),hA.sub ⟨rfl,rfl,rfl,rfl,trivial⟩,hI⟩ ?_
  clear hA hI
  rintro n a w ⟨s1,s2,vvs1,ccs1,hn1,ws1,ws2,hA,hI⟩
  obtain ⟨m1,rfl,H⟩:=loopN_bind hn1
  clear hn1
  refine w_seq fun _ hN4=>w_seq fun _ hN5=>w_reg<|stm hA rfl rfl fun a hA =>
   stp hA (r_fd (k:=2) U63 rfl sz61 hA rfl rfl) rfl fun a hA =>
   stp hA (r_ld1 (j:=1) [[.int .u32 x0.Version],[u0_0]] [[.int .u32 x0.Time]] U61 rfl hI rfl hA rfl rfl) rfl fun a hA=>?_
  obtain ⟨_,hsl1⟩:=Slc.sv hx0.2.2.1
  refine stp hA (r_slen U61 hsl1 hA rfl) rfl fun a hA =>
   stp hA (r_lss hA rfl rfl) rfl fun a hA=>?_
  refine o_nil<|hN5 _ _<|w_cond hA rfl (fun hc1=>?_) (fun hc1=>?_)
  ·obtain ⟨hc1,H⟩:=dT H hc1
   refine w_skip<|hN4 _ _<|w_seq fun _ hN6=>w_block<|w_reg<|stm hA rfl rfl fun a hA =>
    stp hA (r_fd (k:=2) U63 rfl sz61 hA rfl rfl) rfl fun a hA =>
    stp hA (r_ld1 (j:=1) [[.int .u32 x0.Version],[u0_0]] [[.int .u32 x0.Time]] U61 rfl hI rfl hA rfl rfl) rfl fun a hA =>
    stm hA rfl rfl fun a hA=>?_
   obtain ⟨hb1,H⟩:=bG H
   obtain ⟨_,he1,_,hat1⟩:=Slc.elem hx0.2.2.1 (getD_some default hb1.1 hb1.2)
   obtain ⟨rfl,hw1⟩:=he1
   obtain ⟨_,hsl2⟩:=Slc.sv hx0.2.2.1
   refine stp hA (r_six U61 sz106 hsl2 hA rfl rfl hb1.1 hb1.2) rfl fun a hA =>
    stp hA (r_fd (k:=so u0_1+s2.toNat * 33) U106 rfl sz70 hA rfl rfl) rfl fun a hA =>
    stp hA (r_ldm1 [] [av .u8 32 ((x0.Outs.getD s2.toNat default).Lock)] U70 rfl hI.agr hat1 hA rfl rfl) rfl fun a hA=>?_
   have hE1:Els (RI .u64) 1 ([(x0.Outs.getD s2.toNat default).Value]:List Int) _:=(Els.cons (c:=[[.int .u64 ((x0.Outs.getD s2.toNat default).Value)]].flatten) ⟨rfl,hw1.1⟩ rfl Els.nil)
   refine o_bsl ([[.int .u64 ((x0.Outs.getD s2.toNat default).Value)]].flatten++([])) te70 zr70 U129 hI hA rfl rfl rfl rfl (by kernel_rfl) rfl fun g2 a w hA hI=>?_
   generalize hcs:([[.int .u64 ((x0.Outs.getD s2.toNat default).Value)]].flatten++([]):List Value)=cs1 at hE1 hI
   clear hcs
   obtain ⟨hb2,H⟩:=bG H
   have hE3:=ws1.app hE1
   refine o_appG (xs:=(s1:List Int)) (ys:=(([(x0.Outs.getD s2.toNat default).Value]:List Int):List Int)) (M:=17592186044416) 1 te70 U129 hI rfl hA rfl rfl (src_row hI (j:=0) rfl) hE1.len (hE1.ones (one_RI _)) hb2 rfl fun v1 a w hA hI =>
    sta hA rfl rfl fun a hA=>?_
   refine o_nil<|hN6 _ _<|w_reg<|stm hA rfl rfl fun a hA =>
    stp hA (r_add hA rfl rfl) rfl fun a hA =>
    sta hA rfl rfl fun a hA=>?_
   refine o_nil<|⟨m1,lS _,s1++([(x0.Outs.getD s2.toNat default).Value]:List Int),IntKind.i64.wrap (s2+1),v1,ccs1++cs1,H,hE3,(wrap_in _ _),hA.sub ⟨rfl,rfl,rfl,rfl,trivial⟩,(hI.sl [1,2] rfl)⟩
  ·obtain ⟨hc1,H⟩:=dF H hc1
   refine w_exit rfl ?_
   have H:some s1=some z1:=H
   obtain rfl:=sI H
   have H:=Hk2
   cases sJ H
   exact ⟨vvs1,ccs1,ws1,hA.sub ⟨rfl,rfl,trivial⟩,hI⟩
 ·rintro a w ⟨vvc1,ccc1,wc1,hA,hI⟩
  have H:=Hk1
  refine w_seq fun _ hN7=>w_reg<|stm hA rfl rfl fun a hA =>
   sta hA rfl rfl fun a hA=>?_
  refine o_nil<|hN7 _ _<|w_ret ?_
  obtain rfl:=sJ H
  exact ret1 hA Tryz.results95 rfl ⟨_,rfl,vvc1,ccc1,rfl,wc1,((hI.sl [0] rfl).less (Store.le.refl _) hI.le)⟩
theorem q1_CheckTx.c (μ:Store)(w0:World)(hμ:Agr μ w0)(x0:Tx)(u0_0 u0_1:Value)(hx0:TxW μ x0 u0_0 u0_1)(r:Int)(H:q1_CheckTx.f x0=some r) :
  Calls Tryz.prog 55 [.agg [[.int .u32 x0.Version],[u0_0],[u0_1],[.int .u32 x0.Time]].flatten.toArray].toArray w0 (fun e w'=>∃ v,e=.returned v∧v=.int .i64 r∧InR .i64 r∧Iv w0 [] μ μ [] w'):=by
 refine enter Tryz.func55 rfl Tryz.ntmps55 rfl fun a hA=>?_
 have hI:=Iv.start hμ
 have H:=bI H
 refine w_seq fun _ hN1=>w_reg<|o_box [[.int .u32 x0.Version],[u0_0],[u0_1],[.int .u32 x0.Time]] hI hA rfl rfl rfl fun g1 a w hA hI hg1 =>
  sta hA rfl rfl fun a hA=>?_
 refine o_nil<|hN1 _ _<|w_seq fun _ hN2=>?_
 obtain ⟨c1,hz1,Hk1⟩:=bB H
 refine w_cut (fun a w=>Fr a 106 [(1,pt g1 0),(2,.int .i64 0),(30,.bool c1)]∧Iv w0 [] μ μ [cel g1 [[.int .u32 x0.Version],[u0_0],[u0_1],[.int .u32 x0.Time]] 63] w) ?_ ?_
 ·have H:=bI hz1
  refine w_reg<|stp hA (r_fd (k:=1) U63 rfl sz60 hA rfl rfl) rfl fun a hA =>
   stp hA (r_ld1 (j:=0) [[.int .u32 x0.Version]] [[u0_1],[.int .u32 x0.Time]] U60 rfl hI rfl hA rfl rfl) rfl fun a hA=>?_
  obtain ⟨_,hsl1⟩:=Slc.sv hx0.2.1
  refine stp hA (r_slen U60 hsl1 hA rfl) rfl fun a hA =>
   stp hA (r_eql hA rfl rfl) rfl fun a hA =>
   stm hA rfl rfl fun a hA=>?_
  rcases Bool.eq_false_or_eq_true (decide ((x0.Ins.length:Int)=0)) with hc1 | hc1
  ·have hc10:=hc1;obtain ⟨hc1,H⟩:=dT H hc1
   refine o_no hA rfl rfl (by rw [hc10];simp [vb]) rfl fun a hA =>
    o_no hA rfl rfl (by rw [hc10];simp [vb]) rfl fun a hA =>
    o_no hA rfl rfl (by rw [hc10];simp [vb]) rfl fun a hA =>
    o_no hA rfl rfl (by rw [hc10];simp [vb]) rfl fun a hA =>
    stp hA (r_pick_t hA rfl hc10 rfl) rfl fun a hA =>
    stm hA rfl rfl fun a hA =>
    o_no hA rfl rfl (by simp [vb]) rfl fun a hA =>
    o_no hA rfl rfl (by simp [vb]) rfl fun a hA =>
    o_no hA rfl rfl (by simp [vb]) rfl fun a hA =>
    o_no hA rfl rfl (by simp [vb]) rfl fun a hA =>
    stp hA (r_pick_t hA rfl rfl rfl) rfl fun a hA =>
    stm hA rfl rfl fun a hA =>
    o_no hA rfl rfl (by simp [vb]) rfl fun a hA =>
    o_no hA rfl rfl (by simp [vb]) rfl fun a hA =>
    o_no hA rfl rfl (by simp [vb]) rfl fun a hA =>
    o_no hA rfl rfl (by simp [vb]) rfl fun a hA =>
    stp hA (r_pick_t hA rfl rfl rfl) rfl fun a hA=>?_
   refine o_nil ?_
   cases sJ H
   exact ⟨hA.sub ⟨rfl,rfl,rfl,trivial⟩,hI⟩
  ·have hc10:=hc1;obtain ⟨hc1,H⟩:=dF H hc1
   refine o_yes hA rfl rfl hc10 <|
    stp hA (r_fd (k:=1) U63 rfl sz60 hA rfl rfl) rfl fun a hA =>
    o_yes hA rfl rfl hc10 <|
    stp hA (r_ld1 (j:=0) [[.int .u32 x0.Version]] [[u0_1],[.int .u32 x0.Time]] U60 rfl hI rfl hA rfl rfl) rfl fun a hA =>
    o_yes hA rfl rfl hc10<|?_
   obtain ⟨_,hsl2⟩:=Slc.sv hx0.2.1
   refine stp hA (r_slen U60 hsl2 hA rfl) rfl fun a hA =>
    o_yes hA rfl rfl hc10 <|
    stp hA (r_gtr hA rfl rfl) rfl fun a hA =>
    stp hA (r_pick_f hA rfl hc10 rfl) rfl fun a hA =>
    stm hA rfl rfl fun a hA=>?_
   rcases Bool.eq_false_or_eq_true (decide (50 < (x0.Ins.length:Int))) with hc2 | hc2
   ·have hc20:=hc2;obtain ⟨hc2,H⟩:=dT H hc2
    refine o_no hA rfl rfl (by rw [hc20];simp [vb]) rfl fun a hA =>
     o_no hA rfl rfl (by rw [hc20];simp [vb]) rfl fun a hA =>
     o_no hA rfl rfl (by rw [hc20];simp [vb]) rfl fun a hA =>
     o_no hA rfl rfl (by rw [hc20];simp [vb]) rfl fun a hA =>
     stp hA (r_pick_t hA rfl hc20 rfl) rfl fun a hA =>
     stm hA rfl rfl fun a hA =>
     o_no hA rfl rfl (by simp [vb]) rfl fun a hA =>
     o_no hA rfl rfl (by simp [vb]) rfl fun a hA =>
     o_no hA rfl rfl (by simp [vb]) rfl fun a hA =>
     o_no hA rfl rfl (by simp [vb]) rfl fun a hA =>
     stp hA (r_pick_t hA rfl rfl rfl) rfl fun a hA=>?_
    refine o_nil ?_
    cases sJ H
    exact ⟨hA.sub ⟨rfl,rfl,rfl,trivial⟩,hI⟩
   ·have hc20:=hc2;obtain ⟨hc2,H⟩:=dF H hc2
    refine o_yes hA rfl rfl hc20 <|
     stp hA (r_fd (k:=2) U63 rfl sz61 hA rfl rfl) rfl fun a hA =>
     o_yes hA rfl rfl hc20 <|
     stp hA (r_ld1 (j:=0) [[.int .u32 x0.Version],[u0_0]] [[.int .u32 x0.Time]] U61 rfl hI rfl hA rfl rfl) rfl fun a hA =>
     o_yes hA rfl rfl hc20<|?_
    obtain ⟨_,hsl3⟩:=Slc.sv hx0.2.2.1
    refine stp hA (r_slen U61 hsl3 hA rfl) rfl fun a hA =>
     o_yes hA rfl rfl hc20 <|
     stp hA (r_eql hA rfl rfl) rfl fun a hA =>
     stp hA (r_pick_f hA rfl hc20 rfl) rfl fun a hA =>
     stm hA rfl rfl fun a hA=>?_
    rcases Bool.eq_false_or_eq_true (decide ((x0.Outs.length:Int)=0)) with hc3 | hc3
    ·have hc30:=hc3;obtain ⟨hc3,H⟩:=dT H hc3
     refine o_no hA rfl rfl (by rw [hc30];simp [vb]) rfl fun a hA =>
      o_no hA rfl rfl (by rw [hc30];simp [vb]) rfl fun a hA =>
      o_no hA rfl rfl (by rw [hc30];simp [vb]) rfl fun a hA =>
      o_no hA rfl rfl (by rw [hc30];simp [vb]) rfl fun a hA =>
      stp hA (r_pick_t hA rfl hc30 rfl) rfl fun a hA=>?_
     refine o_nil ?_
     cases sJ H
     exact ⟨hA.sub ⟨rfl,rfl,rfl,trivial⟩,hI⟩
    ·have hc30:=hc3;obtain ⟨hc3,H⟩:=dF H hc3
     refine o_yes hA rfl rfl hc30 <|
      stp hA (r_fd (k:=2) U63 rfl sz61 hA rfl rfl) rfl fun a hA =>
      o_yes hA rfl rfl hc30 <|
      stp hA (r_ld1 (j:=0) [[.int .u32 x0.Version],[u0_0]] [[.int .u32 x0.Time]] U61 rfl hI rfl hA rfl rfl) rfl fun a hA =>
      o_yes hA rfl rfl hc30<|?_
     obtain ⟨_,hsl4⟩:=Slc.sv hx0.2.2.1
     refine stp hA (r_slen U61 hsl4 hA rfl) rfl fun a hA =>
      o_yes hA rfl rfl hc30 <|
      stp hA (r_gtr hA rfl rfl) rfl fun a hA =>
      stp hA (r_pick_f hA rfl hc30 rfl) rfl fun a hA=>?_
     refine o_nil ?_
     cases sJ H
     exact ⟨hA.sub ⟨rfl,rfl,rfl,trivial⟩,hI⟩
 ·rintro a w ⟨hA,hI⟩
  have H:=Hk1
  refine w_cond hA rfl (fun hc4=>?_) (fun hc4=>?_)
  ·have H:=bT H hc4
   refine w_seq fun _ hN3=>w_reg<|sta hA rfl rfl fun a hA=>?_
   refine o_nil<|hN3 _ _<|w_ret ?_
   obtain rfl:=sJ H
   exact ret1 hA Tryz.results55 rfl ⟨_,rfl,rfl,(in_lit .i64 104 rfl),hI.forget0⟩
  ·have hc4:=ft hc4;have H:=bF H hc4
   refine w_skip<|hN2 _ _<|w_seq fun _ hN4=>w_seq fun _ hN5=>w_reg<|stp hA (r_ldA (j:=0) [] [[.int .u32 x0.Version],[u0_0],[u0_1],[.int .u32 x0.Time]] [] U63 rfl sz63 rfl hI rfl hA rfl rfl) rfl fun a hA=>?_
   obtain ⟨r1,hr1,H⟩:=bB H
   refine o_callp (u:=.int .i64 r1) cf93 hA rfl hI (q1_Size.c μ _ hI.agr x0 u0_0 u0_1 ⟨hx0.1,hx0.2.1,hx0.2.2.1,hx0.2.2.2⟩ r1 hr1) rfl fun a w hz2 hI hA =>
    stp hA (r_gtr hA rfl rfl) rfl fun a hA=>?_
   refine o_nil<|hN5 _ _<|w_cond hA rfl (fun hc5=>?_) (fun hc5=>?_)
   ·obtain ⟨hc5,H⟩:=dT H hc5
    refine w_seq fun _ hN6=>w_reg<|sta hA rfl rfl fun a hA=>?_
    refine o_nil<|hN6 _ _<|w_ret ?_
    obtain rfl:=sJ H
    exact ret1 hA Tryz.results55 rfl ⟨_,rfl,rfl,(in_lit .i64 103 rfl),hI.forget0⟩
   ·obtain ⟨hc5,H⟩:=dF H hc5
    refine w_skip<|hN4 _ _<|w_seq fun _ hN7=>w_seq fun _ hN8=>w_reg<|sta hA rfl rfl fun a hA=>?_
    refine o_nil<|hN8 _ _<|w_block ?_
    obtain ⟨z1,hz3,Hk2⟩:=bind_some H
    obtain ⟨n1,hn1⟩:=loopO_some hz3
    refine w_loop (fun n a w=>∃(s1:Int),loopN (q1_CheckTx.s0 x0) n s1=some z1∧InR .i64 s1∧Fr a 106 [(1,pt g1 0),(2,.int .i64 0),(3,.int .i64 s1)]∧Iv w0 [] μ μ [cel g1 [[.int .u32 x0.Version],[u0_0],[u0_1],[.int .u32 x0.Time]] 63] w) n1 ⟨0,hn1,(in_lit .i64 0 rfl),hA.sub ⟨rfl,rfl,rfl,trivial⟩,hI⟩ ?_
    clear hA hI
    rintro n a w ⟨s1,hn1,ws1,hA,hI⟩
    obtain ⟨m1,rfl,H⟩:=loopN_bind hn1
    clear hn1
    refine w_seq fun _ hN9=>w_seq fun _ hN10=>w_reg<|stm hA rfl rfl fun a hA =>
     stp hA (r_fd (k:=1) U63 rfl sz60 hA rfl rfl) rfl fun a hA =>
     stp hA (r_ld1 (j:=0) [[.int .u32 x0.Version]] [[u0_1],[.int .u32 x0.Time]] U60 rfl hI rfl hA rfl rfl) rfl fun a hA=>?_
    obtain ⟨_,hsl5⟩:=Slc.sv hx0.2.1
    refine stp hA (r_slen U60 hsl5 hA rfl) rfl fun a hA =>
     stp hA (r_lss hA rfl rfl) rfl fun a hA=>?_
    refine o_nil<|hN10 _ _<|w_cond hA rfl (fun hc6=>?_) (fun hc6=>?_)
    ·obtain ⟨hc6,H⟩:=dT H hc6
     refine w_skip<|hN9 _ _<|w_seq fun _ hN11=>w_block<|w_seq fun _ hN12=>w_reg<|stp hA (r_fd (k:=1) U63 rfl sz60 hA rfl rfl) rfl fun a hA =>
      stp hA (r_ld1 (j:=0) [[.int .u32 x0.Version]] [[u0_1],[.int .u32 x0.Time]] U60 rfl hI rfl hA rfl rfl) rfl fun a hA =>
      stm hA rfl rfl fun a hA=>?_
     obtain ⟨hb1,H⟩:=bG H
     obtain ⟨_,he1,_,hat1⟩:=Slc.elem hx0.2.1 (getD_some default hb1.1 hb1.2)
     obtain ⟨v1,rfl,hw1⟩:=he1
     obtain ⟨_,hsl6⟩:=Slc.sv hx0.2.1
     refine stp hA (r_six U60 sz67 hsl6 hA rfl rfl hb1.1 hb1.2) rfl fun a hA =>
      stp hA (r_fd (k:=so u0_0+s1.toNat * 35+33) U67 rfl sz30 hA rfl rfl) rfl fun a hA =>
      stp hA (r_ldm1 [av .u8 32 ((x0.Ins.getD s1.toNat default).From.Tx),[.int .u32 ((x0.Ins.getD s1.toNat default).From.N)]] [[.int .u32 ((x0.Ins.getD s1.toNat default).Seq)]] U30 rfl hI.agr hat1 hA rfl rfl) rfl fun a hA=>?_
     obtain ⟨_,hsl7⟩:=Slc.sv hw1.2.2.1
     refine stp hA (r_slen U30 hsl7 hA rfl) rfl fun a hA =>
      stp hA (r_gtr hA rfl rfl) rfl fun a hA=>?_
     refine o_nil<|hN12 _ _<|w_cond hA rfl (fun hc7=>?_) (fun hc7=>?_)
     ·obtain ⟨hc7,H⟩:=dT H hc7
      refine w_seq fun _ hN13=>w_reg<|sta hA rfl rfl fun a hA=>?_
      refine o_nil<|hN13 _ _<|w_ret ?_
      have H:some 114=some z1:=H
      obtain rfl:=sI H
      have H:=Hk2
      obtain rfl:=sJ H
      exact ret1 hA Tryz.results55 rfl ⟨_,rfl,rfl,(in_lit .i64 114 rfl),hI.forget0⟩
     ·obtain ⟨hc7,H⟩:=dF H hc7
      refine w_skip<|hN11 _ _<|w_reg<|stm hA rfl rfl fun a hA =>
       stp hA (r_add hA rfl rfl) rfl fun a hA =>
       sta hA rfl rfl fun a hA=>?_
      refine o_nil<|⟨m1,lS _,IntKind.i64.wrap (s1+1),H,(wrap_in _ _),hA.sub ⟨rfl,rfl,rfl,trivial⟩,hI⟩
    ·obtain ⟨hc6,H⟩:=dF H hc6
     refine w_exit rfl<|hN7 _ _<|w_seq fun _ hN14=>w_reg<|stp hA (r_ldA (j:=0) [] [[.int .u32 x0.Version],[u0_0],[u0_1],[.int .u32 x0.Time]] [] U63 rfl sz63 rfl hI rfl hA rfl rfl) rfl fun a hA=>?_
     obtain ⟨r2,hr2,H⟩:=bB H
     refine o_call _ cf95 hA rfl (q1_Values.c μ _ hI.agr x0 u0_0 u0_1 ⟨hx0.1,hx0.2.1,hx0.2.2.1,hx0.2.2.2⟩ r2 hr2) rfl fun v2 a w hz4 hA=>?_
     obtain ⟨_,cs1,rfl,hE1,hi1⟩:=hz4
     have hI:=hI.call hi1
     obtain ⟨r3,hr3,H⟩:=bB H
     refine o_callp (u:=.tuple #[.int .u64 r3.1,.bool r3.2]) cf94 hA rfl hI ((by obtain ⟨μ1,hle1,hsv1,hI⟩:=hI.freezeRow 0 rfl;have hS1:Slc (RI .u64) 1 μ1 v2 r2:=⟨_,hE1,hsv1⟩;exact low_plain hle1 (q1_Sum.c μ1 _ hI.agr r2 v2 hS1 r3 hr3))) rfl fun a w hz5 hI hA =>
      stm hA rfl rfl fun a hA =>
      stp hA (r_extr (vs:=[.int .u64 r3.1,.bool r3.2]) hA rfl rfl) rfl fun a hA =>
      stp hA (r_extr (vs:=[.int .u64 r3.1,.bool r3.2]) hA rfl rfl) rfl fun a hA =>
      sta hA rfl rfl fun a hA =>
      sta hA rfl rfl fun a hA=>?_
     refine o_nil<|hN14 _ _<|w_seq fun _ hN15=>w_seq fun _ hN16=>w_reg<|stm hA rfl rfl fun a hA =>
      stp hA (r_not hA rfl) rfl fun a hA=>?_
     refine o_nil<|hN16 _ _<|w_cond hA rfl (fun hc8=>?_) (fun hc8=>?_)
     ·have hc8:=nT hc8;have hc8:=ft hc8;have H:=bF H hc8
      refine w_seq fun _ hN17=>w_reg<|sta hA rfl rfl fun a hA=>?_
      refine o_nil<|hN17 _ _<|w_ret ?_
      have H:some 105=some z1:=H
      obtain rfl:=sI H
      have H:=Hk2
      obtain rfl:=sJ H
      exact ret1 hA Tryz.results55 rfl ⟨_,rfl,rfl,(in_lit .i64 105 rfl),hI.forget0⟩
     ·have hc8:=nF hc8;have H:=bT H hc8
      refine w_skip<|hN15 _ _<|w_seq fun _ hN18=>w_seq fun _ hN19=>w_reg<|sta hA rfl rfl fun a hA=>?_
      refine o_nil<|hN19 _ _<|w_block ?_
      obtain ⟨z2,hz6,Hk3⟩:=bind_some H
      obtain ⟨n2,hn2⟩:=loopO_some hz6
      refine w_loop (fun n a w=>∃(s2:Int),loopN (q1_CheckTx.s1 x0) n s2=some z2∧InR .i64 s2∧Fr a 106 [(1,pt g1 0),(2,.int .i64 0),(6,.int .i64 s2)]∧Iv w0 [] μ μ [row 70 1 v2 r2.length cs1,cel g1 [[.int .u32 x0.Version],[u0_0],[u0_1],[.int .u32 x0.Time]] 63] w) n2 ⟨0,hn2,(in_lit .i64 0 rfl),hA.sub ⟨rfl,rfl,rfl,trivial⟩,hI⟩ ?_
      clear hA hI
      rintro n a w ⟨s2,hn2,ws2,hA,hI⟩
      obtain ⟨m2,rfl,H⟩:=loopN_bind hn2
      clear hn2
      refine w_seq fun _ hN20=>w_seq fun _ hN21=>w_reg<|stm hA rfl rfl fun a hA =>
       stp hA (r_fd (k:=1) U63 rfl sz60 hA rfl rfl) rfl fun a hA =>
       stp hA (r_ld1 (j:=1) [[.int .u32 x0.Version]] [[u0_1],[.int .u32 x0.Time]] U60 rfl hI rfl hA rfl rfl) rfl fun a hA=>?_
      obtain ⟨_,hsl8⟩:=Slc.sv hx0.2.1
      refine stp hA (r_slen U60 hsl8 hA rfl) rfl fun a hA =>
       stp hA (r_lss hA rfl rfl) rfl fun a hA=>?_
      refine o_nil<|hN21 _ _<|w_cond hA rfl (fun hc9=>?_) (fun hc9=>?_)
      ·obtain ⟨hc9,H⟩:=dT H hc9
       refine w_skip<|hN20 _ _<|w_seq fun _ hN22=>w_block<|w_seq fun _ hN23=>w_reg<|sta hA rfl rfl fun a hA=>?_
       refine o_nil<|hN23 _ _<|w_block ?_
       obtain ⟨z3,hz7,Hk4⟩:=bind_some H
       obtain ⟨n3,hn3⟩:=loopO_some hz7
       refine w_loop (fun n a w=>∃(s3:Int),loopN (q1_CheckTx.s2 x0 s2) n s3=some z3∧InR .i64 s3∧Fr a 106 [(1,pt g1 0),(2,.int .i64 0),(6,.int .i64 s2),(7,.int .i64 s3),(61,.bool (decide (s2 < (x0.Ins.length:Int))))]∧Iv w0 [] μ μ [row 70 1 v2 r2.length cs1,cel g1 [[.int .u32 x0.Version],[u0_0],[u0_1],[.int .u32 x0.Time]] 63] w) n3 ⟨0,hn3,(in_lit .i64 0 rfl),hA.sub ⟨rfl,rfl,rfl,rfl,rfl,trivial⟩,hI⟩ ?_
       clear hA hI
       rintro n a w ⟨s3,hn3,ws3,hA,hI⟩
       obtain ⟨m3,rfl,H⟩:=loopN_bind hn3
       clear hn3
       refine w_seq fun _ hN24=>w_seq fun _ hN25=>w_reg<|stm hA rfl rfl fun a hA =>
        stm hA rfl rfl fun a hA =>
        stp hA (r_lss hA rfl rfl) rfl fun a hA=>?_
       refine o_nil<|hN25 _ _<|w_cond hA rfl (fun hc10=>?_) (fun hc10=>?_)
       ·obtain ⟨hc10,H⟩:=dT H hc10
        refine w_skip<|hN24 _ _<|w_seq fun _ hN26=>w_block<|w_seq fun _ hN27=>?_
        refine w_draw mo (by kernel_rfl) hI ?_
        refine qtp hA (fun _ hI=>r_fd (k:=1) U63 rfl sz60 hA rfl rfl) rfl fun a hA =>
         qtp hA (fun _ hI=>r_ld1 (j:=1) [[.int .u32 x0.Version]] [[u0_1],[.int .u32 x0.Time]] U60 rfl hI rfl hA rfl rfl) rfl fun a hA =>
         qtp hA (fun _ hI=>r_mv hA rfl) rfl fun a hA=>?_
        obtain ⟨hb2,H⟩:=bG H
        obtain ⟨_,he2,_,hat2⟩:=Slc.elem hx0.2.1 (getD_some default hb2.1 hb2.2)
        obtain ⟨v3,rfl,hw2⟩:=he2
        obtain ⟨_,hsl9⟩:=Slc.sv hx0.2.1
        refine qtp hA (fun _ hI=>r_six U60 sz67 hsl9 hA rfl rfl hb2.1 hb2.2) rfl fun a hA =>
         qtp hA (fun _ hI=>r_fd (k:=so u0_0+s2.toNat * 35) U67 rfl sz65 hA rfl rfl) rfl fun a hA =>
         qtp hA (fun _ hI=>r_ldmA [] [av .u8 32 ((x0.Ins.getD s2.toNat default).From.Tx),[.int .u32 ((x0.Ins.getD s2.toNat default).From.N)]] [[v3],[.int .u32 ((x0.Ins.getD s2.toNat default).Seq)]] U65 rfl sz65 rfl hI.agr hat2 hA rfl rfl) rfl fun a hA =>
         qtp hA (fun _ hI=>r_fd (k:=1) U63 rfl sz60 hA rfl rfl) rfl fun a hA =>
         qtp hA (fun _ hI=>r_ld1 (j:=1) [[.int .u32 x0.Version]] [[u0_1],[.int .u32 x0.Time]] U60 rfl hI rfl hA rfl rfl) rfl fun a hA =>
         qtp hA (fun _ hI=>r_mv hA rfl) rfl fun a hA=>?_
        obtain ⟨hb3,H⟩:=bG H
        obtain ⟨_,he3,_,hat3⟩:=Slc.elem hx0.2.1 (getD_some default hb3.1 hb3.2)
        obtain ⟨v4,rfl,hw3⟩:=he3
        obtain ⟨_,hsl10⟩:=Slc.sv hx0.2.1
        refine qtp hA (fun _ hI=>r_six U60 sz67 hsl10 hA rfl rfl hb3.1 hb3.2) rfl fun a hA =>
         qtp hA (fun _ hI=>r_fd (k:=so u0_0+s3.toNat * 35) U67 rfl sz65 hA rfl rfl) rfl fun a hA =>
         qtp hA (fun _ hI=>r_ldmA [] [av .u8 32 ((x0.Ins.getD s3.toNat default).From.Tx),[.int .u32 ((x0.Ins.getD s3.toNat default).From.N)]] [[v4],[.int .u32 ((x0.Ins.getD s3.toNat default).Seq)]] U65 rfl sz65 rfl hI.agr hat3 hA rfl rfl) rfl fun a hA=>?_
        obtain ⟨r4,hr4,H⟩:=bB H
        refine qcall (v:=.bool r4) cf96 hA rfl (fun _ hI=>plq (q0_SamePoint.c μ _ hI.agr ((x0.Ins.getD s2.toNat default).From) ⟨hw2.1,hw2.2.1⟩ ((x0.Ins.getD s3.toNat default).From) ⟨hw3.1,hw3.2.1⟩ r4 hr4) hI) rfl fun a hA=>?_
        refine q_nil fun w hI=>?_
        refine hN27 _ _<|w_cond hA rfl (fun hc11=>?_) (fun hc11=>?_)
        ·have H:=bT H hc11
         refine w_seq fun _ hN28=>w_reg<|sta hA rfl rfl fun a hA=>?_
         refine o_nil<|hN28 _ _<|w_ret ?_
         have H:some (.inr (.inr 106))=some z3:=H
         obtain rfl:=sI H
         have H:=Hk4
         have H:some (.inr 106)=some z2:=H
         obtain rfl:=sI H
         have H:=Hk3
         have H:some 106=some z1:=H
         obtain rfl:=sI H
         have H:=Hk2
         obtain rfl:=sJ H
         exact ret1 hA Tryz.results55 rfl ⟨_,rfl,rfl,(in_lit .i64 106 rfl),hI.forget0⟩
        ·have hc11:=ft hc11;have H:=bF H hc11
         refine w_skip<|hN26 _ _<|w_reg<|stm hA rfl rfl fun a hA =>
          stp hA (r_add hA rfl rfl) rfl fun a hA =>
          sta hA rfl rfl fun a hA=>?_
         refine o_nil<|⟨m3,lS _,IntKind.i64.wrap (s3+1),H,(wrap_in _ _),hA.sub ⟨rfl,rfl,rfl,rfl,rfl,trivial⟩,hI⟩
       ·obtain ⟨hc10,H⟩:=dF H hc10
        refine w_exit rfl<|hN22 _ _<|w_reg<|stm hA rfl rfl fun a hA =>
         stp hA (r_add hA rfl rfl) rfl fun a hA =>
         sta hA rfl rfl fun a hA=>?_
        refine o_nil ?_
        have H:some (.inl (IntKind.i64.wrap (s2+1)))=some z3:=H
        obtain rfl:=sI H
        have H:=Hk4
        exact ⟨m2,lS _,IntKind.i64.wrap (s2+1),H,(wrap_in _ _),hA.sub ⟨rfl,rfl,rfl,trivial⟩,hI⟩
      ·obtain ⟨hc9,H⟩:=dF H hc9
       refine w_exit rfl<|hN18 _ _<|w_seq fun _ hN29=>w_seq fun _ hN30=>w_reg<|stp hA (r_ldA (j:=1) [] [[.int .u32 x0.Version],[u0_0],[u0_1],[.int .u32 x0.Time]] [] U63 rfl sz63 rfl hI rfl hA rfl rfl) rfl fun a hA=>?_
       obtain ⟨r5,hr5,H⟩:=bB H
       refine o_callp (u:=.bool r5) cf57 hA rfl hI (q1_Base.c μ _ hI.agr x0 u0_0 u0_1 ⟨hx0.1,hx0.2.1,hx0.2.2.1,hx0.2.2.2⟩ r5 hr5) rfl fun a w hz9 hI hA=>?_
       refine o_nil<|hN30 _ _<|w_cond hA rfl (fun hc12=>?_) (fun hc12=>?_)
       ·have H:=bT H hc12
        refine w_seq fun _ hN31=>w_seq fun _ hN32=>w_reg<|stp hA (r_fd (k:=1) U63 rfl sz60 hA rfl rfl) rfl fun a hA =>
         stp hA (r_ld1 (j:=1) [[.int .u32 x0.Version]] [[u0_1],[.int .u32 x0.Time]] U60 rfl hI rfl hA rfl rfl) rfl fun a hA=>?_
        obtain ⟨hb4,H⟩:=bG H
        obtain ⟨_,he4,_,hat4⟩:=Slc.elem hx0.2.1 (getD_some default (by decide) hb4)
        obtain ⟨v5,rfl,hw4⟩:=he4
        obtain ⟨_,hsl11⟩:=Slc.sv hx0.2.1
        refine stp hA (r_six U60 sz67 hsl11 hA rfl rfl (by decide) hb4) rfl fun a hA =>
         stp hA (r_fd (k:=so u0_0+(0:Int).toNat * 35+33) U67 rfl sz30 hA rfl rfl) rfl fun a hA =>
         stp hA (r_ldm1 [av .u8 32 ((x0.Ins.getD (0:Int).toNat default).From.Tx),[.int .u32 ((x0.Ins.getD (0:Int).toNat default).From.N)]] [[.int .u32 ((x0.Ins.getD (0:Int).toNat default).Seq)]] U30 rfl hI.agr hat4 hA rfl rfl) rfl fun a hA=>?_
        obtain ⟨_,hsl12⟩:=Slc.sv hw4.2.2.1
        refine stp hA (r_slen U30 hsl12 hA rfl) rfl fun a hA =>
         stp hA (r_lss hA rfl rfl) rfl fun a hA=>?_
        refine o_nil<|hN32 _ _<|w_cond hA rfl (fun hc13=>?_) (fun hc13=>?_)
        ·obtain ⟨hc13,H⟩:=dT H hc13
         refine w_seq fun _ hN33=>w_reg<|sta hA rfl rfl fun a hA=>?_
         refine o_nil<|hN33 _ _<|w_ret ?_
         have H:some (.inr 107)=some z2:=H
         obtain rfl:=sI H
         have H:=Hk3
         have H:some 107=some z1:=H
         obtain rfl:=sI H
         have H:=Hk2
         obtain rfl:=sJ H
         exact ret1 hA Tryz.results55 rfl ⟨_,rfl,rfl,(in_lit .i64 107 rfl),hI.forget0⟩
        ·obtain ⟨hc13,H⟩:=dF H hc13
         refine w_skip<|hN31 _ _<|w_seq fun _ hN34=>w_reg<|sta hA rfl rfl fun a hA=>?_
         refine o_nil<|hN34 _ _<|w_ret ?_
         have H:some (.inr 0)=some z2:=H
         obtain rfl:=sI H
         have H:=Hk3
         have H:some 0=some z1:=H
         obtain rfl:=sI H
         have H:=Hk2
         obtain rfl:=sJ H
         exact ret1 hA Tryz.results55 rfl ⟨_,rfl,rfl,(in_lit .i64 0 rfl),hI.forget0⟩
       ·have hc12:=ft hc12;have H:=bF H hc12
        refine w_skip<|hN29 _ _<|w_seq fun _ hN35=>w_seq fun _ hN36=>w_reg<|sta hA rfl rfl fun a hA=>?_
        refine o_nil<|hN36 _ _<|w_block ?_
        obtain ⟨z4,hz10,Hk5⟩:=bind_some H
        obtain ⟨n4,hn4⟩:=loopO_some hz10
        refine w_loop (fun n a w=>∃(s4:Int),loopN (q1_CheckTx.s3 x0) n s4=some z4∧InR .i64 s4∧Fr a 106 [(1,pt g1 0),(2,.int .i64 0),(8,.int .i64 s4)]∧Iv w0 [] μ μ [row 70 1 v2 r2.length cs1,cel g1 [[.int .u32 x0.Version],[u0_0],[u0_1],[.int .u32 x0.Time]] 63] w) n4 ⟨0,hn4,(in_lit .i64 0 rfl),hA.sub ⟨rfl,rfl,rfl,trivial⟩,hI⟩ ?_
        clear hA hI
        rintro n a w ⟨s4,hn4,ws4,hA,hI⟩
        obtain ⟨m4,rfl,H⟩:=loopN_bind hn4
        clear hn4
        refine w_seq fun _ hN37=>w_seq fun _ hN38=>w_reg<|stm hA rfl rfl fun a hA =>
         stp hA (r_fd (k:=1) U63 rfl sz60 hA rfl rfl) rfl fun a hA =>
         stp hA (r_ld1 (j:=1) [[.int .u32 x0.Version]] [[u0_1],[.int .u32 x0.Time]] U60 rfl hI rfl hA rfl rfl) rfl fun a hA=>?_
        obtain ⟨_,hsl13⟩:=Slc.sv hx0.2.1
        refine stp hA (r_slen U60 hsl13 hA rfl) rfl fun a hA =>
         stp hA (r_lss hA rfl rfl) rfl fun a hA=>?_
        refine o_nil<|hN38 _ _<|w_cond hA rfl (fun hc14=>?_) (fun hc14=>?_)
        ·obtain ⟨hc14,H⟩:=dT H hc14
         refine w_skip<|hN37 _ _<|w_seq fun _ hN39=>w_block<|w_seq fun _ hN40=>?_
         refine w_any [] mo hI fun w hI=>?_
         refine gE 0 hA rfl (.inr hI) (fun _=>r_fd (k:=1) U63 rfl sz60 hA rfl rfl) fun a hA=>?_
         refine gT 1 hA rfl hI (fun w hI=>r_ld1 (j:=1) [[.int .u32 x0.Version]] [[u0_1],[.int .u32 x0.Time]] U60 rfl hI rfl hA rfl rfl) fun a hA=>?_
         refine gE 2 hA rfl (.inr hI) (fun _=>r_mv hA rfl) fun a hA=>?_
         obtain ⟨hb5,H⟩:=bG H
         obtain ⟨_,he5,_,hat5⟩:=Slc.elem hx0.2.1 (getD_some default hb5.1 hb5.2)
         obtain ⟨v6,rfl,hw5⟩:=he5
         obtain ⟨_,hsl14⟩:=Slc.sv hx0.2.1
         refine gE 3 hA rfl (.inr hI) (fun _=>r_six U60 sz67 hsl14 hA rfl rfl hb5.1 hb5.2) fun a hA=>?_
         refine gE 4 hA rfl (.inr hI) (fun _=>r_fd (k:=so u0_0+s4.toNat * 35) U67 rfl sz65 hA rfl rfl) fun a hA=>?_
         refine gT 5 hA rfl hI (fun w hI=>r_ldmA [] [av .u8 32 ((x0.Ins.getD s4.toNat default).From.Tx),[.int .u32 ((x0.Ins.getD s4.toNat default).From.N)]] [[v6],[.int .u32 ((x0.Ins.getD s4.toNat default).Seq)]] U65 rfl sz65 rfl hI.agr hat5 hA rfl rfl) fun a hA=>?_
         refine gF 6 rfl ?_
         obtain ⟨r6,hr6,H⟩:=bB H
         refine o_callp (u:=.agg [av .u8 32 r6.Tx,[.int .u32 r6.N]].flatten.toArray) cf97 hA rfl hI (q1_Null.c μ _ hI.agr  r6 hr6) rfl fun a w hz11 hI hA=>?_
         refine o_nil<|⟨(.inr hI),?_⟩
         refine gF 7 rfl ?_
         obtain ⟨r7,hr7,H⟩:=bB H
         refine o_callp (u:=.bool r7) cf96 hA rfl hI (q0_SamePoint.c μ _ hI.agr ((x0.Ins.getD s4.toNat default).From) ⟨hw5.1,hw5.2.1⟩ r6 ⟨hz11.1,hz11.2⟩ r7 hr7) rfl fun a w hz12 hI hA=>?_
         refine o_nil<|⟨(.inr hI),?_⟩
         refine gN<|hN40 _ _<|w_cond hA rfl (fun hc15=>?_) (fun hc15=>?_)
         ·have H:=bT H hc15
          refine w_seq fun _ hN41=>w_reg<|sta hA rfl rfl fun a hA=>?_
          refine o_nil<|hN41 _ _<|w_ret ?_
          have H:some (.inr (.inr 107))=some z4:=H
          obtain rfl:=sI H
          have H:=Hk5
          have H:some (.inr 107)=some z2:=H
          obtain rfl:=sI H
          have H:=Hk3
          have H:some 107=some z1:=H
          obtain rfl:=sI H
          have H:=Hk2
          obtain rfl:=sJ H
          exact ret1 hA Tryz.results55 rfl ⟨_,rfl,rfl,(in_lit .i64 107 rfl),hI.forget0⟩
         ·have hc15:=ft hc15;have H:=bF H hc15
          refine w_skip<|hN39 _ _<|w_reg<|stm hA rfl rfl fun a hA =>
           stp hA (r_add hA rfl rfl) rfl fun a hA =>
           sta hA rfl rfl fun a hA=>?_
          refine o_nil<|⟨m4,lS _,IntKind.i64.wrap (s4+1),H,(wrap_in _ _),hA.sub ⟨rfl,rfl,rfl,trivial⟩,hI⟩
        ·obtain ⟨hc14,H⟩:=dF H hc14
         refine w_exit rfl<|hN35 _ _<|w_seq fun _ hN42=>w_reg<|sta hA rfl rfl fun a hA=>?_
         refine o_nil<|hN42 _ _<|w_ret ?_
         have H:some (.inr (.inr 0))=some z4:=H
         obtain rfl:=sI H
         have H:=Hk5
         have H:some (.inr 0)=some z2:=H
         obtain rfl:=sI H
         have H:=Hk3
         have H:some 0=some z1:=H
         obtain rfl:=sI H
         have H:=Hk2
         obtain rfl:=sJ H
         exact ret1 hA Tryz.results55 rfl ⟨_,rfl,rfl,(in_lit .i64 0 rfl),hI.forget0⟩
theorem q1_meet.c (μ:Store)(w0:World)(hμ:Agr μ w0)(x0:Tx)(u0_0 u0_1:Value)(hx0:TxW μ x0 u0_0 u0_1)(x1:Tx)(u1_0 u1_1:Value)(hx1:TxW μ x1 u1_0 u1_1)(r:Bool)(H:q1_meet.f x0 x1=some r) :
  Calls Tryz.prog 58 [.agg [[.int .u32 x0.Version],[u0_0],[u0_1],[.int .u32 x0.Time]].flatten.toArray,.agg [[.int .u32 x1.Version],[u1_0],[u1_1],[.int .u32 x1.Time]].flatten.toArray].toArray w0 (fun e w'=>∃ v,e=.returned v∧v=.bool r∧True∧Iv w0 [] μ μ [] w'):=by
 refine enter Tryz.func58 rfl Tryz.ntmps58 rfl fun a hA=>?_
 have hI:=Iv.start hμ
 have H:=bI H
 refine w_seq fun _ hN1=>w_reg<|o_box [[.int .u32 x0.Version],[u0_0],[u0_1],[.int .u32 x0.Time]] hI hA rfl rfl rfl fun g1 a w hA hI hg1 =>
  o_box [[.int .u32 x1.Version],[u1_0],[u1_1],[.int .u32 x1.Time]] hI hA rfl rfl rfl fun g2 a w hA hI hg2 =>
  sta hA rfl rfl fun a hA=>?_
 refine o_nil<|hN1 _ _<|w_seq fun _ hN2=>w_seq fun _ hN3=>w_reg<|sta hA rfl rfl fun a hA=>?_
 refine o_nil<|hN3 _ _<|w_block ?_
 obtain ⟨z1,hz1,Hk1⟩:=bind_some H
 obtain ⟨n1,hn1⟩:=loopO_some hz1
 refine w_loop (fun n a w=>∃(s1:Int),loopN (q1_meet.s0 x0 x1) n s1=some z1∧InR .i64 s1∧Fr a 34 [(2,pt g1 0),(3,pt g2 0),(4,.bool false),(5,.int .i64 s1)]∧Iv w0 [] μ μ [cel g2 [[.int .u32 x1.Version],[u1_0],[u1_1],[.int .u32 x1.Time]] 63,cel g1 [[.int .u32 x0.Version],[u0_0],[u0_1],[.int .u32 x0.Time]] 63] w) n1 ⟨0,hn1,(in_lit .i64 0 rfl),hA.sub ⟨rfl,rfl,rfl,rfl,trivial⟩,hI⟩ ?_
 clear hA hI
 rintro n a w ⟨s1,hn1,ws1,hA,hI⟩
 obtain ⟨m1,rfl,H⟩:=loopN_bind hn1
 clear hn1
 refine w_seq fun _ hN4=>w_seq fun _ hN5=>w_reg<|stm hA rfl rfl fun a hA =>
  stp hA (r_fd (k:=1) U63 rfl sz60 hA rfl rfl) rfl fun a hA =>
  stp hA (r_ld1 (j:=1) [[.int .u32 x0.Version]] [[u0_1],[.int .u32 x0.Time]] U60 rfl hI rfl hA rfl rfl) rfl fun a hA=>?_
 obtain ⟨_,hsl1⟩:=Slc.sv hx0.2.1
 refine stp hA (r_slen U60 hsl1 hA rfl) rfl fun a hA =>
  stp hA (r_lss hA rfl rfl) rfl fun a hA=>?_
 refine o_nil<|hN5 _ _<|w_cond hA rfl (fun hc1=>?_) (fun hc1=>?_)
 ·obtain ⟨hc1,H⟩:=dT H hc1
  refine w_skip<|hN4 _ _<|w_seq fun _ hN6=>w_block<|w_seq fun _ hN7=>w_reg<|sta hA rfl rfl fun a hA=>?_
  refine o_nil<|hN7 _ _<|w_block ?_
  obtain ⟨z2,hz2,Hk2⟩:=bind_some H
  obtain ⟨n2,hn2⟩:=loopO_some hz2
  refine w_loop (fun n a w=>∃(s2:Int),loopN (q1_meet.s1 x0 x1 s1) n s2=some z2∧InR .i64 s2∧Fr a 34 [(2,pt g1 0),(3,pt g2 0),(4,.bool false),(5,.int .i64 s1),(6,.int .i64 s2),(11,.bool (decide (s1 < (x0.Ins.length:Int))))]∧Iv w0 [] μ μ [cel g2 [[.int .u32 x1.Version],[u1_0],[u1_1],[.int .u32 x1.Time]] 63,cel g1 [[.int .u32 x0.Version],[u0_0],[u0_1],[.int .u32 x0.Time]] 63] w) n2 ⟨0,hn2,(in_lit .i64 0 rfl),hA.sub ⟨rfl,rfl,rfl,rfl,rfl,rfl,trivial⟩,hI⟩ ?_
  clear hA hI
  rintro n a w ⟨s2,hn2,ws2,hA,hI⟩
  obtain ⟨m2,rfl,H⟩:=loopN_bind hn2
  clear hn2
  refine w_seq fun _ hN8=>w_seq fun _ hN9=>w_reg<|stm hA rfl rfl fun a hA =>
   stp hA (r_fd (k:=1) U63 rfl sz60 hA rfl rfl) rfl fun a hA =>
   stp hA (r_ld1 (j:=0) [[.int .u32 x1.Version]] [[u1_1],[.int .u32 x1.Time]] U60 rfl hI rfl hA rfl rfl) rfl fun a hA=>?_
  obtain ⟨_,hsl2⟩:=Slc.sv hx1.2.1
  refine stp hA (r_slen U60 hsl2 hA rfl) rfl fun a hA =>
   stp hA (r_lss hA rfl rfl) rfl fun a hA=>?_
  refine o_nil<|hN9 _ _<|w_cond hA rfl (fun hc2=>?_) (fun hc2=>?_)
  ·obtain ⟨hc2,H⟩:=dT H hc2
   refine w_skip<|hN8 _ _<|w_seq fun _ hN10=>w_block<|w_seq fun _ hN11=>?_
   refine w_draw mo (by kernel_rfl) hI ?_
   refine qtp hA (fun _ hI=>r_fd (k:=1) U63 rfl sz60 hA rfl rfl) rfl fun a hA =>
    qtp hA (fun _ hI=>r_ld1 (j:=1) [[.int .u32 x0.Version]] [[u0_1],[.int .u32 x0.Time]] U60 rfl hI rfl hA rfl rfl) rfl fun a hA =>
    qtp hA (fun _ hI=>r_mv hA rfl) rfl fun a hA=>?_
   obtain ⟨hb1,H⟩:=bG H
   obtain ⟨_,he1,_,hat1⟩:=Slc.elem hx0.2.1 (getD_some default hb1.1 hb1.2)
   obtain ⟨v1,rfl,hw1⟩:=he1
   obtain ⟨_,hsl3⟩:=Slc.sv hx0.2.1
   refine qtp hA (fun _ hI=>r_six U60 sz67 hsl3 hA rfl rfl hb1.1 hb1.2) rfl fun a hA =>
    qtp hA (fun _ hI=>r_fd (k:=so u0_0+s1.toNat * 35) U67 rfl sz65 hA rfl rfl) rfl fun a hA =>
    qtp hA (fun _ hI=>r_ldmA [] [av .u8 32 ((x0.Ins.getD s1.toNat default).From.Tx),[.int .u32 ((x0.Ins.getD s1.toNat default).From.N)]] [[v1],[.int .u32 ((x0.Ins.getD s1.toNat default).Seq)]] U65 rfl sz65 rfl hI.agr hat1 hA rfl rfl) rfl fun a hA =>
    qtp hA (fun _ hI=>r_fd (k:=1) U63 rfl sz60 hA rfl rfl) rfl fun a hA =>
    qtp hA (fun _ hI=>r_ld1 (j:=0) [[.int .u32 x1.Version]] [[u1_1],[.int .u32 x1.Time]] U60 rfl hI rfl hA rfl rfl) rfl fun a hA =>
    qtp hA (fun _ hI=>r_mv hA rfl) rfl fun a hA=>?_
   obtain ⟨hb2,H⟩:=bG H
   obtain ⟨_,he2,_,hat2⟩:=Slc.elem hx1.2.1 (getD_some default hb2.1 hb2.2)
   obtain ⟨v2,rfl,hw2⟩:=he2
   obtain ⟨_,hsl4⟩:=Slc.sv hx1.2.1
   refine qtp hA (fun _ hI=>r_six U60 sz67 hsl4 hA rfl rfl hb2.1 hb2.2) rfl fun a hA =>
    qtp hA (fun _ hI=>r_fd (k:=so u1_0+s2.toNat * 35) U67 rfl sz65 hA rfl rfl) rfl fun a hA =>
    qtp hA (fun _ hI=>r_ldmA [] [av .u8 32 ((x1.Ins.getD s2.toNat default).From.Tx),[.int .u32 ((x1.Ins.getD s2.toNat default).From.N)]] [[v2],[.int .u32 ((x1.Ins.getD s2.toNat default).Seq)]] U65 rfl sz65 rfl hI.agr hat2 hA rfl rfl) rfl fun a hA=>?_
   obtain ⟨r1,hr1,H⟩:=bB H
   refine qcall (v:=.bool r1) cf96 hA rfl (fun _ hI=>plq (q0_SamePoint.c μ _ hI.agr ((x0.Ins.getD s1.toNat default).From) ⟨hw1.1,hw1.2.1⟩ ((x1.Ins.getD s2.toNat default).From) ⟨hw2.1,hw2.2.1⟩ r1 hr1) hI) rfl fun a hA=>?_
   refine q_nil fun w hI=>?_
   refine hN11 _ _<|w_cond hA rfl (fun hc3=>?_) (fun hc3=>?_)
   ·have H:=bT H hc3
    refine w_seq fun _ hN12=>w_reg<|sta hA rfl rfl fun a hA=>?_
    refine o_nil<|hN12 _ _<|w_ret ?_
    have H:some (.inr true)=some z2:=H
    obtain rfl:=sI H
    have H:=Hk2
    have H:some true=some z1:=H
    obtain rfl:=sI H
    have H:=Hk1
    obtain rfl:=sJ H
    exact ret1 hA Tryz.results58 rfl ⟨_,rfl,rfl,trivial,hI.forget0⟩
   ·have hc3:=ft hc3;have H:=bF H hc3
    refine w_skip<|hN10 _ _<|w_reg<|stm hA rfl rfl fun a hA =>
     stp hA (r_add hA rfl rfl) rfl fun a hA =>
     sta hA rfl rfl fun a hA=>?_
    refine o_nil<|⟨m2,lS _,IntKind.i64.wrap (s2+1),H,(wrap_in _ _),hA.sub ⟨rfl,rfl,rfl,rfl,rfl,rfl,trivial⟩,hI⟩
  ·obtain ⟨hc2,H⟩:=dF H hc2
   refine w_exit rfl<|hN6 _ _<|w_reg<|stm hA rfl rfl fun a hA =>
    stp hA (r_add hA rfl rfl) rfl fun a hA =>
    sta hA rfl rfl fun a hA=>?_
   refine o_nil ?_
   have H:some (.inl (IntKind.i64.wrap (s1+1)))=some z2:=H
   obtain rfl:=sI H
   have H:=Hk2
   exact ⟨m1,lS _,IntKind.i64.wrap (s1+1),H,(wrap_in _ _),hA.sub ⟨rfl,rfl,rfl,rfl,trivial⟩,hI⟩
 ·obtain ⟨hc1,H⟩:=dF H hc1
  refine w_exit rfl<|hN2 _ _<|w_seq fun _ hN13=>w_reg<|sta hA rfl rfl fun a hA=>?_
  refine o_nil<|hN13 _ _<|w_ret ?_
  have H:some false=some z1:=H
  obtain rfl:=sI H
  have H:=Hk1
  obtain rfl:=sJ H
  exact ret1 hA Tryz.results58 rfl ⟨_,rfl,rfl,trivial,hI.forget0⟩
theorem q1_CheckBlock.c (μ:Store)(w0:World)(hμ:Agr μ w0)(x0:Block)(u0_0:Value)(hx0:BlockW μ x0 u0_0)(r:q0Ft)(H:q1_CheckBlock.f x0=some r) :
  Calls Tryz.prog 22 [.agg [[.int .u32 x0.Head.Version],av .u8 32 x0.Head.Prev,av .u8 32 x0.Head.Root,[.int .u32 x0.Head.Time],[.int .u32 x0.Head.Work],[.int .u32 x0.Head.Nonce],[u0_0]].flatten.toArray].toArray w0 (fun e w'=>∃ v,e=.returned v∧v=.agg [[.int .i64 r.Code],[.bool r.Placed],[.int .i64 r.Pos],[.bool r.Outer],[.int .i64 r.At]].flatten.toArray∧q0FtW μ r∧Iv w0 [] μ μ [] w'):=by
 refine enter Tryz.func22 rfl Tryz.ntmps22 rfl fun a hA=>?_
 have hI:=Iv.start hμ
 have H:=bI H
 refine w_seq fun _ hN1=>w_reg<|o_box [[.int .u32 x0.Head.Version],av .u8 32 x0.Head.Prev,av .u8 32 x0.Head.Root,[.int .u32 x0.Head.Time],[.int .u32 x0.Head.Work],[.int .u32 x0.Head.Nonce],[u0_0]] hI hA rfl rfl rfl fun g1 a w hA hI hg1 =>
  o_new [[.int .i64 0],[.bool false],[.int .i64 0],[.bool false],[.int .i64 0]] zr53 hI hA rfl fun g2 a w hA hI hg2=>?_
 refine o_nil<|hN1 _ _<|w_seq fun _ hN2=>w_reg<|stp hA (r_fd (k:=0) U29 rfl sz26 hA rfl rfl) rfl fun a hA =>
  stp hA (r_ldA (j:=1) [] [[.int .u32 x0.Head.Version],av .u8 32 x0.Head.Prev,av .u8 32 x0.Head.Root,[.int .u32 x0.Head.Time],[.int .u32 x0.Head.Work],[.int .u32 x0.Head.Nonce]] [[u0_0]] U26 rfl sz26 rfl hI rfl hA rfl rfl) rfl fun a hA=>?_
 obtain ⟨r1,hr1,H⟩:=bB H
 refine o_callp (u:=.int .i64 r1) cf53 hA rfl hI (q1_CheckHead.c μ _ hI.agr x0.Head ⟨hx0.1,hx0.2.1,hx0.2.2.1,hx0.2.2.2.1,hx0.2.2.2.2.1,hx0.2.2.2.2.2.1⟩ r1 hr1) rfl fun a w hz1 hI hA =>
  sta hA rfl rfl fun a hA=>?_
 refine o_nil<|hN2 _ _ ?_
 obtain ⟨c1,hz2,Hk1⟩:=bB H
 refine w_cut (fun a w=>InR .i64 c1∧Fr a 121 [(1,pt g1 0),(2,pt g2 0),(3,.int .i64 c1)]∧Iv w0 [] μ μ [cel g2 [[.int .i64 0],[.bool false],[.int .i64 0],[.bool false],[.int .i64 0]] 53,cel g1 [[.int .u32 x0.Head.Version],av .u8 32 x0.Head.Prev,av .u8 32 x0.Head.Root,[.int .u32 x0.Head.Time],[.int .u32 x0.Head.Work],[.int .u32 x0.Head.Nonce],[u0_0]] 29] w) ?_ ?_
 ·have H:=bI hz2
  obtain ⟨c2,hz3,Hk2⟩:=bB H
  refine w_cut (fun a w=>Fr a 121 [(1,pt g1 0),(2,pt g2 0),(3,.int .i64 r1),(26,.bool c2)]∧Iv w0 [] μ μ [cel g2 [[.int .i64 0],[.bool false],[.int .i64 0],[.bool false],[.int .i64 0]] 53,cel g1 [[.int .u32 x0.Head.Version],av .u8 32 x0.Head.Prev,av .u8 32 x0.Head.Root,[.int .u32 x0.Head.Time],[.int .u32 x0.Head.Work],[.int .u32 x0.Head.Nonce],[u0_0]] 29] w) ?_ ?_
  ·have H:=bI hz3
   refine w_reg<|stm hA rfl rfl fun a hA =>
    stp hA (r_eql hA rfl rfl) rfl fun a hA =>
    stm hA rfl rfl fun a hA=>?_
   rcases Bool.eq_false_or_eq_true (decide (r1=0)) with hc1 | hc1
   ·have hc10:=hc1;obtain ⟨hc1,H⟩:=dT H hc1
    refine o_yes hA rfl rfl hc10 <|
     stp hA (r_fd (k:=68) U29 rfl sz27 hA rfl rfl) rfl fun a hA =>
     o_yes hA rfl rfl hc10 <|
     stp hA (r_ld1 (j:=1) [[.int .u32 x0.Head.Version],av .u8 32 x0.Head.Prev,av .u8 32 x0.Head.Root,[.int .u32 x0.Head.Time],[.int .u32 x0.Head.Work],[.int .u32 x0.Head.Nonce]] [] U27 rfl hI rfl hA rfl rfl) rfl fun a hA =>
     o_yes hA rfl rfl hc10<|?_
    obtain ⟨_,hsl1⟩:=Slc.sv hx0.2.2.2.2.2.2
    refine stp hA (r_slen U27 hsl1 hA rfl) rfl fun a hA =>
     o_yes hA rfl rfl hc10 <|
     stp hA (r_eql hA rfl rfl) rfl fun a hA =>
     o_yes hA rfl rfl hc10 <|
     stm hA rfl rfl fun a hA=>?_
    rcases Bool.eq_false_or_eq_true (decide ((x0.Txs.length:Int)=0)) with hc2 | hc2
    ·have hc20:=hc2;obtain ⟨hc2,H⟩:=dT H hc2
     refine o_no hA rfl rfl (by rw [hc20];simp [vb]) rfl fun a hA =>
      o_no hA rfl rfl (by rw [hc20];simp [vb]) rfl fun a hA =>
      o_no hA rfl rfl (by rw [hc20];simp [vb]) rfl fun a hA =>
      o_no hA rfl rfl (by rw [hc20];simp [vb]) rfl fun a hA =>
      o_yes hA rfl rfl hc10 <|
      stp hA (r_pick_t hA rfl hc20 rfl) rfl fun a hA =>
      stp hA (r_pick_t hA rfl hc10 rfl) rfl fun a hA=>?_
     refine o_nil ?_
     cases sJ H
     exact ⟨hA.sub ⟨rfl,rfl,rfl,rfl,trivial⟩,hI⟩
    ·have hc20:=hc2;obtain ⟨hc2,H⟩:=dF H hc2
     refine o_yes hA rfl rfl hc20 <|
      stp hA (r_fd (k:=68) U29 rfl sz27 hA rfl rfl) rfl fun a hA =>
      o_yes hA rfl rfl hc20 <|
      stp hA (r_ld1 (j:=1) [[.int .u32 x0.Head.Version],av .u8 32 x0.Head.Prev,av .u8 32 x0.Head.Root,[.int .u32 x0.Head.Time],[.int .u32 x0.Head.Work],[.int .u32 x0.Head.Nonce]] [] U27 rfl hI rfl hA rfl rfl) rfl fun a hA =>
      o_yes hA rfl rfl hc20<|?_
     obtain ⟨_,hsl2⟩:=Slc.sv hx0.2.2.2.2.2.2
     refine stp hA (r_slen U27 hsl2 hA rfl) rfl fun a hA =>
      o_yes hA rfl rfl hc20 <|
      stp hA (r_gtr hA rfl rfl) rfl fun a hA =>
      o_yes hA rfl rfl hc10 <|
      stp hA (r_pick_f hA rfl hc20 rfl) rfl fun a hA =>
      stp hA (r_pick_t hA rfl hc10 rfl) rfl fun a hA=>?_
     refine o_nil ?_
     cases sJ H
     exact ⟨hA.sub ⟨rfl,rfl,rfl,rfl,trivial⟩,hI⟩
   ·have hc10:=hc1;obtain ⟨hc1,H⟩:=dF H hc1
    refine o_no hA rfl rfl (by rw [hc10];simp [vb]) rfl fun a hA =>
     o_no hA rfl rfl (by rw [hc10];simp [vb]) rfl fun a hA =>
     o_no hA rfl rfl (by rw [hc10];simp [vb]) rfl fun a hA =>
     o_no hA rfl rfl (by rw [hc10];simp [vb]) rfl fun a hA =>
     o_no hA rfl rfl (by rw [hc10];simp [vb]) rfl fun a hA =>
     o_no hA rfl rfl (by simp [vb,undef]) rfl fun a hA =>
     o_no hA rfl rfl (by simp [vb,undef]) rfl fun a hA =>
     o_no hA rfl rfl (by simp [vb,undef]) rfl fun a hA =>
     o_no hA rfl rfl (by simp [vb,undef]) rfl fun a hA =>
     o_no hA rfl rfl (by rw [hc10];simp [vb]) rfl fun a hA =>
     stp hA (r_pick_f hA rfl hc10 rfl) rfl fun a hA=>?_
    refine o_nil ?_
    cases sJ H
    exact ⟨hA.sub ⟨rfl,rfl,rfl,rfl,trivial⟩,hI⟩
  ·rintro a w ⟨hA,hI⟩
   have H:=Hk2
   refine w_cond hA rfl (fun hc3=>?_) (fun hc3=>?_)
   ·have H:=bT H hc3
    refine w_reg<|sta hA rfl rfl fun a hA=>?_
    refine o_nil ?_
    cases sJ H
    exact ⟨(in_lit .i64 104 rfl),hA.sub ⟨rfl,rfl,rfl,trivial⟩,hI⟩
   ·have hc3:=ft hc3;have H:=bF H hc3
    refine w_skip ?_
    cases sJ H
    exact ⟨hz1,hA.sub ⟨rfl,rfl,rfl,trivial⟩,hI⟩
 ·rintro a w ⟨wc1,hA,hI⟩
  have H:=Hk1
  obtain ⟨c3,hz4,Hk3⟩:=bB H
  refine w_cut (fun a w=>InR .i64 c3∧Fr a 121 [(1,pt g1 0),(2,pt g2 0),(3,.int .i64 c3)]∧Iv w0 [] μ μ [cel g2 [[.int .i64 0],[.bool false],[.int .i64 0],[.bool false],[.int .i64 0]] 53,cel g1 [[.int .u32 x0.Head.Version],av .u8 32 x0.Head.Prev,av .u8 32 x0.Head.Root,[.int .u32 x0.Head.Time],[.int .u32 x0.Head.Work],[.int .u32 x0.Head.Nonce],[u0_0]] 29] w) ?_ ?_
  ·have H:=bI hz4
   obtain ⟨c4,hz5,Hk4⟩:=bB H
   refine w_cut (fun a w=>Fr a 121 [(1,pt g1 0),(2,pt g2 0),(3,.int .i64 c1),(34,.bool c4)]∧Iv w0 [] μ μ [cel g2 [[.int .i64 0],[.bool false],[.int .i64 0],[.bool false],[.int .i64 0]] 53,cel g1 [[.int .u32 x0.Head.Version],av .u8 32 x0.Head.Prev,av .u8 32 x0.Head.Root,[.int .u32 x0.Head.Time],[.int .u32 x0.Head.Work],[.int .u32 x0.Head.Nonce],[u0_0]] 29] w) ?_ ?_
   ·have H:=bI hz5
    refine w_reg<|stm hA rfl rfl fun a hA =>
     stp hA (r_eql hA rfl rfl) rfl fun a hA =>
     stm hA rfl rfl fun a hA=>?_
    rcases Bool.eq_false_or_eq_true (decide (c1=0)) with hc4 | hc4
    ·have hc40:=hc4;obtain ⟨hc4,H⟩:=dT H hc4
     refine o_yes hA rfl rfl hc40 <|
      stp hA (r_ldA (j:=1) [] [[.int .u32 x0.Head.Version],av .u8 32 x0.Head.Prev,av .u8 32 x0.Head.Root,[.int .u32 x0.Head.Time],[.int .u32 x0.Head.Work],[.int .u32 x0.Head.Nonce],[u0_0]] [] U29 rfl sz29 rfl hI rfl hA rfl rfl) rfl fun a hA =>
      o_yes hA rfl rfl hc40<|?_
     obtain ⟨r2,hr2,H⟩:=bB H
     refine o_call _ cf6 hA rfl (q1_BlockBytes.c μ _ hI.agr x0 u0_0 ⟨hx0.1,hx0.2.1,hx0.2.2.1,hx0.2.2.2.1,hx0.2.2.2.2.1,hx0.2.2.2.2.2.1,hx0.2.2.2.2.2.2⟩ r2 hr2) rfl fun v1 a w hz6 hA=>?_
     obtain ⟨_,cs1,rfl,hE1,hi1⟩:=hz6
     have hI:=hI.call hi1
     refine o_yes hA rfl rfl hc40<|?_
     have hlen1:=Iv.row_in hI (j:=0) rfl
     refine stp hA (r_rlen (xs:=0) U30 hI (j:=0) rfl hA rfl) rfl fun a hA =>
      o_yes hA rfl rfl hc40 <|
      stp hA (r_gtr hA rfl rfl) rfl fun a hA =>
      stp hA (r_pick_t hA rfl hc40 rfl) rfl fun a hA=>?_
     refine o_nil ?_
     cases sJ H
     exact ⟨hA.sub ⟨rfl,rfl,rfl,rfl,trivial⟩,(hI.sl [1,2] rfl)⟩
    ·have hc40:=hc4;obtain ⟨hc4,H⟩:=dF H hc4
     refine o_no hA rfl rfl (by rw [hc40];simp [vb]) rfl fun a hA =>
      o_no hA rfl rfl (by rw [hc40];simp [vb]) rfl fun a hA =>
      o_no hA rfl rfl (by rw [hc40];simp [vb]) rfl fun a hA =>
      o_no hA rfl rfl (by rw [hc40];simp [vb]) rfl fun a hA =>
      stp hA (r_pick_f hA rfl hc40 rfl) rfl fun a hA=>?_
     refine o_nil ?_
     cases sJ H
     exact ⟨hA.sub ⟨rfl,rfl,rfl,rfl,trivial⟩,hI⟩
   ·rintro a w ⟨hA,hI⟩
    have H:=Hk4
    refine w_cond hA rfl (fun hc5=>?_) (fun hc5=>?_)
    ·have H:=bT H hc5
     refine w_reg<|sta hA rfl rfl fun a hA=>?_
     refine o_nil ?_
     cases sJ H
     exact ⟨(in_lit .i64 103 rfl),hA.sub ⟨rfl,rfl,rfl,trivial⟩,hI⟩
    ·have hc5:=ft hc5;have H:=bF H hc5
     refine w_skip ?_
     cases sJ H
     exact ⟨wc1,hA.sub ⟨rfl,rfl,rfl,trivial⟩,hI⟩
  ·rintro a w ⟨wc3,hA,hI⟩
   have H:=Hk3
   refine w_seq fun _ hN3=>w_seq fun _ hN4=>w_reg<|stm hA rfl rfl fun a hA =>
    stp hA (r_neq hA rfl rfl) rfl fun a hA=>?_
   refine o_nil<|hN4 _ _<|w_cond hA rfl (fun hc6=>?_) (fun hc6=>?_)
   ·obtain ⟨hc6,H⟩:=dT H hc6
    refine w_seq fun _ hN5=>w_reg<|stm hA rfl rfl fun a hA=>?_
    obtain ⟨r3,hr3,H⟩:=bB H
    refine o_callp (u:=.agg [[.int .i64 r3.Code],[.bool r3.Placed],[.int .i64 r3.Pos],[.bool r3.Outer],[.int .i64 r3.At]].flatten.toArray) cf54 hA rfl hI (q0_Bare.c μ _ hI.agr c3 wc3 r3 hr3) rfl fun a w hz7 hI hA =>
     o_st (j:=0) [] [[.int .i64 0],[.bool false],[.int .i64 0],[.bool false],[.int .i64 0]] [[.int .i64 r3.Code],[.bool r3.Placed],[.int .i64 r3.Pos],[.bool r3.Outer],[.int .i64 r3.At]] [] sz53 rfl rfl (fO rfl (fO rfl (fO rfl (fO rfl (fO rfl fl_nil))))) hI rfl hA rfl rfl rfl rfl fun w hI=>?_
    refine o_nil<|hN5 _ _<|w_ret ?_
    obtain rfl:=sJ H
    exact retc U53 rfl sz53 rfl hI (j:=0) rfl hA Tryz.results22 rfl ⟨_,rfl,rfl,⟨hz7.1,hz7.2.1,hz7.2.2⟩,hI.forget0⟩
   ·obtain ⟨hc6,H⟩:=dF H hc6
    refine w_skip<|hN3 _ _<|w_seq fun _ hN6=>w_seq fun _ hN7=>w_reg<|sta hA rfl rfl fun a hA=>?_
    refine o_nil<|hN7 _ _<|w_block ?_
    obtain ⟨z1,hz8,Hk5⟩:=bind_some H
    obtain ⟨n1,hn1⟩:=loopO_some hz8
    refine w_loop (fun n a w=>∃(s1:Int),loopN (q1_CheckBlock.s0 x0) n s1=some z1∧InR .i64 s1∧Fr a 121 [(1,pt g1 0),(2,pt g2 0),(4,.int .i64 s1)]∧Iv w0 [] μ μ [cel g2 [[.int .i64 0],[.bool false],[.int .i64 0],[.bool false],[.int .i64 0]] 53,cel g1 [[.int .u32 x0.Head.Version],av .u8 32 x0.Head.Prev,av .u8 32 x0.Head.Root,[.int .u32 x0.Head.Time],[.int .u32 x0.Head.Work],[.int .u32 x0.Head.Nonce],[u0_0]] 29] w) n1 ⟨0,hn1,(in_lit .i64 0 rfl),hA.sub ⟨rfl,rfl,rfl,trivial⟩,hI⟩ ?_
    clear hA hI
    rintro n a w ⟨s1,hn1,ws1,hA,hI⟩
    obtain ⟨m1,rfl,H⟩:=loopN_bind hn1
    clear hn1
    refine w_seq fun _ hN8=>w_seq fun _ hN9=>w_reg<|stm hA rfl rfl fun a hA =>
     stp hA (r_fd (k:=68) U29 rfl sz27 hA rfl rfl) rfl fun a hA =>
     stp hA (r_ld1 (j:=1) [[.int .u32 x0.Head.Version],av .u8 32 x0.Head.Prev,av .u8 32 x0.Head.Root,[.int .u32 x0.Head.Time],[.int .u32 x0.Head.Work],[.int .u32 x0.Head.Nonce]] [] U27 rfl hI rfl hA rfl rfl) rfl fun a hA=>?_
    obtain ⟨_,hsl3⟩:=Slc.sv hx0.2.2.2.2.2.2
    refine stp hA (r_slen U27 hsl3 hA rfl) rfl fun a hA =>
     stp hA (r_lss hA rfl rfl) rfl fun a hA=>?_
    refine o_nil<|hN9 _ _<|w_cond hA rfl (fun hc7=>?_) (fun hc7=>?_)
    ·obtain ⟨hc7,H⟩:=dT H hc7
     refine w_skip<|hN8 _ _<|w_seq fun _ hN10=>w_block<|w_seq fun _ hN11=>w_reg<|stp hA (r_fd (k:=68) U29 rfl sz27 hA rfl rfl) rfl fun a hA =>
      stp hA (r_ld1 (j:=1) [[.int .u32 x0.Head.Version],av .u8 32 x0.Head.Prev,av .u8 32 x0.Head.Root,[.int .u32 x0.Head.Time],[.int .u32 x0.Head.Work],[.int .u32 x0.Head.Nonce]] [] U27 rfl hI rfl hA rfl rfl) rfl fun a hA =>
      stm hA rfl rfl fun a hA=>?_
     obtain ⟨hb1,H⟩:=bG H
     obtain ⟨_,he1,_,hat1⟩:=Slc.elem hx0.2.2.2.2.2.2 (getD_some default hb1.1 hb1.2)
     obtain ⟨v2,v3,rfl,hw1⟩:=he1
     obtain ⟨_,hsl4⟩:=Slc.sv hx0.2.2.2.2.2.2
     refine stp hA (r_six U27 sz63 hsl4 hA rfl rfl hb1.1 hb1.2) rfl fun a hA =>
      stp hA (r_ldmA [] [[.int .u32 ((x0.Txs.getD s1.toNat default).Version)],[v2],[v3],[.int .u32 ((x0.Txs.getD s1.toNat default).Time)]] [] U63 rfl sz63 rfl hI.agr hat1 hA rfl rfl) rfl fun a hA=>?_
     obtain ⟨r4,hr4,H⟩:=bB H
     refine o_callp (u:=.int .i64 r4) cf55 hA rfl hI (q1_CheckTx.c μ _ hI.agr (x0.Txs.getD s1.toNat default) v2 v3 ⟨hw1.1,hw1.2.1,hw1.2.2.1,hw1.2.2.2⟩ r4 hr4) rfl fun a w hz9 hI hA =>
      sta hA rfl rfl fun a hA=>?_
     refine o_nil<|hN11 _ _<|w_seq fun _ hN12=>w_reg<|stm hA rfl rfl fun a hA =>
      stp hA (r_neq hA rfl rfl) rfl fun a hA=>?_
     refine o_nil<|hN12 _ _<|w_cond hA rfl (fun hc8=>?_) (fun hc8=>?_)
     ·obtain ⟨hc8,H⟩:=dT H hc8
      refine w_seq fun _ hN13=>w_reg<|stm hA rfl rfl fun a hA =>
       stm hA rfl rfl fun a hA=>?_
      obtain ⟨r5,hr5,H⟩:=bB H
      refine o_callp (u:=.agg [[.int .i64 r5.Code],[.bool r5.Placed],[.int .i64 r5.Pos],[.bool r5.Outer],[.int .i64 r5.At]].flatten.toArray) cf56 hA rfl hI (q0_Placed.c μ _ hI.agr r4 hz9 s1 ws1 r5 hr5) rfl fun a w hz10 hI hA =>
       o_st (j:=0) [] [[.int .i64 0],[.bool false],[.int .i64 0],[.bool false],[.int .i64 0]] [[.int .i64 r5.Code],[.bool r5.Placed],[.int .i64 r5.Pos],[.bool r5.Outer],[.int .i64 r5.At]] [] sz53 rfl rfl (fO rfl (fO rfl (fO rfl (fO rfl (fO rfl fl_nil))))) hI rfl hA rfl rfl rfl rfl fun w hI=>?_
      refine o_nil<|hN13 _ _<|w_ret ?_
      have H:some r5=some z1:=H
      obtain rfl:=sI H
      have H:=Hk5
      obtain rfl:=sJ H
      exact retc U53 rfl sz53 rfl hI (j:=0) rfl hA Tryz.results22 rfl ⟨_,rfl,rfl,⟨hz10.1,hz10.2.1,hz10.2.2⟩,hI.forget0⟩
     ·obtain ⟨hc8,H⟩:=dF H hc8
      refine w_skip<|hN10 _ _<|w_reg<|stm hA rfl rfl fun a hA =>
       stp hA (r_add hA rfl rfl) rfl fun a hA =>
       sta hA rfl rfl fun a hA=>?_
      refine o_nil<|⟨m1,lS _,IntKind.i64.wrap (s1+1),H,(wrap_in _ _),hA.sub ⟨rfl,rfl,rfl,trivial⟩,hI⟩
    ·obtain ⟨hc7,H⟩:=dF H hc7
     refine w_exit rfl<|hN6 _ _<|w_seq fun _ hN14=>w_seq fun _ hN15=>w_reg<|sta hA rfl rfl fun a hA=>?_
     refine o_nil<|hN15 _ _<|w_block ?_
     obtain ⟨z2,hz11,Hk6⟩:=bind_some H
     obtain ⟨n2,hn2⟩:=loopO_some hz11
     refine w_loop (fun n a w=>∃(s2:Int),loopN (q1_CheckBlock.s1 x0) n s2=some z2∧InR .i64 s2∧Fr a 121 [(1,pt g1 0),(2,pt g2 0),(6,.int .i64 s2)]∧Iv w0 [] μ μ [cel g2 [[.int .i64 0],[.bool false],[.int .i64 0],[.bool false],[.int .i64 0]] 53,cel g1 [[.int .u32 x0.Head.Version],av .u8 32 x0.Head.Prev,av .u8 32 x0.Head.Root,[.int .u32 x0.Head.Time],[.int .u32 x0.Head.Work],[.int .u32 x0.Head.Nonce],[u0_0]] 29] w) n2 ⟨0,hn2,(in_lit .i64 0 rfl),hA.sub ⟨rfl,rfl,rfl,trivial⟩,hI⟩ ?_
     clear hA hI
     rintro n a w ⟨s2,hn2,ws2,hA,hI⟩
     obtain ⟨m2,rfl,H⟩:=loopN_bind hn2
     clear hn2
     refine w_seq fun _ hN16=>w_seq fun _ hN17=>w_reg<|stm hA rfl rfl fun a hA =>
      stp hA (r_fd (k:=68) U29 rfl sz27 hA rfl rfl) rfl fun a hA =>
      stp hA (r_ld1 (j:=1) [[.int .u32 x0.Head.Version],av .u8 32 x0.Head.Prev,av .u8 32 x0.Head.Root,[.int .u32 x0.Head.Time],[.int .u32 x0.Head.Work],[.int .u32 x0.Head.Nonce]] [] U27 rfl hI rfl hA rfl rfl) rfl fun a hA=>?_
     obtain ⟨_,hsl5⟩:=Slc.sv hx0.2.2.2.2.2.2
     refine stp hA (r_slen U27 hsl5 hA rfl) rfl fun a hA =>
      stp hA (r_lss hA rfl rfl) rfl fun a hA=>?_
     refine o_nil<|hN17 _ _<|w_cond hA rfl (fun hc9=>?_) (fun hc9=>?_)
     ·obtain ⟨hc9,H⟩:=dT H hc9
      refine w_skip<|hN16 _ _<|w_seq fun _ hN18=>w_block<|w_seq fun _ hN19=>w_reg<|stp hA (r_fd (k:=68) U29 rfl sz27 hA rfl rfl) rfl fun a hA =>
       stp hA (r_ld1 (j:=1) [[.int .u32 x0.Head.Version],av .u8 32 x0.Head.Prev,av .u8 32 x0.Head.Root,[.int .u32 x0.Head.Time],[.int .u32 x0.Head.Work],[.int .u32 x0.Head.Nonce]] [] U27 rfl hI rfl hA rfl rfl) rfl fun a hA =>
       stm hA rfl rfl fun a hA=>?_
      obtain ⟨hb2,H⟩:=bG H
      obtain ⟨_,he2,_,hat2⟩:=Slc.elem hx0.2.2.2.2.2.2 (getD_some default hb2.1 hb2.2)
      obtain ⟨v4,v5,rfl,hw2⟩:=he2
      obtain ⟨_,hsl6⟩:=Slc.sv hx0.2.2.2.2.2.2
      refine stp hA (r_six U27 sz63 hsl6 hA rfl rfl hb2.1 hb2.2) rfl fun a hA =>
       stp hA (r_ldmA [] [[.int .u32 ((x0.Txs.getD s2.toNat default).Version)],[v4],[v5],[.int .u32 ((x0.Txs.getD s2.toNat default).Time)]] [] U63 rfl sz63 rfl hI.agr hat2 hA rfl rfl) rfl fun a hA=>?_
      obtain ⟨r6,hr6,H⟩:=bB H
      refine o_callp (u:=.bool r6) cf57 hA rfl hI (q1_Base.c μ _ hI.agr (x0.Txs.getD s2.toNat default) v4 v5 ⟨hw2.1,hw2.2.1,hw2.2.2.1,hw2.2.2.2⟩ r6 hr6) rfl fun a w hz12 hI hA =>
       stm hA rfl rfl fun a hA =>
       stp hA (r_eql hA rfl rfl) rfl fun a hA =>
       stp hA (r_neqb U4 hA rfl rfl) rfl fun a hA=>?_
      refine o_nil<|hN19 _ _<|w_cond hA rfl (fun hc10=>?_) (fun hc10=>?_)
      ·obtain ⟨hc10,H⟩:=dT H hc10
       refine w_seq fun _ hN20=>w_reg<|stm hA rfl rfl fun a hA=>?_
       obtain ⟨r7,hr7,H⟩:=bB H
       refine o_callp (u:=.agg [[.int .i64 r7.Code],[.bool r7.Placed],[.int .i64 r7.Pos],[.bool r7.Outer],[.int .i64 r7.At]].flatten.toArray) cf56 hA rfl hI (q0_Placed.c μ _ hI.agr 107 (in_lit .i64 107 rfl) s2 ws2 r7 hr7) rfl fun a w hz13 hI hA =>
        o_st (j:=0) [] [[.int .i64 0],[.bool false],[.int .i64 0],[.bool false],[.int .i64 0]] [[.int .i64 r7.Code],[.bool r7.Placed],[.int .i64 r7.Pos],[.bool r7.Outer],[.int .i64 r7.At]] [] sz53 rfl rfl (fO rfl (fO rfl (fO rfl (fO rfl (fO rfl fl_nil))))) hI rfl hA rfl rfl rfl rfl fun w hI=>?_
       refine o_nil<|hN20 _ _<|w_ret ?_
       have H:some (.inr r7)=some z2:=H
       obtain rfl:=sI H
       have H:=Hk6
       have H:some r7=some z1:=H
       obtain rfl:=sI H
       have H:=Hk5
       obtain rfl:=sJ H
       exact retc U53 rfl sz53 rfl hI (j:=0) rfl hA Tryz.results22 rfl ⟨_,rfl,rfl,⟨hz13.1,hz13.2.1,hz13.2.2⟩,hI.forget0⟩
      ·obtain ⟨hc10,H⟩:=dF H hc10
       refine w_skip<|hN18 _ _<|w_reg<|stm hA rfl rfl fun a hA =>
        stp hA (r_add hA rfl rfl) rfl fun a hA =>
        sta hA rfl rfl fun a hA=>?_
       refine o_nil<|⟨m2,lS _,IntKind.i64.wrap (s2+1),H,(wrap_in _ _),hA.sub ⟨rfl,rfl,rfl,trivial⟩,hI⟩
     ·obtain ⟨hc9,H⟩:=dF H hc9
      refine w_exit rfl<|hN14 _ _<|w_seq fun _ hN21=>w_reg<|stp hA (r_fd (k:=68) U29 rfl sz27 hA rfl rfl) rfl fun a hA =>
       stp hA (r_ld1 (j:=1) [[.int .u32 x0.Head.Version],av .u8 32 x0.Head.Prev,av .u8 32 x0.Head.Root,[.int .u32 x0.Head.Time],[.int .u32 x0.Head.Work],[.int .u32 x0.Head.Nonce]] [] U27 rfl hI rfl hA rfl rfl) rfl fun a hA=>?_
      obtain ⟨r8,hr8,H⟩:=bB H
      refine o_call _ cf17 hA rfl (q1_IDs.c μ _ hI.agr x0.Txs u0_0 hx0.2.2.2.2.2.2 r8 hr8) rfl fun v6 a w hz14 hA=>?_
      obtain ⟨_,cs2,rfl,hE2,hi2⟩:=hz14
      have hI:=hI.call hi2
      refine sta hA rfl rfl fun a hA=>?_
      refine o_nil<|hN21 _ _<|w_seq fun _ hN22=>w_seq fun _ hN23=>w_reg<|sta hA rfl rfl fun a hA=>?_
      refine o_nil<|hN23 _ _<|w_block ?_
      obtain ⟨z3,hz15,Hk7⟩:=bind_some H
      obtain ⟨n3,hn3⟩:=loopO_some hz15
      refine w_loop (fun n a w=>∃(s3:Int),loopN (q1_CheckBlock.s2 x0 r8) n s3=some z3∧InR .i64 s3∧Fr a 121 [(1,pt g1 0),(2,pt g2 0),(7,v6),(8,.int .i64 s3)]∧Iv w0 [] μ μ [row 24 32 v6 r8.length cs2,cel g2 [[.int .i64 0],[.bool false],[.int .i64 0],[.bool false],[.int .i64 0]] 53,cel g1 [[.int .u32 x0.Head.Version],av .u8 32 x0.Head.Prev,av .u8 32 x0.Head.Root,[.int .u32 x0.Head.Time],[.int .u32 x0.Head.Work],[.int .u32 x0.Head.Nonce],[u0_0]] 29] w) n3 ⟨0,hn3,(in_lit .i64 0 rfl),hA.sub ⟨rfl,rfl,rfl,rfl,trivial⟩,hI⟩ ?_
      clear hA hI
      rintro n a w ⟨s3,hn3,ws3,hA,hI⟩
      obtain ⟨m3,rfl,H⟩:=loopN_bind hn3
      clear hn3
      refine w_seq fun _ hN24=>w_seq fun _ hN25=>w_reg<|stm hA rfl rfl fun a hA =>
       stm hA rfl rfl fun a hA=>?_
      have hlen2:=Iv.row_in hI (j:=0) rfl
      refine stp hA (r_rlen (xs:=0) U46 hI (j:=0) rfl hA rfl) rfl fun a hA =>
       stp hA (r_lss hA rfl rfl) rfl fun a hA=>?_
      refine o_nil<|hN25 _ _<|w_cond hA rfl (fun hc11=>?_) (fun hc11=>?_)
      ·obtain ⟨hc11,H⟩:=dT H hc11
       refine w_skip<|hN24 _ _<|w_seq fun _ hN26=>w_block<|w_seq fun _ hN27=>w_reg<|sta hA rfl rfl fun a hA=>?_
       refine o_nil<|hN27 _ _<|w_block ?_
       obtain ⟨z4,hz16,Hk8⟩:=bind_some H
       obtain ⟨n4,hn4⟩:=loopO_some hz16
       refine w_loop (fun n a w=>∃(s4:Int),loopN (q1_CheckBlock.s3 x0 r8 s3) n s4=some z4∧InR .i64 s4∧Fr a 121 [(1,pt g1 0),(2,pt g2 0),(7,v6),(8,.int .i64 s3),(9,.int .i64 s4),(81,.bool (decide (s3 < (r8.length:Int))))]∧Iv w0 [] μ μ [row 24 32 v6 r8.length cs2,cel g2 [[.int .i64 0],[.bool false],[.int .i64 0],[.bool false],[.int .i64 0]] 53,cel g1 [[.int .u32 x0.Head.Version],av .u8 32 x0.Head.Prev,av .u8 32 x0.Head.Root,[.int .u32 x0.Head.Time],[.int .u32 x0.Head.Work],[.int .u32 x0.Head.Nonce],[u0_0]] 29] w) n4 ⟨0,hn4,(in_lit .i64 0 rfl),hA.sub ⟨rfl,rfl,rfl,rfl,rfl,rfl,trivial⟩,hI⟩ ?_
       clear hA hI
       rintro n a w ⟨s4,hn4,ws4,hA,hI⟩
       obtain ⟨m4,rfl,H⟩:=loopN_bind hn4
       clear hn4
       refine w_seq fun _ hN28=>w_seq fun _ hN29=>w_reg<|stm hA rfl rfl fun a hA =>
        stm hA rfl rfl fun a hA =>
        stp hA (r_lss hA rfl rfl) rfl fun a hA=>?_
       refine o_nil<|hN29 _ _<|w_cond hA rfl (fun hc12=>?_) (fun hc12=>?_)
       ·obtain ⟨hc12,H⟩:=dT H hc12
        refine w_skip<|hN28 _ _<|w_seq fun _ hN30=>w_block ?_
        obtain ⟨c5,hz17,Hk9⟩:=bB H
        refine w_cut (fun a w=>Fr a 121 [(1,pt g1 0),(2,pt g2 0),(7,v6),(8,.int .i64 s3),(9,.int .i64 s4),(81,.bool (decide (s3 < (r8.length:Int)))),(86,.bool (decide (s4 < s3))),(110,.bool c5)]∧Iv w0 [] μ μ [row 24 32 v6 r8.length cs2,cel g2 [[.int .i64 0],[.bool false],[.int .i64 0],[.bool false],[.int .i64 0]] 53,cel g1 [[.int .u32 x0.Head.Version],av .u8 32 x0.Head.Prev,av .u8 32 x0.Head.Root,[.int .u32 x0.Head.Time],[.int .u32 x0.Head.Work],[.int .u32 x0.Head.Nonce],[u0_0]] 29] w) ?_ ?_
        ·have H:=bI hz17
         refine w_draw mo (by kernel_rfl) hI ?_
         refine qtp hA (fun _ hI=>r_mv hA rfl) rfl fun a hA =>
          qtp hA (fun _ hI=>r_mv hA rfl) rfl fun a hA=>?_
         obtain ⟨hb3,H⟩:=bG H
         refine qtp hA (fun _ hI=>r_rix (j:=0) U46 sz24 hI rfl hA rfl rfl hb3.1 hb3.2) rfl fun a hA=>?_
         obtain ⟨A1,_,B1,hc13,hl1,_,he3⟩:=Els.at_ hE2 (getD_some [] hb3.1 hb3.2)
         obtain ⟨rfl,hw3⟩:=he3
         refine qtp hA (fun _ hI=>r_rldP (j:=0) (q:=s3.toNat * 32) (off:=0) A1 B1 [] [av .u8 32 (r8.getD s3.toNat [])] [] hc13 hl1 rfl U24 rfl sz24 rfl hI rfl hA rfl) rfl fun a hA =>
          qtp hA (fun _ hI=>r_mv hA rfl) rfl fun a hA =>
          qtp hA (fun _ hI=>r_mv hA rfl) rfl fun a hA=>?_
         obtain ⟨hb4,H⟩:=bG H
         refine qtp hA (fun _ hI=>r_rix (j:=0) U46 sz24 hI rfl hA rfl rfl hb4.1 hb4.2) rfl fun a hA=>?_
         obtain ⟨A2,_,B2,hc14,hl2,_,he4⟩:=Els.at_ hE2 (getD_some [] hb4.1 hb4.2)
         obtain ⟨rfl,hw4⟩:=he4
         refine qtp hA (fun _ hI=>r_rldP (j:=0) (q:=s4.toNat * 32) (off:=0) A2 B2 [] [av .u8 32 (r8.getD s4.toNat [])] [] hc14 hl2 rfl U24 rfl sz24 rfl hI rfl hA rfl) rfl fun a hA=>?_
         obtain ⟨r9,hr9,H⟩:=bB H
         refine qcall (v:=.bool r9) cf12 hA rfl (fun _ hI=>plq (q0_SameHash.c μ _ hI.agr (r8.getD s3.toNat []) hw3 (r8.getD s4.toNat []) hw4 r9 hr9) hI) rfl fun a hA =>
          qtp hA (fun _ hI=>r_mv hA rfl) rfl fun a hA=>?_
         rcases Bool.eq_false_or_eq_true r9 with hc15 | hc15
         ·have hc150:=hc15;have H:=bT H hc15
          refine q_no hA rfl rfl (by rw [hc150];simp [vb]) rfl fun a hA =>
           q_no hA rfl rfl (by rw [hc150];simp [vb]) rfl fun a hA =>
           q_no hA rfl rfl (by rw [hc150];simp [vb]) rfl fun a hA =>
           q_no hA rfl rfl (by rw [hc150];simp [vb]) rfl fun a hA =>
           q_no hA rfl rfl (by rw [hc150];simp [vb]) rfl fun a hA =>
           q_no hA rfl rfl (by rw [hc150];simp [vb]) rfl fun a hA =>
           q_no hA rfl rfl (by rw [hc150];simp [vb]) rfl fun a hA =>
           q_no hA rfl rfl (by rw [hc150];simp [vb]) rfl fun a hA =>
           q_no hA rfl rfl (by rw [hc150];simp [vb]) rfl fun a hA =>
           q_no hA rfl rfl (by rw [hc150];simp [vb]) rfl fun a hA =>
           q_no hA rfl rfl (by rw [hc150];simp [vb]) rfl fun a hA =>
           qtp hA (fun _ hI=>r_pick_t hA rfl hc150 rfl) rfl fun a hA=>?_
          refine q_nil fun w hI=>?_
          cases sJ H
          exact ⟨hA.sub ⟨rfl,rfl,rfl,rfl,rfl,rfl,rfl,rfl,trivial⟩,hI⟩
         ·have hc150:=hc15;have hc15:=ft hc15;have H:=bF H hc15
          refine q_yes hA rfl rfl hc150 <|
           qtp hA (fun _ hI=>r_fd (k:=68) U29 rfl sz27 hA rfl rfl) rfl fun a hA =>
           q_yes hA rfl rfl hc150 <|
           qtp hA (fun _ hI=>r_ld1 (j:=2) [[.int .u32 x0.Head.Version],av .u8 32 x0.Head.Prev,av .u8 32 x0.Head.Root,[.int .u32 x0.Head.Time],[.int .u32 x0.Head.Work],[.int .u32 x0.Head.Nonce]] [] U27 rfl hI rfl hA rfl rfl) rfl fun a hA =>
           q_yes hA rfl rfl hc150 <|
           qtp hA (fun _ hI=>r_mv hA rfl) rfl fun a hA =>
           q_yes hA rfl rfl hc150<|?_
          obtain ⟨hb5,H⟩:=bG H
          obtain ⟨_,he5,_,hat3⟩:=Slc.elem hx0.2.2.2.2.2.2 (getD_some default hb5.1 hb5.2)
          obtain ⟨v7,v8,rfl,hw5⟩:=he5
          obtain ⟨_,hsl7⟩:=Slc.sv hx0.2.2.2.2.2.2
          refine qtp hA (fun _ hI=>r_six U27 sz63 hsl7 hA rfl rfl hb5.1 hb5.2) rfl fun a hA =>
           q_yes hA rfl rfl hc150 <|
           qtp hA (fun _ hI=>r_ldmA [] [[.int .u32 ((x0.Txs.getD s3.toNat default).Version)],[v7],[v8],[.int .u32 ((x0.Txs.getD s3.toNat default).Time)]] [] U63 rfl sz63 rfl hI.agr hat3 hA rfl rfl) rfl fun a hA =>
           q_yes hA rfl rfl hc150 <|
           qtp hA (fun _ hI=>r_fd (k:=68) U29 rfl sz27 hA rfl rfl) rfl fun a hA =>
           q_yes hA rfl rfl hc150 <|
           qtp hA (fun _ hI=>r_ld1 (j:=2) [[.int .u32 x0.Head.Version],av .u8 32 x0.Head.Prev,av .u8 32 x0.Head.Root,[.int .u32 x0.Head.Time],[.int .u32 x0.Head.Work],[.int .u32 x0.Head.Nonce]] [] U27 rfl hI rfl hA rfl rfl) rfl fun a hA =>
           q_yes hA rfl rfl hc150 <|
           qtp hA (fun _ hI=>r_mv hA rfl) rfl fun a hA =>
           q_yes hA rfl rfl hc150<|?_
          obtain ⟨hb6,H⟩:=bG H
          obtain ⟨_,he6,_,hat4⟩:=Slc.elem hx0.2.2.2.2.2.2 (getD_some default hb6.1 hb6.2)
          obtain ⟨v9,v10,rfl,hw6⟩:=he6
          obtain ⟨_,hsl8⟩:=Slc.sv hx0.2.2.2.2.2.2
          refine qtp hA (fun _ hI=>r_six U27 sz63 hsl8 hA rfl rfl hb6.1 hb6.2) rfl fun a hA =>
           q_yes hA rfl rfl hc150 <|
           qtp hA (fun _ hI=>r_ldmA [] [[.int .u32 ((x0.Txs.getD s4.toNat default).Version)],[v9],[v10],[.int .u32 ((x0.Txs.getD s4.toNat default).Time)]] [] U63 rfl sz63 rfl hI.agr hat4 hA rfl rfl) rfl fun a hA =>
           q_yes hA rfl rfl hc150<|?_
          obtain ⟨r10,hr10,H⟩:=bB H
          refine qcall (v:=.bool r10) cf58 hA rfl (fun _ hI=>plq (q1_meet.c μ _ hI.agr (x0.Txs.getD s3.toNat default) v7 v8 ⟨hw5.1,hw5.2.1,hw5.2.2.1,hw5.2.2.2⟩ (x0.Txs.getD s4.toNat default) v9 v10 ⟨hw6.1,hw6.2.1,hw6.2.2.1,hw6.2.2.2⟩ r10 hr10) hI) rfl fun a hA =>
           qtp hA (fun _ hI=>r_pick_f hA rfl hc150 rfl) rfl fun a hA=>?_
          refine q_nil fun w hI=>?_
          cases sJ H
          exact ⟨hA.sub ⟨rfl,rfl,rfl,rfl,rfl,rfl,rfl,rfl,trivial⟩,hI⟩
        ·rintro a w ⟨hA,hI⟩
         have H:=Hk9
         refine w_cond hA rfl (fun hc16=>?_) (fun hc16=>?_)
         ·have H:=bT H hc16
          refine w_seq fun _ hN31=>w_reg ?_
          obtain ⟨r11,hr11,H⟩:=bB H
          refine o_callp (u:=.agg [[.int .i64 r11.Code],[.bool r11.Placed],[.int .i64 r11.Pos],[.bool r11.Outer],[.int .i64 r11.At]].flatten.toArray) cf54 hA rfl hI (q0_Bare.c μ _ hI.agr 106 (in_lit .i64 106 rfl) r11 hr11) rfl fun a w hz20 hI hA =>
           o_st (j:=1) [] [[.int .i64 0],[.bool false],[.int .i64 0],[.bool false],[.int .i64 0]] [[.int .i64 r11.Code],[.bool r11.Placed],[.int .i64 r11.Pos],[.bool r11.Outer],[.int .i64 r11.At]] [] sz53 rfl rfl (fO rfl (fO rfl (fO rfl (fO rfl (fO rfl fl_nil))))) hI rfl hA rfl rfl rfl rfl fun w hI=>?_
          refine o_nil<|hN31 _ _<|w_ret ?_
          have H:some (.inr (.inr (.inr r11)))=some z4:=H
          obtain rfl:=sI H
          have H:=Hk8
          have H:some (.inr (.inr r11))=some z3:=H
          obtain rfl:=sI H
          have H:=Hk7
          have H:some (.inr r11)=some z2:=H
          obtain rfl:=sI H
          have H:=Hk6
          have H:some r11=some z1:=H
          obtain rfl:=sI H
          have H:=Hk5
          obtain rfl:=sJ H
          exact retc U53 rfl sz53 rfl hI (j:=1) rfl hA Tryz.results22 rfl ⟨_,rfl,rfl,⟨hz20.1,hz20.2.1,hz20.2.2⟩,hI.forget0⟩
         ·have hc16:=ft hc16;have H:=bF H hc16
          refine w_skip<|hN30 _ _<|w_reg<|stm hA rfl rfl fun a hA =>
           stp hA (r_add hA rfl rfl) rfl fun a hA =>
           sta hA rfl rfl fun a hA=>?_
          refine o_nil<|⟨m4,lS _,IntKind.i64.wrap (s4+1),H,(wrap_in _ _),hA.sub ⟨rfl,rfl,rfl,rfl,rfl,rfl,trivial⟩,hI⟩
       ·obtain ⟨hc12,H⟩:=dF H hc12
        refine w_exit rfl<|hN26 _ _<|w_reg<|stm hA rfl rfl fun a hA =>
         stp hA (r_add hA rfl rfl) rfl fun a hA =>
         sta hA rfl rfl fun a hA=>?_
        refine o_nil ?_
        have H:some (.inl (IntKind.i64.wrap (s3+1)))=some z4:=H
        obtain rfl:=sI H
        have H:=Hk8
        exact ⟨m3,lS _,IntKind.i64.wrap (s3+1),H,(wrap_in _ _),hA.sub ⟨rfl,rfl,rfl,rfl,trivial⟩,hI⟩
      ·obtain ⟨hc11,H⟩:=dF H hc11
       refine w_exit rfl<|hN22 _ _<|w_seq fun _ hN32=>w_seq fun _ hN33=>?_
       refine w_any [] mo hI fun w hI=>?_
       refine gE 0 hA rfl (.inr hI) (fun _=>r_mv hA rfl) fun a hA=>?_
       refine gE 2 hA rfl (.inr hI) (fun _=>r_fd (k:=0) U29 rfl sz26 hA rfl rfl) fun a hA=>?_
       refine gE 3 hA rfl (.inr hI) (fun _=>r_fd (k:=33) U26 rfl sz24 hA rfl rfl) fun a hA=>?_
       refine gT 4 hA rfl hI (fun w hI=>r_ldA (j:=2) [[.int .u32 x0.Head.Version],av .u8 32 x0.Head.Prev] [av .u8 32 x0.Head.Root] [[.int .u32 x0.Head.Time],[.int .u32 x0.Head.Work],[.int .u32 x0.Head.Nonce],[u0_0]] U24 rfl sz24 rfl hI rfl hA rfl rfl) fun a hA=>?_
       refine gF 1 rfl ?_
       obtain ⟨r12,hr12,H⟩:=bB H
       refine o_callp (u:=.agg [av .u8 32 r12].flatten.toArray) cf16 hA rfl hI ((by obtain ⟨μ1,hle1,hsv1,hI⟩:=hI.freezeRow 0 rfl;have hS1:Slc (RA .u8 32) 32 μ1 v6 r8:=⟨_,hE2,hsv1⟩;exact low_plain hle1 (q1_Root.c μ1 _ hI.agr r8 v6 hS1 r12 hr12))) rfl fun a w hz21 hI hA=>?_
       refine o_nil<|⟨(.inr hI),?_⟩
       refine gF 5 rfl ?_
       obtain ⟨r13,hr13,H⟩:=bB H
       refine o_callp (u:=.bool r13) cf12 hA rfl hI (q0_SameHash.c μ _ hI.agr r12 hz21 x0.Head.Root hx0.2.2.1 r13 hr13) rfl fun a w hz22 hI hA=>?_
       refine o_nil<|⟨(.inr hI),?_⟩
       refine gE 6 hA rfl (.inr hI) (fun _=>r_not hA rfl) fun a hA=>?_
       refine gN<|hN33 _ _<|w_cond hA rfl (fun hc17=>?_) (fun hc17=>?_)
       ·have hc17:=nT hc17;have hc17:=ft hc17;have H:=bF H hc17
        refine w_seq fun _ hN34=>w_reg ?_
        obtain ⟨r14,hr14,H⟩:=bB H
        refine o_callp (u:=.agg [[.int .i64 r14.Code],[.bool r14.Placed],[.int .i64 r14.Pos],[.bool r14.Outer],[.int .i64 r14.At]].flatten.toArray) cf54 hA rfl hI (q0_Bare.c μ _ hI.agr 108 (in_lit .i64 108 rfl) r14 hr14) rfl fun a w hz23 hI hA =>
         o_st (j:=1) [] [[.int .i64 0],[.bool false],[.int .i64 0],[.bool false],[.int .i64 0]] [[.int .i64 r14.Code],[.bool r14.Placed],[.int .i64 r14.Pos],[.bool r14.Outer],[.int .i64 r14.At]] [] sz53 rfl rfl (fO rfl (fO rfl (fO rfl (fO rfl (fO rfl fl_nil))))) hI rfl hA rfl rfl rfl rfl fun w hI=>?_
        refine o_nil<|hN34 _ _<|w_ret ?_
        have H:some (.inr (.inr r14))=some z3:=H
        obtain rfl:=sI H
        have H:=Hk7
        have H:some (.inr r14)=some z2:=H
        obtain rfl:=sI H
        have H:=Hk6
        have H:some r14=some z1:=H
        obtain rfl:=sI H
        have H:=Hk5
        obtain rfl:=sJ H
        exact retc U53 rfl sz53 rfl hI (j:=1) rfl hA Tryz.results22 rfl ⟨_,rfl,rfl,⟨hz23.1,hz23.2.1,hz23.2.2⟩,hI.forget0⟩
       ·have hc17:=nF hc17;have H:=bT H hc17
        refine w_skip<|hN32 _ _<|w_seq fun _ hN35=>w_reg ?_
        obtain ⟨r15,hr15,H⟩:=bB H
        refine o_callp (u:=.agg [[.int .i64 r15.Code],[.bool r15.Placed],[.int .i64 r15.Pos],[.bool r15.Outer],[.int .i64 r15.At]].flatten.toArray) cf59 hA rfl hI (q0_None.c μ _ hI.agr  r15 hr15) rfl fun a w hz24 hI hA =>
         o_st (j:=1) [] [[.int .i64 0],[.bool false],[.int .i64 0],[.bool false],[.int .i64 0]] [[.int .i64 r15.Code],[.bool r15.Placed],[.int .i64 r15.Pos],[.bool r15.Outer],[.int .i64 r15.At]] [] sz53 rfl rfl (fO rfl (fO rfl (fO rfl (fO rfl (fO rfl fl_nil))))) hI rfl hA rfl rfl rfl rfl fun w hI=>?_
        refine o_nil<|hN35 _ _<|w_ret ?_
        have H:some (.inr (.inr r15))=some z3:=H
        obtain rfl:=sI H
        have H:=Hk7
        have H:some (.inr r15)=some z2:=H
        obtain rfl:=sI H
        have H:=Hk6
        have H:some r15=some z1:=H
        obtain rfl:=sI H
        have H:=Hk5
        obtain rfl:=sJ H
        exact retc U53 rfl sz53 rfl hI (j:=1) rfl hA Tryz.results22 rfl ⟨_,rfl,rfl,⟨hz24.1,hz24.2.1,hz24.2.2⟩,hI.forget0⟩
theorem slices_Clone_api_In_api_In.c (μ:Store)(w0:World)(hμ:Agr μ w0)(x0:List In)(u0:Value)(hx0:Slc (RIn μ) 35 μ u0 x0)(r:List In)(H:slices_Clone_api_In_api_In.f x0=some r) :
  Calls Tryz.prog 121 [u0].toArray w0 (fun e w'=>∃ v,e=.returned v∧∃(v0:Value)(c0:List Value)(μ':Store),v=v0∧Els (RIn μ') 35 r c0∧Iv w0 [] μ μ' [row 67 35 v0 r.length c0] w'):=by
 obtain ⟨hb,H⟩:=guard_some H
 obtain rfl:=sI H
 obtain ⟨cs,hE,A,cp,rfl,h2,h3,h4,h5⟩:=hx0
 refine enter Tryz.func121 rfl Tryz.ntmps121 rfl fun a hA=>?_
 have hI:=Iv.start hμ
 refine w_seq fun _ hN1=>w_reg (stp hA (r_as hA rfl) rfl fun a hA=>o_nil (hN1 _ _ ?_))
 refine w_seq fun _ hN2=>w_seq fun _ hN3=>w_reg (stp hA (r_mv hA rfl) rfl fun a hA=>stp hA (r_eqnil U60 hA rfl rfl) rfl fun a hA=>o_nil (hN3 _ _ ?_))
 refine w_cond hA rfl (fun hc=>?_) (fun hc=>?_)
 ·have hx:x0=[]:=List.eq_nil_of_length_eq_zero (by
   rcases Nat.eq_zero_or_pos x0.length with h | h
   ·exact h
   ·rw [h4 (by omega)] at hc;cases hc)
  subst hx
  cases hE
  refine w_seq fun _ hN4=>w_reg (stp hA (r_as hA rfl) rfl fun a hA=>o_nil (hN4 _ _ ?_))
  refine w_ret ?_
  have hI:=hI.nilRow 67 35
  exact ret1 hA Tryz.results121 rfl ⟨_,rfl,.slice none 0 0,[],μ,rfl,.nil,hI⟩
 ·refine w_skip (hN2 _ _ ?_)
  refine w_seq fun _ hN5=>w_reg ?_
  refine o_bsl [] te67 zr67 U60 hI hA rfl rfl rfl rfl (by kernel_rfl) rfl fun g a w hA hI=>?_
  refine stp hA (r_mv hA rfl) rfl fun a hA=>?_
  refine o_appL (xs:=([]:List In)) (ys:=x0) (j:=0) te67 U60 hI rfl hA rfl rfl (src_sl hI.agr ⟨A,cp,rfl,h2,h3,h4,h5⟩ hE.len) hE.len (hE.ones RIn.ones) (by simp only [List.length_nil,maxLen];omega) (by simp only [List.length_nil];omega) rfl fun v a w hA hI=>?_
  refine stp hA (r_as hA rfl) rfl fun a hA=>o_nil (hN5 _ _ (w_ret ?_))
  exact ret1 hA Tryz.results121 rfl ⟨_,rfl,v,cs,μ,rfl,hE,hI⟩
theorem slices_Clone_api_Out_api_Out.c (μ:Store)(w0:World)(hμ:Agr μ w0)(x0:List Out)(u0:Value)(hx0:Slc (ROut μ) 33 μ u0 x0)(r:List Out)(H:slices_Clone_api_Out_api_Out.f x0=some r) :
  Calls Tryz.prog 122 [u0].toArray w0 (fun e w'=>∃ v,e=.returned v∧∃(v0:Value)(c0:List Value),v=v0∧Els (ROut μ) 33 r c0∧Iv w0 [] μ μ [row 106 33 v0 r.length c0] w'):=by
 obtain ⟨hb,H⟩:=guard_some H
 obtain rfl:=sI H
 obtain ⟨cs,hE,A,cp,rfl,h2,h3,h4,h5⟩:=hx0
 refine enter Tryz.func122 rfl Tryz.ntmps122 rfl fun a hA=>?_
 have hI:=Iv.start hμ
 refine w_seq fun _ hN1=>w_reg (stp hA (r_as hA rfl) rfl fun a hA=>o_nil (hN1 _ _ ?_))
 refine w_seq fun _ hN2=>w_seq fun _ hN3=>w_reg (stp hA (r_mv hA rfl) rfl fun a hA=>stp hA (r_eqnil U61 hA rfl rfl) rfl fun a hA=>o_nil (hN3 _ _ ?_))
 refine w_cond hA rfl (fun hc=>?_) (fun hc=>?_)
 ·have hx:x0=[]:=List.eq_nil_of_length_eq_zero (by
   rcases Nat.eq_zero_or_pos x0.length with h | h
   ·exact h
   ·rw [h4 (by omega)] at hc;cases hc)
  subst hx
  cases hE
  refine w_seq fun _ hN4=>w_reg (stp hA (r_as hA rfl) rfl fun a hA=>o_nil (hN4 _ _ ?_))
  refine w_ret ?_
  have hI:=hI.nilRow 106 33
  exact ret1 hA Tryz.results122 rfl ⟨_,rfl,.slice none 0 0,[],rfl,.nil,hI⟩
 ·refine w_skip (hN2 _ _ ?_)
  refine w_seq fun _ hN5=>w_reg ?_
  refine o_bsl [] te106 zr106 U61 hI hA rfl rfl rfl rfl (by kernel_rfl) rfl fun g a w hA hI=>?_
  refine stp hA (r_mv hA rfl) rfl fun a hA=>?_
  refine o_appL (xs:=([]:List Out)) (ys:=x0) (j:=0) te106 U61 hI rfl hA rfl rfl (src_sl hI.agr ⟨A,cp,rfl,h2,h3,h4,h5⟩ hE.len) hE.len (hE.ones ROut.ones) (by simp only [List.length_nil,maxLen];omega) (by simp only [List.length_nil];omega) rfl fun v a w hA hI=>?_
  refine stp hA (r_as hA rfl) rfl fun a hA=>o_nil (hN5 _ _ (w_ret ?_))
  exact ret1 hA Tryz.results122 rfl ⟨_,rfl,v,cs,rfl,hE,hI⟩
theorem tx_Clone.c (μ:Store)(w0:World)(hμ:Agr μ w0)(x0:Tx)(u0_0 u0_1:Value)(hx0:TxW μ x0 u0_0 u0_1)(r:Tx)(H:tx_Clone.f x0=some r) :
  Calls Tryz.prog 99 [.agg [[.int .u32 x0.Version],[u0_0],[u0_1],[.int .u32 x0.Time]].flatten.toArray].toArray w0 (fun e w'=>∃ v,e=.returned v∧∃(v0_0 v0_1:Value)(μ':Store),v=.agg [[.int .u32 r.Version],[v0_0],[v0_1],[.int .u32 r.Time]].flatten.toArray∧TxW μ' r v0_0 v0_1∧Iv w0 [] μ μ' [] w'):=by
 refine enter Tryz.func99 rfl Tryz.ntmps99 rfl fun a hA=>?_
 have hI:=Iv.start hμ
 have H:=bI H
 refine w_seq fun _ hN1=>w_reg<|o_box [[.int .u32 x0.Version],[u0_0],[u0_1],[.int .u32 x0.Time]] hI hA rfl rfl rfl fun g1 a w hA hI hg1 =>
  o_new [[.int .u32 0],[Sn],[Sn],[.int .u32 0]] zr63 hI hA rfl fun g2 a w hA hI hg2=>?_
 refine o_nil<|hN1 _ _<|w_seq fun _ hN2=>?_
 refine w_any [7,9] mo hI fun w hI=>?_
 refine gE 0 hA rfl (.inr hI) (fun _=>r_fd (k:=1) U63 rfl sz60 hA rfl rfl) fun a hA=>?_
 refine gT 1 hA rfl hI (fun w hI=>r_ld1 (j:=1) [[.int .u32 x0.Version]] [[u0_1],[.int .u32 x0.Time]] U60 rfl hI rfl hA rfl rfl) fun a hA=>?_
 refine gE 3 hA rfl (.inr hI) (fun _=>r_fd (k:=2) U63 rfl sz61 hA rfl rfl) fun a hA=>?_
 refine gT 4 hA rfl hI (fun w hI=>r_ld1 (j:=1) [[.int .u32 x0.Version],[u0_0]] [[.int .u32 x0.Time]] U61 rfl hI rfl hA rfl rfl) fun a hA=>?_
 refine gF 2 rfl ?_
 obtain ⟨r1,hr1,H⟩:=bB H
 refine o_call _ cf121 hA rfl (slices_Clone_api_In_api_In.c μ _ hI.agr x0.Ins u0_0 hx0.2.1 r1 hr1) rfl fun v1 a w hz1 hA=>?_
 obtain ⟨_,cs1,μ1,rfl,hE1,hi1⟩:=hz1
 have hI:=hI.call hi1
 refine o_nil<|⟨(.inr ((hI.sl [1,2] rfl).less (Store.le.refl _) hi1.le)),?_⟩
 refine gE 6 hA rfl (.inr ((hI.sl [1,2] rfl).less (Store.le.refl _) hi1.le)) (fun _=>r_fd (k:=1) U63 rfl sz60 hA rfl rfl) fun a hA=>?_
 refine gF 5 rfl ?_
 obtain ⟨r2,hr2,H⟩:=bB H
 refine o_call _ cf122 hA rfl (slices_Clone_api_Out_api_Out.c μ1 _ hI.agr x0.Outs u0_1 (Slc.le hx0.2.2.1 (fun _ _ h=>ROut.le hi1.le h) hi1.le) r2 hr2) rfl fun v2 a w hz2 hA=>?_
 obtain ⟨_,cs2,rfl,hE2,hi2⟩:=hz2
 have hI:=hI.call hi2
 refine o_nil<|⟨(.inr ((hI.sl [2,3] rfl).less (Store.le.refl _) hi1.le)),?_⟩
 refine gF 7 rfl ?_
 have hone:=own_one hI (j:=1) rfl
 have hcel:=own_cell hI (j:=1) rfl
 refine o_st (j:=3) [[.int .u32 x0.Version]] [[u0_0]] [[v1]] [[u0_1],[.int .u32 x0.Time]] sz60 rfl rfl (by intro c hc;simp at hc;subst hc;exact hone) hI rfl hA rfl rfl hcel rfl fun w hI=>?_
 refine o_nil<|⟨(.inl (by kernel_rfl)),?_⟩
 refine gE 8 hA rfl (.inl (by kernel_rfl)) (fun _=>r_fd (k:=2) U63 rfl sz61 hA rfl rfl) fun a hA=>?_
 refine gF 9 rfl ?_
 have hone:=own_one hI (j:=0) rfl
 have hcel:=own_cell hI (j:=0) rfl
 refine o_st (j:=3) [[.int .u32 x0.Version],[v1]] [[u0_1]] [[v2]] [[.int .u32 x0.Time]] sz61 rfl rfl (by intro c hc;simp at hc;subst hc;exact hone) hI rfl hA rfl rfl hcel rfl fun w hI=>?_
 refine o_nil<|⟨(.inl (by kernel_rfl)),?_⟩
 refine gN<|hN2 _ _ ?_
 obtain ⟨c1,hz3,Hk1⟩:=bB H
 refine w_cut (fun a w=>∃(μ2:Store)(ccc1:List Value),μ1.le μ2∧Els (RIn μ2) 35 c1 ccc1∧Fr a 32 [(1,pt g1 0),(2,pt g2 0)]∧Iv w0 [] μ μ2 [row 106 33 v2 r2.length cs2,row 67 35 v1 c1.length ccc1,cel g2 [[.int .u32 0],[Sn],[Sn],[.int .u32 0]] 63,cel g1 [[.int .u32 x0.Version],[v1],[v2],[.int .u32 x0.Time]] 63] w) ?_ ?_
 ·have H:=bI hz3
  refine w_seq fun _ hN3=>w_reg<|stp hA (r_fd (k:=1) U63 rfl sz60 hA rfl rfl) rfl fun a hA =>
   stp hA (r_ld1 (j:=3) [[.int .u32 x0.Version]] [[v2],[.int .u32 x0.Time]] U60 rfl hI rfl hA rfl rfl) rfl fun a hA=>?_
  have hlen1:=Iv.row_in hI (j:=1) rfl
  refine stp hA (r_rlen (xs:=0) U60 hI (j:=1) rfl hA rfl) rfl fun a hA =>
   stm hA rfl rfl fun a hA=>?_
  refine o_nil<|hN3 _ _<|w_block ?_
  obtain ⟨z1,hz4,Hk2⟩:=bind_some H
  obtain ⟨n1,hn1⟩:=loopO_some hz4
  refine w_loop (fun n a w=>∃(s1:Int)(s2:List In)(μ3:Store)(ccs2:List Value),loopN (tx_Clone.s0 r1) n (s1,s2)=some z1∧μ1.le μ3∧InR .i64 s1∧Els (RIn μ3) 35 s2 ccs2∧Fr a 32 [(1,pt g1 0),(2,pt g2 0),(14,.int .i64 (r1.length:Int)),(15,.int .i64 s1)]∧Iv w0 [] μ μ3 [row 106 33 v2 r2.length cs2,row 67 35 v1 s2.length ccs2,cel g2 [[.int .u32 0],[Sn],[Sn],[.int .u32 0]] 63,cel g1 [[.int .u32 x0.Version],[v1],[v2],[.int .u32 x0.Time]] 63] w) n1 ⟨0,r1,μ1,cs1,hn1,(Store.le.refl _),(in_lit .i64 0 rfl),hE1,hA.sub ⟨rfl,rfl,rfl,rfl,trivial⟩,hI⟩ ?_
  clear hA hI
  rintro n a w ⟨s1,s2,μ3,ccs2,hn1,hle2,ws1,ws2,hA,hI⟩
  obtain ⟨m1,rfl,H⟩:=loopN_bind hn1
  clear hn1
  refine w_seq fun _ hN4=>w_reg<|stp hA (r_lss hA rfl rfl) rfl fun a hA=>?_
  refine o_nil<|hN4 _ _<|w_seq fun _ hN5=>w_cond hA rfl (fun hc1=>?_) (fun hc1=>?_)
  ·obtain ⟨hc1,H⟩:=dT H hc1
   refine w_skip<|hN5 _ _<|w_seq fun _ hN6=>w_block<|w_seq fun _ hN7=>w_reg<|stm hA rfl rfl fun a hA =>
    sta hA rfl rfl fun a hA=>?_
   refine o_nil<|hN7 _ _ ?_
   refine w_any [12] mo hI fun w hI=>?_
   refine gE 0 hA rfl (.inr hI) (fun _=>r_fd (k:=1) U63 rfl sz60 hA rfl rfl) fun a hA=>?_
   refine gT 1 hA rfl hI (fun w hI=>r_ld1 (j:=3) [[.int .u32 x0.Version]] [[v2],[.int .u32 x0.Time]] U60 rfl hI rfl hA rfl rfl) fun a hA=>?_
   refine gE 2 hA rfl (.inr hI) (fun _=>r_mv hA rfl) fun a hA=>?_
   refine gE 3 hA rfl (.inr hI) (fun _=>r_fd (k:=1) U63 rfl sz60 hA rfl rfl) fun a hA=>?_
   refine gT 4 hA rfl hI (fun w hI=>r_ld1 (j:=3) [[.int .u32 x0.Version]] [[v2],[.int .u32 x0.Time]] U60 rfl hI rfl hA rfl rfl) fun a hA=>?_
   refine gE 5 hA rfl (.inr hI) (fun _=>r_mv hA rfl) fun a hA=>?_
   obtain ⟨hb1,H⟩:=bG H
   refine gT 6 hA rfl hI (fun w hI=>r_rix (j:=1) U60 sz67 hI rfl hA rfl rfl hb1.1 hb1.2) fun a hA=>?_
   refine gE 7 hA rfl (.inr hI) (fun _=>r_fd (k:=so v1+s1.toNat * 35+33) U67 rfl sz30 hA rfl rfl) fun a hA=>?_
   obtain ⟨A1,_,B1,hc2,hl1,_,he1⟩:=Els.at_ ws2 (getD_some default hb1.1 hb1.2)
   obtain ⟨v3,rfl,hw1⟩:=he1
   refine gT 8 hA rfl hI (fun w hI=>r_rldQ (j:=1) (q:=s1.toNat * 35) (off:=33) A1 B1 [av .u8 32 ((s2.getD s1.toNat default).From.Tx),[.int .u32 ((s2.getD s1.toNat default).From.N)]] [[.int .u32 ((s2.getD s1.toNat default).Seq)]] hc2 hl1 rfl U30 rfl hI rfl hA rfl) fun a hA=>?_
   refine gF 9 rfl ?_
   obtain ⟨r3,hr3,H⟩:=bB H
   refine o_call _ cf69 hA rfl (bytes_Clone.c μ3 _ hI.agr ((s2.getD s1.toNat default).Key) v3 hw1.2.2.1 r3 hr3) rfl fun v4 a w hz5 hA=>?_
   obtain ⟨_,cs3,rfl,hE3,hi3⟩:=hz5
   have hI:=hI.call hi3
   refine o_nil<|⟨(.inr (hI.sl [1,2,3,4] rfl)),?_⟩
   refine g_mono (I':=fun w=>Iv w0 [] μ μ3 [row 5 1 v4 r3.length cs3,row 106 33 v2 r2.length cs2,row 67 35 v1 s2.length ccs2,cel g2 [[.int .u32 0],[Sn],[Sn],[.int .u32 0]] 63,cel g1 [[.int .u32 x0.Version],[v1],[v2],[.int .u32 x0.Time]] 63] w) (fun w h=>(h.sl [1,2,3,4] rfl)) _ _ _ _ ?_
   refine gT 10 hA rfl hI (fun w hI=>r_rix (j:=2) U60 sz67 hI rfl hA rfl rfl hb1.1 hb1.2) fun a hA=>?_
   refine gE 11 hA rfl (.inr hI) (fun _=>r_fd (k:=so v1+s1.toNat * 35+33) U67 rfl sz30 hA rfl rfl) fun a hA=>?_
   refine gF 12 rfl ?_
   obtain ⟨μ4,hle3,hsv1,hI,hth1⟩:=hI.freezeRowT 0 rfl
   have hS1:Slc (RI .u8) 1 μ4 v4 r3:=⟨_,hE3,hsv1⟩
   obtain ⟨A2,_,B2,hc3,hl2,hl3,he2⟩:=Els.at_ (Els.mono ws2 (fun _ _ h=>RIn.le hle3 h)) (getD_some default hb1.1 hb1.2)
   obtain ⟨v5,rfl,hw2⟩:=he2
   have hE4:=Els.setAt (y:=(⟨(s2.getD s1.toNat default).From,r3,(s2.getD s1.toNat default).Seq⟩:In)) (d:=[av .u8 32 ((s2.getD s1.toNat default).From.Tx),[.int .u32 ((s2.getD s1.toNat default).From.N)],[v4],[.int .u32 ((s2.getD s1.toNat default).Seq)]].flatten) (Els.mono ws2 (fun _ _ h=>RIn.le hle3 h)) hc3 (idx_lt hb1.1 hb1.2) hl2 hl3 ⟨v4,rfl,⟨hw2.1,hw2.2.1,hS1,hw2.2.2.2⟩⟩ rfl
   obtain ⟨_,hsc1⟩:=Slc.sv hS1
   refine o_rstPL (j:=1) (q:=s1.toNat * 35) (off:=33) (m':=(s2.set s1.toNat (⟨(s2.getD s1.toNat default).From,r3,(s2.getD s1.toNat default).Seq⟩:In)).length) A2 B2 [av .u8 32 ((s2.getD s1.toNat default).From.Tx),[.int .u32 ((s2.getD s1.toNat default).From.N)]] [[v5]] [[v4]] [[.int .u32 ((s2.getD s1.toNat default).Seq)]] hc3 hl2 rfl sz30 rfl rfl (fl_cons (one_one (one_sl hsc1)) fl_nil) hI rfl hA rfl rfl (cells_sl hsc1) (by omega) (by first | exact (List.length_set ..).symm | simp) fun w hI=>?_
   refine o_nil<|⟨(.inl (by kernel_rfl)),?_⟩
   refine gN<|hN6 _ _<|w_reg<|stp hA (r_add hA rfl rfl) rfl fun a hA =>
    stm hA rfl rfl fun a hA=>?_
   refine o_nil<|⟨m1,lS _,IntKind.i64.wrap (s1+1),s2.set s1.toNat (⟨(s2.getD s1.toNat default).From,r3,(s2.getD s1.toNat default).Seq⟩:In),μ4,A2++([av .u8 32 ((s2.getD s1.toNat default).From.Tx),[.int .u32 ((s2.getD s1.toNat default).From.N)],[v4],[.int .u32 ((s2.getD s1.toNat default).Seq)]].flatten++B2),H,(hle2.trans hle3),(wrap_in _ _),hE4,hA.sub ⟨rfl,rfl,rfl,rfl,trivial⟩,hI⟩
  ·obtain ⟨hc1,H⟩:=dF H hc1
   refine w_exit rfl ?_
   have H:some s2=some z1:=H
   obtain rfl:=sI H
   have H:=Hk2
   cases sJ H
   exact ⟨μ3,ccs2,hle2,ws2,hA.sub ⟨rfl,rfl,trivial⟩,hI⟩
 ·rintro a w ⟨μ2,ccc1,hle1,wc1,hA,hI⟩
  have H:=Hk1
  refine w_seq fun _ hN8=>w_reg<|stp hA (r_ldA (j:=3) [] [[.int .u32 x0.Version],[v1],[v2],[.int .u32 x0.Time]] [] U63 rfl sz63 rfl hI rfl hA rfl rfl) rfl fun a hA =>
   o_st (j:=2) [] [[.int .u32 0],[Sn],[Sn],[.int .u32 0]] [[.int .u32 x0.Version],[v1],[v2],[.int .u32 x0.Time]] [] sz63 rfl rfl (fO rfl (fl_cons (one_one (own_one hI (j:=1) rfl)) (fl_cons (one_one (own_one hI (j:=0) rfl)) (fO rfl fl_nil)))) hI rfl hA rfl rfl rfl rfl fun w hI=>?_
  refine o_nil<|hN8 _ _<|w_ret ?_
  obtain ⟨μ5,hle4,hsv2,hI⟩:=hI.freezeRow 1 rfl
  have hS2:Slc (RIn μ5) 35 μ5 v1 c1:=⟨_,(Els.mono wc1 (fun _ _ h=>RIn.le hle4 h)),hsv2⟩
  obtain ⟨μ6,hle5,hsv3,hI⟩:=hI.freezeRow 0 rfl
  have hS3:Slc (ROut μ6) 33 μ6 v2 r2:=⟨_,hE2,hsv3⟩
  obtain rfl:=sJ H
  exact retc U63 rfl sz63 rfl hI (j:=0) rfl hA Tryz.results99 rfl ⟨_,rfl,v1,v2,μ6,rfl,⟨hx0.1,(Slc.le hS2 (fun _ _ h=>RIn.le hle5 h) hle5),hS3,hx0.2.2.2⟩,(hI.sl [] rfl)⟩
theorem tx_Clones.c (μ:Store)(w0:World)(hμ:Agr μ w0)(x0:List Tx)(u0:Value)(hx0:Slc (RTx μ) 4 μ u0 x0)(r:List Tx)(H:tx_Clones.f x0=some r) :
  Calls Tryz.prog 62 [u0].toArray w0 (fun e w'=>∃ v,e=.returned v∧∃(v0:Value)(c0:List Value)(μ':Store),v=v0∧Els (RTx μ') 4 r c0∧Iv w0 [] μ μ' [row 63 4 v0 r.length c0] w'):=by
 refine enter Tryz.func62 rfl Tryz.ntmps62 rfl fun a hA=>?_
 have hI:=Iv.start hμ
 have H:=bI H
 refine w_seq fun _ hN1=>w_reg<|sta hA rfl rfl fun a hA=>?_
 refine o_nil<|hN1 _ _<|w_seq fun _ hN2=>w_reg<|sta hA rfl rfl fun a hA=>?_
 refine o_nil<|hN2 _ _ ?_
 obtain ⟨c1,hz1,Hk1⟩:=bB H
 refine w_cut (fun a w=>∃(μ1:Store)(vvc1:Value)(ccc1:List Value),μ.le μ1∧Els (RTx μ1) 4 c1 ccc1∧Fr a 19 [(2,Sn),(3,vvc1)]∧Iv w0 [] μ μ1 [row 63 4 vvc1 c1.length ccc1] w) ?_ ?_
 ·have H:=bI hz1
  refine w_seq fun _ hN3=>w_reg<|stm hA rfl rfl fun a hA=>?_
  obtain ⟨_,hsl1⟩:=Slc.sv hx0
  refine stp hA (r_slen U27 hsl1 hA rfl) rfl fun a hA =>
   stm hA rfl rfl fun a hA=>?_
  refine o_nil<|hN3 _ _<|w_block ?_
  have hI:=hI.nilRow 63 4
  obtain ⟨z1,hz2,Hk2⟩:=bind_some H
  obtain ⟨n1,hn1⟩:=loopO_some hz2
  refine w_loop (fun n a w=>∃(s1:List Tx)(s2:Int)(μ2:Store)(vvs1:Value)(ccs1:List Value),loopN (tx_Clones.s0 x0) n (s1,s2)=some z1∧μ.le μ2∧Els (RTx μ2) 4 s1 ccs1∧InR .i64 s2∧Fr a 19 [(2,Sn),(3,vvs1),(6,u0),(7,.int .i64 (x0.length:Int)),(8,.int .i64 s2)]∧Iv w0 [] μ μ2 [row 63 4 vvs1 s1.length ccs1] w) n1 ⟨[],0,μ,Sn,[],hn1,(Store.le.refl _),(Els.nil (RE:=(RTx μ)) (sz:=4)),(in_lit .i64 0 rfl),hA.sub ⟨rfl,rfl,rfl,rfl,rfl,trivial⟩,hI⟩ ?_
  clear hA hI
  rintro n a w ⟨s1,s2,μ2,vvs1,ccs1,hn1,hle2,ws1,ws2,hA,hI⟩
  obtain ⟨m1,rfl,H⟩:=loopN_bind hn1
  clear hn1
  refine w_seq fun _ hN4=>w_reg<|stp hA (r_lss hA rfl rfl) rfl fun a hA=>?_
  refine o_nil<|hN4 _ _<|w_seq fun _ hN5=>w_cond hA rfl (fun hc1=>?_) (fun hc1=>?_)
  ·obtain ⟨hc1,H⟩:=dT H hc1
   refine w_skip<|hN5 _ _<|w_seq fun _ hN6=>w_block<|w_seq fun _ hN7=>w_reg ?_
   obtain ⟨hb1,H⟩:=bG H
   obtain ⟨_,he1,_,hat1⟩:=Slc.elem (Slc.le hx0 (fun _ _ h=>RTx.le hle2 h) hle2) (getD_some default hb1.1 hb1.2)
   obtain ⟨v1,v2,rfl,hw1⟩:=he1
   obtain ⟨_,hsl2⟩:=Slc.sv (Slc.le hx0 (fun _ _ h=>RTx.le hle2 h) hle2)
   refine stp hA (r_six U27 sz63 hsl2 hA rfl rfl hb1.1 hb1.2) rfl fun a hA =>
    stp hA (r_ldmA [] [[.int .u32 ((x0.getD s2.toNat default).Version)],[v1],[v2],[.int .u32 ((x0.getD s2.toNat default).Time)]] [] U63 rfl sz63 rfl hI.agr hat1 hA rfl rfl) rfl fun a hA =>
    o_new [[.int .u32 0],[Sn],[Sn],[.int .u32 0]] zr63 hI hA rfl fun g1 a w hA hI hg1=>?_
   obtain ⟨_,hsl3⟩:=Slc.sv hw1.2.1
   obtain ⟨_,hsl4⟩:=Slc.sv hw1.2.2.1
   refine o_st (j:=0) [] [[.int .u32 0],[Sn],[Sn],[.int .u32 0]] [[.int .u32 ((x0.getD s2.toNat default).Version)],[v1],[v2],[.int .u32 ((x0.getD s2.toNat default).Time)]] [] sz63 rfl rfl (fO rfl (fl_cons (one_one (one_sl hsl3)) (fl_cons (one_one (one_sl hsl4)) (fO rfl fl_nil)))) hI rfl hA rfl rfl rfl rfl fun w hI=>?_
   refine o_nil<|hN7 _ _<|w_reg<|stm hA rfl rfl fun a hA =>
    stp hA (r_ldA (j:=0) [] [[.int .u32 ((x0.getD s2.toNat default).Version)],[v1],[v2],[.int .u32 ((x0.getD s2.toNat default).Time)]] [] U63 rfl sz63 rfl hI rfl hA rfl rfl) rfl fun a hA=>?_
   obtain ⟨r1,hr1,H⟩:=bB H
   refine o_call _ cf99 hA rfl (tx_Clone.c μ2 _ hI.agr (x0.getD s2.toNat default) v1 v2 ⟨hw1.1,hw1.2.1,hw1.2.2.1,hw1.2.2.2⟩ r1 hr1) rfl fun v3 a w hz3 hA=>?_
   obtain ⟨v4,v5,μ3,rfl,hw2,hi1⟩:=hz3
   have hI:=hI.call hi1
   have hE1:Els (RTx μ3) 4 ([r1]:List Tx) _:=(Els.cons (c:=[[.int .u32 r1.Version],[v4],[v5],[.int .u32 r1.Time]].flatten) ⟨v4,v5,rfl,⟨hw2.1,hw2.2.1,hw2.2.2.1,hw2.2.2.2⟩⟩ rfl Els.nil)
   refine o_bsl ([[.int .u32 r1.Version],[v4],[v5],[.int .u32 r1.Time]].flatten++([])) te63 zr63 U27 hI hA rfl rfl rfl rfl (by kernel_rfl) rfl fun g2 a w hA hI=>?_
   generalize hcs:([[.int .u32 r1.Version],[v4],[v5],[.int .u32 r1.Time]].flatten++([]):List Value)=cs1 at hE1 hI
   clear hcs
   obtain ⟨hb2,H⟩:=bG H
   have hE3:=(Els.mono ws1 (fun _ _ h=>RTx.le hi1.le h)).app hE1
   refine o_appG (xs:=(s1:List Tx)) (ys:=(([r1]:List Tx):List Tx)) (M:=2199023255552) 2 te63 U27 hI rfl hA rfl rfl (src_row hI (j:=0) rfl) hE1.len (hE1.ones RTx.ones) hb2 rfl fun v6 a w hA hI =>
    sta hA rfl rfl fun a hA=>?_
   refine o_nil<|hN6 _ _<|w_reg<|stp hA (r_add hA rfl rfl) rfl fun a hA =>
    stm hA rfl rfl fun a hA=>?_
   refine o_nil<|⟨m1,lS _,s1++([r1]:List Tx),IntKind.i64.wrap (s2+1),μ3,v6,ccs1++cs1,H,(hle2.trans hi1.le),hE3,(wrap_in _ _),hA.sub ⟨rfl,rfl,rfl,rfl,rfl,trivial⟩,(hI.sl [2] rfl)⟩
  ·obtain ⟨hc1,H⟩:=dF H hc1
   refine w_exit rfl ?_
   have H:some s1=some z1:=H
   obtain rfl:=sI H
   have H:=Hk2
   cases sJ H
   exact ⟨μ2,vvs1,ccs1,hle2,ws1,hA.sub ⟨rfl,rfl,trivial⟩,hI⟩
 ·rintro a w ⟨μ1,vvc1,ccc1,hle1,wc1,hA,hI⟩
  have H:=Hk1
  refine w_seq fun _ hN8=>w_reg<|stm hA rfl rfl fun a hA =>
   sta hA rfl rfl fun a hA=>?_
  refine o_nil<|hN8 _ _<|w_ret ?_
  obtain rfl:=sJ H
  exact ret1 hA Tryz.results62 rfl ⟨_,rfl,vvc1,ccc1,μ1,rfl,wc1,hI⟩
end Go.Proofs.YticejmbhhehfdaaGreatDoor.T
