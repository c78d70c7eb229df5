/- Proved: the statement TreePlays, as given (its conditions are those of the given row, and card where there is one; no others): the call ends, with true, and the input reads as it did. This file is one of its parts. -/
import Derived.Test.YtdngkgkkblfcjaaGreatDoorPTreePlays3
import Derived.Shelf.SlLaysF0
import Derived.Test.YtdngkgkkblfcjaaGreatDoorProg
namespace Go.Proofs.YtdngkgkkblfcjaaGreatDoor.T
open Go Go.Proofs Go.Proofs.YtdngkgkkblfcjaaGreatDoor.K
set_option linter.unusedVariables false
set_option linter.unusedSimpArgs false
set_option maxRecDepth 20000
theorem q1_TxBytes.c (μ:Store)(w0:World)(hμ:Agr μ w0)(x0:Tx)(u0_0 u0_1:Value)(hx0:TxW μ x0 u0_0 u0_1)(r:List Int)(H:q1_TxBytes.f x0=some r) :
  Calls Tryz.prog 100 [.agg [[.int .u32 x0.Version],[u0_0],[u0_1],[.int .u32 x0.Time]].flatten.toArray].toArray w0 (fun e w'=>∃ v,e=.returned v∧∃(v0:Value)(c0:List Value),v=v0∧Els (RI .u8) 1 r c0∧Iv w0 [] μ μ [row 5 1 v0 r.length c0] w'):=by
 refine enter Tryz.func100 rfl Tryz.ntmps100 rfl fun a hA=>?_
 have hI:=Iv.start hμ
 have H:=bI H
 refine w_seq fun _ hN1=>w_reg<|o_box [[.int .u32 x0.Version],[u0_0],[u0_1],[.int .u32 x0.Time]] hI hA rfl rfl rfl fun g1 a w hA hI hg1 =>
  sta hA rfl rfl fun a hA=>?_
 refine o_nil<|hN1 _ _<|w_seq fun _ hN2=>?_
 refine w_anyS [] mo (fun w (h:Iv w0 [] μ μ [cel g1 [[.int .u32 x0.Version],[u0_0],[u0_1],[.int .u32 x0.Time]] 151] w)=>(h.sl [0] rfl:Iv w0 [] μ μ [cel g1 [[.int .u32 x0.Version],[u0_0],[u0_1],[.int .u32 x0.Time]] 151] w)) hI fun w hI=>?_
 refine gE 0 hA rfl (.inr hI) (fun _=>r_fd (k:=0) U151 rfl sz23 hA rfl rfl) fun a hA=>?_
 refine gT 1 hA rfl hI (fun w hI=>r_ld1 (j:=0) [] [[u0_0],[u0_1],[.int .u32 x0.Time]] U23 rfl hI rfl hA rfl rfl) fun a hA=>?_
 refine gE 3 hA rfl (.inr hI) (fun _=>r_fd (k:=1) U151 rfl sz148 hA rfl rfl) fun a hA=>?_
 refine gT 4 hA rfl hI (fun w hI=>r_ld1 (j:=0) [[.int .u32 x0.Version]] [[u0_1],[.int .u32 x0.Time]] U148 rfl hI rfl hA rfl rfl) fun a hA=>?_
 obtain ⟨_,hsl1⟩:=Slc.sv hx0.2.1
 refine gE 5 hA rfl (.inr hI) (fun _=>r_slen U148 hsl1 hA rfl) fun a hA=>?_
 refine gE 6 hA rfl (.inr hI) (fun _=>r_conv U3 U45 hA rfl) fun a hA=>?_
 refine gF 2 rfl ?_
 have hI:=hI.nilRow 5 1
 obtain ⟨r1,hr1,H⟩:=bB H
 refine o_call _ cf91 hA rfl (q1_Four.c μ _ hI.agr ([]:List Int) Sn ([]) (Els.nil (RE:=(RI .u8)) (sz:=1)) (hI.item (j:=0) rfl) x0.Version hx0.1 r1 hr1) rfl fun v1 a w hz1 hA=>?_
 obtain ⟨_,cs1,rfl,hE1,hi1⟩:=hz1
 have hI:=hI.call1 0 rfl hi1
 refine o_nil<|⟨(.inr (hI.sl [1] rfl)),?_⟩
 refine gF 7 rfl ?_
 obtain ⟨r2,hr2,H⟩:=bB H
 refine o_call _ cf149 hA rfl (q1_Put.c μ _ hI.agr r1 v1 cs1 hE1 (hI.item (j:=0) rfl) (IntKind.u64.wrap (x0.Ins.length:Int)) (wrap_in _ _) r2 hr2) rfl fun v2 a w hz2 hA=>?_
 obtain ⟨_,cs2,rfl,hE2,hi2⟩:=hz2
 have hI:=hI.call1 0 rfl hi2
 refine o_nil<|⟨(.inr (hI.sl [1] rfl)),?_⟩
 refine gE 8 hA rfl (.inr (hI.sl [1] rfl)) (fun _=>r_as hA rfl) fun a hA=>?_
 refine gN<|hN2 _ _ ?_
 obtain ⟨c1,hz3,Hk1⟩:=bB H
 refine w_cut (fun a w=>∃(vvc1:Value)(ccc1:List Value),Els (RI .u8) 1 c1 ccc1∧Fr a 81 [(1,pt g1 0),(2,Sn),(3,vvc1)]∧Iv w0 [] μ μ [row 5 1 vvc1 c1.length ccc1,cel g1 [[.int .u32 x0.Version],[u0_0],[u0_1],[.int .u32 x0.Time]] 151] w) ?_ ?_
 ·have H:=bI hz3
  refine w_seq fun _ hN3=>w_reg<|sta hA rfl rfl fun a hA=>?_
  refine o_nil<|hN3 _ _<|w_block ?_
  obtain ⟨z1,hz4,Hk2⟩:=bind_some H
  obtain ⟨n1,hn1⟩:=loopO_some hz4
  refine w_loop (fun n a w=>∃(s1:List Int)(s2:Int)(vvs1:Value)(ccs1:List Value),loopN (q1_TxBytes.s0 x0) n (s1,s2)=some z1∧Els (RI .u8) 1 s1 ccs1∧InR .i64 s2∧Fr a 81 [(1,pt g1 0),(2,Sn),(3,vvs1),(4,.int .i64 s2)]∧Iv w0 [] μ μ [row 5 1 vvs1 s1.length ccs1,cel g1 [[.int .u32 x0.Version],[u0_0],[u0_1],[.int .u32 x0.Time]] 151] w) n1 ⟨r2,0,v2,cs2,hn1,hE2,(in_lit .i64 0 rfl),hA.sub ⟨rfl,rfl,rfl,rfl,trivial⟩,hI⟩ ?_
  clear hA hI
  rintro n a w ⟨s1,s2,vvs1,ccs1,hn1,ws1,ws2,hA,hI⟩
  obtain ⟨m1,rfl,H⟩:=loopN_bind hn1
  clear hn1
  refine w_seq fun _ hN4=>w_seq fun _ hN5=>w_reg<|stm hA rfl rfl fun a hA =>
   stp hA (r_fd (k:=1) U151 rfl sz148 hA rfl rfl) rfl fun a hA =>
   stp hA (r_ld1 (j:=1) [[.int .u32 x0.Version]] [[u0_1],[.int .u32 x0.Time]] U148 rfl hI rfl hA rfl rfl) rfl fun a hA=>?_
  obtain ⟨_,hsl2⟩:=Slc.sv hx0.2.1
  refine stp hA (r_slen U148 hsl2 hA rfl) rfl fun a hA =>
   stp hA (r_lss hA rfl rfl) rfl fun a hA=>?_
  refine o_nil<|hN5 _ _<|w_cond hA rfl (fun hc1=>?_) (fun hc1=>?_)
  ·obtain ⟨hc1,H⟩:=dT H hc1
   refine w_skip<|hN4 _ _<|w_seq fun _ hN6=>w_block<|w_seq fun _ hN7=>w_reg<|stp hA (r_fd (k:=1) U151 rfl sz148 hA rfl rfl) rfl fun a hA =>
    stp hA (r_ld1 (j:=1) [[.int .u32 x0.Version]] [[u0_1],[.int .u32 x0.Time]] U148 rfl hI rfl hA rfl rfl) rfl fun a hA =>
    stm hA rfl rfl fun a hA=>?_
   obtain ⟨hb1,H⟩:=bG H
   obtain ⟨_,he1,_,hat1⟩:=Slc.elem hx0.2.1 (getD_some default hb1.1 hb1.2)
   obtain ⟨v3,rfl,hw1⟩:=he1
   obtain ⟨_,hsl3⟩:=Slc.sv hx0.2.1
   refine stp hA (r_six U148 sz220 hsl3 hA rfl rfl hb1.1 hb1.2) rfl fun a hA =>
    stp hA (r_ldmA [] [av .u8 32 ((x0.Ins.getD s2.toNat default).From.Tx),[.int .u32 ((x0.Ins.getD s2.toNat default).From.N)],[v3],[.int .u32 ((x0.Ins.getD s2.toNat default).Seq)]] [] U220 rfl sz220 rfl hI.agr hat1 hA rfl rfl) rfl fun a hA =>
    o_new [av .u8 32 Z32,[.int .u32 0],[Sn],[.int .u32 0]] zr220 hI hA rfl fun g2 a w hA hI hg2=>?_
   obtain ⟨_,hsl4⟩:=Slc.sv hw1.2.2.1
   refine o_st (j:=0) [] [av .u8 32 Z32,[.int .u32 0],[Sn],[.int .u32 0]] [av .u8 32 ((x0.Ins.getD s2.toNat default).From.Tx),[.int .u32 ((x0.Ins.getD s2.toNat default).From.N)],[v3],[.int .u32 ((x0.Ins.getD s2.toNat default).Seq)]] [] sz220 rfl rfl (fl_cons (one_av _ _ _) (fl_cons (oneC rfl) (fl_cons (oneC (one_sl hsl4)) (fl_cons (oneC rfl) fl_nil)))) hI rfl hA rfl rfl rfl rfl fun w hI=>?_
   refine o_nil<|hN7 _ _<|w_seq fun _ hN8=>w_reg<|stm hA rfl rfl fun a hA =>
    stp hA (r_fd (k:=0) U220 rfl sz218 hA rfl rfl) rfl fun a hA =>
    stp hA (r_fd (k:=0) U218 rfl sz25 hA rfl rfl) rfl fun a hA =>
    stp hA (r_slv (i:=0) (j:=32) U25 sz5 hA rfl rfl rfl (by decide) (by decide) (by decide) (by decide) rfl) rfl fun a hA=>?_
   have hE3:=els_av hw1.1
   obtain ⟨hb2,H⟩:=bG H
   have hE4:=ws1.app hE3
   refine o_appG (xs:=(s1:List Int)) (ys:=((x0.Ins.getD s2.toNat default).From.Tx:List Int)) (M:=140737488355328) 1 te5 U122 hI rfl hA rfl rfl (by simpa using src_cel [] [[.int .u32 ((x0.Ins.getD s2.toNat default).From.N)],[v3],[.int .u32 ((x0.Ins.getD s2.toNat default).Seq)]] hI (j:=0) rfl hw1.1 rfl) hE3.len (hE3.ones (one_RI _)) hb2 rfl fun v4 a w hA hI =>
    sta hA rfl rfl fun a hA=>?_
   refine o_nil<|hN8 _ _<|w_seq fun _ hN9=>?_
   refine w_anyS [] mo (fun w (h:Iv w0 [] μ μ [cel g2 [av .u8 32 ((x0.Ins.getD s2.toNat default).From.Tx),[.int .u32 ((x0.Ins.getD s2.toNat default).From.N)],[v3],[.int .u32 ((x0.Ins.getD s2.toNat default).Seq)]] 220,row 5 1 v4 (s1++((x0.Ins.getD s2.toNat default).From.Tx)).length (ccs1++([av .u8 32 ((x0.Ins.getD s2.toNat default).From.Tx)].flatten)),cel g1 [[.int .u32 x0.Version],[u0_0],[u0_1],[.int .u32 x0.Time]] 151] w)=>(h.sl [0,2] rfl:Iv w0 [] μ μ [cel g2 [av .u8 32 ((x0.Ins.getD s2.toNat default).From.Tx),[.int .u32 ((x0.Ins.getD s2.toNat default).From.N)],[v3],[.int .u32 ((x0.Ins.getD s2.toNat default).Seq)]] 220,cel g1 [[.int .u32 x0.Version],[u0_0],[u0_1],[.int .u32 x0.Time]] 151] w)) hI fun w hI=>?_
   refine gE 0 hA rfl (.inr (hI.sl [0,2] rfl)) (fun _=>r_mv hA rfl) fun a hA=>?_
   refine gE 1 hA rfl (.inr (hI.sl [0,2] rfl)) (fun _=>r_fd (k:=0) U220 rfl sz218 hA rfl rfl) fun a hA=>?_
   refine gE 2 hA rfl (.inr (hI.sl [0,2] rfl)) (fun _=>r_fd (k:=32) U218 rfl sz23 hA rfl rfl) fun a hA=>?_
   refine gT 3 hA rfl (hI.sl [0,2] rfl) (fun w hI=>r_ld1 (j:=0) [av .u8 32 ((x0.Ins.getD s2.toNat default).From.Tx)] [[v3],[.int .u32 ((x0.Ins.getD s2.toNat default).Seq)]] U23 rfl hI rfl hA rfl rfl) fun a hA=>?_
   refine gE 5 hA rfl (.inr (hI.sl [0,2] rfl)) (fun _=>r_fd (k:=33) U220 rfl sz122 hA rfl rfl) fun a hA=>?_
   refine gT 6 hA rfl (hI.sl [0,2] rfl) (fun w hI=>r_ld1 (j:=0) [av .u8 32 ((x0.Ins.getD s2.toNat default).From.Tx),[.int .u32 ((x0.Ins.getD s2.toNat default).From.N)]] [[.int .u32 ((x0.Ins.getD s2.toNat default).Seq)]] U122 rfl hI rfl hA rfl rfl) fun a hA=>?_
   obtain ⟨_,hsl5⟩:=Slc.sv hw1.2.2.1
   refine gE 7 hA rfl (.inr (hI.sl [0,2] rfl)) (fun _=>r_slen U122 hsl5 hA rfl) fun a hA=>?_
   refine gE 8 hA rfl (.inr (hI.sl [0,2] rfl)) (fun _=>r_conv U3 U45 hA rfl) fun a hA=>?_
   refine gF 4 rfl ?_
   obtain ⟨r3,hr3,H⟩:=bB H
   refine o_call _ cf91 hA rfl (q1_Four.c μ _ hI.agr (s1++((x0.Ins.getD s2.toNat default).From.Tx)) v4 (ccs1++([av .u8 32 ((x0.Ins.getD s2.toNat default).From.Tx)].flatten)) hE4 (hI.item (j:=1) rfl) ((x0.Ins.getD s2.toNat default).From.N) hw1.2.1 r3 hr3) rfl fun v5 a w hz5 hA=>?_
   obtain ⟨_,cs5,rfl,hE5,hi3⟩:=hz5
   have hI:=hI.call1 1 rfl hi3
   refine o_nil<|⟨(.inr (hI.sl [1,2] rfl)),?_⟩
   refine gF 9 rfl ?_
   obtain ⟨r4,hr4,H⟩:=bB H
   refine o_call _ cf149 hA rfl (q1_Put.c μ _ hI.agr r3 v5 cs5 hE5 (hI.item (j:=0) rfl) (IntKind.u64.wrap (((x0.Ins.getD s2.toNat default).Key).length:Int)) (wrap_in _ _) r4 hr4) rfl fun v6 a w hz6 hA=>?_
   obtain ⟨_,cs6,rfl,hE6,hi4⟩:=hz6
   have hI:=hI.call1 0 rfl hi4
   refine o_nil<|⟨(.inr (hI.sl [1,2] rfl)),?_⟩
   refine gE 10 hA rfl (.inr (hI.sl [1,2] rfl)) (fun _=>r_as hA rfl) fun a hA=>?_
   refine gN<|hN9 _ _ ?_
   refine w_anyS [] mo (fun w (h:Iv w0 [] μ μ [row 5 1 v6 r4.length cs6,cel g2 [av .u8 32 ((x0.Ins.getD s2.toNat default).From.Tx),[.int .u32 ((x0.Ins.getD s2.toNat default).From.N)],[v3],[.int .u32 ((x0.Ins.getD s2.toNat default).Seq)]] 220,cel g1 [[.int .u32 x0.Version],[u0_0],[u0_1],[.int .u32 x0.Time]] 151] w)=>(h.sl [1,2] rfl:Iv w0 [] μ μ [cel g2 [av .u8 32 ((x0.Ins.getD s2.toNat default).From.Tx),[.int .u32 ((x0.Ins.getD s2.toNat default).From.N)],[v3],[.int .u32 ((x0.Ins.getD s2.toNat default).Seq)]] 220,cel g1 [[.int .u32 x0.Version],[u0_0],[u0_1],[.int .u32 x0.Time]] 151] w)) hI fun w hI=>?_
   refine gE 0 hA rfl (.inr (hI.sl [1,2] rfl)) (fun _=>r_mv hA rfl) fun a hA=>?_
   refine gE 1 hA rfl (.inr (hI.sl [1,2] rfl)) (fun _=>r_fd (k:=33) U220 rfl sz122 hA rfl rfl) fun a hA=>?_
   refine gT 2 hA rfl (hI.sl [1,2] rfl) (fun w hI=>r_ld1 (j:=0) [av .u8 32 ((x0.Ins.getD s2.toNat default).From.Tx),[.int .u32 ((x0.Ins.getD s2.toNat default).From.N)]] [[.int .u32 ((x0.Ins.getD s2.toNat default).Seq)]] U122 rfl hI rfl hA rfl rfl) fun a hA=>?_
   refine gE 4 hA rfl (.inr (hI.sl [1,2] rfl)) (fun _=>r_fd (k:=34) U220 rfl sz23 hA rfl rfl) fun a hA=>?_
   refine gT 5 hA rfl (hI.sl [1,2] rfl) (fun w hI=>r_ld1 (j:=0) [av .u8 32 ((x0.Ins.getD s2.toNat default).From.Tx),[.int .u32 ((x0.Ins.getD s2.toNat default).From.N)],[v3]] [] U23 rfl hI rfl hA rfl rfl) fun a hA=>?_
   refine gF 3 rfl ?_
   obtain ⟨cs7,hE7,hsv2⟩:Slc (RI .u8) 1 μ v3 ((x0.Ins.getD s2.toNat default).Key):=id (hw1.2.2.1)
   obtain ⟨hb3,H⟩:=bG H
   have hE8:=hE6.app hE7
   refine o_appG (xs:=(r4:List Int)) (ys:=((x0.Ins.getD s2.toNat default).Key:List Int)) (M:=140737488355328) 0 te5 U122 hI rfl hA rfl rfl (src_sl hI.agr hsv2 hE7.len) hE7.len (hE7.ones (one_RI _)) hb3 rfl fun v7 a w hA hI=>?_
   refine o_nil<|⟨(.inr (hI.sl [1,2] rfl)),?_⟩
   refine gF 6 rfl ?_
   obtain ⟨r5,hr5,H⟩:=bB H
   refine o_call _ cf91 hA rfl (q1_Four.c μ _ hI.agr (r4++((x0.Ins.getD s2.toNat default).Key)) v7 (cs6++cs7) hE8 (hI.item (j:=0) rfl) ((x0.Ins.getD s2.toNat default).Seq) hw1.2.2.2 r5 hr5) rfl fun v8 a w hz7 hA=>?_
   obtain ⟨_,cs9,rfl,hE9,hi5⟩:=hz7
   have hI:=hI.call1 0 rfl hi5
   refine o_nil<|⟨(.inr (hI.sl [1,2] rfl)),?_⟩
   refine gE 7 hA rfl (.inr (hI.sl [1,2] rfl)) (fun _=>r_as hA rfl) fun a hA=>?_
   refine gN<|hN6 _ _<|w_reg<|stm hA rfl rfl fun a hA =>
    stp hA (r_add hA rfl rfl) rfl fun a hA =>
    sta hA rfl rfl fun a hA=>?_
   refine o_nil<|⟨m1,lS _,r5,IntKind.i64.wrap (s2+1),v8,cs9,H,hE9,(wrap_in _ _),hA.sub ⟨rfl,rfl,rfl,rfl,trivial⟩,(hI.sl [0,2] rfl)⟩
  ·obtain ⟨hc1,H⟩:=dF H hc1
   refine w_exit rfl ?_
   have H:some s1=some z1:=H
   obtain rfl:=sI H
   have H:=Hk2
   cases sJ H
   exact ⟨vvs1,ccs1,ws1,hA.sub ⟨rfl,rfl,rfl,trivial⟩,hI⟩
 ·rintro a w ⟨vvc1,ccc1,wc1,hA,hI⟩
  have H:=Hk1
  refine w_seq fun _ hN10=>w_reg<|stm hA rfl rfl fun a hA =>
   stp hA (r_fd (k:=2) U151 rfl sz149 hA rfl rfl) rfl fun a hA =>
   stp hA (r_ld1 (j:=1) [[.int .u32 x0.Version],[u0_0]] [[.int .u32 x0.Time]] U149 rfl hI rfl hA rfl rfl) rfl fun a hA=>?_
  obtain ⟨_,hsl6⟩:=Slc.sv hx0.2.2.1
  refine stp hA (r_slen U149 hsl6 hA rfl) rfl fun a hA =>
   stp hA (r_conv U3 U45 hA rfl) rfl fun a hA=>?_
  obtain ⟨r6,hr6,H⟩:=bB H
  refine o_call _ cf149 hA rfl (q1_Put.c μ _ hI.agr c1 vvc1 ccc1 wc1 (hI.item (j:=0) rfl) (IntKind.u64.wrap (x0.Outs.length:Int)) (wrap_in _ _) r6 hr6) rfl fun v9 a w hz8 hA=>?_
  obtain ⟨_,cs10,rfl,hE10,hi6⟩:=hz8
  have hI:=hI.call1 0 rfl hi6
  refine sta hA rfl rfl fun a hA=>?_
  refine o_nil<|hN10 _ _ ?_
  obtain ⟨c2,hz9,Hk3⟩:=bB H
  refine w_cut (fun a w=>∃(vvc2:Value)(ccc2:List Value),Els (RI .u8) 1 c2 ccc2∧Fr a 81 [(1,pt g1 0),(2,Sn),(3,vvc2)]∧Iv w0 [] μ μ [row 5 1 vvc2 c2.length ccc2,cel g1 [[.int .u32 x0.Version],[u0_0],[u0_1],[.int .u32 x0.Time]] 151] w) ?_ ?_
  ·have H:=bI hz9
   refine w_seq fun _ hN11=>w_reg<|sta hA rfl rfl fun a hA=>?_
   refine o_nil<|hN11 _ _<|w_block ?_
   obtain ⟨z2,hz10,Hk4⟩:=bind_some H
   obtain ⟨n2,hn2⟩:=loopO_some hz10
   refine w_loop (fun n a w=>∃(s3:List Int)(s4:Int)(vvs3:Value)(ccs3:List Value),loopN (q1_TxBytes.s1 x0) n (s3,s4)=some z2∧Els (RI .u8) 1 s3 ccs3∧InR .i64 s4∧Fr a 81 [(1,pt g1 0),(2,Sn),(3,vvs3),(6,.int .i64 s4)]∧Iv w0 [] μ μ [row 5 1 vvs3 s3.length ccs3,cel g1 [[.int .u32 x0.Version],[u0_0],[u0_1],[.int .u32 x0.Time]] 151] w) n2 ⟨r6,0,v9,cs10,hn2,hE10,(in_lit .i64 0 rfl),hA.sub ⟨rfl,rfl,rfl,rfl,trivial⟩,hI⟩ ?_
   clear hA hI
   rintro n a w ⟨s3,s4,vvs3,ccs3,hn2,ws3,ws4,hA,hI⟩
   obtain ⟨m2,rfl,H⟩:=loopN_bind hn2
   clear hn2
   refine w_seq fun _ hN12=>w_seq fun _ hN13=>w_reg<|stm hA rfl rfl fun a hA =>
    stp hA (r_fd (k:=2) U151 rfl sz149 hA rfl rfl) rfl fun a hA =>
    stp hA (r_ld1 (j:=1) [[.int .u32 x0.Version],[u0_0]] [[.int .u32 x0.Time]] U149 rfl hI rfl hA rfl rfl) rfl fun a hA=>?_
   obtain ⟨_,hsl7⟩:=Slc.sv hx0.2.2.1
   refine stp hA (r_slen U149 hsl7 hA rfl) rfl fun a hA =>
    stp hA (r_lss hA rfl rfl) rfl fun a hA=>?_
   refine o_nil<|hN13 _ _<|w_cond hA rfl (fun hc2=>?_) (fun hc2=>?_)
   ·obtain ⟨hc2,H⟩:=dT H hc2
    refine w_skip<|hN12 _ _<|w_seq fun _ hN14=>w_block ?_
    refine w_anyS [] mo (fun w (h:Iv w0 [] μ μ [row 5 1 vvs3 s3.length ccs3,cel g1 [[.int .u32 x0.Version],[u0_0],[u0_1],[.int .u32 x0.Time]] 151] w)=>(h.sl [1] rfl:Iv w0 [] μ μ [cel g1 [[.int .u32 x0.Version],[u0_0],[u0_1],[.int .u32 x0.Time]] 151] w)) hI fun w hI=>?_
    refine gE 0 hA rfl (.inr (hI.sl [1] rfl)) (fun _=>r_mv hA rfl) fun a hA=>?_
    refine gE 1 hA rfl (.inr (hI.sl [1] rfl)) (fun _=>r_fd (k:=2) U151 rfl sz149 hA rfl rfl) fun a hA=>?_
    refine gT 2 hA rfl (hI.sl [1] rfl) (fun w hI=>r_ld1 (j:=0) [[.int .u32 x0.Version],[u0_0]] [[.int .u32 x0.Time]] U149 rfl hI rfl hA rfl rfl) fun a hA=>?_
    refine gE 3 hA rfl (.inr (hI.sl [1] rfl)) (fun _=>r_mv hA rfl) fun a hA=>?_
    obtain ⟨hb4,H⟩:=bG H
    obtain ⟨_,he2,_,hat2⟩:=Slc.elem hx0.2.2.1 (getD_some default hb4.1 hb4.2)
    obtain ⟨rfl,hw2⟩:=he2
    obtain ⟨_,hsl8⟩:=Slc.sv hx0.2.2.1
    refine gE 4 hA rfl (.inr (hI.sl [1] rfl)) (fun _=>r_six U149 sz223 hsl8 hA rfl rfl hb4.1 hb4.2) fun a hA=>?_
    refine gE 5 hA rfl (.inr (hI.sl [1] rfl)) (fun _=>r_fd (k:=so u0_1+s4.toNat * 33) U223 rfl sz45 hA rfl rfl) fun a hA=>?_
    refine gT 6 hA rfl (hI.sl [1] rfl) (fun w hI=>r_ldm1 [] [av .u8 32 ((x0.Outs.getD s4.toNat default).Lock)] U45 rfl hI.agr hat2 hA rfl rfl) fun a hA=>?_
    refine gE 8 hA rfl (.inr (hI.sl [1] rfl)) (fun _=>r_fd (k:=2) U151 rfl sz149 hA rfl rfl) fun a hA=>?_
    refine gT 9 hA rfl (hI.sl [1] rfl) (fun w hI=>r_ld1 (j:=0) [[.int .u32 x0.Version],[u0_0]] [[.int .u32 x0.Time]] U149 rfl hI rfl hA rfl rfl) fun a hA=>?_
    refine gE 10 hA rfl (.inr (hI.sl [1] rfl)) (fun _=>r_mv hA rfl) fun a hA=>?_
    refine gE 11 hA rfl (.inr (hI.sl [1] rfl)) (fun _=>r_six U149 sz223 hsl8 hA rfl rfl hb4.1 hb4.2) fun a hA=>?_
    refine gE 12 hA rfl (.inr (hI.sl [1] rfl)) (fun _=>r_fd (k:=so u0_1+s4.toNat * 33+1) U223 rfl sz25 hA rfl rfl) fun a hA=>?_
    obtain ⟨v10,hS1,hr7⟩:=r_sla (b:=0) (P:=Tryz.prog) (t:=25) (x:=.tmp 74) (l:=none) (h:=none) (i:=0) (j:=32) U25 sz5 (at_in [[.int .u64 ((x0.Outs.getD s4.toNat default).Value)]] [av .u8 32 ((x0.Outs.getD s4.toNat default).Lock)] [] hat2 rfl) hw2.2 (by decide) hA rfl rfl rfl (by omega) (by omega) (by omega)
    refine gE 13 hA rfl (.inr (hI.sl [1] rfl)) (fun _=>hr7 _ _ _ _ _ _) fun a hA=>?_
    refine gF 7 rfl ?_
    obtain ⟨r7,hr8,H⟩:=bB H
    refine o_call _ cf150 hA rfl (q1_Eight.c μ _ hI.agr s3 vvs3 ccs3 ws3 (hI.item (j:=0) rfl) ((x0.Outs.getD s4.toNat default).Value) hw2.1 r7 hr8) rfl fun v11 a w hz11 hA=>?_
    obtain ⟨_,cs11,rfl,hE11,hi7⟩:=hz11
    have hI:=hI.call1 0 rfl hi7
    refine o_nil<|⟨(.inr (hI.sl [1] rfl)),?_⟩
    refine gF 14 rfl ?_
    obtain ⟨cs12,hE12,hsv3⟩:Slc (RI .u8) 1 μ v10 ((((x0.Outs.getD s4.toNat default).Lock).take (32:Int).toNat).drop (0:Int).toNat):=id (hS1)
    obtain ⟨hb5,H⟩:=bG H
    have hE13:=hE11.app hE12
    refine o_appG (xs:=(r7:List Int)) (ys:=((((x0.Outs.getD s4.toNat default).Lock).take (32:Int).toNat).drop (0:Int).toNat:List Int)) (M:=140737488355328) 0 te5 U122 hI rfl hA rfl rfl (src_sl hI.agr hsv3 hE12.len) hE12.len (hE12.ones (one_RI _)) hb5 rfl fun v12 a w hA hI=>?_
    refine o_nil<|⟨(.inr (hI.sl [1] rfl)),?_⟩
    refine gE 15 hA rfl (.inr (hI.sl [1] rfl)) (fun _=>r_as hA rfl) fun a hA=>?_
    refine gN<|hN14 _ _<|w_reg<|stm hA rfl rfl fun a hA =>
     stp hA (r_add hA rfl rfl) rfl fun a hA =>
     sta hA rfl rfl fun a hA=>?_
    refine o_nil<|⟨m2,lS _,r7++((((x0.Outs.getD s4.toNat default).Lock).take (32:Int).toNat).drop (0:Int).toNat),IntKind.i64.wrap (s4+1),v12,cs11++cs12,H,hE13,(wrap_in _ _),hA.sub ⟨rfl,rfl,rfl,rfl,trivial⟩,hI⟩
   ·obtain ⟨hc2,H⟩:=dF H hc2
    refine w_exit rfl ?_
    have H:some s3=some z2:=H
    obtain rfl:=sI H
    have H:=Hk4
    cases sJ H
    exact ⟨vvs3,ccs3,ws3,hA.sub ⟨rfl,rfl,rfl,trivial⟩,hI⟩
  ·rintro a w ⟨vvc2,ccc2,wc2,hA,hI⟩
   have H:=Hk3
   refine w_seq fun _ hN15=>w_reg<|stm hA rfl rfl fun a hA =>
    stp hA (r_fd (k:=3) U151 rfl sz23 hA rfl rfl) rfl fun a hA =>
    stp hA (r_ld1 (j:=1) [[.int .u32 x0.Version],[u0_0],[u0_1]] [] U23 rfl hI rfl hA rfl rfl) rfl fun a hA=>?_
   obtain ⟨r8,hr9,H⟩:=bB H
   refine o_call _ cf91 hA rfl (q1_Four.c μ _ hI.agr c2 vvc2 ccc2 wc2 (hI.item (j:=0) rfl) x0.Time hx0.2.2.2 r8 hr9) rfl fun v13 a w hz12 hA=>?_
   obtain ⟨_,cs14,rfl,hE14,hi8⟩:=hz12
   have hI:=hI.call1 0 rfl hi8
   refine sta hA rfl rfl fun a hA=>?_
   refine o_nil<|hN15 _ _<|w_ret ?_
   obtain rfl:=sJ H
   exact ret1 hA Tryz.results100 rfl ⟨_,rfl,v13,cs14,rfl,hE14,((hI.sl [0] rfl).less (Store.le.refl _) hI.le)⟩
theorem q1_ID.c (μ:Store)(w0:World)(hμ:Agr μ w0)(x0:Tx)(u0_0 u0_1:Value)(hx0:TxW μ x0 u0_0 u0_1)(r:List Int)(H:q1_ID.f x0=some r) :
  Calls Tryz.prog 73 [.agg [[.int .u32 x0.Version],[u0_0],[u0_1],[.int .u32 x0.Time]].flatten.toArray].toArray w0 (fun e w'=>∃ v,e=.returned v∧v=.agg [av .u8 32 r].flatten.toArray∧Arr .u8 32 r∧Iv w0 [] μ μ [] w'):=by
 refine enter Tryz.func73 rfl Tryz.ntmps73 rfl fun a hA=>?_
 have hI:=Iv.start hμ
 have H:=bI H
 refine w_seq fun _ hN1=>w_reg<|o_box [[.int .u32 x0.Version],[u0_0],[u0_1],[.int .u32 x0.Time]] hI hA rfl rfl rfl fun g1 a w hA hI hg1 =>
  o_new [av .u8 32 Z32] zr25 hI hA rfl fun g2 a w hA hI hg2=>?_
 refine o_nil<|hN1 _ _<|w_seq fun _ hN2=>w_reg<|stp hA (r_ldA (j:=1) [] [[.int .u32 x0.Version],[u0_0],[u0_1],[.int .u32 x0.Time]] [] U151 rfl sz151 rfl hI rfl hA rfl rfl) rfl fun a hA=>?_
 obtain ⟨r1,hr1,H⟩:=bB H
 refine o_call _ cf100 hA rfl (q1_TxBytes.c μ _ hI.agr x0 u0_0 u0_1 ⟨hx0.1,hx0.2.1,hx0.2.2.1,hx0.2.2.2⟩ r1 hr1) rfl fun v1 a w hz1 hA=>?_
 obtain ⟨_,cs1,rfl,hE1,hi1⟩:=hz1
 have hI:=hI.call hi1
 obtain ⟨r2,hr2,H⟩:=bB H
 refine o_callp (u:=.agg [av .u8 32 r2].flatten.toArray) cf54 hA rfl hI ((by obtain ⟨μ1,hle1,hsv1,hI⟩:=hI.freezeRow 0 rfl;have hS1:Slc (RI .u8) 1 μ1 v1 r1:=⟨_,hE1,hsv1⟩;exact low_plain hle1 (q1_Twice.c μ1 _ hI.agr r1 v1 hS1 r2 hr2))) rfl fun a w hz2 hI hA =>
  o_st (j:=1) [] [av .u8 32 Z32] [av .u8 32 r2] [] sz25 rfl rfl (fl_cons (one_av _ _ _) fl_nil) hI rfl hA rfl rfl rfl rfl fun w hI=>?_
 refine o_nil<|hN2 _ _<|w_ret ?_
 obtain rfl:=sJ H
 exact retc U25 rfl sz25 rfl hI (j:=1) rfl hA Tryz.results73 rfl ⟨_,rfl,rfl,hz2,hI.forget0⟩
theorem q1_IDs.c (μ:Store)(w0:World)(hμ:Agr μ w0)(x0:List Tx)(u0:Value)(hx0:Slc (RTx μ) 4 μ u0 x0)(r:List (List Int))(H:q1_IDs.f x0=some r) :
  Calls Tryz.prog 71 [u0].toArray w0 (fun e w'=>∃ v,e=.returned v∧∃(v0:Value)(c0:List Value),v=v0∧Els (RA .u8 32) 32 r c0∧Iv w0 [] μ μ [row 25 32 v0 r.length c0] w'):=by
 refine enter Tryz.func71 rfl Tryz.ntmps71 rfl fun a hA=>?_
 have hI:=Iv.start hμ
 have H:=bI H
 refine w_seq fun _ hN1=>w_reg<|sta hA rfl rfl fun a hA=>?_
 refine o_nil<|hN1 _ _<|w_seq fun _ hN2=>w_reg<|sta hA rfl rfl fun a hA=>?_
 refine o_nil<|hN2 _ _ ?_
 obtain ⟨c1,hz1,Hk1⟩:=bB H
 refine w_cut (fun a w=>∃(vvc1:Value)(ccc1:List Value),Els (RA .u8 32) 32 c1 ccc1∧Fr a 20 [(2,Sn),(3,vvc1)]∧Iv w0 [] μ μ [row 25 32 vvc1 c1.length ccc1] w) ?_ ?_
 ·have H:=bI hz1
  refine w_seq fun _ hN3=>w_reg<|sta hA rfl rfl fun a hA=>?_
  refine o_nil<|hN3 _ _<|w_block ?_
  have hI:=hI.nilRow 25 32
  obtain ⟨z1,hz2,Hk2⟩:=bind_some H
  obtain ⟨n1,hn1⟩:=loopO_some hz2
  refine w_loop (fun n a w=>∃(s1:List (List Int))(s2:Int)(vvs1:Value)(ccs1:List Value),loopN (q1_IDs.s0 x0) n (s1,s2)=some z1∧Els (RA .u8 32) 32 s1 ccs1∧InR .i64 s2∧Fr a 20 [(0,u0),(2,Sn),(3,vvs1),(4,.int .i64 s2)]∧Iv w0 [] μ μ [row 25 32 vvs1 s1.length ccs1] w) n1 ⟨([]:List (List Int)),0,Sn,[],hn1,(Els.nil (RE:=(RA .u8 32)) (sz:=32)),(in_lit .i64 0 rfl),hA.sub ⟨rfl,rfl,rfl,rfl,trivial⟩,hI⟩ ?_
  clear hA hI
  rintro n a w ⟨s1,s2,vvs1,ccs1,hn1,ws1,ws2,hA,hI⟩
  obtain ⟨m1,rfl,H⟩:=loopN_bind hn1
  clear hn1
  refine w_seq fun _ hN4=>w_seq fun _ hN5=>w_reg<|stm hA rfl rfl fun a hA =>
   stm hA rfl rfl fun a hA=>?_
  obtain ⟨_,hsl1⟩:=Slc.sv hx0
  refine stp hA (r_slen U81 hsl1 hA rfl) rfl fun a hA =>
   stp hA (r_lss hA rfl rfl) rfl fun a hA=>?_
  refine o_nil<|hN5 _ _<|w_cond hA rfl (fun hc1=>?_) (fun hc1=>?_)
  ·obtain ⟨hc1,H⟩:=dT H hc1
   refine w_skip<|hN4 _ _<|w_seq fun _ hN6=>w_block<|w_reg<|stm hA rfl rfl fun a hA =>
    stm hA rfl rfl fun a hA =>
    stm hA rfl rfl fun a hA=>?_
   obtain ⟨hb1,H⟩:=bG H
   obtain ⟨_,he1,_,hat1⟩:=Slc.elem hx0 (getD_some default hb1.1 hb1.2)
   obtain ⟨v1,v2,rfl,hw1⟩:=he1
   obtain ⟨_,hsl2⟩:=Slc.sv hx0
   refine stp hA (r_six U81 sz151 hsl2 hA rfl rfl hb1.1 hb1.2) rfl fun a hA =>
    stp hA (r_ldmA [] [[.int .u32 ((x0.getD s2.toNat default).Version)],[v1],[v2],[.int .u32 ((x0.getD s2.toNat default).Time)]] [] U151 rfl sz151 rfl hI.agr hat1 hA rfl rfl) rfl fun a hA=>?_
   obtain ⟨r1,hr1,H⟩:=bB H
   refine o_callp (u:=.agg [av .u8 32 r1].flatten.toArray) cf73 hA rfl hI (q1_ID.c μ _ hI.agr (x0.getD s2.toNat default) v1 v2 ⟨hw1.1,hw1.2.1,hw1.2.2.1,hw1.2.2.2⟩ r1 hr1) rfl fun a w hz3 hI hA=>?_
   have hE1:Els (RA .u8 32) 32 ([r1]:List (List Int)) _:=(Els.cons (c:=[av .u8 32 r1].flatten) ⟨rfl,hz3⟩ rfl Els.nil)
   refine o_bsl ([av .u8 32 r1].flatten++([])) te25 zr25 U42 hI hA rfl rfl rfl rfl (by kernel_rfl) rfl fun g1 a w hA hI=>?_
   generalize hcs:([av .u8 32 r1].flatten++([]):List Value)=cs1 at hE1 hI
   clear hcs
   obtain ⟨hb2,H⟩:=bG H
   have hE3:=ws1.app hE1
   refine o_appG (xs:=(s1:List (List Int))) (ys:=(([r1]:List (List Int)):List (List Int))) (M:=4398046511104) 1 te25 U42 hI rfl hA rfl rfl (src_row hI (j:=0) rfl) hE1.len (hE1.ones (one_RA _ _)) hb2 rfl fun v3 a w hA hI =>
    sta hA rfl rfl fun a hA=>?_
   refine o_nil<|hN6 _ _<|w_reg<|stm hA rfl rfl fun a hA =>
    stp hA (r_add hA rfl rfl) rfl fun a hA =>
    sta hA rfl rfl fun a hA=>?_
   refine o_nil<|⟨m1,lS _,s1++([r1]:List (List Int)),IntKind.i64.wrap (s2+1),v3,ccs1++cs1,H,hE3,(wrap_in _ _),hA.sub ⟨rfl,rfl,rfl,rfl,trivial⟩,(hI.sl [1] rfl)⟩
  ·obtain ⟨hc1,H⟩:=dF H hc1
   refine w_exit rfl ?_
   have H:some s1=some z1:=H
   obtain rfl:=sI H
   have H:=Hk2
   cases sJ H
   exact ⟨vvs1,ccs1,ws1,hA.sub ⟨rfl,rfl,trivial⟩,hI⟩
 ·rintro a w ⟨vvc1,ccc1,wc1,hA,hI⟩
  have H:=Hk1
  refine w_seq fun _ hN7=>w_reg<|stm hA rfl rfl fun a hA =>
   sta hA rfl rfl fun a hA=>?_
  refine o_nil<|hN7 _ _<|w_ret ?_
  obtain rfl:=sJ H
  exact ret1 hA Tryz.results71 rfl ⟨_,rfl,vvc1,ccc1,rfl,wc1,(hI.less (Store.le.refl _) hI.le)⟩
theorem q1_Rooted.c (μ:Store)(w0:World)(hμ:Agr μ w0)(x0:Block)(u0_0:Value)(hx0:BlockW μ x0 u0_0)(r:Block)(H:q1_Rooted.f x0=some r) :
  Calls Tryz.prog 84 [.agg [[.int .u32 x0.Head.Version],av .u8 32 x0.Head.Prev,av .u8 32 x0.Head.Root,[.int .u32 x0.Head.Time],[.int .u32 x0.Head.Work],[.int .u32 x0.Head.Nonce],[u0_0]].flatten.toArray].toArray w0 (fun e w'=>∃ v,e=.returned v∧∃(v0_0:Value)(μ':Store),v=.agg [[.int .u32 r.Head.Version],av .u8 32 r.Head.Prev,av .u8 32 r.Head.Root,[.int .u32 r.Head.Time],[.int .u32 r.Head.Work],[.int .u32 r.Head.Nonce],[v0_0]].flatten.toArray∧BlockW μ' r v0_0∧Iv w0 [] μ μ' [] w'):=by
 refine enter Tryz.func84 rfl Tryz.ntmps84 rfl fun a hA=>?_
 have hI:=Iv.start hμ
 have H:=bI H
 refine w_seq fun _ hN1=>w_reg<|o_box [[.int .u32 x0.Head.Version],av .u8 32 x0.Head.Prev,av .u8 32 x0.Head.Root,[.int .u32 x0.Head.Time],[.int .u32 x0.Head.Work],[.int .u32 x0.Head.Nonce],[u0_0]] hI hA rfl rfl rfl fun g1 a w hA hI hg1 =>
  o_new [[.int .u32 0],av .u8 32 Z32,av .u8 32 Z32,[.int .u32 0],[.int .u32 0],[.int .u32 0],[Sn]] zr89 hI hA rfl fun g2 a w hA hI hg2=>?_
 refine o_nil<|hN1 _ _<|w_seq fun _ hN2=>w_reg<|stp hA (r_fd (k:=68) U89 rfl sz81 hA rfl rfl) rfl fun a hA =>
  stp hA (r_ld1 (j:=1) [[.int .u32 x0.Head.Version],av .u8 32 x0.Head.Prev,av .u8 32 x0.Head.Root,[.int .u32 x0.Head.Time],[.int .u32 x0.Head.Work],[.int .u32 x0.Head.Nonce]] [] U81 rfl hI rfl hA rfl rfl) rfl fun a hA=>?_
 obtain ⟨r1,hr1,H⟩:=bB H
 refine o_call _ cf71 hA rfl (q1_IDs.c μ _ hI.agr x0.Txs u0_0 hx0.2.2.2.2.2.2 r1 hr1) rfl fun v1 a w hz1 hA=>?_
 obtain ⟨_,cs1,rfl,hE1,hi1⟩:=hz1
 have hI:=hI.call hi1
 obtain ⟨r2,hr2,H⟩:=bB H
 refine o_callp (u:=.agg [av .u8 32 r2].flatten.toArray) cf124 hA rfl hI ((by obtain ⟨μ1,hle1,hsv1,hI⟩:=hI.freezeRow 0 rfl;have hS1:Slc (RA .u8 32) 32 μ1 v1 r1:=⟨_,hE1,hsv1⟩;exact low_plain hle1 (q1_Root.c μ1 _ hI.agr r1 v1 hS1 r2 hr2))) rfl fun a w hz2 hI hA =>
  stp hA (r_fd (k:=0) U89 rfl sz27 hA rfl rfl) rfl fun a hA =>
  stp hA (r_fd (k:=33) U27 rfl sz25 hA rfl rfl) rfl fun a hA =>
  o_st (j:=2) [[.int .u32 x0.Head.Version],av .u8 32 x0.Head.Prev] [av .u8 32 x0.Head.Root] [av .u8 32 r2] [[.int .u32 x0.Head.Time],[.int .u32 x0.Head.Work],[.int .u32 x0.Head.Nonce],[u0_0]] sz25 rfl rfl (fl_cons (one_av _ _ _) fl_nil) hI rfl hA rfl rfl rfl rfl fun w hI=>?_
 refine o_nil<|hN2 _ _<|w_seq fun _ hN3=>w_reg<|stp hA (r_ldA (j:=2) [] [[.int .u32 x0.Head.Version],av .u8 32 x0.Head.Prev,av .u8 32 r2,[.int .u32 x0.Head.Time],[.int .u32 x0.Head.Work],[.int .u32 x0.Head.Nonce],[u0_0]] [] U89 rfl sz89 rfl hI rfl hA rfl rfl) rfl fun a hA=>?_
 obtain ⟨_,hsl1⟩:=Slc.sv hx0.2.2.2.2.2.2
 refine o_st (j:=1) [] [[.int .u32 0],av .u8 32 Z32,av .u8 32 Z32,[.int .u32 0],[.int .u32 0],[.int .u32 0],[Sn]] [[.int .u32 x0.Head.Version],av .u8 32 x0.Head.Prev,av .u8 32 r2,[.int .u32 x0.Head.Time],[.int .u32 x0.Head.Work],[.int .u32 x0.Head.Nonce],[u0_0]] [] sz89 rfl rfl (fl_cons (oneC rfl) (fl_cons (one_av _ _ _) (fl_cons (one_av _ _ _) (fl_cons (oneC rfl) (fl_cons (oneC rfl) (fl_cons (oneC rfl) (fl_cons (oneC (one_sl hsl1)) fl_nil))))))) hI rfl hA rfl rfl rfl rfl fun w hI=>?_
 refine o_nil<|hN3 _ _<|w_ret ?_
 obtain rfl:=sJ H
 exact retc U89 rfl sz89 rfl hI (j:=1) rfl hA Tryz.results84 rfl ⟨_,rfl,u0_0,μ,rfl,⟨hx0.1,hx0.2.1,hz2,hx0.2.2.2.1,hx0.2.2.2.2.1,hx0.2.2.2.2.2.1,hx0.2.2.2.2.2.2⟩,(hI.sl [] rfl)⟩
theorem q1_First.c (μ:Store)(w0:World)(hμ:Agr μ w0)(x0:Int)(hx0:InR .i64 x0)(x1:Int)(hx1:InR .u64 x1)(x2:List Int)(hx2:Arr .u8 32 x2)(x3:List Int)(u3:Value)(hx3:Slc (RI .u8) 1 μ u3 x3)(r:Tx)(H:q1_First.f x0 x1 x2 x3=some r) :
  Calls Tryz.prog 85 [.int .i64 x0,.int .u64 x1,.agg [av .u8 32 x2].flatten.toArray,u3].toArray w0 (fun e w'=>∃ v,e=.returned v∧∃(v0_0 v0_1:Value)(μ':Store),v=.agg [[.int .u32 r.Version],[v0_0],[v0_1],[.int .u32 r.Time]].flatten.toArray∧TxW μ' r v0_0 v0_1∧Iv w0 [] μ μ' [] w'):=by
 refine enter Tryz.func85 rfl Tryz.ntmps85 rfl fun a hA=>?_
 have hI:=Iv.start hμ
 have H:=bI H
 refine w_seq fun _ hN1=>w_reg<|o_box [av .u8 32 x2] hI hA rfl rfl rfl fun g1 a w hA hI hg1 =>
  o_new [[.int .u32 0],[Sn],[Sn],[.int .u32 0]] zr151 hI hA rfl fun g2 a w hA hI hg2=>?_
 refine o_nil<|hN1 _ _<|w_seq fun _ hN2=>w_reg<|stm hA rfl rfl fun a hA =>
  stp hA (r_conv U3 U23 hA rfl) rfl fun a hA=>?_
 have hI:=hI.nilRow 5 1
 obtain ⟨r1,hr1,H⟩:=bB H
 refine o_call _ cf91 hA rfl (q1_Four.c μ _ hI.agr ([]:List Int) Sn ([]) (Els.nil (RE:=(RI .u8)) (sz:=1)) (hI.item (j:=0) rfl) (IntKind.u32.wrap x0) (wrap_in _ _) r1 hr1) rfl fun v1 a w hz1 hA=>?_
 obtain ⟨_,cs1,rfl,hE1,hi1⟩:=hz1
 have hI:=hI.call1 0 rfl hi1
 refine stm hA rfl rfl fun a hA=>?_
 obtain ⟨cs2,hE2,hsv1⟩:Slc (RI .u8) 1 μ u3 x3:=id (hx3)
 obtain ⟨hb1,H⟩:=bG H
 have hE3:=hE1.app hE2
 refine o_appG (xs:=(r1:List Int)) (ys:=(x3:List Int)) (M:=140737488355328) 0 te5 U122 hI rfl hA rfl rfl (src_sl hI.agr hsv1 hE2.len) hE2.len (hE2.ones (one_RI _)) hb1 rfl fun v2 a w hA hI =>
  sta hA rfl rfl fun a hA=>?_
 refine o_nil<|hN2 _ _ ?_
 obtain ⟨⟨c1,c2,c3,c4⟩,hz2,Hk1⟩:=bB H
 refine w_cut (fun a w=>∃(μ1:Store)(vvc1 vvc3:Value)(ccc3:List Value)(vvc4:Value)(ccc4:List Value),μ.le μ1∧Slc (RI .u8) 1 μ1 vvc1 c1∧InR .u32 c2∧Els (RIn μ1) 35 c3 ccc3∧Els (ROut μ1) 33 c4 ccc4∧Fr a 24 [(8,pt g2 0),(9,vvc1)]∧Iv w0 [] μ μ1 [row 220 35 vvc3 c3.length ccc3,row 223 33 vvc4 c4.length ccc4,cel g2 [[.int .u32 c2],[vvc3],[vvc4],[.int .u32 0]] 151,cel g1 [av .u8 32 x2] 25] w) ?_ ?_
 ·have H:=bI hz2
  refine w_anyS [] mo (fun w (h:Iv w0 [] μ μ [row 5 1 v2 (r1++x3).length (cs1++cs2),cel g2 [[.int .u32 0],[Sn],[Sn],[.int .u32 0]] 151,cel g1 [av .u8 32 x2] 25] w)=>(h.sl [0,2] rfl:Iv w0 [] μ μ [row 5 1 v2 (r1++x3).length (cs1++cs2),cel g1 [av .u8 32 x2] 25] w)) hI fun w hI=>?_
  refine gE 1 hA rfl (.inr (hI.sl [0,2] rfl)) (fun _=>r_mv hA rfl) fun a hA=>?_
  refine gE 4 hA rfl (.inr (hI.sl [0,2] rfl)) (fun _=>r_mv hA rfl) fun a hA=>?_
  refine gT 5 hA rfl (hI.sl [0,2] rfl) (fun w hI=>r_ldA (j:=1) [] [av .u8 32 x2] [] U25 rfl sz25 rfl hI rfl hA rfl rfl) fun a hA=>?_
  refine g_fork (i:=0) (is:=[6]) (by kernel_rfl) (List.forall_mem_cons.2 ⟨⟨_,rfl,?_⟩,(List.forall_mem_cons.2 ⟨⟨_,rfl,?_⟩,List.forall_mem_nil _⟩)⟩)
  ·skip
   obtain ⟨r2,hr2,H⟩:=bB H
   refine o_callp (u:=.agg [av .u8 32 r2.Tx,[.int .u32 r2.N]].flatten.toArray) cf125 hA rfl hI (q1_Null.c μ _ hI.agr  r2 hr2) rfl fun a w hz3 hI hA=>?_
   refine o_nil<|⟨(.inr (hI.sl [0,2] rfl)),?_⟩
   refine g_fork (i:=2) (is:=[6]) (by kernel_rfl) (List.forall_mem_cons.2 ⟨⟨_,rfl,?_⟩,(List.forall_mem_cons.2 ⟨⟨_,rfl,?_⟩,List.forall_mem_nil _⟩)⟩)
   ·skip
    refine stp hA (r_bldS (cs:=[av .u8 32 r2.Tx,[.int .u32 r2.N],[v2],[.int .u32 4294967295]].flatten.toArray) (pl:=[(0,33),(33,1),(34,1)]) zr220 U220 ⟨rfl,sz218,rfl,sz122,rfl,sz23,trivial⟩ hA rfl ((fill_seg [] [av .u8 32 Z32,[.int .u32 0]] [av .u8 32 r2.Tx,[.int .u32 r2.N]] [[Sn],[.int .u32 0]] rfl rfl rfl rfl rfl).trans ((fill_seg [av .u8 32 r2.Tx,[.int .u32 r2.N]] [[Sn]] [[v2]] [[.int .u32 0]] (own_cell hI (j:=0) rfl) rfl rfl rfl rfl).trans ((fill_seg [av .u8 32 r2.Tx,[.int .u32 r2.N],[v2]] [[.int .u32 0]] [[.int .u32 4294967295]] [] rfl rfl rfl rfl rfl).trans (rfl))))) rfl fun a hA=>?_
    refine o_nil<|⟨(.inr (hI.sl [0,2] rfl)),?_⟩
    refine g_fork (i:=3) (is:=[6]) (by kernel_rfl) (List.forall_mem_cons.2 ⟨⟨_,rfl,?_⟩,(List.forall_mem_cons.2 ⟨⟨_,rfl,?_⟩,List.forall_mem_nil _⟩)⟩)
    ·skip
     obtain ⟨μ2,hle2,hsv2,hI,hth1⟩:=hI.freezeRowT 0 rfl
     have hS1:Slc (RI .u8) 1 μ2 v2 (r1++x3):=⟨_,hE3,hsv2⟩
     have hE4:Els (RIn μ2) 35 ([(⟨r2,r1++x3,4294967295⟩:In)]:List In) _:=(Els.cons (c:=[av .u8 32 r2.Tx,[.int .u32 r2.N],[v2],[.int .u32 4294967295]].flatten) ⟨v2,rfl,⟨hz3.1,hz3.2,hS1,(in_lit .u32 4294967295 rfl)⟩⟩ rfl Els.nil)
     refine o_bsl ([av .u8 32 r2.Tx,[.int .u32 r2.N],[v2],[.int .u32 4294967295]].flatten++([])) te220 zr220 U148 hI hA rfl rfl rfl rfl (by kernel_rfl) rfl fun g3 a w hA hI=>?_
     generalize hcs:([av .u8 32 r2.Tx,[.int .u32 r2.N],[v2],[.int .u32 4294967295]].flatten++([]):List Value)=cs4 at hE4 hI
     clear hcs
     refine o_nil<|⟨(.inr ((hth1 _ _ hI).sl [0,3] rfl)),?_⟩
     refine gF 6 rfl ?_
     refine stp hA (r_bldS (cs:=[[.int .u64 x1],av .u8 32 x2].flatten.toArray) (pl:=[(0,1),(1,32)]) zr223 U223 ⟨rfl,sz45,rfl,sz25,trivial⟩ hA rfl (by kernel_rfl)) rfl fun a hA=>?_
     refine o_nil<|⟨(.inr ((hth1 _ _ hI).sl [0,3] rfl)),?_⟩
     refine gF 7 rfl ?_
     have hE5:Els (ROut μ2) 33 ([(⟨x1,x2⟩:Out)]:List Out) _:=(Els.cons (c:=[[.int .u64 x1],av .u8 32 x2].flatten) ⟨rfl,⟨hx1,hx2⟩⟩ rfl Els.nil)
     refine o_bsl ([[.int .u64 x1],av .u8 32 x2].flatten++([])) te223 zr223 U149 hI hA rfl rfl rfl rfl (by kernel_rfl) rfl fun g4 a w hA hI=>?_
     generalize hcs:([[.int .u64 x1],av .u8 32 x2].flatten++([]):List Value)=cs5 at hE5 hI
     clear hcs
     refine o_nil<|⟨(.inr ((hth1 _ _ hI).sl [0,4] rfl)),?_⟩
     refine gF 8 rfl ?_
     refine stp hA (r_bldS (cs:=[[.int .u32 1],[(.slice (some ⟨g3,0,none⟩) 1 1)],[(.slice (some ⟨g4,0,none⟩) 1 1)],[.int .u32 0]].flatten.toArray) (pl:=[(0,1),(1,1),(2,1),(3,1)]) zr151 U151 ⟨rfl,sz23,rfl,sz148,rfl,sz149,rfl,sz23,trivial⟩ hA rfl ((fill_one rfl rfl (by kernel_rfl)).trans ((fill_one (own_cell hI (j:=1) rfl) rfl (by kernel_rfl)).trans ((fill_one (own_cell hI (j:=0) rfl) rfl (by kernel_rfl)).trans (by kernel_rfl))))) rfl fun a hA=>?_
     refine o_nil<|⟨(.inr ((hth1 _ _ hI).sl [0,4] rfl)),?_⟩
     refine gF 9 rfl ?_
     refine o_st (j:=2) [] [[.int .u32 0],[Sn],[Sn],[.int .u32 0]] [[.int .u32 1],[(.slice (some ⟨g3,0,none⟩) 1 1)],[(.slice (some ⟨g4,0,none⟩) 1 1)],[.int .u32 0]] [] sz151 rfl rfl (fl_cons (oneC rfl) (fl_cons (oneC (own_one hI (j:=1) rfl)) (fl_cons (oneC (own_one hI (j:=0) rfl)) (fl_cons (oneC rfl) fl_nil)))) hI rfl hA rfl rfl rfl rfl fun w hI=>?_
     refine o_nil<|⟨(.inr ((hth1 _ _ hI).sl [0,4] rfl)),?_⟩
     refine gN ?_
     cases sJ H
     exact ⟨μ2,v2,(.slice (some ⟨g3,0,none⟩) 1 1),cs4,(.slice (some ⟨g4,0,none⟩) 1 1),cs5,hle2,hS1,(in_lit .u32 1 rfl),hE4,hE5,hA.sub ⟨rfl,rfl,trivial⟩,(hI.sl [1,0,2,3] rfl)⟩
    ·skip
     refine stp hA (r_bldS (cs:=[[.int .u64 x1],av .u8 32 x2].flatten.toArray) (pl:=[(0,1),(1,32)]) zr223 U223 ⟨rfl,sz45,rfl,sz25,trivial⟩ hA rfl (by kernel_rfl)) rfl fun a hA=>?_
     refine o_nil<|⟨(.inr (hI.sl [0,2] rfl)),?_⟩
     refine g_fork (i:=3) (is:=[7]) (by kernel_rfl) (List.forall_mem_cons.2 ⟨⟨_,rfl,?_⟩,(List.forall_mem_cons.2 ⟨⟨_,rfl,?_⟩,List.forall_mem_nil _⟩)⟩)
     ·skip
      obtain ⟨μ2,hle2,hsv2,hI,hth1⟩:=hI.freezeRowT 0 rfl
      have hS1:Slc (RI .u8) 1 μ2 v2 (r1++x3):=⟨_,hE3,hsv2⟩
      have hE4:Els (RIn μ2) 35 ([(⟨r2,r1++x3,4294967295⟩:In)]:List In) _:=(Els.cons (c:=[av .u8 32 r2.Tx,[.int .u32 r2.N],[v2],[.int .u32 4294967295]].flatten) ⟨v2,rfl,⟨hz3.1,hz3.2,hS1,(in_lit .u32 4294967295 rfl)⟩⟩ rfl Els.nil)
      refine o_bsl ([av .u8 32 r2.Tx,[.int .u32 r2.N],[v2],[.int .u32 4294967295]].flatten++([])) te220 zr220 U148 hI hA rfl rfl rfl rfl (by kernel_rfl) rfl fun g3 a w hA hI=>?_
      generalize hcs:([av .u8 32 r2.Tx,[.int .u32 r2.N],[v2],[.int .u32 4294967295]].flatten++([]):List Value)=cs4 at hE4 hI
      clear hcs
      refine o_nil<|⟨(.inr ((hth1 _ _ hI).sl [0,3] rfl)),?_⟩
      refine gF 7 rfl ?_
      have hE5:Els (ROut μ2) 33 ([(⟨x1,x2⟩:Out)]:List Out) _:=(Els.cons (c:=[[.int .u64 x1],av .u8 32 x2].flatten) ⟨rfl,⟨hx1,hx2⟩⟩ rfl Els.nil)
      refine o_bsl ([[.int .u64 x1],av .u8 32 x2].flatten++([])) te223 zr223 U149 hI hA rfl rfl rfl rfl (by kernel_rfl) rfl fun g4 a w hA hI=>?_
      generalize hcs:([[.int .u64 x1],av .u8 32 x2].flatten++([]):List Value)=cs5 at hE5 hI
      clear hcs
      refine o_nil<|⟨(.inr ((hth1 _ _ hI).sl [0,4] rfl)),?_⟩
      refine gF 8 rfl ?_
      refine stp hA (r_bldS (cs:=[[.int .u32 1],[(.slice (some ⟨g3,0,none⟩) 1 1)],[(.slice (some ⟨g4,0,none⟩) 1 1)],[.int .u32 0]].flatten.toArray) (pl:=[(0,1),(1,1),(2,1),(3,1)]) zr151 U151 ⟨rfl,sz23,rfl,sz148,rfl,sz149,rfl,sz23,trivial⟩ hA rfl ((fill_one rfl rfl (by kernel_rfl)).trans ((fill_one (own_cell hI (j:=1) rfl) rfl (by kernel_rfl)).trans ((fill_one (own_cell hI (j:=0) rfl) rfl (by kernel_rfl)).trans (by kernel_rfl))))) rfl fun a hA=>?_
      refine o_nil<|⟨(.inr ((hth1 _ _ hI).sl [0,4] rfl)),?_⟩
      refine gF 9 rfl ?_
      refine o_st (j:=2) [] [[.int .u32 0],[Sn],[Sn],[.int .u32 0]] [[.int .u32 1],[(.slice (some ⟨g3,0,none⟩) 1 1)],[(.slice (some ⟨g4,0,none⟩) 1 1)],[.int .u32 0]] [] sz151 rfl rfl (fl_cons (oneC rfl) (fl_cons (oneC (own_one hI (j:=1) rfl)) (fl_cons (oneC (own_one hI (j:=0) rfl)) (fl_cons (oneC rfl) fl_nil)))) hI rfl hA rfl rfl rfl rfl fun w hI=>?_
      refine o_nil<|⟨(.inr ((hth1 _ _ hI).sl [0,4] rfl)),?_⟩
      refine gN ?_
      cases sJ H
      exact ⟨μ2,v2,(.slice (some ⟨g3,0,none⟩) 1 1),cs4,(.slice (some ⟨g4,0,none⟩) 1 1),cs5,hle2,hS1,(in_lit .u32 1 rfl),hE4,hE5,hA.sub ⟨rfl,rfl,trivial⟩,(hI.sl [1,0,2,3] rfl)⟩
     ·skip
      have hE4:Els (ROut μ) 33 ([(⟨x1,x2⟩:Out)]:List Out) _:=(Els.cons (c:=[[.int .u64 x1],av .u8 32 x2].flatten) ⟨rfl,⟨hx1,hx2⟩⟩ rfl Els.nil)
      refine o_bsl ([[.int .u64 x1],av .u8 32 x2].flatten++([])) te223 zr223 U149 hI hA rfl rfl rfl rfl (by kernel_rfl) rfl fun g3 a w hA hI=>?_
      generalize hcs:([[.int .u64 x1],av .u8 32 x2].flatten++([]):List Value)=cs4 at hE4 hI
      clear hcs
      refine o_nil<|⟨(.inr (hI.sl [1,3] rfl)),?_⟩
      refine gF 3 rfl ?_
      obtain ⟨μ2,hle2,hsv2,hI,hth1⟩:=hI.freezeRowT 1 rfl
      have hS1:Slc (RI .u8) 1 μ2 v2 (r1++x3):=⟨_,hE3,hsv2⟩
      have hE5:Els (RIn μ2) 35 ([(⟨r2,r1++x3,4294967295⟩:In)]:List In) _:=(Els.cons (c:=[av .u8 32 r2.Tx,[.int .u32 r2.N],[v2],[.int .u32 4294967295]].flatten) ⟨v2,rfl,⟨hz3.1,hz3.2,hS1,(in_lit .u32 4294967295 rfl)⟩⟩ rfl Els.nil)
      refine o_bsl ([av .u8 32 r2.Tx,[.int .u32 r2.N],[v2],[.int .u32 4294967295]].flatten++([])) te220 zr220 U148 hI hA rfl rfl rfl rfl (by kernel_rfl) rfl fun g4 a w hA hI=>?_
      generalize hcs:([av .u8 32 r2.Tx,[.int .u32 r2.N],[v2],[.int .u32 4294967295]].flatten++([]):List Value)=cs5 at hE5 hI
      clear hcs
      refine o_nil<|⟨(.inr ((hth1 _ _ hI).sl [0,4] rfl)),?_⟩
      refine gF 8 rfl ?_
      refine stp hA (r_bldS (cs:=[[.int .u32 1],[(.slice (some ⟨g4,0,none⟩) 1 1)],[(.slice (some ⟨g3,0,none⟩) 1 1)],[.int .u32 0]].flatten.toArray) (pl:=[(0,1),(1,1),(2,1),(3,1)]) zr151 U151 ⟨rfl,sz23,rfl,sz148,rfl,sz149,rfl,sz23,trivial⟩ hA rfl ((fill_one rfl rfl (by kernel_rfl)).trans ((fill_one (own_cell hI (j:=0) rfl) rfl (by kernel_rfl)).trans ((fill_one (own_cell hI (j:=1) rfl) rfl (by kernel_rfl)).trans (by kernel_rfl))))) rfl fun a hA=>?_
      refine o_nil<|⟨(.inr ((hth1 _ _ hI).sl [0,4] rfl)),?_⟩
      refine gF 9 rfl ?_
      refine o_st (j:=2) [] [[.int .u32 0],[Sn],[Sn],[.int .u32 0]] [[.int .u32 1],[(.slice (some ⟨g4,0,none⟩) 1 1)],[(.slice (some ⟨g3,0,none⟩) 1 1)],[.int .u32 0]] [] sz151 rfl rfl (fl_cons (oneC rfl) (fl_cons (oneC (own_one hI (j:=0) rfl)) (fl_cons (oneC (own_one hI (j:=1) rfl)) (fl_cons (oneC rfl) fl_nil)))) hI rfl hA rfl rfl rfl rfl fun w hI=>?_
      refine o_nil<|⟨(.inr ((hth1 _ _ hI).sl [0,4] rfl)),?_⟩
      refine gN ?_
      cases sJ H
      exact ⟨μ2,v2,(.slice (some ⟨g4,0,none⟩) 1 1),cs5,(.slice (some ⟨g3,0,none⟩) 1 1),cs4,hle2,hS1,(in_lit .u32 1 rfl),hE5,hE4,hA.sub ⟨rfl,rfl,trivial⟩,hI⟩
   ·skip
    refine stp hA (r_bldS (cs:=[[.int .u64 x1],av .u8 32 x2].flatten.toArray) (pl:=[(0,1),(1,32)]) zr223 U223 ⟨rfl,sz45,rfl,sz25,trivial⟩ hA rfl (by kernel_rfl)) rfl fun a hA=>?_
    refine o_nil<|⟨(.inr (hI.sl [0,2] rfl)),?_⟩
    refine g_fork (i:=2) (is:=[7]) (by kernel_rfl) (List.forall_mem_cons.2 ⟨⟨_,rfl,?_⟩,(List.forall_mem_cons.2 ⟨⟨_,rfl,?_⟩,List.forall_mem_nil _⟩)⟩)
    ·skip
     refine stp hA (r_bldS (cs:=[av .u8 32 r2.Tx,[.int .u32 r2.N],[v2],[.int .u32 4294967295]].flatten.toArray) (pl:=[(0,33),(33,1),(34,1)]) zr220 U220 ⟨rfl,sz218,rfl,sz122,rfl,sz23,trivial⟩ hA rfl ((fill_seg [] [av .u8 32 Z32,[.int .u32 0]] [av .u8 32 r2.Tx,[.int .u32 r2.N]] [[Sn],[.int .u32 0]] rfl rfl rfl rfl rfl).trans ((fill_seg [av .u8 32 r2.Tx,[.int .u32 r2.N]] [[Sn]] [[v2]] [[.int .u32 0]] (own_cell hI (j:=0) rfl) rfl rfl rfl rfl).trans ((fill_seg [av .u8 32 r2.Tx,[.int .u32 r2.N],[v2]] [[.int .u32 0]] [[.int .u32 4294967295]] [] rfl rfl rfl rfl rfl).trans (rfl))))) rfl fun a hA=>?_
     refine o_nil<|⟨(.inr (hI.sl [0,2] rfl)),?_⟩
     refine g_fork (i:=3) (is:=[7]) (by kernel_rfl) (List.forall_mem_cons.2 ⟨⟨_,rfl,?_⟩,(List.forall_mem_cons.2 ⟨⟨_,rfl,?_⟩,List.forall_mem_nil _⟩)⟩)
     ·skip
      obtain ⟨μ2,hle2,hsv2,hI,hth1⟩:=hI.freezeRowT 0 rfl
      have hS1:Slc (RI .u8) 1 μ2 v2 (r1++x3):=⟨_,hE3,hsv2⟩
      have hE4:Els (RIn μ2) 35 ([(⟨r2,r1++x3,4294967295⟩:In)]:List In) _:=(Els.cons (c:=[av .u8 32 r2.Tx,[.int .u32 r2.N],[v2],[.int .u32 4294967295]].flatten) ⟨v2,rfl,⟨hz3.1,hz3.2,hS1,(in_lit .u32 4294967295 rfl)⟩⟩ rfl Els.nil)
      refine o_bsl ([av .u8 32 r2.Tx,[.int .u32 r2.N],[v2],[.int .u32 4294967295]].flatten++([])) te220 zr220 U148 hI hA rfl rfl rfl rfl (by kernel_rfl) rfl fun g3 a w hA hI=>?_
      generalize hcs:([av .u8 32 r2.Tx,[.int .u32 r2.N],[v2],[.int .u32 4294967295]].flatten++([]):List Value)=cs4 at hE4 hI
      clear hcs
      refine o_nil<|⟨(.inr ((hth1 _ _ hI).sl [0,3] rfl)),?_⟩
      refine gF 7 rfl ?_
      have hE5:Els (ROut μ2) 33 ([(⟨x1,x2⟩:Out)]:List Out) _:=(Els.cons (c:=[[.int .u64 x1],av .u8 32 x2].flatten) ⟨rfl,⟨hx1,hx2⟩⟩ rfl Els.nil)
      refine o_bsl ([[.int .u64 x1],av .u8 32 x2].flatten++([])) te223 zr223 U149 hI hA rfl rfl rfl rfl (by kernel_rfl) rfl fun g4 a w hA hI=>?_
      generalize hcs:([[.int .u64 x1],av .u8 32 x2].flatten++([]):List Value)=cs5 at hE5 hI
      clear hcs
      refine o_nil<|⟨(.inr ((hth1 _ _ hI).sl [0,4] rfl)),?_⟩
      refine gF 8 rfl ?_
      refine stp hA (r_bldS (cs:=[[.int .u32 1],[(.slice (some ⟨g3,0,none⟩) 1 1)],[(.slice (some ⟨g4,0,none⟩) 1 1)],[.int .u32 0]].flatten.toArray) (pl:=[(0,1),(1,1),(2,1),(3,1)]) zr151 U151 ⟨rfl,sz23,rfl,sz148,rfl,sz149,rfl,sz23,trivial⟩ hA rfl ((fill_one rfl rfl (by kernel_rfl)).trans ((fill_one (own_cell hI (j:=1) rfl) rfl (by kernel_rfl)).trans ((fill_one (own_cell hI (j:=0) rfl) rfl (by kernel_rfl)).trans (by kernel_rfl))))) rfl fun a hA=>?_
      refine o_nil<|⟨(.inr ((hth1 _ _ hI).sl [0,4] rfl)),?_⟩
      refine gF 9 rfl ?_
      refine o_st (j:=2) [] [[.int .u32 0],[Sn],[Sn],[.int .u32 0]] [[.int .u32 1],[(.slice (some ⟨g3,0,none⟩) 1 1)],[(.slice (some ⟨g4,0,none⟩) 1 1)],[.int .u32 0]] [] sz151 rfl rfl (fl_cons (oneC rfl) (fl_cons (oneC (own_one hI (j:=1) rfl)) (fl_cons (oneC (own_one hI (j:=0) rfl)) (fl_cons (oneC rfl) fl_nil)))) hI rfl hA rfl rfl rfl rfl fun w hI=>?_
      refine o_nil<|⟨(.inr ((hth1 _ _ hI).sl [0,4] rfl)),?_⟩
      refine gN ?_
      cases sJ H
      exact ⟨μ2,v2,(.slice (some ⟨g3,0,none⟩) 1 1),cs4,(.slice (some ⟨g4,0,none⟩) 1 1),cs5,hle2,hS1,(in_lit .u32 1 rfl),hE4,hE5,hA.sub ⟨rfl,rfl,trivial⟩,(hI.sl [1,0,2,3] rfl)⟩
     ·skip
      have hE4:Els (ROut μ) 33 ([(⟨x1,x2⟩:Out)]:List Out) _:=(Els.cons (c:=[[.int .u64 x1],av .u8 32 x2].flatten) ⟨rfl,⟨hx1,hx2⟩⟩ rfl Els.nil)
      refine o_bsl ([[.int .u64 x1],av .u8 32 x2].flatten++([])) te223 zr223 U149 hI hA rfl rfl rfl rfl (by kernel_rfl) rfl fun g3 a w hA hI=>?_
      generalize hcs:([[.int .u64 x1],av .u8 32 x2].flatten++([]):List Value)=cs4 at hE4 hI
      clear hcs
      refine o_nil<|⟨(.inr (hI.sl [1,3] rfl)),?_⟩
      refine gF 3 rfl ?_
      obtain ⟨μ2,hle2,hsv2,hI,hth1⟩:=hI.freezeRowT 1 rfl
      have hS1:Slc (RI .u8) 1 μ2 v2 (r1++x3):=⟨_,hE3,hsv2⟩
      have hE5:Els (RIn μ2) 35 ([(⟨r2,r1++x3,4294967295⟩:In)]:List In) _:=(Els.cons (c:=[av .u8 32 r2.Tx,[.int .u32 r2.N],[v2],[.int .u32 4294967295]].flatten) ⟨v2,rfl,⟨hz3.1,hz3.2,hS1,(in_lit .u32 4294967295 rfl)⟩⟩ rfl Els.nil)
      refine o_bsl ([av .u8 32 r2.Tx,[.int .u32 r2.N],[v2],[.int .u32 4294967295]].flatten++([])) te220 zr220 U148 hI hA rfl rfl rfl rfl (by kernel_rfl) rfl fun g4 a w hA hI=>?_
      generalize hcs:([av .u8 32 r2.Tx,[.int .u32 r2.N],[v2],[.int .u32 4294967295]].flatten++([]):List Value)=cs5 at hE5 hI
      clear hcs
      refine o_nil<|⟨(.inr ((hth1 _ _ hI).sl [0,4] rfl)),?_⟩
      refine gF 8 rfl ?_
      refine stp hA (r_bldS (cs:=[[.int .u32 1],[(.slice (some ⟨g4,0,none⟩) 1 1)],[(.slice (some ⟨g3,0,none⟩) 1 1)],[.int .u32 0]].flatten.toArray) (pl:=[(0,1),(1,1),(2,1),(3,1)]) zr151 U151 ⟨rfl,sz23,rfl,sz148,rfl,sz149,rfl,sz23,trivial⟩ hA rfl ((fill_one rfl rfl (by kernel_rfl)).trans ((fill_one (own_cell hI (j:=0) rfl) rfl (by kernel_rfl)).trans ((fill_one (own_cell hI (j:=1) rfl) rfl (by kernel_rfl)).trans (by kernel_rfl))))) rfl fun a hA=>?_
      refine o_nil<|⟨(.inr ((hth1 _ _ hI).sl [0,4] rfl)),?_⟩
      refine gF 9 rfl ?_
      refine o_st (j:=2) [] [[.int .u32 0],[Sn],[Sn],[.int .u32 0]] [[.int .u32 1],[(.slice (some ⟨g4,0,none⟩) 1 1)],[(.slice (some ⟨g3,0,none⟩) 1 1)],[.int .u32 0]] [] sz151 rfl rfl (fl_cons (oneC rfl) (fl_cons (oneC (own_one hI (j:=0) rfl)) (fl_cons (oneC (own_one hI (j:=1) rfl)) (fl_cons (oneC rfl) fl_nil)))) hI rfl hA rfl rfl rfl rfl fun w hI=>?_
      refine o_nil<|⟨(.inr ((hth1 _ _ hI).sl [0,4] rfl)),?_⟩
      refine gN ?_
      cases sJ H
      exact ⟨μ2,v2,(.slice (some ⟨g4,0,none⟩) 1 1),cs5,(.slice (some ⟨g3,0,none⟩) 1 1),cs4,hle2,hS1,(in_lit .u32 1 rfl),hE5,hE4,hA.sub ⟨rfl,rfl,trivial⟩,hI⟩
    ·skip
     have hE4:Els (ROut μ) 33 ([(⟨x1,x2⟩:Out)]:List Out) _:=(Els.cons (c:=[[.int .u64 x1],av .u8 32 x2].flatten) ⟨rfl,⟨hx1,hx2⟩⟩ rfl Els.nil)
     refine o_bsl ([[.int .u64 x1],av .u8 32 x2].flatten++([])) te223 zr223 U149 hI hA rfl rfl rfl rfl (by kernel_rfl) rfl fun g3 a w hA hI=>?_
     generalize hcs:([[.int .u64 x1],av .u8 32 x2].flatten++([]):List Value)=cs4 at hE4 hI
     clear hcs
     refine o_nil<|⟨(.inr (hI.sl [1,3] rfl)),?_⟩
     refine gF 2 rfl ?_
     refine stp hA (r_bldS (cs:=[av .u8 32 r2.Tx,[.int .u32 r2.N],[v2],[.int .u32 4294967295]].flatten.toArray) (pl:=[(0,33),(33,1),(34,1)]) zr220 U220 ⟨rfl,sz218,rfl,sz122,rfl,sz23,trivial⟩ hA rfl ((fill_seg [] [av .u8 32 Z32,[.int .u32 0]] [av .u8 32 r2.Tx,[.int .u32 r2.N]] [[Sn],[.int .u32 0]] rfl rfl rfl rfl rfl).trans ((fill_seg [av .u8 32 r2.Tx,[.int .u32 r2.N]] [[Sn]] [[v2]] [[.int .u32 0]] (own_cell hI (j:=1) rfl) rfl rfl rfl rfl).trans ((fill_seg [av .u8 32 r2.Tx,[.int .u32 r2.N],[v2]] [[.int .u32 0]] [[.int .u32 4294967295]] [] rfl rfl rfl rfl rfl).trans (rfl))))) rfl fun a hA=>?_
     refine o_nil<|⟨(.inr (hI.sl [1,3] rfl)),?_⟩
     refine gF 3 rfl ?_
     obtain ⟨μ2,hle2,hsv2,hI,hth1⟩:=hI.freezeRowT 1 rfl
     have hS1:Slc (RI .u8) 1 μ2 v2 (r1++x3):=⟨_,hE3,hsv2⟩
     have hE5:Els (RIn μ2) 35 ([(⟨r2,r1++x3,4294967295⟩:In)]:List In) _:=(Els.cons (c:=[av .u8 32 r2.Tx,[.int .u32 r2.N],[v2],[.int .u32 4294967295]].flatten) ⟨v2,rfl,⟨hz3.1,hz3.2,hS1,(in_lit .u32 4294967295 rfl)⟩⟩ rfl Els.nil)
     refine o_bsl ([av .u8 32 r2.Tx,[.int .u32 r2.N],[v2],[.int .u32 4294967295]].flatten++([])) te220 zr220 U148 hI hA rfl rfl rfl rfl (by kernel_rfl) rfl fun g4 a w hA hI=>?_
     generalize hcs:([av .u8 32 r2.Tx,[.int .u32 r2.N],[v2],[.int .u32 4294967295]].flatten++([]):List Value)=cs5 at hE5 hI
     clear hcs
     refine o_nil<|⟨(.inr ((hth1 _ _ hI).sl [0,4] rfl)),?_⟩
     refine gF 8 rfl ?_
     refine stp hA (r_bldS (cs:=[[.int .u32 1],[(.slice (some ⟨g4,0,none⟩) 1 1)],[(.slice (some ⟨g3,0,none⟩) 1 1)],[.int .u32 0]].flatten.toArray) (pl:=[(0,1),(1,1),(2,1),(3,1)]) zr151 U151 ⟨rfl,sz23,rfl,sz148,rfl,sz149,rfl,sz23,trivial⟩ hA rfl ((fill_one rfl rfl (by kernel_rfl)).trans ((fill_one (own_cell hI (j:=0) rfl) rfl (by kernel_rfl)).trans ((fill_one (own_cell hI (j:=1) rfl) rfl (by kernel_rfl)).trans (by kernel_rfl))))) rfl fun a hA=>?_
     refine o_nil<|⟨(.inr ((hth1 _ _ hI).sl [0,4] rfl)),?_⟩
     refine gF 9 rfl ?_
     refine o_st (j:=2) [] [[.int .u32 0],[Sn],[Sn],[.int .u32 0]] [[.int .u32 1],[(.slice (some ⟨g4,0,none⟩) 1 1)],[(.slice (some ⟨g3,0,none⟩) 1 1)],[.int .u32 0]] [] sz151 rfl rfl (fl_cons (oneC rfl) (fl_cons (oneC (own_one hI (j:=0) rfl)) (fl_cons (oneC (own_one hI (j:=1) rfl)) (fl_cons (oneC rfl) fl_nil)))) hI rfl hA rfl rfl rfl rfl fun w hI=>?_
     refine o_nil<|⟨(.inr ((hth1 _ _ hI).sl [0,4] rfl)),?_⟩
     refine gN ?_
     cases sJ H
     exact ⟨μ2,v2,(.slice (some ⟨g4,0,none⟩) 1 1),cs5,(.slice (some ⟨g3,0,none⟩) 1 1),cs4,hle2,hS1,(in_lit .u32 1 rfl),hE5,hE4,hA.sub ⟨rfl,rfl,trivial⟩,hI⟩
  ·skip
   refine stp hA (r_bldS (cs:=[[.int .u64 x1],av .u8 32 x2].flatten.toArray) (pl:=[(0,1),(1,32)]) zr223 U223 ⟨rfl,sz45,rfl,sz25,trivial⟩ hA rfl (by kernel_rfl)) rfl fun a hA=>?_
   refine o_nil<|⟨(.inr (hI.sl [0,2] rfl)),?_⟩
   refine g_fork (i:=0) (is:=[7]) (by kernel_rfl) (List.forall_mem_cons.2 ⟨⟨_,rfl,?_⟩,(List.forall_mem_cons.2 ⟨⟨_,rfl,?_⟩,List.forall_mem_nil _⟩)⟩)
   ·skip
    obtain ⟨r2,hr2,H⟩:=bB H
    refine o_callp (u:=.agg [av .u8 32 r2.Tx,[.int .u32 r2.N]].flatten.toArray) cf125 hA rfl hI (q1_Null.c μ _ hI.agr  r2 hr2) rfl fun a w hz3 hI hA=>?_
    refine o_nil<|⟨(.inr (hI.sl [0,2] rfl)),?_⟩
    refine g_fork (i:=2) (is:=[7]) (by kernel_rfl) (List.forall_mem_cons.2 ⟨⟨_,rfl,?_⟩,(List.forall_mem_cons.2 ⟨⟨_,rfl,?_⟩,List.forall_mem_nil _⟩)⟩)
    ·skip
     refine stp hA (r_bldS (cs:=[av .u8 32 r2.Tx,[.int .u32 r2.N],[v2],[.int .u32 4294967295]].flatten.toArray) (pl:=[(0,33),(33,1),(34,1)]) zr220 U220 ⟨rfl,sz218,rfl,sz122,rfl,sz23,trivial⟩ hA rfl ((fill_seg [] [av .u8 32 Z32,[.int .u32 0]] [av .u8 32 r2.Tx,[.int .u32 r2.N]] [[Sn],[.int .u32 0]] rfl rfl rfl rfl rfl).trans ((fill_seg [av .u8 32 r2.Tx,[.int .u32 r2.N]] [[Sn]] [[v2]] [[.int .u32 0]] (own_cell hI (j:=0) rfl) rfl rfl rfl rfl).trans ((fill_seg [av .u8 32 r2.Tx,[.int .u32 r2.N],[v2]] [[.int .u32 0]] [[.int .u32 4294967295]] [] rfl rfl rfl rfl rfl).trans (rfl))))) rfl fun a hA=>?_
     refine o_nil<|⟨(.inr (hI.sl [0,2] rfl)),?_⟩
     refine g_fork (i:=3) (is:=[7]) (by kernel_rfl) (List.forall_mem_cons.2 ⟨⟨_,rfl,?_⟩,(List.forall_mem_cons.2 ⟨⟨_,rfl,?_⟩,List.forall_mem_nil _⟩)⟩)
     ·skip
      obtain ⟨μ2,hle2,hsv2,hI,hth1⟩:=hI.freezeRowT 0 rfl
      have hS1:Slc (RI .u8) 1 μ2 v2 (r1++x3):=⟨_,hE3,hsv2⟩
      have hE4:Els (RIn μ2) 35 ([(⟨r2,r1++x3,4294967295⟩:In)]:List In) _:=(Els.cons (c:=[av .u8 32 r2.Tx,[.int .u32 r2.N],[v2],[.int .u32 4294967295]].flatten) ⟨v2,rfl,⟨hz3.1,hz3.2,hS1,(in_lit .u32 4294967295 rfl)⟩⟩ rfl Els.nil)
      refine o_bsl ([av .u8 32 r2.Tx,[.int .u32 r2.N],[v2],[.int .u32 4294967295]].flatten++([])) te220 zr220 U148 hI hA rfl rfl rfl rfl (by kernel_rfl) rfl fun g3 a w hA hI=>?_
      generalize hcs:([av .u8 32 r2.Tx,[.int .u32 r2.N],[v2],[.int .u32 4294967295]].flatten++([]):List Value)=cs4 at hE4 hI
      clear hcs
      refine o_nil<|⟨(.inr ((hth1 _ _ hI).sl [0,3] rfl)),?_⟩
      refine gF 7 rfl ?_
      have hE5:Els (ROut μ2) 33 ([(⟨x1,x2⟩:Out)]:List Out) _:=(Els.cons (c:=[[.int .u64 x1],av .u8 32 x2].flatten) ⟨rfl,⟨hx1,hx2⟩⟩ rfl Els.nil)
      refine o_bsl ([[.int .u64 x1],av .u8 32 x2].flatten++([])) te223 zr223 U149 hI hA rfl rfl rfl rfl (by kernel_rfl) rfl fun g4 a w hA hI=>?_
      generalize hcs:([[.int .u64 x1],av .u8 32 x2].flatten++([]):List Value)=cs5 at hE5 hI
      clear hcs
      refine o_nil<|⟨(.inr ((hth1 _ _ hI).sl [0,4] rfl)),?_⟩
      refine gF 8 rfl ?_
      refine stp hA (r_bldS (cs:=[[.int .u32 1],[(.slice (some ⟨g3,0,none⟩) 1 1)],[(.slice (some ⟨g4,0,none⟩) 1 1)],[.int .u32 0]].flatten.toArray) (pl:=[(0,1),(1,1),(2,1),(3,1)]) zr151 U151 ⟨rfl,sz23,rfl,sz148,rfl,sz149,rfl,sz23,trivial⟩ hA rfl ((fill_one rfl rfl (by kernel_rfl)).trans ((fill_one (own_cell hI (j:=1) rfl) rfl (by kernel_rfl)).trans ((fill_one (own_cell hI (j:=0) rfl) rfl (by kernel_rfl)).trans (by kernel_rfl))))) rfl fun a hA=>?_
      refine o_nil<|⟨(.inr ((hth1 _ _ hI).sl [0,4] rfl)),?_⟩
      refine gF 9 rfl ?_
      refine o_st (j:=2) [] [[.int .u32 0],[Sn],[Sn],[.int .u32 0]] [[.int .u32 1],[(.slice (some ⟨g3,0,none⟩) 1 1)],[(.slice (some ⟨g4,0,none⟩) 1 1)],[.int .u32 0]] [] sz151 rfl rfl (fl_cons (oneC rfl) (fl_cons (oneC (own_one hI (j:=1) rfl)) (fl_cons (oneC (own_one hI (j:=0) rfl)) (fl_cons (oneC rfl) fl_nil)))) hI rfl hA rfl rfl rfl rfl fun w hI=>?_
      refine o_nil<|⟨(.inr ((hth1 _ _ hI).sl [0,4] rfl)),?_⟩
      refine gN ?_
      cases sJ H
      exact ⟨μ2,v2,(.slice (some ⟨g3,0,none⟩) 1 1),cs4,(.slice (some ⟨g4,0,none⟩) 1 1),cs5,hle2,hS1,(in_lit .u32 1 rfl),hE4,hE5,hA.sub ⟨rfl,rfl,trivial⟩,(hI.sl [1,0,2,3] rfl)⟩
     ·skip
      have hE4:Els (ROut μ) 33 ([(⟨x1,x2⟩:Out)]:List Out) _:=(Els.cons (c:=[[.int .u64 x1],av .u8 32 x2].flatten) ⟨rfl,⟨hx1,hx2⟩⟩ rfl Els.nil)
      refine o_bsl ([[.int .u64 x1],av .u8 32 x2].flatten++([])) te223 zr223 U149 hI hA rfl rfl rfl rfl (by kernel_rfl) rfl fun g3 a w hA hI=>?_
      generalize hcs:([[.int .u64 x1],av .u8 32 x2].flatten++([]):List Value)=cs4 at hE4 hI
      clear hcs
      refine o_nil<|⟨(.inr (hI.sl [1,3] rfl)),?_⟩
      refine gF 3 rfl ?_
      obtain ⟨μ2,hle2,hsv2,hI,hth1⟩:=hI.freezeRowT 1 rfl
      have hS1:Slc (RI .u8) 1 μ2 v2 (r1++x3):=⟨_,hE3,hsv2⟩
      have hE5:Els (RIn μ2) 35 ([(⟨r2,r1++x3,4294967295⟩:In)]:List In) _:=(Els.cons (c:=[av .u8 32 r2.Tx,[.int .u32 r2.N],[v2],[.int .u32 4294967295]].flatten) ⟨v2,rfl,⟨hz3.1,hz3.2,hS1,(in_lit .u32 4294967295 rfl)⟩⟩ rfl Els.nil)
      refine o_bsl ([av .u8 32 r2.Tx,[.int .u32 r2.N],[v2],[.int .u32 4294967295]].flatten++([])) te220 zr220 U148 hI hA rfl rfl rfl rfl (by kernel_rfl) rfl fun g4 a w hA hI=>?_
      generalize hcs:([av .u8 32 r2.Tx,[.int .u32 r2.N],[v2],[.int .u32 4294967295]].flatten++([]):List Value)=cs5 at hE5 hI
      clear hcs
      refine o_nil<|⟨(.inr ((hth1 _ _ hI).sl [0,4] rfl)),?_⟩
      refine gF 8 rfl ?_
      refine stp hA (r_bldS (cs:=[[.int .u32 1],[(.slice (some ⟨g4,0,none⟩) 1 1)],[(.slice (some ⟨g3,0,none⟩) 1 1)],[.int .u32 0]].flatten.toArray) (pl:=[(0,1),(1,1),(2,1),(3,1)]) zr151 U151 ⟨rfl,sz23,rfl,sz148,rfl,sz149,rfl,sz23,trivial⟩ hA rfl ((fill_one rfl rfl (by kernel_rfl)).trans ((fill_one (own_cell hI (j:=0) rfl) rfl (by kernel_rfl)).trans ((fill_one (own_cell hI (j:=1) rfl) rfl (by kernel_rfl)).trans (by kernel_rfl))))) rfl fun a hA=>?_
      refine o_nil<|⟨(.inr ((hth1 _ _ hI).sl [0,4] rfl)),?_⟩
      refine gF 9 rfl ?_
      refine o_st (j:=2) [] [[.int .u32 0],[Sn],[Sn],[.int .u32 0]] [[.int .u32 1],[(.slice (some ⟨g4,0,none⟩) 1 1)],[(.slice (some ⟨g3,0,none⟩) 1 1)],[.int .u32 0]] [] sz151 rfl rfl (fl_cons (oneC rfl) (fl_cons (oneC (own_one hI (j:=0) rfl)) (fl_cons (oneC (own_one hI (j:=1) rfl)) (fl_cons (oneC rfl) fl_nil)))) hI rfl hA rfl rfl rfl rfl fun w hI=>?_
      refine o_nil<|⟨(.inr ((hth1 _ _ hI).sl [0,4] rfl)),?_⟩
      refine gN ?_
      cases sJ H
      exact ⟨μ2,v2,(.slice (some ⟨g4,0,none⟩) 1 1),cs5,(.slice (some ⟨g3,0,none⟩) 1 1),cs4,hle2,hS1,(in_lit .u32 1 rfl),hE5,hE4,hA.sub ⟨rfl,rfl,trivial⟩,hI⟩
    ·skip
     have hE4:Els (ROut μ) 33 ([(⟨x1,x2⟩:Out)]:List Out) _:=(Els.cons (c:=[[.int .u64 x1],av .u8 32 x2].flatten) ⟨rfl,⟨hx1,hx2⟩⟩ rfl Els.nil)
     refine o_bsl ([[.int .u64 x1],av .u8 32 x2].flatten++([])) te223 zr223 U149 hI hA rfl rfl rfl rfl (by kernel_rfl) rfl fun g3 a w hA hI=>?_
     generalize hcs:([[.int .u64 x1],av .u8 32 x2].flatten++([]):List Value)=cs4 at hE4 hI
     clear hcs
     refine o_nil<|⟨(.inr (hI.sl [1,3] rfl)),?_⟩
     refine gF 2 rfl ?_
     refine stp hA (r_bldS (cs:=[av .u8 32 r2.Tx,[.int .u32 r2.N],[v2],[.int .u32 4294967295]].flatten.toArray) (pl:=[(0,33),(33,1),(34,1)]) zr220 U220 ⟨rfl,sz218,rfl,sz122,rfl,sz23,trivial⟩ hA rfl ((fill_seg [] [av .u8 32 Z32,[.int .u32 0]] [av .u8 32 r2.Tx,[.int .u32 r2.N]] [[Sn],[.int .u32 0]] rfl rfl rfl rfl rfl).trans ((fill_seg [av .u8 32 r2.Tx,[.int .u32 r2.N]] [[Sn]] [[v2]] [[.int .u32 0]] (own_cell hI (j:=1) rfl) rfl rfl rfl rfl).trans ((fill_seg [av .u8 32 r2.Tx,[.int .u32 r2.N],[v2]] [[.int .u32 0]] [[.int .u32 4294967295]] [] rfl rfl rfl rfl rfl).trans (rfl))))) rfl fun a hA=>?_
     refine o_nil<|⟨(.inr (hI.sl [1,3] rfl)),?_⟩
     refine gF 3 rfl ?_
     obtain ⟨μ2,hle2,hsv2,hI,hth1⟩:=hI.freezeRowT 1 rfl
     have hS1:Slc (RI .u8) 1 μ2 v2 (r1++x3):=⟨_,hE3,hsv2⟩
     have hE5:Els (RIn μ2) 35 ([(⟨r2,r1++x3,4294967295⟩:In)]:List In) _:=(Els.cons (c:=[av .u8 32 r2.Tx,[.int .u32 r2.N],[v2],[.int .u32 4294967295]].flatten) ⟨v2,rfl,⟨hz3.1,hz3.2,hS1,(in_lit .u32 4294967295 rfl)⟩⟩ rfl Els.nil)
     refine o_bsl ([av .u8 32 r2.Tx,[.int .u32 r2.N],[v2],[.int .u32 4294967295]].flatten++([])) te220 zr220 U148 hI hA rfl rfl rfl rfl (by kernel_rfl) rfl fun g4 a w hA hI=>?_
     generalize hcs:([av .u8 32 r2.Tx,[.int .u32 r2.N],[v2],[.int .u32 4294967295]].flatten++([]):List Value)=cs5 at hE5 hI
     clear hcs
     refine o_nil<|⟨(.inr ((hth1 _ _ hI).sl [0,4] rfl)),?_⟩
     refine gF 8 rfl ?_
     refine stp hA (r_bldS (cs:=[[.int .u32 1],[(.slice (some ⟨g4,0,none⟩) 1 1)],[(.slice (some ⟨g3,0,none⟩) 1 1)],[.int .u32 0]].flatten.toArray) (pl:=[(0,1),(1,1),(2,1),(3,1)]) zr151 U151 ⟨rfl,sz23,rfl,sz148,rfl,sz149,rfl,sz23,trivial⟩ hA rfl ((fill_one rfl rfl (by kernel_rfl)).trans ((fill_one (own_cell hI (j:=0) rfl) rfl (by kernel_rfl)).trans ((fill_one (own_cell hI (j:=1) rfl) rfl (by kernel_rfl)).trans (by kernel_rfl))))) rfl fun a hA=>?_
     refine o_nil<|⟨(.inr ((hth1 _ _ hI).sl [0,4] rfl)),?_⟩
     refine gF 9 rfl ?_
     refine o_st (j:=2) [] [[.int .u32 0],[Sn],[Sn],[.int .u32 0]] [[.int .u32 1],[(.slice (some ⟨g4,0,none⟩) 1 1)],[(.slice (some ⟨g3,0,none⟩) 1 1)],[.int .u32 0]] [] sz151 rfl rfl (fl_cons (oneC rfl) (fl_cons (oneC (own_one hI (j:=0) rfl)) (fl_cons (oneC (own_one hI (j:=1) rfl)) (fl_cons (oneC rfl) fl_nil)))) hI rfl hA rfl rfl rfl rfl fun w hI=>?_
     refine o_nil<|⟨(.inr ((hth1 _ _ hI).sl [0,4] rfl)),?_⟩
     refine gN ?_
     cases sJ H
     exact ⟨μ2,v2,(.slice (some ⟨g4,0,none⟩) 1 1),cs5,(.slice (some ⟨g3,0,none⟩) 1 1),cs4,hle2,hS1,(in_lit .u32 1 rfl),hE5,hE4,hA.sub ⟨rfl,rfl,trivial⟩,hI⟩
   ·skip
    have hE4:Els (ROut μ) 33 ([(⟨x1,x2⟩:Out)]:List Out) _:=(Els.cons (c:=[[.int .u64 x1],av .u8 32 x2].flatten) ⟨rfl,⟨hx1,hx2⟩⟩ rfl Els.nil)
    refine o_bsl ([[.int .u64 x1],av .u8 32 x2].flatten++([])) te223 zr223 U149 hI hA rfl rfl rfl rfl (by kernel_rfl) rfl fun g3 a w hA hI=>?_
    generalize hcs:([[.int .u64 x1],av .u8 32 x2].flatten++([]):List Value)=cs4 at hE4 hI
    clear hcs
    refine o_nil<|⟨(.inr (hI.sl [1,3] rfl)),?_⟩
    refine gF 0 rfl ?_
    obtain ⟨r2,hr2,H⟩:=bB H
    refine o_callp (u:=.agg [av .u8 32 r2.Tx,[.int .u32 r2.N]].flatten.toArray) cf125 hA rfl hI (q1_Null.c μ _ hI.agr  r2 hr2) rfl fun a w hz3 hI hA=>?_
    refine o_nil<|⟨(.inr (hI.sl [1,3] rfl)),?_⟩
    refine gF 2 rfl ?_
    refine stp hA (r_bldS (cs:=[av .u8 32 r2.Tx,[.int .u32 r2.N],[v2],[.int .u32 4294967295]].flatten.toArray) (pl:=[(0,33),(33,1),(34,1)]) zr220 U220 ⟨rfl,sz218,rfl,sz122,rfl,sz23,trivial⟩ hA rfl ((fill_seg [] [av .u8 32 Z32,[.int .u32 0]] [av .u8 32 r2.Tx,[.int .u32 r2.N]] [[Sn],[.int .u32 0]] rfl rfl rfl rfl rfl).trans ((fill_seg [av .u8 32 r2.Tx,[.int .u32 r2.N]] [[Sn]] [[v2]] [[.int .u32 0]] (own_cell hI (j:=1) rfl) rfl rfl rfl rfl).trans ((fill_seg [av .u8 32 r2.Tx,[.int .u32 r2.N],[v2]] [[.int .u32 0]] [[.int .u32 4294967295]] [] rfl rfl rfl rfl rfl).trans (rfl))))) rfl fun a hA=>?_
    refine o_nil<|⟨(.inr (hI.sl [1,3] rfl)),?_⟩
    refine gF 3 rfl ?_
    obtain ⟨μ2,hle2,hsv2,hI,hth1⟩:=hI.freezeRowT 1 rfl
    have hS1:Slc (RI .u8) 1 μ2 v2 (r1++x3):=⟨_,hE3,hsv2⟩
    have hE5:Els (RIn μ2) 35 ([(⟨r2,r1++x3,4294967295⟩:In)]:List In) _:=(Els.cons (c:=[av .u8 32 r2.Tx,[.int .u32 r2.N],[v2],[.int .u32 4294967295]].flatten) ⟨v2,rfl,⟨hz3.1,hz3.2,hS1,(in_lit .u32 4294967295 rfl)⟩⟩ rfl Els.nil)
    refine o_bsl ([av .u8 32 r2.Tx,[.int .u32 r2.N],[v2],[.int .u32 4294967295]].flatten++([])) te220 zr220 U148 hI hA rfl rfl rfl rfl (by kernel_rfl) rfl fun g4 a w hA hI=>?_
    generalize hcs:([av .u8 32 r2.Tx,[.int .u32 r2.N],[v2],[.int .u32 4294967295]].flatten++([]):List Value)=cs5 at hE5 hI
    clear hcs
    refine o_nil<|⟨(.inr ((hth1 _ _ hI).sl [0,4] rfl)),?_⟩
    refine gF 8 rfl ?_
    refine stp hA (r_bldS (cs:=[[.int .u32 1],[(.slice (some ⟨g4,0,none⟩) 1 1)],[(.slice (some ⟨g3,0,none⟩) 1 1)],[.int .u32 0]].flatten.toArray) (pl:=[(0,1),(1,1),(2,1),(3,1)]) zr151 U151 ⟨rfl,sz23,rfl,sz148,rfl,sz149,rfl,sz23,trivial⟩ hA rfl ((fill_one rfl rfl (by kernel_rfl)).trans ((fill_one (own_cell hI (j:=0) rfl) rfl (by kernel_rfl)).trans ((fill_one (own_cell hI (j:=1) rfl) rfl (by kernel_rfl)).trans (by kernel_rfl))))) rfl fun a hA=>?_
    refine o_nil<|⟨(.inr ((hth1 _ _ hI).sl [0,4] rfl)),?_⟩
    refine gF 9 rfl ?_
    refine o_st (j:=2) [] [[.int .u32 0],[Sn],[Sn],[.int .u32 0]] [[.int .u32 1],[(.slice (some ⟨g4,0,none⟩) 1 1)],[(.slice (some ⟨g3,0,none⟩) 1 1)],[.int .u32 0]] [] sz151 rfl rfl (fl_cons (oneC rfl) (fl_cons (oneC (own_one hI (j:=0) rfl)) (fl_cons (oneC (own_one hI (j:=1) rfl)) (fl_cons (oneC rfl) fl_nil)))) hI rfl hA rfl rfl rfl rfl fun w hI=>?_
    refine o_nil<|⟨(.inr ((hth1 _ _ hI).sl [0,4] rfl)),?_⟩
    refine gN ?_
    cases sJ H
    exact ⟨μ2,v2,(.slice (some ⟨g4,0,none⟩) 1 1),cs5,(.slice (some ⟨g3,0,none⟩) 1 1),cs4,hle2,hS1,(in_lit .u32 1 rfl),hE5,hE4,hA.sub ⟨rfl,rfl,trivial⟩,hI⟩
 ·rintro a w ⟨μ1,vvc1,vvc3,ccc3,vvc4,ccc4,hle1,wc1,wc2,wc3,wc4,hA,hI⟩
  have H:=Hk1
  refine w_ret ?_
  obtain ⟨μ3,hle3,hsv3,hI⟩:=hI.freezeRow 0 rfl
  have hS2:Slc (RIn μ3) 35 μ3 vvc3 c3:=⟨_,(Els.mono wc3 (fun _ _ h=>RIn.le hle3 h)),hsv3⟩
  obtain ⟨μ4,hle4,hsv4,hI⟩:=hI.freezeRow 0 rfl
  have hS3:Slc (ROut μ4) 33 μ4 vvc4 c4:=⟨_,wc4,hsv4⟩
  obtain rfl:=sJ H
  exact retc U151 rfl sz151 rfl hI (j:=0) rfl hA Tryz.results85 rfl ⟨_,rfl,vvc3,vvc4,μ4,rfl,⟨wc2,(Slc.le hS2 (fun _ _ h=>RIn.le hle4 h) hle4),hS3,(in_lit .u32 0 rfl)⟩,(hI.sl [] rfl)⟩
theorem q1_Start.c (μ:Store)(w0:World)(hμ:Agr μ w0)(r:Block)(H:q1_Start.f=some r) :
  Calls Tryz.prog 49 [].toArray w0 (fun e w'=>∃ v,e=.returned v∧∃(v0_0:Value)(μ':Store),v=.agg [[.int .u32 r.Head.Version],av .u8 32 r.Head.Prev,av .u8 32 r.Head.Root,[.int .u32 r.Head.Time],[.int .u32 r.Head.Work],[.int .u32 r.Head.Nonce],[v0_0]].flatten.toArray∧BlockW μ' r v0_0∧Iv w0 [] μ μ' [] w'):=by
 refine enter Tryz.func49 rfl Tryz.ntmps49 rfl fun a hA=>?_
 have hI:=Iv.start hμ
 have H:=bI H
 refine w_seq fun _ hN1=>w_reg<|o_new [[.int .u32 0],av .u8 32 Z32,av .u8 32 Z32,[.int .u32 0],[.int .u32 0],[.int .u32 0],[Sn]] zr89 hI hA rfl fun g1 a w hA hI hg1=>?_
 refine o_nil<|hN1 _ _<|w_seq fun _ hN2=>w_reg<|stp hA (r_bldS (cs:=[[.int .u32 1],av .u8 32 Z32,av .u8 32 Z32,[.int .u32 1000],[.int .u32 1],[.int .u32 0]].flatten.toArray) (pl:=[(0,1),(1,32),(33,32),(65,1),(66,1),(67,1)]) zr27 U27 ⟨rfl,sz23,rfl,sz25,rfl,sz25,rfl,sz23,rfl,sz23,rfl,sz23,trivial⟩ hA rfl (by kernel_rfl)) rfl fun a hA=>?_
 obtain ⟨r1,hr1,H⟩:=bB H
 refine o_callp (u:=.agg [av .u8 32 r1].flatten.toArray) cf86 hA rfl hI (q1_Sha.c μ _ hI.agr ([]) Sn (slc_nil _ _ _) r1 hr1) rfl fun a w hz1 hI hA=>?_
 obtain ⟨r2,hr2,H⟩:=bB H
 refine o_call _ cf85 hA rfl (q1_First.c μ _ hI.agr 0 (in_lit .i64 0 rfl) 0 (in_lit .u64 0 rfl) r1 hz1 ([]) Sn (slc_nil _ _ _) r2 hr2) rfl fun v1 a w hz2 hA=>?_
 obtain ⟨v2,v3,μ1,rfl,hw1,hi1⟩:=hz2
 have hI:=hI.call hi1
 have hE1:Els (RTx μ1) 4 ([r2]:List Tx) _:=(Els.cons (c:=[[.int .u32 r2.Version],[v2],[v3],[.int .u32 r2.Time]].flatten) ⟨v2,v3,rfl,⟨hw1.1,hw1.2.1,hw1.2.2.1,hw1.2.2.2⟩⟩ rfl Els.nil)
 refine o_bsl ([[.int .u32 r2.Version],[v2],[v3],[.int .u32 r2.Time]].flatten++([])) te151 zr151 U81 hI hA rfl rfl rfl rfl (by kernel_rfl) rfl fun g2 a w hA hI=>?_
 generalize hcs:([[.int .u32 r2.Version],[v2],[v3],[.int .u32 r2.Time]].flatten++([]):List Value)=cs1 at hE1 hI
 clear hcs
 refine stp hA (r_bldS (cs:=[[.int .u32 1],av .u8 32 Z32,av .u8 32 Z32,[.int .u32 1000],[.int .u32 1],[.int .u32 0],[(.slice (some ⟨g2,0,none⟩) 1 1)]].flatten.toArray) (pl:=[(0,68),(68,1)]) zr89 U89 ⟨rfl,sz27,rfl,sz81,trivial⟩ hA rfl ((fill_seg [] [[.int .u32 0],av .u8 32 Z32,av .u8 32 Z32,[.int .u32 0],[.int .u32 0],[.int .u32 0]] [[.int .u32 1],av .u8 32 Z32,av .u8 32 Z32,[.int .u32 1000],[.int .u32 1],[.int .u32 0]] [[Sn]] rfl rfl rfl rfl rfl).trans ((fill_seg [[.int .u32 1],av .u8 32 Z32,av .u8 32 Z32,[.int .u32 1000],[.int .u32 1],[.int .u32 0]] [[Sn]] [[(.slice (some ⟨g2,0,none⟩) 1 1)]] [] (own_cell hI (j:=0) rfl) rfl rfl rfl rfl).trans (rfl)))) rfl fun a hA=>?_
 obtain ⟨μ2,hle1,hsv1,hI⟩:=hI.freezeRow 0 rfl
 have hS1:Slc (RTx μ2) 4 μ2 (.slice (some ⟨g2,0,none⟩) 1 1) ([r2]:List Tx):=⟨_,(Els.mono hE1 (fun _ _ h=>RTx.le hle1 h)),hsv1⟩
 obtain ⟨r3,hr3,H⟩:=bB H
 refine o_call _ cf84 hA rfl (q1_Rooted.c μ2 _ hI.agr (⟨(⟨1,Z32,Z32,1000,1,0⟩:Head),([r2]:List Tx)⟩:Block) (.slice (some ⟨g2,0,none⟩) 1 1) ⟨(in_lit .u32 1 rfl),(arr_zero _ _),(arr_zero _ _),(in_lit .u32 1000 rfl),(in_lit .u32 1 rfl),(in_lit .u32 0 rfl),hS1⟩ r3 hr3) rfl fun v4 a w hz3 hA=>?_
 obtain ⟨v5,μ3,rfl,hw2,hi2⟩:=hz3
 have hI:=hI.call hi2
 obtain ⟨_,hsl1⟩:=Slc.sv hw2.2.2.2.2.2.2
 refine o_st (j:=0) [] [[.int .u32 0],av .u8 32 Z32,av .u8 32 Z32,[.int .u32 0],[.int .u32 0],[.int .u32 0],[Sn]] [[.int .u32 r3.Head.Version],av .u8 32 r3.Head.Prev,av .u8 32 r3.Head.Root,[.int .u32 r3.Head.Time],[.int .u32 r3.Head.Work],[.int .u32 r3.Head.Nonce],[v5]] [] sz89 rfl rfl (fl_cons (oneC rfl) (fl_cons (one_av _ _ _) (fl_cons (one_av _ _ _) (fl_cons (oneC rfl) (fl_cons (oneC rfl) (fl_cons (oneC rfl) (fl_cons (oneC (one_sl hsl1)) fl_nil))))))) hI rfl hA rfl rfl rfl rfl fun w hI=>?_
 refine o_nil<|hN2 _ _<|w_ret ?_
 obtain rfl:=sJ H
 exact retc U89 rfl sz89 rfl hI (j:=0) rfl hA Tryz.results49 rfl ⟨_,rfl,v5,μ3,rfl,⟨hw2.1,hw2.2.1,hw2.2.2.1,hw2.2.2.2.1,hw2.2.2.2.2.1,hw2.2.2.2.2.2.1,hw2.2.2.2.2.2.2⟩,(hI.sl [] rfl)⟩
theorem q1_HeadBytes.c (μ:Store)(w0:World)(hμ:Agr μ w0)(x0:Head)(hx0:HeadW μ x0)(r:List Int)(H:q1_HeadBytes.f x0=some r) :
  Calls Tryz.prog 55 [.agg [[.int .u32 x0.Version],av .u8 32 x0.Prev,av .u8 32 x0.Root,[.int .u32 x0.Time],[.int .u32 x0.Work],[.int .u32 x0.Nonce]].flatten.toArray].toArray w0 (fun e w'=>∃ v,e=.returned v∧∃(v0:Value)(c0:List Value),v=v0∧Els (RI .u8) 1 r c0∧Iv w0 [] μ μ [row 5 1 v0 r.length c0] w'):=by
 refine enter Tryz.func55 rfl Tryz.ntmps55 rfl fun a hA=>?_
 have hI:=Iv.start hμ
 have H:=bI H
 refine w_seq fun _ hN1=>w_reg<|o_box [[.int .u32 x0.Version],av .u8 32 x0.Prev,av .u8 32 x0.Root,[.int .u32 x0.Time],[.int .u32 x0.Work],[.int .u32 x0.Nonce]] hI hA rfl rfl rfl fun g1 a w hA hI hg1 =>
  sta hA rfl rfl fun a hA=>?_
 refine o_nil<|hN1 _ _<|w_seq fun _ hN2=>?_
 refine w_anyS [] mo (fun w (h:Iv w0 [] μ μ [cel g1 [[.int .u32 x0.Version],av .u8 32 x0.Prev,av .u8 32 x0.Root,[.int .u32 x0.Time],[.int .u32 x0.Work],[.int .u32 x0.Nonce]] 27] w)=>(h.sl [0] rfl:Iv w0 [] μ μ [cel g1 [[.int .u32 x0.Version],av .u8 32 x0.Prev,av .u8 32 x0.Root,[.int .u32 x0.Time],[.int .u32 x0.Work],[.int .u32 x0.Nonce]] 27] w)) hI fun w hI=>?_
 refine gE 0 hA rfl (.inr hI) (fun _=>r_fd (k:=0) U27 rfl sz23 hA rfl rfl) fun a hA=>?_
 refine gT 1 hA rfl hI (fun w hI=>r_ld1 (j:=0) [] [av .u8 32 x0.Prev,av .u8 32 x0.Root,[.int .u32 x0.Time],[.int .u32 x0.Work],[.int .u32 x0.Nonce]] U23 rfl hI rfl hA rfl rfl) fun a hA=>?_
 refine gE 3 hA rfl (.inr hI) (fun _=>r_fd (k:=1) U27 rfl sz25 hA rfl rfl) fun a hA=>?_
 refine gE 4 hA rfl (.inr hI) (fun _=>r_slv (i:=0) (j:=32) U25 sz5 hA rfl rfl rfl (by decide) (by decide) (by decide) (by decide) rfl) fun a hA=>?_
 refine gF 2 rfl ?_
 have hI:=hI.nilRow 5 1
 obtain ⟨r1,hr1,H⟩:=bB H
 refine o_call _ cf91 hA rfl (q1_Four.c μ _ hI.agr ([]:List Int) Sn ([]) (Els.nil (RE:=(RI .u8)) (sz:=1)) (hI.item (j:=0) rfl) x0.Version hx0.1 r1 hr1) rfl fun v1 a w hz1 hA=>?_
 obtain ⟨_,cs1,rfl,hE1,hi1⟩:=hz1
 have hI:=hI.call1 0 rfl hi1
 refine o_nil<|⟨(.inr (hI.sl [1] rfl)),?_⟩
 refine gF 5 rfl ?_
 have hE2:=els_av hx0.2.1
 obtain ⟨hb1,H⟩:=bG H
 have hE3:=hE1.app hE2
 refine o_appG (xs:=(r1:List Int)) (ys:=(x0.Prev:List Int)) (M:=140737488355328) 0 te5 U122 hI rfl hA rfl rfl (by simpa using src_cel [[.int .u32 x0.Version]] [av .u8 32 x0.Root,[.int .u32 x0.Time],[.int .u32 x0.Work],[.int .u32 x0.Nonce]] hI (j:=1) rfl hx0.2.1 rfl) hE2.len (hE2.ones (one_RI _)) hb1 rfl fun v2 a w hA hI=>?_
 refine o_nil<|⟨(.inr (hI.sl [1] rfl)),?_⟩
 refine gE 6 hA rfl (.inr (hI.sl [1] rfl)) (fun _=>r_as hA rfl) fun a hA=>?_
 refine gN<|hN2 _ _<|w_seq fun _ hN3=>w_reg<|stm hA rfl rfl fun a hA =>
  stp hA (r_fd (k:=33) U27 rfl sz25 hA rfl rfl) rfl fun a hA =>
  stp hA (r_slv (i:=0) (j:=32) U25 sz5 hA rfl rfl rfl (by decide) (by decide) (by decide) (by decide) rfl) rfl fun a hA=>?_
 have hE4:=els_av hx0.2.2.1
 obtain ⟨hb2,H⟩:=bG H
 have hE5:=hE3.app hE4
 refine o_appG (xs:=(r1++x0.Prev:List Int)) (ys:=(x0.Root:List Int)) (M:=140737488355328) 0 te5 U122 hI rfl hA rfl rfl (by simpa [av_len] using src_cel [[.int .u32 x0.Version],av .u8 32 x0.Prev] [[.int .u32 x0.Time],[.int .u32 x0.Work],[.int .u32 x0.Nonce]] hI (j:=1) rfl hx0.2.2.1 rfl) hE4.len (hE4.ones (one_RI _)) hb2 rfl fun v3 a w hA hI =>
  sta hA rfl rfl fun a hA=>?_
 refine o_nil<|hN3 _ _<|w_seq fun _ hN4=>?_
 refine w_anyS [] mo (fun w (h:Iv w0 [] μ μ [row 5 1 v3 ((r1++x0.Prev)++x0.Root).length ((cs1++([av .u8 32 x0.Prev].flatten))++([av .u8 32 x0.Root].flatten)),cel g1 [[.int .u32 x0.Version],av .u8 32 x0.Prev,av .u8 32 x0.Root,[.int .u32 x0.Time],[.int .u32 x0.Work],[.int .u32 x0.Nonce]] 27] w)=>(h.sl [1] rfl:Iv w0 [] μ μ [cel g1 [[.int .u32 x0.Version],av .u8 32 x0.Prev,av .u8 32 x0.Root,[.int .u32 x0.Time],[.int .u32 x0.Work],[.int .u32 x0.Nonce]] 27] w)) hI fun w hI=>?_
 refine gE 0 hA rfl (.inr (hI.sl [1] rfl)) (fun _=>r_mv hA rfl) fun a hA=>?_
 refine gE 1 hA rfl (.inr (hI.sl [1] rfl)) (fun _=>r_fd (k:=65) U27 rfl sz23 hA rfl rfl) fun a hA=>?_
 refine gT 2 hA rfl (hI.sl [1] rfl) (fun w hI=>r_ld1 (j:=0) [[.int .u32 x0.Version],av .u8 32 x0.Prev,av .u8 32 x0.Root] [[.int .u32 x0.Work],[.int .u32 x0.Nonce]] U23 rfl hI rfl hA rfl rfl) fun a hA=>?_
 refine gE 4 hA rfl (.inr (hI.sl [1] rfl)) (fun _=>r_fd (k:=66) U27 rfl sz23 hA rfl rfl) fun a hA=>?_
 refine gT 5 hA rfl (hI.sl [1] rfl) (fun w hI=>r_ld1 (j:=0) [[.int .u32 x0.Version],av .u8 32 x0.Prev,av .u8 32 x0.Root,[.int .u32 x0.Time]] [[.int .u32 x0.Nonce]] U23 rfl hI rfl hA rfl rfl) fun a hA=>?_
 refine gE 7 hA rfl (.inr (hI.sl [1] rfl)) (fun _=>r_fd (k:=67) U27 rfl sz23 hA rfl rfl) fun a hA=>?_
 refine gT 8 hA rfl (hI.sl [1] rfl) (fun w hI=>r_ld1 (j:=0) [[.int .u32 x0.Version],av .u8 32 x0.Prev,av .u8 32 x0.Root,[.int .u32 x0.Time],[.int .u32 x0.Work]] [] U23 rfl hI rfl hA rfl rfl) fun a hA=>?_
 refine gF 3 rfl ?_
 obtain ⟨r2,hr2,H⟩:=bB H
 refine o_call _ cf91 hA rfl (q1_Four.c μ _ hI.agr ((r1++x0.Prev)++x0.Root) v3 ((cs1++([av .u8 32 x0.Prev].flatten))++([av .u8 32 x0.Root].flatten)) hE5 (hI.item (j:=0) rfl) x0.Time hx0.2.2.2.1 r2 hr2) rfl fun v4 a w hz2 hA=>?_
 obtain ⟨_,cs6,rfl,hE6,hi2⟩:=hz2
 have hI:=hI.call1 0 rfl hi2
 refine o_nil<|⟨(.inr (hI.sl [1] rfl)),?_⟩
 refine gF 6 rfl ?_
 obtain ⟨r3,hr3,H⟩:=bB H
 refine o_call _ cf91 hA rfl (q1_Four.c μ _ hI.agr r2 v4 cs6 hE6 (hI.item (j:=0) rfl) x0.Work hx0.2.2.2.2.1 r3 hr3) rfl fun v5 a w hz3 hA=>?_
 obtain ⟨_,cs7,rfl,hE7,hi3⟩:=hz3
 have hI:=hI.call1 0 rfl hi3
 refine o_nil<|⟨(.inr (hI.sl [1] rfl)),?_⟩
 refine gF 9 rfl ?_
 obtain ⟨r4,hr4,H⟩:=bB H
 refine o_call _ cf91 hA rfl (q1_Four.c μ _ hI.agr r3 v5 cs7 hE7 (hI.item (j:=0) rfl) x0.Nonce hx0.2.2.2.2.2 r4 hr4) rfl fun v6 a w hz4 hA=>?_
 obtain ⟨_,cs8,rfl,hE8,hi4⟩:=hz4
 have hI:=hI.call1 0 rfl hi4
 refine o_nil<|⟨(.inr (hI.sl [1] rfl)),?_⟩
 refine gE 10 hA rfl (.inr (hI.sl [1] rfl)) (fun _=>r_as hA rfl) fun a hA=>?_
 refine gN<|hN4 _ _<|w_ret ?_
 obtain rfl:=sJ H
 exact ret1 hA Tryz.results55 rfl ⟨_,rfl,v6,cs8,rfl,hE8,((hI.sl [0] rfl).less (Store.le.refl _) hI.le)⟩
theorem q1_HeadID.c (μ:Store)(w0:World)(hμ:Agr μ w0)(x0:Head)(hx0:HeadW μ x0)(r:List Int)(H:q1_HeadID.f x0=some r) :
  Calls Tryz.prog 13 [.agg [[.int .u32 x0.Version],av .u8 32 x0.Prev,av .u8 32 x0.Root,[.int .u32 x0.Time],[.int .u32 x0.Work],[.int .u32 x0.Nonce]].flatten.toArray].toArray w0 (fun e w'=>∃ v,e=.returned v∧v=.agg [av .u8 32 r].flatten.toArray∧Arr .u8 32 r∧Iv w0 [] μ μ [] w'):=by
 refine enter Tryz.func13 rfl Tryz.ntmps13 rfl fun a hA=>?_
 have hI:=Iv.start hμ
 have H:=bI H
 refine w_seq fun _ hN1=>w_reg<|o_box [[.int .u32 x0.Version],av .u8 32 x0.Prev,av .u8 32 x0.Root,[.int .u32 x0.Time],[.int .u32 x0.Work],[.int .u32 x0.Nonce]] hI hA rfl rfl rfl fun g1 a w hA hI hg1 =>
  o_new [av .u8 32 Z32] zr25 hI hA rfl fun g2 a w hA hI hg2=>?_
 refine o_nil<|hN1 _ _<|w_seq fun _ hN2=>w_reg<|stp hA (r_ldA (j:=1) [] [[.int .u32 x0.Version],av .u8 32 x0.Prev,av .u8 32 x0.Root,[.int .u32 x0.Time],[.int .u32 x0.Work],[.int .u32 x0.Nonce]] [] U27 rfl sz27 rfl hI rfl hA rfl rfl) rfl fun a hA=>?_
 obtain ⟨r1,hr1,H⟩:=bB H
 refine o_call _ cf55 hA rfl (q1_HeadBytes.c μ _ hI.agr x0 ⟨hx0.1,hx0.2.1,hx0.2.2.1,hx0.2.2.2.1,hx0.2.2.2.2.1,hx0.2.2.2.2.2⟩ r1 hr1) rfl fun v1 a w hz1 hA=>?_
 obtain ⟨_,cs1,rfl,hE1,hi1⟩:=hz1
 have hI:=hI.call hi1
 obtain ⟨r2,hr2,H⟩:=bB H
 refine o_callp (u:=.agg [av .u8 32 r2].flatten.toArray) cf54 hA rfl hI ((by obtain ⟨μ1,hle1,hsv1,hI⟩:=hI.freezeRow 0 rfl;have hS1:Slc (RI .u8) 1 μ1 v1 r1:=⟨_,hE1,hsv1⟩;exact low_plain hle1 (q1_Twice.c μ1 _ hI.agr r1 v1 hS1 r2 hr2))) rfl fun a w hz2 hI hA =>
  o_st (j:=1) [] [av .u8 32 Z32] [av .u8 32 r2] [] sz25 rfl rfl (fl_cons (one_av _ _ _) fl_nil) hI rfl hA rfl rfl rfl rfl fun w hI=>?_
 refine o_nil<|hN2 _ _<|w_ret ?_
 obtain rfl:=sJ H
 exact retc U25 rfl sz25 rfl hI (j:=1) rfl hA Tryz.results13 rfl ⟨_,rfl,rfl,hz2,hI.forget0⟩
noncomputable def sargassoref8_NewTree.f (x0:Head):Option sargassoref8Tree:=((q1_HeadID.f x0).bind fun r1=>some (⟨([(⟨r1,x0,(-1),0,IntKind.u64.wrap x0.Work,false⟩:sargassoref8Node)]:List sargassoref8Node)⟩:sargassoref8Tree))
noncomputable def sargassoref8_Tree_Find.s0 (x0:sargassoref8Tree)(x1:List Int):Int→Option (Int⊕Int):=fun s1=>(if s1 < (x0.l.length:Int) then (if 0≤s1∧s1 < (x0.l.length:Int) then ((q0_SameHash.f ((x0.l.getD s1.toNat default).id) x1).bind fun r1=>(if r1=true then some (.inr s1) else some (.inl (IntKind.i64.wrap (s1+1))))) else none) else some (.inr (-1)))
noncomputable def sargassoref8_Tree_Find.f (x0:sargassoref8Tree)(x1:List Int):Option Int:=loopO (sargassoref8_Tree_Find.s0 x0 x1) 0
noncomputable def sargassoref8_Tree_Add.f (x0:sargassoref8Tree)(x1:Head):Option (Int×sargassoref8Tree):=((q1_HeadID.f x1).bind fun r1=>((sargassoref8_Tree_Find.f (⟨x0.l⟩:sargassoref8Tree) r1).bind fun r2=>(if 0≤r2 then some (109,(⟨x0.l⟩:sargassoref8Tree)) else ((sargassoref8_Tree_Find.f (⟨x0.l⟩:sargassoref8Tree) x1.Prev).bind fun r3=>(if r3 < 0 then some (110,(⟨x0.l⟩:sargassoref8Tree)) else (if 4096≤(x0.l.length:Int) then some (121,(⟨x0.l⟩:sargassoref8Tree)) else (if 0≤r3∧r3 < (x0.l.length:Int) then (if x0.l.length+1≤977343669134 then some (0,(⟨x0.l++([(⟨r1,x1,r3,IntKind.i64.wrap (((x0.l.getD r3.toNat default).height)+1),IntKind.u64.wrap (((x0.l.getD r3.toNat default).work)+(IntKind.u64.wrap x1.Work)),(x0.l.getD r3.toNat default).bad⟩:sargassoref8Node)]:List sargassoref8Node)⟩:sargassoref8Tree)) else none) else none)))))))
noncomputable def sargassoref8_Tree_Of.f (x0:sargassoref8Tree)(x1:List Int):Option (Head×Int×Int×Bool):=((sargassoref8_Tree_Find.f (⟨x0.l⟩:sargassoref8Tree) x1).bind fun r1=>(if r1 < 0 then some ((⟨0,(List.replicate 32 0),(List.replicate 32 0),0,0,0⟩:Head),0,0,false) else (if 0≤r1∧r1 < (x0.l.length:Int) then some ((x0.l.getD r1.toNat default).h,(x0.l.getD r1.toNat default).height,(x0.l.getD r1.toNat default).work,true) else none)))
def sargassoref8_Tree_Ancestor.s0 (x0:sargassoref8Tree)(x2:Int):Int→Option (Int⊕Int):=fun s1=>(((if 0≤s1 then (if 0≤s1∧s1 < (x0.l.length:Int) then some (decide (((x0.l.getD s1.toNat default).height)≠x2)) else none) else some false)).bind fun c2=>(if c2=true then (if 0≤s1∧s1 < (x0.l.length:Int) then some (.inl ((x0.l.getD s1.toNat default).parent)) else none) else some (.inr s1)))
noncomputable def sargassoref8_Tree_Ancestor.f (x0:sargassoref8Tree)(x1:List Int)(x2:Int):Option ((List Int)×Bool):=((sargassoref8_Tree_Find.f (⟨x0.l⟩:sargassoref8Tree) x1).bind fun r1=>((loopO (sargassoref8_Tree_Ancestor.s0 x0 x2) r1).bind fun c1=>(if c1 < 0 then some ([0,0,0,0,0,0,0,0,0,0,0,0,0,0,0,0,0,0,0,0,0,0,0,0,0,0,0,0,0,0,0,0],false) else (if 0≤c1∧c1 < (x0.l.length:Int) then some ((x0.l.getD c1.toNat default).id,true) else none))))
def sargassoref8_Tree_below.s0 (x0:sargassoref8Tree)(x2:Int):Int→Option (Int⊕Bool):=fun s1=>(if 0≤s1 then (if s1=x2 then some (.inr true) else (if 0≤s1∧s1 < (x0.l.length:Int) then some (.inl ((x0.l.getD s1.toNat default).parent)) else none)) else some (.inr false))
noncomputable def sargassoref8_Tree_below.f (x0:sargassoref8Tree)(x1 x2:Int):Option Bool:=loopO (sargassoref8_Tree_below.s0 x0 x2) x1
noncomputable def sargassoref8_Tree_Under.s0 (x0:sargassoref8Tree)(r1:Int):((List (List Int))×Int)→Option (((List (List Int))×Int)⊕(List (List Int))):=fun (s1,s2)=>(((if s2 < (x0.l.length:Int) then some (decide (0≤r1)) else some false)).bind fun c2=>(if c2=true then ((((sargassoref8_Tree_below.f (⟨x0.l⟩:sargassoref8Tree) s2 r1).bind fun r2=>(if r2=true then (if 0≤s2∧s2 < (x0.l.length:Int) then ((q0_PutHash.f s1 ((x0.l.getD s2.toNat default).id)).bind fun r3=>some r3) else none) else some s1))).bind fun c3=>some (.inl (c3,IntKind.i64.wrap (s2+1)))) else some (.inr s1)))
noncomputable def sargassoref8_Tree_Under.f (x0:sargassoref8Tree)(x1:List Int):Option (List (List Int)):=((sargassoref8_Tree_Find.f (⟨x0.l⟩:sargassoref8Tree) x1).bind fun r1=>((loopO (sargassoref8_Tree_Under.s0 x0 r1) (([]:List (List Int)),0)).bind fun c1=>some c1))
def sargassoref8_Tree_up.s0 (x0:sargassoref8Tree):(Int×(List Int))→Option ((Int×(List Int))⊕(Int×(List Int))):=fun (s1,s2)=>(if 0≤s1 then (if s2.length+1≤17592186044416 then (if 0≤s1∧s1 < (x0.l.length:Int) then some (.inl ((x0.l.getD s1.toNat default).parent,s2++([s1]:List Int))) else none) else none) else some (.inr (s1,s2)))
noncomputable def sargassoref8_Tree_up.f (x0:sargassoref8Tree)(x1:Int):Option (List Int):=((loopO (sargassoref8_Tree_up.s0 x0) (x1,([]:List Int))).bind fun (c1,c2)=>some c2)
def sargassoref8_Tree_Path.s2 (x0:sargassoref8Tree)(r4:List Int):((List (List Int))×Int)→Option (((List (List Int))×Int)⊕(List (List Int))):=fun (s4,s5)=>(if 0≤s5 then (if 0≤s5∧s5 < (r4.length:Int) then (if 0≤r4.getD s5.toNat 0∧r4.getD s5.toNat 0 < (x0.l.length:Int) then (if s4.length+1≤4398046511104 then some (.inl (s4++([(x0.l.getD (r4.getD s5.toNat 0).toNat default).id]:List (List Int)),IntKind.i64.wrap (s5 - 1))) else none) else none) else none) else some (.inr s4))
def sargassoref8_Tree_Path.s1 (x0:sargassoref8Tree)(r3:List Int)(c2:Int):((List (List Int))×Int)→Option (((List (List Int))×Int)⊕(List (List Int))):=fun (s2,s3)=>(if s3 < (IntKind.i64.wrap ((r3.length:Int) - c2)) then (if 0≤s3∧s3 < (r3.length:Int) then (if 0≤r3.getD s3.toNat 0∧r3.getD s3.toNat 0 < (x0.l.length:Int) then (if s2.length+1≤4398046511104 then some (.inl (s2++([(x0.l.getD (r3.getD s3.toNat 0).toNat default).id]:List (List Int)),IntKind.i64.wrap (s3+1))) else none) else none) else none) else some (.inr s2))
def sargassoref8_Tree_Path.s0 (r3 r4:List Int):Int→Option (Int⊕Int):=fun s1=>(((if s1 < (r3.length:Int) then (if s1 < (r4.length:Int) then (if 0≤IntKind.i64.wrap ((IntKind.i64.wrap ((r3.length:Int) - 1)) - s1)∧IntKind.i64.wrap ((IntKind.i64.wrap ((r3.length:Int) - 1)) - s1) < (r3.length:Int) then (if 0≤IntKind.i64.wrap ((IntKind.i64.wrap ((r4.length:Int) - 1)) - s1)∧IntKind.i64.wrap ((IntKind.i64.wrap ((r4.length:Int) - 1)) - s1) < (r4.length:Int) then some (decide ((r3.getD (IntKind.i64.wrap ((IntKind.i64.wrap ((r3.length:Int) - 1)) - s1)).toNat 0)=(r4.getD (IntKind.i64.wrap ((IntKind.i64.wrap ((r4.length:Int) - 1)) - s1)).toNat 0))) else none) else none) else some false) else some false)).bind fun c3=>(if c3=true then some (.inl (IntKind.i64.wrap (s1+1))) else some (.inr s1)))
noncomputable def sargassoref8_Tree_Path.f (x0:sargassoref8Tree)(x1 x2:List Int):Option ((List (List Int))×(List (List Int))×(List Int)×Bool):=((sargassoref8_Tree_Find.f (⟨x0.l⟩:sargassoref8Tree) x1).bind fun r1=>((sargassoref8_Tree_Find.f (⟨x0.l⟩:sargassoref8Tree) x2).bind fun r2=>(((if r1 < 0 then some true else some (decide (r2 < 0)))).bind fun c1=>(if c1=true then some (([]:List (List Int)),([]:List (List Int)),[0,0,0,0,0,0,0,0,0,0,0,0,0,0,0,0,0,0,0,0,0,0,0,0,0,0,0,0,0,0,0,0],false) else ((sargassoref8_Tree_up.f (⟨x0.l⟩:sargassoref8Tree) r1).bind fun r3=>((sargassoref8_Tree_up.f (⟨x0.l⟩:sargassoref8Tree) r2).bind fun r4=>((loopO (sargassoref8_Tree_Path.s0 r3 r4) 0).bind fun c2=>((loopO (sargassoref8_Tree_Path.s1 x0 r3 c2) (([]:List (List Int)),0)).bind fun c4=>((loopO (sargassoref8_Tree_Path.s2 x0 r4) (([]:List (List Int)),IntKind.i64.wrap ((IntKind.i64.wrap ((r4.length:Int) - c2)) - 1))).bind fun c5=>(if 0≤IntKind.i64.wrap ((r3.length:Int) - c2)∧IntKind.i64.wrap ((r3.length:Int) - c2) < (r3.length:Int) then (if 0≤r3.getD (IntKind.i64.wrap ((r3.length:Int) - c2)).toNat 0∧r3.getD (IntKind.i64.wrap ((r3.length:Int) - c2)).toNat 0 < (x0.l.length:Int) then some (c4,c5,(x0.l.getD (r3.getD (IntKind.i64.wrap ((r3.length:Int) - c2)).toNat 0).toNat default).id,true) else none) else none))))))))))
def sargassoref8_Tree_Len.f (x0:sargassoref8Tree):Option Int:=some (x0.l.length:Int)
def sargassoref8_Tree_Start.f (x0:sargassoref8Tree):Option (List Int):=(if 0 < (x0.l.length:Int) then some ((x0.l.getD (0:Int).toNat default).id) else none)
theorem sargassoref8_NewTree.c (μ:Store)(w0:World)(hμ:Agr μ w0)(x0:Head)(hx0:HeadW μ x0)(r:sargassoref8Tree)(H:sargassoref8_NewTree.f x0=some r) :
  Calls Tryz.prog 8 [.agg [[.int .u32 x0.Version],av .u8 32 x0.Prev,av .u8 32 x0.Root,[.int .u32 x0.Time],[.int .u32 x0.Work],[.int .u32 x0.Nonce]].flatten.toArray].toArray w0 (fun e w'=>∃ v,e=.returned v∧∃(gq_1:Nat)(vp_1:Value)(cp_1:List Value),v=pt gq_1 0∧Els (Rsargassoref8Node μ) 104 r.l cp_1∧Iv w0 [] μ μ [cel gq_1 [[vp_1]] 114,row 111 104 vp_1 r.l.length cp_1] w'):=by
 refine enter Tryz.func8 rfl Tryz.ntmps8 rfl fun a hA=>?_
 have hI:=Iv.start hμ
 have H:=bI H
 refine w_seq fun _ hN1=>w_reg<|o_box [[.int .u32 x0.Version],av .u8 32 x0.Prev,av .u8 32 x0.Root,[.int .u32 x0.Time],[.int .u32 x0.Work],[.int .u32 x0.Nonce]] hI hA rfl rfl rfl fun g1 a w hA hI hg1 =>
  sta hA rfl rfl fun a hA=>?_
 refine o_nil<|hN1 _ _<|w_seq fun _ hN2=>?_
 refine w_any [] mo hI fun w hI=>?_
 refine gT 0 hA rfl hI (fun w hI=>r_ldA (j:=0) [] [[.int .u32 x0.Version],av .u8 32 x0.Prev,av .u8 32 x0.Root,[.int .u32 x0.Time],[.int .u32 x0.Work],[.int .u32 x0.Nonce]] [] U27 rfl sz27 rfl hI rfl hA rfl rfl) fun a hA=>?_
 refine gT 2 hA rfl hI (fun w hI=>r_ldA (j:=0) [] [[.int .u32 x0.Version],av .u8 32 x0.Prev,av .u8 32 x0.Root,[.int .u32 x0.Time],[.int .u32 x0.Work],[.int .u32 x0.Nonce]] [] U27 rfl sz27 rfl hI rfl hA rfl rfl) fun a hA=>?_
 refine gE 3 hA rfl (.inr hI) (fun _=>r_fd (k:=66) U27 rfl sz23 hA rfl rfl) fun a hA=>?_
 refine gT 4 hA rfl hI (fun w hI=>r_ld1 (j:=0) [[.int .u32 x0.Version],av .u8 32 x0.Prev,av .u8 32 x0.Root,[.int .u32 x0.Time]] [[.int .u32 x0.Nonce]] U23 rfl hI rfl hA rfl rfl) fun a hA=>?_
 refine gE 5 hA rfl (.inr hI) (fun _=>r_conv U23 U45 hA rfl) fun a hA=>?_
 refine gF 1 rfl ?_
 obtain ⟨r1,hr1,H⟩:=bB H
 refine o_callp (u:=.agg [av .u8 32 r1].flatten.toArray) cf13 hA rfl hI (q1_HeadID.c μ _ hI.agr x0 ⟨hx0.1,hx0.2.1,hx0.2.2.1,hx0.2.2.2.1,hx0.2.2.2.2.1,hx0.2.2.2.2.2⟩ r1 hr1) rfl fun a w hz1 hI hA=>?_
 refine o_nil<|⟨(.inr hI),?_⟩
 refine gF 6 rfl ?_
 refine stp hA (r_bldS (cs:=[av .u8 32 r1,[.int .u32 x0.Version],av .u8 32 x0.Prev,av .u8 32 x0.Root,[.int .u32 x0.Time],[.int .u32 x0.Work],[.int .u32 x0.Nonce],[.int .i64 (-1)],[.int .i64 0],[.int .u64 (IntKind.u64.wrap x0.Work)],[.bool false]].flatten.toArray) (pl:=[(0,32),(32,68),(100,1),(101,1),(102,1),(103,1)]) zr111 U111 ⟨rfl,sz25,rfl,sz27,rfl,sz3,rfl,sz3,rfl,sz45,rfl,sz4,trivial⟩ hA rfl (by kernel_rfl)) rfl fun a hA=>?_
 refine o_nil<|⟨(.inr hI),?_⟩
 refine gF 7 rfl ?_
 have hE1:Els (Rsargassoref8Node μ) 104 ([(⟨r1,x0,(-1),0,IntKind.u64.wrap x0.Work,false⟩:sargassoref8Node)]:List sargassoref8Node) _:=(Els.cons (c:=[av .u8 32 r1,[.int .u32 x0.Version],av .u8 32 x0.Prev,av .u8 32 x0.Root,[.int .u32 x0.Time],[.int .u32 x0.Work],[.int .u32 x0.Nonce],[.int .i64 (-1)],[.int .i64 0],[.int .u64 (IntKind.u64.wrap x0.Work)],[.bool false]].flatten) ⟨rfl,⟨hz1,hx0.1,hx0.2.1,hx0.2.2.1,hx0.2.2.2.1,hx0.2.2.2.2.1,hx0.2.2.2.2.2,(in_lit .i64 (-1) rfl),(in_lit .i64 0 rfl),(wrap_in _ _)⟩⟩ rfl Els.nil)
 refine o_bsl ([av .u8 32 r1,[.int .u32 x0.Version],av .u8 32 x0.Prev,av .u8 32 x0.Root,[.int .u32 x0.Time],[.int .u32 x0.Work],[.int .u32 x0.Nonce],[.int .i64 (-1)],[.int .i64 0],[.int .u64 (IntKind.u64.wrap x0.Work)],[.bool false]].flatten++([])) te111 zr111 U112 hI hA rfl rfl rfl rfl (by kernel_rfl) rfl fun g2 a w hA hI=>?_
 generalize hcs:([av .u8 32 r1,[.int .u32 x0.Version],av .u8 32 x0.Prev,av .u8 32 x0.Root,[.int .u32 x0.Time],[.int .u32 x0.Work],[.int .u32 x0.Nonce],[.int .i64 (-1)],[.int .i64 0],[.int .u64 (IntKind.u64.wrap x0.Work)],[.bool false]].flatten++([]):List Value)=cs1 at hE1 hI
 clear hcs
 refine o_nil<|⟨(.inr (hI.sl [1] rfl)),?_⟩
 refine gF 8 rfl ?_
 refine stp hA (r_bldS (cs:=[[(.slice (some ⟨g2,0,none⟩) 1 1)]].flatten.toArray) (pl:=[(0,1)]) zr114 U114 ⟨rfl,sz112,trivial⟩ hA rfl ((fill_one (own_cell hI (j:=0) rfl) rfl (by kernel_rfl)).trans (by kernel_rfl))) rfl fun a hA=>?_
 refine o_nil<|⟨(.inr (hI.sl [1] rfl)),?_⟩
 refine gF 9 rfl ?_
 refine o_box [[(.slice (some ⟨g2,0,none⟩) 1 1)]] hI hA rfl rfl rfl fun g3 a w hA hI hg3=>?_
 refine o_nil<|⟨(.inr (hI.sl [2] rfl)),?_⟩
 refine gE 10 hA rfl (.inr (hI.sl [2] rfl)) (fun _=>r_as hA rfl) fun a hA=>?_
 refine gN<|hN2 _ _<|w_ret ?_
 obtain rfl:=sJ H
 exact ret1 hA Tryz.results8 rfl ⟨_,rfl,g3,(.slice (some ⟨g2,0,none⟩) 1 1),cs1,rfl,hE1,((hI.sl [0,1] rfl).less (Store.le.refl _) hI.le)⟩
theorem sargassoref8_Tree_Find.c (μ:Store)(w0:World)(hμ:Agr μ w0)(x0:sargassoref8Tree)(vp1:Value)(cp1:List Value)(g0:Nat)(hp1:Els (Rsargassoref8Node μ) 104 x0.l cp1)(ho0:Its μ w0 [cel g0 [[vp1]] 114,row 111 104 vp1 x0.l.length cp1])(x1:List Int)(hx1:Arr .u8 32 x1)(r:Int)(H:sargassoref8_Tree_Find.f x0 x1=some r) :
  Calls Tryz.prog 53 [pt g0 0,.agg [av .u8 32 x1].flatten.toArray].toArray w0 (fun e w'=>∃ v,e=.returned v∧v=.int .i64 r∧InR .i64 r∧Iv w0 (many [cel g0 [[vp1]] 114,row 111 104 vp1 x0.l.length cp1]).foot μ μ [cel g0 [[vp1]] 114,row 111 104 vp1 x0.l.length cp1] w'):=by
 refine enter Tryz.func53 rfl Tryz.ntmps53 rfl fun a hA=>?_
 have hI:=Iv.startN hμ ho0
 have H:=bI H
 refine w_seq fun _ hN1=>w_reg<|o_box [av .u8 32 x1] hI hA rfl rfl rfl fun g1 a w hA hI hg1 =>
  sta hA rfl rfl fun a hA=>?_
 refine o_nil<|hN1 _ _<|w_seq fun _ hN2=>w_seq fun _ hN3=>w_reg<|sta hA rfl rfl fun a hA=>?_
 refine o_nil<|hN3 _ _<|w_block ?_
 obtain ⟨z1,hz1,Hk1⟩:=bind_some H
 obtain ⟨n1,hn1⟩:=loopO_some hz1
 refine w_loop (fun n a w=>∃(s1:Int),loopN (sargassoref8_Tree_Find.s0 x0 x1) n s1=some z1∧InR .i64 s1∧Fr a 26 [(0,pt g0 0),(3,pt g1 0),(4,.int .i64 0),(5,.int .i64 s1)]∧Iv w0 (many [cel g0 [[vp1]] 114,row 111 104 vp1 x0.l.length cp1]).foot μ μ [cel g1 [av .u8 32 x1] 25,cel g0 [[vp1]] 114,row 111 104 vp1 x0.l.length cp1] w) n1 ⟨0,hn1,(in_lit .i64 0 rfl),hA.sub ⟨rfl,rfl,rfl,rfl,trivial⟩,hI⟩ ?_
 clear hA hI
 rintro n a w ⟨s1,hn1,ws1,hA,hI⟩
 obtain ⟨m1,rfl,H⟩:=loopN_bind hn1
 clear hn1
 refine w_seq fun _ hN4=>w_seq fun _ hN5=>w_reg<|stm hA rfl rfl fun a hA =>
  stm hA rfl rfl fun a hA =>
  stp hA (r_nilc hA rfl) rfl fun a hA =>
  stp hA (r_fd (k:=0) U114 rfl sz112 hA rfl rfl) rfl fun a hA =>
  stp hA (r_ld1 (j:=1) [] [] U112 rfl hI rfl hA rfl rfl) rfl fun a hA=>?_
 have hlen1:=Iv.row_in hI (j:=2) rfl
 refine stp hA (r_rlen (xs:=0) U112 hI (j:=2) rfl hA rfl) rfl fun a hA =>
  stp hA (r_lss hA rfl rfl) rfl fun a hA=>?_
 refine o_nil<|hN5 _ _<|w_cond hA rfl (fun hc1=>?_) (fun hc1=>?_)
 ·obtain ⟨hc1,H⟩:=dT H hc1
  refine w_skip<|hN4 _ _<|w_seq fun _ hN6=>w_block<|w_seq fun _ hN7=>?_
  refine w_draw mo (by kernel_rfl) hI ?_
  refine qtp hA (fun _ hI=>r_mv hA rfl) rfl fun a hA =>
   qtp hA (fun _ hI=>r_nilc hA rfl) rfl fun a hA =>
   qtp hA (fun _ hI=>r_fd (k:=0) U114 rfl sz112 hA rfl rfl) rfl fun a hA =>
   qtp hA (fun _ hI=>r_ld1 (j:=1) [] [] U112 rfl hI rfl hA rfl rfl) rfl fun a hA =>
   qtp hA (fun _ hI=>r_mv hA rfl) rfl fun a hA=>?_
  obtain ⟨hb1,H⟩:=bG H
  refine qtp hA (fun _ hI=>r_rix (j:=2) U112 sz111 hI rfl hA rfl rfl hb1.1 hb1.2) rfl fun a hA =>
   qtp hA (fun _ hI=>r_fd (k:=so vp1+s1.toNat * 104) U111 rfl sz25 hA rfl rfl) rfl fun a hA=>?_
  obtain ⟨A1,_,B1,hc2,hl1,_,he1⟩:=Els.at_ hp1 (getD_some default hb1.1 hb1.2)
  obtain ⟨rfl,hw1⟩:=he1
  refine qtp hA (fun _ hI=>r_rldP (j:=2) (q:=s1.toNat * 104) (off:=0) A1 B1 [] [av .u8 32 ((x0.l.getD s1.toNat default).id)] [[.int .u32 ((x0.l.getD s1.toNat default).h.Version)],av .u8 32 ((x0.l.getD s1.toNat default).h.Prev),av .u8 32 ((x0.l.getD s1.toNat default).h.Root),[.int .u32 ((x0.l.getD s1.toNat default).h.Time)],[.int .u32 ((x0.l.getD s1.toNat default).h.Work)],[.int .u32 ((x0.l.getD s1.toNat default).h.Nonce)],[.int .i64 ((x0.l.getD s1.toNat default).parent)],[.int .i64 ((x0.l.getD s1.toNat default).height)],[.int .u64 ((x0.l.getD s1.toNat default).work)],[.bool ((x0.l.getD s1.toNat default).bad)]] hc2 hl1 rfl U25 rfl sz25 rfl hI rfl hA rfl) rfl fun a hA =>
   qtp hA (fun _ hI=>r_ldA (j:=0) [] [av .u8 32 x1] [] U25 rfl sz25 rfl hI rfl hA rfl rfl) rfl fun a hA=>?_
  obtain ⟨r1,hr1,H⟩:=bB H
  refine qcall (v:=.bool r1) cf21 hA rfl (fun _ hI=>plq (q0_SameHash.c μ _ hI.agr ((x0.l.getD s1.toNat default).id) hw1.1 x1 hx1 r1 hr1) hI) rfl fun a hA=>?_
  refine q_nil fun w hI=>?_
  refine hN7 _ _<|w_cond hA rfl (fun hc3=>?_) (fun hc3=>?_)
  ·have H:=bT H hc3
   refine w_seq fun _ hN8=>w_reg<|stm hA rfl rfl fun a hA =>
    sta hA rfl rfl fun a hA=>?_
   refine o_nil<|hN8 _ _<|w_ret ?_
   have H:some s1=some z1:=H
   obtain rfl:=sI H
   have H:=Hk1
   obtain rfl:=sJ H
   exact ret1 hA Tryz.results53 rfl ⟨_,rfl,rfl,ws1,((hI.sl [1,2] rfl).less (Store.le.refl _) hI.le)⟩
  ·have hc3:=ft hc3;have H:=bF H hc3
   refine w_skip<|hN6 _ _<|w_reg<|stm hA rfl rfl fun a hA =>
    stp hA (r_add hA rfl rfl) rfl fun a hA =>
    sta hA rfl rfl fun a hA=>?_
   refine o_nil<|⟨m1,lS _,IntKind.i64.wrap (s1+1),H,(wrap_in _ _),hA.sub ⟨rfl,rfl,rfl,rfl,trivial⟩,hI⟩
 ·obtain ⟨hc1,H⟩:=dF H hc1
  refine w_exit rfl<|hN2 _ _<|w_seq fun _ hN9=>w_reg<|sta hA rfl rfl fun a hA=>?_
  refine o_nil<|hN9 _ _<|w_ret ?_
  have H:some (-1)=some z1:=H
  obtain rfl:=sI H
  have H:=Hk1
  obtain rfl:=sJ H
  exact ret1 hA Tryz.results53 rfl ⟨_,rfl,rfl,(in_lit .i64 (-1) rfl),((hI.sl [1,2] rfl).less (Store.le.refl _) hI.le)⟩
theorem sargassoref8_Tree_Add.c (μ:Store)(w0:World)(hμ:Agr μ w0)(x0:sargassoref8Tree)(vp1:Value)(cp1:List Value)(g0:Nat)(hp1:Els (Rsargassoref8Node μ) 104 x0.l cp1)(ho0:Its μ w0 [cel g0 [[vp1]] 114,row 111 104 vp1 x0.l.length cp1])(x1:Head)(hx1:HeadW μ x1)(r:Int×sargassoref8Tree)(H:sargassoref8_Tree_Add.f x0 x1=some r) :
  Calls Tryz.prog 11 [pt g0 0,.agg [[.int .u32 x1.Version],av .u8 32 x1.Prev,av .u8 32 x1.Root,[.int .u32 x1.Time],[.int .u32 x1.Work],[.int .u32 x1.Nonce]].flatten.toArray].toArray w0 (fun e w'=>∃ v,e=.returned v∧∃(vp_1:Value)(cp_1:List Value),v=.int .i64 (r.1)∧InR .i64 (r.1)∧Els (Rsargassoref8Node μ) 104 (r.2).l cp_1∧Iv w0 (many [cel g0 [[vp1]] 114,row 111 104 vp1 x0.l.length cp1]).foot μ μ [cel g0 [[vp_1]] 114,row 111 104 vp_1 ((r.2).l).length cp_1] w'):=by
 refine enter Tryz.func11 rfl Tryz.ntmps11 rfl fun a hA=>?_
 have hI:=Iv.startN hμ ho0
 have H:=bI H
 refine w_seq fun _ hN1=>w_reg<|o_box [[.int .u32 x1.Version],av .u8 32 x1.Prev,av .u8 32 x1.Root,[.int .u32 x1.Time],[.int .u32 x1.Work],[.int .u32 x1.Nonce]] hI hA rfl rfl rfl fun g1 a w hA hI hg1 =>
  sta hA rfl rfl fun a hA=>?_
 refine o_nil<|hN1 _ _<|w_seq fun _ hN2=>w_reg<|stp hA (r_ldA (j:=0) [] [[.int .u32 x1.Version],av .u8 32 x1.Prev,av .u8 32 x1.Root,[.int .u32 x1.Time],[.int .u32 x1.Work],[.int .u32 x1.Nonce]] [] U27 rfl sz27 rfl hI rfl hA rfl rfl) rfl fun a hA=>?_
 obtain ⟨r1,hr1,H⟩:=bB H
 refine o_callp (u:=.agg [av .u8 32 r1].flatten.toArray) cf13 hA rfl hI (q1_HeadID.c μ _ hI.agr x1 ⟨hx1.1,hx1.2.1,hx1.2.2.1,hx1.2.2.2.1,hx1.2.2.2.2.1,hx1.2.2.2.2.2⟩ r1 hr1) rfl fun a w hz1 hI hA =>
  o_new [av .u8 32 Z32] zr25 hI hA rfl fun g2 a w hA hI hg2 =>
  o_st (j:=0) [] [av .u8 32 Z32] [av .u8 32 r1] [] sz25 rfl rfl (fl_cons (one_av _ _ _) fl_nil) hI rfl hA rfl rfl rfl rfl fun w hI=>?_
 refine o_nil<|hN2 _ _<|w_seq fun _ hN3=>w_seq fun _ hN4=>w_reg<|stm hA rfl rfl fun a hA =>
  stp hA (r_ldA (j:=0) [] [av .u8 32 r1] [] U25 rfl sz25 rfl hI rfl hA rfl rfl) rfl fun a hA=>?_
 obtain ⟨r2,hr2,H⟩:=bB H
 have hI:=hI.sl [2,3,0,1] rfl
 refine o_call _ cf53 hA rfl (sargassoref8_Tree_Find.c μ _ hI.agr (⟨x0.l⟩:sargassoref8Tree) vp1 cp1 g0 hp1 (hI.handN 2) r1 hz1 r2 hr2) rfl fun v1 a w hz2 hA=>?_
 obtain ⟨rfl,hw1,hi1⟩:=hz2
 have hI:=hI.back2 hi1
 refine stp hA (r_geq hA rfl rfl) rfl fun a hA=>?_
 refine o_nil<|hN4 _ _<|w_cond hA rfl (fun hc1=>?_) (fun hc1=>?_)
 ·obtain ⟨hc1,H⟩:=dT H hc1
  refine w_seq fun _ hN5=>w_reg<|sta hA rfl rfl fun a hA=>?_
  refine o_nil<|hN5 _ _<|w_ret ?_
  obtain rfl:=sJ H
  exact ret1 hA Tryz.results11 rfl ⟨_,rfl,vp1,cp1,rfl,(in_lit .i64 109 rfl),hp1,((hI.sl [0,1] rfl).less (Store.le.refl _) hI.le)⟩
 ·obtain ⟨hc1,H⟩:=dF H hc1
  refine w_skip<|hN3 _ _<|w_seq fun _ hN6=>w_reg<|stm hA rfl rfl fun a hA =>
   stp hA (r_fd (k:=1) U27 rfl sz25 hA rfl rfl) rfl fun a hA =>
   stp hA (r_ldA (j:=3) [[.int .u32 x1.Version]] [av .u8 32 x1.Prev] [av .u8 32 x1.Root,[.int .u32 x1.Time],[.int .u32 x1.Work],[.int .u32 x1.Nonce]] U25 rfl sz25 rfl hI rfl hA rfl rfl) rfl fun a hA=>?_
  obtain ⟨r3,hr3,H⟩:=bB H
  refine o_call _ cf53 hA rfl (sargassoref8_Tree_Find.c μ _ hI.agr (⟨x0.l⟩:sargassoref8Tree) vp1 cp1 g0 hp1 (hI.handN 2) x1.Prev hx1.2.1 r3 hr3) rfl fun v2 a w hz3 hA=>?_
  obtain ⟨rfl,hw2,hi2⟩:=hz3
  have hI:=hI.back2 hi2
  refine sta hA rfl rfl fun a hA=>?_
  refine o_nil<|hN6 _ _<|w_seq fun _ hN7=>w_seq fun _ hN8=>w_reg<|stm hA rfl rfl fun a hA =>
   stp hA (r_lss hA rfl rfl) rfl fun a hA=>?_
  refine o_nil<|hN8 _ _<|w_cond hA rfl (fun hc2=>?_) (fun hc2=>?_)
  ·obtain ⟨hc2,H⟩:=dT H hc2
   refine w_seq fun _ hN9=>w_reg<|sta hA rfl rfl fun a hA=>?_
   refine o_nil<|hN9 _ _<|w_ret ?_
   obtain rfl:=sJ H
   exact ret1 hA Tryz.results11 rfl ⟨_,rfl,vp1,cp1,rfl,(in_lit .i64 110 rfl),hp1,((hI.sl [0,1] rfl).less (Store.le.refl _) hI.le)⟩
  ·obtain ⟨hc2,H⟩:=dF H hc2
   refine w_skip<|hN7 _ _<|w_seq fun _ hN10=>w_seq fun _ hN11=>w_reg<|stm hA rfl rfl fun a hA =>
    stp hA (r_nilc hA rfl) rfl fun a hA =>
    stp hA (r_fd (k:=0) U114 rfl sz112 hA rfl rfl) rfl fun a hA =>
    stp hA (r_ld1 (j:=0) [] [] U112 rfl hI rfl hA rfl rfl) rfl fun a hA=>?_
   have hlen1:=Iv.row_in hI (j:=1) rfl
   refine stp hA (r_rlen (xs:=0) U112 hI (j:=1) rfl hA rfl) rfl fun a hA =>
    stp hA (r_geq hA rfl rfl) rfl fun a hA=>?_
   refine o_nil<|hN11 _ _<|w_cond hA rfl (fun hc3=>?_) (fun hc3=>?_)
   ·obtain ⟨hc3,H⟩:=dT H hc3
    refine w_seq fun _ hN12=>w_reg<|sta hA rfl rfl fun a hA=>?_
    refine o_nil<|hN12 _ _<|w_ret ?_
    obtain rfl:=sJ H
    exact ret1 hA Tryz.results11 rfl ⟨_,rfl,vp1,cp1,rfl,(in_lit .i64 121 rfl),hp1,((hI.sl [0,1] rfl).less (Store.le.refl _) hI.le)⟩
   ·obtain ⟨hc3,H⟩:=dF H hc3
    refine w_skip<|hN10 _ _<|w_seq fun _ hN13=>?_
    refine w_any [39,42] mo hI fun w hI=>?_
    refine gE 0 hA rfl (.inr hI) (fun _=>r_mv hA rfl) fun a hA=>?_
    refine gE 1 hA rfl (.inr hI) (fun _=>r_mv hA rfl) fun a hA=>?_
    refine gE 2 hA rfl (.inr hI) (fun _=>r_nilc hA rfl) fun a hA=>?_
    refine gE 3 hA rfl (.inr hI) (fun _=>r_fd (k:=0) U114 rfl sz112 hA rfl rfl) fun a hA=>?_
    refine gT 4 hA rfl hI (fun w hI=>r_ld1 (j:=0) [] [] U112 rfl hI rfl hA rfl rfl) fun a hA=>?_
    refine gT 5 hA rfl hI (fun w hI=>r_ldA (j:=2) [] [av .u8 32 r1] [] U25 rfl sz25 rfl hI rfl hA rfl rfl) fun a hA=>?_
    refine gT 6 hA rfl hI (fun w hI=>r_ldA (j:=3) [] [[.int .u32 x1.Version],av .u8 32 x1.Prev,av .u8 32 x1.Root,[.int .u32 x1.Time],[.int .u32 x1.Work],[.int .u32 x1.Nonce]] [] U27 rfl sz27 rfl hI rfl hA rfl rfl) fun a hA=>?_
    refine gE 7 hA rfl (.inr hI) (fun _=>r_mv hA rfl) fun a hA=>?_
    refine gE 8 hA rfl (.inr hI) (fun _=>r_mv hA rfl) fun a hA=>?_
    refine gE 9 hA rfl (.inr hI) (fun _=>r_nilc hA rfl) fun a hA=>?_
    refine gE 10 hA rfl (.inr hI) (fun _=>r_fd (k:=0) U114 rfl sz112 hA rfl rfl) fun a hA=>?_
    refine gT 11 hA rfl hI (fun w hI=>r_ld1 (j:=0) [] [] U112 rfl hI rfl hA rfl rfl) fun a hA=>?_
    refine gE 12 hA rfl (.inr hI) (fun _=>r_mv hA rfl) fun a hA=>?_
    obtain ⟨hb1,H⟩:=bG H
    refine gT 13 hA rfl hI (fun w hI=>r_rix (j:=1) U112 sz111 hI rfl hA rfl rfl hb1.1 hb1.2) fun a hA=>?_
    refine gE 14 hA rfl (.inr hI) (fun _=>r_fd (k:=so vp1+r3.toNat * 104+101) U111 rfl sz3 hA rfl rfl) fun a hA=>?_
    obtain ⟨A1,_,B1,hc4,hl1,_,he1⟩:=Els.at_ hp1 (getD_some default hb1.1 hb1.2)
    obtain ⟨rfl,hw3⟩:=he1
    refine gT 15 hA rfl hI (fun w hI=>r_rldQ (j:=1) (q:=r3.toNat * 104) (off:=101) A1 B1 [av .u8 32 ((x0.l.getD r3.toNat default).id),[.int .u32 ((x0.l.getD r3.toNat default).h.Version)],av .u8 32 ((x0.l.getD r3.toNat default).h.Prev),av .u8 32 ((x0.l.getD r3.toNat default).h.Root),[.int .u32 ((x0.l.getD r3.toNat default).h.Time)],[.int .u32 ((x0.l.getD r3.toNat default).h.Work)],[.int .u32 ((x0.l.getD r3.toNat default).h.Nonce)],[.int .i64 ((x0.l.getD r3.toNat default).parent)]] [[.int .u64 ((x0.l.getD r3.toNat default).work)],[.bool ((x0.l.getD r3.toNat default).bad)]] hc4 hl1 rfl U3 rfl hI rfl hA rfl) fun a hA=>?_
    refine gE 16 hA rfl (.inr hI) (fun _=>r_add hA rfl rfl) fun a hA=>?_
    refine gE 17 hA rfl (.inr hI) (fun _=>r_mv hA rfl) fun a hA=>?_
    refine gE 18 hA rfl (.inr hI) (fun _=>r_nilc hA rfl) fun a hA=>?_
    refine gE 19 hA rfl (.inr hI) (fun _=>r_fd (k:=0) U114 rfl sz112 hA rfl rfl) fun a hA=>?_
    refine gT 20 hA rfl hI (fun w hI=>r_ld1 (j:=0) [] [] U112 rfl hI rfl hA rfl rfl) fun a hA=>?_
    refine gE 21 hA rfl (.inr hI) (fun _=>r_mv hA rfl) fun a hA=>?_
    refine gT 22 hA rfl hI (fun w hI=>r_rix (j:=1) U112 sz111 hI rfl hA rfl rfl hb1.1 hb1.2) fun a hA=>?_
    refine gE 23 hA rfl (.inr hI) (fun _=>r_fd (k:=so vp1+r3.toNat * 104+102) U111 rfl sz45 hA rfl rfl) fun a hA=>?_
    obtain ⟨A2,_,B2,hc5,hl2,_,he2⟩:=Els.at_ hp1 (getD_some default hb1.1 hb1.2)
    obtain ⟨rfl,hw4⟩:=he2
    refine gT 24 hA rfl hI (fun w hI=>r_rldQ (j:=1) (q:=r3.toNat * 104) (off:=102) A2 B2 [av .u8 32 ((x0.l.getD r3.toNat default).id),[.int .u32 ((x0.l.getD r3.toNat default).h.Version)],av .u8 32 ((x0.l.getD r3.toNat default).h.Prev),av .u8 32 ((x0.l.getD r3.toNat default).h.Root),[.int .u32 ((x0.l.getD r3.toNat default).h.Time)],[.int .u32 ((x0.l.getD r3.toNat default).h.Work)],[.int .u32 ((x0.l.getD r3.toNat default).h.Nonce)],[.int .i64 ((x0.l.getD r3.toNat default).parent)],[.int .i64 ((x0.l.getD r3.toNat default).height)]] [[.bool ((x0.l.getD r3.toNat default).bad)]] hc5 hl2 rfl U45 rfl hI rfl hA rfl) fun a hA=>?_
    refine gE 25 hA rfl (.inr hI) (fun _=>r_fd (k:=66) U27 rfl sz23 hA rfl rfl) fun a hA=>?_
    refine gT 26 hA rfl hI (fun w hI=>r_ld1 (j:=3) [[.int .u32 x1.Version],av .u8 32 x1.Prev,av .u8 32 x1.Root,[.int .u32 x1.Time]] [[.int .u32 x1.Nonce]] U23 rfl hI rfl hA rfl rfl) fun a hA=>?_
    refine gE 27 hA rfl (.inr hI) (fun _=>r_conv U23 U45 hA rfl) fun a hA=>?_
    refine gE 28 hA rfl (.inr hI) (fun _=>r_add hA rfl rfl) fun a hA=>?_
    refine gE 29 hA rfl (.inr hI) (fun _=>r_mv hA rfl) fun a hA=>?_
    refine gE 30 hA rfl (.inr hI) (fun _=>r_nilc hA rfl) fun a hA=>?_
    refine gE 31 hA rfl (.inr hI) (fun _=>r_fd (k:=0) U114 rfl sz112 hA rfl rfl) fun a hA=>?_
    refine gT 32 hA rfl hI (fun w hI=>r_ld1 (j:=0) [] [] U112 rfl hI rfl hA rfl rfl) fun a hA=>?_
    refine gE 33 hA rfl (.inr hI) (fun _=>r_mv hA rfl) fun a hA=>?_
    refine gT 34 hA rfl hI (fun w hI=>r_rix (j:=1) U112 sz111 hI rfl hA rfl rfl hb1.1 hb1.2) fun a hA=>?_
    refine gE 35 hA rfl (.inr hI) (fun _=>r_fd (k:=so vp1+r3.toNat * 104+103) U111 rfl sz4 hA rfl rfl) fun a hA=>?_
    obtain ⟨A3,_,B3,hc6,hl3,_,he3⟩:=Els.at_ hp1 (getD_some default hb1.1 hb1.2)
    obtain ⟨rfl,hw5⟩:=he3
    refine gT 36 hA rfl hI (fun w hI=>r_rldQ (j:=1) (q:=r3.toNat * 104) (off:=103) A3 B3 [av .u8 32 ((x0.l.getD r3.toNat default).id),[.int .u32 ((x0.l.getD r3.toNat default).h.Version)],av .u8 32 ((x0.l.getD r3.toNat default).h.Prev),av .u8 32 ((x0.l.getD r3.toNat default).h.Root),[.int .u32 ((x0.l.getD r3.toNat default).h.Time)],[.int .u32 ((x0.l.getD r3.toNat default).h.Work)],[.int .u32 ((x0.l.getD r3.toNat default).h.Nonce)],[.int .i64 ((x0.l.getD r3.toNat default).parent)],[.int .i64 ((x0.l.getD r3.toNat default).height)],[.int .u64 ((x0.l.getD r3.toNat default).work)]] [] hc6 hl3 rfl U4 rfl hI rfl hA rfl) fun a hA=>?_
    refine gF 37 rfl ?_
    refine stp hA (r_bldS (cs:=[av .u8 32 r1,[.int .u32 x1.Version],av .u8 32 x1.Prev,av .u8 32 x1.Root,[.int .u32 x1.Time],[.int .u32 x1.Work],[.int .u32 x1.Nonce],[.int .i64 r3],[.int .i64 (IntKind.i64.wrap (((x0.l.getD r3.toNat default).height)+1))],[.int .u64 (IntKind.u64.wrap (((x0.l.getD r3.toNat default).work)+(IntKind.u64.wrap x1.Work)))],[.bool ((x0.l.getD r3.toNat default).bad)]].flatten.toArray) (pl:=[(0,32),(32,68),(100,1),(101,1),(102,1),(103,1)]) zr111 U111 ⟨rfl,sz25,rfl,sz27,rfl,sz3,rfl,sz3,rfl,sz45,rfl,sz4,trivial⟩ hA rfl (by kernel_rfl)) rfl fun a hA=>?_
    refine o_nil<|⟨(.inr hI),?_⟩
    refine gF 38 rfl ?_
    have hE1:Els (Rsargassoref8Node μ) 104 ([(⟨r1,x1,r3,IntKind.i64.wrap (((x0.l.getD r3.toNat default).height)+1),IntKind.u64.wrap (((x0.l.getD r3.toNat default).work)+(IntKind.u64.wrap x1.Work)),(x0.l.getD r3.toNat default).bad⟩:sargassoref8Node)]:List sargassoref8Node) _:=(Els.cons (c:=[av .u8 32 r1,[.int .u32 x1.Version],av .u8 32 x1.Prev,av .u8 32 x1.Root,[.int .u32 x1.Time],[.int .u32 x1.Work],[.int .u32 x1.Nonce],[.int .i64 r3],[.int .i64 (IntKind.i64.wrap (((x0.l.getD r3.toNat default).height)+1))],[.int .u64 (IntKind.u64.wrap (((x0.l.getD r3.toNat default).work)+(IntKind.u64.wrap x1.Work)))],[.bool ((x0.l.getD r3.toNat default).bad)]].flatten) ⟨rfl,⟨hz1,hx1.1,hx1.2.1,hx1.2.2.1,hx1.2.2.2.1,hx1.2.2.2.2.1,hx1.2.2.2.2.2,hw2,(wrap_in _ _),(wrap_in _ _)⟩⟩ rfl Els.nil)
    refine o_bsl ([av .u8 32 r1,[.int .u32 x1.Version],av .u8 32 x1.Prev,av .u8 32 x1.Root,[.int .u32 x1.Time],[.int .u32 x1.Work],[.int .u32 x1.Nonce],[.int .i64 r3],[.int .i64 (IntKind.i64.wrap (((x0.l.getD r3.toNat default).height)+1))],[.int .u64 (IntKind.u64.wrap (((x0.l.getD r3.toNat default).work)+(IntKind.u64.wrap x1.Work)))],[.bool ((x0.l.getD r3.toNat default).bad)]].flatten++([])) te111 zr111 U112 hI hA rfl rfl rfl rfl (by kernel_rfl) rfl fun g3 a w hA hI=>?_
    generalize hcs:([av .u8 32 r1,[.int .u32 x1.Version],av .u8 32 x1.Prev,av .u8 32 x1.Root,[.int .u32 x1.Time],[.int .u32 x1.Work],[.int .u32 x1.Nonce],[.int .i64 r3],[.int .i64 (IntKind.i64.wrap (((x0.l.getD r3.toNat default).height)+1))],[.int .u64 (IntKind.u64.wrap (((x0.l.getD r3.toNat default).work)+(IntKind.u64.wrap x1.Work)))],[.bool ((x0.l.getD r3.toNat default).bad)]].flatten++([]):List Value)=cs1 at hE1 hI
    clear hcs
    refine o_nil<|⟨(.inr (hI.sl [1,2,3,4] rfl)),?_⟩
    refine gF 39 rfl ?_
    obtain ⟨hb2,H⟩:=bG H
    have hE3:=hp1.app hE1
    refine o_appG (xs:=(x0.l:List sargassoref8Node)) (ys:=(([(⟨r1,x1,r3,IntKind.i64.wrap (((x0.l.getD r3.toNat default).height)+1),IntKind.u64.wrap (((x0.l.getD r3.toNat default).work)+(IntKind.u64.wrap x1.Work)),(x0.l.getD r3.toNat default).bad⟩:sargassoref8Node)]:List sargassoref8Node):List sargassoref8Node)) (M:=977343669134) 2 te111 U112 hI rfl hA rfl rfl (src_row hI (j:=0) rfl) hE1.len (hE1.ones Rsargassoref8Node.ones) hb2 rfl fun v3 a w hA hI=>?_
    refine o_nil<|⟨(.inl (by kernel_rfl)),?_⟩
    refine gE 40 hA rfl (.inl (by kernel_rfl)) (fun _=>r_nilc hA rfl) fun a hA=>?_
    refine gE 41 hA rfl (.inl (by kernel_rfl)) (fun _=>r_fd (k:=0) U114 rfl sz112 hA rfl rfl) fun a hA=>?_
    refine gF 42 rfl ?_
    have hone:=own_one hI (j:=2) rfl
    have hcel:=own_cell hI (j:=2) rfl
    refine o_st (j:=1) [] [[vp1]] [[v3]] [] sz112 rfl rfl (by intro c hc;simp at hc;subst hc;exact hone) hI rfl hA rfl rfl hcel rfl fun w hI=>?_
    refine o_nil<|⟨(.inl (by kernel_rfl)),?_⟩
    refine gN<|hN13 _ _<|w_seq fun _ hN14=>w_reg<|sta hA rfl rfl fun a hA=>?_
    refine o_nil<|hN14 _ _<|w_ret ?_
    obtain rfl:=sJ H
    exact ret1 hA Tryz.results11 rfl ⟨_,rfl,v3,cp1++cs1,rfl,(in_lit .i64 0 rfl),hE3,((hI.sl [1,2] rfl).less (Store.le.refl _) hI.le)⟩
theorem sargassoref8_Tree_Of.c (μ:Store)(w0:World)(hμ:Agr μ w0)(x0:sargassoref8Tree)(vp1:Value)(cp1:List Value)(g0:Nat)(hp1:Els (Rsargassoref8Node μ) 104 x0.l cp1)(ho0:Its μ w0 [cel g0 [[vp1]] 114,row 111 104 vp1 x0.l.length cp1])(x1:List Int)(hx1:Arr .u8 32 x1)(r:Head×Int×Int×Bool)(H:sargassoref8_Tree_Of.f x0 x1=some r) :
  Calls Tryz.prog 15 [pt g0 0,.agg [av .u8 32 x1].flatten.toArray].toArray w0 (fun e w'=>∃ v,e=.returned v∧v=.tuple #[.agg [[.int .u32 ((r.1).Version)],av .u8 32 ((r.1).Prev),av .u8 32 ((r.1).Root),[.int .u32 ((r.1).Time)],[.int .u32 ((r.1).Work)],[.int .u32 ((r.1).Nonce)]].flatten.toArray,.int .i64 (r.2.1),.int .u64 (r.2.2.1),.bool (r.2.2.2)]∧HeadW μ (r.1)∧InR .i64 (r.2.1)∧InR .u64 (r.2.2.1)∧True∧Iv w0 (many [cel g0 [[vp1]] 114,row 111 104 vp1 x0.l.length cp1]).foot μ μ [cel g0 [[vp1]] 114,row 111 104 vp1 x0.l.length cp1] w'):=by
 refine enter Tryz.func15 rfl Tryz.ntmps15 rfl fun a hA=>?_
 have hI:=Iv.startN hμ ho0
 have H:=bI H
 refine w_seq fun _ hN1=>w_reg<|o_box [av .u8 32 x1] hI hA rfl rfl rfl fun g1 a w hA hI hg1 =>
  o_new [[.int .u32 0],av .u8 32 Z32,av .u8 32 Z32,[.int .u32 0],[.int .u32 0],[.int .u32 0]] zr27 hI hA rfl fun g2 a w hA hI hg2 =>
  sta hA rfl rfl fun a hA =>
  sta hA rfl rfl fun a hA =>
  sta hA rfl rfl fun a hA=>?_
 refine o_nil<|hN1 _ _<|w_seq fun _ hN2=>w_reg<|stm hA rfl rfl fun a hA =>
  stp hA (r_ldA (j:=1) [] [av .u8 32 x1] [] U25 rfl sz25 rfl hI rfl hA rfl rfl) rfl fun a hA=>?_
 obtain ⟨r1,hr1,H⟩:=bB H
 have hI:=hI.sl [2,3,0,1] rfl
 refine o_call _ cf53 hA rfl (sargassoref8_Tree_Find.c μ _ hI.agr (⟨x0.l⟩:sargassoref8Tree) vp1 cp1 g0 hp1 (hI.handN 2) x1 hx1 r1 hr1) rfl fun v1 a w hz1 hA=>?_
 obtain ⟨rfl,hw1,hi1⟩:=hz1
 have hI:=hI.back2 hi1
 refine sta hA rfl rfl fun a hA=>?_
 refine o_nil<|hN2 _ _<|w_seq fun _ hN3=>w_seq fun _ hN4=>w_reg<|stm hA rfl rfl fun a hA =>
  stp hA (r_lss hA rfl rfl) rfl fun a hA=>?_
 refine o_nil<|hN4 _ _<|w_cond hA rfl (fun hc1=>?_) (fun hc1=>?_)
 ·obtain ⟨hc1,H⟩:=dT H hc1
  refine w_seq fun _ hN5=>w_reg<|stp hA (r_bldS (cs:=[[.int .u32 0],av .u8 32 Z32,av .u8 32 Z32,[.int .u32 0],[.int .u32 0],[.int .u32 0]].flatten.toArray) (pl:=[(0,1),(1,32),(33,32),(65,1),(66,1),(67,1)]) zr27 U27 ⟨rfl,sz23,rfl,sz25,rfl,sz25,rfl,sz23,rfl,sz23,rfl,sz23,trivial⟩ hA rfl (by kernel_rfl)) rfl fun a hA =>
   o_st (j:=2) [] [[.int .u32 0],av .u8 32 Z32,av .u8 32 Z32,[.int .u32 0],[.int .u32 0],[.int .u32 0]] [[.int .u32 0],av .u8 32 Z32,av .u8 32 Z32,[.int .u32 0],[.int .u32 0],[.int .u32 0]] [] sz27 rfl rfl (fl_cons (oneC rfl) (fl_cons (one_av _ _ _) (fl_cons (one_av _ _ _) (fl_cons (oneC rfl) (fl_cons (oneC rfl) (fl_cons (oneC rfl) fl_nil)))))) hI rfl hA rfl rfl rfl rfl fun w hI =>
   sta hA rfl rfl fun a hA =>
   sta hA rfl rfl fun a hA =>
   sta hA rfl rfl fun a hA=>?_
  refine o_nil<|hN5 _ _<|w_ret ?_
  obtain rfl:=sJ H
  exact retN hA Tryz.results15 (.cell rfl (cell_ld U27 rfl sz27 rfl hI (j:=2) rfl) (.tmp rfl (.tmp rfl (.tmp rfl .nil)))) ⟨_,rfl,rfl,⟨(in_lit .u32 0 rfl),(arr_zero _ _),(arr_zero _ _),(in_lit .u32 0 rfl),(in_lit .u32 0 rfl),(in_lit .u32 0 rfl)⟩,(in_lit .i64 0 rfl),(in_lit .u64 0 rfl),trivial,((hI.sl [0,1] rfl).less (Store.le.refl _) hI.le)⟩
 ·obtain ⟨hc1,H⟩:=dF H hc1
  refine w_skip<|hN3 _ _<|w_seq fun _ hN6=>?_
  refine w_anyS [] mo (fun w (h:Iv w0 (many [cel g0 [[vp1]] 114,row 111 104 vp1 x0.l.length cp1]).foot μ μ [cel g0 [[vp1]] 114,row 111 104 vp1 x0.l.length cp1,cel g2 [[.int .u32 0],av .u8 32 Z32,av .u8 32 Z32,[.int .u32 0],[.int .u32 0],[.int .u32 0]] 27,cel g1 [av .u8 32 x1] 25] w)=>(h.sl [0,1,3] rfl:Iv w0 (many [cel g0 [[vp1]] 114,row 111 104 vp1 x0.l.length cp1]).foot μ μ [cel g0 [[vp1]] 114,row 111 104 vp1 x0.l.length cp1,cel g1 [av .u8 32 x1] 25] w)) hI fun w hI=>?_
  refine gE 0 hA rfl (.inr (hI.sl [0,1,3] rfl)) (fun _=>r_mv hA rfl) fun a hA=>?_
  refine gE 1 hA rfl (.inr (hI.sl [0,1,3] rfl)) (fun _=>r_nilc hA rfl) fun a hA=>?_
  refine gE 2 hA rfl (.inr (hI.sl [0,1,3] rfl)) (fun _=>r_fd (k:=0) U114 rfl sz112 hA rfl rfl) fun a hA=>?_
  refine gT 3 hA rfl (hI.sl [0,1,3] rfl) (fun w hI=>r_ld1 (j:=0) [] [] U112 rfl hI rfl hA rfl rfl) fun a hA=>?_
  refine gE 4 hA rfl (.inr (hI.sl [0,1,3] rfl)) (fun _=>r_mv hA rfl) fun a hA=>?_
  obtain ⟨hb1,H⟩:=bG H
  refine gT 5 hA rfl (hI.sl [0,1,3] rfl) (fun w hI=>r_rix (j:=1) U112 sz111 hI rfl hA rfl rfl hb1.1 hb1.2) fun a hA=>?_
  refine gE 6 hA rfl (.inr (hI.sl [0,1,3] rfl)) (fun _=>r_fd (k:=so vp1+r1.toNat * 104+32) U111 rfl sz27 hA rfl rfl) fun a hA=>?_
  obtain ⟨A1,_,B1,hc2,hl1,_,he1⟩:=Els.at_ hp1 (getD_some default hb1.1 hb1.2)
  obtain ⟨rfl,hw2⟩:=he1
  refine gT 7 hA rfl (hI.sl [0,1,3] rfl) (fun w hI=>r_rldP (j:=1) (q:=r1.toNat * 104) (off:=32) A1 B1 [av .u8 32 ((x0.l.getD r1.toNat default).id)] [[.int .u32 ((x0.l.getD r1.toNat default).h.Version)],av .u8 32 ((x0.l.getD r1.toNat default).h.Prev),av .u8 32 ((x0.l.getD r1.toNat default).h.Root),[.int .u32 ((x0.l.getD r1.toNat default).h.Time)],[.int .u32 ((x0.l.getD r1.toNat default).h.Work)],[.int .u32 ((x0.l.getD r1.toNat default).h.Nonce)]] [[.int .i64 ((x0.l.getD r1.toNat default).parent)],[.int .i64 ((x0.l.getD r1.toNat default).height)],[.int .u64 ((x0.l.getD r1.toNat default).work)],[.bool ((x0.l.getD r1.toNat default).bad)]] hc2 hl1 rfl U27 rfl sz27 rfl hI rfl hA rfl) fun a hA=>?_
  refine gE 8 hA rfl (.inr (hI.sl [0,1,3] rfl)) (fun _=>r_mv hA rfl) fun a hA=>?_
  refine gE 9 hA rfl (.inr (hI.sl [0,1,3] rfl)) (fun _=>r_nilc hA rfl) fun a hA=>?_
  refine gE 10 hA rfl (.inr (hI.sl [0,1,3] rfl)) (fun _=>r_fd (k:=0) U114 rfl sz112 hA rfl rfl) fun a hA=>?_
  refine gT 11 hA rfl (hI.sl [0,1,3] rfl) (fun w hI=>r_ld1 (j:=0) [] [] U112 rfl hI rfl hA rfl rfl) fun a hA=>?_
  refine gE 12 hA rfl (.inr (hI.sl [0,1,3] rfl)) (fun _=>r_mv hA rfl) fun a hA=>?_
  refine gT 13 hA rfl (hI.sl [0,1,3] rfl) (fun w hI=>r_rix (j:=1) U112 sz111 hI rfl hA rfl rfl hb1.1 hb1.2) fun a hA=>?_
  refine gE 14 hA rfl (.inr (hI.sl [0,1,3] rfl)) (fun _=>r_fd (k:=so vp1+r1.toNat * 104+101) U111 rfl sz3 hA rfl rfl) fun a hA=>?_
  obtain ⟨A2,_,B2,hc3,hl2,_,he2⟩:=Els.at_ hp1 (getD_some default hb1.1 hb1.2)
  obtain ⟨rfl,hw3⟩:=he2
  refine gT 15 hA rfl (hI.sl [0,1,3] rfl) (fun w hI=>r_rldQ (j:=1) (q:=r1.toNat * 104) (off:=101) A2 B2 [av .u8 32 ((x0.l.getD r1.toNat default).id),[.int .u32 ((x0.l.getD r1.toNat default).h.Version)],av .u8 32 ((x0.l.getD r1.toNat default).h.Prev),av .u8 32 ((x0.l.getD r1.toNat default).h.Root),[.int .u32 ((x0.l.getD r1.toNat default).h.Time)],[.int .u32 ((x0.l.getD r1.toNat default).h.Work)],[.int .u32 ((x0.l.getD r1.toNat default).h.Nonce)],[.int .i64 ((x0.l.getD r1.toNat default).parent)]] [[.int .u64 ((x0.l.getD r1.toNat default).work)],[.bool ((x0.l.getD r1.toNat default).bad)]] hc3 hl2 rfl U3 rfl hI rfl hA rfl) fun a hA=>?_
  refine gE 16 hA rfl (.inr (hI.sl [0,1,3] rfl)) (fun _=>r_mv hA rfl) fun a hA=>?_
  refine gE 17 hA rfl (.inr (hI.sl [0,1,3] rfl)) (fun _=>r_nilc hA rfl) fun a hA=>?_
  refine gE 18 hA rfl (.inr (hI.sl [0,1,3] rfl)) (fun _=>r_fd (k:=0) U114 rfl sz112 hA rfl rfl) fun a hA=>?_
  refine gT 19 hA rfl (hI.sl [0,1,3] rfl) (fun w hI=>r_ld1 (j:=0) [] [] U112 rfl hI rfl hA rfl rfl) fun a hA=>?_
  refine gE 20 hA rfl (.inr (hI.sl [0,1,3] rfl)) (fun _=>r_mv hA rfl) fun a hA=>?_
  refine gT 21 hA rfl (hI.sl [0,1,3] rfl) (fun w hI=>r_rix (j:=1) U112 sz111 hI rfl hA rfl rfl hb1.1 hb1.2) fun a hA=>?_
  refine gE 22 hA rfl (.inr (hI.sl [0,1,3] rfl)) (fun _=>r_fd (k:=so vp1+r1.toNat * 104+102) U111 rfl sz45 hA rfl rfl) fun a hA=>?_
  obtain ⟨A3,_,B3,hc4,hl3,_,he3⟩:=Els.at_ hp1 (getD_some default hb1.1 hb1.2)
  obtain ⟨rfl,hw4⟩:=he3
  refine gT 23 hA rfl (hI.sl [0,1,3] rfl) (fun w hI=>r_rldQ (j:=1) (q:=r1.toNat * 104) (off:=102) A3 B3 [av .u8 32 ((x0.l.getD r1.toNat default).id),[.int .u32 ((x0.l.getD r1.toNat default).h.Version)],av .u8 32 ((x0.l.getD r1.toNat default).h.Prev),av .u8 32 ((x0.l.getD r1.toNat default).h.Root),[.int .u32 ((x0.l.getD r1.toNat default).h.Time)],[.int .u32 ((x0.l.getD r1.toNat default).h.Work)],[.int .u32 ((x0.l.getD r1.toNat default).h.Nonce)],[.int .i64 ((x0.l.getD r1.toNat default).parent)],[.int .i64 ((x0.l.getD r1.toNat default).height)]] [[.bool ((x0.l.getD r1.toNat default).bad)]] hc4 hl3 rfl U45 rfl hI rfl hA rfl) fun a hA=>?_
  refine gF 24 rfl ?_
  refine o_st (j:=2) [] [[.int .u32 0],av .u8 32 Z32,av .u8 32 Z32,[.int .u32 0],[.int .u32 0],[.int .u32 0]] [[.int .u32 ((x0.l.getD r1.toNat default).h.Version)],av .u8 32 ((x0.l.getD r1.toNat default).h.Prev),av .u8 32 ((x0.l.getD r1.toNat default).h.Root),[.int .u32 ((x0.l.getD r1.toNat default).h.Time)],[.int .u32 ((x0.l.getD r1.toNat default).h.Work)],[.int .u32 ((x0.l.getD r1.toNat default).h.Nonce)]] [] sz27 rfl rfl (fl_cons (oneC rfl) (fl_cons (one_av _ _ _) (fl_cons (one_av _ _ _) (fl_cons (oneC rfl) (fl_cons (oneC rfl) (fl_cons (oneC rfl) fl_nil)))))) hI rfl hA rfl rfl rfl rfl fun w hI=>?_
  refine o_nil<|⟨(.inr (hI.sl [0,1,3] rfl)),?_⟩
  refine gE 25 hA rfl (.inr (hI.sl [0,1,3] rfl)) (fun _=>r_as hA rfl) fun a hA=>?_
  refine gE 26 hA rfl (.inr (hI.sl [0,1,3] rfl)) (fun _=>r_as hA rfl) fun a hA=>?_
  refine gE 27 hA rfl (.inr (hI.sl [0,1,3] rfl)) (fun _=>r_as hA rfl) fun a hA=>?_
  refine gN<|hN6 _ _<|w_ret ?_
  obtain rfl:=sJ H
  exact retN hA Tryz.results15 (.cell rfl (cell_ld U27 rfl sz27 rfl hI (j:=2) rfl) (.tmp rfl (.tmp rfl (.tmp rfl .nil)))) ⟨_,rfl,rfl,⟨hw2.2.1,hw2.2.2.1,hw2.2.2.2.1,hw2.2.2.2.2.1,hw2.2.2.2.2.2.1,hw2.2.2.2.2.2.2.1⟩,hw3.2.2.2.2.2.2.2.2.1,hw4.2.2.2.2.2.2.2.2.2,trivial,((hI.sl [0,1] rfl).less (Store.le.refl _) hI.le)⟩
theorem sargassoref8_Tree_Ancestor.c (μ:Store)(w0:World)(hμ:Agr μ w0)(x0:sargassoref8Tree)(vp1:Value)(cp1:List Value)(g0:Nat)(hp1:Els (Rsargassoref8Node μ) 104 x0.l cp1)(ho0:Its μ w0 [cel g0 [[vp1]] 114,row 111 104 vp1 x0.l.length cp1])(x1:List Int)(hx1:Arr .u8 32 x1)(x2:Int)(hx2:InR .i64 x2)(r:(List Int)×Bool)(H:sargassoref8_Tree_Ancestor.f x0 x1 x2=some r) :
  Calls Tryz.prog 20 [pt g0 0,.agg [av .u8 32 x1].flatten.toArray,.int .i64 x2].toArray w0 (fun e w'=>∃ v,e=.returned v∧v=.tuple #[.agg [av .u8 32 (r.1)].flatten.toArray,.bool (r.2)]∧Arr .u8 32 (r.1)∧True∧Iv w0 (many [cel g0 [[vp1]] 114,row 111 104 vp1 x0.l.length cp1]).foot μ μ [cel g0 [[vp1]] 114,row 111 104 vp1 x0.l.length cp1] w'):=by
 refine enter Tryz.func20 rfl Tryz.ntmps20 rfl fun a hA=>?_
 have hI:=Iv.startN hμ ho0
 have H:=bI H
 refine w_seq fun _ hN1=>w_reg<|o_box [av .u8 32 x1] hI hA rfl rfl rfl fun g1 a w hA hI hg1 =>
  o_new [av .u8 32 Z32] zr25 hI hA rfl fun g2 a w hA hI hg2 =>
  sta hA rfl rfl fun a hA=>?_
 refine o_nil<|hN1 _ _<|w_seq fun _ hN2=>w_reg<|stm hA rfl rfl fun a hA =>
  stp hA (r_ldA (j:=1) [] [av .u8 32 x1] [] U25 rfl sz25 rfl hI rfl hA rfl rfl) rfl fun a hA=>?_
 obtain ⟨r1,hr1,H⟩:=bB H
 have hI:=hI.sl [2,3,0,1] rfl
 refine o_call _ cf53 hA rfl (sargassoref8_Tree_Find.c μ _ hI.agr (⟨x0.l⟩:sargassoref8Tree) vp1 cp1 g0 hp1 (hI.handN 2) x1 hx1 r1 hr1) rfl fun v1 a w hz1 hA=>?_
 obtain ⟨rfl,hw1,hi1⟩:=hz1
 have hI:=hI.back2 hi1
 refine sta hA rfl rfl fun a hA=>?_
 refine o_nil<|hN2 _ _ ?_
 obtain ⟨c1,hz2,Hk1⟩:=bB H
 refine w_cut (fun a w=>InR .i64 c1∧Fr a 45 [(0,pt g0 0),(6,pt g2 0),(7,.bool false),(8,.int .i64 c1)]∧Iv w0 (many [cel g0 [[vp1]] 114,row 111 104 vp1 x0.l.length cp1]).foot μ μ [cel g0 [[vp1]] 114,row 111 104 vp1 x0.l.length cp1,cel g2 [av .u8 32 Z32] 25,cel g1 [av .u8 32 x1] 25] w) ?_ ?_
 ·have H:=bI hz2
  refine w_block ?_
  obtain ⟨z1,hz3,Hk2⟩:=bind_some H
  obtain ⟨n1,hn1⟩:=loopO_some hz3
  refine w_loop (fun n a w=>∃(s1:Int),loopN (sargassoref8_Tree_Ancestor.s0 x0 x2) n s1=some z1∧InR .i64 s1∧Fr a 45 [(0,pt g0 0),(2,.int .i64 x2),(6,pt g2 0),(7,.bool false),(8,.int .i64 s1)]∧Iv w0 (many [cel g0 [[vp1]] 114,row 111 104 vp1 x0.l.length cp1]).foot μ μ [cel g0 [[vp1]] 114,row 111 104 vp1 x0.l.length cp1,cel g2 [av .u8 32 Z32] 25,cel g1 [av .u8 32 x1] 25] w) n1 ⟨r1,hn1,hw1,hA.sub ⟨rfl,rfl,rfl,rfl,rfl,trivial⟩,hI⟩ ?_
  clear hA hI
  rintro n a w ⟨s1,hn1,ws1,hA,hI⟩
  obtain ⟨m1,rfl,H⟩:=loopN_bind hn1
  clear hn1
  dsimp only [sargassoref8_Tree_Ancestor.s0] at H
  refine w_seq fun _ hN3=>?_
  obtain ⟨c2,hz4,Hk3⟩:=bB H
  refine w_cut (fun a w=>Fr a 45 [(0,pt g0 0),(2,.int .i64 x2),(6,pt g2 0),(7,.bool false),(8,.int .i64 s1),(25,.bool c2)]∧Iv w0 (many [cel g0 [[vp1]] 114,row 111 104 vp1 x0.l.length cp1]).foot μ μ [cel g0 [[vp1]] 114,row 111 104 vp1 x0.l.length cp1,cel g2 [av .u8 32 Z32] 25,cel g1 [av .u8 32 x1] 25] w) ?_ ?_
  ·have H:=bI hz4
   refine w_reg<|stm hA rfl rfl fun a hA =>
    stp hA (r_geq hA rfl rfl) rfl fun a hA =>
    stm hA rfl rfl fun a hA=>?_
   rcases Bool.eq_false_or_eq_true (decide (0≤s1)) with hc1 | hc1
   ·have hc10:=hc1;obtain ⟨hc1,H⟩:=dT H hc1
    refine o_yes hA rfl rfl hc10 <|
     stm hA rfl rfl fun a hA =>
     o_yes hA rfl rfl hc10 <|
     stp hA (r_nilc hA rfl) rfl fun a hA =>
     o_yes hA rfl rfl hc10 <|
     stp hA (r_fd (k:=0) U114 rfl sz112 hA rfl rfl) rfl fun a hA =>
     o_yes hA rfl rfl hc10 <|
     stp hA (r_ld1 (j:=0) [] [] U112 rfl hI rfl hA rfl rfl) rfl fun a hA =>
     o_yes hA rfl rfl hc10 <|
     stm hA rfl rfl fun a hA =>
     o_yes hA rfl rfl hc10<|?_
    obtain ⟨hb1,H⟩:=bG H
    refine stp hA (r_rix (j:=1) U112 sz111 hI rfl hA rfl rfl hb1.1 hb1.2) rfl fun a hA =>
     o_yes hA rfl rfl hc10 <|
     stp hA (r_fd (k:=so vp1+s1.toNat * 104+101) U111 rfl sz3 hA rfl rfl) rfl fun a hA =>
     o_yes hA rfl rfl hc10<|?_
    obtain ⟨A1,_,B1,hc2,hl1,_,he1⟩:=Els.at_ hp1 (getD_some default hb1.1 hb1.2)
    obtain ⟨rfl,hw2⟩:=he1
    refine stp hA (r_rldQ (j:=1) (q:=s1.toNat * 104) (off:=101) A1 B1 [av .u8 32 ((x0.l.getD s1.toNat default).id),[.int .u32 ((x0.l.getD s1.toNat default).h.Version)],av .u8 32 ((x0.l.getD s1.toNat default).h.Prev),av .u8 32 ((x0.l.getD s1.toNat default).h.Root),[.int .u32 ((x0.l.getD s1.toNat default).h.Time)],[.int .u32 ((x0.l.getD s1.toNat default).h.Work)],[.int .u32 ((x0.l.getD s1.toNat default).h.Nonce)],[.int .i64 ((x0.l.getD s1.toNat default).parent)]] [[.int .u64 ((x0.l.getD s1.toNat default).work)],[.bool ((x0.l.getD s1.toNat default).bad)]] hc2 hl1 rfl U3 rfl hI rfl hA rfl) rfl fun a hA =>
     o_yes hA rfl rfl hc10 <|
     stm hA rfl rfl fun a hA =>
     o_yes hA rfl rfl hc10 <|
     stp hA (r_neq hA rfl rfl) rfl fun a hA =>
     stp hA (r_pick_t hA rfl hc10 rfl) rfl fun a hA=>?_
    refine o_nil ?_
    cases sJ H
    exact ⟨hA.sub ⟨rfl,rfl,rfl,rfl,rfl,rfl,trivial⟩,hI⟩
   ·have hc10:=hc1;obtain ⟨hc1,H⟩:=dF H hc1
    refine o_no hA rfl rfl (by rw [hc10];simp [vb]) rfl fun a hA =>
     o_no hA rfl rfl (by rw [hc10];simp [vb]) rfl fun a hA =>
     o_no hA rfl rfl (by rw [hc10];simp [vb]) rfl fun a hA =>
     o_no hA rfl rfl (by rw [hc10];simp [vb]) rfl fun a hA =>
     o_no hA rfl rfl (by rw [hc10];simp [vb]) rfl fun a hA =>
     o_no hA rfl rfl (by rw [hc10];simp [vb]) rfl fun a hA =>
     o_no hA rfl rfl (by rw [hc10];simp [vb]) rfl fun a hA =>
     o_no hA rfl rfl (by rw [hc10];simp [vb]) rfl fun a hA =>
     o_no hA rfl rfl (by rw [hc10];simp [vb]) rfl fun a hA =>
     o_no hA rfl rfl (by rw [hc10];simp [vb]) rfl fun a hA =>
     stp hA (r_pick_f hA rfl hc10 rfl) rfl fun a hA=>?_
    refine o_nil ?_
    cases sJ H
    exact ⟨hA.sub ⟨rfl,rfl,rfl,rfl,rfl,rfl,trivial⟩,hI⟩
  ·rintro a w ⟨hA,hI⟩
   have H:=Hk3
   refine w_cond hA rfl (fun hc3=>?_) (fun hc3=>?_)
   ·have H:=bT H hc3
    refine w_skip<|hN3 _ _<|w_block<|w_reg<|stm hA rfl rfl fun a hA =>
     stp hA (r_nilc hA rfl) rfl fun a hA =>
     stp hA (r_fd (k:=0) U114 rfl sz112 hA rfl rfl) rfl fun a hA =>
     stp hA (r_ld1 (j:=0) [] [] U112 rfl hI rfl hA rfl rfl) rfl fun a hA =>
     stm hA rfl rfl fun a hA=>?_
    obtain ⟨hb2,H⟩:=bG H
    refine stp hA (r_rix (j:=1) U112 sz111 hI rfl hA rfl rfl hb2.1 hb2.2) rfl fun a hA =>
     stp hA (r_fd (k:=so vp1+s1.toNat * 104+100) U111 rfl sz3 hA rfl rfl) rfl fun a hA=>?_
    obtain ⟨A2,_,B2,hc4,hl2,_,he2⟩:=Els.at_ hp1 (getD_some default hb2.1 hb2.2)
    obtain ⟨rfl,hw3⟩:=he2
    refine stp hA (r_rldQ (j:=1) (q:=s1.toNat * 104) (off:=100) A2 B2 [av .u8 32 ((x0.l.getD s1.toNat default).id),[.int .u32 ((x0.l.getD s1.toNat default).h.Version)],av .u8 32 ((x0.l.getD s1.toNat default).h.Prev),av .u8 32 ((x0.l.getD s1.toNat default).h.Root),[.int .u32 ((x0.l.getD s1.toNat default).h.Time)],[.int .u32 ((x0.l.getD s1.toNat default).h.Work)],[.int .u32 ((x0.l.getD s1.toNat default).h.Nonce)]] [[.int .i64 ((x0.l.getD s1.toNat default).height)],[.int .u64 ((x0.l.getD s1.toNat default).work)],[.bool ((x0.l.getD s1.toNat default).bad)]] hc4 hl2 rfl U3 rfl hI rfl hA rfl) rfl fun a hA =>
     sta hA rfl rfl fun a hA=>?_
    refine o_nil<|⟨m1,lS _,(x0.l.getD s1.toNat default).parent,H,hw3.2.2.2.2.2.2.2.1,hA.sub ⟨rfl,rfl,rfl,rfl,rfl,trivial⟩,hI⟩
   ·have hc3:=ft hc3;have H:=bF H hc3
    refine w_exit rfl ?_
    have H:some s1=some z1:=H
    obtain rfl:=sI H
    have H:=Hk2
    cases sJ H
    exact ⟨ws1,hA.sub ⟨rfl,rfl,rfl,rfl,trivial⟩,hI⟩
 ·rintro a w ⟨wc1,hA,hI⟩
  have H:=Hk1
  refine w_seq fun _ hN4=>w_seq fun _ hN5=>w_reg<|stm hA rfl rfl fun a hA =>
   stp hA (r_lss hA rfl rfl) rfl fun a hA=>?_
  refine o_nil<|hN5 _ _<|w_cond hA rfl (fun hc5=>?_) (fun hc5=>?_)
  ·obtain ⟨hc5,H⟩:=dT H hc5
   refine w_seq fun _ hN6=>w_reg<|stp hA (r_bldA (cs:=[av .u8 32 ([0,0,0,0,0,0,0,0,0,0,0,0,0,0,0,0,0,0,0,0,0,0,0,0,0,0,0,0,0,0,0,0])].flatten.toArray) zr25 U25 sz5 hA rfl (by kernel_rfl)) rfl fun a hA =>
    o_st (j:=2) [] [av .u8 32 Z32] [av .u8 32 ([0,0,0,0,0,0,0,0,0,0,0,0,0,0,0,0,0,0,0,0,0,0,0,0,0,0,0,0,0,0,0,0])] [] sz25 rfl rfl (fl_cons (one_av _ _ _) fl_nil) hI rfl hA rfl rfl rfl rfl fun w hI =>
    sta hA rfl rfl fun a hA=>?_
   refine o_nil<|hN6 _ _<|w_ret ?_
   obtain rfl:=sJ H
   exact retN hA Tryz.results20 (.cell rfl (cell_ld U25 rfl sz25 rfl hI (j:=2) rfl) (.tmp rfl .nil)) ⟨_,rfl,rfl,(arr_lit rfl (by simp only [List.forall_mem_cons];exact ⟨(in_lit .u8 0 rfl),(in_lit .u8 0 rfl),(in_lit .u8 0 rfl),(in_lit .u8 0 rfl),(in_lit .u8 0 rfl),(in_lit .u8 0 rfl),(in_lit .u8 0 rfl),(in_lit .u8 0 rfl),(in_lit .u8 0 rfl),(in_lit .u8 0 rfl),(in_lit .u8 0 rfl),(in_lit .u8 0 rfl),(in_lit .u8 0 rfl),(in_lit .u8 0 rfl),(in_lit .u8 0 rfl),(in_lit .u8 0 rfl),(in_lit .u8 0 rfl),(in_lit .u8 0 rfl),(in_lit .u8 0 rfl),(in_lit .u8 0 rfl),(in_lit .u8 0 rfl),(in_lit .u8 0 rfl),(in_lit .u8 0 rfl),(in_lit .u8 0 rfl),(in_lit .u8 0 rfl),(in_lit .u8 0 rfl),(in_lit .u8 0 rfl),(in_lit .u8 0 rfl),(in_lit .u8 0 rfl),(in_lit .u8 0 rfl),(in_lit .u8 0 rfl),(in_lit .u8 0 rfl),by simp⟩)),trivial,((hI.sl [0,1] rfl).less (Store.le.refl _) hI.le)⟩
  ·obtain ⟨hc5,H⟩:=dF H hc5
   refine w_skip<|hN4 _ _<|w_seq fun _ hN7=>w_reg<|stm hA rfl rfl fun a hA =>
    stp hA (r_nilc hA rfl) rfl fun a hA =>
    stp hA (r_fd (k:=0) U114 rfl sz112 hA rfl rfl) rfl fun a hA =>
    stp hA (r_ld1 (j:=0) [] [] U112 rfl hI rfl hA rfl rfl) rfl fun a hA =>
    stm hA rfl rfl fun a hA=>?_
   obtain ⟨hb3,H⟩:=bG H
   refine stp hA (r_rix (j:=1) U112 sz111 hI rfl hA rfl rfl hb3.1 hb3.2) rfl fun a hA =>
    stp hA (r_fd (k:=so vp1+c1.toNat * 104) U111 rfl sz25 hA rfl rfl) rfl fun a hA=>?_
   obtain ⟨A3,_,B3,hc6,hl3,_,he3⟩:=Els.at_ hp1 (getD_some default hb3.1 hb3.2)
   obtain ⟨rfl,hw4⟩:=he3
   refine stp hA (r_rldP (j:=1) (q:=c1.toNat * 104) (off:=0) A3 B3 [] [av .u8 32 ((x0.l.getD c1.toNat default).id)] [[.int .u32 ((x0.l.getD c1.toNat default).h.Version)],av .u8 32 ((x0.l.getD c1.toNat default).h.Prev),av .u8 32 ((x0.l.getD c1.toNat default).h.Root),[.int .u32 ((x0.l.getD c1.toNat default).h.Time)],[.int .u32 ((x0.l.getD c1.toNat default).h.Work)],[.int .u32 ((x0.l.getD c1.toNat default).h.Nonce)],[.int .i64 ((x0.l.getD c1.toNat default).parent)],[.int .i64 ((x0.l.getD c1.toNat default).height)],[.int .u64 ((x0.l.getD c1.toNat default).work)],[.bool ((x0.l.getD c1.toNat default).bad)]] hc6 hl3 rfl U25 rfl sz25 rfl hI rfl hA rfl) rfl fun a hA =>
    o_st (j:=2) [] [av .u8 32 Z32] [av .u8 32 ((x0.l.getD c1.toNat default).id)] [] sz25 rfl rfl (fl_cons (one_av _ _ _) fl_nil) hI rfl hA rfl rfl rfl rfl fun w hI =>
    sta hA rfl rfl fun a hA=>?_
   refine o_nil<|hN7 _ _<|w_ret ?_
   obtain rfl:=sJ H
   exact retN hA Tryz.results20 (.cell rfl (cell_ld U25 rfl sz25 rfl hI (j:=2) rfl) (.tmp rfl .nil)) ⟨_,rfl,rfl,hw4.1,trivial,((hI.sl [0,1] rfl).less (Store.le.refl _) hI.le)⟩
theorem sargassoref8_Tree_below.c (μ:Store)(w0:World)(hμ:Agr μ w0)(x0:sargassoref8Tree)(vp1:Value)(cp1:List Value)(g0:Nat)(hp1:Els (Rsargassoref8Node μ) 104 x0.l cp1)(ho0:Its μ w0 [cel g0 [[vp1]] 114,row 111 104 vp1 x0.l.length cp1])(x1:Int)(hx1:InR .i64 x1)(x2:Int)(hx2:InR .i64 x2)(r:Bool)(H:sargassoref8_Tree_below.f x0 x1 x2=some r) :
  Calls Tryz.prog 58 [pt g0 0,.int .i64 x1,.int .i64 x2].toArray w0 (fun e w'=>∃ v,e=.returned v∧v=.bool r∧True∧Iv w0 (many [cel g0 [[vp1]] 114,row 111 104 vp1 x0.l.length cp1]).foot μ μ [cel g0 [[vp1]] 114,row 111 104 vp1 x0.l.length cp1] w'):=by
 refine enter Tryz.func58 rfl Tryz.ntmps58 rfl fun a hA=>?_
 have hI:=Iv.startN hμ ho0
 have H:=bI H
 refine w_seq fun _ hN1=>w_reg<|sta hA rfl rfl fun a hA=>?_
 refine o_nil<|hN1 _ _<|w_seq fun _ hN2=>w_block ?_
 obtain ⟨z1,hz1,Hk1⟩:=bind_some H
 obtain ⟨n1,hn1⟩:=loopO_some hz1
 refine w_loop (fun n a w=>∃(s1:Int),loopN (sargassoref8_Tree_below.s0 x0 x2) n s1=some z1∧InR .i64 s1∧Fr a 20 [(0,pt g0 0),(1,.int .i64 s1),(2,.int .i64 x2),(6,.bool false)]∧Iv w0 (many [cel g0 [[vp1]] 114,row 111 104 vp1 x0.l.length cp1]).foot μ μ [cel g0 [[vp1]] 114,row 111 104 vp1 x0.l.length cp1] w) n1 ⟨x1,hn1,hx1,hA.sub ⟨rfl,rfl,rfl,rfl,trivial⟩,hI⟩ ?_
 clear hA hI
 rintro n a w ⟨s1,hn1,ws1,hA,hI⟩
 obtain ⟨m1,rfl,H⟩:=loopN_bind hn1
 clear hn1
 refine w_seq fun _ hN3=>w_seq fun _ hN4=>w_reg<|stm hA rfl rfl fun a hA =>
  stp hA (r_geq hA rfl rfl) rfl fun a hA=>?_
 refine o_nil<|hN4 _ _<|w_cond hA rfl (fun hc1=>?_) (fun hc1=>?_)
 ·obtain ⟨hc1,H⟩:=dT H hc1
  refine w_skip<|hN3 _ _<|w_block<|w_seq fun _ hN5=>w_seq fun _ hN6=>w_reg<|stm hA rfl rfl fun a hA =>
   stm hA rfl rfl fun a hA =>
   stp hA (r_eql hA rfl rfl) rfl fun a hA=>?_
  refine o_nil<|hN6 _ _<|w_cond hA rfl (fun hc2=>?_) (fun hc2=>?_)
  ·obtain ⟨hc2,H⟩:=dT H hc2
   refine w_seq fun _ hN7=>w_reg<|sta hA rfl rfl fun a hA=>?_
   refine o_nil<|hN7 _ _<|w_ret ?_
   have H:some true=some z1:=H
   obtain rfl:=sI H
   have H:=Hk1
   obtain rfl:=sJ H
   exact ret1 hA Tryz.results58 rfl ⟨_,rfl,rfl,trivial,(hI.less (Store.le.refl _) hI.le)⟩
  ·obtain ⟨hc2,H⟩:=dF H hc2
   refine w_skip<|hN5 _ _<|w_reg<|stm hA rfl rfl fun a hA =>
    stp hA (r_nilc hA rfl) rfl fun a hA =>
    stp hA (r_fd (k:=0) U114 rfl sz112 hA rfl rfl) rfl fun a hA =>
    stp hA (r_ld1 (j:=0) [] [] U112 rfl hI rfl hA rfl rfl) rfl fun a hA =>
    stm hA rfl rfl fun a hA=>?_
   obtain ⟨hb1,H⟩:=bG H
   refine stp hA (r_rix (j:=1) U112 sz111 hI rfl hA rfl rfl hb1.1 hb1.2) rfl fun a hA =>
    stp hA (r_fd (k:=so vp1+s1.toNat * 104+100) U111 rfl sz3 hA rfl rfl) rfl fun a hA=>?_
   obtain ⟨A1,_,B1,hc3,hl1,_,he1⟩:=Els.at_ hp1 (getD_some default hb1.1 hb1.2)
   obtain ⟨rfl,hw1⟩:=he1
   refine stp hA (r_rldQ (j:=1) (q:=s1.toNat * 104) (off:=100) A1 B1 [av .u8 32 ((x0.l.getD s1.toNat default).id),[.int .u32 ((x0.l.getD s1.toNat default).h.Version)],av .u8 32 ((x0.l.getD s1.toNat default).h.Prev),av .u8 32 ((x0.l.getD s1.toNat default).h.Root),[.int .u32 ((x0.l.getD s1.toNat default).h.Time)],[.int .u32 ((x0.l.getD s1.toNat default).h.Work)],[.int .u32 ((x0.l.getD s1.toNat default).h.Nonce)]] [[.int .i64 ((x0.l.getD s1.toNat default).height)],[.int .u64 ((x0.l.getD s1.toNat default).work)],[.bool ((x0.l.getD s1.toNat default).bad)]] hc3 hl1 rfl U3 rfl hI rfl hA rfl) rfl fun a hA =>
    sta hA rfl rfl fun a hA=>?_
   refine o_nil<|⟨m1,lS _,(x0.l.getD s1.toNat default).parent,H,hw1.2.2.2.2.2.2.2.1,hA.sub ⟨rfl,rfl,rfl,rfl,trivial⟩,hI⟩
 ·obtain ⟨hc1,H⟩:=dF H hc1
  refine w_exit rfl<|hN2 _ _<|w_seq fun _ hN8=>w_reg<|sta hA rfl rfl fun a hA=>?_
  refine o_nil<|hN8 _ _<|w_ret ?_
  have H:some false=some z1:=H
  obtain rfl:=sI H
  have H:=Hk1
  obtain rfl:=sJ H
  exact ret1 hA Tryz.results58 rfl ⟨_,rfl,rfl,trivial,(hI.less (Store.le.refl _) hI.le)⟩
theorem sargassoref8_Tree_Under.c (μ:Store)(w0:World)(hμ:Agr μ w0)(x0:sargassoref8Tree)(vp1:Value)(cp1:List Value)(g0:Nat)(hp1:Els (Rsargassoref8Node μ) 104 x0.l cp1)(ho0:Its μ w0 [cel g0 [[vp1]] 114,row 111 104 vp1 x0.l.length cp1])(x1:List Int)(hx1:Arr .u8 32 x1)(r:List (List Int))(H:sargassoref8_Tree_Under.f x0 x1=some r) :
  Calls Tryz.prog 24 [pt g0 0,.agg [av .u8 32 x1].flatten.toArray].toArray w0 (fun e w'=>∃ v,e=.returned v∧∃(v0:Value)(c0:List Value),v=v0∧Els (RA .u8 32) 32 r c0∧Iv w0 (many [cel g0 [[vp1]] 114,row 111 104 vp1 x0.l.length cp1]).foot μ μ [row 25 32 v0 r.length c0,cel g0 [[vp1]] 114,row 111 104 vp1 x0.l.length cp1] w'):=by
 refine enter Tryz.func24 rfl Tryz.ntmps24 rfl fun a hA=>?_
 have hI:=Iv.startN hμ ho0
 have H:=bI H
 refine w_seq fun _ hN1=>w_reg<|o_box [av .u8 32 x1] hI hA rfl rfl rfl fun g1 a w hA hI hg1 =>
  sta hA rfl rfl fun a hA=>?_
 refine o_nil<|hN1 _ _<|w_seq fun _ hN2=>w_reg<|stm hA rfl rfl fun a hA =>
  stp hA (r_ldA (j:=0) [] [av .u8 32 x1] [] U25 rfl sz25 rfl hI rfl hA rfl rfl) rfl fun a hA=>?_
 obtain ⟨r1,hr1,H⟩:=bB H
 have hI:=hI.sl [1,2,0] rfl
 refine o_call _ cf53 hA rfl (sargassoref8_Tree_Find.c μ _ hI.agr (⟨x0.l⟩:sargassoref8Tree) vp1 cp1 g0 hp1 (hI.handN 2) x1 hx1 r1 hr1) rfl fun v1 a w hz1 hA=>?_
 obtain ⟨rfl,hw1,hi1⟩:=hz1
 have hI:=hI.back2 hi1
 refine sta hA rfl rfl fun a hA=>?_
 refine o_nil<|hN2 _ _<|w_seq fun _ hN3=>w_reg<|sta hA rfl rfl fun a hA=>?_
 refine o_nil<|hN3 _ _ ?_
 obtain ⟨c1,hz2,Hk1⟩:=bB H
 refine w_cut (fun a w=>∃(vvc1:Value)(ccc1:List Value),Els (RA .u8 32) 32 c1 ccc1∧Fr a 39 [(4,Sn),(6,vvc1)]∧Iv w0 (many [cel g0 [[vp1]] 114,row 111 104 vp1 x0.l.length cp1]).foot μ μ [row 25 32 vvc1 c1.length ccc1,cel g0 [[vp1]] 114,row 111 104 vp1 x0.l.length cp1,cel g1 [av .u8 32 x1] 25] w) ?_ ?_
 ·have H:=bI hz2
  refine w_seq fun _ hN4=>w_reg<|sta hA rfl rfl fun a hA=>?_
  refine o_nil<|hN4 _ _<|w_block ?_
  have hI:=hI.nilRow 25 32
  obtain ⟨z1,hz3,Hk2⟩:=bind_some H
  obtain ⟨n1,hn1⟩:=loopO_some hz3
  refine w_loop (fun n a w=>∃(s1:List (List Int))(s2:Int)(vvs1:Value)(ccs1:List Value),loopN (sargassoref8_Tree_Under.s0 x0 r1) n (s1,s2)=some z1∧Els (RA .u8 32) 32 s1 ccs1∧InR .i64 s2∧Fr a 39 [(0,pt g0 0),(4,Sn),(5,.int .i64 r1),(6,vvs1),(7,.int .i64 s2)]∧Iv w0 (many [cel g0 [[vp1]] 114,row 111 104 vp1 x0.l.length cp1]).foot μ μ [row 25 32 vvs1 s1.length ccs1,cel g0 [[vp1]] 114,row 111 104 vp1 x0.l.length cp1,cel g1 [av .u8 32 x1] 25] w) n1 ⟨([]:List (List Int)),0,Sn,[],hn1,(Els.nil (RE:=(RA .u8 32)) (sz:=32)),(in_lit .i64 0 rfl),hA.sub ⟨rfl,rfl,rfl,rfl,rfl,trivial⟩,hI⟩ ?_
  clear hA hI
  rintro n a w ⟨s1,s2,vvs1,ccs1,hn1,ws1,ws2,hA,hI⟩
  obtain ⟨m1,rfl,H⟩:=loopN_bind hn1
  clear hn1
  dsimp only [sargassoref8_Tree_Under.s0] at H
  refine w_seq fun _ hN5=>?_
  obtain ⟨c2,hz4,Hk3⟩:=bB H
  refine w_cut (fun a w=>Fr a 39 [(0,pt g0 0),(4,Sn),(5,.int .i64 r1),(6,vvs1),(7,.int .i64 s2),(21,.bool c2)]∧Iv w0 (many [cel g0 [[vp1]] 114,row 111 104 vp1 x0.l.length cp1]).foot μ μ [row 25 32 vvs1 s1.length ccs1,cel g0 [[vp1]] 114,row 111 104 vp1 x0.l.length cp1,cel g1 [av .u8 32 x1] 25] w) ?_ ?_
  ·have H:=bI hz4
   refine w_reg<|stm hA rfl rfl fun a hA =>
    stm hA rfl rfl fun a hA =>
    stp hA (r_nilc hA rfl) rfl fun a hA =>
    stp hA (r_fd (k:=0) U114 rfl sz112 hA rfl rfl) rfl fun a hA =>
    stp hA (r_ld1 (j:=1) [] [] U112 rfl hI rfl hA rfl rfl) rfl fun a hA=>?_
   have hlen1:=Iv.row_in hI (j:=2) rfl
   refine stp hA (r_rlen (xs:=0) U112 hI (j:=2) rfl hA rfl) rfl fun a hA =>
    stp hA (r_lss hA rfl rfl) rfl fun a hA =>
    stm hA rfl rfl fun a hA=>?_
   rcases Bool.eq_false_or_eq_true (decide (s2 < (x0.l.length:Int))) with hc1 | hc1
   ·have hc10:=hc1;obtain ⟨hc1,H⟩:=dT H hc1
    refine o_yes hA rfl rfl hc10 <|
     stm hA rfl rfl fun a hA =>
     o_yes hA rfl rfl hc10 <|
     stp hA (r_geq hA rfl rfl) rfl fun a hA =>
     stp hA (r_pick_t hA rfl hc10 rfl) rfl fun a hA=>?_
    refine o_nil ?_
    cases sJ H
    exact ⟨hA.sub ⟨rfl,rfl,rfl,rfl,rfl,rfl,trivial⟩,hI⟩
   ·have hc10:=hc1;obtain ⟨hc1,H⟩:=dF H hc1
    refine o_no hA rfl rfl (by rw [hc10];simp [vb]) rfl fun a hA =>
     o_no hA rfl rfl (by rw [hc10];simp [vb]) rfl fun a hA =>
     stp hA (r_pick_f hA rfl hc10 rfl) rfl fun a hA=>?_
    refine o_nil ?_
    cases sJ H
    exact ⟨hA.sub ⟨rfl,rfl,rfl,rfl,rfl,rfl,trivial⟩,hI⟩
  ·rintro a w ⟨hA,hI⟩
   have H:=Hk3
   refine w_cond hA rfl (fun hc2=>?_) (fun hc2=>?_)
   ·have H:=bT H hc2
    refine w_skip<|hN5 _ _ ?_
    obtain ⟨c3,hz5,Hk4⟩:=bB H
    refine w_cut (fun a w=>∃(vvc3:Value)(ccc3:List Value),Els (RA .u8 32) 32 c3 ccc3∧Fr a 39 [(0,pt g0 0),(4,Sn),(5,.int .i64 r1),(6,vvc3),(7,.int .i64 s2),(21,.bool c2)]∧Iv w0 (many [cel g0 [[vp1]] 114,row 111 104 vp1 x0.l.length cp1]).foot μ μ [row 25 32 vvc3 c3.length ccc3,cel g0 [[vp1]] 114,row 111 104 vp1 x0.l.length cp1,cel g1 [av .u8 32 x1] 25] w) ?_ ?_
    ·have H:=bI hz5
     refine w_block<|w_seq fun _ hN6=>w_reg<|stm hA rfl rfl fun a hA =>
      stm hA rfl rfl fun a hA =>
      stm hA rfl rfl fun a hA=>?_
     obtain ⟨r2,hr2,H⟩:=bB H
     have hI:=hI.sl [1,2,0,3] rfl
     refine o_call _ cf58 hA rfl (sargassoref8_Tree_below.c μ _ hI.agr (⟨x0.l⟩:sargassoref8Tree) vp1 cp1 g0 hp1 (hI.handN 2) s2 ws2 r1 hw1 r2 hr2) rfl fun v2 a w hz6 hA=>?_
     obtain ⟨rfl,hw2,hi2⟩:=hz6
     have hI:=hI.back2 hi2
     refine o_nil<|hN6 _ _<|w_cond hA rfl (fun hc3=>?_) (fun hc3=>?_)
     ·have H:=bT H hc3
      refine w_reg<|stm hA rfl rfl fun a hA =>
       stm hA rfl rfl fun a hA =>
       stp hA (r_nilc hA rfl) rfl fun a hA =>
       stp hA (r_fd (k:=0) U114 rfl sz112 hA rfl rfl) rfl fun a hA =>
       stp hA (r_ld1 (j:=0) [] [] U112 rfl hI rfl hA rfl rfl) rfl fun a hA =>
       stm hA rfl rfl fun a hA=>?_
      obtain ⟨hb1,H⟩:=bG H
      refine stp hA (r_rix (j:=1) U112 sz111 hI rfl hA rfl rfl hb1.1 hb1.2) rfl fun a hA =>
       stp hA (r_fd (k:=so vp1+s2.toNat * 104) U111 rfl sz25 hA rfl rfl) rfl fun a hA=>?_
      obtain ⟨A1,_,B1,hc4,hl1,_,he1⟩:=Els.at_ hp1 (getD_some default hb1.1 hb1.2)
      obtain ⟨rfl,hw3⟩:=he1
      refine stp hA (r_rldP (j:=1) (q:=s2.toNat * 104) (off:=0) A1 B1 [] [av .u8 32 ((x0.l.getD s2.toNat default).id)] [[.int .u32 ((x0.l.getD s2.toNat default).h.Version)],av .u8 32 ((x0.l.getD s2.toNat default).h.Prev),av .u8 32 ((x0.l.getD s2.toNat default).h.Root),[.int .u32 ((x0.l.getD s2.toNat default).h.Time)],[.int .u32 ((x0.l.getD s2.toNat default).h.Work)],[.int .u32 ((x0.l.getD s2.toNat default).h.Nonce)],[.int .i64 ((x0.l.getD s2.toNat default).parent)],[.int .i64 ((x0.l.getD s2.toNat default).height)],[.int .u64 ((x0.l.getD s2.toNat default).work)],[.bool ((x0.l.getD s2.toNat default).bad)]] hc4 hl1 rfl U25 rfl sz25 rfl hI rfl hA rfl) rfl fun a hA=>?_
      obtain ⟨r3,hr3,H⟩:=bB H
      refine o_callW (fun w v w'=>∃(v0:Value)(c0:List Value),v=v0∧Els (RA .u8 32) 32 r3 c0∧Iv w [] μ μ [row 25 32 v0 r3.length c0] w') cf59 hA rfl ((by obtain ⟨μ1,hle1,hsv1,hI⟩:=hI.freezeRow 2 rfl;have hS1:Slc (RA .u8 32) 32 μ1 vvs1 s1:=⟨_,ws1,hsv1⟩;exact (q0_PutHash.c μ1 _ hI.agr s1 vvs1 hS1 ((x0.l.getD s2.toNat default).id) hw3.1 r3 hr3).mono fun _ _ ⟨v,he,b0,b1,hv,f0,hi⟩=>⟨v,he,b0,b1,hv,f0,hi.low hle1⟩)) rfl fun v3 a w hz7 hA=>?_
      obtain ⟨_,cs1,rfl,hE1,hi3⟩:=hz7
      have hI:=hI.call hi3
      refine sta hA rfl rfl fun a hA=>?_
      refine o_nil ?_
      cases sJ H
      exact ⟨v3,cs1,hE1,hA.sub ⟨rfl,rfl,rfl,rfl,rfl,rfl,trivial⟩,(hI.sl [0,1,2,4] rfl)⟩
     ·have hc3:=ft hc3;have H:=bF H hc3
      refine w_skip ?_
      cases sJ H
      exact ⟨vvs1,ccs1,ws1,hA.sub ⟨rfl,rfl,rfl,rfl,rfl,rfl,trivial⟩,(hI.sl [2,0,1,3] rfl)⟩
    ·rintro a w ⟨vvc3,ccc3,wc3,hA,hI⟩
     have H:=Hk4
     refine w_reg<|stm hA rfl rfl fun a hA =>
      stp hA (r_add hA rfl rfl) rfl fun a hA =>
      sta hA rfl rfl fun a hA=>?_
     refine o_nil<|⟨m1,lS _,c3,IntKind.i64.wrap (s2+1),vvc3,ccc3,H,wc3,(wrap_in _ _),hA.sub ⟨rfl,rfl,rfl,rfl,rfl,trivial⟩,hI⟩
   ·have hc2:=ft hc2;have H:=bF H hc2
    refine w_exit rfl ?_
    have H:some s1=some z1:=H
    obtain rfl:=sI H
    have H:=Hk2
    cases sJ H
    exact ⟨vvs1,ccs1,ws1,hA.sub ⟨rfl,rfl,trivial⟩,hI⟩
 ·rintro a w ⟨vvc1,ccc1,wc1,hA,hI⟩
  have H:=Hk1
  refine w_seq fun _ hN7=>w_reg<|stm hA rfl rfl fun a hA =>
   sta hA rfl rfl fun a hA=>?_
  refine o_nil<|hN7 _ _<|w_ret ?_
  obtain rfl:=sJ H
  exact ret1 hA Tryz.results24 rfl ⟨_,rfl,vvc1,ccc1,rfl,wc1,((hI.sl [0,1,2] rfl).less (Store.le.refl _) hI.le)⟩
theorem sargassoref8_Tree_up.c (μ:Store)(w0:World)(hμ:Agr μ w0)(x0:sargassoref8Tree)(vp1:Value)(cp1:List Value)(g0:Nat)(hp1:Els (Rsargassoref8Node μ) 104 x0.l cp1)(ho0:Its μ w0 [cel g0 [[vp1]] 114,row 111 104 vp1 x0.l.length cp1])(x1:Int)(hx1:InR .i64 x1)(r:List Int)(H:sargassoref8_Tree_up.f x0 x1=some r) :
  Calls Tryz.prog 62 [pt g0 0,.int .i64 x1].toArray w0 (fun e w'=>∃ v,e=.returned v∧∃(v0:Value)(c0:List Value),v=v0∧Els (RI .i64) 1 r c0∧Iv w0 (many [cel g0 [[vp1]] 114,row 111 104 vp1 x0.l.length cp1]).foot μ μ [row 3 1 v0 r.length c0,cel g0 [[vp1]] 114,row 111 104 vp1 x0.l.length cp1] w'):=by
 refine enter Tryz.func62 rfl Tryz.ntmps62 rfl fun a hA=>?_
 have hI:=Iv.startN hμ ho0
 have H:=bI H
 refine w_seq fun _ hN1=>w_reg<|sta hA rfl rfl fun a hA=>?_
 refine o_nil<|hN1 _ _<|w_seq fun _ hN2=>w_reg<|sta hA rfl rfl fun a hA=>?_
 refine o_nil<|hN2 _ _ ?_
 obtain ⟨⟨c1,c2⟩,hz1,Hk1⟩:=bB H
 refine w_cut (fun a w=>∃(vvc2:Value)(ccc2:List Value),InR .i64 c1∧Els (RI .i64) 1 c2 ccc2∧Fr a 21 [(1,.int .i64 c1),(4,Sn),(5,vvc2)]∧Iv w0 (many [cel g0 [[vp1]] 114,row 111 104 vp1 x0.l.length cp1]).foot μ μ [row 3 1 vvc2 c2.length ccc2,cel g0 [[vp1]] 114,row 111 104 vp1 x0.l.length cp1] w) ?_ ?_
 ·have H:=bI hz1
  refine w_block ?_
  have hI:=hI.nilRow 3 1
  obtain ⟨z1,hz2,Hk2⟩:=bind_some H
  obtain ⟨n1,hn1⟩:=loopO_some hz2
  refine w_loop (fun n a w=>∃(s1:Int)(s2:List Int)(vvs2:Value)(ccs2:List Value),loopN (sargassoref8_Tree_up.s0 x0) n (s1,s2)=some z1∧InR .i64 s1∧Els (RI .i64) 1 s2 ccs2∧Fr a 21 [(0,pt g0 0),(1,.int .i64 s1),(4,Sn),(5,vvs2)]∧Iv w0 (many [cel g0 [[vp1]] 114,row 111 104 vp1 x0.l.length cp1]).foot μ μ [row 3 1 vvs2 s2.length ccs2,cel g0 [[vp1]] 114,row 111 104 vp1 x0.l.length cp1] w) n1 ⟨x1,([]:List Int),Sn,[],hn1,hx1,(Els.nil (RE:=(RI .i64)) (sz:=1)),hA.sub ⟨rfl,rfl,rfl,rfl,trivial⟩,hI⟩ ?_
  clear hA hI
  rintro n a w ⟨s1,s2,vvs2,ccs2,hn1,ws1,ws2,hA,hI⟩
  obtain ⟨m1,rfl,H⟩:=loopN_bind hn1
  clear hn1
  refine w_seq fun _ hN3=>w_seq fun _ hN4=>w_reg<|stm hA rfl rfl fun a hA =>
   stp hA (r_geq hA rfl rfl) rfl fun a hA=>?_
  refine o_nil<|hN4 _ _<|w_cond hA rfl (fun hc1=>?_) (fun hc1=>?_)
  ·obtain ⟨hc1,H⟩:=dT H hc1
   refine w_skip<|hN3 _ _<|w_block<|w_seq fun _ hN5=>w_reg<|stm hA rfl rfl fun a hA =>
    stm hA rfl rfl fun a hA=>?_
   have hE1:Els (RI .i64) 1 ([s1]:List Int) _:=(Els.cons (c:=[[.int .i64 s1]].flatten) ⟨rfl,ws1⟩ rfl Els.nil)
   refine o_bsl ([[.int .i64 s1]].flatten++([])) te3 zr3 U22 hI hA rfl rfl rfl rfl (by kernel_rfl) rfl fun g1 a w hA hI=>?_
   generalize hcs:([[.int .i64 s1]].flatten++([]):List Value)=cs1 at hE1 hI
   clear hcs
   obtain ⟨hb1,H⟩:=bG H
   have hE3:=ws2.app hE1
   refine o_appG (xs:=(s2:List Int)) (ys:=(([s1]:List Int):List Int)) (M:=17592186044416) 1 te3 U22 hI rfl hA rfl rfl (src_row hI (j:=0) rfl) hE1.len (hE1.ones (one_RI _)) hb1 rfl fun v1 a w hA hI =>
    sta hA rfl rfl fun a hA=>?_
   refine o_nil<|hN5 _ _<|w_reg<|stm hA rfl rfl fun a hA =>
    stp hA (r_nilc hA rfl) rfl fun a hA =>
    stp hA (r_fd (k:=0) U114 rfl sz112 hA rfl rfl) rfl fun a hA =>
    stp hA (r_ld1 (j:=2) [] [] U112 rfl hI rfl hA rfl rfl) rfl fun a hA =>
    stm hA rfl rfl fun a hA=>?_
   obtain ⟨hb2,H⟩:=bG H
   refine stp hA (r_rix (j:=3) U112 sz111 hI rfl hA rfl rfl hb2.1 hb2.2) rfl fun a hA =>
    stp hA (r_fd (k:=so vp1+s1.toNat * 104+100) U111 rfl sz3 hA rfl rfl) rfl fun a hA=>?_
   obtain ⟨A1,_,B1,hc2,hl1,_,he1⟩:=Els.at_ hp1 (getD_some default hb2.1 hb2.2)
   obtain ⟨rfl,hw1⟩:=he1
   refine stp hA (r_rldQ (j:=3) (q:=s1.toNat * 104) (off:=100) A1 B1 [av .u8 32 ((x0.l.getD s1.toNat default).id),[.int .u32 ((x0.l.getD s1.toNat default).h.Version)],av .u8 32 ((x0.l.getD s1.toNat default).h.Prev),av .u8 32 ((x0.l.getD s1.toNat default).h.Root),[.int .u32 ((x0.l.getD s1.toNat default).h.Time)],[.int .u32 ((x0.l.getD s1.toNat default).h.Work)],[.int .u32 ((x0.l.getD s1.toNat default).h.Nonce)]] [[.int .i64 ((x0.l.getD s1.toNat default).height)],[.int .u64 ((x0.l.getD s1.toNat default).work)],[.bool ((x0.l.getD s1.toNat default).bad)]] hc2 hl1 rfl U3 rfl hI rfl hA rfl) rfl fun a hA =>
    sta hA rfl rfl fun a hA=>?_
   refine o_nil<|⟨m1,lS _,(x0.l.getD s1.toNat default).parent,s2++([s1]:List Int),v1,ccs2++cs1,H,hw1.2.2.2.2.2.2.2.1,hE3,hA.sub ⟨rfl,rfl,rfl,rfl,trivial⟩,(hI.sl [1,2,3] rfl)⟩
  ·obtain ⟨hc1,H⟩:=dF H hc1
   refine w_exit rfl ?_
   have H:some (s1,s2)=some z1:=H
   obtain rfl:=sI H
   have H:=Hk2
   cases sJ H
   exact ⟨vvs2,ccs2,ws1,ws2,hA.sub ⟨rfl,rfl,rfl,trivial⟩,hI⟩
 ·rintro a w ⟨vvc2,ccc2,wc1,wc2,hA,hI⟩
  have H:=Hk1
  refine w_seq fun _ hN6=>w_reg<|stm hA rfl rfl fun a hA =>
   sta hA rfl rfl fun a hA=>?_
  refine o_nil<|hN6 _ _<|w_ret ?_
  obtain rfl:=sJ H
  exact ret1 hA Tryz.results62 rfl ⟨_,rfl,vvc2,ccc2,rfl,wc2,(hI.less (Store.le.refl _) hI.le)⟩
theorem sargassoref8_Tree_Path.c (μ:Store)(w0:World)(hμ:Agr μ w0)(x0:sargassoref8Tree)(vp1:Value)(cp1:List Value)(g0:Nat)(hp1:Els (Rsargassoref8Node μ) 104 x0.l cp1)(ho0:Its μ w0 [cel g0 [[vp1]] 114,row 111 104 vp1 x0.l.length cp1])(x1:List Int)(hx1:Arr .u8 32 x1)(x2:List Int)(hx2:Arr .u8 32 x2)(r:(List (List Int))×(List (List Int))×(List Int)×Bool)(H:sargassoref8_Tree_Path.f x0 x1 x2=some r) :
  Calls Tryz.prog 26 [pt g0 0,.agg [av .u8 32 x1].flatten.toArray,.agg [av .u8 32 x2].flatten.toArray].toArray w0 (fun e w'=>∃ v,e=.returned v∧∃(v0:Value)(c0:List Value)(v1:Value)(c1:List Value),v=.tuple #[v0,v1,.agg [av .u8 32 (r.2.2.1)].flatten.toArray,.bool (r.2.2.2)]∧Els (RA .u8 32) 32 (r.1) c0∧Els (RA .u8 32) 32 (r.2.1) c1∧Arr .u8 32 (r.2.2.1)∧True∧Iv w0 (many [cel g0 [[vp1]] 114,row 111 104 vp1 x0.l.length cp1]).foot μ μ [row 25 32 v0 (r.1).length c0,row 25 32 v1 (r.2.1).length c1,cel g0 [[vp1]] 114,row 111 104 vp1 x0.l.length cp1] w'):=by
 refine enter Tryz.func26 rfl Tryz.ntmps26 rfl fun a hA=>?_
 have hI:=Iv.startN hμ ho0
 have H:=bI H
 refine w_seq fun _ hN1=>w_reg<|o_box [av .u8 32 x1] hI hA rfl rfl rfl fun g1 a w hA hI hg1 =>
  o_box [av .u8 32 x2] hI hA rfl rfl rfl fun g2 a w hA hI hg2 =>
  sta hA rfl rfl fun a hA =>
  sta hA rfl rfl fun a hA =>
  o_new [av .u8 32 Z32] zr25 hI hA rfl fun g3 a w hA hI hg3 =>
  sta hA rfl rfl fun a hA=>?_
 refine o_nil<|hN1 _ _<|w_seq fun _ hN2=>w_reg<|stm hA rfl rfl fun a hA =>
  stp hA (r_ldA (j:=2) [] [av .u8 32 x1] [] U25 rfl sz25 rfl hI rfl hA rfl rfl) rfl fun a hA=>?_
 obtain ⟨r1,hr1,H⟩:=bB H
 have hI:=hI.sl [3,4,0,1,2] rfl
 refine o_call _ cf53 hA rfl (sargassoref8_Tree_Find.c μ _ hI.agr (⟨x0.l⟩:sargassoref8Tree) vp1 cp1 g0 hp1 (hI.handN 2) x1 hx1 r1 hr1) rfl fun v1 a w hz1 hA=>?_
 obtain ⟨rfl,hw1,hi1⟩:=hz1
 have hI:=hI.back2 hi1
 refine sta hA rfl rfl fun a hA=>?_
 refine o_nil<|hN2 _ _<|w_seq fun _ hN3=>w_reg<|stm hA rfl rfl fun a hA =>
  stp hA (r_ldA (j:=3) [] [av .u8 32 x2] [] U25 rfl sz25 rfl hI rfl hA rfl rfl) rfl fun a hA=>?_
 obtain ⟨r2,hr2,H⟩:=bB H
 refine o_call _ cf53 hA rfl (sargassoref8_Tree_Find.c μ _ hI.agr (⟨x0.l⟩:sargassoref8Tree) vp1 cp1 g0 hp1 (hI.handN 2) x2 hx2 r2 hr2) rfl fun v2 a w hz2 hA=>?_
 obtain ⟨rfl,hw2,hi2⟩:=hz2
 have hI:=hI.back2 hi2
 refine sta hA rfl rfl fun a hA=>?_
 refine o_nil<|hN3 _ _<|w_seq fun _ hN4=>?_
 obtain ⟨c1,hz3,Hk1⟩:=bB H
 refine w_cut (fun a w=>Fr a 130 [(0,pt g0 0),(6,Sn),(7,Sn),(8,pt g3 0),(9,.bool false),(10,.int .i64 r1),(11,.int .i64 r2),(30,.bool c1)]∧Iv w0 (many [cel g0 [[vp1]] 114,row 111 104 vp1 x0.l.length cp1]).foot μ μ [cel g0 [[vp1]] 114,row 111 104 vp1 x0.l.length cp1,cel g3 [av .u8 32 Z32] 25,cel g2 [av .u8 32 x2] 25,cel g1 [av .u8 32 x1] 25] w) ?_ ?_
 ·have H:=bI hz3
  refine w_reg<|stm hA rfl rfl fun a hA =>
   stp hA (r_lss hA rfl rfl) rfl fun a hA =>
   stm hA rfl rfl fun a hA=>?_
  rcases Bool.eq_false_or_eq_true (decide (r1 < 0)) with hc1 | hc1
  ·have hc10:=hc1;obtain ⟨hc1,H⟩:=dT H hc1
   refine o_no hA rfl rfl (by rw [hc10];simp [vb]) rfl fun a hA =>
    o_no hA rfl rfl (by rw [hc10];simp [vb]) rfl fun a hA =>
    stp hA (r_pick_t hA rfl hc10 rfl) rfl fun a hA=>?_
   refine o_nil ?_
   cases sJ H
   exact ⟨hA.sub ⟨rfl,rfl,rfl,rfl,rfl,rfl,rfl,rfl,trivial⟩,hI⟩
  ·have hc10:=hc1;obtain ⟨hc1,H⟩:=dF H hc1
   refine o_yes hA rfl rfl hc10 <|
    stm hA rfl rfl fun a hA =>
    o_yes hA rfl rfl hc10 <|
    stp hA (r_lss hA rfl rfl) rfl fun a hA =>
    stp hA (r_pick_f hA rfl hc10 rfl) rfl fun a hA=>?_
   refine o_nil ?_
   cases sJ H
   exact ⟨hA.sub ⟨rfl,rfl,rfl,rfl,rfl,rfl,rfl,rfl,trivial⟩,hI⟩
 ·rintro a w ⟨hA,hI⟩
  have H:=Hk1
  refine w_cond hA rfl (fun hc2=>?_) (fun hc2=>?_)
  ·have H:=bT H hc2
   refine w_seq fun _ hN5=>w_reg<|stp hA (r_bldA (cs:=[av .u8 32 ([0,0,0,0,0,0,0,0,0,0,0,0,0,0,0,0,0,0,0,0,0,0,0,0,0,0,0,0,0,0,0,0])].flatten.toArray) zr25 U25 sz5 hA rfl (by kernel_rfl)) rfl fun a hA =>
    sta hA rfl rfl fun a hA =>
    sta hA rfl rfl fun a hA =>
    o_st (j:=2) [] [av .u8 32 Z32] [av .u8 32 ([0,0,0,0,0,0,0,0,0,0,0,0,0,0,0,0,0,0,0,0,0,0,0,0,0,0,0,0,0,0,0,0])] [] sz25 rfl rfl (fl_cons (one_av _ _ _) fl_nil) hI rfl hA rfl rfl rfl rfl fun w hI =>
    sta hA rfl rfl fun a hA=>?_
   refine o_nil<|hN5 _ _<|w_ret ?_
   have hI:=hI.nilRow 25 32
   have hI:=hI.nilRow 25 32
   obtain rfl:=sJ H
   exact retN hA Tryz.results26 (.tmp rfl (.tmp rfl (.cell rfl (cell_ld U25 rfl sz25 rfl hI (j:=4) rfl) (.tmp rfl .nil)))) ⟨_,rfl,Sn,[],Sn,[],rfl,(Els.nil (RE:=(RA .u8 32)) (sz:=32)),(Els.nil (RE:=(RA .u8 32)) (sz:=32)),(arr_lit rfl (by simp only [List.forall_mem_cons];exact ⟨(in_lit .u8 0 rfl),(in_lit .u8 0 rfl),(in_lit .u8 0 rfl),(in_lit .u8 0 rfl),(in_lit .u8 0 rfl),(in_lit .u8 0 rfl),(in_lit .u8 0 rfl),(in_lit .u8 0 rfl),(in_lit .u8 0 rfl),(in_lit .u8 0 rfl),(in_lit .u8 0 rfl),(in_lit .u8 0 rfl),(in_lit .u8 0 rfl),(in_lit .u8 0 rfl),(in_lit .u8 0 rfl),(in_lit .u8 0 rfl),(in_lit .u8 0 rfl),(in_lit .u8 0 rfl),(in_lit .u8 0 rfl),(in_lit .u8 0 rfl),(in_lit .u8 0 rfl),(in_lit .u8 0 rfl),(in_lit .u8 0 rfl),(in_lit .u8 0 rfl),(in_lit .u8 0 rfl),(in_lit .u8 0 rfl),(in_lit .u8 0 rfl),(in_lit .u8 0 rfl),(in_lit .u8 0 rfl),(in_lit .u8 0 rfl),(in_lit .u8 0 rfl),(in_lit .u8 0 rfl),by simp⟩)),trivial,((hI.sl [1,0,2,3] rfl).less (Store.le.refl _) hI.le)⟩
  ·have hc2:=ft hc2;have H:=bF H hc2
   refine w_skip<|hN4 _ _<|w_seq fun _ hN6=>w_reg<|stm hA rfl rfl fun a hA =>
    stm hA rfl rfl fun a hA=>?_
   obtain ⟨r3,hr3,H⟩:=bB H
   refine o_call _ cf62 hA rfl (sargassoref8_Tree_up.c μ _ hI.agr (⟨x0.l⟩:sargassoref8Tree) vp1 cp1 g0 hp1 (hI.handN 2) r1 hw1 r3 hr3) rfl fun v3 a w hz4 hA=>?_
   obtain ⟨_,cs1,rfl,hE1,hi3⟩:=hz4
   have hI:=hI.backN 2 hi3
   have hI:Iv w0 (many [cel g0 [[vp1]] 114,row 111 104 vp1 x0.l.length cp1]).foot μ μ [row 3 1 v3 r3.length cs1,cel g0 [[vp1]] 114,row 111 104 vp1 x0.l.length cp1,cel g3 [av .u8 32 Z32] 25,cel g2 [av .u8 32 x2] 25,cel g1 [av .u8 32 x1] 25] w:=hI
   refine sta hA rfl rfl fun a hA=>?_
   refine o_nil<|hN6 _ _<|w_seq fun _ hN7=>w_reg<|stm hA rfl rfl fun a hA =>
    stm hA rfl rfl fun a hA=>?_
   obtain ⟨r4,hr4,H⟩:=bB H
   have hI:=hI.sl [1,2,0,3,4,5] rfl
   refine o_call _ cf62 hA rfl (sargassoref8_Tree_up.c μ _ hI.agr (⟨x0.l⟩:sargassoref8Tree) vp1 cp1 g0 hp1 (hI.handN 2) r2 hw2 r4 hr4) rfl fun v4 a w hz5 hA=>?_
   obtain ⟨_,cs2,rfl,hE2,hi4⟩:=hz5
   have hI:=hI.backN 2 hi4
   have hI:Iv w0 (many [cel g0 [[vp1]] 114,row 111 104 vp1 x0.l.length cp1]).foot μ μ [row 3 1 v4 r4.length cs2,cel g0 [[vp1]] 114,row 111 104 vp1 x0.l.length cp1,row 3 1 v3 r3.length cs1,cel g3 [av .u8 32 Z32] 25,cel g2 [av .u8 32 x2] 25,cel g1 [av .u8 32 x1] 25] w:=hI
   refine sta hA rfl rfl fun a hA=>?_
   refine o_nil<|hN7 _ _<|w_seq fun _ hN8=>w_reg<|sta hA rfl rfl fun a hA=>?_
   refine o_nil<|hN8 _ _ ?_
   obtain ⟨c2,hz6,Hk2⟩:=bB H
   refine w_cut (fun a w=>InR .i64 c2∧Fr a 130 [(0,pt g0 0),(6,Sn),(7,Sn),(8,pt g3 0),(9,.bool false),(12,v3),(13,v4),(14,.int .i64 c2)]∧Iv w0 (many [cel g0 [[vp1]] 114,row 111 104 vp1 x0.l.length cp1]).foot μ μ [row 3 1 v4 r4.length cs2,cel g0 [[vp1]] 114,row 111 104 vp1 x0.l.length cp1,row 3 1 v3 r3.length cs1,cel g3 [av .u8 32 Z32] 25,cel g2 [av .u8 32 x2] 25,cel g1 [av .u8 32 x1] 25] w) ?_ ?_
   ·have H:=bI hz6
    refine w_block ?_
    obtain ⟨z1,hz7,Hk3⟩:=bind_some H
    obtain ⟨n1,hn1⟩:=loopO_some hz7
    refine w_loop (fun n a w=>∃(s1:Int),loopN (sargassoref8_Tree_Path.s0 r3 r4) n s1=some z1∧InR .i64 s1∧Fr a 130 [(0,pt g0 0),(6,Sn),(7,Sn),(8,pt g3 0),(9,.bool false),(12,v3),(13,v4),(14,.int .i64 s1)]∧Iv w0 (many [cel g0 [[vp1]] 114,row 111 104 vp1 x0.l.length cp1]).foot μ μ [row 3 1 v4 r4.length cs2,cel g0 [[vp1]] 114,row 111 104 vp1 x0.l.length cp1,row 3 1 v3 r3.length cs1,cel g3 [av .u8 32 Z32] 25,cel g2 [av .u8 32 x2] 25,cel g1 [av .u8 32 x1] 25] w) n1 ⟨0,hn1,(in_lit .i64 0 rfl),hA.sub ⟨rfl,rfl,rfl,rfl,rfl,rfl,rfl,rfl,trivial⟩,hI⟩ ?_
    clear hA hI
    rintro n a w ⟨s1,hn1,ws1,hA,hI⟩
    obtain ⟨m1,rfl,H⟩:=loopN_bind hn1
    clear hn1
    dsimp only [sargassoref8_Tree_Path.s0] at H
    refine w_seq fun _ hN9=>?_
    obtain ⟨c3,hz8,Hk4⟩:=bB H
    refine w_cut (fun a w=>Fr a 130 [(0,pt g0 0),(6,Sn),(7,Sn),(8,pt g3 0),(9,.bool false),(12,v3),(13,v4),(14,.int .i64 s1),(66,.bool c3)]∧Iv w0 (many [cel g0 [[vp1]] 114,row 111 104 vp1 x0.l.length cp1]).foot μ μ [row 3 1 v4 r4.length cs2,cel g0 [[vp1]] 114,row 111 104 vp1 x0.l.length cp1,row 3 1 v3 r3.length cs1,cel g3 [av .u8 32 Z32] 25,cel g2 [av .u8 32 x2] 25,cel g1 [av .u8 32 x1] 25] w) ?_ ?_
    ·have H:=bI hz8
     refine w_draw mo (by kernel_rfl) hI ?_
     refine qtp hA (fun _ hI=>r_mv hA rfl) rfl fun a hA =>
      qtp hA (fun _ hI=>r_mv hA rfl) rfl fun a hA =>
      qtp hA (fun _ hI=>r_rlen (xs:=0) U22 hI (j:=3) rfl hA rfl) rfl fun a hA =>
      qtp hA (fun _ hI=>r_lss hA rfl rfl) rfl fun a hA =>
      qtp hA (fun _ hI=>r_mv hA rfl) rfl fun a hA=>?_
     rcases Bool.eq_false_or_eq_true (decide (s1 < (r3.length:Int))) with hc3 | hc3
     ·have hc30:=hc3;obtain ⟨hc3,H⟩:=dT H hc3
      refine q_yes hA rfl rfl hc30 <|
       qtp hA (fun _ hI=>r_mv hA rfl) rfl fun a hA =>
       q_yes hA rfl rfl hc30 <|
       qtp hA (fun _ hI=>r_mv hA rfl) rfl fun a hA =>
       q_yes hA rfl rfl hc30 <|
       qtp hA (fun _ hI=>r_rlen (xs:=0) U22 hI (j:=0) rfl hA rfl) rfl fun a hA =>
       q_yes hA rfl rfl hc30 <|
       qtp hA (fun _ hI=>r_lss hA rfl rfl) rfl fun a hA =>
       qtp hA (fun _ hI=>r_pick_t hA rfl hc30 rfl) rfl fun a hA =>
       qtp hA (fun _ hI=>r_mv hA rfl) rfl fun a hA=>?_
      rcases Bool.eq_false_or_eq_true (decide (s1 < (r4.length:Int))) with hc4 | hc4
      ·have hc40:=hc4;obtain ⟨hc4,H⟩:=dT H hc4
       refine q_yes hA rfl rfl hc40 <|
        qtp hA (fun _ hI=>r_mv hA rfl) rfl fun a hA =>
        q_yes hA rfl rfl hc40 <|
        qtp hA (fun _ hI=>r_mv hA rfl) rfl fun a hA =>
        q_yes hA rfl rfl hc40 <|
        qtp hA (fun _ hI=>r_rlen (xs:=0) U22 hI (j:=3) rfl hA rfl) rfl fun a hA =>
        q_yes hA rfl rfl hc40 <|
        qtp hA (fun _ hI=>r_sub hA rfl rfl) rfl fun a hA =>
        q_yes hA rfl rfl hc40 <|
        qtp hA (fun _ hI=>r_mv hA rfl) rfl fun a hA =>
        q_yes hA rfl rfl hc40 <|
        qtp hA (fun _ hI=>r_sub hA rfl rfl) rfl fun a hA =>
        q_yes hA rfl rfl hc40<|?_
       obtain ⟨hb1,H⟩:=bG H
       refine qtp hA (fun _ hI=>r_rix (j:=3) U22 sz3 hI rfl hA rfl rfl hb1.1 hb1.2) rfl fun a hA =>
        q_yes hA rfl rfl hc40<|?_
       have hq1:=els_get hE1 hb1.1 hb1.2
       refine qtp hA (fun _ hI=>r_rld1 (j:=3) U3 rfl hI rfl hq1 hA rfl (by simp only [Nat.mul_one])) rfl fun a hA =>
        q_yes hA rfl rfl hc40 <|
        qtp hA (fun _ hI=>r_mv hA rfl) rfl fun a hA =>
        q_yes hA rfl rfl hc40 <|
        qtp hA (fun _ hI=>r_mv hA rfl) rfl fun a hA =>
        q_yes hA rfl rfl hc40 <|
        qtp hA (fun _ hI=>r_rlen (xs:=0) U22 hI (j:=0) rfl hA rfl) rfl fun a hA =>
        q_yes hA rfl rfl hc40 <|
        qtp hA (fun _ hI=>r_sub hA rfl rfl) rfl fun a hA =>
        q_yes hA rfl rfl hc40 <|
        qtp hA (fun _ hI=>r_mv hA rfl) rfl fun a hA =>
        q_yes hA rfl rfl hc40 <|
        qtp hA (fun _ hI=>r_sub hA rfl rfl) rfl fun a hA =>
        q_yes hA rfl rfl hc40<|?_
       obtain ⟨hb2,H⟩:=bG H
       refine qtp hA (fun _ hI=>r_rix (j:=0) U22 sz3 hI rfl hA rfl rfl hb2.1 hb2.2) rfl fun a hA =>
        q_yes hA rfl rfl hc40<|?_
       have hq2:=els_get hE2 hb2.1 hb2.2
       refine qtp hA (fun _ hI=>r_rld1 (j:=0) U3 rfl hI rfl hq2 hA rfl (by simp only [Nat.mul_one])) rfl fun a hA =>
        q_yes hA rfl rfl hc40 <|
        qtp hA (fun _ hI=>r_eql hA rfl rfl) rfl fun a hA =>
        qtp hA (fun _ hI=>r_pick_t hA rfl hc40 rfl) rfl fun a hA=>?_
       refine q_nil fun w hI=>?_
       cases sJ H
       exact ⟨hA.sub ⟨rfl,rfl,rfl,rfl,rfl,rfl,rfl,rfl,rfl,trivial⟩,hI⟩
      ·have hc40:=hc4;obtain ⟨hc4,H⟩:=dF H hc4
       refine q_no hA rfl rfl (by rw [hc40];simp [vb]) rfl fun a hA =>
        q_no hA rfl rfl (by rw [hc40];simp [vb]) rfl fun a hA =>
        q_no hA rfl rfl (by rw [hc40];simp [vb]) rfl fun a hA =>
        q_no hA rfl rfl (by rw [hc40];simp [vb]) rfl fun a hA =>
        q_no hA rfl rfl (by rw [hc40];simp [vb]) rfl fun a hA =>
        q_no hA rfl rfl (by rw [hc40];simp [vb]) rfl fun a hA =>
        q_no hA rfl rfl (by rw [hc40];simp [vb]) rfl fun a hA =>
        q_no hA rfl rfl (by rw [hc40];simp [vb]) rfl fun a hA =>
        q_no hA rfl rfl (by rw [hc40];simp [vb]) rfl fun a hA =>
        q_no hA rfl rfl (by rw [hc40];simp [vb]) rfl fun a hA =>
        q_no hA rfl rfl (by rw [hc40];simp [vb]) rfl fun a hA =>
        q_no hA rfl rfl (by rw [hc40];simp [vb]) rfl fun a hA =>
        q_no hA rfl rfl (by rw [hc40];simp [vb]) rfl fun a hA =>
        q_no hA rfl rfl (by rw [hc40];simp [vb]) rfl fun a hA =>
        q_no hA rfl rfl (by rw [hc40];simp [vb]) rfl fun a hA =>
        q_no hA rfl rfl (by rw [hc40];simp [vb]) rfl fun a hA =>
        q_no hA rfl rfl (by rw [hc40];simp [vb]) rfl fun a hA =>
        qtp hA (fun _ hI=>r_pick_f hA rfl hc40 rfl) rfl fun a hA=>?_
       refine q_nil fun w hI=>?_
       cases sJ H
       exact ⟨hA.sub ⟨rfl,rfl,rfl,rfl,rfl,rfl,rfl,rfl,rfl,trivial⟩,hI⟩
     ·have hc30:=hc3;obtain ⟨hc3,H⟩:=dF H hc3
      refine q_no hA rfl rfl (by rw [hc30];simp [vb]) rfl fun a hA =>
       q_no hA rfl rfl (by rw [hc30];simp [vb]) rfl fun a hA =>
       q_no hA rfl rfl (by rw [hc30];simp [vb]) rfl fun a hA =>
       q_no hA rfl rfl (by rw [hc30];simp [vb]) rfl fun a hA =>
       qtp hA (fun _ hI=>r_pick_f hA rfl hc30 rfl) rfl fun a hA =>
       qtp hA (fun _ hI=>r_mv hA rfl) rfl fun a hA =>
       q_no hA rfl rfl (by simp [vb]) rfl fun a hA =>
       q_no hA rfl rfl (by simp [vb]) rfl fun a hA =>
       q_no hA rfl rfl (by simp [vb]) rfl fun a hA =>
       q_no hA rfl rfl (by simp [vb]) rfl fun a hA =>
       q_no hA rfl rfl (by simp [vb]) rfl fun a hA =>
       q_no hA rfl rfl (by simp [vb]) rfl fun a hA =>
       q_no hA rfl rfl (by simp [vb]) rfl fun a hA =>
       q_no hA rfl rfl (by simp [vb]) rfl fun a hA =>
       q_no hA rfl rfl (by simp [vb]) rfl fun a hA =>
       q_no hA rfl rfl (by simp [vb]) rfl fun a hA =>
       q_no hA rfl rfl (by simp [vb]) rfl fun a hA =>
       q_no hA rfl rfl (by simp [vb]) rfl fun a hA =>
       q_no hA rfl rfl (by simp [vb]) rfl fun a hA =>
       q_no hA rfl rfl (by simp [vb]) rfl fun a hA =>
       q_no hA rfl rfl (by simp [vb]) rfl fun a hA =>
       q_no hA rfl rfl (by simp [vb]) rfl fun a hA =>
       q_no hA rfl rfl (by simp [vb]) rfl fun a hA =>
       qtp hA (fun _ hI=>r_pick_f hA rfl rfl rfl) rfl fun a hA=>?_
      refine q_nil fun w hI=>?_
      cases sJ H
      exact ⟨hA.sub ⟨rfl,rfl,rfl,rfl,rfl,rfl,rfl,rfl,rfl,trivial⟩,hI⟩
    ·rintro a w ⟨hA,hI⟩
     have H:=Hk4
     refine w_cond hA rfl (fun hc5=>?_) (fun hc5=>?_)
     ·have H:=bT H hc5
      refine w_skip<|hN9 _ _<|w_block<|w_reg<|stm hA rfl rfl fun a hA =>
       stp hA (r_add hA rfl rfl) rfl fun a hA =>
       sta hA rfl rfl fun a hA=>?_
      refine o_nil<|⟨m1,lS _,IntKind.i64.wrap (s1+1),H,(wrap_in _ _),hA.sub ⟨rfl,rfl,rfl,rfl,rfl,rfl,rfl,rfl,trivial⟩,hI⟩
     ·have hc5:=ft hc5;have H:=bF H hc5
      refine w_exit rfl ?_
      have H:some s1=some z1:=H
      obtain rfl:=sI H
      have H:=Hk3
      cases sJ H
      exact ⟨ws1,hA.sub ⟨rfl,rfl,rfl,rfl,rfl,rfl,rfl,rfl,trivial⟩,hI⟩
   ·rintro a w ⟨wc2,hA,hI⟩
    have H:=Hk2
    refine w_seq fun _ hN10=>w_reg<|sta hA rfl rfl fun a hA =>
     sta hA rfl rfl fun a hA=>?_
    refine o_nil<|hN10 _ _ ?_
    obtain ⟨c4,hz9,Hk5⟩:=bB H
    refine w_cut (fun a w=>∃(vvc4:Value)(ccc4:List Value),Els (RA .u8 32) 32 c4 ccc4∧Fr a 130 [(0,pt g0 0),(6,Sn),(7,Sn),(8,pt g3 0),(9,.bool false),(12,v3),(13,v4),(14,.int .i64 c2),(15,vvc4),(16,Sn)]∧Iv w0 (many [cel g0 [[vp1]] 114,row 111 104 vp1 x0.l.length cp1]).foot μ μ [row 25 32 vvc4 c4.length ccc4,row 3 1 v4 r4.length cs2,cel g0 [[vp1]] 114,row 111 104 vp1 x0.l.length cp1,row 3 1 v3 r3.length cs1,cel g3 [av .u8 32 Z32] 25,cel g2 [av .u8 32 x2] 25,cel g1 [av .u8 32 x1] 25] w) ?_ ?_
    ·have H:=bI hz9
     refine w_seq fun _ hN11=>w_reg<|sta hA rfl rfl fun a hA=>?_
     refine o_nil<|hN11 _ _<|w_block ?_
     have hI:=hI.nilRow 25 32
     obtain ⟨z2,hz10,Hk6⟩:=bind_some H
     obtain ⟨n2,hn2⟩:=loopO_some hz10
     refine w_loop (fun n a w=>∃(s2:List (List Int))(s3:Int)(vvs2:Value)(ccs2:List Value),loopN (sargassoref8_Tree_Path.s1 x0 r3 c2) n (s2,s3)=some z2∧Els (RA .u8 32) 32 s2 ccs2∧InR .i64 s3∧Fr a 130 [(0,pt g0 0),(6,Sn),(7,Sn),(8,pt g3 0),(9,.bool false),(12,v3),(13,v4),(14,.int .i64 c2),(15,vvs2),(16,Sn),(17,.int .i64 s3)]∧Iv w0 (many [cel g0 [[vp1]] 114,row 111 104 vp1 x0.l.length cp1]).foot μ μ [row 25 32 vvs2 s2.length ccs2,row 3 1 v4 r4.length cs2,cel g0 [[vp1]] 114,row 111 104 vp1 x0.l.length cp1,row 3 1 v3 r3.length cs1,cel g3 [av .u8 32 Z32] 25,cel g2 [av .u8 32 x2] 25,cel g1 [av .u8 32 x1] 25] w) n2 ⟨([]:List (List Int)),0,Sn,[],hn2,(Els.nil (RE:=(RA .u8 32)) (sz:=32)),(in_lit .i64 0 rfl),hA.sub ⟨rfl,rfl,rfl,rfl,rfl,rfl,rfl,rfl,rfl,rfl,rfl,trivial⟩,hI⟩ ?_
     clear hA hI
     rintro n a w ⟨s2,s3,vvs2,ccs2,hn2,ws2,ws3,hA,hI⟩
     obtain ⟨m2,rfl,H⟩:=loopN_bind hn2
     clear hn2
     refine w_seq fun _ hN12=>w_seq fun _ hN13=>w_reg<|stm hA rfl rfl fun a hA =>
      stm hA rfl rfl fun a hA=>?_
     have hlen5:=Iv.row_in hI (j:=4) rfl
     refine stp hA (r_rlen (xs:=0) U22 hI (j:=4) rfl hA rfl) rfl fun a hA =>
      stm hA rfl rfl fun a hA =>
      stp hA (r_sub hA rfl rfl) rfl fun a hA =>
      stp hA (r_lss hA rfl rfl) rfl fun a hA=>?_
     refine o_nil<|hN13 _ _<|w_cond hA rfl (fun hc6=>?_) (fun hc6=>?_)
     ·obtain ⟨hc6,H⟩:=dT H hc6
      refine w_skip<|hN12 _ _<|w_seq fun _ hN14=>w_block ?_
      refine w_anyS [] mo (fun w (h:Iv w0 (many [cel g0 [[vp1]] 114,row 111 104 vp1 x0.l.length cp1]).foot μ μ [row 25 32 vvs2 s2.length ccs2,row 3 1 v4 r4.length cs2,cel g0 [[vp1]] 114,row 111 104 vp1 x0.l.length cp1,row 3 1 v3 r3.length cs1,cel g3 [av .u8 32 Z32] 25,cel g2 [av .u8 32 x2] 25,cel g1 [av .u8 32 x1] 25] w)=>(h.sl [1,2,3,4,5,6,7] rfl:Iv w0 (many [cel g0 [[vp1]] 114,row 111 104 vp1 x0.l.length cp1]).foot μ μ [row 3 1 v4 r4.length cs2,cel g0 [[vp1]] 114,row 111 104 vp1 x0.l.length cp1,row 3 1 v3 r3.length cs1,cel g3 [av .u8 32 Z32] 25,cel g2 [av .u8 32 x2] 25,cel g1 [av .u8 32 x1] 25] w)) hI fun w hI=>?_
      refine gE 0 hA rfl (.inr (hI.sl [1,2,3,4,5,6,7] rfl)) (fun _=>r_mv hA rfl) fun a hA=>?_
      refine gE 1 hA rfl (.inr (hI.sl [1,2,3,4,5,6,7] rfl)) (fun _=>r_mv hA rfl) fun a hA=>?_
      refine gE 2 hA rfl (.inr (hI.sl [1,2,3,4,5,6,7] rfl)) (fun _=>r_nilc hA rfl) fun a hA=>?_
      refine gE 3 hA rfl (.inr (hI.sl [1,2,3,4,5,6,7] rfl)) (fun _=>r_fd (k:=0) U114 rfl sz112 hA rfl rfl) fun a hA=>?_
      refine gT 4 hA rfl (hI.sl [1,2,3,4,5,6,7] rfl) (fun w hI=>r_ld1 (j:=1) [] [] U112 rfl hI rfl hA rfl rfl) fun a hA=>?_
      refine gE 5 hA rfl (.inr (hI.sl [1,2,3,4,5,6,7] rfl)) (fun _=>r_mv hA rfl) fun a hA=>?_
      refine gE 6 hA rfl (.inr (hI.sl [1,2,3,4,5,6,7] rfl)) (fun _=>r_mv hA rfl) fun a hA=>?_
      obtain ⟨hb3,H⟩:=bG H
      refine gT 7 hA rfl (hI.sl [1,2,3,4,5,6,7] rfl) (fun w hI=>r_rix (j:=3) U22 sz3 hI rfl hA rfl rfl hb3.1 hb3.2) fun a hA=>?_
      have hq3:=els_get hE1 hb3.1 hb3.2
      refine gT 8 hA rfl (hI.sl [1,2,3,4,5,6,7] rfl) (fun w hI=>r_rld1 (j:=3) U3 rfl hI rfl hq3 hA rfl (by simp only [Nat.mul_one])) fun a hA=>?_
      obtain ⟨hb4,H⟩:=bG H
      refine gT 9 hA rfl (hI.sl [1,2,3,4,5,6,7] rfl) (fun w hI=>r_rix (j:=2) U112 sz111 hI rfl hA rfl rfl hb4.1 hb4.2) fun a hA=>?_
      refine gE 10 hA rfl (.inr (hI.sl [1,2,3,4,5,6,7] rfl)) (fun _=>r_fd (k:=so vp1+(r3.getD s3.toNat 0).toNat * 104) U111 rfl sz25 hA rfl rfl) fun a hA=>?_
      obtain ⟨A1,_,B1,hc7,hl1,_,he1⟩:=Els.at_ hp1 (getD_some default hb4.1 hb4.2)
      obtain ⟨rfl,hw3⟩:=he1
      refine gT 11 hA rfl (hI.sl [1,2,3,4,5,6,7] rfl) (fun w hI=>r_rldP (j:=2) (q:=(r3.getD s3.toNat 0).toNat * 104) (off:=0) A1 B1 [] [av .u8 32 ((x0.l.getD (r3.getD s3.toNat 0).toNat default).id)] [[.int .u32 ((x0.l.getD (r3.getD s3.toNat 0).toNat default).h.Version)],av .u8 32 ((x0.l.getD (r3.getD s3.toNat 0).toNat default).h.Prev),av .u8 32 ((x0.l.getD (r3.getD s3.toNat 0).toNat default).h.Root),[.int .u32 ((x0.l.getD (r3.getD s3.toNat 0).toNat default).h.Time)],[.int .u32 ((x0.l.getD (r3.getD s3.toNat 0).toNat default).h.Work)],[.int .u32 ((x0.l.getD (r3.getD s3.toNat 0).toNat default).h.Nonce)],[.int .i64 ((x0.l.getD (r3.getD s3.toNat 0).toNat default).parent)],[.int .i64 ((x0.l.getD (r3.getD s3.toNat 0).toNat default).height)],[.int .u64 ((x0.l.getD (r3.getD s3.toNat 0).toNat default).work)],[.bool ((x0.l.getD (r3.getD s3.toNat 0).toNat default).bad)]] hc7 hl1 rfl U25 rfl sz25 rfl hI rfl hA rfl) fun a hA=>?_
      refine gF 12 rfl ?_
      have hE3:Els (RA .u8 32) 32 ([(x0.l.getD (r3.getD s3.toNat 0).toNat default).id]:List (List Int)) _:=(Els.cons (c:=[av .u8 32 ((x0.l.getD (r3.getD s3.toNat 0).toNat default).id)].flatten) ⟨rfl,hw3.1⟩ rfl Els.nil)
      refine o_bsl ([av .u8 32 ((x0.l.getD (r3.getD s3.toNat 0).toNat default).id)].flatten++([])) te25 zr25 U42 hI hA rfl rfl rfl rfl (by kernel_rfl) rfl fun g4 a w hA hI=>?_
      generalize hcs:([av .u8 32 ((x0.l.getD (r3.getD s3.toNat 0).toNat default).id)].flatten++([]):List Value)=cs3 at hE3 hI
      clear hcs
      refine o_nil<|⟨(.inr (hI.sl [2,3,4,5,6,7,8] rfl)),?_⟩
      refine gF 13 rfl ?_
      obtain ⟨hb5,H⟩:=bG H
      have hE5:=ws2.app hE3
      refine o_appG (xs:=(s2:List (List Int))) (ys:=(([(x0.l.getD (r3.getD s3.toNat 0).toNat default).id]:List (List Int)):List (List Int))) (M:=4398046511104) 1 te25 U42 hI rfl hA rfl rfl (src_row hI (j:=0) rfl) hE3.len (hE3.ones (one_RA _ _)) hb5 rfl fun v5 a w hA hI=>?_
      refine o_nil<|⟨(.inr (hI.sl [2,3,4,5,6,7,8] rfl)),?_⟩
      refine gE 14 hA rfl (.inr (hI.sl [2,3,4,5,6,7,8] rfl)) (fun _=>r_as hA rfl) fun a hA=>?_
      refine gN<|hN14 _ _<|w_reg<|stm hA rfl rfl fun a hA =>
       stp hA (r_add hA rfl rfl) rfl fun a hA =>
       sta hA rfl rfl fun a hA=>?_
      refine o_nil<|⟨m2,lS _,s2++([(x0.l.getD (r3.getD s3.toNat 0).toNat default).id]:List (List Int)),IntKind.i64.wrap (s3+1),v5,ccs2++cs3,H,hE5,(wrap_in _ _),hA.sub ⟨rfl,rfl,rfl,rfl,rfl,rfl,rfl,rfl,rfl,rfl,rfl,trivial⟩,(hI.sl [1,2,3,4,5,6,7,8] rfl)⟩
     ·obtain ⟨hc6,H⟩:=dF H hc6
      refine w_exit rfl ?_
      have H:some s2=some z2:=H
      obtain rfl:=sI H
      have H:=Hk6
      cases sJ H
      exact ⟨vvs2,ccs2,ws2,hA.sub ⟨rfl,rfl,rfl,rfl,rfl,rfl,rfl,rfl,rfl,rfl,trivial⟩,hI⟩
    ·rintro a w ⟨vvc4,ccc4,wc4,hA,hI⟩
     have H:=Hk5
     obtain ⟨c5,hz11,Hk7⟩:=bB H
     refine w_cut (fun a w=>∃(vvc5:Value)(ccc5:List Value),Els (RA .u8 32) 32 c5 ccc5∧Fr a 130 [(0,pt g0 0),(6,Sn),(7,Sn),(8,pt g3 0),(9,.bool false),(12,v3),(14,.int .i64 c2),(15,vvc4),(16,vvc5)]∧Iv w0 (many [cel g0 [[vp1]] 114,row 111 104 vp1 x0.l.length cp1]).foot μ μ [row 25 32 vvc5 c5.length ccc5,row 25 32 vvc4 c4.length ccc4,row 3 1 v4 r4.length cs2,cel g0 [[vp1]] 114,row 111 104 vp1 x0.l.length cp1,row 3 1 v3 r3.length cs1,cel g3 [av .u8 32 Z32] 25,cel g2 [av .u8 32 x2] 25,cel g1 [av .u8 32 x1] 25] w) ?_ ?_
     ·have H:=bI hz11
      refine w_seq fun _ hN15=>w_reg<|stm hA rfl rfl fun a hA=>?_
      have hlen6:=Iv.row_in hI (j:=1) rfl
      refine stp hA (r_rlen (xs:=0) U22 hI (j:=1) rfl hA rfl) rfl fun a hA =>
       stm hA rfl rfl fun a hA =>
       stp hA (r_sub hA rfl rfl) rfl fun a hA =>
       stp hA (r_sub hA rfl rfl) rfl fun a hA =>
       sta hA rfl rfl fun a hA=>?_
      refine o_nil<|hN15 _ _<|w_block ?_
      have hI:=hI.nilRow 25 32
      obtain ⟨z3,hz12,Hk8⟩:=bind_some H
      obtain ⟨n3,hn3⟩:=loopO_some hz12
      refine w_loop (fun n a w=>∃(s4:List (List Int))(s5:Int)(vvs4:Value)(ccs4:List Value),loopN (sargassoref8_Tree_Path.s2 x0 r4) n (s4,s5)=some z3∧Els (RA .u8 32) 32 s4 ccs4∧InR .i64 s5∧Fr a 130 [(0,pt g0 0),(6,Sn),(7,Sn),(8,pt g3 0),(9,.bool false),(12,v3),(13,v4),(14,.int .i64 c2),(15,vvc4),(16,vvs4),(18,.int .i64 s5)]∧Iv w0 (many [cel g0 [[vp1]] 114,row 111 104 vp1 x0.l.length cp1]).foot μ μ [row 25 32 vvs4 s4.length ccs4,row 25 32 vvc4 c4.length ccc4,row 3 1 v4 r4.length cs2,cel g0 [[vp1]] 114,row 111 104 vp1 x0.l.length cp1,row 3 1 v3 r3.length cs1,cel g3 [av .u8 32 Z32] 25,cel g2 [av .u8 32 x2] 25,cel g1 [av .u8 32 x1] 25] w) n3 ⟨([]:List (List Int)),IntKind.i64.wrap ((IntKind.i64.wrap ((r4.length:Int) - c2)) - 1),Sn,[],hn3,(Els.nil (RE:=(RA .u8 32)) (sz:=32)),(wrap_in _ _),hA.sub ⟨rfl,rfl,rfl,rfl,rfl,rfl,rfl,rfl,rfl,rfl,rfl,trivial⟩,hI⟩ ?_
      clear hA hI
      rintro n a w ⟨s4,s5,vvs4,ccs4,hn3,ws4,ws5,hA,hI⟩
      obtain ⟨m3,rfl,H⟩:=loopN_bind hn3
      clear hn3
      refine w_seq fun _ hN16=>w_seq fun _ hN17=>w_reg<|stm hA rfl rfl fun a hA =>
       stp hA (r_geq hA rfl rfl) rfl fun a hA=>?_
      refine o_nil<|hN17 _ _<|w_cond hA rfl (fun hc8=>?_) (fun hc8=>?_)
      ·obtain ⟨hc8,H⟩:=dT H hc8
       refine w_skip<|hN16 _ _<|w_seq fun _ hN18=>w_block ?_
       refine w_anyS [] mo (fun w (h:Iv w0 (many [cel g0 [[vp1]] 114,row 111 104 vp1 x0.l.length cp1]).foot μ μ [row 25 32 vvs4 s4.length ccs4,row 25 32 vvc4 c4.length ccc4,row 3 1 v4 r4.length cs2,cel g0 [[vp1]] 114,row 111 104 vp1 x0.l.length cp1,row 3 1 v3 r3.length cs1,cel g3 [av .u8 32 Z32] 25,cel g2 [av .u8 32 x2] 25,cel g1 [av .u8 32 x1] 25] w)=>(h.sl [1,2,3,4,5,6,7,8] rfl:Iv w0 (many [cel g0 [[vp1]] 114,row 111 104 vp1 x0.l.length cp1]).foot μ μ [row 25 32 vvc4 c4.length ccc4,row 3 1 v4 r4.length cs2,cel g0 [[vp1]] 114,row 111 104 vp1 x0.l.length cp1,row 3 1 v3 r3.length cs1,cel g3 [av .u8 32 Z32] 25,cel g2 [av .u8 32 x2] 25,cel g1 [av .u8 32 x1] 25] w)) hI fun w hI=>?_
       refine gE 0 hA rfl (.inr (hI.sl [1,2,3,4,5,6,7,8] rfl)) (fun _=>r_mv hA rfl) fun a hA=>?_
       refine gE 1 hA rfl (.inr (hI.sl [1,2,3,4,5,6,7,8] rfl)) (fun _=>r_mv hA rfl) fun a hA=>?_
       refine gE 2 hA rfl (.inr (hI.sl [1,2,3,4,5,6,7,8] rfl)) (fun _=>r_nilc hA rfl) fun a hA=>?_
       refine gE 3 hA rfl (.inr (hI.sl [1,2,3,4,5,6,7,8] rfl)) (fun _=>r_fd (k:=0) U114 rfl sz112 hA rfl rfl) fun a hA=>?_
       refine gT 4 hA rfl (hI.sl [1,2,3,4,5,6,7,8] rfl) (fun w hI=>r_ld1 (j:=2) [] [] U112 rfl hI rfl hA rfl rfl) fun a hA=>?_
       refine gE 5 hA rfl (.inr (hI.sl [1,2,3,4,5,6,7,8] rfl)) (fun _=>r_mv hA rfl) fun a hA=>?_
       refine gE 6 hA rfl (.inr (hI.sl [1,2,3,4,5,6,7,8] rfl)) (fun _=>r_mv hA rfl) fun a hA=>?_
       obtain ⟨hb6,H⟩:=bG H
       refine gT 7 hA rfl (hI.sl [1,2,3,4,5,6,7,8] rfl) (fun w hI=>r_rix (j:=1) U22 sz3 hI rfl hA rfl rfl hb6.1 hb6.2) fun a hA=>?_
       have hq4:=els_get hE2 hb6.1 hb6.2
       refine gT 8 hA rfl (hI.sl [1,2,3,4,5,6,7,8] rfl) (fun w hI=>r_rld1 (j:=1) U3 rfl hI rfl hq4 hA rfl (by simp only [Nat.mul_one])) fun a hA=>?_
       obtain ⟨hb7,H⟩:=bG H
       refine gT 9 hA rfl (hI.sl [1,2,3,4,5,6,7,8] rfl) (fun w hI=>r_rix (j:=3) U112 sz111 hI rfl hA rfl rfl hb7.1 hb7.2) fun a hA=>?_
       refine gE 10 hA rfl (.inr (hI.sl [1,2,3,4,5,6,7,8] rfl)) (fun _=>r_fd (k:=so vp1+(r4.getD s5.toNat 0).toNat * 104) U111 rfl sz25 hA rfl rfl) fun a hA=>?_
       obtain ⟨A2,_,B2,hc9,hl2,_,he2⟩:=Els.at_ hp1 (getD_some default hb7.1 hb7.2)
       obtain ⟨rfl,hw4⟩:=he2
       refine gT 11 hA rfl (hI.sl [1,2,3,4,5,6,7,8] rfl) (fun w hI=>r_rldP (j:=3) (q:=(r4.getD s5.toNat 0).toNat * 104) (off:=0) A2 B2 [] [av .u8 32 ((x0.l.getD (r4.getD s5.toNat 0).toNat default).id)] [[.int .u32 ((x0.l.getD (r4.getD s5.toNat 0).toNat default).h.Version)],av .u8 32 ((x0.l.getD (r4.getD s5.toNat 0).toNat default).h.Prev),av .u8 32 ((x0.l.getD (r4.getD s5.toNat 0).toNat default).h.Root),[.int .u32 ((x0.l.getD (r4.getD s5.toNat 0).toNat default).h.Time)],[.int .u32 ((x0.l.getD (r4.getD s5.toNat 0).toNat default).h.Work)],[.int .u32 ((x0.l.getD (r4.getD s5.toNat 0).toNat default).h.Nonce)],[.int .i64 ((x0.l.getD (r4.getD s5.toNat 0).toNat default).parent)],[.int .i64 ((x0.l.getD (r4.getD s5.toNat 0).toNat default).height)],[.int .u64 ((x0.l.getD (r4.getD s5.toNat 0).toNat default).work)],[.bool ((x0.l.getD (r4.getD s5.toNat 0).toNat default).bad)]] hc9 hl2 rfl U25 rfl sz25 rfl hI rfl hA rfl) fun a hA=>?_
       refine gF 12 rfl ?_
       have hE6:Els (RA .u8 32) 32 ([(x0.l.getD (r4.getD s5.toNat 0).toNat default).id]:List (List Int)) _:=(Els.cons (c:=[av .u8 32 ((x0.l.getD (r4.getD s5.toNat 0).toNat default).id)].flatten) ⟨rfl,hw4.1⟩ rfl Els.nil)
       refine o_bsl ([av .u8 32 ((x0.l.getD (r4.getD s5.toNat 0).toNat default).id)].flatten++([])) te25 zr25 U42 hI hA rfl rfl rfl rfl (by kernel_rfl) rfl fun g5 a w hA hI=>?_
       generalize hcs:([av .u8 32 ((x0.l.getD (r4.getD s5.toNat 0).toNat default).id)].flatten++([]):List Value)=cs6 at hE6 hI
       clear hcs
       refine o_nil<|⟨(.inr (hI.sl [2,3,4,5,6,7,8,9] rfl)),?_⟩
       refine gF 13 rfl ?_
       obtain ⟨hb8,H⟩:=bG H
       have hE8:=ws4.app hE6
       refine o_appG (xs:=(s4:List (List Int))) (ys:=(([(x0.l.getD (r4.getD s5.toNat 0).toNat default).id]:List (List Int)):List (List Int))) (M:=4398046511104) 1 te25 U42 hI rfl hA rfl rfl (src_row hI (j:=0) rfl) hE6.len (hE6.ones (one_RA _ _)) hb8 rfl fun v6 a w hA hI=>?_
       refine o_nil<|⟨(.inr (hI.sl [2,3,4,5,6,7,8,9] rfl)),?_⟩
       refine gE 14 hA rfl (.inr (hI.sl [2,3,4,5,6,7,8,9] rfl)) (fun _=>r_as hA rfl) fun a hA=>?_
       refine gN<|hN18 _ _<|w_reg<|stm hA rfl rfl fun a hA =>
        stp hA (r_sub hA rfl rfl) rfl fun a hA =>
        sta hA rfl rfl fun a hA=>?_
       refine o_nil<|⟨m3,lS _,s4++([(x0.l.getD (r4.getD s5.toNat 0).toNat default).id]:List (List Int)),IntKind.i64.wrap (s5 - 1),v6,ccs4++cs6,H,hE8,(wrap_in _ _),hA.sub ⟨rfl,rfl,rfl,rfl,rfl,rfl,rfl,rfl,rfl,rfl,rfl,trivial⟩,(hI.sl [1,2,3,4,5,6,7,8,9] rfl)⟩
      ·obtain ⟨hc8,H⟩:=dF H hc8
       refine w_exit rfl ?_
       have H:some s4=some z3:=H
       obtain rfl:=sI H
       have H:=Hk8
       cases sJ H
       exact ⟨vvs4,ccs4,ws4,hA.sub ⟨rfl,rfl,rfl,rfl,rfl,rfl,rfl,rfl,rfl,trivial⟩,hI⟩
     ·rintro a w ⟨vvc5,ccc5,wc5,hA,hI⟩
      have H:=Hk7
      refine w_seq fun _ hN19=>?_
      refine w_anyS [] mo (fun w (h:Iv w0 (many [cel g0 [[vp1]] 114,row 111 104 vp1 x0.l.length cp1]).foot μ μ [row 25 32 vvc5 c5.length ccc5,row 25 32 vvc4 c4.length ccc4,row 3 1 v4 r4.length cs2,cel g0 [[vp1]] 114,row 111 104 vp1 x0.l.length cp1,row 3 1 v3 r3.length cs1,cel g3 [av .u8 32 Z32] 25,cel g2 [av .u8 32 x2] 25,cel g1 [av .u8 32 x1] 25] w)=>(h.sl [0,1,2,3,4,5,7,8] rfl:Iv w0 (many [cel g0 [[vp1]] 114,row 111 104 vp1 x0.l.length cp1]).foot μ μ [row 25 32 vvc5 c5.length ccc5,row 25 32 vvc4 c4.length ccc4,row 3 1 v4 r4.length cs2,cel g0 [[vp1]] 114,row 111 104 vp1 x0.l.length cp1,row 3 1 v3 r3.length cs1,cel g2 [av .u8 32 x2] 25,cel g1 [av .u8 32 x1] 25] w)) hI fun w hI=>?_
      refine gE 0 hA rfl (.inr (hI.sl [0,1,2,3,4,5,7,8] rfl)) (fun _=>r_mv hA rfl) fun a hA=>?_
      refine gE 1 hA rfl (.inr (hI.sl [0,1,2,3,4,5,7,8] rfl)) (fun _=>r_mv hA rfl) fun a hA=>?_
      refine gE 2 hA rfl (.inr (hI.sl [0,1,2,3,4,5,7,8] rfl)) (fun _=>r_mv hA rfl) fun a hA=>?_
      refine gE 3 hA rfl (.inr (hI.sl [0,1,2,3,4,5,7,8] rfl)) (fun _=>r_nilc hA rfl) fun a hA=>?_
      refine gE 4 hA rfl (.inr (hI.sl [0,1,2,3,4,5,7,8] rfl)) (fun _=>r_fd (k:=0) U114 rfl sz112 hA rfl rfl) fun a hA=>?_
      refine gT 5 hA rfl (hI.sl [0,1,2,3,4,5,7,8] rfl) (fun w hI=>r_ld1 (j:=3) [] [] U112 rfl hI rfl hA rfl rfl) fun a hA=>?_
      refine gE 6 hA rfl (.inr (hI.sl [0,1,2,3,4,5,7,8] rfl)) (fun _=>r_mv hA rfl) fun a hA=>?_
      refine gE 7 hA rfl (.inr (hI.sl [0,1,2,3,4,5,7,8] rfl)) (fun _=>r_mv hA rfl) fun a hA=>?_
      have hlen7:=Iv.row_in hI (j:=5) rfl
      refine gT 8 hA rfl (hI.sl [0,1,2,3,4,5,7,8] rfl) (fun w hI=>r_rlen (xs:=0) U22 hI (j:=5) rfl hA rfl) fun a hA=>?_
      refine gE 9 hA rfl (.inr (hI.sl [0,1,2,3,4,5,7,8] rfl)) (fun _=>r_mv hA rfl) fun a hA=>?_
      refine gE 10 hA rfl (.inr (hI.sl [0,1,2,3,4,5,7,8] rfl)) (fun _=>r_sub hA rfl rfl) fun a hA=>?_
      obtain ⟨hb9,H⟩:=bG H
      refine gT 11 hA rfl (hI.sl [0,1,2,3,4,5,7,8] rfl) (fun w hI=>r_rix (j:=5) U22 sz3 hI rfl hA rfl rfl hb9.1 hb9.2) fun a hA=>?_
      have hq5:=els_get hE1 hb9.1 hb9.2
      refine gT 12 hA rfl (hI.sl [0,1,2,3,4,5,7,8] rfl) (fun w hI=>r_rld1 (j:=5) U3 rfl hI rfl hq5 hA rfl (by simp only [Nat.mul_one])) fun a hA=>?_
      obtain ⟨hb10,H⟩:=bG H
      refine gT 13 hA rfl (hI.sl [0,1,2,3,4,5,7,8] rfl) (fun w hI=>r_rix (j:=4) U112 sz111 hI rfl hA rfl rfl hb10.1 hb10.2) fun a hA=>?_
      refine gE 14 hA rfl (.inr (hI.sl [0,1,2,3,4,5,7,8] rfl)) (fun _=>r_fd (k:=so vp1+(r3.getD (IntKind.i64.wrap ((r3.length:Int) - c2)).toNat 0).toNat * 104) U111 rfl sz25 hA rfl rfl) fun a hA=>?_
      obtain ⟨A3,_,B3,hc10,hl3,_,he3⟩:=Els.at_ hp1 (getD_some default hb10.1 hb10.2)
      obtain ⟨rfl,hw5⟩:=he3
      refine gT 15 hA rfl (hI.sl [0,1,2,3,4,5,7,8] rfl) (fun w hI=>r_rldP (j:=4) (q:=(r3.getD (IntKind.i64.wrap ((r3.length:Int) - c2)).toNat 0).toNat * 104) (off:=0) A3 B3 [] [av .u8 32 ((x0.l.getD (r3.getD (IntKind.i64.wrap ((r3.length:Int) - c2)).toNat 0).toNat default).id)] [[.int .u32 ((x0.l.getD (r3.getD (IntKind.i64.wrap ((r3.length:Int) - c2)).toNat 0).toNat default).h.Version)],av .u8 32 ((x0.l.getD (r3.getD (IntKind.i64.wrap ((r3.length:Int) - c2)).toNat 0).toNat default).h.Prev),av .u8 32 ((x0.l.getD (r3.getD (IntKind.i64.wrap ((r3.length:Int) - c2)).toNat 0).toNat default).h.Root),[.int .u32 ((x0.l.getD (r3.getD (IntKind.i64.wrap ((r3.length:Int) - c2)).toNat 0).toNat default).h.Time)],[.int .u32 ((x0.l.getD (r3.getD (IntKind.i64.wrap ((r3.length:Int) - c2)).toNat 0).toNat default).h.Work)],[.int .u32 ((x0.l.getD (r3.getD (IntKind.i64.wrap ((r3.length:Int) - c2)).toNat 0).toNat default).h.Nonce)],[.int .i64 ((x0.l.getD (r3.getD (IntKind.i64.wrap ((r3.length:Int) - c2)).toNat 0).toNat default).parent)],[.int .i64 ((x0.l.getD (r3.getD (IntKind.i64.wrap ((r3.length:Int) - c2)).toNat 0).toNat default).height)],[.int .u64 ((x0.l.getD (r3.getD (IntKind.i64.wrap ((r3.length:Int) - c2)).toNat 0).toNat default).work)],[.bool ((x0.l.getD (r3.getD (IntKind.i64.wrap ((r3.length:Int) - c2)).toNat 0).toNat default).bad)]] hc10 hl3 rfl U25 rfl sz25 rfl hI rfl hA rfl) fun a hA=>?_
      refine gE 16 hA rfl (.inr (hI.sl [0,1,2,3,4,5,7,8] rfl)) (fun _=>r_as hA rfl) fun a hA=>?_
      refine gE 17 hA rfl (.inr (hI.sl [0,1,2,3,4,5,7,8] rfl)) (fun _=>r_as hA rfl) fun a hA=>?_
      refine gF 18 rfl ?_
      refine o_st (j:=6) [] [av .u8 32 Z32] [av .u8 32 ((x0.l.getD (r3.getD (IntKind.i64.wrap ((r3.length:Int) - c2)).toNat 0).toNat default).id)] [] sz25 rfl rfl (fl_cons (one_av _ _ _) fl_nil) hI rfl hA rfl rfl rfl rfl fun w hI=>?_
      refine o_nil<|⟨(.inr (hI.sl [0,1,2,3,4,5,7,8] rfl)),?_⟩
      refine gE 19 hA rfl (.inr (hI.sl [0,1,2,3,4,5,7,8] rfl)) (fun _=>r_as hA rfl) fun a hA=>?_
      refine gN<|hN19 _ _<|w_ret ?_
      obtain rfl:=sJ H
      exact retN hA Tryz.results26 (.tmp rfl (.tmp rfl (.cell rfl (cell_ld U25 rfl sz25 rfl hI (j:=6) rfl) (.tmp rfl .nil)))) ⟨_,rfl,vvc4,ccc4,vvc5,ccc5,rfl,wc4,wc5,hw5.1,trivial,((hI.sl [1,0,3,4] rfl).less (Store.le.refl _) hI.le)⟩
theorem sargassoref8_Tree_Len.c (μ:Store)(w0:World)(hμ:Agr μ w0)(x0:sargassoref8Tree)(vp1:Value)(cp1:List Value)(g0:Nat)(hp1:Els (Rsargassoref8Node μ) 104 x0.l cp1)(ho0:Its μ w0 [cel g0 [[vp1]] 114,row 111 104 vp1 x0.l.length cp1])(r:Int)(H:sargassoref8_Tree_Len.f x0=some r) :
  Calls Tryz.prog 29 [pt g0 0].toArray w0 (fun e w'=>∃ v,e=.returned v∧v=.int .i64 r∧InR .i64 r∧Iv w0 (many [cel g0 [[vp1]] 114,row 111 104 vp1 x0.l.length cp1]).foot μ μ [cel g0 [[vp1]] 114,row 111 104 vp1 x0.l.length cp1] w'):=by
 refine enter Tryz.func29 rfl Tryz.ntmps29 rfl fun a hA=>?_
 have hI:=Iv.startN hμ ho0
 have H:=bI H
 refine w_seq fun _ hN1=>w_reg<|sta hA rfl rfl fun a hA=>?_
 refine o_nil<|hN1 _ _<|w_seq fun _ hN2=>w_reg<|stm hA rfl rfl fun a hA =>
  stp hA (r_nilc hA rfl) rfl fun a hA =>
  stp hA (r_fd (k:=0) U114 rfl sz112 hA rfl rfl) rfl fun a hA =>
  stp hA (r_ld1 (j:=0) [] [] U112 rfl hI rfl hA rfl rfl) rfl fun a hA=>?_
 have hlen1:=Iv.row_in hI (j:=1) rfl
 refine stp hA (r_rlen (xs:=0) U112 hI (j:=1) rfl hA rfl) rfl fun a hA =>
  sta hA rfl rfl fun a hA=>?_
 refine o_nil<|hN2 _ _<|w_ret ?_
 obtain rfl:=sJ H
 exact ret1 hA Tryz.results29 rfl ⟨_,rfl,rfl,hlen1,(hI.less (Store.le.refl _) hI.le)⟩
theorem sargassoref8_Tree_Start.c (μ:Store)(w0:World)(hμ:Agr μ w0)(x0:sargassoref8Tree)(vp1:Value)(cp1:List Value)(g0:Nat)(hp1:Els (Rsargassoref8Node μ) 104 x0.l cp1)(ho0:Its μ w0 [cel g0 [[vp1]] 114,row 111 104 vp1 x0.l.length cp1])(r:List Int)(H:sargassoref8_Tree_Start.f x0=some r) :
  Calls Tryz.prog 31 [pt g0 0].toArray w0 (fun e w'=>∃ v,e=.returned v∧v=.agg [av .u8 32 r].flatten.toArray∧Arr .u8 32 r∧Iv w0 (many [cel g0 [[vp1]] 114,row 111 104 vp1 x0.l.length cp1]).foot μ μ [cel g0 [[vp1]] 114,row 111 104 vp1 x0.l.length cp1] w'):=by
 refine enter Tryz.func31 rfl Tryz.ntmps31 rfl fun a hA=>?_
 have hI:=Iv.startN hμ ho0
 have H:=bI H
 refine w_seq fun _ hN1=>w_reg<|o_new [av .u8 32 Z32] zr25 hI hA rfl fun g1 a w hA hI hg1=>?_
 refine o_nil<|hN1 _ _<|w_seq fun _ hN2=>w_reg<|stm hA rfl rfl fun a hA =>
  stp hA (r_nilc hA rfl) rfl fun a hA =>
  stp hA (r_fd (k:=0) U114 rfl sz112 hA rfl rfl) rfl fun a hA =>
  stp hA (r_ld1 (j:=1) [] [] U112 rfl hI rfl hA rfl rfl) rfl fun a hA=>?_
 obtain ⟨hb1,H⟩:=bG H
 refine stp hA (r_rix (j:=2) U112 sz111 hI rfl hA rfl rfl (by decide) hb1) rfl fun a hA =>
  stp hA (r_fd (k:=so vp1+(0:Int).toNat * 104) U111 rfl sz25 hA rfl rfl) rfl fun a hA=>?_
 obtain ⟨A1,_,B1,hc1,hl1,_,he1⟩:=Els.at_ hp1 (getD_some default (by decide) hb1)
 obtain ⟨rfl,hw1⟩:=he1
 refine stp hA (r_rldP (j:=2) (q:=(0:Int).toNat * 104) (off:=0) A1 B1 [] [av .u8 32 ((x0.l.getD (0:Int).toNat default).id)] [[.int .u32 ((x0.l.getD (0:Int).toNat default).h.Version)],av .u8 32 ((x0.l.getD (0:Int).toNat default).h.Prev),av .u8 32 ((x0.l.getD (0:Int).toNat default).h.Root),[.int .u32 ((x0.l.getD (0:Int).toNat default).h.Time)],[.int .u32 ((x0.l.getD (0:Int).toNat default).h.Work)],[.int .u32 ((x0.l.getD (0:Int).toNat default).h.Nonce)],[.int .i64 ((x0.l.getD (0:Int).toNat default).parent)],[.int .i64 ((x0.l.getD (0:Int).toNat default).height)],[.int .u64 ((x0.l.getD (0:Int).toNat default).work)],[.bool ((x0.l.getD (0:Int).toNat default).bad)]] hc1 hl1 rfl U25 rfl sz25 rfl hI rfl hA rfl) rfl fun a hA =>
  o_st (j:=0) [] [av .u8 32 Z32] [av .u8 32 ((x0.l.getD (0:Int).toNat default).id)] [] sz25 rfl rfl (fl_cons (one_av _ _ _) fl_nil) hI rfl hA rfl rfl rfl rfl fun w hI=>?_
 refine o_nil<|hN2 _ _<|w_ret ?_
 obtain rfl:=sJ H
 exact retc U25 rfl sz25 rfl hI (j:=0) rfl hA Tryz.results31 rfl ⟨_,rfl,rfl,hw1.1,((hI.sl [1,2] rfl).less (Store.le.refl _) hI.le)⟩
noncomputable def tree_New.f (x0:Head):Option treeTree:=((head_ID.f x0).bind fun r1=>(if (mget ([]:List ((List Int)×treeNode)) r1).isNone=true then some (⟨mput ([]:List ((List Int)×treeNode)) r1 ((⟨x0,0,IntKind.u64.wrap x0.Work,([]:List (List Int))⟩:treeNode):treeNode),r1⟩:treeTree) else none))
def tree_Tree_Height.f (x0:treeTree)(x1:List Int):Option (Int×Bool):=(if ((mget x0.m x1).isSome)=true then ((nget x0.m (lkn x0.m x1)).bind fun nd1=>some (nd1.height,true)) else some (0,false))
def tree_Tree_Len.f (x0:treeTree):Option Int:=some (x0.m.length:Int)
def tree_Tree_Start.f (x0:treeTree):Option (List Int):=some x0.start
noncomputable def tree_Tree_Add.f (x0:treeTree)(x1:Head):Option (Er×treeTree):=((head_ID.f x1).bind fun r1=>(if ((mget x0.m r1).isSome)=true then some (xErrKnown,(⟨x0.m,x0.start⟩:treeTree)) else (if ((mget x0.m x1.Prev).isSome)=true then (if 4096≤(x0.m.length:Int) then some (xErrFull,(⟨x0.m,x0.start⟩:treeTree)) else ((nget x0.m (lkn x0.m x1.Prev)).bind fun nd1=>(if (mget x0.m r1).isNone=true then (if nd1.up.length+1≤4398046511104 then some ((Er.b 0),(⟨nput (mput x0.m r1 ((⟨x1,IntKind.i64.wrap (nd1.height+1),IntKind.u64.wrap (nd1.work+(IntKind.u64.wrap x1.Work)),([]:List (List Int))⟩:treeNode):treeNode)) (lkn x0.m x1.Prev) ((⟨nd1.head,nd1.height,nd1.work,nd1.up++([r1]:List (List Int))⟩:treeNode):treeNode),x0.start⟩:treeTree)) else none) else none))) else some (xErrParent,(⟨x0.m,x0.start⟩:treeTree)))))
def tree_Tree_Head.f (x0:treeTree)(x1:List Int):Option (Head×Bool):=(if ((mget x0.m x1).isSome)=true then ((nget x0.m (lkn x0.m x1)).bind fun nd1=>some (nd1.head,true)) else some ((⟨0,(List.replicate 32 0),(List.replicate 32 0),0,0,0⟩:Head),false))
def tree_Tree_Work.f (x0:treeTree)(x1:List Int):Option (Int×Bool):=(if ((mget x0.m x1).isSome)=true then ((nget x0.m (lkn x0.m x1)).bind fun nd1=>some (nd1.work,true)) else some (0,false))
def tree_Tree_Ancestor.s0 (x0:treeTree)(x2:Int):((Option (List Int))×(List Int))→Option (((Option (List Int))×(List Int))⊕((Option (List Int))×(List Int))):=fun (s1,s2)=>((nget x0.m s1).bind fun nd2=>(if x2 < nd2.height then some (.inl (lkn x0.m nd2.head.Prev,nd2.head.Prev)) else some (.inr (s1,s2))))
noncomputable def tree_Tree_Ancestor.f (x0:treeTree)(x1:List Int)(x2:Int):Option ((List Int)×Bool):=(((if ((mget x0.m x1).isSome)=true then (if x2 < 0 then some true else ((nget x0.m (lkn x0.m x1)).bind fun nd1=>some (decide (nd1.height < x2)))) else some true)).bind fun c1=>(if c1=true then some ([0,0,0,0,0,0,0,0,0,0,0,0,0,0,0,0,0,0,0,0,0,0,0,0,0,0,0,0,0,0,0,0],false) else ((loopO (tree_Tree_Ancestor.s0 x0 x2) (lkn x0.m x1,x1)).bind fun (c2,c3)=>some (c3,true))))
def slices_SortFunc_api_Hash_api_Hash_at_digest_Compare.f (x0:List (List Int)):Option (List (List Int)):=if x0.length≤4398046511104 then some (hsort x0) else none
def tree_Tree_Under.s0 (x0:treeTree):((List (List Int))×Int)→Option (((List (List Int))×Int)⊕(List (List Int))):=fun (s1,s2)=>(if s2 < (s1.length:Int) then (if 0≤s2∧s2 < (s1.length:Int) then ((nget x0.m (lkn x0.m (s1.getD s2.toNat []))).bind fun nd1=>(if s1.length+nd1.up.length≤4398046511104 then some (.inl (s1++nd1.up,IntKind.i64.wrap (s2+1))) else none)) else none) else some (.inr s1))
noncomputable def tree_Tree_Under.f (x0:treeTree)(x1:List Int):Option (List (List Int)):=(if ((mget x0.m x1).isSome)=true then ((loopO (tree_Tree_Under.s0 x0) (([x1]:List (List Int)),0)).bind fun c1=>((slices_SortFunc_api_Hash_api_Hash_at_digest_Compare.f c1).bind fun r1=>some r1)) else some ([]:List (List Int)))
def tree_Tree_Common.s0 (x0:treeTree):((Option (List Int))×(Option (List Int))×(List Int)×(List Int))→Option (((Option (List Int))×(Option (List Int))×(List Int)×(List Int))⊕((Option (List Int))×(Option (List Int))×(List Int)×(List Int))):=fun (s1,s2,s3,s4)=>(if ¬ (s4=s3) then ((nget x0.m s1).bind fun nd1=>((nget x0.m s2).bind fun nd2=>(if nd2.height≤nd1.height then some (.inl (lkn x0.m nd1.head.Prev,s2,s3,nd1.head.Prev)) else some (.inl (s1,lkn x0.m nd2.head.Prev,nd2.head.Prev,s4))))) else some (.inr (s1,s2,s3,s4)))
noncomputable def tree_Tree_Common.f (x0:treeTree)(x1 x2:List Int):Option ((List Int)×Bool):=(((if ((mget x0.m x1).isSome)=true then some (!((mget x0.m x2).isSome)) else some true)).bind fun c1=>(if c1=true then some ([0,0,0,0,0,0,0,0,0,0,0,0,0,0,0,0,0,0,0,0,0,0,0,0,0,0,0,0,0,0,0,0],false) else ((loopO (tree_Tree_Common.s0 x0) (lkn x0.m x1,lkn x0.m x2,x2,x1)).bind fun (c2,c3,c4,c5)=>some (c5,true))))
def tree_Tree_down.s0 (x0:treeTree)(x2:List Int):((List (List Int))×(List Int))→Option (((List (List Int))×(List Int))⊕((List (List Int))×(List Int))):=fun (s1,s2)=>(if ¬ (s2=x2) then (if s1.length+1≤4398046511104 then ((nget x0.m (lkn x0.m s2)).bind fun nd1=>some (.inl (s1++([s2]:List (List Int)),nd1.head.Prev))) else none) else some (.inr (s1,s2)))
noncomputable def tree_Tree_down.f (x0:treeTree)(x1 x2:List Int):Option (List (List Int)):=((loopO (tree_Tree_down.s0 x0 x2) (([]:List (List Int)),x1)).bind fun (c1,c2)=>some c1)
noncomputable def tree_Tree_Path.f (x0:treeTree)(x1 x2:List Int):Option ((List (List Int))×(List (List Int))×Bool):=((tree_Tree_Common.f (⟨x0.m,x0.start⟩:treeTree) x1 x2).bind fun r1=>(if r1.2=true then ((tree_Tree_down.f (⟨x0.m,x0.start⟩:treeTree) x2 r1.1).bind fun r2=>((slices_Reverse_api_Hash_api_Hash.f r2).bind fun r3=>((tree_Tree_down.f (⟨x0.m,x0.start⟩:treeTree) x1 r1.1).bind fun r4=>some (r4,r3,true)))) else some (([]:List (List Int)),([]:List (List Int)),false)))
end Go.Proofs.YtdngkgkkblfcjaaGreatDoor.T
namespace Go.Proofs.YtdngkgkkblfcjaaGreatDoor.T
open Go Go.Proofs
def sortR:Go.Shelf.Ren:=⟨fun | 6=>56 | 15=>93 | 14=>92 | 28=>144 | 29=>145 | 20=>136 | 21=>137 | 22=>138 | 23=>139 | 24=>140 | 25=>141 | 26=>142 | 27=>143 | 46=>172 | 47=>173 | 48=>174 | 49=>175 | 50=>176 | 57=>198 | n=>n,fun | 22=>42 | 24=>25 | 25=>125 | 3=>3 | 39=>173 | 0=>0 | 53=>23 | 55=>45 | 4=>4 | 46=>241 | 45=>240 | 50=>48 | 5=>5 | 9=>9 | 66=>279 | 70=>283 | 76=>308 | 77=>309 | n=>n,fun | n=>n⟩
theorem sortL:Go.Proofs.SlLaysF0.n6 Tryz.prog sortR:={
 mixed:=by kernel_rfl,
 f6:=⟨Tryz.f56.name,by decide,Tryz.func56.trans (congrArg some (by kernel_rfl))⟩,
 f14:=⟨Tryz.f92.name,by decide,Tryz.func92.trans (congrArg some (by kernel_rfl))⟩,
 f15:=Tryz.func93.trans (congrArg some (by kernel_rfl)),
 f20:=⟨Tryz.f136.name,by decide,Tryz.func136.trans (congrArg some (by kernel_rfl))⟩,
 f21:=⟨Tryz.f137.name,by decide,Tryz.func137.trans (congrArg some (by kernel_rfl))⟩,
 f22:=⟨Tryz.f138.name,by decide,Tryz.func138.trans (congrArg some (by kernel_rfl))⟩,
 f23:=⟨Tryz.f139.name,by decide,Tryz.func139.trans (congrArg some (by kernel_rfl))⟩,
 f24:=⟨Tryz.f140.name,by decide,Tryz.func140.trans (congrArg some (by kernel_rfl))⟩,
 f25:=⟨Tryz.f141.name,by decide,Tryz.func141.trans (congrArg some (by kernel_rfl))⟩,
 f26:=⟨Tryz.f142.name,by decide,Tryz.func142.trans (congrArg some (by kernel_rfl))⟩,
 f27:=⟨Tryz.f143.name,by decide,Tryz.func143.trans (congrArg some (by kernel_rfl))⟩,
 f28:=Tryz.func144.trans (congrArg some (by kernel_rfl)),
 f29:=Tryz.func145.trans (congrArg some (by kernel_rfl)),
 f46:=⟨Tryz.f172.name,by decide,Tryz.func172.trans (congrArg some (by kernel_rfl))⟩,
 f47:=Tryz.func173.trans (congrArg some (by kernel_rfl)),
 f48:=Tryz.func174.trans (congrArg some (by kernel_rfl)),
 f49:=⟨Tryz.f175.name,by decide,Tryz.func175.trans (congrArg some (by kernel_rfl))⟩,
 f50:=⟨Tryz.f176.name,by decide,Tryz.func176.trans (congrArg some (by kernel_rfl))⟩,
 f57:=⟨Tryz.f198.name,by decide,Tryz.func198.trans (congrArg some (by kernel_rfl))⟩,
 t0:=Tryz.underlying0,
 a0:=Tryz.isAgg0,
 z0:=Tryz.sizeOf0,
 v0:=Tryz.zeroValue0,
 t3:=Tryz.underlying3,
 a3:=Tryz.isAgg3,
 z3:=Tryz.sizeOf3,
 v3:=Tryz.zeroValue3,
 t4:=Tryz.underlying4,
 a4:=Tryz.isAgg4,
 z4:=Tryz.sizeOf4,
 v4:=Tryz.zeroValue4,
 t5:=Tryz.underlying5,
 a5:=Tryz.isAgg5,
 z5:=Tryz.sizeOf5,
 v5:=Tryz.zeroValue5,
 t9:=Tryz.underlying9,
 a9:=Tryz.isAgg9,
 z9:=Tryz.sizeOf9,
 v9:=Tryz.zeroValue9,
 t22:=Tryz.underlying42,
 a22:=Tryz.isAgg42,
 z22:=Tryz.sizeOf42,
 v22:=Tryz.zeroValue42,
 t25:=Tryz.underlying125,
 a25:=Tryz.isAgg125,
 z25:=Tryz.sizeOf125,
 v25:=Tryz.zeroValue125,
 t39:=Tryz.underlying173,
 a39:=Tryz.isAgg173,
 z39:=Tryz.sizeOf173,
 v39:=Tryz.zeroValue173,
 t45:=Tryz.underlying240,
 a45:=Tryz.isAgg240,
 z45:=Tryz.sizeOf240,
 v45:=Tryz.zeroValue240,
 t46:=Tryz.underlying241,
 a46:=Tryz.isAgg241,
 z46:=Tryz.sizeOf241,
 v46:=Tryz.zeroValue241,
 t50:=Tryz.underlying48,
 a50:=Tryz.isAgg48,
 z50:=Tryz.sizeOf48,
 v50:=Tryz.zeroValue48,
 t53:=Tryz.underlying23,
 a53:=Tryz.isAgg23,
 z53:=Tryz.sizeOf23,
 v53:=Tryz.zeroValue23,
 t55:=Tryz.underlying45,
 a55:=Tryz.isAgg45,
 z55:=Tryz.sizeOf45,
 v55:=Tryz.zeroValue45,
 t66:=Tryz.underlying279,
 a66:=Tryz.isAgg279,
 z66:=Tryz.sizeOf279,
 v66:=Tryz.zeroValue279,
 t70:=Tryz.underlying283,
 a70:=Tryz.isAgg283,
 z70:=Tryz.sizeOf283,
 v70:=Tryz.zeroValue283,
 t76:=Tryz.underlying308,
 a76:=Tryz.isAgg308,
 z76:=Tryz.sizeOf308,
 v76:=Tryz.zeroValue308,
 t77:=Tryz.underlying309,
 a77:=Tryz.isAgg309,
 z77:=Tryz.sizeOf309,
 v77:=Tryz.zeroValue309 }
end Go.Proofs.YtdngkgkkblfcjaaGreatDoor.T
