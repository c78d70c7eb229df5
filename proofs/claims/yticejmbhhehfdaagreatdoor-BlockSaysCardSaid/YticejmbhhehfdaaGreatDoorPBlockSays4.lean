/- Proved: the statement BlockSays, as given (its conditions are those of the given row, and card where there is one; no others): the call ends, with true, and the input reads as it did. This file is one of its parts. -/
import Derived.Test.YticejmbhhehfdaaGreatDoorPBlockSays3
namespace Go.Proofs.YticejmbhhehfdaaGreatDoor.T
open Go Go.Proofs Go.Proofs.YticejmbhhehfdaaGreatDoor.K
set_option linter.unusedVariables false
set_option linter.unusedSimpArgs false
set_option maxRecDepth 20000
theorem digest_begin.c (μ:Store)(w0:World)(hμ:Agr μ w0)(r:List Int)(H:digest_begin.f=some r) :
  Calls Tryz.prog 131 [].toArray w0 (fun e w'=>∃ v,e=.returned v∧v=.agg [av .u32 8 r].flatten.toArray∧Arr .u32 8 r∧Iv w0 [] μ μ [] w'):=by
 refine enter Tryz.func131 rfl Tryz.ntmps131 rfl fun a hA=>?_
 have hI:=Iv.start hμ
 have H:=bI H
 refine w_seq fun _ hN1=>w_reg<|o_new [av .u32 8 (List.replicate 8 0)] zr151 hI hA rfl fun g1 a w hA hI hg1=>?_
 refine o_nil<|hN1 _ _<|w_seq fun _ hN2=>w_reg<|stp hA (r_bldA (cs:=[av .u32 8 ([1779033703,3144134277,1013904242,2773480762,1359893119,2600822924,528734635,1541459225])].flatten.toArray) zr151 U151 sz22 hA rfl (by kernel_rfl)) rfl fun a hA =>
  o_st (j:=0) [] [av .u32 8 (List.replicate 8 0)] [av .u32 8 ([1779033703,3144134277,1013904242,2773480762,1359893119,2600822924,528734635,1541459225])] [] sz151 rfl rfl (fl_cons (one_av _ _ _) fl_nil) hI rfl hA rfl rfl rfl rfl fun w hI=>?_
 refine o_nil<|hN2 _ _<|w_ret ?_
 obtain rfl:=sJ H
 exact retc U151 rfl sz151 rfl hI (j:=0) rfl hA Tryz.results131 rfl ⟨_,rfl,rfl,(arr_lit rfl (by simp only [List.forall_mem_cons];exact ⟨(in_lit .u32 1779033703 rfl),(in_lit .u32 3144134277 rfl),(in_lit .u32 1013904242 rfl),(in_lit .u32 2773480762 rfl),(in_lit .u32 1359893119 rfl),(in_lit .u32 2600822924 rfl),(in_lit .u32 528734635 rfl),(in_lit .u32 1541459225 rfl),by simp⟩)),hI.forget0⟩
theorem dW_state.c (μ:Store)(w0:World)(hμ:Agr μ w0)(x0:dWr)(vp1:Value)(cp1:List Value)(g0:Nat)(hp1:Arr .u32 8 x0.s)(hp2:Els (RI .u8) 1 x0.rest cp1)(hp3:InR .i64 x0.n)(ho0:Its μ w0 [cel g0 [av .u32 8 x0.s,[vp1],[.int .i64 x0.n]] 153,row 5 1 vp1 x0.rest.length cp1])(r:List Int)(H:dW_state.f x0=some r) :
  Calls Tryz.prog 129 [pt g0 0].toArray w0 (fun e w'=>∃ v,e=.returned v∧v=.agg [av .u32 8 r].flatten.toArray∧Arr .u32 8 r∧Iv w0 (many [cel g0 [av .u32 8 x0.s,[vp1],[.int .i64 x0.n]] 153,row 5 1 vp1 x0.rest.length cp1]).foot μ μ [cel g0 [av .u32 8 x0.s,[vp1],[.int .i64 x0.n]] 153,row 5 1 vp1 x0.rest.length cp1] w'):=by
 refine enter Tryz.func129 rfl Tryz.ntmps129 rfl fun a hA=>?_
 have hI:=Iv.startN hμ ho0
 have H:=bI H
 refine w_seq fun _ hN1=>w_reg<|o_new [av .u32 8 (List.replicate 8 0)] zr151 hI hA rfl fun g1 a w hA hI hg1=>?_
 refine o_nil<|hN1 _ _<|w_seq fun _ hN2=>w_seq fun _ hN3=>w_reg<|stm hA rfl rfl fun a hA =>
  stp hA (r_nilc hA rfl) rfl fun a hA =>
  stp hA (r_fd (k:=9) U153 rfl sz2 hA rfl rfl) rfl fun a hA =>
  stp hA (r_ld1 (j:=1) [av .u32 8 x0.s,[vp1]] [] U2 rfl hI rfl hA rfl rfl) rfl fun a hA =>
  stp hA (r_lss hA rfl rfl) rfl fun a hA=>?_
 refine o_nil<|hN3 _ _<|w_cond hA rfl (fun hc1=>?_) (fun hc1=>?_)
 ·obtain ⟨hc1,H⟩:=dT H hc1
  refine w_seq fun _ hN4=>w_reg ?_
  obtain ⟨r1,hr1,H⟩:=bB H
  refine o_callp (u:=.agg [av .u32 8 r1].flatten.toArray) cf131 hA rfl hI (digest_begin.c μ _ hI.agr  r1 hr1) rfl fun a w hz1 hI hA =>
   o_st (j:=0) [] [av .u32 8 (List.replicate 8 0)] [av .u32 8 r1] [] sz151 rfl rfl (fl_cons (one_av _ _ _) fl_nil) hI rfl hA rfl rfl rfl rfl fun w hI=>?_
  refine o_nil<|hN4 _ _<|w_ret ?_
  obtain rfl:=sJ H
  exact retc U151 rfl sz151 rfl hI (j:=0) rfl hA Tryz.results129 rfl ⟨_,rfl,rfl,hz1,((hI.sl [1,2] rfl).less (Store.le.refl _) hI.le)⟩
 ·obtain ⟨hc1,H⟩:=dF H hc1
  refine w_skip<|hN2 _ _<|w_seq fun _ hN5=>w_reg<|stm hA rfl rfl fun a hA =>
   stp hA (r_nilc hA rfl) rfl fun a hA =>
   stp hA (r_fd (k:=0) U153 rfl sz151 hA rfl rfl) rfl fun a hA =>
   stp hA (r_ldA (j:=1) [] [av .u32 8 x0.s] [[vp1],[.int .i64 x0.n]] U151 rfl sz151 rfl hI rfl hA rfl rfl) rfl fun a hA =>
   o_st (j:=0) [] [av .u32 8 (List.replicate 8 0)] [av .u32 8 x0.s] [] sz151 rfl rfl (fl_cons (one_av _ _ _) fl_nil) hI rfl hA rfl rfl rfl rfl fun w hI=>?_
  refine o_nil<|hN5 _ _<|w_ret ?_
  obtain rfl:=sJ H
  exact retc U151 rfl sz151 rfl hI (j:=0) rfl hA Tryz.results129 rfl ⟨_,rfl,rfl,hp1,((hI.sl [1,2] rfl).less (Store.le.refl _) hI.le)⟩
theorem digest_turn.c (μ:Store)(w0:World)(hμ:Agr μ w0)(x0:Int)(hx0:InR .u32 x0)(x1:Int)(hx1:InR .i64 x1)(r:Int)(H:digest_turn.f x0 x1=some r) :
  Calls Tryz.prog 134 [.int .u32 x0,.int .i64 x1].toArray w0 (fun e w'=>∃ v,e=.returned v∧v=.int .u32 r∧InR .u32 r∧Iv w0 [] μ μ [] w'):=by
 refine enter Tryz.func134 rfl Tryz.ntmps134 rfl fun a hA=>?_
 have hI:=Iv.start hμ
 have H:=bI H
 refine w_seq fun _ hN1=>w_reg<|sta hA rfl rfl fun a hA=>?_
 refine o_nil<|hN1 _ _<|w_seq fun _ hN2=>w_reg<|stm hA rfl rfl fun a hA =>
  stm hA rfl rfl fun a hA =>
  stp hA (r_neg hA rfl) rfl fun a hA=>?_
 obtain ⟨r1,hr1,H⟩:=bB H
 refine o_callp (u:=.int .u32 r1) cf135 hA rfl hI (math_bits_RotateLeft32.c μ _ hI.agr x0 hx0 (IntKind.i64.wrap (0 - x1)) (wrap_in _ _) r1 hr1) rfl fun a w hz1 hI hA =>
  sta hA rfl rfl fun a hA=>?_
 refine o_nil<|hN2 _ _<|w_ret ?_
 obtain rfl:=sJ H
 exact ret1 hA Tryz.results134 rfl ⟨_,rfl,rfl,hz1,hI.forget0⟩
theorem digest_spread.c (μ:Store)(w0:World)(hμ:Agr μ w0)(x0:List Int)(u0:Value)(hx0:Slc (RI .u8) 1 μ u0 x0)(r:List Int)(H:digest_spread.f x0=some r) :
  Calls Tryz.prog 132 [u0].toArray w0 (fun e w'=>∃ v,e=.returned v∧v=.agg [av .u32 64 r].flatten.toArray∧Arr .u32 64 r∧Iv w0 [] μ μ [] w'):=by
 refine enter Tryz.func132 rfl Tryz.ntmps132 rfl fun a hA=>?_
 have hI:=Iv.start hμ
 have H:=bI H
 refine w_seq fun _ hN1=>w_reg<|o_new [av .u32 64 (List.replicate 64 0)] zr160 hI hA rfl fun g1 a w hA hI hg1=>?_
 refine o_nil<|hN1 _ _<|w_seq fun _ hN2=>w_reg<|o_new [av .u32 64 (List.replicate 64 0)] zr160 hI hA rfl fun g2 a w hA hI hg2=>?_
 refine o_nil<|hN2 _ _ ?_
 obtain ⟨c1,hz1,Hk1⟩:=bB H
 refine w_cut (fun a w=>Arr .u32 64 c1∧Fr a 80 [(2,pt g1 0),(3,pt g2 0)]∧Iv w0 [] μ μ [cel g2 [av .u32 64 c1] 160,cel g1 [av .u32 64 (List.replicate 64 0)] 160] w) ?_ ?_
 ·have H:=bI hz1
  refine w_seq fun _ hN3=>w_reg<|stm hA rfl rfl fun a hA=>?_
  refine o_nil<|hN3 _ _<|w_block ?_
  obtain ⟨z1,hz2,Hk2⟩:=bind_some H
  obtain ⟨n1,hn1⟩:=loopO_some hz2
  refine w_loop (fun n a w=>∃(s1:Int)(s2:List Int),loopN (digest_spread.s0 x0) n (s1,s2)=some z1∧InR .i64 s1∧Arr .u32 64 s2∧Fr a 80 [(0,u0),(2,pt g1 0),(3,pt g2 0),(8,.int .i64 s1)]∧Iv w0 [] μ μ [cel g2 [av .u32 64 s2] 160,cel g1 [av .u32 64 (List.replicate 64 0)] 160] w) n1 ⟨0,(List.replicate 64 0),hn1,(in_lit .i64 0 rfl),(arr_zero _ _),hA.sub ⟨rfl,rfl,rfl,rfl,trivial⟩,hI⟩ ?_
  clear hA hI
  rintro n a w ⟨s1,s2,hn1,ws1,ws2,hA,hI⟩
  obtain ⟨m1,rfl,H⟩:=loopN_bind hn1
  clear hn1
  refine w_seq fun _ hN4=>w_reg<|stp hA (r_lss hA rfl rfl) rfl fun a hA=>?_
  refine o_nil<|hN4 _ _<|w_seq fun _ hN5=>w_cond hA rfl (fun hc1=>?_) (fun hc1=>?_)
  ·obtain ⟨hc1,H⟩:=dT H hc1
   refine w_skip<|hN5 _ _ ?_
   obtain ⟨c2,hz3,Hk3⟩:=bB H
   refine w_cut (fun a w=>Arr .u32 64 c2∧Fr a 80 [(0,u0),(2,pt g1 0),(3,pt g2 0),(8,.int .i64 s1),(9,.bool (decide (s1 < 64)))]∧Iv w0 [] μ μ [cel g2 [av .u32 64 c2] 160,cel g1 [av .u32 64 (List.replicate 64 0)] 160] w) ?_ ?_
   ·have H:=bI hz3
    refine w_block<|w_seq fun _ hN6=>w_reg<|stm hA rfl rfl fun a hA =>
     sta hA rfl rfl fun a hA=>?_
    refine o_nil<|hN6 _ _<|w_seq fun _ hN7=>w_seq fun _ hN8=>w_reg<|stm hA rfl rfl fun a hA =>
     stp hA (r_lss hA rfl rfl) rfl fun a hA=>?_
    refine o_nil<|hN8 _ _<|w_cond hA rfl (fun hc2=>?_) (fun hc2=>?_)
    ·obtain ⟨hc2,H⟩:=dT H hc2
     refine w_seq fun _ hN9=>w_reg<|stm hA rfl rfl fun a hA =>
      stm hA rfl rfl fun a hA =>
      stp hA (r_mul hA rfl rfl) rfl fun a hA=>?_
     obtain ⟨hb1,H⟩:=bG H
     obtain ⟨v1,hS1,hr1⟩:=r_sl (P:=Tryz.prog) (t:=30) (x:=.tmp 13) (l:=(some (.tmp 15))) (h:=none) (i:=IntKind.i64.wrap (4 * s1)) (j:=(x0.length:Int)) U30 sz5 hx0 hA rfl rfl rfl (by have hq:=hb1;omega) (by have hq:=hb1;omega) (by have hq:=hb1;omega)
     refine stp hA (hr1 _ _ _ _ _ _) rfl fun a hA =>
      sta hA rfl rfl fun a hA=>?_
     refine o_nil<|hN9 _ _<|w_seq fun _ hN10=>?_
     refine w_anyS [] mo (fun w (h:Iv w0 [] μ μ [cel g2 [av .u32 64 s2] 160,cel g1 [av .u32 64 (List.replicate 64 0)] 160] w)=>(h.sl [1] rfl:Iv w0 [] μ μ [cel g1 [av .u32 64 (List.replicate 64 0)] 160] w)) hI fun w hI=>?_
     refine gE 0 hA rfl (.inr (hI.sl [1] rfl)) (fun _=>r_mv hA rfl) fun a hA=>?_
     refine gE 1 hA rfl (.inr (hI.sl [1] rfl)) (fun _=>r_mv hA rfl) fun a hA=>?_
     obtain ⟨hb2,H⟩:=bG H
     obtain ⟨_,he1,_,hat1⟩:=Slc.elem1 hS1 (getD_some 0 (by decide) hb2)
     obtain ⟨rfl,hw1⟩:=he1
     obtain ⟨_,hsl1⟩:=Slc.sv hS1
     refine gE 2 hA rfl (.inr (hI.sl [1] rfl)) (fun _=>r_six1 U30 sz5 hsl1 hA rfl rfl (by decide) hb2) fun a hA=>?_
     refine gT 3 hA rfl (hI.sl [1] rfl) (fun w hI=>r_ldm1 [] [] U5 rfl hI.agr hat1 hA rfl rfl) fun a hA=>?_
     refine gE 4 hA rfl (.inr (hI.sl [1] rfl)) (fun _=>r_conv U5 U22 hA rfl) fun a hA=>?_
     refine gE 5 hA rfl (.inr (hI.sl [1] rfl)) (fun _=>r_shl hA rfl rfl (by decide)) fun a hA=>?_
     refine gE 6 hA rfl (.inr (hI.sl [1] rfl)) (fun _=>r_mv hA rfl) fun a hA=>?_
     obtain ⟨hb3,H⟩:=bG H
     obtain ⟨_,he2,_,hat2⟩:=Slc.elem1 hS1 (getD_some 0 (by decide) hb3)
     obtain ⟨rfl,hw2⟩:=he2
     obtain ⟨_,hsl2⟩:=Slc.sv hS1
     refine gE 7 hA rfl (.inr (hI.sl [1] rfl)) (fun _=>r_six1 U30 sz5 hsl2 hA rfl rfl (by decide) hb3) fun a hA=>?_
     refine gT 8 hA rfl (hI.sl [1] rfl) (fun w hI=>r_ldm1 [] [] U5 rfl hI.agr hat2 hA rfl rfl) fun a hA=>?_
     refine gE 9 hA rfl (.inr (hI.sl [1] rfl)) (fun _=>r_conv U5 U22 hA rfl) fun a hA=>?_
     refine gE 10 hA rfl (.inr (hI.sl [1] rfl)) (fun _=>r_shl hA rfl rfl (by decide)) fun a hA=>?_
     refine gE 11 hA rfl (.inr (hI.sl [1] rfl)) (fun _=>r_or hA rfl rfl) fun a hA=>?_
     refine gE 12 hA rfl (.inr (hI.sl [1] rfl)) (fun _=>r_mv hA rfl) fun a hA=>?_
     obtain ⟨hb4,H⟩:=bG H
     obtain ⟨_,he3,_,hat3⟩:=Slc.elem1 hS1 (getD_some 0 (by decide) hb4)
     obtain ⟨rfl,hw3⟩:=he3
     obtain ⟨_,hsl3⟩:=Slc.sv hS1
     refine gE 13 hA rfl (.inr (hI.sl [1] rfl)) (fun _=>r_six1 U30 sz5 hsl3 hA rfl rfl (by decide) hb4) fun a hA=>?_
     refine gT 14 hA rfl (hI.sl [1] rfl) (fun w hI=>r_ldm1 [] [] U5 rfl hI.agr hat3 hA rfl rfl) fun a hA=>?_
     refine gE 15 hA rfl (.inr (hI.sl [1] rfl)) (fun _=>r_conv U5 U22 hA rfl) fun a hA=>?_
     refine gE 16 hA rfl (.inr (hI.sl [1] rfl)) (fun _=>r_shl hA rfl rfl (by decide)) fun a hA=>?_
     refine gE 17 hA rfl (.inr (hI.sl [1] rfl)) (fun _=>r_or hA rfl rfl) fun a hA=>?_
     refine gE 18 hA rfl (.inr (hI.sl [1] rfl)) (fun _=>r_mv hA rfl) fun a hA=>?_
     obtain ⟨hb5,H⟩:=bG H
     obtain ⟨_,he4,_,hat4⟩:=Slc.elem1 hS1 (getD_some 0 (by decide) hb5)
     obtain ⟨rfl,hw4⟩:=he4
     obtain ⟨_,hsl4⟩:=Slc.sv hS1
     refine gE 19 hA rfl (.inr (hI.sl [1] rfl)) (fun _=>r_six1 U30 sz5 hsl4 hA rfl rfl (by decide) hb5) fun a hA=>?_
     refine gT 20 hA rfl (hI.sl [1] rfl) (fun w hI=>r_ldm1 [] [] U5 rfl hI.agr hat4 hA rfl rfl) fun a hA=>?_
     refine gE 21 hA rfl (.inr (hI.sl [1] rfl)) (fun _=>r_conv U5 U22 hA rfl) fun a hA=>?_
     refine gE 22 hA rfl (.inr (hI.sl [1] rfl)) (fun _=>r_or hA rfl rfl) fun a hA=>?_
     obtain ⟨hb6,H⟩:=bG H
     refine gE 23 hA rfl (.inr (hI.sl [1] rfl)) (fun _=>r_ixar1 U160 sz22 hA rfl rfl hb6.1 hb6.2) fun a hA=>?_
     refine gF 24 rfl ?_
     refine o_stE (j:=0) [] [] sz22 ws2.1 hI rfl hA rfl rfl rfl (by omega) fun w hI=>?_
     refine o_nil<|⟨(.inr (hI.sl [1] rfl)),?_⟩
     refine gN<|hN10 _ _<|w_exit rfl ?_
     cases sJ H
     exact ⟨(arr_set ws2 _ (wrap_in _ _)),hA.sub ⟨rfl,rfl,rfl,rfl,rfl,trivial⟩,hI⟩
    ·obtain ⟨hc2,H⟩:=dF H hc2
     refine w_skip<|hN7 _ _<|w_seq fun _ hN11=>?_
     refine w_draw mo (by kernel_rfl) hI ?_
     refine qtp hA (fun _ hI=>r_mv hA rfl) rfl fun a hA =>
      qtp hA (fun _ hI=>r_sub hA rfl rfl) rfl fun a hA=>?_
     obtain ⟨hb7,H⟩:=bG H
     refine qtp hA (fun _ hI=>r_ixar1 U160 sz22 hA rfl rfl hb7.1 hb7.2) rfl fun a hA =>
      qtp hA (fun _ hI=>r_ldE (j:=0) [] [] U22 rfl hI rfl hA rfl rfl (by omega)) rfl fun a hA =>
      qtp hA (fun _ hI=>r_mv hA rfl) rfl fun a hA =>
      qtp hA (fun _ hI=>r_sub hA rfl rfl) rfl fun a hA=>?_
     obtain ⟨hb8,H⟩:=bG H
     refine qtp hA (fun _ hI=>r_ixar1 U160 sz22 hA rfl rfl hb8.1 hb8.2) rfl fun a hA =>
      qtp hA (fun _ hI=>r_ldE (j:=0) [] [] U22 rfl hI rfl hA rfl rfl (by omega)) rfl fun a hA =>
      qtp hA (fun _ hI=>r_as hA rfl) rfl fun a hA =>
      qtp hA (fun _ hI=>r_as hA rfl) rfl fun a hA=>?_
     refine q_nil fun w hI=>?_
     refine hN11 _ _ ?_
     refine w_any [29] mo hI fun w hI=>?_
     refine gE 0 hA rfl (.inr hI) (fun _=>r_mv hA rfl) fun a hA=>?_
     refine gE 1 hA rfl (.inr hI) (fun _=>r_mv hA rfl) fun a hA=>?_
     refine gE 3 hA rfl (.inr hI) (fun _=>r_mv hA rfl) fun a hA=>?_
     refine gE 6 hA rfl (.inr hI) (fun _=>r_mv hA rfl) fun a hA=>?_
     refine gE 7 hA rfl (.inr hI) (fun _=>r_shr hA rfl rfl (by decide)) fun a hA=>?_
     refine gE 9 hA rfl (.inr hI) (fun _=>r_mv hA rfl) fun a hA=>?_
     refine gE 10 hA rfl (.inr hI) (fun _=>r_sub hA rfl rfl) fun a hA=>?_
     obtain ⟨hb9,H⟩:=bG H
     refine gE 11 hA rfl (.inr hI) (fun _=>r_ixar1 U160 sz22 hA rfl rfl hb9.1 hb9.2) fun a hA=>?_
     refine gT 12 hA rfl hI (fun w hI=>r_ldE (j:=0) [] [] U22 rfl hI rfl hA rfl rfl (by omega)) fun a hA=>?_
     refine gE 14 hA rfl (.inr hI) (fun _=>r_mv hA rfl) fun a hA=>?_
     refine gE 16 hA rfl (.inr hI) (fun _=>r_mv hA rfl) fun a hA=>?_
     refine gE 19 hA rfl (.inr hI) (fun _=>r_mv hA rfl) fun a hA=>?_
     refine gE 20 hA rfl (.inr hI) (fun _=>r_shr hA rfl rfl (by decide)) fun a hA=>?_
     refine gE 23 hA rfl (.inr hI) (fun _=>r_mv hA rfl) fun a hA=>?_
     refine gE 24 hA rfl (.inr hI) (fun _=>r_sub hA rfl rfl) fun a hA=>?_
     obtain ⟨hb10,H⟩:=bG H
     refine gE 25 hA rfl (.inr hI) (fun _=>r_ixar1 U160 sz22 hA rfl rfl hb10.1 hb10.2) fun a hA=>?_
     refine gT 26 hA rfl hI (fun w hI=>r_ldE (j:=0) [] [] U22 rfl hI rfl hA rfl rfl (by omega)) fun a hA=>?_
     refine gF 2 rfl ?_
     obtain ⟨r1,hr2,H⟩:=bB H
     refine o_callp (u:=.int .u32 r1) cf134 hA rfl hI (digest_turn.c μ _ hI.agr (s2.getD (IntKind.i64.wrap (s1 - 2)).toNat 0) (arr_get ws2 _) 17 (in_lit .i64 17 rfl) r1 hr2) rfl fun a w hz4 hI hA=>?_
     refine o_nil<|⟨(.inr hI),?_⟩
     refine gF 4 rfl ?_
     obtain ⟨r2,hr3,H⟩:=bB H
     refine o_callp (u:=.int .u32 r2) cf134 hA rfl hI (digest_turn.c μ _ hI.agr (s2.getD (IntKind.i64.wrap (s1 - 2)).toNat 0) (arr_get ws2 _) 19 (in_lit .i64 19 rfl) r2 hr3) rfl fun a w hz5 hI hA=>?_
     refine o_nil<|⟨(.inr hI),?_⟩
     refine gE 5 hA rfl (.inr hI) (fun _=>r_xor hA rfl rfl) fun a hA=>?_
     refine gE 8 hA rfl (.inr hI) (fun _=>r_xor hA rfl rfl) fun a hA=>?_
     refine gE 13 hA rfl (.inr hI) (fun _=>r_add hA rfl rfl) fun a hA=>?_
     refine gF 15 rfl ?_
     obtain ⟨r3,hr4,H⟩:=bB H
     refine o_callp (u:=.int .u32 r3) cf134 hA rfl hI (digest_turn.c μ _ hI.agr (s2.getD (IntKind.i64.wrap (s1 - 15)).toNat 0) (arr_get ws2 _) 7 (in_lit .i64 7 rfl) r3 hr4) rfl fun a w hz6 hI hA=>?_
     refine o_nil<|⟨(.inr hI),?_⟩
     refine gF 17 rfl ?_
     obtain ⟨r4,hr5,H⟩:=bB H
     refine o_callp (u:=.int .u32 r4) cf134 hA rfl hI (digest_turn.c μ _ hI.agr (s2.getD (IntKind.i64.wrap (s1 - 15)).toNat 0) (arr_get ws2 _) 18 (in_lit .i64 18 rfl) r4 hr5) rfl fun a w hz7 hI hA=>?_
     refine o_nil<|⟨(.inr hI),?_⟩
     refine gE 18 hA rfl (.inr hI) (fun _=>r_xor hA rfl rfl) fun a hA=>?_
     refine gE 21 hA rfl (.inr hI) (fun _=>r_xor hA rfl rfl) fun a hA=>?_
     refine gE 22 hA rfl (.inr hI) (fun _=>r_add hA rfl rfl) fun a hA=>?_
     refine gE 27 hA rfl (.inr hI) (fun _=>r_add hA rfl rfl) fun a hA=>?_
     obtain ⟨hb11,H⟩:=bG H
     refine gE 28 hA rfl (.inr hI) (fun _=>r_ixar1 U160 sz22 hA rfl rfl hb11.1 hb11.2) fun a hA=>?_
     refine gF 29 rfl ?_
     refine o_stE (j:=0) [] [] sz22 ws2.1 hI rfl hA rfl rfl rfl (by omega) fun w hI=>?_
     refine o_nil<|⟨(.inl (by kernel_rfl)),?_⟩
     refine gN ?_
     cases sJ H
     exact ⟨(arr_set ws2 _ (wrap_in _ _)),hA.sub ⟨rfl,rfl,rfl,rfl,rfl,trivial⟩,hI⟩
   ·rintro a w ⟨wc2,hA,hI⟩
    have H:=Hk3
    refine w_reg<|stp hA (r_add hA rfl rfl) rfl fun a hA =>
     stm hA rfl rfl fun a hA=>?_
    refine o_nil<|⟨m1,lS _,IntKind.i64.wrap (s1+1),c2,H,(wrap_in _ _),wc2,hA.sub ⟨rfl,rfl,rfl,rfl,trivial⟩,hI⟩
  ·obtain ⟨hc1,H⟩:=dF H hc1
   refine w_exit rfl ?_
   have H:some s2=some z1:=H
   obtain rfl:=sI H
   have H:=Hk2
   cases sJ H
   exact ⟨ws2,hA.sub ⟨rfl,rfl,trivial⟩,hI⟩
 ·rintro a w ⟨wc1,hA,hI⟩
  have H:=Hk1
  refine w_seq fun _ hN12=>w_reg<|stp hA (r_ldA (j:=0) [] [av .u32 64 c1] [] U160 rfl sz160 rfl hI rfl hA rfl rfl) rfl fun a hA =>
   o_st (j:=1) [] [av .u32 64 (List.replicate 64 0)] [av .u32 64 c1] [] sz160 rfl rfl (fl_cons (one_av _ _ _) fl_nil) hI rfl hA rfl rfl rfl rfl fun w hI=>?_
  refine o_nil<|hN12 _ _<|w_ret ?_
  obtain rfl:=sJ H
  exact retc U160 rfl sz160 rfl hI (j:=1) rfl hA Tryz.results132 rfl ⟨_,rfl,rfl,wc1,hI.forget0⟩
theorem digest_keys.c (μ:Store)(w0:World)(hμ:Agr μ w0)(r:List Int)(H:digest_keys.f=some r) :
  Calls Tryz.prog 133 [].toArray w0 (fun e w'=>∃ v,e=.returned v∧v=.agg [av .u32 64 r].flatten.toArray∧Arr .u32 64 r∧Iv w0 [] μ μ [] w'):=by
 refine enter Tryz.func133 rfl Tryz.ntmps133 rfl fun a hA=>?_
 have hI:=Iv.start hμ
 have H:=bI H
 refine w_seq fun _ hN1=>w_reg<|o_new [av .u32 64 (List.replicate 64 0)] zr160 hI hA rfl fun g1 a w hA hI hg1=>?_
 refine o_nil<|hN1 _ _<|w_seq fun _ hN2=>w_reg<|stp hA (r_bldA (cs:=[av .u32 64 digest_keys.lit0].flatten.toArray) (pv:=numbered .u32 digest_keys.lit0) zr160 U160 sz22 hA (by kernel_rfl) (by kernel_rfl)) rfl fun a hA =>
  o_st (j:=0) [] [av .u32 64 (List.replicate 64 0)] [av .u32 64 digest_keys.lit0] [] sz160 rfl rfl (fl_cons (one_av _ _ _) fl_nil) hI rfl hA rfl rfl rfl rfl fun w hI=>?_
 refine o_nil<|hN2 _ _<|w_ret ?_
 obtain rfl:=sJ H
 exact retc U160 rfl sz160 rfl hI (j:=0) rfl hA Tryz.results133 rfl ⟨_,rfl,rfl,(arr_lit (by kernel_rfl) digest_keys.lit0_in),hI.forget0⟩
theorem digest_mix.c (μ:Store)(w0:World)(hμ:Agr μ w0)(x0:List Int)(hx0:Arr .u32 8 x0)(x1:List Int)(u1:Value)(hx1:Slc (RI .u8) 1 μ u1 x1)(r:List Int)(H:digest_mix.f x0 x1=some r) :
  Calls Tryz.prog 130 [.agg [av .u32 8 x0].flatten.toArray,u1].toArray w0 (fun e w'=>∃ v,e=.returned v∧v=.agg [av .u32 8 r].flatten.toArray∧Arr .u32 8 r∧Iv w0 [] μ μ [] w'):=by
 refine enter Tryz.func130 rfl Tryz.ntmps130 rfl fun a hA=>?_
 have hI:=Iv.start hμ
 have H:=bI H
 refine w_seq fun _ hN1=>w_reg<|o_box [av .u32 8 x0] hI hA rfl rfl rfl fun g1 a w hA hI hg1 =>
  o_new [av .u32 8 (List.replicate 8 0)] zr151 hI hA rfl fun g2 a w hA hI hg2=>?_
 refine o_nil<|hN1 _ _<|w_seq fun _ hN2=>w_reg<|stm hA rfl rfl fun a hA=>?_
 obtain ⟨r1,hr1,H⟩:=bB H
 refine o_callp (u:=.agg [av .u32 64 r1].flatten.toArray) cf132 hA rfl hI (digest_spread.c μ _ hI.agr x1 u1 hx1 r1 hr1) rfl fun a w hz1 hI hA=>?_
 obtain ⟨r2,hr2,H⟩:=bB H
 refine o_callp (u:=.agg [av .u32 64 r2].flatten.toArray) cf133 hA rfl hI (digest_keys.c μ _ hI.agr  r2 hr2) rfl fun a w hz2 hI hA =>
  o_new [av .u32 64 (List.replicate 64 0)] zr160 hI hA rfl fun g3 a w hA hI hg3 =>
  o_new [av .u32 64 (List.replicate 64 0)] zr160 hI hA rfl fun g4 a w hA hI hg4 =>
  o_st (j:=1) [] [av .u32 64 (List.replicate 64 0)] [av .u32 64 r1] [] sz160 rfl rfl (fl_cons (one_av _ _ _) fl_nil) hI rfl hA rfl rfl rfl rfl fun w hI =>
  o_st (j:=0) [] [av .u32 64 (List.replicate 64 0)] [av .u32 64 r2] [] sz160 rfl rfl (fl_cons (one_av _ _ _) fl_nil) hI rfl hA rfl rfl rfl rfl fun w hI=>?_
 refine o_nil<|hN2 _ _<|w_seq fun _ hN3=>w_reg<|stp hA (r_ldA (j:=3) [] [av .u32 8 x0] [] U151 rfl sz151 rfl hI rfl hA rfl rfl) rfl fun a hA =>
  o_new [av .u32 8 (List.replicate 8 0)] zr151 hI hA rfl fun g5 a w hA hI hg5 =>
  o_st (j:=0) [] [av .u32 8 (List.replicate 8 0)] [av .u32 8 x0] [] sz151 rfl rfl (fl_cons (one_av _ _ _) fl_nil) hI rfl hA rfl rfl rfl rfl fun w hI=>?_
 refine o_nil<|hN3 _ _ ?_
 obtain ⟨c1,hz3,Hk1⟩:=bB H
 refine w_cut (fun a w=>Arr .u32 8 c1∧Fr a 111 [(2,pt g1 0),(4,pt g2 0),(7,pt g5 0)]∧Iv w0 [] μ μ [cel g5 [av .u32 8 c1] 151,cel g4 [av .u32 64 r2] 160,cel g3 [av .u32 64 r1] 160,cel g2 [av .u32 8 (List.replicate 8 0)] 151,cel g1 [av .u32 8 x0] 151] w) ?_ ?_
 ·have H:=bI hz3
  refine w_seq fun _ hN4=>w_reg<|stm hA rfl rfl fun a hA=>?_
  refine o_nil<|hN4 _ _<|w_block ?_
  obtain ⟨z1,hz4,Hk2⟩:=bind_some H
  obtain ⟨n1,hn1⟩:=loopO_some hz4
  refine w_loop (fun n a w=>∃(s1:Int)(s2:List Int),loopN (digest_mix.s0 r1 r2) n (s1,s2)=some z1∧InR .i64 s1∧Arr .u32 8 s2∧Fr a 111 [(2,pt g1 0),(4,pt g2 0),(5,pt g3 0),(6,pt g4 0),(7,pt g5 0),(18,.int .i64 s1)]∧Iv w0 [] μ μ [cel g5 [av .u32 8 s2] 151,cel g4 [av .u32 64 r2] 160,cel g3 [av .u32 64 r1] 160,cel g2 [av .u32 8 (List.replicate 8 0)] 151,cel g1 [av .u32 8 x0] 151] w) n1 ⟨0,x0,hn1,(in_lit .i64 0 rfl),hx0,hA.sub ⟨rfl,rfl,rfl,rfl,rfl,rfl,trivial⟩,hI⟩ ?_
  clear hA hI
  rintro n a w ⟨s1,s2,hn1,ws1,ws2,hA,hI⟩
  obtain ⟨m1,rfl,H⟩:=loopN_bind hn1
  clear hn1
  refine w_seq fun _ hN5=>w_reg<|stp hA (r_lss hA rfl rfl) rfl fun a hA=>?_
  refine o_nil<|hN5 _ _<|w_seq fun _ hN6=>w_cond hA rfl (fun hc1=>?_) (fun hc1=>?_)
  ·obtain ⟨hc1,H⟩:=dT H hc1
   refine w_skip<|hN6 _ _<|w_seq fun _ hN7=>w_block<|w_seq fun _ hN8=>w_reg<|stm hA rfl rfl fun a hA =>
    sta hA rfl rfl fun a hA=>?_
   refine o_nil<|hN8 _ _<|w_seq fun _ hN9=>?_
   refine w_draw mo (by kernel_rfl) hI ?_
   refine qtp hA (fun _ hI=>r_ixar1 U151 sz22 hA rfl rfl (by decide) (by decide)) rfl fun a hA =>
    qtp hA (fun _ hI=>r_ldE (j:=0) [] [] U22 rfl hI rfl hA rfl rfl (by decide)) rfl fun a hA =>
    qtp hA (fun _ hI=>r_ixar1 U151 sz22 hA rfl rfl (by decide) (by decide)) rfl fun a hA =>
    qtp hA (fun _ hI=>r_ldE (j:=0) [] [] U22 rfl hI rfl hA rfl rfl (by decide)) rfl fun a hA =>
    qtp hA (fun _ hI=>r_as hA rfl) rfl fun a hA =>
    qtp hA (fun _ hI=>r_as hA rfl) rfl fun a hA=>?_
   refine q_nil fun w hI=>?_
   refine hN9 _ _<|w_seq fun _ hN10=>?_
   refine w_draw mo (by kernel_rfl) hI ?_
   refine qtp hA (fun _ hI=>r_ixar1 U151 sz22 hA rfl rfl (by decide) (by decide)) rfl fun a hA =>
    qtp hA (fun _ hI=>r_ldE (j:=0) [] [] U22 rfl hI rfl hA rfl rfl (by decide)) rfl fun a hA =>
    qtp hA (fun _ hI=>r_mv hA rfl) rfl fun a hA=>?_
   obtain ⟨r3,hr3,H⟩:=bB H
   refine qcall (v:=.int .u32 r3) cf134 hA rfl (fun _ hI=>plq (digest_turn.c μ _ hI.agr (s2.getD (4:Int).toNat 0) (arr_get ws2 _) 6 (in_lit .i64 6 rfl) r3 hr3) hI) rfl fun a hA =>
    qtp hA (fun _ hI=>r_mv hA rfl) rfl fun a hA=>?_
   obtain ⟨r4,hr4,H⟩:=bB H
   refine qcall (v:=.int .u32 r4) cf134 hA rfl (fun _ hI=>plq (digest_turn.c μ _ hI.agr (s2.getD (4:Int).toNat 0) (arr_get ws2 _) 11 (in_lit .i64 11 rfl) r4 hr4) hI) rfl fun a hA =>
    qtp hA (fun _ hI=>r_xor hA rfl rfl) rfl fun a hA =>
    qtp hA (fun _ hI=>r_mv hA rfl) rfl fun a hA=>?_
   obtain ⟨r5,hr5,H⟩:=bB H
   refine qcall (v:=.int .u32 r5) cf134 hA rfl (fun _ hI=>plq (digest_turn.c μ _ hI.agr (s2.getD (4:Int).toNat 0) (arr_get ws2 _) 25 (in_lit .i64 25 rfl) r5 hr5) hI) rfl fun a hA =>
    qtp hA (fun _ hI=>r_xor hA rfl rfl) rfl fun a hA =>
    qtp hA (fun _ hI=>r_add hA rfl rfl) rfl fun a hA =>
    qtp hA (fun _ hI=>r_mv hA rfl) rfl fun a hA =>
    qtp hA (fun _ hI=>r_ixar1 U151 sz22 hA rfl rfl (by decide) (by decide)) rfl fun a hA =>
    qtp hA (fun _ hI=>r_ldE (j:=0) [] [] U22 rfl hI rfl hA rfl rfl (by decide)) rfl fun a hA =>
    qtp hA (fun _ hI=>r_and hA rfl rfl) rfl fun a hA =>
    qtp hA (fun _ hI=>r_mv hA rfl) rfl fun a hA =>
    qtp hA (fun _ hI=>r_inv hA rfl) rfl fun a hA =>
    qtp hA (fun _ hI=>r_ixar1 U151 sz22 hA rfl rfl (by decide) (by decide)) rfl fun a hA =>
    qtp hA (fun _ hI=>r_ldE (j:=0) [] [] U22 rfl hI rfl hA rfl rfl (by decide)) rfl fun a hA =>
    qtp hA (fun _ hI=>r_and hA rfl rfl) rfl fun a hA =>
    qtp hA (fun _ hI=>r_xor hA rfl rfl) rfl fun a hA =>
    qtp hA (fun _ hI=>r_add hA rfl rfl) rfl fun a hA =>
    qtp hA (fun _ hI=>r_mv hA rfl) rfl fun a hA=>?_
   obtain ⟨hb1,H⟩:=bG H
   refine qtp hA (fun _ hI=>r_ixar1 U160 sz22 hA rfl rfl hb1.1 hb1.2) rfl fun a hA =>
    qtp hA (fun _ hI=>r_ldE (j:=1) [] [] U22 rfl hI rfl hA rfl rfl (by omega)) rfl fun a hA =>
    qtp hA (fun _ hI=>r_add hA rfl rfl) rfl fun a hA =>
    qtp hA (fun _ hI=>r_mv hA rfl) rfl fun a hA =>
    qtp hA (fun _ hI=>r_ixar1 U160 sz22 hA rfl rfl hb1.1 hb1.2) rfl fun a hA =>
    qtp hA (fun _ hI=>r_ldE (j:=2) [] [] U22 rfl hI rfl hA rfl rfl (by omega)) rfl fun a hA =>
    qtp hA (fun _ hI=>r_add hA rfl rfl) rfl fun a hA =>
    qtp hA (fun _ hI=>r_as hA rfl) rfl fun a hA=>?_
   refine q_nil fun w hI=>?_
   refine hN10 _ _<|w_seq fun _ hN11=>?_
   refine w_draw mo (by kernel_rfl) hI ?_
   refine qtp hA (fun _ hI=>r_mv hA rfl) rfl fun a hA=>?_
   obtain ⟨r6,hr6,H⟩:=bB H
   refine qcall (v:=.int .u32 r6) cf134 hA rfl (fun _ hI=>plq (digest_turn.c μ _ hI.agr (s2.getD (0:Int).toNat 0) (arr_get ws2 _) 2 (in_lit .i64 2 rfl) r6 hr6) hI) rfl fun a hA =>
    qtp hA (fun _ hI=>r_mv hA rfl) rfl fun a hA=>?_
   obtain ⟨r7,hr7,H⟩:=bB H
   refine qcall (v:=.int .u32 r7) cf134 hA rfl (fun _ hI=>plq (digest_turn.c μ _ hI.agr (s2.getD (0:Int).toNat 0) (arr_get ws2 _) 13 (in_lit .i64 13 rfl) r7 hr7) hI) rfl fun a hA =>
    qtp hA (fun _ hI=>r_xor hA rfl rfl) rfl fun a hA =>
    qtp hA (fun _ hI=>r_mv hA rfl) rfl fun a hA=>?_
   obtain ⟨r8,hr8,H⟩:=bB H
   refine qcall (v:=.int .u32 r8) cf134 hA rfl (fun _ hI=>plq (digest_turn.c μ _ hI.agr (s2.getD (0:Int).toNat 0) (arr_get ws2 _) 22 (in_lit .i64 22 rfl) r8 hr8) hI) rfl fun a hA =>
    qtp hA (fun _ hI=>r_xor hA rfl rfl) rfl fun a hA =>
    qtp hA (fun _ hI=>r_mv hA rfl) rfl fun a hA =>
    qtp hA (fun _ hI=>r_ixar1 U151 sz22 hA rfl rfl (by decide) (by decide)) rfl fun a hA =>
    qtp hA (fun _ hI=>r_ldE (j:=0) [] [] U22 rfl hI rfl hA rfl rfl (by decide)) rfl fun a hA =>
    qtp hA (fun _ hI=>r_and hA rfl rfl) rfl fun a hA =>
    qtp hA (fun _ hI=>r_mv hA rfl) rfl fun a hA =>
    qtp hA (fun _ hI=>r_ixar1 U151 sz22 hA rfl rfl (by decide) (by decide)) rfl fun a hA =>
    qtp hA (fun _ hI=>r_ldE (j:=0) [] [] U22 rfl hI rfl hA rfl rfl (by decide)) rfl fun a hA =>
    qtp hA (fun _ hI=>r_and hA rfl rfl) rfl fun a hA =>
    qtp hA (fun _ hI=>r_xor hA rfl rfl) rfl fun a hA =>
    qtp hA (fun _ hI=>r_ixar1 U151 sz22 hA rfl rfl (by decide) (by decide)) rfl fun a hA =>
    qtp hA (fun _ hI=>r_ldE (j:=0) [] [] U22 rfl hI rfl hA rfl rfl (by decide)) rfl fun a hA =>
    qtp hA (fun _ hI=>r_ixar1 U151 sz22 hA rfl rfl (by decide) (by decide)) rfl fun a hA =>
    qtp hA (fun _ hI=>r_ldE (j:=0) [] [] U22 rfl hI rfl hA rfl rfl (by decide)) rfl fun a hA =>
    qtp hA (fun _ hI=>r_and hA rfl rfl) rfl fun a hA =>
    qtp hA (fun _ hI=>r_xor hA rfl rfl) rfl fun a hA =>
    qtp hA (fun _ hI=>r_add hA rfl rfl) rfl fun a hA =>
    qtp hA (fun _ hI=>r_as hA rfl) rfl fun a hA=>?_
   refine q_nil fun w hI=>?_
   refine hN11 _ _<|w_reg<|stm hA rfl rfl fun a hA =>
    stm hA rfl rfl fun a hA =>
    stp hA (r_add hA rfl rfl) rfl fun a hA =>
    stm hA rfl rfl fun a hA =>
    stp hA (r_ixar1 U151 sz22 hA rfl rfl (by decide) (by decide)) rfl fun a hA =>
    stp hA (r_ldE (j:=0) [] [] U22 rfl hI rfl hA rfl rfl (by decide)) rfl fun a hA =>
    stp hA (r_ixar1 U151 sz22 hA rfl rfl (by decide) (by decide)) rfl fun a hA =>
    stp hA (r_ldE (j:=0) [] [] U22 rfl hI rfl hA rfl rfl (by decide)) rfl fun a hA =>
    stp hA (r_ixar1 U151 sz22 hA rfl rfl (by decide) (by decide)) rfl fun a hA =>
    stp hA (r_ldE (j:=0) [] [] U22 rfl hI rfl hA rfl rfl (by decide)) rfl fun a hA =>
    stm hA rfl rfl fun a hA =>
    stp hA (r_add hA rfl rfl) rfl fun a hA =>
    stm hA rfl rfl fun a hA =>
    stp hA (r_ixar1 U151 sz22 hA rfl rfl (by decide) (by decide)) rfl fun a hA =>
    stp hA (r_ldE (j:=0) [] [] U22 rfl hI rfl hA rfl rfl (by decide)) rfl fun a hA =>
    stp hA (r_ixar1 U151 sz22 hA rfl rfl (by decide) (by decide)) rfl fun a hA =>
    stp hA (r_ldE (j:=0) [] [] U22 rfl hI rfl hA rfl rfl (by decide)) rfl fun a hA =>
    stp hA (r_bldA (cs:=[av .u32 8 ([IntKind.u32.wrap ((IntKind.u32.wrap ((IntKind.u32.wrap ((IntKind.u32.wrap ((IntKind.u32.wrap ((s2.getD (7:Int).toNat 0)+(bXor .u32 (bXor .u32 r3 r4) r5)))+(bXor .u32 (bAnd .u32 (s2.getD (4:Int).toNat 0) (s2.getD (5:Int).toNat 0)) (bAnd .u32 (bNot .u32 (s2.getD (4:Int).toNat 0)) (s2.getD (6:Int).toNat 0)))))+(r2.getD s1.toNat 0)))+(r1.getD s1.toNat 0)))+(IntKind.u32.wrap ((bXor .u32 (bXor .u32 r6 r7) r8)+(bXor .u32 (bXor .u32 (bAnd .u32 (s2.getD (0:Int).toNat 0) (s2.getD (1:Int).toNat 0)) (bAnd .u32 (s2.getD (0:Int).toNat 0) (s2.getD (2:Int).toNat 0))) (bAnd .u32 (s2.getD (1:Int).toNat 0) (s2.getD (2:Int).toNat 0)))))),s2.getD (0:Int).toNat 0,s2.getD (1:Int).toNat 0,s2.getD (2:Int).toNat 0,IntKind.u32.wrap ((s2.getD (3:Int).toNat 0)+(IntKind.u32.wrap ((IntKind.u32.wrap ((IntKind.u32.wrap ((IntKind.u32.wrap ((s2.getD (7:Int).toNat 0)+(bXor .u32 (bXor .u32 r3 r4) r5)))+(bXor .u32 (bAnd .u32 (s2.getD (4:Int).toNat 0) (s2.getD (5:Int).toNat 0)) (bAnd .u32 (bNot .u32 (s2.getD (4:Int).toNat 0)) (s2.getD (6:Int).toNat 0)))))+(r2.getD s1.toNat 0)))+(r1.getD s1.toNat 0)))),s2.getD (4:Int).toNat 0,s2.getD (5:Int).toNat 0,s2.getD (6:Int).toNat 0])].flatten.toArray) zr151 U151 sz22 hA rfl (by kernel_rfl)) rfl fun a hA =>
    o_st (j:=0) [] [av .u32 8 s2] [av .u32 8 ([IntKind.u32.wrap ((IntKind.u32.wrap ((IntKind.u32.wrap ((IntKind.u32.wrap ((IntKind.u32.wrap ((s2.getD (7:Int).toNat 0)+(bXor .u32 (bXor .u32 r3 r4) r5)))+(bXor .u32 (bAnd .u32 (s2.getD (4:Int).toNat 0) (s2.getD (5:Int).toNat 0)) (bAnd .u32 (bNot .u32 (s2.getD (4:Int).toNat 0)) (s2.getD (6:Int).toNat 0)))))+(r2.getD s1.toNat 0)))+(r1.getD s1.toNat 0)))+(IntKind.u32.wrap ((bXor .u32 (bXor .u32 r6 r7) r8)+(bXor .u32 (bXor .u32 (bAnd .u32 (s2.getD (0:Int).toNat 0) (s2.getD (1:Int).toNat 0)) (bAnd .u32 (s2.getD (0:Int).toNat 0) (s2.getD (2:Int).toNat 0))) (bAnd .u32 (s2.getD (1:Int).toNat 0) (s2.getD (2:Int).toNat 0)))))),s2.getD (0:Int).toNat 0,s2.getD (1:Int).toNat 0,s2.getD (2:Int).toNat 0,IntKind.u32.wrap ((s2.getD (3:Int).toNat 0)+(IntKind.u32.wrap ((IntKind.u32.wrap ((IntKind.u32.wrap ((IntKind.u32.wrap ((s2.getD (7:Int).toNat 0)+(bXor .u32 (bXor .u32 r3 r4) r5)))+(bXor .u32 (bAnd .u32 (s2.getD (4:Int).toNat 0) (s2.getD (5:Int).toNat 0)) (bAnd .u32 (bNot .u32 (s2.getD (4:Int).toNat 0)) (s2.getD (6:Int).toNat 0)))))+(r2.getD s1.toNat 0)))+(r1.getD s1.toNat 0)))),s2.getD (4:Int).toNat 0,s2.getD (5:Int).toNat 0,s2.getD (6:Int).toNat 0])] [] sz151 rfl rfl (fl_cons (one_av _ _ _) fl_nil) hI rfl hA rfl rfl rfl rfl fun w hI=>?_
   refine o_nil<|hN7 _ _<|w_reg<|stp hA (r_add hA rfl rfl) rfl fun a hA =>
    stm hA rfl rfl fun a hA=>?_
   refine o_nil<|⟨m1,lS _,IntKind.i64.wrap (s1+1),[IntKind.u32.wrap ((IntKind.u32.wrap ((IntKind.u32.wrap ((IntKind.u32.wrap ((IntKind.u32.wrap ((s2.getD (7:Int).toNat 0)+(bXor .u32 (bXor .u32 r3 r4) r5)))+(bXor .u32 (bAnd .u32 (s2.getD (4:Int).toNat 0) (s2.getD (5:Int).toNat 0)) (bAnd .u32 (bNot .u32 (s2.getD (4:Int).toNat 0)) (s2.getD (6:Int).toNat 0)))))+(r2.getD s1.toNat 0)))+(r1.getD s1.toNat 0)))+(IntKind.u32.wrap ((bXor .u32 (bXor .u32 r6 r7) r8)+(bXor .u32 (bXor .u32 (bAnd .u32 (s2.getD (0:Int).toNat 0) (s2.getD (1:Int).toNat 0)) (bAnd .u32 (s2.getD (0:Int).toNat 0) (s2.getD (2:Int).toNat 0))) (bAnd .u32 (s2.getD (1:Int).toNat 0) (s2.getD (2:Int).toNat 0)))))),s2.getD (0:Int).toNat 0,s2.getD (1:Int).toNat 0,s2.getD (2:Int).toNat 0,IntKind.u32.wrap ((s2.getD (3:Int).toNat 0)+(IntKind.u32.wrap ((IntKind.u32.wrap ((IntKind.u32.wrap ((IntKind.u32.wrap ((s2.getD (7:Int).toNat 0)+(bXor .u32 (bXor .u32 r3 r4) r5)))+(bXor .u32 (bAnd .u32 (s2.getD (4:Int).toNat 0) (s2.getD (5:Int).toNat 0)) (bAnd .u32 (bNot .u32 (s2.getD (4:Int).toNat 0)) (s2.getD (6:Int).toNat 0)))))+(r2.getD s1.toNat 0)))+(r1.getD s1.toNat 0)))),s2.getD (4:Int).toNat 0,s2.getD (5:Int).toNat 0,s2.getD (6:Int).toNat 0],H,(wrap_in _ _),(arr_lit rfl (by simp only [List.forall_mem_cons];exact ⟨(wrap_in _ _),(arr_get ws2 _),(arr_get ws2 _),(arr_get ws2 _),(wrap_in _ _),(arr_get ws2 _),(arr_get ws2 _),(arr_get ws2 _),by simp⟩)),hA.sub ⟨rfl,rfl,rfl,rfl,rfl,rfl,trivial⟩,hI⟩
  ·obtain ⟨hc1,H⟩:=dF H hc1
   refine w_exit rfl ?_
   have H:some s2=some z1:=H
   obtain rfl:=sI H
   have H:=Hk2
   cases sJ H
   exact ⟨ws2,hA.sub ⟨rfl,rfl,rfl,trivial⟩,hI⟩
 ·rintro a w ⟨wc1,hA,hI⟩
  have H:=Hk1
  obtain ⟨c2,hz11,Hk3⟩:=bB H
  refine w_cut (fun a w=>Arr .u32 8 c2∧Fr a 111 [(2,pt g1 0),(4,pt g2 0)]∧Iv w0 [] μ μ [cel g5 [av .u32 8 c1] 151,cel g4 [av .u32 64 r2] 160,cel g3 [av .u32 64 r1] 160,cel g2 [av .u32 8 (List.replicate 8 0)] 151,cel g1 [av .u32 8 c2] 151] w) ?_ ?_
  ·have H:=bI hz11
   refine w_seq fun _ hN12=>w_reg<|stm hA rfl rfl fun a hA=>?_
   refine o_nil<|hN12 _ _<|w_block ?_
   obtain ⟨z2,hz12,Hk4⟩:=bind_some H
   obtain ⟨n2,hn2⟩:=loopO_some hz12
   refine w_loop (fun n a w=>∃(s3:Int)(s4:List Int),loopN (digest_mix.s1 c1) n (s3,s4)=some z2∧InR .i64 s3∧Arr .u32 8 s4∧Fr a 111 [(2,pt g1 0),(4,pt g2 0),(7,pt g5 0),(98,.int .i64 s3)]∧Iv w0 [] μ μ [cel g5 [av .u32 8 c1] 151,cel g4 [av .u32 64 r2] 160,cel g3 [av .u32 64 r1] 160,cel g2 [av .u32 8 (List.replicate 8 0)] 151,cel g1 [av .u32 8 s4] 151] w) n2 ⟨0,x0,hn2,(in_lit .i64 0 rfl),hx0,hA.sub ⟨rfl,rfl,rfl,rfl,trivial⟩,hI⟩ ?_
   clear hA hI
   rintro n a w ⟨s3,s4,hn2,ws3,ws4,hA,hI⟩
   obtain ⟨m2,rfl,H⟩:=loopN_bind hn2
   clear hn2
   refine w_seq fun _ hN13=>w_reg<|stp hA (r_lss hA rfl rfl) rfl fun a hA=>?_
   refine o_nil<|hN13 _ _<|w_seq fun _ hN14=>w_cond hA rfl (fun hc2=>?_) (fun hc2=>?_)
   ·obtain ⟨hc2,H⟩:=dT H hc2
    refine w_skip<|hN14 _ _<|w_seq fun _ hN15=>w_block<|w_seq fun _ hN16=>w_reg<|stm hA rfl rfl fun a hA =>
     sta hA rfl rfl fun a hA=>?_
    refine o_nil<|hN16 _ _ ?_
    refine w_any [8] mo hI fun w hI=>?_
    refine gE 0 hA rfl (.inr hI) (fun _=>r_mv hA rfl) fun a hA=>?_
    obtain ⟨hb2,H⟩:=bG H
    refine gE 1 hA rfl (.inr hI) (fun _=>r_ixar1 U151 sz22 hA rfl rfl hb2.1 hb2.2) fun a hA=>?_
    refine gT 2 hA rfl hI (fun w hI=>r_ldE (j:=4) [] [] U22 rfl hI rfl hA rfl rfl (by omega)) fun a hA=>?_
    refine gE 3 hA rfl (.inr hI) (fun _=>r_mv hA rfl) fun a hA=>?_
    refine gE 4 hA rfl (.inr hI) (fun _=>r_ixar1 U151 sz22 hA rfl rfl hb2.1 hb2.2) fun a hA=>?_
    refine gT 5 hA rfl hI (fun w hI=>r_ldE (j:=0) [] [] U22 rfl hI rfl hA rfl rfl (by omega)) fun a hA=>?_
    refine gE 6 hA rfl (.inr hI) (fun _=>r_add hA rfl rfl) fun a hA=>?_
    refine gE 7 hA rfl (.inr hI) (fun _=>r_ixar1 U151 sz22 hA rfl rfl hb2.1 hb2.2) fun a hA=>?_
    refine gF 8 rfl ?_
    refine o_stE (j:=4) [] [] sz22 ws4.1 hI rfl hA rfl rfl rfl (by omega) fun w hI=>?_
    refine o_nil<|⟨(.inl (by kernel_rfl)),?_⟩
    refine gN<|hN15 _ _<|w_reg<|stp hA (r_add hA rfl rfl) rfl fun a hA =>
     stm hA rfl rfl fun a hA=>?_
    refine o_nil<|⟨m2,lS _,IntKind.i64.wrap (s3+1),s4.set s3.toNat (IntKind.u32.wrap ((s4.getD s3.toNat 0)+(c1.getD s3.toNat 0))),H,(wrap_in _ _),(arr_set ws4 _ (wrap_in _ _)),hA.sub ⟨rfl,rfl,rfl,rfl,trivial⟩,hI⟩
   ·obtain ⟨hc2,H⟩:=dF H hc2
    refine w_exit rfl ?_
    have H:some s4=some z2:=H
    obtain rfl:=sI H
    have H:=Hk4
    cases sJ H
    exact ⟨ws4,hA.sub ⟨rfl,rfl,trivial⟩,hI⟩
  ·rintro a w ⟨wc2,hA,hI⟩
   have H:=Hk3
   refine w_seq fun _ hN17=>w_reg<|stp hA (r_ldA (j:=4) [] [av .u32 8 c2] [] U151 rfl sz151 rfl hI rfl hA rfl rfl) rfl fun a hA =>
    o_st (j:=3) [] [av .u32 8 (List.replicate 8 0)] [av .u32 8 c2] [] sz151 rfl rfl (fl_cons (one_av _ _ _) fl_nil) hI rfl hA rfl rfl rfl rfl fun w hI=>?_
   refine o_nil<|hN17 _ _<|w_ret ?_
   obtain rfl:=sJ H
   exact retc U151 rfl sz151 rfl hI (j:=3) rfl hA Tryz.results130 rfl ⟨_,rfl,rfl,wc2,hI.forget0⟩
theorem dW_Write.c (μ:Store)(w0:World)(hμ:Agr μ w0)(x0:dWr)(vp1:Value)(cp1:List Value)(g0:Nat)(hp1:Arr .u32 8 x0.s)(hp2:Els (RI .u8) 1 x0.rest cp1)(hp3:InR .i64 x0.n)(ho0:Its μ w0 [cel g0 [av .u32 8 x0.s,[vp1],[.int .i64 x0.n]] 153,row 5 1 vp1 x0.rest.length cp1])(x1:List Int)(u1:Value)(hx1:Slc (RI .u8) 1 μ u1 x1)(r:dWr)(H:dW_Write.f x0 x1=some r) :
  Calls Tryz.prog 123 [pt g0 0,u1].toArray w0 (fun e w'=>∃ v,e=.returned v∧∃(vp_1:Value)(cp_1:List Value),v=.tuple #[]∧Arr .u32 8 r.s∧Els (RI .u8) 1 r.rest cp_1∧InR .i64 r.n∧Iv w0 (many [cel g0 [av .u32 8 x0.s,[vp1],[.int .i64 x0.n]] 153,row 5 1 vp1 x0.rest.length cp1]).foot μ μ [cel g0 [av .u32 8 r.s,[vp_1],[.int .i64 r.n]] 153,row 5 1 vp_1 r.rest.length cp_1] w'):=by
 refine enter Tryz.func123 rfl Tryz.ntmps123 rfl fun a hA=>?_
 have hI:=Iv.startN hμ ho0
 have H:=bI H
 refine w_seq fun _ hN1=>w_reg<|stm hA rfl rfl fun a hA=>?_
 obtain ⟨r1,hr1,H⟩:=bB H
 refine o_call _ cf129 hA rfl (dW_state.c μ _ hI.agr (⟨x0.s,x0.rest,x0.n⟩:dWr) vp1 cp1 g0 hp1 hp2 hp3 (hI.handN 2) r1 hr1) rfl fun v1 a w hz1 hA=>?_
 obtain ⟨rfl,hw1,hi1⟩:=hz1
 have hI:=hI.back2 hi1
 refine o_new [av .u32 8 (List.replicate 8 0)] zr151 hI hA rfl fun g1 a w hA hI hg1 =>
  o_st (j:=0) [] [av .u32 8 (List.replicate 8 0)] [av .u32 8 r1] [] sz151 rfl rfl (fl_cons (one_av _ _ _) fl_nil) hI rfl hA rfl rfl rfl rfl fun w hI=>?_
 refine o_nil<|hN1 _ _<|w_seq fun _ hN2=>w_reg<|stm hA rfl rfl fun a hA =>
  stp hA (r_nilc hA rfl) rfl fun a hA =>
  stp hA (r_fd (k:=9) U153 rfl sz2 hA rfl rfl) rfl fun a hA =>
  stp hA (r_ld1 (j:=1) [av .u32 8 x0.s,[vp1]] [] U2 rfl hI rfl hA rfl rfl) rfl fun a hA =>
  stm hA rfl rfl fun a hA=>?_
 obtain ⟨_,hsl1⟩:=Slc.sv hx1
 refine stp hA (r_slen U30 hsl1 hA rfl) rfl fun a hA =>
  stp hA (r_add hA rfl rfl) rfl fun a hA =>
  stp hA (r_nilc hA rfl) rfl fun a hA =>
  stp hA (r_fd (k:=9) U153 rfl sz2 hA rfl rfl) rfl fun a hA =>
  o_st (j:=1) [av .u32 8 x0.s,[vp1]] [[.int .i64 x0.n]] [[.int .i64 (IntKind.i64.wrap (x0.n+(x1.length:Int)))]] [] sz2 rfl rfl (fO rfl fl_nil) hI rfl hA rfl rfl rfl rfl fun w hI=>?_
 refine o_nil<|hN2 _ _<|w_seq fun _ hN3=>w_reg<|stm hA rfl rfl fun a hA =>
  stm hA rfl rfl fun a hA =>
  stp hA (r_nilc hA rfl) rfl fun a hA =>
  stp hA (r_fd (k:=8) U153 rfl sz30 hA rfl rfl) rfl fun a hA =>
  stp hA (r_ld1 (j:=1) [av .u32 8 x0.s] [[.int .i64 (IntKind.i64.wrap (x0.n+(x1.length:Int)))]] U30 rfl hI rfl hA rfl rfl) rfl fun a hA =>
  stm hA rfl rfl fun a hA=>?_
 obtain ⟨cs1,hE1,hsv1⟩:Slc (RI .u8) 1 μ u1 x1:=id (hx1)
 obtain ⟨hb1,H⟩:=bG H
 have hE2:=hp2.app hE1
 refine o_appG (xs:=(x0.rest:List Int)) (ys:=(x1:List Int)) (M:=140737488355328) 2 te5 U30 hI rfl hA rfl rfl (src_sl hI.agr hsv1 hE1.len) hE1.len (hE1.ones (one_RI _)) hb1 rfl fun v2 a w hA hI =>
  stp hA (r_nilc hA rfl) rfl fun a hA =>
  stp hA (r_fd (k:=8) U153 rfl sz30 hA rfl rfl) rfl fun a hA=>?_
 have hone:=own_one hI (j:=2) rfl
 have hcel:=own_cell hI (j:=2) rfl
 refine o_st (j:=1) [av .u32 8 x0.s] [[vp1]] [[v2]] [[.int .i64 (IntKind.i64.wrap (x0.n+(x1.length:Int)))]] sz30 rfl rfl (by intro c hc;simp at hc;subst hc;exact hone) hI rfl hA rfl rfl hcel rfl fun w hI=>?_
 refine o_nil<|hN3 _ _<|w_seq fun _ hN4=>w_reg<|sta hA rfl rfl fun a hA=>?_
 refine o_nil<|hN4 _ _ ?_
 obtain ⟨⟨c1,c2,c3⟩,hz2,Hk1⟩:=bB H
 refine w_cut (fun a w=>∃(μ1:Store)(vvc3:Value),μ.le μ1∧InR .i64 c1∧Arr .u32 8 c2∧Slc (RI .u8) 1 μ1 vvc3 c3∧Fr a 60 [(0,pt g0 0),(4,pt g1 0),(5,.int .i64 c1)]∧Iv w0 (many [cel g0 [av .u32 8 x0.s,[vp1],[.int .i64 x0.n]] 153,row 5 1 vp1 x0.rest.length cp1]).foot μ μ1 [cel g1 [av .u32 8 c2] 151,cel g0 [av .u32 8 x0.s,[vvc3],[.int .i64 (IntKind.i64.wrap (x0.n+(x1.length:Int)))]] 153] w) ?_ ?_
 ·have H:=bI hz2
  refine w_block ?_
  obtain ⟨μ2,hle2,hsv2,hI⟩:=hI.freezeRow 2 rfl
  have hS1:Slc (RI .u8) 1 μ2 v2 (x0.rest++x1):=⟨_,hE2,hsv2⟩
  obtain ⟨z1,hz3,Hk2⟩:=bind_some H
  obtain ⟨n1,hn1⟩:=loopO_some hz3
  refine w_loop (fun n a w=>∃(s1:Int)(s2 s3:List Int)(μ3:Store)(vvs3:Value),loopN (dW_Write.s0) n (s1,s2,s3)=some z1∧μ2.le μ3∧InR .i64 s1∧Arr .u32 8 s2∧Slc (RI .u8) 1 μ3 vvs3 s3∧Fr a 60 [(0,pt g0 0),(4,pt g1 0),(5,.int .i64 s1)]∧Iv w0 (many [cel g0 [av .u32 8 x0.s,[vp1],[.int .i64 x0.n]] 153,row 5 1 vp1 x0.rest.length cp1]).foot μ μ3 [cel g1 [av .u32 8 s2] 151,cel g0 [av .u32 8 x0.s,[vvs3],[.int .i64 (IntKind.i64.wrap (x0.n+(x1.length:Int)))]] 153] w) n1 ⟨0,r1,x0.rest++x1,μ2,v2,hn1,(Store.le.refl _),(in_lit .i64 0 rfl),hw1,hS1,hA.sub ⟨rfl,rfl,rfl,trivial⟩,hI⟩ ?_
  clear hA hI
  rintro n a w ⟨s1,s2,s3,μ3,vvs3,hn1,hle3,ws1,ws2,ws3,hA,hI⟩
  obtain ⟨m1,rfl,H⟩:=loopN_bind hn1
  clear hn1
  refine w_seq fun _ hN5=>w_seq fun _ hN6=>w_reg<|stm hA rfl rfl fun a hA =>
   stp hA (r_add hA rfl rfl) rfl fun a hA =>
   stm hA rfl rfl fun a hA =>
   stp hA (r_nilc hA rfl) rfl fun a hA =>
   stp hA (r_fd (k:=8) U153 rfl sz30 hA rfl rfl) rfl fun a hA =>
   stp hA (r_ld1 (j:=1) [av .u32 8 x0.s] [[.int .i64 (IntKind.i64.wrap (x0.n+(x1.length:Int)))]] U30 rfl hI rfl hA rfl rfl) rfl fun a hA=>?_
  obtain ⟨_,hsl2⟩:=Slc.sv ws3
  refine stp hA (r_slen U30 hsl2 hA rfl) rfl fun a hA =>
   stp hA (r_leq hA rfl rfl) rfl fun a hA=>?_
  refine o_nil<|hN6 _ _<|w_cond hA rfl (fun hc1=>?_) (fun hc1=>?_)
  ·obtain ⟨hc1,H⟩:=dT H hc1
   refine w_skip<|hN5 _ _<|w_seq fun _ hN7=>w_block ?_
   refine w_any [10] mo hI fun w hI=>?_
   refine gT 0 hA rfl hI (fun w hI=>r_ldA (j:=0) [] [av .u32 8 s2] [] U151 rfl sz151 rfl hI rfl hA rfl rfl) fun a hA=>?_
   refine gE 1 hA rfl (.inr hI) (fun _=>r_mv hA rfl) fun a hA=>?_
   refine gE 2 hA rfl (.inr hI) (fun _=>r_nilc hA rfl) fun a hA=>?_
   refine gE 3 hA rfl (.inr hI) (fun _=>r_fd (k:=8) U153 rfl sz30 hA rfl rfl) fun a hA=>?_
   refine gT 4 hA rfl hI (fun w hI=>r_ld1 (j:=1) [av .u32 8 x0.s] [[.int .i64 (IntKind.i64.wrap (x0.n+(x1.length:Int)))]] U30 rfl hI rfl hA rfl rfl) fun a hA=>?_
   refine gE 5 hA rfl (.inr hI) (fun _=>r_mv hA rfl) fun a hA=>?_
   refine gE 6 hA rfl (.inr hI) (fun _=>r_mv hA rfl) fun a hA=>?_
   refine gE 7 hA rfl (.inr hI) (fun _=>r_add hA rfl rfl) fun a hA=>?_
   obtain ⟨hb2,H⟩:=bG H
   obtain ⟨v3,hS2,hr2⟩:=r_sl (P:=Tryz.prog) (t:=30) (x:=.tmp 40) (l:=(some (.tmp 41))) (h:=(some (.tmp 43))) (i:=s1) (j:=IntKind.i64.wrap (s1+64)) U30 sz5 ws3 hA rfl rfl rfl (by have hq:=hb2;omega) (by have hq:=hb2;omega) (by have hq:=hb2;omega)
   refine gE 8 hA rfl (.inr hI) (fun _=>hr2 _ _ _ _ _ _) fun a hA=>?_
   refine gF 9 rfl ?_
   obtain ⟨r2,hr3,H⟩:=bB H
   refine o_callp (u:=.agg [av .u32 8 r2].flatten.toArray) cf130 hA rfl hI (digest_mix.c μ3 _ hI.agr s2 ws2 ((s3.take (IntKind.i64.wrap (s1+64)).toNat).drop (s1).toNat) v3 hS2 r2 hr3) rfl fun a w hz4 hI hA=>?_
   refine o_nil<|⟨(.inr hI),?_⟩
   refine gF 10 rfl ?_
   refine o_st (j:=0) [] [av .u32 8 s2] [av .u32 8 r2] [] sz151 rfl rfl (fl_cons (one_av _ _ _) fl_nil) hI rfl hA rfl rfl rfl rfl fun w hI=>?_
   refine o_nil<|⟨(.inl (by kernel_rfl)),?_⟩
   refine gN<|hN7 _ _<|w_reg<|stm hA rfl rfl fun a hA =>
    stp hA (r_add hA rfl rfl) rfl fun a hA =>
    sta hA rfl rfl fun a hA=>?_
   refine o_nil<|⟨m1,lS _,IntKind.i64.wrap (s1+64),r2,s3,μ3,vvs3,H,hle3,(wrap_in _ _),hz4,ws3,hA.sub ⟨rfl,rfl,rfl,trivial⟩,hI⟩
  ·obtain ⟨hc1,H⟩:=dF H hc1
   refine w_exit rfl ?_
   have H:some (s1,s2,s3)=some z1:=H
   obtain rfl:=sI H
   have H:=Hk2
   cases sJ H
   exact ⟨μ3,vvs3,(hle2.trans hle3),ws1,ws2,ws3,hA.sub ⟨rfl,rfl,rfl,trivial⟩,hI⟩
 ·rintro a w ⟨μ1,vvc3,hle1,wc1,wc2,wc3,hA,hI⟩
  have H:=Hk1
  refine w_any [12,15] mo hI fun w hI=>?_
  refine gE 0 hA rfl (.inr hI) (fun _=>r_mv hA rfl) fun a hA=>?_
  refine gE 1 hA rfl (.inr hI) (fun _=>r_mv hA rfl) fun a hA=>?_
  refine gT 2 hA rfl hI (fun w hI=>r_ldA (j:=0) [] [av .u32 8 c2] [] U151 rfl sz151 rfl hI rfl hA rfl rfl) fun a hA=>?_
  refine gE 3 hA rfl (.inr hI) (fun _=>r_mv hA rfl) fun a hA=>?_
  refine gE 4 hA rfl (.inr hI) (fun _=>r_nilc hA rfl) fun a hA=>?_
  refine gE 5 hA rfl (.inr hI) (fun _=>r_fd (k:=8) U153 rfl sz30 hA rfl rfl) fun a hA=>?_
  refine gT 6 hA rfl hI (fun w hI=>r_ld1 (j:=1) [av .u32 8 x0.s] [[.int .i64 (IntKind.i64.wrap (x0.n+(x1.length:Int)))]] U30 rfl hI rfl hA rfl rfl) fun a hA=>?_
  refine gE 7 hA rfl (.inr hI) (fun _=>r_mv hA rfl) fun a hA=>?_
  obtain ⟨hb3,H⟩:=bG H
  obtain ⟨v4,hS3,hr4⟩:=r_sl (P:=Tryz.prog) (t:=30) (x:=.tmp 52) (l:=(some (.tmp 53))) (h:=none) (i:=c1) (j:=(c3.length:Int)) U30 sz5 wc3 hA rfl rfl rfl (by have hq:=hb3;omega) (by have hq:=hb3;omega) (by have hq:=hb3;omega)
  refine gE 8 hA rfl (.inr hI) (fun _=>hr4 _ _ _ _ _ _) fun a hA=>?_
  refine gF 9 rfl ?_
  obtain ⟨r3,hr5,H⟩:=bB H
  refine o_call _ cf69 hA rfl (bytes_Clone.c μ1 _ hI.agr ((c3.take ((c3.length:Int)).toNat).drop (c1).toNat) v4 hS3 r3 hr5) rfl fun v5 a w hz5 hA=>?_
  obtain ⟨_,cs3,rfl,hE3,hi2⟩:=hz5
  have hI:=hI.call hi2
  refine o_nil<|⟨(.inr (hI.sl [1,2] rfl)),?_⟩
  refine gE 10 hA rfl (.inr (hI.sl [1,2] rfl)) (fun _=>r_nilc hA rfl) fun a hA=>?_
  refine gE 11 hA rfl (.inr (hI.sl [1,2] rfl)) (fun _=>r_fd (k:=0) U153 rfl sz151 hA rfl rfl) fun a hA=>?_
  refine gF 12 rfl ?_
  refine o_st (j:=2) [] [av .u32 8 x0.s] [av .u32 8 c2] [[vvc3],[.int .i64 (IntKind.i64.wrap (x0.n+(x1.length:Int)))]] sz151 rfl rfl (fl_cons (one_av _ _ _) fl_nil) hI rfl hA rfl rfl rfl rfl fun w hI=>?_
  refine o_nil<|⟨(.inl (by kernel_rfl)),?_⟩
  refine gE 13 hA rfl (.inl (by kernel_rfl)) (fun _=>r_nilc hA rfl) fun a hA=>?_
  refine gE 14 hA rfl (.inl (by kernel_rfl)) (fun _=>r_fd (k:=8) U153 rfl sz30 hA rfl rfl) fun a hA=>?_
  refine gF 15 rfl ?_
  have hone:=own_one hI (j:=0) rfl
  have hcel:=own_cell hI (j:=0) rfl
  refine o_st (j:=2) [av .u32 8 c2] [[vvc3]] [[v5]] [[.int .i64 (IntKind.i64.wrap (x0.n+(x1.length:Int)))]] sz30 rfl rfl (by intro c hc;simp at hc;subst hc;exact hone) hI rfl hA rfl rfl hcel rfl fun w hI=>?_
  refine o_nil<|⟨(.inl (by kernel_rfl)),?_⟩
  refine gN ?_
  obtain rfl:=sJ H
  exact ret0 hA Tryz.results123 ⟨_,rfl,v5,cs3,rfl,wc2,hE3,(wrap_in _ _),((hI.sl [2,0] rfl).less (Store.le.refl _) hI.le)⟩
theorem dW_Sum.c (μ:Store)(w0:World)(hμ:Agr μ w0)(x0:dWr)(vp1:Value)(cp1:List Value)(g0:Nat)(hp1:Arr .u32 8 x0.s)(hp2:Els (RI .u8) 1 x0.rest cp1)(hp3:InR .i64 x0.n)(ho0:Its μ w0 [cel g0 [av .u32 8 x0.s,[vp1],[.int .i64 x0.n]] 153,row 5 1 vp1 x0.rest.length cp1])(r:List Int)(H:dW_Sum.f x0=some r) :
  Calls Tryz.prog 124 [pt g0 0].toArray w0 (fun e w'=>∃ v,e=.returned v∧v=.agg [av .u8 32 r].flatten.toArray∧Arr .u8 32 r∧Iv w0 (many [cel g0 [av .u32 8 x0.s,[vp1],[.int .i64 x0.n]] 153,row 5 1 vp1 x0.rest.length cp1]).foot μ μ [cel g0 [av .u32 8 x0.s,[vp1],[.int .i64 x0.n]] 153,row 5 1 vp1 x0.rest.length cp1] w'):=by
 refine enter Tryz.func124 rfl Tryz.ntmps124 rfl fun a hA=>?_
 have hI:=Iv.startN hμ ho0
 have H:=bI H
 refine w_seq fun _ hN1=>w_reg<|o_new [av .u8 32 Z32] zr24 hI hA rfl fun g1 a w hA hI hg1=>?_
 refine o_nil<|hN1 _ _<|w_seq fun _ hN2=>w_reg<|stm hA rfl rfl fun a hA =>
  stp hA (r_nilc hA rfl) rfl fun a hA =>
  stp hA (r_fd (k:=8) U153 rfl sz30 hA rfl rfl) rfl fun a hA =>
  stp hA (r_ld1 (j:=1) [av .u32 8 x0.s] [[.int .i64 x0.n]] U30 rfl hI rfl hA rfl rfl) rfl fun a hA=>?_
 obtain ⟨r1,hr1,H⟩:=bB H
 refine o_call (fun v w'=>∃(v0:Value)(c0:List Value),v=v0∧Els (RI .u8) 1 r1 c0∧Iv w [] μ μ [row 5 1 v0 r1.length c0] w') cf69 hA rfl ((by obtain ⟨μ1,hle1,hsv1,hI⟩:=hI.freezeRow 2 rfl;have hS1:Slc (RI .u8) 1 μ1 vp1 x0.rest:=⟨_,hp2,hsv1⟩;exact (bytes_Clone.c μ1 _ hI.agr x0.rest vp1 hS1 r1 hr1).mono fun _ _ ⟨v,he,b0,b1,hv,f0,hi⟩=>⟨v,he,b0,b1,hv,f0,hi.low hle1⟩)) rfl fun v1 a w hz1 hA=>?_
 obtain ⟨_,cs1,rfl,hE1,hi1⟩:=hz1
 have hI:=hI.call hi1
 have hE2:Els (RI .u8) 1 ([128]:List Int) _:=(Els.cons (c:=[[.int .u8 128]].flatten) ⟨rfl,(in_lit .u8 128 rfl)⟩ rfl Els.nil)
 refine o_bsl ([[.int .u8 128]].flatten++([])) te5 zr5 U30 hI hA rfl rfl rfl rfl (by kernel_rfl) rfl fun g2 a w hA hI=>?_
 generalize hcs:([[.int .u8 128]].flatten++([]):List Value)=cs2 at hE2 hI
 clear hcs
 obtain ⟨hb1,H⟩:=bG H
 have hE4:=hE1.app hE2
 refine o_appG (xs:=(r1:List Int)) (ys:=(([128]:List Int):List Int)) (M:=140737488355328) 1 te5 U30 hI rfl hA rfl rfl (src_row hI (j:=0) rfl) hE2.len (hE2.ones (one_RI _)) hb1 rfl fun v2 a w hA hI =>
  sta hA rfl rfl fun a hA=>?_
 refine o_nil<|hN2 _ _ ?_
 obtain ⟨c1,hz2,Hk1⟩:=bB H
 refine w_cut (fun a w=>∃(vvc1:Value)(ccc1:List Value),Els (RI .u8) 1 c1 ccc1∧Fr a 79 [(0,pt g0 0),(2,pt g1 0),(3,vvc1)]∧Iv w0 (many [cel g0 [av .u32 8 x0.s,[vp1],[.int .i64 x0.n]] 153,row 5 1 vp1 x0.rest.length cp1]).foot μ μ [row 5 1 vvc1 c1.length ccc1,row 5 1 (.slice (some ⟨g2,0,none⟩) 1 1) ([128]:List Int).length cs2,cel g1 [av .u8 32 Z32] 24,cel g0 [av .u32 8 x0.s,[vp1],[.int .i64 x0.n]] 153,row 5 1 vp1 x0.rest.length cp1] w) ?_ ?_
 ·have H:=bI hz2
  refine w_block ?_
  obtain ⟨z1,hz3,Hk2⟩:=bind_some H
  obtain ⟨n1,hn1⟩:=loopO_some hz3
  refine w_loop (fun n a w=>∃(s1:List Int)(vvs1:Value)(ccs1:List Value),loopN (dW_Sum.s0) n s1=some z1∧Els (RI .u8) 1 s1 ccs1∧Fr a 79 [(0,pt g0 0),(2,pt g1 0),(3,vvs1)]∧Iv w0 (many [cel g0 [av .u32 8 x0.s,[vp1],[.int .i64 x0.n]] 153,row 5 1 vp1 x0.rest.length cp1]).foot μ μ [row 5 1 (.slice (some ⟨g2,0,none⟩) 1 1) ([128]:List Int).length cs2,row 5 1 vvs1 s1.length ccs1,cel g1 [av .u8 32 Z32] 24,cel g0 [av .u32 8 x0.s,[vp1],[.int .i64 x0.n]] 153,row 5 1 vp1 x0.rest.length cp1] w) n1 ⟨r1++([128]:List Int),v2,cs1++cs2,hn1,hE4,hA.sub ⟨rfl,rfl,rfl,trivial⟩,hI⟩ ?_
  clear hA hI
  rintro n a w ⟨s1,vvs1,ccs1,hn1,ws1,hA,hI⟩
  obtain ⟨m1,rfl,H⟩:=loopN_bind hn1
  clear hn1
  refine w_seq fun _ hN3=>w_seq fun _ hN4=>w_reg<|stm hA rfl rfl fun a hA=>?_
  have hlen1:=Iv.row_in hI (j:=1) rfl
  refine stp hA (r_rlen (xs:=0) U30 hI (j:=1) rfl hA rfl) rfl fun a hA =>
   stp hA (r_rem hA rfl rfl (by decide)) rfl fun a hA =>
   stp hA (r_neq hA rfl rfl) rfl fun a hA=>?_
  refine o_nil<|hN4 _ _<|w_cond hA rfl (fun hc1=>?_) (fun hc1=>?_)
  ·obtain ⟨hc1,H⟩:=dT H hc1
   refine w_skip<|hN3 _ _<|w_block<|w_reg<|stm hA rfl rfl fun a hA=>?_
   have hE5:Els (RI .u8) 1 ([0]:List Int) _:=(Els.cons (c:=[[.int .u8 0]].flatten) ⟨rfl,(in_lit .u8 0 rfl)⟩ rfl Els.nil)
   refine o_bsl ([[.int .u8 0]].flatten++([])) te5 zr5 U30 hI hA rfl rfl rfl rfl (by kernel_rfl) rfl fun g3 a w hA hI=>?_
   generalize hcs:([[.int .u8 0]].flatten++([]):List Value)=cs5 at hE5 hI
   clear hcs
   obtain ⟨hb2,H⟩:=bG H
   have hE7:=ws1.app hE5
   refine o_appG (xs:=(s1:List Int)) (ys:=(([0]:List Int):List Int)) (M:=140737488355328) 2 te5 U30 hI rfl hA rfl rfl (src_row hI (j:=0) rfl) hE5.len (hE5.ones (one_RI _)) hb2 rfl fun v3 a w hA hI =>
    sta hA rfl rfl fun a hA=>?_
   refine o_nil<|⟨m1,lS _,s1++([0]:List Int),v3,ccs1++cs5,H,hE7,hA.sub ⟨rfl,rfl,rfl,trivial⟩,(hI.sl [1,2,3,4,5] rfl)⟩
  ·obtain ⟨hc1,H⟩:=dF H hc1
   refine w_exit rfl ?_
   have H:some s1=some z1:=H
   obtain rfl:=sI H
   have H:=Hk2
   cases sJ H
   exact ⟨vvs1,ccs1,ws1,hA.sub ⟨rfl,rfl,rfl,trivial⟩,(hI.sl [1,0,2,3,4] rfl)⟩
 ·rintro a w ⟨vvc1,ccc1,wc1,hA,hI⟩
  have H:=Hk1
  obtain ⟨c2,hz4,Hk3⟩:=bB H
  refine w_cut (fun a w=>∃(vvc2:Value)(ccc2:List Value),Els (RI .u8) 1 c2 ccc2∧Fr a 79 [(0,pt g0 0),(2,pt g1 0),(3,vvc2)]∧Iv w0 (many [cel g0 [av .u32 8 x0.s,[vp1],[.int .i64 x0.n]] 153,row 5 1 vp1 x0.rest.length cp1]).foot μ μ [row 5 1 vvc2 c2.length ccc2,row 5 1 (.slice (some ⟨g2,0,none⟩) 1 1) ([128]:List Int).length cs2,cel g1 [av .u8 32 Z32] 24,cel g0 [av .u32 8 x0.s,[vp1],[.int .i64 x0.n]] 153,row 5 1 vp1 x0.rest.length cp1] w) ?_ ?_
  ·have H:=bI hz4
   refine w_seq fun _ hN5=>w_reg<|sta hA rfl rfl fun a hA=>?_
   refine o_nil<|hN5 _ _<|w_block ?_
   obtain ⟨z2,hz5,Hk4⟩:=bind_some H
   obtain ⟨n2,hn2⟩:=loopO_some hz5
   refine w_loop (fun n a w=>∃(s2:List Int)(s3:Int)(vvs2:Value)(ccs2:List Value),loopN (dW_Sum.s1 x0) n (s2,s3)=some z2∧Els (RI .u8) 1 s2 ccs2∧InR .i64 s3∧Fr a 79 [(0,pt g0 0),(2,pt g1 0),(3,vvs2),(4,.int .i64 s3)]∧Iv w0 (many [cel g0 [av .u32 8 x0.s,[vp1],[.int .i64 x0.n]] 153,row 5 1 vp1 x0.rest.length cp1]).foot μ μ [row 5 1 vvs2 s2.length ccs2,row 5 1 (.slice (some ⟨g2,0,none⟩) 1 1) ([128]:List Int).length cs2,cel g1 [av .u8 32 Z32] 24,cel g0 [av .u32 8 x0.s,[vp1],[.int .i64 x0.n]] 153,row 5 1 vp1 x0.rest.length cp1] w) n2 ⟨c1,7,vvc1,ccc1,hn2,wc1,(in_lit .i64 7 rfl),hA.sub ⟨rfl,rfl,rfl,rfl,trivial⟩,hI⟩ ?_
   clear hA hI
   rintro n a w ⟨s2,s3,vvs2,ccs2,hn2,ws2,ws3,hA,hI⟩
   obtain ⟨m2,rfl,H⟩:=loopN_bind hn2
   clear hn2
   refine w_seq fun _ hN6=>w_seq fun _ hN7=>w_reg<|stm hA rfl rfl fun a hA =>
    stp hA (r_geq hA rfl rfl) rfl fun a hA=>?_
   refine o_nil<|hN7 _ _<|w_cond hA rfl (fun hc2=>?_) (fun hc2=>?_)
   ·obtain ⟨hc2,H⟩:=dT H hc2
    refine w_skip<|hN6 _ _<|w_seq fun _ hN8=>w_block<|w_reg<|stm hA rfl rfl fun a hA =>
     stm hA rfl rfl fun a hA =>
     stp hA (r_nilc hA rfl) rfl fun a hA =>
     stp hA (r_fd (k:=9) U153 rfl sz2 hA rfl rfl) rfl fun a hA =>
     stp hA (r_ld1 (j:=3) [av .u32 8 x0.s,[vp1]] [] U2 rfl hI rfl hA rfl rfl) rfl fun a hA =>
     stp hA (r_conv U2 U70 hA rfl) rfl fun a hA =>
     stp hA (r_shl hA rfl rfl (by decide)) rfl fun a hA =>
     stm hA rfl rfl fun a hA =>
     stp hA (r_mul hA rfl rfl) rfl fun a hA=>?_
    obtain ⟨hb3,H⟩:=bG H
    refine stp hA (r_shr hA rfl rfl hb3) rfl fun a hA =>
     stp hA (r_conv U70 U5 hA rfl) rfl fun a hA=>?_
    have hE8:Els (RI .u8) 1 ([IntKind.u8.wrap (sR .u64 (sL .u64 (IntKind.u64.wrap x0.n) 3) (IntKind.i64.wrap (8 * s3)))]:List Int) _:=(Els.cons (c:=[[.int .u8 (IntKind.u8.wrap (sR .u64 (sL .u64 (IntKind.u64.wrap x0.n) 3) (IntKind.i64.wrap (8 * s3))))]].flatten) ⟨rfl,(wrap_in _ _)⟩ rfl Els.nil)
    refine o_bsl ([[.int .u8 (IntKind.u8.wrap (sR .u64 (sL .u64 (IntKind.u64.wrap x0.n) 3) (IntKind.i64.wrap (8 * s3))))]].flatten++([])) te5 zr5 U30 hI hA rfl rfl rfl rfl (by kernel_rfl) rfl fun g4 a w hA hI=>?_
    generalize hcs:([[.int .u8 (IntKind.u8.wrap (sR .u64 (sL .u64 (IntKind.u64.wrap x0.n) 3) (IntKind.i64.wrap (8 * s3))))]].flatten++([]):List Value)=cs8 at hE8 hI
    clear hcs
    obtain ⟨hb4,H⟩:=bG H
    have hE10:=ws2.app hE8
    refine o_appG (xs:=(s2:List Int)) (ys:=(([IntKind.u8.wrap (sR .u64 (sL .u64 (IntKind.u64.wrap x0.n) 3) (IntKind.i64.wrap (8 * s3)))]:List Int):List Int)) (M:=140737488355328) 1 te5 U30 hI rfl hA rfl rfl (src_row hI (j:=0) rfl) hE8.len (hE8.ones (one_RI _)) hb4 rfl fun v4 a w hA hI =>
     sta hA rfl rfl fun a hA=>?_
    refine o_nil<|hN8 _ _<|w_reg<|stm hA rfl rfl fun a hA =>
     stp hA (r_sub hA rfl rfl) rfl fun a hA =>
     sta hA rfl rfl fun a hA=>?_
    refine o_nil<|⟨m2,lS _,s2++([IntKind.u8.wrap (sR .u64 (sL .u64 (IntKind.u64.wrap x0.n) 3) (IntKind.i64.wrap (8 * s3)))]:List Int),IntKind.i64.wrap (s3 - 1),v4,ccs2++cs8,H,hE10,(wrap_in _ _),hA.sub ⟨rfl,rfl,rfl,rfl,trivial⟩,(hI.sl [1,2,3,4,5] rfl)⟩
   ·obtain ⟨hc2,H⟩:=dF H hc2
    refine w_exit rfl ?_
    have H:some s2=some z2:=H
    obtain rfl:=sI H
    have H:=Hk4
    cases sJ H
    exact ⟨vvs2,ccs2,ws2,hA.sub ⟨rfl,rfl,rfl,trivial⟩,hI⟩
  ·rintro a w ⟨vvc2,ccc2,wc2,hA,hI⟩
   have H:=Hk3
   refine w_seq fun _ hN9=>w_reg<|stm hA rfl rfl fun a hA=>?_
   obtain ⟨r2,hr2,H⟩:=bB H
   have hI:=hI.sl [3,4,0,1,2] rfl
   refine o_call _ cf129 hA rfl (dW_state.c μ _ hI.agr (⟨x0.s,x0.rest,x0.n⟩:dWr) vp1 cp1 g0 hp1 hp2 hp3 (hI.handN 2) r2 hr2) rfl fun v5 a w hz6 hA=>?_
   obtain ⟨rfl,hw1,hi2⟩:=hz6
   have hI:=hI.back2 hi2
   refine o_new [av .u32 8 (List.replicate 8 0)] zr151 hI hA rfl fun g5 a w hA hI hg5 =>
    o_st (j:=0) [] [av .u32 8 (List.replicate 8 0)] [av .u32 8 r2] [] sz151 rfl rfl (fl_cons (one_av _ _ _) fl_nil) hI rfl hA rfl rfl rfl rfl fun w hI=>?_
   refine o_nil<|hN9 _ _ ?_
   obtain ⟨⟨c3,c4⟩,hz7,Hk5⟩:=bB H
   refine w_cut (fun a w=>∃(μ2:Store)(vvc3:Value),μ.le μ2∧Slc (RI .u8) 1 μ2 vvc3 c3∧Arr .u32 8 c4∧Fr a 79 [(2,pt g1 0),(3,vvc3),(5,pt g5 0)]∧Iv w0 (many [cel g0 [av .u32 8 x0.s,[vp1],[.int .i64 x0.n]] 153,row 5 1 vp1 x0.rest.length cp1]).foot μ μ2 [cel g5 [av .u32 8 c4] 151,cel g0 [av .u32 8 x0.s,[vp1],[.int .i64 x0.n]] 153,row 5 1 vp1 x0.rest.length cp1,row 5 1 (.slice (some ⟨g2,0,none⟩) 1 1) ([128]:List Int).length cs2,cel g1 [av .u8 32 Z32] 24] w) ?_ ?_
   ·have H:=bI hz7
    refine w_seq fun _ hN10=>w_reg<|sta hA rfl rfl fun a hA=>?_
    refine o_nil<|hN10 _ _<|w_block ?_
    obtain ⟨μ3,hle3,hsv5,hI⟩:=hI.freezeRow 3 rfl
    have hS2:Slc (RI .u8) 1 μ3 vvc2 c2:=⟨_,wc2,hsv5⟩
    obtain ⟨z3,hz8,Hk6⟩:=bind_some H
    obtain ⟨n3,hn3⟩:=loopO_some hz8
    refine w_loop (fun n a w=>∃(s4:List Int)(s5:Int)(s6:List Int)(μ4:Store)(vvs4:Value),loopN (dW_Sum.s2) n (s4,s5,s6)=some z3∧μ3.le μ4∧Slc (RI .u8) 1 μ4 vvs4 s4∧InR .i64 s5∧Arr .u32 8 s6∧Fr a 79 [(2,pt g1 0),(3,vvs4),(5,pt g5 0),(6,.int .i64 s5)]∧Iv w0 (many [cel g0 [av .u32 8 x0.s,[vp1],[.int .i64 x0.n]] 153,row 5 1 vp1 x0.rest.length cp1]).foot μ μ4 [cel g5 [av .u32 8 s6] 151,cel g0 [av .u32 8 x0.s,[vp1],[.int .i64 x0.n]] 153,row 5 1 vp1 x0.rest.length cp1,row 5 1 (.slice (some ⟨g2,0,none⟩) 1 1) ([128]:List Int).length cs2,cel g1 [av .u8 32 Z32] 24] w) n3 ⟨c2,0,r2,μ3,vvc2,hn3,(Store.le.refl _),hS2,(in_lit .i64 0 rfl),hw1,hA.sub ⟨rfl,rfl,rfl,rfl,trivial⟩,hI⟩ ?_
    clear hA hI
    rintro n a w ⟨s4,s5,s6,μ4,vvs4,hn3,hle4,ws4,ws5,ws6,hA,hI⟩
    obtain ⟨m3,rfl,H⟩:=loopN_bind hn3
    clear hn3
    refine w_seq fun _ hN11=>w_seq fun _ hN12=>w_reg<|stm hA rfl rfl fun a hA =>
     stm hA rfl rfl fun a hA=>?_
    obtain ⟨_,hsl1⟩:=Slc.sv ws4
    refine stp hA (r_slen U30 hsl1 hA rfl) rfl fun a hA =>
     stp hA (r_lss hA rfl rfl) rfl fun a hA=>?_
    refine o_nil<|hN12 _ _<|w_cond hA rfl (fun hc3=>?_) (fun hc3=>?_)
    ·obtain ⟨hc3,H⟩:=dT H hc3
     refine w_skip<|hN11 _ _<|w_seq fun _ hN13=>w_block ?_
     refine w_any [7] mo hI fun w hI=>?_
     refine gT 0 hA rfl hI (fun w hI=>r_ldA (j:=0) [] [av .u32 8 s6] [] U151 rfl sz151 rfl hI rfl hA rfl rfl) fun a hA=>?_
     refine gE 1 hA rfl (.inr hI) (fun _=>r_mv hA rfl) fun a hA=>?_
     refine gE 2 hA rfl (.inr hI) (fun _=>r_mv hA rfl) fun a hA=>?_
     refine gE 3 hA rfl (.inr hI) (fun _=>r_mv hA rfl) fun a hA=>?_
     refine gE 4 hA rfl (.inr hI) (fun _=>r_add hA rfl rfl) fun a hA=>?_
     obtain ⟨hb5,H⟩:=bG H
     obtain ⟨v6,hS3,hr3⟩:=r_sl (P:=Tryz.prog) (t:=30) (x:=.tmp 51) (l:=(some (.tmp 52))) (h:=(some (.tmp 54))) (i:=s5) (j:=IntKind.i64.wrap (s5+64)) U30 sz5 ws4 hA rfl rfl rfl (by have hq:=hb5;omega) (by have hq:=hb5;omega) (by have hq:=hb5;omega)
     refine gE 5 hA rfl (.inr hI) (fun _=>hr3 _ _ _ _ _ _) fun a hA=>?_
     refine gF 6 rfl ?_
     obtain ⟨r3,hr4,H⟩:=bB H
     refine o_callp (u:=.agg [av .u32 8 r3].flatten.toArray) cf130 hA rfl hI (digest_mix.c μ4 _ hI.agr s6 ws6 ((s4.take (IntKind.i64.wrap (s5+64)).toNat).drop (s5).toNat) v6 hS3 r3 hr4) rfl fun a w hz9 hI hA=>?_
     refine o_nil<|⟨(.inr hI),?_⟩
     refine gF 7 rfl ?_
     refine o_st (j:=0) [] [av .u32 8 s6] [av .u32 8 r3] [] sz151 rfl rfl (fl_cons (one_av _ _ _) fl_nil) hI rfl hA rfl rfl rfl rfl fun w hI=>?_
     refine o_nil<|⟨(.inl (by kernel_rfl)),?_⟩
     refine gN<|hN13 _ _<|w_reg<|stm hA rfl rfl fun a hA =>
      stp hA (r_add hA rfl rfl) rfl fun a hA =>
      sta hA rfl rfl fun a hA=>?_
     refine o_nil<|⟨m3,lS _,s4,IntKind.i64.wrap (s5+64),r3,μ4,vvs4,H,hle4,ws4,(wrap_in _ _),hz9,hA.sub ⟨rfl,rfl,rfl,rfl,trivial⟩,hI⟩
    ·obtain ⟨hc3,H⟩:=dF H hc3
     refine w_exit rfl ?_
     have H:some (s4,s6)=some z3:=H
     obtain rfl:=sI H
     have H:=Hk6
     cases sJ H
     exact ⟨μ4,vvs4,(hle3.trans hle4),ws4,ws6,hA.sub ⟨rfl,rfl,rfl,trivial⟩,hI⟩
   ·rintro a w ⟨μ2,vvc3,hle2,wc3,wc4,hA,hI⟩
    have H:=Hk5
    refine w_seq fun _ hN14=>w_reg<|o_new [av .u8 32 Z32] zr24 hI hA rfl fun g6 a w hA hI hg6=>?_
    refine o_nil<|hN14 _ _ ?_
    obtain ⟨c5,hz10,Hk7⟩:=bB H
    refine w_cut (fun a w=>Arr .u8 32 c5∧Fr a 79 [(2,pt g1 0),(7,pt g6 0)]∧Iv w0 (many [cel g0 [av .u32 8 x0.s,[vp1],[.int .i64 x0.n]] 153,row 5 1 vp1 x0.rest.length cp1]).foot μ μ2 [cel g6 [av .u8 32 c5] 24,cel g5 [av .u32 8 c4] 151,cel g0 [av .u32 8 x0.s,[vp1],[.int .i64 x0.n]] 153,row 5 1 vp1 x0.rest.length cp1,row 5 1 (.slice (some ⟨g2,0,none⟩) 1 1) ([128]:List Int).length cs2,cel g1 [av .u8 32 Z32] 24] w) ?_ ?_
    ·have H:=bI hz10
     refine w_seq fun _ hN15=>w_reg<|stp hA (r_ldA (j:=1) [] [av .u32 8 c4] [] U151 rfl sz151 rfl hI rfl hA rfl rfl) rfl fun a hA =>
      stm hA rfl rfl fun a hA=>?_
     refine o_nil<|hN15 _ _<|w_block ?_
     obtain ⟨z4,hz11,Hk8⟩:=bind_some H
     obtain ⟨n4,hn4⟩:=loopO_some hz11
     refine w_loop (fun n a w=>∃(s7:Int)(s8:List Int),loopN (dW_Sum.s3 c4) n (s7,s8)=some z4∧InR .i64 s7∧Arr .u8 32 s8∧Fr a 79 [(2,pt g1 0),(7,pt g6 0),(57,.agg [av .u32 8 c4].flatten.toArray),(58,.int .i64 s7)]∧Iv w0 (many [cel g0 [av .u32 8 x0.s,[vp1],[.int .i64 x0.n]] 153,row 5 1 vp1 x0.rest.length cp1]).foot μ μ2 [cel g6 [av .u8 32 s8] 24,cel g5 [av .u32 8 c4] 151,cel g0 [av .u32 8 x0.s,[vp1],[.int .i64 x0.n]] 153,row 5 1 vp1 x0.rest.length cp1,row 5 1 (.slice (some ⟨g2,0,none⟩) 1 1) ([128]:List Int).length cs2,cel g1 [av .u8 32 Z32] 24] w) n4 ⟨0,Z32,hn4,(in_lit .i64 0 rfl),(arr_zero _ _),hA.sub ⟨rfl,rfl,rfl,rfl,trivial⟩,hI⟩ ?_
     clear hA hI
     rintro n a w ⟨s7,s8,hn4,ws7,ws8,hA,hI⟩
     obtain ⟨m4,rfl,H⟩:=loopN_bind hn4
     clear hn4
     refine w_seq fun _ hN16=>w_reg<|stp hA (r_lss hA rfl rfl) rfl fun a hA=>?_
     refine o_nil<|hN16 _ _<|w_seq fun _ hN17=>w_cond hA rfl (fun hc4=>?_) (fun hc4=>?_)
     ·obtain ⟨hc4,H⟩:=dT H hc4
      refine w_skip<|hN17 _ _ ?_
      obtain ⟨c6,hz12,Hk9⟩:=bB H
      refine w_cut (fun a w=>Arr .u8 32 c6∧Fr a 79 [(2,pt g1 0),(7,pt g6 0),(57,.agg [av .u32 8 c4].flatten.toArray),(58,.int .i64 s7),(59,.bool (decide (s7 < 8)))]∧Iv w0 (many [cel g0 [av .u32 8 x0.s,[vp1],[.int .i64 x0.n]] 153,row 5 1 vp1 x0.rest.length cp1]).foot μ μ2 [cel g6 [av .u8 32 c6] 24,cel g5 [av .u32 8 c4] 151,cel g0 [av .u32 8 x0.s,[vp1],[.int .i64 x0.n]] 153,row 5 1 vp1 x0.rest.length cp1,row 5 1 (.slice (some ⟨g2,0,none⟩) 1 1) ([128]:List Int).length cs2,cel g1 [av .u8 32 Z32] 24] w) ?_ ?_
      ·have H:=bI hz12
       refine w_block<|w_seq fun _ hN18=>w_reg<|stm hA rfl rfl fun a hA=>?_
       obtain ⟨hb6,H⟩:=bG H
       refine stp hA (r_aidx U151 U22 sz22 hA rfl rfl hb6.1 hb6.2) rfl fun a hA =>
        sta hA rfl rfl fun a hA =>
        sta hA rfl rfl fun a hA=>?_
       refine o_nil<|hN18 _ _<|w_seq fun _ hN19=>w_reg<|stm hA rfl rfl fun a hA=>?_
       refine o_nil<|hN19 _ _<|w_block ?_
       obtain ⟨z5,hz13,Hk10⟩:=bind_some H
       obtain ⟨n5,hn5⟩:=loopO_some hz13
       refine w_loop (fun n a w=>∃(s9:Int)(s10:List Int),loopN (dW_Sum.s4 c4 s7) n (s9,s10)=some z5∧InR .i64 s9∧Arr .u8 32 s10∧Fr a 79 [(2,pt g1 0),(7,pt g6 0),(8,.int .i64 s7),(9,.int .u32 (c4.getD s7.toNat 0)),(57,.agg [av .u32 8 c4].flatten.toArray),(58,.int .i64 s7),(59,.bool (decide (s7 < 8))),(62,.int .i64 s9)]∧Iv w0 (many [cel g0 [av .u32 8 x0.s,[vp1],[.int .i64 x0.n]] 153,row 5 1 vp1 x0.rest.length cp1]).foot μ μ2 [cel g6 [av .u8 32 s10] 24,cel g5 [av .u32 8 c4] 151,cel g0 [av .u32 8 x0.s,[vp1],[.int .i64 x0.n]] 153,row 5 1 vp1 x0.rest.length cp1,row 5 1 (.slice (some ⟨g2,0,none⟩) 1 1) ([128]:List Int).length cs2,cel g1 [av .u8 32 Z32] 24] w) n5 ⟨0,s8,hn5,(in_lit .i64 0 rfl),ws8,hA.sub ⟨rfl,rfl,rfl,rfl,rfl,rfl,rfl,rfl,trivial⟩,hI⟩ ?_
       clear hA hI
       rintro n a w ⟨s9,s10,hn5,ws9,ws10,hA,hI⟩
       obtain ⟨m5,rfl,H⟩:=loopN_bind hn5
       clear hn5
       refine w_seq fun _ hN20=>w_reg<|stp hA (r_lss hA rfl rfl) rfl fun a hA=>?_
       refine o_nil<|hN20 _ _<|w_seq fun _ hN21=>w_cond hA rfl (fun hc5=>?_) (fun hc5=>?_)
       ·obtain ⟨hc5,H⟩:=dT H hc5
        refine w_skip<|hN21 _ _<|w_seq fun _ hN22=>w_block<|w_seq fun _ hN23=>w_reg<|stm hA rfl rfl fun a hA =>
         sta hA rfl rfl fun a hA=>?_
        refine o_nil<|hN23 _ _<|w_reg<|stm hA rfl rfl fun a hA =>
         stp hA (r_mul hA rfl rfl) rfl fun a hA =>
         stm hA rfl rfl fun a hA =>
         stp hA (r_add hA rfl rfl) rfl fun a hA =>
         stm hA rfl rfl fun a hA =>
         stm hA rfl rfl fun a hA =>
         stp hA (r_mul hA rfl rfl) rfl fun a hA =>
         stp hA (r_sub hA rfl rfl) rfl fun a hA=>?_
        obtain ⟨hb7,H⟩:=bG H
        refine stp hA (r_shr hA rfl rfl hb7) rfl fun a hA =>
         stp hA (r_conv U22 U5 hA rfl) rfl fun a hA=>?_
        obtain ⟨hb8,H⟩:=bG H
        refine stp hA (r_ixar1 U24 sz5 hA rfl rfl hb8.1 hb8.2) rfl fun a hA =>
         o_stE (j:=0) [] [] sz5 ws10.1 hI rfl hA rfl rfl rfl (by omega) fun w hI=>?_
        refine o_nil<|hN22 _ _<|w_reg<|stp hA (r_add hA rfl rfl) rfl fun a hA =>
         stm hA rfl rfl fun a hA=>?_
        refine o_nil<|⟨m5,lS _,IntKind.i64.wrap (s9+1),s10.set (IntKind.i64.wrap ((IntKind.i64.wrap (4 * s7))+s9)).toNat (IntKind.u8.wrap (sR .u32 (c4.getD s7.toNat 0) (IntKind.i64.wrap (24 - (IntKind.i64.wrap (8 * s9)))))),H,(wrap_in _ _),(arr_set ws10 _ (wrap_in _ _)),hA.sub ⟨rfl,rfl,rfl,rfl,rfl,rfl,rfl,rfl,trivial⟩,hI⟩
       ·obtain ⟨hc5,H⟩:=dF H hc5
        refine w_exit rfl ?_
        have H:some s10=some z5:=H
        obtain rfl:=sI H
        have H:=Hk10
        cases sJ H
        exact ⟨ws10,hA.sub ⟨rfl,rfl,rfl,rfl,rfl,trivial⟩,hI⟩
      ·rintro a w ⟨wc6,hA,hI⟩
       have H:=Hk9
       refine w_reg<|stp hA (r_add hA rfl rfl) rfl fun a hA =>
        stm hA rfl rfl fun a hA=>?_
       refine o_nil<|⟨m4,lS _,IntKind.i64.wrap (s7+1),c6,H,(wrap_in _ _),wc6,hA.sub ⟨rfl,rfl,rfl,rfl,trivial⟩,hI⟩
     ·obtain ⟨hc4,H⟩:=dF H hc4
      refine w_exit rfl ?_
      have H:some s8=some z4:=H
      obtain rfl:=sI H
      have H:=Hk8
      cases sJ H
      exact ⟨ws8,hA.sub ⟨rfl,rfl,trivial⟩,hI⟩
    ·rintro a w ⟨wc5,hA,hI⟩
     have H:=Hk7
     refine w_seq fun _ hN24=>w_reg<|stp hA (r_ldA (j:=0) [] [av .u8 32 c5] [] U24 rfl sz24 rfl hI rfl hA rfl rfl) rfl fun a hA =>
      o_st (j:=5) [] [av .u8 32 Z32] [av .u8 32 c5] [] sz24 rfl rfl (fl_cons (one_av _ _ _) fl_nil) hI rfl hA rfl rfl rfl rfl fun w hI=>?_
     refine o_nil<|hN24 _ _<|w_ret ?_
     obtain rfl:=sJ H
     exact retc U24 rfl sz24 rfl hI (j:=5) rfl hA Tryz.results124 rfl ⟨_,rfl,rfl,wc5,((hI.sl [2,3] rfl).less (Store.le.refl _) hI.le)⟩
theorem digest_Sha.c (μ:Store)(w0:World)(hμ:Agr μ w0)(x0:List Int)(u0:Value)(hx0:Slc (RI .u8) 1 μ u0 x0)(r:List Int)(H:digest_Sha.f x0=some r) :
  Calls Tryz.prog 101 [u0].toArray w0 (fun e w'=>∃ v,e=.returned v∧v=.agg [av .u8 32 r].flatten.toArray∧Arr .u8 32 r∧Iv w0 [] μ μ [] w'):=by
 refine enter Tryz.func101 rfl Tryz.ntmps101 rfl fun a hA=>?_
 have hI:=Iv.start hμ
 have H:=bI H
 refine w_seq fun _ hN1=>w_reg<|o_new [av .u8 32 Z32] zr24 hI hA rfl fun g1 a w hA hI hg1=>?_
 refine o_nil<|hN1 _ _<|w_seq fun _ hN2=>w_reg<|o_new [av .u32 8 (List.replicate 8 0),[Sn],[.int .i64 0]] zr153 hI hA rfl fun g2 a w hA hI hg2=>?_
 refine o_nil<|hN2 _ _<|w_seq fun _ hN3=>w_reg<|stm hA rfl rfl fun a hA=>?_
 have hI:=hI.nilRow 5 1
 obtain ⟨r1,hr1,H⟩:=bB H
 have hI:=hI.sl [1,0,2] rfl
 refine o_call _ cf123 hA rfl (dW_Write.c μ _ hI.agr (⟨(List.replicate 8 0),[],0⟩:dWr) Sn [] g2 (arr_zero _ _) (Els.nil (RE:=(RI .u8)) (sz:=1)) (in_lit .i64 0 rfl) (hI.handN 2) x0 u0 hx0 r1 hr1) rfl fun v1 a w hz1 hA=>?_
 obtain ⟨vp1,cp1,rfl,hp1,hp2,hp3,hi1⟩:=hz1
 have hI:=hI.back2 hi1
 refine o_nil<|hN3 _ _<|w_seq fun _ hN4=>w_reg ?_
 obtain ⟨r2,hr2,H⟩:=bB H
 refine o_call _ cf124 hA rfl (dW_Sum.c μ _ hI.agr (⟨r1.s,r1.rest,r1.n⟩:dWr) vp1 cp1 g2 hp1 hp2 hp3 (hI.handN 2) r2 hr2) rfl fun v2 a w hz2 hA=>?_
 obtain ⟨rfl,hw1,hi2⟩:=hz2
 have hI:=hI.back2 hi2
 refine o_st (j:=2) [] [av .u8 32 Z32] [av .u8 32 r2] [] sz24 rfl rfl (fl_cons (one_av _ _ _) fl_nil) hI rfl hA rfl rfl rfl rfl fun w hI=>?_
 refine o_nil<|hN4 _ _<|w_ret ?_
 obtain rfl:=sJ H
 exact retc U24 rfl sz24 rfl hI (j:=2) rfl hA Tryz.results101 rfl ⟨_,rfl,rfl,hw1,hI.forget0⟩
theorem digest_Twice.c (μ:Store)(w0:World)(hμ:Agr μ w0)(x0:List Int)(u0:Value)(hx0:Slc (RI .u8) 1 μ u0 x0)(r:List Int)(H:digest_Twice.f x0=some r) :
  Calls Tryz.prog 85 [u0].toArray w0 (fun e w'=>∃ v,e=.returned v∧v=.agg [av .u8 32 r].flatten.toArray∧Arr .u8 32 r∧Iv w0 [] μ μ [] w'):=by
 refine enter Tryz.func85 rfl Tryz.ntmps85 rfl fun a hA=>?_
 have hI:=Iv.start hμ
 have H:=bI H
 refine w_seq fun _ hN1=>w_reg<|o_new [av .u8 32 Z32] zr24 hI hA rfl fun g1 a w hA hI hg1=>?_
 refine o_nil<|hN1 _ _<|w_seq fun _ hN2=>w_reg<|stm hA rfl rfl fun a hA=>?_
 obtain ⟨r1,hr1,H⟩:=bB H
 refine o_callp (u:=.agg [av .u8 32 r1].flatten.toArray) cf101 hA rfl hI (digest_Sha.c μ _ hI.agr x0 u0 hx0 r1 hr1) rfl fun a w hz1 hI hA =>
  o_new [av .u8 32 Z32] zr24 hI hA rfl fun g2 a w hA hI hg2 =>
  o_st (j:=0) [] [av .u8 32 Z32] [av .u8 32 r1] [] sz24 rfl rfl (fl_cons (one_av _ _ _) fl_nil) hI rfl hA rfl rfl rfl rfl fun w hI=>?_
 refine o_nil<|hN2 _ _<|w_seq fun _ hN3=>w_reg<|stp hA (r_slv (i:=0) (j:=32) U24 sz5 hA rfl rfl rfl (by decide) (by decide) (by decide) (by decide) rfl) rfl fun a hA=>?_
 obtain ⟨r2,hr2,H⟩:=bB H
 refine o_callp (u:=.agg [av .u8 32 r2].flatten.toArray) cf101 hA rfl hI ((by obtain ⟨μ1,hle1,hat1,hI⟩:=hI.freezeCel 0 rfl;have hS1:Slc (RI .u8) 1 μ1 (.slice (some ⟨g2,0,none⟩) 32 32) (r1):=slc_view0 [] [] hat1 hz1 rfl (by decide);exact low_plain hle1 (digest_Sha.c μ1 _ hI.agr r1 (.slice (some ⟨g2,0,none⟩) 32 32) hS1 r2 hr2))) rfl fun a w hz2 hI hA =>
  o_st (j:=1) [] [av .u8 32 Z32] [av .u8 32 r2] [] sz24 rfl rfl (fl_cons (one_av _ _ _) fl_nil) hI rfl hA rfl rfl rfl rfl fun w hI=>?_
 refine o_nil<|hN3 _ _<|w_ret ?_
 obtain rfl:=sJ H
 exact retc U24 rfl sz24 rfl hI (j:=1) rfl hA Tryz.results85 rfl ⟨_,rfl,rfl,hz2,hI.forget0⟩
theorem q1_k.c (μ:Store)(w0:World)(hμ:Agr μ w0)(r:List Int)(H:q1_k.f=some r) :
  Calls Tryz.prog 106 [].toArray w0 (fun e w'=>∃ v,e=.returned v∧∃(v0:Value)(c0:List Value),v=v0∧Els (RI .u32) 1 r c0∧Iv w0 [] μ μ [row 22 1 v0 r.length c0] w'):=by
 refine enter Tryz.func106 rfl Tryz.ntmps106 rfl fun a hA=>?_
 have hI:=Iv.start hμ
 have H:=bI H
 refine w_seq fun _ hN1=>w_reg<|sta hA rfl rfl fun a hA=>?_
 refine o_nil<|hN1 _ _<|w_seq fun _ hN2=>w_reg ?_
 have hE1:Els (RI .u32) 1 q1_k.lit0 ((q1_k.lit0).map (.int .u32)):=els_ints q1_k.lit0_in
 refine o_bsl (mm:=64) (pv:=numbered .u32 q1_k.lit0) ((q1_k.lit0).map (.int .u32)) te22 zr22 U136 hI hA (by kernel_rfl) rfl rfl (by kernel_rfl) (by kernel_rfl) rfl fun g1 a w hA hI=>?_
 generalize hcs:((q1_k.lit0).map (.int .u32):List Value)=cs1 at hE1 hI
 clear hcs
 have hlencs1:64=(q1_k.lit0).length:=by kernel_rfl
 rw [hlencs1] at hI hA
 refine sta hA rfl rfl fun a hA=>?_
 refine o_nil<|hN2 _ _<|w_ret ?_
 obtain rfl:=sJ H
 exact ret1 hA Tryz.results106 rfl ⟨_,rfl,(.slice (some ⟨g1,0,none⟩) q1_k.lit0.length q1_k.lit0.length),cs1,rfl,hE1,(hI.less (Store.le.refl _) hI.le)⟩
theorem q1_right.c (μ:Store)(w0:World)(hμ:Agr μ w0)(x0:Int)(hx0:InR .u32 x0)(x1:Int)(hx1:InR .u64 x1)(r:Int)(H:q1_right.f x0 x1=some r) :
  Calls Tryz.prog 107 [.int .u32 x0,.int .u64 x1].toArray w0 (fun e w'=>∃ v,e=.returned v∧v=.int .u32 r∧InR .u32 r∧Iv w0 [] μ μ [] w'):=by
 refine enter Tryz.func107 rfl Tryz.ntmps107 rfl fun a hA=>?_
 have hI:=Iv.start hμ
 have H:=bI H
 refine w_seq fun _ hN1=>w_reg<|sta hA rfl rfl fun a hA=>?_
 refine o_nil<|hN1 _ _<|w_seq fun _ hN2=>w_reg<|stm hA rfl rfl fun a hA =>
  stm hA rfl rfl fun a hA=>?_
 obtain ⟨hb1,H⟩:=bG H
 refine stp hA (r_shr hA rfl rfl hb1) rfl fun a hA =>
  stm hA rfl rfl fun a hA =>
  stm hA rfl rfl fun a hA =>
  stp hA (r_sub hA rfl rfl) rfl fun a hA=>?_
 obtain ⟨hb2,H⟩:=bG H
 refine stp hA (r_shl hA rfl rfl hb2) rfl fun a hA =>
  stp hA (r_or hA rfl rfl) rfl fun a hA =>
  sta hA rfl rfl fun a hA=>?_
 refine o_nil<|hN2 _ _<|w_ret ?_
 obtain rfl:=sJ H
 exact ret1 hA Tryz.results107 rfl ⟨_,rfl,rfl,(wrap_in _ _),hI.forget0⟩
theorem q1_Sha.c (μ:Store)(w0:World)(hμ:Agr μ w0)(x0:List Int)(u0:Value)(hx0:Slc (RI .u8) 1 μ u0 x0)(r:List Int)(H:q1_Sha.f x0=some r) :
  Calls Tryz.prog 86 [u0].toArray w0 (fun e w'=>∃ v,e=.returned v∧v=.agg [av .u8 32 r].flatten.toArray∧Arr .u8 32 r∧Iv w0 [] μ μ [] w'):=by
 refine enter Tryz.func86 rfl Tryz.ntmps86 rfl fun a hA=>?_
 have hI:=Iv.start hμ
 have H:=bI H
 refine w_seq fun _ hN1=>w_reg<|o_new [av .u8 32 Z32] zr24 hI hA rfl fun g1 a w hA hI hg1=>?_
 refine o_nil<|hN1 _ _<|w_seq fun _ hN2=>w_reg ?_
 have hE1:Els (RI .u32) 1 ([1779033703,3144134277,1013904242,2773480762,1359893119,2600822924,528734635,1541459225]:List Int) _:=(Els.cons (c:=[[.int .u32 1779033703]].flatten) ⟨rfl,(in_lit .u32 1779033703 rfl)⟩ rfl (Els.cons (c:=[[.int .u32 3144134277]].flatten) ⟨rfl,(in_lit .u32 3144134277 rfl)⟩ rfl (Els.cons (c:=[[.int .u32 1013904242]].flatten) ⟨rfl,(in_lit .u32 1013904242 rfl)⟩ rfl (Els.cons (c:=[[.int .u32 2773480762]].flatten) ⟨rfl,(in_lit .u32 2773480762 rfl)⟩ rfl (Els.cons (c:=[[.int .u32 1359893119]].flatten) ⟨rfl,(in_lit .u32 1359893119 rfl)⟩ rfl (Els.cons (c:=[[.int .u32 2600822924]].flatten) ⟨rfl,(in_lit .u32 2600822924 rfl)⟩ rfl (Els.cons (c:=[[.int .u32 528734635]].flatten) ⟨rfl,(in_lit .u32 528734635 rfl)⟩ rfl (Els.cons (c:=[[.int .u32 1541459225]].flatten) ⟨rfl,(in_lit .u32 1541459225 rfl)⟩ rfl Els.nil))))))))
 refine o_bsl ([[.int .u32 1779033703]].flatten++([[.int .u32 3144134277]].flatten++([[.int .u32 1013904242]].flatten++([[.int .u32 2773480762]].flatten++([[.int .u32 1359893119]].flatten++([[.int .u32 2600822924]].flatten++([[.int .u32 528734635]].flatten++([[.int .u32 1541459225]].flatten++([]))))))))) te22 zr22 U136 hI hA rfl rfl rfl rfl (by kernel_rfl) rfl fun g2 a w hA hI=>?_
 generalize hcs:([[.int .u32 1779033703]].flatten++([[.int .u32 3144134277]].flatten++([[.int .u32 1013904242]].flatten++([[.int .u32 2773480762]].flatten++([[.int .u32 1359893119]].flatten++([[.int .u32 2600822924]].flatten++([[.int .u32 528734635]].flatten++([[.int .u32 1541459225]].flatten++([])))))))):List Value)=cs1 at hE1 hI
 clear hcs
 refine sta hA rfl rfl fun a hA=>?_
 refine o_nil<|hN2 _ _<|w_seq fun _ hN3=>w_reg<|stm hA rfl rfl fun a hA=>?_
 obtain ⟨r1,hr1,H⟩:=bB H
 refine o_call _ cf105 hA rfl (q0_Bytes.c μ _ hI.agr x0 u0 hx0 r1 hr1) rfl fun v1 a w hz1 hA=>?_
 obtain ⟨_,cs2,rfl,hE2,hi1⟩:=hz1
 have hI:=hI.call hi1
 have hE3:Els (RI .u8) 1 ([128]:List Int) _:=(Els.cons (c:=[[.int .u8 128]].flatten) ⟨rfl,(in_lit .u8 128 rfl)⟩ rfl Els.nil)
 refine o_bsl ([[.int .u8 128]].flatten++([])) te5 zr5 U30 hI hA rfl rfl rfl rfl (by kernel_rfl) rfl fun g3 a w hA hI=>?_
 generalize hcs:([[.int .u8 128]].flatten++([]):List Value)=cs3 at hE3 hI
 clear hcs
 obtain ⟨hb1,H⟩:=bG H
 have hE5:=hE2.app hE3
 refine o_appG (xs:=(r1:List Int)) (ys:=(([128]:List Int):List Int)) (M:=140737488355328) 1 te5 U30 hI rfl hA rfl rfl (src_row hI (j:=0) rfl) hE3.len (hE3.ones (one_RI _)) hb1 rfl fun v2 a w hA hI =>
  sta hA rfl rfl fun a hA=>?_
 refine o_nil<|hN3 _ _ ?_
 obtain ⟨c1,hz2,Hk1⟩:=bB H
 refine w_cut (fun a w=>∃(vvc1:Value)(ccc1:List Value),Els (RI .u8) 1 c1 ccc1∧Fr a 282 [(0,u0),(2,pt g1 0),(3,(.slice (some ⟨g2,0,none⟩) 8 8)),(4,vvc1)]∧Iv w0 [] μ μ [row 5 1 vvc1 c1.length ccc1,row 5 1 (.slice (some ⟨g3,0,none⟩) 1 1) ([128]:List Int).length cs3,row 22 1 (.slice (some ⟨g2,0,none⟩) 8 8) ([1779033703,3144134277,1013904242,2773480762,1359893119,2600822924,528734635,1541459225]:List Int).length cs1,cel g1 [av .u8 32 Z32] 24] w) ?_ ?_
 ·have H:=bI hz2
  refine w_block ?_
  obtain ⟨z1,hz3,Hk2⟩:=bind_some H
  obtain ⟨n1,hn1⟩:=loopO_some hz3
  refine w_loop (fun n a w=>∃(s1:List Int)(vvs1:Value)(ccs1:List Value),loopN (q1_Sha.s0) n s1=some z1∧Els (RI .u8) 1 s1 ccs1∧Fr a 282 [(0,u0),(2,pt g1 0),(3,(.slice (some ⟨g2,0,none⟩) 8 8)),(4,vvs1)]∧Iv w0 [] μ μ [row 5 1 (.slice (some ⟨g3,0,none⟩) 1 1) ([128]:List Int).length cs3,row 5 1 vvs1 s1.length ccs1,row 22 1 (.slice (some ⟨g2,0,none⟩) 8 8) ([1779033703,3144134277,1013904242,2773480762,1359893119,2600822924,528734635,1541459225]:List Int).length cs1,cel g1 [av .u8 32 Z32] 24] w) n1 ⟨r1++([128]:List Int),v2,cs2++cs3,hn1,hE5,hA.sub ⟨rfl,rfl,rfl,rfl,trivial⟩,hI⟩ ?_
  clear hA hI
  rintro n a w ⟨s1,vvs1,ccs1,hn1,ws1,hA,hI⟩
  obtain ⟨m1,rfl,H⟩:=loopN_bind hn1
  clear hn1
  refine w_seq fun _ hN4=>w_seq fun _ hN5=>w_reg<|stm hA rfl rfl fun a hA=>?_
  have hlen1:=Iv.row_in hI (j:=1) rfl
  refine stp hA (r_rlen (xs:=0) U30 hI (j:=1) rfl hA rfl) rfl fun a hA =>
   stp hA (r_rem hA rfl rfl (by decide)) rfl fun a hA =>
   stp hA (r_neq hA rfl rfl) rfl fun a hA=>?_
  refine o_nil<|hN5 _ _<|w_cond hA rfl (fun hc1=>?_) (fun hc1=>?_)
  ·obtain ⟨hc1,H⟩:=dT H hc1
   refine w_skip<|hN4 _ _<|w_block<|w_reg<|stm hA rfl rfl fun a hA=>?_
   have hE6:Els (RI .u8) 1 ([0]:List Int) _:=(Els.cons (c:=[[.int .u8 0]].flatten) ⟨rfl,(in_lit .u8 0 rfl)⟩ rfl Els.nil)
   refine o_bsl ([[.int .u8 0]].flatten++([])) te5 zr5 U30 hI hA rfl rfl rfl rfl (by kernel_rfl) rfl fun g4 a w hA hI=>?_
   generalize hcs:([[.int .u8 0]].flatten++([]):List Value)=cs6 at hE6 hI
   clear hcs
   obtain ⟨hb2,H⟩:=bG H
   have hE8:=ws1.app hE6
   refine o_appG (xs:=(s1:List Int)) (ys:=(([0]:List Int):List Int)) (M:=140737488355328) 2 te5 U30 hI rfl hA rfl rfl (src_row hI (j:=0) rfl) hE6.len (hE6.ones (one_RI _)) hb2 rfl fun v3 a w hA hI =>
    sta hA rfl rfl fun a hA=>?_
   refine o_nil<|⟨m1,lS _,s1++([0]:List Int),v3,ccs1++cs6,H,hE8,hA.sub ⟨rfl,rfl,rfl,rfl,trivial⟩,(hI.sl [1,2,3,4] rfl)⟩
  ·obtain ⟨hc1,H⟩:=dF H hc1
   refine w_exit rfl ?_
   have H:some s1=some z1:=H
   obtain rfl:=sI H
   have H:=Hk2
   cases sJ H
   exact ⟨vvs1,ccs1,ws1,hA.sub ⟨rfl,rfl,rfl,rfl,trivial⟩,(hI.sl [1,0,2,3] rfl)⟩
 ·rintro a w ⟨vvc1,ccc1,wc1,hA,hI⟩
  have H:=Hk1
  refine w_seq fun _ hN6=>w_reg<|stm hA rfl rfl fun a hA=>?_
  obtain ⟨_,hsl1⟩:=Slc.sv hx0
  refine stp hA (r_slen U30 hsl1 hA rfl) rfl fun a hA =>
   stp hA (r_conv U3 U70 hA rfl) rfl fun a hA =>
   stp hA (r_mul hA rfl rfl) rfl fun a hA =>
   sta hA rfl rfl fun a hA=>?_
  refine o_nil<|hN6 _ _ ?_
  obtain ⟨c2,hz4,Hk3⟩:=bB H
  refine w_cut (fun a w=>∃(vvc2:Value)(ccc2:List Value),Els (RI .u8) 1 c2 ccc2∧Fr a 282 [(2,pt g1 0),(3,(.slice (some ⟨g2,0,none⟩) 8 8)),(4,vvc2)]∧Iv w0 [] μ μ [row 5 1 vvc2 c2.length ccc2,row 5 1 (.slice (some ⟨g3,0,none⟩) 1 1) ([128]:List Int).length cs3,row 22 1 (.slice (some ⟨g2,0,none⟩) 8 8) ([1779033703,3144134277,1013904242,2773480762,1359893119,2600822924,528734635,1541459225]:List Int).length cs1,cel g1 [av .u8 32 Z32] 24] w) ?_ ?_
  ·have H:=bI hz4
   refine w_seq fun _ hN7=>w_reg<|sta hA rfl rfl fun a hA=>?_
   refine o_nil<|hN7 _ _<|w_block ?_
   obtain ⟨z2,hz5,Hk4⟩:=bind_some H
   obtain ⟨n2,hn2⟩:=loopO_some hz5
   refine w_loop (fun n a w=>∃(s2:List Int)(s3:Int)(vvs2:Value)(ccs2:List Value),loopN (q1_Sha.s1 x0) n (s2,s3)=some z2∧Els (RI .u8) 1 s2 ccs2∧InR .i64 s3∧Fr a 282 [(2,pt g1 0),(3,(.slice (some ⟨g2,0,none⟩) 8 8)),(4,vvs2),(5,.int .u64 (IntKind.u64.wrap (8 * (IntKind.u64.wrap (x0.length:Int))))),(6,.int .i64 s3)]∧Iv w0 [] μ μ [row 5 1 vvs2 s2.length ccs2,row 5 1 (.slice (some ⟨g3,0,none⟩) 1 1) ([128]:List Int).length cs3,row 22 1 (.slice (some ⟨g2,0,none⟩) 8 8) ([1779033703,3144134277,1013904242,2773480762,1359893119,2600822924,528734635,1541459225]:List Int).length cs1,cel g1 [av .u8 32 Z32] 24] w) n2 ⟨c1,7,vvc1,ccc1,hn2,wc1,(in_lit .i64 7 rfl),hA.sub ⟨rfl,rfl,rfl,rfl,rfl,trivial⟩,hI⟩ ?_
   clear hA hI
   rintro n a w ⟨s2,s3,vvs2,ccs2,hn2,ws2,ws3,hA,hI⟩
   obtain ⟨m2,rfl,H⟩:=loopN_bind hn2
   clear hn2
   refine w_seq fun _ hN8=>w_seq fun _ hN9=>w_reg<|stm hA rfl rfl fun a hA =>
    stp hA (r_geq hA rfl rfl) rfl fun a hA=>?_
   refine o_nil<|hN9 _ _<|w_cond hA rfl (fun hc2=>?_) (fun hc2=>?_)
   ·obtain ⟨hc2,H⟩:=dT H hc2
    refine w_skip<|hN8 _ _<|w_seq fun _ hN10=>w_block<|w_reg<|stm hA rfl rfl fun a hA =>
     stm hA rfl rfl fun a hA =>
     stm hA rfl rfl fun a hA =>
     stp hA (r_mul hA rfl rfl) rfl fun a hA =>
     stp hA (r_conv U3 U115 hA rfl) rfl fun a hA=>?_
    obtain ⟨hb3,H⟩:=bG H
    refine stp hA (r_shr hA rfl rfl hb3) rfl fun a hA =>
     stp hA (r_conv U70 U5 hA rfl) rfl fun a hA=>?_
    have hE9:Els (RI .u8) 1 ([IntKind.u8.wrap (sR .u64 (IntKind.u64.wrap (8 * (IntKind.u64.wrap (x0.length:Int)))) (IntKind.u64.wrap (IntKind.i64.wrap (8 * s3))))]:List Int) _:=(Els.cons (c:=[[.int .u8 (IntKind.u8.wrap (sR .u64 (IntKind.u64.wrap (8 * (IntKind.u64.wrap (x0.length:Int)))) (IntKind.u64.wrap (IntKind.i64.wrap (8 * s3)))))]].flatten) ⟨rfl,(wrap_in _ _)⟩ rfl Els.nil)
    refine o_bsl ([[.int .u8 (IntKind.u8.wrap (sR .u64 (IntKind.u64.wrap (8 * (IntKind.u64.wrap (x0.length:Int)))) (IntKind.u64.wrap (IntKind.i64.wrap (8 * s3)))))]].flatten++([])) te5 zr5 U30 hI hA rfl rfl rfl rfl (by kernel_rfl) rfl fun g5 a w hA hI=>?_
    generalize hcs:([[.int .u8 (IntKind.u8.wrap (sR .u64 (IntKind.u64.wrap (8 * (IntKind.u64.wrap (x0.length:Int)))) (IntKind.u64.wrap (IntKind.i64.wrap (8 * s3)))))]].flatten++([]):List Value)=cs9 at hE9 hI
    clear hcs
    obtain ⟨hb4,H⟩:=bG H
    have hE11:=ws2.app hE9
    refine o_appG (xs:=(s2:List Int)) (ys:=(([IntKind.u8.wrap (sR .u64 (IntKind.u64.wrap (8 * (IntKind.u64.wrap (x0.length:Int)))) (IntKind.u64.wrap (IntKind.i64.wrap (8 * s3))))]:List Int):List Int)) (M:=140737488355328) 1 te5 U30 hI rfl hA rfl rfl (src_row hI (j:=0) rfl) hE9.len (hE9.ones (one_RI _)) hb4 rfl fun v4 a w hA hI =>
     sta hA rfl rfl fun a hA=>?_
    refine o_nil<|hN10 _ _<|w_reg<|stm hA rfl rfl fun a hA =>
     stp hA (r_sub hA rfl rfl) rfl fun a hA =>
     sta hA rfl rfl fun a hA=>?_
    refine o_nil<|⟨m2,lS _,s2++([IntKind.u8.wrap (sR .u64 (IntKind.u64.wrap (8 * (IntKind.u64.wrap (x0.length:Int)))) (IntKind.u64.wrap (IntKind.i64.wrap (8 * s3))))]:List Int),IntKind.i64.wrap (s3 - 1),v4,ccs2++cs9,H,hE11,(wrap_in _ _),hA.sub ⟨rfl,rfl,rfl,rfl,rfl,trivial⟩,(hI.sl [1,2,3,4] rfl)⟩
   ·obtain ⟨hc2,H⟩:=dF H hc2
    refine w_exit rfl ?_
    have H:some s2=some z2:=H
    obtain rfl:=sI H
    have H:=Hk4
    cases sJ H
    exact ⟨vvs2,ccs2,ws2,hA.sub ⟨rfl,rfl,rfl,trivial⟩,hI⟩
  ·rintro a w ⟨vvc2,ccc2,wc2,hA,hI⟩
   have H:=Hk3
   refine w_seq fun _ hN11=>w_reg ?_
   obtain ⟨r2,hr2,H⟩:=bB H
   refine o_call _ cf106 hA rfl (q1_k.c μ _ hI.agr  r2 hr2) rfl fun v5 a w hz6 hA=>?_
   obtain ⟨_,cs12,rfl,hE12,hi2⟩:=hz6
   have hI:=hI.call hi2
   refine sta hA rfl rfl fun a hA=>?_
   refine o_nil<|hN11 _ _ ?_
   obtain ⟨c3,hz7,Hk5⟩:=bB H
   refine w_cut (fun a w=>∃(ccc3:List Value),Els (RI .u32) 1 c3 ccc3∧Fr a 282 [(2,pt g1 0),(3,(.slice (some ⟨g2,0,none⟩) 8 8))]∧Iv w0 [] μ μ [row 22 1 v5 r2.length cs12,row 5 1 vvc2 c2.length ccc2,row 5 1 (.slice (some ⟨g3,0,none⟩) 1 1) ([128]:List Int).length cs3,row 22 1 (.slice (some ⟨g2,0,none⟩) 8 8) c3.length ccc3,cel g1 [av .u8 32 Z32] 24] w) ?_ ?_
   ·have H:=bI hz7
    refine w_seq fun _ hN12=>w_reg<|sta hA rfl rfl fun a hA=>?_
    refine o_nil<|hN12 _ _<|w_block ?_
    obtain ⟨z3,hz8,Hk6⟩:=bind_some H
    obtain ⟨n3,hn3⟩:=loopO_some hz8
    refine w_loop (fun n a w=>∃(s4:Int)(s5:List Int)(ccs5:List Value),loopN (q1_Sha.s2 c2 r2) n (s4,s5)=some z3∧InR .i64 s4∧Els (RI .u32) 1 s5 ccs5∧Fr a 282 [(2,pt g1 0),(3,(.slice (some ⟨g2,0,none⟩) 8 8)),(4,vvc2),(7,v5),(8,.int .i64 s4)]∧Iv w0 [] μ μ [row 22 1 v5 r2.length cs12,row 5 1 vvc2 c2.length ccc2,row 5 1 (.slice (some ⟨g3,0,none⟩) 1 1) ([128]:List Int).length cs3,row 22 1 (.slice (some ⟨g2,0,none⟩) 8 8) s5.length ccs5,cel g1 [av .u8 32 Z32] 24] w) n3 ⟨0,([1779033703,3144134277,1013904242,2773480762,1359893119,2600822924,528734635,1541459225]:List Int),cs1,hn3,(in_lit .i64 0 rfl),hE1,hA.sub ⟨rfl,rfl,rfl,rfl,rfl,trivial⟩,hI⟩ ?_
    clear hA hI
    rintro n a w ⟨s4,s5,ccs5,hn3,ws4,ws5,hA,hI⟩
    obtain ⟨m3,rfl,H⟩:=loopN_bind hn3
    clear hn3
    refine w_seq fun _ hN13=>w_seq fun _ hN14=>w_reg<|stm hA rfl rfl fun a hA =>
     stm hA rfl rfl fun a hA=>?_
    have hlen2:=Iv.row_in hI (j:=1) rfl
    refine stp hA (r_rlen (xs:=0) U30 hI (j:=1) rfl hA rfl) rfl fun a hA =>
     stp hA (r_lss hA rfl rfl) rfl fun a hA=>?_
    refine o_nil<|hN14 _ _<|w_cond hA rfl (fun hc3=>?_) (fun hc3=>?_)
    ·obtain ⟨hc3,H⟩:=dT H hc3
     refine w_skip<|hN13 _ _ ?_
     obtain ⟨c4,hz9,Hk7⟩:=bB H
     refine w_cut (fun a w=>∃(ccc4:List Value),Els (RI .u32) 1 c4 ccc4∧Fr a 282 [(2,pt g1 0),(3,(.slice (some ⟨g2,0,none⟩) 8 8)),(4,vvc2),(7,v5),(8,.int .i64 s4),(56,.bool (decide (s4 < (c2.length:Int))))]∧Iv w0 [] μ μ [row 22 1 v5 r2.length cs12,row 5 1 vvc2 c2.length ccc2,row 5 1 (.slice (some ⟨g3,0,none⟩) 1 1) ([128]:List Int).length cs3,row 22 1 (.slice (some ⟨g2,0,none⟩) 8 8) c4.length ccc4,cel g1 [av .u8 32 Z32] 24] w) ?_ ?_
     ·have H:=bI hz9
      refine w_block<|w_seq fun _ hN15=>w_reg ?_
      obtain ⟨hb5,H⟩:=bG H
      refine o_make (RE:=(RI .u32)) (c0:=[[.int .u32 0]].flatten) (z0:=0) ⟨rfl,(in_lit .u32 0 rfl)⟩ te22 rfl zr22 U136 hI hA rfl rfl (by have hq:=hb5;simp only [maxLen];omega) rfl fun g6 cs13 a w hE13 hA hI =>
       sta hA rfl rfl fun a hA=>?_
      refine o_nil<|hN15 _ _ ?_
      obtain ⟨c5,hz10,Hk8⟩:=bB H
      refine w_cut (fun a w=>∃(ccc5:List Value),Els (RI .u32) 1 c5 ccc5∧Fr a 282 [(2,pt g1 0),(3,(.slice (some ⟨g2,0,none⟩) 8 8)),(4,vvc2),(7,v5),(8,.int .i64 s4),(9,(.slice (some ⟨g6,0,none⟩) ((64:Int).toNat) ((64:Int).toNat))),(56,.bool (decide (s4 < (c2.length:Int))))]∧Iv w0 [] μ μ [row 22 1 (.slice (some ⟨g6,0,none⟩) ((64:Int).toNat) ((64:Int).toNat)) c5.length ccc5,row 22 1 v5 r2.length cs12,row 5 1 vvc2 c2.length ccc2,row 5 1 (.slice (some ⟨g3,0,none⟩) 1 1) ([128]:List Int).length cs3,row 22 1 (.slice (some ⟨g2,0,none⟩) 8 8) s5.length ccs5,cel g1 [av .u8 32 Z32] 24] w) ?_ ?_
      ·have H:=bI hz10
       refine w_seq fun _ hN16=>w_reg<|sta hA rfl rfl fun a hA=>?_
       refine o_nil<|hN16 _ _<|w_block ?_
       obtain ⟨z4,hz11,Hk9⟩:=bind_some H
       obtain ⟨n4,hn4⟩:=loopO_some hz11
       refine w_loop (fun n a w=>∃(s6:Int)(s7:List Int)(ccs7:List Value),loopN (q1_Sha.s3 c2 s4) n (s6,s7)=some z4∧InR .i64 s6∧Els (RI .u32) 1 s7 ccs7∧Fr a 282 [(2,pt g1 0),(3,(.slice (some ⟨g2,0,none⟩) 8 8)),(4,vvc2),(7,v5),(8,.int .i64 s4),(9,(.slice (some ⟨g6,0,none⟩) ((64:Int).toNat) ((64:Int).toNat))),(10,.int .i64 s6),(56,.bool (decide (s4 < (c2.length:Int))))]∧Iv w0 [] μ μ [row 22 1 (.slice (some ⟨g6,0,none⟩) ((64:Int).toNat) ((64:Int).toNat)) s7.length ccs7,row 22 1 v5 r2.length cs12,row 5 1 vvc2 c2.length ccc2,row 5 1 (.slice (some ⟨g3,0,none⟩) 1 1) ([128]:List Int).length cs3,row 22 1 (.slice (some ⟨g2,0,none⟩) 8 8) s5.length ccs5,cel g1 [av .u8 32 Z32] 24] w) n4 ⟨0,(List.replicate ((64:Int).toNat) 0:List Int),cs13,hn4,(in_lit .i64 0 rfl),hE13,hA.sub ⟨rfl,rfl,rfl,rfl,rfl,rfl,rfl,rfl,trivial⟩,hI⟩ ?_
       clear hA hI
       rintro n a w ⟨s6,s7,ccs7,hn4,ws6,ws7,hA,hI⟩
       obtain ⟨m4,rfl,H⟩:=loopN_bind hn4
       clear hn4
       refine w_seq fun _ hN17=>w_seq fun _ hN18=>w_reg<|stm hA rfl rfl fun a hA =>
        stp hA (r_lss hA rfl rfl) rfl fun a hA=>?_
       refine o_nil<|hN18 _ _<|w_cond hA rfl (fun hc4=>?_) (fun hc4=>?_)
       ·obtain ⟨hc4,H⟩:=dT H hc4
        refine w_skip<|hN17 _ _ ?_
        obtain ⟨c6,hz12,Hk10⟩:=bB H
        refine w_cut (fun a w=>∃(ccc6:List Value),Els (RI .u32) 1 c6 ccc6∧Fr a 282 [(2,pt g1 0),(3,(.slice (some ⟨g2,0,none⟩) 8 8)),(4,vvc2),(7,v5),(8,.int .i64 s4),(9,(.slice (some ⟨g6,0,none⟩) ((64:Int).toNat) ((64:Int).toNat))),(10,.int .i64 s6),(56,.bool (decide (s4 < (c2.length:Int)))),(61,.bool (decide (s6 < 64)))]∧Iv w0 [] μ μ [row 22 1 (.slice (some ⟨g6,0,none⟩) ((64:Int).toNat) ((64:Int).toNat)) c6.length ccc6,row 22 1 v5 r2.length cs12,row 5 1 vvc2 c2.length ccc2,row 5 1 (.slice (some ⟨g3,0,none⟩) 1 1) ([128]:List Int).length cs3,row 22 1 (.slice (some ⟨g2,0,none⟩) 8 8) s5.length ccs5,cel g1 [av .u8 32 Z32] 24] w) ?_ ?_
        ·have H:=bI hz12
         refine w_block<|w_seq fun _ hN19=>w_seq fun _ hN20=>w_reg<|stm hA rfl rfl fun a hA =>
          stp hA (r_lss hA rfl rfl) rfl fun a hA=>?_
         refine o_nil<|hN20 _ _<|w_cond hA rfl (fun hc5=>?_) (fun hc5=>?_)
         ·obtain ⟨hc5,H⟩:=dT H hc5
          refine w_seq fun _ hN21=>w_reg<|stm hA rfl rfl fun a hA =>
           stm hA rfl rfl fun a hA =>
           stp hA (r_mul hA rfl rfl) rfl fun a hA =>
           stp hA (r_add hA rfl rfl) rfl fun a hA =>
           sta hA rfl rfl fun a hA=>?_
          refine o_nil<|hN21 _ _<|w_seq fun _ hN22=>?_
          refine w_any [32] mo hI fun w hI=>?_
          refine gE 0 hA rfl (.inr hI) (fun _=>r_mv hA rfl) fun a hA=>?_
          refine gE 1 hA rfl (.inr hI) (fun _=>r_mv hA rfl) fun a hA=>?_
          refine gE 2 hA rfl (.inr hI) (fun _=>r_mv hA rfl) fun a hA=>?_
          refine gE 3 hA rfl (.inr hI) (fun _=>r_mv hA rfl) fun a hA=>?_
          obtain ⟨hb6,H⟩:=bG H
          refine gT 4 hA rfl hI (fun w hI=>r_rix (j:=2) U30 sz5 hI rfl hA rfl rfl hb6.1 hb6.2) fun a hA=>?_
          have hq1:=els_get wc2 hb6.1 hb6.2
          refine gT 5 hA rfl hI (fun w hI=>r_rld1 (j:=2) U5 rfl hI rfl hq1 hA rfl (by simp only [Nat.mul_one])) fun a hA=>?_
          refine gE 6 hA rfl (.inr hI) (fun _=>r_conv U5 U22 hA rfl) fun a hA=>?_
          refine gE 7 hA rfl (.inr hI) (fun _=>r_shl hA rfl rfl (by decide)) fun a hA=>?_
          refine gE 8 hA rfl (.inr hI) (fun _=>r_mv hA rfl) fun a hA=>?_
          refine gE 9 hA rfl (.inr hI) (fun _=>r_mv hA rfl) fun a hA=>?_
          refine gE 10 hA rfl (.inr hI) (fun _=>r_add hA rfl rfl) fun a hA=>?_
          obtain ⟨hb7,H⟩:=bG H
          refine gT 11 hA rfl hI (fun w hI=>r_rix (j:=2) U30 sz5 hI rfl hA rfl rfl hb7.1 hb7.2) fun a hA=>?_
          have hq2:=els_get wc2 hb7.1 hb7.2
          refine gT 12 hA rfl hI (fun w hI=>r_rld1 (j:=2) U5 rfl hI rfl hq2 hA rfl (by simp only [Nat.mul_one])) fun a hA=>?_
          refine gE 13 hA rfl (.inr hI) (fun _=>r_conv U5 U22 hA rfl) fun a hA=>?_
          refine gE 14 hA rfl (.inr hI) (fun _=>r_shl hA rfl rfl (by decide)) fun a hA=>?_
          refine gE 15 hA rfl (.inr hI) (fun _=>r_or hA rfl rfl) fun a hA=>?_
          refine gE 16 hA rfl (.inr hI) (fun _=>r_mv hA rfl) fun a hA=>?_
          refine gE 17 hA rfl (.inr hI) (fun _=>r_mv hA rfl) fun a hA=>?_
          refine gE 18 hA rfl (.inr hI) (fun _=>r_add hA rfl rfl) fun a hA=>?_
          obtain ⟨hb8,H⟩:=bG H
          refine gT 19 hA rfl hI (fun w hI=>r_rix (j:=2) U30 sz5 hI rfl hA rfl rfl hb8.1 hb8.2) fun a hA=>?_
          have hq3:=els_get wc2 hb8.1 hb8.2
          refine gT 20 hA rfl hI (fun w hI=>r_rld1 (j:=2) U5 rfl hI rfl hq3 hA rfl (by simp only [Nat.mul_one])) fun a hA=>?_
          refine gE 21 hA rfl (.inr hI) (fun _=>r_conv U5 U22 hA rfl) fun a hA=>?_
          refine gE 22 hA rfl (.inr hI) (fun _=>r_shl hA rfl rfl (by decide)) fun a hA=>?_
          refine gE 23 hA rfl (.inr hI) (fun _=>r_or hA rfl rfl) fun a hA=>?_
          refine gE 24 hA rfl (.inr hI) (fun _=>r_mv hA rfl) fun a hA=>?_
          refine gE 25 hA rfl (.inr hI) (fun _=>r_mv hA rfl) fun a hA=>?_
          refine gE 26 hA rfl (.inr hI) (fun _=>r_add hA rfl rfl) fun a hA=>?_
          obtain ⟨hb9,H⟩:=bG H
          refine gT 27 hA rfl hI (fun w hI=>r_rix (j:=2) U30 sz5 hI rfl hA rfl rfl hb9.1 hb9.2) fun a hA=>?_
          have hq4:=els_get wc2 hb9.1 hb9.2
          refine gT 28 hA rfl hI (fun w hI=>r_rld1 (j:=2) U5 rfl hI rfl hq4 hA rfl (by simp only [Nat.mul_one])) fun a hA=>?_
          refine gE 29 hA rfl (.inr hI) (fun _=>r_conv U5 U22 hA rfl) fun a hA=>?_
          refine gE 30 hA rfl (.inr hI) (fun _=>r_or hA rfl rfl) fun a hA=>?_
          obtain ⟨hb10,H⟩:=bG H
          refine gT 31 hA rfl hI (fun w hI=>r_rix (j:=0) U136 sz22 hI rfl hA rfl rfl hb10.1 hb10.2) fun a hA=>?_
          refine gF 32 rfl ?_
          have hE14:=els_set (x:=(bOr .u32 (bOr .u32 (bOr .u32 (sL .u32 (IntKind.u32.wrap (c2.getD (IntKind.i64.wrap (s4+(IntKind.i64.wrap (4 * s6)))).toNat 0)) 24) (sL .u32 (IntKind.u32.wrap (c2.getD (IntKind.i64.wrap ((IntKind.i64.wrap (s4+(IntKind.i64.wrap (4 * s6))))+1)).toNat 0)) 16)) (sL .u32 (IntKind.u32.wrap (c2.getD (IntKind.i64.wrap ((IntKind.i64.wrap (s4+(IntKind.i64.wrap (4 * s6))))+2)).toNat 0)) 8)) (IntKind.u32.wrap (c2.getD (IntKind.i64.wrap ((IntKind.i64.wrap (s4+(IntKind.i64.wrap (4 * s6))))+3)).toNat 0)))) ws7 s6.toNat (wrap_in _ _)
          refine o_rst (j:=0) (q:=s6.toNat) (z:=(bOr .u32 (bOr .u32 (bOr .u32 (sL .u32 (IntKind.u32.wrap (c2.getD (IntKind.i64.wrap (s4+(IntKind.i64.wrap (4 * s6)))).toNat 0)) 24) (sL .u32 (IntKind.u32.wrap (c2.getD (IntKind.i64.wrap ((IntKind.i64.wrap (s4+(IntKind.i64.wrap (4 * s6))))+1)).toNat 0)) 16)) (sL .u32 (IntKind.u32.wrap (c2.getD (IntKind.i64.wrap ((IntKind.i64.wrap (s4+(IntKind.i64.wrap (4 * s6))))+2)).toNat 0)) 8)) (IntKind.u32.wrap (c2.getD (IntKind.i64.wrap ((IntKind.i64.wrap (s4+(IntKind.i64.wrap (4 * s6))))+3)).toNat 0)))) (xs:=s7) sz22 hI rfl hA rfl rfl (by simp only [Nat.mul_one]) rfl (by omega) fun w hI=>?_
          refine o_nil<|⟨(.inl (by kernel_rfl)),?_⟩
          refine gN<|hN22 _ _<|w_exit rfl ?_
          cases sJ H
          exact ⟨ccs7.set s6.toNat (.int .u32 (bOr .u32 (bOr .u32 (bOr .u32 (sL .u32 (IntKind.u32.wrap (c2.getD (IntKind.i64.wrap (s4+(IntKind.i64.wrap (4 * s6)))).toNat 0)) 24) (sL .u32 (IntKind.u32.wrap (c2.getD (IntKind.i64.wrap ((IntKind.i64.wrap (s4+(IntKind.i64.wrap (4 * s6))))+1)).toNat 0)) 16)) (sL .u32 (IntKind.u32.wrap (c2.getD (IntKind.i64.wrap ((IntKind.i64.wrap (s4+(IntKind.i64.wrap (4 * s6))))+2)).toNat 0)) 8)) (IntKind.u32.wrap (c2.getD (IntKind.i64.wrap ((IntKind.i64.wrap (s4+(IntKind.i64.wrap (4 * s6))))+3)).toNat 0)))),hE14,hA.sub ⟨rfl,rfl,rfl,rfl,rfl,rfl,rfl,rfl,rfl,trivial⟩,hI⟩
         ·obtain ⟨hc5,H⟩:=dF H hc5
          refine w_skip<|hN19 _ _<|w_seq fun _ hN23=>w_reg<|stm hA rfl rfl fun a hA =>
           stm hA rfl rfl fun a hA =>
           stp hA (r_sub hA rfl rfl) rfl fun a hA=>?_
          obtain ⟨hb11,H⟩:=bG H
          refine stp hA (r_rix (j:=0) U136 sz22 hI rfl hA rfl rfl hb11.1 hb11.2) rfl fun a hA=>?_
          have hq5:=els_get ws7 hb11.1 hb11.2
          refine stp hA (r_rld1 (j:=0) U22 rfl hI rfl hq5 hA rfl (by simp only [Nat.mul_one])) rfl fun a hA =>
           sta hA rfl rfl fun a hA=>?_
          refine o_nil<|hN23 _ _<|w_seq fun _ hN24=>w_reg<|stm hA rfl rfl fun a hA =>
           stm hA rfl rfl fun a hA =>
           stp hA (r_sub hA rfl rfl) rfl fun a hA=>?_
          obtain ⟨hb12,H⟩:=bG H
          refine stp hA (r_rix (j:=0) U136 sz22 hI rfl hA rfl rfl hb12.1 hb12.2) rfl fun a hA=>?_
          have hq6:=els_get ws7 hb12.1 hb12.2
          refine stp hA (r_rld1 (j:=0) U22 rfl hI rfl hq6 hA rfl (by simp only [Nat.mul_one])) rfl fun a hA =>
           sta hA rfl rfl fun a hA=>?_
          refine o_nil<|hN24 _ _ ?_
          refine w_any [32] mo hI fun w hI=>?_
          refine gE 0 hA rfl (.inr hI) (fun _=>r_mv hA rfl) fun a hA=>?_
          refine gE 1 hA rfl (.inr hI) (fun _=>r_mv hA rfl) fun a hA=>?_
          refine gE 2 hA rfl (.inr hI) (fun _=>r_mv hA rfl) fun a hA=>?_
          refine gE 3 hA rfl (.inr hI) (fun _=>r_mv hA rfl) fun a hA=>?_
          refine gE 4 hA rfl (.inr hI) (fun _=>r_sub hA rfl rfl) fun a hA=>?_
          obtain ⟨hb13,H⟩:=bG H
          refine gT 5 hA rfl hI (fun w hI=>r_rix (j:=0) U136 sz22 hI rfl hA rfl rfl hb13.1 hb13.2) fun a hA=>?_
          have hq7:=els_get ws7 hb13.1 hb13.2
          refine gT 6 hA rfl hI (fun w hI=>r_rld1 (j:=0) U22 rfl hI rfl hq7 hA rfl (by simp only [Nat.mul_one])) fun a hA=>?_
          refine gE 7 hA rfl (.inr hI) (fun _=>r_mv hA rfl) fun a hA=>?_
          refine gE 9 hA rfl (.inr hI) (fun _=>r_mv hA rfl) fun a hA=>?_
          refine gE 12 hA rfl (.inr hI) (fun _=>r_mv hA rfl) fun a hA=>?_
          refine gE 13 hA rfl (.inr hI) (fun _=>r_shr hA rfl rfl (by decide)) fun a hA=>?_
          refine gE 16 hA rfl (.inr hI) (fun _=>r_mv hA rfl) fun a hA=>?_
          refine gE 17 hA rfl (.inr hI) (fun _=>r_mv hA rfl) fun a hA=>?_
          refine gE 18 hA rfl (.inr hI) (fun _=>r_sub hA rfl rfl) fun a hA=>?_
          obtain ⟨hb14,H⟩:=bG H
          refine gT 19 hA rfl hI (fun w hI=>r_rix (j:=0) U136 sz22 hI rfl hA rfl rfl hb14.1 hb14.2) fun a hA=>?_
          have hq8:=els_get ws7 hb14.1 hb14.2
          refine gT 20 hA rfl hI (fun w hI=>r_rld1 (j:=0) U22 rfl hI rfl hq8 hA rfl (by simp only [Nat.mul_one])) fun a hA=>?_
          refine gE 22 hA rfl (.inr hI) (fun _=>r_mv hA rfl) fun a hA=>?_
          refine gE 24 hA rfl (.inr hI) (fun _=>r_mv hA rfl) fun a hA=>?_
          refine gE 27 hA rfl (.inr hI) (fun _=>r_mv hA rfl) fun a hA=>?_
          refine gE 28 hA rfl (.inr hI) (fun _=>r_shr hA rfl rfl (by decide)) fun a hA=>?_
          refine gF 8 rfl ?_
          obtain ⟨r3,hr3,H⟩:=bB H
          refine o_callp (u:=.int .u32 r3) cf107 hA rfl hI (q1_right.c μ _ hI.agr (s7.getD (IntKind.i64.wrap (s6 - 15)).toNat 0) (getD_in (els_int_cs ws7).2 _) 7 (in_lit .u64 7 rfl) r3 hr3) rfl fun a w hz13 hI hA=>?_
          refine o_nil<|⟨(.inr hI),?_⟩
          refine gF 10 rfl ?_
          obtain ⟨r4,hr4,H⟩:=bB H
          refine o_callp (u:=.int .u32 r4) cf107 hA rfl hI (q1_right.c μ _ hI.agr (s7.getD (IntKind.i64.wrap (s6 - 15)).toNat 0) (getD_in (els_int_cs ws7).2 _) 18 (in_lit .u64 18 rfl) r4 hr4) rfl fun a w hz14 hI hA=>?_
          refine o_nil<|⟨(.inr hI),?_⟩
          refine gE 11 hA rfl (.inr hI) (fun _=>r_xor hA rfl rfl) fun a hA=>?_
          refine gE 14 hA rfl (.inr hI) (fun _=>r_xor hA rfl rfl) fun a hA=>?_
          refine gE 15 hA rfl (.inr hI) (fun _=>r_add hA rfl rfl) fun a hA=>?_
          refine gE 21 hA rfl (.inr hI) (fun _=>r_add hA rfl rfl) fun a hA=>?_
          refine gF 23 rfl ?_
          obtain ⟨r5,hr5,H⟩:=bB H
          refine o_callp (u:=.int .u32 r5) cf107 hA rfl hI (q1_right.c μ _ hI.agr (s7.getD (IntKind.i64.wrap (s6 - 2)).toNat 0) (getD_in (els_int_cs ws7).2 _) 17 (in_lit .u64 17 rfl) r5 hr5) rfl fun a w hz15 hI hA=>?_
          refine o_nil<|⟨(.inr hI),?_⟩
          refine gF 25 rfl ?_
          obtain ⟨r6,hr6,H⟩:=bB H
          refine o_callp (u:=.int .u32 r6) cf107 hA rfl hI (q1_right.c μ _ hI.agr (s7.getD (IntKind.i64.wrap (s6 - 2)).toNat 0) (getD_in (els_int_cs ws7).2 _) 19 (in_lit .u64 19 rfl) r6 hr6) rfl fun a w hz16 hI hA=>?_
          refine o_nil<|⟨(.inr hI),?_⟩
          refine gE 26 hA rfl (.inr hI) (fun _=>r_xor hA rfl rfl) fun a hA=>?_
          refine gE 29 hA rfl (.inr hI) (fun _=>r_xor hA rfl rfl) fun a hA=>?_
          refine gE 30 hA rfl (.inr hI) (fun _=>r_add hA rfl rfl) fun a hA=>?_
          obtain ⟨hb15,H⟩:=bG H
          refine gT 31 hA rfl hI (fun w hI=>r_rix (j:=0) U136 sz22 hI rfl hA rfl rfl hb15.1 hb15.2) fun a hA=>?_
          refine gF 32 rfl ?_
          have hE15:=els_set (x:=(IntKind.u32.wrap ((IntKind.u32.wrap ((IntKind.u32.wrap ((s7.getD (IntKind.i64.wrap (s6 - 16)).toNat 0)+(bXor .u32 (bXor .u32 r3 r4) (sR .u32 (s7.getD (IntKind.i64.wrap (s6 - 15)).toNat 0) 3))))+(s7.getD (IntKind.i64.wrap (s6 - 7)).toNat 0)))+(bXor .u32 (bXor .u32 r5 r6) (sR .u32 (s7.getD (IntKind.i64.wrap (s6 - 2)).toNat 0) 10))))) ws7 s6.toNat (wrap_in _ _)
          refine o_rst (j:=0) (q:=s6.toNat) (z:=(IntKind.u32.wrap ((IntKind.u32.wrap ((IntKind.u32.wrap ((s7.getD (IntKind.i64.wrap (s6 - 16)).toNat 0)+(bXor .u32 (bXor .u32 r3 r4) (sR .u32 (s7.getD (IntKind.i64.wrap (s6 - 15)).toNat 0) 3))))+(s7.getD (IntKind.i64.wrap (s6 - 7)).toNat 0)))+(bXor .u32 (bXor .u32 r5 r6) (sR .u32 (s7.getD (IntKind.i64.wrap (s6 - 2)).toNat 0) 10))))) (xs:=s7) sz22 hI rfl hA rfl rfl (by simp only [Nat.mul_one]) rfl (by omega) fun w hI=>?_
          refine o_nil<|⟨(.inl (by kernel_rfl)),?_⟩
          refine gN ?_
          cases sJ H
          exact ⟨ccs7.set s6.toNat (.int .u32 (IntKind.u32.wrap ((IntKind.u32.wrap ((IntKind.u32.wrap ((s7.getD (IntKind.i64.wrap (s6 - 16)).toNat 0)+(bXor .u32 (bXor .u32 r3 r4) (sR .u32 (s7.getD (IntKind.i64.wrap (s6 - 15)).toNat 0) 3))))+(s7.getD (IntKind.i64.wrap (s6 - 7)).toNat 0)))+(bXor .u32 (bXor .u32 r5 r6) (sR .u32 (s7.getD (IntKind.i64.wrap (s6 - 2)).toNat 0) 10))))),hE15,hA.sub ⟨rfl,rfl,rfl,rfl,rfl,rfl,rfl,rfl,rfl,trivial⟩,hI⟩
        ·rintro a w ⟨ccc6,wc6,hA,hI⟩
         have H:=Hk10
         refine w_reg<|stm hA rfl rfl fun a hA =>
          stp hA (r_add hA rfl rfl) rfl fun a hA =>
          sta hA rfl rfl fun a hA=>?_
         refine o_nil<|⟨m4,lS _,IntKind.i64.wrap (s6+1),c6,ccc6,H,(wrap_in _ _),wc6,hA.sub ⟨rfl,rfl,rfl,rfl,rfl,rfl,rfl,rfl,trivial⟩,hI⟩
       ·obtain ⟨hc4,H⟩:=dF H hc4
        refine w_exit rfl ?_
        have H:some s7=some z4:=H
        obtain rfl:=sI H
        have H:=Hk9
        cases sJ H
        exact ⟨ccs7,ws7,hA.sub ⟨rfl,rfl,rfl,rfl,rfl,rfl,rfl,trivial⟩,hI⟩
      ·rintro a w ⟨ccc5,wc5,hA,hI⟩
       have H:=Hk8
       refine w_seq fun _ hN25=>w_reg ?_
       have hE16:Els (RI .u32) 1 ([]:List Int) _:=Els.nil
       refine o_bsl ([]) te22 zr22 U136 hI hA rfl rfl rfl rfl (by kernel_rfl) rfl fun g7 a w hA hI=>?_
       generalize hcs:([]:List Value)=cs14 at hE16 hI
       clear hcs
       refine stm hA rfl rfl fun a hA=>?_
       obtain ⟨hb16,H⟩:=bG H
       have hE18:=hE16.app ws5
       refine o_appG (xs:=(([]:List Int):List Int)) (ys:=(s5:List Int)) (M:=35184372088832) 0 te22 U136 hI rfl hA rfl rfl (src_row hI (j:=5) rfl) ws5.len (ws5.ones (one_RI _)) hb16 rfl fun v6 a w hA hI =>
        sta hA rfl rfl fun a hA=>?_
       refine o_nil<|hN25 _ _ ?_
       obtain ⟨c7,hz17,Hk11⟩:=bB H
       refine w_cut (fun a w=>∃(vvc7:Value)(ccc7:List Value),Els (RI .u32) 1 c7 ccc7∧Fr a 282 [(2,pt g1 0),(3,(.slice (some ⟨g2,0,none⟩) 8 8)),(4,vvc2),(7,v5),(8,.int .i64 s4),(9,(.slice (some ⟨g6,0,none⟩) ((64:Int).toNat) ((64:Int).toNat))),(14,vvc7),(56,.bool (decide (s4 < (c2.length:Int))))]∧Iv w0 [] μ μ [row 22 1 vvc7 c7.length ccc7,row 22 1 (.slice (some ⟨g6,0,none⟩) ((64:Int).toNat) ((64:Int).toNat)) c5.length ccc5,row 22 1 v5 r2.length cs12,row 5 1 vvc2 c2.length ccc2,row 5 1 (.slice (some ⟨g3,0,none⟩) 1 1) ([128]:List Int).length cs3,row 22 1 (.slice (some ⟨g2,0,none⟩) 8 8) s5.length ccs5,cel g1 [av .u8 32 Z32] 24] w) ?_ ?_
       ·have H:=bI hz17
        refine w_seq fun _ hN26=>w_reg<|sta hA rfl rfl fun a hA=>?_
        refine o_nil<|hN26 _ _<|w_block ?_
        obtain ⟨z5,hz18,Hk12⟩:=bind_some H
        obtain ⟨n5,hn5⟩:=loopO_some hz18
        refine w_loop (fun n a w=>∃(s8:List Int)(s9:Int)(vvs8:Value)(ccs8:List Value),loopN (q1_Sha.s4 r2 c5) n (s8,s9)=some z5∧Els (RI .u32) 1 s8 ccs8∧InR .i64 s9∧Fr a 282 [(2,pt g1 0),(3,(.slice (some ⟨g2,0,none⟩) 8 8)),(4,vvc2),(7,v5),(8,.int .i64 s4),(9,(.slice (some ⟨g6,0,none⟩) ((64:Int).toNat) ((64:Int).toNat))),(14,vvs8),(15,.int .i64 s9),(56,.bool (decide (s4 < (c2.length:Int))))]∧Iv w0 [] μ μ [row 22 1 vvs8 s8.length ccs8,row 22 1 (.slice (some ⟨g6,0,none⟩) ((64:Int).toNat) ((64:Int).toNat)) c5.length ccc5,row 22 1 v5 r2.length cs12,row 5 1 vvc2 c2.length ccc2,row 5 1 (.slice (some ⟨g3,0,none⟩) 1 1) ([128]:List Int).length cs3,row 22 1 (.slice (some ⟨g2,0,none⟩) 8 8) s5.length ccs5,cel g1 [av .u8 32 Z32] 24] w) n5 ⟨([]:List Int)++s5,0,v6,cs14++ccs5,hn5,hE18,(in_lit .i64 0 rfl),hA.sub ⟨rfl,rfl,rfl,rfl,rfl,rfl,rfl,rfl,rfl,trivial⟩,hI⟩ ?_
        clear hA hI
        rintro n a w ⟨s8,s9,vvs8,ccs8,hn5,ws8,ws9,hA,hI⟩
        obtain ⟨m5,rfl,H⟩:=loopN_bind hn5
        clear hn5
        refine w_seq fun _ hN27=>w_seq fun _ hN28=>w_reg<|stm hA rfl rfl fun a hA =>
         stp hA (r_lss hA rfl rfl) rfl fun a hA=>?_
        refine o_nil<|hN28 _ _<|w_cond hA rfl (fun hc6=>?_) (fun hc6=>?_)
        ·obtain ⟨hc6,H⟩:=dT H hc6
         refine w_skip<|hN27 _ _<|w_seq fun _ hN29=>w_block<|w_seq fun _ hN30=>w_reg<|stm hA rfl rfl fun a hA=>?_
         obtain ⟨hb17,H⟩:=bG H
         refine stp hA (r_rix (j:=0) U136 sz22 hI rfl hA rfl rfl (by decide) hb17) rfl fun a hA=>?_
         have hq9:=els_get ws8 (by decide) hb17
         refine stp hA (r_rld1 (j:=0) U22 rfl hI rfl hq9 hA rfl (by simp only [Nat.mul_one])) rfl fun a hA =>
          sta hA rfl rfl fun a hA=>?_
         refine o_nil<|hN30 _ _<|w_seq fun _ hN31=>w_reg<|stm hA rfl rfl fun a hA=>?_
         obtain ⟨hb18,H⟩:=bG H
         refine stp hA (r_rix (j:=0) U136 sz22 hI rfl hA rfl rfl (by decide) hb18) rfl fun a hA=>?_
         have hq10:=els_get ws8 (by decide) hb18
         refine stp hA (r_rld1 (j:=0) U22 rfl hI rfl hq10 hA rfl (by simp only [Nat.mul_one])) rfl fun a hA =>
          sta hA rfl rfl fun a hA=>?_
         refine o_nil<|hN31 _ _<|w_seq fun _ hN32=>?_
         refine w_draw mo (by kernel_rfl) hI ?_
         refine qtp hA (fun _ hI=>r_mv hA rfl) rfl fun a hA=>?_
         obtain ⟨hb19,H⟩:=bG H
         refine qtp hA (fun _ hI=>r_rix (j:=0) U136 sz22 hI rfl hA rfl rfl (by decide) hb19) rfl fun a hA=>?_
         have hq11:=els_get ws8 (by decide) hb19
         refine qtp hA (fun _ hI=>r_rld1 (j:=0) U22 rfl hI rfl hq11 hA rfl (by simp only [Nat.mul_one])) rfl fun a hA =>
          qtp hA (fun _ hI=>r_mv hA rfl) rfl fun a hA=>?_
         obtain ⟨r7,hr7,H⟩:=bB H
         refine qcall (v:=.int .u32 r7) cf107 hA rfl (fun _ hI=>plq (q1_right.c μ _ hI.agr (s8.getD (4:Int).toNat 0) (getD_in (els_int_cs ws8).2 _) 6 (in_lit .u64 6 rfl) r7 hr7) hI) rfl fun a hA =>
          qtp hA (fun _ hI=>r_mv hA rfl) rfl fun a hA=>?_
         obtain ⟨r8,hr8,H⟩:=bB H
         refine qcall (v:=.int .u32 r8) cf107 hA rfl (fun _ hI=>plq (q1_right.c μ _ hI.agr (s8.getD (4:Int).toNat 0) (getD_in (els_int_cs ws8).2 _) 11 (in_lit .u64 11 rfl) r8 hr8) hI) rfl fun a hA =>
          qtp hA (fun _ hI=>r_xor hA rfl rfl) rfl fun a hA =>
          qtp hA (fun _ hI=>r_mv hA rfl) rfl fun a hA=>?_
         obtain ⟨r9,hr9,H⟩:=bB H
         refine qcall (v:=.int .u32 r9) cf107 hA rfl (fun _ hI=>plq (q1_right.c μ _ hI.agr (s8.getD (4:Int).toNat 0) (getD_in (els_int_cs ws8).2 _) 25 (in_lit .u64 25 rfl) r9 hr9) hI) rfl fun a hA =>
          qtp hA (fun _ hI=>r_xor hA rfl rfl) rfl fun a hA =>
          qtp hA (fun _ hI=>r_add hA rfl rfl) rfl fun a hA =>
          qtp hA (fun _ hI=>r_mv hA rfl) rfl fun a hA =>
          qtp hA (fun _ hI=>r_mv hA rfl) rfl fun a hA=>?_
         obtain ⟨hb20,H⟩:=bG H
         refine qtp hA (fun _ hI=>r_rix (j:=0) U136 sz22 hI rfl hA rfl rfl (by decide) hb20) rfl fun a hA=>?_
         have hq12:=els_get ws8 (by decide) hb20
         refine qtp hA (fun _ hI=>r_rld1 (j:=0) U22 rfl hI rfl hq12 hA rfl (by simp only [Nat.mul_one])) rfl fun a hA =>
          qtp hA (fun _ hI=>r_and hA rfl rfl) rfl fun a hA =>
          qtp hA (fun _ hI=>r_mv hA rfl) rfl fun a hA =>
          qtp hA (fun _ hI=>r_inv hA rfl) rfl fun a hA =>
          qtp hA (fun _ hI=>r_mv hA rfl) rfl fun a hA=>?_
         obtain ⟨hb21,H⟩:=bG H
         refine qtp hA (fun _ hI=>r_rix (j:=0) U136 sz22 hI rfl hA rfl rfl (by decide) hb21) rfl fun a hA=>?_
         have hq13:=els_get ws8 (by decide) hb21
         refine qtp hA (fun _ hI=>r_rld1 (j:=0) U22 rfl hI rfl hq13 hA rfl (by simp only [Nat.mul_one])) rfl fun a hA =>
          qtp hA (fun _ hI=>r_and hA rfl rfl) rfl fun a hA =>
          qtp hA (fun _ hI=>r_xor hA rfl rfl) rfl fun a hA =>
          qtp hA (fun _ hI=>r_add hA rfl rfl) rfl fun a hA =>
          qtp hA (fun _ hI=>r_mv hA rfl) rfl fun a hA =>
          qtp hA (fun _ hI=>r_mv hA rfl) rfl fun a hA=>?_
         obtain ⟨hb22,H⟩:=bG H
         refine qtp hA (fun _ hI=>r_rix (j:=2) U136 sz22 hI rfl hA rfl rfl hb22.1 hb22.2) rfl fun a hA=>?_
         have hq14:=els_get hE12 hb22.1 hb22.2
         refine qtp hA (fun _ hI=>r_rld1 (j:=2) U22 rfl hI rfl hq14 hA rfl (by simp only [Nat.mul_one])) rfl fun a hA =>
          qtp hA (fun _ hI=>r_add hA rfl rfl) rfl fun a hA =>
          qtp hA (fun _ hI=>r_mv hA rfl) rfl fun a hA =>
          qtp hA (fun _ hI=>r_mv hA rfl) rfl fun a hA=>?_
         obtain ⟨hb23,H⟩:=bG H
         refine qtp hA (fun _ hI=>r_rix (j:=1) U136 sz22 hI rfl hA rfl rfl hb23.1 hb23.2) rfl fun a hA=>?_
         have hq15:=els_get wc5 hb23.1 hb23.2
         refine qtp hA (fun _ hI=>r_rld1 (j:=1) U22 rfl hI rfl hq15 hA rfl (by simp only [Nat.mul_one])) rfl fun a hA =>
          qtp hA (fun _ hI=>r_add hA rfl rfl) rfl fun a hA =>
          qtp hA (fun _ hI=>r_as hA rfl) rfl fun a hA=>?_
         refine q_nil fun w hI=>?_
         refine hN32 _ _<|w_seq fun _ hN33=>?_
         refine w_draw mo (by kernel_rfl) hI ?_
         refine qtp hA (fun _ hI=>r_mv hA rfl) rfl fun a hA=>?_
         obtain ⟨r10,hr10,H⟩:=bB H
         refine qcall (v:=.int .u32 r10) cf107 hA rfl (fun _ hI=>plq (q1_right.c μ _ hI.agr (s8.getD (0:Int).toNat 0) (getD_in (els_int_cs ws8).2 _) 2 (in_lit .u64 2 rfl) r10 hr10) hI) rfl fun a hA =>
          qtp hA (fun _ hI=>r_mv hA rfl) rfl fun a hA=>?_
         obtain ⟨r11,hr11,H⟩:=bB H
         refine qcall (v:=.int .u32 r11) cf107 hA rfl (fun _ hI=>plq (q1_right.c μ _ hI.agr (s8.getD (0:Int).toNat 0) (getD_in (els_int_cs ws8).2 _) 13 (in_lit .u64 13 rfl) r11 hr11) hI) rfl fun a hA =>
          qtp hA (fun _ hI=>r_xor hA rfl rfl) rfl fun a hA =>
          qtp hA (fun _ hI=>r_mv hA rfl) rfl fun a hA=>?_
         obtain ⟨r12,hr12,H⟩:=bB H
         refine qcall (v:=.int .u32 r12) cf107 hA rfl (fun _ hI=>plq (q1_right.c μ _ hI.agr (s8.getD (0:Int).toNat 0) (getD_in (els_int_cs ws8).2 _) 22 (in_lit .u64 22 rfl) r12 hr12) hI) rfl fun a hA =>
          qtp hA (fun _ hI=>r_xor hA rfl rfl) rfl fun a hA =>
          qtp hA (fun _ hI=>r_mv hA rfl) rfl fun a hA =>
          qtp hA (fun _ hI=>r_mv hA rfl) rfl fun a hA=>?_
         obtain ⟨hb24,H⟩:=bG H
         refine qtp hA (fun _ hI=>r_rix (j:=0) U136 sz22 hI rfl hA rfl rfl (by decide) hb24) rfl fun a hA=>?_
         have hq16:=els_get ws8 (by decide) hb24
         refine qtp hA (fun _ hI=>r_rld1 (j:=0) U22 rfl hI rfl hq16 hA rfl (by simp only [Nat.mul_one])) rfl fun a hA =>
          qtp hA (fun _ hI=>r_and hA rfl rfl) rfl fun a hA =>
          qtp hA (fun _ hI=>r_mv hA rfl) rfl fun a hA =>
          qtp hA (fun _ hI=>r_mv hA rfl) rfl fun a hA=>?_
         obtain ⟨hb25,H⟩:=bG H
         refine qtp hA (fun _ hI=>r_rix (j:=0) U136 sz22 hI rfl hA rfl rfl (by decide) hb25) rfl fun a hA=>?_
         have hq17:=els_get ws8 (by decide) hb25
         refine qtp hA (fun _ hI=>r_rld1 (j:=0) U22 rfl hI rfl hq17 hA rfl (by simp only [Nat.mul_one])) rfl fun a hA =>
          qtp hA (fun _ hI=>r_and hA rfl rfl) rfl fun a hA =>
          qtp hA (fun _ hI=>r_xor hA rfl rfl) rfl fun a hA =>
          qtp hA (fun _ hI=>r_mv hA rfl) rfl fun a hA =>
          qtp hA (fun _ hI=>r_rix (j:=0) U136 sz22 hI rfl hA rfl rfl (by decide) hb24) rfl fun a hA=>?_
         have hq18:=els_get ws8 (by decide) hb24
         refine qtp hA (fun _ hI=>r_rld1 (j:=0) U22 rfl hI rfl hq18 hA rfl (by simp only [Nat.mul_one])) rfl fun a hA =>
          qtp hA (fun _ hI=>r_mv hA rfl) rfl fun a hA =>
          qtp hA (fun _ hI=>r_rix (j:=0) U136 sz22 hI rfl hA rfl rfl (by decide) hb25) rfl fun a hA=>?_
         have hq19:=els_get ws8 (by decide) hb25
         refine qtp hA (fun _ hI=>r_rld1 (j:=0) U22 rfl hI rfl hq19 hA rfl (by simp only [Nat.mul_one])) rfl fun a hA =>
          qtp hA (fun _ hI=>r_and hA rfl rfl) rfl fun a hA =>
          qtp hA (fun _ hI=>r_xor hA rfl rfl) rfl fun a hA =>
          qtp hA (fun _ hI=>r_add hA rfl rfl) rfl fun a hA =>
          qtp hA (fun _ hI=>r_as hA rfl) rfl fun a hA=>?_
         refine q_nil fun w hI=>?_
         refine hN33 _ _ ?_
         refine w_any [] mo hI fun w hI=>?_
         refine gE 0 hA rfl (.inr hI) (fun _=>r_mv hA rfl) fun a hA=>?_
         refine gE 1 hA rfl (.inr hI) (fun _=>r_mv hA rfl) fun a hA=>?_
         refine gE 2 hA rfl (.inr hI) (fun _=>r_add hA rfl rfl) fun a hA=>?_
         refine gE 3 hA rfl (.inr hI) (fun _=>r_mv hA rfl) fun a hA=>?_
         refine gT 4 hA rfl hI (fun w hI=>r_rix (j:=0) U136 sz22 hI rfl hA rfl rfl (by decide) hb18) fun a hA=>?_
         have hq20:=els_get ws8 (by decide) hb18
         refine gT 5 hA rfl hI (fun w hI=>r_rld1 (j:=0) U22 rfl hI rfl hq20 hA rfl (by simp only [Nat.mul_one])) fun a hA=>?_
         refine gE 6 hA rfl (.inr hI) (fun _=>r_mv hA rfl) fun a hA=>?_
         refine gT 7 hA rfl hI (fun w hI=>r_rix (j:=0) U136 sz22 hI rfl hA rfl rfl (by decide) hb24) fun a hA=>?_
         have hq21:=els_get ws8 (by decide) hb24
         refine gT 8 hA rfl hI (fun w hI=>r_rld1 (j:=0) U22 rfl hI rfl hq21 hA rfl (by simp only [Nat.mul_one])) fun a hA=>?_
         refine gE 9 hA rfl (.inr hI) (fun _=>r_mv hA rfl) fun a hA=>?_
         refine gT 10 hA rfl hI (fun w hI=>r_rix (j:=0) U136 sz22 hI rfl hA rfl rfl (by decide) hb25) fun a hA=>?_
         have hq22:=els_get ws8 (by decide) hb25
         refine gT 11 hA rfl hI (fun w hI=>r_rld1 (j:=0) U22 rfl hI rfl hq22 hA rfl (by simp only [Nat.mul_one])) fun a hA=>?_
         refine gE 12 hA rfl (.inr hI) (fun _=>r_mv hA rfl) fun a hA=>?_
         obtain ⟨hb26,H⟩:=bG H
         refine gT 13 hA rfl hI (fun w hI=>r_rix (j:=0) U136 sz22 hI rfl hA rfl rfl (by decide) hb26) fun a hA=>?_
         have hq23:=els_get ws8 (by decide) hb26
         refine gT 14 hA rfl hI (fun w hI=>r_rld1 (j:=0) U22 rfl hI rfl hq23 hA rfl (by simp only [Nat.mul_one])) fun a hA=>?_
         refine gE 15 hA rfl (.inr hI) (fun _=>r_mv hA rfl) fun a hA=>?_
         refine gE 16 hA rfl (.inr hI) (fun _=>r_add hA rfl rfl) fun a hA=>?_
         refine gE 17 hA rfl (.inr hI) (fun _=>r_mv hA rfl) fun a hA=>?_
         refine gT 18 hA rfl hI (fun w hI=>r_rix (j:=0) U136 sz22 hI rfl hA rfl rfl (by decide) hb17) fun a hA=>?_
         have hq24:=els_get ws8 (by decide) hb17
         refine gT 19 hA rfl hI (fun w hI=>r_rld1 (j:=0) U22 rfl hI rfl hq24 hA rfl (by simp only [Nat.mul_one])) fun a hA=>?_
         refine gE 20 hA rfl (.inr hI) (fun _=>r_mv hA rfl) fun a hA=>?_
         refine gT 21 hA rfl hI (fun w hI=>r_rix (j:=0) U136 sz22 hI rfl hA rfl rfl (by decide) hb20) fun a hA=>?_
         have hq25:=els_get ws8 (by decide) hb20
         refine gT 22 hA rfl hI (fun w hI=>r_rld1 (j:=0) U22 rfl hI rfl hq25 hA rfl (by simp only [Nat.mul_one])) fun a hA=>?_
         refine gE 23 hA rfl (.inr hI) (fun _=>r_mv hA rfl) fun a hA=>?_
         refine gT 24 hA rfl hI (fun w hI=>r_rix (j:=0) U136 sz22 hI rfl hA rfl rfl (by decide) hb21) fun a hA=>?_
         have hq26:=els_get ws8 (by decide) hb21
         refine gT 25 hA rfl hI (fun w hI=>r_rld1 (j:=0) U22 rfl hI rfl hq26 hA rfl (by simp only [Nat.mul_one])) fun a hA=>?_
         refine gF 26 rfl ?_
         have hE19:Els (RI .u32) 1 ([IntKind.u32.wrap ((IntKind.u32.wrap ((IntKind.u32.wrap ((IntKind.u32.wrap ((IntKind.u32.wrap ((s8.getD (7:Int).toNat 0)+(bXor .u32 (bXor .u32 r7 r8) r9)))+(bXor .u32 (bAnd .u32 (s8.getD (4:Int).toNat 0) (s8.getD (5:Int).toNat 0)) (bAnd .u32 (bNot .u32 (s8.getD (4:Int).toNat 0)) (s8.getD (6:Int).toNat 0)))))+(r2.getD s9.toNat 0)))+(c5.getD s9.toNat 0)))+(IntKind.u32.wrap ((bXor .u32 (bXor .u32 r10 r11) r12)+(bXor .u32 (bXor .u32 (bAnd .u32 (s8.getD (0:Int).toNat 0) (s8.getD (1:Int).toNat 0)) (bAnd .u32 (s8.getD (0:Int).toNat 0) (s8.getD (2:Int).toNat 0))) (bAnd .u32 (s8.getD (1:Int).toNat 0) (s8.getD (2:Int).toNat 0)))))),s8.getD (0:Int).toNat 0,s8.getD (1:Int).toNat 0,s8.getD (2:Int).toNat 0,IntKind.u32.wrap ((s8.getD (3:Int).toNat 0)+(IntKind.u32.wrap ((IntKind.u32.wrap ((IntKind.u32.wrap ((IntKind.u32.wrap ((s8.getD (7:Int).toNat 0)+(bXor .u32 (bXor .u32 r7 r8) r9)))+(bXor .u32 (bAnd .u32 (s8.getD (4:Int).toNat 0) (s8.getD (5:Int).toNat 0)) (bAnd .u32 (bNot .u32 (s8.getD (4:Int).toNat 0)) (s8.getD (6:Int).toNat 0)))))+(r2.getD s9.toNat 0)))+(c5.getD s9.toNat 0)))),s8.getD (4:Int).toNat 0,s8.getD (5:Int).toNat 0,s8.getD (6:Int).toNat 0]:List Int) _:=(Els.cons (c:=[[.int .u32 (IntKind.u32.wrap ((IntKind.u32.wrap ((IntKind.u32.wrap ((IntKind.u32.wrap ((IntKind.u32.wrap ((s8.getD (7:Int).toNat 0)+(bXor .u32 (bXor .u32 r7 r8) r9)))+(bXor .u32 (bAnd .u32 (s8.getD (4:Int).toNat 0) (s8.getD (5:Int).toNat 0)) (bAnd .u32 (bNot .u32 (s8.getD (4:Int).toNat 0)) (s8.getD (6:Int).toNat 0)))))+(r2.getD s9.toNat 0)))+(c5.getD s9.toNat 0)))+(IntKind.u32.wrap ((bXor .u32 (bXor .u32 r10 r11) r12)+(bXor .u32 (bXor .u32 (bAnd .u32 (s8.getD (0:Int).toNat 0) (s8.getD (1:Int).toNat 0)) (bAnd .u32 (s8.getD (0:Int).toNat 0) (s8.getD (2:Int).toNat 0))) (bAnd .u32 (s8.getD (1:Int).toNat 0) (s8.getD (2:Int).toNat 0)))))))]].flatten) ⟨rfl,(wrap_in _ _)⟩ rfl (Els.cons (c:=[[.int .u32 (s8.getD (0:Int).toNat 0)]].flatten) ⟨rfl,(getD_in (els_int_cs ws8).2 _)⟩ rfl (Els.cons (c:=[[.int .u32 (s8.getD (1:Int).toNat 0)]].flatten) ⟨rfl,(getD_in (els_int_cs ws8).2 _)⟩ rfl (Els.cons (c:=[[.int .u32 (s8.getD (2:Int).toNat 0)]].flatten) ⟨rfl,(getD_in (els_int_cs ws8).2 _)⟩ rfl (Els.cons (c:=[[.int .u32 (IntKind.u32.wrap ((s8.getD (3:Int).toNat 0)+(IntKind.u32.wrap ((IntKind.u32.wrap ((IntKind.u32.wrap ((IntKind.u32.wrap ((s8.getD (7:Int).toNat 0)+(bXor .u32 (bXor .u32 r7 r8) r9)))+(bXor .u32 (bAnd .u32 (s8.getD (4:Int).toNat 0) (s8.getD (5:Int).toNat 0)) (bAnd .u32 (bNot .u32 (s8.getD (4:Int).toNat 0)) (s8.getD (6:Int).toNat 0)))))+(r2.getD s9.toNat 0)))+(c5.getD s9.toNat 0)))))]].flatten) ⟨rfl,(wrap_in _ _)⟩ rfl (Els.cons (c:=[[.int .u32 (s8.getD (4:Int).toNat 0)]].flatten) ⟨rfl,(getD_in (els_int_cs ws8).2 _)⟩ rfl (Els.cons (c:=[[.int .u32 (s8.getD (5:Int).toNat 0)]].flatten) ⟨rfl,(getD_in (els_int_cs ws8).2 _)⟩ rfl (Els.cons (c:=[[.int .u32 (s8.getD (6:Int).toNat 0)]].flatten) ⟨rfl,(getD_in (els_int_cs ws8).2 _)⟩ rfl Els.nil))))))))
         refine o_bsl ([[.int .u32 (IntKind.u32.wrap ((IntKind.u32.wrap ((IntKind.u32.wrap ((IntKind.u32.wrap ((IntKind.u32.wrap ((s8.getD (7:Int).toNat 0)+(bXor .u32 (bXor .u32 r7 r8) r9)))+(bXor .u32 (bAnd .u32 (s8.getD (4:Int).toNat 0) (s8.getD (5:Int).toNat 0)) (bAnd .u32 (bNot .u32 (s8.getD (4:Int).toNat 0)) (s8.getD (6:Int).toNat 0)))))+(r2.getD s9.toNat 0)))+(c5.getD s9.toNat 0)))+(IntKind.u32.wrap ((bXor .u32 (bXor .u32 r10 r11) r12)+(bXor .u32 (bXor .u32 (bAnd .u32 (s8.getD (0:Int).toNat 0) (s8.getD (1:Int).toNat 0)) (bAnd .u32 (s8.getD (0:Int).toNat 0) (s8.getD (2:Int).toNat 0))) (bAnd .u32 (s8.getD (1:Int).toNat 0) (s8.getD (2:Int).toNat 0)))))))]].flatten++([[.int .u32 (s8.getD (0:Int).toNat 0)]].flatten++([[.int .u32 (s8.getD (1:Int).toNat 0)]].flatten++([[.int .u32 (s8.getD (2:Int).toNat 0)]].flatten++([[.int .u32 (IntKind.u32.wrap ((s8.getD (3:Int).toNat 0)+(IntKind.u32.wrap ((IntKind.u32.wrap ((IntKind.u32.wrap ((IntKind.u32.wrap ((s8.getD (7:Int).toNat 0)+(bXor .u32 (bXor .u32 r7 r8) r9)))+(bXor .u32 (bAnd .u32 (s8.getD (4:Int).toNat 0) (s8.getD (5:Int).toNat 0)) (bAnd .u32 (bNot .u32 (s8.getD (4:Int).toNat 0)) (s8.getD (6:Int).toNat 0)))))+(r2.getD s9.toNat 0)))+(c5.getD s9.toNat 0)))))]].flatten++([[.int .u32 (s8.getD (4:Int).toNat 0)]].flatten++([[.int .u32 (s8.getD (5:Int).toNat 0)]].flatten++([[.int .u32 (s8.getD (6:Int).toNat 0)]].flatten++([]))))))))) te22 zr22 U136 hI hA rfl rfl rfl rfl (by kernel_rfl) rfl fun g8 a w hA hI=>?_
         generalize hcs:([[.int .u32 (IntKind.u32.wrap ((IntKind.u32.wrap ((IntKind.u32.wrap ((IntKind.u32.wrap ((IntKind.u32.wrap ((s8.getD (7:Int).toNat 0)+(bXor .u32 (bXor .u32 r7 r8) r9)))+(bXor .u32 (bAnd .u32 (s8.getD (4:Int).toNat 0) (s8.getD (5:Int).toNat 0)) (bAnd .u32 (bNot .u32 (s8.getD (4:Int).toNat 0)) (s8.getD (6:Int).toNat 0)))))+(r2.getD s9.toNat 0)))+(c5.getD s9.toNat 0)))+(IntKind.u32.wrap ((bXor .u32 (bXor .u32 r10 r11) r12)+(bXor .u32 (bXor .u32 (bAnd .u32 (s8.getD (0:Int).toNat 0) (s8.getD (1:Int).toNat 0)) (bAnd .u32 (s8.getD (0:Int).toNat 0) (s8.getD (2:Int).toNat 0))) (bAnd .u32 (s8.getD (1:Int).toNat 0) (s8.getD (2:Int).toNat 0)))))))]].flatten++([[.int .u32 (s8.getD (0:Int).toNat 0)]].flatten++([[.int .u32 (s8.getD (1:Int).toNat 0)]].flatten++([[.int .u32 (s8.getD (2:Int).toNat 0)]].flatten++([[.int .u32 (IntKind.u32.wrap ((s8.getD (3:Int).toNat 0)+(IntKind.u32.wrap ((IntKind.u32.wrap ((IntKind.u32.wrap ((IntKind.u32.wrap ((s8.getD (7:Int).toNat 0)+(bXor .u32 (bXor .u32 r7 r8) r9)))+(bXor .u32 (bAnd .u32 (s8.getD (4:Int).toNat 0) (s8.getD (5:Int).toNat 0)) (bAnd .u32 (bNot .u32 (s8.getD (4:Int).toNat 0)) (s8.getD (6:Int).toNat 0)))))+(r2.getD s9.toNat 0)))+(c5.getD s9.toNat 0)))))]].flatten++([[.int .u32 (s8.getD (4:Int).toNat 0)]].flatten++([[.int .u32 (s8.getD (5:Int).toNat 0)]].flatten++([[.int .u32 (s8.getD (6:Int).toNat 0)]].flatten++([])))))))):List Value)=cs17 at hE19 hI
         clear hcs
         refine o_nil<|⟨(.inr (hI.sl [1,2,3,4,5,6,7] rfl)),?_⟩
         refine gE 27 hA rfl (.inr (hI.sl [1,2,3,4,5,6,7] rfl)) (fun _=>r_as hA rfl) fun a hA=>?_
         refine gN<|hN29 _ _<|w_reg<|stm hA rfl rfl fun a hA =>
          stp hA (r_add hA rfl rfl) rfl fun a hA =>
          sta hA rfl rfl fun a hA=>?_
         refine o_nil<|⟨m5,lS _,([IntKind.u32.wrap ((IntKind.u32.wrap ((IntKind.u32.wrap ((IntKind.u32.wrap ((IntKind.u32.wrap ((s8.getD (7:Int).toNat 0)+(bXor .u32 (bXor .u32 r7 r8) r9)))+(bXor .u32 (bAnd .u32 (s8.getD (4:Int).toNat 0) (s8.getD (5:Int).toNat 0)) (bAnd .u32 (bNot .u32 (s8.getD (4:Int).toNat 0)) (s8.getD (6:Int).toNat 0)))))+(r2.getD s9.toNat 0)))+(c5.getD s9.toNat 0)))+(IntKind.u32.wrap ((bXor .u32 (bXor .u32 r10 r11) r12)+(bXor .u32 (bXor .u32 (bAnd .u32 (s8.getD (0:Int).toNat 0) (s8.getD (1:Int).toNat 0)) (bAnd .u32 (s8.getD (0:Int).toNat 0) (s8.getD (2:Int).toNat 0))) (bAnd .u32 (s8.getD (1:Int).toNat 0) (s8.getD (2:Int).toNat 0)))))),s8.getD (0:Int).toNat 0,s8.getD (1:Int).toNat 0,s8.getD (2:Int).toNat 0,IntKind.u32.wrap ((s8.getD (3:Int).toNat 0)+(IntKind.u32.wrap ((IntKind.u32.wrap ((IntKind.u32.wrap ((IntKind.u32.wrap ((s8.getD (7:Int).toNat 0)+(bXor .u32 (bXor .u32 r7 r8) r9)))+(bXor .u32 (bAnd .u32 (s8.getD (4:Int).toNat 0) (s8.getD (5:Int).toNat 0)) (bAnd .u32 (bNot .u32 (s8.getD (4:Int).toNat 0)) (s8.getD (6:Int).toNat 0)))))+(r2.getD s9.toNat 0)))+(c5.getD s9.toNat 0)))),s8.getD (4:Int).toNat 0,s8.getD (5:Int).toNat 0,s8.getD (6:Int).toNat 0]:List Int),IntKind.i64.wrap (s9+1),(.slice (some ⟨g8,0,none⟩) 8 8),cs17,H,hE19,(wrap_in _ _),hA.sub ⟨rfl,rfl,rfl,rfl,rfl,rfl,rfl,rfl,rfl,trivial⟩,(hI.sl [0,2,3,4,5,6,7] rfl)⟩
        ·obtain ⟨hc6,H⟩:=dF H hc6
         refine w_exit rfl ?_
         have H:some s8=some z5:=H
         obtain rfl:=sI H
         have H:=Hk12
         cases sJ H
         exact ⟨vvs8,ccs8,ws8,hA.sub ⟨rfl,rfl,rfl,rfl,rfl,rfl,rfl,rfl,trivial⟩,hI⟩
       ·rintro a w ⟨vvc7,ccc7,wc7,hA,hI⟩
        have H:=Hk11
        refine w_seq fun _ hN34=>w_reg<|sta hA rfl rfl fun a hA=>?_
        refine o_nil<|hN34 _ _<|w_block ?_
        obtain ⟨z6,hz25,Hk13⟩:=bind_some H
        obtain ⟨n6,hn6⟩:=loopO_some hz25
        refine w_loop (fun n a w=>∃(s10:Int)(s11:List Int)(ccs11:List Value),loopN (q1_Sha.s5 c7) n (s10,s11)=some z6∧InR .i64 s10∧Els (RI .u32) 1 s11 ccs11∧Fr a 282 [(2,pt g1 0),(3,(.slice (some ⟨g2,0,none⟩) 8 8)),(4,vvc2),(7,v5),(8,.int .i64 s4),(9,(.slice (some ⟨g6,0,none⟩) ((64:Int).toNat) ((64:Int).toNat))),(14,vvc7),(20,.int .i64 s10),(56,.bool (decide (s4 < (c2.length:Int))))]∧Iv w0 [] μ μ [row 22 1 vvc7 c7.length ccc7,row 22 1 (.slice (some ⟨g6,0,none⟩) ((64:Int).toNat) ((64:Int).toNat)) c5.length ccc5,row 22 1 v5 r2.length cs12,row 5 1 vvc2 c2.length ccc2,row 5 1 (.slice (some ⟨g3,0,none⟩) 1 1) ([128]:List Int).length cs3,row 22 1 (.slice (some ⟨g2,0,none⟩) 8 8) s11.length ccs11,cel g1 [av .u8 32 Z32] 24] w) n6 ⟨0,s5,ccs5,hn6,(in_lit .i64 0 rfl),ws5,hA.sub ⟨rfl,rfl,rfl,rfl,rfl,rfl,rfl,rfl,rfl,trivial⟩,hI⟩ ?_
        clear hA hI
        rintro n a w ⟨s10,s11,ccs11,hn6,ws10,ws11,hA,hI⟩
        obtain ⟨m6,rfl,H⟩:=loopN_bind hn6
        clear hn6
        refine w_seq fun _ hN35=>w_seq fun _ hN36=>w_reg<|stm hA rfl rfl fun a hA =>
         stp hA (r_lss hA rfl rfl) rfl fun a hA=>?_
        refine o_nil<|hN36 _ _<|w_cond hA rfl (fun hc7=>?_) (fun hc7=>?_)
        ·obtain ⟨hc7,H⟩:=dT H hc7
         refine w_skip<|hN35 _ _<|w_seq fun _ hN37=>w_block ?_
         refine w_any [12] mo hI fun w hI=>?_
         refine gE 0 hA rfl (.inr hI) (fun _=>r_mv hA rfl) fun a hA=>?_
         refine gE 1 hA rfl (.inr hI) (fun _=>r_mv hA rfl) fun a hA=>?_
         refine gE 2 hA rfl (.inr hI) (fun _=>r_mv hA rfl) fun a hA=>?_
         refine gE 3 hA rfl (.inr hI) (fun _=>r_mv hA rfl) fun a hA=>?_
         obtain ⟨hb27,H⟩:=bG H
         refine gT 4 hA rfl hI (fun w hI=>r_rix (j:=5) U136 sz22 hI rfl hA rfl rfl hb27.1 hb27.2) fun a hA=>?_
         have hq27:=els_get ws11 hb27.1 hb27.2
         refine gT 5 hA rfl hI (fun w hI=>r_rld1 (j:=5) U22 rfl hI rfl hq27 hA rfl (by simp only [Nat.mul_one])) fun a hA=>?_
         refine gE 6 hA rfl (.inr hI) (fun _=>r_mv hA rfl) fun a hA=>?_
         refine gE 7 hA rfl (.inr hI) (fun _=>r_mv hA rfl) fun a hA=>?_
         obtain ⟨hb28,H⟩:=bG H
         refine gT 8 hA rfl hI (fun w hI=>r_rix (j:=0) U136 sz22 hI rfl hA rfl rfl hb28.1 hb28.2) fun a hA=>?_
         have hq28:=els_get wc7 hb28.1 hb28.2
         refine gT 9 hA rfl hI (fun w hI=>r_rld1 (j:=0) U22 rfl hI rfl hq28 hA rfl (by simp only [Nat.mul_one])) fun a hA=>?_
         refine gE 10 hA rfl (.inr hI) (fun _=>r_add hA rfl rfl) fun a hA=>?_
         refine gT 11 hA rfl hI (fun w hI=>r_rix (j:=5) U136 sz22 hI rfl hA rfl rfl hb27.1 hb27.2) fun a hA=>?_
         refine gF 12 rfl ?_
         have hE20:=els_set (x:=(IntKind.u32.wrap ((s11.getD s10.toNat 0)+(c7.getD s10.toNat 0)))) ws11 s10.toNat (wrap_in _ _)
         refine o_rst (j:=5) (q:=s10.toNat) (z:=(IntKind.u32.wrap ((s11.getD s10.toNat 0)+(c7.getD s10.toNat 0)))) (xs:=s11) sz22 hI rfl hA rfl rfl (by simp only [Nat.mul_one]) rfl (by omega) fun w hI=>?_
         refine o_nil<|⟨(.inl (by kernel_rfl)),?_⟩
         refine gN<|hN37 _ _<|w_reg<|stm hA rfl rfl fun a hA =>
          stp hA (r_add hA rfl rfl) rfl fun a hA =>
          sta hA rfl rfl fun a hA=>?_
         refine o_nil<|⟨m6,lS _,IntKind.i64.wrap (s10+1),s11.set s10.toNat (IntKind.u32.wrap ((s11.getD s10.toNat 0)+(c7.getD s10.toNat 0))),ccs11.set s10.toNat (.int .u32 (IntKind.u32.wrap ((s11.getD s10.toNat 0)+(c7.getD s10.toNat 0)))),H,(wrap_in _ _),hE20,hA.sub ⟨rfl,rfl,rfl,rfl,rfl,rfl,rfl,rfl,rfl,trivial⟩,hI⟩
        ·obtain ⟨hc7,H⟩:=dF H hc7
         refine w_exit rfl ?_
         have H:some s11=some z6:=H
         obtain rfl:=sI H
         have H:=Hk13
         cases sJ H
         exact ⟨ccs11,ws11,hA.sub ⟨rfl,rfl,rfl,rfl,rfl,rfl,trivial⟩,(hI.sl [2,3,4,5,6] rfl)⟩
     ·rintro a w ⟨ccc4,wc4,hA,hI⟩
      have H:=Hk7
      refine w_reg<|stm hA rfl rfl fun a hA =>
       stp hA (r_add hA rfl rfl) rfl fun a hA =>
       sta hA rfl rfl fun a hA=>?_
      refine o_nil<|⟨m3,lS _,IntKind.i64.wrap (s4+64),c4,ccc4,H,(wrap_in _ _),wc4,hA.sub ⟨rfl,rfl,rfl,rfl,rfl,trivial⟩,hI⟩
    ·obtain ⟨hc3,H⟩:=dF H hc3
     refine w_exit rfl ?_
     have H:some s5=some z3:=H
     obtain rfl:=sI H
     have H:=Hk6
     cases sJ H
     exact ⟨ccs5,ws5,hA.sub ⟨rfl,rfl,trivial⟩,hI⟩
   ·rintro a w ⟨ccc3,wc3,hA,hI⟩
    have H:=Hk5
    refine w_seq fun _ hN38=>w_reg<|o_new [av .u8 32 Z32] zr24 hI hA rfl fun g9 a w hA hI hg9=>?_
    refine o_nil<|hN38 _ _ ?_
    obtain ⟨c8,hz26,Hk14⟩:=bB H
    refine w_cut (fun a w=>Arr .u8 32 c8∧Fr a 282 [(2,pt g1 0),(21,pt g9 0)]∧Iv w0 [] μ μ [cel g9 [av .u8 32 c8] 24,row 22 1 v5 r2.length cs12,row 5 1 vvc2 c2.length ccc2,row 5 1 (.slice (some ⟨g3,0,none⟩) 1 1) ([128]:List Int).length cs3,row 22 1 (.slice (some ⟨g2,0,none⟩) 8 8) c3.length ccc3,cel g1 [av .u8 32 Z32] 24] w) ?_ ?_
    ·have H:=bI hz26
     refine w_seq fun _ hN39=>w_reg<|sta hA rfl rfl fun a hA=>?_
     refine o_nil<|hN39 _ _<|w_block ?_
     obtain ⟨z7,hz27,Hk15⟩:=bind_some H
     obtain ⟨n7,hn7⟩:=loopO_some hz27
     refine w_loop (fun n a w=>∃(s12:Int)(s13:List Int),loopN (q1_Sha.s6 c3) n (s12,s13)=some z7∧InR .i64 s12∧Arr .u8 32 s13∧Fr a 282 [(2,pt g1 0),(3,(.slice (some ⟨g2,0,none⟩) 8 8)),(21,pt g9 0),(22,.int .i64 s12)]∧Iv w0 [] μ μ [cel g9 [av .u8 32 s13] 24,row 22 1 v5 r2.length cs12,row 5 1 vvc2 c2.length ccc2,row 5 1 (.slice (some ⟨g3,0,none⟩) 1 1) ([128]:List Int).length cs3,row 22 1 (.slice (some ⟨g2,0,none⟩) 8 8) c3.length ccc3,cel g1 [av .u8 32 Z32] 24] w) n7 ⟨0,Z32,hn7,(in_lit .i64 0 rfl),(arr_zero _ _),hA.sub ⟨rfl,rfl,rfl,rfl,trivial⟩,hI⟩ ?_
     clear hA hI
     rintro n a w ⟨s12,s13,hn7,ws12,ws13,hA,hI⟩
     obtain ⟨m7,rfl,H⟩:=loopN_bind hn7
     clear hn7
     refine w_seq fun _ hN40=>w_seq fun _ hN41=>w_reg<|stm hA rfl rfl fun a hA =>
      stp hA (r_lss hA rfl rfl) rfl fun a hA=>?_
     refine o_nil<|hN41 _ _<|w_cond hA rfl (fun hc8=>?_) (fun hc8=>?_)
     ·obtain ⟨hc8,H⟩:=dT H hc8
      refine w_skip<|hN40 _ _<|w_seq fun _ hN42=>w_block<|w_reg<|stm hA rfl rfl fun a hA =>
       stm hA rfl rfl fun a hA =>
       stm hA rfl rfl fun a hA =>
       stp hA (r_quo hA rfl rfl (by decide)) rfl fun a hA=>?_
      obtain ⟨hb29,H⟩:=bG H
      refine stp hA (r_rix (j:=4) U136 sz22 hI rfl hA rfl rfl hb29.1 hb29.2) rfl fun a hA=>?_
      have hq29:=els_get wc3 hb29.1 hb29.2
      refine stp hA (r_rld1 (j:=4) U22 rfl hI rfl hq29 hA rfl (by simp only [Nat.mul_one])) rfl fun a hA =>
       stm hA rfl rfl fun a hA =>
       stp hA (r_rem hA rfl rfl (by decide)) rfl fun a hA =>
       stp hA (r_mul hA rfl rfl) rfl fun a hA =>
       stp hA (r_sub hA rfl rfl) rfl fun a hA =>
       stp hA (r_conv U3 U115 hA rfl) rfl fun a hA=>?_
      obtain ⟨hb30,H⟩:=bG H
      refine stp hA (r_shr hA rfl rfl hb30) rfl fun a hA =>
       stp hA (r_conv U22 U5 hA rfl) rfl fun a hA=>?_
      obtain ⟨hb31,H⟩:=bG H
      refine stp hA (r_ixar1 U24 sz5 hA rfl rfl hb31.1 hb31.2) rfl fun a hA =>
       o_stE (j:=0) [] [] sz5 ws13.1 hI rfl hA rfl rfl rfl (by omega) fun w hI=>?_
      refine o_nil<|hN42 _ _<|w_reg<|stm hA rfl rfl fun a hA =>
       stp hA (r_add hA rfl rfl) rfl fun a hA =>
       sta hA rfl rfl fun a hA=>?_
      refine o_nil<|⟨m7,lS _,IntKind.i64.wrap (s12+1),s13.set s12.toNat (IntKind.u8.wrap (sR .u32 (c3.getD (IntKind.i64.wrap (Int.tdiv s12 4)).toNat 0) (IntKind.u64.wrap (IntKind.i64.wrap (24 - (IntKind.i64.wrap (8 * (Int.tmod s12 4)))))))),H,(wrap_in _ _),(arr_set ws13 _ (wrap_in _ _)),hA.sub ⟨rfl,rfl,rfl,rfl,trivial⟩,hI⟩
     ·obtain ⟨hc8,H⟩:=dF H hc8
      refine w_exit rfl ?_
      have H:some s13=some z7:=H
      obtain rfl:=sI H
      have H:=Hk15
      cases sJ H
      exact ⟨ws13,hA.sub ⟨rfl,rfl,trivial⟩,hI⟩
    ·rintro a w ⟨wc8,hA,hI⟩
     have H:=Hk14
     refine w_seq fun _ hN43=>w_reg<|stp hA (r_ldA (j:=0) [] [av .u8 32 c8] [] U24 rfl sz24 rfl hI rfl hA rfl rfl) rfl fun a hA =>
      o_st (j:=5) [] [av .u8 32 Z32] [av .u8 32 c8] [] sz24 rfl rfl (fl_cons (one_av _ _ _) fl_nil) hI rfl hA rfl rfl rfl rfl fun w hI=>?_
     refine o_nil<|hN43 _ _<|w_ret ?_
     obtain rfl:=sJ H
     exact retc U24 rfl sz24 rfl hI (j:=5) rfl hA Tryz.results86 rfl ⟨_,rfl,rfl,wc8,hI.forget0⟩
theorem q1_Twice.c (μ:Store)(w0:World)(hμ:Agr μ w0)(x0:List Int)(u0:Value)(hx0:Slc (RI .u8) 1 μ u0 x0)(r:List Int)(H:q1_Twice.f x0=some r) :
  Calls Tryz.prog 43 [u0].toArray w0 (fun e w'=>∃ v,e=.returned v∧v=.agg [av .u8 32 r].flatten.toArray∧Arr .u8 32 r∧Iv w0 [] μ μ [] w'):=by
 refine enter Tryz.func43 rfl Tryz.ntmps43 rfl fun a hA=>?_
 have hI:=Iv.start hμ
 have H:=bI H
 refine w_seq fun _ hN1=>w_reg<|o_new [av .u8 32 Z32] zr24 hI hA rfl fun g1 a w hA hI hg1=>?_
 refine o_nil<|hN1 _ _<|w_seq fun _ hN2=>w_reg<|stm hA rfl rfl fun a hA=>?_
 obtain ⟨r1,hr1,H⟩:=bB H
 refine o_callp (u:=.agg [av .u8 32 r1].flatten.toArray) cf86 hA rfl hI (q1_Sha.c μ _ hI.agr x0 u0 hx0 r1 hr1) rfl fun a w hz1 hI hA =>
  o_new [av .u8 32 Z32] zr24 hI hA rfl fun g2 a w hA hI hg2 =>
  o_st (j:=0) [] [av .u8 32 Z32] [av .u8 32 r1] [] sz24 rfl rfl (fl_cons (one_av _ _ _) fl_nil) hI rfl hA rfl rfl rfl rfl fun w hI=>?_
 refine o_nil<|hN2 _ _<|w_seq fun _ hN3=>w_reg<|stp hA (r_slv (i:=0) (j:=32) U24 sz5 hA rfl rfl rfl (by decide) (by decide) (by decide) (by decide) rfl) rfl fun a hA=>?_
 obtain ⟨r2,hr2,H⟩:=bB H
 refine o_callp (u:=.agg [av .u8 32 r2].flatten.toArray) cf86 hA rfl hI ((by obtain ⟨μ1,hle1,hat1,hI⟩:=hI.freezeCel 0 rfl;have hS1:Slc (RI .u8) 1 μ1 (.slice (some ⟨g2,0,none⟩) 32 32) (r1):=slc_view0 [] [] hat1 hz1 rfl (by decide);exact low_plain hle1 (q1_Sha.c μ1 _ hI.agr r1 (.slice (some ⟨g2,0,none⟩) 32 32) hS1 r2 hr2))) rfl fun a w hz2 hI hA =>
  o_st (j:=1) [] [av .u8 32 Z32] [av .u8 32 r2] [] sz24 rfl rfl (fl_cons (one_av _ _ _) fl_nil) hI rfl hA rfl rfl rfl rfl fun w hI=>?_
 refine o_nil<|hN3 _ _<|w_ret ?_
 obtain rfl:=sJ H
 exact retc U24 rfl sz24 rfl hI (j:=1) rfl hA Tryz.results43 rfl ⟨_,rfl,rfl,hz2,hI.forget0⟩
def slices_Grow_byte_byte.f (x1:Int):Option (List Int):=if 0≤x1∧x1≤140737488355328 then some [] else none
def slices_Concat_byte_byte.s1 (x0:List (List Int)):((List Int)×Int)→Option (((List Int)×Int)⊕(List Int)):=fun (s3,s4)=>(if s4 < (x0.length:Int) then (if 0≤s4∧s4 < (x0.length:Int) then (if s3.length+(x0.getD s4.toNat []).length≤140737488355328 then some (.inl (s3++(x0.getD s4.toNat []),IntKind.i64.wrap (s4+1))) else none) else none) else some (.inr s3))
def slices_Concat_byte_byte.s0 (x0:List (List Int)):(Int×Int)→Option ((Int×Int)⊕Int):=fun (s1,s2)=>(if s2 < (x0.length:Int) then (((if 0≤s2∧s2 < (x0.length:Int) then (if (IntKind.i64.wrap (s1+((x0.getD s2.toNat []).length:Int))) < 0 then none else some (IntKind.i64.wrap (s1+((x0.getD s2.toNat []).length:Int)))) else none)).bind fun c2=>some (.inl (c2,IntKind.i64.wrap (s2+1)))) else some (.inr s1))
noncomputable def slices_Concat_byte_byte.f (x0:List (List Int)):Option (List Int):=((loopO (slices_Concat_byte_byte.s0 x0) (0,0)).bind fun c1=>((slices_Grow_byte_byte.f c1).bind fun r1=>((loopO (slices_Concat_byte_byte.s1 x0) (r1,0)).bind fun c3=>some c3)))
noncomputable def head_Bytes.f (x0:Head):Option (List Int):=((compact_Four.f ([]) x0.Version).bind fun r1=>((slices_Concat_byte_byte.f ([r1,x0.Prev,x0.Root]:List (List Int))).bind fun r2=>((compact_Four.f r2 x0.Time).bind fun r3=>((compact_Four.f r3 x0.Work).bind fun r4=>((compact_Four.f r4 x0.Nonce).bind fun r5=>some r5)))))
def head_Check.f (x0:Head):Option Er:=(((if x0.Work=0 then some true else some (decide (16777216 < x0.Work)))).bind fun c1=>(if c1=true then some xErrRange else some (Er.b 0)))
def spend_Null.f:Option Point:=some (⟨(List.replicate 32 0),4294967295⟩:Point)
def spend_IsNull.f (x0:Point):Option Bool:=((spend_Null.f).bind fun r1=>some (decide (x0.Tx=r1.Tx∧x0.N=r1.N)))
noncomputable def spend_Lock.f (x0:List Int):Option (List Int):=((digest_Sha.f x0).bind fun r1=>some r1)
noncomputable def head_Take.f (x0:cRd):Option (Head×cRd):=((cR_Four.f x0).bind fun r1=>((cR_Hash.f r1.2).bind fun r2=>((cR_Hash.f r2.2).bind fun r3=>((cR_Four.f r3.2).bind fun r4=>((cR_Four.f r4.2).bind fun r5=>((cR_Four.f r5.2).bind fun r6=>((cR_Err.f r6.2).bind fun r7=>(if r7≠(Er.b 0) then some ((⟨0,(List.replicate 32 0),(List.replicate 32 0),0,0,0⟩:Head),r6.2) else some ((⟨r1.1,r2.1,r3.1,r4.1,r5.1,r6.1⟩:Head),r6.2)))))))))
noncomputable def head_ID.f (x0:Head):Option (List Int):=((head_Bytes.f x0).bind fun r1=>((digest_Twice.f r1).bind fun r2=>some r2))
def q1_Null.f:Option Point:=some (⟨(List.replicate 32 0),4294967295⟩:Point)
theorem slices_Grow_byte_byte.c (μ:Store)(w0:World)(hμ:Agr μ w0)(x1:Int)(hx1:InR .i64 x1)(r:List Int)(H:slices_Grow_byte_byte.f x1=some r) :
  Calls Tryz.prog 104 [.slice none 0 0,.int .i64 x1].toArray w0 (fun e w'=>∃ v,e=.returned v∧∃(v0:Value)(c0:List Value),v=v0∧Els (RI .u8) 1 r c0∧Iv w0 [] μ μ [row 5 1 v0 r.length c0] w'):=by
 obtain ⟨hb,H⟩:=guard_some H
 obtain rfl:=sI H
 refine enter Tryz.func104 rfl Tryz.ntmps104 rfl fun a hA=>?_
 have hI:=Iv.start hμ
 have e1:IntKind.i64.wrap (x1 - IntKind.i64.wrap (((0:Nat):Int) - ((0:Nat):Int)))=x1:=by
  rw [wrap_id (k:=.i64) (x:=((0:Nat):Int) - ((0:Nat):Int)) ⟨by omega,by omega⟩]
  simp only [Int.sub_self,Int.sub_zero,Int.natCast_zero]
  exact wrap_id hx1
 refine w_seq fun _ hN1=>w_reg (stp hA (r_as hA rfl) rfl fun a hA=>o_nil (hN1 _ _ ?_))
 refine w_seq fun _ hN2=>w_seq fun _ hN3=>w_reg (stp hA (r_mv hA rfl) rfl fun a hA=>stp hA (r_lss hA rfl rfl) rfl fun a hA=>o_nil (hN3 _ _ ?_))
 refine w_cond hA rfl (fun hc=>absurd (of_decide_eq_true hc) (by omega)) (fun _=>w_skip (hN2 _ _ ?_))
 refine w_cut (fun a w=>∃ v0 c0,Fr a 27 [(0,v0)]∧Iv w0 [] μ μ [row 5 1 v0 0 c0] w∧c0=[]) ?_ ?_
 ·refine w_seq fun _ hN4=>w_reg ?_
  refine stp hA (r_mv hA rfl) rfl fun a hA=>stp hA (r_mv hA rfl) rfl fun a hA=>stp hA (r_cap U30 hA rfl) rfl fun a hA=>?_
  refine stp hA (r_mv hA rfl) rfl fun a hA=>stp hA (r_len U30 hA rfl) rfl fun a hA=>?_
  refine stp hA (r_sub hA rfl rfl) rfl fun a hA=>stp hA (r_sub hA rfl rfl) rfl fun a hA=>?_
  rw [e1] at hA
  refine stp hA (r_as hA rfl) rfl fun a hA=>o_nil (hN4 _ _ ?_)
  refine w_seq fun _ hN5=>w_reg (stp hA (r_mv hA rfl) rfl fun a hA=>stp hA (r_gtr hA rfl rfl) rfl fun a hA=>o_nil (hN5 _ _ ?_))
  refine w_cond hA rfl (fun hc=>?_) (fun hc=>?_)
  ·have hc:=of_decide_eq_true hc
   refine w_reg ?_
   refine stp hA (r_mv hA rfl) rfl fun a hA=>stp hA (r_mv hA rfl) rfl fun a hA=>stp hA (r_cap U30 hA rfl) rfl fun a hA=>?_
   refine stp hA (r_front U30 sz5 hA rfl rfl (by decide) (by decide)) rfl fun a hA=>stp hA (r_mv hA rfl) rfl fun a hA=>?_
   refine o_appmake te5 rfl U30 U3 hI hA rfl rfl (by omega) (by omega) (by omega) rfl fun g cap cur a w h1 h2 h3 hA hI hg=>?_
   refine stp hA (r_mv hA rfl) rfl fun a hA=>stp hA (r_len U30 hA rfl) rfl fun a hA=>?_
   refine stp hA (r_front U30 sz5 hA rfl rfl (by decide) (by omega)) rfl fun a hA=>stp hA (r_as hA rfl) rfl fun a hA=>o_nil ?_
   have hI:=hI (row 5 1 (.slice (some ⟨g,0,none⟩) 0 cap) 0 []) (by simp [row,Value.ownBlock]) ⟨rfl,.inr ⟨g,cap,cur,rfl,Nat.zero_le _,hg,Nat.zero_le _,h2,h3,rfl⟩⟩
   exact ⟨_,_,hA.sub ⟨rfl,trivial⟩,hI,rfl⟩
  ·exact w_skip ⟨_,_,hA.sub ⟨rfl,trivial⟩,hI.nilRow 5 1,rfl⟩
 ·rintro a w ⟨v0,c0,hA,hI,rfl⟩
  refine w_seq fun _ hN6=>w_reg (stp hA (r_mv hA rfl) rfl fun a hA=>stp hA (r_as hA rfl) rfl fun a hA=>o_nil (hN6 _ _ ?_))
  refine w_ret ?_
  exact ret1 hA Tryz.results104 rfl ⟨_,rfl,v0,[],rfl,.nil,hI⟩
theorem slices_Concat_byte_byte.c (μ:Store)(w0:World)(hμ:Agr μ w0)(x0:List (List Int))(u0:Value)(hx0:Slc (RS (RI .u8) 1 μ) 1 μ u0 x0)(r:List Int)(H:slices_Concat_byte_byte.f x0=some r) :
  Calls Tryz.prog 82 [u0].toArray w0 (fun e w'=>∃ v,e=.returned v∧∃(v0:Value)(c0:List Value),v=v0∧Els (RI .u8) 1 r c0∧Iv w0 [] μ μ [row 5 1 v0 r.length c0] w'):=by
 refine enter Tryz.func82 rfl Tryz.ntmps82 rfl fun a hA=>?_
 have hI:=Iv.start hμ
 have H:=bI H
 refine w_seq fun _ hN1=>w_reg<|sta hA rfl rfl fun a hA=>?_
 refine o_nil<|hN1 _ _<|w_seq fun _ hN2=>w_reg<|sta hA rfl rfl fun a hA=>?_
 refine o_nil<|hN2 _ _ ?_
 obtain ⟨c1,hz1,Hk1⟩:=bB H
 refine w_cut (fun a w=>InR .i64 c1∧Fr a 36 [(0,u0),(2,Sn),(3,.int .i64 c1)]∧Iv w0 [] μ μ [] w) ?_ ?_
 ·have H:=bI hz1
  refine w_seq fun _ hN3=>w_reg<|stm hA rfl rfl fun a hA=>?_
  obtain ⟨_,hsl1⟩:=Slc.sv hx0
  refine stp hA (r_slen U134 hsl1 hA rfl) rfl fun a hA =>
   stm hA rfl rfl fun a hA=>?_
  refine o_nil<|hN3 _ _<|w_block ?_
  obtain ⟨z1,hz2,Hk2⟩:=bind_some H
  obtain ⟨n1,hn1⟩:=loopO_some hz2
  refine w_loop (fun n a w=>∃(s1 s2:Int),loopN (slices_Concat_byte_byte.s0 x0) n (s1,s2)=some z1∧InR .i64 s1∧InR .i64 s2∧Fr a 36 [(0,u0),(2,Sn),(3,.int .i64 s1),(9,u0),(10,.int .i64 (x0.length:Int)),(11,.int .i64 s2)]∧Iv w0 [] μ μ [] w) n1 ⟨0,0,hn1,(in_lit .i64 0 rfl),(in_lit .i64 0 rfl),hA.sub ⟨rfl,rfl,rfl,rfl,rfl,rfl,trivial⟩,hI⟩ ?_
  clear hA hI
  rintro n a w ⟨s1,s2,hn1,ws1,ws2,hA,hI⟩
  obtain ⟨m1,rfl,H⟩:=loopN_bind hn1
  clear hn1
  refine w_seq fun _ hN4=>w_reg<|stp hA (r_lss hA rfl rfl) rfl fun a hA=>?_
  refine o_nil<|hN4 _ _<|w_seq fun _ hN5=>w_cond hA rfl (fun hc1=>?_) (fun hc1=>?_)
  ·obtain ⟨hc1,H⟩:=dT H hc1
   refine w_skip<|hN5 _ _ ?_
   obtain ⟨c2,hz3,Hk3⟩:=bB H
   refine w_cut (fun a w=>InR .i64 c2∧Fr a 36 [(0,u0),(2,Sn),(3,.int .i64 c2),(9,u0),(10,.int .i64 (x0.length:Int)),(11,.int .i64 s2),(12,.bool (decide (s2 < (x0.length:Int))))]∧Iv w0 [] μ μ [] w) ?_ ?_
   ·have H:=bI hz3
    refine w_block<|w_seq fun _ hN6=>w_reg ?_
    obtain ⟨hb1,H⟩:=bG H
    obtain ⟨_,he1,_,hat1⟩:=Slc.elem1 hx0 (getD_some [] hb1.1 hb1.2)
    obtain ⟨v1,rfl,hw1⟩:=he1
    obtain ⟨_,hsl2⟩:=Slc.sv hx0
    refine stp hA (r_six1 U134 sz30 hsl2 hA rfl rfl hb1.1 hb1.2) rfl fun a hA =>
     stp hA (r_ldm1 [] [] U30 rfl hI.agr hat1 hA rfl rfl) rfl fun a hA =>
     sta hA rfl rfl fun a hA=>?_
    refine o_nil<|hN6 _ _<|w_seq fun _ hN7=>w_reg<|stm hA rfl rfl fun a hA =>
     stm hA rfl rfl fun a hA=>?_
    obtain ⟨_,hsl3⟩:=Slc.sv hw1
    refine stp hA (r_slen U30 hsl3 hA rfl) rfl fun a hA =>
     stp hA (r_add hA rfl rfl) rfl fun a hA =>
     sta hA rfl rfl fun a hA=>?_
    refine o_nil<|hN7 _ _<|w_seq fun _ hN8=>w_reg<|stm hA rfl rfl fun a hA =>
     stp hA (r_lss hA rfl rfl) rfl fun a hA=>?_
    refine o_nil<|hN8 _ _<|w_cond hA rfl (fun hc2=>?_) (fun hc2=>?_)
    ·obtain ⟨hc2,H⟩:=dT H hc2
     exact (bN H).elim
    ·obtain ⟨hc2,H⟩:=dF H hc2
     refine w_skip ?_
     cases sJ H
     exact ⟨(wrap_in _ _),hA.sub ⟨rfl,rfl,rfl,rfl,rfl,rfl,rfl,trivial⟩,hI⟩
   ·rintro a w ⟨wc2,hA,hI⟩
    have H:=Hk3
    refine w_reg<|stp hA (r_add hA rfl rfl) rfl fun a hA =>
     stm hA rfl rfl fun a hA=>?_
    refine o_nil<|⟨m1,lS _,c2,IntKind.i64.wrap (s2+1),H,wc2,(wrap_in _ _),hA.sub ⟨rfl,rfl,rfl,rfl,rfl,rfl,trivial⟩,hI⟩
  ·obtain ⟨hc1,H⟩:=dF H hc1
   refine w_exit rfl ?_
   have H:some s1=some z1:=H
   obtain rfl:=sI H
   have H:=Hk2
   cases sJ H
   exact ⟨ws1,hA.sub ⟨rfl,rfl,rfl,trivial⟩,hI⟩
 ·rintro a w ⟨wc1,hA,hI⟩
  have H:=Hk1
  refine w_seq fun _ hN9=>w_reg<|stm hA rfl rfl fun a hA=>?_
  obtain ⟨r1,hr1,H⟩:=bB H
  refine o_call _ cf104 hA rfl (slices_Grow_byte_byte.c μ _ hI.agr c1 wc1 r1 hr1) rfl fun v2 a w hz4 hA=>?_
  obtain ⟨_,cs1,rfl,hE1,hi1⟩:=hz4
  have hI:=hI.call hi1
  refine sta hA rfl rfl fun a hA=>?_
  refine o_nil<|hN9 _ _ ?_
  obtain ⟨c3,hz5,Hk4⟩:=bB H
  refine w_cut (fun a w=>∃(vvc3:Value)(ccc3:List Value),Els (RI .u8) 1 c3 ccc3∧Fr a 36 [(2,Sn),(6,vvc3)]∧Iv w0 [] μ μ [row 5 1 vvc3 c3.length ccc3] w) ?_ ?_
  ·have H:=bI hz5
   refine w_seq fun _ hN10=>w_reg<|stm hA rfl rfl fun a hA=>?_
   obtain ⟨_,hsl4⟩:=Slc.sv hx0
   refine stp hA (r_slen U134 hsl4 hA rfl) rfl fun a hA =>
    stm hA rfl rfl fun a hA=>?_
   refine o_nil<|hN10 _ _<|w_block ?_
   obtain ⟨z2,hz6,Hk5⟩:=bind_some H
   obtain ⟨n2,hn2⟩:=loopO_some hz6
   refine w_loop (fun n a w=>∃(s3:List Int)(s4:Int)(vvs3:Value)(ccs3:List Value),loopN (slices_Concat_byte_byte.s1 x0) n (s3,s4)=some z2∧Els (RI .u8) 1 s3 ccs3∧InR .i64 s4∧Fr a 36 [(2,Sn),(6,vvs3),(25,u0),(26,.int .i64 (x0.length:Int)),(27,.int .i64 s4)]∧Iv w0 [] μ μ [row 5 1 vvs3 s3.length ccs3] w) n2 ⟨r1,0,v2,cs1,hn2,hE1,(in_lit .i64 0 rfl),hA.sub ⟨rfl,rfl,rfl,rfl,rfl,trivial⟩,hI⟩ ?_
   clear hA hI
   rintro n a w ⟨s3,s4,vvs3,ccs3,hn2,ws3,ws4,hA,hI⟩
   obtain ⟨m2,rfl,H⟩:=loopN_bind hn2
   clear hn2
   refine w_seq fun _ hN11=>w_reg<|stp hA (r_lss hA rfl rfl) rfl fun a hA=>?_
   refine o_nil<|hN11 _ _<|w_seq fun _ hN12=>w_cond hA rfl (fun hc3=>?_) (fun hc3=>?_)
   ·obtain ⟨hc3,H⟩:=dT H hc3
    refine w_skip<|hN12 _ _<|w_seq fun _ hN13=>w_block<|w_seq fun _ hN14=>w_reg ?_
    obtain ⟨hb2,H⟩:=bG H
    obtain ⟨_,he2,_,hat2⟩:=Slc.elem1 hx0 (getD_some [] hb2.1 hb2.2)
    obtain ⟨v3,rfl,hw2⟩:=he2
    obtain ⟨_,hsl5⟩:=Slc.sv hx0
    refine stp hA (r_six1 U134 sz30 hsl5 hA rfl rfl hb2.1 hb2.2) rfl fun a hA =>
     stp hA (r_ldm1 [] [] U30 rfl hI.agr hat2 hA rfl rfl) rfl fun a hA =>
     sta hA rfl rfl fun a hA=>?_
    refine o_nil<|hN14 _ _<|w_reg<|stm hA rfl rfl fun a hA =>
     stm hA rfl rfl fun a hA=>?_
    obtain ⟨cs2,hE2,hsv1⟩:Slc (RI .u8) 1 μ v3 (x0.getD s4.toNat []):=id (hw2)
    obtain ⟨hb3,H⟩:=bG H
    have hE3:=ws3.app hE2
    refine o_appG (xs:=(s3:List Int)) (ys:=((x0.getD s4.toNat []):List Int)) (M:=140737488355328) 0 te5 U30 hI rfl hA rfl rfl (src_sl hI.agr hsv1 hE2.len) hE2.len (hE2.ones (one_RI _)) hb3 rfl fun v4 a w hA hI =>
     sta hA rfl rfl fun a hA=>?_
    refine o_nil<|hN13 _ _<|w_reg<|stp hA (r_add hA rfl rfl) rfl fun a hA =>
     stm hA rfl rfl fun a hA=>?_
    refine o_nil<|⟨m2,lS _,s3++(x0.getD s4.toNat []),IntKind.i64.wrap (s4+1),v4,ccs3++cs2,H,hE3,(wrap_in _ _),hA.sub ⟨rfl,rfl,rfl,rfl,rfl,trivial⟩,hI⟩
   ·obtain ⟨hc3,H⟩:=dF H hc3
    refine w_exit rfl ?_
    have H:some s3=some z2:=H
    obtain rfl:=sI H
    have H:=Hk5
    cases sJ H
    exact ⟨vvs3,ccs3,ws3,hA.sub ⟨rfl,rfl,trivial⟩,hI⟩
  ·rintro a w ⟨vvc3,ccc3,wc3,hA,hI⟩
   have H:=Hk4
   refine w_seq fun _ hN15=>w_reg<|stm hA rfl rfl fun a hA =>
    sta hA rfl rfl fun a hA=>?_
   refine o_nil<|hN15 _ _<|w_ret ?_
   obtain rfl:=sJ H
   exact ret1 hA Tryz.results82 rfl ⟨_,rfl,vvc3,ccc3,rfl,wc3,(hI.less (Store.le.refl _) hI.le)⟩
theorem head_Bytes.c (μ:Store)(w0:World)(hμ:Agr μ w0)(x0:Head)(hx0:HeadW μ x0)(r:List Int)(H:head_Bytes.f x0=some r) :
  Calls Tryz.prog 40 [.agg [[.int .u32 x0.Version],av .u8 32 x0.Prev,av .u8 32 x0.Root,[.int .u32 x0.Time],[.int .u32 x0.Work],[.int .u32 x0.Nonce]].flatten.toArray].toArray w0 (fun e w'=>∃ v,e=.returned v∧∃(v0:Value)(c0:List Value),v=v0∧Els (RI .u8) 1 r c0∧Iv w0 [] μ μ [row 5 1 v0 r.length c0] w'):=by
 refine enter Tryz.func40 rfl Tryz.ntmps40 rfl fun a hA=>?_
 have hI:=Iv.start hμ
 have H:=bI H
 refine w_seq fun _ hN1=>w_reg<|o_box [[.int .u32 x0.Version],av .u8 32 x0.Prev,av .u8 32 x0.Root,[.int .u32 x0.Time],[.int .u32 x0.Work],[.int .u32 x0.Nonce]] hI hA rfl rfl rfl fun g1 a w hA hI hg1 =>
  sta hA rfl rfl fun a hA=>?_
 refine o_nil<|hN1 _ _<|w_seq fun _ hN2=>?_
 refine w_any [] mo hI fun w hI=>?_
 refine gE 0 hA rfl (.inr hI) (fun _=>r_fd (k:=0) U26 rfl sz22 hA rfl rfl) fun a hA=>?_
 refine gT 1 hA rfl hI (fun w hI=>r_ld1 (j:=0) [] [av .u8 32 x0.Prev,av .u8 32 x0.Root,[.int .u32 x0.Time],[.int .u32 x0.Work],[.int .u32 x0.Nonce]] U22 rfl hI rfl hA rfl rfl) fun a hA=>?_
 refine gE 3 hA rfl (.inr hI) (fun _=>r_fd (k:=1) U26 rfl sz24 hA rfl rfl) fun a hA=>?_
 refine gE 4 hA rfl (.inr hI) (fun _=>r_slv (i:=0) (j:=32) U24 sz5 hA rfl rfl rfl (by decide) (by decide) (by decide) (by decide) rfl) fun a hA=>?_
 refine gE 5 hA rfl (.inr hI) (fun _=>r_fd (k:=33) U26 rfl sz24 hA rfl rfl) fun a hA=>?_
 refine gE 6 hA rfl (.inr hI) (fun _=>r_slv (i:=0) (j:=32) U24 sz5 hA rfl rfl rfl (by decide) (by decide) (by decide) (by decide) rfl) fun a hA=>?_
 refine gF 2 rfl ?_
 obtain ⟨r1,hr1,H⟩:=bB H
 refine o_call _ cf83 hA rfl (compact_Four.c μ _ hI.agr ([]) Sn (slc_nil _ _ _) x0.Version hx0.1 r1 hr1) rfl fun v1 a w hz1 hA=>?_
 obtain ⟨_,cs1,rfl,hE1,hi1⟩:=hz1
 have hI:=hI.call hi1
 refine o_nil<|⟨(.inr (hI.sl [1] rfl)),?_⟩
 refine gF 7 rfl ?_
 obtain ⟨μ1,hle1,hsv1,hI,hth1⟩:=hI.freezeRowT 0 rfl
 have hS1:Slc (RI .u8) 1 μ1 v1 r1:=⟨_,hE1,hsv1⟩
 obtain ⟨μ2,hle2,hat1,hI,hth2⟩:=hI.freezeCelT 0 rfl
 have hS2:Slc (RI .u8) 1 μ2 (.slice (some ⟨g1,1,none⟩) 32 32) (x0.Prev):=slc_view0 [[.int .u32 x0.Version]] [av .u8 32 x0.Root,[.int .u32 x0.Time],[.int .u32 x0.Work],[.int .u32 x0.Nonce]] hat1 hx0.2.1 rfl (by decide)
 have hS3:Slc (RI .u8) 1 μ2 (.slice (some ⟨g1,33,none⟩) 32 32) (x0.Root):=slc_view0 [[.int .u32 x0.Version],av .u8 32 x0.Prev] [[.int .u32 x0.Time],[.int .u32 x0.Work],[.int .u32 x0.Nonce]] hat1 hx0.2.2.1 rfl (by decide)
 have hE2:Els (RS (RI .u8) 1 μ2) 1 ([r1,x0.Prev,x0.Root]:List (List Int)) _:=(Els.cons (c:=[[v1]].flatten) ⟨_,rfl,(Slc.le hS1 (fun _ _ h=>h) hle2)⟩ rfl (Els.cons (c:=[[(.slice (some ⟨g1,1,none⟩) 32 32)]].flatten) ⟨_,rfl,hS2⟩ rfl (Els.cons (c:=[[(.slice (some ⟨g1,33,none⟩) 32 32)]].flatten) ⟨_,rfl,hS3⟩ rfl Els.nil)))
 refine o_bsl ([[v1]].flatten++([[(.slice (some ⟨g1,1,none⟩) 32 32)]].flatten++([[(.slice (some ⟨g1,33,none⟩) 32 32)]].flatten++([])))) te30 zr30 U134 hI hA rfl rfl rfl rfl ((fill_one (cells1 (Slc.le hS1 (fun _ _ h=>h) hle2)) rfl (by kernel_rfl)).trans ((fill_one (cells1 hS2) rfl (by kernel_rfl)).trans ((fill_one (cells1 hS3) rfl (by kernel_rfl)).trans (by kernel_rfl)))) rfl fun g2 a w hA hI=>?_
 generalize hcs:([[v1]].flatten++([[(.slice (some ⟨g1,1,none⟩) 32 32)]].flatten++([[(.slice (some ⟨g1,33,none⟩) 32 32)]].flatten++([]))):List Value)=cs2 at hE2 hI
 clear hcs
 refine o_nil<|⟨(.inr ((hth1 _ _ (hth2 _ _ hI)).sl [1] rfl)),?_⟩
 refine gF 8 rfl ?_
 obtain ⟨r2,hr2,H⟩:=bB H
 refine o_call (fun v w'=>∃(v0:Value)(c0:List Value),v=v0∧Els (RI .u8) 1 r2 c0∧Iv w [] μ2 μ2 [row 5 1 v0 r2.length c0] w') cf82 hA rfl ((by obtain ⟨μ3,hle3,hsv2,hI⟩:=hI.freezeRow 0 rfl;have hS4:Slc (RS (RI .u8) 1 μ3) 1 μ3 (.slice (some ⟨g2,0,none⟩) 3 3) ([r1,x0.Prev,x0.Root]:List (List Int)):=⟨_,(Els.mono hE2 (fun _ _ h=>RS.le (fun _ _ h=>h) hle3 h)),hsv2⟩;exact (slices_Concat_byte_byte.c μ3 _ hI.agr ([r1,x0.Prev,x0.Root]:List (List Int)) (.slice (some ⟨g2,0,none⟩) 3 3) hS4 r2 hr2).mono fun _ _ ⟨v,he,b0,b1,hv,f0,hi⟩=>⟨v,he,b0,b1,hv,f0,hi.low hle3⟩)) rfl fun v2 a w hz2 hA=>?_
 obtain ⟨_,cs3,rfl,hE3,hi2⟩:=hz2
 have hI:=hI.call hi2
 refine o_nil<|⟨(.inr ((hth1 _ _ (hth2 _ _ hI)).sl [1] rfl)),?_⟩
 refine gE 9 hA rfl (.inr ((hth1 _ _ (hth2 _ _ hI)).sl [1] rfl)) (fun _=>r_as hA rfl) fun a hA=>?_
 refine gN<|hN2 _ _<|w_seq fun _ hN3=>?_
 refine w_any [] mo hI fun w hI=>?_
 refine gE 0 hA rfl (.inr hI) (fun _=>r_mv hA rfl) fun a hA=>?_
 refine gE 1 hA rfl (.inr hI) (fun _=>r_fd (k:=0+65) U26 rfl sz22 hA rfl rfl) fun a hA=>?_
 refine gT 2 hA rfl hI (fun w hI=>r_ldm1 [[.int .u32 x0.Version],av .u8 32 x0.Prev,av .u8 32 x0.Root] [[.int .u32 x0.Work],[.int .u32 x0.Nonce]] U22 rfl hI.agr hat1 hA rfl rfl) fun a hA=>?_
 refine gE 4 hA rfl (.inr hI) (fun _=>r_fd (k:=0+66) U26 rfl sz22 hA rfl rfl) fun a hA=>?_
 refine gT 5 hA rfl hI (fun w hI=>r_ldm1 [[.int .u32 x0.Version],av .u8 32 x0.Prev,av .u8 32 x0.Root,[.int .u32 x0.Time]] [[.int .u32 x0.Nonce]] U22 rfl hI.agr hat1 hA rfl rfl) fun a hA=>?_
 refine gE 7 hA rfl (.inr hI) (fun _=>r_fd (k:=0+67) U26 rfl sz22 hA rfl rfl) fun a hA=>?_
 refine gT 8 hA rfl hI (fun w hI=>r_ldm1 [[.int .u32 x0.Version],av .u8 32 x0.Prev,av .u8 32 x0.Root,[.int .u32 x0.Time],[.int .u32 x0.Work]] [] U22 rfl hI.agr hat1 hA rfl rfl) fun a hA=>?_
 refine gF 3 rfl ?_
 obtain ⟨r3,hr3,H⟩:=bB H
 refine o_call (fun v w'=>∃(v0:Value)(c0:List Value),v=v0∧Els (RI .u8) 1 r3 c0∧Iv w [] μ2 μ2 [row 5 1 v0 r3.length c0] w') cf83 hA rfl ((by obtain ⟨μ4,hle4,hsv3,hI⟩:=hI.freezeRow 0 rfl;have hS5:Slc (RI .u8) 1 μ4 v2 r2:=⟨_,hE3,hsv3⟩;exact (compact_Four.c μ4 _ hI.agr r2 v2 hS5 x0.Time hx0.2.2.2.1 r3 hr3).mono fun _ _ ⟨v,he,b0,b1,hv,f0,hi⟩=>⟨v,he,b0,b1,hv,f0,hi.low hle4⟩)) rfl fun v3 a w hz3 hA=>?_
 obtain ⟨_,cs4,rfl,hE4,hi3⟩:=hz3
 have hI:=hI.call hi3
 refine o_nil<|⟨(.inr (hI.sl [1,2] rfl)),?_⟩
 refine gF 6 rfl ?_
 obtain ⟨r4,hr4,H⟩:=bB H
 refine o_call (fun v w'=>∃(v0:Value)(c0:List Value),v=v0∧Els (RI .u8) 1 r4 c0∧Iv w [] μ2 μ2 [row 5 1 v0 r4.length c0] w') cf83 hA rfl ((by obtain ⟨μ5,hle5,hsv4,hI⟩:=hI.freezeRow 0 rfl;have hS6:Slc (RI .u8) 1 μ5 v3 r3:=⟨_,hE4,hsv4⟩;exact (compact_Four.c μ5 _ hI.agr r3 v3 hS6 x0.Work hx0.2.2.2.2.1 r4 hr4).mono fun _ _ ⟨v,he,b0,b1,hv,f0,hi⟩=>⟨v,he,b0,b1,hv,f0,hi.low hle5⟩)) rfl fun v4 a w hz4 hA=>?_
 obtain ⟨_,cs5,rfl,hE5,hi4⟩:=hz4
 have hI:=hI.call hi4
 refine o_nil<|⟨(.inr (hI.sl [2,3] rfl)),?_⟩
 refine gF 9 rfl ?_
 obtain ⟨r5,hr5,H⟩:=bB H
 refine o_call (fun v w'=>∃(v0:Value)(c0:List Value),v=v0∧Els (RI .u8) 1 r5 c0∧Iv w [] μ2 μ2 [row 5 1 v0 r5.length c0] w') cf83 hA rfl ((by obtain ⟨μ6,hle6,hsv5,hI⟩:=hI.freezeRow 0 rfl;have hS7:Slc (RI .u8) 1 μ6 v4 r4:=⟨_,hE5,hsv5⟩;exact (compact_Four.c μ6 _ hI.agr r4 v4 hS7 x0.Nonce hx0.2.2.2.2.2 r5 hr5).mono fun _ _ ⟨v,he,b0,b1,hv,f0,hi⟩=>⟨v,he,b0,b1,hv,f0,hi.low hle6⟩)) rfl fun v5 a w hz5 hA=>?_
 obtain ⟨_,cs6,rfl,hE6,hi5⟩:=hz5
 have hI:=hI.call hi5
 refine o_nil<|⟨(.inr (hI.sl [3,4] rfl)),?_⟩
 refine gE 10 hA rfl (.inr (hI.sl [3,4] rfl)) (fun _=>r_as hA rfl) fun a hA=>?_
 refine gN<|hN3 _ _<|w_ret ?_
 obtain rfl:=sJ H
 exact ret1 hA Tryz.results40 rfl ⟨_,rfl,v5,cs6,rfl,hE6,((hI.sl [0] rfl).less (Store.le.refl _) hI.le)⟩
theorem head_Check.c (μ:Store)(w0:World)(hμ:Agr μ w0)(x0:Head)(hx0:HeadW μ x0)(e5:Value)(he5:ErS μ e5 (Er.b 6))(r:Er)(H:head_Check.f x0=some r) :
  Calls Tryz.prog 50 [.agg [[.int .u32 x0.Version],av .u8 32 x0.Prev,av .u8 32 x0.Root,[.int .u32 x0.Time],[.int .u32 x0.Work],[.int .u32 x0.Nonce]].flatten.toArray].toArray w0 (fun e w'=>∃ v,e=.returned v∧∃(v0:Value)(μ':Store),v=v0∧ErS μ' v0 r∧Iv w0 [] μ μ' [] w'):=by
 refine enter Tryz.func50 rfl Tryz.ntmps50 rfl fun a hA=>?_
 have hI:=Iv.start hμ
 have H:=bI H
 refine w_seq fun _ hN1=>w_reg<|o_box [[.int .u32 x0.Version],av .u8 32 x0.Prev,av .u8 32 x0.Root,[.int .u32 x0.Time],[.int .u32 x0.Work],[.int .u32 x0.Nonce]] hI hA rfl rfl rfl fun g1 a w hA hI hg1 =>
  sta hA rfl rfl fun a hA=>?_
 refine o_nil<|hN1 _ _<|w_seq fun _ hN2=>?_
 obtain ⟨c1,hz1,Hk1⟩:=bB H
 refine w_cut (fun a w=>Fr a 12 [(2,.nilIface),(10,.bool c1)]∧Iv w0 [] μ μ [cel g1 [[.int .u32 x0.Version],av .u8 32 x0.Prev,av .u8 32 x0.Root,[.int .u32 x0.Time],[.int .u32 x0.Work],[.int .u32 x0.Nonce]] 26] w) ?_ ?_
 ·have H:=bI hz1
  refine w_reg<|stp hA (r_fd (k:=66) U26 rfl sz22 hA rfl rfl) rfl fun a hA =>
   stp hA (r_ld1 (j:=0) [[.int .u32 x0.Version],av .u8 32 x0.Prev,av .u8 32 x0.Root,[.int .u32 x0.Time]] [[.int .u32 x0.Nonce]] U22 rfl hI rfl hA rfl rfl) rfl fun a hA =>
   stp hA (r_eql hA rfl rfl) rfl fun a hA =>
   stm hA rfl rfl fun a hA=>?_
  rcases Bool.eq_false_or_eq_true (decide (x0.Work=0)) with hc1 | hc1
  ·have hc10:=hc1;obtain ⟨hc1,H⟩:=dT H hc1
   refine o_no hA rfl rfl (by rw [hc10];simp [vb]) rfl fun a hA =>
    o_no hA rfl rfl (by rw [hc10];simp [vb]) rfl fun a hA =>
    o_no hA rfl rfl (by rw [hc10];simp [vb]) rfl fun a hA =>
    stp hA (r_pick_t hA rfl hc10 rfl) rfl fun a hA=>?_
   refine o_nil ?_
   cases sJ H
   exact ⟨hA.sub ⟨rfl,rfl,trivial⟩,hI⟩
  ·have hc10:=hc1;obtain ⟨hc1,H⟩:=dF H hc1
   refine o_yes hA rfl rfl hc10 <|
    stp hA (r_fd (k:=66) U26 rfl sz22 hA rfl rfl) rfl fun a hA =>
    o_yes hA rfl rfl hc10 <|
    stp hA (r_ld1 (j:=0) [[.int .u32 x0.Version],av .u8 32 x0.Prev,av .u8 32 x0.Root,[.int .u32 x0.Time]] [[.int .u32 x0.Nonce]] U22 rfl hI rfl hA rfl rfl) rfl fun a hA =>
    o_yes hA rfl rfl hc10 <|
    stp hA (r_gtr hA rfl rfl) rfl fun a hA =>
    stp hA (r_pick_f hA rfl hc10 rfl) rfl fun a hA=>?_
   refine o_nil ?_
   cases sJ H
   exact ⟨hA.sub ⟨rfl,rfl,trivial⟩,hI⟩
 ·rintro a w ⟨hA,hI⟩
  have H:=Hk1
  refine w_cond hA rfl (fun hc2=>?_) (fun hc2=>?_)
  ·have H:=bT H hc2
   refine w_seq fun _ hN3=>w_reg<|stp hA (r_ldG U35 rfl hI.agr he5 hA) rfl fun a hA =>
    sta hA rfl rfl fun a hA=>?_
   refine o_nil<|hN3 _ _<|w_ret ?_
   obtain rfl:=sJ H
   exact ret1 hA Tryz.results50 rfl ⟨_,rfl,e5,μ,rfl,he5,(hI.sl [] rfl)⟩
  ·have hc2:=ft hc2;have H:=bF H hc2
   refine w_skip<|hN2 _ _<|w_seq fun _ hN4=>w_reg<|sta hA rfl rfl fun a hA=>?_
   refine o_nil<|hN4 _ _<|w_ret ?_
   obtain rfl:=sJ H
   exact ret1 hA Tryz.results50 rfl ⟨_,rfl,.nilIface,μ,rfl,erv_nil,(hI.sl [] rfl)⟩
theorem spend_Null.c (μ:Store)(w0:World)(hμ:Agr μ w0)(r:Point)(H:spend_Null.f=some r) :
  Calls Tryz.prog 100 [].toArray w0 (fun e w'=>∃ v,e=.returned v∧v=.agg [av .u8 32 r.Tx,[.int .u32 r.N]].flatten.toArray∧PointW μ r∧Iv w0 [] μ μ [] w'):=by
 refine enter Tryz.func100 rfl Tryz.ntmps100 rfl fun a hA=>?_
 have hI:=Iv.start hμ
 have H:=bI H
 refine w_seq fun _ hN1=>w_reg<|o_new [av .u8 32 Z32,[.int .u32 0]] zr65 hI hA rfl fun g1 a w hA hI hg1=>?_
 refine o_nil<|hN1 _ _<|w_seq fun _ hN2=>w_reg<|stp hA (r_bldS (cs:=[av .u8 32 Z32,[.int .u32 4294967295]].flatten.toArray) (pl:=[(0,32),(32,1)]) zr65 U65 ⟨rfl,sz24,rfl,sz22,trivial⟩ hA rfl (by kernel_rfl)) rfl fun a hA =>
  o_st (j:=0) [] [av .u8 32 Z32,[.int .u32 0]] [av .u8 32 Z32,[.int .u32 4294967295]] [] sz65 rfl rfl (fl_cons (one_av _ _ _) (fO rfl fl_nil)) hI rfl hA rfl rfl rfl rfl fun w hI=>?_
 refine o_nil<|hN2 _ _<|w_ret ?_
 obtain rfl:=sJ H
 exact retc U65 rfl sz65 rfl hI (j:=0) rfl hA Tryz.results100 rfl ⟨_,rfl,rfl,⟨(arr_zero _ _),(in_lit .u32 4294967295 rfl)⟩,hI.forget0⟩
theorem spend_IsNull.c (μ:Store)(w0:World)(hμ:Agr μ w0)(x0:Point)(hx0:PointW μ x0)(r:Bool)(H:spend_IsNull.f x0=some r) :
  Calls Tryz.prog 118 [.agg [av .u8 32 x0.Tx,[.int .u32 x0.N]].flatten.toArray].toArray w0 (fun e w'=>∃ v,e=.returned v∧v=.bool r∧True∧Iv w0 [] μ μ [] w'):=by
 refine enter Tryz.func118 rfl Tryz.ntmps118 rfl fun a hA=>?_
 have hI:=Iv.start hμ
 have H:=bI H
 refine w_seq fun _ hN1=>w_reg<|o_box [av .u8 32 x0.Tx,[.int .u32 x0.N]] hI hA rfl rfl rfl fun g1 a w hA hI hg1 =>
  sta hA rfl rfl fun a hA=>?_
 refine o_nil<|hN1 _ _<|w_seq fun _ hN2=>?_
 refine w_any [] mo hI fun w hI=>?_
 refine gT 0 hA rfl hI (fun w hI=>r_ldA (j:=0) [] [av .u8 32 x0.Tx,[.int .u32 x0.N]] [] U65 rfl sz65 rfl hI rfl hA rfl rfl) fun a hA=>?_
 refine gF 1 rfl ?_
 obtain ⟨r1,hr1,H⟩:=bB H
 refine o_callp (u:=.agg [av .u8 32 r1.Tx,[.int .u32 r1.N]].flatten.toArray) cf100 hA rfl hI (spend_Null.c μ _ hI.agr  r1 hr1) rfl fun a w hz1 hI hA=>?_
 refine o_nil<|⟨(.inr hI),?_⟩
 refine gE 2 hA rfl (.inr hI) (fun _=>r_eqS hA rfl rfl eg65 (eqv_struct U65 sh65 (eqf_cons (by decide) (partA [] [av .u8 32 x0.Tx] [[.int .u32 x0.N]] U24 rfl sz24 rfl rfl) (partA [] [av .u8 32 r1.Tx] [[.int .u32 r1.N]] U24 rfl sz24 rfl rfl) (eqv_arr U24 U5 sz5 hx0.1 hz1.1) (eqf_last (by decide) (part1 [av .u8 32 x0.Tx] [] U22 rfl rfl) (part1 [av .u8 32 r1.Tx] [] U22 rfl rfl) (eqv_int U22))))) fun a hA=>?_
 refine gE 3 hA rfl (.inr hI) (fun _=>r_as hA rfl) fun a hA=>?_
 refine gN<|hN2 _ _<|w_ret ?_
 obtain rfl:=sJ H
 exact ret1 hA Tryz.results118 rfl ⟨_,rfl,rfl,trivial,hI.forget0⟩
theorem spend_Lock.c (μ:Store)(w0:World)(hμ:Agr μ w0)(x0:List Int)(u0:Value)(hx0:Slc (RI .u8) 1 μ u0 x0)(r:List Int)(H:spend_Lock.f x0=some r) :
  Calls Tryz.prog 64 [u0].toArray w0 (fun e w'=>∃ v,e=.returned v∧v=.agg [av .u8 32 r].flatten.toArray∧Arr .u8 32 r∧Iv w0 [] μ μ [] w'):=by
 refine enter Tryz.func64 rfl Tryz.ntmps64 rfl fun a hA=>?_
 have hI:=Iv.start hμ
 have H:=bI H
 refine w_seq fun _ hN1=>w_reg<|o_new [av .u8 32 Z32] zr24 hI hA rfl fun g1 a w hA hI hg1=>?_
 refine o_nil<|hN1 _ _<|w_seq fun _ hN2=>w_reg<|stm hA rfl rfl fun a hA=>?_
 obtain ⟨r1,hr1,H⟩:=bB H
 refine o_callp (u:=.agg [av .u8 32 r1].flatten.toArray) cf101 hA rfl hI (digest_Sha.c μ _ hI.agr x0 u0 hx0 r1 hr1) rfl fun a w hz1 hI hA =>
  o_st (j:=0) [] [av .u8 32 Z32] [av .u8 32 r1] [] sz24 rfl rfl (fl_cons (one_av _ _ _) fl_nil) hI rfl hA rfl rfl rfl rfl fun w hI=>?_
 refine o_nil<|hN2 _ _<|w_ret ?_
 obtain rfl:=sJ H
 exact retc U24 rfl sz24 rfl hI (j:=0) rfl hA Tryz.results64 rfl ⟨_,rfl,rfl,hz1,hI.forget0⟩
theorem head_Take.c (μ:Store)(w0:World)(hμ:Agr μ w0)(x0:cRd)(vp1 vp2:Value)(g0:Nat)(hp1:Slc (RI .u8) 1 μ vp1 x0.b)(hp2:InR .i64 x0.at_)(hp3:ErS μ vp2 x0.err)(ho0:Its μ w0 [cel g0 [[vp1],[.int .i64 x0.at_],[vp2]] 109])(e9:Value)(he9:ErS μ e9 (Er.b 10))(r:Head×cRd)(H:head_Take.f x0=some r) :
  Calls Tryz.prog 31 [pt g0 0].toArray w0 (fun e w'=>∃ v,e=.returned v∧∃(vp_1 vp_2:Value)(μ':Store),v=.agg [[.int .u32 ((r.1).Version)],av .u8 32 ((r.1).Prev),av .u8 32 ((r.1).Root),[.int .u32 ((r.1).Time)],[.int .u32 ((r.1).Work)],[.int .u32 ((r.1).Nonce)]].flatten.toArray∧HeadW μ (r.1)∧Slc (RI .u8) 1 μ' vp_1 (r.2).b∧InR .i64 (r.2).at_∧ErS μ' vp_2 (r.2).err∧Iv w0 (many [cel g0 [[vp1],[.int .i64 x0.at_],[vp2]] 109]).foot μ μ' [cel g0 [[vp_1],[.int .i64 ((r.2).at_)],[vp_2]] 109] w'):=by
 refine enter Tryz.func31 rfl Tryz.ntmps31 rfl fun a hA=>?_
 have hI:=Iv.startN hμ ho0
 have H:=bI H
 refine w_seq fun _ hN1=>w_reg<|o_new [[.int .u32 0],av .u8 32 Z32,av .u8 32 Z32,[.int .u32 0],[.int .u32 0],[.int .u32 0]] zr26 hI hA rfl fun g1 a w hA hI hg1=>?_
 refine o_nil<|hN1 _ _<|w_seq fun _ hN2=>w_reg<|stm hA rfl rfl fun a hA=>?_
 obtain ⟨r1,hr1,H⟩:=bB H
 have hI:=hI.sl [1,0] rfl
 refine o_call _ cf70 hA rfl (cR_Four.c μ _ hI.agr x0 vp1 vp2 g0 hp1 hp2 hp3 (hI.handN 1) e9 he9 r1 hr1) rfl fun v1 a w hz1 hA=>?_
 obtain ⟨vp3,vp4,μ1,rfl,hw1,hp4,hp5,hp6,hi1⟩:=hz1
 have hI:=hI.back1 hi1
 refine stp hA (r_bldS (cs:=[[.int .u32 r1.1],av .u8 32 Z32,av .u8 32 Z32,[.int .u32 0],[.int .u32 0],[.int .u32 0]].flatten.toArray) (pl:=[(0,1),(1,32),(33,32),(65,1),(66,1),(67,1)]) zr26 U26 ⟨rfl,sz22,rfl,sz24,rfl,sz24,rfl,sz22,rfl,sz22,rfl,sz22,trivial⟩ hA rfl (by kernel_rfl)) rfl fun a hA =>
  o_new [[.int .u32 0],av .u8 32 Z32,av .u8 32 Z32,[.int .u32 0],[.int .u32 0],[.int .u32 0]] zr26 hI hA rfl fun g2 a w hA hI hg2 =>
  o_st (j:=0) [] [[.int .u32 0],av .u8 32 Z32,av .u8 32 Z32,[.int .u32 0],[.int .u32 0],[.int .u32 0]] [[.int .u32 r1.1],av .u8 32 Z32,av .u8 32 Z32,[.int .u32 0],[.int .u32 0],[.int .u32 0]] [] sz26 rfl rfl (fO rfl (fl_cons (one_av _ _ _) (fl_cons (one_av _ _ _) (fO rfl (fO rfl (fO rfl fl_nil)))))) hI rfl hA rfl rfl rfl rfl fun w hI=>?_
 refine o_nil<|hN2 _ _<|w_seq fun _ hN3=>w_reg<|stm hA rfl rfl fun a hA=>?_
 obtain ⟨r2,hr2,H⟩:=bB H
 have hI:=hI.sl [1,0,2] rfl
 refine o_call _ cf71 hA rfl (cR_Hash.c μ1 _ hI.agr r1.2 vp3 vp4 g0 hp4 hp5 hp6 (hI.handN 1) e9 (ErV.le (fun _ _ h=>h) hi1.le he9) r2 hr2) rfl fun v2 a w hz2 hA=>?_
 obtain ⟨vp5,vp6,μ2,rfl,hw2,hp7,hp8,hp9,hi2⟩:=hz2
 have hI:=hI.back1 hi2
 refine stp hA (r_fd (k:=1) U26 rfl sz24 hA rfl rfl) rfl fun a hA =>
  o_st (j:=1) [[.int .u32 r1.1]] [av .u8 32 Z32] [av .u8 32 r2.1] [av .u8 32 Z32,[.int .u32 0],[.int .u32 0],[.int .u32 0]] sz24 rfl rfl (fl_cons (one_av _ _ _) fl_nil) hI rfl hA rfl rfl rfl rfl fun w hI=>?_
 refine o_nil<|hN3 _ _<|w_seq fun _ hN4=>w_reg<|stm hA rfl rfl fun a hA=>?_
 obtain ⟨r3,hr3,H⟩:=bB H
 refine o_call _ cf71 hA rfl (cR_Hash.c μ2 _ hI.agr r2.2 vp5 vp6 g0 hp7 hp8 hp9 (hI.handN 1) e9 (ErV.le (fun _ _ h=>h) (hi1.le.trans hi2.le) he9) r3 hr3) rfl fun v3 a w hz3 hA=>?_
 obtain ⟨vp7,vp8,μ3,rfl,hw3,hp10,hp11,hp12,hi3⟩:=hz3
 have hI:=hI.back1 hi3
 refine stp hA (r_fd (k:=33) U26 rfl sz24 hA rfl rfl) rfl fun a hA =>
  o_st (j:=1) [[.int .u32 r1.1],av .u8 32 r2.1] [av .u8 32 Z32] [av .u8 32 r3.1] [[.int .u32 0],[.int .u32 0],[.int .u32 0]] sz24 rfl rfl (fl_cons (one_av _ _ _) fl_nil) hI rfl hA rfl rfl rfl rfl fun w hI=>?_
 refine o_nil<|hN4 _ _<|w_seq fun _ hN5=>w_reg<|stm hA rfl rfl fun a hA=>?_
 obtain ⟨r4,hr4,H⟩:=bB H
 refine o_call _ cf70 hA rfl (cR_Four.c μ3 _ hI.agr r3.2 vp7 vp8 g0 hp10 hp11 hp12 (hI.handN 1) e9 (ErV.le (fun _ _ h=>h) ((hi1.le.trans hi2.le).trans hi3.le) he9) r4 hr4) rfl fun v4 a w hz4 hA=>?_
 obtain ⟨vp9,vp10,μ4,rfl,hw4,hp13,hp14,hp15,hi4⟩:=hz4
 have hI:=hI.back1 hi4
 refine stp hA (r_fd (k:=65) U26 rfl sz22 hA rfl rfl) rfl fun a hA =>
  o_st (j:=1) [[.int .u32 r1.1],av .u8 32 r2.1,av .u8 32 r3.1] [[.int .u32 0]] [[.int .u32 r4.1]] [[.int .u32 0],[.int .u32 0]] sz22 rfl rfl (fO rfl fl_nil) hI rfl hA rfl rfl rfl rfl fun w hI=>?_
 refine o_nil<|hN5 _ _<|w_seq fun _ hN6=>w_reg<|stm hA rfl rfl fun a hA=>?_
 obtain ⟨r5,hr5,H⟩:=bB H
 refine o_call _ cf70 hA rfl (cR_Four.c μ4 _ hI.agr r4.2 vp9 vp10 g0 hp13 hp14 hp15 (hI.handN 1) e9 (ErV.le (fun _ _ h=>h) (((hi1.le.trans hi2.le).trans hi3.le).trans hi4.le) he9) r5 hr5) rfl fun v5 a w hz5 hA=>?_
 obtain ⟨vp11,vp12,μ5,rfl,hw5,hp16,hp17,hp18,hi5⟩:=hz5
 have hI:=hI.back1 hi5
 refine stp hA (r_fd (k:=66) U26 rfl sz22 hA rfl rfl) rfl fun a hA =>
  o_st (j:=1) [[.int .u32 r1.1],av .u8 32 r2.1,av .u8 32 r3.1,[.int .u32 r4.1]] [[.int .u32 0]] [[.int .u32 r5.1]] [[.int .u32 0]] sz22 rfl rfl (fO rfl fl_nil) hI rfl hA rfl rfl rfl rfl fun w hI=>?_
 refine o_nil<|hN6 _ _<|w_seq fun _ hN7=>w_reg<|stm hA rfl rfl fun a hA=>?_
 obtain ⟨r6,hr6,H⟩:=bB H
 refine o_call _ cf70 hA rfl (cR_Four.c μ5 _ hI.agr r5.2 vp11 vp12 g0 hp16 hp17 hp18 (hI.handN 1) e9 (ErV.le (fun _ _ h=>h) ((((hi1.le.trans hi2.le).trans hi3.le).trans hi4.le).trans hi5.le) he9) r6 hr6) rfl fun v6 a w hz6 hA=>?_
 obtain ⟨vp13,vp14,μ6,rfl,hw6,hp19,hp20,hp21,hi6⟩:=hz6
 have hI:=hI.back1 hi6
 refine stp hA (r_fd (k:=67) U26 rfl sz22 hA rfl rfl) rfl fun a hA =>
  o_st (j:=1) [[.int .u32 r1.1],av .u8 32 r2.1,av .u8 32 r3.1,[.int .u32 r4.1],[.int .u32 r5.1]] [[.int .u32 0]] [[.int .u32 r6.1]] [] sz22 rfl rfl (fO rfl fl_nil) hI rfl hA rfl rfl rfl rfl fun w hI=>?_
 refine o_nil<|hN7 _ _<|w_seq fun _ hN8=>w_seq fun _ hN9=>w_reg<|stm hA rfl rfl fun a hA=>?_
 obtain ⟨r7,hr7,H⟩:=bB H
 refine o_call _ cf34 hA rfl (cR_Err.c μ6 _ hI.agr r6.2 vp13 vp14 g0 hp19 hp20 hp21 (hI.handN 1) r7 hr7) rfl fun v7 a w hz7 hA=>?_
 obtain ⟨_,μ7,rfl,hS1,hi7⟩:=hz7
 have hI:=hI.back1 hi7
 refine stp hA (r_neE erF hI.agr hS1 erv_nil (.inl ⟨.inr ⟨_,rfl⟩,Er.fitR⟩) hA rfl rfl) rfl fun a hA=>?_
 refine o_nil<|hN9 _ _<|w_cond hA rfl (fun hc1=>?_) (fun hc1=>?_)
 ·obtain ⟨hc1,H⟩:=dT H hc1
  refine w_seq fun _ hN10=>w_reg<|stp hA (r_bldS (cs:=[[.int .u32 0],av .u8 32 Z32,av .u8 32 Z32,[.int .u32 0],[.int .u32 0],[.int .u32 0]].flatten.toArray) (pl:=[(0,1),(1,32),(33,32),(65,1),(66,1),(67,1)]) zr26 U26 ⟨rfl,sz22,rfl,sz24,rfl,sz24,rfl,sz22,rfl,sz22,rfl,sz22,trivial⟩ hA rfl (by kernel_rfl)) rfl fun a hA =>
   o_st (j:=2) [] [[.int .u32 0],av .u8 32 Z32,av .u8 32 Z32,[.int .u32 0],[.int .u32 0],[.int .u32 0]] [[.int .u32 0],av .u8 32 Z32,av .u8 32 Z32,[.int .u32 0],[.int .u32 0],[.int .u32 0]] [] sz26 rfl rfl (fO rfl (fl_cons (one_av _ _ _) (fl_cons (one_av _ _ _) (fO rfl (fO rfl (fO rfl fl_nil)))))) hI rfl hA rfl rfl rfl rfl fun w hI=>?_
  refine o_nil<|hN10 _ _<|w_ret ?_
  obtain rfl:=sJ H
  exact retc U26 rfl sz26 rfl hI (j:=2) rfl hA Tryz.results31 rfl ⟨_,rfl,vp13,vp14,μ7,rfl,⟨(in_lit .u32 0 rfl),(arr_zero _ _),(arr_zero _ _),(in_lit .u32 0 rfl),(in_lit .u32 0 rfl),(in_lit .u32 0 rfl)⟩,(Slc.le hp19 (fun _ _ h=>h) hi7.le),hp20,(ErV.le (fun _ _ h=>h) hi7.le hp21),(hI.sl [0] rfl)⟩
 ·obtain ⟨hc1,H⟩:=dF H hc1
  refine w_skip<|hN8 _ _<|w_seq fun _ hN11=>w_reg<|stp hA (r_ldA (j:=1) [] [[.int .u32 r1.1],av .u8 32 r2.1,av .u8 32 r3.1,[.int .u32 r4.1],[.int .u32 r5.1],[.int .u32 r6.1]] [] U26 rfl sz26 rfl hI rfl hA rfl rfl) rfl fun a hA =>
   o_st (j:=2) [] [[.int .u32 0],av .u8 32 Z32,av .u8 32 Z32,[.int .u32 0],[.int .u32 0],[.int .u32 0]] [[.int .u32 r1.1],av .u8 32 r2.1,av .u8 32 r3.1,[.int .u32 r4.1],[.int .u32 r5.1],[.int .u32 r6.1]] [] sz26 rfl rfl (fO rfl (fl_cons (one_av _ _ _) (fl_cons (one_av _ _ _) (fO rfl (fO rfl (fO rfl fl_nil)))))) hI rfl hA rfl rfl rfl rfl fun w hI=>?_
  refine o_nil<|hN11 _ _<|w_ret ?_
  obtain rfl:=sJ H
  exact retc U26 rfl sz26 rfl hI (j:=2) rfl hA Tryz.results31 rfl ⟨_,rfl,vp13,vp14,μ7,rfl,⟨hw1,hw2,hw3,hw4,hw5,hw6⟩,(Slc.le hp19 (fun _ _ h=>h) hi7.le),hp20,(ErV.le (fun _ _ h=>h) hi7.le hp21),(hI.sl [0] rfl)⟩
theorem head_ID.c (μ:Store)(w0:World)(hμ:Agr μ w0)(x0:Head)(hx0:HeadW μ x0)(r:List Int)(H:head_ID.f x0=some r) :
  Calls Tryz.prog 42 [.agg [[.int .u32 x0.Version],av .u8 32 x0.Prev,av .u8 32 x0.Root,[.int .u32 x0.Time],[.int .u32 x0.Work],[.int .u32 x0.Nonce]].flatten.toArray].toArray w0 (fun e w'=>∃ v,e=.returned v∧v=.agg [av .u8 32 r].flatten.toArray∧Arr .u8 32 r∧Iv w0 [] μ μ [] w'):=by
 refine enter Tryz.func42 rfl Tryz.ntmps42 rfl fun a hA=>?_
 have hI:=Iv.start hμ
 have H:=bI H
 refine w_seq fun _ hN1=>w_reg<|o_box [[.int .u32 x0.Version],av .u8 32 x0.Prev,av .u8 32 x0.Root,[.int .u32 x0.Time],[.int .u32 x0.Work],[.int .u32 x0.Nonce]] hI hA rfl rfl rfl fun g1 a w hA hI hg1 =>
  o_new [av .u8 32 Z32] zr24 hI hA rfl fun g2 a w hA hI hg2=>?_
 refine o_nil<|hN1 _ _<|w_seq fun _ hN2=>w_reg<|stp hA (r_ldA (j:=1) [] [[.int .u32 x0.Version],av .u8 32 x0.Prev,av .u8 32 x0.Root,[.int .u32 x0.Time],[.int .u32 x0.Work],[.int .u32 x0.Nonce]] [] U26 rfl sz26 rfl hI rfl hA rfl rfl) rfl fun a hA=>?_
 obtain ⟨r1,hr1,H⟩:=bB H
 refine o_call _ cf40 hA rfl (head_Bytes.c μ _ hI.agr x0 ⟨hx0.1,hx0.2.1,hx0.2.2.1,hx0.2.2.2.1,hx0.2.2.2.2.1,hx0.2.2.2.2.2⟩ r1 hr1) rfl fun v1 a w hz1 hA=>?_
 obtain ⟨_,cs1,rfl,hE1,hi1⟩:=hz1
 have hI:=hI.call hi1
 obtain ⟨r2,hr2,H⟩:=bB H
 refine o_callp (u:=.agg [av .u8 32 r2].flatten.toArray) cf85 hA rfl hI ((by obtain ⟨μ1,hle1,hsv1,hI⟩:=hI.freezeRow 0 rfl;have hS1:Slc (RI .u8) 1 μ1 v1 r1:=⟨_,hE1,hsv1⟩;exact low_plain hle1 (digest_Twice.c μ1 _ hI.agr r1 v1 hS1 r2 hr2))) rfl fun a w hz2 hI hA =>
  o_st (j:=1) [] [av .u8 32 Z32] [av .u8 32 r2] [] sz24 rfl rfl (fl_cons (one_av _ _ _) fl_nil) hI rfl hA rfl rfl rfl rfl fun w hI=>?_
 refine o_nil<|hN2 _ _<|w_ret ?_
 obtain rfl:=sJ H
 exact retc U24 rfl sz24 rfl hI (j:=1) rfl hA Tryz.results42 rfl ⟨_,rfl,rfl,hz2,hI.forget0⟩
theorem q1_Null.c (μ:Store)(w0:World)(hμ:Agr μ w0)(r:Point)(H:q1_Null.f=some r) :
  Calls Tryz.prog 97 [].toArray w0 (fun e w'=>∃ v,e=.returned v∧v=.agg [av .u8 32 r.Tx,[.int .u32 r.N]].flatten.toArray∧PointW μ r∧Iv w0 [] μ μ [] w'):=by
 refine enter Tryz.func97 rfl Tryz.ntmps97 rfl fun a hA=>?_
 have hI:=Iv.start hμ
 have H:=bI H
 refine w_seq fun _ hN1=>w_reg<|o_new [av .u8 32 Z32,[.int .u32 0]] zr65 hI hA rfl fun g1 a w hA hI hg1=>?_
 refine o_nil<|hN1 _ _<|w_seq fun _ hN2=>w_reg<|stp hA (r_bldS (cs:=[av .u8 32 Z32,[.int .u32 4294967295]].flatten.toArray) (pl:=[(0,32),(32,1)]) zr65 U65 ⟨rfl,sz24,rfl,sz22,trivial⟩ hA rfl (by kernel_rfl)) rfl fun a hA =>
  o_st (j:=0) [] [av .u8 32 Z32,[.int .u32 0]] [av .u8 32 Z32,[.int .u32 4294967295]] [] sz65 rfl rfl (fl_cons (one_av _ _ _) (fO rfl fl_nil)) hI rfl hA rfl rfl rfl rfl fun w hI=>?_
 refine o_nil<|hN2 _ _<|w_ret ?_
 obtain rfl:=sJ H
 exact retc U65 rfl sz65 rfl hI (j:=0) rfl hA Tryz.results97 rfl ⟨_,rfl,rfl,⟨(arr_zero _ _),(in_lit .u32 4294967295 rfl)⟩,hI.forget0⟩
noncomputable def merkle_pair.f (x0 x1:List Int):Option (List Int):=((slices_Concat_byte_byte.f ([x0,x1]:List (List Int))).bind fun r1=>((digest_Twice.f r1).bind fun r2=>some r2))
def merkle_other.f (x0:Int)(x1:List (List Int)):Option (List Int):=(if 0≤iMin (bXor .i64 x0 1) (IntKind.i64.wrap ((x1.length:Int) - 1))∧iMin (bXor .i64 x0 1) (IntKind.i64.wrap ((x1.length:Int) - 1)) < (x1.length:Int) then some (x1.getD (iMin (bXor .i64 x0 1) (IntKind.i64.wrap ((x1.length:Int) - 1))).toNat []) else none)
noncomputable def merkle_up.s0 (x0:List (List Int)):((List (List Int))×Int)→Option (((List (List Int))×Int)⊕(List (List Int))):=fun (s1,s2)=>(if s2 < (x0.length:Int) then (if 0≤s2∧s2 < (x0.length:Int) then ((merkle_other.f s2 x0).bind fun r1=>((merkle_pair.f (x0.getD s2.toNat []) r1).bind fun r2=>(if s1.length+1≤4398046511104 then some (.inl (s1++([r2]:List (List Int)),IntKind.i64.wrap (s2+2))) else none))) else none) else some (.inr s1))
noncomputable def merkle_up.f (x0:List (List Int)):Option (List (List Int)):=((loopO (merkle_up.s0 x0) ([],0)).bind fun c1=>some c1)
noncomputable def merkle_Root.s0:(List (List Int))→Option ((List (List Int))⊕(List (List Int))):=fun s1=>(if 1 < (s1.length:Int) then ((merkle_up.f s1).bind fun r1=>some (.inl r1)) else some (.inr s1))
noncomputable def merkle_Root.f (x0:List (List Int)):Option (List Int):=(if (x0.length:Int)=0 then some ([0,0,0,0,0,0,0,0,0,0,0,0,0,0,0,0,0,0,0,0,0,0,0,0,0,0,0,0,0,0,0,0]) else ((loopO (merkle_Root.s0) x0).bind fun c1=>(if 0 < (c1.length:Int) then some (c1.getD (0:Int).toNat []) else none)))
noncomputable def q1_pair.f (x0 x1:List Int):Option (List Int):=((q0_Bytes.f x0).bind fun r1=>(if r1.length+x1.length≤140737488355328 then ((q1_Twice.f (r1++x1)).bind fun r2=>some r2) else none))
noncomputable def q1_row.s0 (x0:List (List Int)):((List (List Int))×Int)→Option (((List (List Int))×Int)⊕(List (List Int))):=fun (s1,s2)=>(if s2 < (x0.length:Int) then (if 0≤s2∧s2 < (x0.length:Int) then (if 0≤iMin (IntKind.i64.wrap (s2+1)) (IntKind.i64.wrap ((x0.length:Int) - 1))∧iMin (IntKind.i64.wrap (s2+1)) (IntKind.i64.wrap ((x0.length:Int) - 1)) < (x0.length:Int) then ((q1_pair.f (x0.getD s2.toNat []) (x0.getD (iMin (IntKind.i64.wrap (s2+1)) (IntKind.i64.wrap ((x0.length:Int) - 1))).toNat [])).bind fun r1=>(if s1.length+1≤4398046511104 then some (.inl (s1++([r1]:List (List Int)),IntKind.i64.wrap (s2+2))) else none)) else none) else none) else some (.inr s1))
noncomputable def q1_row.f (x0:List (List Int)):Option (List (List Int)):=((loopO (q1_row.s0 x0) ([],0)).bind fun c1=>some c1)
noncomputable def q1_Root.s0:(List (List Int))→Option ((List (List Int))⊕(List (List Int))):=fun s1=>(if 1 < (s1.length:Int) then ((q1_row.f s1).bind fun r1=>some (.inl r1)) else some (.inr s1))
noncomputable def q1_Root.f (x0:List (List Int)):Option (List Int):=(if (x0.length:Int)=0 then some ([0,0,0,0,0,0,0,0,0,0,0,0,0,0,0,0,0,0,0,0,0,0,0,0,0,0,0,0,0,0,0,0]) else ((loopO (q1_Root.s0) x0).bind fun c1=>(if 0 < (c1.length:Int) then some (c1.getD (0:Int).toNat []) else none)))
theorem merkle_pair.c (μ:Store)(w0:World)(hμ:Agr μ w0)(x0:List Int)(hx0:Arr .u8 32 x0)(x1:List Int)(hx1:Arr .u8 32 x1)(r:List Int)(H:merkle_pair.f x0 x1=some r) :
  Calls Tryz.prog 108 [.agg [av .u8 32 x0].flatten.toArray,.agg [av .u8 32 x1].flatten.toArray].toArray w0 (fun e w'=>∃ v,e=.returned v∧v=.agg [av .u8 32 r].flatten.toArray∧Arr .u8 32 r∧Iv w0 [] μ μ [] w'):=by
 refine enter Tryz.func108 rfl Tryz.ntmps108 rfl fun a hA=>?_
 have hI:=Iv.start hμ
 have H:=bI H
 refine w_seq fun _ hN1=>w_reg<|o_box [av .u8 32 x0] hI hA rfl rfl rfl fun g1 a w hA hI hg1 =>
  o_box [av .u8 32 x1] hI hA rfl rfl rfl fun g2 a w hA hI hg2 =>
  o_new [av .u8 32 Z32] zr24 hI hA rfl fun g3 a w hA hI hg3=>?_
 refine o_nil<|hN1 _ _<|w_seq fun _ hN2=>?_
 refine w_anyS [] mo (fun w (h:Iv w0 [] μ μ [cel g3 [av .u8 32 Z32] 24,cel g2 [av .u8 32 x1] 24,cel g1 [av .u8 32 x0] 24] w)=>(h.sl [1,2] rfl:Iv w0 [] μ μ [cel g2 [av .u8 32 x1] 24,cel g1 [av .u8 32 x0] 24] w)) hI fun w hI=>?_
 refine gE 0 hA rfl (.inr (hI.sl [1,2] rfl)) (fun _=>r_slv (i:=0) (j:=32) U24 sz5 hA rfl rfl rfl (by decide) (by decide) (by decide) (by decide) rfl) fun a hA=>?_
 refine gE 1 hA rfl (.inr (hI.sl [1,2] rfl)) (fun _=>r_slv (i:=0) (j:=32) U24 sz5 hA rfl rfl rfl (by decide) (by decide) (by decide) (by decide) rfl) fun a hA=>?_
 refine gF 2 rfl ?_
 obtain ⟨μ1,hle1,hat1,hI,hth1⟩:=hI.freezeCelT 2 rfl
 have hS1:Slc (RI .u8) 1 μ1 (.slice (some ⟨g1,0,none⟩) 32 32) (x0):=slc_view0 [] [] hat1 hx0 rfl (by decide)
 obtain ⟨μ2,hle2,hat2,hI,hth2⟩:=hI.freezeCelT 1 rfl
 have hS2:Slc (RI .u8) 1 μ2 (.slice (some ⟨g2,0,none⟩) 32 32) (x1):=slc_view0 [] [] hat2 hx1 rfl (by decide)
 have hE1:Els (RS (RI .u8) 1 μ2) 1 ([x0,x1]:List (List Int)) _:=(Els.cons (c:=[[(.slice (some ⟨g1,0,none⟩) 32 32)]].flatten) ⟨_,rfl,(Slc.le hS1 (fun _ _ h=>h) hle2)⟩ rfl (Els.cons (c:=[[(.slice (some ⟨g2,0,none⟩) 32 32)]].flatten) ⟨_,rfl,hS2⟩ rfl Els.nil))
 refine o_bsl ([[(.slice (some ⟨g1,0,none⟩) 32 32)]].flatten++([[(.slice (some ⟨g2,0,none⟩) 32 32)]].flatten++([]))) te30 zr30 U134 hI hA rfl rfl rfl rfl ((fill_one (cells1 (Slc.le hS1 (fun _ _ h=>h) hle2)) rfl (by kernel_rfl)).trans ((fill_one (cells1 hS2) rfl (by kernel_rfl)).trans (by kernel_rfl))) rfl fun g4 a w hA hI=>?_
 generalize hcs:([[(.slice (some ⟨g1,0,none⟩) 32 32)]].flatten++([[(.slice (some ⟨g2,0,none⟩) 32 32)]].flatten++([])):List Value)=cs1 at hE1 hI
 clear hcs
 refine o_nil<|⟨(.inr ((hth1 _ _ (hth2 _ _ hI)).sl [1,0] rfl)),?_⟩
 refine gF 3 rfl ?_
 obtain ⟨r1,hr1,H⟩:=bB H
 refine o_call (fun v w'=>∃(v0:Value)(c0:List Value),v=v0∧Els (RI .u8) 1 r1 c0∧Iv w [] μ2 μ2 [row 5 1 v0 r1.length c0] w') cf82 hA rfl ((by obtain ⟨μ3,hle3,hsv1,hI⟩:=hI.freezeRow 0 rfl;have hS3:Slc (RS (RI .u8) 1 μ3) 1 μ3 (.slice (some ⟨g4,0,none⟩) 2 2) ([x0,x1]:List (List Int)):=⟨_,(Els.mono hE1 (fun _ _ h=>RS.le (fun _ _ h=>h) hle3 h)),hsv1⟩;exact (slices_Concat_byte_byte.c μ3 _ hI.agr ([x0,x1]:List (List Int)) (.slice (some ⟨g4,0,none⟩) 2 2) hS3 r1 hr1).mono fun _ _ ⟨v,he,b0,b1,hv,f0,hi⟩=>⟨v,he,b0,b1,hv,f0,hi.low hle3⟩)) rfl fun v1 a w hz1 hA=>?_
 obtain ⟨_,cs2,rfl,hE2,hi1⟩:=hz1
 have hI:=hI.call hi1
 refine o_nil<|⟨(.inr ((hth1 _ _ (hth2 _ _ hI)).sl [1,0] rfl)),?_⟩
 refine gF 4 rfl ?_
 obtain ⟨r2,hr2,H⟩:=bB H
 refine o_callp (u:=.agg [av .u8 32 r2].flatten.toArray) cf85 hA rfl hI ((by obtain ⟨μ4,hle4,hsv2,hI⟩:=hI.freezeRow 0 rfl;have hS4:Slc (RI .u8) 1 μ4 v1 r1:=⟨_,hE2,hsv2⟩;exact low_plain hle4 (digest_Twice.c μ4 _ hI.agr r1 v1 hS4 r2 hr2))) rfl fun a w hz2 hI hA=>?_
 refine o_nil<|⟨(.inr ((hth1 _ _ (hth2 _ _ hI)).sl [1,0] rfl)),?_⟩
 refine gF 5 rfl ?_
 refine o_st (j:=2) [] [av .u8 32 Z32] [av .u8 32 r2] [] sz24 rfl rfl (fl_cons (one_av _ _ _) fl_nil) hI rfl hA rfl rfl rfl rfl fun w hI=>?_
 refine o_nil<|⟨(.inr ((hth1 _ _ (hth2 _ _ hI)).sl [1,0] rfl)),?_⟩
 refine gN<|hN2 _ _<|w_ret ?_
 obtain rfl:=sJ H
 exact retc U24 rfl sz24 rfl hI (j:=2) rfl hA Tryz.results108 rfl ⟨_,rfl,rfl,hz2,hI.forget0⟩
theorem merkle_other.c (μ:Store)(w0:World)(hμ:Agr μ w0)(x0:Int)(hx0:InR .i64 x0)(x1:List (List Int))(u1:Value)(hx1:Slc (RA .u8 32) 32 μ u1 x1)(r:List Int)(H:merkle_other.f x0 x1=some r) :
  Calls Tryz.prog 109 [.int .i64 x0,u1].toArray w0 (fun e w'=>∃ v,e=.returned v∧v=.agg [av .u8 32 r].flatten.toArray∧Arr .u8 32 r∧Iv w0 [] μ μ [] w'):=by
 refine enter Tryz.func109 rfl Tryz.ntmps109 rfl fun a hA=>?_
 have hI:=Iv.start hμ
 have H:=bI H
 refine w_seq fun _ hN1=>w_reg<|o_new [av .u8 32 Z32] zr24 hI hA rfl fun g1 a w hA hI hg1=>?_
 refine o_nil<|hN1 _ _<|w_seq fun _ hN2=>w_reg<|stm hA rfl rfl fun a hA =>
  stm hA rfl rfl fun a hA =>
  stp hA (r_xor hA rfl rfl) rfl fun a hA =>
  stm hA rfl rfl fun a hA=>?_
 obtain ⟨_,hsl1⟩:=Slc.sv hx1
 refine stp hA (r_slen U46 hsl1 hA rfl) rfl fun a hA =>
  stp hA (r_sub hA rfl rfl) rfl fun a hA =>
  stp hA (r_min hA rfl rfl) rfl fun a hA=>?_
 obtain ⟨hb1,H⟩:=bG H
 obtain ⟨_,he1,_,hat1⟩:=Slc.elem hx1 (getD_some [] hb1.1 hb1.2)
 obtain ⟨rfl,hw1⟩:=he1
 obtain ⟨_,hsl2⟩:=Slc.sv hx1
 refine stp hA (r_six U46 sz24 hsl2 hA rfl rfl hb1.1 hb1.2) rfl fun a hA =>
  stp hA (r_ldmA [] [av .u8 32 (x1.getD (iMin (bXor .i64 x0 1) (IntKind.i64.wrap ((x1.length:Int) - 1))).toNat [])] [] U24 rfl sz24 rfl hI.agr hat1 hA rfl rfl) rfl fun a hA =>
  o_st (j:=0) [] [av .u8 32 Z32] [av .u8 32 (x1.getD (iMin (bXor .i64 x0 1) (IntKind.i64.wrap ((x1.length:Int) - 1))).toNat [])] [] sz24 rfl rfl (fl_cons (one_av _ _ _) fl_nil) hI rfl hA rfl rfl rfl rfl fun w hI=>?_
 refine o_nil<|hN2 _ _<|w_ret ?_
 obtain rfl:=sJ H
 exact retc U24 rfl sz24 rfl hI (j:=0) rfl hA Tryz.results109 rfl ⟨_,rfl,rfl,hw1,hI.forget0⟩
theorem merkle_up.c (μ:Store)(w0:World)(hμ:Agr μ w0)(x0:List (List Int))(u0:Value)(hx0:Slc (RA .u8 32) 32 μ u0 x0)(r:List (List Int))(H:merkle_up.f x0=some r) :
  Calls Tryz.prog 87 [u0].toArray w0 (fun e w'=>∃ v,e=.returned v∧∃(v0:Value)(c0:List Value),v=v0∧Els (RA .u8 32) 32 r c0∧Iv w0 [] μ μ [row 24 32 v0 r.length c0] w'):=by
 refine enter Tryz.func87 rfl Tryz.ntmps87 rfl fun a hA=>?_
 have hI:=Iv.start hμ
 have H:=bI H
 refine w_seq fun _ hN1=>w_reg<|sta hA rfl rfl fun a hA=>?_
 refine o_nil<|hN1 _ _<|w_seq fun _ hN2=>w_reg<|sta hA rfl rfl fun a hA=>?_
 refine o_nil<|hN2 _ _ ?_
 obtain ⟨c1,hz1,Hk1⟩:=bB H
 refine w_cut (fun a w=>∃(vvc1:Value)(ccc1:List Value),Els (RA .u8 32) 32 c1 ccc1∧Fr a 23 [(2,Sn),(3,vvc1)]∧Iv w0 [] μ μ [row 24 32 vvc1 c1.length ccc1] w) ?_ ?_
 ·have H:=bI hz1
  refine w_seq fun _ hN3=>w_reg<|sta hA rfl rfl fun a hA=>?_
  refine o_nil<|hN3 _ _<|w_block ?_
  have hI:=hI.nilRow 24 32
  obtain ⟨z1,hz2,Hk2⟩:=bind_some H
  obtain ⟨n1,hn1⟩:=loopO_some hz2
  refine w_loop (fun n a w=>∃(s1:List (List Int))(s2:Int)(vvs1:Value)(ccs1:List Value),loopN (merkle_up.s0 x0) n (s1,s2)=some z1∧Els (RA .u8 32) 32 s1 ccs1∧InR .i64 s2∧Fr a 23 [(0,u0),(2,Sn),(3,vvs1),(4,.int .i64 s2)]∧Iv w0 [] μ μ [row 24 32 vvs1 s1.length ccs1] w) n1 ⟨[],0,Sn,[],hn1,(Els.nil (RE:=(RA .u8 32)) (sz:=32)),(in_lit .i64 0 rfl),hA.sub ⟨rfl,rfl,rfl,rfl,trivial⟩,hI⟩ ?_
  clear hA hI
  rintro n a w ⟨s1,s2,vvs1,ccs1,hn1,ws1,ws2,hA,hI⟩
  obtain ⟨m1,rfl,H⟩:=loopN_bind hn1
  clear hn1
  refine w_seq fun _ hN4=>w_seq fun _ hN5=>w_reg<|stm hA rfl rfl fun a hA =>
   stm hA rfl rfl fun a hA=>?_
  obtain ⟨_,hsl1⟩:=Slc.sv hx0
  refine stp hA (r_slen U46 hsl1 hA rfl) rfl fun a hA =>
   stp hA (r_lss hA rfl rfl) rfl fun a hA=>?_
  refine o_nil<|hN5 _ _<|w_cond hA rfl (fun hc1=>?_) (fun hc1=>?_)
  ·obtain ⟨hc1,H⟩:=dT H hc1
   refine w_skip<|hN4 _ _<|w_seq fun _ hN6=>w_block ?_
   refine w_anyS [] mo (fun w (h:Iv w0 [] μ μ [row 24 32 vvs1 s1.length ccs1] w)=>(h.sl [] rfl:Iv w0 [] μ μ [] w)) hI fun w hI=>?_
   refine gE 0 hA rfl (.inr (hI.sl [] rfl)) (fun _=>r_mv hA rfl) fun a hA=>?_
   refine gE 1 hA rfl (.inr (hI.sl [] rfl)) (fun _=>r_mv hA rfl) fun a hA=>?_
   refine gE 2 hA rfl (.inr (hI.sl [] rfl)) (fun _=>r_mv hA rfl) fun a hA=>?_
   obtain ⟨hb1,H⟩:=bG H
   obtain ⟨_,he1,_,hat1⟩:=Slc.elem hx0 (getD_some [] hb1.1 hb1.2)
   obtain ⟨rfl,hw1⟩:=he1
   obtain ⟨_,hsl2⟩:=Slc.sv hx0
   refine gE 3 hA rfl (.inr (hI.sl [] rfl)) (fun _=>r_six U46 sz24 hsl2 hA rfl rfl hb1.1 hb1.2) fun a hA=>?_
   refine gT 4 hA rfl (hI.sl [] rfl) (fun w hI=>r_ldmA [] [av .u8 32 (x0.getD s2.toNat [])] [] U24 rfl sz24 rfl hI.agr hat1 hA rfl rfl) fun a hA=>?_
   refine gE 5 hA rfl (.inr (hI.sl [] rfl)) (fun _=>r_mv hA rfl) fun a hA=>?_
   refine gE 6 hA rfl (.inr (hI.sl [] rfl)) (fun _=>r_mv hA rfl) fun a hA=>?_
   refine gF 7 rfl ?_
   obtain ⟨r1,hr1,H⟩:=bB H
   refine o_callp (u:=.agg [av .u8 32 r1].flatten.toArray) cf109 hA rfl hI (merkle_other.c μ _ hI.agr s2 ws2 x0 u0 hx0 r1 hr1) rfl fun a w hz3 hI hA=>?_
   refine o_nil<|⟨(.inr (hI.sl [] rfl)),?_⟩
   refine gF 8 rfl ?_
   obtain ⟨r2,hr2,H⟩:=bB H
   refine o_callp (u:=.agg [av .u8 32 r2].flatten.toArray) cf108 hA rfl hI (merkle_pair.c μ _ hI.agr (x0.getD s2.toNat []) hw1 r1 hz3 r2 hr2) rfl fun a w hz4 hI hA=>?_
   refine o_nil<|⟨(.inr (hI.sl [] rfl)),?_⟩
   refine gF 9 rfl ?_
   have hE1:Els (RA .u8 32) 32 ([r2]:List (List Int)) _:=(Els.cons (c:=[av .u8 32 r2].flatten) ⟨rfl,hz4⟩ rfl Els.nil)
   refine o_bsl ([av .u8 32 r2].flatten++([])) te24 zr24 U46 hI hA rfl rfl rfl rfl (by kernel_rfl) rfl fun g1 a w hA hI=>?_
   generalize hcs:([av .u8 32 r2].flatten++([]):List Value)=cs1 at hE1 hI
   clear hcs
   refine o_nil<|⟨(.inr (hI.sl [] rfl)),?_⟩
   refine gF 10 rfl ?_
   obtain ⟨hb2,H⟩:=bG H
   have hE3:=ws1.app hE1
   refine o_appG (xs:=(s1:List (List Int))) (ys:=(([r2]:List (List Int)):List (List Int))) (M:=4398046511104) 1 te24 U46 hI rfl hA rfl rfl (src_row hI (j:=0) rfl) hE1.len (hE1.ones (one_RA _ _)) hb2 rfl fun v1 a w hA hI=>?_
   refine o_nil<|⟨(.inr (hI.sl [] rfl)),?_⟩
   refine gE 11 hA rfl (.inr (hI.sl [] rfl)) (fun _=>r_as hA rfl) fun a hA=>?_
   refine gN<|hN6 _ _<|w_reg<|stm hA rfl rfl fun a hA =>
    stp hA (r_add hA rfl rfl) rfl fun a hA =>
    sta hA rfl rfl fun a hA=>?_
   refine o_nil<|⟨m1,lS _,s1++([r2]:List (List Int)),IntKind.i64.wrap (s2+2),v1,ccs1++cs1,H,hE3,(wrap_in _ _),hA.sub ⟨rfl,rfl,rfl,rfl,trivial⟩,(hI.sl [1] rfl)⟩
  ·obtain ⟨hc1,H⟩:=dF H hc1
   refine w_exit rfl ?_
   have H:some s1=some z1:=H
   obtain rfl:=sI H
   have H:=Hk2
   cases sJ H
   exact ⟨vvs1,ccs1,ws1,hA.sub ⟨rfl,rfl,trivial⟩,hI⟩
 ·rintro a w ⟨vvc1,ccc1,wc1,hA,hI⟩
  have H:=Hk1
  refine w_seq fun _ hN7=>w_reg<|stm hA rfl rfl fun a hA =>
   sta hA rfl rfl fun a hA=>?_
  refine o_nil<|hN7 _ _<|w_ret ?_
  obtain rfl:=sJ H
  exact ret1 hA Tryz.results87 rfl ⟨_,rfl,vvc1,ccc1,rfl,wc1,(hI.less (Store.le.refl _) hI.le)⟩
theorem merkle_Root.c (μ:Store)(w0:World)(hμ:Agr μ w0)(x0:List (List Int))(u0:Value)(hx0:Slc (RA .u8 32) 32 μ u0 x0)(r:List Int)(H:merkle_Root.f x0=some r) :
  Calls Tryz.prog 44 [u0].toArray w0 (fun e w'=>∃ v,e=.returned v∧v=.agg [av .u8 32 r].flatten.toArray∧Arr .u8 32 r∧Iv w0 [] μ μ [] w'):=by
 refine enter Tryz.func44 rfl Tryz.ntmps44 rfl fun a hA=>?_
 have hI:=Iv.start hμ
 have H:=bI H
 refine w_seq fun _ hN1=>w_reg<|o_new [av .u8 32 Z32] zr24 hI hA rfl fun g1 a w hA hI hg1=>?_
 refine o_nil<|hN1 _ _<|w_seq fun _ hN2=>w_seq fun _ hN3=>w_reg<|stm hA rfl rfl fun a hA=>?_
 obtain ⟨_,hsl1⟩:=Slc.sv hx0
 refine stp hA (r_slen U46 hsl1 hA rfl) rfl fun a hA =>
  stp hA (r_eql hA rfl rfl) rfl fun a hA=>?_
 refine o_nil<|hN3 _ _<|w_cond hA rfl (fun hc1=>?_) (fun hc1=>?_)
 ·obtain ⟨hc1,H⟩:=dT H hc1
  refine w_seq fun _ hN4=>w_reg<|stp hA (r_bldA (cs:=[av .u8 32 ([0,0,0,0,0,0,0,0,0,0,0,0,0,0,0,0,0,0,0,0,0,0,0,0,0,0,0,0,0,0,0,0])].flatten.toArray) zr24 U24 sz5 hA rfl (by kernel_rfl)) rfl fun a hA =>
   o_st (j:=0) [] [av .u8 32 Z32] [av .u8 32 ([0,0,0,0,0,0,0,0,0,0,0,0,0,0,0,0,0,0,0,0,0,0,0,0,0,0,0,0,0,0,0,0])] [] sz24 rfl rfl (fl_cons (one_av _ _ _) fl_nil) hI rfl hA rfl rfl rfl rfl fun w hI=>?_
  refine o_nil<|hN4 _ _<|w_ret ?_
  obtain rfl:=sJ H
  exact retc U24 rfl sz24 rfl hI (j:=0) rfl hA Tryz.results44 rfl ⟨_,rfl,rfl,(arr_lit rfl (by simp only [List.forall_mem_cons];exact ⟨(in_lit .u8 0 rfl),(in_lit .u8 0 rfl),(in_lit .u8 0 rfl),(in_lit .u8 0 rfl),(in_lit .u8 0 rfl),(in_lit .u8 0 rfl),(in_lit .u8 0 rfl),(in_lit .u8 0 rfl),(in_lit .u8 0 rfl),(in_lit .u8 0 rfl),(in_lit .u8 0 rfl),(in_lit .u8 0 rfl),(in_lit .u8 0 rfl),(in_lit .u8 0 rfl),(in_lit .u8 0 rfl),(in_lit .u8 0 rfl),(in_lit .u8 0 rfl),(in_lit .u8 0 rfl),(in_lit .u8 0 rfl),(in_lit .u8 0 rfl),(in_lit .u8 0 rfl),(in_lit .u8 0 rfl),(in_lit .u8 0 rfl),(in_lit .u8 0 rfl),(in_lit .u8 0 rfl),(in_lit .u8 0 rfl),(in_lit .u8 0 rfl),(in_lit .u8 0 rfl),(in_lit .u8 0 rfl),(in_lit .u8 0 rfl),(in_lit .u8 0 rfl),(in_lit .u8 0 rfl),by simp⟩)),hI.forget0⟩
 ·obtain ⟨hc1,H⟩:=dF H hc1
  refine w_skip<|hN2 _ _<|w_seq fun _ hN5=>w_reg<|stm hA rfl rfl fun a hA =>
   sta hA rfl rfl fun a hA=>?_
  refine o_nil<|hN5 _ _ ?_
  obtain ⟨c1,hz1,Hk1⟩:=bB H
  refine w_cut (fun a w=>∃(μ1:Store)(vvc1:Value),μ.le μ1∧Slc (RA .u8 32) 32 μ1 vvc1 c1∧Fr a 17 [(2,pt g1 0),(3,vvc1)]∧Iv w0 [] μ μ1 [cel g1 [av .u8 32 Z32] 24] w) ?_ ?_
  ·have H:=bI hz1
   refine w_block ?_
   obtain ⟨z1,hz2,Hk2⟩:=bind_some H
   obtain ⟨n1,hn1⟩:=loopO_some hz2
   refine w_loop (fun n a w=>∃(s1:List (List Int))(μ2:Store)(vvs1:Value),loopN (merkle_Root.s0) n s1=some z1∧μ.le μ2∧Slc (RA .u8 32) 32 μ2 vvs1 s1∧Fr a 17 [(2,pt g1 0),(3,vvs1)]∧Iv w0 [] μ μ2 [cel g1 [av .u8 32 Z32] 24] w) n1 ⟨x0,μ,u0,hn1,(Store.le.refl _),hx0,hA.sub ⟨rfl,rfl,trivial⟩,hI⟩ ?_
   clear hA hI
   rintro n a w ⟨s1,μ2,vvs1,hn1,hle2,ws1,hA,hI⟩
   obtain ⟨m1,rfl,H⟩:=loopN_bind hn1
   clear hn1
   refine w_seq fun _ hN6=>w_seq fun _ hN7=>w_reg<|stm hA rfl rfl fun a hA=>?_
   obtain ⟨_,hsl2⟩:=Slc.sv ws1
   refine stp hA (r_slen U46 hsl2 hA rfl) rfl fun a hA =>
    stp hA (r_gtr hA rfl rfl) rfl fun a hA=>?_
   refine o_nil<|hN7 _ _<|w_cond hA rfl (fun hc2=>?_) (fun hc2=>?_)
   ·obtain ⟨hc2,H⟩:=dT H hc2
    refine w_skip<|hN6 _ _<|w_block<|w_reg<|stm hA rfl rfl fun a hA=>?_
    obtain ⟨r1,hr1,H⟩:=bB H
    refine o_call _ cf87 hA rfl (merkle_up.c μ2 _ hI.agr s1 vvs1 ws1 r1 hr1) rfl fun v1 a w hz3 hA=>?_
    obtain ⟨_,cs1,rfl,hE1,hi1⟩:=hz3
    have hI:=hI.call hi1
    refine sta hA rfl rfl fun a hA=>?_
    refine o_nil ?_
    obtain ⟨μ3,hle3,hsv1,hI⟩:=hI.freezeRow 0 rfl
    have hS1:Slc (RA .u8 32) 32 μ3 v1 r1:=⟨_,hE1,hsv1⟩
    exact ⟨m1,lS _,r1,μ3,v1,H,(hle2.trans hle3),hS1,hA.sub ⟨rfl,rfl,trivial⟩,hI⟩
   ·obtain ⟨hc2,H⟩:=dF H hc2
    refine w_exit rfl ?_
    have H:some s1=some z1:=H
    obtain rfl:=sI H
    have H:=Hk2
    cases sJ H
    exact ⟨μ2,vvs1,hle2,ws1,hA.sub ⟨rfl,rfl,trivial⟩,hI⟩
  ·rintro a w ⟨μ1,vvc1,hle1,wc1,hA,hI⟩
   have H:=Hk1
   refine w_seq fun _ hN8=>w_reg<|stm hA rfl rfl fun a hA=>?_
   obtain ⟨hb1,H⟩:=bG H
   obtain ⟨_,he1,_,hat1⟩:=Slc.elem wc1 (getD_some [] (by decide) hb1)
   obtain ⟨rfl,hw1⟩:=he1
   obtain ⟨_,hsl3⟩:=Slc.sv wc1
   refine stp hA (r_six U46 sz24 hsl3 hA rfl rfl (by decide) hb1) rfl fun a hA =>
    stp hA (r_ldmA [] [av .u8 32 (c1.getD (0:Int).toNat [])] [] U24 rfl sz24 rfl hI.agr hat1 hA rfl rfl) rfl fun a hA =>
    o_st (j:=0) [] [av .u8 32 Z32] [av .u8 32 (c1.getD (0:Int).toNat [])] [] sz24 rfl rfl (fl_cons (one_av _ _ _) fl_nil) hI rfl hA rfl rfl rfl rfl fun w hI=>?_
   refine o_nil<|hN8 _ _<|w_ret ?_
   obtain rfl:=sJ H
   exact retc U24 rfl sz24 rfl hI (j:=0) rfl hA Tryz.results44 rfl ⟨_,rfl,rfl,hw1,hI.forget0⟩
theorem q1_pair.c (μ:Store)(w0:World)(hμ:Agr μ w0)(x0:List Int)(hx0:Arr .u8 32 x0)(x1:List Int)(hx1:Arr .u8 32 x1)(r:List Int)(H:q1_pair.f x0 x1=some r) :
  Calls Tryz.prog 88 [.agg [av .u8 32 x0].flatten.toArray,.agg [av .u8 32 x1].flatten.toArray].toArray w0 (fun e w'=>∃ v,e=.returned v∧v=.agg [av .u8 32 r].flatten.toArray∧Arr .u8 32 r∧Iv w0 [] μ μ [] w'):=by
 refine enter Tryz.func88 rfl Tryz.ntmps88 rfl fun a hA=>?_
 have hI:=Iv.start hμ
 have H:=bI H
 refine w_seq fun _ hN1=>w_reg<|o_box [av .u8 32 x0] hI hA rfl rfl rfl fun g1 a w hA hI hg1 =>
  o_box [av .u8 32 x1] hI hA rfl rfl rfl fun g2 a w hA hI hg2 =>
  o_new [av .u8 32 Z32] zr24 hI hA rfl fun g3 a w hA hI hg3=>?_
 refine o_nil<|hN1 _ _<|w_seq fun _ hN2=>?_
 refine w_anyS [] mo (fun w (h:Iv w0 [] μ μ [cel g3 [av .u8 32 Z32] 24,cel g2 [av .u8 32 x1] 24,cel g1 [av .u8 32 x0] 24] w)=>(h.sl [1,2] rfl:Iv w0 [] μ μ [cel g2 [av .u8 32 x1] 24,cel g1 [av .u8 32 x0] 24] w)) hI fun w hI=>?_
 refine gE 0 hA rfl (.inr (hI.sl [1,2] rfl)) (fun _=>r_slv (i:=0) (j:=32) U24 sz5 hA rfl rfl rfl (by decide) (by decide) (by decide) (by decide) rfl) fun a hA=>?_
 refine gE 2 hA rfl (.inr (hI.sl [1,2] rfl)) (fun _=>r_slv (i:=0) (j:=32) U24 sz5 hA rfl rfl rfl (by decide) (by decide) (by decide) (by decide) rfl) fun a hA=>?_
 refine gF 1 rfl ?_
 obtain ⟨r1,hr1,H⟩:=bB H
 refine o_call (fun v w'=>∃(v0:Value)(c0:List Value),v=v0∧Els (RI .u8) 1 r1 c0∧Iv w [] μ μ [row 5 1 v0 r1.length c0] w') cf105 hA rfl ((by obtain ⟨μ1,hle1,hat1,hI⟩:=hI.freezeCel 2 rfl;have hS1:Slc (RI .u8) 1 μ1 (.slice (some ⟨g1,0,none⟩) 32 32) (x0):=slc_view0 [] [] hat1 hx0 rfl (by decide);exact (q0_Bytes.c μ1 _ hI.agr x0 (.slice (some ⟨g1,0,none⟩) 32 32) hS1 r1 hr1).mono fun _ _ ⟨v,he,b0,b1,hv,f0,hi⟩=>⟨v,he,b0,b1,hv,f0,hi.low hle1⟩)) rfl fun v1 a w hz1 hA=>?_
 obtain ⟨_,cs1,rfl,hE1,hi1⟩:=hz1
 have hI:=hI.call hi1
 refine o_nil<|⟨(.inr (hI.sl [2,3] rfl)),?_⟩
 refine gF 3 rfl ?_
 have hE2:=els_av hx1
 obtain ⟨hb1,H⟩:=bG H
 have hE3:=hE1.app hE2
 refine o_appG (xs:=(r1:List Int)) (ys:=(x1:List Int)) (M:=140737488355328) 0 te5 U30 hI rfl hA rfl rfl (by simpa using src_cel [] [] hI (j:=2) rfl hx1 rfl) hE2.len (hE2.ones (one_RI _)) hb1 rfl fun v2 a w hA hI=>?_
 refine o_nil<|⟨(.inr (hI.sl [2,3] rfl)),?_⟩
 refine gF 4 rfl ?_
 obtain ⟨r2,hr2,H⟩:=bB H
 refine o_callp (u:=.agg [av .u8 32 r2].flatten.toArray) cf43 hA rfl hI ((by obtain ⟨μ2,hle2,hsv2,hI⟩:=hI.freezeRow 0 rfl;have hS2:Slc (RI .u8) 1 μ2 v2 (r1++x1):=⟨_,hE3,hsv2⟩;exact low_plain hle2 (q1_Twice.c μ2 _ hI.agr (r1++x1) v2 hS2 r2 hr2))) rfl fun a w hz2 hI hA=>?_
 refine o_nil<|⟨(.inr (hI.sl [2,3] rfl)),?_⟩
 refine gF 5 rfl ?_
 refine o_st (j:=1) [] [av .u8 32 Z32] [av .u8 32 r2] [] sz24 rfl rfl (fl_cons (one_av _ _ _) fl_nil) hI rfl hA rfl rfl rfl rfl fun w hI=>?_
 refine o_nil<|⟨(.inr (hI.sl [2,3] rfl)),?_⟩
 refine gN<|hN2 _ _<|w_ret ?_
 obtain rfl:=sJ H
 exact retc U24 rfl sz24 rfl hI (j:=1) rfl hA Tryz.results88 rfl ⟨_,rfl,rfl,hz2,hI.forget0⟩
theorem q1_row.c (μ:Store)(w0:World)(hμ:Agr μ w0)(x0:List (List Int))(u0:Value)(hx0:Slc (RA .u8 32) 32 μ u0 x0)(r:List (List Int))(H:q1_row.f x0=some r) :
  Calls Tryz.prog 45 [u0].toArray w0 (fun e w'=>∃ v,e=.returned v∧∃(v0:Value)(c0:List Value),v=v0∧Els (RA .u8 32) 32 r c0∧Iv w0 [] μ μ [row 24 32 v0 r.length c0] w'):=by
 refine enter Tryz.func45 rfl Tryz.ntmps45 rfl fun a hA=>?_
 have hI:=Iv.start hμ
 have H:=bI H
 refine w_seq fun _ hN1=>w_reg<|sta hA rfl rfl fun a hA=>?_
 refine o_nil<|hN1 _ _<|w_seq fun _ hN2=>w_reg<|sta hA rfl rfl fun a hA=>?_
 refine o_nil<|hN2 _ _ ?_
 obtain ⟨c1,hz1,Hk1⟩:=bB H
 refine w_cut (fun a w=>∃(vvc1:Value)(ccc1:List Value),Els (RA .u8 32) 32 c1 ccc1∧Fr a 29 [(2,Sn),(3,vvc1)]∧Iv w0 [] μ μ [row 24 32 vvc1 c1.length ccc1] w) ?_ ?_
 ·have H:=bI hz1
  refine w_seq fun _ hN3=>w_reg<|sta hA rfl rfl fun a hA=>?_
  refine o_nil<|hN3 _ _<|w_block ?_
  have hI:=hI.nilRow 24 32
  obtain ⟨z1,hz2,Hk2⟩:=bind_some H
  obtain ⟨n1,hn1⟩:=loopO_some hz2
  refine w_loop (fun n a w=>∃(s1:List (List Int))(s2:Int)(vvs1:Value)(ccs1:List Value),loopN (q1_row.s0 x0) n (s1,s2)=some z1∧Els (RA .u8 32) 32 s1 ccs1∧InR .i64 s2∧Fr a 29 [(0,u0),(2,Sn),(3,vvs1),(4,.int .i64 s2)]∧Iv w0 [] μ μ [row 24 32 vvs1 s1.length ccs1] w) n1 ⟨[],0,Sn,[],hn1,(Els.nil (RE:=(RA .u8 32)) (sz:=32)),(in_lit .i64 0 rfl),hA.sub ⟨rfl,rfl,rfl,rfl,trivial⟩,hI⟩ ?_
  clear hA hI
  rintro n a w ⟨s1,s2,vvs1,ccs1,hn1,ws1,ws2,hA,hI⟩
  obtain ⟨m1,rfl,H⟩:=loopN_bind hn1
  clear hn1
  refine w_seq fun _ hN4=>w_seq fun _ hN5=>w_reg<|stm hA rfl rfl fun a hA =>
   stm hA rfl rfl fun a hA=>?_
  obtain ⟨_,hsl1⟩:=Slc.sv hx0
  refine stp hA (r_slen U46 hsl1 hA rfl) rfl fun a hA =>
   stp hA (r_lss hA rfl rfl) rfl fun a hA=>?_
  refine o_nil<|hN5 _ _<|w_cond hA rfl (fun hc1=>?_) (fun hc1=>?_)
  ·obtain ⟨hc1,H⟩:=dT H hc1
   refine w_skip<|hN4 _ _<|w_seq fun _ hN6=>w_block ?_
   refine w_anyS [] mo (fun w (h:Iv w0 [] μ μ [row 24 32 vvs1 s1.length ccs1] w)=>(h.sl [] rfl:Iv w0 [] μ μ [] w)) hI fun w hI=>?_
   refine gE 0 hA rfl (.inr (hI.sl [] rfl)) (fun _=>r_mv hA rfl) fun a hA=>?_
   refine gE 1 hA rfl (.inr (hI.sl [] rfl)) (fun _=>r_mv hA rfl) fun a hA=>?_
   refine gE 2 hA rfl (.inr (hI.sl [] rfl)) (fun _=>r_mv hA rfl) fun a hA=>?_
   obtain ⟨hb1,H⟩:=bG H
   obtain ⟨_,he1,_,hat1⟩:=Slc.elem hx0 (getD_some [] hb1.1 hb1.2)
   obtain ⟨rfl,hw1⟩:=he1
   obtain ⟨_,hsl2⟩:=Slc.sv hx0
   refine gE 3 hA rfl (.inr (hI.sl [] rfl)) (fun _=>r_six U46 sz24 hsl2 hA rfl rfl hb1.1 hb1.2) fun a hA=>?_
   refine gT 4 hA rfl (hI.sl [] rfl) (fun w hI=>r_ldmA [] [av .u8 32 (x0.getD s2.toNat [])] [] U24 rfl sz24 rfl hI.agr hat1 hA rfl rfl) fun a hA=>?_
   refine gE 5 hA rfl (.inr (hI.sl [] rfl)) (fun _=>r_mv hA rfl) fun a hA=>?_
   refine gE 6 hA rfl (.inr (hI.sl [] rfl)) (fun _=>r_mv hA rfl) fun a hA=>?_
   refine gE 7 hA rfl (.inr (hI.sl [] rfl)) (fun _=>r_add hA rfl rfl) fun a hA=>?_
   refine gE 8 hA rfl (.inr (hI.sl [] rfl)) (fun _=>r_mv hA rfl) fun a hA=>?_
   obtain ⟨_,hsl3⟩:=Slc.sv hx0
   refine gE 9 hA rfl (.inr (hI.sl [] rfl)) (fun _=>r_slen U46 hsl3 hA rfl) fun a hA=>?_
   refine gE 10 hA rfl (.inr (hI.sl [] rfl)) (fun _=>r_sub hA rfl rfl) fun a hA=>?_
   refine gE 11 hA rfl (.inr (hI.sl [] rfl)) (fun _=>r_min hA rfl rfl) fun a hA=>?_
   obtain ⟨hb2,H⟩:=bG H
   obtain ⟨_,he2,_,hat2⟩:=Slc.elem hx0 (getD_some [] hb2.1 hb2.2)
   obtain ⟨rfl,hw2⟩:=he2
   obtain ⟨_,hsl4⟩:=Slc.sv hx0
   refine gE 12 hA rfl (.inr (hI.sl [] rfl)) (fun _=>r_six U46 sz24 hsl4 hA rfl rfl hb2.1 hb2.2) fun a hA=>?_
   refine gT 13 hA rfl (hI.sl [] rfl) (fun w hI=>r_ldmA [] [av .u8 32 (x0.getD (iMin (IntKind.i64.wrap (s2+1)) (IntKind.i64.wrap ((x0.length:Int) - 1))).toNat [])] [] U24 rfl sz24 rfl hI.agr hat2 hA rfl rfl) fun a hA=>?_
   refine gF 14 rfl ?_
   obtain ⟨r1,hr1,H⟩:=bB H
   refine o_callp (u:=.agg [av .u8 32 r1].flatten.toArray) cf88 hA rfl hI (q1_pair.c μ _ hI.agr (x0.getD s2.toNat []) hw1 (x0.getD (iMin (IntKind.i64.wrap (s2+1)) (IntKind.i64.wrap ((x0.length:Int) - 1))).toNat []) hw2 r1 hr1) rfl fun a w hz3 hI hA=>?_
   refine o_nil<|⟨(.inr (hI.sl [] rfl)),?_⟩
   refine gF 15 rfl ?_
   have hE1:Els (RA .u8 32) 32 ([r1]:List (List Int)) _:=(Els.cons (c:=[av .u8 32 r1].flatten) ⟨rfl,hz3⟩ rfl Els.nil)
   refine o_bsl ([av .u8 32 r1].flatten++([])) te24 zr24 U46 hI hA rfl rfl rfl rfl (by kernel_rfl) rfl fun g1 a w hA hI=>?_
   generalize hcs:([av .u8 32 r1].flatten++([]):List Value)=cs1 at hE1 hI
   clear hcs
   refine o_nil<|⟨(.inr (hI.sl [] rfl)),?_⟩
   refine gF 16 rfl ?_
   obtain ⟨hb3,H⟩:=bG H
   have hE3:=ws1.app hE1
   refine o_appG (xs:=(s1:List (List Int))) (ys:=(([r1]:List (List Int)):List (List Int))) (M:=4398046511104) 1 te24 U46 hI rfl hA rfl rfl (src_row hI (j:=0) rfl) hE1.len (hE1.ones (one_RA _ _)) hb3 rfl fun v1 a w hA hI=>?_
   refine o_nil<|⟨(.inr (hI.sl [] rfl)),?_⟩
   refine gE 17 hA rfl (.inr (hI.sl [] rfl)) (fun _=>r_as hA rfl) fun a hA=>?_
   refine gN<|hN6 _ _<|w_reg<|stm hA rfl rfl fun a hA =>
    stp hA (r_add hA rfl rfl) rfl fun a hA =>
    sta hA rfl rfl fun a hA=>?_
   refine o_nil<|⟨m1,lS _,s1++([r1]:List (List Int)),IntKind.i64.wrap (s2+2),v1,ccs1++cs1,H,hE3,(wrap_in _ _),hA.sub ⟨rfl,rfl,rfl,rfl,trivial⟩,(hI.sl [1] rfl)⟩
  ·obtain ⟨hc1,H⟩:=dF H hc1
   refine w_exit rfl ?_
   have H:some s1=some z1:=H
   obtain rfl:=sI H
   have H:=Hk2
   cases sJ H
   exact ⟨vvs1,ccs1,ws1,hA.sub ⟨rfl,rfl,trivial⟩,hI⟩
 ·rintro a w ⟨vvc1,ccc1,wc1,hA,hI⟩
  have H:=Hk1
  refine w_seq fun _ hN7=>w_reg<|stm hA rfl rfl fun a hA =>
   sta hA rfl rfl fun a hA=>?_
  refine o_nil<|hN7 _ _<|w_ret ?_
  obtain rfl:=sJ H
  exact ret1 hA Tryz.results45 rfl ⟨_,rfl,vvc1,ccc1,rfl,wc1,(hI.less (Store.le.refl _) hI.le)⟩
theorem q1_Root.c (μ:Store)(w0:World)(hμ:Agr μ w0)(x0:List (List Int))(u0:Value)(hx0:Slc (RA .u8 32) 32 μ u0 x0)(r:List Int)(H:q1_Root.f x0=some r) :
  Calls Tryz.prog 16 [u0].toArray w0 (fun e w'=>∃ v,e=.returned v∧v=.agg [av .u8 32 r].flatten.toArray∧Arr .u8 32 r∧Iv w0 [] μ μ [] w'):=by
 refine enter Tryz.func16 rfl Tryz.ntmps16 rfl fun a hA=>?_
 have hI:=Iv.start hμ
 have H:=bI H
 refine w_seq fun _ hN1=>w_reg<|o_new [av .u8 32 Z32] zr24 hI hA rfl fun g1 a w hA hI hg1=>?_
 refine o_nil<|hN1 _ _<|w_seq fun _ hN2=>w_seq fun _ hN3=>w_reg<|stm hA rfl rfl fun a hA=>?_
 obtain ⟨_,hsl1⟩:=Slc.sv hx0
 refine stp hA (r_slen U46 hsl1 hA rfl) rfl fun a hA =>
  stp hA (r_eql hA rfl rfl) rfl fun a hA=>?_
 refine o_nil<|hN3 _ _<|w_cond hA rfl (fun hc1=>?_) (fun hc1=>?_)
 ·obtain ⟨hc1,H⟩:=dT H hc1
  refine w_seq fun _ hN4=>w_reg<|stp hA (r_bldA (cs:=[av .u8 32 ([0,0,0,0,0,0,0,0,0,0,0,0,0,0,0,0,0,0,0,0,0,0,0,0,0,0,0,0,0,0,0,0])].flatten.toArray) zr24 U24 sz5 hA rfl (by kernel_rfl)) rfl fun a hA =>
   o_st (j:=0) [] [av .u8 32 Z32] [av .u8 32 ([0,0,0,0,0,0,0,0,0,0,0,0,0,0,0,0,0,0,0,0,0,0,0,0,0,0,0,0,0,0,0,0])] [] sz24 rfl rfl (fl_cons (one_av _ _ _) fl_nil) hI rfl hA rfl rfl rfl rfl fun w hI=>?_
  refine o_nil<|hN4 _ _<|w_ret ?_
  obtain rfl:=sJ H
  exact retc U24 rfl sz24 rfl hI (j:=0) rfl hA Tryz.results16 rfl ⟨_,rfl,rfl,(arr_lit rfl (by simp only [List.forall_mem_cons];exact ⟨(in_lit .u8 0 rfl),(in_lit .u8 0 rfl),(in_lit .u8 0 rfl),(in_lit .u8 0 rfl),(in_lit .u8 0 rfl),(in_lit .u8 0 rfl),(in_lit .u8 0 rfl),(in_lit .u8 0 rfl),(in_lit .u8 0 rfl),(in_lit .u8 0 rfl),(in_lit .u8 0 rfl),(in_lit .u8 0 rfl),(in_lit .u8 0 rfl),(in_lit .u8 0 rfl),(in_lit .u8 0 rfl),(in_lit .u8 0 rfl),(in_lit .u8 0 rfl),(in_lit .u8 0 rfl),(in_lit .u8 0 rfl),(in_lit .u8 0 rfl),(in_lit .u8 0 rfl),(in_lit .u8 0 rfl),(in_lit .u8 0 rfl),(in_lit .u8 0 rfl),(in_lit .u8 0 rfl),(in_lit .u8 0 rfl),(in_lit .u8 0 rfl),(in_lit .u8 0 rfl),(in_lit .u8 0 rfl),(in_lit .u8 0 rfl),(in_lit .u8 0 rfl),(in_lit .u8 0 rfl),by simp⟩)),hI.forget0⟩
 ·obtain ⟨hc1,H⟩:=dF H hc1
  refine w_skip<|hN2 _ _ ?_
  obtain ⟨c1,hz1,Hk1⟩:=bB H
  refine w_cut (fun a w=>∃(μ1:Store)(vvc1:Value),μ.le μ1∧Slc (RA .u8 32) 32 μ1 vvc1 c1∧Fr a 15 [(0,vvc1),(2,pt g1 0)]∧Iv w0 [] μ μ1 [cel g1 [av .u8 32 Z32] 24] w) ?_ ?_
  ·have H:=bI hz1
   refine w_block ?_
   obtain ⟨z1,hz2,Hk2⟩:=bind_some H
   obtain ⟨n1,hn1⟩:=loopO_some hz2
   refine w_loop (fun n a w=>∃(s1:List (List Int))(μ2:Store)(vvs1:Value),loopN (q1_Root.s0) n s1=some z1∧μ.le μ2∧Slc (RA .u8 32) 32 μ2 vvs1 s1∧Fr a 15 [(0,vvs1),(2,pt g1 0)]∧Iv w0 [] μ μ2 [cel g1 [av .u8 32 Z32] 24] w) n1 ⟨x0,μ,u0,hn1,(Store.le.refl _),hx0,hA.sub ⟨rfl,rfl,trivial⟩,hI⟩ ?_
   clear hA hI
   rintro n a w ⟨s1,μ2,vvs1,hn1,hle2,ws1,hA,hI⟩
   obtain ⟨m1,rfl,H⟩:=loopN_bind hn1
   clear hn1
   refine w_seq fun _ hN5=>w_seq fun _ hN6=>w_reg<|stm hA rfl rfl fun a hA=>?_
   obtain ⟨_,hsl2⟩:=Slc.sv ws1
   refine stp hA (r_slen U46 hsl2 hA rfl) rfl fun a hA =>
    stp hA (r_gtr hA rfl rfl) rfl fun a hA=>?_
   refine o_nil<|hN6 _ _<|w_cond hA rfl (fun hc2=>?_) (fun hc2=>?_)
   ·obtain ⟨hc2,H⟩:=dT H hc2
    refine w_skip<|hN5 _ _<|w_block<|w_reg<|stm hA rfl rfl fun a hA=>?_
    obtain ⟨r1,hr1,H⟩:=bB H
    refine o_call _ cf45 hA rfl (q1_row.c μ2 _ hI.agr s1 vvs1 ws1 r1 hr1) rfl fun v1 a w hz3 hA=>?_
    obtain ⟨_,cs1,rfl,hE1,hi1⟩:=hz3
    have hI:=hI.call hi1
    refine sta hA rfl rfl fun a hA=>?_
    refine o_nil ?_
    obtain ⟨μ3,hle3,hsv1,hI⟩:=hI.freezeRow 0 rfl
    have hS1:Slc (RA .u8 32) 32 μ3 v1 r1:=⟨_,hE1,hsv1⟩
    exact ⟨m1,lS _,r1,μ3,v1,H,(hle2.trans hle3),hS1,hA.sub ⟨rfl,rfl,trivial⟩,hI⟩
   ·obtain ⟨hc2,H⟩:=dF H hc2
    refine w_exit rfl ?_
    have H:some s1=some z1:=H
    obtain rfl:=sI H
    have H:=Hk2
    cases sJ H
    exact ⟨μ2,vvs1,hle2,ws1,hA.sub ⟨rfl,rfl,trivial⟩,hI⟩
  ·rintro a w ⟨μ1,vvc1,hle1,wc1,hA,hI⟩
   have H:=Hk1
   refine w_seq fun _ hN7=>w_reg<|stm hA rfl rfl fun a hA=>?_
   obtain ⟨hb1,H⟩:=bG H
   obtain ⟨_,he1,_,hat1⟩:=Slc.elem wc1 (getD_some [] (by decide) hb1)
   obtain ⟨rfl,hw1⟩:=he1
   obtain ⟨_,hsl3⟩:=Slc.sv wc1
   refine stp hA (r_six U46 sz24 hsl3 hA rfl rfl (by decide) hb1) rfl fun a hA =>
    stp hA (r_ldmA [] [av .u8 32 (c1.getD (0:Int).toNat [])] [] U24 rfl sz24 rfl hI.agr hat1 hA rfl rfl) rfl fun a hA =>
    o_st (j:=0) [] [av .u8 32 Z32] [av .u8 32 (c1.getD (0:Int).toNat [])] [] sz24 rfl rfl (fl_cons (one_av _ _ _) fl_nil) hI rfl hA rfl rfl rfl rfl fun w hI=>?_
   refine o_nil<|hN7 _ _<|w_ret ?_
   obtain rfl:=sJ H
   exact retc U24 rfl sz24 rfl hI (j:=0) rfl hA Tryz.results16 rfl ⟨_,rfl,rfl,hw1,hI.forget0⟩
noncomputable def tx_Bytes.s1 (x0:Tx):((List Int)×Int)→Option (((List Int)×Int)⊕(List Int)):=fun (s3,s4)=>(if s4 < (x0.Outs.length:Int) then (if 0≤s4∧s4 < (x0.Outs.length:Int) then ((compact_Eight.f s3 ((x0.Outs.getD s4.toNat default).Value)).bind fun r7=>(if r7.length+((x0.Outs.getD s4.toNat default).Lock).length≤140737488355328 then some (.inl (r7++((x0.Outs.getD s4.toNat default).Lock),IntKind.i64.wrap (s4+1))) else none)) else none) else some (.inr s3))
noncomputable def tx_Bytes.s0 (x0:Tx):((List Int)×Int)→Option (((List Int)×Int)⊕(List Int)):=fun (s1,s2)=>(if s2 < (x0.Ins.length:Int) then (if 0≤s2∧s2 < (x0.Ins.length:Int) then (if s1.length+((x0.Ins.getD s2.toNat default).From.Tx).length≤140737488355328 then ((compact_Four.f (s1++((x0.Ins.getD s2.toNat default).From.Tx)) ((x0.Ins.getD s2.toNat default).From.N)).bind fun r3=>((compact_Put.f r3 (IntKind.u64.wrap (((x0.Ins.getD s2.toNat default).Key).length:Int))).bind fun r4=>(if r4.length+((x0.Ins.getD s2.toNat default).Key).length≤140737488355328 then ((compact_Four.f (r4++((x0.Ins.getD s2.toNat default).Key)) ((x0.Ins.getD s2.toNat default).Seq)).bind fun r5=>some (.inl (r5,IntKind.i64.wrap (s2+1)))) else none))) else none) else none) else some (.inr s1))
noncomputable def tx_Bytes.f (x0:Tx):Option (List Int):=((compact_Four.f ([]) x0.Version).bind fun r1=>((compact_Put.f r1 (IntKind.u64.wrap (x0.Ins.length:Int))).bind fun r2=>((loopO (tx_Bytes.s0 x0) (r2,0)).bind fun c1=>((compact_Put.f c1 (IntKind.u64.wrap (x0.Outs.length:Int))).bind fun r6=>((loopO (tx_Bytes.s1 x0) (r6,0)).bind fun c2=>((compact_Four.f c2 x0.Time).bind fun r8=>some r8))))))
noncomputable def tx_ID.f (x0:Tx):Option (List Int):=((tx_Bytes.f x0).bind fun r1=>((digest_Twice.f r1).bind fun r2=>some r2))
noncomputable def tx_Size.f (x0:Tx):Option Int:=((tx_Bytes.f x0).bind fun r1=>some (r1.length:Int))
def tx_Check_1.f (x0:In):Option Bool:=some (decide (80 < (x0.Key.length:Int)))
def tx_values.s0 (x0:Tx):((List Int)×Int)→Option (((List Int)×Int)⊕(List Int)):=fun (s1,s2)=>(if s2 < (x0.Outs.length:Int) then (if 0≤s2∧s2 < (x0.Outs.length:Int) then (if s1.length+1≤17592186044416 then some (.inl (s1++([(x0.Outs.getD s2.toNat default).Value]:List Int),IntKind.i64.wrap (s2+1))) else none) else none) else some (.inr s1))
noncomputable def tx_values.f (x0:Tx):Option (List Int):=((loopO (tx_values.s0 x0) ([],0)).bind fun c1=>some c1)
noncomputable def tx_Sum.f (x0:Tx):Option (Int×Bool):=((tx_values.f x0).bind fun r1=>((compact_Sum.f r1).bind fun r2=>some (r2.1,r2.2)))
def tx_twice.s0 (x0:Tx):(Int×(List (Point×Bool)))→Option ((Int×(List (Point×Bool)))⊕Bool):=fun (s1,s2)=>(if s1 < (x0.Ins.length:Int) then (if 0≤s1∧s1 < (x0.Ins.length:Int) then (if ((mget s2 ((x0.Ins.getD s1.toNat default).From)).getD false)=true then some (.inr true) else some (.inl (IntKind.i64.wrap (s1+1),mput s2 ((x0.Ins.getD s1.toNat default).From) true))) else none) else some (.inr false))
noncomputable def tx_twice.f (x0:Tx):Option Bool:=loopO (tx_twice.s0 x0) (0,([]:List (Point×Bool)))
def tx_Base.f (x0:Tx):Option Bool:=(((if (x0.Ins.length:Int)=1 then (if 0 < (x0.Ins.length:Int) then ((spend_IsNull.f ((x0.Ins.getD (0:Int).toNat default).From)).bind fun r1=>some r1) else none) else some false)).bind fun c1=>some c1)
def tx_base_1.f (x0:In):Option Bool:=((spend_IsNull.f x0.From).bind fun r1=>some r1)
def slices_IndexFunc_api_In_api_In_at_tx_base_1.s0 (x0:List In):Int→Option (Int⊕Int):=fun s1=>(if s1 < (x0.length:Int) then (if 0≤s1∧s1 < (x0.length:Int) then ((tx_base_1.f (x0.getD s1.toNat default)).bind fun r1=>(if r1=true then some (.inr s1) else some (.inl (IntKind.i64.wrap (s1+1))))) else none) else some (.inr (-1)))
noncomputable def slices_IndexFunc_api_In_api_In_at_tx_base_1.f (x0:List In):Option Int:=loopO (slices_IndexFunc_api_In_api_In_at_tx_base_1.s0 x0) 0
noncomputable def slices_ContainsFunc_api_In_api_In_at_tx_base_1.f (x0:List In):Option Bool:=((slices_IndexFunc_api_In_api_In_at_tx_base_1.f x0).bind fun r1=>some (decide (0≤r1)))
noncomputable def tx_base.f (x0:Tx):Option Er:=((tx_Base.f x0).bind fun r1=>(if r1=true then (if 0 < (x0.Ins.length:Int) then (if (((x0.Ins.getD (0:Int).toNat default).Key).length:Int) < 4 then some xErrBase else some (Er.b 0)) else none) else ((slices_ContainsFunc_api_In_api_In_at_tx_base_1.f x0.Ins).bind fun r2=>(if r2=true then some xErrBase else some (Er.b 0)))))
def slices_IndexFunc_api_In_api_In_at_tx_Check_1.s0 (x0:List In):Int→Option (Int⊕Int):=fun s1=>(if s1 < (x0.length:Int) then (if 0≤s1∧s1 < (x0.length:Int) then ((tx_Check_1.f (x0.getD s1.toNat default)).bind fun r1=>(if r1=true then some (.inr s1) else some (.inl (IntKind.i64.wrap (s1+1))))) else none) else some (.inr (-1)))
noncomputable def slices_IndexFunc_api_In_api_In_at_tx_Check_1.f (x0:List In):Option Int:=loopO (slices_IndexFunc_api_In_api_In_at_tx_Check_1.s0 x0) 0
noncomputable def slices_ContainsFunc_api_In_api_In_at_tx_Check_1.f (x0:List In):Option Bool:=((slices_IndexFunc_api_In_api_In_at_tx_Check_1.f x0).bind fun r1=>some (decide (0≤r1)))
noncomputable def tx_Check.f (x0:Tx):Option Er:=(((if (x0.Ins.length:Int)=0 then some true else (if 50 < (x0.Ins.length:Int) then some true else (if (x0.Outs.length:Int)=0 then some true else some (decide (50 < (x0.Outs.length:Int))))))).bind fun c1=>(if c1=true then some xErrMany else ((tx_Size.f x0).bind fun r1=>(if 4000 < r1 then some xErrLong else ((slices_ContainsFunc_api_In_api_In_at_tx_Check_1.f x0.Ins).bind fun r2=>(if r2=true then some xErrKey else ((tx_Sum.f x0).bind fun r3=>(if r3.2=true then ((tx_twice.f x0).bind fun r4=>(if r4=true then some xErrTwice else ((tx_base.f x0).bind fun r5=>some r5))) else some xErrValue))))))))
noncomputable def q1_HeadBytes.f (x0:Head):Option (List Int):=((q1_Four.f ([]) x0.Version).bind fun r1=>(if r1.length+x0.Prev.length≤140737488355328 then (if (r1++x0.Prev).length+x0.Root.length≤140737488355328 then ((q1_Four.f ((r1++x0.Prev)++x0.Root) x0.Time).bind fun r2=>((q1_Four.f r2 x0.Work).bind fun r3=>((q1_Four.f r3 x0.Nonce).bind fun r4=>some r4))) else none) else none))
noncomputable def q1_TxBytes.s1 (x0:Tx):((List Int)×Int)→Option (((List Int)×Int)⊕(List Int)):=fun (s3,s4)=>(if s4 < (x0.Outs.length:Int) then (if 0≤s4∧s4 < (x0.Outs.length:Int) then ((q1_Eight.f s3 ((x0.Outs.getD s4.toNat default).Value)).bind fun r7=>(if r7.length+((((x0.Outs.getD s4.toNat default).Lock).take (32:Int).toNat).drop (0:Int).toNat).length≤140737488355328 then some (.inl (r7++((((x0.Outs.getD s4.toNat default).Lock).take (32:Int).toNat).drop (0:Int).toNat),IntKind.i64.wrap (s4+1))) else none)) else none) else some (.inr s3))
noncomputable def q1_TxBytes.s0 (x0:Tx):((List Int)×Int)→Option (((List Int)×Int)⊕(List Int)):=fun (s1,s2)=>(if s2 < (x0.Ins.length:Int) then (if 0≤s2∧s2 < (x0.Ins.length:Int) then (if s1.length+((x0.Ins.getD s2.toNat default).From.Tx).length≤140737488355328 then ((q1_Four.f (s1++((x0.Ins.getD s2.toNat default).From.Tx)) ((x0.Ins.getD s2.toNat default).From.N)).bind fun r3=>((q1_Put.f r3 (IntKind.u64.wrap (((x0.Ins.getD s2.toNat default).Key).length:Int))).bind fun r4=>(if r4.length+((x0.Ins.getD s2.toNat default).Key).length≤140737488355328 then ((q1_Four.f (r4++((x0.Ins.getD s2.toNat default).Key)) ((x0.Ins.getD s2.toNat default).Seq)).bind fun r5=>some (.inl (r5,IntKind.i64.wrap (s2+1)))) else none))) else none) else none) else some (.inr s1))
noncomputable def q1_TxBytes.f (x0:Tx):Option (List Int):=((q1_Four.f ([]) x0.Version).bind fun r1=>((q1_Put.f r1 (IntKind.u64.wrap (x0.Ins.length:Int))).bind fun r2=>((loopO (q1_TxBytes.s0 x0) (r2,0)).bind fun c1=>((q1_Put.f c1 (IntKind.u64.wrap (x0.Outs.length:Int))).bind fun r6=>((loopO (q1_TxBytes.s1 x0) (r6,0)).bind fun c2=>((q1_Four.f c2 x0.Time).bind fun r8=>some r8))))))
noncomputable def q1_BlockBytes.s0 (x0:Block):((List Int)×Int)→Option (((List Int)×Int)⊕(List Int)):=fun (s1,s2)=>(if s2 < (x0.Txs.length:Int) then (if 0≤s2∧s2 < (x0.Txs.length:Int) then ((q1_TxBytes.f (x0.Txs.getD s2.toNat default)).bind fun r3=>(if s1.length+r3.length≤140737488355328 then some (.inl (s1++r3,IntKind.i64.wrap (s2+1))) else none)) else none) else some (.inr s1))
noncomputable def q1_BlockBytes.f (x0:Block):Option (List Int):=((q1_HeadBytes.f x0.Head).bind fun r1=>((q1_Put.f r1 (IntKind.u64.wrap (x0.Txs.length:Int))).bind fun r2=>((loopO (q1_BlockBytes.s0 x0) (r2,0)).bind fun c1=>some c1)))
noncomputable def tx_Take.s1 (r8:Int×cRd):(Int×(List Int)×Int×Er×(List Out))→Option ((Int×(List Int)×Int×Er×(List Out))⊕((List Out)×(List Int)×Int×Er)):=fun (s6,s7,s8,s9,s10)=>(if s6 < r8.1 then ((cR_Eight.f (⟨s7,s8,s9⟩:cRd)).bind fun r9=>((cR_Hash.f r9.2).bind fun r10=>(if s10.length+1≤3518437208883 then some (.inl (IntKind.u64.wrap (s6+1),r10.2.b,r10.2.at_,r10.2.err,s10++([(⟨r9.1,r10.1⟩:Out)]:List Out))) else none))) else some (.inr (s10,s7,s8,s9)))
noncomputable def tx_Take.s0 (r2:Int×cRd):(Int×(List Int)×Int×Er×(List In))→Option ((Int×(List Int)×Int×Er×(List In))⊕((List In)×(List Int)×Int×Er)):=fun (s1,s2,s3,s4,s5)=>(if s1 < r2.1 then ((cR_Hash.f (⟨s2,s3,s4⟩:cRd)).bind fun r3=>((cR_Four.f r3.2).bind fun r4=>((cR_Num.f r4.2 80).bind fun r5=>((cR_Bytes.f r5.2 (IntKind.i64.wrap r5.1)).bind fun r6=>((cR_Four.f r6.2).bind fun r7=>(if s5.length+1≤1954687338268 then some (.inl (IntKind.u64.wrap (s1+1),r7.2.b,r7.2.at_,r7.2.err,s5++([(⟨(⟨r3.1,r4.1⟩:Point),r6.1,r7.1⟩:In)]:List In))) else none)))))) else some (.inr (s5,s2,s3,s4)))
noncomputable def tx_Take.f (x0:cRd):Option (Tx×cRd):=((cR_Four.f x0).bind fun r1=>((((cR_Num.f r1.2 50).bind fun r2=>loopO (tx_Take.s0 r2) (0,r2.2.b,r2.2.at_,r2.2.err,[]))).bind fun (c1,c2,c3,c4)=>((((cR_Num.f (⟨c2,c3,c4⟩:cRd) 50).bind fun r8=>loopO (tx_Take.s1 r8) (0,r8.2.b,r8.2.at_,r8.2.err,[]))).bind fun (c5,c6,c7,c8)=>((cR_Four.f (⟨c6,c7,c8⟩:cRd)).bind fun r11=>((cR_Err.f r11.2).bind fun r12=>(if r12≠(Er.b 0) then some ((⟨0,[],[],0⟩:Tx),r11.2) else some ((⟨r1.1,c1,c5,r11.1⟩:Tx),r11.2)))))))
noncomputable def q1_TakeHead.f (x0:q1Rd):Option (Head×q1Rd):=((q1R_Four.f x0).bind fun r1=>((q1R_Hash.f r1.2).bind fun r2=>((q1R_Hash.f r2.2).bind fun r3=>((q1R_Four.f r3.2).bind fun r4=>((q1R_Four.f r4.2).bind fun r5=>((q1R_Four.f r5.2).bind fun r6=>(if r6.2.E≠0 then some ((⟨0,(List.replicate 32 0),(List.replicate 32 0),0,0,0⟩:Head),r6.2) else some ((⟨r1.1,r2.1,r3.1,r4.1,r5.1,r6.1⟩:Head),r6.2))))))))
noncomputable def q1_TakeTx.s1 (r8:Int×q1Rd):(Int×(List Int)×Int×(List Out))→Option ((Int×(List Int)×Int×(List Out))⊕((List Int)×Int×(List Out))):=fun (s5,s6,s7,s8)=>(((if s5 < r8.1 then some (decide (s7=0)) else some false)).bind fun c8=>(if c8=true then ((q1R_Eight.f (⟨s6,s7⟩:q1Rd)).bind fun r9=>((q1R_Hash.f r9.2).bind fun r10=>(if s8.length+1≤3518437208883 then some (.inl (IntKind.u64.wrap (s5+1),r10.2.B,r10.2.E,s8++([(⟨r9.1,r10.1⟩:Out)]:List Out))) else none))) else some (.inr (s6,s7,s8))))
noncomputable def q1_TakeTx.s0 (r2:Int×q1Rd):(Int×(List Int)×Int×(List In))→Option ((Int×(List Int)×Int×(List In))⊕((List Int)×Int×(List In))):=fun (s1,s2,s3,s4)=>(((if s1 < r2.1 then some (decide (s3=0)) else some false)).bind fun c4=>(if c4=true then ((q1R_Hash.f (⟨s2,s3⟩:q1Rd)).bind fun r3=>((q1R_Four.f r3.2).bind fun r4=>((q1R_Num.f r4.2 80).bind fun r5=>((q1R_Bytes.f r5.2 (IntKind.i64.wrap r5.1)).bind fun r6=>((q1R_Four.f r6.2).bind fun r7=>(if s4.length+1≤1954687338268 then some (.inl (IntKind.u64.wrap (s1+1),r7.2.B,r7.2.E,s4++([(⟨(⟨r3.1,r4.1⟩:Point),r6.1,r7.1⟩:In)]:List In))) else none)))))) else some (.inr (s2,s3,s4))))
noncomputable def q1_TakeTx.f (x0:q1Rd):Option (Tx×q1Rd):=((q1R_Four.f x0).bind fun r1=>((q1R_Num.f r1.2 50).bind fun r2=>((loopO (q1_TakeTx.s0 r2) (0,r2.2.B,r2.2.E,[])).bind fun (c1,c2,c3)=>((q1R_Num.f (⟨c1,c2⟩:q1Rd) 50).bind fun r8=>((loopO (q1_TakeTx.s1 r8) (0,r8.2.B,r8.2.E,[])).bind fun (c5,c6,c7)=>((q1R_Four.f (⟨c5,c6⟩:q1Rd)).bind fun r11=>(if r11.2.E≠0 then some ((⟨0,[],[],0⟩:Tx),r11.2) else some ((⟨r1.1,c3,c7,r11.1⟩:Tx),r11.2))))))))
noncomputable def q1_ReadBlock.s0 (r2:Int×q1Rd):(Int×(List Int)×Int×(List Tx))→Option ((Int×(List Int)×Int×(List Tx))⊕((List Int)×Int×(List Tx))):=fun (s1,s2,s3,s4)=>(((if s1 < r2.1 then some (decide (s3=0)) else some false)).bind fun c4=>(if c4=true then ((q1_TakeTx.f (⟨s2,s3⟩:q1Rd)).bind fun r3=>(if s4.length+1≤2199023255552 then some (.inl (IntKind.u64.wrap (s1+1),r3.2.B,r3.2.E,s4++([r3.1]:List Tx))) else none)) else some (.inr (s2,s3,s4))))
noncomputable def q1_ReadBlock.f (x0:List Int):Option (Block×Int):=((q1_TakeHead.f (⟨x0,0⟩:q1Rd)).bind fun r1=>((q1R_Num.f r1.2 200).bind fun r2=>((loopO (q1_ReadBlock.s0 r2) (0,r2.2.B,r2.2.E,[])).bind fun (c1,c2,c3)=>(((((if c2=0 then some (decide (0 < (c1.length:Int))) else some false)).bind fun c6=>(if c6=true then some 102 else some c2))).bind fun c5=>(if c5≠0 then ((some c5).bind fun c7=>some ((⟨(⟨0,(List.replicate 32 0),(List.replicate 32 0),0,0,0⟩:Head),[]⟩:Block),c7)) else some ((⟨r1.1,c3⟩:Block),0))))))
noncomputable def q1_HeadID.f (x0:Head):Option (List Int):=((q1_HeadBytes.f x0).bind fun r1=>((q1_Twice.f r1).bind fun r2=>some r2))
noncomputable def q1_ID.f (x0:Tx):Option (List Int):=((q1_TxBytes.f x0).bind fun r1=>((q1_Twice.f r1).bind fun r2=>some r2))
noncomputable def q1_IDs.s0 (x0:List Tx):((List (List Int))×Int)→Option (((List (List Int))×Int)⊕(List (List Int))):=fun (s1,s2)=>(if s2 < (x0.length:Int) then (if 0≤s2∧s2 < (x0.length:Int) then ((q1_ID.f (x0.getD s2.toNat default)).bind fun r1=>(if s1.length+1≤4398046511104 then some (.inl (s1++([r1]:List (List Int)),IntKind.i64.wrap (s2+1))) else none)) else none) else some (.inr s1))
noncomputable def q1_IDs.f (x0:List Tx):Option (List (List Int)):=((loopO (q1_IDs.s0 x0) ([],0)).bind fun c1=>some c1)
def q1_CheckHead.f (x0:Head):Option Int:=(((if x0.Work=0 then some true else some (decide (16777216 < x0.Work)))).bind fun c1=>(if c1=true then some 122 else some 0))
noncomputable def q1_Base.f (x0:Tx):Option Bool:=(((if (x0.Ins.length:Int)=1 then (if 0 < (x0.Ins.length:Int) then ((q1_Null.f).bind fun r1=>((q0_SamePoint.f ((x0.Ins.getD (0:Int).toNat default).From) r1).bind fun r2=>some r2)) else none) else some false)).bind fun c1=>some c1)
noncomputable def q1_Size.f (x0:Tx):Option Int:=((q1_TxBytes.f x0).bind fun r1=>some (r1.length:Int))
def q1_Values.s0 (x0:Tx):((List Int)×Int)→Option (((List Int)×Int)⊕(List Int)):=fun (s1,s2)=>(if s2 < (x0.Outs.length:Int) then (if 0≤s2∧s2 < (x0.Outs.length:Int) then (if s1.length+1≤17592186044416 then some (.inl (s1++([(x0.Outs.getD s2.toNat default).Value]:List Int),IntKind.i64.wrap (s2+1))) else none) else none) else some (.inr s1))
noncomputable def q1_Values.f (x0:Tx):Option (List Int):=((loopO (q1_Values.s0 x0) ([],0)).bind fun c1=>some c1)
noncomputable def q1_CheckTx.s3 (x0:Tx):Int→Option (Int⊕(Int⊕(Int⊕Int))):=fun s4=>(if s4 < (x0.Ins.length:Int) then (if 0≤s4∧s4 < (x0.Ins.length:Int) then ((q1_Null.f).bind fun r6=>((q0_SamePoint.f ((x0.Ins.getD s4.toNat default).From) r6).bind fun r7=>(if r7=true then some (.inr (.inr (.inr 107))) else some (.inl (IntKind.i64.wrap (s4+1)))))) else none) else some (.inr (.inr (.inr 0))))
noncomputable def q1_CheckTx.s2 (x0:Tx)(s2:Int):Int→Option (Int⊕(Int⊕(Int⊕Int))):=fun s3=>(if s3 < s2 then (if 0≤s2∧s2 < (x0.Ins.length:Int) then (if 0≤s3∧s3 < (x0.Ins.length:Int) then ((q0_SamePoint.f ((x0.Ins.getD s2.toNat default).From) ((x0.Ins.getD s3.toNat default).From)).bind fun r4=>(if r4=true then some (.inr (.inr (.inr 106))) else some (.inl (IntKind.i64.wrap (s3+1))))) else none) else none) else some (.inr (.inl (IntKind.i64.wrap (s2+1)))))
noncomputable def q1_CheckTx.s1 (x0:Tx):Int→Option (Int⊕(Int⊕Int)):=fun s2=>(if s2 < (x0.Ins.length:Int) then loopO (q1_CheckTx.s2 x0 s2) 0 else ((q1_Base.f x0).bind fun r5=>(if r5=true then (if 0 < (x0.Ins.length:Int) then (if (((x0.Ins.getD (0:Int).toNat default).Key).length:Int) < 4 then some (.inr (.inr 107)) else some (.inr (.inr 0))) else none) else loopO (q1_CheckTx.s3 x0) 0)))
noncomputable def q1_CheckTx.s0 (x0:Tx):Int→Option (Int⊕Int):=fun s1=>(if s1 < (x0.Ins.length:Int) then (if 0≤s1∧s1 < (x0.Ins.length:Int) then (if 80 < (((x0.Ins.getD s1.toNat default).Key).length:Int) then some (.inr 114) else some (.inl (IntKind.i64.wrap (s1+1)))) else none) else ((q1_Values.f x0).bind fun r2=>((q1_Sum.f r2).bind fun r3=>(if r3.2=true then loopO (q1_CheckTx.s1 x0) 0 else some (.inr 105)))))
noncomputable def q1_CheckTx.f (x0:Tx):Option Int:=(((if (x0.Ins.length:Int)=0 then some true else (if 50 < (x0.Ins.length:Int) then some true else (if (x0.Outs.length:Int)=0 then some true else some (decide (50 < (x0.Outs.length:Int))))))).bind fun c1=>(if c1=true then some 104 else ((q1_Size.f x0).bind fun r1=>(if 4000 < r1 then some 103 else loopO (q1_CheckTx.s0 x0) 0))))
noncomputable def q1_meet.s1 (x0 x1:Tx)(s1:Int):Int→Option (Int⊕(Int⊕Bool)):=fun s2=>(if s2 < (x1.Ins.length:Int) then (if 0≤s1∧s1 < (x0.Ins.length:Int) then (if 0≤s2∧s2 < (x1.Ins.length:Int) then ((q0_SamePoint.f ((x0.Ins.getD s1.toNat default).From) ((x1.Ins.getD s2.toNat default).From)).bind fun r1=>(if r1=true then some (.inr (.inr true)) else some (.inl (IntKind.i64.wrap (s2+1))))) else none) else none) else some (.inr (.inl (IntKind.i64.wrap (s1+1)))))
noncomputable def q1_meet.s0 (x0 x1:Tx):Int→Option (Int⊕Bool):=fun s1=>(if s1 < (x0.Ins.length:Int) then loopO (q1_meet.s1 x0 x1 s1) 0 else some (.inr false))
noncomputable def q1_meet.f (x0 x1:Tx):Option Bool:=loopO (q1_meet.s0 x0 x1) 0
noncomputable def q1_CheckBlock.s3 (x0:Block)(r8:List (List Int))(s3:Int):Int→Option (Int⊕(Int⊕(Int⊕(Int⊕q0Ft)))):=fun s4=>(if s4 < s3 then (((if 0≤s3∧s3 < (r8.length:Int) then (if 0≤s4∧s4 < (r8.length:Int) then ((q0_SameHash.f (r8.getD s3.toNat []) (r8.getD s4.toNat [])).bind fun r9=>(if r9=true then some true else (if 0≤s3∧s3 < (x0.Txs.length:Int) then (if 0≤s4∧s4 < (x0.Txs.length:Int) then ((q1_meet.f (x0.Txs.getD s3.toNat default) (x0.Txs.getD s4.toNat default)).bind fun r10=>some r10) else none) else none))) else none) else none)).bind fun c5=>(if c5=true then ((q0_Bare.f 106).bind fun r11=>some (.inr (.inr (.inr (.inr r11))))) else some (.inl (IntKind.i64.wrap (s4+1))))) else some (.inr (.inl (IntKind.i64.wrap (s3+1)))))
noncomputable def q1_CheckBlock.s2 (x0:Block)(r8:List (List Int)):Int→Option (Int⊕(Int⊕(Int⊕q0Ft))):=fun s3=>(if s3 < (r8.length:Int) then loopO (q1_CheckBlock.s3 x0 r8 s3) 0 else ((q1_Root.f r8).bind fun r12=>((q0_SameHash.f r12 x0.Head.Root).bind fun r13=>(if r13=true then ((q0_None.f).bind fun r15=>some (.inr (.inr (.inr r15)))) else ((q0_Bare.f 108).bind fun r14=>some (.inr (.inr (.inr r14))))))))
noncomputable def q1_CheckBlock.s1 (x0:Block):Int→Option (Int⊕(Int⊕q0Ft)):=fun s2=>(if s2 < (x0.Txs.length:Int) then (if 0≤s2∧s2 < (x0.Txs.length:Int) then ((q1_Base.f (x0.Txs.getD s2.toNat default)).bind fun r6=>(if r6≠(decide (s2=0)) then ((q0_Placed.f 107 s2).bind fun r7=>some (.inr (.inr r7))) else some (.inl (IntKind.i64.wrap (s2+1))))) else none) else ((q1_IDs.f x0.Txs).bind fun r8=>loopO (q1_CheckBlock.s2 x0 r8) 0))
noncomputable def q1_CheckBlock.s0 (x0:Block):Int→Option (Int⊕q0Ft):=fun s1=>(if s1 < (x0.Txs.length:Int) then (if 0≤s1∧s1 < (x0.Txs.length:Int) then ((q1_CheckTx.f (x0.Txs.getD s1.toNat default)).bind fun r4=>(if r4≠0 then ((q0_Placed.f r4 s1).bind fun r5=>some (.inr r5)) else some (.inl (IntKind.i64.wrap (s1+1))))) else none) else loopO (q1_CheckBlock.s1 x0) 0)
noncomputable def q1_CheckBlock.f (x0:Block):Option q0Ft:=((q1_CheckHead.f x0.Head).bind fun r1=>(((((if r1=0 then (if (x0.Txs.length:Int)=0 then some true else some (decide (200 < (x0.Txs.length:Int)))) else some false)).bind fun c2=>(if c2=true then some 104 else some r1))).bind fun c1=>(((((if c1=0 then ((q1_BlockBytes.f x0).bind fun r2=>some (decide (20000 < (r2.length:Int)))) else some false)).bind fun c4=>(if c4=true then some 103 else some c1))).bind fun c3=>(if c3≠0 then ((q0_Bare.f c3).bind fun r3=>some r3) else loopO (q1_CheckBlock.s0 x0) 0))))
def slices_Clone_api_In_api_In.f (x0:List In):Option (List In):=if x0.length≤1954687338268 then some x0 else none
def slices_Clone_api_Out_api_Out.f (x0:List Out):Option (List Out):=if x0.length≤3518437208883 then some x0 else none
def tx_Clone.s0 (r1:List In):(Int×(List In))→Option ((Int×(List In))⊕(List In)):=fun (s1,s2)=>(if s1 < (r1.length:Int) then (if 0≤s1∧s1 < (s2.length:Int) then ((bytes_Clone.f ((s2.getD s1.toNat default).Key)).bind fun r3=>some (.inl (IntKind.i64.wrap (s1+1),s2.set s1.toNat (⟨(s2.getD s1.toNat default).From,r3,(s2.getD s1.toNat default).Seq⟩:In)))) else none) else some (.inr s2))
noncomputable def tx_Clone.f (x0:Tx):Option Tx:=((slices_Clone_api_In_api_In.f x0.Ins).bind fun r1=>((slices_Clone_api_Out_api_Out.f x0.Outs).bind fun r2=>((loopO (tx_Clone.s0 r1) (0,r1)).bind fun c1=>some (⟨x0.Version,c1,r2,x0.Time⟩:Tx))))
noncomputable def tx_Clones.s0 (x0:List Tx):((List Tx)×Int)→Option (((List Tx)×Int)⊕(List Tx)):=fun (s1,s2)=>(if s2 < (x0.length:Int) then (if 0≤s2∧s2 < (x0.length:Int) then ((tx_Clone.f (x0.getD s2.toNat default)).bind fun r1=>(if s1.length+1≤2199023255552 then some (.inl (s1++([r1]:List Tx),IntKind.i64.wrap (s2+1))) else none)) else none) else some (.inr s1))
noncomputable def tx_Clones.f (x0:List Tx):Option (List Tx):=((loopO (tx_Clones.s0 x0) ([],0)).bind fun c1=>some c1)
end Go.Proofs.YticejmbhhehfdaaGreatDoor.T
