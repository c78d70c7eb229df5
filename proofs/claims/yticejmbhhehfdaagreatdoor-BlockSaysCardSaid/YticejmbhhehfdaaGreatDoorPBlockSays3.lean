/- Proved: the statement BlockSays, as given (its conditions are those of the given row, and card where there is one; no others): the call ends, with true, and the input reads as it did. This file is one of its parts. -/
import Derived.Test.YticejmbhhehfdaaGreatDoorPBlockSays2
namespace Go.Proofs.YticejmbhhehfdaaGreatDoor.T
open Go Go.Proofs Go.Proofs.YticejmbhhehfdaaGreatDoor.K
set_option linter.unusedVariables false
set_option linter.unusedSimpArgs false
set_option maxRecDepth 20000
theorem bytes_Clone.c (μ:Store)(w0:World)(hμ:Agr μ w0)(x0:List Int)(u0:Value)(hx0:Slc (RI .u8) 1 μ u0 x0)(r:List Int)(H:bytes_Clone.f x0=some r) :
  Calls Tryz.prog 69 [u0].toArray w0 (fun e w'=>∃ v,e=.returned v∧∃(v0:Value)(c0:List Value),v=v0∧Els (RI .u8) 1 r c0∧Iv w0 [] μ μ [row 5 1 v0 r.length c0] w'):=by
 obtain ⟨hb,H⟩:=guard_some H
 obtain rfl:=sI H
 obtain ⟨cs,hE,A,cp,rfl,h2,h3,h4,h5⟩:=hx0
 refine enter Tryz.func69 rfl Tryz.ntmps69 rfl fun a hA=>?_
 have hI:=Iv.start hμ
 refine w_seq fun _ hN1=>w_reg (stp hA (r_as hA rfl) rfl fun a hA=>o_nil (hN1 _ _ ?_))
 refine w_seq fun _ hN2=>w_seq fun _ hN3=>w_reg (stp hA (r_mv hA rfl) rfl fun a hA=>stp hA (r_eqnil U30 hA rfl rfl) rfl fun a hA=>o_nil (hN3 _ _ ?_))
 refine w_cond hA rfl (fun hc=>?_) (fun hc=>?_)
 ·have hx:x0=[]:=List.eq_nil_of_length_eq_zero (by
   rcases Nat.eq_zero_or_pos x0.length with h | h
   ·exact h
   ·rw [h4 (by omega)] at hc;cases hc)
  subst hx
  cases hE
  refine w_seq fun _ hN4=>w_reg (stp hA (r_as hA rfl) rfl fun a hA=>o_nil (hN4 _ _ ?_))
  refine w_ret ?_
  have hI:=hI.nilRow 5 1
  exact ret1 hA Tryz.results69 rfl ⟨_,rfl,.slice none 0 0,[],rfl,.nil,hI⟩
 ·refine w_skip (hN2 _ _ ?_)
  refine w_seq fun _ hN5=>w_reg ?_
  refine o_bsl [] te5 zr5 U30 hI hA rfl rfl rfl rfl (by kernel_rfl) rfl fun g a w hA hI=>?_
  refine stp hA (r_mv hA rfl) rfl fun a hA=>?_
  refine o_appL (xs:=([]:List Int)) (ys:=x0) (j:=0) te5 U30 hI rfl hA rfl rfl (src_sl hI.agr ⟨A,cp,rfl,h2,h3,h4,h5⟩ hE.len) hE.len (hE.ones (one_RI _)) (by simp only [List.length_nil,maxLen];omega) (by simp only [List.length_nil];omega) rfl fun v a w hA hI=>?_
  refine stp hA (r_as hA rfl) rfl fun a hA=>o_nil (hN5 _ _ (w_ret ?_))
  exact ret1 hA Tryz.results69 rfl ⟨_,rfl,v,cs,rfl,hE,hI⟩
theorem compact_Len.c (μ:Store)(w0:World)(hμ:Agr μ w0)(x0:Int)(hx0:InR .u64 x0)(r:Int)(H:compact_Len.f x0=some r) :
  Calls Tryz.prog 73 [.int .u64 x0].toArray w0 (fun e w'=>∃ v,e=.returned v∧v=.int .i64 r∧InR .i64 r∧Iv w0 [] μ μ [] w'):=by
 refine enter Tryz.func73 rfl Tryz.ntmps73 rfl fun a hA=>?_
 have hI:=Iv.start hμ
 have H:=bI H
 refine w_seq fun _ hN1=>w_reg<|sta hA rfl rfl fun a hA=>?_
 refine o_nil<|hN1 _ _<|w_seq fun _ hN2=>w_block<|w_seq fun _ hN3=>w_reg<|stm hA rfl rfl fun a hA =>
  stp hA (r_lss hA rfl rfl) rfl fun a hA =>
  sta hA rfl rfl fun a hA=>?_
 refine o_nil<|hN3 _ _<|w_cond hA rfl (fun hc1=>?_) (fun hc1=>?_)
 ·obtain ⟨hc1,H⟩:=dT H hc1
  refine w_seq fun _ hN4=>w_reg<|sta hA rfl rfl fun a hA=>?_
  refine o_nil<|hN4 _ _<|w_ret ?_
  obtain rfl:=sJ H
  exact ret1 hA Tryz.results73 rfl ⟨_,rfl,rfl,(in_lit .i64 1 rfl),hI.forget0⟩
 ·obtain ⟨hc1,H⟩:=dF H hc1
  refine w_seq fun _ hN5=>w_reg<|stm hA rfl rfl fun a hA =>
   stp hA (r_lss hA rfl rfl) rfl fun a hA =>
   sta hA rfl rfl fun a hA=>?_
  refine o_nil<|hN5 _ _<|w_cond hA rfl (fun hc2=>?_) (fun hc2=>?_)
  ·obtain ⟨hc2,H⟩:=dT H hc2
   refine w_seq fun _ hN6=>w_reg<|sta hA rfl rfl fun a hA=>?_
   refine o_nil<|hN6 _ _<|w_ret ?_
   obtain rfl:=sJ H
   exact ret1 hA Tryz.results73 rfl ⟨_,rfl,rfl,(in_lit .i64 3 rfl),hI.forget0⟩
  ·obtain ⟨hc2,H⟩:=dF H hc2
   refine w_seq fun _ hN7=>w_reg<|stm hA rfl rfl fun a hA =>
    stp hA (r_lss hA rfl rfl) rfl fun a hA =>
    sta hA rfl rfl fun a hA=>?_
   refine o_nil<|hN7 _ _<|w_cond hA rfl (fun hc3=>?_) (fun hc3=>?_)
   ·obtain ⟨hc3,H⟩:=dT H hc3
    refine w_seq fun _ hN8=>w_reg<|sta hA rfl rfl fun a hA=>?_
    refine o_nil<|hN8 _ _<|w_ret ?_
    obtain rfl:=sJ H
    exact ret1 hA Tryz.results73 rfl ⟨_,rfl,rfl,(in_lit .i64 5 rfl),hI.forget0⟩
   ·obtain ⟨hc3,H⟩:=dF H hc3
    refine w_skip<|hN2 _ _<|w_seq fun _ hN9=>w_reg<|sta hA rfl rfl fun a hA=>?_
    refine o_nil<|hN9 _ _<|w_ret ?_
    obtain rfl:=sJ H
    exact ret1 hA Tryz.results73 rfl ⟨_,rfl,rfl,(in_lit .i64 9 rfl),hI.forget0⟩
theorem compact_number.c (μ:Store)(w0:World)(hμ:Agr μ w0)(x0:List Int)(u0:Value)(k0:List Value)(hx0:Els (RI .u8) 1 x0 k0)(ho0:RowOK μ w0 5 1 u0 x0.length k0)(x1:Int)(hx1:InR .u64 x1)(x2:Int)(hx2:InR .i64 x2)(r:List Int)(H:compact_number.f x0 x1 x2=some r) :
  Calls Tryz.prog 81 [u0,.int .u64 x1,.int .i64 x2].toArray w0 (fun e w'=>∃ v,e=.returned v∧∃(v0:Value)(c0:List Value),v=v0∧Els (RI .u8) 1 r c0∧Iv w0 (row 5 1 u0 x0.length k0).foot μ μ [row 5 1 v0 r.length c0] w'):=by
 refine enter Tryz.func81 rfl Tryz.ntmps81 rfl fun a hA=>?_
 have hI:=ho0.start hμ
 have H:=bI H
 refine w_seq fun _ hN1=>w_reg<|sta hA rfl rfl fun a hA=>?_
 refine o_nil<|hN1 _ _ ?_
 obtain ⟨⟨c1,c2⟩,hz1,Hk1⟩:=bB H
 refine w_cut (fun a w=>∃(vvc1:Value)(ccc1:List Value),Els (RI .u8) 1 c1 ccc1∧InR .u64 c2∧Fr a 19 [(0,vvc1),(1,.int .u64 c2),(6,Sn)]∧Iv w0 (row 5 1 u0 x0.length k0).foot μ μ [row 5 1 vvc1 c1.length ccc1] w) ?_ ?_
 ·have H:=bI hz1
  refine w_seq fun _ hN2=>w_reg<|stm hA rfl rfl fun a hA =>
   stm hA rfl rfl fun a hA=>?_
  refine o_nil<|hN2 _ _<|w_block ?_
  obtain ⟨z1,hz2,Hk2⟩:=bind_some H
  obtain ⟨n1,hn1⟩:=loopO_some hz2
  refine w_loop (fun n a w=>∃(s1:List Int)(s2 s3:Int)(vvs1:Value)(ccs1:List Value),loopN (compact_number.s0 x2) n (s1,s2,s3)=some z1∧Els (RI .u8) 1 s1 ccs1∧InR .u64 s2∧InR .i64 s3∧Fr a 19 [(0,vvs1),(1,.int .u64 s2),(6,Sn),(7,.int .i64 x2),(8,.int .i64 s3)]∧Iv w0 (row 5 1 u0 x0.length k0).foot μ μ [row 5 1 vvs1 s1.length ccs1] w) n1 ⟨x0,x1,0,u0,k0,hn1,hx0,hx1,(in_lit .i64 0 rfl),hA.sub ⟨rfl,rfl,rfl,rfl,rfl,trivial⟩,hI⟩ ?_
  clear hA hI
  rintro n a w ⟨s1,s2,s3,vvs1,ccs1,hn1,ws1,ws2,ws3,hA,hI⟩
  obtain ⟨m1,rfl,H⟩:=loopN_bind hn1
  clear hn1
  refine w_seq fun _ hN3=>w_reg<|stp hA (r_lss hA rfl rfl) rfl fun a hA=>?_
  refine o_nil<|hN3 _ _<|w_seq fun _ hN4=>w_cond hA rfl (fun hc1=>?_) (fun hc1=>?_)
  ·obtain ⟨hc1,H⟩:=dT H hc1
   refine w_skip<|hN4 _ _<|w_seq fun _ hN5=>w_block<|w_seq fun _ hN6=>w_reg<|stm hA rfl rfl fun a hA =>
    stm hA rfl rfl fun a hA =>
    stp hA (r_conv U70 U5 hA rfl) rfl fun a hA=>?_
   have hE1:Els (RI .u8) 1 ([IntKind.u8.wrap s2]:List Int) _:=(Els.cons (c:=[[.int .u8 (IntKind.u8.wrap s2)]].flatten) ⟨rfl,(wrap_in _ _)⟩ rfl Els.nil)
   refine o_bsl ([[.int .u8 (IntKind.u8.wrap s2)]].flatten++([])) te5 zr5 U30 hI hA rfl rfl rfl rfl (by kernel_rfl) rfl fun g1 a w hA hI=>?_
   generalize hcs:([[.int .u8 (IntKind.u8.wrap s2)]].flatten++([]):List Value)=cs1 at hE1 hI
   clear hcs
   obtain ⟨hb1,H⟩:=bG H
   have hE3:=ws1.app hE1
   refine o_appG (xs:=(s1:List Int)) (ys:=(([IntKind.u8.wrap s2]:List Int):List Int)) (M:=140737488355328) 1 te5 U30 hI rfl hA rfl rfl (src_row hI (j:=0) rfl) hE1.len (hE1.ones (one_RI _)) hb1 rfl fun v1 a w hA hI =>
    sta hA rfl rfl fun a hA=>?_
   refine o_nil<|hN6 _ _<|w_reg<|stm hA rfl rfl fun a hA =>
    stp hA (r_shr hA rfl rfl (by decide)) rfl fun a hA =>
    sta hA rfl rfl fun a hA=>?_
   refine o_nil<|hN5 _ _<|w_reg<|stp hA (r_add hA rfl rfl) rfl fun a hA =>
    stm hA rfl rfl fun a hA=>?_
   refine o_nil<|⟨m1,lS _,s1++([IntKind.u8.wrap s2]:List Int),sR .u64 s2 8,IntKind.i64.wrap (s3+1),v1,ccs1++cs1,H,hE3,(sR_in rfl ws2 _),(wrap_in _ _),hA.sub ⟨rfl,rfl,rfl,rfl,rfl,trivial⟩,(hI.sl [1] rfl)⟩
  ·obtain ⟨hc1,H⟩:=dF H hc1
   refine w_exit rfl ?_
   have H:some (s1,s2)=some z1:=H
   obtain rfl:=sI H
   have H:=Hk2
   cases sJ H
   exact ⟨vvs1,ccs1,ws1,ws2,hA.sub ⟨rfl,rfl,rfl,trivial⟩,hI⟩
 ·rintro a w ⟨vvc1,ccc1,wc1,wc2,hA,hI⟩
  have H:=Hk1
  refine w_seq fun _ hN7=>w_reg<|stm hA rfl rfl fun a hA =>
   sta hA rfl rfl fun a hA=>?_
  refine o_nil<|hN7 _ _<|w_ret ?_
  obtain rfl:=sJ H
  exact ret1 hA Tryz.results81 rfl ⟨_,rfl,vvc1,ccc1,rfl,wc1,(hI.less (Store.le.refl _) hI.le)⟩
theorem compact_Put.c (μ:Store)(w0:World)(hμ:Agr μ w0)(x0:List Int)(u0:Value)(hx0:Slc (RI .u8) 1 μ u0 x0)(x1:Int)(hx1:InR .u64 x1)(r:List Int)(H:compact_Put.f x0 x1=some r) :
  Calls Tryz.prog 39 [u0,.int .u64 x1].toArray w0 (fun e w'=>∃ v,e=.returned v∧∃(v0:Value)(c0:List Value),v=v0∧Els (RI .u8) 1 r c0∧Iv w0 [] μ μ [row 5 1 v0 r.length c0] w'):=by
 refine enter Tryz.func39 rfl Tryz.ntmps39 rfl fun a hA=>?_
 have hI:=Iv.start hμ
 have H:=bI H
 refine w_seq fun _ hN1=>w_reg<|sta hA rfl rfl fun a hA=>?_
 refine o_nil<|hN1 _ _<|w_seq fun _ hN2=>w_reg<|stm hA rfl rfl fun a hA=>?_
 obtain ⟨r1,hr1,H⟩:=bB H
 refine o_call _ cf69 hA rfl (bytes_Clone.c μ _ hI.agr x0 u0 hx0 r1 hr1) rfl fun v1 a w hz1 hA=>?_
 obtain ⟨_,cs1,rfl,hE1,hi1⟩:=hz1
 have hI:=hI.call hi1
 refine sta hA rfl rfl fun a hA=>?_
 refine o_nil<|hN2 _ _<|w_seq fun _ hN3=>w_seq fun _ hN4=>w_reg<|stm hA rfl rfl fun a hA=>?_
 obtain ⟨r2,hr2,H⟩:=bB H
 refine o_callp (u:=.int .i64 r2) cf73 hA rfl hI (compact_Len.c μ _ hI.agr x1 hx1 r2 hr2) rfl fun a w hz2 hI hA =>
  sta hA rfl rfl fun a hA=>?_
 refine o_nil<|hN4 _ _<|w_seq fun _ hN5=>w_reg<|stm hA rfl rfl fun a hA=>?_
 refine o_nil<|hN5 _ _<|w_block<|w_seq fun _ hN6=>w_reg<|stp hA (r_eql hA rfl rfl) rfl fun a hA =>
  sta hA rfl rfl fun a hA=>?_
 refine o_nil<|hN6 _ _<|w_cond hA rfl (fun hc1=>?_) (fun hc1=>?_)
 ·obtain ⟨hc1,H⟩:=dT H hc1
  refine w_seq fun _ hN7=>w_reg<|stm hA rfl rfl fun a hA =>
   stm hA rfl rfl fun a hA =>
   stp hA (r_conv U70 U5 hA rfl) rfl fun a hA=>?_
  have hE2:Els (RI .u8) 1 ([IntKind.u8.wrap x1]:List Int) _:=(Els.cons (c:=[[.int .u8 (IntKind.u8.wrap x1)]].flatten) ⟨rfl,(wrap_in _ _)⟩ rfl Els.nil)
  refine o_bsl ([[.int .u8 (IntKind.u8.wrap x1)]].flatten++([])) te5 zr5 U30 hI hA rfl rfl rfl rfl (by kernel_rfl) rfl fun g1 a w hA hI=>?_
  generalize hcs:([[.int .u8 (IntKind.u8.wrap x1)]].flatten++([]):List Value)=cs2 at hE2 hI
  clear hcs
  obtain ⟨hb1,H⟩:=bG H
  have hE4:=hE1.app hE2
  refine o_appG (xs:=(r1:List Int)) (ys:=(([IntKind.u8.wrap x1]:List Int):List Int)) (M:=140737488355328) 1 te5 U30 hI rfl hA rfl rfl (src_row hI (j:=0) rfl) hE2.len (hE2.ones (one_RI _)) hb1 rfl fun v2 a w hA hI =>
   sta hA rfl rfl fun a hA=>?_
  refine o_nil<|hN7 _ _<|w_ret ?_
  obtain rfl:=sJ H
  exact ret1 hA Tryz.results39 rfl ⟨_,rfl,v2,cs1++cs2,rfl,hE4,((hI.sl [1] rfl).less (Store.le.refl _) hI.le)⟩
 ·obtain ⟨hc1,H⟩:=dF H hc1
  refine w_seq fun _ hN8=>w_reg<|stp hA (r_eql hA rfl rfl) rfl fun a hA =>
   sta hA rfl rfl fun a hA=>?_
  refine o_nil<|hN8 _ _<|w_cond hA rfl (fun hc2=>?_) (fun hc2=>?_)
  ·obtain ⟨hc2,H⟩:=dT H hc2
   refine w_seq fun _ hN9=>w_reg<|stm hA rfl rfl fun a hA=>?_
   have hE5:Els (RI .u8) 1 ([253]:List Int) _:=(Els.cons (c:=[[.int .u8 253]].flatten) ⟨rfl,(in_lit .u8 253 rfl)⟩ rfl Els.nil)
   refine o_bsl ([[.int .u8 253]].flatten++([])) te5 zr5 U30 hI hA rfl rfl rfl rfl (by kernel_rfl) rfl fun g2 a w hA hI=>?_
   generalize hcs:([[.int .u8 253]].flatten++([]):List Value)=cs5 at hE5 hI
   clear hcs
   obtain ⟨hb2,H⟩:=bG H
   have hE7:=hE1.app hE5
   refine o_appG (xs:=(r1:List Int)) (ys:=(([253]:List Int):List Int)) (M:=140737488355328) 1 te5 U30 hI rfl hA rfl rfl (src_row hI (j:=0) rfl) hE5.len (hE5.ones (one_RI _)) hb2 rfl fun v3 a w hA hI =>
    stm hA rfl rfl fun a hA=>?_
   obtain ⟨r3,hr3,H⟩:=bB H
   refine o_call _ cf81 hA rfl (compact_number.c μ _ hI.agr (r1++([253]:List Int)) v3 (cs1++cs5) hE7 (hI.item (j:=1) rfl) x1 hx1 2 (in_lit .i64 2 rfl) r3 hr3) rfl fun v4 a w hz3 hA=>?_
   obtain ⟨_,cs8,rfl,hE8,hi2⟩:=hz3
   have hI:=hI.call1 1 rfl hi2
   refine sta hA rfl rfl fun a hA=>?_
   refine o_nil<|hN9 _ _<|w_ret ?_
   obtain rfl:=sJ H
   exact ret1 hA Tryz.results39 rfl ⟨_,rfl,v4,cs8,rfl,hE8,((hI.sl [0] rfl).less (Store.le.refl _) hI.le)⟩
  ·obtain ⟨hc2,H⟩:=dF H hc2
   refine w_seq fun _ hN10=>w_reg<|stp hA (r_eql hA rfl rfl) rfl fun a hA =>
    sta hA rfl rfl fun a hA=>?_
   refine o_nil<|hN10 _ _<|w_cond hA rfl (fun hc3=>?_) (fun hc3=>?_)
   ·obtain ⟨hc3,H⟩:=dT H hc3
    refine w_seq fun _ hN11=>w_reg<|stm hA rfl rfl fun a hA=>?_
    have hE9:Els (RI .u8) 1 ([254]:List Int) _:=(Els.cons (c:=[[.int .u8 254]].flatten) ⟨rfl,(in_lit .u8 254 rfl)⟩ rfl Els.nil)
    refine o_bsl ([[.int .u8 254]].flatten++([])) te5 zr5 U30 hI hA rfl rfl rfl rfl (by kernel_rfl) rfl fun g3 a w hA hI=>?_
    generalize hcs:([[.int .u8 254]].flatten++([]):List Value)=cs9 at hE9 hI
    clear hcs
    obtain ⟨hb3,H⟩:=bG H
    have hE11:=hE1.app hE9
    refine o_appG (xs:=(r1:List Int)) (ys:=(([254]:List Int):List Int)) (M:=140737488355328) 1 te5 U30 hI rfl hA rfl rfl (src_row hI (j:=0) rfl) hE9.len (hE9.ones (one_RI _)) hb3 rfl fun v5 a w hA hI =>
     stm hA rfl rfl fun a hA=>?_
    obtain ⟨r4,hr4,H⟩:=bB H
    refine o_call _ cf81 hA rfl (compact_number.c μ _ hI.agr (r1++([254]:List Int)) v5 (cs1++cs9) hE11 (hI.item (j:=1) rfl) x1 hx1 4 (in_lit .i64 4 rfl) r4 hr4) rfl fun v6 a w hz4 hA=>?_
    obtain ⟨_,cs12,rfl,hE12,hi3⟩:=hz4
    have hI:=hI.call1 1 rfl hi3
    refine sta hA rfl rfl fun a hA=>?_
    refine o_nil<|hN11 _ _<|w_ret ?_
    obtain rfl:=sJ H
    exact ret1 hA Tryz.results39 rfl ⟨_,rfl,v6,cs12,rfl,hE12,((hI.sl [0] rfl).less (Store.le.refl _) hI.le)⟩
   ·obtain ⟨hc3,H⟩:=dF H hc3
    refine w_skip<|hN3 _ _<|w_seq fun _ hN12=>w_reg<|stm hA rfl rfl fun a hA=>?_
    have hE13:Els (RI .u8) 1 ([255]:List Int) _:=(Els.cons (c:=[[.int .u8 255]].flatten) ⟨rfl,(in_lit .u8 255 rfl)⟩ rfl Els.nil)
    refine o_bsl ([[.int .u8 255]].flatten++([])) te5 zr5 U30 hI hA rfl rfl rfl rfl (by kernel_rfl) rfl fun g4 a w hA hI=>?_
    generalize hcs:([[.int .u8 255]].flatten++([]):List Value)=cs13 at hE13 hI
    clear hcs
    obtain ⟨hb4,H⟩:=bG H
    have hE15:=hE1.app hE13
    refine o_appG (xs:=(r1:List Int)) (ys:=(([255]:List Int):List Int)) (M:=140737488355328) 1 te5 U30 hI rfl hA rfl rfl (src_row hI (j:=0) rfl) hE13.len (hE13.ones (one_RI _)) hb4 rfl fun v7 a w hA hI =>
     stm hA rfl rfl fun a hA=>?_
    obtain ⟨r5,hr5,H⟩:=bB H
    refine o_call _ cf81 hA rfl (compact_number.c μ _ hI.agr (r1++([255]:List Int)) v7 (cs1++cs13) hE15 (hI.item (j:=1) rfl) x1 hx1 8 (in_lit .i64 8 rfl) r5 hr5) rfl fun v8 a w hz5 hA=>?_
    obtain ⟨_,cs16,rfl,hE16,hi4⟩:=hz5
    have hI:=hI.call1 1 rfl hi4
    refine sta hA rfl rfl fun a hA=>?_
    refine o_nil<|hN12 _ _<|w_ret ?_
    obtain rfl:=sJ H
    exact ret1 hA Tryz.results39 rfl ⟨_,rfl,v8,cs16,rfl,hE16,((hI.sl [0] rfl).less (Store.le.refl _) hI.le)⟩
theorem compact_Four.c (μ:Store)(w0:World)(hμ:Agr μ w0)(x0:List Int)(u0:Value)(hx0:Slc (RI .u8) 1 μ u0 x0)(x1:Int)(hx1:InR .u32 x1)(r:List Int)(H:compact_Four.f x0 x1=some r) :
  Calls Tryz.prog 83 [u0,.int .u32 x1].toArray w0 (fun e w'=>∃ v,e=.returned v∧∃(v0:Value)(c0:List Value),v=v0∧Els (RI .u8) 1 r c0∧Iv w0 [] μ μ [row 5 1 v0 r.length c0] w'):=by
 refine enter Tryz.func83 rfl Tryz.ntmps83 rfl fun a hA=>?_
 have hI:=Iv.start hμ
 have H:=bI H
 refine w_seq fun _ hN1=>w_reg<|sta hA rfl rfl fun a hA=>?_
 refine o_nil<|hN1 _ _<|w_seq fun _ hN2=>w_reg<|stm hA rfl rfl fun a hA=>?_
 obtain ⟨r1,hr1,H⟩:=bB H
 refine o_call _ cf69 hA rfl (bytes_Clone.c μ _ hI.agr x0 u0 hx0 r1 hr1) rfl fun v1 a w hz1 hA=>?_
 obtain ⟨_,cs1,rfl,hE1,hi1⟩:=hz1
 have hI:=hI.call hi1
 refine stm hA rfl rfl fun a hA =>
  stp hA (r_conv U22 U70 hA rfl) rfl fun a hA=>?_
 obtain ⟨r2,hr2,H⟩:=bB H
 refine o_call _ cf81 hA rfl (compact_number.c μ _ hI.agr r1 v1 cs1 hE1 (hI.item (j:=0) rfl) (IntKind.u64.wrap x1) (wrap_in _ _) 4 (in_lit .i64 4 rfl) r2 hr2) rfl fun v2 a w hz2 hA=>?_
 obtain ⟨_,cs2,rfl,hE2,hi2⟩:=hz2
 have hI:=hI.call1 0 rfl hi2
 refine sta hA rfl rfl fun a hA=>?_
 refine o_nil<|hN2 _ _<|w_ret ?_
 obtain rfl:=sJ H
 exact ret1 hA Tryz.results83 rfl ⟨_,rfl,v2,cs2,rfl,hE2,(hI.less (Store.le.refl _) hI.le)⟩
theorem compact_Eight.c (μ:Store)(w0:World)(hμ:Agr μ w0)(x0:List Int)(u0:Value)(hx0:Slc (RI .u8) 1 μ u0 x0)(x1:Int)(hx1:InR .u64 x1)(r:List Int)(H:compact_Eight.f x0 x1=some r) :
  Calls Tryz.prog 84 [u0,.int .u64 x1].toArray w0 (fun e w'=>∃ v,e=.returned v∧∃(v0:Value)(c0:List Value),v=v0∧Els (RI .u8) 1 r c0∧Iv w0 [] μ μ [row 5 1 v0 r.length c0] w'):=by
 refine enter Tryz.func84 rfl Tryz.ntmps84 rfl fun a hA=>?_
 have hI:=Iv.start hμ
 have H:=bI H
 refine w_seq fun _ hN1=>w_reg<|sta hA rfl rfl fun a hA=>?_
 refine o_nil<|hN1 _ _<|w_seq fun _ hN2=>w_reg<|stm hA rfl rfl fun a hA=>?_
 obtain ⟨r1,hr1,H⟩:=bB H
 refine o_call _ cf69 hA rfl (bytes_Clone.c μ _ hI.agr x0 u0 hx0 r1 hr1) rfl fun v1 a w hz1 hA=>?_
 obtain ⟨_,cs1,rfl,hE1,hi1⟩:=hz1
 have hI:=hI.call hi1
 refine stm hA rfl rfl fun a hA=>?_
 obtain ⟨r2,hr2,H⟩:=bB H
 refine o_call _ cf81 hA rfl (compact_number.c μ _ hI.agr r1 v1 cs1 hE1 (hI.item (j:=0) rfl) x1 hx1 8 (in_lit .i64 8 rfl) r2 hr2) rfl fun v2 a w hz2 hA=>?_
 obtain ⟨_,cs2,rfl,hE2,hi2⟩:=hz2
 have hI:=hI.call1 0 rfl hi2
 refine sta hA rfl rfl fun a hA=>?_
 refine o_nil<|hN2 _ _<|w_ret ?_
 obtain rfl:=sJ H
 exact ret1 hA Tryz.results84 rfl ⟨_,rfl,v2,cs2,rfl,hE2,(hI.less (Store.le.refl _) hI.le)⟩
theorem compact_Sum.c (μ:Store)(w0:World)(hμ:Agr μ w0)(x0:List Int)(u0:Value)(hx0:Slc (RI .u64) 1 μ u0 x0)(r:Int×Bool)(H:compact_Sum.f x0=some r) :
  Calls Tryz.prog 126 [u0].toArray w0 (fun e w'=>∃ v,e=.returned v∧v=.tuple #[.int .u64 r.1,.bool r.2]∧(InR .u64 r.1∧True)∧Iv w0 [] μ μ [] w'):=by
 refine enter Tryz.func126 rfl Tryz.ntmps126 rfl fun a hA=>?_
 have hI:=Iv.start hμ
 have H:=bI H
 refine w_seq fun _ hN1=>w_reg<|sta hA rfl rfl fun a hA =>
  sta hA rfl rfl fun a hA=>?_
 refine o_nil<|hN1 _ _<|w_seq fun _ hN2=>w_reg<|sta hA rfl rfl fun a hA=>?_
 refine o_nil<|hN2 _ _<|w_seq fun _ hN3=>w_seq fun _ hN4=>w_reg<|stm hA rfl rfl fun a hA=>?_
 obtain ⟨_,hsl1⟩:=Slc.sv hx0
 refine stp hA (r_slen U129 hsl1 hA rfl) rfl fun a hA =>
  stm hA rfl rfl fun a hA=>?_
 refine o_nil<|hN4 _ _<|w_block ?_
 obtain ⟨z1,hz1,Hk1⟩:=bind_some H
 obtain ⟨n1,hn1⟩:=loopO_some hz1
 refine w_loop (fun n a w=>∃(s1 s2:Int),loopN (compact_Sum.s0 x0) n (s1,s2)=some z1∧InR .u64 s1∧InR .i64 s2∧Fr a 22 [(2,.int .u64 0),(3,.bool false),(4,.int .u64 s1),(7,u0),(8,.int .i64 (x0.length:Int)),(9,.int .i64 s2)]∧Iv w0 [] μ μ [] w) n1 ⟨0,0,hn1,(in_lit .u64 0 rfl),(in_lit .i64 0 rfl),hA.sub ⟨rfl,rfl,rfl,rfl,rfl,rfl,trivial⟩,hI⟩ ?_
 clear hA hI
 rintro n a w ⟨s1,s2,hn1,ws1,ws2,hA,hI⟩
 obtain ⟨m1,rfl,H⟩:=loopN_bind hn1
 clear hn1
 refine w_seq fun _ hN5=>w_reg<|stp hA (r_lss hA rfl rfl) rfl fun a hA=>?_
 refine o_nil<|hN5 _ _<|w_seq fun _ hN6=>w_cond hA rfl (fun hc1=>?_) (fun hc1=>?_)
 ·obtain ⟨hc1,H⟩:=dT H hc1
  refine w_skip<|hN6 _ _<|w_seq fun _ hN7=>w_block<|w_seq fun _ hN8=>w_reg ?_
  obtain ⟨hb1,H⟩:=bG H
  obtain ⟨_,he1,_,hat1⟩:=Slc.elem1 hx0 (getD_some 0 hb1.1 hb1.2)
  obtain ⟨rfl,hw1⟩:=he1
  obtain ⟨_,hsl2⟩:=Slc.sv hx0
  refine stp hA (r_six1 U129 sz70 hsl2 hA rfl rfl hb1.1 hb1.2) rfl fun a hA =>
   stp hA (r_ldm1 [] [] U70 rfl hI.agr hat1 hA rfl rfl) rfl fun a hA =>
   sta hA rfl rfl fun a hA=>?_
  refine o_nil<|hN8 _ _<|w_seq fun _ hN9=>w_seq fun _ hN10=>w_reg<|stm hA rfl rfl fun a hA =>
   stm hA rfl rfl fun a hA =>
   stp hA (r_sub hA rfl rfl) rfl fun a hA =>
   stp hA (r_gtr hA rfl rfl) rfl fun a hA=>?_
  refine o_nil<|hN10 _ _<|w_cond hA rfl (fun hc2=>?_) (fun hc2=>?_)
  ·obtain ⟨hc2,H⟩:=dT H hc2
   refine w_seq fun _ hN11=>w_reg<|sta hA rfl rfl fun a hA =>
    sta hA rfl rfl fun a hA=>?_
   refine o_nil<|hN11 _ _<|w_ret ?_
   have H:some (0,false)=some z1:=H
   obtain rfl:=sI H
   have H:=Hk1
   obtain rfl:=sJ H
   exact ret2 hA Tryz.results126 rfl rfl ⟨_,rfl,rfl,⟨(in_lit .u64 0 rfl),trivial⟩,hI.forget0⟩
  ·obtain ⟨hc2,H⟩:=dF H hc2
   refine w_skip<|hN9 _ _<|w_reg<|stm hA rfl rfl fun a hA =>
    stm hA rfl rfl fun a hA =>
    stp hA (r_add hA rfl rfl) rfl fun a hA =>
    sta hA rfl rfl fun a hA=>?_
   refine o_nil<|hN7 _ _<|w_reg<|stp hA (r_add hA rfl rfl) rfl fun a hA =>
    stm hA rfl rfl fun a hA=>?_
   refine o_nil<|⟨m1,lS _,IntKind.u64.wrap (s1+(x0.getD s2.toNat 0)),IntKind.i64.wrap (s2+1),H,(wrap_in _ _),(wrap_in _ _),hA.sub ⟨rfl,rfl,rfl,rfl,rfl,rfl,trivial⟩,hI⟩
 ·obtain ⟨hc1,H⟩:=dF H hc1
  refine w_exit rfl<|hN3 _ _<|w_seq fun _ hN12=>w_reg<|stm hA rfl rfl fun a hA =>
   sta hA rfl rfl fun a hA =>
   sta hA rfl rfl fun a hA=>?_
  refine o_nil<|hN12 _ _<|w_ret ?_
  have H:some (s1,true)=some z1:=H
  obtain rfl:=sI H
  have H:=Hk1
  obtain rfl:=sJ H
  exact ret2 hA Tryz.results126 rfl rfl ⟨_,rfl,rfl,⟨ws1,trivial⟩,hI.forget0⟩
theorem q1_Len.c (μ:Store)(w0:World)(hμ:Agr μ w0)(x0:Int)(hx0:InR .u64 x0)(r:Int)(H:q1_Len.f x0=some r) :
  Calls Tryz.prog 65 [.int .u64 x0].toArray w0 (fun e w'=>∃ v,e=.returned v∧v=.int .i64 r∧InR .i64 r∧Iv w0 [] μ μ [] w'):=by
 refine enter Tryz.func65 rfl Tryz.ntmps65 rfl fun a hA=>?_
 have hI:=Iv.start hμ
 have H:=bI H
 refine w_seq fun _ hN1=>w_reg<|sta hA rfl rfl fun a hA=>?_
 refine o_nil<|hN1 _ _<|w_seq fun _ hN2=>w_block<|w_seq fun _ hN3=>w_reg<|stm hA rfl rfl fun a hA =>
  stp hA (r_lss hA rfl rfl) rfl fun a hA =>
  sta hA rfl rfl fun a hA=>?_
 refine o_nil<|hN3 _ _<|w_cond hA rfl (fun hc1=>?_) (fun hc1=>?_)
 ·obtain ⟨hc1,H⟩:=dT H hc1
  refine w_seq fun _ hN4=>w_reg<|sta hA rfl rfl fun a hA=>?_
  refine o_nil<|hN4 _ _<|w_ret ?_
  obtain rfl:=sJ H
  exact ret1 hA Tryz.results65 rfl ⟨_,rfl,rfl,(in_lit .i64 1 rfl),hI.forget0⟩
 ·obtain ⟨hc1,H⟩:=dF H hc1
  refine w_seq fun _ hN5=>w_reg<|stm hA rfl rfl fun a hA =>
   stp hA (r_lss hA rfl rfl) rfl fun a hA =>
   sta hA rfl rfl fun a hA=>?_
  refine o_nil<|hN5 _ _<|w_cond hA rfl (fun hc2=>?_) (fun hc2=>?_)
  ·obtain ⟨hc2,H⟩:=dT H hc2
   refine w_seq fun _ hN6=>w_reg<|sta hA rfl rfl fun a hA=>?_
   refine o_nil<|hN6 _ _<|w_ret ?_
   obtain rfl:=sJ H
   exact ret1 hA Tryz.results65 rfl ⟨_,rfl,rfl,(in_lit .i64 3 rfl),hI.forget0⟩
  ·obtain ⟨hc2,H⟩:=dF H hc2
   refine w_seq fun _ hN7=>w_reg<|stm hA rfl rfl fun a hA =>
    stp hA (r_lss hA rfl rfl) rfl fun a hA =>
    sta hA rfl rfl fun a hA=>?_
   refine o_nil<|hN7 _ _<|w_cond hA rfl (fun hc3=>?_) (fun hc3=>?_)
   ·obtain ⟨hc3,H⟩:=dT H hc3
    refine w_seq fun _ hN8=>w_reg<|sta hA rfl rfl fun a hA=>?_
    refine o_nil<|hN8 _ _<|w_ret ?_
    obtain rfl:=sJ H
    exact ret1 hA Tryz.results65 rfl ⟨_,rfl,rfl,(in_lit .i64 5 rfl),hI.forget0⟩
   ·obtain ⟨hc3,H⟩:=dF H hc3
    refine w_skip<|hN2 _ _<|w_seq fun _ hN9=>w_reg<|sta hA rfl rfl fun a hA=>?_
    refine o_nil<|hN9 _ _<|w_ret ?_
    obtain rfl:=sJ H
    exact ret1 hA Tryz.results65 rfl ⟨_,rfl,rfl,(in_lit .i64 9 rfl),hI.forget0⟩
theorem q1_little.c (μ:Store)(w0:World)(hμ:Agr μ w0)(x0:List Int)(u0:Value)(k0:List Value)(hx0:Els (RI .u8) 1 x0 k0)(ho0:RowOK μ w0 5 1 u0 x0.length k0)(x1:Int)(hx1:InR .u64 x1)(x2:Int)(hx2:InR .i64 x2)(r:List Int)(H:q1_little.f x0 x1 x2=some r) :
  Calls Tryz.prog 66 [u0,.int .u64 x1,.int .i64 x2].toArray w0 (fun e w'=>∃ v,e=.returned v∧∃(v0:Value)(c0:List Value),v=v0∧Els (RI .u8) 1 r c0∧Iv w0 (row 5 1 u0 x0.length k0).foot μ μ [row 5 1 v0 r.length c0] w'):=by
 refine enter Tryz.func66 rfl Tryz.ntmps66 rfl fun a hA=>?_
 have hI:=ho0.start hμ
 have H:=bI H
 refine w_seq fun _ hN1=>w_reg<|sta hA rfl rfl fun a hA=>?_
 refine o_nil<|hN1 _ _ ?_
 obtain ⟨c1,hz1,Hk1⟩:=bB H
 refine w_cut (fun a w=>∃(vvc1:Value)(ccc1:List Value),Els (RI .u8) 1 c1 ccc1∧Fr a 23 [(0,vvc1),(6,Sn)]∧Iv w0 (row 5 1 u0 x0.length k0).foot μ μ [row 5 1 vvc1 c1.length ccc1] w) ?_ ?_
 ·have H:=bI hz1
  refine w_seq fun _ hN2=>w_reg<|sta hA rfl rfl fun a hA=>?_
  refine o_nil<|hN2 _ _<|w_block ?_
  obtain ⟨z1,hz2,Hk2⟩:=bind_some H
  obtain ⟨n1,hn1⟩:=loopO_some hz2
  refine w_loop (fun n a w=>∃(s1:List Int)(s2:Int)(vvs1:Value)(ccs1:List Value),loopN (q1_little.s0 x1 x2) n (s1,s2)=some z1∧Els (RI .u8) 1 s1 ccs1∧InR .i64 s2∧Fr a 23 [(0,vvs1),(1,.int .u64 x1),(2,.int .i64 x2),(6,Sn),(7,.int .i64 s2)]∧Iv w0 (row 5 1 u0 x0.length k0).foot μ μ [row 5 1 vvs1 s1.length ccs1] w) n1 ⟨x0,0,u0,k0,hn1,hx0,(in_lit .i64 0 rfl),hA.sub ⟨rfl,rfl,rfl,rfl,rfl,trivial⟩,hI⟩ ?_
  clear hA hI
  rintro n a w ⟨s1,s2,vvs1,ccs1,hn1,ws1,ws2,hA,hI⟩
  obtain ⟨m1,rfl,H⟩:=loopN_bind hn1
  clear hn1
  refine w_seq fun _ hN3=>w_seq fun _ hN4=>w_reg<|stm hA rfl rfl fun a hA =>
   stm hA rfl rfl fun a hA =>
   stp hA (r_lss hA rfl rfl) rfl fun a hA=>?_
  refine o_nil<|hN4 _ _<|w_cond hA rfl (fun hc1=>?_) (fun hc1=>?_)
  ·obtain ⟨hc1,H⟩:=dT H hc1
   refine w_skip<|hN3 _ _<|w_seq fun _ hN5=>w_block<|w_reg<|stm hA rfl rfl fun a hA =>
    stm hA rfl rfl fun a hA =>
    stm hA rfl rfl fun a hA =>
    stp hA (r_mul hA rfl rfl) rfl fun a hA =>
    stp hA (r_conv U3 U115 hA rfl) rfl fun a hA=>?_
   obtain ⟨hb1,H⟩:=bG H
   refine stp hA (r_shr hA rfl rfl hb1) rfl fun a hA =>
    stp hA (r_conv U70 U5 hA rfl) rfl fun a hA=>?_
   have hE1:Els (RI .u8) 1 ([IntKind.u8.wrap (sR .u64 x1 (IntKind.u64.wrap (IntKind.i64.wrap (8 * s2))))]:List Int) _:=(Els.cons (c:=[[.int .u8 (IntKind.u8.wrap (sR .u64 x1 (IntKind.u64.wrap (IntKind.i64.wrap (8 * s2)))))]].flatten) ⟨rfl,(wrap_in _ _)⟩ rfl Els.nil)
   refine o_bsl ([[.int .u8 (IntKind.u8.wrap (sR .u64 x1 (IntKind.u64.wrap (IntKind.i64.wrap (8 * s2)))))]].flatten++([])) te5 zr5 U30 hI hA rfl rfl rfl rfl (by kernel_rfl) rfl fun g1 a w hA hI=>?_
   generalize hcs:([[.int .u8 (IntKind.u8.wrap (sR .u64 x1 (IntKind.u64.wrap (IntKind.i64.wrap (8 * s2)))))]].flatten++([]):List Value)=cs1 at hE1 hI
   clear hcs
   obtain ⟨hb2,H⟩:=bG H
   have hE3:=ws1.app hE1
   refine o_appG (xs:=(s1:List Int)) (ys:=(([IntKind.u8.wrap (sR .u64 x1 (IntKind.u64.wrap (IntKind.i64.wrap (8 * s2))))]:List Int):List Int)) (M:=140737488355328) 1 te5 U30 hI rfl hA rfl rfl (src_row hI (j:=0) rfl) hE1.len (hE1.ones (one_RI _)) hb2 rfl fun v1 a w hA hI =>
    sta hA rfl rfl fun a hA=>?_
   refine o_nil<|hN5 _ _<|w_reg<|stm hA rfl rfl fun a hA =>
    stp hA (r_add hA rfl rfl) rfl fun a hA =>
    sta hA rfl rfl fun a hA=>?_
   refine o_nil<|⟨m1,lS _,s1++([IntKind.u8.wrap (sR .u64 x1 (IntKind.u64.wrap (IntKind.i64.wrap (8 * s2))))]:List Int),IntKind.i64.wrap (s2+1),v1,ccs1++cs1,H,hE3,(wrap_in _ _),hA.sub ⟨rfl,rfl,rfl,rfl,rfl,trivial⟩,(hI.sl [1] rfl)⟩
  ·obtain ⟨hc1,H⟩:=dF H hc1
   refine w_exit rfl ?_
   have H:some s1=some z1:=H
   obtain rfl:=sI H
   have H:=Hk2
   cases sJ H
   exact ⟨vvs1,ccs1,ws1,hA.sub ⟨rfl,rfl,trivial⟩,hI⟩
 ·rintro a w ⟨vvc1,ccc1,wc1,hA,hI⟩
  have H:=Hk1
  refine w_seq fun _ hN6=>w_reg<|stm hA rfl rfl fun a hA =>
   sta hA rfl rfl fun a hA=>?_
  refine o_nil<|hN6 _ _<|w_ret ?_
  obtain rfl:=sJ H
  exact ret1 hA Tryz.results66 rfl ⟨_,rfl,vvc1,ccc1,rfl,wc1,(hI.less (Store.le.refl _) hI.le)⟩
theorem q1_Put.c (μ:Store)(w0:World)(hμ:Agr μ w0)(x0:List Int)(u0:Value)(k0:List Value)(hx0:Els (RI .u8) 1 x0 k0)(ho0:RowOK μ w0 5 1 u0 x0.length k0)(x1:Int)(hx1:InR .u64 x1)(r:List Int)(H:q1_Put.f x0 x1=some r) :
  Calls Tryz.prog 27 [u0,.int .u64 x1].toArray w0 (fun e w'=>∃ v,e=.returned v∧∃(v0:Value)(c0:List Value),v=v0∧Els (RI .u8) 1 r c0∧Iv w0 (row 5 1 u0 x0.length k0).foot μ μ [row 5 1 v0 r.length c0] w'):=by
 refine enter Tryz.func27 rfl Tryz.ntmps27 rfl fun a hA=>?_
 have hI:=ho0.start hμ
 have H:=bI H
 refine w_seq fun _ hN1=>w_reg<|sta hA rfl rfl fun a hA=>?_
 refine o_nil<|hN1 _ _<|w_seq fun _ hN2=>w_seq fun _ hN3=>w_reg<|stm hA rfl rfl fun a hA=>?_
 obtain ⟨r1,hr1,H⟩:=bB H
 refine o_callp (u:=.int .i64 r1) cf65 hA rfl hI (q1_Len.c μ _ hI.agr x1 hx1 r1 hr1) rfl fun a w hz1 hI hA=>?_
 refine o_nil<|hN3 _ _<|w_block<|w_seq fun _ hN4=>w_reg<|stp hA (r_eql hA rfl rfl) rfl fun a hA =>
  sta hA rfl rfl fun a hA=>?_
 refine o_nil<|hN4 _ _<|w_cond hA rfl (fun hc1=>?_) (fun hc1=>?_)
 ·obtain ⟨hc1,H⟩:=dT H hc1
  refine w_seq fun _ hN5=>w_reg<|stm hA rfl rfl fun a hA =>
   stm hA rfl rfl fun a hA =>
   stp hA (r_conv U70 U5 hA rfl) rfl fun a hA=>?_
  have hE1:Els (RI .u8) 1 ([IntKind.u8.wrap x1]:List Int) _:=(Els.cons (c:=[[.int .u8 (IntKind.u8.wrap x1)]].flatten) ⟨rfl,(wrap_in _ _)⟩ rfl Els.nil)
  refine o_bsl ([[.int .u8 (IntKind.u8.wrap x1)]].flatten++([])) te5 zr5 U30 hI hA rfl rfl rfl rfl (by kernel_rfl) rfl fun g1 a w hA hI=>?_
  generalize hcs:([[.int .u8 (IntKind.u8.wrap x1)]].flatten++([]):List Value)=cs1 at hE1 hI
  clear hcs
  obtain ⟨hb1,H⟩:=bG H
  have hE3:=hx0.app hE1
  refine o_appG (xs:=(x0:List Int)) (ys:=(([IntKind.u8.wrap x1]:List Int):List Int)) (M:=140737488355328) 1 te5 U30 hI rfl hA rfl rfl (src_row hI (j:=0) rfl) hE1.len (hE1.ones (one_RI _)) hb1 rfl fun v1 a w hA hI =>
   sta hA rfl rfl fun a hA=>?_
  refine o_nil<|hN5 _ _<|w_ret ?_
  obtain rfl:=sJ H
  exact ret1 hA Tryz.results27 rfl ⟨_,rfl,v1,k0++cs1,rfl,hE3,((hI.sl [1] rfl).less (Store.le.refl _) hI.le)⟩
 ·obtain ⟨hc1,H⟩:=dF H hc1
  refine w_seq fun _ hN6=>w_reg<|stp hA (r_eql hA rfl rfl) rfl fun a hA =>
   sta hA rfl rfl fun a hA=>?_
  refine o_nil<|hN6 _ _<|w_cond hA rfl (fun hc2=>?_) (fun hc2=>?_)
  ·obtain ⟨hc2,H⟩:=dT H hc2
   refine w_seq fun _ hN7=>w_reg<|stm hA rfl rfl fun a hA=>?_
   have hE4:Els (RI .u8) 1 ([253]:List Int) _:=(Els.cons (c:=[[.int .u8 253]].flatten) ⟨rfl,(in_lit .u8 253 rfl)⟩ rfl Els.nil)
   refine o_bsl ([[.int .u8 253]].flatten++([])) te5 zr5 U30 hI hA rfl rfl rfl rfl (by kernel_rfl) rfl fun g2 a w hA hI=>?_
   generalize hcs:([[.int .u8 253]].flatten++([]):List Value)=cs4 at hE4 hI
   clear hcs
   obtain ⟨hb2,H⟩:=bG H
   have hE6:=hx0.app hE4
   refine o_appG (xs:=(x0:List Int)) (ys:=(([253]:List Int):List Int)) (M:=140737488355328) 1 te5 U30 hI rfl hA rfl rfl (src_row hI (j:=0) rfl) hE4.len (hE4.ones (one_RI _)) hb2 rfl fun v2 a w hA hI =>
    stm hA rfl rfl fun a hA=>?_
   obtain ⟨r2,hr2,H⟩:=bB H
   refine o_call _ cf66 hA rfl (q1_little.c μ _ hI.agr (x0++([253]:List Int)) v2 (k0++cs4) hE6 (hI.item (j:=1) rfl) x1 hx1 2 (in_lit .i64 2 rfl) r2 hr2) rfl fun v3 a w hz2 hA=>?_
   obtain ⟨_,cs7,rfl,hE7,hi1⟩:=hz2
   have hI:=hI.call1 1 rfl hi1
   refine sta hA rfl rfl fun a hA=>?_
   refine o_nil<|hN7 _ _<|w_ret ?_
   obtain rfl:=sJ H
   exact ret1 hA Tryz.results27 rfl ⟨_,rfl,v3,cs7,rfl,hE7,((hI.sl [0] rfl).less (Store.le.refl _) hI.le)⟩
  ·obtain ⟨hc2,H⟩:=dF H hc2
   refine w_seq fun _ hN8=>w_reg<|stp hA (r_eql hA rfl rfl) rfl fun a hA =>
    sta hA rfl rfl fun a hA=>?_
   refine o_nil<|hN8 _ _<|w_cond hA rfl (fun hc3=>?_) (fun hc3=>?_)
   ·obtain ⟨hc3,H⟩:=dT H hc3
    refine w_seq fun _ hN9=>w_reg<|stm hA rfl rfl fun a hA=>?_
    have hE8:Els (RI .u8) 1 ([254]:List Int) _:=(Els.cons (c:=[[.int .u8 254]].flatten) ⟨rfl,(in_lit .u8 254 rfl)⟩ rfl Els.nil)
    refine o_bsl ([[.int .u8 254]].flatten++([])) te5 zr5 U30 hI hA rfl rfl rfl rfl (by kernel_rfl) rfl fun g3 a w hA hI=>?_
    generalize hcs:([[.int .u8 254]].flatten++([]):List Value)=cs8 at hE8 hI
    clear hcs
    obtain ⟨hb3,H⟩:=bG H
    have hE10:=hx0.app hE8
    refine o_appG (xs:=(x0:List Int)) (ys:=(([254]:List Int):List Int)) (M:=140737488355328) 1 te5 U30 hI rfl hA rfl rfl (src_row hI (j:=0) rfl) hE8.len (hE8.ones (one_RI _)) hb3 rfl fun v4 a w hA hI =>
     stm hA rfl rfl fun a hA=>?_
    obtain ⟨r3,hr3,H⟩:=bB H
    refine o_call _ cf66 hA rfl (q1_little.c μ _ hI.agr (x0++([254]:List Int)) v4 (k0++cs8) hE10 (hI.item (j:=1) rfl) x1 hx1 4 (in_lit .i64 4 rfl) r3 hr3) rfl fun v5 a w hz3 hA=>?_
    obtain ⟨_,cs11,rfl,hE11,hi2⟩:=hz3
    have hI:=hI.call1 1 rfl hi2
    refine sta hA rfl rfl fun a hA=>?_
    refine o_nil<|hN9 _ _<|w_ret ?_
    obtain rfl:=sJ H
    exact ret1 hA Tryz.results27 rfl ⟨_,rfl,v5,cs11,rfl,hE11,((hI.sl [0] rfl).less (Store.le.refl _) hI.le)⟩
   ·obtain ⟨hc3,H⟩:=dF H hc3
    refine w_skip<|hN2 _ _<|w_seq fun _ hN10=>w_reg<|stm hA rfl rfl fun a hA=>?_
    have hE12:Els (RI .u8) 1 ([255]:List Int) _:=(Els.cons (c:=[[.int .u8 255]].flatten) ⟨rfl,(in_lit .u8 255 rfl)⟩ rfl Els.nil)
    refine o_bsl ([[.int .u8 255]].flatten++([])) te5 zr5 U30 hI hA rfl rfl rfl rfl (by kernel_rfl) rfl fun g4 a w hA hI=>?_
    generalize hcs:([[.int .u8 255]].flatten++([]):List Value)=cs12 at hE12 hI
    clear hcs
    obtain ⟨hb4,H⟩:=bG H
    have hE14:=hx0.app hE12
    refine o_appG (xs:=(x0:List Int)) (ys:=(([255]:List Int):List Int)) (M:=140737488355328) 1 te5 U30 hI rfl hA rfl rfl (src_row hI (j:=0) rfl) hE12.len (hE12.ones (one_RI _)) hb4 rfl fun v6 a w hA hI =>
     stm hA rfl rfl fun a hA=>?_
    obtain ⟨r4,hr4,H⟩:=bB H
    refine o_call _ cf66 hA rfl (q1_little.c μ _ hI.agr (x0++([255]:List Int)) v6 (k0++cs12) hE14 (hI.item (j:=1) rfl) x1 hx1 8 (in_lit .i64 8 rfl) r4 hr4) rfl fun v7 a w hz4 hA=>?_
    obtain ⟨_,cs15,rfl,hE15,hi3⟩:=hz4
    have hI:=hI.call1 1 rfl hi3
    refine sta hA rfl rfl fun a hA=>?_
    refine o_nil<|hN10 _ _<|w_ret ?_
    obtain rfl:=sJ H
    exact ret1 hA Tryz.results27 rfl ⟨_,rfl,v7,cs15,rfl,hE15,((hI.sl [0] rfl).less (Store.le.refl _) hI.le)⟩
theorem q1_Four.c (μ:Store)(w0:World)(hμ:Agr μ w0)(x0:List Int)(u0:Value)(k0:List Value)(hx0:Els (RI .u8) 1 x0 k0)(ho0:RowOK μ w0 5 1 u0 x0.length k0)(x1:Int)(hx1:InR .u32 x1)(r:List Int)(H:q1_Four.f x0 x1=some r) :
  Calls Tryz.prog 67 [u0,.int .u32 x1].toArray w0 (fun e w'=>∃ v,e=.returned v∧∃(v0:Value)(c0:List Value),v=v0∧Els (RI .u8) 1 r c0∧Iv w0 (row 5 1 u0 x0.length k0).foot μ μ [row 5 1 v0 r.length c0] w'):=by
 refine enter Tryz.func67 rfl Tryz.ntmps67 rfl fun a hA=>?_
 have hI:=ho0.start hμ
 have H:=bI H
 refine w_seq fun _ hN1=>w_reg<|sta hA rfl rfl fun a hA=>?_
 refine o_nil<|hN1 _ _<|w_seq fun _ hN2=>w_reg<|stm hA rfl rfl fun a hA =>
  stm hA rfl rfl fun a hA =>
  stp hA (r_conv U22 U70 hA rfl) rfl fun a hA=>?_
 obtain ⟨r1,hr1,H⟩:=bB H
 refine o_call _ cf66 hA rfl (q1_little.c μ _ hI.agr x0 u0 k0 hx0 (hI.item (j:=0) rfl) (IntKind.u64.wrap x1) (wrap_in _ _) 4 (in_lit .i64 4 rfl) r1 hr1) rfl fun v1 a w hz1 hA=>?_
 obtain ⟨_,cs1,rfl,hE1,hi1⟩:=hz1
 have hI:=hI.call1 0 rfl hi1
 refine sta hA rfl rfl fun a hA=>?_
 refine o_nil<|hN2 _ _<|w_ret ?_
 obtain rfl:=sJ H
 exact ret1 hA Tryz.results67 rfl ⟨_,rfl,v1,cs1,rfl,hE1,(hI.less (Store.le.refl _) hI.le)⟩
theorem q1_Eight.c (μ:Store)(w0:World)(hμ:Agr μ w0)(x0:List Int)(u0:Value)(k0:List Value)(hx0:Els (RI .u8) 1 x0 k0)(ho0:RowOK μ w0 5 1 u0 x0.length k0)(x1:Int)(hx1:InR .u64 x1)(r:List Int)(H:q1_Eight.f x0 x1=some r) :
  Calls Tryz.prog 68 [u0,.int .u64 x1].toArray w0 (fun e w'=>∃ v,e=.returned v∧∃(v0:Value)(c0:List Value),v=v0∧Els (RI .u8) 1 r c0∧Iv w0 (row 5 1 u0 x0.length k0).foot μ μ [row 5 1 v0 r.length c0] w'):=by
 refine enter Tryz.func68 rfl Tryz.ntmps68 rfl fun a hA=>?_
 have hI:=ho0.start hμ
 have H:=bI H
 refine w_seq fun _ hN1=>w_reg<|sta hA rfl rfl fun a hA=>?_
 refine o_nil<|hN1 _ _<|w_seq fun _ hN2=>w_reg<|stm hA rfl rfl fun a hA =>
  stm hA rfl rfl fun a hA=>?_
 obtain ⟨r1,hr1,H⟩:=bB H
 refine o_call _ cf66 hA rfl (q1_little.c μ _ hI.agr x0 u0 k0 hx0 (hI.item (j:=0) rfl) x1 hx1 8 (in_lit .i64 8 rfl) r1 hr1) rfl fun v1 a w hz1 hA=>?_
 obtain ⟨_,cs1,rfl,hE1,hi1⟩:=hz1
 have hI:=hI.call1 0 rfl hi1
 refine sta hA rfl rfl fun a hA=>?_
 refine o_nil<|hN2 _ _<|w_ret ?_
 obtain rfl:=sJ H
 exact ret1 hA Tryz.results68 rfl ⟨_,rfl,v1,cs1,rfl,hE1,(hI.less (Store.le.refl _) hI.le)⟩
theorem compact_Read.c (μ:Store)(w0:World)(hμ:Agr μ w0)(x0:List Int)(u0:Value)(hx0:Slc (RI .u8) 1 μ u0 x0)(r:cRd)(H:compact_Read.f x0=some r) :
  Calls Tryz.prog 30 [u0].toArray w0 (fun e w'=>∃ v,e=.returned v∧∃(gq_1:Nat)(vp_1 vp_2:Value)(μ':Store),v=pt gq_1 0∧Slc (RI .u8) 1 μ' vp_1 r.b∧InR .i64 r.at_∧ErS μ' vp_2 r.err∧Iv w0 [] μ μ' [cel gq_1 [[vp_1],[.int .i64 r.at_],[vp_2]] 109] w'):=by
 refine enter Tryz.func30 rfl Tryz.ntmps30 rfl fun a hA=>?_
 have hI:=Iv.start hμ
 have H:=bI H
 refine w_seq fun _ hN1=>w_reg<|sta hA rfl rfl fun a hA=>?_
 refine o_nil<|hN1 _ _<|w_seq fun _ hN2=>w_reg<|stm hA rfl rfl fun a hA=>?_
 obtain ⟨r1,hr1,H⟩:=bB H
 refine o_call _ cf69 hA rfl (bytes_Clone.c μ _ hI.agr x0 u0 hx0 r1 hr1) rfl fun v1 a w hz1 hA=>?_
 obtain ⟨_,cs1,rfl,hE1,hi1⟩:=hz1
 have hI:=hI.call hi1
 refine stp hA (r_bldS (cs:=[[v1],[.int .i64 0],[.nilIface]].flatten.toArray) (pl:=[(0,1),(1,1),(2,1)]) zr109 U109 ⟨rfl,sz30,rfl,sz3,rfl,sz35,trivial⟩ hA rfl ((fill_one (own_cell hI (j:=0) rfl) rfl (by kernel_rfl)).trans (by kernel_rfl))) rfl fun a hA =>
  o_box [[v1],[.int .i64 0],[.nilIface]] hI hA rfl rfl rfl fun g1 a w hA hI hg1 =>
  sta hA rfl rfl fun a hA=>?_
 refine o_nil<|hN2 _ _<|w_ret ?_
 obtain ⟨μ1,hle1,hsv1,hI⟩:=hI.freezeRow 1 rfl
 have hS1:Slc (RI .u8) 1 μ1 v1 r1:=⟨_,hE1,hsv1⟩
 obtain rfl:=sJ H
 exact ret1 hA Tryz.results30 rfl ⟨_,rfl,g1,v1,.nilIface,μ1,rfl,hS1,(in_lit .i64 0 rfl),erv_nil,hI⟩
theorem cR_Err.c (μ:Store)(w0:World)(hμ:Agr μ w0)(x0:cRd)(vp1 vp2:Value)(g0:Nat)(hp1:Slc (RI .u8) 1 μ vp1 x0.b)(hp2:InR .i64 x0.at_)(hp3:ErS μ vp2 x0.err)(ho0:Its μ w0 [cel g0 [[vp1],[.int .i64 x0.at_],[vp2]] 109])(r:Er)(H:cR_Err.f x0=some r) :
  Calls Tryz.prog 34 [pt g0 0].toArray w0 (fun e w'=>∃ v,e=.returned v∧∃(v0:Value)(μ':Store),v=v0∧ErS μ' v0 r∧Iv w0 (many [cel g0 [[vp1],[.int .i64 x0.at_],[vp2]] 109]).foot μ μ' [cel g0 [[vp1],[.int .i64 x0.at_],[vp2]] 109] w'):=by
 refine enter Tryz.func34 rfl Tryz.ntmps34 rfl fun a hA=>?_
 have hI:=Iv.startN hμ ho0
 have H:=bI H
 refine w_seq fun _ hN1=>w_reg<|sta hA rfl rfl fun a hA=>?_
 refine o_nil<|hN1 _ _<|w_seq fun _ hN2=>w_reg<|stm hA rfl rfl fun a hA =>
  stp hA (r_nilc hA rfl) rfl fun a hA =>
  stp hA (r_fd (k:=2) U109 rfl sz35 hA rfl rfl) rfl fun a hA =>
  stp hA (r_ld1 (j:=0) [[vp1],[.int .i64 x0.at_]] [] U35 rfl hI rfl hA rfl rfl) rfl fun a hA =>
  sta hA rfl rfl fun a hA=>?_
 refine o_nil<|hN2 _ _<|w_ret ?_
 obtain rfl:=sJ H
 exact ret1 hA Tryz.results34 rfl ⟨_,rfl,vp2,μ,rfl,hp3,hI⟩
theorem cR_next.c (μ:Store)(w0:World)(hμ:Agr μ w0)(x0:cRd)(vp1 vp2:Value)(g0:Nat)(hp1:Slc (RI .u8) 1 μ vp1 x0.b)(hp2:InR .i64 x0.at_)(hp3:ErS μ vp2 x0.err)(ho0:Its μ w0 [cel g0 [[vp1],[.int .i64 x0.at_],[vp2]] 109])(x1:Int)(hx1:InR .i64 x1)(e9:Value)(he9:ErS μ e9 (Er.b 10))(r:(List Int)×cRd)(H:cR_next.f x0 x1=some r) :
  Calls Tryz.prog 102 [pt g0 0,.int .i64 x1].toArray w0 (fun e w'=>∃ v,e=.returned v∧∃(v0 vp_1 vp_2:Value)(μ':Store),v=v0∧Slc (RI .u8) 1 μ' v0 (r.1)∧Slc (RI .u8) 1 μ' vp_1 (r.2).b∧InR .i64 (r.2).at_∧ErS μ' vp_2 (r.2).err∧Iv w0 (many [cel g0 [[vp1],[.int .i64 x0.at_],[vp2]] 109]).foot μ μ' [cel g0 [[vp_1],[.int .i64 ((r.2).at_)],[vp_2]] 109] w'):=by
 refine enter Tryz.func102 rfl Tryz.ntmps102 rfl fun a hA=>?_
 have hI:=Iv.startN hμ ho0
 have H:=bI H
 refine w_seq fun _ hN1=>w_reg<|sta hA rfl rfl fun a hA=>?_
 refine o_nil<|hN1 _ _<|w_seq fun _ hN2=>w_seq fun _ hN3=>w_reg<|stm hA rfl rfl fun a hA =>
  stp hA (r_nilc hA rfl) rfl fun a hA =>
  stp hA (r_fd (k:=2) U109 rfl sz35 hA rfl rfl) rfl fun a hA =>
  stp hA (r_ld1 (j:=0) [[vp1],[.int .i64 x0.at_]] [] U35 rfl hI rfl hA rfl rfl) rfl fun a hA =>
  stp hA (r_neE erF hI.agr hp3 erv_nil (.inl ⟨.inr ⟨_,rfl⟩,Er.fitR⟩) hA rfl rfl) rfl fun a hA=>?_
 refine o_nil<|hN3 _ _<|w_cond hA rfl (fun hc1=>?_) (fun hc1=>?_)
 ·obtain ⟨hc1,H⟩:=dT H hc1
  refine w_seq fun _ hN4=>w_reg<|sta hA rfl rfl fun a hA=>?_
  refine o_nil<|hN4 _ _<|w_ret ?_
  obtain rfl:=sJ H
  exact ret1 hA Tryz.results102 rfl ⟨_,rfl,Sn,vp1,vp2,μ,rfl,(slc_nil _ _ _),hp1,hp2,hp3,hI⟩
 ·obtain ⟨hc1,H⟩:=dF H hc1
  refine w_skip<|hN2 _ _<|w_seq fun _ hN5=>w_seq fun _ hN6=>?_
  refine w_draw mo (by kernel_rfl) hI ?_
  refine qtp hA (fun _ hI=>r_mv hA rfl) rfl fun a hA =>
   qtp hA (fun _ hI=>r_mv hA rfl) rfl fun a hA =>
   qtp hA (fun _ hI=>r_nilc hA rfl) rfl fun a hA =>
   qtp hA (fun _ hI=>r_fd (k:=0) U109 rfl sz30 hA rfl rfl) rfl fun a hA =>
   qtp hA (fun _ hI=>r_ld1 (j:=0) [] [[.int .i64 x0.at_],[vp2]] U30 rfl hI rfl hA rfl rfl) rfl fun a hA=>?_
  obtain ⟨_,hsl1⟩:=Slc.sv hp1
  refine qtp hA (fun _ hI=>r_slen U30 hsl1 hA rfl) rfl fun a hA =>
   qtp hA (fun _ hI=>r_mv hA rfl) rfl fun a hA =>
   qtp hA (fun _ hI=>r_nilc hA rfl) rfl fun a hA =>
   qtp hA (fun _ hI=>r_fd (k:=1) U109 rfl sz3 hA rfl rfl) rfl fun a hA =>
   qtp hA (fun _ hI=>r_ld1 (j:=0) [[vp1]] [[vp2]] U3 rfl hI rfl hA rfl rfl) rfl fun a hA =>
   qtp hA (fun _ hI=>r_sub hA rfl rfl) rfl fun a hA =>
   qtp hA (fun _ hI=>r_gtr hA rfl rfl) rfl fun a hA=>?_
  refine q_nil fun w hI=>?_
  refine hN6 _ _<|w_cond hA rfl (fun hc2=>?_) (fun hc2=>?_)
  ·obtain ⟨hc2,H⟩:=dT H hc2
   refine w_seq fun _ hN7=>w_reg<|stm hA rfl rfl fun a hA =>
    stp hA (r_ldG U35 rfl hI.agr he9 hA) rfl fun a hA =>
    stp hA (r_nilc hA rfl) rfl fun a hA =>
    stp hA (r_fd (k:=2) U109 rfl sz35 hA rfl rfl) rfl fun a hA=>?_
   have hsc:ErS μ e9 xErrEnd:=he9
   refine o_st (j:=0) [[vp1],[.int .i64 x0.at_]] [[vp2]] [[e9]] [] sz35 rfl rfl (by intro c hc;simp at hc;subst hc;exact ErV.one hsc) hI rfl hA rfl rfl (cells_err hsc) rfl fun w hI=>?_
   refine o_nil<|hN7 _ _<|w_seq fun _ hN8=>w_reg<|sta hA rfl rfl fun a hA=>?_
   refine o_nil<|hN8 _ _<|w_ret ?_
   obtain rfl:=sJ H
   exact ret1 hA Tryz.results102 rfl ⟨_,rfl,Sn,vp1,e9,μ,rfl,(slc_nil _ _ _),hp1,hp2,he9,hI⟩
  ·obtain ⟨hc2,H⟩:=dF H hc2
   refine w_skip<|hN5 _ _<|w_seq fun _ hN9=>w_reg<|stm hA rfl rfl fun a hA =>
    stp hA (r_nilc hA rfl) rfl fun a hA =>
    stp hA (r_fd (k:=1) U109 rfl sz3 hA rfl rfl) rfl fun a hA =>
    stp hA (r_ld1 (j:=0) [[vp1]] [[vp2]] U3 rfl hI rfl hA rfl rfl) rfl fun a hA =>
    stm hA rfl rfl fun a hA =>
    stp hA (r_add hA rfl rfl) rfl fun a hA =>
    stp hA (r_nilc hA rfl) rfl fun a hA =>
    stp hA (r_fd (k:=1) U109 rfl sz3 hA rfl rfl) rfl fun a hA =>
    o_st (j:=0) [[vp1]] [[.int .i64 x0.at_]] [[.int .i64 (IntKind.i64.wrap (x0.at_+x1))]] [[vp2]] sz3 rfl rfl (fO rfl fl_nil) hI rfl hA rfl rfl rfl rfl fun w hI=>?_
   refine o_nil<|hN9 _ _<|w_seq fun _ hN10=>?_
   refine w_draw mo (by kernel_rfl) hI ?_
   refine qtp hA (fun _ hI=>r_mv hA rfl) rfl fun a hA =>
    qtp hA (fun _ hI=>r_nilc hA rfl) rfl fun a hA =>
    qtp hA (fun _ hI=>r_fd (k:=0) U109 rfl sz30 hA rfl rfl) rfl fun a hA =>
    qtp hA (fun _ hI=>r_ld1 (j:=0) [] [[.int .i64 (IntKind.i64.wrap (x0.at_+x1))],[vp2]] U30 rfl hI rfl hA rfl rfl) rfl fun a hA =>
    qtp hA (fun _ hI=>r_mv hA rfl) rfl fun a hA =>
    qtp hA (fun _ hI=>r_nilc hA rfl) rfl fun a hA =>
    qtp hA (fun _ hI=>r_fd (k:=1) U109 rfl sz3 hA rfl rfl) rfl fun a hA =>
    qtp hA (fun _ hI=>r_ld1 (j:=0) [[vp1]] [[vp2]] U3 rfl hI rfl hA rfl rfl) rfl fun a hA =>
    qtp hA (fun _ hI=>r_mv hA rfl) rfl fun a hA =>
    qtp hA (fun _ hI=>r_sub hA rfl rfl) rfl fun a hA =>
    qtp hA (fun _ hI=>r_mv hA rfl) rfl fun a hA =>
    qtp hA (fun _ hI=>r_nilc hA rfl) rfl fun a hA =>
    qtp hA (fun _ hI=>r_fd (k:=1) U109 rfl sz3 hA rfl rfl) rfl fun a hA =>
    qtp hA (fun _ hI=>r_ld1 (j:=0) [[vp1]] [[vp2]] U3 rfl hI rfl hA rfl rfl) rfl fun a hA=>?_
   obtain ⟨hb1,H⟩:=bG H
   obtain ⟨v1,hS1,hr1⟩:=r_sl (P:=Tryz.prog) (t:=30) (x:=.tmp 37) (l:=(some (.tmp 43))) (h:=(some (.tmp 47))) (i:=IntKind.i64.wrap ((IntKind.i64.wrap (x0.at_+x1)) - x1)) (j:=IntKind.i64.wrap (x0.at_+x1)) U30 sz5 hp1 hA rfl rfl rfl (by have hq:=hb1;omega) (by have hq:=hb1;omega) (by have hq:=hb1;omega)
   refine qtp hA (fun _ hI=>hr1 _ _ _ _ _ _) rfl fun a hA =>
    qtp hA (fun _ hI=>r_as hA rfl) rfl fun a hA=>?_
   refine q_nil fun w hI=>?_
   refine hN10 _ _<|w_ret ?_
   obtain rfl:=sJ H
   exact ret1 hA Tryz.results102 rfl ⟨_,rfl,v1,vp1,vp2,μ,rfl,hS1,hp1,(wrap_in _ _),hp3,hI⟩
theorem cR_whole.c (μ:Store)(w0:World)(hμ:Agr μ w0)(x0:cRd)(vp1 vp2:Value)(g0:Nat)(hp1:Slc (RI .u8) 1 μ vp1 x0.b)(hp2:InR .i64 x0.at_)(hp3:ErS μ vp2 x0.err)(ho0:Its μ w0 [cel g0 [[vp1],[.int .i64 x0.at_],[vp2]] 109])(x1:Int)(hx1:InR .i64 x1)(e9:Value)(he9:ErS μ e9 (Er.b 10))(r:Int×cRd)(H:cR_whole.f x0 x1=some r) :
  Calls Tryz.prog 72 [pt g0 0,.int .i64 x1].toArray w0 (fun e w'=>∃ v,e=.returned v∧∃(vp_1 vp_2:Value)(μ':Store),v=.int .u64 (r.1)∧InR .u64 (r.1)∧Slc (RI .u8) 1 μ' vp_1 (r.2).b∧InR .i64 (r.2).at_∧ErS μ' vp_2 (r.2).err∧Iv w0 (many [cel g0 [[vp1],[.int .i64 x0.at_],[vp2]] 109]).foot μ μ' [cel g0 [[vp_1],[.int .i64 ((r.2).at_)],[vp_2]] 109] w'):=by
 refine enter Tryz.func72 rfl Tryz.ntmps72 rfl fun a hA=>?_
 have hI:=Iv.startN hμ ho0
 have H:=bI H
 refine w_seq fun _ hN1=>w_reg<|sta hA rfl rfl fun a hA=>?_
 refine o_nil<|hN1 _ _<|w_seq fun _ hN2=>w_reg<|sta hA rfl rfl fun a hA=>?_
 refine o_nil<|hN2 _ _ ?_
 obtain ⟨⟨c1,c2,c3,c4⟩,hz1,Hk1⟩:=bB H
 refine w_cut (fun a w=>∃(μ1:Store)(vvc2 vvc4:Value),μ.le μ1∧InR .u64 c1∧Slc (RI .u8) 1 μ1 vvc2 c2∧InR .i64 c3∧ErS μ1 vvc4 c4∧Fr a 26 [(4,.int .u64 0),(5,.int .u64 c1)]∧Iv w0 (many [cel g0 [[vp1],[.int .i64 x0.at_],[vp2]] 109]).foot μ μ1 [cel g0 [[vvc2],[.int .i64 c3],[vvc4]] 109] w) ?_ ?_
 ·have H:=bI hz1
  refine w_seq fun _ hN3=>w_reg<|stm hA rfl rfl fun a hA =>
   stm hA rfl rfl fun a hA=>?_
  obtain ⟨r1,hr1,H⟩:=bB H
  refine o_call _ cf102 hA rfl (cR_next.c μ _ hI.agr x0 vp1 vp2 g0 hp1 hp2 hp3 (hI.handN 1) x1 hx1 e9 he9 r1 hr1) rfl fun v1 a w hz2 hA=>?_
  obtain ⟨_,vp3,vp4,μ2,rfl,hS1,hp4,hp5,hp6,hi1⟩:=hz2
  have hI:=hI.back1 hi1
  obtain ⟨_,hsl1⟩:=Slc.sv hS1
  refine stp hA (r_slen U30 hsl1 hA rfl) rfl fun a hA =>
   stm hA rfl rfl fun a hA=>?_
  refine o_nil<|hN3 _ _<|w_block ?_
  obtain ⟨z1,hz3,Hk2⟩:=bind_some H
  obtain ⟨n1,hn1⟩:=loopO_some hz3
  refine w_loop (fun n a w=>∃(s1 s2:Int),loopN (cR_whole.s0 r1) n (s1,s2)=some z1∧InR .u64 s1∧InR .i64 s2∧Fr a 26 [(4,.int .u64 0),(5,.int .u64 s1),(10,v1),(11,.int .i64 (r1.1.length:Int)),(12,.int .i64 s2)]∧Iv w0 (many [cel g0 [[vp1],[.int .i64 x0.at_],[vp2]] 109]).foot μ μ2 [cel g0 [[vp3],[.int .i64 r1.2.at_],[vp4]] 109] w) n1 ⟨0,0,hn1,(in_lit .u64 0 rfl),(in_lit .i64 0 rfl),hA.sub ⟨rfl,rfl,rfl,rfl,rfl,trivial⟩,hI⟩ ?_
  clear hA hI
  rintro n a w ⟨s1,s2,hn1,ws1,ws2,hA,hI⟩
  obtain ⟨m1,rfl,H⟩:=loopN_bind hn1
  clear hn1
  refine w_seq fun _ hN4=>w_reg<|stp hA (r_lss hA rfl rfl) rfl fun a hA=>?_
  refine o_nil<|hN4 _ _<|w_seq fun _ hN5=>w_cond hA rfl (fun hc1=>?_) (fun hc1=>?_)
  ·obtain ⟨hc1,H⟩:=dT H hc1
   refine w_skip<|hN5 _ _<|w_seq fun _ hN6=>w_block<|w_seq fun _ hN7=>w_reg<|stm hA rfl rfl fun a hA=>?_
   obtain ⟨hb1,H⟩:=bG H
   obtain ⟨_,he1,_,hat1⟩:=Slc.elem1 hS1 (getD_some 0 hb1.1 hb1.2)
   obtain ⟨rfl,hw1⟩:=he1
   obtain ⟨_,hsl2⟩:=Slc.sv hS1
   refine stp hA (r_six1 U30 sz5 hsl2 hA rfl rfl hb1.1 hb1.2) rfl fun a hA =>
    stp hA (r_ldm1 [] [] U5 rfl hI.agr hat1 hA rfl rfl) rfl fun a hA =>
    sta hA rfl rfl fun a hA =>
    sta hA rfl rfl fun a hA=>?_
   refine o_nil<|hN7 _ _<|w_reg<|stm hA rfl rfl fun a hA =>
    stm hA rfl rfl fun a hA =>
    stp hA (r_conv U5 U70 hA rfl) rfl fun a hA =>
    stm hA rfl rfl fun a hA =>
    stp hA (r_mul hA rfl rfl) rfl fun a hA=>?_
   obtain ⟨hb2,H⟩:=bG H
   refine stp hA (r_shl hA rfl rfl hb2) rfl fun a hA =>
    stp hA (r_or hA rfl rfl) rfl fun a hA =>
    sta hA rfl rfl fun a hA=>?_
   refine o_nil<|hN6 _ _<|w_reg<|stp hA (r_add hA rfl rfl) rfl fun a hA =>
    stm hA rfl rfl fun a hA=>?_
   refine o_nil<|⟨m1,lS _,bOr .u64 s1 (sL .u64 (IntKind.u64.wrap (r1.1.getD s2.toNat 0)) (IntKind.i64.wrap (8 * s2))),IntKind.i64.wrap (s2+1),H,(wrap_in _ _),(wrap_in _ _),hA.sub ⟨rfl,rfl,rfl,rfl,rfl,trivial⟩,hI⟩
  ·obtain ⟨hc1,H⟩:=dF H hc1
   refine w_exit rfl ?_
   have H:some (s1,r1.2.b,r1.2.at_,r1.2.err)=some z1:=H
   obtain rfl:=sI H
   have H:=Hk2
   cases sJ H
   exact ⟨μ2,vp3,vp4,hi1.le,ws1,hp4,hp5,hp6,hA.sub ⟨rfl,rfl,trivial⟩,hI⟩
 ·rintro a w ⟨μ1,vvc2,vvc4,hle1,wc1,wc2,wc3,wc4,hA,hI⟩
  have H:=Hk1
  refine w_seq fun _ hN8=>w_reg<|stm hA rfl rfl fun a hA =>
   sta hA rfl rfl fun a hA=>?_
  refine o_nil<|hN8 _ _<|w_ret ?_
  obtain rfl:=sJ H
  exact ret1 hA Tryz.results72 rfl ⟨_,rfl,vvc2,vvc4,μ1,rfl,wc1,wc2,wc3,wc4,hI⟩
theorem cR_Four.c (μ:Store)(w0:World)(hμ:Agr μ w0)(x0:cRd)(vp1 vp2:Value)(g0:Nat)(hp1:Slc (RI .u8) 1 μ vp1 x0.b)(hp2:InR .i64 x0.at_)(hp3:ErS μ vp2 x0.err)(ho0:Its μ w0 [cel g0 [[vp1],[.int .i64 x0.at_],[vp2]] 109])(e9:Value)(he9:ErS μ e9 (Er.b 10))(r:Int×cRd)(H:cR_Four.f x0=some r) :
  Calls Tryz.prog 70 [pt g0 0].toArray w0 (fun e w'=>∃ v,e=.returned v∧∃(vp_1 vp_2:Value)(μ':Store),v=.int .u32 (r.1)∧InR .u32 (r.1)∧Slc (RI .u8) 1 μ' vp_1 (r.2).b∧InR .i64 (r.2).at_∧ErS μ' vp_2 (r.2).err∧Iv w0 (many [cel g0 [[vp1],[.int .i64 x0.at_],[vp2]] 109]).foot μ μ' [cel g0 [[vp_1],[.int .i64 ((r.2).at_)],[vp_2]] 109] w'):=by
 refine enter Tryz.func70 rfl Tryz.ntmps70 rfl fun a hA=>?_
 have hI:=Iv.startN hμ ho0
 have H:=bI H
 refine w_seq fun _ hN1=>w_reg<|sta hA rfl rfl fun a hA=>?_
 refine o_nil<|hN1 _ _<|w_seq fun _ hN2=>w_reg<|stm hA rfl rfl fun a hA=>?_
 obtain ⟨r1,hr1,H⟩:=bB H
 refine o_call _ cf72 hA rfl (cR_whole.c μ _ hI.agr x0 vp1 vp2 g0 hp1 hp2 hp3 (hI.handN 1) 4 (in_lit .i64 4 rfl) e9 he9 r1 hr1) rfl fun v1 a w hz1 hA=>?_
 obtain ⟨vp3,vp4,μ1,rfl,hw1,hp4,hp5,hp6,hi1⟩:=hz1
 have hI:=hI.back1 hi1
 refine stp hA (r_conv U70 U22 hA rfl) rfl fun a hA =>
  sta hA rfl rfl fun a hA=>?_
 refine o_nil<|hN2 _ _<|w_ret ?_
 obtain rfl:=sJ H
 exact ret1 hA Tryz.results70 rfl ⟨_,rfl,vp3,vp4,μ1,rfl,(wrap_in _ _),hp4,hp5,hp6,hI⟩
theorem cR_Hash.c (μ:Store)(w0:World)(hμ:Agr μ w0)(x0:cRd)(vp1 vp2:Value)(g0:Nat)(hp1:Slc (RI .u8) 1 μ vp1 x0.b)(hp2:InR .i64 x0.at_)(hp3:ErS μ vp2 x0.err)(ho0:Its μ w0 [cel g0 [[vp1],[.int .i64 x0.at_],[vp2]] 109])(e9:Value)(he9:ErS μ e9 (Er.b 10))(r:(List Int)×cRd)(H:cR_Hash.f x0=some r) :
  Calls Tryz.prog 71 [pt g0 0].toArray w0 (fun e w'=>∃ v,e=.returned v∧∃(vp_1 vp_2:Value)(μ':Store),v=.agg [av .u8 32 (r.1)].flatten.toArray∧Arr .u8 32 (r.1)∧Slc (RI .u8) 1 μ' vp_1 (r.2).b∧InR .i64 (r.2).at_∧ErS μ' vp_2 (r.2).err∧Iv w0 (many [cel g0 [[vp1],[.int .i64 x0.at_],[vp2]] 109]).foot μ μ' [cel g0 [[vp_1],[.int .i64 ((r.2).at_)],[vp_2]] 109] w'):=by
 refine enter Tryz.func71 rfl Tryz.ntmps71 rfl fun a hA=>?_
 have hI:=Iv.startN hμ ho0
 have H:=bI H
 refine w_seq fun _ hN1=>w_reg<|o_new [av .u8 32 Z32] zr24 hI hA rfl fun g1 a w hA hI hg1=>?_
 refine o_nil<|hN1 _ _<|w_seq fun _ hN2=>w_reg<|o_new [av .u8 32 Z32] zr24 hI hA rfl fun g2 a w hA hI hg2=>?_
 refine o_nil<|hN2 _ _<|w_seq fun _ hN3=>?_
 refine w_any [2,3] mo hI fun w hI=>?_
 refine gE 0 hA rfl (.inr hI) (fun _=>r_slv (i:=0) (j:=32) U24 sz5 hA rfl rfl rfl (by decide) (by decide) (by decide) (by decide) rfl) fun a hA=>?_
 refine gE 1 hA rfl (.inr hI) (fun _=>r_mv hA rfl) fun a hA=>?_
 refine gF 2 rfl ?_
 obtain ⟨r1,hr1,H⟩:=bB H
 have hI:=hI.sl [2,0,1] rfl
 refine o_call _ cf102 hA rfl (cR_next.c μ _ hI.agr x0 vp1 vp2 g0 hp1 hp2 hp3 (hI.handN 1) 32 (in_lit .i64 32 rfl) e9 he9 r1 hr1) rfl fun v1 a w hz1 hA=>?_
 obtain ⟨_,vp3,vp4,μ1,rfl,hS1,hp4,hp5,hp6,hi1⟩:=hz1
 have hI:=hI.back1 hi1
 refine o_nil<|⟨(.inl (by kernel_rfl)),?_⟩
 refine gF 3 rfl ?_
 have hz2:Slc (RI .u8) 1 μ1 v1 r1.1:=hS1
 refine o_cpy (j:=1) [] [] U30 sz5 (arr_zero _ _) hz2 hI rfl rfl hA rfl rfl rfl fun a w hI hA=>?_
 refine o_nil<|⟨(.inl (by kernel_rfl)),?_⟩
 refine gN<|hN3 _ _<|w_seq fun _ hN4=>w_reg<|stp hA (r_ldA (j:=1) [] [av .u8 32 (cpy Z32 r1.1)] [] U24 rfl sz24 rfl hI rfl hA rfl rfl) rfl fun a hA =>
  o_st (j:=2) [] [av .u8 32 Z32] [av .u8 32 (cpy Z32 r1.1)] [] sz24 rfl rfl (fl_cons (one_av _ _ _) fl_nil) hI rfl hA rfl rfl rfl rfl fun w hI=>?_
 refine o_nil<|hN4 _ _<|w_ret ?_
 obtain rfl:=sJ H
 exact retc U24 rfl sz24 rfl hI (j:=2) rfl hA Tryz.results71 rfl ⟨_,rfl,vp3,vp4,μ1,rfl,(cpy_arr (arr_zero _ _) (Slc.rng hz2)),hp4,hp5,hp6,(hI.sl [0] rfl)⟩
theorem cR_Num.c (μ:Store)(w0:World)(hμ:Agr μ w0)(x0:cRd)(vp1 vp2:Value)(g0:Nat)(hp1:Slc (RI .u8) 1 μ vp1 x0.b)(hp2:InR .i64 x0.at_)(hp3:ErS μ vp2 x0.err)(ho0:Its μ w0 [cel g0 [[vp1],[.int .i64 x0.at_],[vp2]] 109])(x1:Int)(hx1:InR .u64 x1)(e0:Value)(he0:ErS μ e0 (Er.b 1))(e1:Value)(he1:ErS μ e1 (Er.b 2))(e9:Value)(he9:ErS μ e9 (Er.b 10))(r:Int×cRd)(H:cR_Num.f x0 x1=some r) :
  Calls Tryz.prog 32 [pt g0 0,.int .u64 x1].toArray w0 (fun e w'=>∃ v,e=.returned v∧∃(vp_1 vp_2:Value)(μ':Store),v=.int .u64 (r.1)∧InR .u64 (r.1)∧Slc (RI .u8) 1 μ' vp_1 (r.2).b∧InR .i64 (r.2).at_∧ErS μ' vp_2 (r.2).err∧Iv w0 (many [cel g0 [[vp1],[.int .i64 x0.at_],[vp2]] 109]).foot μ μ' [cel g0 [[vp_1],[.int .i64 ((r.2).at_)],[vp_2]] 109] w'):=by
 refine enter Tryz.func32 rfl Tryz.ntmps32 rfl fun a hA=>?_
 have hI:=Iv.startN hμ ho0
 have H:=bI H
 refine w_seq fun _ hN1=>w_reg<|sta hA rfl rfl fun a hA=>?_
 refine o_nil<|hN1 _ _<|w_seq fun _ hN2=>w_reg<|stm hA rfl rfl fun a hA=>?_
 obtain ⟨r1,hr1,H⟩:=bB H
 refine o_call _ cf72 hA rfl (cR_whole.c μ _ hI.agr x0 vp1 vp2 g0 hp1 hp2 hp3 (hI.handN 1) 1 (in_lit .i64 1 rfl) e9 he9 r1 hr1) rfl fun v1 a w hz1 hA=>?_
 obtain ⟨vp3,vp4,μ1,rfl,hw1,hp4,hp5,hp6,hi1⟩:=hz1
 have hI:=hI.back1 hi1
 refine sta hA rfl rfl fun a hA=>?_
 refine o_nil<|hN2 _ _<|w_seq fun _ hN3=>w_reg<|sta hA rfl rfl fun a hA=>?_
 refine o_nil<|hN3 _ _ ?_
 obtain ⟨c1,hz2,Hk1⟩:=bB H
 refine w_cut (fun a w=>InR .i64 c1∧Fr a 46 [(0,pt g0 0),(1,.int .u64 x1),(4,.int .u64 0),(5,.int .u64 r1.1),(6,.int .i64 c1)]∧Iv w0 (many [cel g0 [[vp1],[.int .i64 x0.at_],[vp2]] 109]).foot μ μ1 [cel g0 [[vp3],[.int .i64 r1.2.at_],[vp4]] 109] w) ?_ ?_
 ·have H:=bI hz2
  refine w_seq fun _ hN4=>w_reg<|stm hA rfl rfl fun a hA=>?_
  refine o_nil<|hN4 _ _<|w_block<|w_seq fun _ hN5=>w_reg<|stp hA (r_eql hA rfl rfl) rfl fun a hA =>
   sta hA rfl rfl fun a hA=>?_
  refine o_nil<|hN5 _ _<|w_cond hA rfl (fun hc1=>?_) (fun hc1=>?_)
  ·obtain ⟨hc1,H⟩:=dT H hc1
   refine w_reg<|sta hA rfl rfl fun a hA=>?_
   refine o_nil ?_
   cases sJ H
   exact ⟨(in_lit .i64 2 rfl),hA.sub ⟨rfl,rfl,rfl,rfl,rfl,trivial⟩,hI⟩
  ·obtain ⟨hc1,H⟩:=dF H hc1
   refine w_seq fun _ hN6=>w_reg<|stp hA (r_eql hA rfl rfl) rfl fun a hA =>
    sta hA rfl rfl fun a hA=>?_
   refine o_nil<|hN6 _ _<|w_cond hA rfl (fun hc2=>?_) (fun hc2=>?_)
   ·obtain ⟨hc2,H⟩:=dT H hc2
    refine w_reg<|sta hA rfl rfl fun a hA=>?_
    refine o_nil ?_
    cases sJ H
    exact ⟨(in_lit .i64 4 rfl),hA.sub ⟨rfl,rfl,rfl,rfl,rfl,trivial⟩,hI⟩
   ·obtain ⟨hc2,H⟩:=dF H hc2
    refine w_seq fun _ hN7=>w_reg<|stp hA (r_eql hA rfl rfl) rfl fun a hA =>
     sta hA rfl rfl fun a hA=>?_
    refine o_nil<|hN7 _ _<|w_cond hA rfl (fun hc3=>?_) (fun hc3=>?_)
    ·obtain ⟨hc3,H⟩:=dT H hc3
     refine w_reg<|sta hA rfl rfl fun a hA=>?_
     refine o_nil ?_
     cases sJ H
     exact ⟨(in_lit .i64 8 rfl),hA.sub ⟨rfl,rfl,rfl,rfl,rfl,trivial⟩,hI⟩
    ·obtain ⟨hc3,H⟩:=dF H hc3
     refine w_skip ?_
     cases sJ H
     exact ⟨(in_lit .i64 0 rfl),hA.sub ⟨rfl,rfl,rfl,rfl,rfl,trivial⟩,hI⟩
 ·rintro a w ⟨wc1,hA,hI⟩
  have H:=Hk1
  obtain ⟨⟨c2,c3,c4,c5⟩,hz3,Hk2⟩:=bB H
  refine w_cut (fun a w=>∃(μ2:Store)(vvc3 vvc5:Value),μ1.le μ2∧InR .u64 c2∧Slc (RI .u8) 1 μ2 vvc3 c3∧InR .i64 c4∧ErS μ2 vvc5 c5∧Fr a 46 [(0,pt g0 0),(1,.int .u64 x1),(4,.int .u64 0),(5,.int .u64 c2),(6,.int .i64 c1)]∧Iv w0 (many [cel g0 [[vp1],[.int .i64 x0.at_],[vp2]] 109]).foot μ μ2 [cel g0 [[vvc3],[.int .i64 c4],[vvc5]] 109] w) ?_ ?_
  ·have H:=bI hz3
   refine w_seq fun _ hN8=>w_reg<|stm hA rfl rfl fun a hA =>
    stp hA (r_gtr hA rfl rfl) rfl fun a hA=>?_
   refine o_nil<|hN8 _ _<|w_cond hA rfl (fun hc4=>?_) (fun hc4=>?_)
   ·obtain ⟨hc4,H⟩:=dT H hc4
    refine w_reg<|stm hA rfl rfl fun a hA =>
     stm hA rfl rfl fun a hA=>?_
    obtain ⟨r2,hr2,H⟩:=bB H
    refine o_call _ cf72 hA rfl (cR_whole.c μ1 _ hI.agr r1.2 vp3 vp4 g0 hp4 hp5 hp6 (hI.handN 1) c1 wc1 e9 (ErV.le (fun _ _ h=>h) hi1.le he9) r2 hr2) rfl fun v2 a w hz4 hA=>?_
    obtain ⟨vp5,vp6,μ3,rfl,hw2,hp7,hp8,hp9,hi2⟩:=hz4
    have hI:=hI.back1 hi2
    refine sta hA rfl rfl fun a hA=>?_
    refine o_nil ?_
    cases sJ H
    exact ⟨μ3,vp5,vp6,hi2.le,hw2,hp7,hp8,hp9,hA.sub ⟨rfl,rfl,rfl,rfl,rfl,trivial⟩,hI⟩
   ·obtain ⟨hc4,H⟩:=dF H hc4
    refine w_skip ?_
    cases sJ H
    exact ⟨μ1,vp3,vp4,(Store.le.refl _),hw1,hp4,hp5,hp6,hA.sub ⟨rfl,rfl,rfl,rfl,rfl,trivial⟩,hI⟩
  ·rintro a w ⟨μ2,vvc3,vvc5,hle1,wc2,wc3,wc4,wc5,hA,hI⟩
   have H:=Hk2
   refine w_seq fun _ hN9=>w_block<|w_seq fun _ hN10=>w_reg<|stm hA rfl rfl fun a hA =>
    stp hA (r_nilc hA rfl) rfl fun a hA =>
    stp hA (r_fd (k:=2) U109 rfl sz35 hA rfl rfl) rfl fun a hA =>
    stp hA (r_ld1 (j:=0) [[vvc3],[.int .i64 c4]] [] U35 rfl hI rfl hA rfl rfl) rfl fun a hA =>
    stp hA (r_neE erF hI.agr wc5 erv_nil (.inl ⟨.inr ⟨_,rfl⟩,Er.fitR⟩) hA rfl rfl) rfl fun a hA =>
    sta hA rfl rfl fun a hA=>?_
   refine o_nil<|hN10 _ _<|w_cond hA rfl (fun hc5=>?_) (fun hc5=>?_)
   ·obtain ⟨hc5,H⟩:=dT H hc5
    refine w_skip<|hN9 _ _<|w_seq fun _ hN11=>w_reg<|sta hA rfl rfl fun a hA=>?_
    refine o_nil<|hN11 _ _<|w_ret ?_
    obtain rfl:=sJ H
    exact ret1 hA Tryz.results32 rfl ⟨_,rfl,vvc3,vvc5,μ2,rfl,(in_lit .u64 0 rfl),wc3,wc4,wc5,hI⟩
   ·obtain ⟨hc5,H⟩:=dF H hc5
    refine w_seq fun _ hN12=>w_reg<|stm hA rfl rfl fun a hA=>?_
    obtain ⟨r3,hr3,H⟩:=bB H
    refine o_callp (u:=.int .i64 r3) cf73 hA rfl hI (compact_Len.c μ2 _ hI.agr c2 wc2 r3 hr3) rfl fun a w hz5 hI hA =>
     stm hA rfl rfl fun a hA =>
     stp hA (r_add hA rfl rfl) rfl fun a hA =>
     stp hA (r_neq hA rfl rfl) rfl fun a hA =>
     sta hA rfl rfl fun a hA=>?_
    refine o_nil<|hN12 _ _<|w_cond hA rfl (fun hc6=>?_) (fun hc6=>?_)
    ·obtain ⟨hc6,H⟩:=dT H hc6
     refine w_reg<|stm hA rfl rfl fun a hA =>
      stp hA (r_ldG U35 rfl hI.agr (ErV.le (fun _ _ h=>h) (hi1.le.trans hle1) he0) hA) rfl fun a hA =>
      stp hA (r_nilc hA rfl) rfl fun a hA =>
      stp hA (r_fd (k:=2) U109 rfl sz35 hA rfl rfl) rfl fun a hA=>?_
     have hsc:ErS μ2 e0 xErrShape:=(ErV.le (fun _ _ h=>h) (hi1.le.trans hle1) he0)
     refine o_st (j:=0) [[vvc3],[.int .i64 c4]] [[vvc5]] [[e0]] [] sz35 rfl rfl (by intro c hc;simp at hc;subst hc;exact ErV.one hsc) hI rfl hA rfl rfl (cells_err hsc) rfl fun w hI=>?_
     refine o_nil<|hN9 _ _<|w_seq fun _ hN13=>w_reg<|sta hA rfl rfl fun a hA=>?_
     refine o_nil<|hN13 _ _<|w_ret ?_
     obtain rfl:=sJ H
     exact ret1 hA Tryz.results32 rfl ⟨_,rfl,vvc3,e0,μ2,rfl,(in_lit .u64 0 rfl),wc3,wc4,(ErV.le (fun _ _ h=>h) (hi1.le.trans hle1) he0),hI⟩
    ·obtain ⟨hc6,H⟩:=dF H hc6
     refine w_seq fun _ hN14=>w_reg<|stm hA rfl rfl fun a hA =>
      stm hA rfl rfl fun a hA =>
      stp hA (r_gtr hA rfl rfl) rfl fun a hA =>
      sta hA rfl rfl fun a hA=>?_
     refine o_nil<|hN14 _ _<|w_cond hA rfl (fun hc7=>?_) (fun hc7=>?_)
     ·obtain ⟨hc7,H⟩:=dT H hc7
      refine w_reg<|stm hA rfl rfl fun a hA =>
       stp hA (r_ldG U35 rfl hI.agr (ErV.le (fun _ _ h=>h) (hi1.le.trans hle1) he1) hA) rfl fun a hA =>
       stp hA (r_nilc hA rfl) rfl fun a hA =>
       stp hA (r_fd (k:=2) U109 rfl sz35 hA rfl rfl) rfl fun a hA=>?_
      have hsc:ErS μ2 e1 xErrMany:=(ErV.le (fun _ _ h=>h) (hi1.le.trans hle1) he1)
      refine o_st (j:=0) [[vvc3],[.int .i64 c4]] [[vvc5]] [[e1]] [] sz35 rfl rfl (by intro c hc;simp at hc;subst hc;exact ErV.one hsc) hI rfl hA rfl rfl (cells_err hsc) rfl fun w hI=>?_
      refine o_nil<|hN9 _ _<|w_seq fun _ hN15=>w_reg<|sta hA rfl rfl fun a hA=>?_
      refine o_nil<|hN15 _ _<|w_ret ?_
      obtain rfl:=sJ H
      exact ret1 hA Tryz.results32 rfl ⟨_,rfl,vvc3,e1,μ2,rfl,(in_lit .u64 0 rfl),wc3,wc4,(ErV.le (fun _ _ h=>h) (hi1.le.trans hle1) he1),hI⟩
     ·obtain ⟨hc7,H⟩:=dF H hc7
      refine w_seq fun _ hN16=>w_reg<|stm hA rfl rfl fun a hA =>
       sta hA rfl rfl fun a hA=>?_
      refine o_nil<|hN16 _ _<|w_ret ?_
      obtain rfl:=sJ H
      exact ret1 hA Tryz.results32 rfl ⟨_,rfl,vvc3,vvc5,μ2,rfl,wc2,wc3,wc4,wc5,hI⟩
theorem cR_Bytes.c (μ:Store)(w0:World)(hμ:Agr μ w0)(x0:cRd)(vp1 vp2:Value)(g0:Nat)(hp1:Slc (RI .u8) 1 μ vp1 x0.b)(hp2:InR .i64 x0.at_)(hp3:ErS μ vp2 x0.err)(ho0:Its μ w0 [cel g0 [[vp1],[.int .i64 x0.at_],[vp2]] 109])(x1:Int)(hx1:InR .i64 x1)(e9:Value)(he9:ErS μ e9 (Er.b 10))(r:(List Int)×cRd)(H:cR_Bytes.f x0 x1=some r) :
  Calls Tryz.prog 74 [pt g0 0,.int .i64 x1].toArray w0 (fun e w'=>∃ v,e=.returned v∧∃(v0:Value)(c0:List Value)(vp_1 vp_2:Value)(μ':Store),v=v0∧Els (RI .u8) 1 (r.1) c0∧Slc (RI .u8) 1 μ' vp_1 (r.2).b∧InR .i64 (r.2).at_∧ErS μ' vp_2 (r.2).err∧Iv w0 (many [cel g0 [[vp1],[.int .i64 x0.at_],[vp2]] 109]).foot μ μ' [row 5 1 v0 (r.1).length c0,cel g0 [[vp_1],[.int .i64 ((r.2).at_)],[vp_2]] 109] w'):=by
 refine enter Tryz.func74 rfl Tryz.ntmps74 rfl fun a hA=>?_
 have hI:=Iv.startN hμ ho0
 have H:=bI H
 refine w_seq fun _ hN1=>w_reg<|sta hA rfl rfl fun a hA=>?_
 refine o_nil<|hN1 _ _<|w_seq fun _ hN2=>w_seq fun _ hN3=>w_reg<|stm hA rfl rfl fun a hA =>
  stp hA (r_leq hA rfl rfl) rfl fun a hA=>?_
 refine o_nil<|hN3 _ _<|w_cond hA rfl (fun hc1=>?_) (fun hc1=>?_)
 ·obtain ⟨hc1,H⟩:=dT H hc1
  refine w_seq fun _ hN4=>w_reg<|sta hA rfl rfl fun a hA=>?_
  refine o_nil<|hN4 _ _<|w_ret ?_
  have hI:=hI.nilRow 5 1
  obtain rfl:=sJ H
  exact ret1 hA Tryz.results74 rfl ⟨_,rfl,Sn,[],vp1,vp2,μ,rfl,(Els.nil (RE:=(RI .u8)) (sz:=1)),hp1,hp2,hp3,hI⟩
 ·obtain ⟨hc1,H⟩:=dF H hc1
  refine w_skip<|hN2 _ _<|w_seq fun _ hN5=>w_reg<|stm hA rfl rfl fun a hA =>
   stm hA rfl rfl fun a hA=>?_
  obtain ⟨r1,hr1,H⟩:=bB H
  refine o_call _ cf102 hA rfl (cR_next.c μ _ hI.agr x0 vp1 vp2 g0 hp1 hp2 hp3 (hI.handN 1) x1 hx1 e9 he9 r1 hr1) rfl fun v1 a w hz1 hA=>?_
  obtain ⟨_,vp3,vp4,μ1,rfl,hS1,hp4,hp5,hp6,hi1⟩:=hz1
  have hI:=hI.back1 hi1
  obtain ⟨r2,hr2,H⟩:=bB H
  refine o_call _ cf69 hA rfl (bytes_Clone.c μ1 _ hI.agr r1.1 v1 hS1 r2 hr2) rfl fun v2 a w hz2 hA=>?_
  obtain ⟨_,cs1,rfl,hE1,hi2⟩:=hz2
  have hI:=hI.call hi2
  refine sta hA rfl rfl fun a hA=>?_
  refine o_nil<|hN5 _ _<|w_ret ?_
  obtain rfl:=sJ H
  exact ret1 hA Tryz.results74 rfl ⟨_,rfl,v2,cs1,vp3,vp4,μ1,rfl,hE1,hp4,hp5,hp6,hI⟩
theorem cR_Eight.c (μ:Store)(w0:World)(hμ:Agr μ w0)(x0:cRd)(vp1 vp2:Value)(g0:Nat)(hp1:Slc (RI .u8) 1 μ vp1 x0.b)(hp2:InR .i64 x0.at_)(hp3:ErS μ vp2 x0.err)(ho0:Its μ w0 [cel g0 [[vp1],[.int .i64 x0.at_],[vp2]] 109])(e9:Value)(he9:ErS μ e9 (Er.b 10))(r:Int×cRd)(H:cR_Eight.f x0=some r) :
  Calls Tryz.prog 75 [pt g0 0].toArray w0 (fun e w'=>∃ v,e=.returned v∧∃(vp_1 vp_2:Value)(μ':Store),v=.int .u64 (r.1)∧InR .u64 (r.1)∧Slc (RI .u8) 1 μ' vp_1 (r.2).b∧InR .i64 (r.2).at_∧ErS μ' vp_2 (r.2).err∧Iv w0 (many [cel g0 [[vp1],[.int .i64 x0.at_],[vp2]] 109]).foot μ μ' [cel g0 [[vp_1],[.int .i64 ((r.2).at_)],[vp_2]] 109] w'):=by
 refine enter Tryz.func75 rfl Tryz.ntmps75 rfl fun a hA=>?_
 have hI:=Iv.startN hμ ho0
 have H:=bI H
 refine w_seq fun _ hN1=>w_reg<|sta hA rfl rfl fun a hA=>?_
 refine o_nil<|hN1 _ _<|w_seq fun _ hN2=>w_reg<|stm hA rfl rfl fun a hA=>?_
 obtain ⟨r1,hr1,H⟩:=bB H
 refine o_call _ cf72 hA rfl (cR_whole.c μ _ hI.agr x0 vp1 vp2 g0 hp1 hp2 hp3 (hI.handN 1) 8 (in_lit .i64 8 rfl) e9 he9 r1 hr1) rfl fun v1 a w hz1 hA=>?_
 obtain ⟨vp3,vp4,μ1,rfl,hw1,hp4,hp5,hp6,hi1⟩:=hz1
 have hI:=hI.back1 hi1
 refine sta hA rfl rfl fun a hA=>?_
 refine o_nil<|hN2 _ _<|w_ret ?_
 obtain rfl:=sJ H
 exact ret1 hA Tryz.results75 rfl ⟨_,rfl,vp3,vp4,μ1,rfl,hw1,hp4,hp5,hp6,hI⟩
theorem cR_Left.c (μ:Store)(w0:World)(hμ:Agr μ w0)(x0:cRd)(vp1 vp2:Value)(g0:Nat)(hp1:Slc (RI .u8) 1 μ vp1 x0.b)(hp2:InR .i64 x0.at_)(hp3:ErS μ vp2 x0.err)(ho0:Its μ w0 [cel g0 [[vp1],[.int .i64 x0.at_],[vp2]] 109])(r:Int)(H:cR_Left.f x0=some r) :
  Calls Tryz.prog 35 [pt g0 0].toArray w0 (fun e w'=>∃ v,e=.returned v∧v=.int .i64 r∧InR .i64 r∧Iv w0 (many [cel g0 [[vp1],[.int .i64 x0.at_],[vp2]] 109]).foot μ μ [cel g0 [[vp1],[.int .i64 x0.at_],[vp2]] 109] w'):=by
 refine enter Tryz.func35 rfl Tryz.ntmps35 rfl fun a hA=>?_
 have hI:=Iv.startN hμ ho0
 have H:=bI H
 refine w_seq fun _ hN1=>w_reg<|sta hA rfl rfl fun a hA=>?_
 refine o_nil<|hN1 _ _<|w_seq fun _ hN2=>?_
 refine w_draw mo (by kernel_rfl) hI ?_
 refine qtp hA (fun _ hI=>r_mv hA rfl) rfl fun a hA =>
  qtp hA (fun _ hI=>r_nilc hA rfl) rfl fun a hA =>
  qtp hA (fun _ hI=>r_fd (k:=0) U109 rfl sz30 hA rfl rfl) rfl fun a hA =>
  qtp hA (fun _ hI=>r_ld1 (j:=0) [] [[.int .i64 x0.at_],[vp2]] U30 rfl hI rfl hA rfl rfl) rfl fun a hA=>?_
 obtain ⟨_,hsl1⟩:=Slc.sv hp1
 refine qtp hA (fun _ hI=>r_slen U30 hsl1 hA rfl) rfl fun a hA =>
  qtp hA (fun _ hI=>r_mv hA rfl) rfl fun a hA =>
  qtp hA (fun _ hI=>r_nilc hA rfl) rfl fun a hA =>
  qtp hA (fun _ hI=>r_fd (k:=1) U109 rfl sz3 hA rfl rfl) rfl fun a hA =>
  qtp hA (fun _ hI=>r_ld1 (j:=0) [[vp1]] [[vp2]] U3 rfl hI rfl hA rfl rfl) rfl fun a hA =>
  qtp hA (fun _ hI=>r_sub hA rfl rfl) rfl fun a hA =>
  qtp hA (fun _ hI=>r_as hA rfl) rfl fun a hA=>?_
 refine q_nil fun w hI=>?_
 refine hN2 _ _<|w_ret ?_
 obtain rfl:=sJ H
 exact ret1 hA Tryz.results35 rfl ⟨_,rfl,rfl,(wrap_in _ _),(hI.less (Store.le.refl _) hI.le)⟩
theorem q1R_take.c (μ:Store)(w0:World)(hμ:Agr μ w0)(x0:q1Rd)(vp1:Value)(g0:Nat)(hp1:Slc (RI .u8) 1 μ vp1 x0.B)(hp2:InR .i64 x0.E)(ho0:Its μ w0 [cel g0 [[vp1],[.int .i64 x0.E]] 81])(x1:Int)(hx1:InR .i64 x1)(r:(List Int)×q1Rd)(H:q1R_take.f x0 x1=some r) :
  Calls Tryz.prog 103 [pt g0 0,.int .i64 x1].toArray w0 (fun e w'=>∃ v,e=.returned v∧∃(v0:Value)(c0:List Value)(vp_1:Value)(μ':Store),v=v0∧Els (RI .u8) 1 (r.1) c0∧Slc (RI .u8) 1 μ' vp_1 (r.2).B∧InR .i64 (r.2).E∧Iv w0 (many [cel g0 [[vp1],[.int .i64 x0.E]] 81]).foot μ μ' [row 5 1 v0 (r.1).length c0,cel g0 [[vp_1],[.int .i64 ((r.2).E)]] 81] w'):=by
 refine enter Tryz.func103 rfl Tryz.ntmps103 rfl fun a hA=>?_
 have hI:=Iv.startN hμ ho0
 have H:=bI H
 refine w_seq fun _ hN1=>w_reg<|sta hA rfl rfl fun a hA=>?_
 refine o_nil<|hN1 _ _<|w_seq fun _ hN2=>?_
 obtain ⟨c1,hz1,Hk1⟩:=bB H
 refine w_cut (fun a w=>Fr a 42 [(0,pt g0 0),(1,.int .i64 x1),(4,Sn),(14,.bool c1)]∧Iv w0 (many [cel g0 [[vp1],[.int .i64 x0.E]] 81]).foot μ μ [cel g0 [[vp1],[.int .i64 x0.E]] 81] w) ?_ ?_
 ·have H:=bI hz1
  refine w_reg<|stm hA rfl rfl fun a hA =>
   stp hA (r_nilc hA rfl) rfl fun a hA =>
   stp hA (r_fd (k:=1) U81 rfl sz3 hA rfl rfl) rfl fun a hA =>
   stp hA (r_ld1 (j:=0) [[vp1]] [] U3 rfl hI rfl hA rfl rfl) rfl fun a hA =>
   stp hA (r_neq hA rfl rfl) rfl fun a hA =>
   stm hA rfl rfl fun a hA=>?_
  rcases Bool.eq_false_or_eq_true (decide (x0.E≠0)) with hc1 | hc1
  ·have hc10:=hc1;obtain ⟨hc1,H⟩:=dT H hc1
   refine o_no hA rfl rfl (by rw [hc10];simp [vb]) rfl fun a hA =>
    o_no hA rfl rfl (by rw [hc10];simp [vb]) rfl fun a hA =>
    stp hA (r_pick_t hA rfl hc10 rfl) rfl fun a hA=>?_
   refine o_nil ?_
   cases sJ H
   exact ⟨hA.sub ⟨rfl,rfl,rfl,rfl,trivial⟩,hI⟩
  ·have hc10:=hc1;obtain ⟨hc1,H⟩:=dF H hc1
   refine o_yes hA rfl rfl hc10 <|
    stm hA rfl rfl fun a hA =>
    o_yes hA rfl rfl hc10 <|
    stp hA (r_lss hA rfl rfl) rfl fun a hA =>
    stp hA (r_pick_f hA rfl hc10 rfl) rfl fun a hA=>?_
   refine o_nil ?_
   cases sJ H
   exact ⟨hA.sub ⟨rfl,rfl,rfl,rfl,trivial⟩,hI⟩
 ·rintro a w ⟨hA,hI⟩
  have H:=Hk1
  refine w_cond hA rfl (fun hc2=>?_) (fun hc2=>?_)
  ·have H:=bT H hc2
   refine w_seq fun _ hN3=>w_reg<|sta hA rfl rfl fun a hA=>?_
   refine o_nil<|hN3 _ _<|w_ret ?_
   have hI:=hI.nilRow 5 1
   obtain rfl:=sJ H
   exact ret1 hA Tryz.results103 rfl ⟨_,rfl,Sn,[],vp1,μ,rfl,(Els.nil (RE:=(RI .u8)) (sz:=1)),hp1,hp2,hI⟩
  ·have hc2:=ft hc2;have H:=bF H hc2
   refine w_skip<|hN2 _ _<|w_seq fun _ hN4=>w_seq fun _ hN5=>w_reg<|stm hA rfl rfl fun a hA =>
    stm hA rfl rfl fun a hA =>
    stp hA (r_nilc hA rfl) rfl fun a hA =>
    stp hA (r_fd (k:=0) U81 rfl sz30 hA rfl rfl) rfl fun a hA =>
    stp hA (r_ld1 (j:=0) [] [[.int .i64 x0.E]] U30 rfl hI rfl hA rfl rfl) rfl fun a hA=>?_
   obtain ⟨_,hsl1⟩:=Slc.sv hp1
   refine stp hA (r_slen U30 hsl1 hA rfl) rfl fun a hA =>
    stp hA (r_gtr hA rfl rfl) rfl fun a hA=>?_
   refine o_nil<|hN5 _ _<|w_cond hA rfl (fun hc3=>?_) (fun hc3=>?_)
   ·obtain ⟨hc3,H⟩:=dT H hc3
    refine w_seq fun _ hN6=>w_reg<|stm hA rfl rfl fun a hA =>
     stp hA (r_nilc hA rfl) rfl fun a hA =>
     stp hA (r_fd (k:=1) U81 rfl sz3 hA rfl rfl) rfl fun a hA =>
     o_st (j:=0) [[vp1]] [[.int .i64 x0.E]] [[.int .i64 101]] [] sz3 rfl rfl (fO rfl fl_nil) hI rfl hA rfl rfl rfl rfl fun w hI=>?_
    refine o_nil<|hN6 _ _<|w_seq fun _ hN7=>w_reg<|sta hA rfl rfl fun a hA=>?_
    refine o_nil<|hN7 _ _<|w_ret ?_
    have hI:=hI.nilRow 5 1
    obtain rfl:=sJ H
    exact ret1 hA Tryz.results103 rfl ⟨_,rfl,Sn,[],vp1,μ,rfl,(Els.nil (RE:=(RI .u8)) (sz:=1)),hp1,(in_lit .i64 101 rfl),hI⟩
   ·obtain ⟨hc3,H⟩:=dF H hc3
    refine w_skip<|hN4 _ _<|w_seq fun _ hN8=>w_reg<|stm hA rfl rfl fun a hA =>
     stp hA (r_nilc hA rfl) rfl fun a hA =>
     stp hA (r_fd (k:=0) U81 rfl sz30 hA rfl rfl) rfl fun a hA =>
     stp hA (r_ld1 (j:=0) [] [[.int .i64 x0.E]] U30 rfl hI rfl hA rfl rfl) rfl fun a hA =>
     stm hA rfl rfl fun a hA=>?_
    obtain ⟨hb1,H⟩:=bG H
    obtain ⟨v1,hS1,hr1⟩:=r_sl (P:=Tryz.prog) (t:=30) (x:=.tmp 28) (l:=none) (h:=(some (.tmp 29))) (i:=0) (j:=x1) U30 sz5 hp1 hA rfl rfl rfl (by have hq:=hb1;omega) (by have hq:=hb1;omega) (by have hq:=hb1;omega)
    refine stp hA (hr1 _ _ _ _ _ _) rfl fun a hA=>?_
    obtain ⟨r1,hr2,H⟩:=bB H
    refine o_call _ cf105 hA rfl (q0_Bytes.c μ _ hI.agr ((x0.B.take (x1).toNat).drop (0:Int).toNat) v1 hS1 r1 hr2) rfl fun v2 a w hz2 hA=>?_
    obtain ⟨_,cs1,rfl,hE1,hi1⟩:=hz2
    have hI:=hI.call hi1
    refine sta hA rfl rfl fun a hA=>?_
    refine o_nil<|hN8 _ _<|w_seq fun _ hN9=>w_reg<|stm hA rfl rfl fun a hA =>
     stm hA rfl rfl fun a hA =>
     stp hA (r_nilc hA rfl) rfl fun a hA =>
     stp hA (r_fd (k:=0) U81 rfl sz30 hA rfl rfl) rfl fun a hA =>
     stp hA (r_ld1 (j:=1) [] [[.int .i64 x0.E]] U30 rfl hI rfl hA rfl rfl) rfl fun a hA =>
     stm hA rfl rfl fun a hA=>?_
    obtain ⟨v3,hS2,hr3⟩:=r_sl (P:=Tryz.prog) (t:=30) (x:=.tmp 36) (l:=(some (.tmp 37))) (h:=none) (i:=x1) (j:=(x0.B.length:Int)) U30 sz5 hp1 hA rfl rfl rfl (by have hq:=hb1;omega) (by have hq:=hb1;omega) (by have hq:=hb1;omega)
    refine stp hA (hr3 _ _ _ _ _ _) rfl fun a hA =>
     stp hA (r_nilc hA rfl) rfl fun a hA =>
     stp hA (r_fd (k:=0) U81 rfl sz30 hA rfl rfl) rfl fun a hA=>?_
    obtain ⟨_,hsc⟩:=Slc.sv hS2
    refine o_st (j:=1) [] [[vp1]] [[v3]] [[.int .i64 x0.E]] sz30 rfl rfl (by intro c hc;simp at hc;subst hc;exact one_sl hsc) hI rfl hA rfl rfl (cells_sl hsc) rfl fun w hI=>?_
    refine o_nil<|hN9 _ _<|w_seq fun _ hN10=>w_reg<|stm hA rfl rfl fun a hA =>
     sta hA rfl rfl fun a hA=>?_
    refine o_nil<|hN10 _ _<|w_ret ?_
    obtain rfl:=sJ H
    exact ret1 hA Tryz.results103 rfl ⟨_,rfl,v2,cs1,v3,μ,rfl,hE1,hS2,hp2,hI⟩
theorem q1R_num.c (μ:Store)(w0:World)(hμ:Agr μ w0)(x0:q1Rd)(vp1:Value)(g0:Nat)(hp1:Slc (RI .u8) 1 μ vp1 x0.B)(hp2:InR .i64 x0.E)(ho0:Its μ w0 [cel g0 [[vp1],[.int .i64 x0.E]] 81])(x1:Int)(hx1:InR .i64 x1)(r:Int×q1Rd)(H:q1R_num.f x0 x1=some r) :
  Calls Tryz.prog 78 [pt g0 0,.int .i64 x1].toArray w0 (fun e w'=>∃ v,e=.returned v∧∃(vp_1:Value)(μ':Store),v=.int .u64 (r.1)∧InR .u64 (r.1)∧Slc (RI .u8) 1 μ' vp_1 (r.2).B∧InR .i64 (r.2).E∧Iv w0 (many [cel g0 [[vp1],[.int .i64 x0.E]] 81]).foot μ μ' [cel g0 [[vp_1],[.int .i64 ((r.2).E)]] 81] w'):=by
 refine enter Tryz.func78 rfl Tryz.ntmps78 rfl fun a hA=>?_
 have hI:=Iv.startN hμ ho0
 have H:=bI H
 refine w_seq fun _ hN1=>w_reg<|sta hA rfl rfl fun a hA=>?_
 refine o_nil<|hN1 _ _<|w_seq fun _ hN2=>w_reg<|stm hA rfl rfl fun a hA =>
  stm hA rfl rfl fun a hA=>?_
 obtain ⟨r1,hr1,H⟩:=bB H
 refine o_call _ cf103 hA rfl (q1R_take.c μ _ hI.agr x0 vp1 g0 hp1 hp2 (hI.handN 1) x1 hx1 r1 hr1) rfl fun v1 a w hz1 hA=>?_
 obtain ⟨_,cs1,vp2,μ1,rfl,hE1,hp3,hp4,hi1⟩:=hz1
 have hI:=hI.backN 1 hi1
 have hI:Iv w0 (many [cel g0 [[vp1],[.int .i64 x0.E]] 81]).foot μ μ1 [row 5 1 v1 r1.1.length cs1,cel g0 [[vp2],[.int .i64 r1.2.E]] 81] w:=hI
 refine sta hA rfl rfl fun a hA=>?_
 refine o_nil<|hN2 _ _<|w_seq fun _ hN3=>w_reg<|sta hA rfl rfl fun a hA=>?_
 refine o_nil<|hN3 _ _ ?_
 obtain ⟨c1,hz2,Hk1⟩:=bB H
 refine w_cut (fun a w=>InR .u64 c1∧Fr a 29 [(4,.int .u64 0),(6,.int .u64 c1)]∧Iv w0 (many [cel g0 [[vp1],[.int .i64 x0.E]] 81]).foot μ μ1 [row 5 1 v1 r1.1.length cs1,cel g0 [[vp2],[.int .i64 r1.2.E]] 81] w) ?_ ?_
 ·have H:=bI hz2
  refine w_seq fun _ hN4=>w_reg<|sta hA rfl rfl fun a hA=>?_
  refine o_nil<|hN4 _ _<|w_block ?_
  obtain ⟨z1,hz3,Hk2⟩:=bind_some H
  obtain ⟨n1,hn1⟩:=loopO_some hz3
  refine w_loop (fun n a w=>∃(s1 s2:Int),loopN (q1R_num.s0 r1) n (s1,s2)=some z1∧InR .u64 s1∧InR .i64 s2∧Fr a 29 [(4,.int .u64 0),(5,v1),(6,.int .u64 s1),(7,.int .i64 s2)]∧Iv w0 (many [cel g0 [[vp1],[.int .i64 x0.E]] 81]).foot μ μ1 [row 5 1 v1 r1.1.length cs1,cel g0 [[vp2],[.int .i64 r1.2.E]] 81] w) n1 ⟨0,0,hn1,(in_lit .u64 0 rfl),(in_lit .i64 0 rfl),hA.sub ⟨rfl,rfl,rfl,rfl,trivial⟩,hI⟩ ?_
  clear hA hI
  rintro n a w ⟨s1,s2,hn1,ws1,ws2,hA,hI⟩
  obtain ⟨m1,rfl,H⟩:=loopN_bind hn1
  clear hn1
  refine w_seq fun _ hN5=>w_seq fun _ hN6=>w_reg<|stm hA rfl rfl fun a hA =>
   stm hA rfl rfl fun a hA=>?_
  have hlen1:=Iv.row_in hI (j:=0) rfl
  refine stp hA (r_rlen (xs:=0) U30 hI (j:=0) rfl hA rfl) rfl fun a hA =>
   stp hA (r_lss hA rfl rfl) rfl fun a hA=>?_
  refine o_nil<|hN6 _ _<|w_cond hA rfl (fun hc1=>?_) (fun hc1=>?_)
  ·obtain ⟨hc1,H⟩:=dT H hc1
   refine w_skip<|hN5 _ _<|w_seq fun _ hN7=>w_block<|w_reg<|stm hA rfl rfl fun a hA =>
    stm hA rfl rfl fun a hA =>
    stm hA rfl rfl fun a hA=>?_
   obtain ⟨hb1,H⟩:=bG H
   refine stp hA (r_rix (j:=0) U30 sz5 hI rfl hA rfl rfl hb1.1 hb1.2) rfl fun a hA=>?_
   have hq1:=els_get hE1 hb1.1 hb1.2
   refine stp hA (r_rld1 (j:=0) U5 rfl hI rfl hq1 hA rfl (by simp only [Nat.mul_one])) rfl fun a hA =>
    stp hA (r_conv U5 U70 hA rfl) rfl fun a hA =>
    stm hA rfl rfl fun a hA =>
    stp hA (r_mul hA rfl rfl) rfl fun a hA =>
    stp hA (r_conv U3 U115 hA rfl) rfl fun a hA=>?_
   obtain ⟨hb2,H⟩:=bG H
   refine stp hA (r_shl hA rfl rfl hb2) rfl fun a hA =>
    stp hA (r_or hA rfl rfl) rfl fun a hA =>
    sta hA rfl rfl fun a hA=>?_
   refine o_nil<|hN7 _ _<|w_reg<|stm hA rfl rfl fun a hA =>
    stp hA (r_add hA rfl rfl) rfl fun a hA =>
    sta hA rfl rfl fun a hA=>?_
   refine o_nil<|⟨m1,lS _,bOr .u64 s1 (sL .u64 (IntKind.u64.wrap (r1.1.getD s2.toNat 0)) (IntKind.u64.wrap (IntKind.i64.wrap (8 * s2)))),IntKind.i64.wrap (s2+1),H,(wrap_in _ _),(wrap_in _ _),hA.sub ⟨rfl,rfl,rfl,rfl,trivial⟩,hI⟩
  ·obtain ⟨hc1,H⟩:=dF H hc1
   refine w_exit rfl ?_
   have H:some s1=some z1:=H
   obtain rfl:=sI H
   have H:=Hk2
   cases sJ H
   exact ⟨ws1,hA.sub ⟨rfl,rfl,trivial⟩,hI⟩
 ·rintro a w ⟨wc1,hA,hI⟩
  have H:=Hk1
  refine w_seq fun _ hN8=>w_reg<|stm hA rfl rfl fun a hA =>
   sta hA rfl rfl fun a hA=>?_
  refine o_nil<|hN8 _ _<|w_ret ?_
  obtain rfl:=sJ H
  exact ret1 hA Tryz.results78 rfl ⟨_,rfl,vp2,μ1,rfl,wc1,hp3,hp4,(hI.sl [1] rfl)⟩
theorem q1R_Four.c (μ:Store)(w0:World)(hμ:Agr μ w0)(x0:q1Rd)(vp1:Value)(g0:Nat)(hp1:Slc (RI .u8) 1 μ vp1 x0.B)(hp2:InR .i64 x0.E)(ho0:Its μ w0 [cel g0 [[vp1],[.int .i64 x0.E]] 81])(r:Int×q1Rd)(H:q1R_Four.f x0=some r) :
  Calls Tryz.prog 76 [pt g0 0].toArray w0 (fun e w'=>∃ v,e=.returned v∧∃(vp_1:Value)(μ':Store),v=.int .u32 (r.1)∧InR .u32 (r.1)∧Slc (RI .u8) 1 μ' vp_1 (r.2).B∧InR .i64 (r.2).E∧Iv w0 (many [cel g0 [[vp1],[.int .i64 x0.E]] 81]).foot μ μ' [cel g0 [[vp_1],[.int .i64 ((r.2).E)]] 81] w'):=by
 refine enter Tryz.func76 rfl Tryz.ntmps76 rfl fun a hA=>?_
 have hI:=Iv.startN hμ ho0
 have H:=bI H
 refine w_seq fun _ hN1=>w_reg<|sta hA rfl rfl fun a hA=>?_
 refine o_nil<|hN1 _ _<|w_seq fun _ hN2=>w_reg<|stm hA rfl rfl fun a hA=>?_
 obtain ⟨r1,hr1,H⟩:=bB H
 refine o_call _ cf78 hA rfl (q1R_num.c μ _ hI.agr x0 vp1 g0 hp1 hp2 (hI.handN 1) 4 (in_lit .i64 4 rfl) r1 hr1) rfl fun v1 a w hz1 hA=>?_
 obtain ⟨vp2,μ1,rfl,hw1,hp3,hp4,hi1⟩:=hz1
 have hI:=hI.back1 hi1
 refine stp hA (r_conv U70 U22 hA rfl) rfl fun a hA =>
  sta hA rfl rfl fun a hA=>?_
 refine o_nil<|hN2 _ _<|w_ret ?_
 obtain rfl:=sJ H
 exact ret1 hA Tryz.results76 rfl ⟨_,rfl,vp2,μ1,rfl,(wrap_in _ _),hp3,hp4,hI⟩
theorem q1R_Hash.c (μ:Store)(w0:World)(hμ:Agr μ w0)(x0:q1Rd)(vp1:Value)(g0:Nat)(hp1:Slc (RI .u8) 1 μ vp1 x0.B)(hp2:InR .i64 x0.E)(ho0:Its μ w0 [cel g0 [[vp1],[.int .i64 x0.E]] 81])(r:(List Int)×q1Rd)(H:q1R_Hash.f x0=some r) :
  Calls Tryz.prog 77 [pt g0 0].toArray w0 (fun e w'=>∃ v,e=.returned v∧∃(vp_1:Value)(μ':Store),v=.agg [av .u8 32 (r.1)].flatten.toArray∧Arr .u8 32 (r.1)∧Slc (RI .u8) 1 μ' vp_1 (r.2).B∧InR .i64 (r.2).E∧Iv w0 (many [cel g0 [[vp1],[.int .i64 x0.E]] 81]).foot μ μ' [cel g0 [[vp_1],[.int .i64 ((r.2).E)]] 81] w'):=by
 refine enter Tryz.func77 rfl Tryz.ntmps77 rfl fun a hA=>?_
 have hI:=Iv.startN hμ ho0
 have H:=bI H
 refine w_seq fun _ hN1=>w_reg<|o_new [av .u8 32 Z32] zr24 hI hA rfl fun g1 a w hA hI hg1=>?_
 refine o_nil<|hN1 _ _<|w_seq fun _ hN2=>w_reg<|o_new [av .u8 32 Z32] zr24 hI hA rfl fun g2 a w hA hI hg2=>?_
 refine o_nil<|hN2 _ _<|w_seq fun _ hN3=>w_reg<|stm hA rfl rfl fun a hA=>?_
 obtain ⟨r1,hr1,H⟩:=bB H
 have hI:=hI.sl [2,0,1] rfl
 refine o_call _ cf103 hA rfl (q1R_take.c μ _ hI.agr x0 vp1 g0 hp1 hp2 (hI.handN 1) 32 (in_lit .i64 32 rfl) r1 hr1) rfl fun v1 a w hz1 hA=>?_
 obtain ⟨_,cs1,vp2,μ1,rfl,hE1,hp3,hp4,hi1⟩:=hz1
 have hI:=hI.backN 1 hi1
 have hI:Iv w0 (many [cel g0 [[vp1],[.int .i64 x0.E]] 81]).foot μ μ1 [row 5 1 v1 r1.1.length cs1,cel g0 [[vp2],[.int .i64 r1.2.E]] 81,cel g2 [av .u8 32 Z32] 24,cel g1 [av .u8 32 Z32] 24] w:=hI
 refine sta hA rfl rfl fun a hA=>?_
 refine o_nil<|hN3 _ _ ?_
 obtain ⟨c1,hz2,Hk1⟩:=bB H
 refine w_cut (fun a w=>Arr .u8 32 c1∧Fr a 21 [(2,pt g1 0),(3,pt g2 0)]∧Iv w0 (many [cel g0 [[vp1],[.int .i64 x0.E]] 81]).foot μ μ1 [row 5 1 v1 r1.1.length cs1,cel g0 [[vp2],[.int .i64 r1.2.E]] 81,cel g2 [av .u8 32 c1] 24,cel g1 [av .u8 32 Z32] 24] w) ?_ ?_
 ·have H:=bI hz2
  refine w_seq fun _ hN4=>w_reg<|sta hA rfl rfl fun a hA=>?_
  refine o_nil<|hN4 _ _<|w_block ?_
  obtain ⟨z1,hz3,Hk2⟩:=bind_some H
  obtain ⟨n1,hn1⟩:=loopO_some hz3
  refine w_loop (fun n a w=>∃(s1:Int)(s2:List Int),loopN (q1R_Hash.s0 r1) n (s1,s2)=some z1∧InR .i64 s1∧Arr .u8 32 s2∧Fr a 21 [(2,pt g1 0),(3,pt g2 0),(4,v1),(5,.int .i64 s1)]∧Iv w0 (many [cel g0 [[vp1],[.int .i64 x0.E]] 81]).foot μ μ1 [row 5 1 v1 r1.1.length cs1,cel g0 [[vp2],[.int .i64 r1.2.E]] 81,cel g2 [av .u8 32 s2] 24,cel g1 [av .u8 32 Z32] 24] w) n1 ⟨0,Z32,hn1,(in_lit .i64 0 rfl),(arr_zero _ _),hA.sub ⟨rfl,rfl,rfl,rfl,trivial⟩,hI⟩ ?_
  clear hA hI
  rintro n a w ⟨s1,s2,hn1,ws1,ws2,hA,hI⟩
  obtain ⟨m1,rfl,H⟩:=loopN_bind hn1
  clear hn1
  refine w_seq fun _ hN5=>w_seq fun _ hN6=>w_reg<|stm hA rfl rfl fun a hA =>
   stm hA rfl rfl fun a hA=>?_
  have hlen1:=Iv.row_in hI (j:=0) rfl
  refine stp hA (r_rlen (xs:=0) U30 hI (j:=0) rfl hA rfl) rfl fun a hA =>
   stp hA (r_lss hA rfl rfl) rfl fun a hA=>?_
  refine o_nil<|hN6 _ _<|w_cond hA rfl (fun hc1=>?_) (fun hc1=>?_)
  ·obtain ⟨hc1,H⟩:=dT H hc1
   refine w_skip<|hN5 _ _<|w_seq fun _ hN7=>w_block<|w_reg<|stm hA rfl rfl fun a hA =>
    stm hA rfl rfl fun a hA =>
    stm hA rfl rfl fun a hA=>?_
   obtain ⟨hb1,H⟩:=bG H
   refine stp hA (r_rix (j:=0) U30 sz5 hI rfl hA rfl rfl hb1.1 hb1.2) rfl fun a hA=>?_
   have hq1:=els_get hE1 hb1.1 hb1.2
   refine stp hA (r_rld1 (j:=0) U5 rfl hI rfl hq1 hA rfl (by simp only [Nat.mul_one])) rfl fun a hA=>?_
   obtain ⟨hb2,H⟩:=bG H
   refine stp hA (r_ixar1 U24 sz5 hA rfl rfl hb2.1 hb2.2) rfl fun a hA =>
    o_stE (j:=2) [] [] sz5 ws2.1 hI rfl hA rfl rfl rfl (by omega) fun w hI=>?_
   refine o_nil<|hN7 _ _<|w_reg<|stm hA rfl rfl fun a hA =>
    stp hA (r_add hA rfl rfl) rfl fun a hA =>
    sta hA rfl rfl fun a hA=>?_
   refine o_nil<|⟨m1,lS _,IntKind.i64.wrap (s1+1),s2.set s1.toNat (r1.1.getD s1.toNat 0),H,(wrap_in _ _),(arr_set ws2 _ (getD_in (els_int_cs hE1).2 _)),hA.sub ⟨rfl,rfl,rfl,rfl,trivial⟩,hI⟩
  ·obtain ⟨hc1,H⟩:=dF H hc1
   refine w_exit rfl ?_
   have H:some s2=some z1:=H
   obtain rfl:=sI H
   have H:=Hk2
   cases sJ H
   exact ⟨ws2,hA.sub ⟨rfl,rfl,trivial⟩,hI⟩
 ·rintro a w ⟨wc1,hA,hI⟩
  have H:=Hk1
  refine w_seq fun _ hN8=>w_reg<|stp hA (r_ldA (j:=2) [] [av .u8 32 c1] [] U24 rfl sz24 rfl hI rfl hA rfl rfl) rfl fun a hA =>
   o_st (j:=3) [] [av .u8 32 Z32] [av .u8 32 c1] [] sz24 rfl rfl (fl_cons (one_av _ _ _) fl_nil) hI rfl hA rfl rfl rfl rfl fun w hI=>?_
  refine o_nil<|hN8 _ _<|w_ret ?_
  obtain rfl:=sJ H
  exact retc U24 rfl sz24 rfl hI (j:=3) rfl hA Tryz.results77 rfl ⟨_,rfl,vp2,μ1,rfl,wc1,hp3,hp4,(hI.sl [1] rfl)⟩
theorem q1R_Num.c (μ:Store)(w0:World)(hμ:Agr μ w0)(x0:q1Rd)(vp1:Value)(g0:Nat)(hp1:Slc (RI .u8) 1 μ vp1 x0.B)(hp2:InR .i64 x0.E)(ho0:Its μ w0 [cel g0 [[vp1],[.int .i64 x0.E]] 81])(x1:Int)(hx1:InR .u64 x1)(r:Int×q1Rd)(H:q1R_Num.f x0 x1=some r) :
  Calls Tryz.prog 37 [pt g0 0,.int .u64 x1].toArray w0 (fun e w'=>∃ v,e=.returned v∧∃(vp_1:Value)(μ':Store),v=.int .u64 (r.1)∧InR .u64 (r.1)∧Slc (RI .u8) 1 μ' vp_1 (r.2).B∧InR .i64 (r.2).E∧Iv w0 (many [cel g0 [[vp1],[.int .i64 x0.E]] 81]).foot μ μ' [cel g0 [[vp_1],[.int .i64 ((r.2).E)]] 81] w'):=by
 refine enter Tryz.func37 rfl Tryz.ntmps37 rfl fun a hA=>?_
 have hI:=Iv.startN hμ ho0
 have H:=bI H
 refine w_seq fun _ hN1=>w_reg<|sta hA rfl rfl fun a hA=>?_
 refine o_nil<|hN1 _ _<|w_seq fun _ hN2=>w_seq fun _ hN3=>w_reg<|stm hA rfl rfl fun a hA =>
  stp hA (r_nilc hA rfl) rfl fun a hA =>
  stp hA (r_fd (k:=1) U81 rfl sz3 hA rfl rfl) rfl fun a hA =>
  stp hA (r_ld1 (j:=0) [[vp1]] [] U3 rfl hI rfl hA rfl rfl) rfl fun a hA =>
  stp hA (r_neq hA rfl rfl) rfl fun a hA=>?_
 refine o_nil<|hN3 _ _<|w_cond hA rfl (fun hc1=>?_) (fun hc1=>?_)
 ·obtain ⟨hc1,H⟩:=dT H hc1
  refine w_seq fun _ hN4=>w_reg<|sta hA rfl rfl fun a hA=>?_
  refine o_nil<|hN4 _ _<|w_ret ?_
  obtain rfl:=sJ H
  exact ret1 hA Tryz.results37 rfl ⟨_,rfl,vp1,μ,rfl,(in_lit .u64 0 rfl),hp1,hp2,hI⟩
 ·obtain ⟨hc1,H⟩:=dF H hc1
  refine w_skip<|hN2 _ _<|w_seq fun _ hN5=>w_reg<|stm hA rfl rfl fun a hA=>?_
  obtain ⟨r1,hr1,H⟩:=bB H
  refine o_call _ cf78 hA rfl (q1R_num.c μ _ hI.agr x0 vp1 g0 hp1 hp2 (hI.handN 1) 1 (in_lit .i64 1 rfl) r1 hr1) rfl fun v1 a w hz1 hA=>?_
  obtain ⟨vp2,μ1,rfl,hw1,hp3,hp4,hi1⟩:=hz1
  have hI:=hI.back1 hi1
  refine sta hA rfl rfl fun a hA=>?_
  refine o_nil<|hN5 _ _<|w_seq fun _ hN6=>w_reg<|stm hA rfl rfl fun a hA =>
   sta hA rfl rfl fun a hA=>?_
  refine o_nil<|hN6 _ _ ?_
  obtain ⟨⟨c1,c2,c3⟩,hz2,Hk1⟩:=bB H
  refine w_cut (fun a w=>∃(μ2:Store)(vvc2:Value),μ1.le μ2∧InR .u64 c1∧Slc (RI .u8) 1 μ2 vvc2 c2∧InR .i64 c3∧Fr a 61 [(0,pt g0 0),(1,.int .u64 x1),(4,.int .u64 0),(5,.int .u64 r1.1),(6,.int .u64 c1)]∧Iv w0 (many [cel g0 [[vp1],[.int .i64 x0.E]] 81]).foot μ μ2 [cel g0 [[vvc2],[.int .i64 c3]] 81] w) ?_ ?_
  ·have H:=bI hz2
   refine w_seq fun _ hN7=>w_reg<|stm hA rfl rfl fun a hA=>?_
   refine o_nil<|hN7 _ _<|w_block<|w_seq fun _ hN8=>w_reg<|stp hA (r_eql hA rfl rfl) rfl fun a hA =>
    sta hA rfl rfl fun a hA=>?_
   refine o_nil<|hN8 _ _<|w_cond hA rfl (fun hc2=>?_) (fun hc2=>?_)
   ·obtain ⟨hc2,H⟩:=dT H hc2
    refine w_reg<|stm hA rfl rfl fun a hA=>?_
    obtain ⟨r2,hr2,H⟩:=bB H
    refine o_call _ cf78 hA rfl (q1R_num.c μ1 _ hI.agr r1.2 vp2 g0 hp3 hp4 (hI.handN 1) 2 (in_lit .i64 2 rfl) r2 hr2) rfl fun v2 a w hz3 hA=>?_
    obtain ⟨vp3,μ3,rfl,hw2,hp5,hp6,hi2⟩:=hz3
    have hI:=hI.back1 hi2
    refine sta hA rfl rfl fun a hA=>?_
    refine o_nil ?_
    cases sJ H
    exact ⟨μ3,vp3,hi2.le,hw2,hp5,hp6,hA.sub ⟨rfl,rfl,rfl,rfl,rfl,trivial⟩,hI⟩
   ·obtain ⟨hc2,H⟩:=dF H hc2
    refine w_seq fun _ hN9=>w_reg<|stp hA (r_eql hA rfl rfl) rfl fun a hA =>
     sta hA rfl rfl fun a hA=>?_
    refine o_nil<|hN9 _ _<|w_cond hA rfl (fun hc3=>?_) (fun hc3=>?_)
    ·obtain ⟨hc3,H⟩:=dT H hc3
     refine w_reg<|stm hA rfl rfl fun a hA=>?_
     obtain ⟨r3,hr3,H⟩:=bB H
     refine o_call _ cf78 hA rfl (q1R_num.c μ1 _ hI.agr r1.2 vp2 g0 hp3 hp4 (hI.handN 1) 4 (in_lit .i64 4 rfl) r3 hr3) rfl fun v3 a w hz4 hA=>?_
     obtain ⟨vp4,μ4,rfl,hw3,hp7,hp8,hi3⟩:=hz4
     have hI:=hI.back1 hi3
     refine sta hA rfl rfl fun a hA=>?_
     refine o_nil ?_
     cases sJ H
     exact ⟨μ4,vp4,hi3.le,hw3,hp7,hp8,hA.sub ⟨rfl,rfl,rfl,rfl,rfl,trivial⟩,hI⟩
    ·obtain ⟨hc3,H⟩:=dF H hc3
     refine w_seq fun _ hN10=>w_reg<|stp hA (r_eql hA rfl rfl) rfl fun a hA =>
      sta hA rfl rfl fun a hA=>?_
     refine o_nil<|hN10 _ _<|w_cond hA rfl (fun hc4=>?_) (fun hc4=>?_)
     ·obtain ⟨hc4,H⟩:=dT H hc4
      refine w_reg<|stm hA rfl rfl fun a hA=>?_
      obtain ⟨r4,hr4,H⟩:=bB H
      refine o_call _ cf78 hA rfl (q1R_num.c μ1 _ hI.agr r1.2 vp2 g0 hp3 hp4 (hI.handN 1) 8 (in_lit .i64 8 rfl) r4 hr4) rfl fun v4 a w hz5 hA=>?_
      obtain ⟨vp5,μ5,rfl,hw4,hp9,hp10,hi4⟩:=hz5
      have hI:=hI.back1 hi4
      refine sta hA rfl rfl fun a hA=>?_
      refine o_nil ?_
      cases sJ H
      exact ⟨μ5,vp5,hi4.le,hw4,hp9,hp10,hA.sub ⟨rfl,rfl,rfl,rfl,rfl,trivial⟩,hI⟩
     ·obtain ⟨hc4,H⟩:=dF H hc4
      refine w_skip ?_
      cases sJ H
      exact ⟨μ1,vp2,(Store.le.refl _),hw1,hp3,hp4,hA.sub ⟨rfl,rfl,rfl,rfl,rfl,trivial⟩,hI⟩
  ·rintro a w ⟨μ2,vvc2,hle1,wc1,wc2,wc3,hA,hI⟩
   have H:=Hk1
   refine w_seq fun _ hN11=>w_seq fun _ hN12=>w_reg<|stm hA rfl rfl fun a hA =>
    stp hA (r_nilc hA rfl) rfl fun a hA =>
    stp hA (r_fd (k:=1) U81 rfl sz3 hA rfl rfl) rfl fun a hA =>
    stp hA (r_ld1 (j:=0) [[vvc2]] [] U3 rfl hI rfl hA rfl rfl) rfl fun a hA =>
    stp hA (r_neq hA rfl rfl) rfl fun a hA=>?_
   refine o_nil<|hN12 _ _<|w_cond hA rfl (fun hc5=>?_) (fun hc5=>?_)
   ·obtain ⟨hc5,H⟩:=dT H hc5
    refine w_seq fun _ hN13=>w_reg<|sta hA rfl rfl fun a hA=>?_
    refine o_nil<|hN13 _ _<|w_ret ?_
    obtain rfl:=sJ H
    exact ret1 hA Tryz.results37 rfl ⟨_,rfl,vvc2,μ2,rfl,(in_lit .u64 0 rfl),wc2,wc3,hI⟩
   ·obtain ⟨hc5,H⟩:=dF H hc5
    refine w_skip<|hN11 _ _<|w_seq fun _ hN14=>w_reg<|sta hA rfl rfl fun a hA=>?_
    refine o_nil<|hN14 _ _ ?_
    obtain ⟨c4,hz6,Hk2⟩:=bB H
    refine w_cut (fun a w=>InR .i64 c4∧Fr a 61 [(0,pt g0 0),(1,.int .u64 x1),(4,.int .u64 0),(6,.int .u64 c1),(7,.int .i64 c4)]∧Iv w0 (many [cel g0 [[vp1],[.int .i64 x0.E]] 81]).foot μ μ2 [cel g0 [[vvc2],[.int .i64 c3]] 81] w) ?_ ?_
    ·have H:=bI hz6
     refine w_seq fun _ hN15=>w_reg<|stm hA rfl rfl fun a hA =>
      stp hA (r_geq hA rfl rfl) rfl fun a hA=>?_
     refine o_nil<|hN15 _ _<|w_cond hA rfl (fun hc6=>?_) (fun hc6=>?_)
     ·obtain ⟨hc6,H⟩:=dT H hc6
      refine w_reg<|stm hA rfl rfl fun a hA =>
       stp hA (r_sub hA rfl rfl) rfl fun a hA=>?_
      obtain ⟨hb1,H⟩:=bG H
      refine stp hA (r_shl hA rfl rfl hb1) rfl fun a hA =>
       stp hA (r_add hA rfl rfl) rfl fun a hA =>
       sta hA rfl rfl fun a hA=>?_
      refine o_nil ?_
      cases sJ H
      exact ⟨(wrap_in _ _),hA.sub ⟨rfl,rfl,rfl,rfl,rfl,trivial⟩,hI⟩
     ·obtain ⟨hc6,H⟩:=dF H hc6
      refine w_skip ?_
      cases sJ H
      exact ⟨(in_lit .i64 1 rfl),hA.sub ⟨rfl,rfl,rfl,rfl,rfl,trivial⟩,hI⟩
    ·rintro a w ⟨wc4,hA,hI⟩
     have H:=Hk2
     obtain ⟨c5,hz7,Hk3⟩:=bB H
     refine w_cut (fun a w=>InR .i64 c5∧Fr a 61 [(0,pt g0 0),(4,.int .u64 0),(6,.int .u64 c1)]∧Iv w0 (many [cel g0 [[vp1],[.int .i64 x0.E]] 81]).foot μ μ2 [cel g0 [[vvc2],[.int .i64 c5]] 81] w) ?_ ?_
     ·have H:=bI hz7
      refine w_block<|w_seq fun _ hN16=>w_reg<|stm hA rfl rfl fun a hA=>?_
      obtain ⟨r5,hr5,H⟩:=bB H
      refine o_callp (u:=.int .i64 r5) cf65 hA rfl hI (q1_Len.c μ2 _ hI.agr c1 wc1 r5 hr5) rfl fun a w hz8 hI hA =>
       stm hA rfl rfl fun a hA =>
       stp hA (r_neq hA rfl rfl) rfl fun a hA =>
       sta hA rfl rfl fun a hA=>?_
      refine o_nil<|hN16 _ _<|w_cond hA rfl (fun hc7=>?_) (fun hc7=>?_)
      ·obtain ⟨hc7,H⟩:=dT H hc7
       refine w_reg<|stm hA rfl rfl fun a hA =>
        stp hA (r_nilc hA rfl) rfl fun a hA =>
        stp hA (r_fd (k:=1) U81 rfl sz3 hA rfl rfl) rfl fun a hA =>
        o_st (j:=0) [[vvc2]] [[.int .i64 c3]] [[.int .i64 102]] [] sz3 rfl rfl (fO rfl fl_nil) hI rfl hA rfl rfl rfl rfl fun w hI=>?_
       refine o_nil ?_
       cases sJ H
       exact ⟨(in_lit .i64 102 rfl),hA.sub ⟨rfl,rfl,rfl,trivial⟩,hI⟩
      ·obtain ⟨hc7,H⟩:=dF H hc7
       refine w_seq fun _ hN17=>w_reg<|stm hA rfl rfl fun a hA =>
        stm hA rfl rfl fun a hA =>
        stp hA (r_gtr hA rfl rfl) rfl fun a hA =>
        sta hA rfl rfl fun a hA=>?_
       refine o_nil<|hN17 _ _<|w_cond hA rfl (fun hc8=>?_) (fun hc8=>?_)
       ·obtain ⟨hc8,H⟩:=dT H hc8
        refine w_reg<|stm hA rfl rfl fun a hA =>
         stp hA (r_nilc hA rfl) rfl fun a hA =>
         stp hA (r_fd (k:=1) U81 rfl sz3 hA rfl rfl) rfl fun a hA =>
         o_st (j:=0) [[vvc2]] [[.int .i64 c3]] [[.int .i64 104]] [] sz3 rfl rfl (fO rfl fl_nil) hI rfl hA rfl rfl rfl rfl fun w hI=>?_
        refine o_nil ?_
        cases sJ H
        exact ⟨(in_lit .i64 104 rfl),hA.sub ⟨rfl,rfl,rfl,trivial⟩,hI⟩
       ·obtain ⟨hc8,H⟩:=dF H hc8
        refine w_skip ?_
        cases sJ H
        exact ⟨wc3,hA.sub ⟨rfl,rfl,rfl,trivial⟩,hI⟩
     ·rintro a w ⟨wc5,hA,hI⟩
      have H:=Hk3
      refine w_seq fun _ hN18=>w_seq fun _ hN19=>w_reg<|stm hA rfl rfl fun a hA =>
       stp hA (r_nilc hA rfl) rfl fun a hA =>
       stp hA (r_fd (k:=1) U81 rfl sz3 hA rfl rfl) rfl fun a hA =>
       stp hA (r_ld1 (j:=0) [[vvc2]] [] U3 rfl hI rfl hA rfl rfl) rfl fun a hA =>
       stp hA (r_neq hA rfl rfl) rfl fun a hA=>?_
      refine o_nil<|hN19 _ _<|w_cond hA rfl (fun hc9=>?_) (fun hc9=>?_)
      ·obtain ⟨hc9,H⟩:=dT H hc9
       refine w_seq fun _ hN20=>w_reg<|sta hA rfl rfl fun a hA=>?_
       refine o_nil<|hN20 _ _<|w_ret ?_
       obtain rfl:=sJ H
       exact ret1 hA Tryz.results37 rfl ⟨_,rfl,vvc2,μ2,rfl,(in_lit .u64 0 rfl),wc2,wc5,hI⟩
      ·obtain ⟨hc9,H⟩:=dF H hc9
       refine w_skip<|hN18 _ _<|w_seq fun _ hN21=>w_reg<|stm hA rfl rfl fun a hA =>
        sta hA rfl rfl fun a hA=>?_
       refine o_nil<|hN21 _ _<|w_ret ?_
       obtain rfl:=sJ H
       exact ret1 hA Tryz.results37 rfl ⟨_,rfl,vvc2,μ2,rfl,wc1,wc2,wc5,hI⟩
theorem q1R_Bytes.c (μ:Store)(w0:World)(hμ:Agr μ w0)(x0:q1Rd)(vp1:Value)(g0:Nat)(hp1:Slc (RI .u8) 1 μ vp1 x0.B)(hp2:InR .i64 x0.E)(ho0:Its μ w0 [cel g0 [[vp1],[.int .i64 x0.E]] 81])(x1:Int)(hx1:InR .i64 x1)(r:(List Int)×q1Rd)(H:q1R_Bytes.f x0 x1=some r) :
  Calls Tryz.prog 79 [pt g0 0,.int .i64 x1].toArray w0 (fun e w'=>∃ v,e=.returned v∧∃(v0:Value)(c0:List Value)(vp_1:Value)(μ':Store),v=v0∧Els (RI .u8) 1 (r.1) c0∧Slc (RI .u8) 1 μ' vp_1 (r.2).B∧InR .i64 (r.2).E∧Iv w0 (many [cel g0 [[vp1],[.int .i64 x0.E]] 81]).foot μ μ' [row 5 1 v0 (r.1).length c0,cel g0 [[vp_1],[.int .i64 ((r.2).E)]] 81] w'):=by
 refine enter Tryz.func79 rfl Tryz.ntmps79 rfl fun a hA=>?_
 have hI:=Iv.startN hμ ho0
 have H:=bI H
 refine w_seq fun _ hN1=>w_reg<|sta hA rfl rfl fun a hA=>?_
 refine o_nil<|hN1 _ _<|w_seq fun _ hN2=>w_reg<|stm hA rfl rfl fun a hA =>
  stm hA rfl rfl fun a hA=>?_
 obtain ⟨r1,hr1,H⟩:=bB H
 refine o_call _ cf103 hA rfl (q1R_take.c μ _ hI.agr x0 vp1 g0 hp1 hp2 (hI.handN 1) x1 hx1 r1 hr1) rfl fun v1 a w hz1 hA=>?_
 obtain ⟨_,cs1,vp2,μ1,rfl,hE1,hp3,hp4,hi1⟩:=hz1
 have hI:=hI.backN 1 hi1
 have hI:Iv w0 (many [cel g0 [[vp1],[.int .i64 x0.E]] 81]).foot μ μ1 [row 5 1 v1 r1.1.length cs1,cel g0 [[vp2],[.int .i64 r1.2.E]] 81] w:=hI
 refine sta hA rfl rfl fun a hA=>?_
 refine o_nil<|hN2 _ _<|w_ret ?_
 obtain rfl:=sJ H
 exact ret1 hA Tryz.results79 rfl ⟨_,rfl,v1,cs1,vp2,μ1,rfl,hE1,hp3,hp4,hI⟩
theorem q1R_Eight.c (μ:Store)(w0:World)(hμ:Agr μ w0)(x0:q1Rd)(vp1:Value)(g0:Nat)(hp1:Slc (RI .u8) 1 μ vp1 x0.B)(hp2:InR .i64 x0.E)(ho0:Its μ w0 [cel g0 [[vp1],[.int .i64 x0.E]] 81])(r:Int×q1Rd)(H:q1R_Eight.f x0=some r) :
  Calls Tryz.prog 80 [pt g0 0].toArray w0 (fun e w'=>∃ v,e=.returned v∧∃(vp_1:Value)(μ':Store),v=.int .u64 (r.1)∧InR .u64 (r.1)∧Slc (RI .u8) 1 μ' vp_1 (r.2).B∧InR .i64 (r.2).E∧Iv w0 (many [cel g0 [[vp1],[.int .i64 x0.E]] 81]).foot μ μ' [cel g0 [[vp_1],[.int .i64 ((r.2).E)]] 81] w'):=by
 refine enter Tryz.func80 rfl Tryz.ntmps80 rfl fun a hA=>?_
 have hI:=Iv.startN hμ ho0
 have H:=bI H
 refine w_seq fun _ hN1=>w_reg<|sta hA rfl rfl fun a hA=>?_
 refine o_nil<|hN1 _ _<|w_seq fun _ hN2=>w_reg<|stm hA rfl rfl fun a hA=>?_
 obtain ⟨r1,hr1,H⟩:=bB H
 refine o_call _ cf78 hA rfl (q1R_num.c μ _ hI.agr x0 vp1 g0 hp1 hp2 (hI.handN 1) 8 (in_lit .i64 8 rfl) r1 hr1) rfl fun v1 a w hz1 hA=>?_
 obtain ⟨vp2,μ1,rfl,hw1,hp3,hp4,hi1⟩:=hz1
 have hI:=hI.back1 hi1
 refine sta hA rfl rfl fun a hA=>?_
 refine o_nil<|hN2 _ _<|w_ret ?_
 obtain rfl:=sJ H
 exact ret1 hA Tryz.results80 rfl ⟨_,rfl,vp2,μ1,rfl,hw1,hp3,hp4,hI⟩
theorem q1_Sum.c (μ:Store)(w0:World)(hμ:Agr μ w0)(x0:List Int)(u0:Value)(hx0:Slc (RI .u64) 1 μ u0 x0)(r:Int×Bool)(H:q1_Sum.f x0=some r) :
  Calls Tryz.prog 94 [u0].toArray w0 (fun e w'=>∃ v,e=.returned v∧v=.tuple #[.int .u64 r.1,.bool r.2]∧(InR .u64 r.1∧True)∧Iv w0 [] μ μ [] w'):=by
 refine enter Tryz.func94 rfl Tryz.ntmps94 rfl fun a hA=>?_
 have hI:=Iv.start hμ
 have H:=bI H
 refine w_seq fun _ hN1=>w_reg<|sta hA rfl rfl fun a hA =>
  sta hA rfl rfl fun a hA=>?_
 refine o_nil<|hN1 _ _<|w_seq fun _ hN2=>w_reg<|sta hA rfl rfl fun a hA=>?_
 refine o_nil<|hN2 _ _<|w_seq fun _ hN3=>w_seq fun _ hN4=>w_reg<|sta hA rfl rfl fun a hA=>?_
 refine o_nil<|hN4 _ _<|w_block ?_
 obtain ⟨z1,hz1,Hk1⟩:=bind_some H
 obtain ⟨n1,hn1⟩:=loopO_some hz1
 refine w_loop (fun n a w=>∃(s1 s2:Int),loopN (q1_Sum.s0 x0) n (s1,s2)=some z1∧InR .u64 s1∧InR .i64 s2∧Fr a 33 [(0,u0),(2,.int .u64 0),(3,.bool false),(4,.int .u64 s1),(5,.int .i64 s2)]∧Iv w0 [] μ μ [] w) n1 ⟨0,0,hn1,(in_lit .u64 0 rfl),(in_lit .i64 0 rfl),hA.sub ⟨rfl,rfl,rfl,rfl,rfl,trivial⟩,hI⟩ ?_
 clear hA hI
 rintro n a w ⟨s1,s2,hn1,ws1,ws2,hA,hI⟩
 obtain ⟨m1,rfl,H⟩:=loopN_bind hn1
 clear hn1
 refine w_seq fun _ hN5=>w_seq fun _ hN6=>w_reg<|stm hA rfl rfl fun a hA =>
  stm hA rfl rfl fun a hA=>?_
 obtain ⟨_,hsl1⟩:=Slc.sv hx0
 refine stp hA (r_slen U129 hsl1 hA rfl) rfl fun a hA =>
  stp hA (r_lss hA rfl rfl) rfl fun a hA=>?_
 refine o_nil<|hN6 _ _<|w_cond hA rfl (fun hc1=>?_) (fun hc1=>?_)
 ·obtain ⟨hc1,H⟩:=dT H hc1
  refine w_skip<|hN5 _ _<|w_seq fun _ hN7=>w_block<|w_seq fun _ hN8=>?_
  obtain ⟨c1,hz2,Hk2⟩:=bB H
  refine w_cut (fun a w=>Fr a 33 [(0,u0),(2,.int .u64 0),(3,.bool false),(4,.int .u64 s1),(5,.int .i64 s2),(9,.bool (decide (s2 < (x0.length:Int)))),(25,.bool c1)]∧Iv w0 [] μ μ [] w) ?_ ?_
  ·have H:=bI hz2
   refine w_reg<|stm hA rfl rfl fun a hA =>
    stm hA rfl rfl fun a hA=>?_
   obtain ⟨hb1,H⟩:=bG H
   obtain ⟨_,he1,_,hat1⟩:=Slc.elem1 hx0 (getD_some 0 hb1.1 hb1.2)
   obtain ⟨rfl,hw1⟩:=he1
   obtain ⟨_,hsl2⟩:=Slc.sv hx0
   refine stp hA (r_six1 U129 sz70 hsl2 hA rfl rfl hb1.1 hb1.2) rfl fun a hA =>
    stp hA (r_ldm1 [] [] U70 rfl hI.agr hat1 hA rfl rfl) rfl fun a hA =>
    stp hA (r_gtr hA rfl rfl) rfl fun a hA =>
    stm hA rfl rfl fun a hA=>?_
   rcases Bool.eq_false_or_eq_true (decide (2100000000000000 < (x0.getD s2.toNat 0))) with hc2 | hc2
   ·have hc20:=hc2;obtain ⟨hc2,H⟩:=dT H hc2
    refine o_no hA rfl rfl (by rw [hc20];simp [vb]) rfl fun a hA =>
     o_no hA rfl rfl (by rw [hc20];simp [vb]) rfl fun a hA =>
     o_no hA rfl rfl (by rw [hc20];simp [vb]) rfl fun a hA =>
     o_no hA rfl rfl (by rw [hc20];simp [vb]) rfl fun a hA =>
     o_no hA rfl rfl (by rw [hc20];simp [vb]) rfl fun a hA =>
     o_no hA rfl rfl (by rw [hc20];simp [vb]) rfl fun a hA =>
     o_no hA rfl rfl (by rw [hc20];simp [vb]) rfl fun a hA =>
     stp hA (r_pick_t hA rfl hc20 rfl) rfl fun a hA=>?_
    refine o_nil ?_
    cases sJ H
    exact ⟨hA.sub ⟨rfl,rfl,rfl,rfl,rfl,rfl,rfl,trivial⟩,hI⟩
   ·have hc20:=hc2;obtain ⟨hc2,H⟩:=dF H hc2
    refine o_yes hA rfl rfl hc20 <|
     stm hA rfl rfl fun a hA =>
     o_yes hA rfl rfl hc20 <|
     stm hA rfl rfl fun a hA =>
     o_yes hA rfl rfl hc20 <|
     stm hA rfl rfl fun a hA =>
     o_yes hA rfl rfl hc20 <|
     stp hA (r_six1 U129 sz70 hsl2 hA rfl rfl hb1.1 hb1.2) rfl fun a hA =>
     o_yes hA rfl rfl hc20 <|
     stp hA (r_ldm1 [] [] U70 rfl hI.agr hat1 hA rfl rfl) rfl fun a hA =>
     o_yes hA rfl rfl hc20 <|
     stp hA (r_add hA rfl rfl) rfl fun a hA =>
     o_yes hA rfl rfl hc20 <|
     stp hA (r_gtr hA rfl rfl) rfl fun a hA =>
     stp hA (r_pick_f hA rfl hc20 rfl) rfl fun a hA=>?_
    refine o_nil ?_
    cases sJ H
    exact ⟨hA.sub ⟨rfl,rfl,rfl,rfl,rfl,rfl,rfl,trivial⟩,hI⟩
  ·rintro a w ⟨hA,hI⟩
   have H:=Hk2
   refine w_cond hA rfl (fun hc3=>?_) (fun hc3=>?_)
   ·have H:=bT H hc3
    refine w_seq fun _ hN9=>w_reg<|sta hA rfl rfl fun a hA =>
     sta hA rfl rfl fun a hA=>?_
    refine o_nil<|hN9 _ _<|w_ret ?_
    have H:some (0,false)=some z1:=H
    obtain rfl:=sI H
    have H:=Hk1
    obtain rfl:=sJ H
    exact ret2 hA Tryz.results94 rfl rfl ⟨_,rfl,rfl,⟨(in_lit .u64 0 rfl),trivial⟩,hI.forget0⟩
   ·have hc3:=ft hc3;have H:=bF H hc3
    refine w_skip<|hN8 _ _<|w_reg<|stm hA rfl rfl fun a hA =>
     stm hA rfl rfl fun a hA =>
     stm hA rfl rfl fun a hA=>?_
    obtain ⟨hb2,H⟩:=bG H
    obtain ⟨_,he2,_,hat2⟩:=Slc.elem1 hx0 (getD_some 0 hb2.1 hb2.2)
    obtain ⟨rfl,hw2⟩:=he2
    obtain ⟨_,hsl3⟩:=Slc.sv hx0
    refine stp hA (r_six1 U129 sz70 hsl3 hA rfl rfl hb2.1 hb2.2) rfl fun a hA =>
     stp hA (r_ldm1 [] [] U70 rfl hI.agr hat2 hA rfl rfl) rfl fun a hA =>
     stp hA (r_add hA rfl rfl) rfl fun a hA =>
     sta hA rfl rfl fun a hA=>?_
    refine o_nil<|hN7 _ _<|w_reg<|stm hA rfl rfl fun a hA =>
     stp hA (r_add hA rfl rfl) rfl fun a hA =>
     sta hA rfl rfl fun a hA=>?_
    refine o_nil<|⟨m1,lS _,IntKind.u64.wrap (s1+(x0.getD s2.toNat 0)),IntKind.i64.wrap (s2+1),H,(wrap_in _ _),(wrap_in _ _),hA.sub ⟨rfl,rfl,rfl,rfl,rfl,trivial⟩,hI⟩
 ·obtain ⟨hc1,H⟩:=dF H hc1
  refine w_exit rfl<|hN3 _ _<|w_seq fun _ hN10=>w_reg<|stm hA rfl rfl fun a hA =>
   sta hA rfl rfl fun a hA =>
   sta hA rfl rfl fun a hA=>?_
  refine o_nil<|hN10 _ _<|w_ret ?_
  have H:some (s1,true)=some z1:=H
  obtain rfl:=sI H
  have H:=Hk1
  obtain rfl:=sJ H
  exact ret2 hA Tryz.results94 rfl rfl ⟨_,rfl,rfl,⟨ws1,trivial⟩,hI.forget0⟩
def digest_begin.f:Option (List Int):=some ([1779033703,3144134277,1013904242,2773480762,1359893119,2600822924,528734635,1541459225])
def dW_state.f (x0:dWr):Option (List Int):=(if x0.n < 64 then ((digest_begin.f).bind fun r1=>some r1) else some x0.s)
def digest_turn.f (x0 x1:Int):Option Int:=((math_bits_RotateLeft32.f x0 (IntKind.i64.wrap (0 - x1))).bind fun r1=>some r1)
def digest_spread.s0 (x0:List Int):(Int×(List Int))→Option ((Int×(List Int))⊕(List Int)):=fun (s1,s2)=>(if s1 < 64 then (((if s1 < 16 then (if 0≤(IntKind.i64.wrap (4 * s1))∧(IntKind.i64.wrap (4 * s1))≤(x0.length:Int) then (if 0 < (((x0.take ((x0.length:Int)).toNat).drop (IntKind.i64.wrap (4 * s1)).toNat).length:Int) then (if 1 < (((x0.take ((x0.length:Int)).toNat).drop (IntKind.i64.wrap (4 * s1)).toNat).length:Int) then (if 2 < (((x0.take ((x0.length:Int)).toNat).drop (IntKind.i64.wrap (4 * s1)).toNat).length:Int) then (if 3 < (((x0.take ((x0.length:Int)).toNat).drop (IntKind.i64.wrap (4 * s1)).toNat).length:Int) then (if 0≤s1∧s1 < 64 then some (s2.set s1.toNat (bOr .u32 (bOr .u32 (bOr .u32 (sL .u32 (IntKind.u32.wrap (((x0.take ((x0.length:Int)).toNat).drop (IntKind.i64.wrap (4 * s1)).toNat).getD (0:Int).toNat 0)) 24) (sL .u32 (IntKind.u32.wrap (((x0.take ((x0.length:Int)).toNat).drop (IntKind.i64.wrap (4 * s1)).toNat).getD (1:Int).toNat 0)) 16)) (sL .u32 (IntKind.u32.wrap (((x0.take ((x0.length:Int)).toNat).drop (IntKind.i64.wrap (4 * s1)).toNat).getD (2:Int).toNat 0)) 8)) (IntKind.u32.wrap (((x0.take ((x0.length:Int)).toNat).drop (IntKind.i64.wrap (4 * s1)).toNat).getD (3:Int).toNat 0)))) else none) else none) else none) else none) else none) else none) else (if 0≤IntKind.i64.wrap (s1 - 2)∧IntKind.i64.wrap (s1 - 2) < 64 then (if 0≤IntKind.i64.wrap (s1 - 15)∧IntKind.i64.wrap (s1 - 15) < 64 then (if 0≤IntKind.i64.wrap (s1 - 7)∧IntKind.i64.wrap (s1 - 7) < 64 then (if 0≤IntKind.i64.wrap (s1 - 16)∧IntKind.i64.wrap (s1 - 16) < 64 then ((digest_turn.f (s2.getD (IntKind.i64.wrap (s1 - 2)).toNat 0) 17).bind fun r1=>((digest_turn.f (s2.getD (IntKind.i64.wrap (s1 - 2)).toNat 0) 19).bind fun r2=>((digest_turn.f (s2.getD (IntKind.i64.wrap (s1 - 15)).toNat 0) 7).bind fun r3=>((digest_turn.f (s2.getD (IntKind.i64.wrap (s1 - 15)).toNat 0) 18).bind fun r4=>(if 0≤s1∧s1 < 64 then some (s2.set s1.toNat (IntKind.u32.wrap ((IntKind.u32.wrap ((IntKind.u32.wrap ((bXor .u32 (bXor .u32 r1 r2) (sR .u32 (s2.getD (IntKind.i64.wrap (s1 - 2)).toNat 0) 10))+(s2.getD (IntKind.i64.wrap (s1 - 7)).toNat 0)))+(bXor .u32 (bXor .u32 r3 r4) (sR .u32 (s2.getD (IntKind.i64.wrap (s1 - 15)).toNat 0) 3))))+(s2.getD (IntKind.i64.wrap (s1 - 16)).toNat 0)))) else none))))) else none) else none) else none) else none))).bind fun c2=>some (.inl (IntKind.i64.wrap (s1+1),c2))) else some (.inr s2))
noncomputable def digest_spread.f (x0:List Int):Option (List Int):=((loopO (digest_spread.s0 x0) (0,(List.replicate 64 0))).bind fun c1=>some c1)
def digest_keys.lit0:List Int:=[1116352408,1899447441,3049323471,3921009573,961987163,1508970993,2453635748,2870763221,3624381080,310598401,607225278,1426881987,1925078388,2162078206,2614888103,3248222580,3835390401,4022224774,264347078,604807628,770255983,1249150122,1555081692,1996064986,2554220882,2821834349,2952996808,3210313671,3336571891,3584528711,113926993,338241895,666307205,773529912,1294757372,1396182291,1695183700,1986661051,2177026350,2456956037,2730485921,2820302411,3259730800,3345764771,3516065817,3600352804,4094571909,275423344,430227734,506948616,659060556,883997877,958139571,1322822218,1537002063,1747873779,1955562222,2024104815,2227730452,2361852424,2428436474,2756734187,3204031479,3329325298]
theorem digest_keys.lit0_in:∀ x∈digest_keys.lit0,InR .u32 x:=all_in (by kernel_rfl)
def digest_keys.f:Option (List Int):=some digest_keys.lit0
def digest_mix.s1 (c1:List Int):(Int×(List Int))→Option ((Int×(List Int))⊕(List Int)):=fun (s3,s4)=>(if s3 < 8 then (if 0≤s3∧s3 < 8 then some (.inl (IntKind.i64.wrap (s3+1),s4.set s3.toNat (IntKind.u32.wrap ((s4.getD s3.toNat 0)+(c1.getD s3.toNat 0))))) else none) else some (.inr s4))
def digest_mix.s0 (r1 r2:List Int):(Int×(List Int))→Option ((Int×(List Int))⊕(List Int)):=fun (s1,s2)=>(if s1 < 64 then ((digest_turn.f (s2.getD (4:Int).toNat 0) 6).bind fun r3=>((digest_turn.f (s2.getD (4:Int).toNat 0) 11).bind fun r4=>((digest_turn.f (s2.getD (4:Int).toNat 0) 25).bind fun r5=>(if 0≤s1∧s1 < 64 then ((digest_turn.f (s2.getD (0:Int).toNat 0) 2).bind fun r6=>((digest_turn.f (s2.getD (0:Int).toNat 0) 13).bind fun r7=>((digest_turn.f (s2.getD (0:Int).toNat 0) 22).bind fun r8=>some (.inl (IntKind.i64.wrap (s1+1),([IntKind.u32.wrap ((IntKind.u32.wrap ((IntKind.u32.wrap ((IntKind.u32.wrap ((IntKind.u32.wrap ((s2.getD (7:Int).toNat 0)+(bXor .u32 (bXor .u32 r3 r4) r5)))+(bXor .u32 (bAnd .u32 (s2.getD (4:Int).toNat 0) (s2.getD (5:Int).toNat 0)) (bAnd .u32 (bNot .u32 (s2.getD (4:Int).toNat 0)) (s2.getD (6:Int).toNat 0)))))+(r2.getD s1.toNat 0)))+(r1.getD s1.toNat 0)))+(IntKind.u32.wrap ((bXor .u32 (bXor .u32 r6 r7) r8)+(bXor .u32 (bXor .u32 (bAnd .u32 (s2.getD (0:Int).toNat 0) (s2.getD (1:Int).toNat 0)) (bAnd .u32 (s2.getD (0:Int).toNat 0) (s2.getD (2:Int).toNat 0))) (bAnd .u32 (s2.getD (1:Int).toNat 0) (s2.getD (2:Int).toNat 0)))))),s2.getD (0:Int).toNat 0,s2.getD (1:Int).toNat 0,s2.getD (2:Int).toNat 0,IntKind.u32.wrap ((s2.getD (3:Int).toNat 0)+(IntKind.u32.wrap ((IntKind.u32.wrap ((IntKind.u32.wrap ((IntKind.u32.wrap ((s2.getD (7:Int).toNat 0)+(bXor .u32 (bXor .u32 r3 r4) r5)))+(bXor .u32 (bAnd .u32 (s2.getD (4:Int).toNat 0) (s2.getD (5:Int).toNat 0)) (bAnd .u32 (bNot .u32 (s2.getD (4:Int).toNat 0)) (s2.getD (6:Int).toNat 0)))))+(r2.getD s1.toNat 0)))+(r1.getD s1.toNat 0)))),s2.getD (4:Int).toNat 0,s2.getD (5:Int).toNat 0,s2.getD (6:Int).toNat 0]:List Int)))))) else none)))) else some (.inr s2))
noncomputable def digest_mix.f (x0 x1:List Int):Option (List Int):=((digest_spread.f x1).bind fun r1=>((digest_keys.f).bind fun r2=>((loopO (digest_mix.s0 r1 r2) (0,x0)).bind fun c1=>((loopO (digest_mix.s1 c1) (0,x0)).bind fun c2=>some c2))))
noncomputable def dW_Write.s0:(Int×(List Int)×(List Int))→Option ((Int×(List Int)×(List Int))⊕(Int×(List Int)×(List Int))):=fun (s1,s2,s3)=>(if (IntKind.i64.wrap (s1+64))≤(s3.length:Int) then (if 0≤s1∧s1≤(IntKind.i64.wrap (s1+64))∧(IntKind.i64.wrap (s1+64))≤(s3.length:Int) then ((digest_mix.f s2 ((s3.take (IntKind.i64.wrap (s1+64)).toNat).drop (s1).toNat)).bind fun r2=>some (.inl (IntKind.i64.wrap (s1+64),r2,s3))) else none) else some (.inr (s1,s2,s3)))
noncomputable def dW_Write.f (x0:dWr)(x1:List Int):Option dWr:=((dW_state.f (⟨x0.s,x0.rest,x0.n⟩:dWr)).bind fun r1=>(if x0.rest.length+x1.length≤140737488355328 then ((loopO (dW_Write.s0) (0,r1,x0.rest++x1)).bind fun (c1,c2,c3)=>(if 0≤c1∧c1≤(c3.length:Int) then ((bytes_Clone.f ((c3.take ((c3.length:Int)).toNat).drop (c1).toNat)).bind fun r3=>some (⟨c2,r3,IntKind.i64.wrap (x0.n+(x1.length:Int))⟩:dWr)) else none)) else none))
def dW_Sum.s4 (c4:List Int)(s7:Int):(Int×(List Int))→Option ((Int×(List Int))⊕(List Int)):=fun (s9,s10)=>(if s9 < 4 then (if 0≤(IntKind.i64.wrap (24 - (IntKind.i64.wrap (8 * s9)))) then (if 0≤IntKind.i64.wrap ((IntKind.i64.wrap (4 * s7))+s9)∧IntKind.i64.wrap ((IntKind.i64.wrap (4 * s7))+s9) < 32 then some (.inl (IntKind.i64.wrap (s9+1),s10.set (IntKind.i64.wrap ((IntKind.i64.wrap (4 * s7))+s9)).toNat (IntKind.u8.wrap (sR .u32 (c4.getD s7.toNat 0) (IntKind.i64.wrap (24 - (IntKind.i64.wrap (8 * s9)))))))) else none) else none) else some (.inr s10))
noncomputable def dW_Sum.s3 (c4:List Int):(Int×(List Int))→Option ((Int×(List Int))⊕(List Int)):=fun (s7,s8)=>(if s7 < 8 then (((if 0≤s7∧s7 < 8 then loopO (dW_Sum.s4 c4 s7) (0,s8) else none)).bind fun c6=>some (.inl (IntKind.i64.wrap (s7+1),c6))) else some (.inr s8))
noncomputable def dW_Sum.s2:((List Int)×Int×(List Int))→Option (((List Int)×Int×(List Int))⊕((List Int)×(List Int))):=fun (s4,s5,s6)=>(if s5 < (s4.length:Int) then (if 0≤s5∧s5≤(IntKind.i64.wrap (s5+64))∧(IntKind.i64.wrap (s5+64))≤(s4.length:Int) then ((digest_mix.f s6 ((s4.take (IntKind.i64.wrap (s5+64)).toNat).drop (s5).toNat)).bind fun r3=>some (.inl (s4,IntKind.i64.wrap (s5+64),r3))) else none) else some (.inr (s4,s6)))
def dW_Sum.s1 (x0:dWr):((List Int)×Int)→Option (((List Int)×Int)⊕(List Int)):=fun (s2,s3)=>(if 0≤s3 then (if 0≤(IntKind.i64.wrap (8 * s3)) then (if s2.length+1≤140737488355328 then some (.inl (s2++([IntKind.u8.wrap (sR .u64 (sL .u64 (IntKind.u64.wrap x0.n) 3) (IntKind.i64.wrap (8 * s3)))]:List Int),IntKind.i64.wrap (s3 - 1))) else none) else none) else some (.inr s2))
def dW_Sum.s0:(List Int)→Option ((List Int)⊕(List Int)):=fun s1=>(if (Int.tmod (s1.length:Int) 64)≠56 then (if s1.length+1≤140737488355328 then some (.inl (s1++([0]:List Int))) else none) else some (.inr s1))
noncomputable def dW_Sum.f (x0:dWr):Option (List Int):=((bytes_Clone.f x0.rest).bind fun r1=>(if r1.length+1≤140737488355328 then ((loopO (dW_Sum.s0) (r1++([128]:List Int))).bind fun c1=>((loopO (dW_Sum.s1 x0) (c1,7)).bind fun c2=>((dW_state.f (⟨x0.s,x0.rest,x0.n⟩:dWr)).bind fun r2=>((loopO (dW_Sum.s2) (c2,0,r2)).bind fun (c3,c4)=>((loopO (dW_Sum.s3 c4) (0,(List.replicate 32 0))).bind fun c5=>some c5))))) else none))
noncomputable def digest_Sha.f (x0:List Int):Option (List Int):=((dW_Write.f (⟨(List.replicate 8 0),[],0⟩:dWr) x0).bind fun r1=>((dW_Sum.f (⟨r1.s,r1.rest,r1.n⟩:dWr)).bind fun r2=>some r2))
noncomputable def digest_Twice.f (x0:List Int):Option (List Int):=((digest_Sha.f x0).bind fun r1=>((digest_Sha.f r1).bind fun r2=>some r2))
def q1_k.lit0:List Int:=[1116352408,1899447441,3049323471,3921009573,961987163,1508970993,2453635748,2870763221,3624381080,310598401,607225278,1426881987,1925078388,2162078206,2614888103,3248222580,3835390401,4022224774,264347078,604807628,770255983,1249150122,1555081692,1996064986,2554220882,2821834349,2952996808,3210313671,3336571891,3584528711,113926993,338241895,666307205,773529912,1294757372,1396182291,1695183700,1986661051,2177026350,2456956037,2730485921,2820302411,3259730800,3345764771,3516065817,3600352804,4094571909,275423344,430227734,506948616,659060556,883997877,958139571,1322822218,1537002063,1747873779,1955562222,2024104815,2227730452,2361852424,2428436474,2756734187,3204031479,3329325298]
theorem q1_k.lit0_in:∀ x∈q1_k.lit0,InR .u32 x:=all_in (by kernel_rfl)
def q1_k.f:Option (List Int):=some q1_k.lit0
def q1_right.f (x0 x1:Int):Option Int:=(if 0≤x1 then (if 0≤(IntKind.u64.wrap (32 - x1)) then some (bOr .u32 (sR .u32 x0 x1) (sL .u32 x0 (IntKind.u64.wrap (32 - x1)))) else none) else none)
def q1_Sha.s6 (c3:List Int):(Int×(List Int))→Option ((Int×(List Int))⊕(List Int)):=fun (s12,s13)=>(if s12 < 32 then (if 0≤IntKind.i64.wrap (Int.tdiv s12 4)∧IntKind.i64.wrap (Int.tdiv s12 4) < (c3.length:Int) then (if 0≤(IntKind.u64.wrap (IntKind.i64.wrap (24 - (IntKind.i64.wrap (8 * (Int.tmod s12 4)))))) then (if 0≤s12∧s12 < 32 then some (.inl (IntKind.i64.wrap (s12+1),s13.set s12.toNat (IntKind.u8.wrap (sR .u32 (c3.getD (IntKind.i64.wrap (Int.tdiv s12 4)).toNat 0) (IntKind.u64.wrap (IntKind.i64.wrap (24 - (IntKind.i64.wrap (8 * (Int.tmod s12 4)))))))))) else none) else none) else none) else some (.inr s13))
def q1_Sha.s5 (c7:List Int):(Int×(List Int))→Option ((Int×(List Int))⊕(List Int)):=fun (s10,s11)=>(if s10 < 8 then (if 0≤s10∧s10 < (s11.length:Int) then (if 0≤s10∧s10 < (c7.length:Int) then some (.inl (IntKind.i64.wrap (s10+1),s11.set s10.toNat (IntKind.u32.wrap ((s11.getD s10.toNat 0)+(c7.getD s10.toNat 0))))) else none) else none) else some (.inr s11))
def q1_Sha.s4 (r2 c5:List Int):((List Int)×Int)→Option (((List Int)×Int)⊕(List Int)):=fun (s8,s9)=>(if s9 < 64 then (if 4 < (s8.length:Int) then (if 0 < (s8.length:Int) then (if 7 < (s8.length:Int) then ((q1_right.f (s8.getD (4:Int).toNat 0) 6).bind fun r7=>((q1_right.f (s8.getD (4:Int).toNat 0) 11).bind fun r8=>((q1_right.f (s8.getD (4:Int).toNat 0) 25).bind fun r9=>(if 5 < (s8.length:Int) then (if 6 < (s8.length:Int) then (if 0≤s9∧s9 < (r2.length:Int) then (if 0≤s9∧s9 < (c5.length:Int) then ((q1_right.f (s8.getD (0:Int).toNat 0) 2).bind fun r10=>((q1_right.f (s8.getD (0:Int).toNat 0) 13).bind fun r11=>((q1_right.f (s8.getD (0:Int).toNat 0) 22).bind fun r12=>(if 1 < (s8.length:Int) then (if 2 < (s8.length:Int) then (if 3 < (s8.length:Int) then some (.inl (([IntKind.u32.wrap ((IntKind.u32.wrap ((IntKind.u32.wrap ((IntKind.u32.wrap ((IntKind.u32.wrap ((s8.getD (7:Int).toNat 0)+(bXor .u32 (bXor .u32 r7 r8) r9)))+(bXor .u32 (bAnd .u32 (s8.getD (4:Int).toNat 0) (s8.getD (5:Int).toNat 0)) (bAnd .u32 (bNot .u32 (s8.getD (4:Int).toNat 0)) (s8.getD (6:Int).toNat 0)))))+(r2.getD s9.toNat 0)))+(c5.getD s9.toNat 0)))+(IntKind.u32.wrap ((bXor .u32 (bXor .u32 r10 r11) r12)+(bXor .u32 (bXor .u32 (bAnd .u32 (s8.getD (0:Int).toNat 0) (s8.getD (1:Int).toNat 0)) (bAnd .u32 (s8.getD (0:Int).toNat 0) (s8.getD (2:Int).toNat 0))) (bAnd .u32 (s8.getD (1:Int).toNat 0) (s8.getD (2:Int).toNat 0)))))),s8.getD (0:Int).toNat 0,s8.getD (1:Int).toNat 0,s8.getD (2:Int).toNat 0,IntKind.u32.wrap ((s8.getD (3:Int).toNat 0)+(IntKind.u32.wrap ((IntKind.u32.wrap ((IntKind.u32.wrap ((IntKind.u32.wrap ((s8.getD (7:Int).toNat 0)+(bXor .u32 (bXor .u32 r7 r8) r9)))+(bXor .u32 (bAnd .u32 (s8.getD (4:Int).toNat 0) (s8.getD (5:Int).toNat 0)) (bAnd .u32 (bNot .u32 (s8.getD (4:Int).toNat 0)) (s8.getD (6:Int).toNat 0)))))+(r2.getD s9.toNat 0)))+(c5.getD s9.toNat 0)))),s8.getD (4:Int).toNat 0,s8.getD (5:Int).toNat 0,s8.getD (6:Int).toNat 0]:List Int),IntKind.i64.wrap (s9+1))) else none) else none) else none)))) else none) else none) else none) else none)))) else none) else none) else none) else some (.inr s8))
def q1_Sha.s3 (c2:List Int)(s4:Int):(Int×(List Int))→Option ((Int×(List Int))⊕(List Int)):=fun (s6,s7)=>(if s6 < 64 then (((if s6 < 16 then (if 0≤IntKind.i64.wrap (s4+(IntKind.i64.wrap (4 * s6)))∧IntKind.i64.wrap (s4+(IntKind.i64.wrap (4 * s6))) < (c2.length:Int) then (if 0≤IntKind.i64.wrap ((IntKind.i64.wrap (s4+(IntKind.i64.wrap (4 * s6))))+1)∧IntKind.i64.wrap ((IntKind.i64.wrap (s4+(IntKind.i64.wrap (4 * s6))))+1) < (c2.length:Int) then (if 0≤IntKind.i64.wrap ((IntKind.i64.wrap (s4+(IntKind.i64.wrap (4 * s6))))+2)∧IntKind.i64.wrap ((IntKind.i64.wrap (s4+(IntKind.i64.wrap (4 * s6))))+2) < (c2.length:Int) then (if 0≤IntKind.i64.wrap ((IntKind.i64.wrap (s4+(IntKind.i64.wrap (4 * s6))))+3)∧IntKind.i64.wrap ((IntKind.i64.wrap (s4+(IntKind.i64.wrap (4 * s6))))+3) < (c2.length:Int) then (if 0≤s6∧s6 < (s7.length:Int) then some (s7.set s6.toNat (bOr .u32 (bOr .u32 (bOr .u32 (sL .u32 (IntKind.u32.wrap (c2.getD (IntKind.i64.wrap (s4+(IntKind.i64.wrap (4 * s6)))).toNat 0)) 24) (sL .u32 (IntKind.u32.wrap (c2.getD (IntKind.i64.wrap ((IntKind.i64.wrap (s4+(IntKind.i64.wrap (4 * s6))))+1)).toNat 0)) 16)) (sL .u32 (IntKind.u32.wrap (c2.getD (IntKind.i64.wrap ((IntKind.i64.wrap (s4+(IntKind.i64.wrap (4 * s6))))+2)).toNat 0)) 8)) (IntKind.u32.wrap (c2.getD (IntKind.i64.wrap ((IntKind.i64.wrap (s4+(IntKind.i64.wrap (4 * s6))))+3)).toNat 0)))) else none) else none) else none) else none) else none) else (if 0≤IntKind.i64.wrap (s6 - 15)∧IntKind.i64.wrap (s6 - 15) < (s7.length:Int) then (if 0≤IntKind.i64.wrap (s6 - 2)∧IntKind.i64.wrap (s6 - 2) < (s7.length:Int) then (if 0≤IntKind.i64.wrap (s6 - 16)∧IntKind.i64.wrap (s6 - 16) < (s7.length:Int) then (if 0≤IntKind.i64.wrap (s6 - 7)∧IntKind.i64.wrap (s6 - 7) < (s7.length:Int) then ((q1_right.f (s7.getD (IntKind.i64.wrap (s6 - 15)).toNat 0) 7).bind fun r3=>((q1_right.f (s7.getD (IntKind.i64.wrap (s6 - 15)).toNat 0) 18).bind fun r4=>((q1_right.f (s7.getD (IntKind.i64.wrap (s6 - 2)).toNat 0) 17).bind fun r5=>((q1_right.f (s7.getD (IntKind.i64.wrap (s6 - 2)).toNat 0) 19).bind fun r6=>(if 0≤s6∧s6 < (s7.length:Int) then some (s7.set s6.toNat (IntKind.u32.wrap ((IntKind.u32.wrap ((IntKind.u32.wrap ((s7.getD (IntKind.i64.wrap (s6 - 16)).toNat 0)+(bXor .u32 (bXor .u32 r3 r4) (sR .u32 (s7.getD (IntKind.i64.wrap (s6 - 15)).toNat 0) 3))))+(s7.getD (IntKind.i64.wrap (s6 - 7)).toNat 0)))+(bXor .u32 (bXor .u32 r5 r6) (sR .u32 (s7.getD (IntKind.i64.wrap (s6 - 2)).toNat 0) 10))))) else none))))) else none) else none) else none) else none))).bind fun c6=>some (.inl (IntKind.i64.wrap (s6+1),c6))) else some (.inr s7))
noncomputable def q1_Sha.s2 (c2 r2:List Int):(Int×(List Int))→Option ((Int×(List Int))⊕(List Int)):=fun (s4,s5)=>(if s4 < (c2.length:Int) then (((if 0≤(64:Int)∧(64:Int)≤64∧64≤35184372088832 then ((loopO (q1_Sha.s3 c2 s4) (0,(List.replicate ((64:Int).toNat) 0:List Int))).bind fun c5=>(if 0+s5.length≤35184372088832 then ((loopO (q1_Sha.s4 r2 c5) (([]:List Int)++s5,0)).bind fun c7=>loopO (q1_Sha.s5 c7) (0,s5)) else none)) else none)).bind fun c4=>some (.inl (IntKind.i64.wrap (s4+64),c4))) else some (.inr s5))
def q1_Sha.s1 (x0:List Int):((List Int)×Int)→Option (((List Int)×Int)⊕(List Int)):=fun (s2,s3)=>(if 0≤s3 then (if 0≤(IntKind.u64.wrap (IntKind.i64.wrap (8 * s3))) then (if s2.length+1≤140737488355328 then some (.inl (s2++([IntKind.u8.wrap (sR .u64 (IntKind.u64.wrap (8 * (IntKind.u64.wrap (x0.length:Int)))) (IntKind.u64.wrap (IntKind.i64.wrap (8 * s3))))]:List Int),IntKind.i64.wrap (s3 - 1))) else none) else none) else some (.inr s2))
def q1_Sha.s0:(List Int)→Option ((List Int)⊕(List Int)):=fun s1=>(if (Int.tmod (s1.length:Int) 64)≠56 then (if s1.length+1≤140737488355328 then some (.inl (s1++([0]:List Int))) else none) else some (.inr s1))
noncomputable def q1_Sha.f (x0:List Int):Option (List Int):=((q0_Bytes.f x0).bind fun r1=>(if r1.length+1≤140737488355328 then ((loopO (q1_Sha.s0) (r1++([128]:List Int))).bind fun c1=>((loopO (q1_Sha.s1 x0) (c1,7)).bind fun c2=>((q1_k.f).bind fun r2=>((loopO (q1_Sha.s2 c2 r2) (0,([1779033703,3144134277,1013904242,2773480762,1359893119,2600822924,528734635,1541459225]:List Int))).bind fun c3=>((loopO (q1_Sha.s6 c3) (0,(List.replicate 32 0))).bind fun c8=>some c8))))) else none))
noncomputable def q1_Twice.f (x0:List Int):Option (List Int):=((q1_Sha.f x0).bind fun r1=>((q1_Sha.f r1).bind fun r2=>some r2))
end Go.Proofs.YticejmbhhehfdaaGreatDoor.T
