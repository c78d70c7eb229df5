/- Proved: the statement BlockSays, as given (its conditions are those of the given row, and card where there is one; no others): the call ends, with true, and the input reads as it did. This file is one of its parts. -/
import Derived.Test.YticejmbhhehfdaaGreatDoorPBlockSays5
namespace Go.Proofs.YticejmbhhehfdaaGreatDoor.T
open Go Go.Proofs Go.Proofs.YticejmbhhehfdaaGreatDoor.K
set_option linter.unusedVariables false
set_option linter.unusedSimpArgs false
noncomputable def block_IDs.s0 (x0:Block):((List (List Int))×Int)→Option (((List (List Int))×Int)⊕(List (List Int))):=fun (s1,s2)=>(if s2 < (x0.Txs.length:Int) then (if 0≤s2∧s2 < (x0.Txs.length:Int) then ((tx_ID.f (x0.Txs.getD s2.toNat default)).bind fun r1=>(if s1.length+1≤4398046511104 then some (.inl (s1++([r1]:List (List Int)),IntKind.i64.wrap (s2+1))) else none)) else none) else some (.inr s1))
noncomputable def block_IDs.f (x0:Block):Option (List (List Int)):=((loopO (block_IDs.s0 x0) ([],0)).bind fun c1=>some c1)
noncomputable def block_Bytes.s0 (x0:Block):((List Int)×Int)→Option (((List Int)×Int)⊕(List Int)):=fun (s1,s2)=>(if s2 < (x0.Txs.length:Int) then (if 0≤s2∧s2 < (x0.Txs.length:Int) then ((tx_Bytes.f (x0.Txs.getD s2.toNat default)).bind fun r3=>(if s1.length+r3.length≤140737488355328 then some (.inl (s1++r3,IntKind.i64.wrap (s2+1))) else none)) else none) else some (.inr s1))
noncomputable def block_Bytes.f (x0:Block):Option (List Int):=((head_Bytes.f x0.Head).bind fun r1=>((compact_Put.f r1 (IntKind.u64.wrap (x0.Txs.length:Int))).bind fun r2=>((loopO (block_Bytes.s0 x0) (r2,0)).bind fun c1=>some c1)))
noncomputable def block_Size.f (x0:Block):Option Int:=((block_Bytes.f x0).bind fun r1=>some (r1.length:Int))
noncomputable def block_Root.f (x0:Block):Option (List Int):=((block_IDs.f x0).bind fun r1=>((merkle_Root.f r1).bind fun r2=>some r2))
def block_parts.s1 (x0:Block):Int→Option (Int⊕(Int⊕Er)):=fun s2=>(if s2 < (x0.Txs.length:Int) then (if 0≤s2∧s2 < (x0.Txs.length:Int) then ((tx_Base.f (x0.Txs.getD s2.toNat default)).bind fun r2=>(if r2≠(decide (s2=0)) then some (.inr (.inr (Er.pl s2 xErrBase))) else some (.inl (IntKind.i64.wrap (s2+1))))) else none) else some (.inr (.inr (Er.b 0))))
noncomputable def block_parts.s0 (x0:Block):Int→Option (Int⊕Er):=fun s1=>(if s1 < (x0.Txs.length:Int) then (if 0≤s1∧s1 < (x0.Txs.length:Int) then ((tx_Check.f (x0.Txs.getD s1.toNat default)).bind fun r1=>(if r1≠(Er.b 0) then some (.inr (Er.pl s1 r1)) else some (.inl (IntKind.i64.wrap (s1+1))))) else none) else loopO (block_parts.s1 x0) 0)
noncomputable def block_parts.f (x0:Block):Option Er:=loopO (block_parts.s0 x0) 0
def block_twice.s1 (x0:Block)(r1:List (List Int))(s1:Int)(s3:List ((List Int)×Bool)):(Int×(List (Point×Bool)))→Option ((Int×(List (Point×Bool)))⊕((Int×(List (Point×Bool))×(List ((List Int)×Bool)))⊕Bool)):=fun (s4,s5)=>(if s4 < (((x0.Txs.getD s1.toNat default).Ins).length:Int) then (if 0≤s4∧s4 < (((x0.Txs.getD s1.toNat default).Ins).length:Int) then (if ((mget s5 ((((x0.Txs.getD s1.toNat default).Ins).getD s4.toNat default).From)).getD false)=true then some (.inr (.inr true)) else some (.inl (IntKind.i64.wrap (s4+1),mput s5 ((((x0.Txs.getD s1.toNat default).Ins).getD s4.toNat default).From) true))) else none) else some (.inr (.inl (IntKind.i64.wrap (s1+1),s5,mput s3 (r1.getD s1.toNat []) true))))
noncomputable def block_twice.s0 (x0:Block)(r1:List (List Int)):(Int×(List (Point×Bool))×(List ((List Int)×Bool)))→Option ((Int×(List (Point×Bool))×(List ((List Int)×Bool)))⊕Bool):=fun (s1,s2,s3)=>(if s1 < (r1.length:Int) then (if 0≤s1∧s1 < (r1.length:Int) then (if ((mget s3 (r1.getD s1.toNat [])).getD false)=true then some (.inr true) else (if 0≤s1∧s1 < (x0.Txs.length:Int) then loopO (block_twice.s1 x0 r1 s1 s3) (0,s2) else none)) else none) else some (.inr false))
noncomputable def block_twice.f (x0:Block):Option Bool:=((block_IDs.f x0).bind fun r1=>loopO (block_twice.s0 x0 r1) (0,([]:List (Point×Bool)),([]:List ((List Int)×Bool))))
noncomputable def block_Check.f (x0:Block):Option Er:=((head_Check.f x0.Head).bind fun r1=>(if r1≠(Er.b 0) then some r1 else (((if (x0.Txs.length:Int)=0 then some true else some (decide (200 < (x0.Txs.length:Int))))).bind fun c1=>(if c1=true then some xErrMany else ((block_Size.f x0).bind fun r2=>(if 20000 < r2 then some xErrLong else ((block_parts.f x0).bind fun r3=>(if r3≠(Er.b 0) then some r3 else ((block_twice.f x0).bind fun r4=>(if r4=true then some xErrTwice else ((block_Root.f x0).bind fun r5=>(if ¬ (r5=x0.Head.Root) then some xErrRoot else some (Er.b 0)))))))))))))
noncomputable def block_First.f (x0 x1:Int)(x2 x3:List Int):Option Tx:=((compact_Four.f ([]) (IntKind.u32.wrap x0)).bind fun r1=>((slices_Concat_byte_byte.f ([r1,x3]:List (List Int))).bind fun r2=>((((spend_Null.f).bind fun r3=>some (r2,1,([(⟨r3,r2,4294967295⟩:In)]:List In),([(⟨x1,x2⟩:Out)]:List Out)))).bind fun (c1,c2,c3,c4)=>some (⟨c2,c3,c4,0⟩:Tx))))
noncomputable def block_Start.f:Option Block:=((spend_Lock.f ([])).bind fun r1=>((block_First.f 0 0 r1 ([])).bind fun r2=>((block_Root.f (⟨(⟨1,(List.replicate 32 0),(List.replicate 32 0),1000,1,0⟩:Head),([r2]:List Tx)⟩:Block)).bind fun r3=>some (⟨(⟨1,(List.replicate 32 0),r3,1000,1,0⟩:Head),([r2]:List Tx)⟩:Block))))
noncomputable def block_Read.s0 (r3:Int×cRd):(Int×(List Int)×Int×Er×(List Tx))→Option ((Int×(List Int)×Int×Er×(List Tx))⊕((List Tx)×(List Int)×Int×Er)):=fun (s1,s2,s3,s4,s5)=>(if s1 < r3.1 then ((tx_Take.f (⟨s2,s3,s4⟩:cRd)).bind fun r4=>(if s5.length+1≤2199023255552 then some (.inl (IntKind.u64.wrap (s1+1),r4.2.b,r4.2.at_,r4.2.err,s5++([r4.1]:List Tx))) else none)) else some (.inr (s5,s2,s3,s4)))
noncomputable def block_Read.f (x0:List Int):Option (Block×Er):=((compact_Read.f x0).bind fun r1=>((head_Take.f r1).bind fun r2=>((((cR_Num.f r2.2 200).bind fun r3=>loopO (block_Read.s0 r3) (0,r3.2.b,r3.2.at_,r3.2.err,[]))).bind fun (c1,c2,c3,c4)=>((cR_Err.f (⟨c2,c3,c4⟩:cRd)).bind fun r5=>(if r5≠(Er.b 0) then ((cR_Err.f (⟨c2,c3,c4⟩:cRd)).bind fun r6=>some ((⟨(⟨0,(List.replicate 32 0),(List.replicate 32 0),0,0,0⟩:Head),[]⟩:Block),r6)) else ((cR_Left.f (⟨c2,c3,c4⟩:cRd)).bind fun r7=>(if 0 < r7 then ((some xErrShape).bind fun c5=>some ((⟨(⟨0,(List.replicate 32 0),(List.replicate 32 0),0,0,0⟩:Head),[]⟩:Block),c5)) else some ((⟨r2.1,c1⟩:Block),(Er.b 0)))))))))
noncomputable def block_ID.f (x0:Block):Option (List Int):=((head_ID.f x0.Head).bind fun r1=>some r1)
noncomputable def block_Clone.f (x0:Block):Option Block:=((tx_Clones.f x0.Txs).bind fun r1=>some (⟨x0.Head,r1⟩:Block))
set_option maxRecDepth 20000
theorem block_IDs.c (μ:Store)(w0:World)(hμ:Agr μ w0)(x0:Block)(u0_0:Value)(hx0:BlockW μ x0 u0_0)(r:List (List Int))(H:block_IDs.f x0=some r) :
  Calls Tryz.prog 19 [.agg [[.int .u32 x0.Head.Version],av .u8 32 x0.Head.Prev,av .u8 32 x0.Head.Root,[.int .u32 x0.Head.Time],[.int .u32 x0.Head.Work],[.int .u32 x0.Head.Nonce],[u0_0]].flatten.toArray].toArray w0 (fun e w'=>∃ v,e=.returned v∧∃(v0:Value)(c0:List Value),v=v0∧Els (RA .u8 32) 32 r c0∧Iv w0 [] μ μ [row 24 32 v0 r.length c0] w'):=by
 refine enter Tryz.func19 rfl Tryz.ntmps19 rfl fun a hA=>?_
 have hI:=Iv.start hμ
 have H:=bI H
 refine w_seq fun _ hN1=>w_reg<|o_box [[.int .u32 x0.Head.Version],av .u8 32 x0.Head.Prev,av .u8 32 x0.Head.Root,[.int .u32 x0.Head.Time],[.int .u32 x0.Head.Work],[.int .u32 x0.Head.Nonce],[u0_0]] hI hA rfl rfl rfl fun g1 a w hA hI hg1 =>
  sta hA rfl rfl fun a hA=>?_
 refine o_nil<|hN1 _ _<|w_seq fun _ hN2=>w_reg<|sta hA rfl rfl fun a hA=>?_
 refine o_nil<|hN2 _ _ ?_
 obtain ⟨c1,hz1,Hk1⟩:=bB H
 refine w_cut (fun a w=>∃(vvc1:Value)(ccc1:List Value),Els (RA .u8 32) 32 c1 ccc1∧Fr a 20 [(2,Sn),(3,vvc1)]∧Iv w0 [] μ μ [row 24 32 vvc1 c1.length ccc1,cel g1 [[.int .u32 x0.Head.Version],av .u8 32 x0.Head.Prev,av .u8 32 x0.Head.Root,[.int .u32 x0.Head.Time],[.int .u32 x0.Head.Work],[.int .u32 x0.Head.Nonce],[u0_0]] 29] w) ?_ ?_
 ·have H:=bI hz1
  refine w_seq fun _ hN3=>w_reg<|stp hA (r_fd (k:=68) U29 rfl sz27 hA rfl rfl) rfl fun a hA =>
   stp hA (r_ld1 (j:=0) [[.int .u32 x0.Head.Version],av .u8 32 x0.Head.Prev,av .u8 32 x0.Head.Root,[.int .u32 x0.Head.Time],[.int .u32 x0.Head.Work],[.int .u32 x0.Head.Nonce]] [] U27 rfl hI rfl hA rfl rfl) rfl fun a hA=>?_
  obtain ⟨_,hsl1⟩:=Slc.sv hx0.2.2.2.2.2.2
  refine stp hA (r_slen U27 hsl1 hA rfl) rfl fun a hA =>
   stm hA rfl rfl fun a hA=>?_
  refine o_nil<|hN3 _ _<|w_block ?_
  have hI:=hI.nilRow 24 32
  obtain ⟨z1,hz2,Hk2⟩:=bind_some H
  obtain ⟨n1,hn1⟩:=loopO_some hz2
  refine w_loop (fun n a w=>∃(s1:List (List Int))(s2:Int)(vvs1:Value)(ccs1:List Value),loopN (block_IDs.s0 x0) n (s1,s2)=some z1∧Els (RA .u8 32) 32 s1 ccs1∧InR .i64 s2∧Fr a 20 [(2,Sn),(3,vvs1),(7,u0_0),(8,.int .i64 (x0.Txs.length:Int)),(9,.int .i64 s2)]∧Iv w0 [] μ μ [row 24 32 vvs1 s1.length ccs1,cel g1 [[.int .u32 x0.Head.Version],av .u8 32 x0.Head.Prev,av .u8 32 x0.Head.Root,[.int .u32 x0.Head.Time],[.int .u32 x0.Head.Work],[.int .u32 x0.Head.Nonce],[u0_0]] 29] w) n1 ⟨[],0,Sn,[],hn1,(Els.nil (RE:=(RA .u8 32)) (sz:=32)),(in_lit .i64 0 rfl),hA.sub ⟨rfl,rfl,rfl,rfl,rfl,trivial⟩,hI⟩ ?_
  clear hA hI
  rintro n a w ⟨s1,s2,vvs1,ccs1,hn1,ws1,ws2,hA,hI⟩
  obtain ⟨m1,rfl,H⟩:=loopN_bind hn1
  clear hn1
  refine w_seq fun _ hN4=>w_reg<|stp hA (r_lss hA rfl rfl) rfl fun a hA=>?_
  refine o_nil<|hN4 _ _<|w_seq fun _ hN5=>w_cond hA rfl (fun hc1=>?_) (fun hc1=>?_)
  ·obtain ⟨hc1,H⟩:=dT H hc1
   refine w_skip<|hN5 _ _<|w_seq fun _ hN6=>w_block<|w_seq fun _ hN7=>w_reg ?_
   obtain ⟨hb1,H⟩:=bG H
   obtain ⟨_,he1,_,hat1⟩:=Slc.elem hx0.2.2.2.2.2.2 (getD_some default hb1.1 hb1.2)
   obtain ⟨v1,v2,rfl,hw1⟩:=he1
   obtain ⟨_,hsl2⟩:=Slc.sv hx0.2.2.2.2.2.2
   refine stp hA (r_six U27 sz63 hsl2 hA rfl rfl hb1.1 hb1.2) rfl fun a hA =>
    stp hA (r_ldmA [] [[.int .u32 ((x0.Txs.getD s2.toNat default).Version)],[v1],[v2],[.int .u32 ((x0.Txs.getD s2.toNat default).Time)]] [] U63 rfl sz63 rfl hI.agr hat1 hA rfl rfl) rfl fun a hA =>
    o_new [[.int .u32 0],[Sn],[Sn],[.int .u32 0]] zr63 hI hA rfl fun g2 a w hA hI hg2=>?_
   obtain ⟨_,hsl3⟩:=Slc.sv hw1.2.1
   obtain ⟨_,hsl4⟩:=Slc.sv hw1.2.2.1
   refine o_st (j:=0) [] [[.int .u32 0],[Sn],[Sn],[.int .u32 0]] [[.int .u32 ((x0.Txs.getD s2.toNat default).Version)],[v1],[v2],[.int .u32 ((x0.Txs.getD s2.toNat default).Time)]] [] sz63 rfl rfl (fO rfl (fl_cons (one_one (one_sl hsl3)) (fl_cons (one_one (one_sl hsl4)) (fO rfl fl_nil)))) hI rfl hA rfl rfl rfl rfl fun w hI=>?_
   refine o_nil<|hN7 _ _<|w_reg<|stm hA rfl rfl fun a hA =>
    stp hA (r_ldA (j:=0) [] [[.int .u32 ((x0.Txs.getD s2.toNat default).Version)],[v1],[v2],[.int .u32 ((x0.Txs.getD s2.toNat default).Time)]] [] U63 rfl sz63 rfl hI rfl hA rfl rfl) rfl fun a hA=>?_
   obtain ⟨r1,hr1,H⟩:=bB H
   refine o_callp (u:=.agg [av .u8 32 r1].flatten.toArray) cf47 hA rfl hI (tx_ID.c μ _ hI.agr (x0.Txs.getD s2.toNat default) v1 v2 ⟨hw1.1,hw1.2.1,hw1.2.2.1,hw1.2.2.2⟩ r1 hr1) rfl fun a w hz3 hI hA=>?_
   have hE1:Els (RA .u8 32) 32 ([r1]:List (List Int)) _:=(Els.cons (c:=[av .u8 32 r1].flatten) ⟨rfl,hz3⟩ rfl Els.nil)
   refine o_bsl ([av .u8 32 r1].flatten++([])) te24 zr24 U46 hI hA rfl rfl rfl rfl (by kernel_rfl) rfl fun g3 a w hA hI=>?_
   generalize hcs:([av .u8 32 r1].flatten++([]):List Value)=cs1 at hE1 hI
   clear hcs
   obtain ⟨hb2,H⟩:=bG H
   have hE3:=ws1.app hE1
   refine o_appG (xs:=(s1:List (List Int))) (ys:=(([r1]:List (List Int)):List (List Int))) (M:=4398046511104) 2 te24 U46 hI rfl hA rfl rfl (src_row hI (j:=0) rfl) hE1.len (hE1.ones (one_RA _ _)) hb2 rfl fun v3 a w hA hI =>
    sta hA rfl rfl fun a hA=>?_
   refine o_nil<|hN6 _ _<|w_reg<|stp hA (r_add hA rfl rfl) rfl fun a hA =>
    stm hA rfl rfl fun a hA=>?_
   refine o_nil<|⟨m1,lS _,s1++([r1]:List (List Int)),IntKind.i64.wrap (s2+1),v3,ccs1++cs1,H,hE3,(wrap_in _ _),hA.sub ⟨rfl,rfl,rfl,rfl,rfl,trivial⟩,(hI.sl [2,3] rfl)⟩
  ·obtain ⟨hc1,H⟩:=dF H hc1
   refine w_exit rfl ?_
   have H:some s1=some z1:=H
   obtain rfl:=sI H
   have H:=Hk2
   cases sJ H
   exact ⟨vvs1,ccs1,ws1,hA.sub ⟨rfl,rfl,trivial⟩,hI⟩
 ·rintro a w ⟨vvc1,ccc1,wc1,hA,hI⟩
  have H:=Hk1
  refine w_seq fun _ hN8=>w_reg<|stm hA rfl rfl fun a hA =>
   sta hA rfl rfl fun a hA=>?_
  refine o_nil<|hN8 _ _<|w_ret ?_
  obtain rfl:=sJ H
  exact ret1 hA Tryz.results19 rfl ⟨_,rfl,vvc1,ccc1,rfl,wc1,((hI.sl [0] rfl).less (Store.le.refl _) hI.le)⟩
theorem block_Bytes.c (μ:Store)(w0:World)(hμ:Agr μ w0)(x0:Block)(u0_0:Value)(hx0:BlockW μ x0 u0_0)(r:List Int)(H:block_Bytes.f x0=some r) :
  Calls Tryz.prog 10 [.agg [[.int .u32 x0.Head.Version],av .u8 32 x0.Head.Prev,av .u8 32 x0.Head.Root,[.int .u32 x0.Head.Time],[.int .u32 x0.Head.Work],[.int .u32 x0.Head.Nonce],[u0_0]].flatten.toArray].toArray w0 (fun e w'=>∃ v,e=.returned v∧∃(v0:Value)(c0:List Value),v=v0∧Els (RI .u8) 1 r c0∧Iv w0 [] μ μ [row 5 1 v0 r.length c0] w'):=by
 refine enter Tryz.func10 rfl Tryz.ntmps10 rfl fun a hA=>?_
 have hI:=Iv.start hμ
 have H:=bI H
 refine w_seq fun _ hN1=>w_reg<|o_box [[.int .u32 x0.Head.Version],av .u8 32 x0.Head.Prev,av .u8 32 x0.Head.Root,[.int .u32 x0.Head.Time],[.int .u32 x0.Head.Work],[.int .u32 x0.Head.Nonce],[u0_0]] hI hA rfl rfl rfl fun g1 a w hA hI hg1 =>
  sta hA rfl rfl fun a hA=>?_
 refine o_nil<|hN1 _ _<|w_seq fun _ hN2=>?_
 refine w_any [] mo hI fun w hI=>?_
 refine gE 0 hA rfl (.inr hI) (fun _=>r_fd (k:=0) U29 rfl sz26 hA rfl rfl) fun a hA=>?_
 refine gT 1 hA rfl hI (fun w hI=>r_ldA (j:=0) [] [[.int .u32 x0.Head.Version],av .u8 32 x0.Head.Prev,av .u8 32 x0.Head.Root,[.int .u32 x0.Head.Time],[.int .u32 x0.Head.Work],[.int .u32 x0.Head.Nonce]] [[u0_0]] U26 rfl sz26 rfl hI rfl hA rfl rfl) fun a hA=>?_
 refine gE 3 hA rfl (.inr hI) (fun _=>r_fd (k:=68) U29 rfl sz27 hA rfl rfl) fun a hA=>?_
 refine gT 4 hA rfl hI (fun w hI=>r_ld1 (j:=0) [[.int .u32 x0.Head.Version],av .u8 32 x0.Head.Prev,av .u8 32 x0.Head.Root,[.int .u32 x0.Head.Time],[.int .u32 x0.Head.Work],[.int .u32 x0.Head.Nonce]] [] U27 rfl hI rfl hA rfl rfl) fun a hA=>?_
 obtain ⟨_,hsl1⟩:=Slc.sv hx0.2.2.2.2.2.2
 refine gE 5 hA rfl (.inr hI) (fun _=>r_slen U27 hsl1 hA rfl) fun a hA=>?_
 refine gE 6 hA rfl (.inr hI) (fun _=>r_conv U3 U70 hA rfl) fun a hA=>?_
 refine gF 2 rfl ?_
 obtain ⟨r1,hr1,H⟩:=bB H
 refine o_call _ cf40 hA rfl (head_Bytes.c μ _ hI.agr x0.Head ⟨hx0.1,hx0.2.1,hx0.2.2.1,hx0.2.2.2.1,hx0.2.2.2.2.1,hx0.2.2.2.2.2.1⟩ r1 hr1) rfl fun v1 a w hz1 hA=>?_
 obtain ⟨_,cs1,rfl,hE1,hi1⟩:=hz1
 have hI:=hI.call hi1
 refine o_nil<|⟨(.inr (hI.sl [1] rfl)),?_⟩
 refine gF 7 rfl ?_
 obtain ⟨r2,hr2,H⟩:=bB H
 refine o_call (fun v w'=>∃(v0:Value)(c0:List Value),v=v0∧Els (RI .u8) 1 r2 c0∧Iv w [] μ μ [row 5 1 v0 r2.length c0] w') cf39 hA rfl ((by obtain ⟨μ1,hle1,hsv1,hI⟩:=hI.freezeRow 0 rfl;have hS1:Slc (RI .u8) 1 μ1 v1 r1:=⟨_,hE1,hsv1⟩;exact (compact_Put.c μ1 _ hI.agr r1 v1 hS1 (IntKind.u64.wrap (x0.Txs.length:Int)) (wrap_in _ _) r2 hr2).mono fun _ _ ⟨v,he,b0,b1,hv,f0,hi⟩=>⟨v,he,b0,b1,hv,f0,hi.low hle1⟩)) rfl fun v2 a w hz2 hA=>?_
 obtain ⟨_,cs2,rfl,hE2,hi2⟩:=hz2
 have hI:=hI.call hi2
 refine o_nil<|⟨(.inr (hI.sl [2] rfl)),?_⟩
 refine gE 8 hA rfl (.inr (hI.sl [2] rfl)) (fun _=>r_as hA rfl) fun a hA=>?_
 refine gN<|hN2 _ _ ?_
 obtain ⟨c1,hz3,Hk1⟩:=bB H
 refine w_cut (fun a w=>∃(vvc1:Value)(ccc1:List Value),Els (RI .u8) 1 c1 ccc1∧Fr a 27 [(2,Sn),(3,vvc1)]∧Iv w0 [] μ μ [row 5 1 vvc1 c1.length ccc1,row 5 1 v1 r1.length cs1,cel g1 [[.int .u32 x0.Head.Version],av .u8 32 x0.Head.Prev,av .u8 32 x0.Head.Root,[.int .u32 x0.Head.Time],[.int .u32 x0.Head.Work],[.int .u32 x0.Head.Nonce],[u0_0]] 29] w) ?_ ?_
 ·have H:=bI hz3
  refine w_seq fun _ hN3=>w_reg<|stp hA (r_fd (k:=68) U29 rfl sz27 hA rfl rfl) rfl fun a hA =>
   stp hA (r_ld1 (j:=2) [[.int .u32 x0.Head.Version],av .u8 32 x0.Head.Prev,av .u8 32 x0.Head.Root,[.int .u32 x0.Head.Time],[.int .u32 x0.Head.Work],[.int .u32 x0.Head.Nonce]] [] U27 rfl hI rfl hA rfl rfl) rfl fun a hA=>?_
  obtain ⟨_,hsl2⟩:=Slc.sv hx0.2.2.2.2.2.2
  refine stp hA (r_slen U27 hsl2 hA rfl) rfl fun a hA =>
   stm hA rfl rfl fun a hA=>?_
  refine o_nil<|hN3 _ _<|w_block ?_
  obtain ⟨z1,hz4,Hk2⟩:=bind_some H
  obtain ⟨n1,hn1⟩:=loopO_some hz4
  refine w_loop (fun n a w=>∃(s1:List Int)(s2:Int)(vvs1:Value)(ccs1:List Value),loopN (block_Bytes.s0 x0) n (s1,s2)=some z1∧Els (RI .u8) 1 s1 ccs1∧InR .i64 s2∧Fr a 27 [(2,Sn),(3,vvs1),(15,u0_0),(16,.int .i64 (x0.Txs.length:Int)),(17,.int .i64 s2)]∧Iv w0 [] μ μ [row 5 1 vvs1 s1.length ccs1,row 5 1 v1 r1.length cs1,cel g1 [[.int .u32 x0.Head.Version],av .u8 32 x0.Head.Prev,av .u8 32 x0.Head.Root,[.int .u32 x0.Head.Time],[.int .u32 x0.Head.Work],[.int .u32 x0.Head.Nonce],[u0_0]] 29] w) n1 ⟨r2,0,v2,cs2,hn1,hE2,(in_lit .i64 0 rfl),hA.sub ⟨rfl,rfl,rfl,rfl,rfl,trivial⟩,hI⟩ ?_
  clear hA hI
  rintro n a w ⟨s1,s2,vvs1,ccs1,hn1,ws1,ws2,hA,hI⟩
  obtain ⟨m1,rfl,H⟩:=loopN_bind hn1
  clear hn1
  refine w_seq fun _ hN4=>w_reg<|stp hA (r_lss hA rfl rfl) rfl fun a hA=>?_
  refine o_nil<|hN4 _ _<|w_seq fun _ hN5=>w_cond hA rfl (fun hc1=>?_) (fun hc1=>?_)
  ·obtain ⟨hc1,H⟩:=dT H hc1
   refine w_skip<|hN5 _ _<|w_seq fun _ hN6=>w_block<|w_seq fun _ hN7=>w_reg ?_
   obtain ⟨hb1,H⟩:=bG H
   obtain ⟨_,he1,_,hat1⟩:=Slc.elem hx0.2.2.2.2.2.2 (getD_some default hb1.1 hb1.2)
   obtain ⟨v3,v4,rfl,hw1⟩:=he1
   obtain ⟨_,hsl3⟩:=Slc.sv hx0.2.2.2.2.2.2
   refine stp hA (r_six U27 sz63 hsl3 hA rfl rfl hb1.1 hb1.2) rfl fun a hA =>
    stp hA (r_ldmA [] [[.int .u32 ((x0.Txs.getD s2.toNat default).Version)],[v3],[v4],[.int .u32 ((x0.Txs.getD s2.toNat default).Time)]] [] U63 rfl sz63 rfl hI.agr hat1 hA rfl rfl) rfl fun a hA =>
    o_new [[.int .u32 0],[Sn],[Sn],[.int .u32 0]] zr63 hI hA rfl fun g2 a w hA hI hg2=>?_
   obtain ⟨_,hsl4⟩:=Slc.sv hw1.2.1
   obtain ⟨_,hsl5⟩:=Slc.sv hw1.2.2.1
   refine o_st (j:=0) [] [[.int .u32 0],[Sn],[Sn],[.int .u32 0]] [[.int .u32 ((x0.Txs.getD s2.toNat default).Version)],[v3],[v4],[.int .u32 ((x0.Txs.getD s2.toNat default).Time)]] [] sz63 rfl rfl (fO rfl (fl_cons (one_one (one_sl hsl4)) (fl_cons (one_one (one_sl hsl5)) (fO rfl fl_nil)))) hI rfl hA rfl rfl rfl rfl fun w hI=>?_
   refine o_nil<|hN7 _ _<|w_reg<|stm hA rfl rfl fun a hA =>
    stp hA (r_ldA (j:=0) [] [[.int .u32 ((x0.Txs.getD s2.toNat default).Version)],[v3],[v4],[.int .u32 ((x0.Txs.getD s2.toNat default).Time)]] [] U63 rfl sz63 rfl hI rfl hA rfl rfl) rfl fun a hA=>?_
   obtain ⟨r3,hr3,H⟩:=bB H
   refine o_call _ cf41 hA rfl (tx_Bytes.c μ _ hI.agr (x0.Txs.getD s2.toNat default) v3 v4 ⟨hw1.1,hw1.2.1,hw1.2.2.1,hw1.2.2.2⟩ r3 hr3) rfl fun v5 a w hz5 hA=>?_
   obtain ⟨_,cs3,rfl,hE3,hi3⟩:=hz5
   have hI:=hI.call hi3
   obtain ⟨hb2,H⟩:=bG H
   have hE5:=ws1.app hE3
   refine o_appG (xs:=(s1:List Int)) (ys:=(r3:List Int)) (M:=140737488355328) 2 te5 U30 hI rfl hA rfl rfl (src_row hI (j:=0) rfl) hE3.len (hE3.ones (one_RI _)) hb2 rfl fun v6 a w hA hI =>
    sta hA rfl rfl fun a hA=>?_
   refine o_nil<|hN6 _ _<|w_reg<|stp hA (r_add hA rfl rfl) rfl fun a hA =>
    stm hA rfl rfl fun a hA=>?_
   refine o_nil<|⟨m1,lS _,s1++r3,IntKind.i64.wrap (s2+1),v6,ccs1++cs3,H,hE5,(wrap_in _ _),hA.sub ⟨rfl,rfl,rfl,rfl,rfl,trivial⟩,(hI.sl [2,3,4] rfl)⟩
  ·obtain ⟨hc1,H⟩:=dF H hc1
   refine w_exit rfl ?_
   have H:some s1=some z1:=H
   obtain rfl:=sI H
   have H:=Hk2
   cases sJ H
   exact ⟨vvs1,ccs1,ws1,hA.sub ⟨rfl,rfl,trivial⟩,hI⟩
 ·rintro a w ⟨vvc1,ccc1,wc1,hA,hI⟩
  have H:=Hk1
  refine w_seq fun _ hN8=>w_reg<|stm hA rfl rfl fun a hA =>
   sta hA rfl rfl fun a hA=>?_
  refine o_nil<|hN8 _ _<|w_ret ?_
  obtain rfl:=sJ H
  exact ret1 hA Tryz.results10 rfl ⟨_,rfl,vvc1,ccc1,rfl,wc1,((hI.sl [0] rfl).less (Store.le.refl _) hI.le)⟩
theorem block_Size.c (μ:Store)(w0:World)(hμ:Agr μ w0)(x0:Block)(u0_0:Value)(hx0:BlockW μ x0 u0_0)(r:Int)(H:block_Size.f x0=some r) :
  Calls Tryz.prog 11 [.agg [[.int .u32 x0.Head.Version],av .u8 32 x0.Head.Prev,av .u8 32 x0.Head.Root,[.int .u32 x0.Head.Time],[.int .u32 x0.Head.Work],[.int .u32 x0.Head.Nonce],[u0_0]].flatten.toArray].toArray w0 (fun e w'=>∃ v,e=.returned v∧v=.int .i64 r∧InR .i64 r∧Iv w0 [] μ μ [] w'):=by
 refine enter Tryz.func11 rfl Tryz.ntmps11 rfl fun a hA=>?_
 have hI:=Iv.start hμ
 have H:=bI H
 refine w_seq fun _ hN1=>w_reg<|o_box [[.int .u32 x0.Head.Version],av .u8 32 x0.Head.Prev,av .u8 32 x0.Head.Root,[.int .u32 x0.Head.Time],[.int .u32 x0.Head.Work],[.int .u32 x0.Head.Nonce],[u0_0]] hI hA rfl rfl rfl fun g1 a w hA hI hg1 =>
  sta hA rfl rfl fun a hA=>?_
 refine o_nil<|hN1 _ _<|w_seq fun _ hN2=>w_reg<|stp hA (r_ldA (j:=0) [] [[.int .u32 x0.Head.Version],av .u8 32 x0.Head.Prev,av .u8 32 x0.Head.Root,[.int .u32 x0.Head.Time],[.int .u32 x0.Head.Work],[.int .u32 x0.Head.Nonce],[u0_0]] [] U29 rfl sz29 rfl hI rfl hA rfl rfl) rfl fun a hA=>?_
 obtain ⟨r1,hr1,H⟩:=bB H
 refine o_call _ cf10 hA rfl (block_Bytes.c μ _ hI.agr x0 u0_0 ⟨hx0.1,hx0.2.1,hx0.2.2.1,hx0.2.2.2.1,hx0.2.2.2.2.1,hx0.2.2.2.2.2.1,hx0.2.2.2.2.2.2⟩ r1 hr1) rfl fun v1 a w hz1 hA=>?_
 obtain ⟨_,cs1,rfl,hE1,hi1⟩:=hz1
 have hI:=hI.call hi1
 have hlen1:=Iv.row_in hI (j:=0) rfl
 refine stp hA (r_rlen (xs:=0) U30 hI (j:=0) rfl hA rfl) rfl fun a hA =>
  sta hA rfl rfl fun a hA=>?_
 refine o_nil<|hN2 _ _<|w_ret ?_
 obtain rfl:=sJ H
 exact ret1 hA Tryz.results11 rfl ⟨_,rfl,rfl,hlen1,hI.forget0⟩
theorem block_Root.c (μ:Store)(w0:World)(hμ:Agr μ w0)(x0:Block)(u0_0:Value)(hx0:BlockW μ x0 u0_0)(r:List Int)(H:block_Root.f x0=some r) :
  Calls Tryz.prog 15 [.agg [[.int .u32 x0.Head.Version],av .u8 32 x0.Head.Prev,av .u8 32 x0.Head.Root,[.int .u32 x0.Head.Time],[.int .u32 x0.Head.Work],[.int .u32 x0.Head.Nonce],[u0_0]].flatten.toArray].toArray w0 (fun e w'=>∃ v,e=.returned v∧v=.agg [av .u8 32 r].flatten.toArray∧Arr .u8 32 r∧Iv w0 [] μ μ [] w'):=by
 refine enter Tryz.func15 rfl Tryz.ntmps15 rfl fun a hA=>?_
 have hI:=Iv.start hμ
 have H:=bI H
 refine w_seq fun _ hN1=>w_reg<|o_box [[.int .u32 x0.Head.Version],av .u8 32 x0.Head.Prev,av .u8 32 x0.Head.Root,[.int .u32 x0.Head.Time],[.int .u32 x0.Head.Work],[.int .u32 x0.Head.Nonce],[u0_0]] hI hA rfl rfl rfl fun g1 a w hA hI hg1 =>
  o_new [av .u8 32 Z32] zr24 hI hA rfl fun g2 a w hA hI hg2=>?_
 refine o_nil<|hN1 _ _<|w_seq fun _ hN2=>w_reg<|stp hA (r_ldA (j:=1) [] [[.int .u32 x0.Head.Version],av .u8 32 x0.Head.Prev,av .u8 32 x0.Head.Root,[.int .u32 x0.Head.Time],[.int .u32 x0.Head.Work],[.int .u32 x0.Head.Nonce],[u0_0]] [] U29 rfl sz29 rfl hI rfl hA rfl rfl) rfl fun a hA=>?_
 obtain ⟨r1,hr1,H⟩:=bB H
 refine o_call _ cf19 hA rfl (block_IDs.c μ _ hI.agr x0 u0_0 ⟨hx0.1,hx0.2.1,hx0.2.2.1,hx0.2.2.2.1,hx0.2.2.2.2.1,hx0.2.2.2.2.2.1,hx0.2.2.2.2.2.2⟩ r1 hr1) rfl fun v1 a w hz1 hA=>?_
 obtain ⟨_,cs1,rfl,hE1,hi1⟩:=hz1
 have hI:=hI.call hi1
 obtain ⟨r2,hr2,H⟩:=bB H
 refine o_callp (u:=.agg [av .u8 32 r2].flatten.toArray) cf44 hA rfl hI ((by obtain ⟨μ1,hle1,hsv1,hI⟩:=hI.freezeRow 0 rfl;have hS1:Slc (RA .u8 32) 32 μ1 v1 r1:=⟨_,hE1,hsv1⟩;exact low_plain hle1 (merkle_Root.c μ1 _ hI.agr r1 v1 hS1 r2 hr2))) rfl fun a w hz2 hI hA =>
  o_st (j:=1) [] [av .u8 32 Z32] [av .u8 32 r2] [] sz24 rfl rfl (fl_cons (one_av _ _ _) fl_nil) hI rfl hA rfl rfl rfl rfl fun w hI=>?_
 refine o_nil<|hN2 _ _<|w_ret ?_
 obtain rfl:=sJ H
 exact retc U24 rfl sz24 rfl hI (j:=1) rfl hA Tryz.results15 rfl ⟨_,rfl,rfl,hz2,hI.forget0⟩
theorem block_parts.c (μ:Store)(w0:World)(hμ:Agr μ w0)(x0:Block)(u0_0:Value)(hx0:BlockW μ x0 u0_0)(e1:Value)(he1:ErS μ e1 (Er.b 2))(e2:Value)(he2:ErS μ e2 (Er.b 3))(e3:Value)(he3:ErS μ e3 (Er.b 4))(e6:Value)(he6:ErS μ e6 (Er.b 7))(e7:Value)(he7:ErS μ e7 (Er.b 8))(e8:Value)(he8:ErS μ e8 (Er.b 9))(r:Er)(H:block_parts.f x0=some r) :
  Calls Tryz.prog 51 [.agg [[.int .u32 x0.Head.Version],av .u8 32 x0.Head.Prev,av .u8 32 x0.Head.Root,[.int .u32 x0.Head.Time],[.int .u32 x0.Head.Work],[.int .u32 x0.Head.Nonce],[u0_0]].flatten.toArray].toArray w0 (fun e w'=>∃ v,e=.returned v∧∃(v0:Value)(μ':Store),v=v0∧ErS μ' v0 r∧Iv w0 [] μ μ' [] w'):=by
 refine enter Tryz.func51 rfl Tryz.ntmps51 rfl fun a hA=>?_
 have hI:=Iv.start hμ
 have H:=bI H
 refine w_seq fun _ hN1=>w_reg<|o_box [[.int .u32 x0.Head.Version],av .u8 32 x0.Head.Prev,av .u8 32 x0.Head.Root,[.int .u32 x0.Head.Time],[.int .u32 x0.Head.Work],[.int .u32 x0.Head.Nonce],[u0_0]] hI hA rfl rfl rfl fun g1 a w hA hI hg1 =>
  sta hA rfl rfl fun a hA=>?_
 refine o_nil<|hN1 _ _<|w_seq fun _ hN2=>w_seq fun _ hN3=>w_reg<|stp hA (r_fd (k:=68) U29 rfl sz27 hA rfl rfl) rfl fun a hA =>
  stp hA (r_ld1 (j:=0) [[.int .u32 x0.Head.Version],av .u8 32 x0.Head.Prev,av .u8 32 x0.Head.Root,[.int .u32 x0.Head.Time],[.int .u32 x0.Head.Work],[.int .u32 x0.Head.Nonce]] [] U27 rfl hI rfl hA rfl rfl) rfl fun a hA=>?_
 obtain ⟨_,hsl1⟩:=Slc.sv hx0.2.2.2.2.2.2
 refine stp hA (r_slen U27 hsl1 hA rfl) rfl fun a hA =>
  stm hA rfl rfl fun a hA=>?_
 refine o_nil<|hN3 _ _<|w_block ?_
 obtain ⟨z1,hz1,Hk1⟩:=bind_some H
 obtain ⟨n1,hn1⟩:=loopO_some hz1
 refine w_loop (fun n a w=>∃(s1:Int)(μ1:Store),loopN (block_parts.s0 x0) n s1=some z1∧μ.le μ1∧InR .i64 s1∧Fr a 45 [(1,pt g1 0),(2,.nilIface),(9,u0_0),(10,.int .i64 (x0.Txs.length:Int)),(11,.int .i64 s1)]∧Iv w0 [] μ μ1 [cel g1 [[.int .u32 x0.Head.Version],av .u8 32 x0.Head.Prev,av .u8 32 x0.Head.Root,[.int .u32 x0.Head.Time],[.int .u32 x0.Head.Work],[.int .u32 x0.Head.Nonce],[u0_0]] 29] w) n1 ⟨0,μ,hn1,(Store.le.refl _),(in_lit .i64 0 rfl),hA.sub ⟨rfl,rfl,rfl,rfl,rfl,trivial⟩,hI⟩ ?_
 clear hA hI
 rintro n a w ⟨s1,μ1,hn1,hle1,ws1,hA,hI⟩
 obtain ⟨m1,rfl,H⟩:=loopN_bind hn1
 clear hn1
 refine w_seq fun _ hN4=>w_reg<|stp hA (r_lss hA rfl rfl) rfl fun a hA=>?_
 refine o_nil<|hN4 _ _<|w_seq fun _ hN5=>w_cond hA rfl (fun hc1=>?_) (fun hc1=>?_)
 ·obtain ⟨hc1,H⟩:=dT H hc1
  refine w_skip<|hN5 _ _<|w_seq fun _ hN6=>w_block<|w_seq fun _ hN7=>w_reg<|stm hA rfl rfl fun a hA=>?_
  obtain ⟨hb1,H⟩:=bG H
  obtain ⟨_,he1,_,hat1⟩:=Slc.elem (Slc.le hx0.2.2.2.2.2.2 (fun _ _ h=>RTx.le hle1 h) hle1) (getD_some default hb1.1 hb1.2)
  obtain ⟨v1,v2,rfl,hw1⟩:=he1
  obtain ⟨_,hsl2⟩:=Slc.sv (Slc.le hx0.2.2.2.2.2.2 (fun _ _ h=>RTx.le hle1 h) hle1)
  refine stp hA (r_six U27 sz63 hsl2 hA rfl rfl hb1.1 hb1.2) rfl fun a hA =>
   stp hA (r_ldmA [] [[.int .u32 ((x0.Txs.getD s1.toNat default).Version)],[v1],[v2],[.int .u32 ((x0.Txs.getD s1.toNat default).Time)]] [] U63 rfl sz63 rfl hI.agr hat1 hA rfl rfl) rfl fun a hA =>
   o_new [[.int .u32 0],[Sn],[Sn],[.int .u32 0]] zr63 hI hA rfl fun g2 a w hA hI hg2 =>
   sta hA rfl rfl fun a hA=>?_
  obtain ⟨_,hsl3⟩:=Slc.sv hw1.2.1
  obtain ⟨_,hsl4⟩:=Slc.sv hw1.2.2.1
  refine o_st (j:=0) [] [[.int .u32 0],[Sn],[Sn],[.int .u32 0]] [[.int .u32 ((x0.Txs.getD s1.toNat default).Version)],[v1],[v2],[.int .u32 ((x0.Txs.getD s1.toNat default).Time)]] [] sz63 rfl rfl (fO rfl (fl_cons (one_one (one_sl hsl3)) (fl_cons (one_one (one_sl hsl4)) (fO rfl fl_nil)))) hI rfl hA rfl rfl rfl rfl fun w hI=>?_
  refine o_nil<|hN7 _ _<|w_seq fun _ hN8=>w_reg<|stp hA (r_ldA (j:=0) [] [[.int .u32 ((x0.Txs.getD s1.toNat default).Version)],[v1],[v2],[.int .u32 ((x0.Txs.getD s1.toNat default).Time)]] [] U63 rfl sz63 rfl hI rfl hA rfl rfl) rfl fun a hA=>?_
  obtain ⟨r1,hr1,H⟩:=bB H
  refine o_call _ cf91 hA rfl (tx_Check.c μ1 _ hI.agr (x0.Txs.getD s1.toNat default) v1 v2 ⟨hw1.1,hw1.2.1,hw1.2.2.1,hw1.2.2.2⟩ e1 (ErV.le (fun _ _ h=>h) hle1 he1) e2 (ErV.le (fun _ _ h=>h) hle1 he2) e3 (ErV.le (fun _ _ h=>h) hle1 he3) e6 (ErV.le (fun _ _ h=>h) hle1 he6) e7 (ErV.le (fun _ _ h=>h) hle1 he7) e8 (ErV.le (fun _ _ h=>h) hle1 he8) r1 hr1) rfl fun v3 a w hz2 hA=>?_
  obtain ⟨_,μ2,rfl,hS1,hi1⟩:=hz2
  have hI:=hI.call hi1
  refine sta hA rfl rfl fun a hA=>?_
  refine o_nil<|hN8 _ _<|w_seq fun _ hN9=>w_reg<|stm hA rfl rfl fun a hA =>
   stp hA (r_neE erF hI.agr hS1 erv_nil (.inl ⟨.inr ⟨_,rfl⟩,Er.fitR⟩) hA rfl rfl) rfl fun a hA=>?_
  refine o_nil<|hN9 _ _<|w_cond hA rfl (fun hc2=>?_) (fun hc2=>?_)
  ·obtain ⟨hc2,H⟩:=dT H hc2
   refine w_seq fun _ hN10=>w_reg<|stm hA rfl rfl fun a hA =>
    stm hA rfl rfl fun a hA =>
    stp hA (r_bldS (cs:=[[.int .i64 s1],[v3]].flatten.toArray) (pl:=[(0,1),(1,1)]) zr122 U122 ⟨rfl,sz3,rfl,sz35,trivial⟩ hA rfl ((fill_one rfl rfl (by kernel_rfl)).trans ((fill_one (cells_err hS1) rfl (by kernel_rfl)).trans (by kernel_rfl)))) rfl fun a hA =>
    o_box [[.int .i64 s1],[v3]] hI hA rfl rfl rfl fun g3 a w hA hI hg3=>?_
   obtain ⟨μ3,hle2,hat2,hI⟩:=hI.freezeCel 0 rfl
   have he2:ErS μ3 (.iface 118 (pt g3 0)) (Er.pl s1 r1):=⟨g3,v3,rfl,hat2,ws1,(ErV.le (fun _ _ h=>h) hle2 hS1)⟩
   refine stp hA (r_mkI U118 hA rfl) rfl fun a hA =>
    sta hA rfl rfl fun a hA=>?_
   refine o_nil<|hN10 _ _<|w_ret ?_
   have H:some (Er.pl s1 r1)=some z1:=H
   obtain rfl:=sI H
   have H:=Hk1
   obtain rfl:=sJ H
   exact ret1 hA Tryz.results51 rfl ⟨_,rfl,(.iface 118 (pt g3 0)),μ3,rfl,he2,(hI.sl [] rfl)⟩
  ·obtain ⟨hc2,H⟩:=dF H hc2
   refine w_skip<|hN6 _ _<|w_reg<|stp hA (r_add hA rfl rfl) rfl fun a hA =>
    stm hA rfl rfl fun a hA=>?_
   refine o_nil<|⟨m1,lS _,IntKind.i64.wrap (s1+1),μ2,H,(hle1.trans hi1.le),(wrap_in _ _),hA.sub ⟨rfl,rfl,rfl,rfl,rfl,trivial⟩,(hI.sl [1] rfl)⟩
 ·obtain ⟨hc1,H⟩:=dF H hc1
  refine w_exit rfl<|hN2 _ _<|w_seq fun _ hN11=>w_seq fun _ hN12=>w_reg<|stp hA (r_fd (k:=68) U29 rfl sz27 hA rfl rfl) rfl fun a hA =>
   stp hA (r_ld1 (j:=0) [[.int .u32 x0.Head.Version],av .u8 32 x0.Head.Prev,av .u8 32 x0.Head.Root,[.int .u32 x0.Head.Time],[.int .u32 x0.Head.Work],[.int .u32 x0.Head.Nonce]] [] U27 rfl hI rfl hA rfl rfl) rfl fun a hA=>?_
  obtain ⟨_,hsl5⟩:=Slc.sv (Slc.le hx0.2.2.2.2.2.2 (fun _ _ h=>RTx.le hle1 h) hle1)
  refine stp hA (r_slen U27 hsl5 hA rfl) rfl fun a hA =>
   stm hA rfl rfl fun a hA=>?_
  refine o_nil<|hN12 _ _<|w_block ?_
  obtain ⟨z2,hz3,Hk2⟩:=bind_some H
  obtain ⟨n2,hn2⟩:=loopO_some hz3
  refine w_loop (fun n a w=>∃(s2:Int),loopN (block_parts.s1 x0) n s2=some z2∧InR .i64 s2∧Fr a 45 [(2,.nilIface),(27,u0_0),(28,.int .i64 (x0.Txs.length:Int)),(29,.int .i64 s2)]∧Iv w0 [] μ μ1 [cel g1 [[.int .u32 x0.Head.Version],av .u8 32 x0.Head.Prev,av .u8 32 x0.Head.Root,[.int .u32 x0.Head.Time],[.int .u32 x0.Head.Work],[.int .u32 x0.Head.Nonce],[u0_0]] 29] w) n2 ⟨0,hn2,(in_lit .i64 0 rfl),hA.sub ⟨rfl,rfl,rfl,rfl,trivial⟩,hI⟩ ?_
  clear hA hI
  rintro n a w ⟨s2,hn2,ws2,hA,hI⟩
  obtain ⟨m2,rfl,H⟩:=loopN_bind hn2
  clear hn2
  refine w_seq fun _ hN13=>w_reg<|stp hA (r_lss hA rfl rfl) rfl fun a hA=>?_
  refine o_nil<|hN13 _ _<|w_seq fun _ hN14=>w_cond hA rfl (fun hc3=>?_) (fun hc3=>?_)
  ·obtain ⟨hc3,H⟩:=dT H hc3
   refine w_skip<|hN14 _ _<|w_seq fun _ hN15=>w_block<|w_seq fun _ hN16=>w_reg<|stm hA rfl rfl fun a hA=>?_
   obtain ⟨hb2,H⟩:=bG H
   obtain ⟨_,he3,_,hat3⟩:=Slc.elem (Slc.le hx0.2.2.2.2.2.2 (fun _ _ h=>RTx.le hle1 h) hle1) (getD_some default hb2.1 hb2.2)
   obtain ⟨v4,v5,rfl,hw2⟩:=he3
   obtain ⟨_,hsl6⟩:=Slc.sv (Slc.le hx0.2.2.2.2.2.2 (fun _ _ h=>RTx.le hle1 h) hle1)
   refine stp hA (r_six U27 sz63 hsl6 hA rfl rfl hb2.1 hb2.2) rfl fun a hA =>
    stp hA (r_ldmA [] [[.int .u32 ((x0.Txs.getD s2.toNat default).Version)],[v4],[v5],[.int .u32 ((x0.Txs.getD s2.toNat default).Time)]] [] U63 rfl sz63 rfl hI.agr hat3 hA rfl rfl) rfl fun a hA =>
    o_new [[.int .u32 0],[Sn],[Sn],[.int .u32 0]] zr63 hI hA rfl fun g4 a w hA hI hg4 =>
    sta hA rfl rfl fun a hA=>?_
   obtain ⟨_,hsl7⟩:=Slc.sv hw2.2.1
   obtain ⟨_,hsl8⟩:=Slc.sv hw2.2.2.1
   refine o_st (j:=0) [] [[.int .u32 0],[Sn],[Sn],[.int .u32 0]] [[.int .u32 ((x0.Txs.getD s2.toNat default).Version)],[v4],[v5],[.int .u32 ((x0.Txs.getD s2.toNat default).Time)]] [] sz63 rfl rfl (fO rfl (fl_cons (one_one (one_sl hsl7)) (fl_cons (one_one (one_sl hsl8)) (fO rfl fl_nil)))) hI rfl hA rfl rfl rfl rfl fun w hI=>?_
   refine o_nil<|hN16 _ _<|w_seq fun _ hN17=>w_reg<|stp hA (r_ldA (j:=0) [] [[.int .u32 ((x0.Txs.getD s2.toNat default).Version)],[v4],[v5],[.int .u32 ((x0.Txs.getD s2.toNat default).Time)]] [] U63 rfl sz63 rfl hI rfl hA rfl rfl) rfl fun a hA=>?_
   obtain ⟨r2,hr2,H⟩:=bB H
   refine o_callp (u:=.bool r2) cf92 hA rfl hI (tx_Base.c μ1 _ hI.agr (x0.Txs.getD s2.toNat default) v4 v5 ⟨hw2.1,hw2.2.1,hw2.2.2.1,hw2.2.2.2⟩ r2 hr2) rfl fun a w hz4 hI hA =>
    stm hA rfl rfl fun a hA =>
    stp hA (r_eql hA rfl rfl) rfl fun a hA =>
    stp hA (r_neqb U4 hA rfl rfl) rfl fun a hA=>?_
   refine o_nil<|hN17 _ _<|w_cond hA rfl (fun hc4=>?_) (fun hc4=>?_)
   ·obtain ⟨hc4,H⟩:=dT H hc4
    refine w_seq fun _ hN18=>w_reg<|stm hA rfl rfl fun a hA =>
     stp hA (r_ldG U35 rfl hI.agr (ErV.le (fun _ _ h=>h) hle1 he6) hA) rfl fun a hA =>
     stp hA (r_bldS (cs:=[[.int .i64 s2],[e6]].flatten.toArray) (pl:=[(0,1),(1,1)]) zr122 U122 ⟨rfl,sz3,rfl,sz35,trivial⟩ hA rfl ((fill_one rfl rfl (by kernel_rfl)).trans ((fill_one (cells_err (ErV.le (fun _ _ h=>h) hle1 he6)) rfl (by kernel_rfl)).trans (by kernel_rfl)))) rfl fun a hA =>
     o_box [[.int .i64 s2],[e6]] hI hA rfl rfl rfl fun g5 a w hA hI hg5=>?_
    obtain ⟨μ4,hle3,hat4,hI⟩:=hI.freezeCel 0 rfl
    have he4:ErS μ4 (.iface 118 (pt g5 0)) (Er.pl s2 xErrBase):=⟨g5,e6,rfl,hat4,ws2,(ErV.le (fun _ _ h=>h) (hle1.trans hle3) he6)⟩
    refine stp hA (r_mkI U118 hA rfl) rfl fun a hA =>
     sta hA rfl rfl fun a hA=>?_
    refine o_nil<|hN18 _ _<|w_ret ?_
    have H:some (.inr (Er.pl s2 xErrBase))=some z2:=H
    obtain rfl:=sI H
    have H:=Hk2
    have H:some (Er.pl s2 xErrBase)=some z1:=H
    obtain rfl:=sI H
    have H:=Hk1
    obtain rfl:=sJ H
    exact ret1 hA Tryz.results51 rfl ⟨_,rfl,(.iface 118 (pt g5 0)),μ4,rfl,he4,(hI.sl [] rfl)⟩
   ·obtain ⟨hc4,H⟩:=dF H hc4
    refine w_skip<|hN15 _ _<|w_reg<|stp hA (r_add hA rfl rfl) rfl fun a hA =>
     stm hA rfl rfl fun a hA=>?_
    refine o_nil<|⟨m2,lS _,IntKind.i64.wrap (s2+1),H,(wrap_in _ _),hA.sub ⟨rfl,rfl,rfl,rfl,trivial⟩,(hI.sl [1] rfl)⟩
  ·obtain ⟨hc3,H⟩:=dF H hc3
   refine w_exit rfl<|hN11 _ _<|w_seq fun _ hN19=>w_reg<|sta hA rfl rfl fun a hA=>?_
   refine o_nil<|hN19 _ _<|w_ret ?_
   have H:some (.inr (Er.b 0))=some z2:=H
   obtain rfl:=sI H
   have H:=Hk2
   have H:some (Er.b 0)=some z1:=H
   obtain rfl:=sI H
   have H:=Hk1
   obtain rfl:=sJ H
   exact ret1 hA Tryz.results51 rfl ⟨_,rfl,.nilIface,μ1,rfl,erv_nil,(hI.sl [] rfl)⟩
theorem block_twice.c (μ:Store)(w0:World)(hμ:Agr μ w0)(x0:Block)(u0_0:Value)(hx0:BlockW μ x0 u0_0)(r:Bool)(H:block_twice.f x0=some r) :
  Calls Tryz.prog 52 [.agg [[.int .u32 x0.Head.Version],av .u8 32 x0.Head.Prev,av .u8 32 x0.Head.Root,[.int .u32 x0.Head.Time],[.int .u32 x0.Head.Work],[.int .u32 x0.Head.Nonce],[u0_0]].flatten.toArray].toArray w0 (fun e w'=>∃ v,e=.returned v∧v=.bool r∧True∧Iv w0 [] μ μ [] w'):=by
 refine enter Tryz.func52 rfl Tryz.ntmps52 rfl fun a hA=>?_
 have hI:=Iv.start hμ
 have H:=bI H
 refine w_seq fun _ hN1=>w_reg<|o_box [[.int .u32 x0.Head.Version],av .u8 32 x0.Head.Prev,av .u8 32 x0.Head.Root,[.int .u32 x0.Head.Time],[.int .u32 x0.Head.Work],[.int .u32 x0.Head.Nonce],[u0_0]] hI hA rfl rfl rfl fun g1 a w hA hI hg1 =>
  sta hA rfl rfl fun a hA=>?_
 refine o_nil<|hN1 _ _<|w_seq fun _ hN2=>w_reg<|o_mkmap kv125 vv125 hI hA rfl fun g2 a w hI hA =>
  o_mkmap kv126 vv126 hI hA rfl fun g3 a w hI hA =>
  sta hA rfl rfl fun a hA =>
  sta hA rfl rfl fun a hA=>?_
 refine o_nil<|hN2 _ _<|w_seq fun _ hN3=>w_seq fun _ hN4=>w_reg<|stp hA (r_ldA (j:=2) [] [[.int .u32 x0.Head.Version],av .u8 32 x0.Head.Prev,av .u8 32 x0.Head.Root,[.int .u32 x0.Head.Time],[.int .u32 x0.Head.Work],[.int .u32 x0.Head.Nonce],[u0_0]] [] U29 rfl sz29 rfl hI rfl hA rfl rfl) rfl fun a hA=>?_
 obtain ⟨r1,hr1,H⟩:=bB H
 refine o_call _ cf19 hA rfl (block_IDs.c μ _ hI.agr x0 u0_0 ⟨hx0.1,hx0.2.1,hx0.2.2.1,hx0.2.2.2.1,hx0.2.2.2.2.1,hx0.2.2.2.2.2.1,hx0.2.2.2.2.2.2⟩ r1 hr1) rfl fun v1 a w hz1 hA=>?_
 obtain ⟨_,cs1,rfl,hE1,hi1⟩:=hz1
 have hI:=hI.call hi1
 have hlen1:=Iv.row_in hI (j:=0) rfl
 refine stp hA (r_rlen (xs:=0) U46 hI (j:=0) rfl hA rfl) rfl fun a hA =>
  stm hA rfl rfl fun a hA=>?_
 refine o_nil<|hN4 _ _<|w_block ?_
 obtain ⟨z1,hz2,Hk1⟩:=bind_some H
 obtain ⟨n1,hn1⟩:=loopO_some hz2
 refine w_loop (fun n a w=>∃(s1:Int)(s2:List (Point×Bool))(s3:List ((List Int)×Bool)),loopN (block_twice.s0 x0 r1) n (s1,s2,s3)=some z1∧InR .i64 s1∧mw126 s2∧mw125 s3∧Fr a 44 [(1,pt g1 0),(2,.bool false),(3,.map (some g2)),(4,.map (some g3)),(12,v1),(13,.int .i64 (r1.length:Int)),(14,.int .i64 s1)]∧Iv w0 [] μ μ [row 24 32 v1 r1.length cs1,mpI g3 (ent kv126 vv126 s2),mpI g2 (ent kv125 vv125 s3),cel g1 [[.int .u32 x0.Head.Version],av .u8 32 x0.Head.Prev,av .u8 32 x0.Head.Root,[.int .u32 x0.Head.Time],[.int .u32 x0.Head.Work],[.int .u32 x0.Head.Nonce],[u0_0]] 29] w) n1 ⟨0,([]:List (Point×Bool)),([]:List ((List Int)×Bool)),hn1,(in_lit .i64 0 rfl),mw_nil,mw_nil,hA.sub ⟨rfl,rfl,rfl,rfl,rfl,rfl,rfl,trivial⟩,hI⟩ ?_
 clear hA hI
 rintro n a w ⟨s1,s2,s3,hn1,ws1,ws2,ws3,hA,hI⟩
 obtain ⟨m1,rfl,H⟩:=loopN_bind hn1
 clear hn1
 refine w_seq fun _ hN5=>w_reg<|stp hA (r_lss hA rfl rfl) rfl fun a hA=>?_
 refine o_nil<|hN5 _ _<|w_seq fun _ hN6=>w_cond hA rfl (fun hc1=>?_) (fun hc1=>?_)
 ·obtain ⟨hc1,H⟩:=dT H hc1
  refine w_skip<|hN6 _ _<|w_seq fun _ hN7=>w_block<|w_seq fun _ hN8=>w_reg<|stm hA rfl rfl fun a hA=>?_
  obtain ⟨hb1,H⟩:=bG H
  refine stp hA (r_rix (j:=0) U46 sz24 hI rfl hA rfl rfl hb1.1 hb1.2) rfl fun a hA=>?_
  obtain ⟨A1,_,B1,hc2,hl1,_,he1⟩:=Els.at_ hE1 (getD_some [] hb1.1 hb1.2)
  obtain ⟨rfl,hw1⟩:=he1
  refine stp hA (r_rldP (j:=0) (q:=s1.toNat * 32) (off:=0) A1 B1 [] [av .u8 32 (r1.getD s1.toNat [])] [] hc2 hl1 rfl U24 rfl sz24 rfl hI rfl hA rfl) rfl fun a hA =>
   o_new [av .u8 32 Z32] zr24 hI hA rfl fun g4 a w hA hI hg4 =>
   sta hA rfl rfl fun a hA =>
   o_st (j:=0) [] [av .u8 32 Z32] [av .u8 32 (r1.getD s1.toNat [])] [] sz24 rfl rfl (fl_cons (one_av _ _ _) fl_nil) hI rfl hA rfl rfl rfl rfl fun w hI=>?_
  refine o_nil<|hN8 _ _<|w_seq fun _ hN9=>w_seq fun _ hN10=>w_reg<|stm hA rfl rfl fun a hA =>
   stp hA (r_ldA (j:=0) [] [av .u8 32 (r1.getD s1.toNat [])] [] U24 rfl sz24 rfl hI rfl hA rfl rfl) rfl fun a hA =>
   stp hA (r_look (j:=3) kn125 U125 mz125 ws3 hw1 hI rfl hA rfl rfl) rfl fun a hA=>?_
  refine o_nil<|hN10 _ _<|w_cond hA rfl (fun hc3=>?_) (fun hc3=>?_)
  ·have H:=bT H hc3
   refine w_seq fun _ hN11=>w_reg<|sta hA rfl rfl fun a hA=>?_
   refine o_nil<|hN11 _ _<|w_ret ?_
   have H:some true=some z1:=H
   obtain rfl:=sI H
   have H:=Hk1
   obtain rfl:=sJ H
   exact ret1 hA Tryz.results52 rfl ⟨_,rfl,rfl,trivial,hI.forget0⟩
  ·have hc3:=ft hc3;have H:=bF H hc3
   refine w_skip<|hN9 _ _<|w_seq fun _ hN12=>w_reg<|stm hA rfl rfl fun a hA =>
    stp hA (r_ldA (j:=0) [] [av .u8 32 (r1.getD s1.toNat [])] [] U24 rfl sz24 rfl hI rfl hA rfl rfl) rfl fun a hA =>
    o_mput (j:=3) (k:=(r1.getD s1.toNat [])) true kn125 U125 ws3 hw1 hI rfl hA rfl rfl rfl fun w hI=>?_
   refine o_nil<|hN12 _ _<|w_seq fun _ hN13=>w_reg<|stp hA (r_fd (k:=68) U29 rfl sz27 hA rfl rfl) rfl fun a hA =>
    stp hA (r_ld1 (j:=4) [[.int .u32 x0.Head.Version],av .u8 32 x0.Head.Prev,av .u8 32 x0.Head.Root,[.int .u32 x0.Head.Time],[.int .u32 x0.Head.Work],[.int .u32 x0.Head.Nonce]] [] U27 rfl hI rfl hA rfl rfl) rfl fun a hA =>
    stm hA rfl rfl fun a hA=>?_
   obtain ⟨hb2,H⟩:=bG H
   obtain ⟨_,he2,_,hat1⟩:=Slc.elem hx0.2.2.2.2.2.2 (getD_some default hb2.1 hb2.2)
   obtain ⟨v2,v3,rfl,hw2⟩:=he2
   obtain ⟨_,hsl1⟩:=Slc.sv hx0.2.2.2.2.2.2
   refine stp hA (r_six U27 sz63 hsl1 hA rfl rfl hb2.1 hb2.2) rfl fun a hA =>
    stp hA (r_fd (k:=so u0_0+s1.toNat * 4+1) U63 rfl sz60 hA rfl rfl) rfl fun a hA =>
    stp hA (r_ldm1 [[.int .u32 ((x0.Txs.getD s1.toNat default).Version)]] [[v3],[.int .u32 ((x0.Txs.getD s1.toNat default).Time)]] U60 rfl hI.agr hat1 hA rfl rfl) rfl fun a hA=>?_
   obtain ⟨_,hsl2⟩:=Slc.sv hw2.2.1
   refine stp hA (r_slen U60 hsl2 hA rfl) rfl fun a hA =>
    stm hA rfl rfl fun a hA=>?_
   refine o_nil<|hN13 _ _<|w_block ?_
   obtain ⟨z2,hz3,Hk2⟩:=bind_some H
   obtain ⟨n2,hn2⟩:=loopO_some hz3
   refine w_loop (fun n a w=>∃(s4:Int)(s5:List (Point×Bool)),loopN (block_twice.s1 x0 r1 s1 s3) n (s4,s5)=some z2∧InR .i64 s4∧mw126 s5∧Fr a 44 [(1,pt g1 0),(2,.bool false),(3,.map (some g2)),(4,.map (some g3)),(5,.int .i64 s1),(6,pt g4 0),(12,v1),(13,.int .i64 (r1.length:Int)),(14,.int .i64 s1),(15,.bool (decide (s1 < (r1.length:Int)))),(21,.bool ((mget s3 (r1.getD s1.toNat [])).getD false)),(29,v2),(30,.int .i64 (((x0.Txs.getD s1.toNat default).Ins).length:Int)),(31,.int .i64 s4)]∧Iv w0 [] μ μ [cel g4 [av .u8 32 (r1.getD s1.toNat [])] 24,row 24 32 v1 r1.length cs1,mpI g3 (ent kv126 vv126 s5),mpI g2 (ent kv125 vv125 (mput s3 (r1.getD s1.toNat []) true)),cel g1 [[.int .u32 x0.Head.Version],av .u8 32 x0.Head.Prev,av .u8 32 x0.Head.Root,[.int .u32 x0.Head.Time],[.int .u32 x0.Head.Work],[.int .u32 x0.Head.Nonce],[u0_0]] 29] w) n2 ⟨0,s2,hn2,(in_lit .i64 0 rfl),ws2,hA.sub ⟨rfl,rfl,rfl,rfl,rfl,rfl,rfl,rfl,rfl,rfl,rfl,rfl,rfl,rfl,trivial⟩,hI⟩ ?_
   clear hA hI
   rintro n a w ⟨s4,s5,hn2,ws4,ws5,hA,hI⟩
   obtain ⟨m2,rfl,H⟩:=loopN_bind hn2
   clear hn2
   refine w_seq fun _ hN14=>w_reg<|stp hA (r_lss hA rfl rfl) rfl fun a hA=>?_
   refine o_nil<|hN14 _ _<|w_seq fun _ hN15=>w_cond hA rfl (fun hc4=>?_) (fun hc4=>?_)
   ·obtain ⟨hc4,H⟩:=dT H hc4
    refine w_skip<|hN15 _ _<|w_seq fun _ hN16=>w_block<|w_seq fun _ hN17=>w_reg ?_
    obtain ⟨hb3,H⟩:=bG H
    obtain ⟨_,he3,_,hat2⟩:=Slc.elem hw2.2.1 (getD_some default hb3.1 hb3.2)
    obtain ⟨v4,rfl,hw3⟩:=he3
    obtain ⟨_,hsl3⟩:=Slc.sv hw2.2.1
    refine stp hA (r_six U60 sz67 hsl3 hA rfl rfl hb3.1 hb3.2) rfl fun a hA =>
     stp hA (r_ldmA [] [av .u8 32 ((((x0.Txs.getD s1.toNat default).Ins).getD s4.toNat default).From.Tx),[.int .u32 ((((x0.Txs.getD s1.toNat default).Ins).getD s4.toNat default).From.N)],[v4],[.int .u32 ((((x0.Txs.getD s1.toNat default).Ins).getD s4.toNat default).Seq)]] [] U67 rfl sz67 rfl hI.agr hat2 hA rfl rfl) rfl fun a hA =>
     o_new [av .u8 32 Z32,[.int .u32 0],[Sn],[.int .u32 0]] zr67 hI hA rfl fun g5 a w hA hI hg5=>?_
    obtain ⟨_,hsl4⟩:=Slc.sv hw3.2.2.1
    refine o_st (j:=0) [] [av .u8 32 Z32,[.int .u32 0],[Sn],[.int .u32 0]] [av .u8 32 ((((x0.Txs.getD s1.toNat default).Ins).getD s4.toNat default).From.Tx),[.int .u32 ((((x0.Txs.getD s1.toNat default).Ins).getD s4.toNat default).From.N)],[v4],[.int .u32 ((((x0.Txs.getD s1.toNat default).Ins).getD s4.toNat default).Seq)]] [] sz67 rfl rfl (fl_cons (one_av _ _ _) (fO rfl (fl_cons (one_one (one_sl hsl4)) (fO rfl fl_nil)))) hI rfl hA rfl rfl rfl rfl fun w hI=>?_
    refine o_nil<|hN17 _ _<|w_seq fun _ hN18=>w_seq fun _ hN19=>w_reg<|stm hA rfl rfl fun a hA =>
     stp hA (r_fd (k:=0) U67 rfl sz65 hA rfl rfl) rfl fun a hA =>
     stp hA (r_ldA (j:=0) [] [av .u8 32 ((((x0.Txs.getD s1.toNat default).Ins).getD s4.toNat default).From.Tx),[.int .u32 ((((x0.Txs.getD s1.toNat default).Ins).getD s4.toNat default).From.N)]] [[v4],[.int .u32 ((((x0.Txs.getD s1.toNat default).Ins).getD s4.toNat default).Seq)]] U65 rfl sz65 rfl hI rfl hA rfl rfl) rfl fun a hA =>
     stp hA (r_look (j:=3) kn126 U126 mz126 ws5 ⟨hw3.1,hw3.2.1⟩ hI rfl hA rfl rfl) rfl fun a hA=>?_
    refine o_nil<|hN19 _ _<|w_cond hA rfl (fun hc5=>?_) (fun hc5=>?_)
    ·have H:=bT H hc5
     refine w_seq fun _ hN20=>w_reg<|sta hA rfl rfl fun a hA=>?_
     refine o_nil<|hN20 _ _<|w_ret ?_
     have H:some (.inr true)=some z2:=H
     obtain rfl:=sI H
     have H:=Hk2
     have H:some true=some z1:=H
     obtain rfl:=sI H
     have H:=Hk1
     obtain rfl:=sJ H
     exact ret1 hA Tryz.results52 rfl ⟨_,rfl,rfl,trivial,hI.forget0⟩
    ·have hc5:=ft hc5;have H:=bF H hc5
     refine w_skip<|hN18 _ _<|w_reg<|stm hA rfl rfl fun a hA =>
      stp hA (r_fd (k:=0) U67 rfl sz65 hA rfl rfl) rfl fun a hA =>
      stp hA (r_ldA (j:=0) [] [av .u8 32 ((((x0.Txs.getD s1.toNat default).Ins).getD s4.toNat default).From.Tx),[.int .u32 ((((x0.Txs.getD s1.toNat default).Ins).getD s4.toNat default).From.N)]] [[v4],[.int .u32 ((((x0.Txs.getD s1.toNat default).Ins).getD s4.toNat default).Seq)]] U65 rfl sz65 rfl hI rfl hA rfl rfl) rfl fun a hA =>
      o_mput (j:=3) (k:=((((x0.Txs.getD s1.toNat default).Ins).getD s4.toNat default).From)) true kn126 U126 ws5 ⟨hw3.1,hw3.2.1⟩ hI rfl hA rfl rfl rfl fun w hI=>?_
     refine o_nil<|hN16 _ _<|w_reg<|stp hA (r_add hA rfl rfl) rfl fun a hA =>
      stm hA rfl rfl fun a hA=>?_
     refine o_nil<|⟨m2,lS _,IntKind.i64.wrap (s4+1),mput s5 ((((x0.Txs.getD s1.toNat default).Ins).getD s4.toNat default).From) true,H,(wrap_in _ _),(MW.put ws5 ⟨hw3.1,hw3.2.1⟩ trivial),hA.sub ⟨rfl,rfl,rfl,rfl,rfl,rfl,rfl,rfl,rfl,rfl,rfl,rfl,rfl,rfl,trivial⟩,(hI.sl [1,2,3,4,5] rfl)⟩
   ·obtain ⟨hc4,H⟩:=dF H hc4
    refine w_exit rfl<|hN7 _ _<|w_reg<|stp hA (r_add hA rfl rfl) rfl fun a hA =>
     stm hA rfl rfl fun a hA=>?_
    refine o_nil ?_
    have H:some (.inl (IntKind.i64.wrap (s1+1),s5,mput s3 (r1.getD s1.toNat []) true))=some z2:=H
    obtain rfl:=sI H
    have H:=Hk2
    exact ⟨m1,lS _,IntKind.i64.wrap (s1+1),s5,mput s3 (r1.getD s1.toNat []) true,H,(wrap_in _ _),ws5,(MW.put ws3 hw1 trivial),hA.sub ⟨rfl,rfl,rfl,rfl,rfl,rfl,rfl,trivial⟩,(hI.sl [1,2,3,4] rfl)⟩
 ·obtain ⟨hc1,H⟩:=dF H hc1
  refine w_exit rfl<|hN3 _ _<|w_seq fun _ hN21=>w_reg<|sta hA rfl rfl fun a hA=>?_
  refine o_nil<|hN21 _ _<|w_ret ?_
  have H:some false=some z1:=H
  obtain rfl:=sI H
  have H:=Hk1
  obtain rfl:=sJ H
  exact ret1 hA Tryz.results52 rfl ⟨_,rfl,rfl,trivial,hI.forget0⟩
theorem block_Check.c (μ:Store)(w0:World)(hμ:Agr μ w0)(x0:Block)(u0_0:Value)(hx0:BlockW μ x0 u0_0)(e1:Value)(he1:ErS μ e1 (Er.b 2))(e2:Value)(he2:ErS μ e2 (Er.b 3))(e3:Value)(he3:ErS μ e3 (Er.b 4))(e4:Value)(he4:ErS μ e4 (Er.b 5))(e5:Value)(he5:ErS μ e5 (Er.b 6))(e6:Value)(he6:ErS μ e6 (Er.b 7))(e7:Value)(he7:ErS μ e7 (Er.b 8))(e8:Value)(he8:ErS μ e8 (Er.b 9))(r:Er)(H:block_Check.f x0=some r) :
  Calls Tryz.prog 21 [.agg [[.int .u32 x0.Head.Version],av .u8 32 x0.Head.Prev,av .u8 32 x0.Head.Root,[.int .u32 x0.Head.Time],[.int .u32 x0.Head.Work],[.int .u32 x0.Head.Nonce],[u0_0]].flatten.toArray].toArray w0 (fun e w'=>∃ v,e=.returned v∧∃(v0:Value)(μ':Store),v=v0∧ErS μ' v0 r∧Iv w0 [] μ μ' [] w'):=by
 refine enter Tryz.func21 rfl Tryz.ntmps21 rfl fun a hA=>?_
 have hI:=Iv.start hμ
 have H:=bI H
 refine w_seq fun _ hN1=>w_reg<|o_box [[.int .u32 x0.Head.Version],av .u8 32 x0.Head.Prev,av .u8 32 x0.Head.Root,[.int .u32 x0.Head.Time],[.int .u32 x0.Head.Work],[.int .u32 x0.Head.Nonce],[u0_0]] hI hA rfl rfl rfl fun g1 a w hA hI hg1 =>
  sta hA rfl rfl fun a hA=>?_
 refine o_nil<|hN1 _ _<|w_seq fun _ hN2=>w_seq fun _ hN3=>w_reg<|stp hA (r_fd (k:=0) U29 rfl sz26 hA rfl rfl) rfl fun a hA =>
  stp hA (r_ldA (j:=0) [] [[.int .u32 x0.Head.Version],av .u8 32 x0.Head.Prev,av .u8 32 x0.Head.Root,[.int .u32 x0.Head.Time],[.int .u32 x0.Head.Work],[.int .u32 x0.Head.Nonce]] [[u0_0]] U26 rfl sz26 rfl hI rfl hA rfl rfl) rfl fun a hA=>?_
 obtain ⟨r1,hr1,H⟩:=bB H
 refine o_call _ cf50 hA rfl (head_Check.c μ _ hI.agr x0.Head ⟨hx0.1,hx0.2.1,hx0.2.2.1,hx0.2.2.2.1,hx0.2.2.2.2.1,hx0.2.2.2.2.2.1⟩ e5 he5 r1 hr1) rfl fun v1 a w hz1 hA=>?_
 obtain ⟨_,μ1,rfl,hS1,hi1⟩:=hz1
 have hI:=hI.call hi1
 refine sta hA rfl rfl fun a hA=>?_
 refine o_nil<|hN3 _ _<|w_seq fun _ hN4=>w_reg<|stm hA rfl rfl fun a hA =>
  stp hA (r_neE erF hI.agr hS1 erv_nil (.inl ⟨.inr ⟨_,rfl⟩,Er.fitR⟩) hA rfl rfl) rfl fun a hA=>?_
 refine o_nil<|hN4 _ _<|w_cond hA rfl (fun hc1=>?_) (fun hc1=>?_)
 ·obtain ⟨hc1,H⟩:=dT H hc1
  refine w_seq fun _ hN5=>w_reg<|stm hA rfl rfl fun a hA =>
   sta hA rfl rfl fun a hA=>?_
  refine o_nil<|hN5 _ _<|w_ret ?_
  obtain rfl:=sJ H
  exact ret1 hA Tryz.results21 rfl ⟨_,rfl,v1,μ1,rfl,hS1,(hI.sl [] rfl)⟩
 ·obtain ⟨hc1,H⟩:=dF H hc1
  refine w_skip<|hN2 _ _<|w_seq fun _ hN6=>w_block ?_
  obtain ⟨c1,hz2,Hk1⟩:=bB H
  refine w_cut (fun a w=>Fr a 45 [(1,pt g1 0),(2,.nilIface),(11,.bool c1)]∧Iv w0 [] μ μ1 [cel g1 [[.int .u32 x0.Head.Version],av .u8 32 x0.Head.Prev,av .u8 32 x0.Head.Root,[.int .u32 x0.Head.Time],[.int .u32 x0.Head.Work],[.int .u32 x0.Head.Nonce],[u0_0]] 29] w) ?_ ?_
  ·have H:=bI hz2
   refine w_reg<|stp hA (r_fd (k:=68) U29 rfl sz27 hA rfl rfl) rfl fun a hA =>
    stp hA (r_ld1 (j:=0) [[.int .u32 x0.Head.Version],av .u8 32 x0.Head.Prev,av .u8 32 x0.Head.Root,[.int .u32 x0.Head.Time],[.int .u32 x0.Head.Work],[.int .u32 x0.Head.Nonce]] [] U27 rfl hI rfl hA rfl rfl) rfl fun a hA=>?_
   obtain ⟨_,hsl1⟩:=Slc.sv (Slc.le hx0.2.2.2.2.2.2 (fun _ _ h=>RTx.le hi1.le h) hi1.le)
   refine stp hA (r_slen U27 hsl1 hA rfl) rfl fun a hA =>
    stp hA (r_eql hA rfl rfl) rfl fun a hA =>
    stm hA rfl rfl fun a hA=>?_
   rcases Bool.eq_false_or_eq_true (decide ((x0.Txs.length:Int)=0)) with hc2 | hc2
   ·have hc20:=hc2;obtain ⟨hc2,H⟩:=dT H hc2
    refine o_no hA rfl rfl (by rw [hc20];simp [vb]) rfl fun a hA =>
     o_no hA rfl rfl (by rw [hc20];simp [vb]) rfl fun a hA =>
     o_no hA rfl rfl (by rw [hc20];simp [vb]) rfl fun a hA =>
     o_no hA rfl rfl (by rw [hc20];simp [vb]) rfl fun a hA =>
     stp hA (r_pick_t hA rfl hc20 rfl) rfl fun a hA =>
     sta hA rfl rfl fun a hA=>?_
    refine o_nil ?_
    cases sJ H
    exact ⟨hA.sub ⟨rfl,rfl,rfl,trivial⟩,hI⟩
   ·have hc20:=hc2;obtain ⟨hc2,H⟩:=dF H hc2
    refine o_yes hA rfl rfl hc20 <|
     stp hA (r_fd (k:=68) U29 rfl sz27 hA rfl rfl) rfl fun a hA =>
     o_yes hA rfl rfl hc20 <|
     stp hA (r_ld1 (j:=0) [[.int .u32 x0.Head.Version],av .u8 32 x0.Head.Prev,av .u8 32 x0.Head.Root,[.int .u32 x0.Head.Time],[.int .u32 x0.Head.Work],[.int .u32 x0.Head.Nonce]] [] U27 rfl hI rfl hA rfl rfl) rfl fun a hA =>
     o_yes hA rfl rfl hc20<|?_
    obtain ⟨_,hsl2⟩:=Slc.sv (Slc.le hx0.2.2.2.2.2.2 (fun _ _ h=>RTx.le hi1.le h) hi1.le)
    refine stp hA (r_slen U27 hsl2 hA rfl) rfl fun a hA =>
     o_yes hA rfl rfl hc20 <|
     stp hA (r_gtr hA rfl rfl) rfl fun a hA =>
     stp hA (r_pick_f hA rfl hc20 rfl) rfl fun a hA =>
     sta hA rfl rfl fun a hA=>?_
    refine o_nil ?_
    cases sJ H
    exact ⟨hA.sub ⟨rfl,rfl,rfl,trivial⟩,hI⟩
  ·rintro a w ⟨hA,hI⟩
   have H:=Hk1
   refine w_cond hA rfl (fun hc3=>?_) (fun hc3=>?_)
   ·have H:=bT H hc3
    refine w_seq fun _ hN7=>w_reg<|stp hA (r_ldG U35 rfl hI.agr (ErV.le (fun _ _ h=>h) hi1.le he1) hA) rfl fun a hA =>
     sta hA rfl rfl fun a hA=>?_
    refine o_nil<|hN7 _ _<|w_ret ?_
    obtain rfl:=sJ H
    exact ret1 hA Tryz.results21 rfl ⟨_,rfl,e1,μ1,rfl,(ErV.le (fun _ _ h=>h) hi1.le he1),(hI.sl [] rfl)⟩
   ·have hc3:=ft hc3;have H:=bF H hc3
    refine w_seq fun _ hN8=>w_reg<|stp hA (r_ldA (j:=0) [] [[.int .u32 x0.Head.Version],av .u8 32 x0.Head.Prev,av .u8 32 x0.Head.Root,[.int .u32 x0.Head.Time],[.int .u32 x0.Head.Work],[.int .u32 x0.Head.Nonce],[u0_0]] [] U29 rfl sz29 rfl hI rfl hA rfl rfl) rfl fun a hA=>?_
    obtain ⟨r2,hr2,H⟩:=bB H
    refine o_callp (u:=.int .i64 r2) cf11 hA rfl hI (block_Size.c μ1 _ hI.agr x0 u0_0 ⟨hx0.1,hx0.2.1,hx0.2.2.1,hx0.2.2.2.1,hx0.2.2.2.2.1,hx0.2.2.2.2.2.1,(Slc.le hx0.2.2.2.2.2.2 (fun _ _ h=>RTx.le hi1.le h) hi1.le)⟩ r2 hr2) rfl fun a w hz3 hI hA =>
     stp hA (r_gtr hA rfl rfl) rfl fun a hA =>
     sta hA rfl rfl fun a hA=>?_
    refine o_nil<|hN8 _ _<|w_cond hA rfl (fun hc4=>?_) (fun hc4=>?_)
    ·obtain ⟨hc4,H⟩:=dT H hc4
     refine w_seq fun _ hN9=>w_reg<|stp hA (r_ldG U35 rfl hI.agr (ErV.le (fun _ _ h=>h) hi1.le he2) hA) rfl fun a hA =>
      sta hA rfl rfl fun a hA=>?_
     refine o_nil<|hN9 _ _<|w_ret ?_
     obtain rfl:=sJ H
     exact ret1 hA Tryz.results21 rfl ⟨_,rfl,e2,μ1,rfl,(ErV.le (fun _ _ h=>h) hi1.le he2),(hI.sl [] rfl)⟩
    ·obtain ⟨hc4,H⟩:=dF H hc4
     refine w_skip<|hN6 _ _<|w_seq fun _ hN10=>w_seq fun _ hN11=>w_reg<|stp hA (r_ldA (j:=0) [] [[.int .u32 x0.Head.Version],av .u8 32 x0.Head.Prev,av .u8 32 x0.Head.Root,[.int .u32 x0.Head.Time],[.int .u32 x0.Head.Work],[.int .u32 x0.Head.Nonce],[u0_0]] [] U29 rfl sz29 rfl hI rfl hA rfl rfl) rfl fun a hA=>?_
     obtain ⟨r3,hr3,H⟩:=bB H
     refine o_call _ cf51 hA rfl (block_parts.c μ1 _ hI.agr x0 u0_0 ⟨hx0.1,hx0.2.1,hx0.2.2.1,hx0.2.2.2.1,hx0.2.2.2.2.1,hx0.2.2.2.2.2.1,(Slc.le hx0.2.2.2.2.2.2 (fun _ _ h=>RTx.le hi1.le h) hi1.le)⟩ e1 (ErV.le (fun _ _ h=>h) hi1.le he1) e2 (ErV.le (fun _ _ h=>h) hi1.le he2) e3 (ErV.le (fun _ _ h=>h) hi1.le he3) e6 (ErV.le (fun _ _ h=>h) hi1.le he6) e7 (ErV.le (fun _ _ h=>h) hi1.le he7) e8 (ErV.le (fun _ _ h=>h) hi1.le he8) r3 hr3) rfl fun v2 a w hz4 hA=>?_
     obtain ⟨_,μ2,rfl,hS2,hi2⟩:=hz4
     have hI:=hI.call hi2
     refine sta hA rfl rfl fun a hA=>?_
     refine o_nil<|hN11 _ _<|w_seq fun _ hN12=>w_reg<|stm hA rfl rfl fun a hA =>
      stp hA (r_neE erF hI.agr hS2 erv_nil (.inl ⟨.inr ⟨_,rfl⟩,Er.fitR⟩) hA rfl rfl) rfl fun a hA=>?_
     refine o_nil<|hN12 _ _<|w_cond hA rfl (fun hc5=>?_) (fun hc5=>?_)
     ·obtain ⟨hc5,H⟩:=dT H hc5
      refine w_seq fun _ hN13=>w_reg<|stm hA rfl rfl fun a hA =>
       sta hA rfl rfl fun a hA=>?_
      refine o_nil<|hN13 _ _<|w_ret ?_
      obtain rfl:=sJ H
      exact ret1 hA Tryz.results21 rfl ⟨_,rfl,v2,μ2,rfl,hS2,(hI.sl [] rfl)⟩
     ·obtain ⟨hc5,H⟩:=dF H hc5
      refine w_skip<|hN10 _ _<|w_seq fun _ hN14=>w_block<|w_seq fun _ hN15=>w_reg<|stp hA (r_ldA (j:=0) [] [[.int .u32 x0.Head.Version],av .u8 32 x0.Head.Prev,av .u8 32 x0.Head.Root,[.int .u32 x0.Head.Time],[.int .u32 x0.Head.Work],[.int .u32 x0.Head.Nonce],[u0_0]] [] U29 rfl sz29 rfl hI rfl hA rfl rfl) rfl fun a hA=>?_
      obtain ⟨r4,hr4,H⟩:=bB H
      refine o_callp (u:=.bool r4) cf52 hA rfl hI (block_twice.c μ2 _ hI.agr x0 u0_0 ⟨hx0.1,hx0.2.1,hx0.2.2.1,hx0.2.2.2.1,hx0.2.2.2.2.1,hx0.2.2.2.2.2.1,(Slc.le hx0.2.2.2.2.2.2 (fun _ _ h=>RTx.le (hi1.le.trans hi2.le) h) (hi1.le.trans hi2.le))⟩ r4 hr4) rfl fun a w hz5 hI hA =>
       sta hA rfl rfl fun a hA=>?_
      refine o_nil<|hN15 _ _<|w_cond hA rfl (fun hc6=>?_) (fun hc6=>?_)
      ·have H:=bT H hc6
       refine w_seq fun _ hN16=>w_reg<|stp hA (r_ldG U35 rfl hI.agr (ErV.le (fun _ _ h=>h) (hi1.le.trans hi2.le) he3) hA) rfl fun a hA =>
        sta hA rfl rfl fun a hA=>?_
       refine o_nil<|hN16 _ _<|w_ret ?_
       obtain rfl:=sJ H
       exact ret1 hA Tryz.results21 rfl ⟨_,rfl,e3,μ2,rfl,(ErV.le (fun _ _ h=>h) (hi1.le.trans hi2.le) he3),(hI.sl [] rfl)⟩
      ·have hc6:=ft hc6;have H:=bF H hc6
       refine w_seq fun _ hN17=>?_
       refine w_any [] mo hI fun w hI=>?_
       refine gT 0 hA rfl hI (fun w hI=>r_ldA (j:=0) [] [[.int .u32 x0.Head.Version],av .u8 32 x0.Head.Prev,av .u8 32 x0.Head.Root,[.int .u32 x0.Head.Time],[.int .u32 x0.Head.Work],[.int .u32 x0.Head.Nonce],[u0_0]] [] U29 rfl sz29 rfl hI rfl hA rfl rfl) fun a hA=>?_
       refine gE 2 hA rfl (.inr hI) (fun _=>r_fd (k:=0) U29 rfl sz26 hA rfl rfl) fun a hA=>?_
       refine gE 3 hA rfl (.inr hI) (fun _=>r_fd (k:=33) U26 rfl sz24 hA rfl rfl) fun a hA=>?_
       refine gT 4 hA rfl hI (fun w hI=>r_ldA (j:=0) [[.int .u32 x0.Head.Version],av .u8 32 x0.Head.Prev] [av .u8 32 x0.Head.Root] [[.int .u32 x0.Head.Time],[.int .u32 x0.Head.Work],[.int .u32 x0.Head.Nonce],[u0_0]] U24 rfl sz24 rfl hI rfl hA rfl rfl) fun a hA=>?_
       refine gF 1 rfl ?_
       obtain ⟨r5,hr5,H⟩:=bB H
       refine o_callp (u:=.agg [av .u8 32 r5].flatten.toArray) cf15 hA rfl hI (block_Root.c μ2 _ hI.agr x0 u0_0 ⟨hx0.1,hx0.2.1,hx0.2.2.1,hx0.2.2.2.1,hx0.2.2.2.2.1,hx0.2.2.2.2.2.1,(Slc.le hx0.2.2.2.2.2.2 (fun _ _ h=>RTx.le (hi1.le.trans hi2.le) h) (hi1.le.trans hi2.le))⟩ r5 hr5) rfl fun a w hz6 hI hA=>?_
       refine o_nil<|⟨(.inr hI),?_⟩
       refine gE 5 hA rfl (.inr hI) (fun _=>r_neS hA rfl rfl eg24 (eqv_arr U24 U5 sz5 hz6 hx0.2.2.1)) fun a hA=>?_
       refine gE 6 hA rfl (.inr hI) (fun _=>r_as hA rfl) fun a hA=>?_
       refine gN<|hN17 _ _<|w_cond hA rfl (fun hc7=>?_) (fun hc7=>?_)
       ·obtain ⟨hc7,H⟩:=dT H hc7
        refine w_seq fun _ hN18=>w_reg<|stp hA (r_ldG U35 rfl hI.agr (ErV.le (fun _ _ h=>h) (hi1.le.trans hi2.le) he4) hA) rfl fun a hA =>
         sta hA rfl rfl fun a hA=>?_
        refine o_nil<|hN18 _ _<|w_ret ?_
        obtain rfl:=sJ H
        exact ret1 hA Tryz.results21 rfl ⟨_,rfl,e4,μ2,rfl,(ErV.le (fun _ _ h=>h) (hi1.le.trans hi2.le) he4),(hI.sl [] rfl)⟩
       ·obtain ⟨hc7,H⟩:=dF H hc7
        refine w_skip<|hN14 _ _<|w_seq fun _ hN19=>w_reg<|sta hA rfl rfl fun a hA=>?_
        refine o_nil<|hN19 _ _<|w_ret ?_
        obtain rfl:=sJ H
        exact ret1 hA Tryz.results21 rfl ⟨_,rfl,.nilIface,μ2,rfl,erv_nil,(hI.sl [] rfl)⟩
theorem block_First.c (μ:Store)(w0:World)(hμ:Agr μ w0)(x0:Int)(hx0:InR .i64 x0)(x1:Int)(hx1:InR .u64 x1)(x2:List Int)(hx2:Arr .u8 32 x2)(x3:List Int)(u3:Value)(hx3:Slc (RI .u8) 1 μ u3 x3)(r:Tx)(H:block_First.f x0 x1 x2 x3=some r) :
  Calls Tryz.prog 63 [.int .i64 x0,.int .u64 x1,.agg [av .u8 32 x2].flatten.toArray,u3].toArray w0 (fun e w'=>∃ v,e=.returned v∧∃(v0_0 v0_1:Value)(μ':Store),v=.agg [[.int .u32 r.Version],[v0_0],[v0_1],[.int .u32 r.Time]].flatten.toArray∧TxW μ' r v0_0 v0_1∧Iv w0 [] μ μ' [] w'):=by
 refine enter Tryz.func63 rfl Tryz.ntmps63 rfl fun a hA=>?_
 have hI:=Iv.start hμ
 have H:=bI H
 refine w_seq fun _ hN1=>w_reg<|o_box [av .u8 32 x2] hI hA rfl rfl rfl fun g1 a w hA hI hg1 =>
  o_new [[.int .u32 0],[Sn],[Sn],[.int .u32 0]] zr63 hI hA rfl fun g2 a w hA hI hg2=>?_
 refine o_nil<|hN1 _ _<|w_seq fun _ hN2=>w_reg<|stm hA rfl rfl fun a hA =>
  stp hA (r_conv U3 U22 hA rfl) rfl fun a hA=>?_
 obtain ⟨r1,hr1,H⟩:=bB H
 refine o_call _ cf83 hA rfl (compact_Four.c μ _ hI.agr ([]) Sn (slc_nil _ _ _) (IntKind.u32.wrap x0) (wrap_in _ _) r1 hr1) rfl fun v1 a w hz1 hA=>?_
 obtain ⟨_,cs1,rfl,hE1,hi1⟩:=hz1
 have hI:=hI.call hi1
 refine stm hA rfl rfl fun a hA=>?_
 obtain ⟨μ1,hle1,hsv1,hI⟩:=hI.freezeRow 0 rfl
 have hS1:Slc (RI .u8) 1 μ1 v1 r1:=⟨_,hE1,hsv1⟩
 have hE2:Els (RS (RI .u8) 1 μ1) 1 ([r1,x3]:List (List Int)) _:=(Els.cons (c:=[[v1]].flatten) ⟨_,rfl,hS1⟩ rfl (Els.cons (c:=[[u3]].flatten) ⟨_,rfl,(Slc.le hx3 (fun _ _ h=>h) hle1)⟩ rfl Els.nil))
 refine o_bsl ([[v1]].flatten++([[u3]].flatten++([]))) te30 zr30 U134 hI hA rfl rfl rfl rfl ((fill_one (cells1 hS1) rfl (by kernel_rfl)).trans ((fill_one (cells1 (Slc.le hx3 (fun _ _ h=>h) hle1)) rfl (by kernel_rfl)).trans (by kernel_rfl))) rfl fun g3 a w hA hI=>?_
 generalize hcs:([[v1]].flatten++([[u3]].flatten++([])):List Value)=cs2 at hE2 hI
 clear hcs
 obtain ⟨r2,hr2,H⟩:=bB H
 refine o_call (fun v w'=>∃(v0:Value)(c0:List Value),v=v0∧Els (RI .u8) 1 r2 c0∧Iv w [] μ1 μ1 [row 5 1 v0 r2.length c0] w') cf82 hA rfl ((by obtain ⟨μ2,hle2,hsv2,hI⟩:=hI.freezeRow 0 rfl;have hS2:Slc (RS (RI .u8) 1 μ2) 1 μ2 (.slice (some ⟨g3,0,none⟩) 2 2) ([r1,x3]:List (List Int)):=⟨_,(Els.mono hE2 (fun _ _ h=>RS.le (fun _ _ h=>h) hle2 h)),hsv2⟩;exact (slices_Concat_byte_byte.c μ2 _ hI.agr ([r1,x3]:List (List Int)) (.slice (some ⟨g3,0,none⟩) 2 2) hS2 r2 hr2).mono fun _ _ ⟨v,he,b0,b1,hv,f0,hi⟩=>⟨v,he,b0,b1,hv,f0,hi.low hle2⟩)) rfl fun v2 a w hz2 hA=>?_
 obtain ⟨_,cs3,rfl,hE3,hi2⟩:=hz2
 have hI:=hI.call hi2
 refine sta hA rfl rfl fun a hA=>?_
 refine o_nil<|hN2 _ _ ?_
 obtain ⟨⟨c1,c2,c3,c4⟩,hz3,Hk1⟩:=bB H
 refine w_cut (fun a w=>∃(μ3:Store)(vvc1 vvc3:Value)(ccc3:List Value)(vvc4:Value)(ccc4:List Value),μ1.le μ3∧Slc (RI .u8) 1 μ3 vvc1 c1∧InR .u32 c2∧Els (RIn μ3) 35 c3 ccc3∧Els (ROut μ3) 33 c4 ccc4∧Fr a 25 [(8,pt g2 0),(9,vvc1)]∧Iv w0 [] μ μ3 [row 67 35 vvc3 c3.length ccc3,row 106 33 vvc4 c4.length ccc4,row 30 1 (.slice (some ⟨g3,0,none⟩) 2 2) ([r1,x3]:List (List Int)).length cs2,cel g2 [[.int .u32 c2],[vvc3],[vvc4],[.int .u32 0]] 63,cel g1 [av .u8 32 x2] 24] w) ?_ ?_
 ·have H:=bI hz3
  refine w_anyS [] mo (fun w (h:Iv w0 [] μ μ1 [row 5 1 v2 r2.length cs3,row 30 1 (.slice (some ⟨g3,0,none⟩) 2 2) ([r1,x3]:List (List Int)).length cs2,cel g2 [[.int .u32 0],[Sn],[Sn],[.int .u32 0]] 63,cel g1 [av .u8 32 x2] 24] w)=>(h.sl [0,1,3] rfl:Iv w0 [] μ μ1 [row 5 1 v2 r2.length cs3,row 30 1 (.slice (some ⟨g3,0,none⟩) 2 2) ([r1,x3]:List (List Int)).length cs2,cel g1 [av .u8 32 x2] 24] w)) hI fun w hI=>?_
  refine gE 1 hA rfl (.inr (hI.sl [0,1,3] rfl)) (fun _=>r_mv hA rfl) fun a hA=>?_
  refine gE 4 hA rfl (.inr (hI.sl [0,1,3] rfl)) (fun _=>r_mv hA rfl) fun a hA=>?_
  refine gT 5 hA rfl (hI.sl [0,1,3] rfl) (fun w hI=>r_ldA (j:=2) [] [av .u8 32 x2] [] U24 rfl sz24 rfl hI rfl hA rfl rfl) fun a hA=>?_
  refine g_fork (i:=0) (is:=[6]) (by kernel_rfl) (List.forall_mem_cons.2 ⟨⟨_,rfl,?_⟩,(List.forall_mem_cons.2 ⟨⟨_,rfl,?_⟩,List.forall_mem_nil _⟩)⟩)
  ·skip
   obtain ⟨r3,hr3,H⟩:=bB H
   refine o_callp (u:=.agg [av .u8 32 r3.Tx,[.int .u32 r3.N]].flatten.toArray) cf100 hA rfl hI (spend_Null.c μ1 _ hI.agr  r3 hr3) rfl fun a w hz4 hI hA=>?_
   refine o_nil<|⟨(.inr (hI.sl [0,1,3] rfl)),?_⟩
   refine g_fork (i:=2) (is:=[6]) (by kernel_rfl) (List.forall_mem_cons.2 ⟨⟨_,rfl,?_⟩,(List.forall_mem_cons.2 ⟨⟨_,rfl,?_⟩,List.forall_mem_nil _⟩)⟩)
   ·skip
    refine stp hA (r_bldS (cs:=[av .u8 32 r3.Tx,[.int .u32 r3.N],[v2],[.int .u32 4294967295]].flatten.toArray) (pl:=[(0,33),(33,1),(34,1)]) zr67 U67 ⟨rfl,sz65,rfl,sz30,rfl,sz22,trivial⟩ hA rfl ((fill_seg [] [av .u8 32 Z32,[.int .u32 0]] [av .u8 32 r3.Tx,[.int .u32 r3.N]] [[Sn],[.int .u32 0]] rfl rfl rfl rfl rfl).trans ((fill_seg [av .u8 32 r3.Tx,[.int .u32 r3.N]] [[Sn]] [[v2]] [[.int .u32 0]] (own_cell hI (j:=0) rfl) rfl rfl rfl rfl).trans ((fill_seg [av .u8 32 r3.Tx,[.int .u32 r3.N],[v2]] [[.int .u32 0]] [[.int .u32 4294967295]] [] rfl rfl rfl rfl rfl).trans (rfl))))) rfl fun a hA=>?_
    refine o_nil<|⟨(.inr (hI.sl [0,1,3] rfl)),?_⟩
    refine g_fork (i:=3) (is:=[6]) (by kernel_rfl) (List.forall_mem_cons.2 ⟨⟨_,rfl,?_⟩,(List.forall_mem_cons.2 ⟨⟨_,rfl,?_⟩,List.forall_mem_nil _⟩)⟩)
    ·skip
     obtain ⟨μ4,hle4,hsv3,hI,hth1⟩:=hI.freezeRowT 0 rfl
     have hS3:Slc (RI .u8) 1 μ4 v2 r2:=⟨_,hE3,hsv3⟩
     have hE4:Els (RIn μ4) 35 ([(⟨r3,r2,4294967295⟩:In)]:List In) _:=(Els.cons (c:=[av .u8 32 r3.Tx,[.int .u32 r3.N],[v2],[.int .u32 4294967295]].flatten) ⟨v2,rfl,⟨hz4.1,hz4.2,hS3,(in_lit .u32 4294967295 rfl)⟩⟩ rfl Els.nil)
     refine o_bsl ([av .u8 32 r3.Tx,[.int .u32 r3.N],[v2],[.int .u32 4294967295]].flatten++([])) te67 zr67 U60 hI hA rfl rfl rfl rfl (by kernel_rfl) rfl fun g4 a w hA hI=>?_
     generalize hcs:([av .u8 32 r3.Tx,[.int .u32 r3.N],[v2],[.int .u32 4294967295]].flatten++([]):List Value)=cs4 at hE4 hI
     clear hcs
     refine o_nil<|⟨(.inr ((hth1 _ _ hI).sl [0,2,4] rfl)),?_⟩
     refine gF 6 rfl ?_
     refine stp hA (r_bldS (cs:=[[.int .u64 x1],av .u8 32 x2].flatten.toArray) (pl:=[(0,1),(1,32)]) zr106 U106 ⟨rfl,sz70,rfl,sz24,trivial⟩ hA rfl (by kernel_rfl)) rfl fun a hA=>?_
     refine o_nil<|⟨(.inr ((hth1 _ _ hI).sl [0,2,4] rfl)),?_⟩
     refine gF 7 rfl ?_
     have hE5:Els (ROut μ4) 33 ([(⟨x1,x2⟩:Out)]:List Out) _:=(Els.cons (c:=[[.int .u64 x1],av .u8 32 x2].flatten) ⟨rfl,⟨hx1,hx2⟩⟩ rfl Els.nil)
     refine o_bsl ([[.int .u64 x1],av .u8 32 x2].flatten++([])) te106 zr106 U61 hI hA rfl rfl rfl rfl (by kernel_rfl) rfl fun g5 a w hA hI=>?_
     generalize hcs:([[.int .u64 x1],av .u8 32 x2].flatten++([]):List Value)=cs5 at hE5 hI
     clear hcs
     refine o_nil<|⟨(.inr ((hth1 _ _ hI).sl [0,3,5] rfl)),?_⟩
     refine gF 8 rfl ?_
     refine stp hA (r_bldS (cs:=[[.int .u32 1],[(.slice (some ⟨g4,0,none⟩) 1 1)],[(.slice (some ⟨g5,0,none⟩) 1 1)],[.int .u32 0]].flatten.toArray) (pl:=[(0,1),(1,1),(2,1),(3,1)]) zr63 U63 ⟨rfl,sz22,rfl,sz60,rfl,sz61,rfl,sz22,trivial⟩ hA rfl ((fill_one rfl rfl (by kernel_rfl)).trans ((fill_one (own_cell hI (j:=1) rfl) rfl (by kernel_rfl)).trans ((fill_one (own_cell hI (j:=0) rfl) rfl (by kernel_rfl)).trans (by kernel_rfl))))) rfl fun a hA=>?_
     refine o_nil<|⟨(.inr ((hth1 _ _ hI).sl [0,3,5] rfl)),?_⟩
     refine gF 9 rfl ?_
     refine o_st (j:=3) [] [[.int .u32 0],[Sn],[Sn],[.int .u32 0]] [[.int .u32 1],[(.slice (some ⟨g4,0,none⟩) 1 1)],[(.slice (some ⟨g5,0,none⟩) 1 1)],[.int .u32 0]] [] sz63 rfl rfl (fO rfl (fl_cons (one_one (own_one hI (j:=1) rfl)) (fl_cons (one_one (own_one hI (j:=0) rfl)) (fO rfl fl_nil)))) hI rfl hA rfl rfl rfl rfl fun w hI=>?_
     refine o_nil<|⟨(.inr ((hth1 _ _ hI).sl [0,3,5] rfl)),?_⟩
     refine gN ?_
     cases sJ H
     exact ⟨μ4,v2,(.slice (some ⟨g4,0,none⟩) 1 1),cs4,(.slice (some ⟨g5,0,none⟩) 1 1),cs5,hle4,hS3,(in_lit .u32 1 rfl),hE4,hE5,hA.sub ⟨rfl,rfl,trivial⟩,(hI.sl [1,0,2,3,4] rfl)⟩
    ·skip
     refine stp hA (r_bldS (cs:=[[.int .u64 x1],av .u8 32 x2].flatten.toArray) (pl:=[(0,1),(1,32)]) zr106 U106 ⟨rfl,sz70,rfl,sz24,trivial⟩ hA rfl (by kernel_rfl)) rfl fun a hA=>?_
     refine o_nil<|⟨(.inr (hI.sl [0,1,3] rfl)),?_⟩
     refine g_fork (i:=3) (is:=[7]) (by kernel_rfl) (List.forall_mem_cons.2 ⟨⟨_,rfl,?_⟩,(List.forall_mem_cons.2 ⟨⟨_,rfl,?_⟩,List.forall_mem_nil _⟩)⟩)
     ·skip
      obtain ⟨μ4,hle4,hsv3,hI,hth1⟩:=hI.freezeRowT 0 rfl
      have hS3:Slc (RI .u8) 1 μ4 v2 r2:=⟨_,hE3,hsv3⟩
      have hE4:Els (RIn μ4) 35 ([(⟨r3,r2,4294967295⟩:In)]:List In) _:=(Els.cons (c:=[av .u8 32 r3.Tx,[.int .u32 r3.N],[v2],[.int .u32 4294967295]].flatten) ⟨v2,rfl,⟨hz4.1,hz4.2,hS3,(in_lit .u32 4294967295 rfl)⟩⟩ rfl Els.nil)
      refine o_bsl ([av .u8 32 r3.Tx,[.int .u32 r3.N],[v2],[.int .u32 4294967295]].flatten++([])) te67 zr67 U60 hI hA rfl rfl rfl rfl (by kernel_rfl) rfl fun g4 a w hA hI=>?_
      generalize hcs:([av .u8 32 r3.Tx,[.int .u32 r3.N],[v2],[.int .u32 4294967295]].flatten++([]):List Value)=cs4 at hE4 hI
      clear hcs
      refine o_nil<|⟨(.inr ((hth1 _ _ hI).sl [0,2,4] rfl)),?_⟩
      refine gF 7 rfl ?_
      have hE5:Els (ROut μ4) 33 ([(⟨x1,x2⟩:Out)]:List Out) _:=(Els.cons (c:=[[.int .u64 x1],av .u8 32 x2].flatten) ⟨rfl,⟨hx1,hx2⟩⟩ rfl Els.nil)
      refine o_bsl ([[.int .u64 x1],av .u8 32 x2].flatten++([])) te106 zr106 U61 hI hA rfl rfl rfl rfl (by kernel_rfl) rfl fun g5 a w hA hI=>?_
      generalize hcs:([[.int .u64 x1],av .u8 32 x2].flatten++([]):List Value)=cs5 at hE5 hI
      clear hcs
      refine o_nil<|⟨(.inr ((hth1 _ _ hI).sl [0,3,5] rfl)),?_⟩
      refine gF 8 rfl ?_
      refine stp hA (r_bldS (cs:=[[.int .u32 1],[(.slice (some ⟨g4,0,none⟩) 1 1)],[(.slice (some ⟨g5,0,none⟩) 1 1)],[.int .u32 0]].flatten.toArray) (pl:=[(0,1),(1,1),(2,1),(3,1)]) zr63 U63 ⟨rfl,sz22,rfl,sz60,rfl,sz61,rfl,sz22,trivial⟩ hA rfl ((fill_one rfl rfl (by kernel_rfl)).trans ((fill_one (own_cell hI (j:=1) rfl) rfl (by kernel_rfl)).trans ((fill_one (own_cell hI (j:=0) rfl) rfl (by kernel_rfl)).trans (by kernel_rfl))))) rfl fun a hA=>?_
      refine o_nil<|⟨(.inr ((hth1 _ _ hI).sl [0,3,5] rfl)),?_⟩
      refine gF 9 rfl ?_
      refine o_st (j:=3) [] [[.int .u32 0],[Sn],[Sn],[.int .u32 0]] [[.int .u32 1],[(.slice (some ⟨g4,0,none⟩) 1 1)],[(.slice (some ⟨g5,0,none⟩) 1 1)],[.int .u32 0]] [] sz63 rfl rfl (fO rfl (fl_cons (one_one (own_one hI (j:=1) rfl)) (fl_cons (one_one (own_one hI (j:=0) rfl)) (fO rfl fl_nil)))) hI rfl hA rfl rfl rfl rfl fun w hI=>?_
      refine o_nil<|⟨(.inr ((hth1 _ _ hI).sl [0,3,5] rfl)),?_⟩
      refine gN ?_
      cases sJ H
      exact ⟨μ4,v2,(.slice (some ⟨g4,0,none⟩) 1 1),cs4,(.slice (some ⟨g5,0,none⟩) 1 1),cs5,hle4,hS3,(in_lit .u32 1 rfl),hE4,hE5,hA.sub ⟨rfl,rfl,trivial⟩,(hI.sl [1,0,2,3,4] rfl)⟩
     ·skip
      have hE4:Els (ROut μ1) 33 ([(⟨x1,x2⟩:Out)]:List Out) _:=(Els.cons (c:=[[.int .u64 x1],av .u8 32 x2].flatten) ⟨rfl,⟨hx1,hx2⟩⟩ rfl Els.nil)
      refine o_bsl ([[.int .u64 x1],av .u8 32 x2].flatten++([])) te106 zr106 U61 hI hA rfl rfl rfl rfl (by kernel_rfl) rfl fun g4 a w hA hI=>?_
      generalize hcs:([[.int .u64 x1],av .u8 32 x2].flatten++([]):List Value)=cs4 at hE4 hI
      clear hcs
      refine o_nil<|⟨(.inr (hI.sl [1,2,4] rfl)),?_⟩
      refine gF 3 rfl ?_
      obtain ⟨μ4,hle4,hsv3,hI,hth1⟩:=hI.freezeRowT 1 rfl
      have hS3:Slc (RI .u8) 1 μ4 v2 r2:=⟨_,hE3,hsv3⟩
      have hE5:Els (RIn μ4) 35 ([(⟨r3,r2,4294967295⟩:In)]:List In) _:=(Els.cons (c:=[av .u8 32 r3.Tx,[.int .u32 r3.N],[v2],[.int .u32 4294967295]].flatten) ⟨v2,rfl,⟨hz4.1,hz4.2,hS3,(in_lit .u32 4294967295 rfl)⟩⟩ rfl Els.nil)
      refine o_bsl ([av .u8 32 r3.Tx,[.int .u32 r3.N],[v2],[.int .u32 4294967295]].flatten++([])) te67 zr67 U60 hI hA rfl rfl rfl rfl (by kernel_rfl) rfl fun g5 a w hA hI=>?_
      generalize hcs:([av .u8 32 r3.Tx,[.int .u32 r3.N],[v2],[.int .u32 4294967295]].flatten++([]):List Value)=cs5 at hE5 hI
      clear hcs
      refine o_nil<|⟨(.inr ((hth1 _ _ hI).sl [0,3,5] rfl)),?_⟩
      refine gF 8 rfl ?_
      refine stp hA (r_bldS (cs:=[[.int .u32 1],[(.slice (some ⟨g5,0,none⟩) 1 1)],[(.slice (some ⟨g4,0,none⟩) 1 1)],[.int .u32 0]].flatten.toArray) (pl:=[(0,1),(1,1),(2,1),(3,1)]) zr63 U63 ⟨rfl,sz22,rfl,sz60,rfl,sz61,rfl,sz22,trivial⟩ hA rfl ((fill_one rfl rfl (by kernel_rfl)).trans ((fill_one (own_cell hI (j:=0) rfl) rfl (by kernel_rfl)).trans ((fill_one (own_cell hI (j:=1) rfl) rfl (by kernel_rfl)).trans (by kernel_rfl))))) rfl fun a hA=>?_
      refine o_nil<|⟨(.inr ((hth1 _ _ hI).sl [0,3,5] rfl)),?_⟩
      refine gF 9 rfl ?_
      refine o_st (j:=3) [] [[.int .u32 0],[Sn],[Sn],[.int .u32 0]] [[.int .u32 1],[(.slice (some ⟨g5,0,none⟩) 1 1)],[(.slice (some ⟨g4,0,none⟩) 1 1)],[.int .u32 0]] [] sz63 rfl rfl (fO rfl (fl_cons (one_one (own_one hI (j:=0) rfl)) (fl_cons (one_one (own_one hI (j:=1) rfl)) (fO rfl fl_nil)))) hI rfl hA rfl rfl rfl rfl fun w hI=>?_
      refine o_nil<|⟨(.inr ((hth1 _ _ hI).sl [0,3,5] rfl)),?_⟩
      refine gN ?_
      cases sJ H
      exact ⟨μ4,v2,(.slice (some ⟨g5,0,none⟩) 1 1),cs5,(.slice (some ⟨g4,0,none⟩) 1 1),cs4,hle4,hS3,(in_lit .u32 1 rfl),hE5,hE4,hA.sub ⟨rfl,rfl,trivial⟩,hI⟩
   ·skip
    refine stp hA (r_bldS (cs:=[[.int .u64 x1],av .u8 32 x2].flatten.toArray) (pl:=[(0,1),(1,32)]) zr106 U106 ⟨rfl,sz70,rfl,sz24,trivial⟩ hA rfl (by kernel_rfl)) rfl fun a hA=>?_
    refine o_nil<|⟨(.inr (hI.sl [0,1,3] rfl)),?_⟩
    refine g_fork (i:=2) (is:=[7]) (by kernel_rfl) (List.forall_mem_cons.2 ⟨⟨_,rfl,?_⟩,(List.forall_mem_cons.2 ⟨⟨_,rfl,?_⟩,List.forall_mem_nil _⟩)⟩)
    ·skip
     refine stp hA (r_bldS (cs:=[av .u8 32 r3.Tx,[.int .u32 r3.N],[v2],[.int .u32 4294967295]].flatten.toArray) (pl:=[(0,33),(33,1),(34,1)]) zr67 U67 ⟨rfl,sz65,rfl,sz30,rfl,sz22,trivial⟩ hA rfl ((fill_seg [] [av .u8 32 Z32,[.int .u32 0]] [av .u8 32 r3.Tx,[.int .u32 r3.N]] [[Sn],[.int .u32 0]] rfl rfl rfl rfl rfl).trans ((fill_seg [av .u8 32 r3.Tx,[.int .u32 r3.N]] [[Sn]] [[v2]] [[.int .u32 0]] (own_cell hI (j:=0) rfl) rfl rfl rfl rfl).trans ((fill_seg [av .u8 32 r3.Tx,[.int .u32 r3.N],[v2]] [[.int .u32 0]] [[.int .u32 4294967295]] [] rfl rfl rfl rfl rfl).trans (rfl))))) rfl fun a hA=>?_
     refine o_nil<|⟨(.inr (hI.sl [0,1,3] rfl)),?_⟩
     refine g_fork (i:=3) (is:=[7]) (by kernel_rfl) (List.forall_mem_cons.2 ⟨⟨_,rfl,?_⟩,(List.forall_mem_cons.2 ⟨⟨_,rfl,?_⟩,List.forall_mem_nil _⟩)⟩)
     ·skip
      obtain ⟨μ4,hle4,hsv3,hI,hth1⟩:=hI.freezeRowT 0 rfl
      have hS3:Slc (RI .u8) 1 μ4 v2 r2:=⟨_,hE3,hsv3⟩
      have hE4:Els (RIn μ4) 35 ([(⟨r3,r2,4294967295⟩:In)]:List In) _:=(Els.cons (c:=[av .u8 32 r3.Tx,[.int .u32 r3.N],[v2],[.int .u32 4294967295]].flatten) ⟨v2,rfl,⟨hz4.1,hz4.2,hS3,(in_lit .u32 4294967295 rfl)⟩⟩ rfl Els.nil)
      refine o_bsl ([av .u8 32 r3.Tx,[.int .u32 r3.N],[v2],[.int .u32 4294967295]].flatten++([])) te67 zr67 U60 hI hA rfl rfl rfl rfl (by kernel_rfl) rfl fun g4 a w hA hI=>?_
      generalize hcs:([av .u8 32 r3.Tx,[.int .u32 r3.N],[v2],[.int .u32 4294967295]].flatten++([]):List Value)=cs4 at hE4 hI
      clear hcs
      refine o_nil<|⟨(.inr ((hth1 _ _ hI).sl [0,2,4] rfl)),?_⟩
      refine gF 7 rfl ?_
      have hE5:Els (ROut μ4) 33 ([(⟨x1,x2⟩:Out)]:List Out) _:=(Els.cons (c:=[[.int .u64 x1],av .u8 32 x2].flatten) ⟨rfl,⟨hx1,hx2⟩⟩ rfl Els.nil)
      refine o_bsl ([[.int .u64 x1],av .u8 32 x2].flatten++([])) te106 zr106 U61 hI hA rfl rfl rfl rfl (by kernel_rfl) rfl fun g5 a w hA hI=>?_
      generalize hcs:([[.int .u64 x1],av .u8 32 x2].flatten++([]):List Value)=cs5 at hE5 hI
      clear hcs
      refine o_nil<|⟨(.inr ((hth1 _ _ hI).sl [0,3,5] rfl)),?_⟩
      refine gF 8 rfl ?_
      refine stp hA (r_bldS (cs:=[[.int .u32 1],[(.slice (some ⟨g4,0,none⟩) 1 1)],[(.slice (some ⟨g5,0,none⟩) 1 1)],[.int .u32 0]].flatten.toArray) (pl:=[(0,1),(1,1),(2,1),(3,1)]) zr63 U63 ⟨rfl,sz22,rfl,sz60,rfl,sz61,rfl,sz22,trivial⟩ hA rfl ((fill_one rfl rfl (by kernel_rfl)).trans ((fill_one (own_cell hI (j:=1) rfl) rfl (by kernel_rfl)).trans ((fill_one (own_cell hI (j:=0) rfl) rfl (by kernel_rfl)).trans (by kernel_rfl))))) rfl fun a hA=>?_
      refine o_nil<|⟨(.inr ((hth1 _ _ hI).sl [0,3,5] rfl)),?_⟩
      refine gF 9 rfl ?_
      refine o_st (j:=3) [] [[.int .u32 0],[Sn],[Sn],[.int .u32 0]] [[.int .u32 1],[(.slice (some ⟨g4,0,none⟩) 1 1)],[(.slice (some ⟨g5,0,none⟩) 1 1)],[.int .u32 0]] [] sz63 rfl rfl (fO rfl (fl_cons (one_one (own_one hI (j:=1) rfl)) (fl_cons (one_one (own_one hI (j:=0) rfl)) (fO rfl fl_nil)))) hI rfl hA rfl rfl rfl rfl fun w hI=>?_
      refine o_nil<|⟨(.inr ((hth1 _ _ hI).sl [0,3,5] rfl)),?_⟩
      refine gN ?_
      cases sJ H
      exact ⟨μ4,v2,(.slice (some ⟨g4,0,none⟩) 1 1),cs4,(.slice (some ⟨g5,0,none⟩) 1 1),cs5,hle4,hS3,(in_lit .u32 1 rfl),hE4,hE5,hA.sub ⟨rfl,rfl,trivial⟩,(hI.sl [1,0,2,3,4] rfl)⟩
     ·skip
      have hE4:Els (ROut μ1) 33 ([(⟨x1,x2⟩:Out)]:List Out) _:=(Els.cons (c:=[[.int .u64 x1],av .u8 32 x2].flatten) ⟨rfl,⟨hx1,hx2⟩⟩ rfl Els.nil)
      refine o_bsl ([[.int .u64 x1],av .u8 32 x2].flatten++([])) te106 zr106 U61 hI hA rfl rfl rfl rfl (by kernel_rfl) rfl fun g4 a w hA hI=>?_
      generalize hcs:([[.int .u64 x1],av .u8 32 x2].flatten++([]):List Value)=cs4 at hE4 hI
      clear hcs
      refine o_nil<|⟨(.inr (hI.sl [1,2,4] rfl)),?_⟩
      refine gF 3 rfl ?_
      obtain ⟨μ4,hle4,hsv3,hI,hth1⟩:=hI.freezeRowT 1 rfl
      have hS3:Slc (RI .u8) 1 μ4 v2 r2:=⟨_,hE3,hsv3⟩
      have hE5:Els (RIn μ4) 35 ([(⟨r3,r2,4294967295⟩:In)]:List In) _:=(Els.cons (c:=[av .u8 32 r3.Tx,[.int .u32 r3.N],[v2],[.int .u32 4294967295]].flatten) ⟨v2,rfl,⟨hz4.1,hz4.2,hS3,(in_lit .u32 4294967295 rfl)⟩⟩ rfl Els.nil)
      refine o_bsl ([av .u8 32 r3.Tx,[.int .u32 r3.N],[v2],[.int .u32 4294967295]].flatten++([])) te67 zr67 U60 hI hA rfl rfl rfl rfl (by kernel_rfl) rfl fun g5 a w hA hI=>?_
      generalize hcs:([av .u8 32 r3.Tx,[.int .u32 r3.N],[v2],[.int .u32 4294967295]].flatten++([]):List Value)=cs5 at hE5 hI
      clear hcs
      refine o_nil<|⟨(.inr ((hth1 _ _ hI).sl [0,3,5] rfl)),?_⟩
      refine gF 8 rfl ?_
      refine stp hA (r_bldS (cs:=[[.int .u32 1],[(.slice (some ⟨g5,0,none⟩) 1 1)],[(.slice (some ⟨g4,0,none⟩) 1 1)],[.int .u32 0]].flatten.toArray) (pl:=[(0,1),(1,1),(2,1),(3,1)]) zr63 U63 ⟨rfl,sz22,rfl,sz60,rfl,sz61,rfl,sz22,trivial⟩ hA rfl ((fill_one rfl rfl (by kernel_rfl)).trans ((fill_one (own_cell hI (j:=0) rfl) rfl (by kernel_rfl)).trans ((fill_one (own_cell hI (j:=1) rfl) rfl (by kernel_rfl)).trans (by kernel_rfl))))) rfl fun a hA=>?_
      refine o_nil<|⟨(.inr ((hth1 _ _ hI).sl [0,3,5] rfl)),?_⟩
      refine gF 9 rfl ?_
      refine o_st (j:=3) [] [[.int .u32 0],[Sn],[Sn],[.int .u32 0]] [[.int .u32 1],[(.slice (some ⟨g5,0,none⟩) 1 1)],[(.slice (some ⟨g4,0,none⟩) 1 1)],[.int .u32 0]] [] sz63 rfl rfl (fO rfl (fl_cons (one_one (own_one hI (j:=0) rfl)) (fl_cons (one_one (own_one hI (j:=1) rfl)) (fO rfl fl_nil)))) hI rfl hA rfl rfl rfl rfl fun w hI=>?_
      refine o_nil<|⟨(.inr ((hth1 _ _ hI).sl [0,3,5] rfl)),?_⟩
      refine gN ?_
      cases sJ H
      exact ⟨μ4,v2,(.slice (some ⟨g5,0,none⟩) 1 1),cs5,(.slice (some ⟨g4,0,none⟩) 1 1),cs4,hle4,hS3,(in_lit .u32 1 rfl),hE5,hE4,hA.sub ⟨rfl,rfl,trivial⟩,hI⟩
    ·skip
     have hE4:Els (ROut μ1) 33 ([(⟨x1,x2⟩:Out)]:List Out) _:=(Els.cons (c:=[[.int .u64 x1],av .u8 32 x2].flatten) ⟨rfl,⟨hx1,hx2⟩⟩ rfl Els.nil)
     refine o_bsl ([[.int .u64 x1],av .u8 32 x2].flatten++([])) te106 zr106 U61 hI hA rfl rfl rfl rfl (by kernel_rfl) rfl fun g4 a w hA hI=>?_
     generalize hcs:([[.int .u64 x1],av .u8 32 x2].flatten++([]):List Value)=cs4 at hE4 hI
     clear hcs
     refine o_nil<|⟨(.inr (hI.sl [1,2,4] rfl)),?_⟩
     refine gF 2 rfl ?_
     refine stp hA (r_bldS (cs:=[av .u8 32 r3.Tx,[.int .u32 r3.N],[v2],[.int .u32 4294967295]].flatten.toArray) (pl:=[(0,33),(33,1),(34,1)]) zr67 U67 ⟨rfl,sz65,rfl,sz30,rfl,sz22,trivial⟩ hA rfl ((fill_seg [] [av .u8 32 Z32,[.int .u32 0]] [av .u8 32 r3.Tx,[.int .u32 r3.N]] [[Sn],[.int .u32 0]] rfl rfl rfl rfl rfl).trans ((fill_seg [av .u8 32 r3.Tx,[.int .u32 r3.N]] [[Sn]] [[v2]] [[.int .u32 0]] (own_cell hI (j:=1) rfl) rfl rfl rfl rfl).trans ((fill_seg [av .u8 32 r3.Tx,[.int .u32 r3.N],[v2]] [[.int .u32 0]] [[.int .u32 4294967295]] [] rfl rfl rfl rfl rfl).trans (rfl))))) rfl fun a hA=>?_
     refine o_nil<|⟨(.inr (hI.sl [1,2,4] rfl)),?_⟩
     refine gF 3 rfl ?_
     obtain ⟨μ4,hle4,hsv3,hI,hth1⟩:=hI.freezeRowT 1 rfl
     have hS3:Slc (RI .u8) 1 μ4 v2 r2:=⟨_,hE3,hsv3⟩
     have hE5:Els (RIn μ4) 35 ([(⟨r3,r2,4294967295⟩:In)]:List In) _:=(Els.cons (c:=[av .u8 32 r3.Tx,[.int .u32 r3.N],[v2],[.int .u32 4294967295]].flatten) ⟨v2,rfl,⟨hz4.1,hz4.2,hS3,(in_lit .u32 4294967295 rfl)⟩⟩ rfl Els.nil)
     refine o_bsl ([av .u8 32 r3.Tx,[.int .u32 r3.N],[v2],[.int .u32 4294967295]].flatten++([])) te67 zr67 U60 hI hA rfl rfl rfl rfl (by kernel_rfl) rfl fun g5 a w hA hI=>?_
     generalize hcs:([av .u8 32 r3.Tx,[.int .u32 r3.N],[v2],[.int .u32 4294967295]].flatten++([]):List Value)=cs5 at hE5 hI
     clear hcs
     refine o_nil<|⟨(.inr ((hth1 _ _ hI).sl [0,3,5] rfl)),?_⟩
     refine gF 8 rfl ?_
     refine stp hA (r_bldS (cs:=[[.int .u32 1],[(.slice (some ⟨g5,0,none⟩) 1 1)],[(.slice (some ⟨g4,0,none⟩) 1 1)],[.int .u32 0]].flatten.toArray) (pl:=[(0,1),(1,1),(2,1),(3,1)]) zr63 U63 ⟨rfl,sz22,rfl,sz60,rfl,sz61,rfl,sz22,trivial⟩ hA rfl ((fill_one rfl rfl (by kernel_rfl)).trans ((fill_one (own_cell hI (j:=0) rfl) rfl (by kernel_rfl)).trans ((fill_one (own_cell hI (j:=1) rfl) rfl (by kernel_rfl)).trans (by kernel_rfl))))) rfl fun a hA=>?_
     refine o_nil<|⟨(.inr ((hth1 _ _ hI).sl [0,3,5] rfl)),?_⟩
     refine gF 9 rfl ?_
     refine o_st (j:=3) [] [[.int .u32 0],[Sn],[Sn],[.int .u32 0]] [[.int .u32 1],[(.slice (some ⟨g5,0,none⟩) 1 1)],[(.slice (some ⟨g4,0,none⟩) 1 1)],[.int .u32 0]] [] sz63 rfl rfl (fO rfl (fl_cons (one_one (own_one hI (j:=0) rfl)) (fl_cons (one_one (own_one hI (j:=1) rfl)) (fO rfl fl_nil)))) hI rfl hA rfl rfl rfl rfl fun w hI=>?_
     refine o_nil<|⟨(.inr ((hth1 _ _ hI).sl [0,3,5] rfl)),?_⟩
     refine gN ?_
     cases sJ H
     exact ⟨μ4,v2,(.slice (some ⟨g5,0,none⟩) 1 1),cs5,(.slice (some ⟨g4,0,none⟩) 1 1),cs4,hle4,hS3,(in_lit .u32 1 rfl),hE5,hE4,hA.sub ⟨rfl,rfl,trivial⟩,hI⟩
  ·skip
   refine stp hA (r_bldS (cs:=[[.int .u64 x1],av .u8 32 x2].flatten.toArray) (pl:=[(0,1),(1,32)]) zr106 U106 ⟨rfl,sz70,rfl,sz24,trivial⟩ hA rfl (by kernel_rfl)) rfl fun a hA=>?_
   refine o_nil<|⟨(.inr (hI.sl [0,1,3] rfl)),?_⟩
   refine g_fork (i:=0) (is:=[7]) (by kernel_rfl) (List.forall_mem_cons.2 ⟨⟨_,rfl,?_⟩,(List.forall_mem_cons.2 ⟨⟨_,rfl,?_⟩,List.forall_mem_nil _⟩)⟩)
   ·skip
    obtain ⟨r3,hr3,H⟩:=bB H
    refine o_callp (u:=.agg [av .u8 32 r3.Tx,[.int .u32 r3.N]].flatten.toArray) cf100 hA rfl hI (spend_Null.c μ1 _ hI.agr  r3 hr3) rfl fun a w hz4 hI hA=>?_
    refine o_nil<|⟨(.inr (hI.sl [0,1,3] rfl)),?_⟩
    refine g_fork (i:=2) (is:=[7]) (by kernel_rfl) (List.forall_mem_cons.2 ⟨⟨_,rfl,?_⟩,(List.forall_mem_cons.2 ⟨⟨_,rfl,?_⟩,List.forall_mem_nil _⟩)⟩)
    ·skip
     refine stp hA (r_bldS (cs:=[av .u8 32 r3.Tx,[.int .u32 r3.N],[v2],[.int .u32 4294967295]].flatten.toArray) (pl:=[(0,33),(33,1),(34,1)]) zr67 U67 ⟨rfl,sz65,rfl,sz30,rfl,sz22,trivial⟩ hA rfl ((fill_seg [] [av .u8 32 Z32,[.int .u32 0]] [av .u8 32 r3.Tx,[.int .u32 r3.N]] [[Sn],[.int .u32 0]] rfl rfl rfl rfl rfl).trans ((fill_seg [av .u8 32 r3.Tx,[.int .u32 r3.N]] [[Sn]] [[v2]] [[.int .u32 0]] (own_cell hI (j:=0) rfl) rfl rfl rfl rfl).trans ((fill_seg [av .u8 32 r3.Tx,[.int .u32 r3.N],[v2]] [[.int .u32 0]] [[.int .u32 4294967295]] [] rfl rfl rfl rfl rfl).trans (rfl))))) rfl fun a hA=>?_
     refine o_nil<|⟨(.inr (hI.sl [0,1,3] rfl)),?_⟩
     refine g_fork (i:=3) (is:=[7]) (by kernel_rfl) (List.forall_mem_cons.2 ⟨⟨_,rfl,?_⟩,(List.forall_mem_cons.2 ⟨⟨_,rfl,?_⟩,List.forall_mem_nil _⟩)⟩)
     ·skip
      obtain ⟨μ4,hle4,hsv3,hI,hth1⟩:=hI.freezeRowT 0 rfl
      have hS3:Slc (RI .u8) 1 μ4 v2 r2:=⟨_,hE3,hsv3⟩
      have hE4:Els (RIn μ4) 35 ([(⟨r3,r2,4294967295⟩:In)]:List In) _:=(Els.cons (c:=[av .u8 32 r3.Tx,[.int .u32 r3.N],[v2],[.int .u32 4294967295]].flatten) ⟨v2,rfl,⟨hz4.1,hz4.2,hS3,(in_lit .u32 4294967295 rfl)⟩⟩ rfl Els.nil)
      refine o_bsl ([av .u8 32 r3.Tx,[.int .u32 r3.N],[v2],[.int .u32 4294967295]].flatten++([])) te67 zr67 U60 hI hA rfl rfl rfl rfl (by kernel_rfl) rfl fun g4 a w hA hI=>?_
      generalize hcs:([av .u8 32 r3.Tx,[.int .u32 r3.N],[v2],[.int .u32 4294967295]].flatten++([]):List Value)=cs4 at hE4 hI
      clear hcs
      refine o_nil<|⟨(.inr ((hth1 _ _ hI).sl [0,2,4] rfl)),?_⟩
      refine gF 7 rfl ?_
      have hE5:Els (ROut μ4) 33 ([(⟨x1,x2⟩:Out)]:List Out) _:=(Els.cons (c:=[[.int .u64 x1],av .u8 32 x2].flatten) ⟨rfl,⟨hx1,hx2⟩⟩ rfl Els.nil)
      refine o_bsl ([[.int .u64 x1],av .u8 32 x2].flatten++([])) te106 zr106 U61 hI hA rfl rfl rfl rfl (by kernel_rfl) rfl fun g5 a w hA hI=>?_
      generalize hcs:([[.int .u64 x1],av .u8 32 x2].flatten++([]):List Value)=cs5 at hE5 hI
      clear hcs
      refine o_nil<|⟨(.inr ((hth1 _ _ hI).sl [0,3,5] rfl)),?_⟩
      refine gF 8 rfl ?_
      refine stp hA (r_bldS (cs:=[[.int .u32 1],[(.slice (some ⟨g4,0,none⟩) 1 1)],[(.slice (some ⟨g5,0,none⟩) 1 1)],[.int .u32 0]].flatten.toArray) (pl:=[(0,1),(1,1),(2,1),(3,1)]) zr63 U63 ⟨rfl,sz22,rfl,sz60,rfl,sz61,rfl,sz22,trivial⟩ hA rfl ((fill_one rfl rfl (by kernel_rfl)).trans ((fill_one (own_cell hI (j:=1) rfl) rfl (by kernel_rfl)).trans ((fill_one (own_cell hI (j:=0) rfl) rfl (by kernel_rfl)).trans (by kernel_rfl))))) rfl fun a hA=>?_
      refine o_nil<|⟨(.inr ((hth1 _ _ hI).sl [0,3,5] rfl)),?_⟩
      refine gF 9 rfl ?_
      refine o_st (j:=3) [] [[.int .u32 0],[Sn],[Sn],[.int .u32 0]] [[.int .u32 1],[(.slice (some ⟨g4,0,none⟩) 1 1)],[(.slice (some ⟨g5,0,none⟩) 1 1)],[.int .u32 0]] [] sz63 rfl rfl (fO rfl (fl_cons (one_one (own_one hI (j:=1) rfl)) (fl_cons (one_one (own_one hI (j:=0) rfl)) (fO rfl fl_nil)))) hI rfl hA rfl rfl rfl rfl fun w hI=>?_
      refine o_nil<|⟨(.inr ((hth1 _ _ hI).sl [0,3,5] rfl)),?_⟩
      refine gN ?_
      cases sJ H
      exact ⟨μ4,v2,(.slice (some ⟨g4,0,none⟩) 1 1),cs4,(.slice (some ⟨g5,0,none⟩) 1 1),cs5,hle4,hS3,(in_lit .u32 1 rfl),hE4,hE5,hA.sub ⟨rfl,rfl,trivial⟩,(hI.sl [1,0,2,3,4] rfl)⟩
     ·skip
      have hE4:Els (ROut μ1) 33 ([(⟨x1,x2⟩:Out)]:List Out) _:=(Els.cons (c:=[[.int .u64 x1],av .u8 32 x2].flatten) ⟨rfl,⟨hx1,hx2⟩⟩ rfl Els.nil)
      refine o_bsl ([[.int .u64 x1],av .u8 32 x2].flatten++([])) te106 zr106 U61 hI hA rfl rfl rfl rfl (by kernel_rfl) rfl fun g4 a w hA hI=>?_
      generalize hcs:([[.int .u64 x1],av .u8 32 x2].flatten++([]):List Value)=cs4 at hE4 hI
      clear hcs
      refine o_nil<|⟨(.inr (hI.sl [1,2,4] rfl)),?_⟩
      refine gF 3 rfl ?_
      obtain ⟨μ4,hle4,hsv3,hI,hth1⟩:=hI.freezeRowT 1 rfl
      have hS3:Slc (RI .u8) 1 μ4 v2 r2:=⟨_,hE3,hsv3⟩
      have hE5:Els (RIn μ4) 35 ([(⟨r3,r2,4294967295⟩:In)]:List In) _:=(Els.cons (c:=[av .u8 32 r3.Tx,[.int .u32 r3.N],[v2],[.int .u32 4294967295]].flatten) ⟨v2,rfl,⟨hz4.1,hz4.2,hS3,(in_lit .u32 4294967295 rfl)⟩⟩ rfl Els.nil)
      refine o_bsl ([av .u8 32 r3.Tx,[.int .u32 r3.N],[v2],[.int .u32 4294967295]].flatten++([])) te67 zr67 U60 hI hA rfl rfl rfl rfl (by kernel_rfl) rfl fun g5 a w hA hI=>?_
      generalize hcs:([av .u8 32 r3.Tx,[.int .u32 r3.N],[v2],[.int .u32 4294967295]].flatten++([]):List Value)=cs5 at hE5 hI
      clear hcs
      refine o_nil<|⟨(.inr ((hth1 _ _ hI).sl [0,3,5] rfl)),?_⟩
      refine gF 8 rfl ?_
      refine stp hA (r_bldS (cs:=[[.int .u32 1],[(.slice (some ⟨g5,0,none⟩) 1 1)],[(.slice (some ⟨g4,0,none⟩) 1 1)],[.int .u32 0]].flatten.toArray) (pl:=[(0,1),(1,1),(2,1),(3,1)]) zr63 U63 ⟨rfl,sz22,rfl,sz60,rfl,sz61,rfl,sz22,trivial⟩ hA rfl ((fill_one rfl rfl (by kernel_rfl)).trans ((fill_one (own_cell hI (j:=0) rfl) rfl (by kernel_rfl)).trans ((fill_one (own_cell hI (j:=1) rfl) rfl (by kernel_rfl)).trans (by kernel_rfl))))) rfl fun a hA=>?_
      refine o_nil<|⟨(.inr ((hth1 _ _ hI).sl [0,3,5] rfl)),?_⟩
      refine gF 9 rfl ?_
      refine o_st (j:=3) [] [[.int .u32 0],[Sn],[Sn],[.int .u32 0]] [[.int .u32 1],[(.slice (some ⟨g5,0,none⟩) 1 1)],[(.slice (some ⟨g4,0,none⟩) 1 1)],[.int .u32 0]] [] sz63 rfl rfl (fO rfl (fl_cons (one_one (own_one hI (j:=0) rfl)) (fl_cons (one_one (own_one hI (j:=1) rfl)) (fO rfl fl_nil)))) hI rfl hA rfl rfl rfl rfl fun w hI=>?_
      refine o_nil<|⟨(.inr ((hth1 _ _ hI).sl [0,3,5] rfl)),?_⟩
      refine gN ?_
      cases sJ H
      exact ⟨μ4,v2,(.slice (some ⟨g5,0,none⟩) 1 1),cs5,(.slice (some ⟨g4,0,none⟩) 1 1),cs4,hle4,hS3,(in_lit .u32 1 rfl),hE5,hE4,hA.sub ⟨rfl,rfl,trivial⟩,hI⟩
    ·skip
     have hE4:Els (ROut μ1) 33 ([(⟨x1,x2⟩:Out)]:List Out) _:=(Els.cons (c:=[[.int .u64 x1],av .u8 32 x2].flatten) ⟨rfl,⟨hx1,hx2⟩⟩ rfl Els.nil)
     refine o_bsl ([[.int .u64 x1],av .u8 32 x2].flatten++([])) te106 zr106 U61 hI hA rfl rfl rfl rfl (by kernel_rfl) rfl fun g4 a w hA hI=>?_
     generalize hcs:([[.int .u64 x1],av .u8 32 x2].flatten++([]):List Value)=cs4 at hE4 hI
     clear hcs
     refine o_nil<|⟨(.inr (hI.sl [1,2,4] rfl)),?_⟩
     refine gF 2 rfl ?_
     refine stp hA (r_bldS (cs:=[av .u8 32 r3.Tx,[.int .u32 r3.N],[v2],[.int .u32 4294967295]].flatten.toArray) (pl:=[(0,33),(33,1),(34,1)]) zr67 U67 ⟨rfl,sz65,rfl,sz30,rfl,sz22,trivial⟩ hA rfl ((fill_seg [] [av .u8 32 Z32,[.int .u32 0]] [av .u8 32 r3.Tx,[.int .u32 r3.N]] [[Sn],[.int .u32 0]] rfl rfl rfl rfl rfl).trans ((fill_seg [av .u8 32 r3.Tx,[.int .u32 r3.N]] [[Sn]] [[v2]] [[.int .u32 0]] (own_cell hI (j:=1) rfl) rfl rfl rfl rfl).trans ((fill_seg [av .u8 32 r3.Tx,[.int .u32 r3.N],[v2]] [[.int .u32 0]] [[.int .u32 4294967295]] [] rfl rfl rfl rfl rfl).trans (rfl))))) rfl fun a hA=>?_
     refine o_nil<|⟨(.inr (hI.sl [1,2,4] rfl)),?_⟩
     refine gF 3 rfl ?_
     obtain ⟨μ4,hle4,hsv3,hI,hth1⟩:=hI.freezeRowT 1 rfl
     have hS3:Slc (RI .u8) 1 μ4 v2 r2:=⟨_,hE3,hsv3⟩
     have hE5:Els (RIn μ4) 35 ([(⟨r3,r2,4294967295⟩:In)]:List In) _:=(Els.cons (c:=[av .u8 32 r3.Tx,[.int .u32 r3.N],[v2],[.int .u32 4294967295]].flatten) ⟨v2,rfl,⟨hz4.1,hz4.2,hS3,(in_lit .u32 4294967295 rfl)⟩⟩ rfl Els.nil)
     refine o_bsl ([av .u8 32 r3.Tx,[.int .u32 r3.N],[v2],[.int .u32 4294967295]].flatten++([])) te67 zr67 U60 hI hA rfl rfl rfl rfl (by kernel_rfl) rfl fun g5 a w hA hI=>?_
     generalize hcs:([av .u8 32 r3.Tx,[.int .u32 r3.N],[v2],[.int .u32 4294967295]].flatten++([]):List Value)=cs5 at hE5 hI
     clear hcs
     refine o_nil<|⟨(.inr ((hth1 _ _ hI).sl [0,3,5] rfl)),?_⟩
     refine gF 8 rfl ?_
     refine stp hA (r_bldS (cs:=[[.int .u32 1],[(.slice (some ⟨g5,0,none⟩) 1 1)],[(.slice (some ⟨g4,0,none⟩) 1 1)],[.int .u32 0]].flatten.toArray) (pl:=[(0,1),(1,1),(2,1),(3,1)]) zr63 U63 ⟨rfl,sz22,rfl,sz60,rfl,sz61,rfl,sz22,trivial⟩ hA rfl ((fill_one rfl rfl (by kernel_rfl)).trans ((fill_one (own_cell hI (j:=0) rfl) rfl (by kernel_rfl)).trans ((fill_one (own_cell hI (j:=1) rfl) rfl (by kernel_rfl)).trans (by kernel_rfl))))) rfl fun a hA=>?_
     refine o_nil<|⟨(.inr ((hth1 _ _ hI).sl [0,3,5] rfl)),?_⟩
     refine gF 9 rfl ?_
     refine o_st (j:=3) [] [[.int .u32 0],[Sn],[Sn],[.int .u32 0]] [[.int .u32 1],[(.slice (some ⟨g5,0,none⟩) 1 1)],[(.slice (some ⟨g4,0,none⟩) 1 1)],[.int .u32 0]] [] sz63 rfl rfl (fO rfl (fl_cons (one_one (own_one hI (j:=0) rfl)) (fl_cons (one_one (own_one hI (j:=1) rfl)) (fO rfl fl_nil)))) hI rfl hA rfl rfl rfl rfl fun w hI=>?_
     refine o_nil<|⟨(.inr ((hth1 _ _ hI).sl [0,3,5] rfl)),?_⟩
     refine gN ?_
     cases sJ H
     exact ⟨μ4,v2,(.slice (some ⟨g5,0,none⟩) 1 1),cs5,(.slice (some ⟨g4,0,none⟩) 1 1),cs4,hle4,hS3,(in_lit .u32 1 rfl),hE5,hE4,hA.sub ⟨rfl,rfl,trivial⟩,hI⟩
   ·skip
    have hE4:Els (ROut μ1) 33 ([(⟨x1,x2⟩:Out)]:List Out) _:=(Els.cons (c:=[[.int .u64 x1],av .u8 32 x2].flatten) ⟨rfl,⟨hx1,hx2⟩⟩ rfl Els.nil)
    refine o_bsl ([[.int .u64 x1],av .u8 32 x2].flatten++([])) te106 zr106 U61 hI hA rfl rfl rfl rfl (by kernel_rfl) rfl fun g4 a w hA hI=>?_
    generalize hcs:([[.int .u64 x1],av .u8 32 x2].flatten++([]):List Value)=cs4 at hE4 hI
    clear hcs
    refine o_nil<|⟨(.inr (hI.sl [1,2,4] rfl)),?_⟩
    refine gF 0 rfl ?_
    obtain ⟨r3,hr3,H⟩:=bB H
    refine o_callp (u:=.agg [av .u8 32 r3.Tx,[.int .u32 r3.N]].flatten.toArray) cf100 hA rfl hI (spend_Null.c μ1 _ hI.agr  r3 hr3) rfl fun a w hz4 hI hA=>?_
    refine o_nil<|⟨(.inr (hI.sl [1,2,4] rfl)),?_⟩
    refine gF 2 rfl ?_
    refine stp hA (r_bldS (cs:=[av .u8 32 r3.Tx,[.int .u32 r3.N],[v2],[.int .u32 4294967295]].flatten.toArray) (pl:=[(0,33),(33,1),(34,1)]) zr67 U67 ⟨rfl,sz65,rfl,sz30,rfl,sz22,trivial⟩ hA rfl ((fill_seg [] [av .u8 32 Z32,[.int .u32 0]] [av .u8 32 r3.Tx,[.int .u32 r3.N]] [[Sn],[.int .u32 0]] rfl rfl rfl rfl rfl).trans ((fill_seg [av .u8 32 r3.Tx,[.int .u32 r3.N]] [[Sn]] [[v2]] [[.int .u32 0]] (own_cell hI (j:=1) rfl) rfl rfl rfl rfl).trans ((fill_seg [av .u8 32 r3.Tx,[.int .u32 r3.N],[v2]] [[.int .u32 0]] [[.int .u32 4294967295]] [] rfl rfl rfl rfl rfl).trans (rfl))))) rfl fun a hA=>?_
    refine o_nil<|⟨(.inr (hI.sl [1,2,4] rfl)),?_⟩
    refine gF 3 rfl ?_
    obtain ⟨μ4,hle4,hsv3,hI,hth1⟩:=hI.freezeRowT 1 rfl
    have hS3:Slc (RI .u8) 1 μ4 v2 r2:=⟨_,hE3,hsv3⟩
    have hE5:Els (RIn μ4) 35 ([(⟨r3,r2,4294967295⟩:In)]:List In) _:=(Els.cons (c:=[av .u8 32 r3.Tx,[.int .u32 r3.N],[v2],[.int .u32 4294967295]].flatten) ⟨v2,rfl,⟨hz4.1,hz4.2,hS3,(in_lit .u32 4294967295 rfl)⟩⟩ rfl Els.nil)
    refine o_bsl ([av .u8 32 r3.Tx,[.int .u32 r3.N],[v2],[.int .u32 4294967295]].flatten++([])) te67 zr67 U60 hI hA rfl rfl rfl rfl (by kernel_rfl) rfl fun g5 a w hA hI=>?_
    generalize hcs:([av .u8 32 r3.Tx,[.int .u32 r3.N],[v2],[.int .u32 4294967295]].flatten++([]):List Value)=cs5 at hE5 hI
    clear hcs
    refine o_nil<|⟨(.inr ((hth1 _ _ hI).sl [0,3,5] rfl)),?_⟩
    refine gF 8 rfl ?_
    refine stp hA (r_bldS (cs:=[[.int .u32 1],[(.slice (some ⟨g5,0,none⟩) 1 1)],[(.slice (some ⟨g4,0,none⟩) 1 1)],[.int .u32 0]].flatten.toArray) (pl:=[(0,1),(1,1),(2,1),(3,1)]) zr63 U63 ⟨rfl,sz22,rfl,sz60,rfl,sz61,rfl,sz22,trivial⟩ hA rfl ((fill_one rfl rfl (by kernel_rfl)).trans ((fill_one (own_cell hI (j:=0) rfl) rfl (by kernel_rfl)).trans ((fill_one (own_cell hI (j:=1) rfl) rfl (by kernel_rfl)).trans (by kernel_rfl))))) rfl fun a hA=>?_
    refine o_nil<|⟨(.inr ((hth1 _ _ hI).sl [0,3,5] rfl)),?_⟩
    refine gF 9 rfl ?_
    refine o_st (j:=3) [] [[.int .u32 0],[Sn],[Sn],[.int .u32 0]] [[.int .u32 1],[(.slice (some ⟨g5,0,none⟩) 1 1)],[(.slice (some ⟨g4,0,none⟩) 1 1)],[.int .u32 0]] [] sz63 rfl rfl (fO rfl (fl_cons (one_one (own_one hI (j:=0) rfl)) (fl_cons (one_one (own_one hI (j:=1) rfl)) (fO rfl fl_nil)))) hI rfl hA rfl rfl rfl rfl fun w hI=>?_
    refine o_nil<|⟨(.inr ((hth1 _ _ hI).sl [0,3,5] rfl)),?_⟩
    refine gN ?_
    cases sJ H
    exact ⟨μ4,v2,(.slice (some ⟨g5,0,none⟩) 1 1),cs5,(.slice (some ⟨g4,0,none⟩) 1 1),cs4,hle4,hS3,(in_lit .u32 1 rfl),hE5,hE4,hA.sub ⟨rfl,rfl,trivial⟩,hI⟩
 ·rintro a w ⟨μ3,vvc1,vvc3,ccc3,vvc4,ccc4,hle3,wc1,wc2,wc3,wc4,hA,hI⟩
  have H:=Hk1
  refine w_ret ?_
  obtain ⟨μ5,hle5,hsv4,hI⟩:=hI.freezeRow 0 rfl
  have hS4:Slc (RIn μ5) 35 μ5 vvc3 c3:=⟨_,(Els.mono wc3 (fun _ _ h=>RIn.le hle5 h)),hsv4⟩
  obtain ⟨μ6,hle6,hsv5,hI⟩:=hI.freezeRow 0 rfl
  have hS5:Slc (ROut μ6) 33 μ6 vvc4 c4:=⟨_,wc4,hsv5⟩
  obtain rfl:=sJ H
  exact retc U63 rfl sz63 rfl hI (j:=1) rfl hA Tryz.results63 rfl ⟨_,rfl,vvc3,vvc4,μ6,rfl,⟨wc2,(Slc.le hS4 (fun _ _ h=>RIn.le hle6 h) hle6),hS5,(in_lit .u32 0 rfl)⟩,(hI.sl [] rfl)⟩
theorem block_Start.c (μ:Store)(w0:World)(hμ:Agr μ w0)(r:Block)(H:block_Start.f=some r) :
  Calls Tryz.prog 26 [].toArray w0 (fun e w'=>∃ v,e=.returned v∧∃(v0_0:Value)(μ':Store),v=.agg [[.int .u32 r.Head.Version],av .u8 32 r.Head.Prev,av .u8 32 r.Head.Root,[.int .u32 r.Head.Time],[.int .u32 r.Head.Work],[.int .u32 r.Head.Nonce],[v0_0]].flatten.toArray∧BlockW μ' r v0_0∧Iv w0 [] μ μ' [] w'):=by
 refine enter Tryz.func26 rfl Tryz.ntmps26 rfl fun a hA=>?_
 have hI:=Iv.start hμ
 have H:=bI H
 refine w_seq fun _ hN1=>w_reg<|o_new [[.int .u32 0],av .u8 32 Z32,av .u8 32 Z32,[.int .u32 0],[.int .u32 0],[.int .u32 0],[Sn]] zr29 hI hA rfl fun g1 a w hA hI hg1=>?_
 refine o_nil<|hN1 _ _<|w_seq fun _ hN2=>w_reg<|stp hA (r_bldS (cs:=[[.int .u32 1],av .u8 32 Z32,av .u8 32 Z32,[.int .u32 1000],[.int .u32 1],[.int .u32 0]].flatten.toArray) (pl:=[(0,1),(1,32),(33,32),(65,1),(66,1),(67,1)]) zr26 U26 ⟨rfl,sz22,rfl,sz24,rfl,sz24,rfl,sz22,rfl,sz22,rfl,sz22,trivial⟩ hA rfl (by kernel_rfl)) rfl fun a hA=>?_
 obtain ⟨r1,hr1,H⟩:=bB H
 refine o_callp (u:=.agg [av .u8 32 r1].flatten.toArray) cf64 hA rfl hI (spend_Lock.c μ _ hI.agr ([]) Sn (slc_nil _ _ _) r1 hr1) rfl fun a w hz1 hI hA=>?_
 obtain ⟨r2,hr2,H⟩:=bB H
 refine o_call _ cf63 hA rfl (block_First.c μ _ hI.agr 0 (in_lit .i64 0 rfl) 0 (in_lit .u64 0 rfl) r1 hz1 ([]) Sn (slc_nil _ _ _) r2 hr2) rfl fun v1 a w hz2 hA=>?_
 obtain ⟨v2,v3,μ1,rfl,hw1,hi1⟩:=hz2
 have hI:=hI.call hi1
 have hE1:Els (RTx μ1) 4 ([r2]:List Tx) _:=(Els.cons (c:=[[.int .u32 r2.Version],[v2],[v3],[.int .u32 r2.Time]].flatten) ⟨v2,v3,rfl,⟨hw1.1,hw1.2.1,hw1.2.2.1,hw1.2.2.2⟩⟩ rfl Els.nil)
 refine o_bsl ([[.int .u32 r2.Version],[v2],[v3],[.int .u32 r2.Time]].flatten++([])) te63 zr63 U27 hI hA rfl rfl rfl rfl (by kernel_rfl) rfl fun g2 a w hA hI=>?_
 generalize hcs:([[.int .u32 r2.Version],[v2],[v3],[.int .u32 r2.Time]].flatten++([]):List Value)=cs1 at hE1 hI
 clear hcs
 refine stp hA (r_bldS (cs:=[[.int .u32 1],av .u8 32 Z32,av .u8 32 Z32,[.int .u32 1000],[.int .u32 1],[.int .u32 0],[(.slice (some ⟨g2,0,none⟩) 1 1)]].flatten.toArray) (pl:=[(0,68),(68,1)]) zr29 U29 ⟨rfl,sz26,rfl,sz27,trivial⟩ hA rfl ((fill_seg [] [[.int .u32 0],av .u8 32 Z32,av .u8 32 Z32,[.int .u32 0],[.int .u32 0],[.int .u32 0]] [[.int .u32 1],av .u8 32 Z32,av .u8 32 Z32,[.int .u32 1000],[.int .u32 1],[.int .u32 0]] [[Sn]] rfl rfl rfl rfl rfl).trans ((fill_seg [[.int .u32 1],av .u8 32 Z32,av .u8 32 Z32,[.int .u32 1000],[.int .u32 1],[.int .u32 0]] [[Sn]] [[(.slice (some ⟨g2,0,none⟩) 1 1)]] [] (own_cell hI (j:=0) rfl) rfl rfl rfl rfl).trans (rfl)))) rfl fun a hA =>
  o_new [[.int .u32 0],av .u8 32 Z32,av .u8 32 Z32,[.int .u32 0],[.int .u32 0],[.int .u32 0],[Sn]] zr29 hI hA rfl fun g3 a w hA hI hg3 =>
  o_st (j:=0) [] [[.int .u32 0],av .u8 32 Z32,av .u8 32 Z32,[.int .u32 0],[.int .u32 0],[.int .u32 0],[Sn]] [[.int .u32 1],av .u8 32 Z32,av .u8 32 Z32,[.int .u32 1000],[.int .u32 1],[.int .u32 0],[(.slice (some ⟨g2,0,none⟩) 1 1)]] [] sz29 rfl rfl (fO rfl (fl_cons (one_av _ _ _) (fl_cons (one_av _ _ _) (fO rfl (fO rfl (fO rfl (fl_cons (one_one (own_one hI (j:=1) rfl)) fl_nil))))))) hI rfl hA rfl rfl rfl rfl fun w hI=>?_
 refine o_nil<|hN2 _ _<|w_seq fun _ hN3=>w_reg<|stp hA (r_ldA (j:=0) [] [[.int .u32 1],av .u8 32 Z32,av .u8 32 Z32,[.int .u32 1000],[.int .u32 1],[.int .u32 0],[(.slice (some ⟨g2,0,none⟩) 1 1)]] [] U29 rfl sz29 rfl hI rfl hA rfl rfl) rfl fun a hA=>?_
 obtain ⟨r3,hr3,H⟩:=bB H
 refine o_callp (u:=.agg [av .u8 32 r3].flatten.toArray) cf15 hA rfl hI ((by obtain ⟨μ2,hle1,hsv1,hI⟩:=hI.freezeRow 1 rfl;have hS1:Slc (RTx μ2) 4 μ2 (.slice (some ⟨g2,0,none⟩) 1 1) ([r2]:List Tx):=⟨_,(Els.mono hE1 (fun _ _ h=>RTx.le hle1 h)),hsv1⟩;exact low_plain hle1 (block_Root.c μ2 _ hI.agr (⟨(⟨1,Z32,Z32,1000,1,0⟩:Head),([r2]:List Tx)⟩:Block) (.slice (some ⟨g2,0,none⟩) 1 1) ⟨(in_lit .u32 1 rfl),(arr_zero _ _),(arr_zero _ _),(in_lit .u32 1000 rfl),(in_lit .u32 1 rfl),(in_lit .u32 0 rfl),hS1⟩ r3 hr3))) rfl fun a w hz3 hI hA =>
  stp hA (r_fd (k:=0) U29 rfl sz26 hA rfl rfl) rfl fun a hA =>
  stp hA (r_fd (k:=33) U26 rfl sz24 hA rfl rfl) rfl fun a hA =>
  o_st (j:=0) [[.int .u32 1],av .u8 32 Z32] [av .u8 32 Z32] [av .u8 32 r3] [[.int .u32 1000],[.int .u32 1],[.int .u32 0],[(.slice (some ⟨g2,0,none⟩) 1 1)]] sz24 rfl rfl (fl_cons (one_av _ _ _) fl_nil) hI rfl hA rfl rfl rfl rfl fun w hI=>?_
 refine o_nil<|hN3 _ _<|w_seq fun _ hN4=>w_reg<|stp hA (r_ldA (j:=0) [] [[.int .u32 1],av .u8 32 Z32,av .u8 32 r3,[.int .u32 1000],[.int .u32 1],[.int .u32 0],[(.slice (some ⟨g2,0,none⟩) 1 1)]] [] U29 rfl sz29 rfl hI rfl hA rfl rfl) rfl fun a hA =>
  o_st (j:=2) [] [[.int .u32 0],av .u8 32 Z32,av .u8 32 Z32,[.int .u32 0],[.int .u32 0],[.int .u32 0],[Sn]] [[.int .u32 1],av .u8 32 Z32,av .u8 32 r3,[.int .u32 1000],[.int .u32 1],[.int .u32 0],[(.slice (some ⟨g2,0,none⟩) 1 1)]] [] sz29 rfl rfl (fO rfl (fl_cons (one_av _ _ _) (fl_cons (one_av _ _ _) (fO rfl (fO rfl (fO rfl (fl_cons (one_one (own_one hI (j:=1) rfl)) fl_nil))))))) hI rfl hA rfl rfl rfl rfl fun w hI=>?_
 refine o_nil<|hN4 _ _<|w_ret ?_
 obtain ⟨μ3,hle2,hsv2,hI⟩:=hI.freezeRow 1 rfl
 have hS2:Slc (RTx μ3) 4 μ3 (.slice (some ⟨g2,0,none⟩) 1 1) ([r2]:List Tx):=⟨_,(Els.mono hE1 (fun _ _ h=>RTx.le hle2 h)),hsv2⟩
 obtain rfl:=sJ H
 exact retc U29 rfl sz29 rfl hI (j:=1) rfl hA Tryz.results26 rfl ⟨_,rfl,(.slice (some ⟨g2,0,none⟩) 1 1),μ3,rfl,⟨(in_lit .u32 1 rfl),(arr_zero _ _),hz3,(in_lit .u32 1000 rfl),(in_lit .u32 1 rfl),(in_lit .u32 0 rfl),hS2⟩,(hI.sl [] rfl)⟩
theorem block_Read.c (μ:Store)(w0:World)(hμ:Agr μ w0)(x0:List Int)(u0:Value)(hx0:Slc (RI .u8) 1 μ u0 x0)(e0:Value)(he0:ErS μ e0 (Er.b 1))(e1:Value)(he1:ErS μ e1 (Er.b 2))(e9:Value)(he9:ErS μ e9 (Er.b 10))(r:Block×Er)(H:block_Read.f x0=some r) :
  Calls Tryz.prog 7 [u0].toArray w0 (fun e w'=>∃ v,e=.returned v∧∃(v0_0 v1:Value)(μ':Store),v=.tuple #[.agg [[.int .u32 ((r.1).Head.Version)],av .u8 32 ((r.1).Head.Prev),av .u8 32 ((r.1).Head.Root),[.int .u32 ((r.1).Head.Time)],[.int .u32 ((r.1).Head.Work)],[.int .u32 ((r.1).Head.Nonce)],[v0_0]].flatten.toArray,v1]∧BlockW μ' (r.1) v0_0∧ErS μ' v1 (r.2)∧Iv w0 [] μ μ' [] w'):=by
 refine enter Tryz.func7 rfl Tryz.ntmps7 rfl fun a hA=>?_
 have hI:=Iv.start hμ
 have H:=bI H
 refine w_seq fun _ hN1=>w_reg<|o_new [[.int .u32 0],av .u8 32 Z32,av .u8 32 Z32,[.int .u32 0],[.int .u32 0],[.int .u32 0],[Sn]] zr29 hI hA rfl fun g1 a w hA hI hg1 =>
  sta hA rfl rfl fun a hA=>?_
 refine o_nil<|hN1 _ _<|w_seq fun _ hN2=>w_reg<|stm hA rfl rfl fun a hA=>?_
 obtain ⟨r1,hr1,H⟩:=bB H
 refine o_call _ cf30 hA rfl (compact_Read.c μ _ hI.agr x0 u0 hx0 r1 hr1) rfl fun v1 a w hz1 hA=>?_
 obtain ⟨g2,vp1,vp2,μ1,rfl,hp1,hp2,hp3,hi1⟩:=hz1
 have hI:=hI.call hi1
 refine sta hA rfl rfl fun a hA=>?_
 refine o_nil<|hN2 _ _<|w_seq fun _ hN3=>w_reg<|stm hA rfl rfl fun a hA=>?_
 obtain ⟨r2,hr2,H⟩:=bB H
 refine o_call _ cf31 hA rfl (head_Take.c μ1 _ hI.agr r1 vp1 vp2 g2 hp1 hp2 hp3 (hI.handN 1) e9 (ErV.le (fun _ _ h=>h) hi1.le he9) r2 hr2) rfl fun v2 a w hz2 hA=>?_
 obtain ⟨vp3,vp4,μ2,rfl,hw1,hp4,hp5,hp6,hi2⟩:=hz2
 have hI:=hI.back1 hi2
 refine stp hA (r_bldS (cs:=[[.int .u32 r2.1.Version],av .u8 32 r2.1.Prev,av .u8 32 r2.1.Root,[.int .u32 r2.1.Time],[.int .u32 r2.1.Work],[.int .u32 r2.1.Nonce],[Sn]].flatten.toArray) (pl:=[(0,68),(68,1)]) zr29 U29 ⟨rfl,sz26,rfl,sz27,trivial⟩ hA rfl (by kernel_rfl)) rfl fun a hA =>
  o_new [[.int .u32 0],av .u8 32 Z32,av .u8 32 Z32,[.int .u32 0],[.int .u32 0],[.int .u32 0],[Sn]] zr29 hI hA rfl fun g3 a w hA hI hg3 =>
  o_st (j:=0) [] [[.int .u32 0],av .u8 32 Z32,av .u8 32 Z32,[.int .u32 0],[.int .u32 0],[.int .u32 0],[Sn]] [[.int .u32 r2.1.Version],av .u8 32 r2.1.Prev,av .u8 32 r2.1.Root,[.int .u32 r2.1.Time],[.int .u32 r2.1.Work],[.int .u32 r2.1.Nonce],[Sn]] [] sz29 rfl rfl (fO rfl (fl_cons (one_av _ _ _) (fl_cons (one_av _ _ _) (fO rfl (fO rfl (fO rfl (fO rfl fl_nil))))))) hI rfl hA rfl rfl rfl rfl fun w hI=>?_
 refine o_nil<|hN3 _ _ ?_
 obtain ⟨⟨c1,c2,c3,c4⟩,hz3,Hk1⟩:=bB H
 refine w_cut (fun a w=>∃(μ3:Store)(vvc1:Value)(ccc1:List Value)(vvc2 vvc4:Value),μ2.le μ3∧Els (RTx μ3) 4 c1 ccc1∧Slc (RI .u8) 1 μ3 vvc2 c2∧InR .i64 c3∧ErS μ3 vvc4 c4∧Fr a 37 [(2,pt g1 0),(3,.nilIface),(4,pt g2 0),(5,pt g3 0)]∧Iv w0 [] μ μ3 [row 63 4 vvc1 c1.length ccc1,cel g3 [[.int .u32 r2.1.Version],av .u8 32 r2.1.Prev,av .u8 32 r2.1.Root,[.int .u32 r2.1.Time],[.int .u32 r2.1.Work],[.int .u32 r2.1.Nonce],[vvc1]] 29,cel g2 [[vvc2],[.int .i64 c3],[vvc4]] 109,cel g1 [[.int .u32 0],av .u8 32 Z32,av .u8 32 Z32,[.int .u32 0],[.int .u32 0],[.int .u32 0],[Sn]] 29] w) ?_ ?_
 ·have H:=bI hz3
  refine w_seq fun _ hN4=>w_reg<|stm hA rfl rfl fun a hA=>?_
  obtain ⟨r3,hr3,H⟩:=bB H
  have hI:=hI.sl [1,0,2] rfl
  refine o_call _ cf32 hA rfl (cR_Num.c μ2 _ hI.agr r2.2 vp3 vp4 g2 hp4 hp5 hp6 (hI.handN 1) 200 (in_lit .u64 200 rfl) e0 (ErV.le (fun _ _ h=>h) (hi1.le.trans hi2.le) he0) e1 (ErV.le (fun _ _ h=>h) (hi1.le.trans hi2.le) he1) e9 (ErV.le (fun _ _ h=>h) (hi1.le.trans hi2.le) he9) r3 hr3) rfl fun v3 a w hz4 hA=>?_
  obtain ⟨vp5,vp6,μ4,rfl,hw2,hp7,hp8,hp9,hi3⟩:=hz4
  have hI:=hI.back1 hi3
  refine stm hA rfl rfl fun a hA=>?_
  refine o_nil<|hN4 _ _<|w_block ?_
  have hI:=hI.nilRow 63 4
  obtain ⟨z1,hz5,Hk2⟩:=bind_some H
  obtain ⟨n1,hn1⟩:=loopO_some hz5
  refine w_loop (fun n a w=>∃(s1:Int)(s2:List Int)(s3:Int)(s4:Er)(s5:List Tx)(μ5:Store)(vvs2 vvs4 vvs5:Value)(ccs5:List Value),loopN (block_Read.s0 r3) n (s1,s2,s3,s4,s5)=some z1∧μ4.le μ5∧InR .u64 s1∧Slc (RI .u8) 1 μ5 vvs2 s2∧InR .i64 s3∧ErS μ5 vvs4 s4∧Els (RTx μ5) 4 s5 ccs5∧Fr a 37 [(2,pt g1 0),(3,.nilIface),(4,pt g2 0),(5,pt g3 0),(12,.int .u64 r3.1),(13,.int .u64 s1)]∧Iv w0 [] μ μ5 [row 63 4 vvs5 s5.length ccs5,cel g2 [[vvs2],[.int .i64 s3],[vvs4]] 109,cel g3 [[.int .u32 r2.1.Version],av .u8 32 r2.1.Prev,av .u8 32 r2.1.Root,[.int .u32 r2.1.Time],[.int .u32 r2.1.Work],[.int .u32 r2.1.Nonce],[vvs5]] 29,cel g1 [[.int .u32 0],av .u8 32 Z32,av .u8 32 Z32,[.int .u32 0],[.int .u32 0],[.int .u32 0],[Sn]] 29] w) n1 ⟨0,r3.2.b,r3.2.at_,r3.2.err,[],μ4,vp5,vp6,Sn,[],hn1,(Store.le.refl _),(in_lit .u64 0 rfl),hp7,hp8,hp9,(Els.nil (RE:=(RTx μ4)) (sz:=4)),hA.sub ⟨rfl,rfl,rfl,rfl,rfl,rfl,trivial⟩,hI⟩ ?_
  clear hA hI
  rintro n a w ⟨s1,s2,s3,s4,s5,μ5,vvs2,vvs4,vvs5,ccs5,hn1,hle2,ws1,ws2,ws3,ws4,ws5,hA,hI⟩
  obtain ⟨m1,rfl,H⟩:=loopN_bind hn1
  clear hn1
  refine w_seq fun _ hN5=>w_reg<|stp hA (r_lss hA rfl rfl) rfl fun a hA=>?_
  refine o_nil<|hN5 _ _<|w_seq fun _ hN6=>w_cond hA rfl (fun hc1=>?_) (fun hc1=>?_)
  ·obtain ⟨hc1,H⟩:=dT H hc1
   refine w_skip<|hN6 _ _<|w_seq fun _ hN7=>w_block ?_
   refine w_any [3,5,7] mo hI fun w hI=>?_
   refine gE 0 hA rfl (.inr hI) (fun _=>r_fd (k:=68) U29 rfl sz27 hA rfl rfl) fun a hA=>?_
   refine gE 2 hA rfl (.inr hI) (fun _=>r_mv hA rfl) fun a hA=>?_
   refine g_fork (i:=1) (is:=[3]) (by kernel_rfl) (List.forall_mem_cons.2 ⟨⟨_,rfl,?_⟩,(List.forall_mem_cons.2 ⟨⟨_,rfl,?_⟩,List.forall_mem_nil _⟩)⟩)
   ·skip
    refine stp hA (r_ld1 (j:=2) [[.int .u32 r2.1.Version],av .u8 32 r2.1.Prev,av .u8 32 r2.1.Root,[.int .u32 r2.1.Time],[.int .u32 r2.1.Work],[.int .u32 r2.1.Nonce]] [] U27 rfl hI rfl hA rfl rfl) rfl fun a hA=>?_
    refine o_nil<|⟨(.inr hI),?_⟩
    refine gF 3 rfl ?_
    obtain ⟨r4,hr4,H⟩:=bB H
    have hI:=hI.sl [1,0,2,3] rfl
    refine o_call _ cf33 hA rfl (tx_Take.c μ5 _ hI.agr (⟨s2,s3,s4⟩:cRd) vvs2 vvs4 g2 ws2 ws3 ws4 (hI.handN 1) e0 (ErV.le (fun _ _ h=>h) (((hi1.le.trans hi2.le).trans hi3.le).trans hle2) he0) e1 (ErV.le (fun _ _ h=>h) (((hi1.le.trans hi2.le).trans hi3.le).trans hle2) he1) e9 (ErV.le (fun _ _ h=>h) (((hi1.le.trans hi2.le).trans hi3.le).trans hle2) he9) r4 hr4) rfl fun v4 a w hz6 hA=>?_
    obtain ⟨v5,v6,vp7,vp8,μ6,rfl,hw3,hp10,hp11,hp12,hi4⟩:=hz6
    have hI:=hI.back1 hi4
    refine o_nil<|⟨(.inl (by kernel_rfl)),?_⟩
    refine gF 4 rfl ?_
    have hE1:Els (RTx μ6) 4 ([r4.1]:List Tx) _:=(Els.cons (c:=[[.int .u32 r4.1.Version],[v5],[v6],[.int .u32 r4.1.Time]].flatten) ⟨v5,v6,rfl,⟨hw3.1,hw3.2.1,hw3.2.2.1,hw3.2.2.2⟩⟩ rfl Els.nil)
    refine o_bsl ([[.int .u32 r4.1.Version],[v5],[v6],[.int .u32 r4.1.Time]].flatten++([])) te63 zr63 U27 hI hA rfl rfl rfl rfl (by kernel_rfl) rfl fun g4 a w hA hI=>?_
    generalize hcs:([[.int .u32 r4.1.Version],[v5],[v6],[.int .u32 r4.1.Time]].flatten++([]):List Value)=cs1 at hE1 hI
    clear hcs
    refine o_nil<|⟨(.inl (by kernel_rfl)),?_⟩
    refine gF 5 rfl ?_
    obtain ⟨hb1,H⟩:=bG H
    have hE3:=(Els.mono ws5 (fun _ _ h=>RTx.le hi4.le h)).app hE1
    refine o_appG (xs:=(s5:List Tx)) (ys:=(([r4.1]:List Tx):List Tx)) (M:=2199023255552) 2 te63 U27 hI rfl hA rfl rfl (src_row hI (j:=0) rfl) hE1.len (hE1.ones RTx.ones) hb1 rfl fun v7 a w hA hI=>?_
    refine o_nil<|⟨(.inl (by kernel_rfl)),?_⟩
    refine gE 6 hA rfl (.inl (by kernel_rfl)) (fun _=>r_fd (k:=68) U29 rfl sz27 hA rfl rfl) fun a hA=>?_
    refine gF 7 rfl ?_
    have hone:=own_one hI (j:=2) rfl
    have hcel:=own_cell hI (j:=2) rfl
    refine o_st (j:=3) [[.int .u32 r2.1.Version],av .u8 32 r2.1.Prev,av .u8 32 r2.1.Root,[.int .u32 r2.1.Time],[.int .u32 r2.1.Work],[.int .u32 r2.1.Nonce]] [[vvs5]] [[v7]] [] sz27 rfl rfl (by intro c hc;simp at hc;subst hc;exact hone) hI rfl hA rfl rfl hcel rfl fun w hI=>?_
    refine o_nil<|⟨(.inl (by kernel_rfl)),?_⟩
    refine gN<|hN7 _ _<|w_reg<|stp hA (r_add hA rfl rfl) rfl fun a hA =>
     stm hA rfl rfl fun a hA=>?_
    refine o_nil<|⟨m1,lS _,IntKind.u64.wrap (s1+1),r4.2.b,r4.2.at_,r4.2.err,s5++([r4.1]:List Tx),μ6,vp7,vp8,v7,ccs5++cs1,H,(hle2.trans hi4.le),(wrap_in _ _),hp10,hp11,hp12,hE3,hA.sub ⟨rfl,rfl,rfl,rfl,rfl,rfl,trivial⟩,(hI.sl [2,1,3,4] rfl)⟩
   ·skip
    obtain ⟨r4,hr4,H⟩:=bB H
    have hI:=hI.sl [1,0,2,3] rfl
    refine o_call _ cf33 hA rfl (tx_Take.c μ5 _ hI.agr (⟨s2,s3,s4⟩:cRd) vvs2 vvs4 g2 ws2 ws3 ws4 (hI.handN 1) e0 (ErV.le (fun _ _ h=>h) (((hi1.le.trans hi2.le).trans hi3.le).trans hle2) he0) e1 (ErV.le (fun _ _ h=>h) (((hi1.le.trans hi2.le).trans hi3.le).trans hle2) he1) e9 (ErV.le (fun _ _ h=>h) (((hi1.le.trans hi2.le).trans hi3.le).trans hle2) he9) r4 hr4) rfl fun v4 a w hz6 hA=>?_
    obtain ⟨v5,v6,vp7,vp8,μ6,rfl,hw3,hp10,hp11,hp12,hi4⟩:=hz6
    have hI:=hI.back1 hi4
    refine o_nil<|⟨(.inl (by kernel_rfl)),?_⟩
    refine g_fork (i:=1) (is:=[4]) (by kernel_rfl) (List.forall_mem_cons.2 ⟨⟨_,rfl,?_⟩,(List.forall_mem_cons.2 ⟨⟨_,rfl,?_⟩,List.forall_mem_nil _⟩)⟩)
    ·skip
     refine stp hA (r_ld1 (j:=2) [[.int .u32 r2.1.Version],av .u8 32 r2.1.Prev,av .u8 32 r2.1.Root,[.int .u32 r2.1.Time],[.int .u32 r2.1.Work],[.int .u32 r2.1.Nonce]] [] U27 rfl hI rfl hA rfl rfl) rfl fun a hA=>?_
     refine o_nil<|⟨(.inl (by kernel_rfl)),?_⟩
     refine gF 4 rfl ?_
     have hE1:Els (RTx μ6) 4 ([r4.1]:List Tx) _:=(Els.cons (c:=[[.int .u32 r4.1.Version],[v5],[v6],[.int .u32 r4.1.Time]].flatten) ⟨v5,v6,rfl,⟨hw3.1,hw3.2.1,hw3.2.2.1,hw3.2.2.2⟩⟩ rfl Els.nil)
     refine o_bsl ([[.int .u32 r4.1.Version],[v5],[v6],[.int .u32 r4.1.Time]].flatten++([])) te63 zr63 U27 hI hA rfl rfl rfl rfl (by kernel_rfl) rfl fun g4 a w hA hI=>?_
     generalize hcs:([[.int .u32 r4.1.Version],[v5],[v6],[.int .u32 r4.1.Time]].flatten++([]):List Value)=cs1 at hE1 hI
     clear hcs
     refine o_nil<|⟨(.inl (by kernel_rfl)),?_⟩
     refine gF 5 rfl ?_
     obtain ⟨hb1,H⟩:=bG H
     have hE3:=(Els.mono ws5 (fun _ _ h=>RTx.le hi4.le h)).app hE1
     refine o_appG (xs:=(s5:List Tx)) (ys:=(([r4.1]:List Tx):List Tx)) (M:=2199023255552) 2 te63 U27 hI rfl hA rfl rfl (src_row hI (j:=0) rfl) hE1.len (hE1.ones RTx.ones) hb1 rfl fun v7 a w hA hI=>?_
     refine o_nil<|⟨(.inl (by kernel_rfl)),?_⟩
     refine gE 6 hA rfl (.inl (by kernel_rfl)) (fun _=>r_fd (k:=68) U29 rfl sz27 hA rfl rfl) fun a hA=>?_
     refine gF 7 rfl ?_
     have hone:=own_one hI (j:=2) rfl
     have hcel:=own_cell hI (j:=2) rfl
     refine o_st (j:=3) [[.int .u32 r2.1.Version],av .u8 32 r2.1.Prev,av .u8 32 r2.1.Root,[.int .u32 r2.1.Time],[.int .u32 r2.1.Work],[.int .u32 r2.1.Nonce]] [[vvs5]] [[v7]] [] sz27 rfl rfl (by intro c hc;simp at hc;subst hc;exact hone) hI rfl hA rfl rfl hcel rfl fun w hI=>?_
     refine o_nil<|⟨(.inl (by kernel_rfl)),?_⟩
     refine gN<|hN7 _ _<|w_reg<|stp hA (r_add hA rfl rfl) rfl fun a hA =>
      stm hA rfl rfl fun a hA=>?_
     refine o_nil<|⟨m1,lS _,IntKind.u64.wrap (s1+1),r4.2.b,r4.2.at_,r4.2.err,s5++([r4.1]:List Tx),μ6,vp7,vp8,v7,ccs5++cs1,H,(hle2.trans hi4.le),(wrap_in _ _),hp10,hp11,hp12,hE3,hA.sub ⟨rfl,rfl,rfl,rfl,rfl,rfl,trivial⟩,(hI.sl [2,1,3,4] rfl)⟩
    ·skip
     have hE1:Els (RTx μ6) 4 ([r4.1]:List Tx) _:=(Els.cons (c:=[[.int .u32 r4.1.Version],[v5],[v6],[.int .u32 r4.1.Time]].flatten) ⟨v5,v6,rfl,⟨hw3.1,hw3.2.1,hw3.2.2.1,hw3.2.2.2⟩⟩ rfl Els.nil)
     refine o_bsl ([[.int .u32 r4.1.Version],[v5],[v6],[.int .u32 r4.1.Time]].flatten++([])) te63 zr63 U27 hI hA rfl rfl rfl rfl (by kernel_rfl) rfl fun g4 a w hA hI=>?_
     generalize hcs:([[.int .u32 r4.1.Version],[v5],[v6],[.int .u32 r4.1.Time]].flatten++([]):List Value)=cs1 at hE1 hI
     clear hcs
     refine o_nil<|⟨(.inl (by kernel_rfl)),?_⟩
     refine gF 1 rfl ?_
     refine stp hA (r_ld1 (j:=3) [[.int .u32 r2.1.Version],av .u8 32 r2.1.Prev,av .u8 32 r2.1.Root,[.int .u32 r2.1.Time],[.int .u32 r2.1.Work],[.int .u32 r2.1.Nonce]] [] U27 rfl hI rfl hA rfl rfl) rfl fun a hA=>?_
     refine o_nil<|⟨(.inl (by kernel_rfl)),?_⟩
     refine gF 5 rfl ?_
     obtain ⟨hb1,H⟩:=bG H
     have hE3:=(Els.mono ws5 (fun _ _ h=>RTx.le hi4.le h)).app hE1
     refine o_appG (xs:=(s5:List Tx)) (ys:=(([r4.1]:List Tx):List Tx)) (M:=2199023255552) 2 te63 U27 hI rfl hA rfl rfl (src_row hI (j:=0) rfl) hE1.len (hE1.ones RTx.ones) hb1 rfl fun v7 a w hA hI=>?_
     refine o_nil<|⟨(.inl (by kernel_rfl)),?_⟩
     refine gE 6 hA rfl (.inl (by kernel_rfl)) (fun _=>r_fd (k:=68) U29 rfl sz27 hA rfl rfl) fun a hA=>?_
     refine gF 7 rfl ?_
     have hone:=own_one hI (j:=2) rfl
     have hcel:=own_cell hI (j:=2) rfl
     refine o_st (j:=3) [[.int .u32 r2.1.Version],av .u8 32 r2.1.Prev,av .u8 32 r2.1.Root,[.int .u32 r2.1.Time],[.int .u32 r2.1.Work],[.int .u32 r2.1.Nonce]] [[vvs5]] [[v7]] [] sz27 rfl rfl (by intro c hc;simp at hc;subst hc;exact hone) hI rfl hA rfl rfl hcel rfl fun w hI=>?_
     refine o_nil<|⟨(.inl (by kernel_rfl)),?_⟩
     refine gN<|hN7 _ _<|w_reg<|stp hA (r_add hA rfl rfl) rfl fun a hA =>
      stm hA rfl rfl fun a hA=>?_
     refine o_nil<|⟨m1,lS _,IntKind.u64.wrap (s1+1),r4.2.b,r4.2.at_,r4.2.err,s5++([r4.1]:List Tx),μ6,vp7,vp8,v7,ccs5++cs1,H,(hle2.trans hi4.le),(wrap_in _ _),hp10,hp11,hp12,hE3,hA.sub ⟨rfl,rfl,rfl,rfl,rfl,rfl,trivial⟩,(hI.sl [2,1,3,4] rfl)⟩
  ·obtain ⟨hc1,H⟩:=dF H hc1
   refine w_exit rfl ?_
   have H:some (s5,s2,s3,s4)=some z1:=H
   obtain rfl:=sI H
   have H:=Hk2
   cases sJ H
   exact ⟨μ5,vvs5,ccs5,vvs2,vvs4,(hi3.le.trans hle2),ws5,ws2,ws3,ws4,hA.sub ⟨rfl,rfl,rfl,rfl,trivial⟩,(hI.sl [0,2,1,3] rfl)⟩
 ·rintro a w ⟨μ3,vvc1,ccc1,vvc2,vvc4,hle1,wc1,wc2,wc3,wc4,hA,hI⟩
  have H:=Hk1
  refine w_seq fun _ hN8=>w_block<|w_seq fun _ hN9=>w_reg<|stm hA rfl rfl fun a hA=>?_
  obtain ⟨r5,hr5,H⟩:=bB H
  have hI:=hI.sl [2,0,1,3] rfl
  refine o_call _ cf34 hA rfl (cR_Err.c μ3 _ hI.agr (⟨c2,c3,c4⟩:cRd) vvc2 vvc4 g2 wc2 wc3 wc4 (hI.handN 1) r5 hr5) rfl fun v8 a w hz7 hA=>?_
  obtain ⟨_,μ7,rfl,hS1,hi5⟩:=hz7
  have hI:=hI.back1 hi5
  refine stp hA (r_neE erF hI.agr hS1 erv_nil (.inl ⟨.inr ⟨_,rfl⟩,Er.fitR⟩) hA rfl rfl) rfl fun a hA =>
   sta hA rfl rfl fun a hA=>?_
  refine o_nil<|hN9 _ _<|w_cond hA rfl (fun hc2=>?_) (fun hc2=>?_)
  ·obtain ⟨hc2,H⟩:=dT H hc2
   refine w_seq fun _ hN10=>w_reg<|stp hA (r_bldS (cs:=[[.int .u32 0],av .u8 32 Z32,av .u8 32 Z32,[.int .u32 0],[.int .u32 0],[.int .u32 0],[Sn]].flatten.toArray) (pl:=[(0,68),(68,1)]) zr29 U29 ⟨rfl,sz26,rfl,sz27,trivial⟩ hA rfl (by kernel_rfl)) rfl fun a hA =>
    stm hA rfl rfl fun a hA=>?_
   obtain ⟨r6,hr6,H⟩:=bB H
   refine o_call _ cf34 hA rfl (cR_Err.c μ7 _ hI.agr (⟨c2,c3,c4⟩:cRd) vvc2 vvc4 g2 (Slc.le wc2 (fun _ _ h=>h) hi5.le) wc3 (ErV.le (fun _ _ h=>h) hi5.le wc4) (hI.handN 1) r6 hr6) rfl fun v9 a w hz8 hA=>?_
   obtain ⟨_,μ8,rfl,hS2,hi6⟩:=hz8
   have hI:=hI.back1 hi6
   refine o_st (j:=3) [] [[.int .u32 0],av .u8 32 Z32,av .u8 32 Z32,[.int .u32 0],[.int .u32 0],[.int .u32 0],[Sn]] [[.int .u32 0],av .u8 32 Z32,av .u8 32 Z32,[.int .u32 0],[.int .u32 0],[.int .u32 0],[Sn]] [] sz29 rfl rfl (fO rfl (fl_cons (one_av _ _ _) (fl_cons (one_av _ _ _) (fO rfl (fO rfl (fO rfl (fO rfl fl_nil))))))) hI rfl hA rfl rfl rfl rfl fun w hI =>
    sta hA rfl rfl fun a hA=>?_
   refine o_nil<|hN10 _ _<|w_ret ?_
   obtain rfl:=sJ H
   exact retN hA Tryz.results7 (.cell rfl (cell_ld U29 rfl sz29 rfl hI (j:=3) rfl) (.tmp rfl .nil)) ⟨_,rfl,Sn,v9,μ8,rfl,⟨(in_lit .u32 0 rfl),(arr_zero _ _),(arr_zero _ _),(in_lit .u32 0 rfl),(in_lit .u32 0 rfl),(in_lit .u32 0 rfl),(slc_nil _ _ _)⟩,hS2,(hI.sl [] rfl)⟩
  ·obtain ⟨hc2,H⟩:=dF H hc2
   refine w_seq fun _ hN11=>w_reg<|stm hA rfl rfl fun a hA=>?_
   obtain ⟨r7,hr7,H⟩:=bB H
   refine o_call _ cf35 hA rfl (cR_Left.c μ7 _ hI.agr (⟨c2,c3,c4⟩:cRd) vvc2 vvc4 g2 (Slc.le wc2 (fun _ _ h=>h) hi5.le) wc3 (ErV.le (fun _ _ h=>h) hi5.le wc4) (hI.handN 1) r7 hr7) rfl fun v10 a w hz9 hA=>?_
   obtain ⟨rfl,hw4,hi7⟩:=hz9
   have hI:=hI.back1 hi7
   refine stp hA (r_gtr hA rfl rfl) rfl fun a hA =>
    sta hA rfl rfl fun a hA=>?_
   refine o_nil<|hN11 _ _<|w_cond hA rfl (fun hc3=>?_) (fun hc3=>?_)
   ·obtain ⟨hc3,H⟩:=dT H hc3
    obtain ⟨c5,hz10,Hk3⟩:=bB H
    refine w_cut (fun a w=>∃(vvc5:Value),ErS μ7 vvc5 c5∧Fr a 37 [(2,pt g1 0),(3,vvc5),(5,pt g3 0)]∧Iv w0 [] μ μ7 [cel g2 [[vvc2],[.int .i64 c3],[vvc4]] 109,row 63 4 vvc1 c1.length ccc1,cel g3 [[.int .u32 r2.1.Version],av .u8 32 r2.1.Prev,av .u8 32 r2.1.Root,[.int .u32 r2.1.Time],[.int .u32 r2.1.Work],[.int .u32 r2.1.Nonce],[vvc1]] 29,cel g1 [[.int .u32 0],av .u8 32 Z32,av .u8 32 Z32,[.int .u32 0],[.int .u32 0],[.int .u32 0],[Sn]] 29] w) ?_ ?_
    ·have H:=bI hz10
     refine w_anyS [] mo (fun w (h:Iv w0 [] μ μ7 [cel g2 [[vvc2],[.int .i64 c3],[vvc4]] 109,row 63 4 vvc1 c1.length ccc1,cel g3 [[.int .u32 r2.1.Version],av .u8 32 r2.1.Prev,av .u8 32 r2.1.Root,[.int .u32 r2.1.Time],[.int .u32 r2.1.Work],[.int .u32 r2.1.Nonce],[vvc1]] 29,cel g1 [[.int .u32 0],av .u8 32 Z32,av .u8 32 Z32,[.int .u32 0],[.int .u32 0],[.int .u32 0],[Sn]] 29] w)=>(h.sl [0,1,2,3] rfl:Iv w0 [] μ μ7 [cel g2 [[vvc2],[.int .i64 c3],[vvc4]] 109,row 63 4 vvc1 c1.length ccc1,cel g3 [[.int .u32 r2.1.Version],av .u8 32 r2.1.Prev,av .u8 32 r2.1.Root,[.int .u32 r2.1.Time],[.int .u32 r2.1.Work],[.int .u32 r2.1.Nonce],[vvc1]] 29,cel g1 [[.int .u32 0],av .u8 32 Z32,av .u8 32 Z32,[.int .u32 0],[.int .u32 0],[.int .u32 0],[Sn]] 29] w)) hI fun w hI=>?_
     refine gT 1 hA rfl hI (fun w hI=>r_ldG U35 rfl hI.agr (ErV.le (fun _ _ h=>h) (((hi1.le.trans hi2.le).trans hle1).trans hi5.le) he0) hA) fun a hA=>?_
     refine gF 0 rfl ?_
     refine stp hA (r_bldS (cs:=[[.int .u32 0],av .u8 32 Z32,av .u8 32 Z32,[.int .u32 0],[.int .u32 0],[.int .u32 0],[Sn]].flatten.toArray) (pl:=[(0,68),(68,1)]) zr29 U29 ⟨rfl,sz26,rfl,sz27,trivial⟩ hA rfl (by kernel_rfl)) rfl fun a hA=>?_
     refine o_nil<|⟨(.inr hI),?_⟩
     refine gF 2 rfl ?_
     refine o_st (j:=3) [] [[.int .u32 0],av .u8 32 Z32,av .u8 32 Z32,[.int .u32 0],[.int .u32 0],[.int .u32 0],[Sn]] [[.int .u32 0],av .u8 32 Z32,av .u8 32 Z32,[.int .u32 0],[.int .u32 0],[.int .u32 0],[Sn]] [] sz29 rfl rfl (fO rfl (fl_cons (one_av _ _ _) (fl_cons (one_av _ _ _) (fO rfl (fO rfl (fO rfl (fO rfl fl_nil))))))) hI rfl hA rfl rfl rfl rfl fun w hI=>?_
     refine o_nil<|⟨(.inr hI),?_⟩
     refine gE 3 hA rfl (.inr hI) (fun _=>r_as hA rfl) fun a hA=>?_
     refine gN ?_
     cases sJ H
     exact ⟨e0,(ErV.le (fun _ _ h=>h) (((hi1.le.trans hi2.le).trans hle1).trans hi5.le) he0),hA.sub ⟨rfl,rfl,rfl,trivial⟩,hI⟩
    ·rintro a w ⟨vvc5,wc5,hA,hI⟩
     have H:=Hk3
     refine w_ret ?_
     obtain rfl:=sJ H
     exact retN hA Tryz.results7 (.cell rfl (cell_ld U29 rfl sz29 rfl hI (j:=3) rfl) (.tmp rfl .nil)) ⟨_,rfl,Sn,vvc5,μ7,rfl,⟨(in_lit .u32 0 rfl),(arr_zero _ _),(arr_zero _ _),(in_lit .u32 0 rfl),(in_lit .u32 0 rfl),(in_lit .u32 0 rfl),(slc_nil _ _ _)⟩,wc5,(hI.sl [] rfl)⟩
   ·obtain ⟨hc3,H⟩:=dF H hc3
    refine w_skip<|hN8 _ _<|w_seq fun _ hN12=>w_reg<|stp hA (r_ldA (j:=2) [] [[.int .u32 r2.1.Version],av .u8 32 r2.1.Prev,av .u8 32 r2.1.Root,[.int .u32 r2.1.Time],[.int .u32 r2.1.Work],[.int .u32 r2.1.Nonce],[vvc1]] [] U29 rfl sz29 rfl hI rfl hA rfl rfl) rfl fun a hA =>
     o_st (j:=3) [] [[.int .u32 0],av .u8 32 Z32,av .u8 32 Z32,[.int .u32 0],[.int .u32 0],[.int .u32 0],[Sn]] [[.int .u32 r2.1.Version],av .u8 32 r2.1.Prev,av .u8 32 r2.1.Root,[.int .u32 r2.1.Time],[.int .u32 r2.1.Work],[.int .u32 r2.1.Nonce],[vvc1]] [] sz29 rfl rfl (fO rfl (fl_cons (one_av _ _ _) (fl_cons (one_av _ _ _) (fO rfl (fO rfl (fO rfl (fl_cons (one_one (own_one hI (j:=1) rfl)) fl_nil))))))) hI rfl hA rfl rfl rfl rfl fun w hI =>
     sta hA rfl rfl fun a hA=>?_
    refine o_nil<|hN12 _ _<|w_ret ?_
    obtain ⟨μ9,hle3,hsv2,hI⟩:=hI.freezeRow 1 rfl
    have hS3:Slc (RTx μ9) 4 μ9 vvc1 c1:=⟨_,(Els.mono wc1 (fun _ _ h=>RTx.le (hi5.le.trans hle3) h)),hsv2⟩
    obtain rfl:=sJ H
    exact retN hA Tryz.results7 (.cell rfl (cell_ld U29 rfl sz29 rfl hI (j:=2) rfl) (.tmp rfl .nil)) ⟨_,rfl,vvc1,.nilIface,μ9,rfl,⟨hw1.1,hw1.2.1,hw1.2.2.1,hw1.2.2.2.1,hw1.2.2.2.2.1,hw1.2.2.2.2.2,hS3⟩,erv_nil,(hI.sl [] rfl)⟩
theorem block_ID.c (μ:Store)(w0:World)(hμ:Agr μ w0)(x0:Block)(u0_0:Value)(hx0:BlockW μ x0 u0_0)(r:List Int)(H:block_ID.f x0=some r) :
  Calls Tryz.prog 13 [.agg [[.int .u32 x0.Head.Version],av .u8 32 x0.Head.Prev,av .u8 32 x0.Head.Root,[.int .u32 x0.Head.Time],[.int .u32 x0.Head.Work],[.int .u32 x0.Head.Nonce],[u0_0]].flatten.toArray].toArray w0 (fun e w'=>∃ v,e=.returned v∧v=.agg [av .u8 32 r].flatten.toArray∧Arr .u8 32 r∧Iv w0 [] μ μ [] w'):=by
 refine enter Tryz.func13 rfl Tryz.ntmps13 rfl fun a hA=>?_
 have hI:=Iv.start hμ
 have H:=bI H
 refine w_seq fun _ hN1=>w_reg<|o_box [[.int .u32 x0.Head.Version],av .u8 32 x0.Head.Prev,av .u8 32 x0.Head.Root,[.int .u32 x0.Head.Time],[.int .u32 x0.Head.Work],[.int .u32 x0.Head.Nonce],[u0_0]] hI hA rfl rfl rfl fun g1 a w hA hI hg1 =>
  o_new [av .u8 32 Z32] zr24 hI hA rfl fun g2 a w hA hI hg2=>?_
 refine o_nil<|hN1 _ _<|w_seq fun _ hN2=>w_reg<|stp hA (r_fd (k:=0) U29 rfl sz26 hA rfl rfl) rfl fun a hA =>
  stp hA (r_ldA (j:=1) [] [[.int .u32 x0.Head.Version],av .u8 32 x0.Head.Prev,av .u8 32 x0.Head.Root,[.int .u32 x0.Head.Time],[.int .u32 x0.Head.Work],[.int .u32 x0.Head.Nonce]] [[u0_0]] U26 rfl sz26 rfl hI rfl hA rfl rfl) rfl fun a hA=>?_
 obtain ⟨r1,hr1,H⟩:=bB H
 refine o_callp (u:=.agg [av .u8 32 r1].flatten.toArray) cf42 hA rfl hI (head_ID.c μ _ hI.agr x0.Head ⟨hx0.1,hx0.2.1,hx0.2.2.1,hx0.2.2.2.1,hx0.2.2.2.2.1,hx0.2.2.2.2.2.1⟩ r1 hr1) rfl fun a w hz1 hI hA =>
  o_st (j:=0) [] [av .u8 32 Z32] [av .u8 32 r1] [] sz24 rfl rfl (fl_cons (one_av _ _ _) fl_nil) hI rfl hA rfl rfl rfl rfl fun w hI=>?_
 refine o_nil<|hN2 _ _<|w_ret ?_
 obtain rfl:=sJ H
 exact retc U24 rfl sz24 rfl hI (j:=0) rfl hA Tryz.results13 rfl ⟨_,rfl,rfl,hz1,hI.forget0⟩
theorem block_Clone.c (μ:Store)(w0:World)(hμ:Agr μ w0)(x0:Block)(u0_0:Value)(hx0:BlockW μ x0 u0_0)(r:Block)(H:block_Clone.f x0=some r) :
  Calls Tryz.prog 25 [.agg [[.int .u32 x0.Head.Version],av .u8 32 x0.Head.Prev,av .u8 32 x0.Head.Root,[.int .u32 x0.Head.Time],[.int .u32 x0.Head.Work],[.int .u32 x0.Head.Nonce],[u0_0]].flatten.toArray].toArray w0 (fun e w'=>∃ v,e=.returned v∧∃(v0_0:Value)(μ':Store),v=.agg [[.int .u32 r.Head.Version],av .u8 32 r.Head.Prev,av .u8 32 r.Head.Root,[.int .u32 r.Head.Time],[.int .u32 r.Head.Work],[.int .u32 r.Head.Nonce],[v0_0]].flatten.toArray∧BlockW μ' r v0_0∧Iv w0 [] μ μ' [] w'):=by
 refine enter Tryz.func25 rfl Tryz.ntmps25 rfl fun a hA=>?_
 have hI:=Iv.start hμ
 have H:=bI H
 refine w_seq fun _ hN1=>w_reg<|o_box [[.int .u32 x0.Head.Version],av .u8 32 x0.Head.Prev,av .u8 32 x0.Head.Root,[.int .u32 x0.Head.Time],[.int .u32 x0.Head.Work],[.int .u32 x0.Head.Nonce],[u0_0]] hI hA rfl rfl rfl fun g1 a w hA hI hg1 =>
  o_new [[.int .u32 0],av .u8 32 Z32,av .u8 32 Z32,[.int .u32 0],[.int .u32 0],[.int .u32 0],[Sn]] zr29 hI hA rfl fun g2 a w hA hI hg2=>?_
 refine o_nil<|hN1 _ _<|w_seq fun _ hN2=>w_reg<|stp hA (r_fd (k:=68) U29 rfl sz27 hA rfl rfl) rfl fun a hA =>
  stp hA (r_ld1 (j:=1) [[.int .u32 x0.Head.Version],av .u8 32 x0.Head.Prev,av .u8 32 x0.Head.Root,[.int .u32 x0.Head.Time],[.int .u32 x0.Head.Work],[.int .u32 x0.Head.Nonce]] [] U27 rfl hI rfl hA rfl rfl) rfl fun a hA=>?_
 obtain ⟨r1,hr1,H⟩:=bB H
 refine o_call _ cf62 hA rfl (tx_Clones.c μ _ hI.agr x0.Txs u0_0 hx0.2.2.2.2.2.2 r1 hr1) rfl fun v1 a w hz1 hA=>?_
 obtain ⟨_,cs1,μ1,rfl,hE1,hi1⟩:=hz1
 have hI:=hI.call hi1
 refine stp hA (r_fd (k:=68) U29 rfl sz27 hA rfl rfl) rfl fun a hA=>?_
 have hone:=own_one hI (j:=0) rfl
 have hcel:=own_cell hI (j:=0) rfl
 refine o_st (j:=2) [[.int .u32 x0.Head.Version],av .u8 32 x0.Head.Prev,av .u8 32 x0.Head.Root,[.int .u32 x0.Head.Time],[.int .u32 x0.Head.Work],[.int .u32 x0.Head.Nonce]] [[u0_0]] [[v1]] [] sz27 rfl rfl (by intro c hc;simp at hc;subst hc;exact hone) hI rfl hA rfl rfl hcel rfl fun w hI=>?_
 refine o_nil<|hN2 _ _<|w_seq fun _ hN3=>w_reg<|stp hA (r_ldA (j:=2) [] [[.int .u32 x0.Head.Version],av .u8 32 x0.Head.Prev,av .u8 32 x0.Head.Root,[.int .u32 x0.Head.Time],[.int .u32 x0.Head.Work],[.int .u32 x0.Head.Nonce],[v1]] [] U29 rfl sz29 rfl hI rfl hA rfl rfl) rfl fun a hA =>
  o_st (j:=1) [] [[.int .u32 0],av .u8 32 Z32,av .u8 32 Z32,[.int .u32 0],[.int .u32 0],[.int .u32 0],[Sn]] [[.int .u32 x0.Head.Version],av .u8 32 x0.Head.Prev,av .u8 32 x0.Head.Root,[.int .u32 x0.Head.Time],[.int .u32 x0.Head.Work],[.int .u32 x0.Head.Nonce],[v1]] [] sz29 rfl rfl (fO rfl (fl_cons (one_av _ _ _) (fl_cons (one_av _ _ _) (fO rfl (fO rfl (fO rfl (fl_cons (one_one (own_one hI (j:=0) rfl)) fl_nil))))))) hI rfl hA rfl rfl rfl rfl fun w hI=>?_
 refine o_nil<|hN3 _ _<|w_ret ?_
 obtain ⟨μ2,hle1,hsv1,hI⟩:=hI.freezeRow 0 rfl
 have hS1:Slc (RTx μ2) 4 μ2 v1 r1:=⟨_,(Els.mono hE1 (fun _ _ h=>RTx.le hle1 h)),hsv1⟩
 obtain rfl:=sJ H
 exact retc U29 rfl sz29 rfl hI (j:=0) rfl hA Tryz.results25 rfl ⟨_,rfl,v1,μ2,rfl,⟨hx0.1,hx0.2.1,hx0.2.2.1,hx0.2.2.2.1,hx0.2.2.2.2.1,hx0.2.2.2.2.2.1,hS1⟩,(hI.sl [] rfl)⟩
noncomputable def q7_first.f:Option Bool:=((((block_Start.f).bind fun r1=>((block_Check.f r1).bind fun r2=>(if r2=(Er.b 0) then ((block_Start.f).bind fun r3=>((block_IDs.f r3).bind fun r4=>some (decide ((r4.length:Int)=1)))) else some false)))).bind fun c1=>some c1)
def q7_light.s1 (x0:Block)(s1 s2:Int):Int→Option (Int⊕((Int×Int)⊕Bool)):=fun s3=>(if s3 < (((x0.Txs.getD s2.toNat default).Ins).length:Int) then (if 0≤s3∧s3 < (((x0.Txs.getD s2.toNat default).Ins).length:Int) then (if 100 < (((((x0.Txs.getD s2.toNat default).Ins).getD s3.toNat default).Key).length:Int) then some (.inr (.inr false)) else some (.inl (IntKind.i64.wrap (s3+1)))) else none) else some (.inr (.inl (IntKind.i64.wrap ((IntKind.i64.wrap (s1+(((x0.Txs.getD s2.toNat default).Ins).length:Int)))+(((x0.Txs.getD s2.toNat default).Outs).length:Int)),IntKind.i64.wrap (s2+1)))))
noncomputable def q7_light.s0 (x0:Block):(Int×Int)→Option ((Int×Int)⊕Bool):=fun (s1,s2)=>(if s2 < (x0.Txs.length:Int) then (if 0≤s2∧s2 < (x0.Txs.length:Int) then (((if 60 < (((x0.Txs.getD s2.toNat default).Ins).length:Int) then some true else some (decide (60 < (((x0.Txs.getD s2.toNat default).Outs).length:Int))))).bind fun c1=>(if c1=true then some (.inr false) else loopO (q7_light.s1 x0 s1 s2) 0)) else none) else some (.inr (decide (s1≤500))))
noncomputable def q7_light.f (x0:Block):Option Bool:=(if 210 < (x0.Txs.length:Int) then some false else loopO (q7_light.s0 x0) (0,0))
theorem q7_first.c (μ:Store)(w0:World)(hμ:Agr μ w0)(e1:Value)(he1:ErS μ e1 (Er.b 2))(e2:Value)(he2:ErS μ e2 (Er.b 3))(e3:Value)(he3:ErS μ e3 (Er.b 4))(e4:Value)(he4:ErS μ e4 (Er.b 5))(e5:Value)(he5:ErS μ e5 (Er.b 6))(e6:Value)(he6:ErS μ e6 (Er.b 7))(e7:Value)(he7:ErS μ e7 (Er.b 8))(e8:Value)(he8:ErS μ e8 (Er.b 9))(r:Bool)(H:q7_first.f=some r) :
  Calls Tryz.prog 4 [].toArray w0 (fun e w'=>∃ v,e=.returned v∧v=.bool r∧True∧Iv w0 [] μ μ [] w'):=by
 refine enter Tryz.func4 rfl Tryz.ntmps4 rfl fun a hA=>?_
 have hI:=Iv.start hμ
 have H:=bI H
 refine w_seq fun _ hN1=>w_reg<|sta hA rfl rfl fun a hA=>?_
 refine o_nil<|hN1 _ _ ?_
 obtain ⟨c1,hz1,Hk1⟩:=bB H
 refine w_cut (fun a w=>∃(μ1:Store),μ.le μ1∧Fr a 10 [(0,.bool c1)]∧Iv w0 [] μ μ1 [] w) ?_ ?_
 ·have H:=bI hz1
  refine w_reg ?_
  obtain ⟨r1,hr1,H⟩:=bB H
  refine o_call _ cf26 hA rfl (block_Start.c μ _ hI.agr  r1 hr1) rfl fun v1 a w hz2 hA=>?_
  obtain ⟨v2,μ2,rfl,hw1,hi1⟩:=hz2
  have hI:=hI.call hi1
  obtain ⟨r2,hr2,H⟩:=bB H
  refine o_call _ cf21 hA rfl (block_Check.c μ2 _ hI.agr r1 v2 ⟨hw1.1,hw1.2.1,hw1.2.2.1,hw1.2.2.2.1,hw1.2.2.2.2.1,hw1.2.2.2.2.2.1,hw1.2.2.2.2.2.2⟩ e1 (ErV.le (fun _ _ h=>h) hi1.le he1) e2 (ErV.le (fun _ _ h=>h) hi1.le he2) e3 (ErV.le (fun _ _ h=>h) hi1.le he3) e4 (ErV.le (fun _ _ h=>h) hi1.le he4) e5 (ErV.le (fun _ _ h=>h) hi1.le he5) e6 (ErV.le (fun _ _ h=>h) hi1.le he6) e7 (ErV.le (fun _ _ h=>h) hi1.le he7) e8 (ErV.le (fun _ _ h=>h) hi1.le he8) r2 hr2) rfl fun v3 a w hz3 hA=>?_
  obtain ⟨_,μ3,rfl,hS1,hi2⟩:=hz3
  have hI:=hI.call hi2
  refine stp hA (r_eqE erF hI.agr hS1 erv_nil (.inl ⟨.inr ⟨_,rfl⟩,Er.fitR⟩) hA rfl rfl) rfl fun a hA =>
   stm hA rfl rfl fun a hA=>?_
  rcases Bool.eq_false_or_eq_true (decide (r2=(Er.b 0))) with hc1 | hc1
  ·have hc10:=hc1;obtain ⟨hc1,H⟩:=dT H hc1
   refine o_yes hA rfl rfl hc10<|?_
   obtain ⟨r3,hr3,H⟩:=bB H
   refine o_call _ cf26 hA rfl (block_Start.c μ3 _ hI.agr  r3 hr3) rfl fun v4 a w hz4 hA=>?_
   obtain ⟨v5,μ4,rfl,hw2,hi3⟩:=hz4
   have hI:=hI.call hi3
   refine o_yes hA rfl rfl hc10<|?_
   obtain ⟨r4,hr4,H⟩:=bB H
   refine o_call _ cf19 hA rfl (block_IDs.c μ4 _ hI.agr r3 v5 ⟨hw2.1,hw2.2.1,hw2.2.2.1,hw2.2.2.2.1,hw2.2.2.2.2.1,hw2.2.2.2.2.2.1,hw2.2.2.2.2.2.2⟩ r4 hr4) rfl fun v6 a w hz5 hA=>?_
   obtain ⟨_,cs1,rfl,hE1,hi4⟩:=hz5
   have hI:=hI.call hi4
   refine o_yes hA rfl rfl hc10<|?_
   have hlen1:=Iv.row_in hI (j:=0) rfl
   refine stp hA (r_rlen (xs:=0) U46 hI (j:=0) rfl hA rfl) rfl fun a hA =>
    o_yes hA rfl rfl hc10 <|
    stp hA (r_eql hA rfl rfl) rfl fun a hA =>
    stp hA (r_pick_t hA rfl hc10 rfl) rfl fun a hA =>
    sta hA rfl rfl fun a hA=>?_
   refine o_nil ?_
   cases sJ H
   exact ⟨μ4,((hi1.le.trans hi2.le).trans hi3.le),hA.sub ⟨rfl,trivial⟩,(hI.sl [] rfl)⟩
  ·have hc10:=hc1;obtain ⟨hc1,H⟩:=dF H hc1
   refine o_no hA rfl rfl (by rw [hc10];simp [vb]) rfl fun a hA =>
    o_no hA rfl rfl (by rw [hc10];simp [vb]) rfl fun a hA =>
    o_no hA rfl rfl (by rw [hc10];simp [vb]) rfl fun a hA =>
    o_no hA rfl rfl (by rw [hc10];simp [vb]) rfl fun a hA =>
    stp hA (r_pick_f hA rfl hc10 rfl) rfl fun a hA =>
    sta hA rfl rfl fun a hA=>?_
   refine o_nil ?_
   cases sJ H
   exact ⟨μ3,(hi1.le.trans hi2.le),hA.sub ⟨rfl,trivial⟩,hI⟩
 ·rintro a w ⟨μ1,hle1,hA,hI⟩
  have H:=Hk1
  refine w_ret ?_
  obtain rfl:=sJ H
  exact ret1 hA Tryz.results4 rfl ⟨_,rfl,rfl,trivial,hI.forget0⟩
theorem q7_light.c (μ:Store)(w0:World)(hμ:Agr μ w0)(x0:Block)(u0_0:Value)(hx0:BlockW μ x0 u0_0)(r:Bool)(H:q7_light.f x0=some r) :
  Calls Tryz.prog 5 [.agg [[.int .u32 x0.Head.Version],av .u8 32 x0.Head.Prev,av .u8 32 x0.Head.Root,[.int .u32 x0.Head.Time],[.int .u32 x0.Head.Work],[.int .u32 x0.Head.Nonce],[u0_0]].flatten.toArray].toArray w0 (fun e w'=>∃ v,e=.returned v∧v=.bool r∧True∧Iv w0 [] μ μ [] w'):=by
 refine enter Tryz.func5 rfl Tryz.ntmps5 rfl fun a hA=>?_
 have hI:=Iv.start hμ
 have H:=bI H
 refine w_seq fun _ hN1=>w_reg<|o_box [[.int .u32 x0.Head.Version],av .u8 32 x0.Head.Prev,av .u8 32 x0.Head.Root,[.int .u32 x0.Head.Time],[.int .u32 x0.Head.Work],[.int .u32 x0.Head.Nonce],[u0_0]] hI hA rfl rfl rfl fun g1 a w hA hI hg1 =>
  sta hA rfl rfl fun a hA=>?_
 refine o_nil<|hN1 _ _<|w_seq fun _ hN2=>w_seq fun _ hN3=>w_reg<|stp hA (r_fd (k:=68) U29 rfl sz27 hA rfl rfl) rfl fun a hA =>
  stp hA (r_ld1 (j:=0) [[.int .u32 x0.Head.Version],av .u8 32 x0.Head.Prev,av .u8 32 x0.Head.Root,[.int .u32 x0.Head.Time],[.int .u32 x0.Head.Work],[.int .u32 x0.Head.Nonce]] [] U27 rfl hI rfl hA rfl rfl) rfl fun a hA=>?_
 obtain ⟨_,hsl1⟩:=Slc.sv hx0.2.2.2.2.2.2
 refine stp hA (r_slen U27 hsl1 hA rfl) rfl fun a hA =>
  stp hA (r_gtr hA rfl rfl) rfl fun a hA=>?_
 refine o_nil<|hN3 _ _<|w_cond hA rfl (fun hc1=>?_) (fun hc1=>?_)
 ·obtain ⟨hc1,H⟩:=dT H hc1
  refine w_seq fun _ hN4=>w_reg<|sta hA rfl rfl fun a hA=>?_
  refine o_nil<|hN4 _ _<|w_ret ?_
  obtain rfl:=sJ H
  exact ret1 hA Tryz.results5 rfl ⟨_,rfl,rfl,trivial,hI.forget0⟩
 ·obtain ⟨hc1,H⟩:=dF H hc1
  refine w_skip<|hN2 _ _<|w_seq fun _ hN5=>w_reg<|sta hA rfl rfl fun a hA=>?_
  refine o_nil<|hN5 _ _<|w_seq fun _ hN6=>w_seq fun _ hN7=>w_reg<|sta hA rfl rfl fun a hA=>?_
  refine o_nil<|hN7 _ _<|w_block ?_
  obtain ⟨z1,hz1,Hk1⟩:=bind_some H
  obtain ⟨n1,hn1⟩:=loopO_some hz1
  refine w_loop (fun n a w=>∃(s1 s2:Int),loopN (q7_light.s0 x0) n (s1,s2)=some z1∧InR .i64 s1∧InR .i64 s2∧Fr a 59 [(1,pt g1 0),(2,.bool false),(3,.int .i64 s1),(4,.int .i64 s2)]∧Iv w0 [] μ μ [cel g1 [[.int .u32 x0.Head.Version],av .u8 32 x0.Head.Prev,av .u8 32 x0.Head.Root,[.int .u32 x0.Head.Time],[.int .u32 x0.Head.Work],[.int .u32 x0.Head.Nonce],[u0_0]] 29] w) n1 ⟨0,0,hn1,(in_lit .i64 0 rfl),(in_lit .i64 0 rfl),hA.sub ⟨rfl,rfl,rfl,rfl,trivial⟩,hI⟩ ?_
  clear hA hI
  rintro n a w ⟨s1,s2,hn1,ws1,ws2,hA,hI⟩
  obtain ⟨m1,rfl,H⟩:=loopN_bind hn1
  clear hn1
  refine w_seq fun _ hN8=>w_seq fun _ hN9=>w_reg<|stm hA rfl rfl fun a hA =>
   stp hA (r_fd (k:=68) U29 rfl sz27 hA rfl rfl) rfl fun a hA =>
   stp hA (r_ld1 (j:=0) [[.int .u32 x0.Head.Version],av .u8 32 x0.Head.Prev,av .u8 32 x0.Head.Root,[.int .u32 x0.Head.Time],[.int .u32 x0.Head.Work],[.int .u32 x0.Head.Nonce]] [] U27 rfl hI rfl hA rfl rfl) rfl fun a hA=>?_
  obtain ⟨_,hsl2⟩:=Slc.sv hx0.2.2.2.2.2.2
  refine stp hA (r_slen U27 hsl2 hA rfl) rfl fun a hA =>
   stp hA (r_lss hA rfl rfl) rfl fun a hA=>?_
  refine o_nil<|hN9 _ _<|w_cond hA rfl (fun hc2=>?_) (fun hc2=>?_)
  ·obtain ⟨hc2,H⟩:=dT H hc2
   refine w_skip<|hN8 _ _<|w_seq fun _ hN10=>w_block<|w_seq fun _ hN11=>w_reg<|stp hA (r_fd (k:=68) U29 rfl sz27 hA rfl rfl) rfl fun a hA =>
    stp hA (r_ld1 (j:=0) [[.int .u32 x0.Head.Version],av .u8 32 x0.Head.Prev,av .u8 32 x0.Head.Root,[.int .u32 x0.Head.Time],[.int .u32 x0.Head.Work],[.int .u32 x0.Head.Nonce]] [] U27 rfl hI rfl hA rfl rfl) rfl fun a hA =>
    stm hA rfl rfl fun a hA=>?_
   obtain ⟨hb1,H⟩:=bG H
   obtain ⟨_,he1,_,hat1⟩:=Slc.elem hx0.2.2.2.2.2.2 (getD_some default hb1.1 hb1.2)
   obtain ⟨v1,v2,rfl,hw1⟩:=he1
   obtain ⟨_,hsl3⟩:=Slc.sv hx0.2.2.2.2.2.2
   refine stp hA (r_six U27 sz63 hsl3 hA rfl rfl hb1.1 hb1.2) rfl fun a hA =>
    stp hA (r_ldmA [] [[.int .u32 ((x0.Txs.getD s2.toNat default).Version)],[v1],[v2],[.int .u32 ((x0.Txs.getD s2.toNat default).Time)]] [] U63 rfl sz63 rfl hI.agr hat1 hA rfl rfl) rfl fun a hA =>
    o_new [[.int .u32 0],[Sn],[Sn],[.int .u32 0]] zr63 hI hA rfl fun g2 a w hA hI hg2=>?_
   obtain ⟨_,hsl4⟩:=Slc.sv hw1.2.1
   obtain ⟨_,hsl5⟩:=Slc.sv hw1.2.2.1
   refine o_st (j:=0) [] [[.int .u32 0],[Sn],[Sn],[.int .u32 0]] [[.int .u32 ((x0.Txs.getD s2.toNat default).Version)],[v1],[v2],[.int .u32 ((x0.Txs.getD s2.toNat default).Time)]] [] sz63 rfl rfl (fO rfl (fl_cons (one_one (one_sl hsl4)) (fl_cons (one_one (one_sl hsl5)) (fO rfl fl_nil)))) hI rfl hA rfl rfl rfl rfl fun w hI=>?_
   refine o_nil<|hN11 _ _<|w_seq fun _ hN12=>?_
   obtain ⟨c1,hz2,Hk2⟩:=bB H
   refine w_cut (fun a w=>Fr a 59 [(1,pt g1 0),(2,.bool false),(3,.int .i64 s1),(4,.int .i64 s2),(5,pt g2 0),(15,.bool (decide (s2 < (x0.Txs.length:Int)))),(32,.bool c1)]∧Iv w0 [] μ μ [cel g2 [[.int .u32 ((x0.Txs.getD s2.toNat default).Version)],[v1],[v2],[.int .u32 ((x0.Txs.getD s2.toNat default).Time)]] 63,cel g1 [[.int .u32 x0.Head.Version],av .u8 32 x0.Head.Prev,av .u8 32 x0.Head.Root,[.int .u32 x0.Head.Time],[.int .u32 x0.Head.Work],[.int .u32 x0.Head.Nonce],[u0_0]] 29] w) ?_ ?_
   ·have H:=bI hz2
    refine w_reg<|stp hA (r_fd (k:=1) U63 rfl sz60 hA rfl rfl) rfl fun a hA =>
     stp hA (r_ld1 (j:=0) [[.int .u32 ((x0.Txs.getD s2.toNat default).Version)]] [[v2],[.int .u32 ((x0.Txs.getD s2.toNat default).Time)]] U60 rfl hI rfl hA rfl rfl) rfl fun a hA=>?_
    obtain ⟨_,hsl6⟩:=Slc.sv hw1.2.1
    refine stp hA (r_slen U60 hsl6 hA rfl) rfl fun a hA =>
     stp hA (r_gtr hA rfl rfl) rfl fun a hA =>
     stm hA rfl rfl fun a hA=>?_
    rcases Bool.eq_false_or_eq_true (decide (60 < (((x0.Txs.getD s2.toNat default).Ins).length:Int))) with hc3 | hc3
    ·have hc30:=hc3;obtain ⟨hc3,H⟩:=dT H hc3
     refine o_no hA rfl rfl (by rw [hc30];simp [vb]) rfl fun a hA =>
      o_no hA rfl rfl (by rw [hc30];simp [vb]) rfl fun a hA =>
      o_no hA rfl rfl (by rw [hc30];simp [vb]) rfl fun a hA =>
      o_no hA rfl rfl (by rw [hc30];simp [vb]) rfl fun a hA =>
      stp hA (r_pick_t hA rfl hc30 rfl) rfl fun a hA=>?_
     refine o_nil ?_
     cases sJ H
     exact ⟨hA.sub ⟨rfl,rfl,rfl,rfl,rfl,rfl,rfl,trivial⟩,hI⟩
    ·have hc30:=hc3;obtain ⟨hc3,H⟩:=dF H hc3
     refine o_yes hA rfl rfl hc30 <|
      stp hA (r_fd (k:=2) U63 rfl sz61 hA rfl rfl) rfl fun a hA =>
      o_yes hA rfl rfl hc30 <|
      stp hA (r_ld1 (j:=0) [[.int .u32 ((x0.Txs.getD s2.toNat default).Version)],[v1]] [[.int .u32 ((x0.Txs.getD s2.toNat default).Time)]] U61 rfl hI rfl hA rfl rfl) rfl fun a hA =>
      o_yes hA rfl rfl hc30<|?_
     obtain ⟨_,hsl7⟩:=Slc.sv hw1.2.2.1
     refine stp hA (r_slen U61 hsl7 hA rfl) rfl fun a hA =>
      o_yes hA rfl rfl hc30 <|
      stp hA (r_gtr hA rfl rfl) rfl fun a hA =>
      stp hA (r_pick_f hA rfl hc30 rfl) rfl fun a hA=>?_
     refine o_nil ?_
     cases sJ H
     exact ⟨hA.sub ⟨rfl,rfl,rfl,rfl,rfl,rfl,rfl,trivial⟩,hI⟩
   ·rintro a w ⟨hA,hI⟩
    have H:=Hk2
    refine w_cond hA rfl (fun hc4=>?_) (fun hc4=>?_)
    ·have H:=bT H hc4
     refine w_seq fun _ hN13=>w_reg<|sta hA rfl rfl fun a hA=>?_
     refine o_nil<|hN13 _ _<|w_ret ?_
     have H:some false=some z1:=H
     obtain rfl:=sI H
     have H:=Hk1
     obtain rfl:=sJ H
     exact ret1 hA Tryz.results5 rfl ⟨_,rfl,rfl,trivial,hI.forget0⟩
    ·have hc4:=ft hc4;have H:=bF H hc4
     refine w_skip<|hN12 _ _<|w_seq fun _ hN14=>w_reg<|stm hA rfl rfl fun a hA =>
      stp hA (r_fd (k:=1) U63 rfl sz60 hA rfl rfl) rfl fun a hA =>
      stp hA (r_ld1 (j:=0) [[.int .u32 ((x0.Txs.getD s2.toNat default).Version)]] [[v2],[.int .u32 ((x0.Txs.getD s2.toNat default).Time)]] U60 rfl hI rfl hA rfl rfl) rfl fun a hA=>?_
     obtain ⟨_,hsl8⟩:=Slc.sv hw1.2.1
     refine stp hA (r_slen U60 hsl8 hA rfl) rfl fun a hA =>
      stp hA (r_add hA rfl rfl) rfl fun a hA =>
      stp hA (r_fd (k:=2) U63 rfl sz61 hA rfl rfl) rfl fun a hA =>
      stp hA (r_ld1 (j:=0) [[.int .u32 ((x0.Txs.getD s2.toNat default).Version)],[v1]] [[.int .u32 ((x0.Txs.getD s2.toNat default).Time)]] U61 rfl hI rfl hA rfl rfl) rfl fun a hA=>?_
     obtain ⟨_,hsl9⟩:=Slc.sv hw1.2.2.1
     refine stp hA (r_slen U61 hsl9 hA rfl) rfl fun a hA =>
      stp hA (r_add hA rfl rfl) rfl fun a hA =>
      sta hA rfl rfl fun a hA=>?_
     refine o_nil<|hN14 _ _<|w_seq fun _ hN15=>w_reg<|sta hA rfl rfl fun a hA=>?_
     refine o_nil<|hN15 _ _<|w_block ?_
     obtain ⟨z2,hz3,Hk3⟩:=bind_some H
     obtain ⟨n2,hn2⟩:=loopO_some hz3
     refine w_loop (fun n a w=>∃(s3:Int),loopN (q7_light.s1 x0 s1 s2) n s3=some z2∧InR .i64 s3∧Fr a 59 [(1,pt g1 0),(2,.bool false),(3,.int .i64 (IntKind.i64.wrap ((IntKind.i64.wrap (s1+(((x0.Txs.getD s2.toNat default).Ins).length:Int)))+(((x0.Txs.getD s2.toNat default).Outs).length:Int)))),(4,.int .i64 s2),(5,pt g2 0),(6,.int .i64 s3),(15,.bool (decide (s2 < (x0.Txs.length:Int)))),(32,.bool c1)]∧Iv w0 [] μ μ [cel g2 [[.int .u32 ((x0.Txs.getD s2.toNat default).Version)],[v1],[v2],[.int .u32 ((x0.Txs.getD s2.toNat default).Time)]] 63,cel g1 [[.int .u32 x0.Head.Version],av .u8 32 x0.Head.Prev,av .u8 32 x0.Head.Root,[.int .u32 x0.Head.Time],[.int .u32 x0.Head.Work],[.int .u32 x0.Head.Nonce],[u0_0]] 29] w) n2 ⟨0,hn2,(in_lit .i64 0 rfl),hA.sub ⟨rfl,rfl,rfl,rfl,rfl,rfl,rfl,rfl,trivial⟩,hI⟩ ?_
     clear hA hI
     rintro n a w ⟨s3,hn2,ws3,hA,hI⟩
     obtain ⟨m2,rfl,H⟩:=loopN_bind hn2
     clear hn2
     refine w_seq fun _ hN16=>w_seq fun _ hN17=>w_reg<|stm hA rfl rfl fun a hA =>
      stp hA (r_fd (k:=1) U63 rfl sz60 hA rfl rfl) rfl fun a hA =>
      stp hA (r_ld1 (j:=0) [[.int .u32 ((x0.Txs.getD s2.toNat default).Version)]] [[v2],[.int .u32 ((x0.Txs.getD s2.toNat default).Time)]] U60 rfl hI rfl hA rfl rfl) rfl fun a hA=>?_
     obtain ⟨_,hsl10⟩:=Slc.sv hw1.2.1
     refine stp hA (r_slen U60 hsl10 hA rfl) rfl fun a hA =>
      stp hA (r_lss hA rfl rfl) rfl fun a hA=>?_
     refine o_nil<|hN17 _ _<|w_cond hA rfl (fun hc5=>?_) (fun hc5=>?_)
     ·obtain ⟨hc5,H⟩:=dT H hc5
      refine w_skip<|hN16 _ _<|w_seq fun _ hN18=>w_block<|w_seq fun _ hN19=>w_reg<|stp hA (r_fd (k:=1) U63 rfl sz60 hA rfl rfl) rfl fun a hA =>
       stp hA (r_ld1 (j:=0) [[.int .u32 ((x0.Txs.getD s2.toNat default).Version)]] [[v2],[.int .u32 ((x0.Txs.getD s2.toNat default).Time)]] U60 rfl hI rfl hA rfl rfl) rfl fun a hA =>
       stm hA rfl rfl fun a hA=>?_
      obtain ⟨hb2,H⟩:=bG H
      obtain ⟨_,he2,_,hat2⟩:=Slc.elem hw1.2.1 (getD_some default hb2.1 hb2.2)
      obtain ⟨v3,rfl,hw2⟩:=he2
      obtain ⟨_,hsl11⟩:=Slc.sv hw1.2.1
      refine stp hA (r_six U60 sz67 hsl11 hA rfl rfl hb2.1 hb2.2) rfl fun a hA =>
       stp hA (r_fd (k:=so v1+s3.toNat * 35+33) U67 rfl sz30 hA rfl rfl) rfl fun a hA =>
       stp hA (r_ldm1 [av .u8 32 ((((x0.Txs.getD s2.toNat default).Ins).getD s3.toNat default).From.Tx),[.int .u32 ((((x0.Txs.getD s2.toNat default).Ins).getD s3.toNat default).From.N)]] [[.int .u32 ((((x0.Txs.getD s2.toNat default).Ins).getD s3.toNat default).Seq)]] U30 rfl hI.agr hat2 hA rfl rfl) rfl fun a hA=>?_
      obtain ⟨_,hsl12⟩:=Slc.sv hw2.2.2.1
      refine stp hA (r_slen U30 hsl12 hA rfl) rfl fun a hA =>
       stp hA (r_gtr hA rfl rfl) rfl fun a hA=>?_
      refine o_nil<|hN19 _ _<|w_cond hA rfl (fun hc6=>?_) (fun hc6=>?_)
      ·obtain ⟨hc6,H⟩:=dT H hc6
       refine w_seq fun _ hN20=>w_reg<|sta hA rfl rfl fun a hA=>?_
       refine o_nil<|hN20 _ _<|w_ret ?_
       have H:some (.inr false)=some z2:=H
       obtain rfl:=sI H
       have H:=Hk3
       have H:some false=some z1:=H
       obtain rfl:=sI H
       have H:=Hk1
       obtain rfl:=sJ H
       exact ret1 hA Tryz.results5 rfl ⟨_,rfl,rfl,trivial,hI.forget0⟩
      ·obtain ⟨hc6,H⟩:=dF H hc6
       refine w_skip<|hN18 _ _<|w_reg<|stm hA rfl rfl fun a hA =>
        stp hA (r_add hA rfl rfl) rfl fun a hA =>
        sta hA rfl rfl fun a hA=>?_
       refine o_nil<|⟨m2,lS _,IntKind.i64.wrap (s3+1),H,(wrap_in _ _),hA.sub ⟨rfl,rfl,rfl,rfl,rfl,rfl,rfl,rfl,trivial⟩,hI⟩
     ·obtain ⟨hc5,H⟩:=dF H hc5
      refine w_exit rfl<|hN10 _ _<|w_reg<|stm hA rfl rfl fun a hA =>
       stp hA (r_add hA rfl rfl) rfl fun a hA =>
       sta hA rfl rfl fun a hA=>?_
      refine o_nil ?_
      have H:some (.inl (IntKind.i64.wrap ((IntKind.i64.wrap (s1+(((x0.Txs.getD s2.toNat default).Ins).length:Int)))+(((x0.Txs.getD s2.toNat default).Outs).length:Int)),IntKind.i64.wrap (s2+1)))=some z2:=H
      obtain rfl:=sI H
      have H:=Hk3
      exact ⟨m1,lS _,IntKind.i64.wrap ((IntKind.i64.wrap (s1+(((x0.Txs.getD s2.toNat default).Ins).length:Int)))+(((x0.Txs.getD s2.toNat default).Outs).length:Int)),IntKind.i64.wrap (s2+1),H,(wrap_in _ _),(wrap_in _ _),hA.sub ⟨rfl,rfl,rfl,rfl,trivial⟩,(hI.sl [1] rfl)⟩
  ·obtain ⟨hc2,H⟩:=dF H hc2
   refine w_exit rfl<|hN6 _ _<|w_seq fun _ hN21=>w_reg<|stm hA rfl rfl fun a hA =>
    stp hA (r_leq hA rfl rfl) rfl fun a hA =>
    sta hA rfl rfl fun a hA=>?_
   refine o_nil<|hN21 _ _<|w_ret ?_
   have H:some (decide (s1≤500))=some z1:=H
   obtain rfl:=sI H
   have H:=Hk1
   obtain rfl:=sJ H
   exact ret1 hA Tryz.results5 rfl ⟨_,rfl,rfl,trivial,hI.forget0⟩
noncomputable def q7_BlockSays.f (x0:Block)(x1:List Int):Option Bool:=((q7_first.f).bind fun r1=>(if r1=true then ((((q7_light.f x0).bind fun r2=>(if r2=true then some (decide (8000 < (x1.length:Int))) else some true))).bind fun c1=>(if c1=true then some r1 else ((q1_BlockBytes.f x0).bind fun r3=>((block_Read.f x1).bind fun r4=>((q1_ReadBlock.f x1).bind fun r5=>(((if r1=true then ((block_Bytes.f x0).bind fun r6=>((q0_SameBytes.f r6 r3).bind fun r7=>(if r7=true then ((block_Size.f x0).bind fun r8=>(if r8=(r3.length:Int) then ((block_ID.f x0).bind fun r9=>((q1_HeadID.f x0.Head).bind fun r10=>((q0_SameHash.f r9 r10).bind fun r11=>(if r11=true then ((block_Root.f x0).bind fun r12=>((q1_IDs.f x0.Txs).bind fun r13=>((q1_Root.f r13).bind fun r14=>((q0_SameHash.f r12 r14).bind fun r15=>(if r15=true then ((block_IDs.f x0).bind fun r16=>((q1_IDs.f x0.Txs).bind fun r17=>((q0_SameHashes.f r16 r17).bind fun r18=>(if r18=true then ((block_Check.f x0).bind fun r19=>((q1_CheckBlock.f x0).bind fun r20=>((q2_Same.f r19 r20).bind fun r21=>(if r21=true then ((q0_SameBlock.f r4.1 r5.1).bind fun r22=>(if r22=true then ((q2_Is.f r4.2 r5.2).bind fun r23=>(if r23=true then ((block_Clone.f x0).bind fun r24=>((q0_SameBlock.f r24 x0).bind fun r25=>some r25)) else some false)) else some false)) else some false)))) else some false)))) else some false))))) else some false)))) else some false)) else some false))) else some false)).bind fun c2=>some c2)))))) else some false))
theorem q7_BlockSays.c (μ:Store)(w0:World)(hμ:Agr μ w0)(x0:Block)(u0_0:Value)(hx0:BlockW μ x0 u0_0)(x1:List Int)(u1:Value)(hx1:Slc (RI .u8) 1 μ u1 x1)(hG:Gl μ)(r:Bool)(H:q7_BlockSays.f x0 x1=some r) :
  Calls Tryz.prog 3 [.agg [[.int .u32 x0.Head.Version],av .u8 32 x0.Head.Prev,av .u8 32 x0.Head.Root,[.int .u32 x0.Head.Time],[.int .u32 x0.Head.Work],[.int .u32 x0.Head.Nonce],[u0_0]].flatten.toArray,u1].toArray w0 (fun e w'=>∃ v,e=.returned v∧v=.bool r∧True∧Iv w0 [] μ μ [] w'):=by
 refine enter Tryz.func3 rfl Tryz.ntmps3 rfl fun a hA=>?_
 have hI:=Iv.start hμ
 have H:=bI H
 obtain ⟨e0,he0⟩:=hG.g0
 obtain ⟨e1,he1⟩:=hG.g1
 obtain ⟨e2,he2⟩:=hG.g2
 obtain ⟨e3,he3⟩:=hG.g3
 obtain ⟨e4,he4⟩:=hG.g4
 obtain ⟨e5,he5⟩:=hG.g5
 obtain ⟨e6,he6⟩:=hG.g6
 obtain ⟨e7,he7⟩:=hG.g7
 obtain ⟨e8,he8⟩:=hG.g8
 obtain ⟨e9,he9⟩:=hG.g9
 refine w_seq fun _ hN1=>w_reg<|o_box [[.int .u32 x0.Head.Version],av .u8 32 x0.Head.Prev,av .u8 32 x0.Head.Root,[.int .u32 x0.Head.Time],[.int .u32 x0.Head.Work],[.int .u32 x0.Head.Nonce],[u0_0]] hI hA rfl rfl rfl fun g1 a w hA hI hg1 =>
  sta hA rfl rfl fun a hA=>?_
 refine o_nil<|hN1 _ _<|w_seq fun _ hN2=>w_reg ?_
 obtain ⟨r1,hr1,H⟩:=bB H
 refine o_callp (u:=.bool r1) cf4 hA rfl hI (q7_first.c μ _ hI.agr e1 he1 e2 he2 e3 he3 e4 he4 e5 he5 e6 he6 e7 he7 e8 he8 r1 hr1) rfl fun a w hz1 hI hA =>
  sta hA rfl rfl fun a hA=>?_
 refine o_nil<|hN2 _ _<|w_seq fun _ hN3=>w_seq fun _ hN4=>w_reg<|stm hA rfl rfl fun a hA =>
  stp hA (r_not hA rfl) rfl fun a hA=>?_
 refine o_nil<|hN4 _ _<|w_cond hA rfl (fun hc1=>?_) (fun hc1=>?_)
 ·have hc10:=hc1;have hc1:=nT hc1;have hc1:=ft hc1;have H:=bF H hc1
  refine w_seq fun _ hN5=>w_reg<|sta hA rfl rfl fun a hA=>?_
  refine o_nil<|hN5 _ _<|w_ret ?_
  obtain rfl:=sJ H
  exact ret1 hA Tryz.results3 rfl ⟨_,rfl,rfl,trivial,hI.forget0⟩
 ·have hc10:=hc1;have hc1:=nF hc1;have H:=bT H hc1
  refine w_skip<|hN3 _ _<|w_seq fun _ hN6=>?_
  obtain ⟨c1,hz2,Hk1⟩:=bB H
  refine w_cut (fun a w=>Fr a 97 [(1,u1),(2,pt g1 0),(4,.bool false),(5,.bool r1),(21,.bool c1)]∧Iv w0 [] μ μ [cel g1 [[.int .u32 x0.Head.Version],av .u8 32 x0.Head.Prev,av .u8 32 x0.Head.Root,[.int .u32 x0.Head.Time],[.int .u32 x0.Head.Work],[.int .u32 x0.Head.Nonce],[u0_0]] 29] w) ?_ ?_
  ·have H:=bI hz2
   refine w_reg<|stp hA (r_ldA (j:=0) [] [[.int .u32 x0.Head.Version],av .u8 32 x0.Head.Prev,av .u8 32 x0.Head.Root,[.int .u32 x0.Head.Time],[.int .u32 x0.Head.Work],[.int .u32 x0.Head.Nonce],[u0_0]] [] U29 rfl sz29 rfl hI rfl hA rfl rfl) rfl fun a hA=>?_
   obtain ⟨r2,hr2,H⟩:=bB H
   refine o_callp (u:=.bool r2) cf5 hA rfl hI (q7_light.c μ _ hI.agr x0 u0_0 ⟨hx0.1,hx0.2.1,hx0.2.2.1,hx0.2.2.2.1,hx0.2.2.2.2.1,hx0.2.2.2.2.2.1,hx0.2.2.2.2.2.2⟩ r2 hr2) rfl fun a w hz3 hI hA =>
    stp hA (r_not hA rfl) rfl fun a hA =>
    stm hA rfl rfl fun a hA=>?_
   rcases Bool.eq_false_or_eq_true (!r2) with hc2 | hc2
   ·have hc20:=hc2;have hc2:=nT hc2;have hc2:=ft hc2;have H:=bF H hc2
    refine o_no hA rfl rfl (by rw [hc20];simp [vb]) rfl fun a hA =>
     o_no hA rfl rfl (by rw [hc20];simp [vb]) rfl fun a hA =>
     o_no hA rfl rfl (by rw [hc20];simp [vb]) rfl fun a hA =>
     stp hA (r_pick_t hA rfl hc20 rfl) rfl fun a hA=>?_
    refine o_nil ?_
    cases sJ H
    exact ⟨hA.sub ⟨rfl,rfl,rfl,rfl,rfl,trivial⟩,hI⟩
   ·have hc20:=hc2;have hc2:=nF hc2;have H:=bT H hc2
    refine o_yes hA rfl rfl hc20 <|
     stm hA rfl rfl fun a hA =>
     o_yes hA rfl rfl hc20<|?_
    obtain ⟨_,hsl1⟩:=Slc.sv hx1
    refine stp hA (r_slen U30 hsl1 hA rfl) rfl fun a hA =>
     o_yes hA rfl rfl hc20 <|
     stp hA (r_gtr hA rfl rfl) rfl fun a hA =>
     stp hA (r_pick_f hA rfl hc20 rfl) rfl fun a hA=>?_
    refine o_nil ?_
    cases sJ H
    exact ⟨hA.sub ⟨rfl,rfl,rfl,rfl,rfl,trivial⟩,hI⟩
  ·rintro a w ⟨hA,hI⟩
   have H:=Hk1
   refine w_cond hA rfl (fun hc3=>?_) (fun hc3=>?_)
   ·have H:=bT H hc3
    refine w_seq fun _ hN7=>w_reg<|stm hA rfl rfl fun a hA =>
     sta hA rfl rfl fun a hA=>?_
    refine o_nil<|hN7 _ _<|w_ret ?_
    obtain rfl:=sJ H
    exact ret1 hA Tryz.results3 rfl ⟨_,rfl,rfl,trivial,hI.forget0⟩
   ·have hc3:=ft hc3;have H:=bF H hc3
    refine w_skip<|hN6 _ _<|w_seq fun _ hN8=>w_reg<|stp hA (r_ldA (j:=0) [] [[.int .u32 x0.Head.Version],av .u8 32 x0.Head.Prev,av .u8 32 x0.Head.Root,[.int .u32 x0.Head.Time],[.int .u32 x0.Head.Work],[.int .u32 x0.Head.Nonce],[u0_0]] [] U29 rfl sz29 rfl hI rfl hA rfl rfl) rfl fun a hA=>?_
    obtain ⟨r3,hr3,H⟩:=bB H
    refine o_call _ cf6 hA rfl (q1_BlockBytes.c μ _ hI.agr x0 u0_0 ⟨hx0.1,hx0.2.1,hx0.2.2.1,hx0.2.2.2.1,hx0.2.2.2.2.1,hx0.2.2.2.2.2.1,hx0.2.2.2.2.2.2⟩ r3 hr3) rfl fun v1 a w hz4 hA=>?_
    obtain ⟨_,cs1,rfl,hE1,hi1⟩:=hz4
    have hI:=hI.call hi1
    refine sta hA rfl rfl fun a hA=>?_
    refine o_nil<|hN8 _ _<|w_seq fun _ hN9=>w_reg<|stm hA rfl rfl fun a hA=>?_
    obtain ⟨r4,hr4,H⟩:=bB H
    refine o_call _ cf7 hA rfl (block_Read.c μ _ hI.agr x1 u1 hx1 e0 he0 e1 he1 e9 he9 r4 hr4) rfl fun v2 a w hz5 hA=>?_
    obtain ⟨v3,v4,μ1,rfl,hw1,hS1,hi2⟩:=hz5
    have hI:=hI.call hi2
    refine stm hA rfl rfl fun a hA =>
     stp hA (r_extr (vs:=[.agg [[.int .u32 r4.1.Head.Version],av .u8 32 r4.1.Head.Prev,av .u8 32 r4.1.Head.Root,[.int .u32 r4.1.Head.Time],[.int .u32 r4.1.Head.Work],[.int .u32 r4.1.Head.Nonce],[v3]].flatten.toArray,v4]) hA rfl rfl) rfl fun a hA =>
     stp hA (r_extr (vs:=[.agg [[.int .u32 r4.1.Head.Version],av .u8 32 r4.1.Head.Prev,av .u8 32 r4.1.Head.Root,[.int .u32 r4.1.Head.Time],[.int .u32 r4.1.Head.Work],[.int .u32 r4.1.Head.Nonce],[v3]].flatten.toArray,v4]) hA rfl rfl) rfl fun a hA =>
     o_new [[.int .u32 0],av .u8 32 Z32,av .u8 32 Z32,[.int .u32 0],[.int .u32 0],[.int .u32 0],[Sn]] zr29 hI hA rfl fun g2 a w hA hI hg2=>?_
    obtain ⟨_,hsl2⟩:=Slc.sv hw1.2.2.2.2.2.2
    refine o_st (j:=0) [] [[.int .u32 0],av .u8 32 Z32,av .u8 32 Z32,[.int .u32 0],[.int .u32 0],[.int .u32 0],[Sn]] [[.int .u32 r4.1.Head.Version],av .u8 32 r4.1.Head.Prev,av .u8 32 r4.1.Head.Root,[.int .u32 r4.1.Head.Time],[.int .u32 r4.1.Head.Work],[.int .u32 r4.1.Head.Nonce],[v3]] [] sz29 rfl rfl (fO rfl (fl_cons (one_av _ _ _) (fl_cons (one_av _ _ _) (fO rfl (fO rfl (fO rfl (fl_cons (one_one (one_sl hsl2)) fl_nil))))))) hI rfl hA rfl rfl rfl rfl fun w hI =>
     sta hA rfl rfl fun a hA=>?_
    refine o_nil<|hN9 _ _<|w_seq fun _ hN10=>w_reg<|stm hA rfl rfl fun a hA=>?_
    obtain ⟨r5,hr5,H⟩:=bB H
    refine o_call _ cf8 hA rfl (q1_ReadBlock.c μ1 _ hI.agr x1 u1 (Slc.le hx1 (fun _ _ h=>h) hi2.le) r5 hr5) rfl fun v5 a w hz6 hA=>?_
    obtain ⟨v6,μ2,rfl,hw2,hw3,hi3⟩:=hz6
    have hI:=hI.call hi3
    refine stm hA rfl rfl fun a hA =>
     stp hA (r_extr (vs:=[.agg [[.int .u32 r5.1.Head.Version],av .u8 32 r5.1.Head.Prev,av .u8 32 r5.1.Head.Root,[.int .u32 r5.1.Head.Time],[.int .u32 r5.1.Head.Work],[.int .u32 r5.1.Head.Nonce],[v6]].flatten.toArray,.int .i64 r5.2]) hA rfl rfl) rfl fun a hA =>
     stp hA (r_extr (vs:=[.agg [[.int .u32 r5.1.Head.Version],av .u8 32 r5.1.Head.Prev,av .u8 32 r5.1.Head.Root,[.int .u32 r5.1.Head.Time],[.int .u32 r5.1.Head.Work],[.int .u32 r5.1.Head.Nonce],[v6]].flatten.toArray,.int .i64 r5.2]) hA rfl rfl) rfl fun a hA =>
     o_new [[.int .u32 0],av .u8 32 Z32,av .u8 32 Z32,[.int .u32 0],[.int .u32 0],[.int .u32 0],[Sn]] zr29 hI hA rfl fun g3 a w hA hI hg3=>?_
    obtain ⟨_,hsl3⟩:=Slc.sv hw2.2.2.2.2.2.2
    refine o_st (j:=0) [] [[.int .u32 0],av .u8 32 Z32,av .u8 32 Z32,[.int .u32 0],[.int .u32 0],[.int .u32 0],[Sn]] [[.int .u32 r5.1.Head.Version],av .u8 32 r5.1.Head.Prev,av .u8 32 r5.1.Head.Root,[.int .u32 r5.1.Head.Time],[.int .u32 r5.1.Head.Work],[.int .u32 r5.1.Head.Nonce],[v6]] [] sz29 rfl rfl (fO rfl (fl_cons (one_av _ _ _) (fl_cons (one_av _ _ _) (fO rfl (fO rfl (fO rfl (fl_cons (one_one (one_sl hsl3)) fl_nil))))))) hI rfl hA rfl rfl rfl rfl fun w hI =>
     sta hA rfl rfl fun a hA=>?_
    refine o_nil<|hN10 _ _ ?_
    obtain ⟨c2,hz7,Hk2⟩:=bB H
    refine w_cut (fun a w=>∃(μ3:Store),μ2.le μ3∧Fr a 97 [(4,.bool c2)]∧Iv w0 [] μ μ3 [cel g3 [[.int .u32 r5.1.Head.Version],av .u8 32 r5.1.Head.Prev,av .u8 32 r5.1.Head.Root,[.int .u32 r5.1.Head.Time],[.int .u32 r5.1.Head.Work],[.int .u32 r5.1.Head.Nonce],[v6]] 29,cel g2 [[.int .u32 r4.1.Head.Version],av .u8 32 r4.1.Head.Prev,av .u8 32 r4.1.Head.Root,[.int .u32 r4.1.Head.Time],[.int .u32 r4.1.Head.Work],[.int .u32 r4.1.Head.Nonce],[v3]] 29,row 5 1 v1 r3.length cs1,cel g1 [[.int .u32 x0.Head.Version],av .u8 32 x0.Head.Prev,av .u8 32 x0.Head.Root,[.int .u32 x0.Head.Time],[.int .u32 x0.Head.Work],[.int .u32 x0.Head.Nonce],[u0_0]] 29] w) ?_ ?_
    ·have H:=bI hz7
     refine w_any [] mo hI fun w hI=>?_
     refine gE 0 hA rfl (.inr hI) (fun _=>r_mv hA rfl) fun a hA=>?_
     refine gE 1 hA rfl (.inr hI) (fun _=>r_mv hA rfl) fun a hA=>?_
     rcases Bool.eq_false_or_eq_true r1 with hc4 | hc4
     ·have hc40:=hc4;have H:=bT H hc4
      refine g_take (i:=2) hA rfl (wanted_yes hA rfl rfl hc40) (by kernel_rfl) hI (fun w hI=>r_ldA (j:=3) [] [[.int .u32 x0.Head.Version],av .u8 32 x0.Head.Prev,av .u8 32 x0.Head.Root,[.int .u32 x0.Head.Time],[.int .u32 x0.Head.Work],[.int .u32 x0.Head.Nonce],[u0_0]] [] U29 rfl sz29 rfl hI rfl hA rfl rfl) rfl fun a hA=>?_
      refine g_easy (i:=4) hA rfl (wanted_yes hA rfl rfl hc40) (by kernel_rfl) (.inr hI) (fun _=>r_mv hA rfl) rfl fun a hA=>?_
      refine gF 3 rfl ?_
      refine o_yes hA rfl rfl hc40<|?_
      obtain ⟨r6,hr6,H⟩:=bB H
      refine o_call _ cf10 hA rfl (block_Bytes.c μ2 _ hI.agr x0 u0_0 ⟨hx0.1,hx0.2.1,hx0.2.2.1,hx0.2.2.2.1,hx0.2.2.2.2.1,hx0.2.2.2.2.2.1,(Slc.le hx0.2.2.2.2.2.2 (fun _ _ h=>RTx.le (hi2.le.trans hi3.le) h) (hi2.le.trans hi3.le))⟩ r6 hr6) rfl fun v7 a w hz8 hA=>?_
      obtain ⟨_,cs2,rfl,hE2,hi4⟩:=hz8
      have hI:=hI.call hi4
      refine o_nil<|⟨(.inr (hI.sl [1,2,3,4] rfl)),?_⟩
      refine gF 5 rfl ?_
      refine o_yes hA rfl rfl hc40<|?_
      obtain ⟨r7,hr7,H⟩:=bB H
      refine o_callp (u:=.bool r7) cf9 hA rfl hI ((by obtain ⟨μ4,hle2,hsv1,hI⟩:=hI.freezeRow 0 rfl;have hS2:Slc (RI .u8) 1 μ4 v7 r6:=⟨_,hE2,hsv1⟩;obtain ⟨μ5,hle3,hsv2,hI⟩:=hI.freezeRow 2 rfl;have hS3:Slc (RI .u8) 1 μ5 v1 r3:=⟨_,hE1,hsv2⟩;exact low_plain (hle2.trans hle3) (q0_SameBytes.c μ5 _ hI.agr r6 v7 (Slc.le hS2 (fun _ _ h=>h) hle3) r3 v1 hS3 r7 hr7))) rfl fun a w hz9 hI hA=>?_
      refine o_nil<|⟨(.inr (hI.sl [1,2,3,4] rfl)),?_⟩
      refine gE 6 hA rfl (.inr (hI.sl [1,2,3,4] rfl)) (fun _=>r_pick_t hA rfl hc40 rfl) fun a hA=>?_
      refine gE 7 hA rfl (.inr (hI.sl [1,2,3,4] rfl)) (fun _=>r_mv hA rfl) fun a hA=>?_
      rcases Bool.eq_false_or_eq_true r7 with hc5 | hc5
      ·have hc50:=hc5;have H:=bT H hc5
       refine g_mono (I':=fun w=>Iv w0 [] μ μ2 [row 5 1 v7 r6.length cs2,cel g3 [[.int .u32 r5.1.Head.Version],av .u8 32 r5.1.Head.Prev,av .u8 32 r5.1.Head.Root,[.int .u32 r5.1.Head.Time],[.int .u32 r5.1.Head.Work],[.int .u32 r5.1.Head.Nonce],[v6]] 29,cel g2 [[.int .u32 r4.1.Head.Version],av .u8 32 r4.1.Head.Prev,av .u8 32 r4.1.Head.Root,[.int .u32 r4.1.Head.Time],[.int .u32 r4.1.Head.Work],[.int .u32 r4.1.Head.Nonce],[v3]] 29,row 5 1 v1 r3.length cs1,cel g1 [[.int .u32 x0.Head.Version],av .u8 32 x0.Head.Prev,av .u8 32 x0.Head.Root,[.int .u32 x0.Head.Time],[.int .u32 x0.Head.Work],[.int .u32 x0.Head.Nonce],[u0_0]] 29] w) (fun w h=>(h.sl [1,2,3,4] rfl)) _ _ _ _ ?_
       refine g_take (i:=8) hA rfl (wanted_yes hA rfl rfl hc50) (by kernel_rfl) hI (fun w hI=>r_ldA (j:=4) [] [[.int .u32 x0.Head.Version],av .u8 32 x0.Head.Prev,av .u8 32 x0.Head.Root,[.int .u32 x0.Head.Time],[.int .u32 x0.Head.Work],[.int .u32 x0.Head.Nonce],[u0_0]] [] U29 rfl sz29 rfl hI rfl hA rfl rfl) rfl fun a hA=>?_
       refine g_easy (i:=10) hA rfl (wanted_yes hA rfl rfl hc50) (by kernel_rfl) (.inr hI) (fun _=>r_mv hA rfl) rfl fun a hA=>?_
       refine g_take (i:=11) hA rfl (wanted_yes hA rfl rfl hc50) (by kernel_rfl) hI (fun w hI=>r_rlen (xs:=0) U30 hI (j:=3) rfl hA rfl) rfl fun a hA=>?_
       refine gF 9 rfl ?_
       refine o_yes hA rfl rfl hc50<|?_
       obtain ⟨r8,hr8,H⟩:=bB H
       refine o_callp (u:=.int .i64 r8) cf11 hA rfl hI (block_Size.c μ2 _ hI.agr x0 u0_0 ⟨hx0.1,hx0.2.1,hx0.2.2.1,hx0.2.2.2.1,hx0.2.2.2.2.1,hx0.2.2.2.2.2.1,(Slc.le hx0.2.2.2.2.2.2 (fun _ _ h=>RTx.le (hi2.le.trans hi3.le) h) (hi2.le.trans hi3.le))⟩ r8 hr8) rfl fun a w hz10 hI hA=>?_
       refine o_nil<|⟨(.inr hI),?_⟩
       refine g_easy (i:=12) hA rfl (wanted_yes hA rfl rfl hc50) (by kernel_rfl) (.inr hI) (fun _=>r_eql hA rfl rfl) rfl fun a hA=>?_
       refine gE 13 hA rfl (.inr hI) (fun _=>r_pick_t hA rfl hc50 rfl) fun a hA=>?_
       refine gE 14 hA rfl (.inr hI) (fun _=>r_mv hA rfl) fun a hA=>?_
       rcases Bool.eq_false_or_eq_true (decide (r8=(r3.length:Int))) with hc6 | hc6
       ·have hc60:=hc6;obtain ⟨hc6,H⟩:=dT H hc6
        refine g_take (i:=15) hA rfl (wanted_yes hA rfl rfl hc60) (by kernel_rfl) hI (fun w hI=>r_ldA (j:=4) [] [[.int .u32 x0.Head.Version],av .u8 32 x0.Head.Prev,av .u8 32 x0.Head.Root,[.int .u32 x0.Head.Time],[.int .u32 x0.Head.Work],[.int .u32 x0.Head.Nonce],[u0_0]] [] U29 rfl sz29 rfl hI rfl hA rfl rfl) rfl fun a hA=>?_
        refine g_easy (i:=17) hA rfl (wanted_yes hA rfl rfl hc60) (by kernel_rfl) (.inr hI) (fun _=>r_fd (k:=0) U29 rfl sz26 hA rfl rfl) rfl fun a hA=>?_
        refine g_take (i:=18) hA rfl (wanted_yes hA rfl rfl hc60) (by kernel_rfl) hI (fun w hI=>r_ldA (j:=4) [] [[.int .u32 x0.Head.Version],av .u8 32 x0.Head.Prev,av .u8 32 x0.Head.Root,[.int .u32 x0.Head.Time],[.int .u32 x0.Head.Work],[.int .u32 x0.Head.Nonce]] [[u0_0]] U26 rfl sz26 rfl hI rfl hA rfl rfl) rfl fun a hA=>?_
        refine gF 16 rfl ?_
        refine o_yes hA rfl rfl hc60<|?_
        obtain ⟨r9,hr9,H⟩:=bB H
        refine o_callp (u:=.agg [av .u8 32 r9].flatten.toArray) cf13 hA rfl hI (block_ID.c μ2 _ hI.agr x0 u0_0 ⟨hx0.1,hx0.2.1,hx0.2.2.1,hx0.2.2.2.1,hx0.2.2.2.2.1,hx0.2.2.2.2.2.1,(Slc.le hx0.2.2.2.2.2.2 (fun _ _ h=>RTx.le (hi2.le.trans hi3.le) h) (hi2.le.trans hi3.le))⟩ r9 hr9) rfl fun a w hz11 hI hA=>?_
        refine o_nil<|⟨(.inr hI),?_⟩
        refine gF 19 rfl ?_
        refine o_yes hA rfl rfl hc60<|?_
        obtain ⟨r10,hr10,H⟩:=bB H
        refine o_callp (u:=.agg [av .u8 32 r10].flatten.toArray) cf14 hA rfl hI (q1_HeadID.c μ2 _ hI.agr x0.Head ⟨hx0.1,hx0.2.1,hx0.2.2.1,hx0.2.2.2.1,hx0.2.2.2.2.1,hx0.2.2.2.2.2.1⟩ r10 hr10) rfl fun a w hz12 hI hA=>?_
        refine o_nil<|⟨(.inr hI),?_⟩
        refine gF 20 rfl ?_
        refine o_yes hA rfl rfl hc60<|?_
        obtain ⟨r11,hr11,H⟩:=bB H
        refine o_callp (u:=.bool r11) cf12 hA rfl hI (q0_SameHash.c μ2 _ hI.agr r9 hz11 r10 hz12 r11 hr11) rfl fun a w hz13 hI hA=>?_
        refine o_nil<|⟨(.inr hI),?_⟩
        refine gE 21 hA rfl (.inr hI) (fun _=>r_pick_t hA rfl hc60 rfl) fun a hA=>?_
        refine gE 22 hA rfl (.inr hI) (fun _=>r_mv hA rfl) fun a hA=>?_
        rcases Bool.eq_false_or_eq_true r11 with hc7 | hc7
        ·have hc70:=hc7;have H:=bT H hc7
         refine g_take (i:=23) hA rfl (wanted_yes hA rfl rfl hc70) (by kernel_rfl) hI (fun w hI=>r_ldA (j:=4) [] [[.int .u32 x0.Head.Version],av .u8 32 x0.Head.Prev,av .u8 32 x0.Head.Root,[.int .u32 x0.Head.Time],[.int .u32 x0.Head.Work],[.int .u32 x0.Head.Nonce],[u0_0]] [] U29 rfl sz29 rfl hI rfl hA rfl rfl) rfl fun a hA=>?_
         refine g_easy (i:=25) hA rfl (wanted_yes hA rfl rfl hc70) (by kernel_rfl) (.inr hI) (fun _=>r_fd (k:=68) U29 rfl sz27 hA rfl rfl) rfl fun a hA=>?_
         refine g_take (i:=26) hA rfl (wanted_yes hA rfl rfl hc70) (by kernel_rfl) hI (fun w hI=>r_ld1 (j:=4) [[.int .u32 x0.Head.Version],av .u8 32 x0.Head.Prev,av .u8 32 x0.Head.Root,[.int .u32 x0.Head.Time],[.int .u32 x0.Head.Work],[.int .u32 x0.Head.Nonce]] [] U27 rfl hI rfl hA rfl rfl) rfl fun a hA=>?_
         refine gF 24 rfl ?_
         refine o_yes hA rfl rfl hc70<|?_
         obtain ⟨r12,hr12,H⟩:=bB H
         refine o_callp (u:=.agg [av .u8 32 r12].flatten.toArray) cf15 hA rfl hI (block_Root.c μ2 _ hI.agr x0 u0_0 ⟨hx0.1,hx0.2.1,hx0.2.2.1,hx0.2.2.2.1,hx0.2.2.2.2.1,hx0.2.2.2.2.2.1,(Slc.le hx0.2.2.2.2.2.2 (fun _ _ h=>RTx.le (hi2.le.trans hi3.le) h) (hi2.le.trans hi3.le))⟩ r12 hr12) rfl fun a w hz14 hI hA=>?_
         refine o_nil<|⟨(.inr hI),?_⟩
         refine gF 27 rfl ?_
         refine o_yes hA rfl rfl hc70<|?_
         obtain ⟨r13,hr13,H⟩:=bB H
         refine o_call _ cf17 hA rfl (q1_IDs.c μ2 _ hI.agr x0.Txs u0_0 (Slc.le hx0.2.2.2.2.2.2 (fun _ _ h=>RTx.le (hi2.le.trans hi3.le) h) (hi2.le.trans hi3.le)) r13 hr13) rfl fun v8 a w hz15 hA=>?_
         obtain ⟨_,cs3,rfl,hE3,hi5⟩:=hz15
         have hI:=hI.call hi5
         refine o_nil<|⟨(.inr (hI.sl [1,2,3,4,5] rfl)),?_⟩
         refine gF 28 rfl ?_
         refine o_yes hA rfl rfl hc70<|?_
         obtain ⟨r14,hr14,H⟩:=bB H
         refine o_callp (u:=.agg [av .u8 32 r14].flatten.toArray) cf16 hA rfl hI ((by obtain ⟨μ6,hle4,hsv3,hI⟩:=hI.freezeRow 0 rfl;have hS4:Slc (RA .u8 32) 32 μ6 v8 r13:=⟨_,hE3,hsv3⟩;exact low_plain hle4 (q1_Root.c μ6 _ hI.agr r13 v8 hS4 r14 hr14))) rfl fun a w hz16 hI hA=>?_
         refine o_nil<|⟨(.inr (hI.sl [1,2,3,4,5] rfl)),?_⟩
         refine gF 29 rfl ?_
         refine o_yes hA rfl rfl hc70<|?_
         obtain ⟨r15,hr15,H⟩:=bB H
         refine o_callp (u:=.bool r15) cf12 hA rfl hI (q0_SameHash.c μ2 _ hI.agr r12 hz14 r14 hz16 r15 hr15) rfl fun a w hz17 hI hA=>?_
         refine o_nil<|⟨(.inr (hI.sl [1,2,3,4,5] rfl)),?_⟩
         refine gE 30 hA rfl (.inr (hI.sl [1,2,3,4,5] rfl)) (fun _=>r_pick_t hA rfl hc70 rfl) fun a hA=>?_
         refine gE 31 hA rfl (.inr (hI.sl [1,2,3,4,5] rfl)) (fun _=>r_mv hA rfl) fun a hA=>?_
         rcases Bool.eq_false_or_eq_true r15 with hc8 | hc8
         ·have hc80:=hc8;have H:=bT H hc8
          refine g_mono (I':=fun w=>Iv w0 [] μ μ2 [row 24 32 v8 r13.length cs3,row 5 1 v7 r6.length cs2,cel g3 [[.int .u32 r5.1.Head.Version],av .u8 32 r5.1.Head.Prev,av .u8 32 r5.1.Head.Root,[.int .u32 r5.1.Head.Time],[.int .u32 r5.1.Head.Work],[.int .u32 r5.1.Head.Nonce],[v6]] 29,cel g2 [[.int .u32 r4.1.Head.Version],av .u8 32 r4.1.Head.Prev,av .u8 32 r4.1.Head.Root,[.int .u32 r4.1.Head.Time],[.int .u32 r4.1.Head.Work],[.int .u32 r4.1.Head.Nonce],[v3]] 29,row 5 1 v1 r3.length cs1,cel g1 [[.int .u32 x0.Head.Version],av .u8 32 x0.Head.Prev,av .u8 32 x0.Head.Root,[.int .u32 x0.Head.Time],[.int .u32 x0.Head.Work],[.int .u32 x0.Head.Nonce],[u0_0]] 29] w) (fun w h=>(h.sl [1,2,3,4,5] rfl)) _ _ _ _ ?_
          refine g_take (i:=32) hA rfl (wanted_yes hA rfl rfl hc80) (by kernel_rfl) hI (fun w hI=>r_ldA (j:=5) [] [[.int .u32 x0.Head.Version],av .u8 32 x0.Head.Prev,av .u8 32 x0.Head.Root,[.int .u32 x0.Head.Time],[.int .u32 x0.Head.Work],[.int .u32 x0.Head.Nonce],[u0_0]] [] U29 rfl sz29 rfl hI rfl hA rfl rfl) rfl fun a hA=>?_
          refine g_easy (i:=34) hA rfl (wanted_yes hA rfl rfl hc80) (by kernel_rfl) (.inr hI) (fun _=>r_fd (k:=68) U29 rfl sz27 hA rfl rfl) rfl fun a hA=>?_
          refine g_take (i:=35) hA rfl (wanted_yes hA rfl rfl hc80) (by kernel_rfl) hI (fun w hI=>r_ld1 (j:=5) [[.int .u32 x0.Head.Version],av .u8 32 x0.Head.Prev,av .u8 32 x0.Head.Root,[.int .u32 x0.Head.Time],[.int .u32 x0.Head.Work],[.int .u32 x0.Head.Nonce]] [] U27 rfl hI rfl hA rfl rfl) rfl fun a hA=>?_
          refine gF 33 rfl ?_
          refine o_yes hA rfl rfl hc80<|?_
          obtain ⟨r16,hr16,H⟩:=bB H
          refine o_call _ cf19 hA rfl (block_IDs.c μ2 _ hI.agr x0 u0_0 ⟨hx0.1,hx0.2.1,hx0.2.2.1,hx0.2.2.2.1,hx0.2.2.2.2.1,hx0.2.2.2.2.2.1,(Slc.le hx0.2.2.2.2.2.2 (fun _ _ h=>RTx.le (hi2.le.trans hi3.le) h) (hi2.le.trans hi3.le))⟩ r16 hr16) rfl fun v9 a w hz18 hA=>?_
          obtain ⟨_,cs4,rfl,hE4,hi6⟩:=hz18
          have hI:=hI.call hi6
          refine o_nil<|⟨(.inr (hI.sl [1,2,3,4,5,6] rfl)),?_⟩
          refine gF 36 rfl ?_
          refine o_yes hA rfl rfl hc80<|?_
          obtain ⟨r17,hr17,H⟩:=bB H
          refine o_call _ cf17 hA rfl (q1_IDs.c μ2 _ hI.agr x0.Txs u0_0 (Slc.le hx0.2.2.2.2.2.2 (fun _ _ h=>RTx.le (hi2.le.trans hi3.le) h) (hi2.le.trans hi3.le)) r17 hr17) rfl fun v10 a w hz19 hA=>?_
          obtain ⟨_,cs5,rfl,hE5,hi7⟩:=hz19
          have hI:=hI.call hi7
          refine o_nil<|⟨(.inr (hI.sl [2,3,4,5,6,7] rfl)),?_⟩
          refine gF 37 rfl ?_
          refine o_yes hA rfl rfl hc80<|?_
          obtain ⟨r18,hr18,H⟩:=bB H
          refine o_callp (u:=.bool r18) cf18 hA rfl hI ((by obtain ⟨μ7,hle5,hsv4,hI⟩:=hI.freezeRow 1 rfl;have hS5:Slc (RA .u8 32) 32 μ7 v9 r16:=⟨_,hE4,hsv4⟩;obtain ⟨μ8,hle6,hsv5,hI⟩:=hI.freezeRow 0 rfl;have hS6:Slc (RA .u8 32) 32 μ8 v10 r17:=⟨_,hE5,hsv5⟩;exact low_plain (hle5.trans hle6) (q0_SameHashes.c μ8 _ hI.agr r16 v9 (Slc.le hS5 (fun _ _ h=>h) hle6) r17 v10 hS6 r18 hr18))) rfl fun a w hz20 hI hA=>?_
          refine o_nil<|⟨(.inr (hI.sl [2,3,4,5,6,7] rfl)),?_⟩
          refine gE 38 hA rfl (.inr (hI.sl [2,3,4,5,6,7] rfl)) (fun _=>r_pick_t hA rfl hc80 rfl) fun a hA=>?_
          refine gE 39 hA rfl (.inr (hI.sl [2,3,4,5,6,7] rfl)) (fun _=>r_mv hA rfl) fun a hA=>?_
          rcases Bool.eq_false_or_eq_true r18 with hc9 | hc9
          ·have hc90:=hc9;have H:=bT H hc9
           refine g_mono (I':=fun w=>Iv w0 [] μ μ2 [row 24 32 v10 r17.length cs5,row 24 32 v9 r16.length cs4,row 24 32 v8 r13.length cs3,row 5 1 v7 r6.length cs2,cel g3 [[.int .u32 r5.1.Head.Version],av .u8 32 r5.1.Head.Prev,av .u8 32 r5.1.Head.Root,[.int .u32 r5.1.Head.Time],[.int .u32 r5.1.Head.Work],[.int .u32 r5.1.Head.Nonce],[v6]] 29,cel g2 [[.int .u32 r4.1.Head.Version],av .u8 32 r4.1.Head.Prev,av .u8 32 r4.1.Head.Root,[.int .u32 r4.1.Head.Time],[.int .u32 r4.1.Head.Work],[.int .u32 r4.1.Head.Nonce],[v3]] 29,row 5 1 v1 r3.length cs1,cel g1 [[.int .u32 x0.Head.Version],av .u8 32 x0.Head.Prev,av .u8 32 x0.Head.Root,[.int .u32 x0.Head.Time],[.int .u32 x0.Head.Work],[.int .u32 x0.Head.Nonce],[u0_0]] 29] w) (fun w h=>(h.sl [2,3,4,5,6,7] rfl)) _ _ _ _ ?_
           refine g_take (i:=40) hA rfl (wanted_yes hA rfl rfl hc90) (by kernel_rfl) hI (fun w hI=>r_ldA (j:=7) [] [[.int .u32 x0.Head.Version],av .u8 32 x0.Head.Prev,av .u8 32 x0.Head.Root,[.int .u32 x0.Head.Time],[.int .u32 x0.Head.Work],[.int .u32 x0.Head.Nonce],[u0_0]] [] U29 rfl sz29 rfl hI rfl hA rfl rfl) rfl fun a hA=>?_
           refine g_take (i:=42) hA rfl (wanted_yes hA rfl rfl hc90) (by kernel_rfl) hI (fun w hI=>r_ldA (j:=7) [] [[.int .u32 x0.Head.Version],av .u8 32 x0.Head.Prev,av .u8 32 x0.Head.Root,[.int .u32 x0.Head.Time],[.int .u32 x0.Head.Work],[.int .u32 x0.Head.Nonce],[u0_0]] [] U29 rfl sz29 rfl hI rfl hA rfl rfl) rfl fun a hA=>?_
           refine gF 41 rfl ?_
           refine o_yes hA rfl rfl hc90<|?_
           obtain ⟨r19,hr19,H⟩:=bB H
           refine o_call _ cf21 hA rfl (block_Check.c μ2 _ hI.agr x0 u0_0 ⟨hx0.1,hx0.2.1,hx0.2.2.1,hx0.2.2.2.1,hx0.2.2.2.2.1,hx0.2.2.2.2.2.1,(Slc.le hx0.2.2.2.2.2.2 (fun _ _ h=>RTx.le (hi2.le.trans hi3.le) h) (hi2.le.trans hi3.le))⟩ e1 (ErV.le (fun _ _ h=>h) (hi2.le.trans hi3.le) he1) e2 (ErV.le (fun _ _ h=>h) (hi2.le.trans hi3.le) he2) e3 (ErV.le (fun _ _ h=>h) (hi2.le.trans hi3.le) he3) e4 (ErV.le (fun _ _ h=>h) (hi2.le.trans hi3.le) he4) e5 (ErV.le (fun _ _ h=>h) (hi2.le.trans hi3.le) he5) e6 (ErV.le (fun _ _ h=>h) (hi2.le.trans hi3.le) he6) e7 (ErV.le (fun _ _ h=>h) (hi2.le.trans hi3.le) he7) e8 (ErV.le (fun _ _ h=>h) (hi2.le.trans hi3.le) he8) r19 hr19) rfl fun v11 a w hz21 hA=>?_
           obtain ⟨_,μ9,rfl,hS7,hi8⟩:=hz21
           have hI:=hI.call hi8
           refine o_nil<|⟨(.inr (hI.less (hi2.le.trans hi3.le) hi8.le)),?_⟩
           refine gF 43 rfl ?_
           refine o_yes hA rfl rfl hc90<|?_
           obtain ⟨r20,hr20,H⟩:=bB H
           refine o_callp (u:=.agg [[.int .i64 r20.Code],[.bool r20.Placed],[.int .i64 r20.Pos],[.bool r20.Outer],[.int .i64 r20.At]].flatten.toArray) cf22 hA rfl hI (q1_CheckBlock.c μ9 _ hI.agr x0 u0_0 ⟨hx0.1,hx0.2.1,hx0.2.2.1,hx0.2.2.2.1,hx0.2.2.2.2.1,hx0.2.2.2.2.2.1,(Slc.le hx0.2.2.2.2.2.2 (fun _ _ h=>RTx.le ((hi2.le.trans hi3.le).trans hi8.le) h) ((hi2.le.trans hi3.le).trans hi8.le))⟩ r20 hr20) rfl fun a w hz22 hI hA=>?_
           refine o_nil<|⟨(.inr (hI.less (hi2.le.trans hi3.le) hi8.le)),?_⟩
           refine gF 44 rfl ?_
           refine o_yes hA rfl rfl hc90<|?_
           obtain ⟨r21,hr21,H⟩:=bB H
           refine o_callp (u:=.bool r21) cf20 hA rfl hI (q2_Same.c μ9 _ hI.agr r19 v11 hS7 r20 ⟨hz22.1,hz22.2.1,hz22.2.2⟩ (Gl.le ((hi2.le.trans hi3.le).trans hi8.le) hG) r21 hr21) rfl fun a w hz23 hI hA=>?_
           refine o_nil<|⟨(.inr (hI.less (hi2.le.trans hi3.le) hi8.le)),?_⟩
           refine gE 45 hA rfl (.inr (hI.less (hi2.le.trans hi3.le) hi8.le)) (fun _=>r_pick_t hA rfl hc90 rfl) fun a hA=>?_
           refine gE 46 hA rfl (.inr (hI.less (hi2.le.trans hi3.le) hi8.le)) (fun _=>r_mv hA rfl) fun a hA=>?_
           rcases Bool.eq_false_or_eq_true r21 with hc10 | hc10
           ·have hc100:=hc10;have H:=bT H hc10
            refine g_mono (I':=fun w=>Iv w0 [] μ μ9 [row 24 32 v10 r17.length cs5,row 24 32 v9 r16.length cs4,row 24 32 v8 r13.length cs3,row 5 1 v7 r6.length cs2,cel g3 [[.int .u32 r5.1.Head.Version],av .u8 32 r5.1.Head.Prev,av .u8 32 r5.1.Head.Root,[.int .u32 r5.1.Head.Time],[.int .u32 r5.1.Head.Work],[.int .u32 r5.1.Head.Nonce],[v6]] 29,cel g2 [[.int .u32 r4.1.Head.Version],av .u8 32 r4.1.Head.Prev,av .u8 32 r4.1.Head.Root,[.int .u32 r4.1.Head.Time],[.int .u32 r4.1.Head.Work],[.int .u32 r4.1.Head.Nonce],[v3]] 29,row 5 1 v1 r3.length cs1,cel g1 [[.int .u32 x0.Head.Version],av .u8 32 x0.Head.Prev,av .u8 32 x0.Head.Root,[.int .u32 x0.Head.Time],[.int .u32 x0.Head.Work],[.int .u32 x0.Head.Nonce],[u0_0]] 29] w) (fun w h=>(h.less (hi2.le.trans hi3.le) hi8.le)) _ _ _ _ ?_
            refine g_take (i:=47) hA rfl (wanted_yes hA rfl rfl hc100) (by kernel_rfl) hI (fun w hI=>r_ldA (j:=5) [] [[.int .u32 r4.1.Head.Version],av .u8 32 r4.1.Head.Prev,av .u8 32 r4.1.Head.Root,[.int .u32 r4.1.Head.Time],[.int .u32 r4.1.Head.Work],[.int .u32 r4.1.Head.Nonce],[v3]] [] U29 rfl sz29 rfl hI rfl hA rfl rfl) rfl fun a hA=>?_
            refine g_take (i:=48) hA rfl (wanted_yes hA rfl rfl hc100) (by kernel_rfl) hI (fun w hI=>r_ldA (j:=4) [] [[.int .u32 r5.1.Head.Version],av .u8 32 r5.1.Head.Prev,av .u8 32 r5.1.Head.Root,[.int .u32 r5.1.Head.Time],[.int .u32 r5.1.Head.Work],[.int .u32 r5.1.Head.Nonce],[v6]] [] U29 rfl sz29 rfl hI rfl hA rfl rfl) rfl fun a hA=>?_
            refine gF 49 rfl ?_
            refine o_yes hA rfl rfl hc100<|?_
            obtain ⟨r22,hr22,H⟩:=bB H
            refine o_callp (u:=.bool r22) cf23 hA rfl hI (q0_SameBlock.c μ9 _ hI.agr r4.1 v3 ⟨hw1.1,hw1.2.1,hw1.2.2.1,hw1.2.2.2.1,hw1.2.2.2.2.1,hw1.2.2.2.2.2.1,(Slc.le hw1.2.2.2.2.2.2 (fun _ _ h=>RTx.le (hi3.le.trans hi8.le) h) (hi3.le.trans hi8.le))⟩ r5.1 v6 ⟨hw2.1,hw2.2.1,hw2.2.2.1,hw2.2.2.2.1,hw2.2.2.2.2.1,hw2.2.2.2.2.2.1,(Slc.le hw2.2.2.2.2.2.2 (fun _ _ h=>RTx.le hi8.le h) hi8.le)⟩ r22 hr22) rfl fun a w hz24 hI hA=>?_
            refine o_nil<|⟨(.inr hI),?_⟩
            refine gE 50 hA rfl (.inr hI) (fun _=>r_pick_t hA rfl hc100 rfl) fun a hA=>?_
            refine gE 51 hA rfl (.inr hI) (fun _=>r_mv hA rfl) fun a hA=>?_
            rcases Bool.eq_false_or_eq_true r22 with hc11 | hc11
            ·have hc110:=hc11;have H:=bT H hc11
             refine g_easy (i:=52) hA rfl (wanted_yes hA rfl rfl hc110) (by kernel_rfl) (.inr hI) (fun _=>r_mv hA rfl) rfl fun a hA=>?_
             refine g_easy (i:=53) hA rfl (wanted_yes hA rfl rfl hc110) (by kernel_rfl) (.inr hI) (fun _=>r_mv hA rfl) rfl fun a hA=>?_
             refine gF 54 rfl ?_
             refine o_yes hA rfl rfl hc110<|?_
             obtain ⟨r23,hr23,H⟩:=bB H
             refine o_callp (u:=.bool r23) cf24 hA rfl hI (q2_Is.c μ9 _ hI.agr r4.2 v4 (ErV.le (fun _ _ h=>h) (hi3.le.trans hi8.le) hS1) r5.2 hw3 (Gl.le ((hi2.le.trans hi3.le).trans hi8.le) hG) r23 hr23) rfl fun a w hz25 hI hA=>?_
             refine o_nil<|⟨(.inr hI),?_⟩
             refine gE 55 hA rfl (.inr hI) (fun _=>r_pick_t hA rfl hc110 rfl) fun a hA=>?_
             refine gE 56 hA rfl (.inr hI) (fun _=>r_mv hA rfl) fun a hA=>?_
             rcases Bool.eq_false_or_eq_true r23 with hc12 | hc12
             ·have hc120:=hc12;have H:=bT H hc12
              refine g_take (i:=57) hA rfl (wanted_yes hA rfl rfl hc120) (by kernel_rfl) hI (fun w hI=>r_ldA (j:=7) [] [[.int .u32 x0.Head.Version],av .u8 32 x0.Head.Prev,av .u8 32 x0.Head.Root,[.int .u32 x0.Head.Time],[.int .u32 x0.Head.Work],[.int .u32 x0.Head.Nonce],[u0_0]] [] U29 rfl sz29 rfl hI rfl hA rfl rfl) rfl fun a hA=>?_
              refine g_take (i:=59) hA rfl (wanted_yes hA rfl rfl hc120) (by kernel_rfl) hI (fun w hI=>r_ldA (j:=7) [] [[.int .u32 x0.Head.Version],av .u8 32 x0.Head.Prev,av .u8 32 x0.Head.Root,[.int .u32 x0.Head.Time],[.int .u32 x0.Head.Work],[.int .u32 x0.Head.Nonce],[u0_0]] [] U29 rfl sz29 rfl hI rfl hA rfl rfl) rfl fun a hA=>?_
              refine gF 58 rfl ?_
              refine o_yes hA rfl rfl hc120<|?_
              obtain ⟨r24,hr24,H⟩:=bB H
              refine o_call _ cf25 hA rfl (block_Clone.c μ9 _ hI.agr x0 u0_0 ⟨hx0.1,hx0.2.1,hx0.2.2.1,hx0.2.2.2.1,hx0.2.2.2.2.1,hx0.2.2.2.2.2.1,(Slc.le hx0.2.2.2.2.2.2 (fun _ _ h=>RTx.le ((hi2.le.trans hi3.le).trans hi8.le) h) ((hi2.le.trans hi3.le).trans hi8.le))⟩ r24 hr24) rfl fun v12 a w hz26 hA=>?_
              obtain ⟨v13,μ10,rfl,hw4,hi9⟩:=hz26
              have hI:=hI.call hi9
              refine o_nil<|⟨(.inr (hI.less ((hi2.le.trans hi3.le).trans hi8.le) hi9.le)),?_⟩
              refine gF 60 rfl ?_
              refine o_yes hA rfl rfl hc120<|?_
              obtain ⟨r25,hr25,H⟩:=bB H
              refine o_callp (u:=.bool r25) cf23 hA rfl hI (q0_SameBlock.c μ10 _ hI.agr r24 v13 ⟨hw4.1,hw4.2.1,hw4.2.2.1,hw4.2.2.2.1,hw4.2.2.2.2.1,hw4.2.2.2.2.2.1,hw4.2.2.2.2.2.2⟩ x0 u0_0 ⟨hx0.1,hx0.2.1,hx0.2.2.1,hx0.2.2.2.1,hx0.2.2.2.2.1,hx0.2.2.2.2.2.1,(Slc.le hx0.2.2.2.2.2.2 (fun _ _ h=>RTx.le (((hi2.le.trans hi3.le).trans hi8.le).trans hi9.le) h) (((hi2.le.trans hi3.le).trans hi8.le).trans hi9.le))⟩ r25 hr25) rfl fun a w hz27 hI hA=>?_
              refine o_nil<|⟨(.inr (hI.less ((hi2.le.trans hi3.le).trans hi8.le) hi9.le)),?_⟩
              refine gE 61 hA rfl (.inr (hI.less ((hi2.le.trans hi3.le).trans hi8.le) hi9.le)) (fun _=>r_pick_t hA rfl hc120 rfl) fun a hA=>?_
              refine gE 62 hA rfl (.inr (hI.less ((hi2.le.trans hi3.le).trans hi8.le) hi9.le)) (fun _=>r_as hA rfl) fun a hA=>?_
              refine gN ?_
              cases sJ H
              exact ⟨μ10,(hi8.le.trans hi9.le),hA.sub ⟨rfl,trivial⟩,(hI.sl [4,5,6,7] rfl)⟩
             ·have hc120:=hc12;have hc12:=ft hc12;have H:=bF H hc12
              refine g_skip (i:=57) hA rfl (wanted_no hA rfl rfl (by rw [hc120];simp [vb])) (by kernel_rfl) (.inr hI) rfl fun a hA=>?_
              refine g_skip (i:=59) hA rfl (wanted_no hA rfl rfl (by rw [hc120];simp [vb])) (by kernel_rfl) (.inr hI) rfl fun a hA=>?_
              refine g_skip (i:=58) hA rfl (wanted_no hA rfl rfl (by rw [hc120];simp [vb])) (by kernel_rfl) (.inr hI) rfl fun a hA=>?_
              refine g_skip (i:=60) hA rfl (wanted_no hA rfl rfl (by rw [hc120];simp [vb])) (by kernel_rfl) (.inr hI) rfl fun a hA=>?_
              refine gE 61 hA rfl (.inr hI) (fun _=>r_pick_f hA rfl hc120 rfl) fun a hA=>?_
              refine gE 62 hA rfl (.inr hI) (fun _=>r_as hA rfl) fun a hA=>?_
              refine gN ?_
              cases sJ H
              exact ⟨μ9,hi8.le,hA.sub ⟨rfl,trivial⟩,(hI.sl [4,5,6,7] rfl)⟩
            ·have hc110:=hc11;have hc11:=ft hc11;have H:=bF H hc11
             refine g_skip (i:=52) hA rfl (wanted_no hA rfl rfl (by rw [hc110];simp [vb])) (by kernel_rfl) (.inr hI) rfl fun a hA=>?_
             refine g_skip (i:=53) hA rfl (wanted_no hA rfl rfl (by rw [hc110];simp [vb])) (by kernel_rfl) (.inr hI) rfl fun a hA=>?_
             refine g_skip (i:=54) hA rfl (wanted_no hA rfl rfl (by rw [hc110];simp [vb])) (by kernel_rfl) (.inr hI) rfl fun a hA=>?_
             refine gE 55 hA rfl (.inr hI) (fun _=>r_pick_f hA rfl hc110 rfl) fun a hA=>?_
             refine gE 56 hA rfl (.inr hI) (fun _=>r_mv hA rfl) fun a hA=>?_
             refine g_skip (i:=57) hA rfl (wanted_no hA rfl rfl (by simp [vb])) (by kernel_rfl) (.inr hI) rfl fun a hA=>?_
             refine g_skip (i:=59) hA rfl (wanted_no hA rfl rfl (by simp [vb])) (by kernel_rfl) (.inr hI) rfl fun a hA=>?_
             refine g_skip (i:=58) hA rfl (wanted_no hA rfl rfl (by simp [vb])) (by kernel_rfl) (.inr hI) rfl fun a hA=>?_
             refine g_skip (i:=60) hA rfl (wanted_no hA rfl rfl (by simp [vb])) (by kernel_rfl) (.inr hI) rfl fun a hA=>?_
             refine gE 61 hA rfl (.inr hI) (fun _=>r_pick_f hA rfl rfl rfl) fun a hA=>?_
             refine gE 62 hA rfl (.inr hI) (fun _=>r_as hA rfl) fun a hA=>?_
             refine gN ?_
             cases sJ H
             exact ⟨μ9,hi8.le,hA.sub ⟨rfl,trivial⟩,(hI.sl [4,5,6,7] rfl)⟩
           ·have hc100:=hc10;have hc10:=ft hc10;have H:=bF H hc10
            refine g_skip (i:=47) hA rfl (wanted_no hA rfl rfl (by rw [hc100];simp [vb])) (by kernel_rfl) (.inr (hI.less (hi2.le.trans hi3.le) hi8.le)) rfl fun a hA=>?_
            refine g_skip (i:=48) hA rfl (wanted_no hA rfl rfl (by rw [hc100];simp [vb])) (by kernel_rfl) (.inr (hI.less (hi2.le.trans hi3.le) hi8.le)) rfl fun a hA=>?_
            refine g_skip (i:=49) hA rfl (wanted_no hA rfl rfl (by rw [hc100];simp [vb])) (by kernel_rfl) (.inr (hI.less (hi2.le.trans hi3.le) hi8.le)) rfl fun a hA=>?_
            refine gE 50 hA rfl (.inr (hI.less (hi2.le.trans hi3.le) hi8.le)) (fun _=>r_pick_f hA rfl hc100 rfl) fun a hA=>?_
            refine gE 51 hA rfl (.inr (hI.less (hi2.le.trans hi3.le) hi8.le)) (fun _=>r_mv hA rfl) fun a hA=>?_
            refine g_skip (i:=52) hA rfl (wanted_no hA rfl rfl (by simp [vb])) (by kernel_rfl) (.inr (hI.less (hi2.le.trans hi3.le) hi8.le)) rfl fun a hA=>?_
            refine g_skip (i:=53) hA rfl (wanted_no hA rfl rfl (by simp [vb])) (by kernel_rfl) (.inr (hI.less (hi2.le.trans hi3.le) hi8.le)) rfl fun a hA=>?_
            refine g_skip (i:=54) hA rfl (wanted_no hA rfl rfl (by simp [vb])) (by kernel_rfl) (.inr (hI.less (hi2.le.trans hi3.le) hi8.le)) rfl fun a hA=>?_
            refine gE 55 hA rfl (.inr (hI.less (hi2.le.trans hi3.le) hi8.le)) (fun _=>r_pick_f hA rfl rfl rfl) fun a hA=>?_
            refine gE 56 hA rfl (.inr (hI.less (hi2.le.trans hi3.le) hi8.le)) (fun _=>r_mv hA rfl) fun a hA=>?_
            refine g_skip (i:=57) hA rfl (wanted_no hA rfl rfl (by simp [vb])) (by kernel_rfl) (.inr (hI.less (hi2.le.trans hi3.le) hi8.le)) rfl fun a hA=>?_
            refine g_skip (i:=59) hA rfl (wanted_no hA rfl rfl (by simp [vb])) (by kernel_rfl) (.inr (hI.less (hi2.le.trans hi3.le) hi8.le)) rfl fun a hA=>?_
            refine g_skip (i:=58) hA rfl (wanted_no hA rfl rfl (by simp [vb])) (by kernel_rfl) (.inr (hI.less (hi2.le.trans hi3.le) hi8.le)) rfl fun a hA=>?_
            refine g_skip (i:=60) hA rfl (wanted_no hA rfl rfl (by simp [vb])) (by kernel_rfl) (.inr (hI.less (hi2.le.trans hi3.le) hi8.le)) rfl fun a hA=>?_
            refine gE 61 hA rfl (.inr (hI.less (hi2.le.trans hi3.le) hi8.le)) (fun _=>r_pick_f hA rfl rfl rfl) fun a hA=>?_
            refine gE 62 hA rfl (.inr (hI.less (hi2.le.trans hi3.le) hi8.le)) (fun _=>r_as hA rfl) fun a hA=>?_
            refine gN ?_
            cases sJ H
            exact ⟨μ9,hi8.le,hA.sub ⟨rfl,trivial⟩,(hI.sl [4,5,6,7] rfl)⟩
          ·have hc90:=hc9;have hc9:=ft hc9;have H:=bF H hc9
           refine g_skip (i:=40) hA rfl (wanted_no hA rfl rfl (by rw [hc90];simp [vb])) (by kernel_rfl) (.inr (hI.sl [2,3,4,5,6,7] rfl)) rfl fun a hA=>?_
           refine g_skip (i:=42) hA rfl (wanted_no hA rfl rfl (by rw [hc90];simp [vb])) (by kernel_rfl) (.inr (hI.sl [2,3,4,5,6,7] rfl)) rfl fun a hA=>?_
           refine g_skip (i:=41) hA rfl (wanted_no hA rfl rfl (by rw [hc90];simp [vb])) (by kernel_rfl) (.inr (hI.sl [2,3,4,5,6,7] rfl)) rfl fun a hA=>?_
           refine g_skip (i:=43) hA rfl (wanted_no hA rfl rfl (by rw [hc90];simp [vb])) (by kernel_rfl) (.inr (hI.sl [2,3,4,5,6,7] rfl)) rfl fun a hA=>?_
           refine g_skip (i:=44) hA rfl (wanted_no hA rfl rfl (by rw [hc90];simp [vb])) (by kernel_rfl) (.inr (hI.sl [2,3,4,5,6,7] rfl)) rfl fun a hA=>?_
           refine gE 45 hA rfl (.inr (hI.sl [2,3,4,5,6,7] rfl)) (fun _=>r_pick_f hA rfl hc90 rfl) fun a hA=>?_
           refine gE 46 hA rfl (.inr (hI.sl [2,3,4,5,6,7] rfl)) (fun _=>r_mv hA rfl) fun a hA=>?_
           refine g_skip (i:=47) hA rfl (wanted_no hA rfl rfl (by simp [vb])) (by kernel_rfl) (.inr (hI.sl [2,3,4,5,6,7] rfl)) rfl fun a hA=>?_
           refine g_skip (i:=48) hA rfl (wanted_no hA rfl rfl (by simp [vb])) (by kernel_rfl) (.inr (hI.sl [2,3,4,5,6,7] rfl)) rfl fun a hA=>?_
           refine g_skip (i:=49) hA rfl (wanted_no hA rfl rfl (by simp [vb])) (by kernel_rfl) (.inr (hI.sl [2,3,4,5,6,7] rfl)) rfl fun a hA=>?_
           refine gE 50 hA rfl (.inr (hI.sl [2,3,4,5,6,7] rfl)) (fun _=>r_pick_f hA rfl rfl rfl) fun a hA=>?_
           refine gE 51 hA rfl (.inr (hI.sl [2,3,4,5,6,7] rfl)) (fun _=>r_mv hA rfl) fun a hA=>?_
           refine g_skip (i:=52) hA rfl (wanted_no hA rfl rfl (by simp [vb])) (by kernel_rfl) (.inr (hI.sl [2,3,4,5,6,7] rfl)) rfl fun a hA=>?_
           refine g_skip (i:=53) hA rfl (wanted_no hA rfl rfl (by simp [vb])) (by kernel_rfl) (.inr (hI.sl [2,3,4,5,6,7] rfl)) rfl fun a hA=>?_
           refine g_skip (i:=54) hA rfl (wanted_no hA rfl rfl (by simp [vb])) (by kernel_rfl) (.inr (hI.sl [2,3,4,5,6,7] rfl)) rfl fun a hA=>?_
           refine gE 55 hA rfl (.inr (hI.sl [2,3,4,5,6,7] rfl)) (fun _=>r_pick_f hA rfl rfl rfl) fun a hA=>?_
           refine gE 56 hA rfl (.inr (hI.sl [2,3,4,5,6,7] rfl)) (fun _=>r_mv hA rfl) fun a hA=>?_
           refine g_skip (i:=57) hA rfl (wanted_no hA rfl rfl (by simp [vb])) (by kernel_rfl) (.inr (hI.sl [2,3,4,5,6,7] rfl)) rfl fun a hA=>?_
           refine g_skip (i:=59) hA rfl (wanted_no hA rfl rfl (by simp [vb])) (by kernel_rfl) (.inr (hI.sl [2,3,4,5,6,7] rfl)) rfl fun a hA=>?_
           refine g_skip (i:=58) hA rfl (wanted_no hA rfl rfl (by simp [vb])) (by kernel_rfl) (.inr (hI.sl [2,3,4,5,6,7] rfl)) rfl fun a hA=>?_
           refine g_skip (i:=60) hA rfl (wanted_no hA rfl rfl (by simp [vb])) (by kernel_rfl) (.inr (hI.sl [2,3,4,5,6,7] rfl)) rfl fun a hA=>?_
           refine gE 61 hA rfl (.inr (hI.sl [2,3,4,5,6,7] rfl)) (fun _=>r_pick_f hA rfl rfl rfl) fun a hA=>?_
           refine gE 62 hA rfl (.inr (hI.sl [2,3,4,5,6,7] rfl)) (fun _=>r_as hA rfl) fun a hA=>?_
           refine gN ?_
           cases sJ H
           exact ⟨μ2,(Store.le.refl _),hA.sub ⟨rfl,trivial⟩,(hI.sl [4,5,6,7] rfl)⟩
         ·have hc80:=hc8;have hc8:=ft hc8;have H:=bF H hc8
          refine g_skip (i:=32) hA rfl (wanted_no hA rfl rfl (by rw [hc80];simp [vb])) (by kernel_rfl) (.inr (hI.sl [1,2,3,4,5] rfl)) rfl fun a hA=>?_
          refine g_skip (i:=34) hA rfl (wanted_no hA rfl rfl (by rw [hc80];simp [vb])) (by kernel_rfl) (.inr (hI.sl [1,2,3,4,5] rfl)) rfl fun a hA=>?_
          refine g_skip (i:=35) hA rfl (wanted_no hA rfl rfl (by rw [hc80];simp [vb])) (by kernel_rfl) (.inr (hI.sl [1,2,3,4,5] rfl)) rfl fun a hA=>?_
          refine g_skip (i:=33) hA rfl (wanted_no hA rfl rfl (by rw [hc80];simp [vb])) (by kernel_rfl) (.inr (hI.sl [1,2,3,4,5] rfl)) rfl fun a hA=>?_
          refine g_skip (i:=36) hA rfl (wanted_no hA rfl rfl (by rw [hc80];simp [vb])) (by kernel_rfl) (.inr (hI.sl [1,2,3,4,5] rfl)) rfl fun a hA=>?_
          refine g_skip (i:=37) hA rfl (wanted_no hA rfl rfl (by rw [hc80];simp [vb])) (by kernel_rfl) (.inr (hI.sl [1,2,3,4,5] rfl)) rfl fun a hA=>?_
          refine gE 38 hA rfl (.inr (hI.sl [1,2,3,4,5] rfl)) (fun _=>r_pick_f hA rfl hc80 rfl) fun a hA=>?_
          refine gE 39 hA rfl (.inr (hI.sl [1,2,3,4,5] rfl)) (fun _=>r_mv hA rfl) fun a hA=>?_
          refine g_skip (i:=40) hA rfl (wanted_no hA rfl rfl (by simp [vb])) (by kernel_rfl) (.inr (hI.sl [1,2,3,4,5] rfl)) rfl fun a hA=>?_
          refine g_skip (i:=42) hA rfl (wanted_no hA rfl rfl (by simp [vb])) (by kernel_rfl) (.inr (hI.sl [1,2,3,4,5] rfl)) rfl fun a hA=>?_
          refine g_skip (i:=41) hA rfl (wanted_no hA rfl rfl (by simp [vb])) (by kernel_rfl) (.inr (hI.sl [1,2,3,4,5] rfl)) rfl fun a hA=>?_
          refine g_skip (i:=43) hA rfl (wanted_no hA rfl rfl (by simp [vb])) (by kernel_rfl) (.inr (hI.sl [1,2,3,4,5] rfl)) rfl fun a hA=>?_
          refine g_skip (i:=44) hA rfl (wanted_no hA rfl rfl (by simp [vb])) (by kernel_rfl) (.inr (hI.sl [1,2,3,4,5] rfl)) rfl fun a hA=>?_
          refine gE 45 hA rfl (.inr (hI.sl [1,2,3,4,5] rfl)) (fun _=>r_pick_f hA rfl rfl rfl) fun a hA=>?_
          refine gE 46 hA rfl (.inr (hI.sl [1,2,3,4,5] rfl)) (fun _=>r_mv hA rfl) fun a hA=>?_
          refine g_skip (i:=47) hA rfl (wanted_no hA rfl rfl (by simp [vb])) (by kernel_rfl) (.inr (hI.sl [1,2,3,4,5] rfl)) rfl fun a hA=>?_
          refine g_skip (i:=48) hA rfl (wanted_no hA rfl rfl (by simp [vb])) (by kernel_rfl) (.inr (hI.sl [1,2,3,4,5] rfl)) rfl fun a hA=>?_
          refine g_skip (i:=49) hA rfl (wanted_no hA rfl rfl (by simp [vb])) (by kernel_rfl) (.inr (hI.sl [1,2,3,4,5] rfl)) rfl fun a hA=>?_
          refine gE 50 hA rfl (.inr (hI.sl [1,2,3,4,5] rfl)) (fun _=>r_pick_f hA rfl rfl rfl) fun a hA=>?_
          refine gE 51 hA rfl (.inr (hI.sl [1,2,3,4,5] rfl)) (fun _=>r_mv hA rfl) fun a hA=>?_
          refine g_skip (i:=52) hA rfl (wanted_no hA rfl rfl (by simp [vb])) (by kernel_rfl) (.inr (hI.sl [1,2,3,4,5] rfl)) rfl fun a hA=>?_
          refine g_skip (i:=53) hA rfl (wanted_no hA rfl rfl (by simp [vb])) (by kernel_rfl) (.inr (hI.sl [1,2,3,4,5] rfl)) rfl fun a hA=>?_
          refine g_skip (i:=54) hA rfl (wanted_no hA rfl rfl (by simp [vb])) (by kernel_rfl) (.inr (hI.sl [1,2,3,4,5] rfl)) rfl fun a hA=>?_
          refine gE 55 hA rfl (.inr (hI.sl [1,2,3,4,5] rfl)) (fun _=>r_pick_f hA rfl rfl rfl) fun a hA=>?_
          refine gE 56 hA rfl (.inr (hI.sl [1,2,3,4,5] rfl)) (fun _=>r_mv hA rfl) fun a hA=>?_
          refine g_skip (i:=57) hA rfl (wanted_no hA rfl rfl (by simp [vb])) (by kernel_rfl) (.inr (hI.sl [1,2,3,4,5] rfl)) rfl fun a hA=>?_
          refine g_skip (i:=59) hA rfl (wanted_no hA rfl rfl (by simp [vb])) (by kernel_rfl) (.inr (hI.sl [1,2,3,4,5] rfl)) rfl fun a hA=>?_
          refine g_skip (i:=58) hA rfl (wanted_no hA rfl rfl (by simp [vb])) (by kernel_rfl) (.inr (hI.sl [1,2,3,4,5] rfl)) rfl fun a hA=>?_
          refine g_skip (i:=60) hA rfl (wanted_no hA rfl rfl (by simp [vb])) (by kernel_rfl) (.inr (hI.sl [1,2,3,4,5] rfl)) rfl fun a hA=>?_
          refine gE 61 hA rfl (.inr (hI.sl [1,2,3,4,5] rfl)) (fun _=>r_pick_f hA rfl rfl rfl) fun a hA=>?_
          refine gE 62 hA rfl (.inr (hI.sl [1,2,3,4,5] rfl)) (fun _=>r_as hA rfl) fun a hA=>?_
          refine gN ?_
          cases sJ H
          exact ⟨μ2,(Store.le.refl _),hA.sub ⟨rfl,trivial⟩,(hI.sl [2,3,4,5] rfl)⟩
        ·have hc70:=hc7;have hc7:=ft hc7;have H:=bF H hc7
         refine g_skip (i:=23) hA rfl (wanted_no hA rfl rfl (by rw [hc70];simp [vb])) (by kernel_rfl) (.inr hI) rfl fun a hA=>?_
         refine g_skip (i:=25) hA rfl (wanted_no hA rfl rfl (by rw [hc70];simp [vb])) (by kernel_rfl) (.inr hI) rfl fun a hA=>?_
         refine g_skip (i:=26) hA rfl (wanted_no hA rfl rfl (by rw [hc70];simp [vb])) (by kernel_rfl) (.inr hI) rfl fun a hA=>?_
         refine g_skip (i:=24) hA rfl (wanted_no hA rfl rfl (by rw [hc70];simp [vb])) (by kernel_rfl) (.inr hI) rfl fun a hA=>?_
         refine g_skip (i:=27) hA rfl (wanted_no hA rfl rfl (by rw [hc70];simp [vb])) (by kernel_rfl) (.inr hI) rfl fun a hA=>?_
         refine g_skip (i:=28) hA rfl (wanted_no hA rfl rfl (by rw [hc70];simp [vb])) (by kernel_rfl) (.inr hI) rfl fun a hA=>?_
         refine g_skip (i:=29) hA rfl (wanted_no hA rfl rfl (by rw [hc70];simp [vb])) (by kernel_rfl) (.inr hI) rfl fun a hA=>?_
         refine gE 30 hA rfl (.inr hI) (fun _=>r_pick_f hA rfl hc70 rfl) fun a hA=>?_
         refine gE 31 hA rfl (.inr hI) (fun _=>r_mv hA rfl) fun a hA=>?_
         refine g_skip (i:=32) hA rfl (wanted_no hA rfl rfl (by simp [vb])) (by kernel_rfl) (.inr hI) rfl fun a hA=>?_
         refine g_skip (i:=34) hA rfl (wanted_no hA rfl rfl (by simp [vb])) (by kernel_rfl) (.inr hI) rfl fun a hA=>?_
         refine g_skip (i:=35) hA rfl (wanted_no hA rfl rfl (by simp [vb])) (by kernel_rfl) (.inr hI) rfl fun a hA=>?_
         refine g_skip (i:=33) hA rfl (wanted_no hA rfl rfl (by simp [vb])) (by kernel_rfl) (.inr hI) rfl fun a hA=>?_
         refine g_skip (i:=36) hA rfl (wanted_no hA rfl rfl (by simp [vb])) (by kernel_rfl) (.inr hI) rfl fun a hA=>?_
         refine g_skip (i:=37) hA rfl (wanted_no hA rfl rfl (by simp [vb])) (by kernel_rfl) (.inr hI) rfl fun a hA=>?_
         refine gE 38 hA rfl (.inr hI) (fun _=>r_pick_f hA rfl rfl rfl) fun a hA=>?_
         refine gE 39 hA rfl (.inr hI) (fun _=>r_mv hA rfl) fun a hA=>?_
         refine g_skip (i:=40) hA rfl (wanted_no hA rfl rfl (by simp [vb])) (by kernel_rfl) (.inr hI) rfl fun a hA=>?_
         refine g_skip (i:=42) hA rfl (wanted_no hA rfl rfl (by simp [vb])) (by kernel_rfl) (.inr hI) rfl fun a hA=>?_
         refine g_skip (i:=41) hA rfl (wanted_no hA rfl rfl (by simp [vb])) (by kernel_rfl) (.inr hI) rfl fun a hA=>?_
         refine g_skip (i:=43) hA rfl (wanted_no hA rfl rfl (by simp [vb])) (by kernel_rfl) (.inr hI) rfl fun a hA=>?_
         refine g_skip (i:=44) hA rfl (wanted_no hA rfl rfl (by simp [vb])) (by kernel_rfl) (.inr hI) rfl fun a hA=>?_
         refine gE 45 hA rfl (.inr hI) (fun _=>r_pick_f hA rfl rfl rfl) fun a hA=>?_
         refine gE 46 hA rfl (.inr hI) (fun _=>r_mv hA rfl) fun a hA=>?_
         refine g_skip (i:=47) hA rfl (wanted_no hA rfl rfl (by simp [vb])) (by kernel_rfl) (.inr hI) rfl fun a hA=>?_
         refine g_skip (i:=48) hA rfl (wanted_no hA rfl rfl (by simp [vb])) (by kernel_rfl) (.inr hI) rfl fun a hA=>?_
         refine g_skip (i:=49) hA rfl (wanted_no hA rfl rfl (by simp [vb])) (by kernel_rfl) (.inr hI) rfl fun a hA=>?_
         refine gE 50 hA rfl (.inr hI) (fun _=>r_pick_f hA rfl rfl rfl) fun a hA=>?_
         refine gE 51 hA rfl (.inr hI) (fun _=>r_mv hA rfl) fun a hA=>?_
         refine g_skip (i:=52) hA rfl (wanted_no hA rfl rfl (by simp [vb])) (by kernel_rfl) (.inr hI) rfl fun a hA=>?_
         refine g_skip (i:=53) hA rfl (wanted_no hA rfl rfl (by simp [vb])) (by kernel_rfl) (.inr hI) rfl fun a hA=>?_
         refine g_skip (i:=54) hA rfl (wanted_no hA rfl rfl (by simp [vb])) (by kernel_rfl) (.inr hI) rfl fun a hA=>?_
         refine gE 55 hA rfl (.inr hI) (fun _=>r_pick_f hA rfl rfl rfl) fun a hA=>?_
         refine gE 56 hA rfl (.inr hI) (fun _=>r_mv hA rfl) fun a hA=>?_
         refine g_skip (i:=57) hA rfl (wanted_no hA rfl rfl (by simp [vb])) (by kernel_rfl) (.inr hI) rfl fun a hA=>?_
         refine g_skip (i:=59) hA rfl (wanted_no hA rfl rfl (by simp [vb])) (by kernel_rfl) (.inr hI) rfl fun a hA=>?_
         refine g_skip (i:=58) hA rfl (wanted_no hA rfl rfl (by simp [vb])) (by kernel_rfl) (.inr hI) rfl fun a hA=>?_
         refine g_skip (i:=60) hA rfl (wanted_no hA rfl rfl (by simp [vb])) (by kernel_rfl) (.inr hI) rfl fun a hA=>?_
         refine gE 61 hA rfl (.inr hI) (fun _=>r_pick_f hA rfl rfl rfl) fun a hA=>?_
         refine gE 62 hA rfl (.inr hI) (fun _=>r_as hA rfl) fun a hA=>?_
         refine gN ?_
         cases sJ H
         exact ⟨μ2,(Store.le.refl _),hA.sub ⟨rfl,trivial⟩,(hI.sl [1,2,3,4] rfl)⟩
       ·have hc60:=hc6;obtain ⟨hc6,H⟩:=dF H hc6
        refine g_skip (i:=15) hA rfl (wanted_no hA rfl rfl (by rw [hc60];simp [vb])) (by kernel_rfl) (.inr hI) rfl fun a hA=>?_
        refine g_skip (i:=17) hA rfl (wanted_no hA rfl rfl (by rw [hc60];simp [vb])) (by kernel_rfl) (.inr hI) rfl fun a hA=>?_
        refine g_skip (i:=18) hA rfl (wanted_no hA rfl rfl (by rw [hc60];simp [vb])) (by kernel_rfl) (.inr hI) rfl fun a hA=>?_
        refine g_skip (i:=16) hA rfl (wanted_no hA rfl rfl (by rw [hc60];simp [vb])) (by kernel_rfl) (.inr hI) rfl fun a hA=>?_
        refine g_skip (i:=19) hA rfl (wanted_no hA rfl rfl (by rw [hc60];simp [vb])) (by kernel_rfl) (.inr hI) rfl fun a hA=>?_
        refine g_skip (i:=20) hA rfl (wanted_no hA rfl rfl (by rw [hc60];simp [vb])) (by kernel_rfl) (.inr hI) rfl fun a hA=>?_
        refine gE 21 hA rfl (.inr hI) (fun _=>r_pick_f hA rfl hc60 rfl) fun a hA=>?_
        refine gE 22 hA rfl (.inr hI) (fun _=>r_mv hA rfl) fun a hA=>?_
        refine g_skip (i:=23) hA rfl (wanted_no hA rfl rfl (by simp [vb])) (by kernel_rfl) (.inr hI) rfl fun a hA=>?_
        refine g_skip (i:=25) hA rfl (wanted_no hA rfl rfl (by simp [vb])) (by kernel_rfl) (.inr hI) rfl fun a hA=>?_
        refine g_skip (i:=26) hA rfl (wanted_no hA rfl rfl (by simp [vb])) (by kernel_rfl) (.inr hI) rfl fun a hA=>?_
        refine g_skip (i:=24) hA rfl (wanted_no hA rfl rfl (by simp [vb])) (by kernel_rfl) (.inr hI) rfl fun a hA=>?_
        refine g_skip (i:=27) hA rfl (wanted_no hA rfl rfl (by simp [vb])) (by kernel_rfl) (.inr hI) rfl fun a hA=>?_
        refine g_skip (i:=28) hA rfl (wanted_no hA rfl rfl (by simp [vb])) (by kernel_rfl) (.inr hI) rfl fun a hA=>?_
        refine g_skip (i:=29) hA rfl (wanted_no hA rfl rfl (by simp [vb])) (by kernel_rfl) (.inr hI) rfl fun a hA=>?_
        refine gE 30 hA rfl (.inr hI) (fun _=>r_pick_f hA rfl rfl rfl) fun a hA=>?_
        refine gE 31 hA rfl (.inr hI) (fun _=>r_mv hA rfl) fun a hA=>?_
        refine g_skip (i:=32) hA rfl (wanted_no hA rfl rfl (by simp [vb])) (by kernel_rfl) (.inr hI) rfl fun a hA=>?_
        refine g_skip (i:=34) hA rfl (wanted_no hA rfl rfl (by simp [vb])) (by kernel_rfl) (.inr hI) rfl fun a hA=>?_
        refine g_skip (i:=35) hA rfl (wanted_no hA rfl rfl (by simp [vb])) (by kernel_rfl) (.inr hI) rfl fun a hA=>?_
        refine g_skip (i:=33) hA rfl (wanted_no hA rfl rfl (by simp [vb])) (by kernel_rfl) (.inr hI) rfl fun a hA=>?_
        refine g_skip (i:=36) hA rfl (wanted_no hA rfl rfl (by simp [vb])) (by kernel_rfl) (.inr hI) rfl fun a hA=>?_
        refine g_skip (i:=37) hA rfl (wanted_no hA rfl rfl (by simp [vb])) (by kernel_rfl) (.inr hI) rfl fun a hA=>?_
        refine gE 38 hA rfl (.inr hI) (fun _=>r_pick_f hA rfl rfl rfl) fun a hA=>?_
        refine gE 39 hA rfl (.inr hI) (fun _=>r_mv hA rfl) fun a hA=>?_
        refine g_skip (i:=40) hA rfl (wanted_no hA rfl rfl (by simp [vb])) (by kernel_rfl) (.inr hI) rfl fun a hA=>?_
        refine g_skip (i:=42) hA rfl (wanted_no hA rfl rfl (by simp [vb])) (by kernel_rfl) (.inr hI) rfl fun a hA=>?_
        refine g_skip (i:=41) hA rfl (wanted_no hA rfl rfl (by simp [vb])) (by kernel_rfl) (.inr hI) rfl fun a hA=>?_
        refine g_skip (i:=43) hA rfl (wanted_no hA rfl rfl (by simp [vb])) (by kernel_rfl) (.inr hI) rfl fun a hA=>?_
        refine g_skip (i:=44) hA rfl (wanted_no hA rfl rfl (by simp [vb])) (by kernel_rfl) (.inr hI) rfl fun a hA=>?_
        refine gE 45 hA rfl (.inr hI) (fun _=>r_pick_f hA rfl rfl rfl) fun a hA=>?_
        refine gE 46 hA rfl (.inr hI) (fun _=>r_mv hA rfl) fun a hA=>?_
        refine g_skip (i:=47) hA rfl (wanted_no hA rfl rfl (by simp [vb])) (by kernel_rfl) (.inr hI) rfl fun a hA=>?_
        refine g_skip (i:=48) hA rfl (wanted_no hA rfl rfl (by simp [vb])) (by kernel_rfl) (.inr hI) rfl fun a hA=>?_
        refine g_skip (i:=49) hA rfl (wanted_no hA rfl rfl (by simp [vb])) (by kernel_rfl) (.inr hI) rfl fun a hA=>?_
        refine gE 50 hA rfl (.inr hI) (fun _=>r_pick_f hA rfl rfl rfl) fun a hA=>?_
        refine gE 51 hA rfl (.inr hI) (fun _=>r_mv hA rfl) fun a hA=>?_
        refine g_skip (i:=52) hA rfl (wanted_no hA rfl rfl (by simp [vb])) (by kernel_rfl) (.inr hI) rfl fun a hA=>?_
        refine g_skip (i:=53) hA rfl (wanted_no hA rfl rfl (by simp [vb])) (by kernel_rfl) (.inr hI) rfl fun a hA=>?_
        refine g_skip (i:=54) hA rfl (wanted_no hA rfl rfl (by simp [vb])) (by kernel_rfl) (.inr hI) rfl fun a hA=>?_
        refine gE 55 hA rfl (.inr hI) (fun _=>r_pick_f hA rfl rfl rfl) fun a hA=>?_
        refine gE 56 hA rfl (.inr hI) (fun _=>r_mv hA rfl) fun a hA=>?_
        refine g_skip (i:=57) hA rfl (wanted_no hA rfl rfl (by simp [vb])) (by kernel_rfl) (.inr hI) rfl fun a hA=>?_
        refine g_skip (i:=59) hA rfl (wanted_no hA rfl rfl (by simp [vb])) (by kernel_rfl) (.inr hI) rfl fun a hA=>?_
        refine g_skip (i:=58) hA rfl (wanted_no hA rfl rfl (by simp [vb])) (by kernel_rfl) (.inr hI) rfl fun a hA=>?_
        refine g_skip (i:=60) hA rfl (wanted_no hA rfl rfl (by simp [vb])) (by kernel_rfl) (.inr hI) rfl fun a hA=>?_
        refine gE 61 hA rfl (.inr hI) (fun _=>r_pick_f hA rfl rfl rfl) fun a hA=>?_
        refine gE 62 hA rfl (.inr hI) (fun _=>r_as hA rfl) fun a hA=>?_
        refine gN ?_
        cases sJ H
        exact ⟨μ2,(Store.le.refl _),hA.sub ⟨rfl,trivial⟩,(hI.sl [1,2,3,4] rfl)⟩
      ·have hc50:=hc5;have hc5:=ft hc5;have H:=bF H hc5
       refine g_skip (i:=8) hA rfl (wanted_no hA rfl rfl (by rw [hc50];simp [vb])) (by kernel_rfl) (.inr (hI.sl [1,2,3,4] rfl)) rfl fun a hA=>?_
       refine g_skip (i:=10) hA rfl (wanted_no hA rfl rfl (by rw [hc50];simp [vb])) (by kernel_rfl) (.inr (hI.sl [1,2,3,4] rfl)) rfl fun a hA=>?_
       refine g_skip (i:=11) hA rfl (wanted_no hA rfl rfl (by rw [hc50];simp [vb])) (by kernel_rfl) (.inr (hI.sl [1,2,3,4] rfl)) rfl fun a hA=>?_
       refine g_skip (i:=9) hA rfl (wanted_no hA rfl rfl (by rw [hc50];simp [vb])) (by kernel_rfl) (.inr (hI.sl [1,2,3,4] rfl)) rfl fun a hA=>?_
       refine g_skip (i:=12) hA rfl (wanted_no hA rfl rfl (by rw [hc50];simp [vb])) (by kernel_rfl) (.inr (hI.sl [1,2,3,4] rfl)) rfl fun a hA=>?_
       refine gE 13 hA rfl (.inr (hI.sl [1,2,3,4] rfl)) (fun _=>r_pick_f hA rfl hc50 rfl) fun a hA=>?_
       refine gE 14 hA rfl (.inr (hI.sl [1,2,3,4] rfl)) (fun _=>r_mv hA rfl) fun a hA=>?_
       refine g_skip (i:=15) hA rfl (wanted_no hA rfl rfl (by simp [vb])) (by kernel_rfl) (.inr (hI.sl [1,2,3,4] rfl)) rfl fun a hA=>?_
       refine g_skip (i:=17) hA rfl (wanted_no hA rfl rfl (by simp [vb])) (by kernel_rfl) (.inr (hI.sl [1,2,3,4] rfl)) rfl fun a hA=>?_
       refine g_skip (i:=18) hA rfl (wanted_no hA rfl rfl (by simp [vb])) (by kernel_rfl) (.inr (hI.sl [1,2,3,4] rfl)) rfl fun a hA=>?_
       refine g_skip (i:=16) hA rfl (wanted_no hA rfl rfl (by simp [vb])) (by kernel_rfl) (.inr (hI.sl [1,2,3,4] rfl)) rfl fun a hA=>?_
       refine g_skip (i:=19) hA rfl (wanted_no hA rfl rfl (by simp [vb])) (by kernel_rfl) (.inr (hI.sl [1,2,3,4] rfl)) rfl fun a hA=>?_
       refine g_skip (i:=20) hA rfl (wanted_no hA rfl rfl (by simp [vb])) (by kernel_rfl) (.inr (hI.sl [1,2,3,4] rfl)) rfl fun a hA=>?_
       refine gE 21 hA rfl (.inr (hI.sl [1,2,3,4] rfl)) (fun _=>r_pick_f hA rfl rfl rfl) fun a hA=>?_
       refine gE 22 hA rfl (.inr (hI.sl [1,2,3,4] rfl)) (fun _=>r_mv hA rfl) fun a hA=>?_
       refine g_skip (i:=23) hA rfl (wanted_no hA rfl rfl (by simp [vb])) (by kernel_rfl) (.inr (hI.sl [1,2,3,4] rfl)) rfl fun a hA=>?_
       refine g_skip (i:=25) hA rfl (wanted_no hA rfl rfl (by simp [vb])) (by kernel_rfl) (.inr (hI.sl [1,2,3,4] rfl)) rfl fun a hA=>?_
       refine g_skip (i:=26) hA rfl (wanted_no hA rfl rfl (by simp [vb])) (by kernel_rfl) (.inr (hI.sl [1,2,3,4] rfl)) rfl fun a hA=>?_
       refine g_skip (i:=24) hA rfl (wanted_no hA rfl rfl (by simp [vb])) (by kernel_rfl) (.inr (hI.sl [1,2,3,4] rfl)) rfl fun a hA=>?_
       refine g_skip (i:=27) hA rfl (wanted_no hA rfl rfl (by simp [vb])) (by kernel_rfl) (.inr (hI.sl [1,2,3,4] rfl)) rfl fun a hA=>?_
       refine g_skip (i:=28) hA rfl (wanted_no hA rfl rfl (by simp [vb])) (by kernel_rfl) (.inr (hI.sl [1,2,3,4] rfl)) rfl fun a hA=>?_
       refine g_skip (i:=29) hA rfl (wanted_no hA rfl rfl (by simp [vb])) (by kernel_rfl) (.inr (hI.sl [1,2,3,4] rfl)) rfl fun a hA=>?_
       refine gE 30 hA rfl (.inr (hI.sl [1,2,3,4] rfl)) (fun _=>r_pick_f hA rfl rfl rfl) fun a hA=>?_
       refine gE 31 hA rfl (.inr (hI.sl [1,2,3,4] rfl)) (fun _=>r_mv hA rfl) fun a hA=>?_
       refine g_skip (i:=32) hA rfl (wanted_no hA rfl rfl (by simp [vb])) (by kernel_rfl) (.inr (hI.sl [1,2,3,4] rfl)) rfl fun a hA=>?_
       refine g_skip (i:=34) hA rfl (wanted_no hA rfl rfl (by simp [vb])) (by kernel_rfl) (.inr (hI.sl [1,2,3,4] rfl)) rfl fun a hA=>?_
       refine g_skip (i:=35) hA rfl (wanted_no hA rfl rfl (by simp [vb])) (by kernel_rfl) (.inr (hI.sl [1,2,3,4] rfl)) rfl fun a hA=>?_
       refine g_skip (i:=33) hA rfl (wanted_no hA rfl rfl (by simp [vb])) (by kernel_rfl) (.inr (hI.sl [1,2,3,4] rfl)) rfl fun a hA=>?_
       refine g_skip (i:=36) hA rfl (wanted_no hA rfl rfl (by simp [vb])) (by kernel_rfl) (.inr (hI.sl [1,2,3,4] rfl)) rfl fun a hA=>?_
       refine g_skip (i:=37) hA rfl (wanted_no hA rfl rfl (by simp [vb])) (by kernel_rfl) (.inr (hI.sl [1,2,3,4] rfl)) rfl fun a hA=>?_
       refine gE 38 hA rfl (.inr (hI.sl [1,2,3,4] rfl)) (fun _=>r_pick_f hA rfl rfl rfl) fun a hA=>?_
       refine gE 39 hA rfl (.inr (hI.sl [1,2,3,4] rfl)) (fun _=>r_mv hA rfl) fun a hA=>?_
       refine g_skip (i:=40) hA rfl (wanted_no hA rfl rfl (by simp [vb])) (by kernel_rfl) (.inr (hI.sl [1,2,3,4] rfl)) rfl fun a hA=>?_
       refine g_skip (i:=42) hA rfl (wanted_no hA rfl rfl (by simp [vb])) (by kernel_rfl) (.inr (hI.sl [1,2,3,4] rfl)) rfl fun a hA=>?_
       refine g_skip (i:=41) hA rfl (wanted_no hA rfl rfl (by simp [vb])) (by kernel_rfl) (.inr (hI.sl [1,2,3,4] rfl)) rfl fun a hA=>?_
       refine g_skip (i:=43) hA rfl (wanted_no hA rfl rfl (by simp [vb])) (by kernel_rfl) (.inr (hI.sl [1,2,3,4] rfl)) rfl fun a hA=>?_
       refine g_skip (i:=44) hA rfl (wanted_no hA rfl rfl (by simp [vb])) (by kernel_rfl) (.inr (hI.sl [1,2,3,4] rfl)) rfl fun a hA=>?_
       refine gE 45 hA rfl (.inr (hI.sl [1,2,3,4] rfl)) (fun _=>r_pick_f hA rfl rfl rfl) fun a hA=>?_
       refine gE 46 hA rfl (.inr (hI.sl [1,2,3,4] rfl)) (fun _=>r_mv hA rfl) fun a hA=>?_
       refine g_skip (i:=47) hA rfl (wanted_no hA rfl rfl (by simp [vb])) (by kernel_rfl) (.inr (hI.sl [1,2,3,4] rfl)) rfl fun a hA=>?_
       refine g_skip (i:=48) hA rfl (wanted_no hA rfl rfl (by simp [vb])) (by kernel_rfl) (.inr (hI.sl [1,2,3,4] rfl)) rfl fun a hA=>?_
       refine g_skip (i:=49) hA rfl (wanted_no hA rfl rfl (by simp [vb])) (by kernel_rfl) (.inr (hI.sl [1,2,3,4] rfl)) rfl fun a hA=>?_
       refine gE 50 hA rfl (.inr (hI.sl [1,2,3,4] rfl)) (fun _=>r_pick_f hA rfl rfl rfl) fun a hA=>?_
       refine gE 51 hA rfl (.inr (hI.sl [1,2,3,4] rfl)) (fun _=>r_mv hA rfl) fun a hA=>?_
       refine g_skip (i:=52) hA rfl (wanted_no hA rfl rfl (by simp [vb])) (by kernel_rfl) (.inr (hI.sl [1,2,3,4] rfl)) rfl fun a hA=>?_
       refine g_skip (i:=53) hA rfl (wanted_no hA rfl rfl (by simp [vb])) (by kernel_rfl) (.inr (hI.sl [1,2,3,4] rfl)) rfl fun a hA=>?_
       refine g_skip (i:=54) hA rfl (wanted_no hA rfl rfl (by simp [vb])) (by kernel_rfl) (.inr (hI.sl [1,2,3,4] rfl)) rfl fun a hA=>?_
       refine gE 55 hA rfl (.inr (hI.sl [1,2,3,4] rfl)) (fun _=>r_pick_f hA rfl rfl rfl) fun a hA=>?_
       refine gE 56 hA rfl (.inr (hI.sl [1,2,3,4] rfl)) (fun _=>r_mv hA rfl) fun a hA=>?_
       refine g_skip (i:=57) hA rfl (wanted_no hA rfl rfl (by simp [vb])) (by kernel_rfl) (.inr (hI.sl [1,2,3,4] rfl)) rfl fun a hA=>?_
       refine g_skip (i:=59) hA rfl (wanted_no hA rfl rfl (by simp [vb])) (by kernel_rfl) (.inr (hI.sl [1,2,3,4] rfl)) rfl fun a hA=>?_
       refine g_skip (i:=58) hA rfl (wanted_no hA rfl rfl (by simp [vb])) (by kernel_rfl) (.inr (hI.sl [1,2,3,4] rfl)) rfl fun a hA=>?_
       refine g_skip (i:=60) hA rfl (wanted_no hA rfl rfl (by simp [vb])) (by kernel_rfl) (.inr (hI.sl [1,2,3,4] rfl)) rfl fun a hA=>?_
       refine gE 61 hA rfl (.inr (hI.sl [1,2,3,4] rfl)) (fun _=>r_pick_f hA rfl rfl rfl) fun a hA=>?_
       refine gE 62 hA rfl (.inr (hI.sl [1,2,3,4] rfl)) (fun _=>r_as hA rfl) fun a hA=>?_
       refine gN ?_
       cases sJ H
       exact ⟨μ2,(Store.le.refl _),hA.sub ⟨rfl,trivial⟩,(hI.sl [1,2,3,4] rfl)⟩
     ·have hc40:=hc4;have hc4:=ft hc4;have H:=bF H hc4
      refine g_skip (i:=2) hA rfl (wanted_no hA rfl rfl (by rw [hc40];simp [vb])) (by kernel_rfl) (.inr hI) rfl fun a hA=>?_
      refine g_skip (i:=4) hA rfl (wanted_no hA rfl rfl (by rw [hc40];simp [vb])) (by kernel_rfl) (.inr hI) rfl fun a hA=>?_
      refine g_skip (i:=3) hA rfl (wanted_no hA rfl rfl (by rw [hc40];simp [vb])) (by kernel_rfl) (.inr hI) rfl fun a hA=>?_
      refine g_skip (i:=5) hA rfl (wanted_no hA rfl rfl (by rw [hc40];simp [vb])) (by kernel_rfl) (.inr hI) rfl fun a hA=>?_
      refine gE 6 hA rfl (.inr hI) (fun _=>r_pick_f hA rfl hc40 rfl) fun a hA=>?_
      refine gE 7 hA rfl (.inr hI) (fun _=>r_mv hA rfl) fun a hA=>?_
      refine g_skip (i:=8) hA rfl (wanted_no hA rfl rfl (by simp [vb])) (by kernel_rfl) (.inr hI) rfl fun a hA=>?_
      refine g_skip (i:=10) hA rfl (wanted_no hA rfl rfl (by simp [vb])) (by kernel_rfl) (.inr hI) rfl fun a hA=>?_
      refine g_skip (i:=11) hA rfl (wanted_no hA rfl rfl (by simp [vb])) (by kernel_rfl) (.inr hI) rfl fun a hA=>?_
      refine g_skip (i:=9) hA rfl (wanted_no hA rfl rfl (by simp [vb])) (by kernel_rfl) (.inr hI) rfl fun a hA=>?_
      refine g_skip (i:=12) hA rfl (wanted_no hA rfl rfl (by simp [vb])) (by kernel_rfl) (.inr hI) rfl fun a hA=>?_
      refine gE 13 hA rfl (.inr hI) (fun _=>r_pick_f hA rfl rfl rfl) fun a hA=>?_
      refine gE 14 hA rfl (.inr hI) (fun _=>r_mv hA rfl) fun a hA=>?_
      refine g_skip (i:=15) hA rfl (wanted_no hA rfl rfl (by simp [vb])) (by kernel_rfl) (.inr hI) rfl fun a hA=>?_
      refine g_skip (i:=17) hA rfl (wanted_no hA rfl rfl (by simp [vb])) (by kernel_rfl) (.inr hI) rfl fun a hA=>?_
      refine g_skip (i:=18) hA rfl (wanted_no hA rfl rfl (by simp [vb])) (by kernel_rfl) (.inr hI) rfl fun a hA=>?_
      refine g_skip (i:=16) hA rfl (wanted_no hA rfl rfl (by simp [vb])) (by kernel_rfl) (.inr hI) rfl fun a hA=>?_
      refine g_skip (i:=19) hA rfl (wanted_no hA rfl rfl (by simp [vb])) (by kernel_rfl) (.inr hI) rfl fun a hA=>?_
      refine g_skip (i:=20) hA rfl (wanted_no hA rfl rfl (by simp [vb])) (by kernel_rfl) (.inr hI) rfl fun a hA=>?_
      refine gE 21 hA rfl (.inr hI) (fun _=>r_pick_f hA rfl rfl rfl) fun a hA=>?_
      refine gE 22 hA rfl (.inr hI) (fun _=>r_mv hA rfl) fun a hA=>?_
      refine g_skip (i:=23) hA rfl (wanted_no hA rfl rfl (by simp [vb])) (by kernel_rfl) (.inr hI) rfl fun a hA=>?_
      refine g_skip (i:=25) hA rfl (wanted_no hA rfl rfl (by simp [vb])) (by kernel_rfl) (.inr hI) rfl fun a hA=>?_
      refine g_skip (i:=26) hA rfl (wanted_no hA rfl rfl (by simp [vb])) (by kernel_rfl) (.inr hI) rfl fun a hA=>?_
      refine g_skip (i:=24) hA rfl (wanted_no hA rfl rfl (by simp [vb])) (by kernel_rfl) (.inr hI) rfl fun a hA=>?_
      refine g_skip (i:=27) hA rfl (wanted_no hA rfl rfl (by simp [vb])) (by kernel_rfl) (.inr hI) rfl fun a hA=>?_
      refine g_skip (i:=28) hA rfl (wanted_no hA rfl rfl (by simp [vb])) (by kernel_rfl) (.inr hI) rfl fun a hA=>?_
      refine g_skip (i:=29) hA rfl (wanted_no hA rfl rfl (by simp [vb])) (by kernel_rfl) (.inr hI) rfl fun a hA=>?_
      refine gE 30 hA rfl (.inr hI) (fun _=>r_pick_f hA rfl rfl rfl) fun a hA=>?_
      refine gE 31 hA rfl (.inr hI) (fun _=>r_mv hA rfl) fun a hA=>?_
      refine g_skip (i:=32) hA rfl (wanted_no hA rfl rfl (by simp [vb])) (by kernel_rfl) (.inr hI) rfl fun a hA=>?_
      refine g_skip (i:=34) hA rfl (wanted_no hA rfl rfl (by simp [vb])) (by kernel_rfl) (.inr hI) rfl fun a hA=>?_
      refine g_skip (i:=35) hA rfl (wanted_no hA rfl rfl (by simp [vb])) (by kernel_rfl) (.inr hI) rfl fun a hA=>?_
      refine g_skip (i:=33) hA rfl (wanted_no hA rfl rfl (by simp [vb])) (by kernel_rfl) (.inr hI) rfl fun a hA=>?_
      refine g_skip (i:=36) hA rfl (wanted_no hA rfl rfl (by simp [vb])) (by kernel_rfl) (.inr hI) rfl fun a hA=>?_
      refine g_skip (i:=37) hA rfl (wanted_no hA rfl rfl (by simp [vb])) (by kernel_rfl) (.inr hI) rfl fun a hA=>?_
      refine gE 38 hA rfl (.inr hI) (fun _=>r_pick_f hA rfl rfl rfl) fun a hA=>?_
      refine gE 39 hA rfl (.inr hI) (fun _=>r_mv hA rfl) fun a hA=>?_
      refine g_skip (i:=40) hA rfl (wanted_no hA rfl rfl (by simp [vb])) (by kernel_rfl) (.inr hI) rfl fun a hA=>?_
      refine g_skip (i:=42) hA rfl (wanted_no hA rfl rfl (by simp [vb])) (by kernel_rfl) (.inr hI) rfl fun a hA=>?_
      refine g_skip (i:=41) hA rfl (wanted_no hA rfl rfl (by simp [vb])) (by kernel_rfl) (.inr hI) rfl fun a hA=>?_
      refine g_skip (i:=43) hA rfl (wanted_no hA rfl rfl (by simp [vb])) (by kernel_rfl) (.inr hI) rfl fun a hA=>?_
      refine g_skip (i:=44) hA rfl (wanted_no hA rfl rfl (by simp [vb])) (by kernel_rfl) (.inr hI) rfl fun a hA=>?_
      refine gE 45 hA rfl (.inr hI) (fun _=>r_pick_f hA rfl rfl rfl) fun a hA=>?_
      refine gE 46 hA rfl (.inr hI) (fun _=>r_mv hA rfl) fun a hA=>?_
      refine g_skip (i:=47) hA rfl (wanted_no hA rfl rfl (by simp [vb])) (by kernel_rfl) (.inr hI) rfl fun a hA=>?_
      refine g_skip (i:=48) hA rfl (wanted_no hA rfl rfl (by simp [vb])) (by kernel_rfl) (.inr hI) rfl fun a hA=>?_
      refine g_skip (i:=49) hA rfl (wanted_no hA rfl rfl (by simp [vb])) (by kernel_rfl) (.inr hI) rfl fun a hA=>?_
      refine gE 50 hA rfl (.inr hI) (fun _=>r_pick_f hA rfl rfl rfl) fun a hA=>?_
      refine gE 51 hA rfl (.inr hI) (fun _=>r_mv hA rfl) fun a hA=>?_
      refine g_skip (i:=52) hA rfl (wanted_no hA rfl rfl (by simp [vb])) (by kernel_rfl) (.inr hI) rfl fun a hA=>?_
      refine g_skip (i:=53) hA rfl (wanted_no hA rfl rfl (by simp [vb])) (by kernel_rfl) (.inr hI) rfl fun a hA=>?_
      refine g_skip (i:=54) hA rfl (wanted_no hA rfl rfl (by simp [vb])) (by kernel_rfl) (.inr hI) rfl fun a hA=>?_
      refine gE 55 hA rfl (.inr hI) (fun _=>r_pick_f hA rfl rfl rfl) fun a hA=>?_
      refine gE 56 hA rfl (.inr hI) (fun _=>r_mv hA rfl) fun a hA=>?_
      refine g_skip (i:=57) hA rfl (wanted_no hA rfl rfl (by simp [vb])) (by kernel_rfl) (.inr hI) rfl fun a hA=>?_
      refine g_skip (i:=59) hA rfl (wanted_no hA rfl rfl (by simp [vb])) (by kernel_rfl) (.inr hI) rfl fun a hA=>?_
      refine g_skip (i:=58) hA rfl (wanted_no hA rfl rfl (by simp [vb])) (by kernel_rfl) (.inr hI) rfl fun a hA=>?_
      refine g_skip (i:=60) hA rfl (wanted_no hA rfl rfl (by simp [vb])) (by kernel_rfl) (.inr hI) rfl fun a hA=>?_
      refine gE 61 hA rfl (.inr hI) (fun _=>r_pick_f hA rfl rfl rfl) fun a hA=>?_
      refine gE 62 hA rfl (.inr hI) (fun _=>r_as hA rfl) fun a hA=>?_
      refine gN ?_
      cases sJ H
      exact ⟨μ2,(Store.le.refl _),hA.sub ⟨rfl,trivial⟩,hI⟩
    ·rintro a w ⟨μ3,hle1,hA,hI⟩
     have H:=Hk2
     refine w_ret ?_
     obtain rfl:=sJ H
     exact ret1 hA Tryz.results3 rfl ⟨_,rfl,rfl,trivial,hI.forget0⟩
theorem w64 {x:Int}(h0:-9223372036854775808≤x)(h1:x < 9223372036854775808):IntKind.i64.wrap x=x:=wrap_id ⟨h0,h1⟩
theorem wu64 {x:Int}(h0:0≤x)(h1:x < 18446744073709551616):IntKind.u64.wrap x=x:=wrap_id ⟨h0,h1⟩
theorem wu32 {x:Int}(h0:0≤x)(h1:x < 4294967296):IntKind.u32.wrap x=x:=wrap_id ⟨h0,h1⟩
theorem loop_idx {τ ρ:Type}{step:τ→Option (τ⊕ρ)}(st:Nat→τ)(n:Nat)(h:∀ i,i < n→step (st i)=some (.inl (st (i+1)))):loopO step (st 0)=loopO step (st n):=by
 induction n with
 | zero=>rfl
 | succ n ih=>rw [ih (fun i hi=>h i (by omega)),loopO_inl (h n (by omega))]
theorem loop_run {τ ρ:Type}{step:τ→Option (τ⊕ρ)}(st:Nat→τ)(n:Nat){r:ρ}{s:τ}(h0:s=st 0)(h:∀ i,i < n→step (st i)=some (.inl (st (i+1))))(hn:step (st n)=some (.inr r)):loopO step s=some r:=by
 rw [h0,loop_idx st n h,loopO_inr hn]
theorem loop_exists2 {τ ρ:Type}{step:τ→Option (τ⊕ρ)}(I:Nat→τ→Prop)(Post:ρ→Prop)(n:Nat){s:τ}(h0:I 0 s)(h:∀ i,i < n→∀ s,I i s→∃ s',step s=some (.inl s')∧I (i+1) s')(hn:∀ s,I n s→∃ r,step s=some (.inr r)∧Post r):∃ r,loopO step s=some r∧Post r:=by
 have key:∀ m k s,k+m=n→I k s→∃ r,loopO step s=some r∧Post r:=by
  intro m
  induction m with
  | zero =>
   intro k s e hI
   obtain ⟨r,h1,h2⟩:=hn s (by rw [← e];exact hI)
   exact ⟨r,loopO_inr h1,h2⟩
  | succ m ih =>
   intro k s e hI
   obtain ⟨s',h1,h2⟩:=h k (by omega) s hI
   rw [loopO_inl h1]
   exact ih (k+1) s' (by omega) h2
 exact key n 0 s (by omega) h0
theorem bv_nat (n a:Nat)(h:a < 2 ^ n):(BitVec.ofInt n (a:Int)).toNat=a:=by
 rw [BitVec.toNat_ofInt]
 have:((a:Int) % ((2 ^ n:Nat):Int))=a:=Int.emod_eq_of_lt (by omega) (by exact_mod_cast h)
 rw [this]
 rfl
theorem in_u (k:IntKind)(hk:k.signed=false){a:Nat}(h:a < 2 ^ k.bits):InR k (a:Int):=by
 cases k <;> simp [IntKind.signed] at hk <;> simp [IntKind.bits] at h <;> simp [InR] <;> omega
theorem bAnd_nat (k:IntKind)(hk:k.signed=false){a b:Nat}(ha:a < 2 ^ k.bits)(hb:b < 2 ^ k.bits):bAnd k a b=((a &&& b:Nat):Int):=by
 unfold bAnd
 rw [BitVec.toNat_and,bv_nat _ _ ha,bv_nat _ _ hb]
 exact wrap_id (in_u k hk (Nat.lt_of_le_of_lt Nat.and_le_left ha))
theorem bOr_nat (k:IntKind)(hk:k.signed=false){a b:Nat}(ha:a < 2 ^ k.bits)(hb:b < 2 ^ k.bits):bOr k a b=((a ||| b:Nat):Int):=by
 unfold bOr
 rw [BitVec.toNat_or,bv_nat _ _ ha,bv_nat _ _ hb]
 exact wrap_id (in_u k hk (Nat.or_lt_two_pow ha hb))
theorem sR_nat (k:IntKind){a n:Nat}(hn:n≤k.bits):sR k (a:Int) (n:Int)=((a >>> n:Nat):Int):=by
 unfold sR
 have e:min (n:Int).toNat k.bits=n:=by simp;omega
 rw [e,Nat.shiftRight_eq_div_pow]
 rw [Int.fdiv_eq_ediv_of_nonneg _ (by exact Int.pow_nonneg (by omega))]
 push_cast
 rfl
theorem nat_of {k:IntKind}(hk:k.signed=false){x:Int}(h:InR k x):∃ a:Nat,x=a∧a < 2 ^ k.bits:=by
 refine ⟨x.toNat,?_,?_⟩
 ·cases k <;> simp [IntKind.signed] at hk <;> simp [InR] at h <;> omega
 ·cases k <;> simp [IntKind.signed] at hk <;> simp [InR] at h <;> simp [IntKind.bits] <;> omega
theorem and_low (n i:Nat):n &&& (2 ^ i - 1)=n % 2 ^ i:=Nat.and_two_pow_sub_one_eq_mod n i
def rotr (x n:Int):Int:=bOr .u32 (sR .u32 x n) (sL .u32 x (32 - n))
def wordAt (b:List Int)(p:Nat):Int :=
 bOr .u32 (bOr .u32 (bOr .u32 (sL .u32 (IntKind.u32.wrap (b.getD p 0)) 24) (sL .u32 (IntKind.u32.wrap (b.getD (p+1) 0)) 16)) (sL .u32 (IntKind.u32.wrap (b.getD (p+2) 0)) 8)) (IntKind.u32.wrap (b.getD (p+3) 0))
def sg0 (y:Int):Int:=bXor .u32 (bXor .u32 (rotr y 7) (rotr y 18)) (sR .u32 y 3)
def sg1 (x:Int):Int:=bXor .u32 (bXor .u32 (rotr x 17) (rotr x 19)) (sR .u32 x 10)
def schedVal (b:List Int)(p:Nat)(w:List Int)(t:Nat):Int :=
 if t < 16 then wordAt b (p+4 * t) else IntKind.u32.wrap (w.getD (t - 16) 0+sg0 (w.getD (t - 15) 0)+w.getD (t - 7) 0+sg1 (w.getD (t - 2) 0))
def schedR (b:List Int)(p:Nat):Nat→List Int
 | 0=>List.replicate 64 0
 | t+1=>(fun w=>w.set t (schedVal b p w t)) (schedR b p t)
def kc:List Int:=digest_keys.lit0
def rt1 (x:List Int)(k w:Int):Int:=IntKind.u32.wrap (x.getD 7 0+bXor .u32 (bXor .u32 (rotr (x.getD 4 0) 6) (rotr (x.getD 4 0) 11)) (rotr (x.getD 4 0) 25)+bXor .u32 (bAnd .u32 (x.getD 4 0) (x.getD 5 0)) (bAnd .u32 (bNot .u32 (x.getD 4 0)) (x.getD 6 0))+k+w)
def rt2 (x:List Int):Int:=bXor .u32 (bXor .u32 (rotr (x.getD 0 0) 2) (rotr (x.getD 0 0) 13)) (rotr (x.getD 0 0) 22)+bXor .u32 (bXor .u32 (bAnd .u32 (x.getD 0 0) (x.getD 1 0)) (bAnd .u32 (x.getD 0 0) (x.getD 2 0))) (bAnd .u32 (x.getD 1 0) (x.getD 2 0))
def rstep (x:List Int)(k w:Int):List Int :=
 [IntKind.u32.wrap (rt1 x k w+rt2 x),x.getD 0 0,x.getD 1 0,x.getD 2 0,IntKind.u32.wrap (x.getD 3 0+rt1 x k w),x.getD 4 0,x.getD 5 0,x.getD 6 0]
def roundR (w s:List Int):Nat→List Int
 | 0=>s
 | t+1=>rstep (roundR w s t) (kc.getD t 0) (w.getD t 0)
def addR (x s:List Int):Nat→List Int
 | 0=>s
 | i+1=>(fun z=>z.set i (IntKind.u32.wrap (z.getD i 0+x.getD i 0))) (addR x s i)
def mixV (s b:List Int)(p:Nat):List Int:=addR (roundR (schedR b p 64) s 64) s 8
def blocksR (m s:List Int):Nat→List Int
 | 0=>s
 | n+1=>mixV (blocksR m s n) m (64 * n)
def iv0:List Int:=[1779033703,3144134277,1013904242,2773480762,1359893119,2600822924,528734635,1541459225]
def outB (s:List Int)(i:Nat):Int:=IntKind.u8.wrap (sR .u32 (s.getD (i / 4) 0) (24 - 8 * ((i % 4:Nat):Int)))
def outL (s:List Int):List Int:=(List.range 32).map (outB s)
def zs (n:Nat):Nat:=(120 - n % 64) % 64
def lenB (n i:Nat):Int:=IntKind.u8.wrap (sR .u64 (IntKind.u64.wrap (8 * (n:Int))) (8 * (7 - (i:Int))))
def padR (m:List Int):List Int:=m++([128]++(List.replicate (zs (m.length+1)) 0++(List.range 8).map (lenB m.length)))
def sha (m:List Int):List Int:=outL (blocksR (padR m) iv0 ((padR m).length / 64))
theorem u32e (x:Int):IntKind.u32.wrap x=x % 4294967296:=by simp [IntKind.wrap,IntKind.signed,IntKind.bits]
theorem wl (a b:Int):IntKind.u32.wrap (IntKind.u32.wrap a+b)=IntKind.u32.wrap (a+b):=by simp only [u32e];omega
theorem wr (a b:Int):IntKind.u32.wrap (a+IntKind.u32.wrap b)=IntKind.u32.wrap (a+b):=by simp only [u32e];omega
theorem bOr_comm (k:IntKind)(a b:Int):bOr k a b=bOr k b a:=by unfold bOr;rw [BitVec.or_comm]
theorem right_f (x n:Int)(h0:0≤n)(h1:n≤32):q1_right.f x n=some (rotr x n):=by
 simp only [q1_right.f,rotr]
 rw [wu64 (x:=32 - n) (by omega) (by omega),if_pos h0,if_pos (by omega)]
theorem turn_f (x n:Int)(h0:0 < n)(h1:n < 32):digest_turn.f x n=some (rotr x n):=by
 simp only [digest_turn.f,math_bits_RotateLeft32.f,rotr]
 have e1:IntKind.i64.wrap (0 - n)=-n:=by rw [w64 (by omega) (by omega)];omega
 have e2:IntKind.u64.wrap (-n)=18446744073709551616 - n:=by
  simp [IntKind.wrap,IntKind.signed,IntKind.bits]
  omega
 obtain ⟨m,rfl⟩:∃ m:Nat,n=m:=⟨n.toNat,by omega⟩
 have e3:bAnd .u64 (18446744073709551616 - (m:Int)) 31=32 - (m:Int):=by
  have h:=bAnd_nat .u64 rfl (a:=18446744073709551616 - m) (b:=31) (by simp [IntKind.bits];omega) (by simp [IntKind.bits])
  have e:((18446744073709551616 - m:Nat):Int)=18446744073709551616 - (m:Int):=by omega
  rw [e] at h
  have h':(18446744073709551616 - m) &&& 31=(18446744073709551616 - m) % 32:=and_low _ 5
  rw [h'] at h
  rw [show ((31:Nat):Int)=31 from rfl] at h
  rw [h]
  omega
 rw [e1,e2,e3,wu64 (x:=32 - (32 - (m:Int))) (by omega) (by omega),if_pos (by omega),if_pos (by omega)]
 have e4:32 - (32 - (m:Int))=m:=by omega
 rw [e4,bOr_comm]
 rfl
theorem schedR_len (b:List Int)(p t:Nat):(schedR b p t).length=64:=by
 induction t with
 | zero=>simp [schedR]
 | succ t ih=>simp [schedR,ih]
theorem getD_drop' (l:List Int)(a i:Nat):(l.drop a).getD i 0=l.getD (a+i) 0:=by simp [List.getD]
theorem getD_take' (l:List Int)(a i:Nat)(h:i < a):(l.take a).getD i 0=l.getD i 0:=by simp [List.getD,h]
theorem wsub (i c:Nat)(hc:c≤i)(hi:i < 1000):IntKind.i64.wrap ((i:Int) - (c:Nat))=((i - c:Nat):Int):=by
 rw [w64 (by omega) (by omega)];omega
theorem wadd1 (i:Nat)(hi:i < 9223372036854775807):IntKind.i64.wrap ((i:Int)+1)=((i+1:Nat):Int):=by
 rw [w64 (by omega) (by omega)];omega
theorem wmul4 (i:Nat)(hi:i < 1000):IntKind.i64.wrap (4 * (i:Int))=((4 * i:Nat):Int):=by
 rw [w64 (by omega) (by omega)];omega
theorem spread_step (b:List Int)(h:b.length=64)(w:List Int)(i:Nat)(hi:i < 64):digest_spread.s0 b ((i:Int),w)=some (.inl (((i+1:Nat):Int),w.set i (schedVal b 0 w i))):=by
 simp only [digest_spread.s0]
 rw [if_pos (by omega)]
 by_cases h16:i < 16
 ·have hl:(b.take ((b.length:Int)).toNat).drop (IntKind.i64.wrap (4 * (i:Int))).toNat=b.drop (4 * i):=by
   rw [wmul4 i (by omega),Int.toNat_natCast,Int.toNat_natCast,List.take_length]
  have hll:(b.drop (4 * i)).length=64 - 4 * i:=by simp [h]
  rw [if_pos (by omega),hl,hll,wmul4 i (by omega),if_pos (by omega),if_pos (by omega),if_pos (by omega),if_pos (by omega),if_pos (by omega),if_pos (by omega)]
  simp only [Option.bind_some,getD_drop',Int.toNat_natCast]
  rw [wadd1 i (by omega)]
  simp only [schedVal,if_pos h16,wordAt,Nat.zero_add]
  rfl
 ·have e2:=wsub i 2 (by omega) (by omega)
  have e7:=wsub i 7 (by omega) (by omega)
  have e15:=wsub i 15 (by omega) (by omega)
  have e16:=wsub i 16 (by omega) (by omega)
  simp only [show ((2:Nat):Int)=2 from rfl,show ((7:Nat):Int)=7 from rfl,show ((15:Nat):Int)=15 from rfl,show ((16:Nat):Int)=16 from rfl] at e2 e7 e15 e16
  rw [if_neg (by omega),e2,e7,e15,e16,if_pos (by omega),if_pos (by omega),if_pos (by omega),if_pos (by omega)]
  simp only [Int.toNat_natCast,turn_f _ 17 (by omega) (by omega),turn_f _ 19 (by omega) (by omega),turn_f _ 7 (by omega) (by omega),turn_f _ 18 (by omega) (by omega),Option.bind_some]
  rw [if_pos (by omega),wadd1 i (by omega)]
  simp only [Option.bind_some,schedVal,if_neg h16,sg0,sg1]
  congr 4
  simp only [wl,wr]
  congr 1
  omega
theorem spread_eq (b:List Int)(h:b.length=64):digest_spread.f b=some (schedR b 0 64):=by
 simp only [digest_spread.f]
 have e:=loop_run (step:=digest_spread.s0 b) (s:=(0,List.replicate 64 0)) (fun i=>((i:Int),schedR b 0 i)) 64 (r:=schedR b 0 64) rfl (fun i hi=>by
  rw [spread_step b h _ i hi]
  rfl) (by simp only [digest_spread.s0];rw [if_neg (by decide)])
 rw [e]
 rfl
theorem mix0_step (w x:List Int)(i:Nat)(hi:i < 64):digest_mix.s0 w digest_keys.lit0 ((i:Int),x)=some (.inl (((i+1:Nat):Int),rstep x (kc.getD i 0) (w.getD i 0))):=by
 simp only [digest_mix.s0]
 rw [if_pos (by omega)]
 simp only [turn_f _ 6 (by omega) (by omega),turn_f _ 11 (by omega) (by omega),turn_f _ 25 (by omega) (by omega),turn_f _ 2 (by omega) (by omega),turn_f _ 13 (by omega) (by omega),turn_f _ 22 (by omega) (by omega),Option.bind_some,Int.toNat_natCast]
 rw [if_pos (by omega),wadd1 i (by omega)]
 simp only [rstep,rt1,rt2,kc,wl,wr,show (0:Int).toNat=0 from rfl,show (1:Int).toNat=1 from rfl,show (2:Int).toNat=2 from rfl,show (3:Int).toNat=3 from rfl,show (4:Int).toNat=4 from rfl,show (5:Int).toNat=5 from rfl,show (6:Int).toNat=6 from rfl,show (7:Int).toNat=7 from rfl]
theorem mix_eq (s b:List Int)(h:b.length=64):digest_mix.f s b=some (mixV s b 0):=by
 simp only [digest_mix.f,spread_eq b h,digest_keys.f,Option.bind_some]
 have e:=loop_run (step:=digest_mix.s0 (schedR b 0 64) digest_keys.lit0) (s:=(0,s)) (fun i=>((i:Int),roundR (schedR b 0 64) s i)) 64 (r:=roundR (schedR b 0 64) s 64) rfl (fun i hi=>by
  rw [mix0_step _ _ i hi]
  rfl) (by simp only [digest_mix.s0];rw [if_neg (by decide)])
 rw [e]
 simp only [Option.bind_some]
 have e:=loop_run (step:=digest_mix.s1 (roundR (schedR b 0 64) s 64)) (s:=(0,s)) (fun i=>((i:Int),addR (roundR (schedR b 0 64) s 64) s i)) 8 (r:=mixV s b 0) rfl (fun i hi=>by
  simp only [digest_mix.s1]
  rw [if_pos (by omega),if_pos (by omega),wadd1 i (by omega)]
  simp only [Int.toNat_natCast,addR]) (by simp only [digest_mix.s1];rw [if_neg (by decide)];rfl)
 rw [e]
 rfl
theorem wordAt_in (m:List Int)(a n t:Nat)(h:t < 16):wordAt ((m.take (a+64)).drop a) (4 * t)=wordAt m (a+4 * t):=by
 have e:∀ j,j < 64→((m.take (a+64)).drop a).getD j 0=m.getD (a+j) 0:=fun j hj=>by
  rw [getD_drop',getD_take' _ _ _ (by omega)]
 simp only [wordAt]
 rw [e _ (by omega),e _ (by omega),e _ (by omega),e _ (by omega)]
 simp only [Nat.add_assoc]
theorem schedR_in (m:List Int)(a t:Nat):schedR ((m.take (a+64)).drop a) 0 t=schedR m a t:=by
 induction t with
 | zero=>rfl
 | succ t ih =>
  simp only [schedR,ih]
  congr 1
  simp only [schedVal]
  by_cases h:t < 16
  ·simp only [if_pos h,Nat.zero_add]
   exact wordAt_in m a 0 t h
  ·simp only [if_neg h]
theorem mixV_in (s m:List Int)(a:Nat):mixV s ((m.take (a+64)).drop a) 0=mixV s m a:=by
 simp only [mixV,schedR_in]
theorem wordAt_app (m l:List Int)(p:Nat)(h:p+3 < m.length):wordAt (m++l) p=wordAt m p:=by
 have e:∀ j,j < m.length→(m++l).getD j 0=m.getD j 0:=fun j hj=>by simp [List.getD,List.getElem?_append_left hj]
 simp only [wordAt]
 rw [e _ (by omega),e _ (by omega),e _ (by omega),e _ (by omega)]
theorem schedR_app (m l:List Int)(p t:Nat)(h:p+64≤m.length):schedR (m++l) p t=schedR m p t:=by
 induction t with
 | zero=>rfl
 | succ t ih =>
  simp only [schedR,ih]
  congr 1
  simp only [schedVal]
  by_cases h:t < 16
  ·simp only [if_pos h]
   exact wordAt_app m l _ (by omega)
  ·simp only [if_neg h]
theorem blocksR_app (m l s:List Int)(n:Nat)(h:64 * n≤m.length):blocksR (m++l) s n=blocksR m s n:=by
 induction n with
 | zero=>rfl
 | succ n ih =>
  simp only [blocksR,ih (by omega),mixV]
  rw [schedR_app _ _ _ _ (by omega)]
theorem mixV_drop (s m:List Int)(q a:Nat):mixV s (m.drop q) a=mixV s m (q+a):=by
 have hw:∀ p,wordAt (m.drop q) p=wordAt m (q+p):=fun p=>by
  simp only [wordAt,getD_drop',Nat.add_assoc]
 have hs:∀ t,schedR (m.drop q) a t=schedR m (q+a) t:=fun t=>by
  induction t with
  | zero=>rfl
  | succ t ih =>
   simp only [schedR,ih]
   congr 1
   simp only [schedVal,hw,Nat.add_assoc]
 simp only [mixV,hs]
theorem addR_len (x s:List Int)(i:Nat):(addR x s i).length=s.length:=by
 induction i with
 | zero=>rfl
 | succ i ih=>simp [addR,ih]
theorem mixV_len (s m:List Int)(a:Nat):(mixV s m a).length=s.length:=addR_len _ _ _
theorem blocksR_len (m s:List Int)(n:Nat):(blocksR m s n).length=s.length:=by
 induction n with
 | zero=>rfl
 | succ n ih=>rw [blocksR,mixV_len,ih]
def WIn (w:dWr)(m:List Int):Prop:=w.n=m.length∧w.rest=m.drop (64 * (m.length / 64))∧(64≤m.length→w.s=blocksR m iv0 (m.length / 64))
theorem clone_eq (xs:List Int)(h:xs.length≤140737488355328):bytes_Clone.f xs=some xs:=by
 unfold bytes_Clone.f
 rw [if_pos h]
theorem state_eq {w:dWr}{m:List Int}(h:WIn w m):dW_state.f w=some (blocksR m iv0 (m.length / 64)):=by
 obtain ⟨h1,h2,h3⟩:=h
 simp only [dW_state.f,digest_begin.f,Option.bind_some,h1]
 by_cases hc:m.length < 64
 ·rw [if_pos (by omega),Nat.div_eq_of_lt hc]
  rfl
 ·rw [if_neg (by omega),h3 (by omega)]
theorem write_eq {w:dWr}{m b:List Int}(h:WIn w m)(hb:m.length+b.length≤1000000):∃ w',dW_Write.f w b=some w'∧WIn w' (m++b):=by
 have hs:=state_eq h
 obtain ⟨h1,h2,h3⟩:=h
 generalize hq:m.length / 64=q at hs h2
 have hq1:64 * q≤m.length:=by omega
 have hR:w.rest++b=(m++b).drop (64 * q):=by rw [h2,List.drop_append_of_le_length hq1]
 have hRl:(w.rest++b).length=m.length+b.length - 64 * q:=by rw [hR];simp
 generalize hRe:w.rest++b=R at hR hRl
 generalize hc:R.length / 64=c
 have hloop:loopO dW_Write.s0 (0,blocksR m iv0 q,R)=some (((64 * c:Nat):Int),blocksR (m++b) iv0 (q+c),R):=by
  refine loop_run (fun i=>(((64 * i:Nat):Int),blocksR (m++b) iv0 (q+i),R)) c ?_ (fun i hi=>?_) ?_
  ·rw [Nat.add_zero,blocksR_app _ _ _ _ hq1];rfl
  ·simp only [dW_Write.s0]
   have e:IntKind.i64.wrap (((64 * i:Nat):Int)+64)=((64 * i+64:Nat):Int):=by rw [w64 (by omega) (by omega)];omega
   rw [e,if_pos (by omega),if_pos (by omega),Int.toNat_natCast,Int.toNat_natCast,mix_eq _ _ (by simp;omega)]
   simp only [Option.bind_some]
   rw [mixV_in,hR,mixV_drop,← Nat.mul_add]
   rfl
  ·simp only [dW_Write.s0]
   rw [w64 (by omega) (by omega),if_neg (by omega)]
 refine ⟨⟨blocksR (m++b) iv0 (q+c),R.drop (64 * c),m.length+b.length⟩,?_,by simp,?_,fun _=>?_⟩
 ·simp only [dW_Write.f]
  have hs':dW_state.f ⟨w.s,w.rest,w.n⟩=some (blocksR m iv0 q):=hs
  have hw:w.rest.length+b.length=R.length:=by rw [← hRe,List.length_append]
  rw [hs',hRe,hw]
  simp only [Option.bind_some]
  rw [if_pos (by omega),hloop]
  simp only [Option.bind_some]
  rw [if_pos (by omega),Int.toNat_natCast,Int.toNat_natCast,List.take_length,clone_eq _ (by simp;omega)]
  simp only [Option.bind_some]
  rw [h1,w64 (by omega) (by omega)]
 ·have:64 * ((m++b).length / 64)=64 * q+64 * c:=by rw [List.length_append];omega
  rw [this,hR,List.drop_drop]
 ·have:(m++b).length / 64=q+c:=by rw [List.length_append];omega
  rw [this]
theorem set_next {α:Type}(f:Nat→α)(n j:Nat)(z:α)(h:j < n):((List.range j).map f++List.replicate (n - j) z).set j (f j)=(List.range (j+1)).map f++List.replicate (n - (j+1)) z:=by
 obtain ⟨k,hk⟩:∃ k,n - j=k+1:=⟨n - j - 1,by omega⟩
 have hk':n - (j+1)=k:=by omega
 rw [hk,hk',List.set_append_right _ _ (by simp),List.range_succ,List.map_append,List.append_assoc]
 simp [List.replicate_succ]
theorem zeros_loop (step:List Int→Option (List Int⊕List Int))(hs:∀ l,step l=(if (Int.tmod (l.length:Int) 64)≠56 then (if l.length+1≤140737488355328 then some (.inl (l++([0]:List Int))) else none) else some (.inr l)))
  (l:List Int) (h:l.length≤2000000):loopO step l=some (l++List.replicate (zs l.length) 0):=by
 refine loop_run (fun i=>l++List.replicate i 0) (zs l.length) (by simp) (fun i hi=>?_) ?_
 ·rw [hs,if_pos ?_,if_pos (by simp [zs] at hi ⊢;omega)]
  ·simp [List.replicate_succ',List.append_assoc]
  ·rw [List.length_append,List.length_replicate,Int.tmod_eq_emod_of_nonneg (by omega)]
   simp only [zs] at hi
   omega
 ·rw [hs,if_neg ?_]
  rw [List.length_append,List.length_replicate,Int.tmod_eq_emod_of_nonneg (by omega)]
  simp only [zs]
  omega
theorem range_map_succ {α:Type}(f:Nat→α)(i:Nat):(List.range (i+1)).map f=(List.range i).map f++[f i]:=by rw [List.range_succ,List.map_append];rfl
theorem lenB_digest (n i:Nat)(hn:n≤1000000)(hi:i < 8):IntKind.u8.wrap (sR .u64 (sL .u64 (IntKind.u64.wrap (n:Int)) 3) (IntKind.i64.wrap (8 * (7 - (i:Int)))))=lenB n i:=by
 have e1:sL .u64 (IntKind.u64.wrap (n:Int)) 3=IntKind.u64.wrap (8 * (n:Int)):=by
  rw [wu64 (by omega) (by omega)]
  simp only [sL,show (3:Int).toNat=3 from rfl]
  rw [show ((2:Int) ^ (min 3 IntKind.u64.bits))=8 from rfl,Int.mul_comm]
 rw [e1,w64 (by omega) (by omega)]
 rfl
theorem padR_len (m:List Int):(padR m).length=m.length+1+zs (m.length+1)+8:=by
 simp [padR];omega
theorem padR_mod (m:List Int):(padR m).length % 64=0:=by
 rw [padR_len];simp only [zs];omega
theorem out_eq4 (s:List Int)(i:Nat)(hi:i < 8):loopO (dW_Sum.s4 s (i:Int)) (0,(List.range (4 * i)).map (outB s)++List.replicate (32 - 4 * i) 0)=some ((List.range (4 * (i+1))).map (outB s)++List.replicate (32 - 4 * (i+1)) 0):=by
 refine loop_run (fun k=>((k:Int),(List.range (4 * i+k)).map (outB s)++List.replicate (32 - (4 * i+k)) 0)) 4 (by simp) (fun k hk=>?_) ?_
 ·simp only [dW_Sum.s4]
  have e1:IntKind.i64.wrap (24 - IntKind.i64.wrap (8 * (k:Int)))=24 - 8 * (k:Int):=by
   rw [w64 (x:=8 * (k:Int)) (by omega) (by omega),w64 (by omega) (by omega)]
  have e2:IntKind.i64.wrap (IntKind.i64.wrap (4 * (i:Int))+(k:Int))=((4 * i+k:Nat):Int):=by
   rw [w64 (x:=4 * (i:Int)) (by omega) (by omega),w64 (by omega) (by omega)];omega
  rw [if_pos (by omega),e1,e2,if_pos (by omega),if_pos (by omega),wadd1 k (by omega),Int.toNat_natCast,Int.toNat_natCast]
  have e3:IntKind.u8.wrap (sR .u32 (s.getD i 0) (24 - 8 * (k:Int)))=outB s (4 * i+k):=by
   have a1:(4 * i+k) / 4=i:=by omega
   have a2:(4 * i+k) % 4=k:=by omega
   simp only [outB,a1,a2]
  rw [e3,set_next _ _ _ _ (by omega)]
  rfl
 ·simp only [dW_Sum.s4]
  rw [if_neg (by decide)]
  rfl
theorem out_eq (s:List Int):loopO (dW_Sum.s3 s) (0,List.replicate 32 0)=some (outL s):=by
 refine loop_run (fun i=>((i:Int),(List.range (4 * i)).map (outB s)++List.replicate (32 - 4 * i) 0)) 8 (by simp) (fun i hi=>?_) ?_
 ·simp only [dW_Sum.s3]
  rw [if_pos (by omega),if_pos (by omega),out_eq4 s i hi]
  simp only [Option.bind_some]
  rw [wadd1 i (by omega)]
 ·simp only [dW_Sum.s3]
  rw [if_neg (by decide)]
  rfl
theorem sum_eq' {w:dWr}{m:List Int}(h:WIn w m)(hb:m.length≤1000000):dW_Sum.f w=some (sha m):=by
 have hs:=state_eq h
 obtain ⟨h1,h2,h3⟩:=h
 generalize hq:m.length / 64=q at hs h2
 have hq1:64 * q≤m.length:=by omega
 have hrl:w.rest.length=m.length - 64 * q:=by rw [h2];simp
 have hz:zs (w.rest++[128]).length=zs (m.length+1):=by simp only [List.length_append,hrl,zs,List.length_cons,List.length_nil];omega
 have hz64:zs (m.length+1) < 64:=by simp only [zs];omega
 have hC:w.rest++[128]++List.replicate (zs (m.length+1)) 0++(List.range 8).map (lenB m.length)=(padR m).drop (64 * q):=by
  rw [h2,padR,List.drop_append_of_le_length hq1]
  simp only [List.append_assoc]
 have hl1:loopO (dW_Sum.s1 w) (w.rest++[128]++List.replicate (zs (m.length+1)) 0,7)=some ((padR m).drop (64 * q)):=by
  refine loop_run (fun i=>(w.rest++[128]++List.replicate (zs (m.length+1)) 0++(List.range i).map (lenB m.length),7 - (i:Int))) 8 (by simp) (fun i hi=>?_) ?_
  ·simp only [dW_Sum.s1]
   rw [if_pos (by omega),if_pos (by rw [w64 (by omega) (by omega)];omega),if_pos (by simp;omega),h1,lenB_digest _ _ hb hi,w64 (by omega) (by omega)]
   congr 2
   rw [range_map_succ,← List.append_assoc]
   congr 1
   omega
  ·simp only [dW_Sum.s1]
   rw [if_neg (by decide),hC]
 have hpl:=padR_len m
 have hpm:=padR_mod m
 have hCl:((padR m).drop (64 * q)).length=(padR m).length - 64 * q:=by simp
 generalize hc:((padR m).drop (64 * q)).length / 64=c at *
 have hl2:loopO dW_Sum.s2 ((padR m).drop (64 * q),0,blocksR m iv0 q)=some ((padR m).drop (64 * q),blocksR (padR m) iv0 (q+c)):=by
  refine loop_run (fun i=>((padR m).drop (64 * q),((64 * i:Nat):Int),blocksR (padR m) iv0 (q+i))) c ?_ (fun i hi=>?_) ?_
  ·rw [Nat.add_zero]
   have:blocksR (padR m) iv0 q=blocksR m iv0 q:=blocksR_app _ _ _ _ hq1
   rw [this];rfl
  ·simp only [dW_Sum.s2]
   have e:IntKind.i64.wrap (((64 * i:Nat):Int)+64)=((64 * i+64:Nat):Int):=by rw [w64 (by omega) (by omega)];omega
   rw [if_pos (by omega),e,if_pos (by omega),Int.toNat_natCast,Int.toNat_natCast,mix_eq _ _ (by simp;omega)]
   simp only [Option.bind_some]
   rw [mixV_in,mixV_drop,← Nat.mul_add]
   rfl
  ·simp only [dW_Sum.s2]
   rw [if_neg (by omega)]
 simp only [dW_Sum.f]
 have hs':dW_state.f ⟨w.s,w.rest,w.n⟩=some (blocksR m iv0 q):=hs
 rw [clone_eq _ (by omega)]
 simp only [Option.bind_some]
 rw [if_pos (by omega),zeros_loop dW_Sum.s0 (fun l=>rfl) _ (by simp;omega),hz]
 simp only [Option.bind_some]
 rw [hl1]
 simp only [Option.bind_some]
 rw [hs']
 simp only [Option.bind_some]
 rw [hl2]
 simp only [Option.bind_some]
 rw [out_eq]
 simp only [Option.bind_some,sha]
 congr 3
 omega
theorem wIn0 (s:List Int):WIn ⟨s,[],0⟩ []:=⟨rfl,rfl,fun h=>by simp at h⟩
theorem sha_eq (m:List Int)(hb:m.length≤1000000):digest_Sha.f m=some (sha m):=by
 obtain ⟨w',e,hw⟩:=write_eq (wIn0 (List.replicate 8 0)) (b:=m) (by simpa using hb)
 simp only [digest_Sha.f,e,Option.bind_some]
 have:dW_Sum.f ⟨w'.s,w'.rest,w'.n⟩=some (sha m):=sum_eq' hw (by simpa using hb)
 rw [this]
 rfl
theorem outL_len (s:List Int):(outL s).length=32:=by simp [outL]
theorem sha_len (m:List Int):(sha m).length=32:=outL_len _
theorem twice_eq (m:List Int)(hb:m.length≤1000000):digest_Twice.f m=some (sha (sha m)):=by
 simp only [digest_Twice.f,sha_eq m hb,Option.bind_some,sha_eq (sha m) (by rw [sha_len];omega)]
theorem sha_arr (m:List Int):Arr .u8 32 (sha m):=⟨sha_len m,fun x hx=>by
 simp only [sha,outL,List.mem_map] at hx
 obtain ⟨i,_,rfl⟩:=hx
 exact wrap_in _ _⟩
end Go.Proofs.YticejmbhhehfdaaGreatDoor.T
