/- Proved: the statement TreePlays, as given (its conditions are those of the given row, and card where there is one; no others): the call ends, with true, and the input reads as it did. This file is one of its parts. -/
import Derived.Test.YtdngkgkkblfcjaaGreatDoorPTreePlays4
namespace Go.Proofs.YtdngkgkkblfcjaaGreatDoor.T
open Go Go.Proofs Go.Proofs.YtdngkgkkblfcjaaGreatDoor.K
set_option linter.unusedVariables false
set_option linter.unusedSimpArgs false
set_option maxRecDepth 20000
theorem tree_New.c (μ:Store)(w0:World)(hμ:Agr μ w0)(x0:Head)(hx0:HeadW μ x0)(r:treeTree)(H:tree_New.f x0=some r) :
  Calls Tryz.prog 7 [.agg [[.int .u32 x0.Version],av .u8 32 x0.Prev,av .u8 32 x0.Root,[.int .u32 x0.Time],[.int .u32 x0.Work],[.int .u32 x0.Nonce]].flatten.toArray].toArray w0 (fun e w'=>∃ v,e=.returned v∧∃(gq_1 gm_1:Nat)(gs_1:(List Int)→NG),v=pt gq_1 0∧nw107 μ r.m gs_1∧Arr .u8 32 r.start∧Iv w0 [] μ μ [cel gq_1 [[.map (some gm_1)],av .u8 32 r.start] 109,nd107 gm_1 r.m gs_1] w'):=by
 refine enter Tryz.func7 rfl Tryz.ntmps7 rfl fun a hA=>?_
 have hI:=Iv.start hμ
 have H:=bI H
 refine w_seq fun _ hN1=>w_reg<|o_box [[.int .u32 x0.Version],av .u8 32 x0.Prev,av .u8 32 x0.Root,[.int .u32 x0.Time],[.int .u32 x0.Work],[.int .u32 x0.Nonce]] hI hA rfl rfl rfl fun g1 a w hA hI hg1 =>
  sta hA rfl rfl fun a hA=>?_
 refine o_nil<|hN1 _ _<|w_seq fun _ hN2=>w_reg<|stp hA (r_ldA (j:=0) [] [[.int .u32 x0.Version],av .u8 32 x0.Prev,av .u8 32 x0.Root,[.int .u32 x0.Time],[.int .u32 x0.Work],[.int .u32 x0.Nonce]] [] U27 rfl sz27 rfl hI rfl hA rfl rfl) rfl fun a hA=>?_
 obtain ⟨r1,hr1,H⟩:=bB H
 refine o_callp (u:=.agg [av .u8 32 r1].flatten.toArray) cf50 hA rfl hI (head_ID.c μ _ hI.agr x0 ⟨hx0.1,hx0.2.1,hx0.2.2.1,hx0.2.2.2.1,hx0.2.2.2.2.1,hx0.2.2.2.2.2⟩ r1 hr1) rfl fun a w hz1 hI hA =>
  o_new [av .u8 32 Z32] zr25 hI hA rfl fun g2 a w hA hI hg2 =>
  o_st (j:=0) [] [av .u8 32 Z32] [av .u8 32 r1] [] sz25 rfl rfl (fl_cons (one_av _ _ _) fl_nil) hI rfl hA rfl rfl rfl rfl fun w hI=>?_
 refine o_nil<|hN2 _ _<|w_seq fun _ hN3=>?_
 refine w_anyS [] mo (fun w (h:Iv w0 [] μ μ [cel g2 [av .u8 32 r1] 25,cel g1 [[.int .u32 x0.Version],av .u8 32 x0.Prev,av .u8 32 x0.Root,[.int .u32 x0.Time],[.int .u32 x0.Work],[.int .u32 x0.Nonce]] 27] w)=>(h.sl [0,1] rfl:Iv w0 [] μ μ [cel g2 [av .u8 32 r1] 25,cel g1 [[.int .u32 x0.Version],av .u8 32 x0.Prev,av .u8 32 x0.Root,[.int .u32 x0.Time],[.int .u32 x0.Work],[.int .u32 x0.Nonce]] 27] w)) hI fun w hI=>?_
 refine gT 1 hA rfl hI (fun w hI=>r_ldA (j:=0) [] [av .u8 32 r1] [] U25 rfl sz25 rfl hI rfl hA rfl rfl) fun a hA=>?_
 refine gT 2 hA rfl hI (fun w hI=>r_ldA (j:=1) [] [[.int .u32 x0.Version],av .u8 32 x0.Prev,av .u8 32 x0.Root,[.int .u32 x0.Time],[.int .u32 x0.Work],[.int .u32 x0.Nonce]] [] U27 rfl sz27 rfl hI rfl hA rfl rfl) fun a hA=>?_
 refine gE 3 hA rfl (.inr hI) (fun _=>r_fd (k:=66) U27 rfl sz23 hA rfl rfl) fun a hA=>?_
 refine gT 4 hA rfl hI (fun w hI=>r_ld1 (j:=1) [[.int .u32 x0.Version],av .u8 32 x0.Prev,av .u8 32 x0.Root,[.int .u32 x0.Time]] [[.int .u32 x0.Nonce]] U23 rfl hI rfl hA rfl rfl) fun a hA=>?_
 refine gE 5 hA rfl (.inr hI) (fun _=>r_conv U23 U45 hA rfl) fun a hA=>?_
 refine gT 10 hA rfl hI (fun w hI=>r_ldA (j:=0) [] [av .u8 32 r1] [] U25 rfl sz25 rfl hI rfl hA rfl rfl) fun a hA=>?_
 refine g_fork (i:=0) (is:=[6]) (by kernel_rfl) (List.forall_mem_cons.2 ⟨⟨_,rfl,?_⟩,(List.forall_mem_cons.2 ⟨⟨_,rfl,?_⟩,List.forall_mem_nil _⟩)⟩)
 ·skip
  refine o_mknd kv107 treeNodeC 106 25 32 (fun x=>x.up.length) hI hA rfl fun g3 a w hI hA=>?_
  refine o_nil<|⟨(.inr (hI.sl [1,2] rfl)),?_⟩
  refine gF 6 rfl ?_
  refine stp hA (r_bldS (cs:=[[.int .u32 x0.Version],av .u8 32 x0.Prev,av .u8 32 x0.Root,[.int .u32 x0.Time],[.int .u32 x0.Work],[.int .u32 x0.Nonce],[.int .i64 0],[.int .u64 (IntKind.u64.wrap x0.Work)],[Sn]].flatten.toArray) (pl:=[(0,68),(68,1),(69,1),(70,1)]) zr106 U106 ⟨rfl,sz27,rfl,sz3,rfl,sz45,rfl,sz42,trivial⟩ hA rfl (by kernel_rfl)) rfl fun a hA=>?_
  refine o_nil<|⟨(.inr (hI.sl [1,2] rfl)),?_⟩
  refine gF 7 rfl ?_
  refine o_box [[.int .u32 x0.Version],av .u8 32 x0.Prev,av .u8 32 x0.Root,[.int .u32 x0.Time],[.int .u32 x0.Work],[.int .u32 x0.Nonce],[.int .i64 0],[.int .u64 (IntKind.u64.wrap x0.Work)],[Sn]] hI hA rfl rfl rfl fun g4 a w hA hI hg4=>?_
  refine o_nil<|⟨(.inr (hI.sl [2,3] rfl)),?_⟩
  refine gF 8 rfl ?_
  have hI:=hI.nilRow 25 32
  obtain ⟨hb1,H⟩:=bG H
  have hno1:=Option.isNone_iff_eq_none.1 hb1
  have hI:Iv w0 [] μ μ [cel g4 (treeNodeC ((⟨x0,0,IntKind.u64.wrap x0.Work,([]:List (List Int))⟩:treeNode):treeNode) Sn) 106,row 25 32 Sn ((⟨x0,0,IntKind.u64.wrap x0.Work,([]:List (List Int))⟩:treeNode):treeNode).up.length ([]),nd107 g3 ([]:List ((List Int)×treeNode)) (fun _=>(0,.pointer none,[])),cel g2 [av .u8 32 r1] 25,cel g1 [[.int .u32 x0.Version],av .u8 32 x0.Prev,av .u8 32 x0.Root,[.int .u32 x0.Time],[.int .u32 x0.Work],[.int .u32 x0.Nonce]] 27] w:=hI.sl [1,0,2,3,4] rfl
  refine o_nins (NC:=treeNodeC) (ln:=fun x=>x.up.length) (kv:=kv107) g4 ((⟨x0,0,IntKind.u64.wrap x0.Work,([]:List (List Int))⟩:treeNode):treeNode) kn107 U107 (NdW.nil:nw107 μ [] (fun _=>(0,.pointer none,[]))).1 hz1 hno1 hI hA rfl rfl rfl fun w hI=>?_
  refine o_nil<|⟨(.inr (hI.sl [1,2] rfl)),?_⟩
  refine gE 9 hA rfl (.inr (hI.sl [1,2] rfl)) (fun _=>r_mv hA rfl) fun a hA=>?_
  refine gF 11 rfl ?_
  refine stp hA (r_bldS (cs:=[[.map (some g3)],av .u8 32 r1].flatten.toArray) (pl:=[(0,1),(1,32)]) zr109 U109 ⟨rfl,sz107,rfl,sz25,trivial⟩ hA rfl ((fill_seg [] [[.map none]] [[.map (some g3)]] [av .u8 32 Z32] rfl rfl rfl rfl rfl).trans ((fill_seg [[.map (some g3)]] [av .u8 32 Z32] [av .u8 32 r1] [] rfl rfl rfl rfl rfl).trans (rfl)))) rfl fun a hA=>?_
  refine o_nil<|⟨(.inr (hI.sl [1,2] rfl)),?_⟩
  refine gF 12 rfl ?_
  refine o_box [[.map (some g3)],av .u8 32 r1] hI hA rfl rfl rfl fun g5 a w hA hI hg5=>?_
  refine o_nil<|⟨(.inr (hI.sl [2,3] rfl)),?_⟩
  refine gE 13 hA rfl (.inr (hI.sl [2,3] rfl)) (fun _=>r_as hA rfl) fun a hA=>?_
  refine gN<|hN3 _ _<|w_ret ?_
  obtain rfl:=sJ H
  exact ret1 hA Tryz.results7 rfl ⟨_,rfl,g5,g3,(gup (fun _=>(0,.pointer none,[])) r1 (g4,Sn,[])),rfl,(NdW.put (u:=(g4,Sn,[])) (NdW.nil:nw107 μ [] (fun _=>(0,.pointer none,[]))) hz1 ⟨⟨hx0.1,hx0.2.1,hx0.2.2.1,hx0.2.2.2.1,hx0.2.2.2.2.1,hx0.2.2.2.2.2⟩,(in_lit .i64 0 rfl),(wrap_in _ _),(Els.nil (RE:=(RA .u8 32)) (sz:=32))⟩),hz1,((hI.sl [0,1] rfl).less (Store.le.refl _) hI.le)⟩
 ·skip
  refine stp hA (r_bldS (cs:=[[.int .u32 x0.Version],av .u8 32 x0.Prev,av .u8 32 x0.Root,[.int .u32 x0.Time],[.int .u32 x0.Work],[.int .u32 x0.Nonce],[.int .i64 0],[.int .u64 (IntKind.u64.wrap x0.Work)],[Sn]].flatten.toArray) (pl:=[(0,68),(68,1),(69,1),(70,1)]) zr106 U106 ⟨rfl,sz27,rfl,sz3,rfl,sz45,rfl,sz42,trivial⟩ hA rfl (by kernel_rfl)) rfl fun a hA=>?_
  refine o_nil<|⟨(.inr hI),?_⟩
  refine g_fork (i:=0) (is:=[7]) (by kernel_rfl) (List.forall_mem_cons.2 ⟨⟨_,rfl,?_⟩,(List.forall_mem_cons.2 ⟨⟨_,rfl,?_⟩,List.forall_mem_nil _⟩)⟩)
  ·skip
   refine o_mknd kv107 treeNodeC 106 25 32 (fun x=>x.up.length) hI hA rfl fun g3 a w hI hA=>?_
   refine o_nil<|⟨(.inr (hI.sl [1,2] rfl)),?_⟩
   refine gF 7 rfl ?_
   refine o_box [[.int .u32 x0.Version],av .u8 32 x0.Prev,av .u8 32 x0.Root,[.int .u32 x0.Time],[.int .u32 x0.Work],[.int .u32 x0.Nonce],[.int .i64 0],[.int .u64 (IntKind.u64.wrap x0.Work)],[Sn]] hI hA rfl rfl rfl fun g4 a w hA hI hg4=>?_
   refine o_nil<|⟨(.inr (hI.sl [2,3] rfl)),?_⟩
   refine gF 8 rfl ?_
   have hI:=hI.nilRow 25 32
   obtain ⟨hb1,H⟩:=bG H
   have hno1:=Option.isNone_iff_eq_none.1 hb1
   have hI:Iv w0 [] μ μ [cel g4 (treeNodeC ((⟨x0,0,IntKind.u64.wrap x0.Work,([]:List (List Int))⟩:treeNode):treeNode) Sn) 106,row 25 32 Sn ((⟨x0,0,IntKind.u64.wrap x0.Work,([]:List (List Int))⟩:treeNode):treeNode).up.length ([]),nd107 g3 ([]:List ((List Int)×treeNode)) (fun _=>(0,.pointer none,[])),cel g2 [av .u8 32 r1] 25,cel g1 [[.int .u32 x0.Version],av .u8 32 x0.Prev,av .u8 32 x0.Root,[.int .u32 x0.Time],[.int .u32 x0.Work],[.int .u32 x0.Nonce]] 27] w:=hI.sl [1,0,2,3,4] rfl
   refine o_nins (NC:=treeNodeC) (ln:=fun x=>x.up.length) (kv:=kv107) g4 ((⟨x0,0,IntKind.u64.wrap x0.Work,([]:List (List Int))⟩:treeNode):treeNode) kn107 U107 (NdW.nil:nw107 μ [] (fun _=>(0,.pointer none,[]))).1 hz1 hno1 hI hA rfl rfl rfl fun w hI=>?_
   refine o_nil<|⟨(.inr (hI.sl [1,2] rfl)),?_⟩
   refine gE 9 hA rfl (.inr (hI.sl [1,2] rfl)) (fun _=>r_mv hA rfl) fun a hA=>?_
   refine gF 11 rfl ?_
   refine stp hA (r_bldS (cs:=[[.map (some g3)],av .u8 32 r1].flatten.toArray) (pl:=[(0,1),(1,32)]) zr109 U109 ⟨rfl,sz107,rfl,sz25,trivial⟩ hA rfl ((fill_seg [] [[.map none]] [[.map (some g3)]] [av .u8 32 Z32] rfl rfl rfl rfl rfl).trans ((fill_seg [[.map (some g3)]] [av .u8 32 Z32] [av .u8 32 r1] [] rfl rfl rfl rfl rfl).trans (rfl)))) rfl fun a hA=>?_
   refine o_nil<|⟨(.inr (hI.sl [1,2] rfl)),?_⟩
   refine gF 12 rfl ?_
   refine o_box [[.map (some g3)],av .u8 32 r1] hI hA rfl rfl rfl fun g5 a w hA hI hg5=>?_
   refine o_nil<|⟨(.inr (hI.sl [2,3] rfl)),?_⟩
   refine gE 13 hA rfl (.inr (hI.sl [2,3] rfl)) (fun _=>r_as hA rfl) fun a hA=>?_
   refine gN<|hN3 _ _<|w_ret ?_
   obtain rfl:=sJ H
   exact ret1 hA Tryz.results7 rfl ⟨_,rfl,g5,g3,(gup (fun _=>(0,.pointer none,[])) r1 (g4,Sn,[])),rfl,(NdW.put (u:=(g4,Sn,[])) (NdW.nil:nw107 μ [] (fun _=>(0,.pointer none,[]))) hz1 ⟨⟨hx0.1,hx0.2.1,hx0.2.2.1,hx0.2.2.2.1,hx0.2.2.2.2.1,hx0.2.2.2.2.2⟩,(in_lit .i64 0 rfl),(wrap_in _ _),(Els.nil (RE:=(RA .u8 32)) (sz:=32))⟩),hz1,((hI.sl [0,1] rfl).less (Store.le.refl _) hI.le)⟩
  ·skip
   refine o_box [[.int .u32 x0.Version],av .u8 32 x0.Prev,av .u8 32 x0.Root,[.int .u32 x0.Time],[.int .u32 x0.Work],[.int .u32 x0.Nonce],[.int .i64 0],[.int .u64 (IntKind.u64.wrap x0.Work)],[Sn]] hI hA rfl rfl rfl fun g3 a w hA hI hg3=>?_
   refine o_nil<|⟨(.inr (hI.sl [1,2] rfl)),?_⟩
   refine gF 0 rfl ?_
   refine o_mknd kv107 treeNodeC 106 25 32 (fun x=>x.up.length) hI hA rfl fun g4 a w hI hA=>?_
   refine o_nil<|⟨(.inr (hI.sl [2,3] rfl)),?_⟩
   refine gF 8 rfl ?_
   have hI:=hI.nilRow 25 32
   obtain ⟨hb1,H⟩:=bG H
   have hno1:=Option.isNone_iff_eq_none.1 hb1
   have hI:Iv w0 [] μ μ [cel g3 (treeNodeC ((⟨x0,0,IntKind.u64.wrap x0.Work,([]:List (List Int))⟩:treeNode):treeNode) Sn) 106,row 25 32 Sn ((⟨x0,0,IntKind.u64.wrap x0.Work,([]:List (List Int))⟩:treeNode):treeNode).up.length ([]),nd107 g4 ([]:List ((List Int)×treeNode)) (fun _=>(0,.pointer none,[])),cel g2 [av .u8 32 r1] 25,cel g1 [[.int .u32 x0.Version],av .u8 32 x0.Prev,av .u8 32 x0.Root,[.int .u32 x0.Time],[.int .u32 x0.Work],[.int .u32 x0.Nonce]] 27] w:=hI.sl [2,0,1,3,4] rfl
   refine o_nins (NC:=treeNodeC) (ln:=fun x=>x.up.length) (kv:=kv107) g3 ((⟨x0,0,IntKind.u64.wrap x0.Work,([]:List (List Int))⟩:treeNode):treeNode) kn107 U107 (NdW.nil:nw107 μ [] (fun _=>(0,.pointer none,[]))).1 hz1 hno1 hI hA rfl rfl rfl fun w hI=>?_
   refine o_nil<|⟨(.inr (hI.sl [1,2] rfl)),?_⟩
   refine gE 9 hA rfl (.inr (hI.sl [1,2] rfl)) (fun _=>r_mv hA rfl) fun a hA=>?_
   refine gF 11 rfl ?_
   refine stp hA (r_bldS (cs:=[[.map (some g4)],av .u8 32 r1].flatten.toArray) (pl:=[(0,1),(1,32)]) zr109 U109 ⟨rfl,sz107,rfl,sz25,trivial⟩ hA rfl ((fill_seg [] [[.map none]] [[.map (some g4)]] [av .u8 32 Z32] rfl rfl rfl rfl rfl).trans ((fill_seg [[.map (some g4)]] [av .u8 32 Z32] [av .u8 32 r1] [] rfl rfl rfl rfl rfl).trans (rfl)))) rfl fun a hA=>?_
   refine o_nil<|⟨(.inr (hI.sl [1,2] rfl)),?_⟩
   refine gF 12 rfl ?_
   refine o_box [[.map (some g4)],av .u8 32 r1] hI hA rfl rfl rfl fun g5 a w hA hI hg5=>?_
   refine o_nil<|⟨(.inr (hI.sl [2,3] rfl)),?_⟩
   refine gE 13 hA rfl (.inr (hI.sl [2,3] rfl)) (fun _=>r_as hA rfl) fun a hA=>?_
   refine gN<|hN3 _ _<|w_ret ?_
   obtain rfl:=sJ H
   exact ret1 hA Tryz.results7 rfl ⟨_,rfl,g5,g4,(gup (fun _=>(0,.pointer none,[])) r1 (g3,Sn,[])),rfl,(NdW.put (u:=(g3,Sn,[])) (NdW.nil:nw107 μ [] (fun _=>(0,.pointer none,[]))) hz1 ⟨⟨hx0.1,hx0.2.1,hx0.2.2.1,hx0.2.2.2.1,hx0.2.2.2.2.1,hx0.2.2.2.2.2⟩,(in_lit .i64 0 rfl),(wrap_in _ _),(Els.nil (RE:=(RA .u8 32)) (sz:=32))⟩),hz1,((hI.sl [0,1] rfl).less (Store.le.refl _) hI.le)⟩
theorem tree_Tree_Height.c (μ:Store)(w0:World)(hμ:Agr μ w0)(x0:treeTree)(gm1:Nat)(gs1:(List Int)→NG)(g0:Nat)(hp1:nw107 μ x0.m gs1)(hp2:Arr .u8 32 x0.start)(ho0:Its μ w0 [cel g0 [[.map (some gm1)],av .u8 32 x0.start] 109,nd107 gm1 x0.m gs1])(x1:List Int)(hx1:Arr .u8 32 x1)(r:Int×Bool)(H:tree_Tree_Height.f x0 x1=some r) :
  Calls Tryz.prog 16 [pt g0 0,.agg [av .u8 32 x1].flatten.toArray].toArray w0 (fun e w'=>∃ v,e=.returned v∧v=.tuple #[.int .i64 (r.1),.bool (r.2)]∧InR .i64 (r.1)∧True∧Iv w0 (many [cel g0 [[.map (some gm1)],av .u8 32 x0.start] 109,nd107 gm1 x0.m gs1]).foot μ μ [cel g0 [[.map (some gm1)],av .u8 32 x0.start] 109,nd107 gm1 x0.m gs1] w'):=by
 refine enter Tryz.func16 rfl Tryz.ntmps16 rfl fun a hA=>?_
 have hI:=Iv.startN hμ ho0
 have H:=bI H
 refine w_seq fun _ hN1=>w_reg<|o_box [av .u8 32 x1] hI hA rfl rfl rfl fun g1 a w hA hI hg1 =>
  sta hA rfl rfl fun a hA =>
  sta hA rfl rfl fun a hA=>?_
 refine o_nil<|hN1 _ _<|w_seq fun _ hN2=>w_seq fun _ hN3=>?_
 refine w_draw mo (by kernel_rfl) hI ?_
 refine qtp hA (fun _ hI=>r_mv hA rfl) rfl fun a hA =>
  qtp hA (fun _ hI=>r_nilc hA rfl) rfl fun a hA =>
  qtp hA (fun _ hI=>r_fd (k:=0) U109 rfl sz107 hA rfl rfl) rfl fun a hA =>
  qtp hA (fun _ hI=>r_ld1 (j:=1) [] [av .u8 32 x0.start] U107 rfl hI rfl hA rfl rfl) rfl fun a hA =>
  qtp hA (fun _ hI=>r_ldA (j:=0) [] [av .u8 32 x1] [] U25 rfl sz25 rfl hI rfl hA rfl rfl) rfl fun a hA =>
  qtp hA (fun _ hI=>r_nlook2 (j:=2) kn107 U107 mz107 hp1.1 hx1 hI rfl hA rfl rfl) rfl fun a hA =>
  qtp hA (fun _ hI=>r_mv hA rfl) rfl fun a hA =>
  qtp hA (fun _ hI=>r_extr (vs:=[pvn gs1 (lkn x0.m x1),.bool ((mget x0.m x1).isSome)]) hA rfl rfl) rfl fun a hA =>
  qtp hA (fun _ hI=>r_extr (vs:=[pvn gs1 (lkn x0.m x1),.bool ((mget x0.m x1).isSome)]) hA rfl rfl) rfl fun a hA =>
  qtp hA (fun _ hI=>r_as hA rfl) rfl fun a hA =>
  qtp hA (fun _ hI=>r_as hA rfl) rfl fun a hA=>?_
 refine q_nil fun w hI=>?_
 refine hN3 _ _<|w_seq fun _ hN4=>w_reg<|stm hA rfl rfl fun a hA=>?_
 refine o_nil<|hN4 _ _<|w_cond hA rfl (fun hc1=>?_) (fun hc1=>?_)
 ·have H:=bT H hc1
  refine w_seq fun _ hN5=>w_reg<|stm hA rfl rfl fun a hA=>?_
  obtain ⟨nd1,hn1,H⟩:=bB H
  obtain ⟨kk1,ho1,hk1⟩:=nget_some hn1
  have hw1:HeadW μ nd1.head:=(NdW.at hp1 hk1).1
  refine stp hA (r_nilcN ho1 hA rfl) rfl fun a hA =>
   stp hA (r_fd (k:=68) U106 rfl sz3 hA rfl rfl) rfl fun a hA =>
   stp hA (r_ld1 (j:=0) [[.int .u32 nd1.head.Version],av .u8 32 nd1.head.Prev,av .u8 32 nd1.head.Root,[.int .u32 nd1.head.Time],[.int .u32 nd1.head.Work],[.int .u32 nd1.head.Nonce]] [[.int .u64 nd1.work],[(gs1 kk1).2.1]] U3 rfl ((hI.sl [2] rfl).focus hp1.1.2 hk1) rfl hA rfl rfl) rfl fun a hA =>
   sta hA rfl rfl fun a hA =>
   sta hA rfl rfl fun a hA=>?_
  refine o_nil<|hN5 _ _<|w_ret ?_
  obtain rfl:=sJ H
  exact ret2 hA Tryz.results16 rfl rfl ⟨_,rfl,rfl,(NdW.at hp1 hk1).2.1,trivial,((hI.sl [1,2] rfl).less (Store.le.refl _) hI.le)⟩
 ·have hc1:=ft hc1;have H:=bF H hc1
  refine w_skip<|hN2 _ _<|w_seq fun _ hN6=>w_reg<|sta hA rfl rfl fun a hA =>
   sta hA rfl rfl fun a hA=>?_
  refine o_nil<|hN6 _ _<|w_ret ?_
  obtain rfl:=sJ H
  exact ret2 hA Tryz.results16 rfl rfl ⟨_,rfl,rfl,(in_lit .i64 0 rfl),trivial,((hI.sl [1,2] rfl).less (Store.le.refl _) hI.le)⟩
theorem tree_Tree_Len.c (μ:Store)(w0:World)(hμ:Agr μ w0)(x0:treeTree)(gm1:Nat)(gs1:(List Int)→NG)(g0:Nat)(hp1:nw107 μ x0.m gs1)(hp2:Arr .u8 32 x0.start)(ho0:Its μ w0 [cel g0 [[.map (some gm1)],av .u8 32 x0.start] 109,nd107 gm1 x0.m gs1])(r:Int)(H:tree_Tree_Len.f x0=some r) :
  Calls Tryz.prog 28 [pt g0 0].toArray w0 (fun e w'=>∃ v,e=.returned v∧v=.int .i64 r∧True∧Iv w0 (many [cel g0 [[.map (some gm1)],av .u8 32 x0.start] 109,nd107 gm1 x0.m gs1]).foot μ μ [cel g0 [[.map (some gm1)],av .u8 32 x0.start] 109,nd107 gm1 x0.m gs1] w'):=by
 refine enter Tryz.func28 rfl Tryz.ntmps28 rfl fun a hA=>?_
 have hI:=Iv.startN hμ ho0
 have H:=bI H
 refine w_seq fun _ hN1=>w_reg<|sta hA rfl rfl fun a hA=>?_
 refine o_nil<|hN1 _ _<|w_seq fun _ hN2=>w_reg<|stm hA rfl rfl fun a hA =>
  stp hA (r_nilc hA rfl) rfl fun a hA =>
  stp hA (r_fd (k:=0) U109 rfl sz107 hA rfl rfl) rfl fun a hA =>
  stp hA (r_ld1 (j:=0) [] [av .u8 32 x0.start] U107 rfl hI rfl hA rfl rfl) rfl fun a hA =>
  stp hA (r_nlen (j:=1) U107 hI rfl hA rfl) rfl fun a hA =>
  sta hA rfl rfl fun a hA=>?_
 refine o_nil<|hN2 _ _<|w_ret ?_
 obtain rfl:=sJ H
 exact ret1 hA Tryz.results28 rfl ⟨_,rfl,rfl,trivial,(hI.less (Store.le.refl _) hI.le)⟩
theorem tree_Tree_Start.c (μ:Store)(w0:World)(hμ:Agr μ w0)(x0:treeTree)(gm1:Nat)(gs1:(List Int)→NG)(g0:Nat)(hp1:nw107 μ x0.m gs1)(hp2:Arr .u8 32 x0.start)(ho0:Its μ w0 [cel g0 [[.map (some gm1)],av .u8 32 x0.start] 109,nd107 gm1 x0.m gs1])(r:List Int)(H:tree_Tree_Start.f x0=some r) :
  Calls Tryz.prog 30 [pt g0 0].toArray w0 (fun e w'=>∃ v,e=.returned v∧v=.agg [av .u8 32 r].flatten.toArray∧Arr .u8 32 r∧Iv w0 (many [cel g0 [[.map (some gm1)],av .u8 32 x0.start] 109,nd107 gm1 x0.m gs1]).foot μ μ [cel g0 [[.map (some gm1)],av .u8 32 x0.start] 109,nd107 gm1 x0.m gs1] w'):=by
 refine enter Tryz.func30 rfl Tryz.ntmps30 rfl fun a hA=>?_
 have hI:=Iv.startN hμ ho0
 have H:=bI H
 refine w_seq fun _ hN1=>w_reg<|o_new [av .u8 32 Z32] zr25 hI hA rfl fun g1 a w hA hI hg1=>?_
 refine o_nil<|hN1 _ _<|w_seq fun _ hN2=>w_reg<|stm hA rfl rfl fun a hA =>
  stp hA (r_nilc hA rfl) rfl fun a hA =>
  stp hA (r_fd (k:=1) U109 rfl sz25 hA rfl rfl) rfl fun a hA =>
  stp hA (r_ldA (j:=1) [[.map (some gm1)]] [av .u8 32 x0.start] [] U25 rfl sz25 rfl hI rfl hA rfl rfl) rfl fun a hA =>
  o_st (j:=0) [] [av .u8 32 Z32] [av .u8 32 x0.start] [] sz25 rfl rfl (fl_cons (one_av _ _ _) fl_nil) hI rfl hA rfl rfl rfl rfl fun w hI=>?_
 refine o_nil<|hN2 _ _<|w_ret ?_
 obtain rfl:=sJ H
 exact retc U25 rfl sz25 rfl hI (j:=0) rfl hA Tryz.results30 rfl ⟨_,rfl,rfl,hp2,((hI.sl [1,2] rfl).less (Store.le.refl _) hI.le)⟩
theorem tree_Tree_Add.c (μ:Store)(w0:World)(hμ:Agr μ w0)(x0:treeTree)(gm1:Nat)(gs1:(List Int)→NG)(g0:Nat)(hp1:nw107 μ x0.m gs1)(hp2:Arr .u8 32 x0.start)(ho0:Its μ w0 [cel g0 [[.map (some gm1)],av .u8 32 x0.start] 109,nd107 gm1 x0.m gs1])(x1:Head)(hx1:HeadW μ x1)(e0:Value)(he0:ErS μ e0 (Er.b 1))(e1:Value)(he1:ErS μ e1 (Er.b 2))(e2:Value)(he2:ErS μ e2 (Er.b 3))(r:Er×treeTree)(H:tree_Tree_Add.f x0 x1=some r) :
  Calls Tryz.prog 10 [pt g0 0,.agg [[.int .u32 x1.Version],av .u8 32 x1.Prev,av .u8 32 x1.Root,[.int .u32 x1.Time],[.int .u32 x1.Work],[.int .u32 x1.Nonce]].flatten.toArray].toArray w0 (fun e w'=>∃ v,e=.returned v∧∃(v0:Value)(gm_1:Nat)(gs_1:(List Int)→NG)(μ':Store),v=v0∧ErS μ' v0 (r.1)∧nw107 μ' (r.2).m gs_1∧Arr .u8 32 (r.2).start∧Iv w0 (many [cel g0 [[.map (some gm1)],av .u8 32 x0.start] 109,nd107 gm1 x0.m gs1]).foot μ μ' [cel g0 [[.map (some gm_1)],av .u8 32 ((r.2).start)] 109,nd107 gm_1 ((r.2).m) gs_1] w'):=by
 refine enter Tryz.func10 rfl Tryz.ntmps10 rfl fun a hA=>?_
 have hI:=Iv.startN hμ ho0
 have H:=bI H
 refine w_seq fun _ hN1=>w_reg<|o_box [[.int .u32 x1.Version],av .u8 32 x1.Prev,av .u8 32 x1.Root,[.int .u32 x1.Time],[.int .u32 x1.Work],[.int .u32 x1.Nonce]] hI hA rfl rfl rfl fun g1 a w hA hI hg1 =>
  sta hA rfl rfl fun a hA=>?_
 refine o_nil<|hN1 _ _<|w_seq fun _ hN2=>w_reg<|stp hA (r_ldA (j:=0) [] [[.int .u32 x1.Version],av .u8 32 x1.Prev,av .u8 32 x1.Root,[.int .u32 x1.Time],[.int .u32 x1.Work],[.int .u32 x1.Nonce]] [] U27 rfl sz27 rfl hI rfl hA rfl rfl) rfl fun a hA=>?_
 obtain ⟨r1,hr1,H⟩:=bB H
 refine o_callp (u:=.agg [av .u8 32 r1].flatten.toArray) cf50 hA rfl hI (head_ID.c μ _ hI.agr x1 ⟨hx1.1,hx1.2.1,hx1.2.2.1,hx1.2.2.2.1,hx1.2.2.2.2.1,hx1.2.2.2.2.2⟩ r1 hr1) rfl fun a w hz1 hI hA =>
  o_new [av .u8 32 Z32] zr25 hI hA rfl fun g2 a w hA hI hg2 =>
  o_st (j:=0) [] [av .u8 32 Z32] [av .u8 32 r1] [] sz25 rfl rfl (fl_cons (one_av _ _ _) fl_nil) hI rfl hA rfl rfl rfl rfl fun w hI=>?_
 refine o_nil<|hN2 _ _<|w_seq fun _ hN3=>w_seq fun _ hN4=>?_
 refine w_draw mo (by kernel_rfl) hI ?_
 refine qtp hA (fun _ hI=>r_mv hA rfl) rfl fun a hA =>
  qtp hA (fun _ hI=>r_nilc hA rfl) rfl fun a hA =>
  qtp hA (fun _ hI=>r_fd (k:=0) U109 rfl sz107 hA rfl rfl) rfl fun a hA =>
  qtp hA (fun _ hI=>r_ld1 (j:=2) [] [av .u8 32 x0.start] U107 rfl hI rfl hA rfl rfl) rfl fun a hA =>
  qtp hA (fun _ hI=>r_ldA (j:=0) [] [av .u8 32 r1] [] U25 rfl sz25 rfl hI rfl hA rfl rfl) rfl fun a hA =>
  qtp hA (fun _ hI=>r_nlook2 (j:=3) kn107 U107 mz107 hp1.1 hz1 hI rfl hA rfl rfl) rfl fun a hA =>
  qtp hA (fun _ hI=>r_mv hA rfl) rfl fun a hA =>
  qtp hA (fun _ hI=>r_extr (vs:=[pvn gs1 (lkn x0.m r1),.bool ((mget x0.m r1).isSome)]) hA rfl rfl) rfl fun a hA =>
  qtp hA (fun _ hI=>r_extr (vs:=[pvn gs1 (lkn x0.m r1),.bool ((mget x0.m r1).isSome)]) hA rfl rfl) rfl fun a hA =>
  qtp hA (fun _ hI=>r_as hA rfl) rfl fun a hA =>
  qtp hA (fun _ hI=>r_as hA rfl) rfl fun a hA=>?_
 refine q_nil fun w hI=>?_
 refine hN4 _ _<|w_seq fun _ hN5=>w_reg<|stm hA rfl rfl fun a hA=>?_
 refine o_nil<|hN5 _ _<|w_cond hA rfl (fun hc1=>?_) (fun hc1=>?_)
 ·have H:=bT H hc1
  refine w_seq fun _ hN6=>w_reg<|stp hA (r_ldG U37 rfl hI.agr he0 hA) rfl fun a hA =>
   sta hA rfl rfl fun a hA=>?_
  refine o_nil<|hN6 _ _<|w_ret ?_
  obtain rfl:=sJ H
  exact ret1 hA Tryz.results10 rfl ⟨_,rfl,e0,gm1,gs1,μ,rfl,he0,hp1,hp2,(hI.sl [2,3] rfl)⟩
 ·have hc1:=ft hc1;have H:=bF H hc1
  refine w_skip<|hN3 _ _<|w_seq fun _ hN7=>?_
  refine w_draw mo (by kernel_rfl) hI ?_
  refine qtp hA (fun _ hI=>r_mv hA rfl) rfl fun a hA =>
   qtp hA (fun _ hI=>r_nilc hA rfl) rfl fun a hA =>
   qtp hA (fun _ hI=>r_fd (k:=0) U109 rfl sz107 hA rfl rfl) rfl fun a hA =>
   qtp hA (fun _ hI=>r_ld1 (j:=2) [] [av .u8 32 x0.start] U107 rfl hI rfl hA rfl rfl) rfl fun a hA =>
   qtp hA (fun _ hI=>r_fd (k:=1) U27 rfl sz25 hA rfl rfl) rfl fun a hA =>
   qtp hA (fun _ hI=>r_ldA (j:=1) [[.int .u32 x1.Version]] [av .u8 32 x1.Prev] [av .u8 32 x1.Root,[.int .u32 x1.Time],[.int .u32 x1.Work],[.int .u32 x1.Nonce]] U25 rfl sz25 rfl hI rfl hA rfl rfl) rfl fun a hA =>
   qtp hA (fun _ hI=>r_nlook2 (j:=3) kn107 U107 mz107 hp1.1 hx1.2.1 hI rfl hA rfl rfl) rfl fun a hA =>
   qtp hA (fun _ hI=>r_mv hA rfl) rfl fun a hA =>
   qtp hA (fun _ hI=>r_extr (vs:=[pvn gs1 (lkn x0.m x1.Prev),.bool ((mget x0.m x1.Prev).isSome)]) hA rfl rfl) rfl fun a hA =>
   qtp hA (fun _ hI=>r_extr (vs:=[pvn gs1 (lkn x0.m x1.Prev),.bool ((mget x0.m x1.Prev).isSome)]) hA rfl rfl) rfl fun a hA =>
   qtp hA (fun _ hI=>r_as hA rfl) rfl fun a hA =>
   qtp hA (fun _ hI=>r_as hA rfl) rfl fun a hA=>?_
  refine q_nil fun w hI=>?_
  refine hN7 _ _<|w_seq fun _ hN8=>w_block<|w_seq fun _ hN9=>w_reg<|stm hA rfl rfl fun a hA =>
   stp hA (r_not hA rfl) rfl fun a hA =>
   sta hA rfl rfl fun a hA=>?_
  refine o_nil<|hN9 _ _<|w_cond hA rfl (fun hc2=>?_) (fun hc2=>?_)
  ·have hc2:=nT hc2;have hc2:=ft hc2;have H:=bF H hc2
   refine w_seq fun _ hN10=>w_reg<|stp hA (r_ldG U37 rfl hI.agr he1 hA) rfl fun a hA =>
    sta hA rfl rfl fun a hA=>?_
   refine o_nil<|hN10 _ _<|w_ret ?_
   obtain rfl:=sJ H
   exact ret1 hA Tryz.results10 rfl ⟨_,rfl,e1,gm1,gs1,μ,rfl,he1,hp1,hp2,(hI.sl [2,3] rfl)⟩
  ·have hc2:=nF hc2;have H:=bT H hc2
   refine w_seq fun _ hN11=>w_reg<|stm hA rfl rfl fun a hA =>
    stp hA (r_nilc hA rfl) rfl fun a hA =>
    stp hA (r_fd (k:=0) U109 rfl sz107 hA rfl rfl) rfl fun a hA =>
    stp hA (r_ld1 (j:=2) [] [av .u8 32 x0.start] U107 rfl hI rfl hA rfl rfl) rfl fun a hA =>
    stp hA (r_nlen (j:=3) U107 hI rfl hA rfl) rfl fun a hA =>
    stp hA (r_geq hA rfl rfl) rfl fun a hA =>
    sta hA rfl rfl fun a hA=>?_
   refine o_nil<|hN11 _ _<|w_cond hA rfl (fun hc3=>?_) (fun hc3=>?_)
   ·obtain ⟨hc3,H⟩:=dT H hc3
    refine w_seq fun _ hN12=>w_reg<|stp hA (r_ldG U37 rfl hI.agr he2 hA) rfl fun a hA =>
     sta hA rfl rfl fun a hA=>?_
    refine o_nil<|hN12 _ _<|w_ret ?_
    obtain rfl:=sJ H
    exact ret1 hA Tryz.results10 rfl ⟨_,rfl,e2,gm1,gs1,μ,rfl,he2,hp1,hp2,(hI.sl [2,3] rfl)⟩
   ·obtain ⟨hc3,H⟩:=dF H hc3
    refine w_skip<|hN8 _ _<|w_seq fun _ hN13=>?_
    refine w_any [21] mo hI fun w hI=>?_
    refine gE 0 hA rfl (.inr hI) (fun _=>r_mv hA rfl) fun a hA=>?_
    refine gE 1 hA rfl (.inr hI) (fun _=>r_nilc hA rfl) fun a hA=>?_
    refine gE 2 hA rfl (.inr hI) (fun _=>r_fd (k:=0) U109 rfl sz107 hA rfl rfl) fun a hA=>?_
    refine gT 3 hA rfl hI (fun w hI=>r_ld1 (j:=2) [] [av .u8 32 x0.start] U107 rfl hI rfl hA rfl rfl) fun a hA=>?_
    refine gT 4 hA rfl hI (fun w hI=>r_ldA (j:=0) [] [av .u8 32 r1] [] U25 rfl sz25 rfl hI rfl hA rfl rfl) fun a hA=>?_
    refine gT 5 hA rfl hI (fun w hI=>r_ldA (j:=1) [] [[.int .u32 x1.Version],av .u8 32 x1.Prev,av .u8 32 x1.Root,[.int .u32 x1.Time],[.int .u32 x1.Work],[.int .u32 x1.Nonce]] [] U27 rfl sz27 rfl hI rfl hA rfl rfl) fun a hA=>?_
    refine gE 6 hA rfl (.inr hI) (fun _=>r_mv hA rfl) fun a hA=>?_
    obtain ⟨nd1,hn1,H⟩:=bB H
    obtain ⟨kk1,ho1,hk1⟩:=nget_some hn1
    have hw1:HeadW μ nd1.head:=(NdW.at hp1 hk1).1
    refine gE 7 hA rfl (.inr hI) (fun _=>r_nilcN ho1 hA rfl) fun a hA=>?_
    refine gE 8 hA rfl (.inr hI) (fun _=>r_fd (k:=68) U106 rfl sz3 hA rfl rfl) fun a hA=>?_
    refine gT 9 hA rfl hI (fun w hI=>r_ld1 (j:=0) [[.int .u32 nd1.head.Version],av .u8 32 nd1.head.Prev,av .u8 32 nd1.head.Root,[.int .u32 nd1.head.Time],[.int .u32 nd1.head.Work],[.int .u32 nd1.head.Nonce]] [[.int .u64 nd1.work],[(gs1 kk1).2.1]] U3 rfl ((hI.sl [3] rfl).focus hp1.1.2 hk1) rfl hA rfl rfl) fun a hA=>?_
    refine gE 10 hA rfl (.inr hI) (fun _=>r_add hA rfl rfl) fun a hA=>?_
    refine gE 11 hA rfl (.inr hI) (fun _=>r_mv hA rfl) fun a hA=>?_
    refine gE 12 hA rfl (.inr hI) (fun _=>r_nilcN ho1 hA rfl) fun a hA=>?_
    refine gE 13 hA rfl (.inr hI) (fun _=>r_fd (k:=69) U106 rfl sz45 hA rfl rfl) fun a hA=>?_
    refine gT 14 hA rfl hI (fun w hI=>r_ld1 (j:=0) [[.int .u32 nd1.head.Version],av .u8 32 nd1.head.Prev,av .u8 32 nd1.head.Root,[.int .u32 nd1.head.Time],[.int .u32 nd1.head.Work],[.int .u32 nd1.head.Nonce],[.int .i64 nd1.height]] [[(gs1 kk1).2.1]] U45 rfl ((hI.sl [3] rfl).focus hp1.1.2 hk1) rfl hA rfl rfl) fun a hA=>?_
    refine gE 15 hA rfl (.inr hI) (fun _=>r_fd (k:=66) U27 rfl sz23 hA rfl rfl) fun a hA=>?_
    refine gT 16 hA rfl hI (fun w hI=>r_ld1 (j:=1) [[.int .u32 x1.Version],av .u8 32 x1.Prev,av .u8 32 x1.Root,[.int .u32 x1.Time]] [[.int .u32 x1.Nonce]] U23 rfl hI rfl hA rfl rfl) fun a hA=>?_
    refine gE 17 hA rfl (.inr hI) (fun _=>r_conv U23 U45 hA rfl) fun a hA=>?_
    refine gE 18 hA rfl (.inr hI) (fun _=>r_add hA rfl rfl) fun a hA=>?_
    refine gF 19 rfl ?_
    refine stp hA (r_bldS (cs:=[[.int .u32 x1.Version],av .u8 32 x1.Prev,av .u8 32 x1.Root,[.int .u32 x1.Time],[.int .u32 x1.Work],[.int .u32 x1.Nonce],[.int .i64 (IntKind.i64.wrap (nd1.height+1))],[.int .u64 (IntKind.u64.wrap (nd1.work+(IntKind.u64.wrap x1.Work)))],[Sn]].flatten.toArray) (pl:=[(0,68),(68,1),(69,1),(70,1)]) zr106 U106 ⟨rfl,sz27,rfl,sz3,rfl,sz45,rfl,sz42,trivial⟩ hA rfl (by kernel_rfl)) rfl fun a hA=>?_
    refine o_nil<|⟨(.inr hI),?_⟩
    refine gF 20 rfl ?_
    refine o_box [[.int .u32 x1.Version],av .u8 32 x1.Prev,av .u8 32 x1.Root,[.int .u32 x1.Time],[.int .u32 x1.Work],[.int .u32 x1.Nonce],[.int .i64 (IntKind.i64.wrap (nd1.height+1))],[.int .u64 (IntKind.u64.wrap (nd1.work+(IntKind.u64.wrap x1.Work)))],[Sn]] hI hA rfl rfl rfl fun g3 a w hA hI hg3=>?_
    refine o_nil<|⟨(.inr (hI.sl [1,2,3,4] rfl)),?_⟩
    refine gF 21 rfl ?_
    have hI:=hI.nilRow 25 32
    obtain ⟨hb1,H⟩:=bG H
    have hno1:=Option.isNone_iff_eq_none.1 hb1
    have hI:Iv w0 (many [cel g0 [[.map (some gm1)],av .u8 32 x0.start] 109,nd107 gm1 x0.m gs1]).foot μ μ [cel g3 (treeNodeC ((⟨x1,IntKind.i64.wrap (nd1.height+1),IntKind.u64.wrap (nd1.work+(IntKind.u64.wrap x1.Work)),([]:List (List Int))⟩:treeNode):treeNode) Sn) 106,row 25 32 Sn ((⟨x1,IntKind.i64.wrap (nd1.height+1),IntKind.u64.wrap (nd1.work+(IntKind.u64.wrap x1.Work)),([]:List (List Int))⟩:treeNode):treeNode).up.length ([]),nd107 gm1 x0.m gs1,cel g2 [av .u8 32 r1] 25,cel g1 [[.int .u32 x1.Version],av .u8 32 x1.Prev,av .u8 32 x1.Root,[.int .u32 x1.Time],[.int .u32 x1.Work],[.int .u32 x1.Nonce]] 27,cel g0 [[.map (some gm1)],av .u8 32 x0.start] 109] w:=hI.sl [1,0,5,2,3,4] rfl
    refine o_nput (NC:=treeNodeC) (ln:=fun x=>x.up.length) (kv:=kv107) g3 ((⟨x1,IntKind.i64.wrap (nd1.height+1),IntKind.u64.wrap (nd1.work+(IntKind.u64.wrap x1.Work)),([]:List (List Int))⟩:treeNode):treeNode) kn107 U107 hp1.1 hz1 hno1 hI hA rfl rfl rfl fun w hI=>?_
    have hk2:mget (mput x0.m r1 ((⟨x1,IntKind.i64.wrap (nd1.height+1),IntKind.u64.wrap (nd1.work+(IntKind.u64.wrap x1.Work)),([]:List (List Int))⟩:treeNode):treeNode)) kk1=some nd1:=(mget_mput_ne (mget_ne_of hno1 hk1)).trans hk1
    have hgs1:(gup gs1 r1 (g3,Sn,[])) kk1=gs1 kk1:=(gup_ne (mget_ne_of hno1 hk1))
    refine o_nil<|⟨(.inl (by kernel_rfl)),?_⟩
    refine gN<|hN13 _ _<|w_seq fun _ hN14=>?_
    have hw2:HeadW μ nd1.head:=(NdW.atB hgs1 (NdW.put (u:=(g3,Sn,[])) hp1 hz1 ⟨⟨hx1.1,hx1.2.1,hx1.2.2.1,hx1.2.2.2.1,hx1.2.2.2.2.1,hx1.2.2.2.2.2⟩,(wrap_in _ _),(wrap_in _ _),(Els.nil (RE:=(RA .u8 32)) (sz:=32))⟩) hk2).1
    have hI:Iv w0 (many [cel g0 [[.map (some gm1)],av .u8 32 x0.start] 109,nd107 gm1 x0.m gs1]).foot μ μ [cel (gs1 kk1).1 [[.int .u32 nd1.head.Version],av .u8 32 nd1.head.Prev,av .u8 32 nd1.head.Root,[.int .u32 nd1.head.Time],[.int .u32 nd1.head.Work],[.int .u32 nd1.head.Nonce],[.int .i64 nd1.height],[.int .u64 nd1.work],[(gs1 kk1).2.1]] 106,row 25 32 ((gs1 kk1).2.1) nd1.up.length ((gs1 kk1).2.2),nr107 gm1 (mput x0.m r1 ((⟨x1,IntKind.i64.wrap (nd1.height+1),IntKind.u64.wrap (nd1.work+(IntKind.u64.wrap x1.Work)),([]:List (List Int))⟩:treeNode):treeNode)) (gup gs1 r1 (g3,Sn,[])) kk1,cel g2 [av .u8 32 r1] 25,cel g1 [[.int .u32 x1.Version],av .u8 32 x1.Prev,av .u8 32 x1.Root,[.int .u32 x1.Time],[.int .u32 x1.Work],[.int .u32 x1.Nonce]] 27,cel g0 [[.map (some gm1)],av .u8 32 x0.start] 109] w:=Iv.focusB hgs1 (hI.sl [0,1,2,3] rfl) (NdW.put (u:=(g3,Sn,[])) hp1 hz1 ⟨⟨hx1.1,hx1.2.1,hx1.2.2.1,hx1.2.2.2.1,hx1.2.2.2.2.1,hx1.2.2.2.2.2⟩,(wrap_in _ _),(wrap_in _ _),(Els.nil (RE:=(RA .u8 32)) (sz:=32))⟩).1.2 hk2
    refine w_any [7,10] mo hI fun w hI=>?_
    refine gE 0 hA rfl (.inr hI) (fun _=>r_mv hA rfl) fun a hA=>?_
    refine gE 1 hA rfl (.inr hI) (fun _=>r_mv hA rfl) fun a hA=>?_
    refine gE 2 hA rfl (.inr hI) (fun _=>r_nilcN ho1 hA rfl) fun a hA=>?_
    refine gE 3 hA rfl (.inr hI) (fun _=>r_fd (k:=70) U106 rfl sz42 hA rfl rfl) fun a hA=>?_
    refine gT 4 hA rfl hI (fun w hI=>r_ld1 (j:=0) [[.int .u32 nd1.head.Version],av .u8 32 nd1.head.Prev,av .u8 32 nd1.head.Root,[.int .u32 nd1.head.Time],[.int .u32 nd1.head.Work],[.int .u32 nd1.head.Nonce],[.int .i64 nd1.height],[.int .u64 nd1.work]] [] U42 rfl hI rfl hA rfl rfl) fun a hA=>?_
    refine gT 5 hA rfl hI (fun w hI=>r_ldA (j:=3) [] [av .u8 32 r1] [] U25 rfl sz25 rfl hI rfl hA rfl rfl) fun a hA=>?_
    refine gF 6 rfl ?_
    have hE1:Els (RA .u8 32) 32 ([r1]:List (List Int)) _:=(Els.cons (c:=[av .u8 32 r1].flatten) ⟨rfl,hz1⟩ rfl Els.nil)
    refine o_bsl ([av .u8 32 r1].flatten++([])) te25 zr25 U42 hI hA rfl rfl rfl rfl (by kernel_rfl) rfl fun g4 a w hA hI=>?_
    generalize hcs:([av .u8 32 r1].flatten++([]):List Value)=cs1 at hE1 hI
    clear hcs
    refine o_nil<|⟨(.inr (hI.sl [1,2,3,4,5,6] rfl)),?_⟩
    refine gF 7 rfl ?_
    obtain ⟨hb2,H⟩:=bG H
    have hE3:=((NdW.atB hgs1 (NdW.put (u:=(g3,Sn,[])) hp1 hz1 ⟨⟨hx1.1,hx1.2.1,hx1.2.2.1,hx1.2.2.2.1,hx1.2.2.2.2.1,hx1.2.2.2.2.2⟩,(wrap_in _ _),(wrap_in _ _),(Els.nil (RE:=(RA .u8 32)) (sz:=32))⟩) hk2).2.2.2).app hE1
    refine o_appG (xs:=(nd1.up:List (List Int))) (ys:=(([r1]:List (List Int)):List (List Int))) (M:=4398046511104) 2 te25 U42 hI rfl hA rfl rfl (src_row hI (j:=0) rfl) hE1.len (hE1.ones (one_RA _ _)) hb2 rfl fun v1 a w hA hI=>?_
    refine o_nil<|⟨(.inl (by kernel_rfl)),?_⟩
    refine gE 8 hA rfl (.inl (by kernel_rfl)) (fun _=>r_nilcN ho1 hA rfl) fun a hA=>?_
    refine gE 9 hA rfl (.inl (by kernel_rfl)) (fun _=>r_fd (k:=70) U106 rfl sz42 hA rfl rfl) fun a hA=>?_
    refine gF 10 rfl ?_
    have hone:=own_one hI (j:=2) rfl
    have hcel:=own_cell hI (j:=2) rfl
    refine o_st (j:=1) [[.int .u32 nd1.head.Version],av .u8 32 nd1.head.Prev,av .u8 32 nd1.head.Root,[.int .u32 nd1.head.Time],[.int .u32 nd1.head.Work],[.int .u32 nd1.head.Nonce],[.int .i64 nd1.height],[.int .u64 nd1.work]] [[(gs1 kk1).2.1]] [[v1]] [] sz42 rfl rfl (by intro c hc;simp at hc;subst hc;exact hone) hI rfl hA rfl rfl hcel rfl fun w hI=>?_
    refine o_nil<|⟨(.inl (by kernel_rfl)),?_⟩
    refine gN ?_
    have hI:Iv w0 (many [cel g0 [[.map (some gm1)],av .u8 32 x0.start] 109,nd107 gm1 x0.m gs1]).foot μ μ [cel (gs1 kk1).1 (treeNodeC ((⟨nd1.head,nd1.height,nd1.work,nd1.up++([r1]:List (List Int))⟩:treeNode):treeNode) v1) 106,row 25 32 v1 ((⟨nd1.head,nd1.height,nd1.work,nd1.up++([r1]:List (List Int))⟩:treeNode):treeNode).up.length (((gs1 kk1).2.2)++cs1),nr107 gm1 (mput x0.m r1 ((⟨x1,IntKind.i64.wrap (nd1.height+1),IntKind.u64.wrap (nd1.work+(IntKind.u64.wrap x1.Work)),([]:List (List Int))⟩:treeNode):treeNode)) (gup gs1 r1 (g3,Sn,[])) kk1,row 25 32 (.slice (some ⟨g4,0,none⟩) 1 1) ([r1]:List (List Int)).length cs1,cel g2 [av .u8 32 r1] 25,cel g1 [[.int .u32 x1.Version],av .u8 32 x1.Prev,av .u8 32 x1.Root,[.int .u32 x1.Time],[.int .u32 x1.Work],[.int .u32 x1.Nonce]] 27,cel g0 [[.map (some gm1)],av .u8 32 x0.start] 109] w:=hI.sl [1,2,3,0,4,5,6] rfl
    have hI:Iv w0 (many [cel g0 [[.map (some gm1)],av .u8 32 x0.start] 109,nd107 gm1 x0.m gs1]).foot μ μ [nd107 gm1 (nput (mput x0.m r1 ((⟨x1,IntKind.i64.wrap (nd1.height+1),IntKind.u64.wrap (nd1.work+(IntKind.u64.wrap x1.Work)),([]:List (List Int))⟩:treeNode):treeNode)) (lkn x0.m x1.Prev) ((⟨nd1.head,nd1.height,nd1.work,nd1.up++([r1]:List (List Int))⟩:treeNode):treeNode)) (gup (gup gs1 r1 (g3,Sn,[])) kk1 ((gs1 kk1).1,v1,((gs1 kk1).2.2)++cs1)),row 25 32 (.slice (some ⟨g4,0,none⟩) 1 1) ([r1]:List (List Int)).length cs1,cel g2 [av .u8 32 r1] 25,cel g1 [[.int .u32 x1.Version],av .u8 32 x1.Prev,av .u8 32 x1.Root,[.int .u32 x1.Time],[.int .u32 x1.Work],[.int .u32 x1.Nonce]] 27,cel g0 [[.map (some gm1)],av .u8 32 x0.start] 109] w:=Iv.unfocusB (NC:=treeNodeC) (ln:=fun x=>x.up.length) (kv:=kv107) (n1:=((⟨nd1.head,nd1.height,nd1.work,nd1.up++([r1]:List (List Int))⟩:treeNode):treeNode)) (congrArg Prod.fst hgs1) ho1 hI (NdW.put (u:=(g3,Sn,[])) hp1 hz1 ⟨⟨hx1.1,hx1.2.1,hx1.2.2.1,hx1.2.2.2.1,hx1.2.2.2.2.1,hx1.2.2.2.2.2⟩,(wrap_in _ _),(wrap_in _ _),(Els.nil (RE:=(RA .u8 32)) (sz:=32))⟩).1.2 hk2
    refine hN14 _ _<|w_seq fun _ hN15=>w_reg<|sta hA rfl rfl fun a hA=>?_
    refine o_nil<|hN15 _ _<|w_ret ?_
    obtain rfl:=sJ H
    exact ret1 hA Tryz.results10 rfl ⟨_,rfl,.nilIface,gm1,(gup (gup gs1 r1 (g3,Sn,[])) kk1 ((gs1 kk1).1,v1,((gs1 kk1).2.2)++cs1)),μ,rfl,erv_nil,(NdW.nput (u:=((gs1 kk1).1,v1,((gs1 kk1).2.2)++cs1)) ho1 (NdW.put (u:=(g3,Sn,[])) hp1 hz1 ⟨⟨hx1.1,hx1.2.1,hx1.2.2.1,hx1.2.2.2.1,hx1.2.2.2.2.1,hx1.2.2.2.2.2⟩,(wrap_in _ _),(wrap_in _ _),(Els.nil (RE:=(RA .u8 32)) (sz:=32))⟩) (NdW.kw (NdW.put (u:=(g3,Sn,[])) hp1 hz1 ⟨⟨hx1.1,hx1.2.1,hx1.2.2.1,hx1.2.2.2.1,hx1.2.2.2.2.1,hx1.2.2.2.2.2⟩,(wrap_in _ _),(wrap_in _ _),(Els.nil (RE:=(RA .u8 32)) (sz:=32))⟩) hk2) ⟨⟨hw2.1,hw2.2.1,hw2.2.2.1,hw2.2.2.2.1,hw2.2.2.2.2.1,hw2.2.2.2.2.2⟩,(NdW.atB hgs1 (NdW.put (u:=(g3,Sn,[])) hp1 hz1 ⟨⟨hx1.1,hx1.2.1,hx1.2.2.1,hx1.2.2.2.1,hx1.2.2.2.2.1,hx1.2.2.2.2.2⟩,(wrap_in _ _),(wrap_in _ _),(Els.nil (RE:=(RA .u8 32)) (sz:=32))⟩) hk2).2.1,(NdW.atB hgs1 (NdW.put (u:=(g3,Sn,[])) hp1 hz1 ⟨⟨hx1.1,hx1.2.1,hx1.2.2.1,hx1.2.2.2.1,hx1.2.2.2.2.1,hx1.2.2.2.2.2⟩,(wrap_in _ _),(wrap_in _ _),(Els.nil (RE:=(RA .u8 32)) (sz:=32))⟩) hk2).2.2.1,hE3⟩),hp2,(hI.sl [4,0] rfl)⟩
theorem tree_Tree_Head.c (μ:Store)(w0:World)(hμ:Agr μ w0)(x0:treeTree)(gm1:Nat)(gs1:(List Int)→NG)(g0:Nat)(hp1:nw107 μ x0.m gs1)(hp2:Arr .u8 32 x0.start)(ho0:Its μ w0 [cel g0 [[.map (some gm1)],av .u8 32 x0.start] 109,nd107 gm1 x0.m gs1])(x1:List Int)(hx1:Arr .u8 32 x1)(r:Head×Bool)(H:tree_Tree_Head.f x0 x1=some r) :
  Calls Tryz.prog 14 [pt g0 0,.agg [av .u8 32 x1].flatten.toArray].toArray w0 (fun e w'=>∃ v,e=.returned v∧v=.tuple #[.agg [[.int .u32 ((r.1).Version)],av .u8 32 ((r.1).Prev),av .u8 32 ((r.1).Root),[.int .u32 ((r.1).Time)],[.int .u32 ((r.1).Work)],[.int .u32 ((r.1).Nonce)]].flatten.toArray,.bool (r.2)]∧HeadW μ (r.1)∧True∧Iv w0 (many [cel g0 [[.map (some gm1)],av .u8 32 x0.start] 109,nd107 gm1 x0.m gs1]).foot μ μ [cel g0 [[.map (some gm1)],av .u8 32 x0.start] 109,nd107 gm1 x0.m gs1] w'):=by
 refine enter Tryz.func14 rfl Tryz.ntmps14 rfl fun a hA=>?_
 have hI:=Iv.startN hμ ho0
 have H:=bI H
 refine w_seq fun _ hN1=>w_reg<|o_box [av .u8 32 x1] hI hA rfl rfl rfl fun g1 a w hA hI hg1 =>
  o_new [[.int .u32 0],av .u8 32 Z32,av .u8 32 Z32,[.int .u32 0],[.int .u32 0],[.int .u32 0]] zr27 hI hA rfl fun g2 a w hA hI hg2 =>
  sta hA rfl rfl fun a hA=>?_
 refine o_nil<|hN1 _ _<|w_seq fun _ hN2=>w_seq fun _ hN3=>?_
 refine w_draw mo (by kernel_rfl) hI ?_
 refine qtp hA (fun _ hI=>r_mv hA rfl) rfl fun a hA =>
  qtp hA (fun _ hI=>r_nilc hA rfl) rfl fun a hA =>
  qtp hA (fun _ hI=>r_fd (k:=0) U109 rfl sz107 hA rfl rfl) rfl fun a hA =>
  qtp hA (fun _ hI=>r_ld1 (j:=2) [] [av .u8 32 x0.start] U107 rfl hI rfl hA rfl rfl) rfl fun a hA =>
  qtp hA (fun _ hI=>r_ldA (j:=1) [] [av .u8 32 x1] [] U25 rfl sz25 rfl hI rfl hA rfl rfl) rfl fun a hA =>
  qtp hA (fun _ hI=>r_nlook2 (j:=3) kn107 U107 mz107 hp1.1 hx1 hI rfl hA rfl rfl) rfl fun a hA =>
  qtp hA (fun _ hI=>r_mv hA rfl) rfl fun a hA =>
  qtp hA (fun _ hI=>r_extr (vs:=[pvn gs1 (lkn x0.m x1),.bool ((mget x0.m x1).isSome)]) hA rfl rfl) rfl fun a hA =>
  qtp hA (fun _ hI=>r_extr (vs:=[pvn gs1 (lkn x0.m x1),.bool ((mget x0.m x1).isSome)]) hA rfl rfl) rfl fun a hA =>
  qtp hA (fun _ hI=>r_as hA rfl) rfl fun a hA =>
  qtp hA (fun _ hI=>r_as hA rfl) rfl fun a hA=>?_
 refine q_nil fun w hI=>?_
 refine hN3 _ _<|w_seq fun _ hN4=>w_reg<|stm hA rfl rfl fun a hA=>?_
 refine o_nil<|hN4 _ _<|w_cond hA rfl (fun hc1=>?_) (fun hc1=>?_)
 ·have H:=bT H hc1
  refine w_seq fun _ hN5=>w_reg<|stm hA rfl rfl fun a hA=>?_
  obtain ⟨nd1,hn1,H⟩:=bB H
  obtain ⟨kk1,ho1,hk1⟩:=nget_some hn1
  have hw1:HeadW μ nd1.head:=(NdW.at hp1 hk1).1
  refine stp hA (r_nilcN ho1 hA rfl) rfl fun a hA =>
   stp hA (r_fd (k:=0) U106 rfl sz27 hA rfl rfl) rfl fun a hA =>
   stp hA (r_ldA (j:=0) [] [[.int .u32 nd1.head.Version],av .u8 32 nd1.head.Prev,av .u8 32 nd1.head.Root,[.int .u32 nd1.head.Time],[.int .u32 nd1.head.Work],[.int .u32 nd1.head.Nonce]] [[.int .i64 nd1.height],[.int .u64 nd1.work],[(gs1 kk1).2.1]] U27 rfl sz27 rfl ((hI.sl [3] rfl).focus hp1.1.2 hk1) rfl hA rfl rfl) rfl fun a hA =>
   o_st (j:=0) [] [[.int .u32 0],av .u8 32 Z32,av .u8 32 Z32,[.int .u32 0],[.int .u32 0],[.int .u32 0]] [[.int .u32 nd1.head.Version],av .u8 32 nd1.head.Prev,av .u8 32 nd1.head.Root,[.int .u32 nd1.head.Time],[.int .u32 nd1.head.Work],[.int .u32 nd1.head.Nonce]] [] sz27 rfl rfl (fl_cons (oneC rfl) (fl_cons (one_av _ _ _) (fl_cons (one_av _ _ _) (fl_cons (oneC rfl) (fl_cons (oneC rfl) (fl_cons (oneC rfl) fl_nil)))))) hI rfl hA rfl rfl rfl rfl fun w hI =>
   sta hA rfl rfl fun a hA=>?_
  refine o_nil<|hN5 _ _<|w_ret ?_
  obtain rfl:=sJ H
  exact retN hA Tryz.results14 (.cell rfl (cell_ld U27 rfl sz27 rfl hI (j:=0) rfl) (.tmp rfl .nil)) ⟨_,rfl,rfl,⟨hw1.1,hw1.2.1,hw1.2.2.1,hw1.2.2.2.1,hw1.2.2.2.2.1,hw1.2.2.2.2.2⟩,trivial,((hI.sl [2,3] rfl).less (Store.le.refl _) hI.le)⟩
 ·have hc1:=ft hc1;have H:=bF H hc1
  refine w_skip<|hN2 _ _<|w_seq fun _ hN6=>w_reg<|stp hA (r_bldS (cs:=[[.int .u32 0],av .u8 32 Z32,av .u8 32 Z32,[.int .u32 0],[.int .u32 0],[.int .u32 0]].flatten.toArray) (pl:=[(0,1),(1,32),(33,32),(65,1),(66,1),(67,1)]) zr27 U27 ⟨rfl,sz23,rfl,sz25,rfl,sz25,rfl,sz23,rfl,sz23,rfl,sz23,trivial⟩ hA rfl (by kernel_rfl)) rfl fun a hA =>
   o_st (j:=0) [] [[.int .u32 0],av .u8 32 Z32,av .u8 32 Z32,[.int .u32 0],[.int .u32 0],[.int .u32 0]] [[.int .u32 0],av .u8 32 Z32,av .u8 32 Z32,[.int .u32 0],[.int .u32 0],[.int .u32 0]] [] sz27 rfl rfl (fl_cons (oneC rfl) (fl_cons (one_av _ _ _) (fl_cons (one_av _ _ _) (fl_cons (oneC rfl) (fl_cons (oneC rfl) (fl_cons (oneC rfl) fl_nil)))))) hI rfl hA rfl rfl rfl rfl fun w hI =>
   sta hA rfl rfl fun a hA=>?_
  refine o_nil<|hN6 _ _<|w_ret ?_
  obtain rfl:=sJ H
  exact retN hA Tryz.results14 (.cell rfl (cell_ld U27 rfl sz27 rfl hI (j:=0) rfl) (.tmp rfl .nil)) ⟨_,rfl,rfl,⟨(in_lit .u32 0 rfl),(arr_zero _ _),(arr_zero _ _),(in_lit .u32 0 rfl),(in_lit .u32 0 rfl),(in_lit .u32 0 rfl)⟩,trivial,((hI.sl [2,3] rfl).less (Store.le.refl _) hI.le)⟩
theorem tree_Tree_Work.c (μ:Store)(w0:World)(hμ:Agr μ w0)(x0:treeTree)(gm1:Nat)(gs1:(List Int)→NG)(g0:Nat)(hp1:nw107 μ x0.m gs1)(hp2:Arr .u8 32 x0.start)(ho0:Its μ w0 [cel g0 [[.map (some gm1)],av .u8 32 x0.start] 109,nd107 gm1 x0.m gs1])(x1:List Int)(hx1:Arr .u8 32 x1)(r:Int×Bool)(H:tree_Tree_Work.f x0 x1=some r) :
  Calls Tryz.prog 17 [pt g0 0,.agg [av .u8 32 x1].flatten.toArray].toArray w0 (fun e w'=>∃ v,e=.returned v∧v=.tuple #[.int .u64 (r.1),.bool (r.2)]∧InR .u64 (r.1)∧True∧Iv w0 (many [cel g0 [[.map (some gm1)],av .u8 32 x0.start] 109,nd107 gm1 x0.m gs1]).foot μ μ [cel g0 [[.map (some gm1)],av .u8 32 x0.start] 109,nd107 gm1 x0.m gs1] w'):=by
 refine enter Tryz.func17 rfl Tryz.ntmps17 rfl fun a hA=>?_
 have hI:=Iv.startN hμ ho0
 have H:=bI H
 refine w_seq fun _ hN1=>w_reg<|o_box [av .u8 32 x1] hI hA rfl rfl rfl fun g1 a w hA hI hg1 =>
  sta hA rfl rfl fun a hA =>
  sta hA rfl rfl fun a hA=>?_
 refine o_nil<|hN1 _ _<|w_seq fun _ hN2=>w_seq fun _ hN3=>?_
 refine w_draw mo (by kernel_rfl) hI ?_
 refine qtp hA (fun _ hI=>r_mv hA rfl) rfl fun a hA =>
  qtp hA (fun _ hI=>r_nilc hA rfl) rfl fun a hA =>
  qtp hA (fun _ hI=>r_fd (k:=0) U109 rfl sz107 hA rfl rfl) rfl fun a hA =>
  qtp hA (fun _ hI=>r_ld1 (j:=1) [] [av .u8 32 x0.start] U107 rfl hI rfl hA rfl rfl) rfl fun a hA =>
  qtp hA (fun _ hI=>r_ldA (j:=0) [] [av .u8 32 x1] [] U25 rfl sz25 rfl hI rfl hA rfl rfl) rfl fun a hA =>
  qtp hA (fun _ hI=>r_nlook2 (j:=2) kn107 U107 mz107 hp1.1 hx1 hI rfl hA rfl rfl) rfl fun a hA =>
  qtp hA (fun _ hI=>r_mv hA rfl) rfl fun a hA =>
  qtp hA (fun _ hI=>r_extr (vs:=[pvn gs1 (lkn x0.m x1),.bool ((mget x0.m x1).isSome)]) hA rfl rfl) rfl fun a hA =>
  qtp hA (fun _ hI=>r_extr (vs:=[pvn gs1 (lkn x0.m x1),.bool ((mget x0.m x1).isSome)]) hA rfl rfl) rfl fun a hA =>
  qtp hA (fun _ hI=>r_as hA rfl) rfl fun a hA =>
  qtp hA (fun _ hI=>r_as hA rfl) rfl fun a hA=>?_
 refine q_nil fun w hI=>?_
 refine hN3 _ _<|w_seq fun _ hN4=>w_reg<|stm hA rfl rfl fun a hA=>?_
 refine o_nil<|hN4 _ _<|w_cond hA rfl (fun hc1=>?_) (fun hc1=>?_)
 ·have H:=bT H hc1
  refine w_seq fun _ hN5=>w_reg<|stm hA rfl rfl fun a hA=>?_
  obtain ⟨nd1,hn1,H⟩:=bB H
  obtain ⟨kk1,ho1,hk1⟩:=nget_some hn1
  have hw1:HeadW μ nd1.head:=(NdW.at hp1 hk1).1
  refine stp hA (r_nilcN ho1 hA rfl) rfl fun a hA =>
   stp hA (r_fd (k:=69) U106 rfl sz45 hA rfl rfl) rfl fun a hA =>
   stp hA (r_ld1 (j:=0) [[.int .u32 nd1.head.Version],av .u8 32 nd1.head.Prev,av .u8 32 nd1.head.Root,[.int .u32 nd1.head.Time],[.int .u32 nd1.head.Work],[.int .u32 nd1.head.Nonce],[.int .i64 nd1.height]] [[(gs1 kk1).2.1]] U45 rfl ((hI.sl [2] rfl).focus hp1.1.2 hk1) rfl hA rfl rfl) rfl fun a hA =>
   sta hA rfl rfl fun a hA =>
   sta hA rfl rfl fun a hA=>?_
  refine o_nil<|hN5 _ _<|w_ret ?_
  obtain rfl:=sJ H
  exact ret2 hA Tryz.results17 rfl rfl ⟨_,rfl,rfl,(NdW.at hp1 hk1).2.2.1,trivial,((hI.sl [1,2] rfl).less (Store.le.refl _) hI.le)⟩
 ·have hc1:=ft hc1;have H:=bF H hc1
  refine w_skip<|hN2 _ _<|w_seq fun _ hN6=>w_reg<|sta hA rfl rfl fun a hA =>
   sta hA rfl rfl fun a hA=>?_
  refine o_nil<|hN6 _ _<|w_ret ?_
  obtain rfl:=sJ H
  exact ret2 hA Tryz.results17 rfl rfl ⟨_,rfl,rfl,(in_lit .u64 0 rfl),trivial,((hI.sl [1,2] rfl).less (Store.le.refl _) hI.le)⟩
theorem tree_Tree_Ancestor.c (μ:Store)(w0:World)(hμ:Agr μ w0)(x0:treeTree)(gm1:Nat)(gs1:(List Int)→NG)(g0:Nat)(hp1:nw107 μ x0.m gs1)(hp2:Arr .u8 32 x0.start)(ho0:Its μ w0 [cel g0 [[.map (some gm1)],av .u8 32 x0.start] 109,nd107 gm1 x0.m gs1])(x1:List Int)(hx1:Arr .u8 32 x1)(x2:Int)(hx2:InR .i64 x2)(r:(List Int)×Bool)(H:tree_Tree_Ancestor.f x0 x1 x2=some r) :
  Calls Tryz.prog 19 [pt g0 0,.agg [av .u8 32 x1].flatten.toArray,.int .i64 x2].toArray w0 (fun e w'=>∃ v,e=.returned v∧v=.tuple #[.agg [av .u8 32 (r.1)].flatten.toArray,.bool (r.2)]∧Arr .u8 32 (r.1)∧True∧Iv w0 (many [cel g0 [[.map (some gm1)],av .u8 32 x0.start] 109,nd107 gm1 x0.m gs1]).foot μ μ [cel g0 [[.map (some gm1)],av .u8 32 x0.start] 109,nd107 gm1 x0.m gs1] w'):=by
 refine enter Tryz.func19 rfl Tryz.ntmps19 rfl fun a hA=>?_
 have hI:=Iv.startN hμ ho0
 have H:=bI H
 refine w_seq fun _ hN1=>w_reg<|o_box [av .u8 32 x1] hI hA rfl rfl rfl fun g1 a w hA hI hg1 =>
  o_new [av .u8 32 Z32] zr25 hI hA rfl fun g2 a w hA hI hg2 =>
  sta hA rfl rfl fun a hA=>?_
 refine o_nil<|hN1 _ _<|w_seq fun _ hN2=>?_
 refine w_draw mo (by kernel_rfl) hI ?_
 refine qtp hA (fun _ hI=>r_mv hA rfl) rfl fun a hA =>
  qtp hA (fun _ hI=>r_nilc hA rfl) rfl fun a hA =>
  qtp hA (fun _ hI=>r_fd (k:=0) U109 rfl sz107 hA rfl rfl) rfl fun a hA =>
  qtp hA (fun _ hI=>r_ld1 (j:=2) [] [av .u8 32 x0.start] U107 rfl hI rfl hA rfl rfl) rfl fun a hA =>
  qtp hA (fun _ hI=>r_ldA (j:=1) [] [av .u8 32 x1] [] U25 rfl sz25 rfl hI rfl hA rfl rfl) rfl fun a hA =>
  qtp hA (fun _ hI=>r_nlook2 (j:=3) kn107 U107 mz107 hp1.1 hx1 hI rfl hA rfl rfl) rfl fun a hA =>
  qtp hA (fun _ hI=>r_mv hA rfl) rfl fun a hA =>
  qtp hA (fun _ hI=>r_extr (vs:=[pvn gs1 (lkn x0.m x1),.bool ((mget x0.m x1).isSome)]) hA rfl rfl) rfl fun a hA =>
  qtp hA (fun _ hI=>r_extr (vs:=[pvn gs1 (lkn x0.m x1),.bool ((mget x0.m x1).isSome)]) hA rfl rfl) rfl fun a hA =>
  qtp hA (fun _ hI=>r_as hA rfl) rfl fun a hA =>
  qtp hA (fun _ hI=>r_as hA rfl) rfl fun a hA=>?_
 refine q_nil fun w hI=>?_
 refine hN2 _ _<|w_seq fun _ hN3=>?_
 obtain ⟨c1,hz1,Hk1⟩:=bB H
 refine w_cut (fun a w=>Fr a 52 [(0,pt g0 0),(2,.int .i64 x2),(4,pt g1 0),(6,pt g2 0),(7,.bool false),(8,pvn gs1 (lkn x0.m x1)),(32,.bool c1)]∧Iv w0 (many [cel g0 [[.map (some gm1)],av .u8 32 x0.start] 109,nd107 gm1 x0.m gs1]).foot μ μ [cel g2 [av .u8 32 Z32] 25,cel g1 [av .u8 32 x1] 25,cel g0 [[.map (some gm1)],av .u8 32 x0.start] 109,nd107 gm1 x0.m gs1] w) ?_ ?_
 ·have H:=bI hz1
  refine w_reg<|stm hA rfl rfl fun a hA =>
   stp hA (r_not hA rfl) rfl fun a hA =>
   stm hA rfl rfl fun a hA=>?_
  rcases Bool.eq_false_or_eq_true (!((mget x0.m x1).isSome)) with hc1 | hc1
  ·have hc10:=hc1;have hc1:=nT hc1;have hc1:=ft hc1;have H:=bF H hc1
   refine o_no hA rfl rfl (by rw [hc10];simp [vb]) rfl fun a hA =>
    o_no hA rfl rfl (by rw [hc10];simp [vb]) rfl fun a hA =>
    stp hA (r_pick_t hA rfl hc10 rfl) rfl fun a hA =>
    stm hA rfl rfl fun a hA =>
    o_no hA rfl rfl (by simp [vb]) rfl fun a hA =>
    o_no hA rfl rfl (by simp [vb]) rfl fun a hA =>
    o_no hA rfl rfl (by simp [vb]) rfl fun a hA =>
    o_no hA rfl rfl (by simp [vb]) rfl fun a hA =>
    o_no hA rfl rfl (by simp [vb]) rfl fun a hA =>
    o_no hA rfl rfl (by simp [vb]) rfl fun a hA =>
    stp hA (r_pick_t hA rfl rfl rfl) rfl fun a hA=>?_
   refine o_nil ?_
   cases sJ H
   exact ⟨hA.sub ⟨rfl,rfl,rfl,rfl,rfl,rfl,rfl,trivial⟩,hI⟩
  ·have hc10:=hc1;have hc1:=nF hc1;have H:=bT H hc1
   refine o_yes hA rfl rfl hc10 <|
    stm hA rfl rfl fun a hA =>
    o_yes hA rfl rfl hc10 <|
    stp hA (r_lss hA rfl rfl) rfl fun a hA =>
    stp hA (r_pick_f hA rfl hc10 rfl) rfl fun a hA =>
    stm hA rfl rfl fun a hA=>?_
   rcases Bool.eq_false_or_eq_true (decide (x2 < 0)) with hc2 | hc2
   ·have hc20:=hc2;obtain ⟨hc2,H⟩:=dT H hc2
    refine o_no hA rfl rfl (by rw [hc20];simp [vb]) rfl fun a hA =>
     o_no hA rfl rfl (by rw [hc20];simp [vb]) rfl fun a hA =>
     o_no hA rfl rfl (by rw [hc20];simp [vb]) rfl fun a hA =>
     o_no hA rfl rfl (by rw [hc20];simp [vb]) rfl fun a hA =>
     o_no hA rfl rfl (by rw [hc20];simp [vb]) rfl fun a hA =>
     o_no hA rfl rfl (by rw [hc20];simp [vb]) rfl fun a hA =>
     stp hA (r_pick_t hA rfl hc20 rfl) rfl fun a hA=>?_
    refine o_nil ?_
    cases sJ H
    exact ⟨hA.sub ⟨rfl,rfl,rfl,rfl,rfl,rfl,rfl,trivial⟩,hI⟩
   ·have hc20:=hc2;obtain ⟨hc2,H⟩:=dF H hc2
    refine o_yes hA rfl rfl hc20 <|
     stm hA rfl rfl fun a hA =>
     o_yes hA rfl rfl hc20 <|
     stm hA rfl rfl fun a hA =>
     o_yes hA rfl rfl hc20<|?_
    obtain ⟨nd1,hn1,H⟩:=bB H
    obtain ⟨kk1,ho1,hk1⟩:=nget_some hn1
    have hw1:HeadW μ nd1.head:=(NdW.at hp1 hk1).1
    refine stp hA (r_nilcN ho1 hA rfl) rfl fun a hA =>
     o_yes hA rfl rfl hc20 <|
     stp hA (r_fd (k:=68) U106 rfl sz3 hA rfl rfl) rfl fun a hA =>
     o_yes hA rfl rfl hc20 <|
     stp hA (r_ld1 (j:=0) [[.int .u32 nd1.head.Version],av .u8 32 nd1.head.Prev,av .u8 32 nd1.head.Root,[.int .u32 nd1.head.Time],[.int .u32 nd1.head.Work],[.int .u32 nd1.head.Nonce]] [[.int .u64 nd1.work],[(gs1 kk1).2.1]] U3 rfl ((hI.sl [3] rfl).focus hp1.1.2 hk1) rfl hA rfl rfl) rfl fun a hA =>
     o_yes hA rfl rfl hc20 <|
     stp hA (r_gtr hA rfl rfl) rfl fun a hA =>
     stp hA (r_pick_f hA rfl hc20 rfl) rfl fun a hA=>?_
    refine o_nil ?_
    cases sJ H
    exact ⟨hA.sub ⟨rfl,rfl,rfl,rfl,rfl,rfl,rfl,trivial⟩,hI⟩
 ·rintro a w ⟨hA,hI⟩
  have H:=Hk1
  refine w_cond hA rfl (fun hc3=>?_) (fun hc3=>?_)
  ·have H:=bT H hc3
   refine w_seq fun _ hN4=>w_reg<|stp hA (r_bldA (cs:=[av .u8 32 ([0,0,0,0,0,0,0,0,0,0,0,0,0,0,0,0,0,0,0,0,0,0,0,0,0,0,0,0,0,0,0,0])].flatten.toArray) zr25 U25 sz5 hA rfl (by kernel_rfl)) rfl fun a hA =>
    o_st (j:=0) [] [av .u8 32 Z32] [av .u8 32 ([0,0,0,0,0,0,0,0,0,0,0,0,0,0,0,0,0,0,0,0,0,0,0,0,0,0,0,0,0,0,0,0])] [] sz25 rfl rfl (fl_cons (one_av _ _ _) fl_nil) hI rfl hA rfl rfl rfl rfl fun w hI =>
    sta hA rfl rfl fun a hA=>?_
   refine o_nil<|hN4 _ _<|w_ret ?_
   obtain rfl:=sJ H
   exact retN hA Tryz.results19 (.cell rfl (cell_ld U25 rfl sz25 rfl hI (j:=0) rfl) (.tmp rfl .nil)) ⟨_,rfl,rfl,(arr_lit rfl (by simp only [List.forall_mem_cons];exact ⟨(in_lit .u8 0 rfl),(in_lit .u8 0 rfl),(in_lit .u8 0 rfl),(in_lit .u8 0 rfl),(in_lit .u8 0 rfl),(in_lit .u8 0 rfl),(in_lit .u8 0 rfl),(in_lit .u8 0 rfl),(in_lit .u8 0 rfl),(in_lit .u8 0 rfl),(in_lit .u8 0 rfl),(in_lit .u8 0 rfl),(in_lit .u8 0 rfl),(in_lit .u8 0 rfl),(in_lit .u8 0 rfl),(in_lit .u8 0 rfl),(in_lit .u8 0 rfl),(in_lit .u8 0 rfl),(in_lit .u8 0 rfl),(in_lit .u8 0 rfl),(in_lit .u8 0 rfl),(in_lit .u8 0 rfl),(in_lit .u8 0 rfl),(in_lit .u8 0 rfl),(in_lit .u8 0 rfl),(in_lit .u8 0 rfl),(in_lit .u8 0 rfl),(in_lit .u8 0 rfl),(in_lit .u8 0 rfl),(in_lit .u8 0 rfl),(in_lit .u8 0 rfl),(in_lit .u8 0 rfl),by simp⟩)),trivial,((hI.sl [2,3] rfl).less (Store.le.refl _) hI.le)⟩
  ·have hc3:=ft hc3;have H:=bF H hc3
   refine w_skip<|hN3 _ _ ?_
   obtain ⟨⟨c2,c3⟩,hz2,Hk2⟩:=bB H
   refine w_cut (fun a w=>Arr .u8 32 c3∧Fr a 52 [(4,pt g1 0),(6,pt g2 0),(7,.bool false),(8,pvn gs1 c2)]∧Iv w0 (many [cel g0 [[.map (some gm1)],av .u8 32 x0.start] 109,nd107 gm1 x0.m gs1]).foot μ μ [cel g2 [av .u8 32 Z32] 25,cel g1 [av .u8 32 c3] 25,cel g0 [[.map (some gm1)],av .u8 32 x0.start] 109,nd107 gm1 x0.m gs1] w) ?_ ?_
   ·have H:=bI hz2
    refine w_block ?_
    obtain ⟨z1,hz3,Hk3⟩:=bind_some H
    obtain ⟨n1,hn2⟩:=loopO_some hz3
    refine w_loop (fun n a w=>∃(s1:Option (List Int))(s2:List Int),loopN (tree_Tree_Ancestor.s0 x0 x2) n (s1,s2)=some z1∧Arr .u8 32 s2∧Fr a 52 [(0,pt g0 0),(2,.int .i64 x2),(4,pt g1 0),(6,pt g2 0),(7,.bool false),(8,pvn gs1 s1)]∧Iv w0 (many [cel g0 [[.map (some gm1)],av .u8 32 x0.start] 109,nd107 gm1 x0.m gs1]).foot μ μ [cel g2 [av .u8 32 Z32] 25,cel g1 [av .u8 32 s2] 25,cel g0 [[.map (some gm1)],av .u8 32 x0.start] 109,nd107 gm1 x0.m gs1] w) n1 ⟨lkn x0.m x1,x1,hn2,hx1,hA.sub ⟨rfl,rfl,rfl,rfl,rfl,rfl,trivial⟩,hI⟩ ?_
    clear hA hI
    rintro n a w ⟨s1,s2,hn2,ws2,hA,hI⟩
    obtain ⟨m1,rfl,H⟩:=loopN_bind hn2
    clear hn2
    dsimp only [tree_Tree_Ancestor.s0] at H
    refine w_seq fun _ hN5=>w_seq fun _ hN6=>w_reg<|stm hA rfl rfl fun a hA=>?_
    obtain ⟨nd2,hn3,H⟩:=bB H
    obtain ⟨kk2,ho2,hk2⟩:=nget_some hn3
    have hw2:HeadW μ nd2.head:=(NdW.at hp1 hk2).1
    refine stp hA (r_nilcN ho2 hA rfl) rfl fun a hA =>
     stp hA (r_fd (k:=68) U106 rfl sz3 hA rfl rfl) rfl fun a hA =>
     stp hA (r_ld1 (j:=0) [[.int .u32 nd2.head.Version],av .u8 32 nd2.head.Prev,av .u8 32 nd2.head.Root,[.int .u32 nd2.head.Time],[.int .u32 nd2.head.Work],[.int .u32 nd2.head.Nonce]] [[.int .u64 nd2.work],[(gs1 kk2).2.1]] U3 rfl ((hI.sl [3] rfl).focus hp1.1.2 hk2) rfl hA rfl rfl) rfl fun a hA =>
     stm hA rfl rfl fun a hA =>
     stp hA (r_gtr hA rfl rfl) rfl fun a hA=>?_
    refine o_nil<|hN6 _ _<|w_cond hA rfl (fun hc4=>?_) (fun hc4=>?_)
    ·obtain ⟨hc4,H⟩:=dT H hc4
     refine w_skip<|hN5 _ _<|w_block<|w_seq fun _ hN7=>w_reg<|stm hA rfl rfl fun a hA =>
      stp hA (r_nilcN ho2 hA rfl) rfl fun a hA =>
      stp hA (r_fd (k:=0) U106 rfl sz27 hA rfl rfl) rfl fun a hA =>
      stp hA (r_fd (k:=1) U27 rfl sz25 hA rfl rfl) rfl fun a hA =>
      stp hA (r_ldA (j:=0) [[.int .u32 nd2.head.Version]] [av .u8 32 nd2.head.Prev] [av .u8 32 nd2.head.Root,[.int .u32 nd2.head.Time],[.int .u32 nd2.head.Work],[.int .u32 nd2.head.Nonce],[.int .i64 nd2.height],[.int .u64 nd2.work],[(gs1 kk2).2.1]] U25 rfl sz25 rfl ((hI.sl [3] rfl).focus hp1.1.2 hk2) rfl hA rfl rfl) rfl fun a hA =>
      o_st (j:=1) [] [av .u8 32 s2] [av .u8 32 nd2.head.Prev] [] sz25 rfl rfl (fl_cons (one_av _ _ _) fl_nil) hI rfl hA rfl rfl rfl rfl fun w hI=>?_
     refine o_nil<|hN7 _ _ ?_
     refine w_draw mo (by kernel_rfl) hI ?_
     refine qtp hA (fun _ hI=>r_mv hA rfl) rfl fun a hA =>
      qtp hA (fun _ hI=>r_nilc hA rfl) rfl fun a hA =>
      qtp hA (fun _ hI=>r_fd (k:=0) U109 rfl sz107 hA rfl rfl) rfl fun a hA =>
      qtp hA (fun _ hI=>r_ld1 (j:=2) [] [av .u8 32 x0.start] U107 rfl hI rfl hA rfl rfl) rfl fun a hA =>
      qtp hA (fun _ hI=>r_ldA (j:=1) [] [av .u8 32 nd2.head.Prev] [] U25 rfl sz25 rfl hI rfl hA rfl rfl) rfl fun a hA =>
      qtp hA (fun _ hI=>r_nlook (j:=3) kn107 U107 mz107 hp1.1 hw2.2.1 hI rfl hA rfl rfl) rfl fun a hA =>
      qtp hA (fun _ hI=>r_as hA rfl) rfl fun a hA=>?_
     refine q_nil fun w hI=>?_
     exact ⟨m1,lS _,lkn x0.m nd2.head.Prev,nd2.head.Prev,H,hw2.2.1,hA.sub ⟨rfl,rfl,rfl,rfl,rfl,rfl,trivial⟩,hI⟩
    ·obtain ⟨hc4,H⟩:=dF H hc4
     refine w_exit rfl ?_
     have H:some (s1,s2)=some z1:=H
     obtain rfl:=sI H
     have H:=Hk3
     cases sJ H
     exact ⟨ws2,hA.sub ⟨rfl,rfl,rfl,rfl,trivial⟩,hI⟩
   ·rintro a w ⟨wc3,hA,hI⟩
    have H:=Hk2
    refine w_seq fun _ hN8=>w_reg<|stp hA (r_ldA (j:=1) [] [av .u8 32 c3] [] U25 rfl sz25 rfl hI rfl hA rfl rfl) rfl fun a hA =>
     o_st (j:=0) [] [av .u8 32 Z32] [av .u8 32 c3] [] sz25 rfl rfl (fl_cons (one_av _ _ _) fl_nil) hI rfl hA rfl rfl rfl rfl fun w hI =>
     sta hA rfl rfl fun a hA=>?_
    refine o_nil<|hN8 _ _<|w_ret ?_
    obtain rfl:=sJ H
    exact retN hA Tryz.results19 (.cell rfl (cell_ld U25 rfl sz25 rfl hI (j:=0) rfl) (.tmp rfl .nil)) ⟨_,rfl,rfl,wc3,trivial,((hI.sl [2,3] rfl).less (Store.le.refl _) hI.le)⟩
theorem bytes_Compare.e (μ:Store)(w0:World)(hμ:Agr μ w0)(x0:List Int)(u0:Value)(hx0:Slc (RI .u8) 1 μ u0 x0)(x1:List Int)(u1:Value)(hx1:Slc (RI .u8) 1 μ u1 x1) :
  Calls Tryz.prog 94 [u0,u1].toArray w0 (fun e w'=>e=.returned (.int .i64 (cmpI x0 x1))∧w'=w0):=by
 refine enter Tryz.func94 rfl Tryz.ntmps94 rfl fun a hA=>?_
 have hI:=Iv.start hμ
 refine w_seq fun _ hN1=>w_reg<|sta hA rfl rfl fun a hA=>?_
 refine o_nil<|hN1 _ _<|w_seq fun _ hN2=>w_reg<|stm hA rfl rfl fun a hA =>
  stm hA rfl rfl fun a hA =>
  stp hA (r_cmp Tryz.func146 xc146.1 xc146.2.1 xc146.2.2 xe146 hA rfl rfl (rdb_sl hI.agr hx0) (rdb_sl hI.agr hx1) (Slc.rng hx0) (Slc.rng hx1)) rfl fun a hA =>
  sta hA rfl rfl fun a hA=>?_
 refine o_nil<|hN2 _ _<|w_ret ?_
 exact ret1 hA Tryz.results94 rfl ⟨rfl,rfl⟩
theorem digest_Compare.e (x0:List Int)(hx0:Arr .u8 32 x0)(x1:List Int)(hx1:Arr .u8 32 x1)(W:World) :
  Calls Tryz.prog 57 [.agg [av .u8 32 x0].flatten.toArray,.agg [av .u8 32 x1].flatten.toArray].toArray W (fun e w'=>e=.returned (.int .i64 (cmpI x0 x1))∧∃ q os',w'=Go.Sort.grow (W.drewN q) os'):=by
 refine enter Tryz.func57 rfl Tryz.ntmps57 rfl fun a hA=>?_
 have hI:=Iv.start (μ:=fun _=>none) (w:=W) (fun _ _ h=>by cases h)
 refine w_seq fun _ hN1=>w_reg<|o_boxG [av .u8 32 x0] hI (Gw.refl W) hA rfl rfl rfl fun g1 a w hA hI hG =>
  o_boxG [av .u8 32 x1] hI hG hA rfl rfl rfl fun g2 a w hA hI hG =>
  sta hA rfl rfl fun a hA=>?_
 refine o_nil<|hN1 _ _<|w_seq fun _ hN2=>?_
 refine w_drawG mo (by kernel_rfl) hI hG ?_
 refine qtp hA (fun _ hI=>r_slv (i:=0) (j:=32) U25 sz5 hA rfl rfl rfl (by decide) (by decide) (by decide) (by decide) rfl) rfl fun a hA =>
  qtp hA (fun _ hI=>r_slv (i:=0) (j:=32) U25 sz5 hA rfl rfl rfl (by decide) (by decide) (by decide) (by decide) rfl) rfl fun a hA=>?_
 refine qcall (v:=.int .i64 (cmpI x0 x1)) cf94 hA rfl (fun w hI=>by obtain ⟨hI,hG⟩:=hI;have hI0:=hI;obtain ⟨μ1,hle1,hat1,hI⟩:=hI.freezeCel 1 rfl;have hS1:Slc (RI .u8) 1 μ1 (.slice (some ⟨g1,0,none⟩) 32 32) (x0):=slc_view0 [] [] hat1 hx0 rfl (by decide);obtain ⟨μ2,hle2,hat2,hI⟩:=hI.freezeCel 0 rfl;have hS2:Slc (RI .u8) 1 μ2 (.slice (some ⟨g2,0,none⟩) 32 32) (x1):=slc_view0 [] [] hat2 hx1 rfl (by decide);exact (bytes_Compare.e μ2 _ hI.agr x0 (.slice (some ⟨g1,0,none⟩) 32 32) (Slc.le hS1 (fun _ _ h=>h) hle2) x1 (.slice (some ⟨g2,0,none⟩) 32 32) hS2).mono fun e w' ⟨h1,h2⟩=>⟨h1,by rw [h2];exact ⟨hI0,hG⟩⟩) rfl fun a hA =>
  qtp hA (fun _ hI=>r_as hA rfl) rfl fun a hA=>?_
 refine q_nil fun w hI=>?_
 refine hN2 _ _<|w_ret ?_
 exact ret1 hA Tryz.results57 rfl ⟨rfl,hI.2⟩
theorem slices_SortFunc_api_Hash_api_Hash_at_digest_Compare.c (μ:Store)(w0:World)(hμ:Agr μ w0)(x0:List (List Int))(u0:Value)(k0:List Value)(hx0:Els (RA .u8 32) 32 x0 k0)(ho0:RowOK μ w0 25 32 u0 x0.length k0)(r:List (List Int))(H:slices_SortFunc_api_Hash_api_Hash_at_digest_Compare.f x0=some r) :
  Calls Tryz.prog 56 [u0,.func (.func 57) #[] #[]].toArray w0 (fun e w'=>∃ v,e=.returned v∧∃(c0:List Value),v=.tuple #[]∧Els (RA .u8 32) 32 r c0∧Iv w0 (row 25 32 u0 x0.length k0).foot μ μ [row 25 32 u0 r.length c0] w'):=by
 obtain ⟨hb,H⟩:=guard_some H
 obtain rfl:=sI H
 have hC:∀ (x y:H32) (W:World),Calls Tryz.prog 57 #[.agg (henc x).toArray,.agg (henc y).toArray] W fun e w'=>e=.returned (.int .i64 (hcf x y))∧∃ q os',w'=Go.Sort.grow (W.drewN q) os':=fun x y W=>by
  have h:=digest_Compare.e x.1 x.2 y.1 y.2 W
  simp only [List.flatten_cons,List.flatten_nil,List.append_nil] at h
  exact h
 exact sort_hash sortL Tryz.isAgg25 Tryz.sizeOf25 57 (enters_of Tryz.func57 (by kernel_rfl) rfl) hC hμ hx0 ho0 hb
theorem tree_Tree_Under.c (μ:Store)(w0:World)(hμ:Agr μ w0)(x0:treeTree)(gm1:Nat)(gs1:(List Int)→NG)(g0:Nat)(hp1:nw107 μ x0.m gs1)(hp2:Arr .u8 32 x0.start)(ho0:Its μ w0 [cel g0 [[.map (some gm1)],av .u8 32 x0.start] 109,nd107 gm1 x0.m gs1])(x1:List Int)(hx1:Arr .u8 32 x1)(r:List (List Int))(H:tree_Tree_Under.f x0 x1=some r) :
  Calls Tryz.prog 23 [pt g0 0,.agg [av .u8 32 x1].flatten.toArray].toArray w0 (fun e w'=>∃ v,e=.returned v∧∃(v0:Value)(c0:List Value),v=v0∧Els (RA .u8 32) 32 r c0∧Iv w0 (many [cel g0 [[.map (some gm1)],av .u8 32 x0.start] 109,nd107 gm1 x0.m gs1]).foot μ μ [row 25 32 v0 r.length c0,cel g0 [[.map (some gm1)],av .u8 32 x0.start] 109,nd107 gm1 x0.m gs1] w'):=by
 refine enter Tryz.func23 rfl Tryz.ntmps23 rfl fun a hA=>?_
 have hI:=Iv.startN hμ ho0
 have H:=bI H
 refine w_seq fun _ hN1=>w_reg<|o_box [av .u8 32 x1] hI hA rfl rfl rfl fun g1 a w hA hI hg1 =>
  sta hA rfl rfl fun a hA=>?_
 refine o_nil<|hN1 _ _<|w_seq fun _ hN2=>w_seq fun _ hN3=>?_
 refine w_draw mo (by kernel_rfl) hI ?_
 refine qtp hA (fun _ hI=>r_mv hA rfl) rfl fun a hA =>
  qtp hA (fun _ hI=>r_nilc hA rfl) rfl fun a hA =>
  qtp hA (fun _ hI=>r_fd (k:=0) U109 rfl sz107 hA rfl rfl) rfl fun a hA =>
  qtp hA (fun _ hI=>r_ld1 (j:=1) [] [av .u8 32 x0.start] U107 rfl hI rfl hA rfl rfl) rfl fun a hA =>
  qtp hA (fun _ hI=>r_ldA (j:=0) [] [av .u8 32 x1] [] U25 rfl sz25 rfl hI rfl hA rfl rfl) rfl fun a hA =>
  qtp hA (fun _ hI=>r_nlook2 (j:=2) kn107 U107 mz107 hp1.1 hx1 hI rfl hA rfl rfl) rfl fun a hA =>
  qtp hA (fun _ hI=>r_mv hA rfl) rfl fun a hA =>
  qtp hA (fun _ hI=>r_extr (vs:=[pvn gs1 (lkn x0.m x1),.bool ((mget x0.m x1).isSome)]) hA rfl rfl) rfl fun a hA =>
  qtp hA (fun _ hI=>r_extr (vs:=[pvn gs1 (lkn x0.m x1),.bool ((mget x0.m x1).isSome)]) hA rfl rfl) rfl fun a hA =>
  qtp hA (fun _ hI=>r_as hA rfl) rfl fun a hA =>
  qtp hA (fun _ hI=>r_as hA rfl) rfl fun a hA=>?_
 refine q_nil fun w hI=>?_
 refine hN3 _ _<|w_seq fun _ hN4=>w_reg<|stm hA rfl rfl fun a hA =>
  stp hA (r_not hA rfl) rfl fun a hA=>?_
 refine o_nil<|hN4 _ _<|w_cond hA rfl (fun hc1=>?_) (fun hc1=>?_)
 ·have hc1:=nT hc1;have hc1:=ft hc1;have H:=bF H hc1
  refine w_seq fun _ hN5=>w_reg<|sta hA rfl rfl fun a hA=>?_
  refine o_nil<|hN5 _ _<|w_ret ?_
  have hI:=hI.nilRow 25 32
  obtain rfl:=sJ H
  exact ret1 hA Tryz.results23 rfl ⟨_,rfl,Sn,[],rfl,(Els.nil (RE:=(RA .u8 32)) (sz:=32)),((hI.sl [0,2,3] rfl).less (Store.le.refl _) hI.le)⟩
 ·have hc1:=nF hc1;have H:=bT H hc1
  refine w_skip<|hN2 _ _<|w_seq fun _ hN6=>w_reg<|stp hA (r_ldA (j:=0) [] [av .u8 32 x1] [] U25 rfl sz25 rfl hI rfl hA rfl rfl) rfl fun a hA=>?_
  have hE1:Els (RA .u8 32) 32 ([x1]:List (List Int)) _:=(Els.cons (c:=[av .u8 32 x1].flatten) ⟨rfl,hx1⟩ rfl Els.nil)
  refine o_bsl ([av .u8 32 x1].flatten++([])) te25 zr25 U42 hI hA rfl rfl rfl rfl (by kernel_rfl) rfl fun g2 a w hA hI=>?_
  generalize hcs:([av .u8 32 x1].flatten++([]):List Value)=cs1 at hE1 hI
  clear hcs
  refine sta hA rfl rfl fun a hA=>?_
  refine o_nil<|hN6 _ _ ?_
  obtain ⟨c1,hz1,Hk1⟩:=bB H
  refine w_cut (fun a w=>∃(vvc1:Value)(ccc1:List Value),Els (RA .u8 32) 32 c1 ccc1∧Fr a 45 [(4,Sn),(7,vvc1)]∧Iv w0 (many [cel g0 [[.map (some gm1)],av .u8 32 x0.start] 109,nd107 gm1 x0.m gs1]).foot μ μ [row 25 32 vvc1 c1.length ccc1,cel g1 [av .u8 32 x1] 25,cel g0 [[.map (some gm1)],av .u8 32 x0.start] 109,nd107 gm1 x0.m gs1] w) ?_ ?_
  ·have H:=bI hz1
   refine w_seq fun _ hN7=>w_reg<|sta hA rfl rfl fun a hA=>?_
   refine o_nil<|hN7 _ _<|w_block ?_
   obtain ⟨z1,hz2,Hk2⟩:=bind_some H
   obtain ⟨n1,hn1⟩:=loopO_some hz2
   refine w_loop (fun n a w=>∃(s1:List (List Int))(s2:Int)(vvs1:Value)(ccs1:List Value),loopN (tree_Tree_Under.s0 x0) n (s1,s2)=some z1∧Els (RA .u8 32) 32 s1 ccs1∧InR .i64 s2∧Fr a 45 [(0,pt g0 0),(4,Sn),(7,vvs1),(8,.int .i64 s2)]∧Iv w0 (many [cel g0 [[.map (some gm1)],av .u8 32 x0.start] 109,nd107 gm1 x0.m gs1]).foot μ μ [row 25 32 vvs1 s1.length ccs1,cel g1 [av .u8 32 x1] 25,cel g0 [[.map (some gm1)],av .u8 32 x0.start] 109,nd107 gm1 x0.m gs1] w) n1 ⟨([x1]:List (List Int)),0,(.slice (some ⟨g2,0,none⟩) 1 1),cs1,hn1,hE1,(in_lit .i64 0 rfl),hA.sub ⟨rfl,rfl,rfl,rfl,trivial⟩,hI⟩ ?_
   clear hA hI
   rintro n a w ⟨s1,s2,vvs1,ccs1,hn1,ws1,ws2,hA,hI⟩
   obtain ⟨m1,rfl,H⟩:=loopN_bind hn1
   clear hn1
   refine w_seq fun _ hN8=>w_seq fun _ hN9=>w_reg<|stm hA rfl rfl fun a hA =>
    stm hA rfl rfl fun a hA=>?_
   have hlen1:=Iv.row_in hI (j:=0) rfl
   refine stp hA (r_rlen (xs:=0) U42 hI (j:=0) rfl hA rfl) rfl fun a hA =>
    stp hA (r_lss hA rfl rfl) rfl fun a hA=>?_
   refine o_nil<|hN9 _ _<|w_cond hA rfl (fun hc2=>?_) (fun hc2=>?_)
   ·obtain ⟨hc2,H⟩:=dT H hc2
    refine w_skip<|hN8 _ _<|w_seq fun _ hN10=>w_block ?_
    refine w_any [13] mo hI fun w hI=>?_
    refine gE 0 hA rfl (.inr hI) (fun _=>r_mv hA rfl) fun a hA=>?_
    refine gE 1 hA rfl (.inr hI) (fun _=>r_mv hA rfl) fun a hA=>?_
    refine gE 2 hA rfl (.inr hI) (fun _=>r_nilc hA rfl) fun a hA=>?_
    refine gE 3 hA rfl (.inr hI) (fun _=>r_fd (k:=0) U109 rfl sz107 hA rfl rfl) fun a hA=>?_
    refine gT 4 hA rfl hI (fun w hI=>r_ld1 (j:=2) [] [av .u8 32 x0.start] U107 rfl hI rfl hA rfl rfl) fun a hA=>?_
    refine gE 5 hA rfl (.inr hI) (fun _=>r_mv hA rfl) fun a hA=>?_
    refine gE 6 hA rfl (.inr hI) (fun _=>r_mv hA rfl) fun a hA=>?_
    obtain ⟨hb1,H⟩:=bG H
    refine gT 7 hA rfl hI (fun w hI=>r_rix (j:=0) U42 sz25 hI rfl hA rfl rfl hb1.1 hb1.2) fun a hA=>?_
    obtain ⟨A1,_,B1,hc3,hl1,_,he1⟩:=Els.at_ ws1 (getD_some [] hb1.1 hb1.2)
    obtain ⟨rfl,hw1⟩:=he1
    refine gT 8 hA rfl hI (fun w hI=>r_rldP (j:=0) (q:=s2.toNat * 32) (off:=0) A1 B1 [] [av .u8 32 (s1.getD s2.toNat [])] [] hc3 hl1 rfl U25 rfl sz25 rfl hI rfl hA rfl) fun a hA=>?_
    refine gT 9 hA rfl hI (fun w hI=>r_nlook (j:=3) kn107 U107 mz107 hp1.1 hw1 hI rfl hA rfl rfl) fun a hA=>?_
    obtain ⟨nd1,hn2,H⟩:=bB H
    obtain ⟨kk1,ho1,hk1⟩:=nget_some hn2
    have hw2:HeadW μ nd1.head:=(NdW.at hp1 hk1).1
    refine gE 10 hA rfl (.inr hI) (fun _=>r_nilcN ho1 hA rfl) fun a hA=>?_
    refine gE 11 hA rfl (.inr hI) (fun _=>r_fd (k:=70) U106 rfl sz42 hA rfl rfl) fun a hA=>?_
    refine gT 12 hA rfl hI (fun w hI=>r_ld1 (j:=0) [[.int .u32 nd1.head.Version],av .u8 32 nd1.head.Prev,av .u8 32 nd1.head.Root,[.int .u32 nd1.head.Time],[.int .u32 nd1.head.Work],[.int .u32 nd1.head.Nonce],[.int .i64 nd1.height],[.int .u64 nd1.work]] [] U42 rfl ((hI.sl [3] rfl).focus hp1.1.2 hk1) rfl hA rfl rfl) fun a hA=>?_
    refine gF 13 rfl ?_
    obtain ⟨hb2,H⟩:=bG H
    have hE3:=ws1.app ((NdW.at hp1 hk1).2.2.2)
    refine o_appG (xs:=(s1:List (List Int))) (ys:=(nd1.up:List (List Int))) (M:=4398046511104) 0 te25 U42 hI rfl hA rfl rfl (src_row ((hI.sl [3] rfl).focus hp1.1.2 hk1) (j:=1) rfl) ((NdW.at hp1 hk1).2.2.2).len (((NdW.at hp1 hk1).2.2.2).ones (one_RA _ _)) hb2 rfl fun v1 a w hA hI=>?_
    refine o_nil<|⟨(.inl (by kernel_rfl)),?_⟩
    refine gE 14 hA rfl (.inl (by kernel_rfl)) (fun _=>r_as hA rfl) fun a hA=>?_
    refine gN<|hN10 _ _<|w_reg<|stm hA rfl rfl fun a hA =>
     stp hA (r_add hA rfl rfl) rfl fun a hA =>
     sta hA rfl rfl fun a hA=>?_
    refine o_nil<|⟨m1,lS _,s1++nd1.up,IntKind.i64.wrap (s2+1),v1,ccs1++((gs1 kk1).2.2),H,hE3,(wrap_in _ _),hA.sub ⟨rfl,rfl,rfl,rfl,trivial⟩,hI⟩
   ·obtain ⟨hc2,H⟩:=dF H hc2
    refine w_exit rfl ?_
    have H:some s1=some z1:=H
    obtain rfl:=sI H
    have H:=Hk2
    cases sJ H
    exact ⟨vvs1,ccs1,ws1,hA.sub ⟨rfl,rfl,trivial⟩,hI⟩
  ·rintro a w ⟨vvc1,ccc1,wc1,hA,hI⟩
   have H:=Hk1
   refine w_seq fun _ hN11=>w_reg<|stm hA rfl rfl fun a hA=>?_
   obtain ⟨r1,hr1,H⟩:=bB H
   refine o_call _ cf56 hA rfl (slices_SortFunc_api_Hash_api_Hash_at_digest_Compare.c μ _ hI.agr c1 vvc1 ccc1 wc1 (hI.item (j:=0) rfl) r1 hr1) rfl fun v2 a w hz3 hA=>?_
   obtain ⟨cs4,rfl,hE4,hi1⟩:=hz3
   have hI:=hI.call1 0 rfl hi1
   refine o_nil<|hN11 _ _<|w_seq fun _ hN12=>w_reg<|stm hA rfl rfl fun a hA =>
    sta hA rfl rfl fun a hA=>?_
   refine o_nil<|hN12 _ _<|w_ret ?_
   obtain rfl:=sJ H
   exact ret1 hA Tryz.results23 rfl ⟨_,rfl,vvc1,cs4,rfl,hE4,((hI.sl [0,2,3] rfl).less (Store.le.refl _) hI.le)⟩
theorem tree_Tree_Common.c (μ:Store)(w0:World)(hμ:Agr μ w0)(x0:treeTree)(gm1:Nat)(gs1:(List Int)→NG)(g0:Nat)(hp1:nw107 μ x0.m gs1)(hp2:Arr .u8 32 x0.start)(ho0:Its μ w0 [cel g0 [[.map (some gm1)],av .u8 32 x0.start] 109,nd107 gm1 x0.m gs1])(x1:List Int)(hx1:Arr .u8 32 x1)(x2:List Int)(hx2:Arr .u8 32 x2)(r:(List Int)×Bool)(H:tree_Tree_Common.f x0 x1 x2=some r) :
  Calls Tryz.prog 27 [pt g0 0,.agg [av .u8 32 x1].flatten.toArray,.agg [av .u8 32 x2].flatten.toArray].toArray w0 (fun e w'=>∃ v,e=.returned v∧v=.tuple #[.agg [av .u8 32 (r.1)].flatten.toArray,.bool (r.2)]∧Arr .u8 32 (r.1)∧True∧Iv w0 (many [cel g0 [[.map (some gm1)],av .u8 32 x0.start] 109,nd107 gm1 x0.m gs1]).foot μ μ [cel g0 [[.map (some gm1)],av .u8 32 x0.start] 109,nd107 gm1 x0.m gs1] w'):=by
 refine enter Tryz.func27 rfl Tryz.ntmps27 rfl fun a hA=>?_
 have hI:=Iv.startN hμ ho0
 have H:=bI H
 refine w_seq fun _ hN1=>w_reg<|o_box [av .u8 32 x1] hI hA rfl rfl rfl fun g1 a w hA hI hg1 =>
  o_box [av .u8 32 x2] hI hA rfl rfl rfl fun g2 a w hA hI hg2 =>
  o_new [av .u8 32 Z32] zr25 hI hA rfl fun g3 a w hA hI hg3 =>
  sta hA rfl rfl fun a hA=>?_
 refine o_nil<|hN1 _ _<|w_seq fun _ hN2=>?_
 refine w_draw mo (by kernel_rfl) hI ?_
 refine qtp hA (fun _ hI=>r_mv hA rfl) rfl fun a hA =>
  qtp hA (fun _ hI=>r_nilc hA rfl) rfl fun a hA =>
  qtp hA (fun _ hI=>r_fd (k:=0) U109 rfl sz107 hA rfl rfl) rfl fun a hA =>
  qtp hA (fun _ hI=>r_ld1 (j:=3) [] [av .u8 32 x0.start] U107 rfl hI rfl hA rfl rfl) rfl fun a hA =>
  qtp hA (fun _ hI=>r_ldA (j:=2) [] [av .u8 32 x1] [] U25 rfl sz25 rfl hI rfl hA rfl rfl) rfl fun a hA =>
  qtp hA (fun _ hI=>r_nlook2 (j:=4) kn107 U107 mz107 hp1.1 hx1 hI rfl hA rfl rfl) rfl fun a hA =>
  qtp hA (fun _ hI=>r_mv hA rfl) rfl fun a hA =>
  qtp hA (fun _ hI=>r_extr (vs:=[pvn gs1 (lkn x0.m x1),.bool ((mget x0.m x1).isSome)]) hA rfl rfl) rfl fun a hA =>
  qtp hA (fun _ hI=>r_extr (vs:=[pvn gs1 (lkn x0.m x1),.bool ((mget x0.m x1).isSome)]) hA rfl rfl) rfl fun a hA =>
  qtp hA (fun _ hI=>r_as hA rfl) rfl fun a hA =>
  qtp hA (fun _ hI=>r_as hA rfl) rfl fun a hA=>?_
 refine q_nil fun w hI=>?_
 refine hN2 _ _<|w_seq fun _ hN3=>?_
 refine w_draw mo (by kernel_rfl) hI ?_
 refine qtp hA (fun _ hI=>r_mv hA rfl) rfl fun a hA =>
  qtp hA (fun _ hI=>r_nilc hA rfl) rfl fun a hA =>
  qtp hA (fun _ hI=>r_fd (k:=0) U109 rfl sz107 hA rfl rfl) rfl fun a hA =>
  qtp hA (fun _ hI=>r_ld1 (j:=3) [] [av .u8 32 x0.start] U107 rfl hI rfl hA rfl rfl) rfl fun a hA =>
  qtp hA (fun _ hI=>r_ldA (j:=1) [] [av .u8 32 x2] [] U25 rfl sz25 rfl hI rfl hA rfl rfl) rfl fun a hA =>
  qtp hA (fun _ hI=>r_nlook2 (j:=4) kn107 U107 mz107 hp1.1 hx2 hI rfl hA rfl rfl) rfl fun a hA =>
  qtp hA (fun _ hI=>r_mv hA rfl) rfl fun a hA =>
  qtp hA (fun _ hI=>r_extr (vs:=[pvn gs1 (lkn x0.m x2),.bool ((mget x0.m x2).isSome)]) hA rfl rfl) rfl fun a hA =>
  qtp hA (fun _ hI=>r_extr (vs:=[pvn gs1 (lkn x0.m x2),.bool ((mget x0.m x2).isSome)]) hA rfl rfl) rfl fun a hA =>
  qtp hA (fun _ hI=>r_as hA rfl) rfl fun a hA =>
  qtp hA (fun _ hI=>r_as hA rfl) rfl fun a hA=>?_
 refine q_nil fun w hI=>?_
 refine hN3 _ _<|w_seq fun _ hN4=>?_
 obtain ⟨c1,hz1,Hk1⟩:=bB H
 refine w_cut (fun a w=>Fr a 72 [(0,pt g0 0),(4,pt g1 0),(5,pt g2 0),(6,pt g3 0),(7,.bool false),(8,pvn gs1 (lkn x0.m x1)),(10,pvn gs1 (lkn x0.m x2)),(35,.bool c1)]∧Iv w0 (many [cel g0 [[.map (some gm1)],av .u8 32 x0.start] 109,nd107 gm1 x0.m gs1]).foot μ μ [cel g3 [av .u8 32 Z32] 25,cel g2 [av .u8 32 x2] 25,cel g1 [av .u8 32 x1] 25,cel g0 [[.map (some gm1)],av .u8 32 x0.start] 109,nd107 gm1 x0.m gs1] w) ?_ ?_
 ·have H:=bI hz1
  refine w_reg<|stm hA rfl rfl fun a hA =>
   stp hA (r_not hA rfl) rfl fun a hA =>
   stm hA rfl rfl fun a hA=>?_
  rcases Bool.eq_false_or_eq_true (!((mget x0.m x1).isSome)) with hc1 | hc1
  ·have hc10:=hc1;have hc1:=nT hc1;have hc1:=ft hc1;have H:=bF H hc1
   refine o_no hA rfl rfl (by rw [hc10];simp [vb]) rfl fun a hA =>
    o_no hA rfl rfl (by rw [hc10];simp [vb]) rfl fun a hA =>
    stp hA (r_pick_t hA rfl hc10 rfl) rfl fun a hA=>?_
   refine o_nil ?_
   cases sJ H
   exact ⟨hA.sub ⟨rfl,rfl,rfl,rfl,rfl,rfl,rfl,rfl,trivial⟩,hI⟩
  ·have hc10:=hc1;have hc1:=nF hc1;have H:=bT H hc1
   refine o_yes hA rfl rfl hc10 <|
    stm hA rfl rfl fun a hA =>
    o_yes hA rfl rfl hc10 <|
    stp hA (r_not hA rfl) rfl fun a hA =>
    stp hA (r_pick_f hA rfl hc10 rfl) rfl fun a hA=>?_
   refine o_nil ?_
   cases sJ H
   exact ⟨hA.sub ⟨rfl,rfl,rfl,rfl,rfl,rfl,rfl,rfl,trivial⟩,hI⟩
 ·rintro a w ⟨hA,hI⟩
  have H:=Hk1
  refine w_cond hA rfl (fun hc2=>?_) (fun hc2=>?_)
  ·have H:=bT H hc2
   refine w_seq fun _ hN5=>w_reg<|stp hA (r_bldA (cs:=[av .u8 32 ([0,0,0,0,0,0,0,0,0,0,0,0,0,0,0,0,0,0,0,0,0,0,0,0,0,0,0,0,0,0,0,0])].flatten.toArray) zr25 U25 sz5 hA rfl (by kernel_rfl)) rfl fun a hA =>
    o_st (j:=0) [] [av .u8 32 Z32] [av .u8 32 ([0,0,0,0,0,0,0,0,0,0,0,0,0,0,0,0,0,0,0,0,0,0,0,0,0,0,0,0,0,0,0,0])] [] sz25 rfl rfl (fl_cons (one_av _ _ _) fl_nil) hI rfl hA rfl rfl rfl rfl fun w hI =>
    sta hA rfl rfl fun a hA=>?_
   refine o_nil<|hN5 _ _<|w_ret ?_
   obtain rfl:=sJ H
   exact retN hA Tryz.results27 (.cell rfl (cell_ld U25 rfl sz25 rfl hI (j:=0) rfl) (.tmp rfl .nil)) ⟨_,rfl,rfl,(arr_lit rfl (by simp only [List.forall_mem_cons];exact ⟨(in_lit .u8 0 rfl),(in_lit .u8 0 rfl),(in_lit .u8 0 rfl),(in_lit .u8 0 rfl),(in_lit .u8 0 rfl),(in_lit .u8 0 rfl),(in_lit .u8 0 rfl),(in_lit .u8 0 rfl),(in_lit .u8 0 rfl),(in_lit .u8 0 rfl),(in_lit .u8 0 rfl),(in_lit .u8 0 rfl),(in_lit .u8 0 rfl),(in_lit .u8 0 rfl),(in_lit .u8 0 rfl),(in_lit .u8 0 rfl),(in_lit .u8 0 rfl),(in_lit .u8 0 rfl),(in_lit .u8 0 rfl),(in_lit .u8 0 rfl),(in_lit .u8 0 rfl),(in_lit .u8 0 rfl),(in_lit .u8 0 rfl),(in_lit .u8 0 rfl),(in_lit .u8 0 rfl),(in_lit .u8 0 rfl),(in_lit .u8 0 rfl),(in_lit .u8 0 rfl),(in_lit .u8 0 rfl),(in_lit .u8 0 rfl),(in_lit .u8 0 rfl),(in_lit .u8 0 rfl),by simp⟩)),trivial,((hI.sl [3,4] rfl).less (Store.le.refl _) hI.le)⟩
  ·have hc2:=ft hc2;have H:=bF H hc2
   refine w_skip<|hN4 _ _ ?_
   obtain ⟨⟨c2,c3,c4,c5⟩,hz2,Hk2⟩:=bB H
   refine w_cut (fun a w=>Arr .u8 32 c4∧Arr .u8 32 c5∧Fr a 72 [(4,pt g1 0),(6,pt g3 0),(7,.bool false),(8,pvn gs1 c2),(10,pvn gs1 c3)]∧Iv w0 (many [cel g0 [[.map (some gm1)],av .u8 32 x0.start] 109,nd107 gm1 x0.m gs1]).foot μ μ [cel g3 [av .u8 32 Z32] 25,cel g2 [av .u8 32 c4] 25,cel g1 [av .u8 32 c5] 25,cel g0 [[.map (some gm1)],av .u8 32 x0.start] 109,nd107 gm1 x0.m gs1] w) ?_ ?_
   ·have H:=bI hz2
    refine w_block ?_
    obtain ⟨z1,hz3,Hk3⟩:=bind_some H
    obtain ⟨n1,hn1⟩:=loopO_some hz3
    refine w_loop (fun n a w=>∃(s1 s2:Option (List Int))(s3 s4:List Int),loopN (tree_Tree_Common.s0 x0) n (s1,s2,s3,s4)=some z1∧Arr .u8 32 s3∧Arr .u8 32 s4∧Fr a 72 [(0,pt g0 0),(4,pt g1 0),(5,pt g2 0),(6,pt g3 0),(7,.bool false),(8,pvn gs1 s1),(10,pvn gs1 s2)]∧Iv w0 (many [cel g0 [[.map (some gm1)],av .u8 32 x0.start] 109,nd107 gm1 x0.m gs1]).foot μ μ [cel g3 [av .u8 32 Z32] 25,cel g2 [av .u8 32 s3] 25,cel g1 [av .u8 32 s4] 25,cel g0 [[.map (some gm1)],av .u8 32 x0.start] 109,nd107 gm1 x0.m gs1] w) n1 ⟨lkn x0.m x1,lkn x0.m x2,x2,x1,hn1,hx2,hx1,hA.sub ⟨rfl,rfl,rfl,rfl,rfl,rfl,rfl,trivial⟩,hI⟩ ?_
    clear hA hI
    rintro n a w ⟨s1,s2,s3,s4,hn1,ws3,ws4,hA,hI⟩
    obtain ⟨m1,rfl,H⟩:=loopN_bind hn1
    clear hn1
    refine w_seq fun _ hN6=>w_seq fun _ hN7=>w_reg<|stp hA (r_ldA (j:=2) [] [av .u8 32 s4] [] U25 rfl sz25 rfl hI rfl hA rfl rfl) rfl fun a hA =>
     stp hA (r_ldA (j:=1) [] [av .u8 32 s3] [] U25 rfl sz25 rfl hI rfl hA rfl rfl) rfl fun a hA =>
     stp hA (r_neS hA rfl rfl eg25 (eqv_arr U25 U5 sz5 ws4 ws3)) rfl fun a hA=>?_
    refine o_nil<|hN7 _ _<|w_cond hA rfl (fun hc3=>?_) (fun hc3=>?_)
    ·obtain ⟨hc3,H⟩:=dT H hc3
     refine w_skip<|hN6 _ _<|w_block<|w_seq fun _ hN8=>?_
     refine w_draw mo (by kernel_rfl) hI ?_
     refine qtp hA (fun _ hI=>r_mv hA rfl) rfl fun a hA=>?_
     obtain ⟨nd1,hn2,H⟩:=bB H
     obtain ⟨kk1,ho1,hk1⟩:=nget_some hn2
     have hw1:HeadW μ nd1.head:=(NdW.at hp1 hk1).1
     refine qtp hA (fun _ hI=>r_nilcN ho1 hA rfl) rfl fun a hA =>
      qtp hA (fun _ hI=>r_fd (k:=68) U106 rfl sz3 hA rfl rfl) rfl fun a hA =>
      qtp hA (fun _ hI=>r_ld1 (j:=0) [[.int .u32 nd1.head.Version],av .u8 32 nd1.head.Prev,av .u8 32 nd1.head.Root,[.int .u32 nd1.head.Time],[.int .u32 nd1.head.Work],[.int .u32 nd1.head.Nonce]] [[.int .u64 nd1.work],[(gs1 kk1).2.1]] U3 rfl ((hI.sl [4] rfl).focus hp1.1.2 hk1) rfl hA rfl rfl) rfl fun a hA =>
      qtp hA (fun _ hI=>r_mv hA rfl) rfl fun a hA=>?_
     obtain ⟨nd2,hn3,H⟩:=bB H
     obtain ⟨kk2,ho2,hk2⟩:=nget_some hn3
     have hw2:HeadW μ nd2.head:=(NdW.at hp1 hk2).1
     refine qtp hA (fun _ hI=>r_nilcN ho2 hA rfl) rfl fun a hA =>
      qtp hA (fun _ hI=>r_fd (k:=68) U106 rfl sz3 hA rfl rfl) rfl fun a hA =>
      qtp hA (fun _ hI=>r_ld1 (j:=0) [[.int .u32 nd2.head.Version],av .u8 32 nd2.head.Prev,av .u8 32 nd2.head.Root,[.int .u32 nd2.head.Time],[.int .u32 nd2.head.Work],[.int .u32 nd2.head.Nonce]] [[.int .u64 nd2.work],[(gs1 kk2).2.1]] U3 rfl ((hI.sl [4] rfl).focus hp1.1.2 hk2) rfl hA rfl rfl) rfl fun a hA =>
      qtp hA (fun _ hI=>r_geq hA rfl rfl) rfl fun a hA=>?_
     refine q_nil fun w hI=>?_
     refine hN8 _ _<|w_cond hA rfl (fun hc4=>?_) (fun hc4=>?_)
     ·obtain ⟨hc4,H⟩:=dT H hc4
      refine w_seq fun _ hN9=>w_reg<|stm hA rfl rfl fun a hA =>
       stp hA (r_nilcN ho1 hA rfl) rfl fun a hA =>
       stp hA (r_fd (k:=0) U106 rfl sz27 hA rfl rfl) rfl fun a hA =>
       stp hA (r_fd (k:=1) U27 rfl sz25 hA rfl rfl) rfl fun a hA =>
       stp hA (r_ldA (j:=0) [[.int .u32 nd1.head.Version]] [av .u8 32 nd1.head.Prev] [av .u8 32 nd1.head.Root,[.int .u32 nd1.head.Time],[.int .u32 nd1.head.Work],[.int .u32 nd1.head.Nonce],[.int .i64 nd1.height],[.int .u64 nd1.work],[(gs1 kk1).2.1]] U25 rfl sz25 rfl ((hI.sl [4] rfl).focus hp1.1.2 hk1) rfl hA rfl rfl) rfl fun a hA =>
       o_st (j:=2) [] [av .u8 32 s4] [av .u8 32 nd1.head.Prev] [] sz25 rfl rfl (fl_cons (one_av _ _ _) fl_nil) hI rfl hA rfl rfl rfl rfl fun w hI=>?_
      refine o_nil<|hN9 _ _ ?_
      refine w_draw mo (by kernel_rfl) hI ?_
      refine qtp hA (fun _ hI=>r_mv hA rfl) rfl fun a hA =>
       qtp hA (fun _ hI=>r_nilc hA rfl) rfl fun a hA =>
       qtp hA (fun _ hI=>r_fd (k:=0) U109 rfl sz107 hA rfl rfl) rfl fun a hA =>
       qtp hA (fun _ hI=>r_ld1 (j:=3) [] [av .u8 32 x0.start] U107 rfl hI rfl hA rfl rfl) rfl fun a hA =>
       qtp hA (fun _ hI=>r_ldA (j:=2) [] [av .u8 32 nd1.head.Prev] [] U25 rfl sz25 rfl hI rfl hA rfl rfl) rfl fun a hA =>
       qtp hA (fun _ hI=>r_nlook (j:=4) kn107 U107 mz107 hp1.1 hw1.2.1 hI rfl hA rfl rfl) rfl fun a hA =>
       qtp hA (fun _ hI=>r_as hA rfl) rfl fun a hA=>?_
      refine q_nil fun w hI=>?_
      exact ⟨m1,lS _,lkn x0.m nd1.head.Prev,s2,s3,nd1.head.Prev,H,ws3,hw1.2.1,hA.sub ⟨rfl,rfl,rfl,rfl,rfl,rfl,rfl,trivial⟩,hI⟩
     ·obtain ⟨hc4,H⟩:=dF H hc4
      refine w_seq fun _ hN10=>w_reg<|stm hA rfl rfl fun a hA =>
       stp hA (r_nilcN ho2 hA rfl) rfl fun a hA =>
       stp hA (r_fd (k:=0) U106 rfl sz27 hA rfl rfl) rfl fun a hA =>
       stp hA (r_fd (k:=1) U27 rfl sz25 hA rfl rfl) rfl fun a hA =>
       stp hA (r_ldA (j:=0) [[.int .u32 nd2.head.Version]] [av .u8 32 nd2.head.Prev] [av .u8 32 nd2.head.Root,[.int .u32 nd2.head.Time],[.int .u32 nd2.head.Work],[.int .u32 nd2.head.Nonce],[.int .i64 nd2.height],[.int .u64 nd2.work],[(gs1 kk2).2.1]] U25 rfl sz25 rfl ((hI.sl [4] rfl).focus hp1.1.2 hk2) rfl hA rfl rfl) rfl fun a hA =>
       o_st (j:=1) [] [av .u8 32 s3] [av .u8 32 nd2.head.Prev] [] sz25 rfl rfl (fl_cons (one_av _ _ _) fl_nil) hI rfl hA rfl rfl rfl rfl fun w hI=>?_
      refine o_nil<|hN10 _ _ ?_
      refine w_draw mo (by kernel_rfl) hI ?_
      refine qtp hA (fun _ hI=>r_mv hA rfl) rfl fun a hA =>
       qtp hA (fun _ hI=>r_nilc hA rfl) rfl fun a hA =>
       qtp hA (fun _ hI=>r_fd (k:=0) U109 rfl sz107 hA rfl rfl) rfl fun a hA =>
       qtp hA (fun _ hI=>r_ld1 (j:=3) [] [av .u8 32 x0.start] U107 rfl hI rfl hA rfl rfl) rfl fun a hA =>
       qtp hA (fun _ hI=>r_ldA (j:=1) [] [av .u8 32 nd2.head.Prev] [] U25 rfl sz25 rfl hI rfl hA rfl rfl) rfl fun a hA =>
       qtp hA (fun _ hI=>r_nlook (j:=4) kn107 U107 mz107 hp1.1 hw2.2.1 hI rfl hA rfl rfl) rfl fun a hA =>
       qtp hA (fun _ hI=>r_as hA rfl) rfl fun a hA=>?_
      refine q_nil fun w hI=>?_
      exact ⟨m1,lS _,s1,lkn x0.m nd2.head.Prev,nd2.head.Prev,s4,H,hw2.2.1,ws4,hA.sub ⟨rfl,rfl,rfl,rfl,rfl,rfl,rfl,trivial⟩,hI⟩
    ·obtain ⟨hc3,H⟩:=dF H hc3
     refine w_exit rfl ?_
     have H:some (s1,s2,s3,s4)=some z1:=H
     obtain rfl:=sI H
     have H:=Hk3
     cases sJ H
     exact ⟨ws3,ws4,hA.sub ⟨rfl,rfl,rfl,rfl,rfl,trivial⟩,hI⟩
   ·rintro a w ⟨wc4,wc5,hA,hI⟩
    have H:=Hk2
    refine w_seq fun _ hN11=>w_reg<|stp hA (r_ldA (j:=2) [] [av .u8 32 c5] [] U25 rfl sz25 rfl hI rfl hA rfl rfl) rfl fun a hA =>
     o_st (j:=0) [] [av .u8 32 Z32] [av .u8 32 c5] [] sz25 rfl rfl (fl_cons (one_av _ _ _) fl_nil) hI rfl hA rfl rfl rfl rfl fun w hI =>
     sta hA rfl rfl fun a hA=>?_
    refine o_nil<|hN11 _ _<|w_ret ?_
    obtain rfl:=sJ H
    exact retN hA Tryz.results27 (.cell rfl (cell_ld U25 rfl sz25 rfl hI (j:=0) rfl) (.tmp rfl .nil)) ⟨_,rfl,rfl,wc5,trivial,((hI.sl [3,4] rfl).less (Store.le.refl _) hI.le)⟩
theorem tree_Tree_down.c (μ:Store)(w0:World)(hμ:Agr μ w0)(x0:treeTree)(gm1:Nat)(gs1:(List Int)→NG)(g0:Nat)(hp1:nw107 μ x0.m gs1)(hp2:Arr .u8 32 x0.start)(ho0:Its μ w0 [cel g0 [[.map (some gm1)],av .u8 32 x0.start] 109,nd107 gm1 x0.m gs1])(x1:List Int)(hx1:Arr .u8 32 x1)(x2:List Int)(hx2:Arr .u8 32 x2)(r:List (List Int))(H:tree_Tree_down.f x0 x1 x2=some r) :
  Calls Tryz.prog 60 [pt g0 0,.agg [av .u8 32 x1].flatten.toArray,.agg [av .u8 32 x2].flatten.toArray].toArray w0 (fun e w'=>∃ v,e=.returned v∧∃(v0:Value)(c0:List Value),v=v0∧Els (RA .u8 32) 32 r c0∧Iv w0 (many [cel g0 [[.map (some gm1)],av .u8 32 x0.start] 109,nd107 gm1 x0.m gs1]).foot μ μ [row 25 32 v0 r.length c0,cel g0 [[.map (some gm1)],av .u8 32 x0.start] 109,nd107 gm1 x0.m gs1] w'):=by
 refine enter Tryz.func60 rfl Tryz.ntmps60 rfl fun a hA=>?_
 have hI:=Iv.startN hμ ho0
 have H:=bI H
 refine w_seq fun _ hN1=>w_reg<|o_box [av .u8 32 x1] hI hA rfl rfl rfl fun g1 a w hA hI hg1 =>
  o_box [av .u8 32 x2] hI hA rfl rfl rfl fun g2 a w hA hI hg2 =>
  sta hA rfl rfl fun a hA=>?_
 refine o_nil<|hN1 _ _<|w_seq fun _ hN2=>w_reg<|sta hA rfl rfl fun a hA=>?_
 refine o_nil<|hN2 _ _ ?_
 obtain ⟨⟨c1,c2⟩,hz1,Hk1⟩:=bB H
 refine w_cut (fun a w=>∃(vvc1:Value)(ccc1:List Value),Els (RA .u8 32) 32 c1 ccc1∧Arr .u8 32 c2∧Fr a 26 [(6,Sn),(7,vvc1)]∧Iv w0 (many [cel g0 [[.map (some gm1)],av .u8 32 x0.start] 109,nd107 gm1 x0.m gs1]).foot μ μ [row 25 32 vvc1 c1.length ccc1,cel g2 [av .u8 32 x2] 25,cel g1 [av .u8 32 c2] 25,cel g0 [[.map (some gm1)],av .u8 32 x0.start] 109,nd107 gm1 x0.m gs1] w) ?_ ?_
 ·have H:=bI hz1
  refine w_block ?_
  have hI:=hI.nilRow 25 32
  obtain ⟨z1,hz2,Hk2⟩:=bind_some H
  obtain ⟨n1,hn1⟩:=loopO_some hz2
  refine w_loop (fun n a w=>∃(s1:List (List Int))(s2:List Int)(vvs1:Value)(ccs1:List Value),loopN (tree_Tree_down.s0 x0 x2) n (s1,s2)=some z1∧Els (RA .u8 32) 32 s1 ccs1∧Arr .u8 32 s2∧Fr a 26 [(0,pt g0 0),(4,pt g1 0),(5,pt g2 0),(6,Sn),(7,vvs1)]∧Iv w0 (many [cel g0 [[.map (some gm1)],av .u8 32 x0.start] 109,nd107 gm1 x0.m gs1]).foot μ μ [row 25 32 vvs1 s1.length ccs1,cel g2 [av .u8 32 x2] 25,cel g1 [av .u8 32 s2] 25,cel g0 [[.map (some gm1)],av .u8 32 x0.start] 109,nd107 gm1 x0.m gs1] w) n1 ⟨([]:List (List Int)),x1,Sn,[],hn1,(Els.nil (RE:=(RA .u8 32)) (sz:=32)),hx1,hA.sub ⟨rfl,rfl,rfl,rfl,rfl,trivial⟩,hI⟩ ?_
  clear hA hI
  rintro n a w ⟨s1,s2,vvs1,ccs1,hn1,ws1,ws2,hA,hI⟩
  obtain ⟨m1,rfl,H⟩:=loopN_bind hn1
  clear hn1
  refine w_seq fun _ hN3=>w_seq fun _ hN4=>w_reg<|stp hA (r_ldA (j:=2) [] [av .u8 32 s2] [] U25 rfl sz25 rfl hI rfl hA rfl rfl) rfl fun a hA =>
   stp hA (r_ldA (j:=1) [] [av .u8 32 x2] [] U25 rfl sz25 rfl hI rfl hA rfl rfl) rfl fun a hA =>
   stp hA (r_neS hA rfl rfl eg25 (eqv_arr U25 U5 sz5 ws2 hx2)) rfl fun a hA=>?_
  refine o_nil<|hN4 _ _<|w_cond hA rfl (fun hc1=>?_) (fun hc1=>?_)
  ·obtain ⟨hc1,H⟩:=dT H hc1
   refine w_skip<|hN3 _ _<|w_block<|w_seq fun _ hN5=>w_reg<|stm hA rfl rfl fun a hA =>
    stp hA (r_ldA (j:=2) [] [av .u8 32 s2] [] U25 rfl sz25 rfl hI rfl hA rfl rfl) rfl fun a hA=>?_
   have hE1:Els (RA .u8 32) 32 ([s2]:List (List Int)) _:=(Els.cons (c:=[av .u8 32 s2].flatten) ⟨rfl,ws2⟩ rfl Els.nil)
   refine o_bsl ([av .u8 32 s2].flatten++([])) te25 zr25 U42 hI hA rfl rfl rfl rfl (by kernel_rfl) rfl fun g3 a w hA hI=>?_
   generalize hcs:([av .u8 32 s2].flatten++([]):List Value)=cs1 at hE1 hI
   clear hcs
   obtain ⟨hb1,H⟩:=bG H
   have hE3:=ws1.app hE1
   refine o_appG (xs:=(s1:List (List Int))) (ys:=(([s2]:List (List Int)):List (List Int))) (M:=4398046511104) 1 te25 U42 hI rfl hA rfl rfl (src_row hI (j:=0) rfl) hE1.len (hE1.ones (one_RA _ _)) hb1 rfl fun v1 a w hA hI =>
    sta hA rfl rfl fun a hA=>?_
   refine o_nil<|hN5 _ _ ?_
   refine w_any [10] mo hI fun w hI=>?_
   refine gE 0 hA rfl (.inr hI) (fun _=>r_mv hA rfl) fun a hA=>?_
   refine gE 1 hA rfl (.inr hI) (fun _=>r_nilc hA rfl) fun a hA=>?_
   refine gE 2 hA rfl (.inr hI) (fun _=>r_fd (k:=0) U109 rfl sz107 hA rfl rfl) fun a hA=>?_
   refine gT 3 hA rfl hI (fun w hI=>r_ld1 (j:=4) [] [av .u8 32 x0.start] U107 rfl hI rfl hA rfl rfl) fun a hA=>?_
   refine gT 4 hA rfl hI (fun w hI=>r_ldA (j:=3) [] [av .u8 32 s2] [] U25 rfl sz25 rfl hI rfl hA rfl rfl) fun a hA=>?_
   refine gT 5 hA rfl hI (fun w hI=>r_nlook (j:=5) kn107 U107 mz107 hp1.1 ws2 hI rfl hA rfl rfl) fun a hA=>?_
   obtain ⟨nd1,hn2,H⟩:=bB H
   obtain ⟨kk1,ho1,hk1⟩:=nget_some hn2
   have hw1:HeadW μ nd1.head:=(NdW.at hp1 hk1).1
   refine gE 6 hA rfl (.inr hI) (fun _=>r_nilcN ho1 hA rfl) fun a hA=>?_
   refine gE 7 hA rfl (.inr hI) (fun _=>r_fd (k:=0) U106 rfl sz27 hA rfl rfl) fun a hA=>?_
   refine gE 8 hA rfl (.inr hI) (fun _=>r_fd (k:=1) U27 rfl sz25 hA rfl rfl) fun a hA=>?_
   refine gT 9 hA rfl hI (fun w hI=>r_ldA (j:=0) [[.int .u32 nd1.head.Version]] [av .u8 32 nd1.head.Prev] [av .u8 32 nd1.head.Root,[.int .u32 nd1.head.Time],[.int .u32 nd1.head.Work],[.int .u32 nd1.head.Nonce],[.int .i64 nd1.height],[.int .u64 nd1.work],[(gs1 kk1).2.1]] U25 rfl sz25 rfl ((hI.sl [5] rfl).focus hp1.1.2 hk1) rfl hA rfl rfl) fun a hA=>?_
   refine gF 10 rfl ?_
   refine o_st (j:=3) [] [av .u8 32 s2] [av .u8 32 nd1.head.Prev] [] sz25 rfl rfl (fl_cons (one_av _ _ _) fl_nil) hI rfl hA rfl rfl rfl rfl fun w hI=>?_
   refine o_nil<|⟨(.inl (by kernel_rfl)),?_⟩
   refine gN<|⟨m1,lS _,s1++([s2]:List (List Int)),nd1.head.Prev,v1,ccs1++cs1,H,hE3,hw1.2.1,hA.sub ⟨rfl,rfl,rfl,rfl,rfl,trivial⟩,(hI.sl [1,2,3,4,5] rfl)⟩
  ·obtain ⟨hc1,H⟩:=dF H hc1
   refine w_exit rfl ?_
   have H:some (s1,s2)=some z1:=H
   obtain rfl:=sI H
   have H:=Hk2
   cases sJ H
   exact ⟨vvs1,ccs1,ws1,ws2,hA.sub ⟨rfl,rfl,trivial⟩,hI⟩
 ·rintro a w ⟨vvc1,ccc1,wc1,wc2,hA,hI⟩
  have H:=Hk1
  refine w_seq fun _ hN6=>w_reg<|stm hA rfl rfl fun a hA =>
   sta hA rfl rfl fun a hA=>?_
  refine o_nil<|hN6 _ _<|w_ret ?_
  obtain rfl:=sJ H
  exact ret1 hA Tryz.results60 rfl ⟨_,rfl,vvc1,ccc1,rfl,wc1,((hI.sl [0,3,4] rfl).less (Store.le.refl _) hI.le)⟩
theorem tree_Tree_Path.c (μ:Store)(w0:World)(hμ:Agr μ w0)(x0:treeTree)(gm1:Nat)(gs1:(List Int)→NG)(g0:Nat)(hp1:nw107 μ x0.m gs1)(hp2:Arr .u8 32 x0.start)(ho0:Its μ w0 [cel g0 [[.map (some gm1)],av .u8 32 x0.start] 109,nd107 gm1 x0.m gs1])(x1:List Int)(hx1:Arr .u8 32 x1)(x2:List Int)(hx2:Arr .u8 32 x2)(r:(List (List Int))×(List (List Int))×Bool)(H:tree_Tree_Path.f x0 x1 x2=some r) :
  Calls Tryz.prog 25 [pt g0 0,.agg [av .u8 32 x1].flatten.toArray,.agg [av .u8 32 x2].flatten.toArray].toArray w0 (fun e w'=>∃ v,e=.returned v∧∃(v0:Value)(c0:List Value)(v1:Value)(c1:List Value),v=.tuple #[v0,v1,.bool (r.2.2)]∧Els (RA .u8 32) 32 (r.1) c0∧Els (RA .u8 32) 32 (r.2.1) c1∧True∧Iv w0 (many [cel g0 [[.map (some gm1)],av .u8 32 x0.start] 109,nd107 gm1 x0.m gs1]).foot μ μ [row 25 32 v0 (r.1).length c0,row 25 32 v1 (r.2.1).length c1,cel g0 [[.map (some gm1)],av .u8 32 x0.start] 109,nd107 gm1 x0.m gs1] w'):=by
 refine enter Tryz.func25 rfl Tryz.ntmps25 rfl fun a hA=>?_
 have hI:=Iv.startN hμ ho0
 have H:=bI H
 refine w_seq fun _ hN1=>w_reg<|o_box [av .u8 32 x1] hI hA rfl rfl rfl fun g1 a w hA hI hg1 =>
  o_box [av .u8 32 x2] hI hA rfl rfl rfl fun g2 a w hA hI hg2 =>
  sta hA rfl rfl fun a hA =>
  sta hA rfl rfl fun a hA =>
  sta hA rfl rfl fun a hA=>?_
 refine o_nil<|hN1 _ _<|w_seq fun _ hN2=>w_reg<|stm hA rfl rfl fun a hA =>
  stp hA (r_ldA (j:=1) [] [av .u8 32 x1] [] U25 rfl sz25 rfl hI rfl hA rfl rfl) rfl fun a hA =>
  stp hA (r_ldA (j:=0) [] [av .u8 32 x2] [] U25 rfl sz25 rfl hI rfl hA rfl rfl) rfl fun a hA=>?_
 obtain ⟨r1,hr1,H⟩:=bB H
 have hI:=hI.sl [2,3,0,1] rfl
 refine o_call _ cf27 hA rfl (tree_Tree_Common.c μ _ hI.agr (⟨x0.m,x0.start⟩:treeTree) gm1 gs1 g0 hp1 hp2 (hI.handN 2) x1 hx1 x2 hx2 r1 hr1) rfl fun v1 a w hz1 hA=>?_
 obtain ⟨rfl,hw1,hw2,hi1⟩:=hz1
 have hI:=hI.back2 hi1
 refine stm hA rfl rfl fun a hA =>
  stp hA (r_extr (vs:=[.agg [av .u8 32 r1.1].flatten.toArray,.bool r1.2]) hA rfl rfl) rfl fun a hA =>
  stp hA (r_extr (vs:=[.agg [av .u8 32 r1.1].flatten.toArray,.bool r1.2]) hA rfl rfl) rfl fun a hA =>
  o_new [av .u8 32 Z32] zr25 hI hA rfl fun g3 a w hA hI hg3 =>
  o_st (j:=0) [] [av .u8 32 Z32] [av .u8 32 r1.1] [] sz25 rfl rfl (fl_cons (one_av _ _ _) fl_nil) hI rfl hA rfl rfl rfl rfl fun w hI =>
  sta hA rfl rfl fun a hA=>?_
 refine o_nil<|hN2 _ _<|w_seq fun _ hN3=>w_seq fun _ hN4=>w_reg<|stm hA rfl rfl fun a hA =>
  stp hA (r_not hA rfl) rfl fun a hA=>?_
 refine o_nil<|hN4 _ _<|w_cond hA rfl (fun hc1=>?_) (fun hc1=>?_)
 ·have hc1:=nT hc1;have hc1:=ft hc1;have H:=bF H hc1
  refine w_seq fun _ hN5=>w_reg<|sta hA rfl rfl fun a hA =>
   sta hA rfl rfl fun a hA =>
   sta hA rfl rfl fun a hA=>?_
  refine o_nil<|hN5 _ _<|w_ret ?_
  have hI:=hI.nilRow 25 32
  have hI:=hI.nilRow 25 32
  obtain rfl:=sJ H
  exact ret3 hA Tryz.results25 rfl rfl rfl ⟨_,rfl,Sn,[],Sn,[],rfl,(Els.nil (RE:=(RA .u8 32)) (sz:=32)),(Els.nil (RE:=(RA .u8 32)) (sz:=32)),trivial,((hI.sl [1,0,3,4] rfl).less (Store.le.refl _) hI.le)⟩
 ·have hc1:=nF hc1;have H:=bT H hc1
  refine w_skip<|hN3 _ _<|w_seq fun _ hN6=>w_reg<|stm hA rfl rfl fun a hA =>
   stp hA (r_ldA (j:=3) [] [av .u8 32 x2] [] U25 rfl sz25 rfl hI rfl hA rfl rfl) rfl fun a hA =>
   stp hA (r_ldA (j:=0) [] [av .u8 32 r1.1] [] U25 rfl sz25 rfl hI rfl hA rfl rfl) rfl fun a hA=>?_
  obtain ⟨r2,hr2,H⟩:=bB H
  have hI:=hI.sl [1,2,0,3,4] rfl
  refine o_call _ cf60 hA rfl (tree_Tree_down.c μ _ hI.agr (⟨x0.m,x0.start⟩:treeTree) gm1 gs1 g0 hp1 hp2 (hI.handN 2) x2 hx2 r1.1 hw1 r2 hr2) rfl fun v2 a w hz2 hA=>?_
  obtain ⟨_,cs1,rfl,hE1,hi2⟩:=hz2
  have hI:=hI.backN 2 hi2
  have hI:Iv w0 (many [cel g0 [[.map (some gm1)],av .u8 32 x0.start] 109,nd107 gm1 x0.m gs1]).foot μ μ [row 25 32 v2 r2.length cs1,cel g0 [[.map (some gm1)],av .u8 32 x0.start] 109,nd107 gm1 x0.m gs1,cel g3 [av .u8 32 r1.1] 25,cel g2 [av .u8 32 x2] 25,cel g1 [av .u8 32 x1] 25] w:=hI
  refine sta hA rfl rfl fun a hA=>?_
  refine o_nil<|hN6 _ _<|w_seq fun _ hN7=>w_reg<|stm hA rfl rfl fun a hA=>?_
  obtain ⟨r3,hr3,H⟩:=bB H
  refine o_call _ cf61 hA rfl (slices_Reverse_api_Hash_api_Hash.c μ _ hI.agr r2 v2 cs1 hE1 (hI.item (j:=0) rfl) r3 hr3) rfl fun v3 a w hz3 hA=>?_
  obtain ⟨cs2,rfl,hE2,hi3⟩:=hz3
  have hI:=hI.call1 0 rfl hi3
  refine o_nil<|hN7 _ _<|w_seq fun _ hN8=>w_reg<|stm hA rfl rfl fun a hA =>
   stp hA (r_ldA (j:=5) [] [av .u8 32 x1] [] U25 rfl sz25 rfl hI rfl hA rfl rfl) rfl fun a hA =>
   stp hA (r_ldA (j:=3) [] [av .u8 32 r1.1] [] U25 rfl sz25 rfl hI rfl hA rfl rfl) rfl fun a hA=>?_
  obtain ⟨r4,hr4,H⟩:=bB H
  have hI:=hI.sl [1,2,0,3,4,5] rfl
  refine o_call _ cf60 hA rfl (tree_Tree_down.c μ _ hI.agr (⟨x0.m,x0.start⟩:treeTree) gm1 gs1 g0 hp1 hp2 (hI.handN 2) x1 hx1 r1.1 hw1 r4 hr4) rfl fun v4 a w hz4 hA=>?_
  obtain ⟨_,cs3,rfl,hE3,hi4⟩:=hz4
  have hI:=hI.backN 2 hi4
  have hI:Iv w0 (many [cel g0 [[.map (some gm1)],av .u8 32 x0.start] 109,nd107 gm1 x0.m gs1]).foot μ μ [row 25 32 v4 r4.length cs3,cel g0 [[.map (some gm1)],av .u8 32 x0.start] 109,nd107 gm1 x0.m gs1,row 25 32 v2 r3.length cs2,cel g3 [av .u8 32 r1.1] 25,cel g2 [av .u8 32 x2] 25,cel g1 [av .u8 32 x1] 25] w:=hI
  refine stm hA rfl rfl fun a hA =>
   sta hA rfl rfl fun a hA =>
   sta hA rfl rfl fun a hA =>
   sta hA rfl rfl fun a hA=>?_
  refine o_nil<|hN8 _ _<|w_ret ?_
  obtain rfl:=sJ H
  exact ret3 hA Tryz.results25 rfl rfl rfl ⟨_,rfl,v4,cs3,v2,cs2,rfl,hE3,hE2,trivial,((hI.sl [0,3,1,2] rfl).less (Store.le.refl _) hI.le)⟩
noncomputable def q11_first.f:Option Bool:=((q1_Start.f).bind fun r1=>((tree_New.f r1.Head).bind fun r2=>((tree_Tree_Start.f (⟨r2.m,r2.start⟩:treeTree)).bind fun r3=>((tree_Tree_Height.f (⟨r2.m,r2.start⟩:treeTree) r3).bind fun r4=>(((if r4.2=true then (if r4.1=0 then ((tree_Tree_Len.f (⟨r2.m,r2.start⟩:treeTree)).bind fun r5=>some (decide (r5=1))) else some false) else some false)).bind fun c1=>some c1)))))
noncomputable def q11_grown.s0 (x0:List Int):((List Head)×Int)→Option (((List Head)×Int)⊕(List Head)):=fun (s1,s2)=>(if s2 < (x0.length:Int) then (if 0≤s2∧s2 < (x0.length:Int) then ((sargassoworld_Number.f (x0.getD s2.toNat 0) (s1.length:Int)).bind fun r2=>(if 0≤r2∧r2 < (s1.length:Int) then ((q1_HeadID.f (s1.getD r2.toNat default)).bind fun r3=>((sargassoworld_Number.f (IntKind.i64.wrap (Int.tdiv (x0.getD s2.toNat 0) 64)) 30).bind fun r4=>((sargassoworld_Number.f (IntKind.i64.wrap (Int.tdiv (x0.getD s2.toNat 0) 2048)) 4).bind fun r5=>(if s1.length+1≤1759218604441 then some (.inl (s1++([(⟨IntKind.u32.wrap s2,r3,(List.replicate 32 0),IntKind.u32.wrap (((s1.getD r2.toNat default).Time)+(IntKind.u32.wrap r4)),IntKind.u32.wrap (IntKind.i64.wrap (1+r5)),0⟩:Head)]:List Head),IntKind.i64.wrap (s2+1))) else none)))) else none)) else none) else some (.inr s1))
noncomputable def q11_grown.f (x0:List Int):Option (List Head):=((q1_Start.f).bind fun r1=>((loopO (q11_grown.s0 x0) (([r1.Head]:List Head),0)).bind fun c1=>some c1))
theorem q11_first.c (μ:Store)(w0:World)(hμ:Agr μ w0)(r:Bool)(H:q11_first.f=some r) :
  Calls Tryz.prog 5 [].toArray w0 (fun e w'=>∃ v,e=.returned v∧v=.bool r∧True∧Iv w0 [] μ μ [] w'):=by
 refine enter Tryz.func5 rfl Tryz.ntmps5 rfl fun a hA=>?_
 have hI:=Iv.start hμ
 have H:=bI H
 refine w_seq fun _ hN1=>w_reg<|sta hA rfl rfl fun a hA=>?_
 refine o_nil<|hN1 _ _<|w_seq fun _ hN2=>w_reg ?_
 obtain ⟨r1,hr1,H⟩:=bB H
 refine o_call _ cf49 hA rfl (q1_Start.c μ _ hI.agr  r1 hr1) rfl fun v1 a w hz1 hA=>?_
 obtain ⟨v2,μ1,rfl,hw1,hi1⟩:=hz1
 have hI:=hI.call hi1
 refine stp hA (r_field U89 rfl (partA [] [[.int .u32 r1.Head.Version],av .u8 32 r1.Head.Prev,av .u8 32 r1.Head.Root,[.int .u32 r1.Head.Time],[.int .u32 r1.Head.Work],[.int .u32 r1.Head.Nonce]] [[v2]] U27 rfl sz27 rfl rfl) hA rfl) rfl fun a hA=>?_
 obtain ⟨r2,hr2,H⟩:=bB H
 refine o_call _ cf7 hA rfl (tree_New.c μ1 _ hI.agr r1.Head ⟨hw1.1,hw1.2.1,hw1.2.2.1,hw1.2.2.2.1,hw1.2.2.2.2.1,hw1.2.2.2.2.2.1⟩ r2 hr2) rfl fun v3 a w hz2 hA=>?_
 obtain ⟨g1,gm1,gs1,rfl,hp1,hp2,hi2⟩:=hz2
 have hI:=hI.call hi2
 refine sta hA rfl rfl fun a hA=>?_
 refine o_nil<|hN2 _ _<|w_seq fun _ hN3=>w_seq fun _ hN4=>w_reg<|stm hA rfl rfl fun a hA =>
  stp hA (r_ptrnil_eql U31 hA rfl rfl) rfl fun a hA=>?_
 refine o_nil<|hN4 _ _<|w_cF hA rfl rfl ?_
 refine w_skip<|hN3 _ _<|w_seq fun _ hN5=>w_reg<|stm hA rfl rfl fun a hA =>
  stm hA rfl rfl fun a hA=>?_
 obtain ⟨r3,hr3,H⟩:=bB H
 refine o_call _ cf30 hA rfl (tree_Tree_Start.c μ1 _ hI.agr (⟨r2.m,r2.start⟩:treeTree) gm1 gs1 g1 hp1 hp2 (hI.handN 2) r3 hr3) rfl fun v4 a w hz3 hA=>?_
 obtain ⟨rfl,hw2,hi3⟩:=hz3
 have hI:=hI.back2 hi3
 obtain ⟨r4,hr4,H⟩:=bB H
 refine o_call _ cf16 hA rfl (tree_Tree_Height.c μ1 _ hI.agr (⟨r2.m,r2.start⟩:treeTree) gm1 gs1 g1 hp1 hp2 (hI.handN 2) r3 hw2 r4 hr4) rfl fun v5 a w hz4 hA=>?_
 obtain ⟨rfl,hw3,hw4,hi4⟩:=hz4
 have hI:=hI.back2 hi4
 refine stm hA rfl rfl fun a hA =>
  stp hA (r_extr (vs:=[.int .i64 r4.1,.bool r4.2]) hA rfl rfl) rfl fun a hA =>
  stp hA (r_extr (vs:=[.int .i64 r4.1,.bool r4.2]) hA rfl rfl) rfl fun a hA =>
  sta hA rfl rfl fun a hA =>
  sta hA rfl rfl fun a hA=>?_
 refine o_nil<|hN5 _ _ ?_
 obtain ⟨c1,hz5,Hk1⟩:=bB H
 refine w_cut (fun a w=>Fr a 26 [(0,.bool c1)]∧Iv w0 [] μ μ1 [cel g1 [[.map (some gm1)],av .u8 32 r2.start] 109,nd107 gm1 r2.m gs1] w) ?_ ?_
 ·have H:=bI hz5
  refine w_reg<|stm hA rfl rfl fun a hA =>
   stm hA rfl rfl fun a hA=>?_
  rcases Bool.eq_false_or_eq_true r4.2 with hc1 | hc1
  ·have hc10:=hc1;have H:=bT H hc1
   refine o_yes hA rfl rfl hc10 <|
    stm hA rfl rfl fun a hA =>
    o_yes hA rfl rfl hc10 <|
    stp hA (r_eql hA rfl rfl) rfl fun a hA =>
    stp hA (r_pick_t hA rfl hc10 rfl) rfl fun a hA =>
    stm hA rfl rfl fun a hA=>?_
   rcases Bool.eq_false_or_eq_true (decide (r4.1=0)) with hc2 | hc2
   ·have hc20:=hc2;obtain ⟨hc2,H⟩:=dT H hc2
    refine o_yes hA rfl rfl hc20 <|
     stm hA rfl rfl fun a hA =>
     o_yes hA rfl rfl hc20<|?_
    obtain ⟨r5,hr5,H⟩:=bB H
    refine o_call _ cf28 hA rfl (tree_Tree_Len.c μ1 _ hI.agr (⟨r2.m,r2.start⟩:treeTree) gm1 gs1 g1 hp1 hp2 (hI.handN 2) r5 hr5) rfl fun v6 a w hz6 hA=>?_
    obtain ⟨rfl,hw5,hi5⟩:=hz6
    have hI:=hI.back2 hi5
    refine o_yes hA rfl rfl hc20 <|
     stp hA (r_eql hA rfl rfl) rfl fun a hA =>
     stp hA (r_pick_t hA rfl hc20 rfl) rfl fun a hA =>
     sta hA rfl rfl fun a hA=>?_
    refine o_nil ?_
    cases sJ H
    exact ⟨hA.sub ⟨rfl,trivial⟩,hI⟩
   ·have hc20:=hc2;obtain ⟨hc2,H⟩:=dF H hc2
    refine o_no hA rfl rfl (by rw [hc20];simp [vb]) rfl fun a hA =>
     o_no hA rfl rfl (by rw [hc20];simp [vb]) rfl fun a hA =>
     o_no hA rfl rfl (by rw [hc20];simp [vb]) rfl fun a hA =>
     stp hA (r_pick_f hA rfl hc20 rfl) rfl fun a hA =>
     sta hA rfl rfl fun a hA=>?_
    refine o_nil ?_
    cases sJ H
    exact ⟨hA.sub ⟨rfl,trivial⟩,hI⟩
  ·have hc10:=hc1;have hc1:=ft hc1;have H:=bF H hc1
   refine o_no hA rfl rfl (by rw [hc10];simp [vb]) rfl fun a hA =>
    o_no hA rfl rfl (by rw [hc10];simp [vb]) rfl fun a hA =>
    stp hA (r_pick_f hA rfl hc10 rfl) rfl fun a hA =>
    stm hA rfl rfl fun a hA =>
    o_no hA rfl rfl (by simp [vb]) rfl fun a hA =>
    o_no hA rfl rfl (by simp [vb]) rfl fun a hA =>
    o_no hA rfl rfl (by simp [vb]) rfl fun a hA =>
    stp hA (r_pick_f hA rfl rfl rfl) rfl fun a hA =>
    sta hA rfl rfl fun a hA=>?_
   refine o_nil ?_
   cases sJ H
   exact ⟨hA.sub ⟨rfl,trivial⟩,hI⟩
 ·rintro a w ⟨hA,hI⟩
  have H:=Hk1
  refine w_ret ?_
  obtain rfl:=sJ H
  exact ret1 hA Tryz.results5 rfl ⟨_,rfl,rfl,trivial,hI.forget0⟩
theorem q11_grown.c (μ:Store)(w0:World)(hμ:Agr μ w0)(x0:List Int)(u0:Value)(hx0:Slc (RI .i64) 1 μ u0 x0)(r:List Head)(H:q11_grown.f x0=some r) :
  Calls Tryz.prog 6 [u0].toArray w0 (fun e w'=>∃ v,e=.returned v∧∃(v0:Value)(c0:List Value),v=v0∧Els (RHead μ) 68 r c0∧Iv w0 [] μ μ [row 27 68 v0 r.length c0] w'):=by
 refine enter Tryz.func6 rfl Tryz.ntmps6 rfl fun a hA=>?_
 have hI:=Iv.start hμ
 have H:=bI H
 refine w_seq fun _ hN1=>w_reg<|sta hA rfl rfl fun a hA=>?_
 refine o_nil<|hN1 _ _<|w_seq fun _ hN2=>w_reg ?_
 obtain ⟨r1,hr1,H⟩:=bB H
 refine o_call _ cf49 hA rfl (q1_Start.c μ _ hI.agr  r1 hr1) rfl fun v1 a w hz1 hA=>?_
 obtain ⟨v2,μ1,rfl,hw1,hi1⟩:=hz1
 have hI:=hI.call hi1
 refine stp hA (r_field U89 rfl (partA [] [[.int .u32 r1.Head.Version],av .u8 32 r1.Head.Prev,av .u8 32 r1.Head.Root,[.int .u32 r1.Head.Time],[.int .u32 r1.Head.Work],[.int .u32 r1.Head.Nonce]] [[v2]] U27 rfl sz27 rfl rfl) hA rfl) rfl fun a hA=>?_
 have hE1:Els (RHead μ1) 68 ([r1.Head]:List Head) _:=(Els.cons (c:=[[.int .u32 r1.Head.Version],av .u8 32 r1.Head.Prev,av .u8 32 r1.Head.Root,[.int .u32 r1.Head.Time],[.int .u32 r1.Head.Work],[.int .u32 r1.Head.Nonce]].flatten) ⟨rfl,⟨hw1.1,hw1.2.1,hw1.2.2.1,hw1.2.2.2.1,hw1.2.2.2.2.1,hw1.2.2.2.2.2.1⟩⟩ rfl Els.nil)
 refine o_bsl ([[.int .u32 r1.Head.Version],av .u8 32 r1.Head.Prev,av .u8 32 r1.Head.Root,[.int .u32 r1.Head.Time],[.int .u32 r1.Head.Work],[.int .u32 r1.Head.Nonce]].flatten++([])) te27 zr27 U29 hI hA rfl rfl rfl rfl (by kernel_rfl) rfl fun g1 a w hA hI=>?_
 generalize hcs:([[.int .u32 r1.Head.Version],av .u8 32 r1.Head.Prev,av .u8 32 r1.Head.Root,[.int .u32 r1.Head.Time],[.int .u32 r1.Head.Work],[.int .u32 r1.Head.Nonce]].flatten++([]):List Value)=cs1 at hE1 hI
 clear hcs
 refine sta hA rfl rfl fun a hA=>?_
 refine o_nil<|hN2 _ _ ?_
 obtain ⟨c1,hz2,Hk1⟩:=bB H
 refine w_cut (fun a w=>∃(vvc1:Value)(ccc1:List Value),Els (RHead μ1) 68 c1 ccc1∧Fr a 52 [(2,Sn),(3,vvc1)]∧Iv w0 [] μ μ1 [row 27 68 vvc1 c1.length ccc1] w) ?_ ?_
 ·have H:=bI hz2
  refine w_seq fun _ hN3=>w_reg<|sta hA rfl rfl fun a hA=>?_
  refine o_nil<|hN3 _ _<|w_block ?_
  obtain ⟨z1,hz3,Hk2⟩:=bind_some H
  obtain ⟨n1,hn1⟩:=loopO_some hz3
  refine w_loop (fun n a w=>∃(s1:List Head)(s2:Int)(vvs1:Value)(ccs1:List Value),loopN (q11_grown.s0 x0) n (s1,s2)=some z1∧Els (RHead μ1) 68 s1 ccs1∧InR .i64 s2∧Fr a 52 [(0,u0),(2,Sn),(3,vvs1),(4,.int .i64 s2)]∧Iv w0 [] μ μ1 [row 27 68 vvs1 s1.length ccs1] w) n1 ⟨([r1.Head]:List Head),0,(.slice (some ⟨g1,0,none⟩) 1 1),cs1,hn1,hE1,(in_lit .i64 0 rfl),hA.sub ⟨rfl,rfl,rfl,rfl,trivial⟩,hI⟩ ?_
  clear hA hI
  rintro n a w ⟨s1,s2,vvs1,ccs1,hn1,ws1,ws2,hA,hI⟩
  obtain ⟨m1,rfl,H⟩:=loopN_bind hn1
  clear hn1
  refine w_seq fun _ hN4=>w_seq fun _ hN5=>w_reg<|stm hA rfl rfl fun a hA =>
   stm hA rfl rfl fun a hA=>?_
  obtain ⟨_,hsl1⟩:=Slc.sv (Slc.le hx0 (fun _ _ h=>h) hi1.le)
  refine stp hA (r_slen U22 hsl1 hA rfl) rfl fun a hA =>
   stp hA (r_lss hA rfl rfl) rfl fun a hA=>?_
  refine o_nil<|hN5 _ _<|w_cond hA rfl (fun hc1=>?_) (fun hc1=>?_)
  ·obtain ⟨hc1,H⟩:=dT H hc1
   refine w_skip<|hN4 _ _<|w_seq fun _ hN6=>w_block<|w_seq fun _ hN7=>w_reg<|stm hA rfl rfl fun a hA =>
    stm hA rfl rfl fun a hA =>
    stm hA rfl rfl fun a hA=>?_
   obtain ⟨hb1,H⟩:=bG H
   obtain ⟨_,he1,_,hat1⟩:=Slc.elem1 (Slc.le hx0 (fun _ _ h=>h) hi1.le) (getD_some 0 hb1.1 hb1.2)
   obtain ⟨rfl,hw2⟩:=he1
   obtain ⟨_,hsl2⟩:=Slc.sv (Slc.le hx0 (fun _ _ h=>h) hi1.le)
   refine stp hA (r_six1 U22 sz3 hsl2 hA rfl rfl hb1.1 hb1.2) rfl fun a hA =>
    stp hA (r_ldm1 [] [] U3 rfl hI.agr hat1 hA rfl rfl) rfl fun a hA =>
    stm hA rfl rfl fun a hA=>?_
   have hlen1:=Iv.row_in hI (j:=0) rfl
   refine stp hA (r_rlen (xs:=0) U29 hI (j:=0) rfl hA rfl) rfl fun a hA=>?_
   obtain ⟨r2,hr2,H⟩:=bB H
   refine o_callp (u:=.int .i64 r2) cf12 hA rfl hI (sargassoworld_Number.c μ1 _ hI.agr (x0.getD s2.toNat 0) hw2 (s1.length:Int) hlen1 r2 hr2) rfl fun a w hz4 hI hA=>?_
   obtain ⟨hb2,H⟩:=bG H
   refine stp hA (r_rix (j:=0) U29 sz27 hI rfl hA rfl rfl hb2.1 hb2.2) rfl fun a hA=>?_
   obtain ⟨A1,_,B1,hc2,hl1,_,he2⟩:=Els.at_ ws1 (getD_some default hb2.1 hb2.2)
   obtain ⟨rfl,hw3⟩:=he2
   refine stp hA (r_rldP (j:=0) (q:=r2.toNat * 68) (off:=0) A1 B1 [] [[.int .u32 ((s1.getD r2.toNat default).Version)],av .u8 32 ((s1.getD r2.toNat default).Prev),av .u8 32 ((s1.getD r2.toNat default).Root),[.int .u32 ((s1.getD r2.toNat default).Time)],[.int .u32 ((s1.getD r2.toNat default).Work)],[.int .u32 ((s1.getD r2.toNat default).Nonce)]] [] hc2 hl1 rfl U27 rfl sz27 rfl hI rfl hA rfl) rfl fun a hA =>
    o_new [[.int .u32 0],av .u8 32 Z32,av .u8 32 Z32,[.int .u32 0],[.int .u32 0],[.int .u32 0]] zr27 hI hA rfl fun g2 a w hA hI hg2 =>
    o_st (j:=0) [] [[.int .u32 0],av .u8 32 Z32,av .u8 32 Z32,[.int .u32 0],[.int .u32 0],[.int .u32 0]] [[.int .u32 ((s1.getD r2.toNat default).Version)],av .u8 32 ((s1.getD r2.toNat default).Prev),av .u8 32 ((s1.getD r2.toNat default).Root),[.int .u32 ((s1.getD r2.toNat default).Time)],[.int .u32 ((s1.getD r2.toNat default).Work)],[.int .u32 ((s1.getD r2.toNat default).Nonce)]] [] sz27 rfl rfl (fl_cons (oneC rfl) (fl_cons (one_av _ _ _) (fl_cons (one_av _ _ _) (fl_cons (oneC rfl) (fl_cons (oneC rfl) (fl_cons (oneC rfl) fl_nil)))))) hI rfl hA rfl rfl rfl rfl fun w hI=>?_
   refine o_nil<|hN7 _ _ ?_
   refine w_anyS [] mo (fun w (h:Iv w0 [] μ μ1 [cel g2 [[.int .u32 ((s1.getD r2.toNat default).Version)],av .u8 32 ((s1.getD r2.toNat default).Prev),av .u8 32 ((s1.getD r2.toNat default).Root),[.int .u32 ((s1.getD r2.toNat default).Time)],[.int .u32 ((s1.getD r2.toNat default).Work)],[.int .u32 ((s1.getD r2.toNat default).Nonce)]] 27,row 27 68 vvs1 s1.length ccs1] w)=>(h.sl [0] rfl:Iv w0 [] μ μ1 [cel g2 [[.int .u32 ((s1.getD r2.toNat default).Version)],av .u8 32 ((s1.getD r2.toNat default).Prev),av .u8 32 ((s1.getD r2.toNat default).Root),[.int .u32 ((s1.getD r2.toNat default).Time)],[.int .u32 ((s1.getD r2.toNat default).Work)],[.int .u32 ((s1.getD r2.toNat default).Nonce)]] 27] w)) hI fun w hI=>?_
   refine gE 0 hA rfl (.inr (hI.sl [0] rfl)) (fun _=>r_mv hA rfl) fun a hA=>?_
   refine gE 1 hA rfl (.inr (hI.sl [0] rfl)) (fun _=>r_mv hA rfl) fun a hA=>?_
   refine gE 2 hA rfl (.inr (hI.sl [0] rfl)) (fun _=>r_conv U3 U23 hA rfl) fun a hA=>?_
   refine gT 3 hA rfl (hI.sl [0] rfl) (fun w hI=>r_ldA (j:=0) [] [[.int .u32 ((s1.getD r2.toNat default).Version)],av .u8 32 ((s1.getD r2.toNat default).Prev),av .u8 32 ((s1.getD r2.toNat default).Root),[.int .u32 ((s1.getD r2.toNat default).Time)],[.int .u32 ((s1.getD r2.toNat default).Work)],[.int .u32 ((s1.getD r2.toNat default).Nonce)]] [] U27 rfl sz27 rfl hI rfl hA rfl rfl) fun a hA=>?_
   refine gE 5 hA rfl (.inr (hI.sl [0] rfl)) (fun _=>r_fd (k:=65) U27 rfl sz23 hA rfl rfl) fun a hA=>?_
   refine gT 6 hA rfl (hI.sl [0] rfl) (fun w hI=>r_ld1 (j:=0) [[.int .u32 ((s1.getD r2.toNat default).Version)],av .u8 32 ((s1.getD r2.toNat default).Prev),av .u8 32 ((s1.getD r2.toNat default).Root)] [[.int .u32 ((s1.getD r2.toNat default).Work)],[.int .u32 ((s1.getD r2.toNat default).Nonce)]] U23 rfl hI rfl hA rfl rfl) fun a hA=>?_
   refine gE 7 hA rfl (.inr (hI.sl [0] rfl)) (fun _=>r_mv hA rfl) fun a hA=>?_
   refine gE 8 hA rfl (.inr (hI.sl [0] rfl)) (fun _=>r_mv hA rfl) fun a hA=>?_
   refine gE 9 hA rfl (.inr (hI.sl [0] rfl)) (fun _=>r_six1 U22 sz3 hsl2 hA rfl rfl hb1.1 hb1.2) fun a hA=>?_
   refine gT 10 hA rfl (hI.sl [0] rfl) (fun w hI=>r_ldm1 [] [] U3 rfl hI.agr hat1 hA rfl rfl) fun a hA=>?_
   refine gE 11 hA rfl (.inr (hI.sl [0] rfl)) (fun _=>r_quo hA rfl rfl (by decide)) fun a hA=>?_
   refine gE 15 hA rfl (.inr (hI.sl [0] rfl)) (fun _=>r_mv hA rfl) fun a hA=>?_
   refine gE 16 hA rfl (.inr (hI.sl [0] rfl)) (fun _=>r_mv hA rfl) fun a hA=>?_
   refine gE 17 hA rfl (.inr (hI.sl [0] rfl)) (fun _=>r_six1 U22 sz3 hsl2 hA rfl rfl hb1.1 hb1.2) fun a hA=>?_
   refine gT 18 hA rfl (hI.sl [0] rfl) (fun w hI=>r_ldm1 [] [] U3 rfl hI.agr hat1 hA rfl rfl) fun a hA=>?_
   refine gE 19 hA rfl (.inr (hI.sl [0] rfl)) (fun _=>r_quo hA rfl rfl (by decide)) fun a hA=>?_
   refine gF 4 rfl ?_
   obtain ⟨r3,hr3,H⟩:=bB H
   refine o_callp (u:=.agg [av .u8 32 r3].flatten.toArray) cf13 hA rfl hI (q1_HeadID.c μ1 _ hI.agr (s1.getD r2.toNat default) ⟨hw3.1,hw3.2.1,hw3.2.2.1,hw3.2.2.2.1,hw3.2.2.2.2.1,hw3.2.2.2.2.2⟩ r3 hr3) rfl fun a w hz5 hI hA=>?_
   refine o_nil<|⟨(.inr (hI.sl [0] rfl)),?_⟩
   refine gF 12 rfl ?_
   obtain ⟨r4,hr4,H⟩:=bB H
   refine o_callp (u:=.int .i64 r4) cf12 hA rfl hI (sargassoworld_Number.c μ1 _ hI.agr (IntKind.i64.wrap (Int.tdiv (x0.getD s2.toNat 0) 64)) (wrap_in _ _) 30 (in_lit .i64 30 rfl) r4 hr4) rfl fun a w hz6 hI hA=>?_
   refine o_nil<|⟨(.inr (hI.sl [0] rfl)),?_⟩
   refine gE 13 hA rfl (.inr (hI.sl [0] rfl)) (fun _=>r_conv U3 U23 hA rfl) fun a hA=>?_
   refine gE 14 hA rfl (.inr (hI.sl [0] rfl)) (fun _=>r_add hA rfl rfl) fun a hA=>?_
   refine gF 20 rfl ?_
   obtain ⟨r5,hr5,H⟩:=bB H
   refine o_callp (u:=.int .i64 r5) cf12 hA rfl hI (sargassoworld_Number.c μ1 _ hI.agr (IntKind.i64.wrap (Int.tdiv (x0.getD s2.toNat 0) 2048)) (wrap_in _ _) 4 (in_lit .i64 4 rfl) r5 hr5) rfl fun a w hz7 hI hA=>?_
   refine o_nil<|⟨(.inr (hI.sl [0] rfl)),?_⟩
   refine gE 21 hA rfl (.inr (hI.sl [0] rfl)) (fun _=>r_add hA rfl rfl) fun a hA=>?_
   refine gE 22 hA rfl (.inr (hI.sl [0] rfl)) (fun _=>r_conv U3 U23 hA rfl) fun a hA=>?_
   refine gF 23 rfl ?_
   refine stp hA (r_bldS (cs:=[[.int .u32 (IntKind.u32.wrap s2)],av .u8 32 r3,av .u8 32 Z32,[.int .u32 (IntKind.u32.wrap (((s1.getD r2.toNat default).Time)+(IntKind.u32.wrap r4)))],[.int .u32 (IntKind.u32.wrap (IntKind.i64.wrap (1+r5)))],[.int .u32 0]].flatten.toArray) (pl:=[(0,1),(1,32),(33,32),(65,1),(66,1),(67,1)]) zr27 U27 ⟨rfl,sz23,rfl,sz25,rfl,sz25,rfl,sz23,rfl,sz23,rfl,sz23,trivial⟩ hA rfl (by kernel_rfl)) rfl fun a hA=>?_
   refine o_nil<|⟨(.inr (hI.sl [0] rfl)),?_⟩
   refine gF 24 rfl ?_
   have hE2:Els (RHead μ1) 68 ([(⟨IntKind.u32.wrap s2,r3,Z32,IntKind.u32.wrap (((s1.getD r2.toNat default).Time)+(IntKind.u32.wrap r4)),IntKind.u32.wrap (IntKind.i64.wrap (1+r5)),0⟩:Head)]:List Head) _:=(Els.cons (c:=[[.int .u32 (IntKind.u32.wrap s2)],av .u8 32 r3,av .u8 32 Z32,[.int .u32 (IntKind.u32.wrap (((s1.getD r2.toNat default).Time)+(IntKind.u32.wrap r4)))],[.int .u32 (IntKind.u32.wrap (IntKind.i64.wrap (1+r5)))],[.int .u32 0]].flatten) ⟨rfl,⟨(wrap_in _ _),hz5,(arr_zero _ _),(wrap_in _ _),(wrap_in _ _),(in_lit .u32 0 rfl)⟩⟩ rfl Els.nil)
   refine o_bsl ([[.int .u32 (IntKind.u32.wrap s2)],av .u8 32 r3,av .u8 32 Z32,[.int .u32 (IntKind.u32.wrap (((s1.getD r2.toNat default).Time)+(IntKind.u32.wrap r4)))],[.int .u32 (IntKind.u32.wrap (IntKind.i64.wrap (1+r5)))],[.int .u32 0]].flatten++([])) te27 zr27 U29 hI hA rfl rfl rfl rfl (by kernel_rfl) rfl fun g3 a w hA hI=>?_
   generalize hcs:([[.int .u32 (IntKind.u32.wrap s2)],av .u8 32 r3,av .u8 32 Z32,[.int .u32 (IntKind.u32.wrap (((s1.getD r2.toNat default).Time)+(IntKind.u32.wrap r4)))],[.int .u32 (IntKind.u32.wrap (IntKind.i64.wrap (1+r5)))],[.int .u32 0]].flatten++([]):List Value)=cs2 at hE2 hI
   clear hcs
   refine o_nil<|⟨(.inr (hI.sl [1] rfl)),?_⟩
   refine gF 25 rfl ?_
   obtain ⟨hb3,H⟩:=bG H
   have hE4:=ws1.app hE2
   refine o_appG (xs:=(s1:List Head)) (ys:=(([(⟨IntKind.u32.wrap s2,r3,Z32,IntKind.u32.wrap (((s1.getD r2.toNat default).Time)+(IntKind.u32.wrap r4)),IntKind.u32.wrap (IntKind.i64.wrap (1+r5)),0⟩:Head)]:List Head):List Head)) (M:=1759218604441) 2 te27 U29 hI rfl hA rfl rfl (src_row hI (j:=0) rfl) hE2.len (hE2.ones RHead.ones) hb3 rfl fun v3 a w hA hI=>?_
   refine o_nil<|⟨(.inr (hI.sl [1] rfl)),?_⟩
   refine gE 26 hA rfl (.inr (hI.sl [1] rfl)) (fun _=>r_as hA rfl) fun a hA=>?_
   refine gN<|hN6 _ _<|w_reg<|stm hA rfl rfl fun a hA =>
    stp hA (r_add hA rfl rfl) rfl fun a hA =>
    sta hA rfl rfl fun a hA=>?_
   refine o_nil<|⟨m1,lS _,s1++([(⟨IntKind.u32.wrap s2,r3,Z32,IntKind.u32.wrap (((s1.getD r2.toNat default).Time)+(IntKind.u32.wrap r4)),IntKind.u32.wrap (IntKind.i64.wrap (1+r5)),0⟩:Head)]:List Head),IntKind.i64.wrap (s2+1),v3,ccs1++cs2,H,hE4,(wrap_in _ _),hA.sub ⟨rfl,rfl,rfl,rfl,trivial⟩,(hI.sl [2] rfl)⟩
  ·obtain ⟨hc1,H⟩:=dF H hc1
   refine w_exit rfl ?_
   have H:some s1=some z1:=H
   obtain rfl:=sI H
   have H:=Hk2
   cases sJ H
   exact ⟨vvs1,ccs1,ws1,hA.sub ⟨rfl,rfl,trivial⟩,hI⟩
 ·rintro a w ⟨vvc1,ccc1,wc1,hA,hI⟩
  have H:=Hk1
  refine w_seq fun _ hN8=>w_reg<|stm hA rfl rfl fun a hA =>
   sta hA rfl rfl fun a hA=>?_
  refine o_nil<|hN8 _ _<|w_ret ?_
  obtain rfl:=sJ H
  exact ret1 hA Tryz.results6 rfl ⟨_,rfl,vvc1,ccc1,rfl,wc1,(hI.less (Store.le.refl _) hI.le)⟩
noncomputable def q11_TreePlays.s2 (c1:List sargassoref8Node)(c2:List ((List Int)×treeNode))(c3 r15 r17:List Int)(s5:Int):Int→Option (Int⊕(Int⊕((Int×(List sargassoref8Node)×(List ((List Int)×treeNode))×(List Int))⊕Bool))):=fun s6=>(if s6 < 3 then (if 0≤s5∧s5 < (([r15,r17,[7,0,0,0,0,0,0,0,0,0,0,0,0,0,0,0,0,0,0,0,0,0,0,0,0,0,0,0,0,0,0,0]]:List (List Int)).length:Int) then (if 0≤s6∧s6 < (([r15,r17,[7,0,0,0,0,0,0,0,0,0,0,0,0,0,0,0,0,0,0,0,0,0,0,0,0,0,0,0,0,0,0,0]]:List (List Int)).length:Int) then ((tree_Tree_Path.f (⟨c2,c3⟩:treeTree) (([r15,r17,[7,0,0,0,0,0,0,0,0,0,0,0,0,0,0,0,0,0,0,0,0,0,0,0,0,0,0,0,0,0,0,0]]:List (List Int)).getD s5.toNat []) (([r15,r17,[7,0,0,0,0,0,0,0,0,0,0,0,0,0,0,0,0,0,0,0,0,0,0,0,0,0,0,0,0,0,0,0]]:List (List Int)).getD s6.toNat [])).bind fun r29=>((((sargassoref8_Tree_Path.f (⟨c1⟩:sargassoref8Tree) (([r15,r17,[7,0,0,0,0,0,0,0,0,0,0,0,0,0,0,0,0,0,0,0,0,0,0,0,0,0,0,0,0,0,0,0]]:List (List Int)).getD s5.toNat []) (([r15,r17,[7,0,0,0,0,0,0,0,0,0,0,0,0,0,0,0,0,0,0,0,0,0,0,0,0,0,0,0,0,0,0,0]]:List (List Int)).getD s6.toNat [])).bind fun r30=>some (r30.1,r30.2.1,r30.2.2.2,r30.2.2.1))).bind fun (c7,c8,c9,c10)=>((((tree_Tree_Common.f (⟨c2,c3⟩:treeTree) (([r15,r17,[7,0,0,0,0,0,0,0,0,0,0,0,0,0,0,0,0,0,0,0,0,0,0,0,0,0,0,0,0,0,0,0]]:List (List Int)).getD s5.toNat []) (([r15,r17,[7,0,0,0,0,0,0,0,0,0,0,0,0,0,0,0,0,0,0,0,0,0,0,0,0,0,0,0,0,0,0,0]]:List (List Int)).getD s6.toNat [])).bind fun r31=>some (r31.2,r31.1))).bind fun (c11,c12)=>(((if r29.2.2≠c9 then some true else (if c11≠c9 then some true else ((q0_SameHash.f c12 c10).bind fun r32=>(if r32=true then ((q0_SameHashes.f r29.1 c7).bind fun r33=>(if r33=true then ((q0_SameHashes.f r29.2.1 c8).bind fun r34=>some (!r34)) else some true)) else some true))))).bind fun c13=>(if c13=true then some (.inr (.inr (.inr false))) else some (.inl (IntKind.i64.wrap (s6+1)))))))) else none) else none) else some (.inr (.inl (IntKind.i64.wrap (s5+1)))))
noncomputable def q11_TreePlays.s1 (x4:Int)(r1:Bool)(c1:List sargassoref8Node)(c2:List ((List Int)×treeNode))(c3 r15 r17:List Int):Int→Option (Int⊕((Int×(List sargassoref8Node)×(List ((List Int)×treeNode))×(List Int))⊕Bool)):=fun s5=>(if s5 < 3 then (if 0≤s5∧s5 < (([r15,r17,[7,0,0,0,0,0,0,0,0,0,0,0,0,0,0,0,0,0,0,0,0,0,0,0,0,0,0,0,0,0,0,0]]:List (List Int)).length:Int) then ((tree_Tree_Head.f (⟨c2,c3⟩:treeTree) (([r15,r17,[7,0,0,0,0,0,0,0,0,0,0,0,0,0,0,0,0,0,0,0,0,0,0,0,0,0,0,0,0,0,0,0]]:List (List Int)).getD s5.toNat [])).bind fun r18=>((sargassoref8_Tree_Of.f (⟨c1⟩:sargassoref8Tree) (([r15,r17,[7,0,0,0,0,0,0,0,0,0,0,0,0,0,0,0,0,0,0,0,0,0,0,0,0,0,0,0,0,0,0,0]]:List (List Int)).getD s5.toNat [])).bind fun r19=>((tree_Tree_Height.f (⟨c2,c3⟩:treeTree) (([r15,r17,[7,0,0,0,0,0,0,0,0,0,0,0,0,0,0,0,0,0,0,0,0,0,0,0,0,0,0,0,0,0,0,0]]:List (List Int)).getD s5.toNat [])).bind fun r20=>((tree_Tree_Work.f (⟨c2,c3⟩:treeTree) (([r15,r17,[7,0,0,0,0,0,0,0,0,0,0,0,0,0,0,0,0,0,0,0,0,0,0,0,0,0,0,0,0,0,0,0]]:List (List Int)).getD s5.toNat [])).bind fun r21=>(((if r18.2≠r19.2.2.2 then some true else (if r20.2≠r19.2.2.2 then some true else (if r21.2≠r19.2.2.2 then some true else ((q0_SameHead.f r18.1 r19.1).bind fun r22=>(if r22=true then (if r20.1≠r19.2.1 then some true else some (decide (r21.1≠r19.2.2.1))) else some true)))))).bind fun c5=>(if c5=true then some (.inr (.inr false)) else ((tree_Tree_Ancestor.f (⟨c2,c3⟩:treeTree) (([r15,r17,[7,0,0,0,0,0,0,0,0,0,0,0,0,0,0,0,0,0,0,0,0,0,0,0,0,0,0,0,0,0,0,0]]:List (List Int)).getD s5.toNat []) x4).bind fun r23=>((sargassoref8_Tree_Ancestor.f (⟨c1⟩:sargassoref8Tree) (([r15,r17,[7,0,0,0,0,0,0,0,0,0,0,0,0,0,0,0,0,0,0,0,0,0,0,0,0,0,0,0,0,0,0,0]]:List (List Int)).getD s5.toNat []) x4).bind fun r24=>(((if r23.2≠r24.2 then some true else ((q0_SameHash.f r23.1 r24.1).bind fun r25=>(if r25=true then ((tree_Tree_Under.f (⟨c2,c3⟩:treeTree) (([r15,r17,[7,0,0,0,0,0,0,0,0,0,0,0,0,0,0,0,0,0,0,0,0,0,0,0,0,0,0,0,0,0,0,0]]:List (List Int)).getD s5.toNat [])).bind fun r26=>((sargassoref8_Tree_Under.f (⟨c1⟩:sargassoref8Tree) (([r15,r17,[7,0,0,0,0,0,0,0,0,0,0,0,0,0,0,0,0,0,0,0,0,0,0,0,0,0,0,0,0,0,0,0]]:List (List Int)).getD s5.toNat [])).bind fun r27=>((q0_SameHashes.f r26 r27).bind fun r28=>some (!r28)))) else some true)))).bind fun c6=>(if c6=true then some (.inr (.inr false)) else loopO (q11_TreePlays.s2 c1 c2 c3 r15 r17 s5) 0)))))))))) else none) else (((if r1=true then ((tree_Tree_Len.f (⟨c2,c3⟩:treeTree)).bind fun r35=>((sargassoref8_Tree_Len.f (⟨c1⟩:sargassoref8Tree)).bind fun r36=>(if r35=r36 then ((tree_Tree_Start.f (⟨c2,c3⟩:treeTree)).bind fun r37=>((sargassoref8_Tree_Start.f (⟨c1⟩:sargassoref8Tree)).bind fun r38=>((q0_SameHash.f r37 r38).bind fun r39=>some r39))) else some false))) else some false)).bind fun c14=>some (.inr (.inr c14))))
noncomputable def q11_TreePlays.s0 (x1:Head)(x2 x3 x4:Int)(r1:Bool)(r2:List Head):(Int×(List sargassoref8Node)×(List ((List Int)×treeNode))×(List Int))→Option ((Int×(List sargassoref8Node)×(List ((List Int)×treeNode))×(List Int))⊕Bool):=fun (s1,s2,s3,s4)=>(if s1 < (r2.length:Int) then (if 0≤s1∧s1 < (r2.length:Int) then ((tree_Tree_Add.f (⟨s3,s4⟩:treeTree) (r2.getD s1.toNat default)).bind fun r5=>((sargassoref8_Tree_Add.f (⟨s2⟩:sargassoref8Tree) (r2.getD s1.toNat default)).bind fun r6=>((q2_Is.f r5.1 r6.1).bind fun r7=>(if r7=true then some (.inl (IntKind.i64.wrap (s1+1),r6.2.l,r5.2.m,r5.2.start)) else some (.inr false))))) else none) else ((((tree_Tree_Add.f (⟨s3,s4⟩:treeTree) x1).bind fun r8=>((sargassoref8_Tree_Add.f (⟨s2⟩:sargassoref8Tree) x1).bind fun r9=>((q2_Is.f r8.1 r9.1).bind fun r10=>(if r10=true then ((sargassoworld_Number.f x2 (r2.length:Int)).bind fun r11=>(if 0≤r11∧r11 < (r2.length:Int) then ((tree_Tree_Add.f (⟨r8.2.m,r8.2.start⟩:treeTree) (r2.getD r11.toNat default)).bind fun r12=>((q2_Is.f r12.1 109).bind fun r13=>some (r9.2.l,r12.2.m,r12.2.start,!r13))) else none)) else some (r9.2.l,r8.2.m,r8.2.start,true)))))).bind fun (c1,c2,c3,c4)=>(if c4=true then some (.inr false) else ((sargassoworld_Number.f x2 (r2.length:Int)).bind fun r14=>(if 0≤r14∧r14 < (r2.length:Int) then ((q1_HeadID.f (r2.getD r14.toNat default)).bind fun r15=>((sargassoworld_Number.f x3 (r2.length:Int)).bind fun r16=>(if 0≤r16∧r16 < (r2.length:Int) then ((q1_HeadID.f (r2.getD r16.toNat default)).bind fun r17=>loopO (q11_TreePlays.s1 x4 r1 c1 c2 c3 r15 r17) 0) else none))) else none)))))
noncomputable def q11_TreePlays.f (x0:List Int)(x1:Head)(x2 x3 x4:Int):Option Bool:=((q11_first.f).bind fun r1=>(if r1=true then (if 60 < (x0.length:Int) then some r1 else ((q11_grown.f x0).bind fun r2=>(if 0 < (r2.length:Int) then ((tree_New.f (r2.getD (0:Int).toNat default)).bind fun r3=>((sargassoref8_NewTree.f (r2.getD (0:Int).toNat default)).bind fun r4=>loopO (q11_TreePlays.s0 x1 x2 x3 x4 r1 r2) (1,r4.l,r3.m,r3.start))) else none))) else some false))
set_option maxHeartbeats 4000000 in
theorem q11_TreePlays.c (μ:Store)(w0:World)(hμ:Agr μ w0)(x0:List Int)(u0:Value)(hx0:Slc (RI .i64) 1 μ u0 x0)(x1:Head)(hx1:HeadW μ x1)(x2:Int)(hx2:InR .i64 x2)(x3:Int)(hx3:InR .i64 x3)(x4:Int)(hx4:InR .i64 x4)(hG:Gl μ)(r:Bool)(H:q11_TreePlays.f x0 x1 x2 x3 x4=some r) :
  Calls Tryz.prog 3 [u0,.agg [[.int .u32 x1.Version],av .u8 32 x1.Prev,av .u8 32 x1.Root,[.int .u32 x1.Time],[.int .u32 x1.Work],[.int .u32 x1.Nonce]].flatten.toArray,.int .i64 x2,.int .i64 x3,.int .i64 x4].toArray w0 (fun e w'=>∃ v,e=.returned v∧v=.bool r∧True∧Iv w0 [] μ μ [] w'):=by
 refine enter Tryz.func3 rfl Tryz.ntmps3 rfl fun a hA=>?_
 have hI:=Iv.start hμ
 have H:=bI H
 obtain ⟨e0,he0⟩:=hG.g0
 obtain ⟨e1,he1⟩:=hG.g1
 obtain ⟨e2,he2⟩:=hG.g2
 refine w_seq fun _ hN1=>w_reg<|o_box [[.int .u32 x1.Version],av .u8 32 x1.Prev,av .u8 32 x1.Root,[.int .u32 x1.Time],[.int .u32 x1.Work],[.int .u32 x1.Nonce]] hI hA rfl rfl rfl fun g1 a w hA hI hg1 =>
  sta hA rfl rfl fun a hA=>?_
 refine o_nil<|hN1 _ _<|w_seq fun _ hN2=>w_reg ?_
 obtain ⟨r1,hr1,H⟩:=bB H
 refine o_callp (u:=.bool r1) cf5 hA rfl hI (q11_first.c μ _ hI.agr  r1 hr1) rfl fun a w hz1 hI hA =>
  sta hA rfl rfl fun a hA=>?_
 refine o_nil<|hN2 _ _<|w_seq fun _ hN3=>w_seq fun _ hN4=>w_reg<|stm hA rfl rfl fun a hA =>
  stp hA (r_not hA rfl) rfl fun a hA=>?_
 refine o_nil<|hN4 _ _<|w_cond hA rfl (fun hc1=>?_) (fun hc1=>?_)
 ·have hc10:=hc1;have hc1:=nT hc1;have hc1:=ft hc1;have H:=bF H hc1
  refine w_seq fun _ hN5=>w_reg<|sta hA rfl rfl fun a hA=>?_
  refine o_nil<|hN5 _ _<|w_ret ?_
  obtain rfl:=sJ H
  exact ret1 hA Tryz.results3 rfl ⟨_,rfl,rfl,trivial,hI.forget0⟩
 ·have hc10:=hc1;have hc1:=nF hc1;have H:=bT H hc1
  refine w_skip<|hN3 _ _<|w_seq fun _ hN6=>w_seq fun _ hN7=>w_reg<|stm hA rfl rfl fun a hA=>?_
  obtain ⟨_,hsl1⟩:=Slc.sv hx0
  refine stp hA (r_slen U22 hsl1 hA rfl) rfl fun a hA =>
   stp hA (r_gtr hA rfl rfl) rfl fun a hA=>?_
  refine o_nil<|hN7 _ _<|w_cond hA rfl (fun hc2=>?_) (fun hc2=>?_)
  ·have hc20:=hc2;obtain ⟨hc2,H⟩:=dT H hc2
   refine w_seq fun _ hN8=>w_reg<|stm hA rfl rfl fun a hA =>
    sta hA rfl rfl fun a hA=>?_
   refine o_nil<|hN8 _ _<|w_ret ?_
   obtain rfl:=sJ H
   exact ret1 hA Tryz.results3 rfl ⟨_,rfl,rfl,trivial,hI.forget0⟩
  ·have hc20:=hc2;obtain ⟨hc2,H⟩:=dF H hc2
   refine w_skip<|hN6 _ _<|w_seq fun _ hN9=>w_reg<|stm hA rfl rfl fun a hA=>?_
   obtain ⟨r2,hr2,H⟩:=bB H
   refine o_call _ cf6 hA rfl (q11_grown.c μ _ hI.agr x0 u0 hx0 r2 hr2) rfl fun v1 a w hz2 hA=>?_
   obtain ⟨_,cs1,rfl,hE1,hi1⟩:=hz2
   have hI:=hI.call hi1
   refine sta hA rfl rfl fun a hA=>?_
   refine o_nil<|hN9 _ _<|w_seq fun _ hN10=>w_reg<|stm hA rfl rfl fun a hA=>?_
   obtain ⟨hb1,H⟩:=bG H
   refine stp hA (r_rix (j:=0) U29 sz27 hI rfl hA rfl rfl (by decide) hb1) rfl fun a hA=>?_
   obtain ⟨A1,_,B1,hc3,hl1,_,he1⟩:=Els.at_ hE1 (getD_some default (by decide) hb1)
   obtain ⟨rfl,hw1⟩:=he1
   refine stp hA (r_rldP (j:=0) (q:=(0:Int).toNat * 68) (off:=0) A1 B1 [] [[.int .u32 ((r2.getD (0:Int).toNat default).Version)],av .u8 32 ((r2.getD (0:Int).toNat default).Prev),av .u8 32 ((r2.getD (0:Int).toNat default).Root),[.int .u32 ((r2.getD (0:Int).toNat default).Time)],[.int .u32 ((r2.getD (0:Int).toNat default).Work)],[.int .u32 ((r2.getD (0:Int).toNat default).Nonce)]] [] hc3 hl1 rfl U27 rfl sz27 rfl hI rfl hA rfl) rfl fun a hA=>?_
   obtain ⟨r3,hr3,H⟩:=bB H
   refine o_call _ cf7 hA rfl (tree_New.c μ _ hI.agr (r2.getD (0:Int).toNat default) ⟨hw1.1,hw1.2.1,hw1.2.2.1,hw1.2.2.2.1,hw1.2.2.2.2.1,hw1.2.2.2.2.2⟩ r3 hr3) rfl fun v2 a w hz3 hA=>?_
   obtain ⟨g2,gm1,gs1,rfl,hp1,hp2,hi2⟩:=hz3
   have hI:=hI.call hi2
   refine sta hA rfl rfl fun a hA=>?_
   refine o_nil<|hN10 _ _<|w_seq fun _ hN11=>w_reg<|stm hA rfl rfl fun a hA =>
    stp hA (r_rix (j:=2) U29 sz27 hI rfl hA rfl rfl (by decide) hb1) rfl fun a hA=>?_
   obtain ⟨A2,_,B2,hc4,hl2,_,he2⟩:=Els.at_ hE1 (getD_some default (by decide) hb1)
   obtain ⟨rfl,hw2⟩:=he2
   refine stp hA (r_rldP (j:=2) (q:=(0:Int).toNat * 68) (off:=0) A2 B2 [] [[.int .u32 ((r2.getD (0:Int).toNat default).Version)],av .u8 32 ((r2.getD (0:Int).toNat default).Prev),av .u8 32 ((r2.getD (0:Int).toNat default).Root),[.int .u32 ((r2.getD (0:Int).toNat default).Time)],[.int .u32 ((r2.getD (0:Int).toNat default).Work)],[.int .u32 ((r2.getD (0:Int).toNat default).Nonce)]] [] hc4 hl2 rfl U27 rfl sz27 rfl hI rfl hA rfl) rfl fun a hA=>?_
   obtain ⟨r4,hr4,H⟩:=bB H
   refine o_call _ cf8 hA rfl (sargassoref8_NewTree.c μ _ hI.agr (r2.getD (0:Int).toNat default) ⟨hw2.1,hw2.2.1,hw2.2.2.1,hw2.2.2.2.1,hw2.2.2.2.2.1,hw2.2.2.2.2.2⟩ r4 hr4) rfl fun v3 a w hz4 hA=>?_
   obtain ⟨g3,vp1,cp1,rfl,hp3,hi3⟩:=hz4
   have hI:=hI.call hi3
   refine sta hA rfl rfl fun a hA=>?_
   refine o_nil<|hN11 _ _<|w_seq fun _ hN12=>w_seq fun _ hN13=>w_reg<|stm hA rfl rfl fun a hA =>
    stp hA (r_ptrnil_eql U31 hA rfl rfl) rfl fun a hA=>?_
   refine o_nil<|hN13 _ _<|w_cF hA rfl rfl ?_
   refine w_skip<|hN12 _ _<|w_seq fun _ hN14=>w_seq fun _ hN15=>w_reg<|sta hA rfl rfl fun a hA=>?_
   refine o_nil<|hN15 _ _<|w_block ?_
   obtain ⟨z1,hz5,Hk1⟩:=bind_some H
   obtain ⟨n1,hn1⟩:=loopO_some hz5
   refine w_loop (fun n a w=>∃(s1:Int)(s2:List sargassoref8Node)(s3:List ((List Int)×treeNode))(s4:List Int)(μ1:Store)(vvs2:Value)(ccs2:List Value)(ggs3:Nat)(gss3:(List Int)→NG),loopN (q11_TreePlays.s0 x1 x2 x3 x4 r1 r2) n (s1,s2,s3,s4)=some z1∧μ.le μ1∧InR .i64 s1∧Els (Rsargassoref8Node μ1) 104 s2 ccs2∧nw107 μ1 s3 gss3∧Arr .u8 32 s4∧Fr a 323 [(2,.int .i64 x2),(3,.int .i64 x3),(4,.int .i64 x4),(6,pt g1 0),(10,.bool false),(11,.bool r1),(12,v1),(13,pt g2 0),(14,pt g3 0),(15,.int .i64 s1)]∧Iv w0 [] μ μ1 [cel g3 [[vvs2]] 114,row 111 104 vvs2 s2.length ccs2,cel g2 [[.map (some ggs3)],av .u8 32 s4] 109,nd107 ggs3 s3 gss3,row 27 68 v1 r2.length cs1,cel g1 [[.int .u32 x1.Version],av .u8 32 x1.Prev,av .u8 32 x1.Root,[.int .u32 x1.Time],[.int .u32 x1.Work],[.int .u32 x1.Nonce]] 27] w) n1 ⟨1,r4.l,r3.m,r3.start,μ,vp1,cp1,gm1,gs1,hn1,(Store.le.refl _),(in_lit .i64 1 rfl),hp3,hp1,hp2,hA.sub ⟨rfl,rfl,rfl,rfl,rfl,rfl,rfl,rfl,rfl,rfl,trivial⟩,hI⟩ ?_
   clear hA hI
   rintro n a w ⟨s1,s2,s3,s4,μ1,vvs2,ccs2,ggs3,gss3,hn1,hle1,ws1,ws2,ws3,ws4,hA,hI⟩
   obtain ⟨m1,rfl,H⟩:=loopN_bind hn1
   clear hn1
   refine w_seq fun _ hN16=>w_seq fun _ hN17=>w_reg<|stm hA rfl rfl fun a hA =>
    stm hA rfl rfl fun a hA=>?_
   have hlen1:=Iv.row_in hI (j:=4) rfl
   refine stp hA (r_rlen (xs:=0) U29 hI (j:=4) rfl hA rfl) rfl fun a hA =>
    stp hA (r_lss hA rfl rfl) rfl fun a hA=>?_
   refine o_nil<|hN17 _ _<|w_cond hA rfl (fun hc5=>?_) (fun hc5=>?_)
   ·obtain ⟨hc5,H⟩:=dT H hc5
    refine w_skip<|hN16 _ _<|w_seq fun _ hN18=>w_block<|w_seq fun _ hN19=>?_
    refine w_anyS [] mo (fun w (h:Iv w0 [] μ μ1 [cel g3 [[vvs2]] 114,row 111 104 vvs2 s2.length ccs2,cel g2 [[.map (some ggs3)],av .u8 32 s4] 109,nd107 ggs3 s3 gss3,row 27 68 v1 r2.length cs1,cel g1 [[.int .u32 x1.Version],av .u8 32 x1.Prev,av .u8 32 x1.Root,[.int .u32 x1.Time],[.int .u32 x1.Work],[.int .u32 x1.Nonce]] 27] w)=>(h.sl [4,5] rfl:Iv w0 [] μ μ1 [row 27 68 v1 r2.length cs1,cel g1 [[.int .u32 x1.Version],av .u8 32 x1.Prev,av .u8 32 x1.Root,[.int .u32 x1.Time],[.int .u32 x1.Work],[.int .u32 x1.Nonce]] 27] w)) hI fun w hI=>?_
    refine gE 0 hA rfl (.inr (hI.sl [4,5] rfl)) (fun _=>r_mv hA rfl) fun a hA=>?_
    refine gE 1 hA rfl (.inr (hI.sl [4,5] rfl)) (fun _=>r_mv hA rfl) fun a hA=>?_
    refine gE 2 hA rfl (.inr (hI.sl [4,5] rfl)) (fun _=>r_mv hA rfl) fun a hA=>?_
    obtain ⟨hb2,H⟩:=bG H
    refine gT 3 hA rfl (hI.sl [4,5] rfl) (fun w hI=>r_rix (j:=0) U29 sz27 hI rfl hA rfl rfl hb2.1 hb2.2) fun a hA=>?_
    obtain ⟨A3,_,B3,hc6,hl3,_,he3⟩:=Els.at_ hE1 (getD_some default hb2.1 hb2.2)
    obtain ⟨rfl,hw3⟩:=he3
    refine gT 4 hA rfl (hI.sl [4,5] rfl) (fun w hI=>r_rldP (j:=0) (q:=s1.toNat * 68) (off:=0) A3 B3 [] [[.int .u32 ((r2.getD s1.toNat default).Version)],av .u8 32 ((r2.getD s1.toNat default).Prev),av .u8 32 ((r2.getD s1.toNat default).Root),[.int .u32 ((r2.getD s1.toNat default).Time)],[.int .u32 ((r2.getD s1.toNat default).Work)],[.int .u32 ((r2.getD s1.toNat default).Nonce)]] [] hc6 hl3 rfl U27 rfl sz27 rfl hI rfl hA rfl) fun a hA=>?_
    refine gE 6 hA rfl (.inr (hI.sl [4,5] rfl)) (fun _=>r_mv hA rfl) fun a hA=>?_
    refine gE 7 hA rfl (.inr (hI.sl [4,5] rfl)) (fun _=>r_mv hA rfl) fun a hA=>?_
    refine gE 8 hA rfl (.inr (hI.sl [4,5] rfl)) (fun _=>r_mv hA rfl) fun a hA=>?_
    refine gT 9 hA rfl (hI.sl [4,5] rfl) (fun w hI=>r_rix (j:=0) U29 sz27 hI rfl hA rfl rfl hb2.1 hb2.2) fun a hA=>?_
    obtain ⟨A4,_,B4,hc7,hl4,_,he4⟩:=Els.at_ hE1 (getD_some default hb2.1 hb2.2)
    obtain ⟨rfl,hw4⟩:=he4
    refine gT 10 hA rfl (hI.sl [4,5] rfl) (fun w hI=>r_rldP (j:=0) (q:=s1.toNat * 68) (off:=0) A4 B4 [] [[.int .u32 ((r2.getD s1.toNat default).Version)],av .u8 32 ((r2.getD s1.toNat default).Prev),av .u8 32 ((r2.getD s1.toNat default).Root),[.int .u32 ((r2.getD s1.toNat default).Time)],[.int .u32 ((r2.getD s1.toNat default).Work)],[.int .u32 ((r2.getD s1.toNat default).Nonce)]] [] hc7 hl4 rfl U27 rfl sz27 rfl hI rfl hA rfl) fun a hA=>?_
    refine gF 5 rfl ?_
    obtain ⟨r5,hr5,H⟩:=bB H
    have hI:=hI.sl [2,3,0,1,4,5] rfl
    refine o_call _ cf10 hA rfl (tree_Tree_Add.c μ1 _ hI.agr (⟨s3,s4⟩:treeTree) ggs3 gss3 g2 ws3 ws4 (hI.handN 2) (r2.getD s1.toNat default) ⟨hw3.1,hw3.2.1,hw3.2.2.1,hw3.2.2.2.1,hw3.2.2.2.2.1,hw3.2.2.2.2.2⟩ e0 (ErV.le (fun _ _ h=>h) hle1 he0) e1 (ErV.le (fun _ _ h=>h) hle1 he1) e2 (ErV.le (fun _ _ h=>h) hle1 he2) r5 hr5) rfl fun v4 a w hz6 hA=>?_
    obtain ⟨_,gm2,gs2,μ2,rfl,hS1,hp4,hp5,hi4⟩:=hz6
    have hI:=hI.back2 hi4
    refine o_nil<|⟨(.inr ((hI.sl [4,5] rfl).less hle1 hi4.le)),?_⟩
    refine gF 11 rfl ?_
    obtain ⟨r6,hr6,H⟩:=bB H
    have hI:=hI.sl [2,3,0,1,4,5] rfl
    refine o_call _ cf11 hA rfl (sargassoref8_Tree_Add.c μ2 _ hI.agr (⟨s2⟩:sargassoref8Tree) vvs2 ccs2 g3 ws2 (hI.handN 2) (r2.getD s1.toNat default) ⟨hw4.1,hw4.2.1,hw4.2.2.1,hw4.2.2.2.1,hw4.2.2.2.2.1,hw4.2.2.2.2.2⟩ r6 hr6) rfl fun v5 a w hz7 hA=>?_
    obtain ⟨vp2,cp2,rfl,hw5,hp6,hi5⟩:=hz7
    have hI:=hI.back2 hi5
    refine o_nil<|⟨(.inr ((hI.sl [4,5] rfl).less hle1 hi4.le)),?_⟩
    refine gF 12 rfl ?_
    obtain ⟨r7,hr7,H⟩:=bB H
    refine o_callp (u:=.bool r7) cf9 hA rfl hI (q2_Is.c μ2 _ hI.agr r5.1 v4 hS1 r6.1 hw5 (Gl.le (hle1.trans hi4.le) hG) r7 hr7) rfl fun a w hz8 hI hA=>?_
    refine o_nil<|⟨(.inr ((hI.sl [4,5] rfl).less hle1 hi4.le)),?_⟩
    refine gE 13 hA rfl (.inr ((hI.sl [4,5] rfl).less hle1 hi4.le)) (fun _=>r_not hA rfl) fun a hA=>?_
    refine gN<|hN19 _ _<|w_cond hA rfl (fun hc8=>?_) (fun hc8=>?_)
    ·have hc8:=nT hc8;have hc8:=ft hc8;have H:=bF H hc8
     refine w_seq fun _ hN20=>w_reg<|sta hA rfl rfl fun a hA=>?_
     refine o_nil<|hN20 _ _<|w_ret ?_
     have H:some false=some z1:=H
     obtain rfl:=sI H
     have H:=Hk1
     obtain rfl:=sJ H
     exact ret1 hA Tryz.results3 rfl ⟨_,rfl,rfl,trivial,hI.forget0⟩
    ·have hc8:=nF hc8;have H:=bT H hc8
     refine w_skip<|hN18 _ _<|w_reg<|stm hA rfl rfl fun a hA =>
      stp hA (r_add hA rfl rfl) rfl fun a hA =>
      sta hA rfl rfl fun a hA=>?_
     refine o_nil<|⟨m1,lS _,IntKind.i64.wrap (s1+1),r6.2.l,r5.2.m,r5.2.start,μ2,vp2,cp2,gm2,gs2,H,(hle1.trans hi4.le),(wrap_in _ _),hp6,hp4,hp5,hA.sub ⟨rfl,rfl,rfl,rfl,rfl,rfl,rfl,rfl,rfl,rfl,trivial⟩,hI⟩
   ·obtain ⟨hc5,H⟩:=dF H hc5
    refine w_exit rfl<|hN14 _ _<|w_seq fun _ hN21=>?_
    obtain ⟨⟨c1,c2,c3,c4⟩,hz9,Hk2⟩:=bB H
    refine w_cut (fun a w=>∃(μ3:Store)(vvc1:Value)(ccc1:List Value)(ggc2:Nat)(gsc2:(List Int)→NG),μ1.le μ3∧Els (Rsargassoref8Node μ3) 104 c1 ccc1∧nw107 μ3 c2 gsc2∧Arr .u8 32 c3∧Fr a 323 [(2,.int .i64 x2),(3,.int .i64 x3),(4,.int .i64 x4),(10,.bool false),(11,.bool r1),(12,v1),(13,pt g2 0),(14,pt g3 0),(101,.bool c4)]∧Iv w0 [] μ μ3 [row 111 104 vvc1 c1.length ccc1,nd107 ggc2 c2 gsc2,cel g3 [[vvc1]] 114,cel g2 [[.map (some ggc2)],av .u8 32 c3] 109,row 27 68 v1 r2.length cs1,cel g1 [[.int .u32 x1.Version],av .u8 32 x1.Prev,av .u8 32 x1.Root,[.int .u32 x1.Time],[.int .u32 x1.Work],[.int .u32 x1.Nonce]] 27] w) ?_ ?_
    ·have H:=bI hz9
     refine w_anyS [] mo (fun w (h:Iv w0 [] μ μ1 [cel g3 [[vvs2]] 114,row 111 104 vvs2 s2.length ccs2,cel g2 [[.map (some ggs3)],av .u8 32 s4] 109,nd107 ggs3 s3 gss3,row 27 68 v1 r2.length cs1,cel g1 [[.int .u32 x1.Version],av .u8 32 x1.Prev,av .u8 32 x1.Root,[.int .u32 x1.Time],[.int .u32 x1.Work],[.int .u32 x1.Nonce]] 27] w)=>(h.sl [4,5] rfl:Iv w0 [] μ μ1 [row 27 68 v1 r2.length cs1,cel g1 [[.int .u32 x1.Version],av .u8 32 x1.Prev,av .u8 32 x1.Root,[.int .u32 x1.Time],[.int .u32 x1.Work],[.int .u32 x1.Nonce]] 27] w)) hI fun w hI=>?_
     refine gE 0 hA rfl (.inr (hI.sl [4,5] rfl)) (fun _=>r_mv hA rfl) fun a hA=>?_
     refine gT 1 hA rfl (hI.sl [4,5] rfl) (fun w hI=>r_ldA (j:=1) [] [[.int .u32 x1.Version],av .u8 32 x1.Prev,av .u8 32 x1.Root,[.int .u32 x1.Time],[.int .u32 x1.Work],[.int .u32 x1.Nonce]] [] U27 rfl sz27 rfl hI rfl hA rfl rfl) fun a hA=>?_
     refine gE 3 hA rfl (.inr (hI.sl [4,5] rfl)) (fun _=>r_mv hA rfl) fun a hA=>?_
     refine gT 4 hA rfl (hI.sl [4,5] rfl) (fun w hI=>r_ldA (j:=1) [] [[.int .u32 x1.Version],av .u8 32 x1.Prev,av .u8 32 x1.Root,[.int .u32 x1.Time],[.int .u32 x1.Work],[.int .u32 x1.Nonce]] [] U27 rfl sz27 rfl hI rfl hA rfl rfl) fun a hA=>?_
     refine gF 2 rfl ?_
     obtain ⟨r8,hr8,H⟩:=bB H
     have hI:=hI.sl [2,3,0,1,4,5] rfl
     refine o_call _ cf10 hA rfl (tree_Tree_Add.c μ1 _ hI.agr (⟨s3,s4⟩:treeTree) ggs3 gss3 g2 ws3 ws4 (hI.handN 2) x1 ⟨hx1.1,hx1.2.1,hx1.2.2.1,hx1.2.2.2.1,hx1.2.2.2.2.1,hx1.2.2.2.2.2⟩ e0 (ErV.le (fun _ _ h=>h) hle1 he0) e1 (ErV.le (fun _ _ h=>h) hle1 he1) e2 (ErV.le (fun _ _ h=>h) hle1 he2) r8 hr8) rfl fun v6 a w hz10 hA=>?_
     obtain ⟨_,gm3,gs3,μ4,rfl,hS2,hp7,hp8,hi6⟩:=hz10
     have hI:=hI.back2 hi6
     refine o_nil<|⟨(.inr ((hI.sl [4,5] rfl).less hle1 hi6.le)),?_⟩
     refine gF 5 rfl ?_
     obtain ⟨r9,hr9,H⟩:=bB H
     have hI:=hI.sl [2,3,0,1,4,5] rfl
     refine o_call _ cf11 hA rfl (sargassoref8_Tree_Add.c μ4 _ hI.agr (⟨s2⟩:sargassoref8Tree) vvs2 ccs2 g3 ws2 (hI.handN 2) x1 ⟨hx1.1,hx1.2.1,hx1.2.2.1,hx1.2.2.2.1,hx1.2.2.2.2.1,hx1.2.2.2.2.2⟩ r9 hr9) rfl fun v7 a w hz11 hA=>?_
     obtain ⟨vp3,cp3,rfl,hw6,hp9,hi7⟩:=hz11
     have hI:=hI.back2 hi7
     refine o_nil<|⟨(.inr ((hI.sl [4,5] rfl).less hle1 hi6.le)),?_⟩
     refine gF 6 rfl ?_
     obtain ⟨r10,hr10,H⟩:=bB H
     refine o_callp (u:=.bool r10) cf9 hA rfl hI (q2_Is.c μ4 _ hI.agr r8.1 v6 hS2 r9.1 hw6 (Gl.le (hle1.trans hi6.le) hG) r10 hr10) rfl fun a w hz12 hI hA=>?_
     refine o_nil<|⟨(.inr ((hI.sl [4,5] rfl).less hle1 hi6.le)),?_⟩
     refine gE 7 hA rfl (.inr ((hI.sl [4,5] rfl).less hle1 hi6.le)) (fun _=>r_not hA rfl) fun a hA=>?_
     refine gE 8 hA rfl (.inr ((hI.sl [4,5] rfl).less hle1 hi6.le)) (fun _=>r_mv hA rfl) fun a hA=>?_
     rcases Bool.eq_false_or_eq_true (!r10) with hc9 | hc9
     ·have hc90:=hc9;have hc9:=nT hc9;have hc9:=ft hc9;have H:=bF H hc9
      refine g_skip (i:=9) hA rfl (wanted_no hA rfl rfl (by rw [hc90];simp [vb])) (by kernel_rfl) (.inr ((hI.sl [4,5] rfl).less hle1 hi6.le)) rfl fun a hA=>?_
      refine g_skip (i:=10) hA rfl (wanted_no hA rfl rfl (by rw [hc90];simp [vb])) (by kernel_rfl) (.inr ((hI.sl [4,5] rfl).less hle1 hi6.le)) rfl fun a hA=>?_
      refine g_skip (i:=11) hA rfl (wanted_no hA rfl rfl (by rw [hc90];simp [vb])) (by kernel_rfl) (.inr ((hI.sl [4,5] rfl).less hle1 hi6.le)) rfl fun a hA=>?_
      refine g_skip (i:=12) hA rfl (wanted_no hA rfl rfl (by rw [hc90];simp [vb])) (by kernel_rfl) (.inr ((hI.sl [4,5] rfl).less hle1 hi6.le)) rfl fun a hA=>?_
      refine g_skip (i:=13) hA rfl (wanted_no hA rfl rfl (by rw [hc90];simp [vb])) (by kernel_rfl) (.inr ((hI.sl [4,5] rfl).less hle1 hi6.le)) rfl fun a hA=>?_
      refine g_skip (i:=14) hA rfl (wanted_no hA rfl rfl (by rw [hc90];simp [vb])) (by kernel_rfl) (.inr ((hI.sl [4,5] rfl).less hle1 hi6.le)) rfl fun a hA=>?_
      refine g_skip (i:=15) hA rfl (wanted_no hA rfl rfl (by rw [hc90];simp [vb])) (by kernel_rfl) (.inr ((hI.sl [4,5] rfl).less hle1 hi6.le)) rfl fun a hA=>?_
      refine g_skip (i:=16) hA rfl (wanted_no hA rfl rfl (by rw [hc90];simp [vb])) (by kernel_rfl) (.inr ((hI.sl [4,5] rfl).less hle1 hi6.le)) rfl fun a hA=>?_
      refine g_skip (i:=17) hA rfl (wanted_no hA rfl rfl (by rw [hc90];simp [vb])) (by kernel_rfl) (.inr ((hI.sl [4,5] rfl).less hle1 hi6.le)) rfl fun a hA=>?_
      refine g_skip (i:=18) hA rfl (wanted_no hA rfl rfl (by rw [hc90];simp [vb])) (by kernel_rfl) (.inr ((hI.sl [4,5] rfl).less hle1 hi6.le)) rfl fun a hA=>?_
      refine g_skip (i:=19) hA rfl (wanted_no hA rfl rfl (by rw [hc90];simp [vb])) (by kernel_rfl) (.inr ((hI.sl [4,5] rfl).less hle1 hi6.le)) rfl fun a hA=>?_
      refine gE 20 hA rfl (.inr ((hI.sl [4,5] rfl).less hle1 hi6.le)) (fun _=>r_pick_t hA rfl hc90 rfl) fun a hA=>?_
      refine gN ?_
      cases sJ H
      exact ⟨μ4,vp3,cp3,gm3,gs3,hi6.le,hp9,hp7,hp8,hA.sub ⟨rfl,rfl,rfl,rfl,rfl,rfl,rfl,rfl,rfl,trivial⟩,(hI.sl [1,3,0,2,4,5] rfl)⟩
     ·have hc90:=hc9;have hc9:=nF hc9;have H:=bT H hc9
      refine g_easy (i:=9) hA rfl (wanted_yes hA rfl rfl hc90) (by kernel_rfl) (.inr ((hI.sl [4,5] rfl).less hle1 hi6.le)) (fun _=>r_mv hA rfl) rfl fun a hA=>?_
      refine g_easy (i:=10) hA rfl (wanted_yes hA rfl rfl hc90) (by kernel_rfl) (.inr ((hI.sl [4,5] rfl).less hle1 hi6.le)) (fun _=>r_mv hA rfl) rfl fun a hA=>?_
      refine g_easy (i:=11) hA rfl (wanted_yes hA rfl rfl hc90) (by kernel_rfl) (.inr ((hI.sl [4,5] rfl).less hle1 hi6.le)) (fun _=>r_mv hA rfl) rfl fun a hA=>?_
      refine g_easy (i:=12) hA rfl (wanted_yes hA rfl rfl hc90) (by kernel_rfl) (.inr ((hI.sl [4,5] rfl).less hle1 hi6.le)) (fun _=>r_mv hA rfl) rfl fun a hA=>?_
      have hlen2:=Iv.row_in hI (j:=4) rfl
      refine g_mono (I':=fun w=>Iv w0 [] μ μ4 [row 27 68 v1 r2.length cs1,cel g1 [[.int .u32 x1.Version],av .u8 32 x1.Prev,av .u8 32 x1.Root,[.int .u32 x1.Time],[.int .u32 x1.Work],[.int .u32 x1.Nonce]] 27] w) (fun w h=>(h.less hle1 hi6.le)) _ _ _ _ ?_
      refine g_take (i:=13) hA rfl (wanted_yes hA rfl rfl hc90) (by kernel_rfl) (hI.sl [4,5] rfl) (fun w hI=>r_rlen (xs:=0) U29 hI (j:=0) rfl hA rfl) rfl fun a hA=>?_
      refine gF 14 rfl ?_
      refine o_yes hA rfl rfl hc90<|?_
      obtain ⟨r11,hr11,H⟩:=bB H
      refine o_callp (u:=.int .i64 r11) cf12 hA rfl hI (sargassoworld_Number.c μ4 _ hI.agr x2 hx2 (r2.length:Int) hlen2 r11 hr11) rfl fun a w hz13 hI hA=>?_
      refine o_nil<|⟨(.inr (hI.sl [4,5] rfl)),?_⟩
      obtain ⟨hb3,H⟩:=bG H
      refine g_take (i:=15) hA rfl (wanted_yes hA rfl rfl hc90) (by kernel_rfl) (hI.sl [4,5] rfl) (fun w hI=>r_rix (j:=0) U29 sz27 hI rfl hA rfl rfl hb3.1 hb3.2) rfl fun a hA=>?_
      obtain ⟨A5,_,B5,hc10,hl5,_,he5⟩:=Els.at_ hE1 (getD_some default hb3.1 hb3.2)
      obtain ⟨rfl,hw7⟩:=he5
      refine g_take (i:=16) hA rfl (wanted_yes hA rfl rfl hc90) (by kernel_rfl) (hI.sl [4,5] rfl) (fun w hI=>r_rldP (j:=0) (q:=r11.toNat * 68) (off:=0) A5 B5 [] [[.int .u32 ((r2.getD r11.toNat default).Version)],av .u8 32 ((r2.getD r11.toNat default).Prev),av .u8 32 ((r2.getD r11.toNat default).Root),[.int .u32 ((r2.getD r11.toNat default).Time)],[.int .u32 ((r2.getD r11.toNat default).Work)],[.int .u32 ((r2.getD r11.toNat default).Nonce)]] [] hc10 hl5 rfl U27 rfl sz27 rfl hI rfl hA rfl) rfl fun a hA=>?_
      refine gF 17 rfl ?_
      refine o_yes hA rfl rfl hc90<|?_
      obtain ⟨r12,hr12,H⟩:=bB H
      have hI:=hI.sl [2,3,0,1,4,5] rfl
      refine o_call _ cf10 hA rfl (tree_Tree_Add.c μ4 _ hI.agr (⟨r8.2.m,r8.2.start⟩:treeTree) gm3 gs3 g2 hp7 hp8 (hI.handN 2) (r2.getD r11.toNat default) ⟨hw7.1,hw7.2.1,hw7.2.2.1,hw7.2.2.2.1,hw7.2.2.2.2.1,hw7.2.2.2.2.2⟩ e0 (ErV.le (fun _ _ h=>h) (hle1.trans hi6.le) he0) e1 (ErV.le (fun _ _ h=>h) (hle1.trans hi6.le) he1) e2 (ErV.le (fun _ _ h=>h) (hle1.trans hi6.le) he2) r12 hr12) rfl fun v8 a w hz14 hA=>?_
      obtain ⟨_,gm4,gs4,μ5,rfl,hS3,hp10,hp11,hi8⟩:=hz14
      have hI:=hI.back2 hi8
      refine o_nil<|⟨(.inr ((hI.sl [4,5] rfl).less (hle1.trans hi6.le) hi8.le)),?_⟩
      refine gF 18 rfl ?_
      refine o_yes hA rfl rfl hc90<|?_
      obtain ⟨r13,hr13,H⟩:=bB H
      refine o_callp (u:=.bool r13) cf9 hA rfl hI (q2_Is.c μ5 _ hI.agr r12.1 v8 hS3 109 (in_lit .i64 109 rfl) (Gl.le ((hle1.trans hi6.le).trans hi8.le) hG) r13 hr13) rfl fun a w hz15 hI hA=>?_
      refine o_nil<|⟨(.inr ((hI.sl [4,5] rfl).less (hle1.trans hi6.le) hi8.le)),?_⟩
      refine g_easy (i:=19) hA rfl (wanted_yes hA rfl rfl hc90) (by kernel_rfl) (.inr ((hI.sl [4,5] rfl).less (hle1.trans hi6.le) hi8.le)) (fun _=>r_not hA rfl) rfl fun a hA=>?_
      refine gE 20 hA rfl (.inr ((hI.sl [4,5] rfl).less (hle1.trans hi6.le) hi8.le)) (fun _=>r_pick_f hA rfl hc90 rfl) fun a hA=>?_
      refine gN ?_
      cases sJ H
      exact ⟨μ5,vp3,cp3,gm4,gs4,(hi6.le.trans hi8.le),hp9,hp10,hp11,hA.sub ⟨rfl,rfl,rfl,rfl,rfl,rfl,rfl,rfl,rfl,trivial⟩,(hI.sl [3,1,2,0,4,5] rfl)⟩
    ·rintro a w ⟨μ3,vvc1,ccc1,ggc2,gsc2,hle2,wc1,wc2,wc3,hA,hI⟩
     have H:=Hk2
     refine w_cond hA rfl (fun hc11=>?_) (fun hc11=>?_)
     ·have H:=bT H hc11
      refine w_seq fun _ hN22=>w_reg<|sta hA rfl rfl fun a hA=>?_
      refine o_nil<|hN22 _ _<|w_ret ?_
      have H:some false=some z1:=H
      obtain rfl:=sI H
      have H:=Hk1
      obtain rfl:=sJ H
      exact ret1 hA Tryz.results3 rfl ⟨_,rfl,rfl,trivial,hI.forget0⟩
     ·have hc11:=ft hc11;have H:=bF H hc11
      refine w_skip<|hN21 _ _<|w_seq fun _ hN23=>w_reg<|stm hA rfl rfl fun a hA =>
       stm hA rfl rfl fun a hA =>
       stm hA rfl rfl fun a hA=>?_
      have hlen3:=Iv.row_in hI (j:=4) rfl
      refine stp hA (r_rlen (xs:=0) U29 hI (j:=4) rfl hA rfl) rfl fun a hA=>?_
      obtain ⟨r14,hr14,H⟩:=bB H
      refine o_callp (u:=.int .i64 r14) cf12 hA rfl hI (sargassoworld_Number.c μ3 _ hI.agr x2 hx2 (r2.length:Int) hlen3 r14 hr14) rfl fun a w hz16 hI hA=>?_
      obtain ⟨hb4,H⟩:=bG H
      refine stp hA (r_rix (j:=4) U29 sz27 hI rfl hA rfl rfl hb4.1 hb4.2) rfl fun a hA=>?_
      obtain ⟨A6,_,B6,hc12,hl6,_,he6⟩:=Els.at_ hE1 (getD_some default hb4.1 hb4.2)
      obtain ⟨rfl,hw8⟩:=he6
      refine stp hA (r_rldP (j:=4) (q:=r14.toNat * 68) (off:=0) A6 B6 [] [[.int .u32 ((r2.getD r14.toNat default).Version)],av .u8 32 ((r2.getD r14.toNat default).Prev),av .u8 32 ((r2.getD r14.toNat default).Root),[.int .u32 ((r2.getD r14.toNat default).Time)],[.int .u32 ((r2.getD r14.toNat default).Work)],[.int .u32 ((r2.getD r14.toNat default).Nonce)]] [] hc12 hl6 rfl U27 rfl sz27 rfl hI rfl hA rfl) rfl fun a hA=>?_
      obtain ⟨r15,hr15,H⟩:=bB H
      refine o_callp (u:=.agg [av .u8 32 r15].flatten.toArray) cf13 hA rfl hI (q1_HeadID.c μ3 _ hI.agr (r2.getD r14.toNat default) ⟨hw8.1,hw8.2.1,hw8.2.2.1,hw8.2.2.2.1,hw8.2.2.2.2.1,hw8.2.2.2.2.2⟩ r15 hr15) rfl fun a w hz17 hI hA =>
       stm hA rfl rfl fun a hA =>
       stm hA rfl rfl fun a hA =>
       stm hA rfl rfl fun a hA=>?_
      have hlen4:=Iv.row_in hI (j:=4) rfl
      refine stp hA (r_rlen (xs:=0) U29 hI (j:=4) rfl hA rfl) rfl fun a hA=>?_
      obtain ⟨r16,hr16,H⟩:=bB H
      refine o_callp (u:=.int .i64 r16) cf12 hA rfl hI (sargassoworld_Number.c μ3 _ hI.agr x3 hx3 (r2.length:Int) hlen4 r16 hr16) rfl fun a w hz18 hI hA=>?_
      obtain ⟨hb5,H⟩:=bG H
      refine stp hA (r_rix (j:=4) U29 sz27 hI rfl hA rfl rfl hb5.1 hb5.2) rfl fun a hA=>?_
      obtain ⟨A7,_,B7,hc13,hl7,_,he7⟩:=Els.at_ hE1 (getD_some default hb5.1 hb5.2)
      obtain ⟨rfl,hw9⟩:=he7
      refine stp hA (r_rldP (j:=4) (q:=r16.toNat * 68) (off:=0) A7 B7 [] [[.int .u32 ((r2.getD r16.toNat default).Version)],av .u8 32 ((r2.getD r16.toNat default).Prev),av .u8 32 ((r2.getD r16.toNat default).Root),[.int .u32 ((r2.getD r16.toNat default).Time)],[.int .u32 ((r2.getD r16.toNat default).Work)],[.int .u32 ((r2.getD r16.toNat default).Nonce)]] [] hc13 hl7 rfl U27 rfl sz27 rfl hI rfl hA rfl) rfl fun a hA=>?_
      obtain ⟨r17,hr17,H⟩:=bB H
      refine o_callp (u:=.agg [av .u8 32 r17].flatten.toArray) cf13 hA rfl hI (q1_HeadID.c μ3 _ hI.agr (r2.getD r16.toNat default) ⟨hw9.1,hw9.2.1,hw9.2.2.1,hw9.2.2.2.1,hw9.2.2.2.2.1,hw9.2.2.2.2.2⟩ r17 hr17) rfl fun a w hz19 hI hA =>
       stp hA (r_bldA (cs:=[av .u8 32 ([7,0,0,0,0,0,0,0,0,0,0,0,0,0,0,0,0,0,0,0,0,0,0,0,0,0,0,0,0,0,0,0])].flatten.toArray) zr25 U25 sz5 hA rfl (by kernel_rfl)) rfl fun a hA=>?_
      have hE2:Els (RA .u8 32) 32 ([r15,r17,[7,0,0,0,0,0,0,0,0,0,0,0,0,0,0,0,0,0,0,0,0,0,0,0,0,0,0,0,0,0,0,0]]:List (List Int)) _:=(Els.cons (c:=[av .u8 32 r15].flatten) ⟨rfl,hz17⟩ rfl (Els.cons (c:=[av .u8 32 r17].flatten) ⟨rfl,hz19⟩ rfl (Els.cons (c:=[av .u8 32 ([7,0,0,0,0,0,0,0,0,0,0,0,0,0,0,0,0,0,0,0,0,0,0,0,0,0,0,0,0,0,0,0])].flatten) ⟨rfl,(arr_lit rfl (by simp only [List.forall_mem_cons];exact ⟨(in_lit .u8 7 rfl),(in_lit .u8 0 rfl),(in_lit .u8 0 rfl),(in_lit .u8 0 rfl),(in_lit .u8 0 rfl),(in_lit .u8 0 rfl),(in_lit .u8 0 rfl),(in_lit .u8 0 rfl),(in_lit .u8 0 rfl),(in_lit .u8 0 rfl),(in_lit .u8 0 rfl),(in_lit .u8 0 rfl),(in_lit .u8 0 rfl),(in_lit .u8 0 rfl),(in_lit .u8 0 rfl),(in_lit .u8 0 rfl),(in_lit .u8 0 rfl),(in_lit .u8 0 rfl),(in_lit .u8 0 rfl),(in_lit .u8 0 rfl),(in_lit .u8 0 rfl),(in_lit .u8 0 rfl),(in_lit .u8 0 rfl),(in_lit .u8 0 rfl),(in_lit .u8 0 rfl),(in_lit .u8 0 rfl),(in_lit .u8 0 rfl),(in_lit .u8 0 rfl),(in_lit .u8 0 rfl),(in_lit .u8 0 rfl),(in_lit .u8 0 rfl),(in_lit .u8 0 rfl),by simp⟩))⟩ rfl Els.nil)))
      refine o_bsl ([av .u8 32 r15].flatten++([av .u8 32 r17].flatten++([av .u8 32 ([7,0,0,0,0,0,0,0,0,0,0,0,0,0,0,0,0,0,0,0,0,0,0,0,0,0,0,0,0,0,0,0])].flatten++([])))) te25 zr25 U42 hI hA rfl rfl rfl rfl (by kernel_rfl) rfl fun g4 a w hA hI=>?_
      generalize hcs:([av .u8 32 r15].flatten++([av .u8 32 r17].flatten++([av .u8 32 ([7,0,0,0,0,0,0,0,0,0,0,0,0,0,0,0,0,0,0,0,0,0,0,0,0,0,0,0,0,0,0,0])].flatten++([]))):List Value)=cs2 at hE2 hI
      clear hcs
      refine sta hA rfl rfl fun a hA=>?_
      refine o_nil<|hN23 _ _<|w_seq fun _ hN24=>w_seq fun _ hN25=>w_reg<|sta hA rfl rfl fun a hA=>?_
      refine o_nil<|hN25 _ _<|w_block ?_
      obtain ⟨z2,hz20,Hk3⟩:=bind_some H
      obtain ⟨n2,hn2⟩:=loopO_some hz20
      refine w_loop (fun n a w=>∃(s5:Int),loopN (q11_TreePlays.s1 x4 r1 c1 c2 c3 r15 r17) n s5=some z2∧InR .i64 s5∧Fr a 323 [(4,.int .i64 x4),(10,.bool false),(11,.bool r1),(13,pt g2 0),(14,pt g3 0),(16,(.slice (some ⟨g4,0,none⟩) 3 3)),(17,.int .i64 s5)]∧Iv w0 [] μ μ3 [row 25 32 (.slice (some ⟨g4,0,none⟩) 3 3) ([r15,r17,[7,0,0,0,0,0,0,0,0,0,0,0,0,0,0,0,0,0,0,0,0,0,0,0,0,0,0,0,0,0,0,0]]:List (List Int)).length cs2,row 111 104 vvc1 c1.length ccc1,nd107 ggc2 c2 gsc2,cel g3 [[vvc1]] 114,cel g2 [[.map (some ggc2)],av .u8 32 c3] 109,row 27 68 v1 r2.length cs1,cel g1 [[.int .u32 x1.Version],av .u8 32 x1.Prev,av .u8 32 x1.Root,[.int .u32 x1.Time],[.int .u32 x1.Work],[.int .u32 x1.Nonce]] 27] w) n2 ⟨0,hn2,(in_lit .i64 0 rfl),hA.sub ⟨rfl,rfl,rfl,rfl,rfl,rfl,rfl,trivial⟩,hI⟩ ?_
      clear hA hI
      rintro n a w ⟨s5,hn2,ws5,hA,hI⟩
      obtain ⟨m2,rfl,H⟩:=loopN_bind hn2
      clear hn2
      refine w_seq fun _ hN26=>w_seq fun _ hN27=>w_reg<|stm hA rfl rfl fun a hA =>
       stp hA (r_lss hA rfl rfl) rfl fun a hA=>?_
      refine o_nil<|hN27 _ _<|w_cond hA rfl (fun hc14=>?_) (fun hc14=>?_)
      ·obtain ⟨hc14,H⟩:=dT H hc14
       refine w_skip<|hN26 _ _<|w_seq fun _ hN28=>w_block<|w_seq fun _ hN29=>w_reg<|stm hA rfl rfl fun a hA =>
        stm hA rfl rfl fun a hA =>
        stm hA rfl rfl fun a hA=>?_
       obtain ⟨hb6,H⟩:=bG H
       refine stp hA (r_rix (j:=0) U42 sz25 hI rfl hA rfl rfl hb6.1 hb6.2) rfl fun a hA=>?_
       obtain ⟨A8,_,B8,hc15,hl8,_,he8⟩:=Els.at_ hE2 (getD_some [] hb6.1 hb6.2)
       obtain ⟨rfl,hw10⟩:=he8
       refine stp hA (r_rldP (j:=0) (q:=s5.toNat * 32) (off:=0) A8 B8 [] [av .u8 32 (([r15,r17,[7,0,0,0,0,0,0,0,0,0,0,0,0,0,0,0,0,0,0,0,0,0,0,0,0,0,0,0,0,0,0,0]]:List (List Int)).getD s5.toNat [])] [] hc15 hl8 rfl U25 rfl sz25 rfl hI rfl hA rfl) rfl fun a hA=>?_
       obtain ⟨r18,hr18,H⟩:=bB H
       have hI:=hI.sl [4,2,0,1,3,5,6] rfl
       refine o_call _ cf14 hA rfl (tree_Tree_Head.c μ3 _ hI.agr (⟨c2,c3⟩:treeTree) ggc2 gsc2 g2 wc2 wc3 (hI.handN 2) (([r15,r17,[7,0,0,0,0,0,0,0,0,0,0,0,0,0,0,0,0,0,0,0,0,0,0,0,0,0,0,0,0,0,0,0]]:List (List Int)).getD s5.toNat []) hw10 r18 hr18) rfl fun v9 a w hz21 hA=>?_
       obtain ⟨rfl,hw11,hw12,hi9⟩:=hz21
       have hI:=hI.back2 hi9
       refine stm hA rfl rfl fun a hA =>
        stp hA (r_extr (vs:=[.agg [[.int .u32 r18.1.Version],av .u8 32 r18.1.Prev,av .u8 32 r18.1.Root,[.int .u32 r18.1.Time],[.int .u32 r18.1.Work],[.int .u32 r18.1.Nonce]].flatten.toArray,.bool r18.2]) hA rfl rfl) rfl fun a hA =>
        stp hA (r_extr (vs:=[.agg [[.int .u32 r18.1.Version],av .u8 32 r18.1.Prev,av .u8 32 r18.1.Root,[.int .u32 r18.1.Time],[.int .u32 r18.1.Work],[.int .u32 r18.1.Nonce]].flatten.toArray,.bool r18.2]) hA rfl rfl) rfl fun a hA =>
        o_new [[.int .u32 0],av .u8 32 Z32,av .u8 32 Z32,[.int .u32 0],[.int .u32 0],[.int .u32 0]] zr27 hI hA rfl fun g5 a w hA hI hg5 =>
        o_st (j:=0) [] [[.int .u32 0],av .u8 32 Z32,av .u8 32 Z32,[.int .u32 0],[.int .u32 0],[.int .u32 0]] [[.int .u32 r18.1.Version],av .u8 32 r18.1.Prev,av .u8 32 r18.1.Root,[.int .u32 r18.1.Time],[.int .u32 r18.1.Work],[.int .u32 r18.1.Nonce]] [] sz27 rfl rfl (fl_cons (oneC rfl) (fl_cons (one_av _ _ _) (fl_cons (one_av _ _ _) (fl_cons (oneC rfl) (fl_cons (oneC rfl) (fl_cons (oneC rfl) fl_nil)))))) hI rfl hA rfl rfl rfl rfl fun w hI =>
        sta hA rfl rfl fun a hA=>?_
       refine o_nil<|hN29 _ _<|w_seq fun _ hN30=>w_reg<|stm hA rfl rfl fun a hA =>
        stm hA rfl rfl fun a hA =>
        stm hA rfl rfl fun a hA =>
        stp hA (r_rix (j:=3) U42 sz25 hI rfl hA rfl rfl hb6.1 hb6.2) rfl fun a hA=>?_
       obtain ⟨A9,_,B9,hc16,hl9,_,he9⟩:=Els.at_ hE2 (getD_some [] hb6.1 hb6.2)
       obtain ⟨rfl,hw13⟩:=he9
       refine stp hA (r_rldP (j:=3) (q:=s5.toNat * 32) (off:=0) A9 B9 [] [av .u8 32 (([r15,r17,[7,0,0,0,0,0,0,0,0,0,0,0,0,0,0,0,0,0,0,0,0,0,0,0,0,0,0,0,0,0,0,0]]:List (List Int)).getD s5.toNat [])] [] hc16 hl9 rfl U25 rfl sz25 rfl hI rfl hA rfl) rfl fun a hA=>?_
       obtain ⟨r19,hr19,H⟩:=bB H
       have hI:=hI.sl [5,4,0,1,2,3,6,7] rfl
       refine o_call _ cf15 hA rfl (sargassoref8_Tree_Of.c μ3 _ hI.agr (⟨c1⟩:sargassoref8Tree) vvc1 ccc1 g3 wc1 (hI.handN 2) (([r15,r17,[7,0,0,0,0,0,0,0,0,0,0,0,0,0,0,0,0,0,0,0,0,0,0,0,0,0,0,0,0,0,0,0]]:List (List Int)).getD s5.toNat []) hw13 r19 hr19) rfl fun v10 a w hz22 hA=>?_
       obtain ⟨rfl,hw14,hw15,hw16,hw17,hi10⟩:=hz22
       have hI:=hI.back2 hi10
       refine stm hA rfl rfl fun a hA =>
        stp hA (r_extr (vs:=[.agg [[.int .u32 r19.1.Version],av .u8 32 r19.1.Prev,av .u8 32 r19.1.Root,[.int .u32 r19.1.Time],[.int .u32 r19.1.Work],[.int .u32 r19.1.Nonce]].flatten.toArray,.int .i64 r19.2.1,.int .u64 r19.2.2.1,.bool r19.2.2.2]) hA rfl rfl) rfl fun a hA =>
        stp hA (r_extr (vs:=[.agg [[.int .u32 r19.1.Version],av .u8 32 r19.1.Prev,av .u8 32 r19.1.Root,[.int .u32 r19.1.Time],[.int .u32 r19.1.Work],[.int .u32 r19.1.Nonce]].flatten.toArray,.int .i64 r19.2.1,.int .u64 r19.2.2.1,.bool r19.2.2.2]) hA rfl rfl) rfl fun a hA =>
        stp hA (r_extr (vs:=[.agg [[.int .u32 r19.1.Version],av .u8 32 r19.1.Prev,av .u8 32 r19.1.Root,[.int .u32 r19.1.Time],[.int .u32 r19.1.Work],[.int .u32 r19.1.Nonce]].flatten.toArray,.int .i64 r19.2.1,.int .u64 r19.2.2.1,.bool r19.2.2.2]) hA rfl rfl) rfl fun a hA =>
        stp hA (r_extr (vs:=[.agg [[.int .u32 r19.1.Version],av .u8 32 r19.1.Prev,av .u8 32 r19.1.Root,[.int .u32 r19.1.Time],[.int .u32 r19.1.Work],[.int .u32 r19.1.Nonce]].flatten.toArray,.int .i64 r19.2.1,.int .u64 r19.2.2.1,.bool r19.2.2.2]) hA rfl rfl) rfl fun a hA =>
        o_new [[.int .u32 0],av .u8 32 Z32,av .u8 32 Z32,[.int .u32 0],[.int .u32 0],[.int .u32 0]] zr27 hI hA rfl fun g6 a w hA hI hg6 =>
        o_st (j:=0) [] [[.int .u32 0],av .u8 32 Z32,av .u8 32 Z32,[.int .u32 0],[.int .u32 0],[.int .u32 0]] [[.int .u32 r19.1.Version],av .u8 32 r19.1.Prev,av .u8 32 r19.1.Root,[.int .u32 r19.1.Time],[.int .u32 r19.1.Work],[.int .u32 r19.1.Nonce]] [] sz27 rfl rfl (fl_cons (oneC rfl) (fl_cons (one_av _ _ _) (fl_cons (one_av _ _ _) (fl_cons (oneC rfl) (fl_cons (oneC rfl) (fl_cons (oneC rfl) fl_nil)))))) hI rfl hA rfl rfl rfl rfl fun w hI =>
        sta hA rfl rfl fun a hA =>
        sta hA rfl rfl fun a hA =>
        sta hA rfl rfl fun a hA=>?_
       refine o_nil<|hN30 _ _<|w_seq fun _ hN31=>w_reg<|stm hA rfl rfl fun a hA =>
        stm hA rfl rfl fun a hA =>
        stm hA rfl rfl fun a hA =>
        stp hA (r_rix (j:=6) U42 sz25 hI rfl hA rfl rfl hb6.1 hb6.2) rfl fun a hA=>?_
       obtain ⟨A10,_,B10,hc17,hl10,_,he10⟩:=Els.at_ hE2 (getD_some [] hb6.1 hb6.2)
       obtain ⟨rfl,hw18⟩:=he10
       refine stp hA (r_rldP (j:=6) (q:=s5.toNat * 32) (off:=0) A10 B10 [] [av .u8 32 (([r15,r17,[7,0,0,0,0,0,0,0,0,0,0,0,0,0,0,0,0,0,0,0,0,0,0,0,0,0,0,0,0,0,0,0]]:List (List Int)).getD s5.toNat [])] [] hc17 hl10 rfl U25 rfl sz25 rfl hI rfl hA rfl) rfl fun a hA=>?_
       obtain ⟨r20,hr20,H⟩:=bB H
       have hI:=hI.sl [4,5,0,1,2,3,6,7,8] rfl
       refine o_call _ cf16 hA rfl (tree_Tree_Height.c μ3 _ hI.agr (⟨c2,c3⟩:treeTree) ggc2 gsc2 g2 wc2 wc3 (hI.handN 2) (([r15,r17,[7,0,0,0,0,0,0,0,0,0,0,0,0,0,0,0,0,0,0,0,0,0,0,0,0,0,0,0,0,0,0,0]]:List (List Int)).getD s5.toNat []) hw18 r20 hr20) rfl fun v11 a w hz23 hA=>?_
       obtain ⟨rfl,hw19,hw20,hi11⟩:=hz23
       have hI:=hI.back2 hi11
       refine stm hA rfl rfl fun a hA =>
        stp hA (r_extr (vs:=[.int .i64 r20.1,.bool r20.2]) hA rfl rfl) rfl fun a hA =>
        stp hA (r_extr (vs:=[.int .i64 r20.1,.bool r20.2]) hA rfl rfl) rfl fun a hA =>
        sta hA rfl rfl fun a hA =>
        sta hA rfl rfl fun a hA=>?_
       refine o_nil<|hN31 _ _<|w_seq fun _ hN32=>w_reg<|stm hA rfl rfl fun a hA =>
        stm hA rfl rfl fun a hA =>
        stm hA rfl rfl fun a hA =>
        stp hA (r_rix (j:=6) U42 sz25 hI rfl hA rfl rfl hb6.1 hb6.2) rfl fun a hA=>?_
       obtain ⟨A11,_,B11,hc18,hl11,_,he11⟩:=Els.at_ hE2 (getD_some [] hb6.1 hb6.2)
       obtain ⟨rfl,hw21⟩:=he11
       refine stp hA (r_rldP (j:=6) (q:=s5.toNat * 32) (off:=0) A11 B11 [] [av .u8 32 (([r15,r17,[7,0,0,0,0,0,0,0,0,0,0,0,0,0,0,0,0,0,0,0,0,0,0,0,0,0,0,0,0,0,0,0]]:List (List Int)).getD s5.toNat [])] [] hc18 hl11 rfl U25 rfl sz25 rfl hI rfl hA rfl) rfl fun a hA=>?_
       obtain ⟨r21,hr21,H⟩:=bB H
       refine o_call _ cf17 hA rfl (tree_Tree_Work.c μ3 _ hI.agr (⟨c2,c3⟩:treeTree) ggc2 gsc2 g2 wc2 wc3 (hI.handN 2) (([r15,r17,[7,0,0,0,0,0,0,0,0,0,0,0,0,0,0,0,0,0,0,0,0,0,0,0,0,0,0,0,0,0,0,0]]:List (List Int)).getD s5.toNat []) hw21 r21 hr21) rfl fun v12 a w hz24 hA=>?_
       obtain ⟨rfl,hw22,hw23,hi12⟩:=hz24
       have hI:=hI.back2 hi12
       refine stm hA rfl rfl fun a hA =>
        stp hA (r_extr (vs:=[.int .u64 r21.1,.bool r21.2]) hA rfl rfl) rfl fun a hA =>
        stp hA (r_extr (vs:=[.int .u64 r21.1,.bool r21.2]) hA rfl rfl) rfl fun a hA =>
        sta hA rfl rfl fun a hA =>
        sta hA rfl rfl fun a hA=>?_
       refine o_nil<|hN32 _ _<|w_seq fun _ hN33=>?_
       obtain ⟨c5,hz25,Hk4⟩:=bB H
       refine w_cut (fun a w=>Fr a 323 [(4,.int .i64 x4),(10,.bool false),(11,.bool r1),(13,pt g2 0),(14,pt g3 0),(16,(.slice (some ⟨g4,0,none⟩) 3 3)),(17,.int .i64 s5),(18,pt g5 0),(19,.bool r18.2),(20,pt g6 0),(21,.int .i64 r19.2.1),(22,.int .u64 r19.2.2.1),(23,.bool r19.2.2.2),(24,.int .i64 r20.1),(25,.bool r20.2),(26,.int .u64 r21.1),(27,.bool r21.2),(121,.bool (decide (s5 < 3))),(190,.bool c5)]∧Iv w0 [] μ μ3 [cel g2 [[.map (some ggc2)],av .u8 32 c3] 109,nd107 ggc2 c2 gsc2,cel g6 [[.int .u32 r19.1.Version],av .u8 32 r19.1.Prev,av .u8 32 r19.1.Root,[.int .u32 r19.1.Time],[.int .u32 r19.1.Work],[.int .u32 r19.1.Nonce]] 27,cel g3 [[vvc1]] 114,row 111 104 vvc1 c1.length ccc1,cel g5 [[.int .u32 r18.1.Version],av .u8 32 r18.1.Prev,av .u8 32 r18.1.Root,[.int .u32 r18.1.Time],[.int .u32 r18.1.Work],[.int .u32 r18.1.Nonce]] 27,row 25 32 (.slice (some ⟨g4,0,none⟩) 3 3) ([r15,r17,[7,0,0,0,0,0,0,0,0,0,0,0,0,0,0,0,0,0,0,0,0,0,0,0,0,0,0,0,0,0,0,0]]:List (List Int)).length cs2,row 27 68 v1 r2.length cs1,cel g1 [[.int .u32 x1.Version],av .u8 32 x1.Prev,av .u8 32 x1.Root,[.int .u32 x1.Time],[.int .u32 x1.Work],[.int .u32 x1.Nonce]] 27] w) ?_ ?_
       ·have H:=bI hz25
        refine w_reg<|stm hA rfl rfl fun a hA =>
         stm hA rfl rfl fun a hA =>
         stp hA (r_neqb U4 hA rfl rfl) rfl fun a hA =>
         stm hA rfl rfl fun a hA=>?_
        rcases Bool.eq_false_or_eq_true (decide (r18.2≠r19.2.2.2)) with hc19 | hc19
        ·have hc190:=hc19;obtain ⟨hc19,H⟩:=dT H hc19
         refine o_no hA rfl rfl (by rw [hc190];simp [vb]) rfl fun a hA =>
          o_no hA rfl rfl (by rw [hc190];simp [vb]) rfl fun a hA =>
          o_no hA rfl rfl (by rw [hc190];simp [vb]) rfl fun a hA =>
          stp hA (r_pick_t hA rfl hc190 rfl) rfl fun a hA =>
          stm hA rfl rfl fun a hA =>
          o_no hA rfl rfl (by simp [vb]) rfl fun a hA =>
          o_no hA rfl rfl (by simp [vb]) rfl fun a hA =>
          o_no hA rfl rfl (by simp [vb]) rfl fun a hA =>
          stp hA (r_pick_t hA rfl rfl rfl) rfl fun a hA =>
          stm hA rfl rfl fun a hA =>
          o_no hA rfl rfl (by simp [vb]) rfl fun a hA =>
          o_no hA rfl rfl (by simp [vb]) rfl fun a hA =>
          o_no hA rfl rfl (by simp [vb]) rfl fun a hA =>
          o_no hA rfl rfl (by simp [vb]) rfl fun a hA =>
          stp hA (r_pick_t hA rfl rfl rfl) rfl fun a hA =>
          stm hA rfl rfl fun a hA =>
          o_no hA rfl rfl (by simp [vb]) rfl fun a hA =>
          o_no hA rfl rfl (by simp [vb]) rfl fun a hA =>
          o_no hA rfl rfl (by simp [vb]) rfl fun a hA =>
          stp hA (r_pick_t hA rfl rfl rfl) rfl fun a hA =>
          stm hA rfl rfl fun a hA =>
          o_no hA rfl rfl (by simp [vb]) rfl fun a hA =>
          o_no hA rfl rfl (by simp [vb]) rfl fun a hA =>
          o_no hA rfl rfl (by simp [vb]) rfl fun a hA =>
          stp hA (r_pick_t hA rfl rfl rfl) rfl fun a hA=>?_
         refine o_nil ?_
         cases sJ H
         exact ⟨hA.sub ⟨rfl,rfl,rfl,rfl,rfl,rfl,rfl,rfl,rfl,rfl,rfl,rfl,rfl,rfl,rfl,rfl,rfl,rfl,rfl,trivial⟩,hI⟩
        ·have hc190:=hc19;obtain ⟨hc19,H⟩:=dF H hc19
         refine o_yes hA rfl rfl hc190 <|
          stm hA rfl rfl fun a hA =>
          o_yes hA rfl rfl hc190 <|
          stm hA rfl rfl fun a hA =>
          o_yes hA rfl rfl hc190 <|
          stp hA (r_neqb U4 hA rfl rfl) rfl fun a hA =>
          stp hA (r_pick_f hA rfl hc190 rfl) rfl fun a hA =>
          stm hA rfl rfl fun a hA=>?_
         rcases Bool.eq_false_or_eq_true (decide (r20.2≠r19.2.2.2)) with hc20 | hc20
         ·have hc200:=hc20;obtain ⟨hc20,H⟩:=dT H hc20
          refine o_no hA rfl rfl (by rw [hc200];simp [vb]) rfl fun a hA =>
           o_no hA rfl rfl (by rw [hc200];simp [vb]) rfl fun a hA =>
           o_no hA rfl rfl (by rw [hc200];simp [vb]) rfl fun a hA =>
           stp hA (r_pick_t hA rfl hc200 rfl) rfl fun a hA =>
           stm hA rfl rfl fun a hA =>
           o_no hA rfl rfl (by simp [vb]) rfl fun a hA =>
           o_no hA rfl rfl (by simp [vb]) rfl fun a hA =>
           o_no hA rfl rfl (by simp [vb]) rfl fun a hA =>
           o_no hA rfl rfl (by simp [vb]) rfl fun a hA =>
           stp hA (r_pick_t hA rfl rfl rfl) rfl fun a hA =>
           stm hA rfl rfl fun a hA =>
           o_no hA rfl rfl (by simp [vb]) rfl fun a hA =>
           o_no hA rfl rfl (by simp [vb]) rfl fun a hA =>
           o_no hA rfl rfl (by simp [vb]) rfl fun a hA =>
           stp hA (r_pick_t hA rfl rfl rfl) rfl fun a hA =>
           stm hA rfl rfl fun a hA =>
           o_no hA rfl rfl (by simp [vb]) rfl fun a hA =>
           o_no hA rfl rfl (by simp [vb]) rfl fun a hA =>
           o_no hA rfl rfl (by simp [vb]) rfl fun a hA =>
           stp hA (r_pick_t hA rfl rfl rfl) rfl fun a hA=>?_
          refine o_nil ?_
          cases sJ H
          exact ⟨hA.sub ⟨rfl,rfl,rfl,rfl,rfl,rfl,rfl,rfl,rfl,rfl,rfl,rfl,rfl,rfl,rfl,rfl,rfl,rfl,rfl,trivial⟩,hI⟩
         ·have hc200:=hc20;obtain ⟨hc20,H⟩:=dF H hc20
          refine o_yes hA rfl rfl hc200 <|
           stm hA rfl rfl fun a hA =>
           o_yes hA rfl rfl hc200 <|
           stm hA rfl rfl fun a hA =>
           o_yes hA rfl rfl hc200 <|
           stp hA (r_neqb U4 hA rfl rfl) rfl fun a hA =>
           stp hA (r_pick_f hA rfl hc200 rfl) rfl fun a hA =>
           stm hA rfl rfl fun a hA=>?_
          rcases Bool.eq_false_or_eq_true (decide (r21.2≠r19.2.2.2)) with hc21 | hc21
          ·have hc210:=hc21;obtain ⟨hc21,H⟩:=dT H hc21
           refine o_no hA rfl rfl (by rw [hc210];simp [vb]) rfl fun a hA =>
            o_no hA rfl rfl (by rw [hc210];simp [vb]) rfl fun a hA =>
            o_no hA rfl rfl (by rw [hc210];simp [vb]) rfl fun a hA =>
            o_no hA rfl rfl (by rw [hc210];simp [vb]) rfl fun a hA =>
            stp hA (r_pick_t hA rfl hc210 rfl) rfl fun a hA =>
            stm hA rfl rfl fun a hA =>
            o_no hA rfl rfl (by simp [vb]) rfl fun a hA =>
            o_no hA rfl rfl (by simp [vb]) rfl fun a hA =>
            o_no hA rfl rfl (by simp [vb]) rfl fun a hA =>
            stp hA (r_pick_t hA rfl rfl rfl) rfl fun a hA =>
            stm hA rfl rfl fun a hA =>
            o_no hA rfl rfl (by simp [vb]) rfl fun a hA =>
            o_no hA rfl rfl (by simp [vb]) rfl fun a hA =>
            o_no hA rfl rfl (by simp [vb]) rfl fun a hA =>
            stp hA (r_pick_t hA rfl rfl rfl) rfl fun a hA=>?_
           refine o_nil ?_
           cases sJ H
           exact ⟨hA.sub ⟨rfl,rfl,rfl,rfl,rfl,rfl,rfl,rfl,rfl,rfl,rfl,rfl,rfl,rfl,rfl,rfl,rfl,rfl,rfl,trivial⟩,hI⟩
          ·have hc210:=hc21;obtain ⟨hc21,H⟩:=dF H hc21
           refine o_yes hA rfl rfl hc210 <|
            stp hA (r_ldA (j:=5) [] [[.int .u32 r18.1.Version],av .u8 32 r18.1.Prev,av .u8 32 r18.1.Root,[.int .u32 r18.1.Time],[.int .u32 r18.1.Work],[.int .u32 r18.1.Nonce]] [] U27 rfl sz27 rfl hI rfl hA rfl rfl) rfl fun a hA =>
            o_yes hA rfl rfl hc210 <|
            stp hA (r_ldA (j:=2) [] [[.int .u32 r19.1.Version],av .u8 32 r19.1.Prev,av .u8 32 r19.1.Root,[.int .u32 r19.1.Time],[.int .u32 r19.1.Work],[.int .u32 r19.1.Nonce]] [] U27 rfl sz27 rfl hI rfl hA rfl rfl) rfl fun a hA =>
            o_yes hA rfl rfl hc210<|?_
           obtain ⟨r22,hr22,H⟩:=bB H
           refine o_callp (u:=.bool r22) cf18 hA rfl hI (q0_SameHead.c μ3 _ hI.agr r18.1 ⟨hw11.1,hw11.2.1,hw11.2.2.1,hw11.2.2.2.1,hw11.2.2.2.2.1,hw11.2.2.2.2.2⟩ r19.1 ⟨hw14.1,hw14.2.1,hw14.2.2.1,hw14.2.2.2.1,hw14.2.2.2.2.1,hw14.2.2.2.2.2⟩ r22 hr22) rfl fun a w hz26 hI hA =>
            o_yes hA rfl rfl hc210 <|
            stp hA (r_not hA rfl) rfl fun a hA =>
            stp hA (r_pick_f hA rfl hc210 rfl) rfl fun a hA =>
            stm hA rfl rfl fun a hA=>?_
           rcases Bool.eq_false_or_eq_true (!r22) with hc22 | hc22
           ·have hc220:=hc22;have hc22:=nT hc22;have hc22:=ft hc22;have H:=bF H hc22
            refine o_no hA rfl rfl (by rw [hc220];simp [vb]) rfl fun a hA =>
             o_no hA rfl rfl (by rw [hc220];simp [vb]) rfl fun a hA =>
             o_no hA rfl rfl (by rw [hc220];simp [vb]) rfl fun a hA =>
             stp hA (r_pick_t hA rfl hc220 rfl) rfl fun a hA =>
             stm hA rfl rfl fun a hA =>
             o_no hA rfl rfl (by simp [vb]) rfl fun a hA =>
             o_no hA rfl rfl (by simp [vb]) rfl fun a hA =>
             o_no hA rfl rfl (by simp [vb]) rfl fun a hA =>
             stp hA (r_pick_t hA rfl rfl rfl) rfl fun a hA=>?_
            refine o_nil ?_
            cases sJ H
            exact ⟨hA.sub ⟨rfl,rfl,rfl,rfl,rfl,rfl,rfl,rfl,rfl,rfl,rfl,rfl,rfl,rfl,rfl,rfl,rfl,rfl,rfl,trivial⟩,hI⟩
           ·have hc220:=hc22;have hc22:=nF hc22;have H:=bT H hc22
            refine o_yes hA rfl rfl hc220 <|
             stm hA rfl rfl fun a hA =>
             o_yes hA rfl rfl hc220 <|
             stm hA rfl rfl fun a hA =>
             o_yes hA rfl rfl hc220 <|
             stp hA (r_neq hA rfl rfl) rfl fun a hA =>
             stp hA (r_pick_f hA rfl hc220 rfl) rfl fun a hA =>
             stm hA rfl rfl fun a hA=>?_
            rcases Bool.eq_false_or_eq_true (decide (r20.1≠r19.2.1)) with hc23 | hc23
            ·have hc230:=hc23;obtain ⟨hc23,H⟩:=dT H hc23
             refine o_no hA rfl rfl (by rw [hc230];simp [vb]) rfl fun a hA =>
              o_no hA rfl rfl (by rw [hc230];simp [vb]) rfl fun a hA =>
              o_no hA rfl rfl (by rw [hc230];simp [vb]) rfl fun a hA =>
              stp hA (r_pick_t hA rfl hc230 rfl) rfl fun a hA=>?_
             refine o_nil ?_
             cases sJ H
             exact ⟨hA.sub ⟨rfl,rfl,rfl,rfl,rfl,rfl,rfl,rfl,rfl,rfl,rfl,rfl,rfl,rfl,rfl,rfl,rfl,rfl,rfl,trivial⟩,hI⟩
            ·have hc230:=hc23;obtain ⟨hc23,H⟩:=dF H hc23
             refine o_yes hA rfl rfl hc230 <|
              stm hA rfl rfl fun a hA =>
              o_yes hA rfl rfl hc230 <|
              stm hA rfl rfl fun a hA =>
              o_yes hA rfl rfl hc230 <|
              stp hA (r_neq hA rfl rfl) rfl fun a hA =>
              stp hA (r_pick_f hA rfl hc230 rfl) rfl fun a hA=>?_
             refine o_nil ?_
             cases sJ H
             exact ⟨hA.sub ⟨rfl,rfl,rfl,rfl,rfl,rfl,rfl,rfl,rfl,rfl,rfl,rfl,rfl,rfl,rfl,rfl,rfl,rfl,rfl,trivial⟩,hI⟩
       ·rintro a w ⟨hA,hI⟩
        have H:=Hk4
        refine w_cond hA rfl (fun hc24=>?_) (fun hc24=>?_)
        ·have H:=bT H hc24
         refine w_seq fun _ hN34=>w_reg<|sta hA rfl rfl fun a hA=>?_
         refine o_nil<|hN34 _ _<|w_ret ?_
         have H:some (.inr false)=some z2:=H
         obtain rfl:=sI H
         have H:=Hk3
         have H:some false=some z1:=H
         obtain rfl:=sI H
         have H:=Hk1
         obtain rfl:=sJ H
         exact ret1 hA Tryz.results3 rfl ⟨_,rfl,rfl,trivial,hI.forget0⟩
        ·have hc24:=ft hc24;have H:=bF H hc24
         refine w_skip<|hN33 _ _<|w_seq fun _ hN35=>w_reg<|stm hA rfl rfl fun a hA =>
          stm hA rfl rfl fun a hA =>
          stm hA rfl rfl fun a hA =>
          stp hA (r_rix (j:=6) U42 sz25 hI rfl hA rfl rfl hb6.1 hb6.2) rfl fun a hA=>?_
         obtain ⟨A12,_,B12,hc25,hl12,_,he12⟩:=Els.at_ hE2 (getD_some [] hb6.1 hb6.2)
         obtain ⟨rfl,hw24⟩:=he12
         refine stp hA (r_rldP (j:=6) (q:=s5.toNat * 32) (off:=0) A12 B12 [] [av .u8 32 (([r15,r17,[7,0,0,0,0,0,0,0,0,0,0,0,0,0,0,0,0,0,0,0,0,0,0,0,0,0,0,0,0,0,0,0]]:List (List Int)).getD s5.toNat [])] [] hc25 hl12 rfl U25 rfl sz25 rfl hI rfl hA rfl) rfl fun a hA =>
          stm hA rfl rfl fun a hA=>?_
         obtain ⟨r23,hr23,H⟩:=bB H
         refine o_call _ cf19 hA rfl (tree_Tree_Ancestor.c μ3 _ hI.agr (⟨c2,c3⟩:treeTree) ggc2 gsc2 g2 wc2 wc3 (hI.handN 2) (([r15,r17,[7,0,0,0,0,0,0,0,0,0,0,0,0,0,0,0,0,0,0,0,0,0,0,0,0,0,0,0,0,0,0,0]]:List (List Int)).getD s5.toNat []) hw24 x4 hx4 r23 hr23) rfl fun v13 a w hz27 hA=>?_
         obtain ⟨rfl,hw25,hw26,hi13⟩:=hz27
         have hI:=hI.back2 hi13
         refine stm hA rfl rfl fun a hA =>
          stp hA (r_extr (vs:=[.agg [av .u8 32 r23.1].flatten.toArray,.bool r23.2]) hA rfl rfl) rfl fun a hA =>
          stp hA (r_extr (vs:=[.agg [av .u8 32 r23.1].flatten.toArray,.bool r23.2]) hA rfl rfl) rfl fun a hA =>
          o_new [av .u8 32 Z32] zr25 hI hA rfl fun g7 a w hA hI hg7 =>
          o_st (j:=0) [] [av .u8 32 Z32] [av .u8 32 r23.1] [] sz25 rfl rfl (fl_cons (one_av _ _ _) fl_nil) hI rfl hA rfl rfl rfl rfl fun w hI =>
          sta hA rfl rfl fun a hA=>?_
         refine o_nil<|hN35 _ _<|w_seq fun _ hN36=>w_reg<|stm hA rfl rfl fun a hA =>
          stm hA rfl rfl fun a hA =>
          stm hA rfl rfl fun a hA =>
          stp hA (r_rix (j:=7) U42 sz25 hI rfl hA rfl rfl hb6.1 hb6.2) rfl fun a hA=>?_
         obtain ⟨A13,_,B13,hc26,hl13,_,he13⟩:=Els.at_ hE2 (getD_some [] hb6.1 hb6.2)
         obtain ⟨rfl,hw27⟩:=he13
         refine stp hA (r_rldP (j:=7) (q:=s5.toNat * 32) (off:=0) A13 B13 [] [av .u8 32 (([r15,r17,[7,0,0,0,0,0,0,0,0,0,0,0,0,0,0,0,0,0,0,0,0,0,0,0,0,0,0,0,0,0,0,0]]:List (List Int)).getD s5.toNat [])] [] hc26 hl13 rfl U25 rfl sz25 rfl hI rfl hA rfl) rfl fun a hA =>
          stm hA rfl rfl fun a hA=>?_
         obtain ⟨r24,hr24,H⟩:=bB H
         have hI:=hI.sl [4,5,0,1,2,3,6,7,8,9] rfl
         refine o_call _ cf20 hA rfl (sargassoref8_Tree_Ancestor.c μ3 _ hI.agr (⟨c1⟩:sargassoref8Tree) vvc1 ccc1 g3 wc1 (hI.handN 2) (([r15,r17,[7,0,0,0,0,0,0,0,0,0,0,0,0,0,0,0,0,0,0,0,0,0,0,0,0,0,0,0,0,0,0,0]]:List (List Int)).getD s5.toNat []) hw27 x4 hx4 r24 hr24) rfl fun v14 a w hz28 hA=>?_
         obtain ⟨rfl,hw28,hw29,hi14⟩:=hz28
         have hI:=hI.back2 hi14
         refine stm hA rfl rfl fun a hA =>
          stp hA (r_extr (vs:=[.agg [av .u8 32 r24.1].flatten.toArray,.bool r24.2]) hA rfl rfl) rfl fun a hA =>
          stp hA (r_extr (vs:=[.agg [av .u8 32 r24.1].flatten.toArray,.bool r24.2]) hA rfl rfl) rfl fun a hA =>
          o_new [av .u8 32 Z32] zr25 hI hA rfl fun g8 a w hA hI hg8 =>
          o_st (j:=0) [] [av .u8 32 Z32] [av .u8 32 r24.1] [] sz25 rfl rfl (fl_cons (one_av _ _ _) fl_nil) hI rfl hA rfl rfl rfl rfl fun w hI =>
          sta hA rfl rfl fun a hA=>?_
         refine o_nil<|hN36 _ _<|w_seq fun _ hN37=>?_
         obtain ⟨c6,hz29,Hk5⟩:=bB H
         refine w_cut (fun a w=>Fr a 323 [(4,.int .i64 x4),(10,.bool false),(11,.bool r1),(13,pt g2 0),(14,pt g3 0),(16,(.slice (some ⟨g4,0,none⟩) 3 3)),(17,.int .i64 s5),(18,pt g5 0),(19,.bool r18.2),(20,pt g6 0),(21,.int .i64 r19.2.1),(22,.int .u64 r19.2.2.1),(23,.bool r19.2.2.2),(24,.int .i64 r20.1),(25,.bool r20.2),(26,.int .u64 r21.1),(27,.bool r21.2),(28,pt g7 0),(29,.bool r23.2),(30,pt g8 0),(31,.bool r24.2),(121,.bool (decide (s5 < 3))),(190,.bool c5),(235,.bool c6)]∧Iv w0 [] μ μ3 [cel g8 [av .u8 32 r24.1] 25,cel g3 [[vvc1]] 114,row 111 104 vvc1 c1.length ccc1,cel g7 [av .u8 32 r23.1] 25,cel g2 [[.map (some ggc2)],av .u8 32 c3] 109,nd107 ggc2 c2 gsc2,cel g6 [[.int .u32 r19.1.Version],av .u8 32 r19.1.Prev,av .u8 32 r19.1.Root,[.int .u32 r19.1.Time],[.int .u32 r19.1.Work],[.int .u32 r19.1.Nonce]] 27,cel g5 [[.int .u32 r18.1.Version],av .u8 32 r18.1.Prev,av .u8 32 r18.1.Root,[.int .u32 r18.1.Time],[.int .u32 r18.1.Work],[.int .u32 r18.1.Nonce]] 27,row 25 32 (.slice (some ⟨g4,0,none⟩) 3 3) ([r15,r17,[7,0,0,0,0,0,0,0,0,0,0,0,0,0,0,0,0,0,0,0,0,0,0,0,0,0,0,0,0,0,0,0]]:List (List Int)).length cs2,row 27 68 v1 r2.length cs1,cel g1 [[.int .u32 x1.Version],av .u8 32 x1.Prev,av .u8 32 x1.Root,[.int .u32 x1.Time],[.int .u32 x1.Work],[.int .u32 x1.Nonce]] 27] w) ?_ ?_
         ·have H:=bI hz29
          refine w_any [] mo hI fun w hI=>?_
          refine gE 0 hA rfl (.inr hI) (fun _=>r_mv hA rfl) fun a hA=>?_
          refine gE 1 hA rfl (.inr hI) (fun _=>r_mv hA rfl) fun a hA=>?_
          refine gE 2 hA rfl (.inr hI) (fun _=>r_neqb U4 hA rfl rfl) fun a hA=>?_
          refine gE 3 hA rfl (.inr hI) (fun _=>r_mv hA rfl) fun a hA=>?_
          rcases Bool.eq_false_or_eq_true (decide (r23.2≠r24.2)) with hc27 | hc27
          ·have hc270:=hc27;obtain ⟨hc27,H⟩:=dT H hc27
           refine g_skip (i:=4) hA rfl (wanted_no hA rfl rfl (by rw [hc270];simp [vb])) (by kernel_rfl) (.inr hI) rfl fun a hA=>?_
           refine g_skip (i:=5) hA rfl (wanted_no hA rfl rfl (by rw [hc270];simp [vb])) (by kernel_rfl) (.inr hI) rfl fun a hA=>?_
           refine g_skip (i:=6) hA rfl (wanted_no hA rfl rfl (by rw [hc270];simp [vb])) (by kernel_rfl) (.inr hI) rfl fun a hA=>?_
           refine g_skip (i:=7) hA rfl (wanted_no hA rfl rfl (by rw [hc270];simp [vb])) (by kernel_rfl) (.inr hI) rfl fun a hA=>?_
           refine gE 8 hA rfl (.inr hI) (fun _=>r_pick_t hA rfl hc270 rfl) fun a hA=>?_
           refine gE 9 hA rfl (.inr hI) (fun _=>r_mv hA rfl) fun a hA=>?_
           refine g_skip (i:=10) hA rfl (wanted_no hA rfl rfl (by simp [vb])) (by kernel_rfl) (.inr hI) rfl fun a hA=>?_
           refine g_skip (i:=11) hA rfl (wanted_no hA rfl rfl (by simp [vb])) (by kernel_rfl) (.inr hI) rfl fun a hA=>?_
           refine g_skip (i:=12) hA rfl (wanted_no hA rfl rfl (by simp [vb])) (by kernel_rfl) (.inr hI) rfl fun a hA=>?_
           refine g_skip (i:=13) hA rfl (wanted_no hA rfl rfl (by simp [vb])) (by kernel_rfl) (.inr hI) rfl fun a hA=>?_
           refine g_skip (i:=14) hA rfl (wanted_no hA rfl rfl (by simp [vb])) (by kernel_rfl) (.inr hI) rfl fun a hA=>?_
           refine g_skip (i:=16) hA rfl (wanted_no hA rfl rfl (by simp [vb])) (by kernel_rfl) (.inr hI) rfl fun a hA=>?_
           refine g_skip (i:=17) hA rfl (wanted_no hA rfl rfl (by simp [vb])) (by kernel_rfl) (.inr hI) rfl fun a hA=>?_
           refine g_skip (i:=18) hA rfl (wanted_no hA rfl rfl (by simp [vb])) (by kernel_rfl) (.inr hI) rfl fun a hA=>?_
           refine g_skip (i:=19) hA rfl (wanted_no hA rfl rfl (by simp [vb])) (by kernel_rfl) (.inr hI) rfl fun a hA=>?_
           refine g_skip (i:=20) hA rfl (wanted_no hA rfl rfl (by simp [vb])) (by kernel_rfl) (.inr hI) rfl fun a hA=>?_
           refine g_skip (i:=15) hA rfl (wanted_no hA rfl rfl (by simp [vb])) (by kernel_rfl) (.inr hI) rfl fun a hA=>?_
           refine g_skip (i:=21) hA rfl (wanted_no hA rfl rfl (by simp [vb])) (by kernel_rfl) (.inr hI) rfl fun a hA=>?_
           refine g_skip (i:=22) hA rfl (wanted_no hA rfl rfl (by simp [vb])) (by kernel_rfl) (.inr hI) rfl fun a hA=>?_
           refine g_skip (i:=23) hA rfl (wanted_no hA rfl rfl (by simp [vb])) (by kernel_rfl) (.inr hI) rfl fun a hA=>?_
           refine gE 24 hA rfl (.inr hI) (fun _=>r_pick_t hA rfl rfl rfl) fun a hA=>?_
           refine gN ?_
           cases sJ H
           exact ⟨hA.sub ⟨rfl,rfl,rfl,rfl,rfl,rfl,rfl,rfl,rfl,rfl,rfl,rfl,rfl,rfl,rfl,rfl,rfl,rfl,rfl,rfl,rfl,rfl,rfl,rfl,trivial⟩,hI⟩
          ·have hc270:=hc27;obtain ⟨hc27,H⟩:=dF H hc27
           refine g_take (i:=4) hA rfl (wanted_yes hA rfl rfl hc270) (by kernel_rfl) hI (fun w hI=>r_ldA (j:=3) [] [av .u8 32 r23.1] [] U25 rfl sz25 rfl hI rfl hA rfl rfl) rfl fun a hA=>?_
           refine g_take (i:=5) hA rfl (wanted_yes hA rfl rfl hc270) (by kernel_rfl) hI (fun w hI=>r_ldA (j:=0) [] [av .u8 32 r24.1] [] U25 rfl sz25 rfl hI rfl hA rfl rfl) rfl fun a hA=>?_
           refine gF 6 rfl ?_
           refine o_yes hA rfl rfl hc270<|?_
           obtain ⟨r25,hr25,H⟩:=bB H
           refine o_callp (u:=.bool r25) cf21 hA rfl hI (q0_SameHash.c μ3 _ hI.agr r23.1 hw25 r24.1 hw28 r25 hr25) rfl fun a w hz30 hI hA=>?_
           refine o_nil<|⟨(.inr hI),?_⟩
           refine g_easy (i:=7) hA rfl (wanted_yes hA rfl rfl hc270) (by kernel_rfl) (.inr hI) (fun _=>r_not hA rfl) rfl fun a hA=>?_
           refine gE 8 hA rfl (.inr hI) (fun _=>r_pick_f hA rfl hc270 rfl) fun a hA=>?_
           refine gE 9 hA rfl (.inr hI) (fun _=>r_mv hA rfl) fun a hA=>?_
           rcases Bool.eq_false_or_eq_true (!r25) with hc28 | hc28
           ·have hc280:=hc28;have hc28:=nT hc28;have hc28:=ft hc28;have H:=bF H hc28
            refine g_skip (i:=10) hA rfl (wanted_no hA rfl rfl (by rw [hc280];simp [vb])) (by kernel_rfl) (.inr hI) rfl fun a hA=>?_
            refine g_skip (i:=11) hA rfl (wanted_no hA rfl rfl (by rw [hc280];simp [vb])) (by kernel_rfl) (.inr hI) rfl fun a hA=>?_
            refine g_skip (i:=12) hA rfl (wanted_no hA rfl rfl (by rw [hc280];simp [vb])) (by kernel_rfl) (.inr hI) rfl fun a hA=>?_
            refine g_skip (i:=13) hA rfl (wanted_no hA rfl rfl (by rw [hc280];simp [vb])) (by kernel_rfl) (.inr hI) rfl fun a hA=>?_
            refine g_skip (i:=14) hA rfl (wanted_no hA rfl rfl (by rw [hc280];simp [vb])) (by kernel_rfl) (.inr hI) rfl fun a hA=>?_
            refine g_skip (i:=16) hA rfl (wanted_no hA rfl rfl (by rw [hc280];simp [vb])) (by kernel_rfl) (.inr hI) rfl fun a hA=>?_
            refine g_skip (i:=17) hA rfl (wanted_no hA rfl rfl (by rw [hc280];simp [vb])) (by kernel_rfl) (.inr hI) rfl fun a hA=>?_
            refine g_skip (i:=18) hA rfl (wanted_no hA rfl rfl (by rw [hc280];simp [vb])) (by kernel_rfl) (.inr hI) rfl fun a hA=>?_
            refine g_skip (i:=19) hA rfl (wanted_no hA rfl rfl (by rw [hc280];simp [vb])) (by kernel_rfl) (.inr hI) rfl fun a hA=>?_
            refine g_skip (i:=20) hA rfl (wanted_no hA rfl rfl (by rw [hc280];simp [vb])) (by kernel_rfl) (.inr hI) rfl fun a hA=>?_
            refine g_skip (i:=15) hA rfl (wanted_no hA rfl rfl (by rw [hc280];simp [vb])) (by kernel_rfl) (.inr hI) rfl fun a hA=>?_
            refine g_skip (i:=21) hA rfl (wanted_no hA rfl rfl (by rw [hc280];simp [vb])) (by kernel_rfl) (.inr hI) rfl fun a hA=>?_
            refine g_skip (i:=22) hA rfl (wanted_no hA rfl rfl (by rw [hc280];simp [vb])) (by kernel_rfl) (.inr hI) rfl fun a hA=>?_
            refine g_skip (i:=23) hA rfl (wanted_no hA rfl rfl (by rw [hc280];simp [vb])) (by kernel_rfl) (.inr hI) rfl fun a hA=>?_
            refine gE 24 hA rfl (.inr hI) (fun _=>r_pick_t hA rfl hc280 rfl) fun a hA=>?_
            refine gN ?_
            cases sJ H
            exact ⟨hA.sub ⟨rfl,rfl,rfl,rfl,rfl,rfl,rfl,rfl,rfl,rfl,rfl,rfl,rfl,rfl,rfl,rfl,rfl,rfl,rfl,rfl,rfl,rfl,rfl,rfl,trivial⟩,hI⟩
           ·have hc280:=hc28;have hc28:=nF hc28;have H:=bT H hc28
            refine g_easy (i:=10) hA rfl (wanted_yes hA rfl rfl hc280) (by kernel_rfl) (.inr hI) (fun _=>r_mv hA rfl) rfl fun a hA=>?_
            refine g_easy (i:=11) hA rfl (wanted_yes hA rfl rfl hc280) (by kernel_rfl) (.inr hI) (fun _=>r_mv hA rfl) rfl fun a hA=>?_
            refine g_easy (i:=12) hA rfl (wanted_yes hA rfl rfl hc280) (by kernel_rfl) (.inr hI) (fun _=>r_mv hA rfl) rfl fun a hA=>?_
            refine g_take (i:=13) hA rfl (wanted_yes hA rfl rfl hc280) (by kernel_rfl) hI (fun w hI=>r_rix (j:=8) U42 sz25 hI rfl hA rfl rfl hb6.1 hb6.2) rfl fun a hA=>?_
            obtain ⟨A14,_,B14,hc29,hl14,_,he14⟩:=Els.at_ hE2 (getD_some [] hb6.1 hb6.2)
            obtain ⟨rfl,hw30⟩:=he14
            refine g_take (i:=14) hA rfl (wanted_yes hA rfl rfl hc280) (by kernel_rfl) hI (fun w hI=>r_rldP (j:=8) (q:=s5.toNat * 32) (off:=0) A14 B14 [] [av .u8 32 (([r15,r17,[7,0,0,0,0,0,0,0,0,0,0,0,0,0,0,0,0,0,0,0,0,0,0,0,0,0,0,0,0,0,0,0]]:List (List Int)).getD s5.toNat [])] [] hc29 hl14 rfl U25 rfl sz25 rfl hI rfl hA rfl) rfl fun a hA=>?_
            refine g_easy (i:=16) hA rfl (wanted_yes hA rfl rfl hc280) (by kernel_rfl) (.inr hI) (fun _=>r_mv hA rfl) rfl fun a hA=>?_
            refine g_easy (i:=17) hA rfl (wanted_yes hA rfl rfl hc280) (by kernel_rfl) (.inr hI) (fun _=>r_mv hA rfl) rfl fun a hA=>?_
            refine g_easy (i:=18) hA rfl (wanted_yes hA rfl rfl hc280) (by kernel_rfl) (.inr hI) (fun _=>r_mv hA rfl) rfl fun a hA=>?_
            refine g_take (i:=19) hA rfl (wanted_yes hA rfl rfl hc280) (by kernel_rfl) hI (fun w hI=>r_rix (j:=8) U42 sz25 hI rfl hA rfl rfl hb6.1 hb6.2) rfl fun a hA=>?_
            obtain ⟨A15,_,B15,hc30,hl15,_,he15⟩:=Els.at_ hE2 (getD_some [] hb6.1 hb6.2)
            obtain ⟨rfl,hw31⟩:=he15
            refine g_take (i:=20) hA rfl (wanted_yes hA rfl rfl hc280) (by kernel_rfl) hI (fun w hI=>r_rldP (j:=8) (q:=s5.toNat * 32) (off:=0) A15 B15 [] [av .u8 32 (([r15,r17,[7,0,0,0,0,0,0,0,0,0,0,0,0,0,0,0,0,0,0,0,0,0,0,0,0,0,0,0,0,0,0,0]]:List (List Int)).getD s5.toNat [])] [] hc30 hl15 rfl U25 rfl sz25 rfl hI rfl hA rfl) rfl fun a hA=>?_
            refine gF 15 rfl ?_
            refine o_yes hA rfl rfl hc280<|?_
            obtain ⟨r26,hr26,H⟩:=bB H
            have hI:=hI.sl [4,5,0,1,2,3,6,7,8,9,10] rfl
            refine o_call _ cf23 hA rfl (tree_Tree_Under.c μ3 _ hI.agr (⟨c2,c3⟩:treeTree) ggc2 gsc2 g2 wc2 wc3 (hI.handN 2) (([r15,r17,[7,0,0,0,0,0,0,0,0,0,0,0,0,0,0,0,0,0,0,0,0,0,0,0,0,0,0,0,0,0,0,0]]:List (List Int)).getD s5.toNat []) hw30 r26 hr26) rfl fun v15 a w hz31 hA=>?_
            obtain ⟨_,cs3,rfl,hE3,hi15⟩:=hz31
            have hI:=hI.backN 2 hi15
            have hI:Iv w0 [] μ μ3 [row 25 32 v15 r26.length cs3,cel g2 [[.map (some ggc2)],av .u8 32 c3] 109,nd107 ggc2 c2 gsc2,cel g8 [av .u8 32 r24.1] 25,cel g3 [[vvc1]] 114,row 111 104 vvc1 c1.length ccc1,cel g7 [av .u8 32 r23.1] 25,cel g6 [[.int .u32 r19.1.Version],av .u8 32 r19.1.Prev,av .u8 32 r19.1.Root,[.int .u32 r19.1.Time],[.int .u32 r19.1.Work],[.int .u32 r19.1.Nonce]] 27,cel g5 [[.int .u32 r18.1.Version],av .u8 32 r18.1.Prev,av .u8 32 r18.1.Root,[.int .u32 r18.1.Time],[.int .u32 r18.1.Work],[.int .u32 r18.1.Nonce]] 27,row 25 32 (.slice (some ⟨g4,0,none⟩) 3 3) ([r15,r17,[7,0,0,0,0,0,0,0,0,0,0,0,0,0,0,0,0,0,0,0,0,0,0,0,0,0,0,0,0,0,0,0]]:List (List Int)).length cs2,row 27 68 v1 r2.length cs1,cel g1 [[.int .u32 x1.Version],av .u8 32 x1.Prev,av .u8 32 x1.Root,[.int .u32 x1.Time],[.int .u32 x1.Work],[.int .u32 x1.Nonce]] 27] w:=hI
            refine o_nil<|⟨(.inr (hI.sl [3,4,5,6,1,2,7,8,9,10,11] rfl)),?_⟩
            refine gF 21 rfl ?_
            refine o_yes hA rfl rfl hc280<|?_
            obtain ⟨r27,hr27,H⟩:=bB H
            have hI:=hI.sl [4,5,0,1,2,3,6,7,8,9,10,11] rfl
            refine o_call _ cf24 hA rfl (sargassoref8_Tree_Under.c μ3 _ hI.agr (⟨c1⟩:sargassoref8Tree) vvc1 ccc1 g3 wc1 (hI.handN 2) (([r15,r17,[7,0,0,0,0,0,0,0,0,0,0,0,0,0,0,0,0,0,0,0,0,0,0,0,0,0,0,0,0,0,0,0]]:List (List Int)).getD s5.toNat []) hw31 r27 hr27) rfl fun v16 a w hz32 hA=>?_
            obtain ⟨_,cs4,rfl,hE4,hi16⟩:=hz32
            have hI:=hI.backN 2 hi16
            have hI:Iv w0 [] μ μ3 [row 25 32 v16 r27.length cs4,cel g3 [[vvc1]] 114,row 111 104 vvc1 c1.length ccc1,row 25 32 v15 r26.length cs3,cel g2 [[.map (some ggc2)],av .u8 32 c3] 109,nd107 ggc2 c2 gsc2,cel g8 [av .u8 32 r24.1] 25,cel g7 [av .u8 32 r23.1] 25,cel g6 [[.int .u32 r19.1.Version],av .u8 32 r19.1.Prev,av .u8 32 r19.1.Root,[.int .u32 r19.1.Time],[.int .u32 r19.1.Work],[.int .u32 r19.1.Nonce]] 27,cel g5 [[.int .u32 r18.1.Version],av .u8 32 r18.1.Prev,av .u8 32 r18.1.Root,[.int .u32 r18.1.Time],[.int .u32 r18.1.Work],[.int .u32 r18.1.Nonce]] 27,row 25 32 (.slice (some ⟨g4,0,none⟩) 3 3) ([r15,r17,[7,0,0,0,0,0,0,0,0,0,0,0,0,0,0,0,0,0,0,0,0,0,0,0,0,0,0,0,0,0,0,0]]:List (List Int)).length cs2,row 27 68 v1 r2.length cs1,cel g1 [[.int .u32 x1.Version],av .u8 32 x1.Prev,av .u8 32 x1.Root,[.int .u32 x1.Time],[.int .u32 x1.Work],[.int .u32 x1.Nonce]] 27] w:=hI
            refine o_nil<|⟨(.inr (hI.sl [6,1,2,7,4,5,8,9,10,11,12] rfl)),?_⟩
            refine gF 22 rfl ?_
            refine o_yes hA rfl rfl hc280<|?_
            obtain ⟨r28,hr28,H⟩:=bB H
            refine o_callp (u:=.bool r28) cf22 hA rfl hI ((by obtain ⟨μ6,hle3,hsv1,hI⟩:=hI.freezeRow 3 rfl;have hS4:Slc (RA .u8 32) 32 μ6 v15 r26:=⟨_,hE3,hsv1⟩;obtain ⟨μ7,hle4,hsv2,hI⟩:=hI.freezeRow 0 rfl;have hS5:Slc (RA .u8 32) 32 μ7 v16 r27:=⟨_,hE4,hsv2⟩;exact low_plain (hle3.trans hle4) (q0_SameHashes.c μ7 _ hI.agr r26 v15 (Slc.le hS4 (fun _ _ h=>h) hle4) r27 v16 hS5 r28 hr28))) rfl fun a w hz33 hI hA=>?_
            refine o_nil<|⟨(.inr (hI.sl [6,1,2,7,4,5,8,9,10,11,12] rfl)),?_⟩
            refine g_easy (i:=23) hA rfl (wanted_yes hA rfl rfl hc280) (by kernel_rfl) (.inr (hI.sl [6,1,2,7,4,5,8,9,10,11,12] rfl)) (fun _=>r_not hA rfl) rfl fun a hA=>?_
            refine gE 24 hA rfl (.inr (hI.sl [6,1,2,7,4,5,8,9,10,11,12] rfl)) (fun _=>r_pick_f hA rfl hc280 rfl) fun a hA=>?_
            refine gN ?_
            cases sJ H
            exact ⟨hA.sub ⟨rfl,rfl,rfl,rfl,rfl,rfl,rfl,rfl,rfl,rfl,rfl,rfl,rfl,rfl,rfl,rfl,rfl,rfl,rfl,rfl,rfl,rfl,rfl,rfl,trivial⟩,(hI.sl [6,1,2,7,4,5,8,9,10,11,12] rfl)⟩
         ·rintro a w ⟨hA,hI⟩
          have H:=Hk5
          refine w_cond hA rfl (fun hc31=>?_) (fun hc31=>?_)
          ·have H:=bT H hc31
           refine w_seq fun _ hN38=>w_reg<|sta hA rfl rfl fun a hA=>?_
           refine o_nil<|hN38 _ _<|w_ret ?_
           have H:some (.inr false)=some z2:=H
           obtain rfl:=sI H
           have H:=Hk3
           have H:some false=some z1:=H
           obtain rfl:=sI H
           have H:=Hk1
           obtain rfl:=sJ H
           exact ret1 hA Tryz.results3 rfl ⟨_,rfl,rfl,trivial,hI.forget0⟩
          ·have hc31:=ft hc31;have H:=bF H hc31
           refine w_skip<|hN37 _ _<|w_seq fun _ hN39=>w_reg<|sta hA rfl rfl fun a hA=>?_
           refine o_nil<|hN39 _ _<|w_block ?_
           obtain ⟨z3,hz34,Hk6⟩:=bind_some H
           obtain ⟨n3,hn3⟩:=loopO_some hz34
           refine w_loop (fun n a w=>∃(s6:Int),loopN (q11_TreePlays.s2 c1 c2 c3 r15 r17 s5) n s6=some z3∧InR .i64 s6∧Fr a 323 [(4,.int .i64 x4),(10,.bool false),(11,.bool r1),(13,pt g2 0),(14,pt g3 0),(16,(.slice (some ⟨g4,0,none⟩) 3 3)),(17,.int .i64 s5),(18,pt g5 0),(19,.bool r18.2),(20,pt g6 0),(21,.int .i64 r19.2.1),(22,.int .u64 r19.2.2.1),(23,.bool r19.2.2.2),(24,.int .i64 r20.1),(25,.bool r20.2),(26,.int .u64 r21.1),(27,.bool r21.2),(28,pt g7 0),(29,.bool r23.2),(30,pt g8 0),(31,.bool r24.2),(32,.int .i64 s6),(121,.bool (decide (s5 < 3))),(190,.bool c5),(235,.bool c6)]∧Iv w0 [] μ μ3 [cel g8 [av .u8 32 r24.1] 25,cel g3 [[vvc1]] 114,row 111 104 vvc1 c1.length ccc1,cel g7 [av .u8 32 r23.1] 25,cel g2 [[.map (some ggc2)],av .u8 32 c3] 109,nd107 ggc2 c2 gsc2,cel g6 [[.int .u32 r19.1.Version],av .u8 32 r19.1.Prev,av .u8 32 r19.1.Root,[.int .u32 r19.1.Time],[.int .u32 r19.1.Work],[.int .u32 r19.1.Nonce]] 27,cel g5 [[.int .u32 r18.1.Version],av .u8 32 r18.1.Prev,av .u8 32 r18.1.Root,[.int .u32 r18.1.Time],[.int .u32 r18.1.Work],[.int .u32 r18.1.Nonce]] 27,row 25 32 (.slice (some ⟨g4,0,none⟩) 3 3) ([r15,r17,[7,0,0,0,0,0,0,0,0,0,0,0,0,0,0,0,0,0,0,0,0,0,0,0,0,0,0,0,0,0,0,0]]:List (List Int)).length cs2,row 27 68 v1 r2.length cs1,cel g1 [[.int .u32 x1.Version],av .u8 32 x1.Prev,av .u8 32 x1.Root,[.int .u32 x1.Time],[.int .u32 x1.Work],[.int .u32 x1.Nonce]] 27] w) n3 ⟨0,hn3,(in_lit .i64 0 rfl),hA.sub ⟨rfl,rfl,rfl,rfl,rfl,rfl,rfl,rfl,rfl,rfl,rfl,rfl,rfl,rfl,rfl,rfl,rfl,rfl,rfl,rfl,rfl,rfl,rfl,rfl,rfl,trivial⟩,hI⟩ ?_
           clear hA hI
           rintro n a w ⟨s6,hn3,ws6,hA,hI⟩
           obtain ⟨m3,rfl,H⟩:=loopN_bind hn3
           clear hn3
           refine w_seq fun _ hN40=>w_seq fun _ hN41=>w_reg<|stm hA rfl rfl fun a hA =>
            stp hA (r_lss hA rfl rfl) rfl fun a hA=>?_
           refine o_nil<|hN41 _ _<|w_cond hA rfl (fun hc32=>?_) (fun hc32=>?_)
           ·obtain ⟨hc32,H⟩:=dT H hc32
            refine w_skip<|hN40 _ _<|w_seq fun _ hN42=>w_block<|w_seq fun _ hN43=>?_
            refine w_any [] mo hI fun w hI=>?_
            refine gE 0 hA rfl (.inr hI) (fun _=>r_mv hA rfl) fun a hA=>?_
            refine gE 1 hA rfl (.inr hI) (fun _=>r_mv hA rfl) fun a hA=>?_
            refine gE 2 hA rfl (.inr hI) (fun _=>r_mv hA rfl) fun a hA=>?_
            obtain ⟨hb7,H⟩:=bG H
            refine gT 3 hA rfl hI (fun w hI=>r_rix (j:=8) U42 sz25 hI rfl hA rfl rfl hb7.1 hb7.2) fun a hA=>?_
            obtain ⟨A16,_,B16,hc33,hl16,_,he16⟩:=Els.at_ hE2 (getD_some [] hb7.1 hb7.2)
            obtain ⟨rfl,hw32⟩:=he16
            refine gT 4 hA rfl hI (fun w hI=>r_rldP (j:=8) (q:=s5.toNat * 32) (off:=0) A16 B16 [] [av .u8 32 (([r15,r17,[7,0,0,0,0,0,0,0,0,0,0,0,0,0,0,0,0,0,0,0,0,0,0,0,0,0,0,0,0,0,0,0]]:List (List Int)).getD s5.toNat [])] [] hc33 hl16 rfl U25 rfl sz25 rfl hI rfl hA rfl) fun a hA=>?_
            refine gE 5 hA rfl (.inr hI) (fun _=>r_mv hA rfl) fun a hA=>?_
            refine gE 6 hA rfl (.inr hI) (fun _=>r_mv hA rfl) fun a hA=>?_
            obtain ⟨hb8,H⟩:=bG H
            refine gT 7 hA rfl hI (fun w hI=>r_rix (j:=8) U42 sz25 hI rfl hA rfl rfl hb8.1 hb8.2) fun a hA=>?_
            obtain ⟨A17,_,B17,hc34,hl17,_,he17⟩:=Els.at_ hE2 (getD_some [] hb8.1 hb8.2)
            obtain ⟨rfl,hw33⟩:=he17
            refine gT 8 hA rfl hI (fun w hI=>r_rldP (j:=8) (q:=s6.toNat * 32) (off:=0) A17 B17 [] [av .u8 32 (([r15,r17,[7,0,0,0,0,0,0,0,0,0,0,0,0,0,0,0,0,0,0,0,0,0,0,0,0,0,0,0,0,0,0,0]]:List (List Int)).getD s6.toNat [])] [] hc34 hl17 rfl U25 rfl sz25 rfl hI rfl hA rfl) fun a hA=>?_
            refine gF 9 rfl ?_
            obtain ⟨r29,hr29,H⟩:=bB H
            have hI:=hI.sl [4,5,0,1,2,3,6,7,8,9,10] rfl
            refine o_call _ cf25 hA rfl (tree_Tree_Path.c μ3 _ hI.agr (⟨c2,c3⟩:treeTree) ggc2 gsc2 g2 wc2 wc3 (hI.handN 2) (([r15,r17,[7,0,0,0,0,0,0,0,0,0,0,0,0,0,0,0,0,0,0,0,0,0,0,0,0,0,0,0,0,0,0,0]]:List (List Int)).getD s5.toNat []) hw32 (([r15,r17,[7,0,0,0,0,0,0,0,0,0,0,0,0,0,0,0,0,0,0,0,0,0,0,0,0,0,0,0,0,0,0,0]]:List (List Int)).getD s6.toNat []) hw33 r29 hr29) rfl fun v17 a w hz35 hA=>?_
            obtain ⟨v18,cs5,v19,cs6,rfl,hE5,hE6,hw34,hi17⟩:=hz35
            have hI:=hI.backN 2 hi17
            have hI:Iv w0 [] μ μ3 [row 25 32 v18 r29.1.length cs5,row 25 32 v19 r29.2.1.length cs6,cel g2 [[.map (some ggc2)],av .u8 32 c3] 109,nd107 ggc2 c2 gsc2,cel g8 [av .u8 32 r24.1] 25,cel g3 [[vvc1]] 114,row 111 104 vvc1 c1.length ccc1,cel g7 [av .u8 32 r23.1] 25,cel g6 [[.int .u32 r19.1.Version],av .u8 32 r19.1.Prev,av .u8 32 r19.1.Root,[.int .u32 r19.1.Time],[.int .u32 r19.1.Work],[.int .u32 r19.1.Nonce]] 27,cel g5 [[.int .u32 r18.1.Version],av .u8 32 r18.1.Prev,av .u8 32 r18.1.Root,[.int .u32 r18.1.Time],[.int .u32 r18.1.Work],[.int .u32 r18.1.Nonce]] 27,row 25 32 (.slice (some ⟨g4,0,none⟩) 3 3) ([r15,r17,[7,0,0,0,0,0,0,0,0,0,0,0,0,0,0,0,0,0,0,0,0,0,0,0,0,0,0,0,0,0,0,0]]:List (List Int)).length cs2,row 27 68 v1 r2.length cs1,cel g1 [[.int .u32 x1.Version],av .u8 32 x1.Prev,av .u8 32 x1.Root,[.int .u32 x1.Time],[.int .u32 x1.Work],[.int .u32 x1.Nonce]] 27] w:=hI
            refine o_nil<|⟨(.inr (hI.sl [4,5,6,7,2,3,8,9,10,11,12] rfl)),?_⟩
            refine gE 10 hA rfl (.inr (hI.sl [4,5,6,7,2,3,8,9,10,11,12] rfl)) (fun _=>r_mv hA rfl) fun a hA=>?_
            refine gE 11 hA rfl (.inr (hI.sl [4,5,6,7,2,3,8,9,10,11,12] rfl)) (fun _=>r_extr (vs:=[v18,v19,.bool r29.2.2]) hA rfl rfl) fun a hA=>?_
            refine gE 12 hA rfl (.inr (hI.sl [4,5,6,7,2,3,8,9,10,11,12] rfl)) (fun _=>r_extr (vs:=[v18,v19,.bool r29.2.2]) hA rfl rfl) fun a hA=>?_
            refine gE 13 hA rfl (.inr (hI.sl [4,5,6,7,2,3,8,9,10,11,12] rfl)) (fun _=>r_extr (vs:=[v18,v19,.bool r29.2.2]) hA rfl rfl) fun a hA=>?_
            refine gE 14 hA rfl (.inr (hI.sl [4,5,6,7,2,3,8,9,10,11,12] rfl)) (fun _=>r_as hA rfl) fun a hA=>?_
            refine gE 15 hA rfl (.inr (hI.sl [4,5,6,7,2,3,8,9,10,11,12] rfl)) (fun _=>r_as hA rfl) fun a hA=>?_
            refine gE 16 hA rfl (.inr (hI.sl [4,5,6,7,2,3,8,9,10,11,12] rfl)) (fun _=>r_as hA rfl) fun a hA=>?_
            refine gN<|hN43 _ _ ?_
            obtain ⟨⟨c7,c8,c9,c10⟩,hz36,Hk7⟩:=bB H
            refine w_cut (fun a w=>∃(vvc7:Value)(ccc7:List Value)(vvc8:Value)(ccc8:List Value)(gc1:Nat),Els (RA .u8 32) 32 c7 ccc7∧Els (RA .u8 32) 32 c8 ccc8∧Arr .u8 32 c10∧Fr a 323 [(4,.int .i64 x4),(10,.bool false),(11,.bool r1),(13,pt g2 0),(14,pt g3 0),(16,(.slice (some ⟨g4,0,none⟩) 3 3)),(17,.int .i64 s5),(18,pt g5 0),(19,.bool r18.2),(20,pt g6 0),(21,.int .i64 r19.2.1),(22,.int .u64 r19.2.2.1),(23,.bool r19.2.2.2),(24,.int .i64 r20.1),(25,.bool r20.2),(26,.int .u64 r21.1),(27,.bool r21.2),(28,pt g7 0),(29,.bool r23.2),(30,pt g8 0),(31,.bool r24.2),(32,.int .i64 s6),(33,v18),(34,v19),(35,.bool r29.2.2),(36,vvc7),(37,vvc8),(38,pt gc1 0),(39,.bool c9),(121,.bool (decide (s5 < 3))),(190,.bool c5),(235,.bool c6),(237,.bool (decide (s6 < 3)))]∧Iv w0 [] μ μ3 [row 25 32 vvc7 c7.length ccc7,row 25 32 vvc8 c8.length ccc8,cel gc1 [av .u8 32 c10] 25,row 25 32 v18 r29.1.length cs5,row 25 32 v19 r29.2.1.length cs6,cel g2 [[.map (some ggc2)],av .u8 32 c3] 109,nd107 ggc2 c2 gsc2,cel g8 [av .u8 32 r24.1] 25,cel g3 [[vvc1]] 114,row 111 104 vvc1 c1.length ccc1,cel g7 [av .u8 32 r23.1] 25,cel g6 [[.int .u32 r19.1.Version],av .u8 32 r19.1.Prev,av .u8 32 r19.1.Root,[.int .u32 r19.1.Time],[.int .u32 r19.1.Work],[.int .u32 r19.1.Nonce]] 27,cel g5 [[.int .u32 r18.1.Version],av .u8 32 r18.1.Prev,av .u8 32 r18.1.Root,[.int .u32 r18.1.Time],[.int .u32 r18.1.Work],[.int .u32 r18.1.Nonce]] 27,row 25 32 (.slice (some ⟨g4,0,none⟩) 3 3) ([r15,r17,[7,0,0,0,0,0,0,0,0,0,0,0,0,0,0,0,0,0,0,0,0,0,0,0,0,0,0,0,0,0,0,0]]:List (List Int)).length cs2,row 27 68 v1 r2.length cs1,cel g1 [[.int .u32 x1.Version],av .u8 32 x1.Prev,av .u8 32 x1.Root,[.int .u32 x1.Time],[.int .u32 x1.Work],[.int .u32 x1.Nonce]] 27] w) ?_ ?_
            ·have H:=bI hz36
             refine w_any [18] mo hI fun w hI=>?_
             refine gE 0 hA rfl (.inr hI) (fun _=>r_mv hA rfl) fun a hA=>?_
             refine gE 1 hA rfl (.inr hI) (fun _=>r_mv hA rfl) fun a hA=>?_
             refine gE 2 hA rfl (.inr hI) (fun _=>r_mv hA rfl) fun a hA=>?_
             refine gT 3 hA rfl hI (fun w hI=>r_rix (j:=10) U42 sz25 hI rfl hA rfl rfl hb7.1 hb7.2) fun a hA=>?_
             obtain ⟨A18,_,B18,hc35,hl18,_,he18⟩:=Els.at_ hE2 (getD_some [] hb7.1 hb7.2)
             obtain ⟨rfl,hw35⟩:=he18
             refine gT 4 hA rfl hI (fun w hI=>r_rldP (j:=10) (q:=s5.toNat * 32) (off:=0) A18 B18 [] [av .u8 32 (([r15,r17,[7,0,0,0,0,0,0,0,0,0,0,0,0,0,0,0,0,0,0,0,0,0,0,0,0,0,0,0,0,0,0,0]]:List (List Int)).getD s5.toNat [])] [] hc35 hl18 rfl U25 rfl sz25 rfl hI rfl hA rfl) fun a hA=>?_
             refine gE 5 hA rfl (.inr hI) (fun _=>r_mv hA rfl) fun a hA=>?_
             refine gE 6 hA rfl (.inr hI) (fun _=>r_mv hA rfl) fun a hA=>?_
             refine gT 7 hA rfl hI (fun w hI=>r_rix (j:=10) U42 sz25 hI rfl hA rfl rfl hb8.1 hb8.2) fun a hA=>?_
             obtain ⟨A19,_,B19,hc36,hl19,_,he19⟩:=Els.at_ hE2 (getD_some [] hb8.1 hb8.2)
             obtain ⟨rfl,hw36⟩:=he19
             refine gT 8 hA rfl hI (fun w hI=>r_rldP (j:=10) (q:=s6.toNat * 32) (off:=0) A19 B19 [] [av .u8 32 (([r15,r17,[7,0,0,0,0,0,0,0,0,0,0,0,0,0,0,0,0,0,0,0,0,0,0,0,0,0,0,0,0,0,0,0]]:List (List Int)).getD s6.toNat [])] [] hc36 hl19 rfl U25 rfl sz25 rfl hI rfl hA rfl) fun a hA=>?_
             refine g_fork (i:=9) (is:=[15]) (by kernel_rfl) (List.forall_mem_cons.2 ⟨⟨_,rfl,?_⟩,(List.forall_mem_cons.2 ⟨⟨_,rfl,?_⟩,List.forall_mem_nil _⟩)⟩)
             ·skip
              obtain ⟨r30,hr30,H⟩:=bB H
              have hI:=hI.sl [5,6,0,1,2,3,4,7,8,9,10,11,12] rfl
              refine o_call _ cf26 hA rfl (sargassoref8_Tree_Path.c μ3 _ hI.agr (⟨c1⟩:sargassoref8Tree) vvc1 ccc1 g3 wc1 (hI.handN 2) (([r15,r17,[7,0,0,0,0,0,0,0,0,0,0,0,0,0,0,0,0,0,0,0,0,0,0,0,0,0,0,0,0,0,0,0]]:List (List Int)).getD s5.toNat []) hw35 (([r15,r17,[7,0,0,0,0,0,0,0,0,0,0,0,0,0,0,0,0,0,0,0,0,0,0,0,0,0,0,0,0,0,0,0]]:List (List Int)).getD s6.toNat []) hw36 r30 hr30) rfl fun v20 a w hz37 hA=>?_
              obtain ⟨v21,cs7,v22,cs8,rfl,hE7,hE8,hw37,hw38,hi18⟩:=hz37
              have hI:=hI.backN 2 hi18
              have hI:Iv w0 [] μ μ3 [row 25 32 v21 r30.1.length cs7,row 25 32 v22 r30.2.1.length cs8,cel g3 [[vvc1]] 114,row 111 104 vvc1 c1.length ccc1,row 25 32 v18 r29.1.length cs5,row 25 32 v19 r29.2.1.length cs6,cel g2 [[.map (some ggc2)],av .u8 32 c3] 109,nd107 ggc2 c2 gsc2,cel g8 [av .u8 32 r24.1] 25,cel g7 [av .u8 32 r23.1] 25,cel g6 [[.int .u32 r19.1.Version],av .u8 32 r19.1.Prev,av .u8 32 r19.1.Root,[.int .u32 r19.1.Time],[.int .u32 r19.1.Work],[.int .u32 r19.1.Nonce]] 27,cel g5 [[.int .u32 r18.1.Version],av .u8 32 r18.1.Prev,av .u8 32 r18.1.Root,[.int .u32 r18.1.Time],[.int .u32 r18.1.Work],[.int .u32 r18.1.Nonce]] 27,row 25 32 (.slice (some ⟨g4,0,none⟩) 3 3) ([r15,r17,[7,0,0,0,0,0,0,0,0,0,0,0,0,0,0,0,0,0,0,0,0,0,0,0,0,0,0,0,0,0,0,0]]:List (List Int)).length cs2,row 27 68 v1 r2.length cs1,cel g1 [[.int .u32 x1.Version],av .u8 32 x1.Prev,av .u8 32 x1.Root,[.int .u32 x1.Time],[.int .u32 x1.Work],[.int .u32 x1.Nonce]] 27] w:=hI
              refine o_nil<|⟨(.inr (hI.sl [4,5,6,7,8,2,3,9,10,11,12,13,14] rfl)),?_⟩
              refine gE 10 hA rfl (.inr (hI.sl [4,5,6,7,8,2,3,9,10,11,12,13,14] rfl)) (fun _=>r_mv hA rfl) fun a hA=>?_
              refine gE 11 hA rfl (.inr (hI.sl [4,5,6,7,8,2,3,9,10,11,12,13,14] rfl)) (fun _=>r_extr (vs:=[v21,v22,.agg [av .u8 32 r30.2.2.1].flatten.toArray,.bool r30.2.2.2]) hA rfl rfl) fun a hA=>?_
              refine gE 12 hA rfl (.inr (hI.sl [4,5,6,7,8,2,3,9,10,11,12,13,14] rfl)) (fun _=>r_extr (vs:=[v21,v22,.agg [av .u8 32 r30.2.2.1].flatten.toArray,.bool r30.2.2.2]) hA rfl rfl) fun a hA=>?_
              refine gE 13 hA rfl (.inr (hI.sl [4,5,6,7,8,2,3,9,10,11,12,13,14] rfl)) (fun _=>r_extr (vs:=[v21,v22,.agg [av .u8 32 r30.2.2.1].flatten.toArray,.bool r30.2.2.2]) hA rfl rfl) fun a hA=>?_
              refine gE 14 hA rfl (.inr (hI.sl [4,5,6,7,8,2,3,9,10,11,12,13,14] rfl)) (fun _=>r_extr (vs:=[v21,v22,.agg [av .u8 32 r30.2.2.1].flatten.toArray,.bool r30.2.2.2]) hA rfl rfl) fun a hA=>?_
              refine gF 15 rfl ?_
              refine o_new [av .u8 32 Z32] zr25 hI hA rfl fun g9 a w hA hI hg9=>?_
              refine o_nil<|⟨(.inr (hI.sl [5,6,7,8,9,3,4,10,11,12,13,14,15] rfl)),?_⟩
              refine gE 16 hA rfl (.inr (hI.sl [5,6,7,8,9,3,4,10,11,12,13,14,15] rfl)) (fun _=>r_as hA rfl) fun a hA=>?_
              refine gE 17 hA rfl (.inr (hI.sl [5,6,7,8,9,3,4,10,11,12,13,14,15] rfl)) (fun _=>r_as hA rfl) fun a hA=>?_
              refine gF 18 rfl ?_
              refine o_st (j:=0) [] [av .u8 32 Z32] [av .u8 32 r30.2.2.1] [] sz25 rfl rfl (fl_cons (one_av _ _ _) fl_nil) hI rfl hA rfl rfl rfl rfl fun w hI=>?_
              refine o_nil<|⟨(.inl (by kernel_rfl)),?_⟩
              refine gE 19 hA rfl (.inl (by kernel_rfl)) (fun _=>r_as hA rfl) fun a hA=>?_
              refine gN ?_
              cases sJ H
              exact ⟨v21,cs7,v22,cs8,g9,hE7,hE8,hw37,hA.sub ⟨rfl,rfl,rfl,rfl,rfl,rfl,rfl,rfl,rfl,rfl,rfl,rfl,rfl,rfl,rfl,rfl,rfl,rfl,rfl,rfl,rfl,rfl,rfl,rfl,rfl,rfl,rfl,rfl,rfl,rfl,rfl,rfl,rfl,trivial⟩,(hI.sl [1,2,0,5,6,7,8,9,3,4,10,11,12,13,14,15] rfl)⟩
             ·skip
              refine o_new [av .u8 32 Z32] zr25 hI hA rfl fun g9 a w hA hI hg9=>?_
              refine o_nil<|⟨(.inr (hI.sl [1,2,3,4,5,6,7,8,9,10,11,12,13] rfl)),?_⟩
              refine gF 9 rfl ?_
              obtain ⟨r30,hr30,H⟩:=bB H
              have hI:=hI.sl [6,7,0,1,2,3,4,5,8,9,10,11,12,13] rfl
              refine o_call _ cf26 hA rfl (sargassoref8_Tree_Path.c μ3 _ hI.agr (⟨c1⟩:sargassoref8Tree) vvc1 ccc1 g3 wc1 (hI.handN 2) (([r15,r17,[7,0,0,0,0,0,0,0,0,0,0,0,0,0,0,0,0,0,0,0,0,0,0,0,0,0,0,0,0,0,0,0]]:List (List Int)).getD s5.toNat []) hw35 (([r15,r17,[7,0,0,0,0,0,0,0,0,0,0,0,0,0,0,0,0,0,0,0,0,0,0,0,0,0,0,0,0,0,0,0]]:List (List Int)).getD s6.toNat []) hw36 r30 hr30) rfl fun v20 a w hz37 hA=>?_
              obtain ⟨v21,cs7,v22,cs8,rfl,hE7,hE8,hw37,hw38,hi18⟩:=hz37
              have hI:=hI.backN 2 hi18
              have hI:Iv w0 [] μ μ3 [row 25 32 v21 r30.1.length cs7,row 25 32 v22 r30.2.1.length cs8,cel g3 [[vvc1]] 114,row 111 104 vvc1 c1.length ccc1,cel g9 [av .u8 32 Z32] 25,row 25 32 v18 r29.1.length cs5,row 25 32 v19 r29.2.1.length cs6,cel g2 [[.map (some ggc2)],av .u8 32 c3] 109,nd107 ggc2 c2 gsc2,cel g8 [av .u8 32 r24.1] 25,cel g7 [av .u8 32 r23.1] 25,cel g6 [[.int .u32 r19.1.Version],av .u8 32 r19.1.Prev,av .u8 32 r19.1.Root,[.int .u32 r19.1.Time],[.int .u32 r19.1.Work],[.int .u32 r19.1.Nonce]] 27,cel g5 [[.int .u32 r18.1.Version],av .u8 32 r18.1.Prev,av .u8 32 r18.1.Root,[.int .u32 r18.1.Time],[.int .u32 r18.1.Work],[.int .u32 r18.1.Nonce]] 27,row 25 32 (.slice (some ⟨g4,0,none⟩) 3 3) ([r15,r17,[7,0,0,0,0,0,0,0,0,0,0,0,0,0,0,0,0,0,0,0,0,0,0,0,0,0,0,0,0,0,0,0]]:List (List Int)).length cs2,row 27 68 v1 r2.length cs1,cel g1 [[.int .u32 x1.Version],av .u8 32 x1.Prev,av .u8 32 x1.Root,[.int .u32 x1.Time],[.int .u32 x1.Work],[.int .u32 x1.Nonce]] 27] w:=hI
              refine o_nil<|⟨(.inr (hI.sl [5,6,7,8,9,2,3,10,11,12,13,14,15] rfl)),?_⟩
              refine gE 10 hA rfl (.inr (hI.sl [5,6,7,8,9,2,3,10,11,12,13,14,15] rfl)) (fun _=>r_mv hA rfl) fun a hA=>?_
              refine gE 11 hA rfl (.inr (hI.sl [5,6,7,8,9,2,3,10,11,12,13,14,15] rfl)) (fun _=>r_extr (vs:=[v21,v22,.agg [av .u8 32 r30.2.2.1].flatten.toArray,.bool r30.2.2.2]) hA rfl rfl) fun a hA=>?_
              refine gE 12 hA rfl (.inr (hI.sl [5,6,7,8,9,2,3,10,11,12,13,14,15] rfl)) (fun _=>r_extr (vs:=[v21,v22,.agg [av .u8 32 r30.2.2.1].flatten.toArray,.bool r30.2.2.2]) hA rfl rfl) fun a hA=>?_
              refine gE 13 hA rfl (.inr (hI.sl [5,6,7,8,9,2,3,10,11,12,13,14,15] rfl)) (fun _=>r_extr (vs:=[v21,v22,.agg [av .u8 32 r30.2.2.1].flatten.toArray,.bool r30.2.2.2]) hA rfl rfl) fun a hA=>?_
              refine gE 14 hA rfl (.inr (hI.sl [5,6,7,8,9,2,3,10,11,12,13,14,15] rfl)) (fun _=>r_extr (vs:=[v21,v22,.agg [av .u8 32 r30.2.2.1].flatten.toArray,.bool r30.2.2.2]) hA rfl rfl) fun a hA=>?_
              refine gE 16 hA rfl (.inr (hI.sl [5,6,7,8,9,2,3,10,11,12,13,14,15] rfl)) (fun _=>r_as hA rfl) fun a hA=>?_
              refine gE 17 hA rfl (.inr (hI.sl [5,6,7,8,9,2,3,10,11,12,13,14,15] rfl)) (fun _=>r_as hA rfl) fun a hA=>?_
              refine gF 18 rfl ?_
              refine o_st (j:=4) [] [av .u8 32 Z32] [av .u8 32 r30.2.2.1] [] sz25 rfl rfl (fl_cons (one_av _ _ _) fl_nil) hI rfl hA rfl rfl rfl rfl fun w hI=>?_
              refine o_nil<|⟨(.inl (by kernel_rfl)),?_⟩
              refine gE 19 hA rfl (.inl (by kernel_rfl)) (fun _=>r_as hA rfl) fun a hA=>?_
              refine gN ?_
              cases sJ H
              exact ⟨v21,cs7,v22,cs8,g9,hE7,hE8,hw37,hA.sub ⟨rfl,rfl,rfl,rfl,rfl,rfl,rfl,rfl,rfl,rfl,rfl,rfl,rfl,rfl,rfl,rfl,rfl,rfl,rfl,rfl,rfl,rfl,rfl,rfl,rfl,rfl,rfl,rfl,rfl,rfl,rfl,rfl,rfl,trivial⟩,(hI.sl [0,1,4,5,6,7,8,9,2,3,10,11,12,13,14,15] rfl)⟩
            ·rintro a w ⟨vvc7,ccc7,vvc8,ccc8,gc1,wc7,wc8,wc10,hA,hI⟩
             have H:=Hk7
             obtain ⟨⟨c11,c12⟩,hz38,Hk8⟩:=bB H
             refine w_cut (fun a w=>∃(gc2:Nat),Arr .u8 32 c12∧Fr a 323 [(4,.int .i64 x4),(10,.bool false),(11,.bool r1),(13,pt g2 0),(14,pt g3 0),(16,(.slice (some ⟨g4,0,none⟩) 3 3)),(17,.int .i64 s5),(18,pt g5 0),(19,.bool r18.2),(20,pt g6 0),(21,.int .i64 r19.2.1),(22,.int .u64 r19.2.2.1),(23,.bool r19.2.2.2),(24,.int .i64 r20.1),(25,.bool r20.2),(26,.int .u64 r21.1),(27,.bool r21.2),(28,pt g7 0),(29,.bool r23.2),(30,pt g8 0),(31,.bool r24.2),(32,.int .i64 s6),(33,v18),(34,v19),(35,.bool r29.2.2),(36,vvc7),(37,vvc8),(38,pt gc1 0),(39,.bool c9),(40,pt gc2 0),(41,.bool c11),(121,.bool (decide (s5 < 3))),(190,.bool c5),(235,.bool c6),(237,.bool (decide (s6 < 3)))]∧Iv w0 [] μ μ3 [cel gc2 [av .u8 32 c12] 25,row 25 32 vvc7 c7.length ccc7,row 25 32 vvc8 c8.length ccc8,cel gc1 [av .u8 32 c10] 25,row 25 32 v18 r29.1.length cs5,row 25 32 v19 r29.2.1.length cs6,cel g2 [[.map (some ggc2)],av .u8 32 c3] 109,nd107 ggc2 c2 gsc2,cel g8 [av .u8 32 r24.1] 25,cel g3 [[vvc1]] 114,row 111 104 vvc1 c1.length ccc1,cel g7 [av .u8 32 r23.1] 25,cel g6 [[.int .u32 r19.1.Version],av .u8 32 r19.1.Prev,av .u8 32 r19.1.Root,[.int .u32 r19.1.Time],[.int .u32 r19.1.Work],[.int .u32 r19.1.Nonce]] 27,cel g5 [[.int .u32 r18.1.Version],av .u8 32 r18.1.Prev,av .u8 32 r18.1.Root,[.int .u32 r18.1.Time],[.int .u32 r18.1.Work],[.int .u32 r18.1.Nonce]] 27,row 25 32 (.slice (some ⟨g4,0,none⟩) 3 3) ([r15,r17,[7,0,0,0,0,0,0,0,0,0,0,0,0,0,0,0,0,0,0,0,0,0,0,0,0,0,0,0,0,0,0,0]]:List (List Int)).length cs2,row 27 68 v1 r2.length cs1,cel g1 [[.int .u32 x1.Version],av .u8 32 x1.Prev,av .u8 32 x1.Root,[.int .u32 x1.Time],[.int .u32 x1.Work],[.int .u32 x1.Nonce]] 27] w) ?_ ?_
             ·have H:=bI hz38
              refine w_anyS [] mo (fun w (h:Iv w0 [] μ μ3 [row 25 32 vvc7 c7.length ccc7,row 25 32 vvc8 c8.length ccc8,cel gc1 [av .u8 32 c10] 25,row 25 32 v18 r29.1.length cs5,row 25 32 v19 r29.2.1.length cs6,cel g2 [[.map (some ggc2)],av .u8 32 c3] 109,nd107 ggc2 c2 gsc2,cel g8 [av .u8 32 r24.1] 25,cel g3 [[vvc1]] 114,row 111 104 vvc1 c1.length ccc1,cel g7 [av .u8 32 r23.1] 25,cel g6 [[.int .u32 r19.1.Version],av .u8 32 r19.1.Prev,av .u8 32 r19.1.Root,[.int .u32 r19.1.Time],[.int .u32 r19.1.Work],[.int .u32 r19.1.Nonce]] 27,cel g5 [[.int .u32 r18.1.Version],av .u8 32 r18.1.Prev,av .u8 32 r18.1.Root,[.int .u32 r18.1.Time],[.int .u32 r18.1.Work],[.int .u32 r18.1.Nonce]] 27,row 25 32 (.slice (some ⟨g4,0,none⟩) 3 3) ([r15,r17,[7,0,0,0,0,0,0,0,0,0,0,0,0,0,0,0,0,0,0,0,0,0,0,0,0,0,0,0,0,0,0,0]]:List (List Int)).length cs2,row 27 68 v1 r2.length cs1,cel g1 [[.int .u32 x1.Version],av .u8 32 x1.Prev,av .u8 32 x1.Root,[.int .u32 x1.Time],[.int .u32 x1.Work],[.int .u32 x1.Nonce]] 27] w)=>(h.sl [0,1,2,3,4,5,6,7,8,9,10,11,12,13,14,15] rfl:Iv w0 [] μ μ3 [row 25 32 vvc7 c7.length ccc7,row 25 32 vvc8 c8.length ccc8,cel gc1 [av .u8 32 c10] 25,row 25 32 v18 r29.1.length cs5,row 25 32 v19 r29.2.1.length cs6,cel g2 [[.map (some ggc2)],av .u8 32 c3] 109,nd107 ggc2 c2 gsc2,cel g8 [av .u8 32 r24.1] 25,cel g3 [[vvc1]] 114,row 111 104 vvc1 c1.length ccc1,cel g7 [av .u8 32 r23.1] 25,cel g6 [[.int .u32 r19.1.Version],av .u8 32 r19.1.Prev,av .u8 32 r19.1.Root,[.int .u32 r19.1.Time],[.int .u32 r19.1.Work],[.int .u32 r19.1.Nonce]] 27,cel g5 [[.int .u32 r18.1.Version],av .u8 32 r18.1.Prev,av .u8 32 r18.1.Root,[.int .u32 r18.1.Time],[.int .u32 r18.1.Work],[.int .u32 r18.1.Nonce]] 27,row 25 32 (.slice (some ⟨g4,0,none⟩) 3 3) ([r15,r17,[7,0,0,0,0,0,0,0,0,0,0,0,0,0,0,0,0,0,0,0,0,0,0,0,0,0,0,0,0,0,0,0]]:List (List Int)).length cs2,row 27 68 v1 r2.length cs1,cel g1 [[.int .u32 x1.Version],av .u8 32 x1.Prev,av .u8 32 x1.Root,[.int .u32 x1.Time],[.int .u32 x1.Work],[.int .u32 x1.Nonce]] 27] w)) hI fun w hI=>?_
              refine gE 0 hA rfl (.inr hI) (fun _=>r_mv hA rfl) fun a hA=>?_
              refine gE 1 hA rfl (.inr hI) (fun _=>r_mv hA rfl) fun a hA=>?_
              refine gE 2 hA rfl (.inr hI) (fun _=>r_mv hA rfl) fun a hA=>?_
              refine gT 3 hA rfl hI (fun w hI=>r_rix (j:=13) U42 sz25 hI rfl hA rfl rfl hb7.1 hb7.2) fun a hA=>?_
              obtain ⟨A20,_,B20,hc37,hl20,_,he20⟩:=Els.at_ hE2 (getD_some [] hb7.1 hb7.2)
              obtain ⟨rfl,hw39⟩:=he20
              refine gT 4 hA rfl hI (fun w hI=>r_rldP (j:=13) (q:=s5.toNat * 32) (off:=0) A20 B20 [] [av .u8 32 (([r15,r17,[7,0,0,0,0,0,0,0,0,0,0,0,0,0,0,0,0,0,0,0,0,0,0,0,0,0,0,0,0,0,0,0]]:List (List Int)).getD s5.toNat [])] [] hc37 hl20 rfl U25 rfl sz25 rfl hI rfl hA rfl) fun a hA=>?_
              refine gE 5 hA rfl (.inr hI) (fun _=>r_mv hA rfl) fun a hA=>?_
              refine gE 6 hA rfl (.inr hI) (fun _=>r_mv hA rfl) fun a hA=>?_
              refine gT 7 hA rfl hI (fun w hI=>r_rix (j:=13) U42 sz25 hI rfl hA rfl rfl hb8.1 hb8.2) fun a hA=>?_
              obtain ⟨A21,_,B21,hc38,hl21,_,he21⟩:=Els.at_ hE2 (getD_some [] hb8.1 hb8.2)
              obtain ⟨rfl,hw40⟩:=he21
              refine gT 8 hA rfl hI (fun w hI=>r_rldP (j:=13) (q:=s6.toNat * 32) (off:=0) A21 B21 [] [av .u8 32 (([r15,r17,[7,0,0,0,0,0,0,0,0,0,0,0,0,0,0,0,0,0,0,0,0,0,0,0,0,0,0,0,0,0,0,0]]:List (List Int)).getD s6.toNat [])] [] hc38 hl21 rfl U25 rfl sz25 rfl hI rfl hA rfl) fun a hA=>?_
              refine g_fork (i:=9) (is:=[13]) (by kernel_rfl) (List.forall_mem_cons.2 ⟨⟨_,rfl,?_⟩,(List.forall_mem_cons.2 ⟨⟨_,rfl,?_⟩,List.forall_mem_nil _⟩)⟩)
              ·skip
               obtain ⟨r31,hr31,H⟩:=bB H
               have hI:=hI.sl [5,6,0,1,2,3,4,7,8,9,10,11,12,13,14,15] rfl
               refine o_call _ cf27 hA rfl (tree_Tree_Common.c μ3 _ hI.agr (⟨c2,c3⟩:treeTree) ggc2 gsc2 g2 wc2 wc3 (hI.handN 2) (([r15,r17,[7,0,0,0,0,0,0,0,0,0,0,0,0,0,0,0,0,0,0,0,0,0,0,0,0,0,0,0,0,0,0,0]]:List (List Int)).getD s5.toNat []) hw39 (([r15,r17,[7,0,0,0,0,0,0,0,0,0,0,0,0,0,0,0,0,0,0,0,0,0,0,0,0,0,0,0,0,0,0,0]]:List (List Int)).getD s6.toNat []) hw40 r31 hr31) rfl fun v23 a w hz39 hA=>?_
               obtain ⟨rfl,hw41,hw42,hi19⟩:=hz39
               have hI:=hI.back2 hi19
               refine o_nil<|⟨(.inr (hI.sl [2,3,4,5,6,0,1,7,8,9,10,11,12,13,14,15] rfl)),?_⟩
               refine gE 10 hA rfl (.inr (hI.sl [2,3,4,5,6,0,1,7,8,9,10,11,12,13,14,15] rfl)) (fun _=>r_mv hA rfl) fun a hA=>?_
               refine gE 11 hA rfl (.inr (hI.sl [2,3,4,5,6,0,1,7,8,9,10,11,12,13,14,15] rfl)) (fun _=>r_extr (vs:=[.agg [av .u8 32 r31.1].flatten.toArray,.bool r31.2]) hA rfl rfl) fun a hA=>?_
               refine gE 12 hA rfl (.inr (hI.sl [2,3,4,5,6,0,1,7,8,9,10,11,12,13,14,15] rfl)) (fun _=>r_extr (vs:=[.agg [av .u8 32 r31.1].flatten.toArray,.bool r31.2]) hA rfl rfl) fun a hA=>?_
               refine gF 13 rfl ?_
               refine o_new [av .u8 32 Z32] zr25 hI hA rfl fun g10 a w hA hI hg10=>?_
               refine o_nil<|⟨(.inr (hI.sl [3,4,5,6,7,1,2,8,9,10,11,12,13,14,15,16] rfl)),?_⟩
               refine gF 14 rfl ?_
               refine o_st (j:=0) [] [av .u8 32 Z32] [av .u8 32 r31.1] [] sz25 rfl rfl (fl_cons (one_av _ _ _) fl_nil) hI rfl hA rfl rfl rfl rfl fun w hI=>?_
               refine o_nil<|⟨(.inr (hI.sl [3,4,5,6,7,1,2,8,9,10,11,12,13,14,15,16] rfl)),?_⟩
               refine gE 15 hA rfl (.inr (hI.sl [3,4,5,6,7,1,2,8,9,10,11,12,13,14,15,16] rfl)) (fun _=>r_as hA rfl) fun a hA=>?_
               refine gN ?_
               cases sJ H
               exact ⟨g10,hw41,hA.sub ⟨rfl,rfl,rfl,rfl,rfl,rfl,rfl,rfl,rfl,rfl,rfl,rfl,rfl,rfl,rfl,rfl,rfl,rfl,rfl,rfl,rfl,rfl,rfl,rfl,rfl,rfl,rfl,rfl,rfl,rfl,rfl,rfl,rfl,rfl,rfl,trivial⟩,(hI.sl [0,3,4,5,6,7,1,2,8,9,10,11,12,13,14,15,16] rfl)⟩
              ·skip
               refine o_new [av .u8 32 Z32] zr25 hI hA rfl fun g10 a w hA hI hg10=>?_
               refine o_nil<|⟨(.inr (hI.sl [1,2,3,4,5,6,7,8,9,10,11,12,13,14,15,16] rfl)),?_⟩
               refine gF 9 rfl ?_
               obtain ⟨r31,hr31,H⟩:=bB H
               have hI:=hI.sl [6,7,0,1,2,3,4,5,8,9,10,11,12,13,14,15,16] rfl
               refine o_call _ cf27 hA rfl (tree_Tree_Common.c μ3 _ hI.agr (⟨c2,c3⟩:treeTree) ggc2 gsc2 g2 wc2 wc3 (hI.handN 2) (([r15,r17,[7,0,0,0,0,0,0,0,0,0,0,0,0,0,0,0,0,0,0,0,0,0,0,0,0,0,0,0,0,0,0,0]]:List (List Int)).getD s5.toNat []) hw39 (([r15,r17,[7,0,0,0,0,0,0,0,0,0,0,0,0,0,0,0,0,0,0,0,0,0,0,0,0,0,0,0,0,0,0,0]]:List (List Int)).getD s6.toNat []) hw40 r31 hr31) rfl fun v23 a w hz39 hA=>?_
               obtain ⟨rfl,hw41,hw42,hi19⟩:=hz39
               have hI:=hI.back2 hi19
               refine o_nil<|⟨(.inr (hI.sl [3,4,5,6,7,0,1,8,9,10,11,12,13,14,15,16] rfl)),?_⟩
               refine gE 10 hA rfl (.inr (hI.sl [3,4,5,6,7,0,1,8,9,10,11,12,13,14,15,16] rfl)) (fun _=>r_mv hA rfl) fun a hA=>?_
               refine gE 11 hA rfl (.inr (hI.sl [3,4,5,6,7,0,1,8,9,10,11,12,13,14,15,16] rfl)) (fun _=>r_extr (vs:=[.agg [av .u8 32 r31.1].flatten.toArray,.bool r31.2]) hA rfl rfl) fun a hA=>?_
               refine gE 12 hA rfl (.inr (hI.sl [3,4,5,6,7,0,1,8,9,10,11,12,13,14,15,16] rfl)) (fun _=>r_extr (vs:=[.agg [av .u8 32 r31.1].flatten.toArray,.bool r31.2]) hA rfl rfl) fun a hA=>?_
               refine gF 14 rfl ?_
               refine o_st (j:=2) [] [av .u8 32 Z32] [av .u8 32 r31.1] [] sz25 rfl rfl (fl_cons (one_av _ _ _) fl_nil) hI rfl hA rfl rfl rfl rfl fun w hI=>?_
               refine o_nil<|⟨(.inr (hI.sl [3,4,5,6,7,0,1,8,9,10,11,12,13,14,15,16] rfl)),?_⟩
               refine gE 15 hA rfl (.inr (hI.sl [3,4,5,6,7,0,1,8,9,10,11,12,13,14,15,16] rfl)) (fun _=>r_as hA rfl) fun a hA=>?_
               refine gN ?_
               cases sJ H
               exact ⟨g10,hw41,hA.sub ⟨rfl,rfl,rfl,rfl,rfl,rfl,rfl,rfl,rfl,rfl,rfl,rfl,rfl,rfl,rfl,rfl,rfl,rfl,rfl,rfl,rfl,rfl,rfl,rfl,rfl,rfl,rfl,rfl,rfl,rfl,rfl,rfl,rfl,rfl,rfl,trivial⟩,(hI.sl [2,3,4,5,6,7,0,1,8,9,10,11,12,13,14,15,16] rfl)⟩
             ·rintro a w ⟨gc2,wc12,hA,hI⟩
              have H:=Hk8
              obtain ⟨c13,hz40,Hk9⟩:=bB H
              refine w_cut (fun a w=>Fr a 323 [(4,.int .i64 x4),(10,.bool false),(11,.bool r1),(13,pt g2 0),(14,pt g3 0),(16,(.slice (some ⟨g4,0,none⟩) 3 3)),(17,.int .i64 s5),(18,pt g5 0),(19,.bool r18.2),(20,pt g6 0),(21,.int .i64 r19.2.1),(22,.int .u64 r19.2.2.1),(23,.bool r19.2.2.2),(24,.int .i64 r20.1),(25,.bool r20.2),(26,.int .u64 r21.1),(27,.bool r21.2),(28,pt g7 0),(29,.bool r23.2),(30,pt g8 0),(31,.bool r24.2),(32,.int .i64 s6),(33,v18),(34,v19),(35,.bool r29.2.2),(36,vvc7),(37,vvc8),(38,pt gc1 0),(39,.bool c9),(40,pt gc2 0),(41,.bool c11),(121,.bool (decide (s5 < 3))),(190,.bool c5),(235,.bool c6),(237,.bool (decide (s6 < 3))),(307,.bool c13)]∧Iv w0 [] μ μ3 [cel gc2 [av .u8 32 c12] 25,row 25 32 vvc7 c7.length ccc7,row 25 32 vvc8 c8.length ccc8,cel gc1 [av .u8 32 c10] 25,row 25 32 v18 r29.1.length cs5,row 25 32 v19 r29.2.1.length cs6,cel g2 [[.map (some ggc2)],av .u8 32 c3] 109,nd107 ggc2 c2 gsc2,cel g8 [av .u8 32 r24.1] 25,cel g3 [[vvc1]] 114,row 111 104 vvc1 c1.length ccc1,cel g7 [av .u8 32 r23.1] 25,cel g6 [[.int .u32 r19.1.Version],av .u8 32 r19.1.Prev,av .u8 32 r19.1.Root,[.int .u32 r19.1.Time],[.int .u32 r19.1.Work],[.int .u32 r19.1.Nonce]] 27,cel g5 [[.int .u32 r18.1.Version],av .u8 32 r18.1.Prev,av .u8 32 r18.1.Root,[.int .u32 r18.1.Time],[.int .u32 r18.1.Work],[.int .u32 r18.1.Nonce]] 27,row 25 32 (.slice (some ⟨g4,0,none⟩) 3 3) ([r15,r17,[7,0,0,0,0,0,0,0,0,0,0,0,0,0,0,0,0,0,0,0,0,0,0,0,0,0,0,0,0,0,0,0]]:List (List Int)).length cs2,row 27 68 v1 r2.length cs1,cel g1 [[.int .u32 x1.Version],av .u8 32 x1.Prev,av .u8 32 x1.Root,[.int .u32 x1.Time],[.int .u32 x1.Work],[.int .u32 x1.Nonce]] 27] w) ?_ ?_
              ·have H:=bI hz40
               refine w_reg<|stm hA rfl rfl fun a hA =>
                stm hA rfl rfl fun a hA =>
                stp hA (r_neqb U4 hA rfl rfl) rfl fun a hA =>
                stm hA rfl rfl fun a hA=>?_
               rcases Bool.eq_false_or_eq_true (decide (r29.2.2≠c9)) with hc39 | hc39
               ·have hc390:=hc39;obtain ⟨hc39,H⟩:=dT H hc39
                refine o_no hA rfl rfl (by rw [hc390];simp [vb]) rfl fun a hA =>
                 o_no hA rfl rfl (by rw [hc390];simp [vb]) rfl fun a hA =>
                 o_no hA rfl rfl (by rw [hc390];simp [vb]) rfl fun a hA =>
                 stp hA (r_pick_t hA rfl hc390 rfl) rfl fun a hA =>
                 stm hA rfl rfl fun a hA =>
                 o_no hA rfl rfl (by simp [vb]) rfl fun a hA =>
                 o_no hA rfl rfl (by simp [vb]) rfl fun a hA =>
                 o_no hA rfl rfl (by simp [vb]) rfl fun a hA =>
                 o_no hA rfl rfl (by simp [vb]) rfl fun a hA =>
                 stp hA (r_pick_t hA rfl rfl rfl) rfl fun a hA =>
                 stm hA rfl rfl fun a hA =>
                 o_no hA rfl rfl (by simp [vb]) rfl fun a hA =>
                 o_no hA rfl rfl (by simp [vb]) rfl fun a hA =>
                 o_no hA rfl rfl (by simp [vb]) rfl fun a hA =>
                 o_no hA rfl rfl (by simp [vb]) rfl fun a hA =>
                 stp hA (r_pick_t hA rfl rfl rfl) rfl fun a hA =>
                 stm hA rfl rfl fun a hA =>
                 o_no hA rfl rfl (by simp [vb]) rfl fun a hA =>
                 o_no hA rfl rfl (by simp [vb]) rfl fun a hA =>
                 o_no hA rfl rfl (by simp [vb]) rfl fun a hA =>
                 o_no hA rfl rfl (by simp [vb]) rfl fun a hA =>
                 stp hA (r_pick_t hA rfl rfl rfl) rfl fun a hA=>?_
                refine o_nil ?_
                cases sJ H
                exact ⟨hA.sub ⟨rfl,rfl,rfl,rfl,rfl,rfl,rfl,rfl,rfl,rfl,rfl,rfl,rfl,rfl,rfl,rfl,rfl,rfl,rfl,rfl,rfl,rfl,rfl,rfl,rfl,rfl,rfl,rfl,rfl,rfl,rfl,rfl,rfl,rfl,rfl,rfl,trivial⟩,hI⟩
               ·have hc390:=hc39;obtain ⟨hc39,H⟩:=dF H hc39
                refine o_yes hA rfl rfl hc390 <|
                 stm hA rfl rfl fun a hA =>
                 o_yes hA rfl rfl hc390 <|
                 stm hA rfl rfl fun a hA =>
                 o_yes hA rfl rfl hc390 <|
                 stp hA (r_neqb U4 hA rfl rfl) rfl fun a hA =>
                 stp hA (r_pick_f hA rfl hc390 rfl) rfl fun a hA =>
                 stm hA rfl rfl fun a hA=>?_
                rcases Bool.eq_false_or_eq_true (decide (c11≠c9)) with hc40 | hc40
                ·have hc400:=hc40;obtain ⟨hc40,H⟩:=dT H hc40
                 refine o_no hA rfl rfl (by rw [hc400];simp [vb]) rfl fun a hA =>
                  o_no hA rfl rfl (by rw [hc400];simp [vb]) rfl fun a hA =>
                  o_no hA rfl rfl (by rw [hc400];simp [vb]) rfl fun a hA =>
                  o_no hA rfl rfl (by rw [hc400];simp [vb]) rfl fun a hA =>
                  stp hA (r_pick_t hA rfl hc400 rfl) rfl fun a hA =>
                  stm hA rfl rfl fun a hA =>
                  o_no hA rfl rfl (by simp [vb]) rfl fun a hA =>
                  o_no hA rfl rfl (by simp [vb]) rfl fun a hA =>
                  o_no hA rfl rfl (by simp [vb]) rfl fun a hA =>
                  o_no hA rfl rfl (by simp [vb]) rfl fun a hA =>
                  stp hA (r_pick_t hA rfl rfl rfl) rfl fun a hA =>
                  stm hA rfl rfl fun a hA =>
                  o_no hA rfl rfl (by simp [vb]) rfl fun a hA =>
                  o_no hA rfl rfl (by simp [vb]) rfl fun a hA =>
                  o_no hA rfl rfl (by simp [vb]) rfl fun a hA =>
                  o_no hA rfl rfl (by simp [vb]) rfl fun a hA =>
                  stp hA (r_pick_t hA rfl rfl rfl) rfl fun a hA=>?_
                 refine o_nil ?_
                 cases sJ H
                 exact ⟨hA.sub ⟨rfl,rfl,rfl,rfl,rfl,rfl,rfl,rfl,rfl,rfl,rfl,rfl,rfl,rfl,rfl,rfl,rfl,rfl,rfl,rfl,rfl,rfl,rfl,rfl,rfl,rfl,rfl,rfl,rfl,rfl,rfl,rfl,rfl,rfl,rfl,rfl,trivial⟩,hI⟩
                ·have hc400:=hc40;obtain ⟨hc40,H⟩:=dF H hc40
                 refine o_yes hA rfl rfl hc400 <|
                  stp hA (r_ldA (j:=0) [] [av .u8 32 c12] [] U25 rfl sz25 rfl hI rfl hA rfl rfl) rfl fun a hA =>
                  o_yes hA rfl rfl hc400 <|
                  stp hA (r_ldA (j:=3) [] [av .u8 32 c10] [] U25 rfl sz25 rfl hI rfl hA rfl rfl) rfl fun a hA =>
                  o_yes hA rfl rfl hc400<|?_
                 obtain ⟨r32,hr32,H⟩:=bB H
                 refine o_callp (u:=.bool r32) cf21 hA rfl hI (q0_SameHash.c μ3 _ hI.agr c12 wc12 c10 wc10 r32 hr32) rfl fun a w hz41 hI hA =>
                  o_yes hA rfl rfl hc400 <|
                  stp hA (r_not hA rfl) rfl fun a hA =>
                  stp hA (r_pick_f hA rfl hc400 rfl) rfl fun a hA =>
                  stm hA rfl rfl fun a hA=>?_
                 rcases Bool.eq_false_or_eq_true (!r32) with hc41 | hc41
                 ·have hc410:=hc41;have hc41:=nT hc41;have hc41:=ft hc41;have H:=bF H hc41
                  refine o_no hA rfl rfl (by rw [hc410];simp [vb]) rfl fun a hA =>
                   o_no hA rfl rfl (by rw [hc410];simp [vb]) rfl fun a hA =>
                   o_no hA rfl rfl (by rw [hc410];simp [vb]) rfl fun a hA =>
                   o_no hA rfl rfl (by rw [hc410];simp [vb]) rfl fun a hA =>
                   stp hA (r_pick_t hA rfl hc410 rfl) rfl fun a hA =>
                   stm hA rfl rfl fun a hA =>
                   o_no hA rfl rfl (by simp [vb]) rfl fun a hA =>
                   o_no hA rfl rfl (by simp [vb]) rfl fun a hA =>
                   o_no hA rfl rfl (by simp [vb]) rfl fun a hA =>
                   o_no hA rfl rfl (by simp [vb]) rfl fun a hA =>
                   stp hA (r_pick_t hA rfl rfl rfl) rfl fun a hA=>?_
                  refine o_nil ?_
                  cases sJ H
                  exact ⟨hA.sub ⟨rfl,rfl,rfl,rfl,rfl,rfl,rfl,rfl,rfl,rfl,rfl,rfl,rfl,rfl,rfl,rfl,rfl,rfl,rfl,rfl,rfl,rfl,rfl,rfl,rfl,rfl,rfl,rfl,rfl,rfl,rfl,rfl,rfl,rfl,rfl,rfl,trivial⟩,hI⟩
                 ·have hc410:=hc41;have hc41:=nF hc41;have H:=bT H hc41
                  refine o_yes hA rfl rfl hc410 <|
                   stm hA rfl rfl fun a hA =>
                   o_yes hA rfl rfl hc410 <|
                   stm hA rfl rfl fun a hA =>
                   o_yes hA rfl rfl hc410<|?_
                  obtain ⟨r33,hr33,H⟩:=bB H
                  refine o_callp (u:=.bool r33) cf22 hA rfl hI ((by obtain ⟨μ8,hle5,hsv3,hI⟩:=hI.freezeRow 4 rfl;have hS6:Slc (RA .u8 32) 32 μ8 v18 r29.1:=⟨_,hE5,hsv3⟩;obtain ⟨μ9,hle6,hsv4,hI⟩:=hI.freezeRow 1 rfl;have hS7:Slc (RA .u8 32) 32 μ9 vvc7 c7:=⟨_,wc7,hsv4⟩;exact low_plain (hle5.trans hle6) (q0_SameHashes.c μ9 _ hI.agr r29.1 v18 (Slc.le hS6 (fun _ _ h=>h) hle6) c7 vvc7 hS7 r33 hr33))) rfl fun a w hz42 hI hA =>
                   o_yes hA rfl rfl hc410 <|
                   stp hA (r_not hA rfl) rfl fun a hA =>
                   stp hA (r_pick_f hA rfl hc410 rfl) rfl fun a hA =>
                   stm hA rfl rfl fun a hA=>?_
                  rcases Bool.eq_false_or_eq_true (!r33) with hc42 | hc42
                  ·have hc420:=hc42;have hc42:=nT hc42;have hc42:=ft hc42;have H:=bF H hc42
                   refine o_no hA rfl rfl (by rw [hc420];simp [vb]) rfl fun a hA =>
                    o_no hA rfl rfl (by rw [hc420];simp [vb]) rfl fun a hA =>
                    o_no hA rfl rfl (by rw [hc420];simp [vb]) rfl fun a hA =>
                    o_no hA rfl rfl (by rw [hc420];simp [vb]) rfl fun a hA =>
                    stp hA (r_pick_t hA rfl hc420 rfl) rfl fun a hA=>?_
                   refine o_nil ?_
                   cases sJ H
                   exact ⟨hA.sub ⟨rfl,rfl,rfl,rfl,rfl,rfl,rfl,rfl,rfl,rfl,rfl,rfl,rfl,rfl,rfl,rfl,rfl,rfl,rfl,rfl,rfl,rfl,rfl,rfl,rfl,rfl,rfl,rfl,rfl,rfl,rfl,rfl,rfl,rfl,rfl,rfl,trivial⟩,hI⟩
                  ·have hc420:=hc42;have hc42:=nF hc42;have H:=bT H hc42
                   refine o_yes hA rfl rfl hc420 <|
                    stm hA rfl rfl fun a hA =>
                    o_yes hA rfl rfl hc420 <|
                    stm hA rfl rfl fun a hA =>
                    o_yes hA rfl rfl hc420<|?_
                   obtain ⟨r34,hr34,H⟩:=bB H
                   refine o_callp (u:=.bool r34) cf22 hA rfl hI ((by obtain ⟨μ10,hle7,hsv5,hI⟩:=hI.freezeRow 5 rfl;have hS8:Slc (RA .u8 32) 32 μ10 v19 r29.2.1:=⟨_,hE6,hsv5⟩;obtain ⟨μ11,hle8,hsv6,hI⟩:=hI.freezeRow 2 rfl;have hS9:Slc (RA .u8 32) 32 μ11 vvc8 c8:=⟨_,wc8,hsv6⟩;exact low_plain (hle7.trans hle8) (q0_SameHashes.c μ11 _ hI.agr r29.2.1 v19 (Slc.le hS8 (fun _ _ h=>h) hle8) c8 vvc8 hS9 r34 hr34))) rfl fun a w hz43 hI hA =>
                    o_yes hA rfl rfl hc420 <|
                    stp hA (r_not hA rfl) rfl fun a hA =>
                    stp hA (r_pick_f hA rfl hc420 rfl) rfl fun a hA=>?_
                   refine o_nil ?_
                   cases sJ H
                   exact ⟨hA.sub ⟨rfl,rfl,rfl,rfl,rfl,rfl,rfl,rfl,rfl,rfl,rfl,rfl,rfl,rfl,rfl,rfl,rfl,rfl,rfl,rfl,rfl,rfl,rfl,rfl,rfl,rfl,rfl,rfl,rfl,rfl,rfl,rfl,rfl,rfl,rfl,rfl,trivial⟩,hI⟩
              ·rintro a w ⟨hA,hI⟩
               have H:=Hk9
               refine w_cond hA rfl (fun hc43=>?_) (fun hc43=>?_)
               ·have H:=bT H hc43
                refine w_seq fun _ hN44=>w_reg<|sta hA rfl rfl fun a hA=>?_
                refine o_nil<|hN44 _ _<|w_ret ?_
                have H:some (.inr (.inr false))=some z3:=H
                obtain rfl:=sI H
                have H:=Hk6
                have H:some (.inr false)=some z2:=H
                obtain rfl:=sI H
                have H:=Hk3
                have H:some false=some z1:=H
                obtain rfl:=sI H
                have H:=Hk1
                obtain rfl:=sJ H
                exact ret1 hA Tryz.results3 rfl ⟨_,rfl,rfl,trivial,hI.forget0⟩
               ·have hc43:=ft hc43;have H:=bF H hc43
                refine w_skip<|hN42 _ _<|w_reg<|stm hA rfl rfl fun a hA =>
                 stp hA (r_add hA rfl rfl) rfl fun a hA =>
                 sta hA rfl rfl fun a hA=>?_
                refine o_nil<|⟨m3,lS _,IntKind.i64.wrap (s6+1),H,(wrap_in _ _),hA.sub ⟨rfl,rfl,rfl,rfl,rfl,rfl,rfl,rfl,rfl,rfl,rfl,rfl,rfl,rfl,rfl,rfl,rfl,rfl,rfl,rfl,rfl,rfl,rfl,rfl,rfl,trivial⟩,(hI.sl [8,9,10,11,6,7,12,13,14,15,16] rfl)⟩
           ·obtain ⟨hc32,H⟩:=dF H hc32
            refine w_exit rfl<|hN28 _ _<|w_reg<|stm hA rfl rfl fun a hA =>
             stp hA (r_add hA rfl rfl) rfl fun a hA =>
             sta hA rfl rfl fun a hA=>?_
            refine o_nil ?_
            have H:some (.inl (IntKind.i64.wrap (s5+1)))=some z3:=H
            obtain rfl:=sI H
            have H:=Hk6
            exact ⟨m2,lS _,IntKind.i64.wrap (s5+1),H,(wrap_in _ _),hA.sub ⟨rfl,rfl,rfl,rfl,rfl,rfl,rfl,trivial⟩,(hI.sl [8,2,5,1,4,9,10] rfl)⟩
      ·obtain ⟨hc14,H⟩:=dF H hc14
       refine w_exit rfl<|hN24 _ _ ?_
       obtain ⟨c14,hz44,Hk10⟩:=bB H
       refine w_cut (fun a w=>Fr a 323 [(10,.bool c14)]∧Iv w0 [] μ μ3 [row 25 32 (.slice (some ⟨g4,0,none⟩) 3 3) ([r15,r17,[7,0,0,0,0,0,0,0,0,0,0,0,0,0,0,0,0,0,0,0,0,0,0,0,0,0,0,0,0,0,0,0]]:List (List Int)).length cs2,row 111 104 vvc1 c1.length ccc1,nd107 ggc2 c2 gsc2,cel g3 [[vvc1]] 114,cel g2 [[.map (some ggc2)],av .u8 32 c3] 109,row 27 68 v1 r2.length cs1,cel g1 [[.int .u32 x1.Version],av .u8 32 x1.Prev,av .u8 32 x1.Root,[.int .u32 x1.Time],[.int .u32 x1.Work],[.int .u32 x1.Nonce]] 27] w) ?_ ?_
       ·have H:=bI hz44
        refine w_reg<|stm hA rfl rfl fun a hA =>
         stm hA rfl rfl fun a hA=>?_
        rcases Bool.eq_false_or_eq_true r1 with hc44 | hc44
        ·have hc440:=hc44;have H:=bT H hc44
         refine o_yes hA rfl rfl hc440 <|
          stm hA rfl rfl fun a hA =>
          o_yes hA rfl rfl hc440<|?_
         obtain ⟨r35,hr35,H⟩:=bB H
         have hI:=hI.sl [4,2,0,1,3,5,6] rfl
         refine o_call _ cf28 hA rfl (tree_Tree_Len.c μ3 _ hI.agr (⟨c2,c3⟩:treeTree) ggc2 gsc2 g2 wc2 wc3 (hI.handN 2) r35 hr35) rfl fun v24 a w hz45 hA=>?_
         obtain ⟨rfl,hw43,hi20⟩:=hz45
         have hI:=hI.back2 hi20
         refine o_yes hA rfl rfl hc440 <|
          stm hA rfl rfl fun a hA =>
          o_yes hA rfl rfl hc440<|?_
         obtain ⟨r36,hr36,H⟩:=bB H
         have hI:=hI.sl [4,3,0,1,2,5,6] rfl
         refine o_call _ cf29 hA rfl (sargassoref8_Tree_Len.c μ3 _ hI.agr (⟨c1⟩:sargassoref8Tree) vvc1 ccc1 g3 wc1 (hI.handN 2) r36 hr36) rfl fun v25 a w hz46 hA=>?_
         obtain ⟨rfl,hw44,hi21⟩:=hz46
         have hI:=hI.back2 hi21
         refine o_yes hA rfl rfl hc440 <|
          stp hA (r_eql hA rfl rfl) rfl fun a hA =>
          stp hA (r_pick_t hA rfl hc440 rfl) rfl fun a hA =>
          stm hA rfl rfl fun a hA=>?_
         rcases Bool.eq_false_or_eq_true (decide (r35=r36)) with hc45 | hc45
         ·have hc450:=hc45;obtain ⟨hc45,H⟩:=dT H hc45
          refine o_yes hA rfl rfl hc450 <|
           stm hA rfl rfl fun a hA =>
           o_yes hA rfl rfl hc450<|?_
          obtain ⟨r37,hr37,H⟩:=bB H
          have hI:=hI.sl [2,3,0,1,4,5,6] rfl
          refine o_call _ cf30 hA rfl (tree_Tree_Start.c μ3 _ hI.agr (⟨c2,c3⟩:treeTree) ggc2 gsc2 g2 wc2 wc3 (hI.handN 2) r37 hr37) rfl fun v26 a w hz47 hA=>?_
          obtain ⟨rfl,hw45,hi22⟩:=hz47
          have hI:=hI.back2 hi22
          refine o_yes hA rfl rfl hc450 <|
           stm hA rfl rfl fun a hA =>
           o_yes hA rfl rfl hc450<|?_
          obtain ⟨r38,hr38,H⟩:=bB H
          have hI:=hI.sl [2,3,0,1,4,5,6] rfl
          refine o_call _ cf31 hA rfl (sargassoref8_Tree_Start.c μ3 _ hI.agr (⟨c1⟩:sargassoref8Tree) vvc1 ccc1 g3 wc1 (hI.handN 2) r38 hr38) rfl fun v27 a w hz48 hA=>?_
          obtain ⟨rfl,hw46,hi23⟩:=hz48
          have hI:=hI.back2 hi23
          refine o_yes hA rfl rfl hc450<|?_
          obtain ⟨r39,hr39,H⟩:=bB H
          refine o_callp (u:=.bool r39) cf21 hA rfl hI (q0_SameHash.c μ3 _ hI.agr r37 hw45 r38 hw46 r39 hr39) rfl fun a w hz49 hI hA =>
           stp hA (r_pick_t hA rfl hc450 rfl) rfl fun a hA =>
           sta hA rfl rfl fun a hA=>?_
          refine o_nil ?_
          cases sJ H
          exact ⟨hA.sub ⟨rfl,trivial⟩,(hI.sl [4,1,3,0,2,5,6] rfl)⟩
         ·have hc450:=hc45;obtain ⟨hc45,H⟩:=dF H hc45
          refine o_no hA rfl rfl (by rw [hc450];simp [vb]) rfl fun a hA =>
           o_no hA rfl rfl (by rw [hc450];simp [vb]) rfl fun a hA =>
           o_no hA rfl rfl (by rw [hc450];simp [vb]) rfl fun a hA =>
           o_no hA rfl rfl (by rw [hc450];simp [vb]) rfl fun a hA =>
           o_no hA rfl rfl (by rw [hc450];simp [vb]) rfl fun a hA =>
           stp hA (r_pick_f hA rfl hc450 rfl) rfl fun a hA =>
           sta hA rfl rfl fun a hA=>?_
          refine o_nil ?_
          cases sJ H
          exact ⟨hA.sub ⟨rfl,trivial⟩,(hI.sl [4,1,3,0,2,5,6] rfl)⟩
        ·have hc440:=hc44;have hc44:=ft hc44;have H:=bF H hc44
         refine o_no hA rfl rfl (by rw [hc440];simp [vb]) rfl fun a hA =>
          o_no hA rfl rfl (by rw [hc440];simp [vb]) rfl fun a hA =>
          o_no hA rfl rfl (by rw [hc440];simp [vb]) rfl fun a hA =>
          o_no hA rfl rfl (by rw [hc440];simp [vb]) rfl fun a hA =>
          o_no hA rfl rfl (by rw [hc440];simp [vb]) rfl fun a hA =>
          stp hA (r_pick_f hA rfl hc440 rfl) rfl fun a hA =>
          stm hA rfl rfl fun a hA =>
          o_no hA rfl rfl (by simp [vb]) rfl fun a hA =>
          o_no hA rfl rfl (by simp [vb]) rfl fun a hA =>
          o_no hA rfl rfl (by simp [vb]) rfl fun a hA =>
          o_no hA rfl rfl (by simp [vb]) rfl fun a hA =>
          o_no hA rfl rfl (by simp [vb]) rfl fun a hA =>
          stp hA (r_pick_f hA rfl rfl rfl) rfl fun a hA =>
          sta hA rfl rfl fun a hA=>?_
         refine o_nil ?_
         cases sJ H
         exact ⟨hA.sub ⟨rfl,trivial⟩,hI⟩
       ·rintro a w ⟨hA,hI⟩
        have H:=Hk10
        refine w_ret ?_
        have H:some (.inr c14)=some z2:=H
        obtain rfl:=sI H
        have H:=Hk3
        have H:some c14=some z1:=H
        obtain rfl:=sI H
        have H:=Hk1
        obtain rfl:=sJ H
        exact ret1 hA Tryz.results3 rfl ⟨_,rfl,rfl,trivial,hI.forget0⟩
theorem w64 {x:Int}(h0:-9223372036854775808≤x)(h1:x < 9223372036854775808):IntKind.i64.wrap x=x:=wrap_id ⟨h0,h1⟩
theorem wu64 {x:Int}(h0:0≤x)(h1:x < 18446744073709551616):IntKind.u64.wrap x=x:=wrap_id ⟨h0,h1⟩
theorem number_eq {x n:Int}(hx:InR .i64 x)(h0:0 < n)(h1:n < 9223372036854775808):∃ y,sargassoworld_Number.f x n=some y∧0≤y∧y < n:=by
 obtain ⟨a,b⟩:=hx
 have hn:n≠0:=by omega
 unfold sargassoworld_Number.f
 rw [if_pos hn]
 have hb:-n < Int.tmod x n∧Int.tmod x n < n:=by
  rcases Int.le_total 0 x with h | h
  ·rw [Int.tmod_eq_emod_of_nonneg h];have:=Int.emod_nonneg x hn;have:=Int.emod_lt_of_pos x h0;omega
  ·have e:Int.tmod x n=-(Int.tmod (-x) n):=by rw [Int.neg_tmod,Int.neg_neg]
   rw [e,Int.tmod_eq_emod_of_nonneg (by omega)];have:=Int.emod_nonneg (-x) hn;have:=Int.emod_lt_of_pos (-x) h0;omega
 by_cases hc:Int.tmod x n < 0
 ·rw [if_pos hc]
  exact ⟨_,rfl,by rw [w64 (by omega) (by omega)];omega,by rw [w64 (by omega) (by omega)];omega⟩
 ·rw [if_neg hc]
  exact ⟨_,rfl,by omega,by omega⟩
theorem loop_idx {τ ρ:Type}{step:τ→Option (τ⊕ρ)}(st:Nat→τ)(n:Nat)(h:∀ i,i < n→step (st i)=some (.inl (st (i+1)))):loopO step (st 0)=loopO step (st n):=by
 induction n with
 | zero=>rfl
 | succ n ih=>rw [ih (fun i hi=>h i (by omega)),loopO_inl (h n (by omega))]
theorem loop_run {τ ρ:Type}{step:τ→Option (τ⊕ρ)}(st:Nat→τ)(n:Nat){r:ρ}{s:τ}(h0:s=st 0)(h:∀ i,i < n→step (st i)=some (.inl (st (i+1))))(hn:step (st n)=some (.inr r)):loopO step s=some r:=by
 rw [h0,loop_idx st n h,loopO_inr hn]
theorem loop_exists {τ ρ:Type}{step:τ→Option (τ⊕ρ)}(I:Nat→τ→Prop)(n:Nat){r:ρ}{s:τ}(h0:I 0 s)(h:∀ i,i < n→∀ s,I i s→∃ s',step s=some (.inl s')∧I (i+1) s')(hn:∀ s,I n s→step s=some (.inr r)):loopO step s=some r:=by
 have key:∀ m k s,k+m=n→I k s→loopO step s=some r:=by
  intro m
  induction m with
  | zero=>intro k s e hI;exact loopO_inr (hn s (by rw [← e];exact hI))
  | succ m ih =>
   intro k s e hI
   obtain ⟨s',h1,h2⟩:=h k (by omega) s hI
   rw [loopO_inl h1]
   exact ih (k+1) s' (by omega) h2
 exact key n 0 s (by omega) h0
theorem loop_exists2 {τ ρ:Type}{step:τ→Option (τ⊕ρ)}(I:Nat→τ→Prop)(Post:ρ→Prop)(n:Nat){s:τ}(h0:I 0 s)(h:∀ i,i < n→∀ s,I i s→∃ s',step s=some (.inl s')∧I (i+1) s')(hn:∀ s,I n s→∃ r,step s=some (.inr r)∧Post r):∃ r,loopO step s=some r∧Post r:=by
 have key:∀ m k s,k+m=n→I k s→∃ r,loopO step s=some r∧Post r:=by
  intro m
  induction m with
  | zero =>
   intro k s e hI
   obtain ⟨r,h1,h2⟩:=hn s (by rw [← e];exact hI)
   exact ⟨r,loopO_inr h1,h2⟩
  | succ m ih =>
   intro k s e hI
   obtain ⟨s',h1,h2⟩:=h k (by omega) s hI
   rw [loopO_inl h1]
   exact ih (k+1) s' (by omega) h2
 exact key n 0 s (by omega) h0
theorem bv_nat (n a:Nat)(h:a < 2 ^ n):(BitVec.ofInt n (a:Int)).toNat=a:=by
 rw [BitVec.toNat_ofInt]
 have:((a:Int) % ((2 ^ n:Nat):Int))=a:=Int.emod_eq_of_lt (by omega) (by exact_mod_cast h)
 rw [this]
 rfl
theorem in_u (k:IntKind)(hk:k.signed=false){a:Nat}(h:a < 2 ^ k.bits):InR k (a:Int):=by
 cases k <;> simp [IntKind.signed] at hk <;> simp [IntKind.bits] at h <;> simp [InR] <;> omega
theorem bAnd_nat (k:IntKind)(hk:k.signed=false){a b:Nat}(ha:a < 2 ^ k.bits)(hb:b < 2 ^ k.bits):bAnd k a b=((a &&& b:Nat):Int):=by
 unfold bAnd
 rw [BitVec.toNat_and,bv_nat _ _ ha,bv_nat _ _ hb]
 exact wrap_id (in_u k hk (Nat.lt_of_le_of_lt Nat.and_le_left ha))
theorem sR_nat (k:IntKind){a n:Nat}(hn:n≤k.bits):sR k (a:Int) (n:Int)=((a >>> n:Nat):Int):=by
 unfold sR
 have e:min (n:Int).toNat k.bits=n:=by simp;omega
 rw [e,Nat.shiftRight_eq_div_pow]
 rw [Int.fdiv_eq_ediv_of_nonneg _ (by exact Int.pow_nonneg (by omega))]
 push_cast
 rfl
theorem nat_of {k:IntKind}(hk:k.signed=false){x:Int}(h:InR k x):∃ a:Nat,x=a∧a < 2 ^ k.bits:=by
 refine ⟨x.toNat,?_,?_⟩
 ·cases k <;> simp [IntKind.signed] at hk <;> simp [InR] at h <;> omega
 ·cases k <;> simp [IntKind.signed] at hk <;> simp [InR] at h <;> simp [IntKind.bits] <;> omega
theorem and_low (n i:Nat):n &&& (2 ^ i - 1)=n % 2 ^ i:=Nat.and_two_pow_sub_one_eq_mod n i
def rotr (x n:Int):Int:=bOr .u32 (sR .u32 x n) (sL .u32 x (32 - n))
def wordAt (b:List Int)(p:Nat):Int :=
 bOr .u32 (bOr .u32 (bOr .u32 (sL .u32 (IntKind.u32.wrap (b.getD p 0)) 24) (sL .u32 (IntKind.u32.wrap (b.getD (p+1) 0)) 16)) (sL .u32 (IntKind.u32.wrap (b.getD (p+2) 0)) 8)) (IntKind.u32.wrap (b.getD (p+3) 0))
def sg0 (y:Int):Int:=bXor .u32 (bXor .u32 (rotr y 7) (rotr y 18)) (sR .u32 y 3)
def sg1 (x:Int):Int:=bXor .u32 (bXor .u32 (rotr x 17) (rotr x 19)) (sR .u32 x 10)
def schedVal (b:List Int)(p:Nat)(w:List Int)(t:Nat):Int :=
 if t < 16 then wordAt b (p+4 * t) else IntKind.u32.wrap (w.getD (t - 16) 0+sg0 (w.getD (t - 15) 0)+w.getD (t - 7) 0+sg1 (w.getD (t - 2) 0))
def schedR (b:List Int)(p:Nat):Nat→List Int
 | 0=>List.replicate 64 0
 | t+1=>(fun w=>w.set t (schedVal b p w t)) (schedR b p t)
def kc:List Int:=digest_keys.lit0
def rt1 (x:List Int)(k w:Int):Int:=IntKind.u32.wrap (x.getD 7 0+bXor .u32 (bXor .u32 (rotr (x.getD 4 0) 6) (rotr (x.getD 4 0) 11)) (rotr (x.getD 4 0) 25)+bXor .u32 (bAnd .u32 (x.getD 4 0) (x.getD 5 0)) (bAnd .u32 (bNot .u32 (x.getD 4 0)) (x.getD 6 0))+k+w)
def rt2 (x:List Int):Int:=bXor .u32 (bXor .u32 (rotr (x.getD 0 0) 2) (rotr (x.getD 0 0) 13)) (rotr (x.getD 0 0) 22)+bXor .u32 (bXor .u32 (bAnd .u32 (x.getD 0 0) (x.getD 1 0)) (bAnd .u32 (x.getD 0 0) (x.getD 2 0))) (bAnd .u32 (x.getD 1 0) (x.getD 2 0))
def rstep (x:List Int)(k w:Int):List Int :=
 [IntKind.u32.wrap (rt1 x k w+rt2 x),x.getD 0 0,x.getD 1 0,x.getD 2 0,IntKind.u32.wrap (x.getD 3 0+rt1 x k w),x.getD 4 0,x.getD 5 0,x.getD 6 0]
def roundR (w s:List Int):Nat→List Int
 | 0=>s
 | t+1=>rstep (roundR w s t) (kc.getD t 0) (w.getD t 0)
def addR (x s:List Int):Nat→List Int
 | 0=>s
 | i+1=>(fun z=>z.set i (IntKind.u32.wrap (z.getD i 0+x.getD i 0))) (addR x s i)
def mixV (s b:List Int)(p:Nat):List Int:=addR (roundR (schedR b p 64) s 64) s 8
def blocksR (m s:List Int):Nat→List Int
 | 0=>s
 | n+1=>mixV (blocksR m s n) m (64 * n)
def iv0:List Int:=[1779033703,3144134277,1013904242,2773480762,1359893119,2600822924,528734635,1541459225]
def outB (s:List Int)(i:Nat):Int:=IntKind.u8.wrap (sR .u32 (s.getD (i / 4) 0) (24 - 8 * ((i % 4:Nat):Int)))
def outL (s:List Int):List Int:=(List.range 32).map (outB s)
def zs (n:Nat):Nat:=(120 - n % 64) % 64
def lenB (n i:Nat):Int:=IntKind.u8.wrap (sR .u64 (IntKind.u64.wrap (8 * (n:Int))) (8 * (7 - (i:Int))))
def padR (m:List Int):List Int:=m++([128]++(List.replicate (zs (m.length+1)) 0++(List.range 8).map (lenB m.length)))
def sha (m:List Int):List Int:=outL (blocksR (padR m) iv0 ((padR m).length / 64))
end Go.Proofs.YtdngkgkkblfcjaaGreatDoor.T
