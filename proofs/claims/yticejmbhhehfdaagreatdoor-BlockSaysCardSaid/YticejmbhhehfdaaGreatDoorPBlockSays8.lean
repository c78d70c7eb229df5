/- Proved: the statement BlockSays, as given (its conditions are those of the given row, and card where there is one; no others): the call ends, with true, and the input reads as it did. This file is one of its parts. -/
import Derived.Test.YticejmbhhehfdaaGreatDoorPBlockSays7
import Derived.Test.YticejmbhhehfdaaGreatDoorRows
import Derived.WalkKit
import Derived.ProofKit
import Derived.OpenShut
import Derived.ShutString
import Derived.ChangeOld
import Derived.Below
import Derived.Carry
import Derived.SizedLaws
import Derived.LaidLaws
import Derived.LaidHandle
import Derived.ChangeVars
import Derived.Handed
import Derived.SevenTiedAt
import Derived.Test.YticejmbhhehfdaaGreatDoorCards
import Derived.Test.YticejmbhhehfdaaGreatDoorTie
namespace Go.Proofs.YticejmbhhehfdaaGreatDoor.zBlockSays
open Go Go.Proofs Go.Proofs.YticejmbhhehfdaaGreatDoor.K Go.Proofs.YticejmbhhehfdaaGreatDoor.T
open Go.ChangeShapes Go.WideShapes Go.ChangeAt Go.RowKit
set_option linter.unusedVariables false
theorem met (os:Os)(args:Array Value):laidMetH Tryz.prog Rows.blockSaysRow.laid ((laidWorld os).forCall (fun _ _=>0) ⟨#[],args,[]⟩).memory :=
 laidMetH_of_parts (laidMet_of_run' 8 (by kernel_rfl) (by kernel_rfl)) (by kernel_rfl)
set_option maxRecDepth 100000 in
theorem lifted (os:Os)(started:os.Started)(H:Type)(enc:TypeId×Value→H) :
  ReturnsInHanded {} Tryz.checked os 3 .any (fun w args=>(Rows.blockSaysSpec.pre enc Tryz.prog Tryz.f3 [] false w args∧laidMetH Tryz.prog Rows.blockSaysRow.laid w)∧sizedMet enc Tryz.prog Tryz.f3 (OpenSpec.ofChange Rows.blockSaysSpec) false w args) (Rows.blockSaysSpec.post enc Tryz.prog Tryz.f3 false true false false):=by
 refine returnsInHanded_of_change_and (C:=Tryz.checked) (X:=fun w _=>laidMetH Tryz.prog Rows.blockSaysRow.laid w) (fun _ _ _ hh h=>h.of_heap hh) own started (by kernel_rfl) Tryz.func3
  (ChangeSpec.witness_at (enc:=enc) (C:=Tryz.checked) (os:=os) (X:=fun w _=>laidMetH Tryz.prog Rows.blockSaysRow.laid w) false (laidWorld os) #[.agg #[.int .u32 0,.int .u8 0,.int .u8 0,.int .u8 0,.int .u8 0,.int .u8 0,.int .u8 0,.int .u8 0,.int .u8 0,.int .u8 0,.int .u8 0,.int .u8 0,.int .u8 0,.int .u8 0,.int .u8 0,.int .u8 0,.int .u8 0,.int .u8 0,.int .u8 0,.int .u8 0,.int .u8 0,.int .u8 0,.int .u8 0,.int .u8 0,.int .u8 0,.int .u8 0,.int .u8 0,.int .u8 0,.int .u8 0,.int .u8 0,.int .u8 0,.int .u8 0,.int .u8 0,.int .u8 0,.int .u8 0,.int .u8 0,.int .u8 0,.int .u8 0,.int .u8 0,.int .u8 0,.int .u8 0,.int .u8 0,.int .u8 0,.int .u8 0,.int .u8 0,.int .u8 0,.int .u8 0,.int .u8 0,.int .u8 0,.int .u8 0,.int .u8 0,.int .u8 0,.int .u8 0,.int .u8 0,.int .u8 0,.int .u8 0,.int .u8 0,.int .u8 0,.int .u8 0,.int .u8 0,.int .u8 0,.int .u8 0,.int .u8 0,.int .u8 0,.int .u8 0,.int .u32 0,.int .u32 0,.int .u32 0,.slice none 0 0],.slice none 0 0] 8 rfl (by kernel_rfl) (by kernel_rfl) (by kernel_rfl) (by kernel_rfl) (by kernel_rfl) (met os _)) ?_
 intro W base args ds gs before hval0 hW hcnd hsz0 hL _
 have hL:laidMet Tryz.prog Rows.blockSaysRow.laid W:=hL
 have hG:Gl (mem W):=⟨sent0 hL (List.mem_of_getElem? (i:=1) rfl),sent1 hL (List.mem_of_getElem? (i:=3) rfl),sent2 hL (List.mem_of_getElem? (i:=2) rfl),sent3 hL (List.mem_of_getElem? (i:=5) rfl),sent4 hL (List.mem_of_getElem? (i:=7) rfl),sent5 hL (List.mem_of_getElem? (i:=21) rfl),sent6 hL (List.mem_of_getElem? (i:=6) rfl),sent7 hL (List.mem_of_getElem? (i:=13) rfl),sent8 hL (List.mem_of_getElem? (i:=4) rfl),sent9 hL (List.mem_of_getElem? (i:=0) rfl),sent10 hL (List.mem_of_getElem? (i:=8) rfl),sent11 hL (List.mem_of_getElem? (i:=9) rfl),sent12 hL (List.mem_of_getElem? (i:=10) rfl),sent13 hL (List.mem_of_getElem? (i:=11) rfl),sent14 hL (List.mem_of_getElem? (i:=12) rfl),sent15 hL (List.mem_of_getElem? (i:=14) rfl),sent16 hL (List.mem_of_getElem? (i:=15) rfl),sent17 hL (List.mem_of_getElem? (i:=16) rfl),sent18 hL (List.mem_of_getElem? (i:=17) rfl),sent19 hL (List.mem_of_getElem? (i:=18) rfl),sent20 hL (List.mem_of_getElem? (i:=19) rfl),sent21 hL (List.mem_of_getElem? (i:=20) rfl),sent22 hL (List.mem_of_getElem? (i:=22) rfl),sent23 hL (List.mem_of_getElem? (i:=23) rfl),sent24 hL (List.mem_of_getElem? (i:=24) rfl)⟩
 have hW':=hW
 obtain ⟨p,q,hA0,hV,rfl,hfz,hnd⟩:=hW
 have hA:DataW.TrodAll enc Tryz.prog W 0 (fun _=>true) true Tryz.f3.params.toList args.toList ds p:=hA0
 have hval:∀ (j:Nat) t v,Tryz.f3.params[j]?=some t→args[j]?=some v→Value.okWide Tryz.prog W .any base t v:=hval0
 rw [Tryz.params3] at hA hval
 obtain ⟨v0,vs0,d0,ds0,p0,q0,hargs,rfl,rfl,h0,r0⟩:=trodAll_cons hA
 obtain ⟨v1,vs1,d1,ds1,p1,q1,rfl,rfl,rfl,h1,r1⟩:=trodAll_cons r0
 obtain ⟨rfl,rfl,rfl⟩:=trodAll_nil r1
 obtain rfl:args=#[v0,v1]:=by cases args;simp_all
 obtain ⟨rfl,rfl⟩:=trodVars_none hV
 obtain ⟨c0,rfl,x0,u0_0,rfl,w0⟩:=at_agg (agg_struct Tryz.underlying29 (hval 0 29 v0 rfl rfl)) rd29 h0
 obtain ⟨x1,w1⟩:=at_slice Tryz.underlying30 (hval 1 30 v1 rfl rfl) rd30 h1
 have hμ:Agr (mem W) W:=agr_mem W
 have hm:=q7_BlockSays.m (mem W) x0 u0_0 w0 x1 v1 w1
 refine (q7_BlockSays.c (mem W) W hμ x0 u0_0 w0 x1 v1 w1 hG true hm).mono fun e W' ⟨v,he,hv,_,hI⟩=>?_
 subst hv
 subst he
 have bel:Below W.heap.size W W':=hI.below
 exact ⟨_,rfl,_,_,_,[],_,[],hW',trodAll_mk1 (shut_bool Tryz.underlying4 _),(trodAll_cons_mk (again laid rr29 tr29 h0 bel) (trodAll_cons_mk (again laid rr30 tr30 h1 bel) trodAll_mk0)),rfl,bel.frame _,fun h=>by cases h⟩
theorem closed:joinedFacts Tryz.prog 3 Tryz.f3 Rows.blockSaysSpec Rows.blockSaysRow=true:=by
 unfold joinedFacts
 rw [J.may,J.lifts,J.make]
 kernel_rfl
theorem over:Rows.blockSaysRow.holds Tryz.pinned (OpenSpec.ofChange Rows.blockSaysSpec) :=
 OpenClaim.holds_of_wide 3 Tryz.f3 rfl rfl rfl rfl rfl rfl rfl ⟨rfl,rfl,rfl,rfl,rfl⟩ rfl rfl rfl rfl rfl (by kernel_rfl) Tryz.func3 closed
  (of_decide_eq_true (by kernel_rfl)) (by unfold Func.isWrapper;first | (rw [if_pos (by decide +kernel)];kernel_rfl) | (rw [if_neg (by decide +kernel)];exact ⟨rfl,rfl⟩))
  (fun os started H enc _=>lifted os started H enc)
theorem card:Rows.BlockSaysCardSaid :=
 Claim7.holds_tied_plain_at .later [] [.sentinel, .sentinel, .sentinel, .sentinel, .sentinel, .sentinel, .sentinel, .sentinel, .sentinel, .sentinel, .sentinel, .sentinel, .sentinel, .sentinel, .sentinel, .sentinel, .sentinel, .sentinel, .sentinel, .sentinel, .sentinel, .sentinel, .sentinel, .sentinel, .sentinel] true (true, "3625c5ee343a4dcbc44d2839350c9f6547aa34fb51e4e49638d0175c70bb2875") true
  over (fun _ h=>by cases h) (by kernel_rfl) (fun _ h=>by cases h) blockSays_row_tie rfl ⟨rfl,rfl⟩ (J.mainIs.trans (congrArg (fun s=>some (true,s)) (by kernel_rfl))) rfl
  (fun f fn hf hfn=>by
   obtain rfl : f = 3 := Option.some.inj ((show Tryz.prog.funcNamed "sargasso/sargassolaw7.BlockSays" = some 3 by kernel_rfl).symm.trans hf) |>.symm
   obtain rfl:fn=Tryz.f3:=(Option.some.inj (Tryz.func3.symm.trans hfn)).symm
   exact ⟨by kernel_rfl,fun j t ht=>by
    rw [Tryz.params3] at ht
    rcases j with _ | _ | j
    ·obtain rfl:(29:TypeId)=t:=by simpa using ht
     exact (show Tryz.prog.wantsStandIn 29=false by kernel_rfl)
    ·obtain rfl:(30:TypeId)=t:=by simpa using ht
     exact (show Tryz.prog.wantsStandIn 30=false by kernel_rfl)
    ·simp at ht⟩)
  (by kernel_rfl)
end Go.Proofs.YticejmbhhehfdaaGreatDoor.zBlockSays
namespace Go.Proofs.YticejmbhhehfdaaGreatDoor
theorem blockSays_holds:Rows.BlockSaysCardSaid:=zBlockSays.card
#print axioms blockSays_holds
end Go.Proofs.YticejmbhhehfdaaGreatDoor
