/- Proved: the statement TxBases, as given (its conditions are those of the given row, and card where there is one; no others): the call ends, with true, and the input reads as it did. This file is one of its parts. -/
import Derived.Test.YtpeelghbhihgkaaDoorPTxBases2
import Derived.OpenShut
import Derived.ChangeArms
import Derived.DataReads
import Derived.WideShapes
import Derived.Below
import Derived.Carry
import Derived.ChangeOld
import Derived.LaidLaws
import Derived.Stop.ErrReads
import Derived.ChangeVars
import Derived.Test.YtpeelghbhihgkaaDoorRows
import Derived.Test.YtpeelghbhihgkaaDoorProg
import Derived.JoinedOf
import Derived.ProofKit
import Derived.WalkKit
import Derived.ShutString
import Derived.SizedLaws
import Derived.LaidHandle
import Derived.Handed
import Derived.SevenTiedAt
import Derived.Test.YtpeelghbhihgkaaDoorCards
import Derived.Test.YtpeelghbhihgkaaDoorTie
namespace Go.Proofs.YtpeelghbhihgkaaDoor.T
open Go Go.Proofs Go.Proofs.YtpeelghbhihgkaaDoor.K
set_option linter.unusedVariables false
set_option linter.unusedSimpArgs false
set_option maxRecDepth 20000 in
theorem sargassolaw4_TxBases.c (μ : Store) (w0 : World) (hμ : Agr μ w0) (x0 : List Int) (u0 : Value) (hx0 : Slc (RI .u8) 1 μ u0 x0) (x1 : Int) (hx1 : InR .u64 x1) (hG : Gl μ) (r : Bool) (H : sargassolaw4_TxBases.f x0 x1 = some r) :
    Calls Tryd.prog 9 [u0, .int .u64 x1].toArray w0 (fun e w' => ∃ v, e = .returned v ∧ v = .bool r ∧ True ∧ Iv w0 [] μ μ [] w') := by
  refine enter Tryd.func9 rfl Tryd.ntmps9 rfl fun a hA => ?_
  have hI := Iv.start hμ
  have H := bI H
  obtain ⟨e1, he1⟩ := hG.g1
  obtain ⟨e2, he2⟩ := hG.g2
  obtain ⟨e3, he3⟩ := hG.g3
  obtain ⟨e4, he4⟩ := hG.g4
  obtain ⟨e5, he5⟩ := hG.g5
  obtain ⟨e9, he9⟩ := hG.g9
  refine w_seq fun _ hN1 => ?_
  refine w_reg ?_
  refine stp hA (r_as hA rfl) rfl fun a hA => ?_
  refine o_nil ?_
  refine hN1 _ _ ?_
  refine w_seq fun _ hN2 => ?_
  refine w_reg ?_
  obtain ⟨r1, hr1, H⟩ := bB H
  refine o_callp (u := .bool r1) cf45 hA rfl hI (sargassolaw4_first.c μ _ hI.agr  r1 hr1) rfl fun a w hz1 hI hA => 
    stp hA (r_as hA rfl) rfl fun a hA => ?_
  refine o_nil ?_
  refine hN2 _ _ ?_
  refine w_seq fun _ hN3 => ?_
  refine w_seq fun _ hN4 => ?_
  refine w_reg ?_
  refine stp hA (r_mv hA rfl) rfl fun a hA => 
    stp hA (r_not hA rfl) rfl fun a hA => ?_
  refine o_nil ?_
  refine hN4 _ _ ?_
  refine w_cond hA rfl (fun hc1 => ?_) (fun hc1 => ?_)
  · have hc10 := hc1; have hc1 := nT hc1; have hc1 := ft hc1; have H := bF H hc1
    refine w_seq fun _ hN5 => ?_
    refine w_reg ?_
    refine stp hA (r_as hA rfl) rfl fun a hA => ?_
    refine o_nil ?_
    refine hN5 _ _ ?_
    refine w_ret ?_
    obtain rfl := Option.some.inj (bS H)
    exact ret1 hA Tryd.results9 rfl ⟨_, rfl, rfl, trivial, hI.forget0⟩
  · have hc10 := hc1; have hc1 := nF hc1; have H := bT H hc1
    refine w_skip ?_
    refine hN3 _ _ ?_
    refine w_seq fun _ hN6 => ?_
    refine w_seq fun _ hN7 => ?_
    refine w_reg ?_
    refine stp hA (r_mv hA rfl) rfl fun a hA => ?_
    obtain ⟨_, hsl1⟩ := Slc.sv hx0
    refine stp hA (r_slen Tryd.underlying23 hsl1 hA rfl) rfl fun a hA => 
      stp hA (r_gtr hA rfl rfl) rfl fun a hA => ?_
    refine o_nil ?_
    refine hN7 _ _ ?_
    refine w_cond hA rfl (fun hc2 => ?_) (fun hc2 => ?_)
    · have hc20 := hc2; have hc2 := of_decide_eq_true hc2; have H := bT H hc2
      refine w_seq fun _ hN8 => ?_
      refine w_reg ?_
      refine stp hA (r_mv hA rfl) rfl fun a hA => 
        stp hA (r_as hA rfl) rfl fun a hA => ?_
      refine o_nil ?_
      refine hN8 _ _ ?_
      refine w_ret ?_
      obtain rfl := Option.some.inj (bS H)
      exact ret1 hA Tryd.results9 rfl ⟨_, rfl, rfl, trivial, hI.forget0⟩
    · have hc20 := hc2; have hc2 := of_decide_eq_false hc2; have H := bF H hc2
      refine w_skip ?_
      refine hN6 _ _ ?_
      refine w_seq fun _ hN9 => ?_
      refine w_reg ?_
      obtain ⟨r2, hr2, H⟩ := bB H
      refine o_callp (u := .agg [av .u8 32 r2.Tx, [.int .u32 r2.N]].flatten.toArray) cf47 hA rfl hI (sargassoref1_Null.c μ _ hI.agr  r2 hr2) rfl fun a w hz2 hI hA => 
        stp hA (r_mv hA rfl) rfl fun a hA => 
        stp hA (r_bldS (cs := [av .u8 32 r2.Tx, [.int .u32 r2.N], [u0], [.int .u32 0]].flatten.toArray) (pl := [(0, 33), (33, 1), (34, 1)]) zr62 Tryd.underlying62 ⟨rfl, sz60, rfl, sz23, rfl, sz39, trivial⟩ hA rfl ((fill_seg [] [av .u8 32 (List.replicate 32 0), [.int .u32 0]] [av .u8 32 r2.Tx, [.int .u32 r2.N]] [[(.slice none 0 0)], [.int .u32 0]] rfl rfl rfl rfl rfl).trans ((fill_seg [av .u8 32 r2.Tx, [.int .u32 r2.N]] [[(.slice none 0 0)]] [[u0]] [[.int .u32 0]] (cells1 hx0) rfl rfl rfl rfl).trans (rfl)))) rfl fun a hA => ?_
      have hE1 : Els (RIn μ) 35 ([(⟨r2, x0, 0⟩ : In)] : List In) ([av .u8 32 r2.Tx, [.int .u32 r2.N], [u0], [.int .u32 0]].flatten ++ ([])) := (Els.cons (c := [av .u8 32 r2.Tx, [.int .u32 r2.N], [u0], [.int .u32 0]].flatten) ⟨u0, rfl, ⟨hz2.1, hz2.2, hx0, (in_lit .u32 0 rfl)⟩⟩ rfl Els.nil)
      refine o_bsl ([av .u8 32 r2.Tx, [.int .u32 r2.N], [u0], [.int .u32 0]].flatten ++ ([])) te62 zr62 Tryd.underlying63 hI hA rfl rfl rfl rfl (by kernel_rfl) rfl fun g1 a w hA hI => ?_
      generalize hcs : ([av .u8 32 r2.Tx, [.int .u32 r2.N], [u0], [.int .u32 0]].flatten ++ ([]) : List Value) = cs1 at hE1 hI
      clear hcs
      refine stp hA (r_mv hA rfl) rfl fun a hA => 
        stp hA (r_rem hA rfl rfl (by decide)) rfl fun a hA => 
        stp hA (r_bldS (cs := [[.int .u64 (Int.tmod x1 1000)], av .u8 32 (List.replicate 32 0)].flatten.toArray) (pl := [(0, 1), (1, 32)]) zr65 Tryd.underlying65 ⟨rfl, sz22, rfl, sz55, trivial⟩ hA rfl (by kernel_rfl)) rfl fun a hA => ?_
      have hE2 : Els (ROut μ) 33 ([(⟨Int.tmod x1 1000, (List.replicate 32 0)⟩ : Out)] : List Out) ([[.int .u64 (Int.tmod x1 1000)], av .u8 32 (List.replicate 32 0)].flatten ++ ([])) := (Els.cons (c := [[.int .u64 (Int.tmod x1 1000)], av .u8 32 (List.replicate 32 0)].flatten) ⟨rfl, ⟨(tmod_in hx1 _), (arr_zero _ _)⟩⟩ rfl Els.nil)
      refine o_bsl ([[.int .u64 (Int.tmod x1 1000)], av .u8 32 (List.replicate 32 0)].flatten ++ ([])) te65 zr65 Tryd.underlying66 hI hA rfl rfl rfl rfl (by kernel_rfl) rfl fun g2 a w hA hI => ?_
      generalize hcs : ([[.int .u64 (Int.tmod x1 1000)], av .u8 32 (List.replicate 32 0)].flatten ++ ([]) : List Value) = cs2 at hE2 hI
      clear hcs
      refine stp hA (r_bldS (cs := [[.int .u32 0], [(.slice (some ⟨g1, 0, none⟩) 1 1)], [(.slice (some ⟨g2, 0, none⟩) 1 1)], [.int .u32 0]].flatten.toArray) (pl := [(0, 1), (1, 1), (2, 1), (3, 1)]) zr68 Tryd.underlying68 ⟨rfl, sz39, rfl, sz63, rfl, sz66, rfl, sz39, trivial⟩ hA rfl ((fill_one (own_cell hI (j := 1) rfl) rfl (by kernel_rfl)).trans ((fill_one (own_cell hI (j := 0) rfl) rfl (by kernel_rfl)).trans (by kernel_rfl)))) rfl fun a hA => 
        o_new [[.int .u32 0], [(.slice none 0 0)], [(.slice none 0 0)], [.int .u32 0]] zr68 hI hA rfl fun g3 a w hA hI hg3 => 
        o_st (j := 0) [] [[.int .u32 0], [(.slice none 0 0)], [(.slice none 0 0)], [.int .u32 0]] [[.int .u32 0], [(.slice (some ⟨g1, 0, none⟩) 1 1)], [(.slice (some ⟨g2, 0, none⟩) 1 1)], [.int .u32 0]] [] sz68 rfl rfl (fl_cons (one_one rfl) (fl_cons (one_one (own_one hI (j := 2) rfl)) (fl_cons (one_one (own_one hI (j := 1) rfl)) (fl_cons (one_one rfl) fl_nil)))) hI rfl hA rfl rfl rfl rfl fun w hI => ?_
      refine o_nil ?_
      refine hN9 _ _ ?_
      refine w_seq fun _ hN10 => ?_
      refine w_reg ?_
      refine stp hA (r_ldA (j := 0) [] [[.int .u32 0], [(.slice (some ⟨g1, 0, none⟩) 1 1)], [(.slice (some ⟨g2, 0, none⟩) 1 1)], [.int .u32 0]] [] Tryd.underlying68 rfl sz68 rfl hI rfl hA rfl rfl) rfl fun a hA => 
        o_new [[.int .u32 0], [(.slice none 0 0)], [(.slice none 0 0)], [.int .u32 0]] zr68 hI hA rfl fun g4 a w hA hI hg4 => 
        o_st (j := 0) [] [[.int .u32 0], [(.slice none 0 0)], [(.slice none 0 0)], [.int .u32 0]] [[.int .u32 0], [(.slice (some ⟨g1, 0, none⟩) 1 1)], [(.slice (some ⟨g2, 0, none⟩) 1 1)], [.int .u32 0]] [] sz68 rfl rfl (fl_cons (one_one rfl) (fl_cons (one_one (own_one hI (j := 3) rfl)) (fl_cons (one_one (own_one hI (j := 2) rfl)) (fl_cons (one_one rfl) fl_nil)))) hI rfl hA rfl rfl rfl rfl fun w hI => ?_
      refine o_nil ?_
      refine hN10 _ _ ?_
      refine w_seq fun _ hN11 => ?_
      refine w_reg ?_
      refine stp hA (r_bldS (cs := [av .u8 32 (List.replicate 32 0), [.int .u32 1]].flatten.toArray) (pl := [(0, 32), (32, 1)]) zr60 Tryd.underlying60 ⟨rfl, sz55, rfl, sz39, trivial⟩ hA rfl (by kernel_rfl)) rfl fun a hA => 
        stp hA (r_bldS (cs := [av .u8 32 (List.replicate 32 0), [.int .u32 1], [(.slice none 0 0)], [.int .u32 0]].flatten.toArray) (pl := [(0, 33), (33, 1), (34, 1)]) zr62 Tryd.underlying62 ⟨rfl, sz60, rfl, sz23, rfl, sz39, trivial⟩ hA rfl (by kernel_rfl)) rfl fun a hA => 
        stp hA (r_fd (k := 1) Tryd.underlying68 rfl sz63 hA rfl rfl) rfl fun a hA => 
        stp hA (r_ld1 (j := 1) [[.int .u32 0]] [[(.slice (some ⟨g2, 0, none⟩) 1 1)], [.int .u32 0]] Tryd.underlying63 rfl hI rfl hA rfl rfl) rfl fun a hA => ?_
      obtain ⟨hb1, H⟩ := bG H
      refine stp hA (r_rix (j := 3) Tryd.underlying63 sz62 hI rfl hA rfl rfl (by decide) hb1) rfl fun a hA => ?_
      obtain ⟨A1, _, B1, hc3, hl1, _, he1⟩ := Els.at_ hE1 (getD_some default (by decide) hb1)
      obtain ⟨v1, rfl, hw1⟩ := he1
      refine stp hA (r_rldP (j := 3) (q := (0 : Int).toNat * 35) (off := 0) A1 B1 [] [av .u8 32 ((([(⟨r2, x0, 0⟩ : In)] : List In).getD (0 : Int).toNat default).From.Tx), [.int .u32 ((([(⟨r2, x0, 0⟩ : In)] : List In).getD (0 : Int).toNat default).From.N)], [v1], [.int .u32 ((([(⟨r2, x0, 0⟩ : In)] : List In).getD (0 : Int).toNat default).Seq)]] [] hc3 hl1 rfl Tryd.underlying62 rfl sz62 rfl hI rfl hA rfl) rfl fun a hA => ?_
      have hE3 : Els (RIn μ) 35 ([(⟨(⟨(List.replicate 32 0), 1⟩ : Point), [], 0⟩ : In), (([(⟨r2, x0, 0⟩ : In)] : List In).getD (0 : Int).toNat default)] : List In) ([av .u8 32 (List.replicate 32 0), [.int .u32 1], [(.slice none 0 0)], [.int .u32 0]].flatten ++ ([av .u8 32 ((([(⟨r2, x0, 0⟩ : In)] : List In).getD (0 : Int).toNat default).From.Tx), [.int .u32 ((([(⟨r2, x0, 0⟩ : In)] : List In).getD (0 : Int).toNat default).From.N)], [v1], [.int .u32 ((([(⟨r2, x0, 0⟩ : In)] : List In).getD (0 : Int).toNat default).Seq)]].flatten ++ ([]))) := (Els.cons (c := [av .u8 32 (List.replicate 32 0), [.int .u32 1], [(.slice none 0 0)], [.int .u32 0]].flatten) ⟨(.slice none 0 0), rfl, ⟨(arr_zero _ _), (in_lit .u32 1 rfl), (slc_nil _ _ _), (in_lit .u32 0 rfl)⟩⟩ rfl (Els.cons (c := [av .u8 32 ((([(⟨r2, x0, 0⟩ : In)] : List In).getD (0 : Int).toNat default).From.Tx), [.int .u32 ((([(⟨r2, x0, 0⟩ : In)] : List In).getD (0 : Int).toNat default).From.N)], [v1], [.int .u32 ((([(⟨r2, x0, 0⟩ : In)] : List In).getD (0 : Int).toNat default).Seq)]].flatten) ⟨v1, rfl, ⟨hw1.1, hw1.2.1, hw1.2.2.1, hw1.2.2.2⟩⟩ rfl Els.nil))
      refine o_bsl ([av .u8 32 (List.replicate 32 0), [.int .u32 1], [(.slice none 0 0)], [.int .u32 0]].flatten ++ ([av .u8 32 ((([(⟨r2, x0, 0⟩ : In)] : List In).getD (0 : Int).toNat default).From.Tx), [.int .u32 ((([(⟨r2, x0, 0⟩ : In)] : List In).getD (0 : Int).toNat default).From.N)], [v1], [.int .u32 ((([(⟨r2, x0, 0⟩ : In)] : List In).getD (0 : Int).toNat default).Seq)]].flatten ++ ([]))) te62 zr62 Tryd.underlying63 hI hA rfl rfl rfl rfl (by kernel_rfl) rfl fun g5 a w hA hI => ?_
      generalize hcs : ([av .u8 32 (List.replicate 32 0), [.int .u32 1], [(.slice none 0 0)], [.int .u32 0]].flatten ++ ([av .u8 32 ((([(⟨r2, x0, 0⟩ : In)] : List In).getD (0 : Int).toNat default).From.Tx), [.int .u32 ((([(⟨r2, x0, 0⟩ : In)] : List In).getD (0 : Int).toNat default).From.N)], [v1], [.int .u32 ((([(⟨r2, x0, 0⟩ : In)] : List In).getD (0 : Int).toNat default).Seq)]].flatten ++ ([])) : List Value) = cs3 at hE3 hI
      clear hcs
      refine stp hA (r_fd (k := 1) Tryd.underlying68 rfl sz63 hA rfl rfl) rfl fun a hA => ?_
      have hone := own_one hI (j := 0) rfl
      have hcel := own_cell hI (j := 0) rfl
      refine o_st (j := 1) [[.int .u32 0]] [[(.slice (some ⟨g1, 0, none⟩) 1 1)]] [[(.slice (some ⟨g5, 0, none⟩) 2 2)]] [[(.slice (some ⟨g2, 0, none⟩) 1 1)], [.int .u32 0]] sz63 rfl rfl (by intro c hc; simp at hc; subst hc; exact hone) hI rfl hA rfl rfl hcel rfl fun w hI => ?_
      refine o_nil ?_
      refine hN11 _ _ ?_
      refine w_seq fun _ hN12 => ?_
      refine w_reg ?_
      refine stp hA (r_ldA (j := 2) [] [[.int .u32 0], [(.slice (some ⟨g1, 0, none⟩) 1 1)], [(.slice (some ⟨g2, 0, none⟩) 1 1)], [.int .u32 0]] [] Tryd.underlying68 rfl sz68 rfl hI rfl hA rfl rfl) rfl fun a hA => 
        o_new [[.int .u32 0], [(.slice none 0 0)], [(.slice none 0 0)], [.int .u32 0]] zr68 hI hA rfl fun g6 a w hA hI hg6 => 
        o_st (j := 0) [] [[.int .u32 0], [(.slice none 0 0)], [(.slice none 0 0)], [.int .u32 0]] [[.int .u32 0], [(.slice (some ⟨g1, 0, none⟩) 1 1)], [(.slice (some ⟨g2, 0, none⟩) 1 1)], [.int .u32 0]] [] sz68 rfl rfl (fl_cons (one_one rfl) (fl_cons (one_one (own_one hI (j := 5) rfl)) (fl_cons (one_one (own_one hI (j := 4) rfl)) (fl_cons (one_one rfl) fl_nil)))) hI rfl hA rfl rfl rfl rfl fun w hI => ?_
      refine o_nil ?_
      refine hN12 _ _ ?_
      refine w_seq fun _ hN13 => ?_
      refine w_reg ?_
      refine stp hA (r_bldA (cs := [av .u8 32 ([1, 0, 0, 0, 0, 0, 0, 0, 0, 0, 0, 0, 0, 0, 0, 0, 0, 0, 0, 0, 0, 0, 0, 0, 0, 0, 0, 0, 0, 0, 0, 0])].flatten.toArray) zr55 Tryd.underlying55 sz5 hA rfl (by kernel_rfl)) rfl fun a hA => 
        stp hA (r_bldS (cs := [av .u8 32 ([1, 0, 0, 0, 0, 0, 0, 0, 0, 0, 0, 0, 0, 0, 0, 0, 0, 0, 0, 0, 0, 0, 0, 0, 0, 0, 0, 0, 0, 0, 0, 0]), [.int .u32 4294967295]].flatten.toArray) (pl := [(0, 32), (32, 1)]) zr60 Tryd.underlying60 ⟨rfl, sz55, rfl, sz39, trivial⟩ hA rfl (by kernel_rfl)) rfl fun a hA => 
        stp hA (r_bldS (cs := [av .u8 32 ([1, 0, 0, 0, 0, 0, 0, 0, 0, 0, 0, 0, 0, 0, 0, 0, 0, 0, 0, 0, 0, 0, 0, 0, 0, 0, 0, 0, 0, 0, 0, 0]), [.int .u32 4294967295], [(.slice none 0 0)], [.int .u32 0]].flatten.toArray) (pl := [(0, 33), (33, 1), (34, 1)]) zr62 Tryd.underlying62 ⟨rfl, sz60, rfl, sz23, rfl, sz39, trivial⟩ hA rfl (by kernel_rfl)) rfl fun a hA => ?_
      have hE4 : Els (RIn μ) 35 ([(⟨(⟨[1, 0, 0, 0, 0, 0, 0, 0, 0, 0, 0, 0, 0, 0, 0, 0, 0, 0, 0, 0, 0, 0, 0, 0, 0, 0, 0, 0, 0, 0, 0, 0], 4294967295⟩ : Point), [], 0⟩ : In)] : List In) ([av .u8 32 ([1, 0, 0, 0, 0, 0, 0, 0, 0, 0, 0, 0, 0, 0, 0, 0, 0, 0, 0, 0, 0, 0, 0, 0, 0, 0, 0, 0, 0, 0, 0, 0]), [.int .u32 4294967295], [(.slice none 0 0)], [.int .u32 0]].flatten ++ ([])) := (Els.cons (c := [av .u8 32 ([1, 0, 0, 0, 0, 0, 0, 0, 0, 0, 0, 0, 0, 0, 0, 0, 0, 0, 0, 0, 0, 0, 0, 0, 0, 0, 0, 0, 0, 0, 0, 0]), [.int .u32 4294967295], [(.slice none 0 0)], [.int .u32 0]].flatten) ⟨(.slice none 0 0), rfl, ⟨(arr_lit rfl (by simp only [List.forall_mem_cons]; exact ⟨(in_lit .u8 1 rfl), (in_lit .u8 0 rfl), (in_lit .u8 0 rfl), (in_lit .u8 0 rfl), (in_lit .u8 0 rfl), (in_lit .u8 0 rfl), (in_lit .u8 0 rfl), (in_lit .u8 0 rfl), (in_lit .u8 0 rfl), (in_lit .u8 0 rfl), (in_lit .u8 0 rfl), (in_lit .u8 0 rfl), (in_lit .u8 0 rfl), (in_lit .u8 0 rfl), (in_lit .u8 0 rfl), (in_lit .u8 0 rfl), (in_lit .u8 0 rfl), (in_lit .u8 0 rfl), (in_lit .u8 0 rfl), (in_lit .u8 0 rfl), (in_lit .u8 0 rfl), (in_lit .u8 0 rfl), (in_lit .u8 0 rfl), (in_lit .u8 0 rfl), (in_lit .u8 0 rfl), (in_lit .u8 0 rfl), (in_lit .u8 0 rfl), (in_lit .u8 0 rfl), (in_lit .u8 0 rfl), (in_lit .u8 0 rfl), (in_lit .u8 0 rfl), (in_lit .u8 0 rfl), by simp⟩)), (in_lit .u32 4294967295 rfl), (slc_nil _ _ _), (in_lit .u32 0 rfl)⟩⟩ rfl Els.nil)
      refine o_bsl ([av .u8 32 ([1, 0, 0, 0, 0, 0, 0, 0, 0, 0, 0, 0, 0, 0, 0, 0, 0, 0, 0, 0, 0, 0, 0, 0, 0, 0, 0, 0, 0, 0, 0, 0]), [.int .u32 4294967295], [(.slice none 0 0)], [.int .u32 0]].flatten ++ ([])) te62 zr62 Tryd.underlying63 hI hA rfl rfl rfl rfl (by kernel_rfl) rfl fun g7 a w hA hI => ?_
      generalize hcs : ([av .u8 32 ([1, 0, 0, 0, 0, 0, 0, 0, 0, 0, 0, 0, 0, 0, 0, 0, 0, 0, 0, 0, 0, 0, 0, 0, 0, 0, 0, 0, 0, 0, 0, 0]), [.int .u32 4294967295], [(.slice none 0 0)], [.int .u32 0]].flatten ++ ([]) : List Value) = cs4 at hE4 hI
      clear hcs
      refine stp hA (r_fd (k := 1) Tryd.underlying68 rfl sz63 hA rfl rfl) rfl fun a hA => ?_
      have hone := own_one hI (j := 0) rfl
      have hcel := own_cell hI (j := 0) rfl
      refine o_st (j := 1) [[.int .u32 0]] [[(.slice (some ⟨g1, 0, none⟩) 1 1)]] [[(.slice (some ⟨g7, 0, none⟩) 1 1)]] [[(.slice (some ⟨g2, 0, none⟩) 1 1)], [.int .u32 0]] sz63 rfl rfl (by intro c hc; simp at hc; subst hc; exact hone) hI rfl hA rfl rfl hcel rfl fun w hI => ?_
      refine o_nil ?_
      refine hN13 _ _ ?_
      refine w_seq fun _ hN14 => ?_
      refine w_reg ?_
      refine stp hA (r_as hA rfl) rfl fun a hA => ?_
      refine o_nil ?_
      refine hN14 _ _ ?_
      obtain ⟨c1, hz3, Hk1⟩ := bB H
      refine w_cut (fun a w => InR .i64 c1 ∧ Fr a 75 [(0, u0), (1, .int .u64 x1), (4, .bool false), (5, .bool r1), (6, .pointer (some ⟨g3, 0, none⟩)), (7, .pointer (some ⟨g4, 0, none⟩)), (8, .pointer (some ⟨g6, 0, none⟩)), (9, .int .i64 c1), (12, .bool (!r1)), (15, .bool (decide (80 < (x0.length : Int))))] ∧ Iv w0 [] μ μ [row 62 35 (.slice (some ⟨g7, 0, none⟩) 1 1) ([(⟨(⟨[1, 0, 0, 0, 0, 0, 0, 0, 0, 0, 0, 0, 0, 0, 0, 0, 0, 0, 0, 0, 0, 0, 0, 0, 0, 0, 0, 0, 0, 0, 0, 0], 4294967295⟩ : Point), [], 0⟩ : In)] : List In).length cs4, cel g6 [[.int .u32 0], [(.slice (some ⟨g7, 0, none⟩) 1 1)], [(.slice (some ⟨g2, 0, none⟩) 1 1)], [.int .u32 0]] 68, row 62 35 (.slice (some ⟨g5, 0, none⟩) 2 2) ([(⟨(⟨(List.replicate 32 0), 1⟩ : Point), [], 0⟩ : In), (([(⟨r2, x0, 0⟩ : In)] : List In).getD (0 : Int).toNat default)] : List In).length cs3, cel g4 [[.int .u32 0], [(.slice (some ⟨g5, 0, none⟩) 2 2)], [(.slice (some ⟨g2, 0, none⟩) 1 1)], [.int .u32 0]] 68, cel g3 [[.int .u32 0], [(.slice (some ⟨g1, 0, none⟩) 1 1)], [(.slice (some ⟨g2, 0, none⟩) 1 1)], [.int .u32 0]] 68, row 65 33 (.slice (some ⟨g2, 0, none⟩) 1 1) ([(⟨Int.tmod x1 1000, (List.replicate 32 0)⟩ : Out)] : List Out).length cs2, row 62 35 (.slice (some ⟨g1, 0, none⟩) 1 1) ([(⟨r2, x0, 0⟩ : In)] : List In).length cs1] w) ?_ ?_
      · have H := bI hz3
        refine w_seq fun _ hN15 => ?_
        refine w_reg ?_
        refine stp hA (r_mv hA rfl) rfl fun a hA => ?_
        obtain ⟨_, hsl2⟩ := Slc.sv hx0
        refine stp hA (r_slen Tryd.underlying23 hsl2 hA rfl) rfl fun a hA => 
          stp hA (r_lss hA rfl rfl) rfl fun a hA => ?_
        refine o_nil ?_
        refine hN15 _ _ ?_
        refine w_cond hA rfl (fun hc4 => ?_) (fun hc4 => ?_)
        · have hc40 := hc4; have hc4 := of_decide_eq_true hc4; have H := bT H hc4
          refine w_reg ?_
          refine stp hA (r_as hA rfl) rfl fun a hA => ?_
          refine o_nil ?_
          cases Option.some.inj (bS H)
          exact ⟨(in_lit .i64 107 rfl), hA.sub ⟨rfl, rfl, rfl, rfl, rfl, rfl, rfl, rfl, rfl, rfl, trivial⟩, hI⟩
        · have hc40 := hc4; have hc4 := of_decide_eq_false hc4; have H := bF H hc4
          refine w_skip ?_
          cases Option.some.inj (bS H)
          exact ⟨(in_lit .i64 0 rfl), hA.sub ⟨rfl, rfl, rfl, rfl, rfl, rfl, rfl, rfl, rfl, rfl, trivial⟩, hI⟩
      · rintro a w ⟨wc1, hA, hI⟩
        have H := Hk1
        obtain ⟨⟨c2, c3, c4, c5, c6, c7, c8⟩, hz4, Hk2⟩ := bB H
        refine w_cut (fun a w => ∃ (μ1 : Store) (vvc3 : Value) (vvc4 : Value) (vvc5 : Value) (vvc6 : Value) (vvc7 : Value) (vvc8 : Value), μ.le μ1 ∧ Slc (RIn μ1) 35 μ1 vvc3 c3 ∧ Slc (ROut μ1) 33 μ1 vvc4 c4 ∧ Slc (RIn μ1) 35 μ1 vvc5 c5 ∧ Slc (ROut μ1) 33 μ1 vvc6 c6 ∧ Slc (RIn μ1) 35 μ1 vvc7 c7 ∧ Slc (ROut μ1) 33 μ1 vvc8 c8 ∧ Fr a 75 [(0, u0), (1, .int .u64 x1), (4, .bool c2), (5, .bool r1), (6, .pointer (some ⟨g3, 0, none⟩)), (7, .pointer (some ⟨g4, 0, none⟩)), (8, .pointer (some ⟨g6, 0, none⟩)), (9, .int .i64 c1), (12, .bool (!r1)), (15, .bool (decide (80 < (x0.length : Int))))] ∧ Iv w0 [] μ μ1 [cel g6 [[.int .u32 0], [vvc3], [vvc4], [.int .u32 0]] 68, cel g4 [[.int .u32 0], [vvc5], [vvc6], [.int .u32 0]] 68, cel g3 [[.int .u32 0], [vvc7], [vvc8], [.int .u32 0]] 68] w) ?_ ?_
        · have H := bI hz4
          refine w_reg ?_
          refine stp hA (r_mv hA rfl) rfl fun a hA => 
            stp hA (r_mv hA rfl) rfl fun a hA => ?_
          rcases Bool.eq_false_or_eq_true r1 with hc5 | hc5
          · have hc50 := hc5; have H := bT H hc5
            refine o_yes hA rfl rfl hc50 <| 
              stp hA (r_ldA (j := 4) [] [[.int .u32 0], [(.slice (some ⟨g1, 0, none⟩) 1 1)], [(.slice (some ⟨g2, 0, none⟩) 1 1)], [.int .u32 0]] [] Tryd.underlying68 rfl sz68 rfl hI rfl hA rfl rfl) rfl fun a hA => 
              o_yes hA rfl rfl hc50 <| ?_
            obtain ⟨r3, hr3, H⟩ := bB H
            refine o_callp (u := .bool r3) cf48 hA rfl hI ((by obtain ⟨μ2, hle2, hsv1, hI⟩ := hI.freezeRow 6 rfl; have hS1 : Slc (RIn μ2) 35 μ2 (.slice (some ⟨g1, 0, none⟩) 1 1) ([(⟨r2, x0, 0⟩ : In)] : List In) := ⟨_, (Els.mono hE1 (fun _ _ h => RIn.le hle2 h)), hsv1⟩; obtain ⟨μ3, hle3, hsv2, hI⟩ := hI.freezeRow 5 rfl; have hS2 : Slc (ROut μ3) 33 μ3 (.slice (some ⟨g2, 0, none⟩) 1 1) ([(⟨Int.tmod x1 1000, (List.replicate 32 0)⟩ : Out)] : List Out) := ⟨_, (Els.mono hE2 (fun _ _ h => ROut.le (hle2.trans hle3) h)), hsv2⟩; exact low_plain (hle2.trans hle3) (tx_Base.c μ3 _ hI.agr (⟨0, ([(⟨r2, x0, 0⟩ : In)] : List In), ([(⟨Int.tmod x1 1000, (List.replicate 32 0)⟩ : Out)] : List Out), 0⟩ : Tx) (.slice (some ⟨g1, 0, none⟩) 1 1) (.slice (some ⟨g2, 0, none⟩) 1 1) ⟨(in_lit .u32 0 rfl), (Slc.le hS1 (fun _ _ h => RIn.le hle3 h) hle3), hS2, (in_lit .u32 0 rfl)⟩ r3 hr3))) rfl fun a w hz5 hI hA => 
              stp hA (r_pick_t hA rfl hc50 rfl) rfl fun a hA => 
              stp hA (r_mv hA rfl) rfl fun a hA => ?_
            rcases Bool.eq_false_or_eq_true r3 with hc6 | hc6
            · have hc60 := hc6; have H := bT H hc6
              refine o_yes hA rfl rfl hc60 <| 
                stp hA (r_ldA (j := 3) [] [[.int .u32 0], [(.slice (some ⟨g5, 0, none⟩) 2 2)], [(.slice (some ⟨g2, 0, none⟩) 1 1)], [.int .u32 0]] [] Tryd.underlying68 rfl sz68 rfl hI rfl hA rfl rfl) rfl fun a hA => 
                o_yes hA rfl rfl hc60 <| ?_
              obtain ⟨r4, hr4, H⟩ := bB H
              refine o_callp (u := .bool r4) cf48 hA rfl hI ((by obtain ⟨μ4, hle4, hsv3, hI⟩ := hI.freezeRow 2 rfl; have hS3 : Slc (RIn μ4) 35 μ4 (.slice (some ⟨g5, 0, none⟩) 2 2) ([(⟨(⟨(List.replicate 32 0), 1⟩ : Point), [], 0⟩ : In), (([(⟨r2, x0, 0⟩ : In)] : List In).getD (0 : Int).toNat default)] : List In) := ⟨_, (Els.mono hE3 (fun _ _ h => RIn.le hle4 h)), hsv3⟩; obtain ⟨μ5, hle5, hsv4, hI⟩ := hI.freezeRow 4 rfl; have hS4 : Slc (ROut μ5) 33 μ5 (.slice (some ⟨g2, 0, none⟩) 1 1) ([(⟨Int.tmod x1 1000, (List.replicate 32 0)⟩ : Out)] : List Out) := ⟨_, (Els.mono hE2 (fun _ _ h => ROut.le (hle4.trans hle5) h)), hsv4⟩; exact low_plain (hle4.trans hle5) (tx_Base.c μ5 _ hI.agr (⟨0, ([(⟨(⟨(List.replicate 32 0), 1⟩ : Point), [], 0⟩ : In), (([(⟨r2, x0, 0⟩ : In)] : List In).getD (0 : Int).toNat default)] : List In), ([(⟨Int.tmod x1 1000, (List.replicate 32 0)⟩ : Out)] : List Out), 0⟩ : Tx) (.slice (some ⟨g5, 0, none⟩) 2 2) (.slice (some ⟨g2, 0, none⟩) 1 1) ⟨(in_lit .u32 0 rfl), (Slc.le hS3 (fun _ _ h => RIn.le hle5 h) hle5), hS4, (in_lit .u32 0 rfl)⟩ r4 hr4))) rfl fun a w hz6 hI hA => 
                o_yes hA rfl rfl hc60 <| 
                stp hA (r_not hA rfl) rfl fun a hA => 
                stp hA (r_pick_t hA rfl hc60 rfl) rfl fun a hA => 
                stp hA (r_mv hA rfl) rfl fun a hA => ?_
              rcases Bool.eq_false_or_eq_true (!r4) with hc7 | hc7
              · have hc70 := hc7; have hc7 := nT hc7; have hc7 := ft hc7; have H := bF H hc7
                refine o_yes hA rfl rfl hc70 <| 
                  stp hA (r_ldA (j := 1) [] [[.int .u32 0], [(.slice (some ⟨g7, 0, none⟩) 1 1)], [(.slice (some ⟨g2, 0, none⟩) 1 1)], [.int .u32 0]] [] Tryd.underlying68 rfl sz68 rfl hI rfl hA rfl rfl) rfl fun a hA => 
                  o_yes hA rfl rfl hc70 <| ?_
                obtain ⟨r5, hr5, H⟩ := bB H
                refine o_callp (u := .bool r5) cf48 hA rfl hI ((by obtain ⟨μ6, hle6, hsv5, hI⟩ := hI.freezeRow 0 rfl; have hS5 : Slc (RIn μ6) 35 μ6 (.slice (some ⟨g7, 0, none⟩) 1 1) ([(⟨(⟨[1, 0, 0, 0, 0, 0, 0, 0, 0, 0, 0, 0, 0, 0, 0, 0, 0, 0, 0, 0, 0, 0, 0, 0, 0, 0, 0, 0, 0, 0, 0, 0], 4294967295⟩ : Point), [], 0⟩ : In)] : List In) := ⟨_, (Els.mono hE4 (fun _ _ h => RIn.le hle6 h)), hsv5⟩; obtain ⟨μ7, hle7, hsv6, hI⟩ := hI.freezeRow 4 rfl; have hS6 : Slc (ROut μ7) 33 μ7 (.slice (some ⟨g2, 0, none⟩) 1 1) ([(⟨Int.tmod x1 1000, (List.replicate 32 0)⟩ : Out)] : List Out) := ⟨_, (Els.mono hE2 (fun _ _ h => ROut.le (hle6.trans hle7) h)), hsv6⟩; exact low_plain (hle6.trans hle7) (tx_Base.c μ7 _ hI.agr (⟨0, ([(⟨(⟨[1, 0, 0, 0, 0, 0, 0, 0, 0, 0, 0, 0, 0, 0, 0, 0, 0, 0, 0, 0, 0, 0, 0, 0, 0, 0, 0, 0, 0, 0, 0, 0], 4294967295⟩ : Point), [], 0⟩ : In)] : List In), ([(⟨Int.tmod x1 1000, (List.replicate 32 0)⟩ : Out)] : List Out), 0⟩ : Tx) (.slice (some ⟨g7, 0, none⟩) 1 1) (.slice (some ⟨g2, 0, none⟩) 1 1) ⟨(in_lit .u32 0 rfl), (Slc.le hS5 (fun _ _ h => RIn.le hle7 h) hle7), hS6, (in_lit .u32 0 rfl)⟩ r5 hr5))) rfl fun a w hz7 hI hA => 
                  o_yes hA rfl rfl hc70 <| 
                  stp hA (r_not hA rfl) rfl fun a hA => 
                  stp hA (r_pick_t hA rfl hc70 rfl) rfl fun a hA => 
                  stp hA (r_mv hA rfl) rfl fun a hA => ?_
                rcases Bool.eq_false_or_eq_true (!r5) with hc8 | hc8
                · have hc80 := hc8; have hc8 := nT hc8; have hc8 := ft hc8; have H := bF H hc8
                  refine o_yes hA rfl rfl hc80 <| 
                    stp hA (r_ldA (j := 4) [] [[.int .u32 0], [(.slice (some ⟨g1, 0, none⟩) 1 1)], [(.slice (some ⟨g2, 0, none⟩) 1 1)], [.int .u32 0]] [] Tryd.underlying68 rfl sz68 rfl hI rfl hA rfl rfl) rfl fun a hA => 
                    o_yes hA rfl rfl hc80 <| ?_
                  obtain ⟨μ8, hle8, hsv7, hI⟩ := hI.freezeRow 6 rfl
                  have hS7 : Slc (RIn μ8) 35 μ8 (.slice (some ⟨g1, 0, none⟩) 1 1) ([(⟨r2, x0, 0⟩ : In)] : List In) := ⟨_, (Els.mono hE1 (fun _ _ h => RIn.le hle8 h)), hsv7⟩
                  obtain ⟨μ9, hle9, hsv8, hI⟩ := hI.freezeRow 5 rfl
                  have hS8 : Slc (ROut μ9) 33 μ9 (.slice (some ⟨g2, 0, none⟩) 1 1) ([(⟨Int.tmod x1 1000, (List.replicate 32 0)⟩ : Out)] : List Out) := ⟨_, (Els.mono hE2 (fun _ _ h => ROut.le (hle8.trans hle9) h)), hsv8⟩
                  obtain ⟨r6, hr6, H⟩ := bB H
                  refine o_call _ cf46 hA rfl (tx_Check.c μ9 _ hI.agr (⟨0, ([(⟨r2, x0, 0⟩ : In)] : List In), ([(⟨Int.tmod x1 1000, (List.replicate 32 0)⟩ : Out)] : List Out), 0⟩ : Tx) (.slice (some ⟨g1, 0, none⟩) 1 1) (.slice (some ⟨g2, 0, none⟩) 1 1) ⟨(in_lit .u32 0 rfl), (Slc.le hS7 (fun _ _ h => RIn.le hle9 h) hle9), hS8, (in_lit .u32 0 rfl)⟩ e1 (ErV.le (fun _ _ h => h) (hle8.trans hle9) he1) e2 (ErV.le (fun _ _ h => h) (hle8.trans hle9) he2) e3 (ErV.le (fun _ _ h => h) (hle8.trans hle9) he3) e4 (ErV.le (fun _ _ h => h) (hle8.trans hle9) he4) e5 (ErV.le (fun _ _ h => h) (hle8.trans hle9) he5) e9 (ErV.le (fun _ _ h => h) (hle8.trans hle9) he9) r6 hr6) rfl fun v2 a w hz8 hA => ?_
                  obtain ⟨_, μ10, rfl, hS9, hi1⟩ := hz8
                  have hI := hI.call hi1
                  refine o_yes hA rfl rfl hc80 <| 
                    stp hA (r_mv hA rfl) rfl fun a hA => 
                    o_yes hA rfl rfl hc80 <| ?_
                  obtain ⟨r7, hr7, H⟩ := bB H
                  refine o_callp (u := .bool r7) cf31 hA rfl hI (sargassosee_Is.c μ10 _ hI.agr r6 v2 hS9 c1 wc1 (Gl.le ((hle8.trans hle9).trans hi1.le) hG) r7 hr7) rfl fun a w hz9 hI hA => 
                    stp hA (r_pick_t hA rfl hc80 rfl) rfl fun a hA => 
                    stp hA (r_mv hA rfl) rfl fun a hA => ?_
                  rcases Bool.eq_false_or_eq_true r7 with hc9 | hc9
                  · have hc90 := hc9; have H := bT H hc9
                    refine o_yes hA rfl rfl hc90 <| 
                      stp hA (r_ldA (j := 3) [] [[.int .u32 0], [(.slice (some ⟨g5, 0, none⟩) 2 2)], [(.slice (some ⟨g2, 0, none⟩) 1 1)], [.int .u32 0]] [] Tryd.underlying68 rfl sz68 rfl hI rfl hA rfl rfl) rfl fun a hA => 
                      o_yes hA rfl rfl hc90 <| ?_
                    obtain ⟨μ11, hle10, hsv9, hI⟩ := hI.freezeRow 2 rfl
                    have hS10 : Slc (RIn μ11) 35 μ11 (.slice (some ⟨g5, 0, none⟩) 2 2) ([(⟨(⟨(List.replicate 32 0), 1⟩ : Point), [], 0⟩ : In), (([(⟨r2, x0, 0⟩ : In)] : List In).getD (0 : Int).toNat default)] : List In) := ⟨_, (Els.mono hE3 (fun _ _ h => RIn.le (((hle8.trans hle9).trans hi1.le).trans hle10) h)), hsv9⟩
                    obtain ⟨r8, hr8, H⟩ := bB H
                    refine o_call _ cf46 hA rfl (tx_Check.c μ11 _ hI.agr (⟨0, ([(⟨(⟨(List.replicate 32 0), 1⟩ : Point), [], 0⟩ : In), (([(⟨r2, x0, 0⟩ : In)] : List In).getD (0 : Int).toNat default)] : List In), ([(⟨Int.tmod x1 1000, (List.replicate 32 0)⟩ : Out)] : List Out), 0⟩ : Tx) (.slice (some ⟨g5, 0, none⟩) 2 2) (.slice (some ⟨g2, 0, none⟩) 1 1) ⟨(in_lit .u32 0 rfl), hS10, (Slc.le hS8 (fun _ _ h => ROut.le (hi1.le.trans hle10) h) (hi1.le.trans hle10)), (in_lit .u32 0 rfl)⟩ e1 (ErV.le (fun _ _ h => h) (((hle8.trans hle9).trans hi1.le).trans hle10) he1) e2 (ErV.le (fun _ _ h => h) (((hle8.trans hle9).trans hi1.le).trans hle10) he2) e3 (ErV.le (fun _ _ h => h) (((hle8.trans hle9).trans hi1.le).trans hle10) he3) e4 (ErV.le (fun _ _ h => h) (((hle8.trans hle9).trans hi1.le).trans hle10) he4) e5 (ErV.le (fun _ _ h => h) (((hle8.trans hle9).trans hi1.le).trans hle10) he5) e9 (ErV.le (fun _ _ h => h) (((hle8.trans hle9).trans hi1.le).trans hle10) he9) r8 hr8) rfl fun v3 a w hz10 hA => ?_
                    obtain ⟨_, μ12, rfl, hS11, hi2⟩ := hz10
                    have hI := hI.call hi2
                    refine o_yes hA rfl rfl hc90 <| ?_
                    obtain ⟨r9, hr9, H⟩ := bB H
                    refine o_callp (u := .bool r9) cf31 hA rfl hI (sargassosee_Is.c μ12 _ hI.agr r8 v3 hS11 107 (in_lit .i64 107 rfl) (Gl.le ((((hle8.trans hle9).trans hi1.le).trans hle10).trans hi2.le) hG) r9 hr9) rfl fun a w hz11 hI hA => 
                      stp hA (r_pick_t hA rfl hc90 rfl) rfl fun a hA => 
                      stp hA (r_mv hA rfl) rfl fun a hA => ?_
                    rcases Bool.eq_false_or_eq_true r9 with hc10 | hc10
                    · have hc100 := hc10; have H := bT H hc10
                      refine o_yes hA rfl rfl hc100 <| 
                        stp hA (r_ldA (j := 1) [] [[.int .u32 0], [(.slice (some ⟨g7, 0, none⟩) 1 1)], [(.slice (some ⟨g2, 0, none⟩) 1 1)], [.int .u32 0]] [] Tryd.underlying68 rfl sz68 rfl hI rfl hA rfl rfl) rfl fun a hA => 
                        o_yes hA rfl rfl hc100 <| ?_
                      obtain ⟨μ13, hle11, hsv10, hI⟩ := hI.freezeRow 0 rfl
                      have hS12 : Slc (RIn μ13) 35 μ13 (.slice (some ⟨g7, 0, none⟩) 1 1) ([(⟨(⟨[1, 0, 0, 0, 0, 0, 0, 0, 0, 0, 0, 0, 0, 0, 0, 0, 0, 0, 0, 0, 0, 0, 0, 0, 0, 0, 0, 0, 0, 0, 0, 0], 4294967295⟩ : Point), [], 0⟩ : In)] : List In) := ⟨_, (Els.mono hE4 (fun _ _ h => RIn.le (((((hle8.trans hle9).trans hi1.le).trans hle10).trans hi2.le).trans hle11) h)), hsv10⟩
                      obtain ⟨r10, hr10, H⟩ := bB H
                      refine o_call _ cf46 hA rfl (tx_Check.c μ13 _ hI.agr (⟨0, ([(⟨(⟨[1, 0, 0, 0, 0, 0, 0, 0, 0, 0, 0, 0, 0, 0, 0, 0, 0, 0, 0, 0, 0, 0, 0, 0, 0, 0, 0, 0, 0, 0, 0, 0], 4294967295⟩ : Point), [], 0⟩ : In)] : List In), ([(⟨Int.tmod x1 1000, (List.replicate 32 0)⟩ : Out)] : List Out), 0⟩ : Tx) (.slice (some ⟨g7, 0, none⟩) 1 1) (.slice (some ⟨g2, 0, none⟩) 1 1) ⟨(in_lit .u32 0 rfl), hS12, (Slc.le hS8 (fun _ _ h => ROut.le (((hi1.le.trans hle10).trans hi2.le).trans hle11) h) (((hi1.le.trans hle10).trans hi2.le).trans hle11)), (in_lit .u32 0 rfl)⟩ e1 (ErV.le (fun _ _ h => h) (((((hle8.trans hle9).trans hi1.le).trans hle10).trans hi2.le).trans hle11) he1) e2 (ErV.le (fun _ _ h => h) (((((hle8.trans hle9).trans hi1.le).trans hle10).trans hi2.le).trans hle11) he2) e3 (ErV.le (fun _ _ h => h) (((((hle8.trans hle9).trans hi1.le).trans hle10).trans hi2.le).trans hle11) he3) e4 (ErV.le (fun _ _ h => h) (((((hle8.trans hle9).trans hi1.le).trans hle10).trans hi2.le).trans hle11) he4) e5 (ErV.le (fun _ _ h => h) (((((hle8.trans hle9).trans hi1.le).trans hle10).trans hi2.le).trans hle11) he5) e9 (ErV.le (fun _ _ h => h) (((((hle8.trans hle9).trans hi1.le).trans hle10).trans hi2.le).trans hle11) he9) r10 hr10) rfl fun v4 a w hz12 hA => ?_
                      obtain ⟨_, μ14, rfl, hS13, hi3⟩ := hz12
                      have hI := hI.call hi3
                      refine o_yes hA rfl rfl hc100 <| 
                        stp hA (r_eqE erF hI.agr hS13 erv_nil (.inl ⟨.inr ⟨_, rfl⟩, Er.fitR⟩) hA rfl rfl) rfl fun a hA => 
                        stp hA (r_pick_t hA rfl hc100 rfl) rfl fun a hA => 
                        stp hA (r_as hA rfl) rfl fun a hA => ?_
                      refine o_nil ?_
                      cases Option.some.inj (bS H)
                      exact ⟨μ14, (.slice (some ⟨g7, 0, none⟩) 1 1), (.slice (some ⟨g2, 0, none⟩) 1 1), (.slice (some ⟨g5, 0, none⟩) 2 2), (.slice (some ⟨g2, 0, none⟩) 1 1), (.slice (some ⟨g1, 0, none⟩) 1 1), (.slice (some ⟨g2, 0, none⟩) 1 1), ((((((hle8.trans hle9).trans hi1.le).trans hle10).trans hi2.le).trans hle11).trans hi3.le), (Slc.le hS12 (fun _ _ h => RIn.le hi3.le h) hi3.le), (Slc.le hS8 (fun _ _ h => ROut.le ((((hi1.le.trans hle10).trans hi2.le).trans hle11).trans hi3.le) h) ((((hi1.le.trans hle10).trans hi2.le).trans hle11).trans hi3.le)), (Slc.le hS10 (fun _ _ h => RIn.le ((hi2.le.trans hle11).trans hi3.le) h) ((hi2.le.trans hle11).trans hi3.le)), (Slc.le hS8 (fun _ _ h => ROut.le ((((hi1.le.trans hle10).trans hi2.le).trans hle11).trans hi3.le) h) ((((hi1.le.trans hle10).trans hi2.le).trans hle11).trans hi3.le)), (Slc.le hS7 (fun _ _ h => RIn.le (((((hle9.trans hi1.le).trans hle10).trans hi2.le).trans hle11).trans hi3.le) h) (((((hle9.trans hi1.le).trans hle10).trans hi2.le).trans hle11).trans hi3.le)), (Slc.le hS8 (fun _ _ h => ROut.le ((((hi1.le.trans hle10).trans hi2.le).trans hle11).trans hi3.le) h) ((((hi1.le.trans hle10).trans hi2.le).trans hle11).trans hi3.le)), hA.sub ⟨rfl, rfl, rfl, rfl, rfl, rfl, rfl, rfl, rfl, rfl, trivial⟩, hI⟩
                    · have hc100 := hc10; have hc10 := ft hc10; have H := bF H hc10
                      refine o_no hA rfl rfl (by rw [hc100]; simp [vb]) rfl fun a hA => 
                        o_no hA rfl rfl (by rw [hc100]; simp [vb]) rfl fun a hA => 
                        o_no hA rfl rfl (by rw [hc100]; simp [vb]) rfl fun a hA => 
                        stp hA (r_pick_f hA rfl hc100 rfl) rfl fun a hA => 
                        stp hA (r_as hA rfl) rfl fun a hA => ?_
                      refine o_nil ?_
                      obtain ⟨μ15, hle12, hsv11, hI⟩ := hI.freezeRow 0 rfl
                      have hS14 : Slc (RIn μ15) 35 μ15 (.slice (some ⟨g7, 0, none⟩) 1 1) ([(⟨(⟨[1, 0, 0, 0, 0, 0, 0, 0, 0, 0, 0, 0, 0, 0, 0, 0, 0, 0, 0, 0, 0, 0, 0, 0, 0, 0, 0, 0, 0, 0, 0, 0], 4294967295⟩ : Point), [], 0⟩ : In)] : List In) := ⟨_, (Els.mono hE4 (fun _ _ h => RIn.le (((((hle8.trans hle9).trans hi1.le).trans hle10).trans hi2.le).trans hle12) h)), hsv11⟩
                      cases Option.some.inj (bS H)
                      exact ⟨μ15, (.slice (some ⟨g7, 0, none⟩) 1 1), (.slice (some ⟨g2, 0, none⟩) 1 1), (.slice (some ⟨g5, 0, none⟩) 2 2), (.slice (some ⟨g2, 0, none⟩) 1 1), (.slice (some ⟨g1, 0, none⟩) 1 1), (.slice (some ⟨g2, 0, none⟩) 1 1), (((((hle8.trans hle9).trans hi1.le).trans hle10).trans hi2.le).trans hle12), hS14, (Slc.le hS8 (fun _ _ h => ROut.le (((hi1.le.trans hle10).trans hi2.le).trans hle12) h) (((hi1.le.trans hle10).trans hi2.le).trans hle12)), (Slc.le hS10 (fun _ _ h => RIn.le (hi2.le.trans hle12) h) (hi2.le.trans hle12)), (Slc.le hS8 (fun _ _ h => ROut.le (((hi1.le.trans hle10).trans hi2.le).trans hle12) h) (((hi1.le.trans hle10).trans hi2.le).trans hle12)), (Slc.le hS7 (fun _ _ h => RIn.le ((((hle9.trans hi1.le).trans hle10).trans hi2.le).trans hle12) h) ((((hle9.trans hi1.le).trans hle10).trans hi2.le).trans hle12)), (Slc.le hS8 (fun _ _ h => ROut.le (((hi1.le.trans hle10).trans hi2.le).trans hle12) h) (((hi1.le.trans hle10).trans hi2.le).trans hle12)), hA.sub ⟨rfl, rfl, rfl, rfl, rfl, rfl, rfl, rfl, rfl, rfl, trivial⟩, hI⟩
                  · have hc90 := hc9; have hc9 := ft hc9; have H := bF H hc9
                    refine o_no hA rfl rfl (by rw [hc90]; simp [vb]) rfl fun a hA => 
                      o_no hA rfl rfl (by rw [hc90]; simp [vb]) rfl fun a hA => 
                      o_no hA rfl rfl (by rw [hc90]; simp [vb]) rfl fun a hA => 
                      stp hA (r_pick_f hA rfl hc90 rfl) rfl fun a hA => 
                      stp hA (r_mv hA rfl) rfl fun a hA => 
                      o_no hA rfl rfl (by simp [vb]) rfl fun a hA => 
                      o_no hA rfl rfl (by simp [vb]) rfl fun a hA => 
                      o_no hA rfl rfl (by simp [vb]) rfl fun a hA => 
                      stp hA (r_pick_f hA rfl rfl rfl) rfl fun a hA => 
                      stp hA (r_as hA rfl) rfl fun a hA => ?_
                    refine o_nil ?_
                    obtain ⟨μ16, hle13, hsv12, hI⟩ := hI.freezeRow 0 rfl
                    have hS15 : Slc (RIn μ16) 35 μ16 (.slice (some ⟨g7, 0, none⟩) 1 1) ([(⟨(⟨[1, 0, 0, 0, 0, 0, 0, 0, 0, 0, 0, 0, 0, 0, 0, 0, 0, 0, 0, 0, 0, 0, 0, 0, 0, 0, 0, 0, 0, 0, 0, 0], 4294967295⟩ : Point), [], 0⟩ : In)] : List In) := ⟨_, (Els.mono hE4 (fun _ _ h => RIn.le (((hle8.trans hle9).trans hi1.le).trans hle13) h)), hsv12⟩
                    obtain ⟨μ17, hle14, hsv13, hI⟩ := hI.freezeRow 1 rfl
                    have hS16 : Slc (RIn μ17) 35 μ17 (.slice (some ⟨g5, 0, none⟩) 2 2) ([(⟨(⟨(List.replicate 32 0), 1⟩ : Point), [], 0⟩ : In), (([(⟨r2, x0, 0⟩ : In)] : List In).getD (0 : Int).toNat default)] : List In) := ⟨_, (Els.mono hE3 (fun _ _ h => RIn.le ((((hle8.trans hle9).trans hi1.le).trans hle13).trans hle14) h)), hsv13⟩
                    cases Option.some.inj (bS H)
                    exact ⟨μ17, (.slice (some ⟨g7, 0, none⟩) 1 1), (.slice (some ⟨g2, 0, none⟩) 1 1), (.slice (some ⟨g5, 0, none⟩) 2 2), (.slice (some ⟨g2, 0, none⟩) 1 1), (.slice (some ⟨g1, 0, none⟩) 1 1), (.slice (some ⟨g2, 0, none⟩) 1 1), ((((hle8.trans hle9).trans hi1.le).trans hle13).trans hle14), (Slc.le hS15 (fun _ _ h => RIn.le hle14 h) hle14), (Slc.le hS8 (fun _ _ h => ROut.le ((hi1.le.trans hle13).trans hle14) h) ((hi1.le.trans hle13).trans hle14)), hS16, (Slc.le hS8 (fun _ _ h => ROut.le ((hi1.le.trans hle13).trans hle14) h) ((hi1.le.trans hle13).trans hle14)), (Slc.le hS7 (fun _ _ h => RIn.le (((hle9.trans hi1.le).trans hle13).trans hle14) h) (((hle9.trans hi1.le).trans hle13).trans hle14)), (Slc.le hS8 (fun _ _ h => ROut.le ((hi1.le.trans hle13).trans hle14) h) ((hi1.le.trans hle13).trans hle14)), hA.sub ⟨rfl, rfl, rfl, rfl, rfl, rfl, rfl, rfl, rfl, rfl, trivial⟩, hI⟩
                · have hc80 := hc8; have hc8 := nF hc8; have H := bT H hc8
                  refine o_no hA rfl rfl (by rw [hc80]; simp [vb]) rfl fun a hA => 
                    o_no hA rfl rfl (by rw [hc80]; simp [vb]) rfl fun a hA => 
                    o_no hA rfl rfl (by rw [hc80]; simp [vb]) rfl fun a hA => 
                    o_no hA rfl rfl (by rw [hc80]; simp [vb]) rfl fun a hA => 
                    stp hA (r_pick_f hA rfl hc80 rfl) rfl fun a hA => 
                    stp hA (r_mv hA rfl) rfl fun a hA => 
                    o_no hA rfl rfl (by simp [vb]) rfl fun a hA => 
                    o_no hA rfl rfl (by simp [vb]) rfl fun a hA => 
                    o_no hA rfl rfl (by simp [vb]) rfl fun a hA => 
                    stp hA (r_pick_f hA rfl rfl rfl) rfl fun a hA => 
                    stp hA (r_mv hA rfl) rfl fun a hA => 
                    o_no hA rfl rfl (by simp [vb]) rfl fun a hA => 
                    o_no hA rfl rfl (by simp [vb]) rfl fun a hA => 
                    o_no hA rfl rfl (by simp [vb]) rfl fun a hA => 
                    stp hA (r_pick_f hA rfl rfl rfl) rfl fun a hA => 
                    stp hA (r_as hA rfl) rfl fun a hA => ?_
                  refine o_nil ?_
                  obtain ⟨μ18, hle15, hsv14, hI⟩ := hI.freezeRow 0 rfl
                  have hS17 : Slc (RIn μ18) 35 μ18 (.slice (some ⟨g7, 0, none⟩) 1 1) ([(⟨(⟨[1, 0, 0, 0, 0, 0, 0, 0, 0, 0, 0, 0, 0, 0, 0, 0, 0, 0, 0, 0, 0, 0, 0, 0, 0, 0, 0, 0, 0, 0, 0, 0], 4294967295⟩ : Point), [], 0⟩ : In)] : List In) := ⟨_, (Els.mono hE4 (fun _ _ h => RIn.le hle15 h)), hsv14⟩
                  obtain ⟨μ19, hle16, hsv15, hI⟩ := hI.freezeRow 4 rfl
                  have hS18 : Slc (ROut μ19) 33 μ19 (.slice (some ⟨g2, 0, none⟩) 1 1) ([(⟨Int.tmod x1 1000, (List.replicate 32 0)⟩ : Out)] : List Out) := ⟨_, (Els.mono hE2 (fun _ _ h => ROut.le (hle15.trans hle16) h)), hsv15⟩
                  obtain ⟨μ20, hle17, hsv16, hI⟩ := hI.freezeRow 1 rfl
                  have hS19 : Slc (RIn μ20) 35 μ20 (.slice (some ⟨g5, 0, none⟩) 2 2) ([(⟨(⟨(List.replicate 32 0), 1⟩ : Point), [], 0⟩ : In), (([(⟨r2, x0, 0⟩ : In)] : List In).getD (0 : Int).toNat default)] : List In) := ⟨_, (Els.mono hE3 (fun _ _ h => RIn.le ((hle15.trans hle16).trans hle17) h)), hsv16⟩
                  obtain ⟨μ21, hle18, hsv17, hI⟩ := hI.freezeRow 3 rfl
                  have hS20 : Slc (RIn μ21) 35 μ21 (.slice (some ⟨g1, 0, none⟩) 1 1) ([(⟨r2, x0, 0⟩ : In)] : List In) := ⟨_, (Els.mono hE1 (fun _ _ h => RIn.le (((hle15.trans hle16).trans hle17).trans hle18) h)), hsv17⟩
                  cases Option.some.inj (bS H)
                  exact ⟨μ21, (.slice (some ⟨g7, 0, none⟩) 1 1), (.slice (some ⟨g2, 0, none⟩) 1 1), (.slice (some ⟨g5, 0, none⟩) 2 2), (.slice (some ⟨g2, 0, none⟩) 1 1), (.slice (some ⟨g1, 0, none⟩) 1 1), (.slice (some ⟨g2, 0, none⟩) 1 1), (((hle15.trans hle16).trans hle17).trans hle18), (Slc.le hS17 (fun _ _ h => RIn.le ((hle16.trans hle17).trans hle18) h) ((hle16.trans hle17).trans hle18)), (Slc.le hS18 (fun _ _ h => ROut.le (hle17.trans hle18) h) (hle17.trans hle18)), (Slc.le hS19 (fun _ _ h => RIn.le hle18 h) hle18), (Slc.le hS18 (fun _ _ h => ROut.le (hle17.trans hle18) h) (hle17.trans hle18)), hS20, (Slc.le hS18 (fun _ _ h => ROut.le (hle17.trans hle18) h) (hle17.trans hle18)), hA.sub ⟨rfl, rfl, rfl, rfl, rfl, rfl, rfl, rfl, rfl, rfl, trivial⟩, hI⟩
              · have hc70 := hc7; have hc7 := nF hc7; have H := bT H hc7
                refine o_no hA rfl rfl (by rw [hc70]; simp [vb]) rfl fun a hA => 
                  o_no hA rfl rfl (by rw [hc70]; simp [vb]) rfl fun a hA => 
                  o_no hA rfl rfl (by rw [hc70]; simp [vb]) rfl fun a hA => 
                  stp hA (r_pick_f hA rfl hc70 rfl) rfl fun a hA => 
                  stp hA (r_mv hA rfl) rfl fun a hA => 
                  o_no hA rfl rfl (by simp [vb]) rfl fun a hA => 
                  o_no hA rfl rfl (by simp [vb]) rfl fun a hA => 
                  o_no hA rfl rfl (by simp [vb]) rfl fun a hA => 
                  o_no hA rfl rfl (by simp [vb]) rfl fun a hA => 
                  stp hA (r_pick_f hA rfl rfl rfl) rfl fun a hA => 
                  stp hA (r_mv hA rfl) rfl fun a hA => 
                  o_no hA rfl rfl (by simp [vb]) rfl fun a hA => 
                  o_no hA rfl rfl (by simp [vb]) rfl fun a hA => 
                  o_no hA rfl rfl (by simp [vb]) rfl fun a hA => 
                  stp hA (r_pick_f hA rfl rfl rfl) rfl fun a hA => 
                  stp hA (r_mv hA rfl) rfl fun a hA => 
                  o_no hA rfl rfl (by simp [vb]) rfl fun a hA => 
                  o_no hA rfl rfl (by simp [vb]) rfl fun a hA => 
                  o_no hA rfl rfl (by simp [vb]) rfl fun a hA => 
                  stp hA (r_pick_f hA rfl rfl rfl) rfl fun a hA => 
                  stp hA (r_as hA rfl) rfl fun a hA => ?_
                refine o_nil ?_
                obtain ⟨μ22, hle19, hsv18, hI⟩ := hI.freezeRow 0 rfl
                have hS21 : Slc (RIn μ22) 35 μ22 (.slice (some ⟨g7, 0, none⟩) 1 1) ([(⟨(⟨[1, 0, 0, 0, 0, 0, 0, 0, 0, 0, 0, 0, 0, 0, 0, 0, 0, 0, 0, 0, 0, 0, 0, 0, 0, 0, 0, 0, 0, 0, 0, 0], 4294967295⟩ : Point), [], 0⟩ : In)] : List In) := ⟨_, (Els.mono hE4 (fun _ _ h => RIn.le hle19 h)), hsv18⟩
                obtain ⟨μ23, hle20, hsv19, hI⟩ := hI.freezeRow 4 rfl
                have hS22 : Slc (ROut μ23) 33 μ23 (.slice (some ⟨g2, 0, none⟩) 1 1) ([(⟨Int.tmod x1 1000, (List.replicate 32 0)⟩ : Out)] : List Out) := ⟨_, (Els.mono hE2 (fun _ _ h => ROut.le (hle19.trans hle20) h)), hsv19⟩
                obtain ⟨μ24, hle21, hsv20, hI⟩ := hI.freezeRow 1 rfl
                have hS23 : Slc (RIn μ24) 35 μ24 (.slice (some ⟨g5, 0, none⟩) 2 2) ([(⟨(⟨(List.replicate 32 0), 1⟩ : Point), [], 0⟩ : In), (([(⟨r2, x0, 0⟩ : In)] : List In).getD (0 : Int).toNat default)] : List In) := ⟨_, (Els.mono hE3 (fun _ _ h => RIn.le ((hle19.trans hle20).trans hle21) h)), hsv20⟩
                obtain ⟨μ25, hle22, hsv21, hI⟩ := hI.freezeRow 3 rfl
                have hS24 : Slc (RIn μ25) 35 μ25 (.slice (some ⟨g1, 0, none⟩) 1 1) ([(⟨r2, x0, 0⟩ : In)] : List In) := ⟨_, (Els.mono hE1 (fun _ _ h => RIn.le (((hle19.trans hle20).trans hle21).trans hle22) h)), hsv21⟩
                cases Option.some.inj (bS H)
                exact ⟨μ25, (.slice (some ⟨g7, 0, none⟩) 1 1), (.slice (some ⟨g2, 0, none⟩) 1 1), (.slice (some ⟨g5, 0, none⟩) 2 2), (.slice (some ⟨g2, 0, none⟩) 1 1), (.slice (some ⟨g1, 0, none⟩) 1 1), (.slice (some ⟨g2, 0, none⟩) 1 1), (((hle19.trans hle20).trans hle21).trans hle22), (Slc.le hS21 (fun _ _ h => RIn.le ((hle20.trans hle21).trans hle22) h) ((hle20.trans hle21).trans hle22)), (Slc.le hS22 (fun _ _ h => ROut.le (hle21.trans hle22) h) (hle21.trans hle22)), (Slc.le hS23 (fun _ _ h => RIn.le hle22 h) hle22), (Slc.le hS22 (fun _ _ h => ROut.le (hle21.trans hle22) h) (hle21.trans hle22)), hS24, (Slc.le hS22 (fun _ _ h => ROut.le (hle21.trans hle22) h) (hle21.trans hle22)), hA.sub ⟨rfl, rfl, rfl, rfl, rfl, rfl, rfl, rfl, rfl, rfl, trivial⟩, hI⟩
            · have hc60 := hc6; have hc6 := ft hc6; have H := bF H hc6
              refine o_no hA rfl rfl (by rw [hc60]; simp [vb]) rfl fun a hA => 
                o_no hA rfl rfl (by rw [hc60]; simp [vb]) rfl fun a hA => 
                o_no hA rfl rfl (by rw [hc60]; simp [vb]) rfl fun a hA => 
                stp hA (r_pick_f hA rfl hc60 rfl) rfl fun a hA => 
                stp hA (r_mv hA rfl) rfl fun a hA => 
                o_no hA rfl rfl (by simp [vb]) rfl fun a hA => 
                o_no hA rfl rfl (by simp [vb]) rfl fun a hA => 
                o_no hA rfl rfl (by simp [vb]) rfl fun a hA => 
                stp hA (r_pick_f hA rfl rfl rfl) rfl fun a hA => 
                stp hA (r_mv hA rfl) rfl fun a hA => 
                o_no hA rfl rfl (by simp [vb]) rfl fun a hA => 
                o_no hA rfl rfl (by simp [vb]) rfl fun a hA => 
                o_no hA rfl rfl (by simp [vb]) rfl fun a hA => 
                o_no hA rfl rfl (by simp [vb]) rfl fun a hA => 
                stp hA (r_pick_f hA rfl rfl rfl) rfl fun a hA => 
                stp hA (r_mv hA rfl) rfl fun a hA => 
                o_no hA rfl rfl (by simp [vb]) rfl fun a hA => 
                o_no hA rfl rfl (by simp [vb]) rfl fun a hA => 
                o_no hA rfl rfl (by simp [vb]) rfl fun a hA => 
                stp hA (r_pick_f hA rfl rfl rfl) rfl fun a hA => 
                stp hA (r_mv hA rfl) rfl fun a hA => 
                o_no hA rfl rfl (by simp [vb]) rfl fun a hA => 
                o_no hA rfl rfl (by simp [vb]) rfl fun a hA => 
                o_no hA rfl rfl (by simp [vb]) rfl fun a hA => 
                stp hA (r_pick_f hA rfl rfl rfl) rfl fun a hA => 
                stp hA (r_as hA rfl) rfl fun a hA => ?_
              refine o_nil ?_
              obtain ⟨μ26, hle23, hsv22, hI⟩ := hI.freezeRow 0 rfl
              have hS25 : Slc (RIn μ26) 35 μ26 (.slice (some ⟨g7, 0, none⟩) 1 1) ([(⟨(⟨[1, 0, 0, 0, 0, 0, 0, 0, 0, 0, 0, 0, 0, 0, 0, 0, 0, 0, 0, 0, 0, 0, 0, 0, 0, 0, 0, 0, 0, 0, 0, 0], 4294967295⟩ : Point), [], 0⟩ : In)] : List In) := ⟨_, (Els.mono hE4 (fun _ _ h => RIn.le hle23 h)), hsv22⟩
              obtain ⟨μ27, hle24, hsv23, hI⟩ := hI.freezeRow 4 rfl
              have hS26 : Slc (ROut μ27) 33 μ27 (.slice (some ⟨g2, 0, none⟩) 1 1) ([(⟨Int.tmod x1 1000, (List.replicate 32 0)⟩ : Out)] : List Out) := ⟨_, (Els.mono hE2 (fun _ _ h => ROut.le (hle23.trans hle24) h)), hsv23⟩
              obtain ⟨μ28, hle25, hsv24, hI⟩ := hI.freezeRow 1 rfl
              have hS27 : Slc (RIn μ28) 35 μ28 (.slice (some ⟨g5, 0, none⟩) 2 2) ([(⟨(⟨(List.replicate 32 0), 1⟩ : Point), [], 0⟩ : In), (([(⟨r2, x0, 0⟩ : In)] : List In).getD (0 : Int).toNat default)] : List In) := ⟨_, (Els.mono hE3 (fun _ _ h => RIn.le ((hle23.trans hle24).trans hle25) h)), hsv24⟩
              obtain ⟨μ29, hle26, hsv25, hI⟩ := hI.freezeRow 3 rfl
              have hS28 : Slc (RIn μ29) 35 μ29 (.slice (some ⟨g1, 0, none⟩) 1 1) ([(⟨r2, x0, 0⟩ : In)] : List In) := ⟨_, (Els.mono hE1 (fun _ _ h => RIn.le (((hle23.trans hle24).trans hle25).trans hle26) h)), hsv25⟩
              cases Option.some.inj (bS H)
              exact ⟨μ29, (.slice (some ⟨g7, 0, none⟩) 1 1), (.slice (some ⟨g2, 0, none⟩) 1 1), (.slice (some ⟨g5, 0, none⟩) 2 2), (.slice (some ⟨g2, 0, none⟩) 1 1), (.slice (some ⟨g1, 0, none⟩) 1 1), (.slice (some ⟨g2, 0, none⟩) 1 1), (((hle23.trans hle24).trans hle25).trans hle26), (Slc.le hS25 (fun _ _ h => RIn.le ((hle24.trans hle25).trans hle26) h) ((hle24.trans hle25).trans hle26)), (Slc.le hS26 (fun _ _ h => ROut.le (hle25.trans hle26) h) (hle25.trans hle26)), (Slc.le hS27 (fun _ _ h => RIn.le hle26 h) hle26), (Slc.le hS26 (fun _ _ h => ROut.le (hle25.trans hle26) h) (hle25.trans hle26)), hS28, (Slc.le hS26 (fun _ _ h => ROut.le (hle25.trans hle26) h) (hle25.trans hle26)), hA.sub ⟨rfl, rfl, rfl, rfl, rfl, rfl, rfl, rfl, rfl, rfl, trivial⟩, hI⟩
          · have hc50 := hc5; have hc5 := ft hc5; have H := bF H hc5
            refine o_no hA rfl rfl (by rw [hc50]; simp [vb]) rfl fun a hA => 
              o_no hA rfl rfl (by rw [hc50]; simp [vb]) rfl fun a hA => 
              stp hA (r_pick_f hA rfl hc50 rfl) rfl fun a hA => 
              stp hA (r_mv hA rfl) rfl fun a hA => 
              o_no hA rfl rfl (by simp [vb]) rfl fun a hA => 
              o_no hA rfl rfl (by simp [vb]) rfl fun a hA => 
              o_no hA rfl rfl (by simp [vb]) rfl fun a hA => 
              stp hA (r_pick_f hA rfl rfl rfl) rfl fun a hA => 
              stp hA (r_mv hA rfl) rfl fun a hA => 
              o_no hA rfl rfl (by simp [vb]) rfl fun a hA => 
              o_no hA rfl rfl (by simp [vb]) rfl fun a hA => 
              o_no hA rfl rfl (by simp [vb]) rfl fun a hA => 
              stp hA (r_pick_f hA rfl rfl rfl) rfl fun a hA => 
              stp hA (r_mv hA rfl) rfl fun a hA => 
              o_no hA rfl rfl (by simp [vb]) rfl fun a hA => 
              o_no hA rfl rfl (by simp [vb]) rfl fun a hA => 
              o_no hA rfl rfl (by simp [vb]) rfl fun a hA => 
              o_no hA rfl rfl (by simp [vb]) rfl fun a hA => 
              stp hA (r_pick_f hA rfl rfl rfl) rfl fun a hA => 
              stp hA (r_mv hA rfl) rfl fun a hA => 
              o_no hA rfl rfl (by simp [vb]) rfl fun a hA => 
              o_no hA rfl rfl (by simp [vb]) rfl fun a hA => 
              o_no hA rfl rfl (by simp [vb]) rfl fun a hA => 
              stp hA (r_pick_f hA rfl rfl rfl) rfl fun a hA => 
              stp hA (r_mv hA rfl) rfl fun a hA => 
              o_no hA rfl rfl (by simp [vb]) rfl fun a hA => 
              o_no hA rfl rfl (by simp [vb]) rfl fun a hA => 
              o_no hA rfl rfl (by simp [vb]) rfl fun a hA => 
              stp hA (r_pick_f hA rfl rfl rfl) rfl fun a hA => 
              stp hA (r_as hA rfl) rfl fun a hA => ?_
            refine o_nil ?_
            obtain ⟨μ30, hle27, hsv26, hI⟩ := hI.freezeRow 0 rfl
            have hS29 : Slc (RIn μ30) 35 μ30 (.slice (some ⟨g7, 0, none⟩) 1 1) ([(⟨(⟨[1, 0, 0, 0, 0, 0, 0, 0, 0, 0, 0, 0, 0, 0, 0, 0, 0, 0, 0, 0, 0, 0, 0, 0, 0, 0, 0, 0, 0, 0, 0, 0], 4294967295⟩ : Point), [], 0⟩ : In)] : List In) := ⟨_, (Els.mono hE4 (fun _ _ h => RIn.le hle27 h)), hsv26⟩
            obtain ⟨μ31, hle28, hsv27, hI⟩ := hI.freezeRow 4 rfl
            have hS30 : Slc (ROut μ31) 33 μ31 (.slice (some ⟨g2, 0, none⟩) 1 1) ([(⟨Int.tmod x1 1000, (List.replicate 32 0)⟩ : Out)] : List Out) := ⟨_, (Els.mono hE2 (fun _ _ h => ROut.le (hle27.trans hle28) h)), hsv27⟩
            obtain ⟨μ32, hle29, hsv28, hI⟩ := hI.freezeRow 1 rfl
            have hS31 : Slc (RIn μ32) 35 μ32 (.slice (some ⟨g5, 0, none⟩) 2 2) ([(⟨(⟨(List.replicate 32 0), 1⟩ : Point), [], 0⟩ : In), (([(⟨r2, x0, 0⟩ : In)] : List In).getD (0 : Int).toNat default)] : List In) := ⟨_, (Els.mono hE3 (fun _ _ h => RIn.le ((hle27.trans hle28).trans hle29) h)), hsv28⟩
            obtain ⟨μ33, hle30, hsv29, hI⟩ := hI.freezeRow 3 rfl
            have hS32 : Slc (RIn μ33) 35 μ33 (.slice (some ⟨g1, 0, none⟩) 1 1) ([(⟨r2, x0, 0⟩ : In)] : List In) := ⟨_, (Els.mono hE1 (fun _ _ h => RIn.le (((hle27.trans hle28).trans hle29).trans hle30) h)), hsv29⟩
            cases Option.some.inj (bS H)
            exact ⟨μ33, (.slice (some ⟨g7, 0, none⟩) 1 1), (.slice (some ⟨g2, 0, none⟩) 1 1), (.slice (some ⟨g5, 0, none⟩) 2 2), (.slice (some ⟨g2, 0, none⟩) 1 1), (.slice (some ⟨g1, 0, none⟩) 1 1), (.slice (some ⟨g2, 0, none⟩) 1 1), (((hle27.trans hle28).trans hle29).trans hle30), (Slc.le hS29 (fun _ _ h => RIn.le ((hle28.trans hle29).trans hle30) h) ((hle28.trans hle29).trans hle30)), (Slc.le hS30 (fun _ _ h => ROut.le (hle29.trans hle30) h) (hle29.trans hle30)), (Slc.le hS31 (fun _ _ h => RIn.le hle30 h) hle30), (Slc.le hS30 (fun _ _ h => ROut.le (hle29.trans hle30) h) (hle29.trans hle30)), hS32, (Slc.le hS30 (fun _ _ h => ROut.le (hle29.trans hle30) h) (hle29.trans hle30)), hA.sub ⟨rfl, rfl, rfl, rfl, rfl, rfl, rfl, rfl, rfl, rfl, trivial⟩, hI⟩
        · rintro a w ⟨μ1, vvc3, vvc4, vvc5, vvc6, vvc7, vvc8, hle1, wc3, wc4, wc5, wc6, wc7, wc8, hA, hI⟩
          have H := Hk2
          refine w_ret ?_
          obtain rfl := Option.some.inj (bS H)
          exact ret1 hA Tryd.results9 rfl ⟨_, rfl, rfl, trivial, hI.forget0⟩
end Go.Proofs.YtpeelghbhihgkaaDoor.T
namespace Go.Proofs.YtpeelghbhihgkaaDoor.T
open Go Go.Proofs Go.Proofs.YtpeelghbhihgkaaDoor.K
set_option linter.unusedVariables false
theorem w64 {x : Int} (h0 : -9223372036854775808 ≤ x) (h1 : x < 9223372036854775808) : IntKind.i64.wrap x = x := wrap_id ⟨h0, h1⟩
theorem wu64 {x : Int} (h0 : 0 ≤ x) (h1 : x < 18446744073709551616) : IntKind.u64.wrap x = x := wrap_id ⟨h0, h1⟩
end Go.Proofs.YtpeelghbhihgkaaDoor.T
namespace Go.Proofs.YtpeelghbhihgkaaDoor.T
open Go Go.Proofs Go.Proofs.YtpeelghbhihgkaaDoor.K
set_option linter.unusedVariables false
set_option linter.unusedSimpArgs false
theorem loop_idx {τ ρ : Type} {step : τ → Option (τ ⊕ ρ)} (st : Nat → τ) (n : Nat) (h : ∀ i, i < n → step (st i) = some (.inl (st (i + 1)))) : loopO step (st 0) = loopO step (st n) := by
  induction n with
  | zero => rfl
  | succ n ih => rw [ih (fun i hi => h i (by omega)), loopO_inl (h n (by omega))]
theorem loop_run {τ ρ : Type} {step : τ → Option (τ ⊕ ρ)} (st : Nat → τ) (n : Nat) {r : ρ} {s : τ} (h0 : s = st 0) (h : ∀ i, i < n → step (st i) = some (.inl (st (i + 1)))) (hn : step (st n) = some (.inr r)) : loopO step s = some r := by
  rw [h0, loop_idx st n h, loopO_inr hn]
theorem sR_nat (k : IntKind) {a n : Nat} (hn : n ≤ k.bits) : sR k (a : Int) (n : Int) = ((a >>> n : Nat) : Int) := by
  unfold sR
  have e : min (n : Int).toNat k.bits = n := by simp; omega
  rw [e, Nat.shiftRight_eq_div_pow]
  rw [Int.fdiv_eq_ediv_of_nonneg _ (by exact Int.pow_nonneg (by omega))]
  push_cast
  rfl
end Go.Proofs.YtpeelghbhihgkaaDoor.T
namespace Go.Proofs.YtpeelghbhihgkaaDoor.T
open Go Go.Proofs Go.Proofs.YtpeelghbhihgkaaDoor.K
set_option linter.unusedVariables false
set_option linter.unusedSimpArgs false
def kc : List Int := digest_keys.lit0
def zs (n : Nat) : Nat := (120 - n % 64) % 64
end Go.Proofs.YtpeelghbhihgkaaDoor.T
namespace Go.Proofs.YtpeelghbhihgkaaDoor.T
open Go Go.Proofs Go.Proofs.YtpeelghbhihgkaaDoor.K
set_option linter.unusedVariables false
set_option linter.unusedSimpArgs false
theorem range_map_succ {α : Type} (f : Nat → α) (i : Nat) : (List.range (i + 1)).map f = (List.range i).map f ++ [f i] := by rw [List.range_succ, List.map_append]; rfl
end Go.Proofs.YtpeelghbhihgkaaDoor.T
namespace Go.Proofs.YtpeelghbhihgkaaDoor.T
open Go Go.Proofs Go.Proofs.YtpeelghbhihgkaaDoor.K
set_option linter.unusedVariables false
set_option linter.unusedSimpArgs false
theorem els_all {α : Type} {RE : α → List Value → Prop} {sz : Nat} {xs : List α} {cs : List Value} {Q : α → Prop} (h : Els RE sz xs cs) (f : ∀ x c, RE x c → Q x) : ∀ x ∈ xs, Q x := by
  induction h with
  | nil => simp
  | cons h _ _ ih =>
    intro y hy
    rcases List.mem_cons.1 hy with rfl | hy
    · exact f _ _ h
    · exact ih y hy
theorem slc_ints {k : IntKind} {μ : Store} {v : Value} {xs : List Int} (h : Slc (RI k) 1 μ v xs) : ∀ x ∈ xs, InR k x := by
  obtain ⟨cs, he, _⟩ := h
  exact els_all he fun x c hc => hc.2
theorem getD_mid {α : Type} (pre r : List α) (x d : α) : (pre ++ x :: r).getD ((pre.length : Int).toNat) d = x := by
  simp [List.getD]
theorem mid_lt {α : Type} (pre r : List α) (x : α) : 0 ≤ (pre.length : Int) ∧ (pre.length : Int) < ((pre ++ x :: r).length : Int) := by
  simp; omega
theorem mid_next {α : Type} (pre r : List α) (x : α) (h : (pre ++ x :: r).length ≤ 140737488355328) : IntKind.i64.wrap ((pre.length : Int) + 1) = ((pre ++ [x]).length : Int) := by
  simp at h
  rw [w64 (by omega) (by omega)]; simp
theorem winc (i : Nat) (hi : i < 9223372036854775807) : IntKind.i64.wrap ((i : Int) + 1) = ((i + 1 : Nat) : Int) := by
  rw [w64 (by omega) (by omega)]; omega
theorem take_next {α : Type} (xs : List α) (i : Nat) (d : α) (h : i < xs.length) : xs.take i ++ [xs.getD i d] = xs.take (i + 1) := by
  rw [List.take_add_one]
  simp [List.getD, h]
end Go.Proofs.YtpeelghbhihgkaaDoor.T
namespace Go.Proofs.YtpeelghbhihgkaaDoor.T
open Go Go.Proofs Go.Proofs.YtpeelghbhihgkaaDoor.K
set_option linter.unusedVariables false
set_option linter.unusedSimpArgs false
def Hs (l : List (List Int)) : Prop := ∀ x ∈ l, x.length = 32
theorem Hs.at {l : List (List Int)} (h : Hs l) {i : Nat} (hi : i < l.length) : (l.getD i []).length = 32 := by
  have e : l.getD i [] = l[i] := by simp [List.getD, hi]
  rw [e]; exact h _ (List.getElem_mem hi)
end Go.Proofs.YtpeelghbhihgkaaDoor.T
namespace Go.Proofs.YtpeelghbhihgkaaDoor.T
open Go Go.Proofs Go.Proofs.YtpeelghbhihgkaaDoor.K
set_option linter.unusedVariables false
set_option linter.unusedSimpArgs false
theorem u8e (x : Int) : IntKind.u8.wrap x = x % 256 := by simp [IntKind.wrap, IntKind.signed, IntKind.bits]
def lb (a m : Nat) : List Int := (List.range m).map fun j => ((a / 2 ^ (8 * j) % 256 : Nat) : Int)
theorem lb_len (a m : Nat) : (lb a m).length = m := by simp [lb]
theorem sR_div (k : IntKind) {a n : Nat} (hn : n ≤ k.bits) : sR k (a : Int) (n : Int) = ((a / 2 ^ n : Nat) : Int) := by
  rw [sR_nat k hn, Nat.shiftRight_eq_div_pow]
theorem number_eq' (r : List Int) (a k : Nat) (hk : k ≤ 100) (hl : r.length + k ≤ 140737488355328) : compact_number.f r (a : Int) (k : Int) = some (r ++ lb a k) := by
  simp only [compact_number.f]
  have h : loopO (compact_number.s0 (k : Int)) (r, (a : Int), 0) = some (r ++ lb a k, ((a / 2 ^ (8 * k) : Nat) : Int)) := by
    refine loop_run (fun j => (r ++ lb a j, ((a / 2 ^ (8 * j) : Nat) : Int), (j : Int))) k (by simp [lb]) (fun j hj => ?_) ?_
    · simp only [compact_number.s0]
      have e1 : IntKind.u8.wrap ((a / 2 ^ (8 * j) : Nat) : Int) = ((a / 2 ^ (8 * j) % 256 : Nat) : Int) := by rw [u8e]; generalize a / 2 ^ (8 * j) = q; omega
      have e2 : sR .u64 ((a / 2 ^ (8 * j) : Nat) : Int) 8 = ((a / 2 ^ (8 * (j + 1)) : Nat) : Int) := by
        have := sR_div .u64 (a := a / 2 ^ (8 * j)) (n := 8) (by decide)
        rw [Nat.div_div_eq_div_mul, ← Nat.pow_add] at this
        exact this
      rw [if_pos (by omega), if_pos (by simp [lb_len]; omega), e1, e2, winc j (by omega), List.append_assoc]
      have : lb a j ++ [((a / 2 ^ (8 * j) % 256 : Nat) : Int)] = lb a (j + 1) := by
        unfold lb; rw [range_map_succ]
      rw [this]
    · simp only [compact_number.s0]
      rw [if_neg (by omega)]
  rw [h, Option.bind_some]
theorem four_eq (b : List Int) (a : Nat) (ha : a < 4294967296) (hl : b.length + 4 ≤ 140737488355328) : compact_Four.f b (a : Int) = some (b ++ lb a 4) := by
  have := number_eq' b a 4 (by omega) hl
  simp only [compact_Four.f, bytes_Clone.f]
  rw [wu64 (by omega) (by omega), if_pos (by omega), Option.bind_some]
  rw [show ((4 : Nat) : Int) = 4 from rfl] at this
  rw [this, Option.bind_some]
structure HN where
  v : Nat
  p : List Int
  r : List Int
  t : Nat
  w : Nat
  n : Nat
deriving DecidableEq
def HN.h (h : HN) : Head := ⟨h.v, h.p, h.r, h.t, h.w, h.n⟩
def hb (h : HN) : List Int := lb h.v 4 ++ (h.p ++ (h.r ++ (lb h.t 4 ++ (lb h.w 4 ++ lb h.n 4))))
end Go.Proofs.YtpeelghbhihgkaaDoor.T
namespace Go.Proofs.YtpeelghbhihgkaaDoor.T
open Go Go.Proofs Go.Proofs.YtpeelghbhihgkaaDoor.K
set_option linter.unusedVariables false
set_option linter.unusedSimpArgs false
def sl : List Er := [xErrEnd, xErrShape, xErrLong, xErrMany, xErrValue, xErrTwice, xErrBase, xErrRoot, xErrKnown, xErrParent, xErrInvalid, xErrTime, xErrMissing, xErrKey, xErrYoung, xErrEarly, xErrLess, xErrReward, xErrClash, xErrLimit, xErrFull, xErrRange, xErrNone, xErrWord, xErrNumber]
theorem sl_plain : ∀ e ∈ sl, e ≠ .b 0 ∧ e.isP = false := by decide
theorem alike_eq {e f : Er} (he : e ≠ .b 0) (hf : f ≠ .b 0) (hp : e.isP = false) : sargassosee_Alike.f e f = some (decide (e = f)) := by
  simp only [sargassosee_Alike.f]
  rw [if_neg he, Option.bind_some, if_neg (by simpa using hf), if_pos]
  cases e with
  | pl _ _ => cases hp
  | b n =>
    cases f with
    | pl _ _ => cases n <;> rfl
    | b m =>
      cases n with
      | zero => exact absurd rfl he
      | succ n => rfl
theorem gd {α : Type} (l : List α) (d : α) {i : Nat} (h : i < l.length) : l.getD i d = l[i] := by simp [List.getD, h]
theorem sl_ne : ∀ i, i < 25 → ∀ j, j < 25 → i ≠ j → sl.getD i (.b 0) ≠ sl.getD j (.b 0) := by decide +kernel
theorem sentinel_at (k : Nat) (hk : k < 25) : sargassosee_sentinel.f (sl.getD k (.b 0)) = some (101 + (k : Int)) := by
  have hl : sl.length = 25 := rfl
  have hmem : ∀ i, i < 25 → sl.getD i (.b 0) ∈ sl := fun i hi => by
    have e := gd sl (.b 0) (i := i) (by omega)
    rw [e]; exact List.getElem_mem _
  have h0 : sargassosee_sentinels.f = some sl := rfl
  unfold sargassosee_sentinel.f
  rw [h0, Option.bind_some]
  have hs : ∀ i : Nat, i < 25 → sargassosee_sentinel.s0 (sl.getD k (.b 0)) sl (i : Int) = if k = i then some (.inr (IntKind.i64.wrap (101 + (i : Int)))) else some (.inl (IntKind.i64.wrap ((i : Int) + 1))) := fun i hi => by
    simp only [sargassosee_sentinel.s0]
    rw [if_pos (by omega), if_pos (by omega), Int.toNat_natCast, alike_eq (sl_plain _ (hmem k hk)).1 (sl_plain _ (hmem i hi)).1 (sl_plain _ (hmem k hk)).2, Option.bind_some]
    by_cases h : k = i
    · subst h; rw [if_pos (by simp), if_pos rfl]
    · rw [if_neg (by simpa using sl_ne k hk i hi h), if_neg h]
  have key := loop_idx (step := sargassosee_sentinel.s0 (sl.getD k (.b 0)) sl) (fun i => (i : Int)) k (fun i hi => by rw [hs i (by omega), if_neg (by omega), winc i (by omega)])
  have e0 : ((0 : Nat) : Int) = 0 := rfl
  simp only [e0] at key
  have h1 := hs k hk
  rw [if_pos rfl] at h1
  rw [key, loopO_inr h1, w64 (by omega) (by omega)]
theorem samefault_bare (a b : Int) : sargassoref_SameFault.f ⟨a, false, 0, false, 0⟩ ⟨b, false, 0, false, 0⟩ = some (decide (a = b)) := by
  simp only [sargassoref_SameFault.f]
  by_cases h : a = b
  · simp [h]
  · simp [h]
theorem is_nil (c : Int) : sargassosee_Is.f (.b 0) c = some (decide (0 = c)) := by
  simp only [sargassosee_Is.f, sargassosee_Same.f, sargassosee_Fault.f, sargassoref_Bare.f, sargassoref_None.f, Option.bind_some, if_true]
  rw [samefault_bare, Option.bind_some]; rfl
theorem fault_at (k : Nat) (hk : k < 25) : sargassosee_Fault.f (sl.getD k (.b 0)) = some ⟨101 + (k : Int), false, 0, false, 0⟩ := by
  have hm : sl.getD k (.b 0) ∈ sl := by
    have hl : sl.length = 25 := rfl
    have e := gd sl (.b 0) (i := k) (by omega)
    rw [e]; exact List.getElem_mem _
  obtain ⟨h1, h2⟩ := sl_plain _ hm
  simp only [sargassosee_Fault.f]
  rw [if_neg h1, if_neg (by rw [h2]; decide), sentinel_at k hk]
  rfl
theorem is_at (k : Nat) (hk : k < 25) (c : Int) : sargassosee_Is.f (sl.getD k (.b 0)) c = some (decide (101 + (k : Int) = c)) := by
  simp only [sargassosee_Is.f, sargassosee_Same.f, sargassoref_Bare.f, Option.bind_some]
  rw [fault_at k hk, Option.bind_some, samefault_bare, Option.bind_some, Option.bind_some]
theorem is_base (c : Int) : sargassosee_Is.f xErrBase c = some (decide (107 = c)) := is_at 6 (by decide) c
end Go.Proofs.YtpeelghbhihgkaaDoor.T
namespace Go.Proofs.YtpeelghbhihgkaaDoor.T
open Go Go.Proofs Go.Proofs.YtpeelghbhihgkaaDoor.K
set_option linter.unusedVariables false
set_option linter.unusedSimpArgs false
def Bs (l : List Int) : Prop := ∀ x ∈ l, InR .u8 x
theorem Bs.app {l m : List Int} (h : Bs l) (k : Bs m) : Bs (l ++ m) := fun x hx => (List.mem_append.1 hx).elim (h x) (k x)
theorem Bs.take {l : List Int} (h : Bs l) (n : Nat) : Bs (l.take n) := fun x hx => h x (List.mem_of_mem_take hx)
theorem Bs.drop {l : List Int} (h : Bs l) (n : Nat) : Bs (l.drop n) := fun x hx => h x (List.mem_of_mem_drop hx)
theorem bs_nil : Bs [] := fun x hx => by cases hx
def vl : List Int → Nat
  | [] => 0
  | b :: l => b.toNat + 256 * vl l
def nx (n : Nat) (s : List Int × Er) : List Int × (List Int × Er) :=
  if s.2 ≠ .b 0 then ([], s) else if s.1.length < n then ([], (s.1, xErrEnd)) else (s.1.take n, (s.1.drop n, s.2))
def wh (n : Nat) (s : List Int × Er) : Nat × (List Int × Er) := (vl (nx n s).1, (nx n s).2)
def ln (n : Nat) : Nat := if n < 253 then 1 else if n < 65536 then 3 else if n < 4294967296 then 5 else 9
theorem len_eq (n : Nat) : compact_Len.f (n : Int) = some (ln n : Int) := by
  simp only [compact_Len.f, ln]
  by_cases h1 : n < 253
  · rw [if_pos (by omega), if_pos h1]; rfl
  · rw [if_neg (by omega), if_neg h1]
    by_cases h2 : n < 65536
    · rw [if_pos (by omega), if_pos h2]; rfl
    · rw [if_neg (by omega), if_neg h2]
      by_cases h3 : n < 4294967296
      · rw [if_pos (by omega), if_pos h3]; rfl
      · rw [if_neg (by omega), if_neg h3]; rfl
def my (n : Nat) : Nat := if n = 253 then 2 else if n = 254 then 4 else if n = 255 then 8 else 0
def nm (most : Int) (s : List Int × Er) : Nat × (List Int × Er) :=
  let a := wh 1 s
  let b := if 0 < my a.1 then wh (my a.1) a.2 else a
  if b.2.2 ≠ .b 0 then (0, b.2) else if ln b.1 ≠ 1 + my a.1 then (0, (b.2.1, xErrShape)) else if most < (b.1 : Int) then (0, (b.2.1, xErrMany)) else b
def by_ (n : Int) (s : List Int × Er) : List Int × (List Int × Er) := if n ≤ 0 then ([], s) else nx n.toNat s
end Go.Proofs.YtpeelghbhihgkaaDoor.T
namespace Go.Proofs.YtpeelghbhihgkaaDoor.T
open Go Go.Proofs Go.Proofs.YtpeelghbhihgkaaDoor.K
set_option linter.unusedVariables false
set_option linter.unusedSimpArgs false
def pt (n : Nat) : List Int := if n < 253 then lb n 1 else if n < 65536 then 253 :: lb n 2 else if n < 4294967296 then 254 :: lb n 4 else 255 :: lb n 8
theorem pt_len (n : Nat) : (pt n).length = ln n := by
  unfold pt ln
  split
  · simp [lb_len]
  · split
    · simp [lb_len]
    · split <;> simp [lb_len]
theorem ln_le (n : Nat) : 1 ≤ ln n ∧ ln n ≤ 9 := by unfold ln; split <;> (try split) <;> (try split) <;> omega
theorem lb_one (n : Nat) : lb n 1 = [((n % 256 : Nat) : Int)] := by simp [lb, List.range_succ]
theorem put_eq (b : List Int) (n : Nat) (hn : n < 18446744073709551616) (hl : b.length ≤ 1000000) : compact_Put.f b (n : Int) = some (b ++ pt n) := by
  simp only [compact_Put.f, bytes_Clone.f]
  rw [if_pos (by omega), Option.bind_some, len_eq, Option.bind_some]
  unfold ln pt
  by_cases h1 : n < 253
  · rw [if_pos h1, if_pos h1, if_pos (by rfl), if_pos (by omega), u8e, lb_one]
    congr 3
  · rw [if_neg h1, if_neg h1]
    by_cases h2 : n < 65536
    · have := number_eq' (b ++ [253]) n 2 (by omega) (by simp; omega)
      rw [show ((2 : Nat) : Int) = 2 from rfl] at this
      rw [if_pos h2, if_pos h2, if_neg (by decide), if_pos (by rfl), if_pos (by omega), this, Option.bind_some, List.append_assoc]; rfl
    · rw [if_neg h2, if_neg h2]
      by_cases h3 : n < 4294967296
      · have := number_eq' (b ++ [254]) n 4 (by omega) (by simp; omega)
        rw [show ((4 : Nat) : Int) = 4 from rfl] at this
        rw [if_pos h3, if_pos h3, if_neg (by decide), if_neg (by decide), if_pos (by rfl), if_pos (by omega), this, Option.bind_some, List.append_assoc]; rfl
      · have := number_eq' (b ++ [255]) n 8 (by omega) (by simp; omega)
        rw [show ((8 : Nat) : Int) = 8 from rfl] at this
        rw [if_neg h3, if_neg h3, if_neg (by decide), if_neg (by decide), if_neg (by decide), if_pos (by omega), this, Option.bind_some, List.append_assoc]; rfl
theorem eight_eq (b : List Int) (a : Nat) (hl : b.length ≤ 1000000) : compact_Eight.f b (a : Int) = some (b ++ lb a 8) := by
  have := number_eq' b a 8 (by omega) (by omega)
  simp only [compact_Eight.f, bytes_Clone.f]
  rw [if_pos (by omega), Option.bind_some]
  rw [show ((8 : Nat) : Int) = 8 from rfl] at this
  rw [this, Option.bind_some]
end Go.Proofs.YtpeelghbhihgkaaDoor.T
namespace Go.Proofs.YtpeelghbhihgkaaDoor.T
open Go Go.Proofs Go.Proofs.YtpeelghbhihgkaaDoor.K
set_option linter.unusedVariables false
set_option linter.unusedSimpArgs false
abbrev Stp (α : Type) := List Int × Er → α × (List Int × Er)
section
variable {α β : Type}
def ret (x : α) : Stp α := fun s => (x, s)
end
end Go.Proofs.YtpeelghbhihgkaaDoor.T
namespace Go.Proofs.YtpeelghbhihgkaaDoor.T
open Go Go.Proofs Go.Proofs.YtpeelghbhihgkaaDoor.K
set_option linter.unusedVariables false
set_option linter.unusedSimpArgs false
structure InOk (i : In) : Prop where
  tx : i.From.Tx.length = 32
  txb : Bs i.From.Tx
  n : InR .u32 i.From.N
  key : Bs i.Key
  seq : InR .u32 i.Seq
structure OutOk (o : Out) : Prop where
  val : InR .u64 o.Value
  lock : o.Lock.length = 32
  lockb : Bs o.Lock
structure TxOk (t : Tx) : Prop where
  v : InR .u32 t.Version
  ins : ∀ i ∈ t.Ins, InOk i
  outs : ∀ o ∈ t.Outs, OutOk o
  t : InR .u32 t.Time
structure Few (a b : Nat) (t : Tx) : Prop where
  ins : t.Ins.length ≤ a
  outs : t.Outs.length ≤ a
  key : ∀ i ∈ t.Ins, i.Key.length ≤ b
theorem Few.mono {a b c d : Nat} {t : Tx} (h : Few a b t) (h1 : a ≤ c) (h2 : b ≤ d) : Few c d t := ⟨Nat.le_trans h.ins h1, Nat.le_trans h.outs h1, fun i hi => Nat.le_trans (h.key i hi) h2⟩
def ib (i : In) : List Int := i.From.Tx ++ (lb i.From.N.toNat 4 ++ (pt i.Key.length ++ (i.Key ++ lb i.Seq.toNat 4)))
def ob (o : Out) : List Int := lb o.Value.toNat 8 ++ o.Lock
def tb (t : Tx) : List Int := lb t.Version.toNat 4 ++ (pt t.Ins.length ++ ((t.Ins.map ib).flatten ++ (pt t.Outs.length ++ ((t.Outs.map ob).flatten ++ lb t.Time.toNat 4))))
theorem ib_len {i : In} (h : InOk i) : (ib i).length = 40 + ln i.Key.length + i.Key.length := by
  simp only [ib, List.length_append, h.tx, lb_len, pt_len]; omega
theorem ob_len {o : Out} (h : OutOk o) : (ob o).length = 40 := by simp only [ob, List.length_append, h.lock, lb_len]
theorem flat_le {α : Type} (f : α → List Int) (b : Nat) : ∀ (l : List α), (∀ x ∈ l, (f x).length ≤ b) → (l.map f).flatten.length ≤ b * l.length
  | [], _ => by simp
  | x :: l, h => by
    have h1 := flat_le f b l fun y hy => h y (by simp [hy])
    have h2 := h x (by simp)
    simp only [List.map_cons, List.flatten_cons, List.length_append, List.length_cons]
    rw [Nat.mul_add, Nat.mul_one]; omega
theorem outs_le {t : Tx} (h : TxOk t) : (t.Outs.map ob).flatten.length ≤ 40 * t.Outs.length := flat_le ob 40 t.Outs fun o ho => by rw [ob_len (h.outs o ho)]; omega
theorem nat4 {x : Int} (h : InR .u32 x) : x = ((x.toNat : Nat) : Int) ∧ x.toNat < 4294967296 := by obtain ⟨a, b⟩ := h; omega
theorem nat8 {x : Int} (h : InR .u64 x) : x = ((x.toNat : Nat) : Int) ∧ x.toNat < 18446744073709551616 := by obtain ⟨a, b⟩ := h; omega
theorem getD_mem {α : Type} {l : List α} {d : α} {i : Nat} (h : i < l.length) : l.getD i d ∈ l := by rw [gd l d h]; exact List.getElem_mem h
theorem flat_next {α : Type} (f : α → List Int) (l : List α) (d : α) (i : Nat) (h : i < l.length) : ((l.take (i + 1)).map f).flatten = ((l.take i).map f).flatten ++ f (l.getD i d) := by
  rw [← take_next l i d h]; simp
theorem take_few {α : Type} (f : α → List Int) (b : Nat) (l : List α) (h : ∀ x ∈ l, (f x).length ≤ b) (i : Nat) (hi : i ≤ l.length) : ((l.take i).map f).flatten.length ≤ b * l.length := by
  have := flat_le f b (l.take i) fun x hx => h x (List.mem_of_mem_take hx)
  rw [List.length_take, Nat.min_eq_left hi] at this
  exact Nat.le_trans this (Nat.mul_le_mul_left b hi)
theorem tbytes_eq {t : Tx} (h : TxOk t) (hf : Few 100 1000 t) : tx_Bytes.f t = some (tb t) := by
  obtain ⟨v1, v2⟩ := nat4 h.v
  obtain ⟨t1, t2⟩ := nat4 h.t
  have hi := hf.ins
  have ho := hf.outs
  have hil : ∀ i ∈ t.Ins, (ib i).length ≤ 2000 := fun i hi => by
    rw [ib_len (h.ins i hi)]
    have := (ln_le i.Key.length).2
    have := hf.key i hi
    omega
  have hol : ∀ o ∈ t.Outs, (ob o).length ≤ 40 := fun o ho => by rw [ob_len (h.outs o ho)]; omega
  have lp := (ln_le t.Ins.length).2
  have lq := (ln_le t.Outs.length).2
  have L1 : ∀ P : List Int, P.length ≤ 100 → loopO (tx_Bytes.s0 t) (P, 0) = some (P ++ (t.Ins.map ib).flatten) := fun P hP => by
    refine loop_run (fun i => (P ++ ((t.Ins.take i).map ib).flatten, (i : Int))) t.Ins.length (by simp) (fun i hi => ?_) ?_
    · have hm := getD_mem (l := t.Ins) (d := default) hi
      have ok := h.ins _ hm
      have hk := hf.key _ hm
      have hb := take_few ib 2000 t.Ins hil i (by omega)
      rw [flat_next ib t.Ins default i hi]
      simp only [tx_Bytes.s0, Int.toNat_natCast]
      generalize t.Ins.getD i default = x at *
      obtain ⟨n1, n2⟩ := nat4 ok.n
      obtain ⟨s1, s2⟩ := nat4 ok.seq
      have ltx := ok.tx
      have lk := (ln_le x.Key.length).2
      have hf4 := four_eq (P ++ ((t.Ins.take i).map ib).flatten ++ x.From.Tx) x.From.N.toNat n2 (by simp only [List.length_append]; omega)
      have hp := put_eq (P ++ ((t.Ins.take i).map ib).flatten ++ x.From.Tx ++ lb x.From.N.toNat 4) x.Key.length (by omega) (by simp only [List.length_append, lb_len]; omega)
      have hf5 := four_eq (P ++ ((t.Ins.take i).map ib).flatten ++ x.From.Tx ++ lb x.From.N.toNat 4 ++ pt x.Key.length ++ x.Key) x.Seq.toNat s2 (by simp only [List.length_append, lb_len, pt_len]; omega)
      rw [← n1] at hf4
      rw [← s1] at hf5
      rw [if_pos (by omega), if_pos (by omega), if_pos (by simp only [List.length_append]; omega), hf4, Option.bind_some, wu64 (by omega) (by omega), hp, Option.bind_some, if_pos (by simp only [List.length_append, lb_len, pt_len]; omega), hf5, Option.bind_some, winc i (by omega)]
      simp only [ib, List.append_assoc]
    · simp only [tx_Bytes.s0]
      rw [if_neg (by omega), List.take_length]
  have L2 : ∀ P : List Int, P.length ≤ 300000 → loopO (tx_Bytes.s1 t) (P, 0) = some (P ++ (t.Outs.map ob).flatten) := fun P hP => by
    refine loop_run (fun i => (P ++ ((t.Outs.take i).map ob).flatten, (i : Int))) t.Outs.length (by simp) (fun i hi => ?_) ?_
    · have hm := getD_mem (l := t.Outs) (d := default) hi
      have ok := h.outs _ hm
      have hb := take_few ob 40 t.Outs hol i (by omega)
      rw [flat_next ob t.Outs default i hi]
      simp only [tx_Bytes.s1, Int.toNat_natCast]
      generalize t.Outs.getD i default = x at *
      obtain ⟨n1, n2⟩ := nat8 ok.val
      have ltx := ok.lock
      have h8 := eight_eq (P ++ ((t.Outs.take i).map ob).flatten) x.Value.toNat (by simp only [List.length_append]; omega)
      rw [← n1] at h8
      rw [if_pos (by omega), if_pos (by omega), h8, Option.bind_some, if_pos (by simp only [List.length_append, lb_len]; omega), winc i (by omega)]
      simp only [ob, List.append_assoc]
    · simp only [tx_Bytes.s1]
      rw [if_neg (by omega), List.take_length]
  have hI := flat_le ib 2000 t.Ins hil
  have hO := flat_le ob 40 t.Outs hol
  have f1 := four_eq [] t.Version.toNat v2 (by simp)
  rw [← v1] at f1
  have p1 := put_eq (lb t.Version.toNat 4) t.Ins.length (by omega) (by rw [lb_len]; omega)
  have p2 := put_eq (lb t.Version.toNat 4 ++ pt t.Ins.length ++ (t.Ins.map ib).flatten) t.Outs.length (by omega) (by simp only [List.length_append, lb_len, pt_len]; omega)
  have f2 := four_eq (lb t.Version.toNat 4 ++ pt t.Ins.length ++ (t.Ins.map ib).flatten ++ pt t.Outs.length ++ (t.Outs.map ob).flatten) t.Time.toNat t2 (by simp only [List.length_append, lb_len, pt_len]; omega)
  rw [← t1] at f2
  simp only [tx_Bytes.f]
  rw [f1, Option.bind_some, List.nil_append, wu64 (x := (t.Ins.length : Int)) (by omega) (by omega), p1, Option.bind_some, L1 _ (by simp only [List.length_append, lb_len, pt_len]; omega), Option.bind_some, wu64 (x := (t.Outs.length : Int)) (by omega) (by omega), p2, Option.bind_some, L2 _ (by simp only [List.length_append, lb_len, pt_len]; omega), Option.bind_some, f2, Option.bind_some]
  simp only [tb, List.append_assoc]
end Go.Proofs.YtpeelghbhihgkaaDoor.T
namespace Go.Proofs.YtpeelghbhihgkaaDoor.T
open Go Go.Proofs Go.Proofs.YtpeelghbhihgkaaDoor.K
set_option linter.unusedVariables false
set_option linter.unusedSimpArgs false
def ztx : Tx := ⟨0, [], [], 0⟩
end Go.Proofs.YtpeelghbhihgkaaDoor.T
namespace Go.Proofs.YtpeelghbhihgkaaDoor.T
open Go Go.Proofs Go.Proofs.YtpeelghbhihgkaaDoor.K
set_option linter.unusedVariables false
set_option linter.unusedSimpArgs false
noncomputable instance (a b : Nat) (t : Tx) : Decidable (Few a b t) := Classical.propDecidable _
def nullP : Point := ⟨List.replicate 32 0, 4294967295⟩
theorem point_iff (a b : Point) : a = b ↔ (a.Tx = b.Tx ∧ a.N = b.N) := by
  obtain ⟨a1, a2⟩ := a
  obtain ⟨b1, b2⟩ := b
  simp
end Go.Proofs.YtpeelghbhihgkaaDoor.T
namespace Go.Proofs.YtpeelghbhihgkaaDoor.T
open Go Go.Proofs Go.Proofs.YtpeelghbhihgkaaDoor.K
set_option linter.unusedVariables false
def goSum : Int → List Int → Int × Bool
  | s, [] => (s, true)
  | s, x :: r => if 2100000000000000 < s + x then (0, false) else goSum (s + x) r
theorem sum_loop (xs : List Int) (h : xs.length ≤ 140737488355328) (hx : ∀ x ∈ xs, InR .u64 x) : ∀ (r pre : List Int) (s : Int), xs = pre ++ r → 0 ≤ s → s ≤ 2100000000000000 →
    loopO (compact_Sum.s0 xs) (s, (pre.length : Int)) = some (goSum s r)
  | [], pre, s, e, _, _ => by
    obtain rfl : xs = pre := by simpa using e
    exact loopO_inr (by simp [compact_Sum.s0, goSum])
  | x :: r, pre, s, e, h0, h1 => by
    have hr : InR .u64 x := hx x (by simp [e])
    obtain ⟨a, b⟩ := hr
    have h3 := mid_lt pre r x
    have ih := sum_loop xs h hx r (pre ++ [x]) (s + x) (by simp [e]) (by omega)
    subst e
    unfold goSum
    by_cases hc : 2100000000000000 < s + x
    · rw [if_pos hc]
      refine loopO_inr ?_
      simp only [compact_Sum.s0, if_pos h3.2, if_pos h3, getD_mid]
      rw [if_pos (by rw [wu64 (by omega) (by omega)]; omega)]
    · rw [if_neg hc, loopO_inl (s' := (s + x, ((pre ++ [x]).length : Int)))]
      · exact ih (by omega)
      · simp only [compact_Sum.s0, if_pos h3.2, if_pos h3, getD_mid]
        rw [if_neg (by rw [wu64 (by omega) (by omega)]; omega), wu64 (by omega) (by omega), mid_next pre r x h]
theorem sum_eq (xs : List Int) (h : xs.length ≤ 140737488355328) (hx : ∀ x ∈ xs, InR .u64 x) : compact_Sum.f xs = some (goSum 0 xs) :=
  sum_loop xs h hx xs [] 0 rfl (by omega) (by omega)
end Go.Proofs.YtpeelghbhihgkaaDoor.T
namespace Go.Proofs.YtpeelghbhihgkaaDoor.T
open Go Go.Proofs Go.Proofs.YtpeelghbhihgkaaDoor.K
set_option linter.unusedVariables false
set_option linter.unusedSimpArgs false
theorem find_run {step : Int → Option (Int ⊕ Int)} (n : Nat) (p : Nat → Prop) [DecidablePred p] (hn : n < 9223372036854775807)
    (hs : ∀ i, i < n → step (i : Int) = if p i then some (.inr (i : Int)) else some (.inl (IntKind.i64.wrap ((i : Int) + 1)))) (he : step (n : Int) = some (.inr (-1))) : ∃ r, loopO step 0 = some r ∧ (0 ≤ r ↔ ∃ i, i < n ∧ p i) := by
  have key : ∀ m k, m + k = n → (∀ i, i < k → ¬ p i) → ∃ r, loopO step (k : Int) = some r ∧ (0 ≤ r ↔ ∃ i, i < n ∧ p i) := by
    intro m
    induction m with
    | zero =>
      intro k e h
      obtain rfl : k = n := by omega
      exact ⟨-1, loopO_inr he, ⟨fun h => by omega, fun ⟨i, h1, h2⟩ => absurd h2 (h i h1)⟩⟩
    | succ m ih =>
      intro k e h
      have h1 := hs k (by omega)
      by_cases hp : p k
      · rw [if_pos hp] at h1
        exact ⟨k, loopO_inr h1, ⟨fun _ => ⟨k, by omega, hp⟩, fun _ => by omega⟩⟩
      · rw [if_neg hp, winc k (by omega)] at h1
        rw [loopO_inl h1]
        refine ih (k + 1) (by omega) fun i hi => ?_
        rcases Nat.lt_or_ge i k with h2 | h2
        · exact h i h2
        · obtain rfl : i = k := by omega
          exact hp
  exact key n 0 (by omega) (by simp)
theorem ex_getD {α : Type} (l : List α) (d : α) (p : α → Prop) : (∃ i, i < l.length ∧ p (l.getD i d)) ↔ ∃ x ∈ l, p x := by
  constructor
  · rintro ⟨i, hi, h⟩
    exact ⟨_, getD_mem hi, h⟩
  · rintro ⟨x, hx, h⟩
    obtain ⟨i, hi, rfl⟩ := List.getElem_of_mem hx
    exact ⟨i, hi, by rw [gd l d hi]; exact h⟩
theorem contains_key (l : List In) (hl : l.length ≤ 1000000) : slices_ContainsFunc_api_In_api_In_at_tx_Check_1.f l = some (decide (∃ i ∈ l, 80 < i.Key.length)) := by
  obtain ⟨r, h1, h2⟩ := find_run (step := slices_IndexFunc_api_In_api_In_at_tx_Check_1.s0 l) l.length (fun i => 80 < (l.getD i default).Key.length) (by omega) (fun i hi => by
    simp only [slices_IndexFunc_api_In_api_In_at_tx_Check_1.s0, tx_Check_1.f, Int.toNat_natCast]
    rw [if_pos (by omega), if_pos (by omega), Option.bind_some]
    by_cases c : 80 < (l.getD i default).Key.length
    · rw [if_pos c, if_pos (by simp only [decide_eq_true_eq]; omega)]
    · rw [if_neg c, if_neg (by simp only [decide_eq_true_eq]; omega)]) (by simp [slices_IndexFunc_api_In_api_In_at_tx_Check_1.s0])
  simp only [slices_ContainsFunc_api_In_api_In_at_tx_Check_1.f, slices_IndexFunc_api_In_api_In_at_tx_Check_1.f]
  rw [h1, Option.bind_some]
  exact congrArg some (decide_eq_decide.2 (h2.trans (ex_getD l default fun i => 80 < i.Key.length)))
theorem isnull_eq (p : Point) : spend_IsNull.f p = some (decide (p = nullP)) := by
  simp only [spend_IsNull.f, spend_Null.f, Option.bind_some]
  exact congrArg some (decide_eq_decide.2 (point_iff p nullP).symm)
theorem contains_null (l : List In) (hl : l.length ≤ 1000000) : slices_ContainsFunc_api_In_api_In_at_tx_base_1.f l = some (decide (∃ i ∈ l, i.From = nullP)) := by
  obtain ⟨r, h1, h2⟩ := find_run (step := slices_IndexFunc_api_In_api_In_at_tx_base_1.s0 l) l.length (fun i => (l.getD i default).From = nullP) (by omega) (fun i hi => by
    simp only [slices_IndexFunc_api_In_api_In_at_tx_base_1.s0, tx_base_1.f, Int.toNat_natCast]
    rw [if_pos (by omega), if_pos (by omega), isnull_eq, Option.bind_some, Option.bind_some]
    by_cases c : (l.getD i default).From = nullP
    · rw [if_pos c, if_pos (decide_eq_true c)]
    · rw [if_neg c, if_neg (by simp only [decide_eq_true_eq]; exact c)]) (by simp [slices_IndexFunc_api_In_api_In_at_tx_base_1.s0])
  simp only [slices_ContainsFunc_api_In_api_In_at_tx_base_1.f, slices_IndexFunc_api_In_api_In_at_tx_base_1.f]
  rw [h1, Option.bind_some]
  exact congrArg some (decide_eq_decide.2 (h2.trans (ex_getD l default fun i => i.From = nullP)))
theorem mget_put {K V : Type} [DecidableEq K] (l : List (K × V)) (k k' : K) (v : V) : mget (mput l k v) k' = if k = k' then some v else mget l k' := by
  induction l with
  | nil => simp [mput, mget]
  | cons p l ih =>
    unfold mput
    by_cases h : p.1 = k
    · rw [if_pos h]
      subst h
      by_cases c : p.1 = k'
      · simp [mget, c]
      · simp [mget, c]
    · rw [if_neg h]
      simp only [mget]
      by_cases c : p.1 = k'
      · rw [if_pos c, if_pos c, if_neg (fun e => h (c.trans e.symm))]
      · rw [if_neg c, if_neg c, ih]
def frs (t : Tx) : List Point := t.Ins.map (·.From)
theorem frs_next (t : Tx) (i : Nat) (h : i < t.Ins.length) : (t.Ins.take (i + 1)).map (·.From) = (t.Ins.take i).map (·.From) ++ [(t.Ins.getD i default).From] := by
  rw [← take_next t.Ins i default h]; simp
theorem twice_loop (t : Tx) (hl : t.Ins.length ≤ 1000000) : ∀ (m i : Nat) (s : List (Point × Bool)), m + i = t.Ins.length → (∀ k, ((mget s k).getD false = true ↔ k ∈ (t.Ins.take i).map (·.From))) → ((t.Ins.take i).map (·.From)).Nodup →
    loopO (tx_twice.s0 t) ((i : Int), s) = some (decide (¬ (frs t).Nodup)) := by
  intro m
  induction m with
  | zero =>
    intro i s e h hn
    obtain rfl : i = t.Ins.length := by omega
    rw [List.take_length] at hn
    rw [loopO_inr (by simp only [tx_twice.s0]; rw [if_neg (by omega)]), decide_eq_false (fun h => h hn)]
  | succ m ih =>
    intro i s e h hn
    by_cases c : (t.Ins.getD i default).From ∈ (t.Ins.take i).map (·.From)
    · rw [loopO_inr (by
        simp only [tx_twice.s0, Int.toNat_natCast]
        rw [if_pos (by omega), if_pos (by omega), if_pos ((h _).2 c)])]
      have h2 : ¬ (frs t).Nodup := fun hd => by
        have h3 : ((t.Ins.take (i + 1)).map (·.From)).Nodup := hd.sublist ((List.take_sublist _ _).map _)
        rw [frs_next t i (by omega)] at h3
        exact (List.nodup_append.1 h3).2.2 _ c _ (by simp) rfl
      rw [decide_eq_true h2]
    · rw [loopO_inl (by
        simp only [tx_twice.s0, Int.toNat_natCast]
        rw [if_pos (by omega), if_pos (by omega), if_neg (fun h2 => c ((h _).1 h2)), winc i (by omega)])]
      refine ih (i + 1) _ (by omega) (fun k => ?_) ?_
      · rw [mget_put, frs_next t i (by omega)]
        by_cases ck : (t.Ins.getD i default).From = k
        · rw [if_pos ck, ← ck]; simp
        · rw [if_neg ck, h k, List.mem_append]
          refine ⟨.inl, fun h => ?_⟩
          rcases h with h | h
          · exact h
          · exact absurd (by simpa using h) (fun e => ck (Eq.symm e))
      · rw [frs_next t i (by omega)]
        refine List.nodup_append.2 ⟨hn, by simp, fun a ha b hb => ?_⟩
        have hb' : b = (t.Ins.getD i default).From := by simpa using hb
        intro e
        exact c (by rw [← hb', ← e]; exact ha)
theorem twice_eq' (t : Tx) (hl : t.Ins.length ≤ 1000000) : tx_twice.f t = some (decide (¬ (frs t).Nodup)) := by
  have := twice_loop t hl t.Ins.length 0 [] (by omega) (fun k => by simp [mget]) (by simp)
  exact this
theorem values_eq (t : Tx) (hl : t.Outs.length ≤ 1000000) : tx_values.f t = some (t.Outs.map (·.Value)) := by
  simp only [tx_values.f]
  rw [show loopO (tx_values.s0 t) ([], 0) = _ from loop_run (step := tx_values.s0 t) (fun i => ((t.Outs.take i).map (·.Value), (i : Int))) t.Outs.length (r := t.Outs.map (·.Value)) rfl (fun i hi => by
    simp only [tx_values.s0, Int.toNat_natCast]
    rw [if_pos (by omega), if_pos (by omega), if_pos (by simp; omega), winc i (by omega), ← take_next t.Outs i default hi]
    simp) (by simp only [tx_values.s0]; rw [if_neg (by omega), List.take_length])]
  rfl
def vs (t : Tx) : List Int := t.Outs.map (·.Value)
theorem vs_in {t : Tx} (h : TxOk t) : ∀ x ∈ vs t, InR .u64 x := fun x hx => by
  obtain ⟨o, ho, rfl⟩ := List.mem_map.1 hx
  exact (h.outs o ho).val
theorem txsum_eq {t : Tx} (h : TxOk t) (hl : t.Outs.length ≤ 1000000) : tx_Sum.f t = some (goSum 0 (vs t)) := by
  simp only [tx_Sum.f]
  rw [values_eq t hl, Option.bind_some, show t.Outs.map (·.Value) = vs t from rfl, sum_eq _ (by simp [vs]; omega) (vs_in h)]
  rfl
def isBase (t : Tx) : Prop := t.Ins.length = 1 ∧ (t.Ins.getD 0 default).From = nullP
instance (t : Tx) : Decidable (isBase t) := inferInstanceAs (Decidable (_ ∧ _))
theorem base_eq (t : Tx) : tx_Base.f t = some (decide (isBase t)) := by
  simp only [tx_Base.f]
  by_cases c : t.Ins.length = 1
  · rw [if_pos (by omega), if_pos (by omega), isnull_eq]
    simp only [Option.bind_some]
    exact congrArg some (decide_eq_decide.2 ⟨fun h => ⟨c, h⟩, fun h => h.2⟩)
  · rw [if_neg (by omega), Option.bind_some, decide_eq_false (fun h => c h.1)]
noncomputable def bs (t : Tx) : Er := if isBase t then (if (t.Ins.getD 0 default).Key.length < 4 then xErrBase else .b 0) else if ∃ i ∈ t.Ins, i.From = nullP then xErrBase else .b 0
theorem base1_eq (t : Tx) (hl : t.Ins.length ≤ 1000000) : tx_base.f t = some (bs t) := by
  simp only [tx_base.f]
  rw [base_eq, Option.bind_some]
  unfold bs
  by_cases c : isBase t
  · rw [if_pos (decide_eq_true c), if_pos c, if_pos (by have := c.1; omega)]
    by_cases k : (t.Ins.getD 0 default).Key.length < 4
    · rw [if_pos k, if_pos (show (((t.Ins.getD (0 : Int).toNat default).Key).length : Int) < 4 by rw [show (0 : Int).toNat = 0 from rfl]; omega)]
    · rw [if_neg k, if_neg (show ¬ (((t.Ins.getD (0 : Int).toNat default).Key).length : Int) < 4 by rw [show (0 : Int).toNat = 0 from rfl]; omega)]
  · rw [if_neg (by simp only [decide_eq_true_eq]; exact c), if_neg c, contains_null _ hl, Option.bind_some]
    by_cases k : ∃ i ∈ t.Ins, i.From = nullP
    · rw [if_pos (decide_eq_true k), if_pos k]
    · rw [if_neg (by simp only [decide_eq_true_eq]; exact k), if_neg k]
def mn (t : Tx) : Prop := t.Ins.length = 0 ∨ 50 < t.Ins.length ∨ t.Outs.length = 0 ∨ 50 < t.Outs.length
instance (t : Tx) : Decidable (mn t) := inferInstanceAs (Decidable (_ ∨ _))
noncomputable def ck (t : Tx) : Er := if mn t then xErrMany else if 4000 < (tb t).length then xErrLong else if ∃ i ∈ t.Ins, 80 < i.Key.length then xErrKey else if (goSum 0 (vs t)).2 = false then xErrValue else if ¬ (frs t).Nodup then xErrTwice else bs t
theorem many_eq (t : Tx) : (if (t.Ins.length : Int) = 0 then some true else (if 50 < (t.Ins.length : Int) then some true else (if (t.Outs.length : Int) = 0 then some true else some (decide (50 < (t.Outs.length : Int)))))) = some (decide (mn t)) := by
  have hm : mn t ↔ (t.Ins.length = 0 ∨ 50 < t.Ins.length ∨ t.Outs.length = 0 ∨ 50 < t.Outs.length) := Iff.rfl
  by_cases c1 : t.Ins.length = 0
  · rw [if_pos (by omega), decide_eq_true (hm.2 (.inl c1))]
  · by_cases c2 : 50 < t.Ins.length
    · rw [if_neg (by omega), if_pos (by omega), decide_eq_true (hm.2 (.inr (.inl c2)))]
    · by_cases c3 : t.Outs.length = 0
      · rw [if_neg (by omega), if_neg (by omega), if_pos (by omega), decide_eq_true (hm.2 (.inr (.inr (.inl c3))))]
      · rw [if_neg (by omega), if_neg (by omega), if_neg (by omega)]
        exact congrArg some (decide_eq_decide.2 ⟨fun h => hm.2 (by omega), fun h => by have := hm.1 h; omega⟩)
theorem size_eq {t : Tx} (h : TxOk t) (hf : Few 60 100 t) : tx_Size.f t = some ((tb t).length : Int) := by
  simp only [tx_Size.f]
  rw [tbytes_eq h (hf.mono (by omega) (by omega)), Option.bind_some]
theorem check_eq {t : Tx} (h : TxOk t) (hf : Few 60 100 t) : tx_Check.f t = some (ck t) := by
  have h1 := hf.ins
  have h2 := hf.outs
  simp only [tx_Check.f]
  rw [many_eq, Option.bind_some]
  unfold ck
  by_cases c1 : mn t
  · rw [if_pos (decide_eq_true c1), if_pos c1]
  · rw [if_neg (by simp only [decide_eq_true_eq]; exact c1), if_neg c1, size_eq h hf, Option.bind_some]
    by_cases c2 : 4000 < (tb t).length
    · rw [if_pos (by omega), if_pos c2]
    · rw [if_neg (by omega), if_neg c2, contains_key _ (by omega), Option.bind_some]
      by_cases c3 : ∃ i ∈ t.Ins, 80 < i.Key.length
      · rw [if_pos (decide_eq_true c3), if_pos c3]
      · rw [if_neg (by simp only [decide_eq_true_eq]; exact c3), if_neg c3, txsum_eq h (by omega), Option.bind_some]
        by_cases c4 : (goSum 0 (vs t)).2 = false
        · rw [if_neg (by rw [c4]; decide), if_pos c4]
        · rw [if_pos (by simpa using c4), if_neg c4, twice_eq' t (by omega), Option.bind_some]
          by_cases c5 : ¬ (frs t).Nodup
          · rw [if_pos (decide_eq_true c5), if_pos c5]
          · rw [if_neg (by simp only [decide_eq_true_eq]; exact c5), if_neg c5, base1_eq t (by omega), Option.bind_some]
theorem ztx_ok : TxOk ztx := ⟨by simp [ztx, InR, IntKind.min, IntKind.max], by simp [ztx], by simp [ztx], by simp [ztx, InR, IntKind.min, IntKind.max]⟩
theorem ztx_few : Few 60 100 ztx := ⟨by decide, by decide, by simp [ztx]⟩
theorem first4 : sargassolaw4_first.f = some true := by
  simp only [sargassolaw4_first.f]
  rw [show (⟨0, [], [], 0⟩ : Tx) = ztx from rfl, tbytes_eq ztx_ok (ztx_few.mono (by omega) (by omega)), Option.bind_some, size_eq ztx_ok ztx_few]
  rfl
end Go.Proofs.YtpeelghbhihgkaaDoor.T
namespace Go.Proofs.YtpeelghbhihgkaaDoor.T
open Go Go.Proofs Go.Proofs.YtpeelghbhihgkaaDoor.K
set_option linter.unusedVariables false
set_option linter.unusedSimpArgs false
theorem ck_of {t : Tx} (h1 : ¬ mn t) (h2 : (tb t).length ≤ 4000) (h3 : ∀ i ∈ t.Ins, i.Key.length ≤ 80) (h4 : (goSum 0 (vs t)).2 = true) (h5 : (frs t).Nodup) : ck t = bs t := by
  unfold ck
  rw [if_neg h1, if_neg (by omega), if_neg (fun ⟨i, hi, h⟩ => by have := h3 i hi; omega), if_neg (by rw [h4]; decide), if_neg (fun h => h h5)]
theorem tb_small {t : Tx} (h : TxOk t) (h1 : t.Ins.length ≤ 10) (h2 : t.Outs.length ≤ 10) (h3 : ∀ i ∈ t.Ins, i.Key.length ≤ 80) : (tb t).length ≤ 4000 := by
  have k1 := flat_le ib 130 t.Ins fun i hi => by
    rw [ib_len (h.ins i hi)]
    have := (ln_le i.Key.length).2
    have := h3 i hi
    omega
  have k2 := outs_le h
  have k3 := (ln_le t.Ins.length).2
  have k4 := (ln_le t.Outs.length).2
  simp only [tb, List.length_append, lb_len, pt_len]
  omega
def inB (k : List Int) : In := ⟨nullP, k, 0⟩
def inA : In := ⟨⟨List.replicate 32 0, 1⟩, [], 0⟩
def inC : In := ⟨⟨[1, 0, 0, 0, 0, 0, 0, 0, 0, 0, 0, 0, 0, 0, 0, 0, 0, 0, 0, 0, 0, 0, 0, 0, 0, 0, 0, 0, 0, 0, 0, 0], 4294967295⟩, [], 0⟩
theorem zb : Bs (List.replicate 32 0) := fun x hx => by
  obtain rfl : x = 0 := List.eq_of_mem_replicate hx
  simp [InR]
theorem b0 : InR .u32 0 := by simp [InR]
theorem inB_ok {k : List Int} (h : Bs k) : InOk (inB k) := ⟨by simp [inB, nullP], zb, by simp [inB, nullP, InR], h, b0⟩
theorem inA_ok : InOk inA := ⟨by simp [inA], zb, by simp [inA, InR], bs_nil, b0⟩
theorem inC_ok : InOk inC := ⟨by simp [inC], fun x hx => by
  have : x = 1 ∨ x = 0 := by simpa [inC] using hx
  rcases this with rfl | rfl <;> simp [InR], by simp [inC, InR], bs_nil, b0⟩
theorem sargassolaw4_TxBases.m (μ : Store) (x0 : List Int) (u0 : Value) (h0 : Slc (RI .u8) 1 μ u0 x0) (x1 : Int) (h1 : InR .u64 x1) : sargassolaw4_TxBases.f x0 x1 = some true := by
  have hb : Bs x0 := fun x hx => slc_ints h0 x hx
  simp only [sargassolaw4_TxBases.f]
  rw [first4, Option.bind_some, if_pos rfl]
  by_cases hl : 80 < x0.length
  · rw [if_pos (by omega)]
  rw [if_neg (by omega)]
  simp only [sargassoref1_Null.f, Option.bind_some]
  rw [if_pos (by simp)]
  have hv : 0 ≤ Int.tmod x1 1000 ∧ Int.tmod x1 1000 < 1000 := by
    obtain ⟨a, b⟩ := h1
    rw [Int.tmod_eq_emod_of_nonneg a]
    omega
  generalize Int.tmod x1 1000 = v at hv
  rw [show ([(⟨(⟨List.replicate 32 0, 4294967295⟩ : Point), x0, 0⟩ : In)] : List In) = [inB x0] from rfl, show ([inB x0] : List In).getD (0 : Int).toNat default = inB x0 from rfl,
    show ([(⟨(⟨(List.replicate 32 0), 1⟩ : Point), [], 0⟩ : In), inB x0] : List In) = [inA, inB x0] from rfl,
    show ([(⟨(⟨[1, 0, 0, 0, 0, 0, 0, 0, 0, 0, 0, 0, 0, 0, 0, 0, 0, 0, 0, 0, 0, 0, 0, 0, 0, 0, 0, 0, 0, 0, 0, 0], 4294967295⟩ : Point), [], 0⟩ : In)] : List In) = [inC] from rfl]
  have oo : ∀ o ∈ ([(⟨v, List.replicate 32 0⟩ : Out)] : List Out), OutOk o := fun o ho => by
    obtain rfl := List.mem_singleton.1 ho
    exact ⟨by simp only [InR]; omega, by simp, zb⟩
  generalize hO : ([(⟨v, List.replicate 32 0⟩ : Out)] : List Out) = os at *
  have hol : os.length = 1 := by rw [← hO]; rfl
  have hs : goSum 0 (os.map (·.Value)) = (0 + v, true) := by
    rw [← hO]
    simp only [List.map_cons, List.map_nil, goSum]
    rw [if_neg (by omega)]
  -- three transactions
  have ka : ∀ i ∈ [inB x0], InOk i ∧ i.Key.length ≤ 80 := fun i hi => by
    obtain rfl := List.mem_singleton.1 hi
    exact ⟨inB_ok hb, by simp only [inB]; omega⟩
  have kb : ∀ i ∈ [inA, inB x0], InOk i ∧ i.Key.length ≤ 80 := fun i hi => by
    rcases List.mem_cons.1 hi with rfl | hi
    · exact ⟨inA_ok, by simp [inA]⟩
    · exact ka i hi
  have kc : ∀ i ∈ [inC], InOk i ∧ i.Key.length ≤ 80 := fun i hi => by
    obtain rfl := List.mem_singleton.1 hi
    exact ⟨inC_ok, by simp [inC]⟩
  have ta : TxOk ⟨0, [inB x0], os, 0⟩ := ⟨b0, fun i hi => (ka i hi).1, oo, b0⟩
  have tb_ : TxOk ⟨0, [inA, inB x0], os, 0⟩ := ⟨b0, fun i hi => (kb i hi).1, oo, b0⟩
  have tc : TxOk ⟨0, [inC], os, 0⟩ := ⟨b0, fun i hi => (kc i hi).1, oo, b0⟩
  have fa : Few 60 100 ⟨0, [inB x0], os, 0⟩ := ⟨by simp, by simp only; omega, fun i hi => by have := (ka i hi).2; omega⟩
  have fb : Few 60 100 ⟨0, [inA, inB x0], os, 0⟩ := ⟨by simp, by simp only; omega, fun i hi => by have := (kb i hi).2; omega⟩
  have fc : Few 60 100 ⟨0, [inC], os, 0⟩ := ⟨by simp, by simp only; omega, fun i hi => by have := (kc i hi).2; omega⟩
  have na : nullP ≠ inA.From := by decide
  have nc : inC.From ≠ nullP := by decide
  have isa : isBase ⟨0, [inB x0], os, 0⟩ := ⟨rfl, rfl⟩
  have isb : ¬ isBase ⟨0, [inA, inB x0], os, 0⟩ := fun h => absurd h.1 (show ¬ (2 = 1) by decide)
  have isc : ¬ isBase ⟨0, [inC], os, 0⟩ := fun h => nc h.2
  have mna : ∀ ins : List In, 0 < ins.length → ins.length ≤ 50 → ¬ mn ⟨0, ins, os, 0⟩ := fun ins h1 h2 h => by
    have : ins.length = 0 ∨ 50 < ins.length ∨ os.length = 0 ∨ 50 < os.length := h
    omega
  have ca : ck ⟨0, [inB x0], os, 0⟩ = if x0.length < 4 then xErrBase else .b 0 := by
    rw [ck_of (mna _ (by simp) (by simp)) (tb_small ta (by simp) (by simp only; omega) fun i hi => (ka i hi).2) (fun i hi => (ka i hi).2) (by unfold vs; rw [hs]) (by simp [frs])]
    unfold bs
    rw [if_pos isa]
    rfl
  have cb : ck ⟨0, [inA, inB x0], os, 0⟩ = xErrBase := by
    rw [ck_of (mna _ (by simp) (by simp)) (tb_small tb_ (by simp) (by simp only; omega) fun i hi => (kb i hi).2) (fun i hi => (kb i hi).2) (by unfold vs; rw [hs]) (by
      simp only [frs, List.map_cons, List.map_nil]
      refine List.nodup_cons.2 ⟨fun h => na (List.mem_singleton.1 h).symm, by simp⟩)]
    unfold bs
    rw [if_neg isb, if_pos ⟨inB x0, by simp, rfl⟩]
  have cc : ck ⟨0, [inC], os, 0⟩ = .b 0 := by
    rw [ck_of (mna _ (by simp) (by simp)) (tb_small tc (by simp) (by simp only; omega) fun i hi => (kc i hi).2) (fun i hi => (kc i hi).2) (by unfold vs; rw [hs]) (by simp [frs])]
    unfold bs
    rw [if_neg isc, if_neg (fun ⟨i, hi, h⟩ => by
      obtain rfl := List.mem_singleton.1 hi
      exact nc h)]
  have sb : sargassosee_Is.f xErrBase 107 = some true := by rw [is_base]; rfl
  have s0 : sargassosee_Is.f (.b 0) 0 = some true := by rw [is_nil]; rfl
  rw [base_eq, decide_eq_true isa, base_eq, decide_eq_false isb, base_eq, decide_eq_false isc, check_eq ta fa, check_eq tb_ fb, check_eq tc fc, ca, cb, cc]
  by_cases c : x0.length < 4
  · rw [if_pos c, if_pos (by omega), Option.bind_some]
    simp [sb]
  · rw [if_neg c, if_neg (by omega), Option.bind_some]
    simp [sb, s0]
end Go.Proofs.YtpeelghbhihgkaaDoor.T
namespace Go.Proofs.YtpeelghbhihgkaaDoor.K
open Go Go.Proofs Go.ChangeShapes Go.WideShapes Go.RowKit
def mem (w : World) : Store := fun k => w.heap[k]?
theorem agr_mem (w : World) : Agr (mem w) w := fun _ _ h => h
theorem mem_cell {w : World} {g i : Nat} {v : Value} (h : w.cell? ⟨g, i, none⟩ = some v) : (mem w).cell g i = some v := by
  unfold World.cell? at h
  unfold Store.cell mem
  cases hm : w.heap[g]? with
  | none => simp [hm] at h
  | some o => cases o <;> simp_all
theorem wf_in {k : IntKind} {n : Int} (h : (Lit.int k n).wf = true) : InR k n := by
  cases k <;> simp [Lit.wf, IntKind.min, IntKind.max, IntKind.signed, IntKind.bits] at h <;> simp [InR] <;> omega
section
variable {H : Type} {enc : TypeId × Value → H} {P : Program} {w : World} {base : Nat} {spare : Nat → Bool} {held : Bool} {t e : TypeId}
def Rd (enc : TypeId × Value → H) (P : Program) (w : World) (base : Nat) (spare : Nat → Bool) (held : Bool) (t : TypeId) (R : List Value → Prop) : Prop :=
  ∀ fuel cs x, DataW.trod enc P w base spare held fuel t cs = some x → R cs
theorem rd_int {k : IntKind} (ht : P.underlying t = some (.int k)) : Rd enc P w base spare held t (fun c => ∃ n, RI k n c) := by
  intro fuel cs x h
  obtain ⟨n, rfl, _, hw⟩ := DataW.trod_int ht h
  exact ⟨n, rfl, wf_in hw⟩
theorem els_of {α : Type} {RE : α → List Value → Prop} {sz : Nat} : ∀ {n : Nat} {Q : Nat → Value → Prop}, (∀ i, i < n → ∃ x c, RE x c ∧ c.length = sz ∧ ∀ j v, c[j]? = some v → Q (i * sz + j) v) →
    ∃ xs cs, xs.length = n ∧ Els RE sz xs cs ∧ ∀ j v, cs[j]? = some v → Q j v
  | 0, _, _ => ⟨[], [], rfl, .nil, fun j v h => by simp at h⟩
  | n + 1, Q, f => by
    obtain ⟨x, c, h1, h2, h3⟩ := f 0 (by omega)
    obtain ⟨xs, cs, e1, e2, e3⟩ := els_of (n := n) (Q := fun m v => Q (sz + m) v) (fun i hi => by
      obtain ⟨x, c, h1, h2, h3⟩ := f (i + 1) (by omega)
      refine ⟨x, c, h1, h2, fun j v hj => ?_⟩
      have := h3 j v hj
      rwa [Nat.add_mul, Nat.one_mul, Nat.add_comm (i * sz), Nat.add_assoc] at this)
    refine ⟨x :: xs, c ++ cs, by simp [e1], .cons h1 h2 e2, fun j v hj => ?_⟩
    rcases Nat.lt_or_ge j c.length with h | h
    · rw [List.getElem?_append_left h] at hj
      simpa using h3 j v hj
    · rw [List.getElem?_append_right h] at hj
      have := e3 _ _ hj
      rwa [h2, Nat.add_sub_cancel' (by omega)] at this
theorem rd_slice {α : Type} {RE : α → List Value → Prop} {sz : Nat} (ht : P.underlying t = some (.slice e)) (hc : P.cellsOf e = sz) (h0 : 0 < sz) (hr : Rd enc P w base spare held e (fun c => ∃ x, RE x c)) :
    Rd enc P w base spare held t (fun c => ∃ v xs, c = [v] ∧ Slc RE sz (mem w) v xs) := by
  intro fuel cs x h
  rcases DataW.trod_slice ht h with ⟨rfl, _⟩ | ⟨a, len, cap, elems, rest, n, _, rfl, _, _, hl, hm, hlen, hel, _, _⟩
  · exact ⟨_, [], rfl, [], .nil, none, 0, rfl, Nat.le_refl _, Nat.zero_le _, fun h => absurd rfl h, fun h => absurd rfl h⟩
  have each0 : ∀ i, i < len → ∃ x c, RE x c ∧ c.length = sz ∧ ∀ j, j < sz → w.cell? ((a.add (i * sz)).add j) = c[j]? := by
    intro i hi
    have h1 := hel i hi
    rw [List.getElem?_eq_getElem (by omega), hc] at h1
    obtain ⟨c, hc1, hc2⟩ := Option.bind_eq_some_iff.1 h1
    obtain ⟨_, l1, l2⟩ := World.cells?_some hc1
    obtain ⟨x, hx⟩ := hr _ _ _ hc2
    exact ⟨x, c, hx, l1, l2⟩
  have hs : 0 < len → a.spot = none := by
    intro hp
    obtain ⟨x, c, _, l1, l2⟩ := each0 0 hp
    have h2 := (l2 0 h0).trans (List.getElem?_eq_getElem (by omega))
    simpa [Addr.add] using World.cell?_spot h2
  obtain ⟨b, off, spot⟩ := a
  simp only at hs
  have each : ∀ i, i < len → ∃ x c, RE x c ∧ c.length = sz ∧ ∀ j v, c[j]? = some v → (fun m v => w.cell? ⟨b, off + m, none⟩ = some v) (i * sz + j) v := by
    intro i hi
    obtain ⟨x, c, hx, l1, l2⟩ := each0 i hi
    refine ⟨x, c, hx, l1, fun j v hj => ?_⟩
    have hjl : j < sz := by
      have := (List.getElem?_eq_some_iff.1 hj).1
      omega
    have h2 := (l2 j hjl).trans hj
    rw [hs (by omega), add_plain, add_plain] at h2
    simpa [Nat.add_assoc] using h2
  obtain ⟨xs, cs, e1, e2, e3⟩ := els_of (RE := RE) (sz := sz) (Q := fun m v => w.cell? ⟨b, off + m, none⟩ = some v) each
  refine ⟨_, xs, rfl, cs, e2, some ⟨b, off, spot⟩, cap, by rw [e1], by omega, hm, fun hn => by rw [hs (by omega)]; rfl, fun hn j v hj => mem_cell (e3 j v hj)⟩
theorem rd_at {R : List Value → Prop} {v : Value} {d : DataW H} {ps : List MemPlace} (hr : Rd enc P w base spare held t R) (h : DataW.Trod enc P w base spare held t v d ps) : R v.cells.toList := by
  obtain ⟨fuel, hf⟩ := h
  exact hr _ _ _ hf
theorem at_slice {α : Type} {RE : α → List Value → Prop} {sz : Nat} {r : Reach} {b0 : Nat} {v : Value} {d : DataW H} {ps : List MemPlace} (ht : P.underlying t = some (.slice e)) (hval : Value.okWide P w r b0 t v)
    (hr : Rd enc P w base spare held t (fun c => ∃ v xs, c = [v] ∧ Slc RE sz (mem w) v xs)) (h : DataW.Trod enc P w base spare held t v d ps) : ∃ xs, Slc RE sz (mem w) v xs := by
  obtain ⟨a, len, cap, rfl⟩ := okWide_slice ht hval
  obtain ⟨u, xs, e1, h2⟩ := rd_at hr h
  simp [Value.cells] at e1
  subst e1
  exact ⟨xs, h2⟩
theorem again {W W' : World} {v : Value} {d : DataW H} {ps : List MemPlace} (hl : laidOutB P = true) (hr : P.readableRec t = true) (hrow : t < P.types.size) (h : DataW.Trod enc P W 0 (fun _ => true) true t v d ps) (hb : Below W.heap.size W W') :
    DataW.Trod enc P W' 0 (fun b => decide (b < W.heap.size)) true t v d ps :=
  Below.trod hl hr hrow h hb (fun p hp => let ⟨n, hn⟩ := h; DataW.trod_lt n _ _ _ hn p hp)
end
end Go.Proofs.YtpeelghbhihgkaaDoor.K
namespace Go.Proofs.YtpeelghbhihgkaaDoor.K
open Go Go.Proofs
set_option linter.unusedVariables false
theorem laid_each {P : Program} {W : World} : ∀ {l : List (String × DataW Unit)} {ps : List MemPlace}, DataW.LaidVars P W l ps → ∀ {n : String} {d : DataW Unit}, (n, d) ∈ l →
    ∃ g t cs fuel p, P.globalNamed n = some g ∧ (P.globals[g]?).map (·.type) = some t ∧ W.var? P n = some cs ∧ DataW.trod (fun _ => ()) P W 0 (fun _ => true) false fuel t cs.toList = some (d, p) ∧ ∀ x ∈ MemPlace.row ⟨g, 0, none⟩ cs.size ++ p, x ∈ ps
  | [], ps, h, n, d, hm => by cases hm
  | (m, e) :: r, ps, h, n, d, hm => by
    obtain ⟨g, t, cs, fuel, p, q, hg, ht, hv, hd, hr, rfl⟩ := h
    rcases List.mem_cons.1 hm with e1 | hm
    · cases e1
      exact ⟨g, t, cs, fuel, p, hg, ht, hv, hd, fun x hx => List.mem_append_left _ hx⟩
    · obtain ⟨g', t', cs', fuel', p', a1, a2, a3, a4, a5⟩ := laid_each hr hm
      exact ⟨g', t', cs', fuel', p', a1, a2, a3, a4, fun x hx => List.mem_append_right _ (a5 x hx)⟩
theorem sent_of_laid {P : Program} {W : World} {laid : List (String × DataW Unit)} {code : ByteArray → Nat} {n : String} {text : List UInt8} {g : Nat} {ti tp ta te ts : TypeId} {ms : Array (String × TypeId)} {f : Field}
    (h : laidMet P laid W) (hm : (n, .iface "*errors.errorString" (.ptr (.agg [.lit (.string text)]))) ∈ laid) (hg : P.globalNamed n = some g) (ht : (P.globals[g]?).map (·.type) = some ti)
    (hi : P.underlying ti = some (.interface ms)) (hrow : ∀ u, P.typeName? 3 u = some "*errors.errorString" → u = tp) (hp : P.underlying tp = some (.pointer te)) (he : P.underlying te = some (.struct #[f])) (hft : f.type = ts) (hfo : f.offset = 0) (hs : P.underlying ts = some .string) (hc : P.cellsOf te = 1) (hcs : P.cellsOf ts = 1)
    (hcode : ∀ s : ByteArray, s.data.toList = text → code s = g + 1) : ∃ v, ErV tp ta code (mem W) (.b (g + 1)) v := by
  obtain ⟨ps, hl, hnd, hrows⟩ := h
  obtain ⟨g', t', cs, fuel, p, a1, a2, a3, a4, a5⟩ := laid_each hl hm
  obtain rfl := Option.some.inj (hg.symm.trans a1)
  obtain rfl := Option.some.inj (ht.symm.trans a2)
  obtain ⟨l⟩ := cs
  have ok : ∀ u v, l = [.iface u v] → Value.okWide P W .any 0 u v := fun u v e => by
    subst e
    exact (hrows g 0 (a5 _ (by simp [MemPlace.row]))).2 u v (by simpa using World.var?_cell hg a3 0)
  obtain ⟨a, s, rfl, hcell, hst, hz, rfl⟩ := errorString_of_trod hi hrow hp he hft hfo hs hc hcs a4 ok
  obtain ⟨c, t, hb⟩ := (hrows a.block a.off (a5 _ (by simp [MemPlace.row]))).1
  refine ⟨.iface tp (.pointer (some a)), .inr ⟨by omega, mem_cell (by simpa using World.var?_cell hg a3 0), a, s, c, t, rfl, hb, hcode s hst, fun w hw => ?_⟩⟩
  have e : w.heap[a.block]? = W.heap[a.block]? := (hw _ _ hb).trans hb.symm
  unfold World.cell? at hcell ⊢
  rw [e]
  exact hcell
end Go.Proofs.YtpeelghbhihgkaaDoor.K
namespace Go.Proofs.YtpeelghbhihgkaaDoor.T
open Go Go.Proofs Go.Proofs.YtpeelghbhihgkaaDoor.K
set_option linter.unusedVariables false
set_option linter.unusedSimpArgs false
set_option maxRecDepth 100000
theorem own : ownKnob Tryd.prog.godebug = none := by kernel_rfl
noncomputable def low : Nat := (World.holding Tryd.prog default ⟨#[], #[], []⟩).heap.size
abbrev es0 : ByteArray := { data := #[110, 111, 116, 32, 97, 115, 32, 105, 116, 32, 104, 97, 115, 32, 116, 111, 32, 98, 101] }
abbrev es1 : ByteArray := { data := #[116, 111, 111, 32, 109, 97, 110, 121, 44, 32, 111, 114, 32, 116, 111, 111, 32, 102, 101, 119] }
abbrev es2 : ByteArray := { data := #[116, 111, 111, 32, 108, 111, 110, 103] }
abbrev es3 : ByteArray := { data := #[97, 32, 107, 101, 121, 32, 116, 104, 97, 116, 32, 100, 111, 101, 115, 32, 110, 111, 116, 32, 102, 105, 116] }
abbrev es4 : ByteArray := { data := #[97, 110, 32, 97, 109, 111, 117, 110, 116, 32, 116, 104, 97, 116, 32, 99, 97, 110, 39, 116, 32, 98, 101] }
abbrev es5 : ByteArray := { data := #[111, 110, 101, 32, 116, 104, 105, 110, 103, 32, 116, 119, 105, 99, 101] }
abbrev es6 : ByteArray := { data := #[97, 32, 110, 117, 109, 98, 101, 114, 32, 111, 117, 116, 32, 111, 102, 32, 105, 116, 115, 32, 114, 97, 110, 103, 101] }
abbrev es7 : ByteArray := { data := #[108, 101, 115, 115, 32, 99, 111, 109, 101, 115, 32, 105, 110, 32, 116, 104, 97, 110, 32, 103, 111, 101, 115, 32, 111, 117, 116] }
abbrev es8 : ByteArray := { data := #[105, 116, 32, 101, 110, 100, 115, 32, 116, 111, 111, 32, 101, 97, 114, 108, 121] }
abbrev es9 : ByteArray := { data := #[110, 111, 32, 102, 105, 114, 115, 116, 32, 116, 114, 97, 110, 115, 97, 99, 116, 105, 111, 110, 32, 119, 104, 101, 114, 101, 32, 116, 104, 101, 114, 101, 32, 104, 97, 115, 32, 116, 111, 32, 98, 101, 32, 111, 110, 101, 44, 32, 111, 114, 32, 111, 110, 101, 32, 119, 104, 101, 114, 101, 32, 116, 104, 101, 114, 101, 32, 109, 97, 121, 32, 98, 101, 32, 110, 111, 110, 101] }
abbrev es10 : ByteArray := { data := #[97, 32, 114, 111, 111, 116, 32, 116, 104, 97, 116, 32, 100, 111, 101, 115, 32, 110, 111, 116, 32, 102, 105, 116] }
abbrev es11 : ByteArray := { data := #[107, 110, 111, 119, 110, 32, 97, 108, 114, 101, 97, 100, 121] }
abbrev es12 : ByteArray := { data := #[110, 111, 32, 115, 117, 99, 104, 32, 112, 97, 114, 101, 110, 116] }
abbrev es13 : ByteArray := { data := #[98, 101, 104, 105, 110, 100, 32, 119, 104, 97, 116, 32, 105, 115, 32, 110, 111, 116, 32, 118, 97, 108, 105, 100] }
abbrev es14 : ByteArray := { data := #[97, 32, 116, 105, 109, 101, 32, 116, 104, 97, 116, 32, 105, 115, 32, 116, 111, 111, 32, 101, 97, 114, 108, 121] }
abbrev es15 : ByteArray := { data := #[97, 32, 99, 111, 105, 110, 32, 116, 104, 97, 116, 32, 105, 115, 32, 110, 111, 116, 32, 116, 104, 101, 114, 101] }
abbrev es16 : ByteArray := { data := #[97, 32, 99, 111, 105, 110, 32, 116, 104, 97, 116, 32, 105, 115, 32, 116, 111, 111, 32, 121, 111, 117, 110, 103] }
abbrev es17 : ByteArray := { data := #[116, 111, 111, 32, 101, 97, 114, 108, 121, 32, 116, 111, 32, 98, 101, 32, 116, 97, 107, 101, 110] }
abbrev es18 : ByteArray := { data := #[109, 111, 114, 101, 32, 116, 104, 97, 110, 32, 116, 104, 101, 32, 114, 101, 119, 97, 114, 100] }
abbrev es19 : ByteArray := { data := #[97, 32, 99, 111, 105, 110, 32, 116, 104, 97, 116, 32, 105, 115, 32, 115, 112, 101, 110, 116, 32, 105, 110, 32, 116, 104, 101, 32, 112, 111, 111, 108] }
abbrev es20 : ByteArray := { data := #[116, 111, 111, 32, 109, 97, 110, 121, 32, 116, 104, 97, 116, 32, 104, 97, 110, 103, 32, 116, 111, 103, 101, 116, 104, 101, 114] }
abbrev es21 : ByteArray := { data := #[116, 104, 101, 114, 101, 32, 105, 115, 32, 110, 111, 32, 114, 111, 111, 109] }
abbrev es22 : ByteArray := { data := #[116, 104, 101, 114, 101, 32, 105, 115, 32, 110, 111, 110, 101] }
abbrev es23 : ByteArray := { data := #[110, 111, 32, 115, 117, 99, 104, 32, 119, 111, 114, 100] }
abbrev es24 : ByteArray := { data := #[110, 111, 116, 32, 97, 32, 110, 117, 109, 98, 101, 114] }
def setC (v : Value) : Obj → Obj
  | .cells _ t frozen => .cells #[v] t frozen
  | x => x
noncomputable def laidWorld (os : Os) : World :=
  let w0 := World.holding Tryd.prog os ⟨#[.cells #[.string es0] 223, .cells #[.string es1] 223, .cells #[.string es2] 223, .cells #[.string es3] 223, .cells #[.string es4] 223, .cells #[.string es5] 223, .cells #[.string es6] 223, .cells #[.string es7] 223, .cells #[.string es8] 223, .cells #[.string es9] 223, .cells #[.string es10] 223, .cells #[.string es11] 223, .cells #[.string es12] 223, .cells #[.string es13] 223, .cells #[.string es14] 223, .cells #[.string es15] 223, .cells #[.string es16] 223, .cells #[.string es17] 223, .cells #[.string es18] 223, .cells #[.string es19] 223, .cells #[.string es20] 223, .cells #[.string es21] 223, .cells #[.string es22] 223, .cells #[.string es23] 223, .cells #[.string es24] 223], #[], []⟩
  { w0 with heap := (((((((((((((((((((((((((w0.heap.modify 0 (setC (.iface 206 (.pointer (some ⟨low + 0, 0, none⟩))))).modify 1 (setC (.iface 206 (.pointer (some ⟨low + 1, 0, none⟩))))).modify 2 (setC (.iface 206 (.pointer (some ⟨low + 2, 0, none⟩))))).modify 3 (setC (.iface 206 (.pointer (some ⟨low + 3, 0, none⟩))))).modify 4 (setC (.iface 206 (.pointer (some ⟨low + 4, 0, none⟩))))).modify 5 (setC (.iface 206 (.pointer (some ⟨low + 5, 0, none⟩))))).modify 6 (setC (.iface 206 (.pointer (some ⟨low + 6, 0, none⟩))))).modify 7 (setC (.iface 206 (.pointer (some ⟨low + 7, 0, none⟩))))).modify 8 (setC (.iface 206 (.pointer (some ⟨low + 8, 0, none⟩))))).modify 9 (setC (.iface 206 (.pointer (some ⟨low + 9, 0, none⟩))))).modify 10 (setC (.iface 206 (.pointer (some ⟨low + 10, 0, none⟩))))).modify 11 (setC (.iface 206 (.pointer (some ⟨low + 11, 0, none⟩))))).modify 12 (setC (.iface 206 (.pointer (some ⟨low + 12, 0, none⟩))))).modify 13 (setC (.iface 206 (.pointer (some ⟨low + 13, 0, none⟩))))).modify 14 (setC (.iface 206 (.pointer (some ⟨low + 14, 0, none⟩))))).modify 15 (setC (.iface 206 (.pointer (some ⟨low + 15, 0, none⟩))))).modify 16 (setC (.iface 206 (.pointer (some ⟨low + 16, 0, none⟩))))).modify 17 (setC (.iface 206 (.pointer (some ⟨low + 17, 0, none⟩))))).modify 18 (setC (.iface 206 (.pointer (some ⟨low + 18, 0, none⟩))))).modify 19 (setC (.iface 206 (.pointer (some ⟨low + 19, 0, none⟩))))).modify 20 (setC (.iface 206 (.pointer (some ⟨low + 20, 0, none⟩))))).modify 21 (setC (.iface 206 (.pointer (some ⟨low + 21, 0, none⟩))))).modify 22 (setC (.iface 206 (.pointer (some ⟨low + 22, 0, none⟩))))).modify 23 (setC (.iface 206 (.pointer (some ⟨low + 23, 0, none⟩))))).modify 24 (setC (.iface 206 (.pointer (some ⟨low + 24, 0, none⟩))))) }
theorem starE : "*" ++ "errors.errorString" = "*errors.errorString" := by decide
theorem rowE (u : TypeId) (h : Tryd.prog.typeName? 3 u = some "*errors.errorString") : u = 206 :=
  typeName_ptr_named (nm := "errors.errorString") (by rw [starE]; kernel_rfl) (by kernel_rfl) (by decide) u (by rw [starE]; exact h)
theorem ceE : Tryd.prog.cellsOf 223 = 1 := by kernel_rfl
theorem csE : Tryd.prog.cellsOf 9 = 1 := by kernel_rfl
theorem sent0 {W : World} {l : List (String × DataW Unit)} (h : laidMet Tryd.prog l W) (hm : ("sargasso/api.ErrShape", .iface "*errors.errorString" (.ptr (.agg [.lit (.string [110, 111, 116, 32, 97, 115, 32, 105, 116, 32, 104, 97, 115, 32, 116, 111, 32, 98, 101])]))) ∈ l) : ∃ v, ErS (mem W) v (Er.b 1) :=
  sent_of_laid h hm (by kernel_rfl) (by kernel_rfl) Tryd.underlying34 rowE Tryd.underlying206 Tryd.underlying223 rfl rfl Tryd.underlying9 ceE csE (fun s hs => by unfold errCode; rw [hs]; kernel_rfl)
theorem sent1 {W : World} {l : List (String × DataW Unit)} (h : laidMet Tryd.prog l W) (hm : ("sargasso/api.ErrMany", .iface "*errors.errorString" (.ptr (.agg [.lit (.string [116, 111, 111, 32, 109, 97, 110, 121, 44, 32, 111, 114, 32, 116, 111, 111, 32, 102, 101, 119])]))) ∈ l) : ∃ v, ErS (mem W) v (Er.b 2) :=
  sent_of_laid h hm (by kernel_rfl) (by kernel_rfl) Tryd.underlying34 rowE Tryd.underlying206 Tryd.underlying223 rfl rfl Tryd.underlying9 ceE csE (fun s hs => by unfold errCode; rw [hs]; kernel_rfl)
theorem sent2 {W : World} {l : List (String × DataW Unit)} (h : laidMet Tryd.prog l W) (hm : ("sargasso/api.ErrLong", .iface "*errors.errorString" (.ptr (.agg [.lit (.string [116, 111, 111, 32, 108, 111, 110, 103])]))) ∈ l) : ∃ v, ErS (mem W) v (Er.b 3) :=
  sent_of_laid h hm (by kernel_rfl) (by kernel_rfl) Tryd.underlying34 rowE Tryd.underlying206 Tryd.underlying223 rfl rfl Tryd.underlying9 ceE csE (fun s hs => by unfold errCode; rw [hs]; kernel_rfl)
theorem sent3 {W : World} {l : List (String × DataW Unit)} (h : laidMet Tryd.prog l W) (hm : ("sargasso/api.ErrKey", .iface "*errors.errorString" (.ptr (.agg [.lit (.string [97, 32, 107, 101, 121, 32, 116, 104, 97, 116, 32, 100, 111, 101, 115, 32, 110, 111, 116, 32, 102, 105, 116])]))) ∈ l) : ∃ v, ErS (mem W) v (Er.b 4) :=
  sent_of_laid h hm (by kernel_rfl) (by kernel_rfl) Tryd.underlying34 rowE Tryd.underlying206 Tryd.underlying223 rfl rfl Tryd.underlying9 ceE csE (fun s hs => by unfold errCode; rw [hs]; kernel_rfl)
theorem sent4 {W : World} {l : List (String × DataW Unit)} (h : laidMet Tryd.prog l W) (hm : ("sargasso/api.ErrValue", .iface "*errors.errorString" (.ptr (.agg [.lit (.string [97, 110, 32, 97, 109, 111, 117, 110, 116, 32, 116, 104, 97, 116, 32, 99, 97, 110, 39, 116, 32, 98, 101])]))) ∈ l) : ∃ v, ErS (mem W) v (Er.b 5) :=
  sent_of_laid h hm (by kernel_rfl) (by kernel_rfl) Tryd.underlying34 rowE Tryd.underlying206 Tryd.underlying223 rfl rfl Tryd.underlying9 ceE csE (fun s hs => by unfold errCode; rw [hs]; kernel_rfl)
theorem sent5 {W : World} {l : List (String × DataW Unit)} (h : laidMet Tryd.prog l W) (hm : ("sargasso/api.ErrTwice", .iface "*errors.errorString" (.ptr (.agg [.lit (.string [111, 110, 101, 32, 116, 104, 105, 110, 103, 32, 116, 119, 105, 99, 101])]))) ∈ l) : ∃ v, ErS (mem W) v (Er.b 6) :=
  sent_of_laid h hm (by kernel_rfl) (by kernel_rfl) Tryd.underlying34 rowE Tryd.underlying206 Tryd.underlying223 rfl rfl Tryd.underlying9 ceE csE (fun s hs => by unfold errCode; rw [hs]; kernel_rfl)
theorem sent6 {W : World} {l : List (String × DataW Unit)} (h : laidMet Tryd.prog l W) (hm : ("sargasso/api.ErrRange", .iface "*errors.errorString" (.ptr (.agg [.lit (.string [97, 32, 110, 117, 109, 98, 101, 114, 32, 111, 117, 116, 32, 111, 102, 32, 105, 116, 115, 32, 114, 97, 110, 103, 101])]))) ∈ l) : ∃ v, ErS (mem W) v (Er.b 7) :=
  sent_of_laid h hm (by kernel_rfl) (by kernel_rfl) Tryd.underlying34 rowE Tryd.underlying206 Tryd.underlying223 rfl rfl Tryd.underlying9 ceE csE (fun s hs => by unfold errCode; rw [hs]; kernel_rfl)
theorem sent7 {W : World} {l : List (String × DataW Unit)} (h : laidMet Tryd.prog l W) (hm : ("sargasso/api.ErrLess", .iface "*errors.errorString" (.ptr (.agg [.lit (.string [108, 101, 115, 115, 32, 99, 111, 109, 101, 115, 32, 105, 110, 32, 116, 104, 97, 110, 32, 103, 111, 101, 115, 32, 111, 117, 116])]))) ∈ l) : ∃ v, ErS (mem W) v (Er.b 8) :=
  sent_of_laid h hm (by kernel_rfl) (by kernel_rfl) Tryd.underlying34 rowE Tryd.underlying206 Tryd.underlying223 rfl rfl Tryd.underlying9 ceE csE (fun s hs => by unfold errCode; rw [hs]; kernel_rfl)
theorem sent8 {W : World} {l : List (String × DataW Unit)} (h : laidMet Tryd.prog l W) (hm : ("sargasso/api.ErrEnd", .iface "*errors.errorString" (.ptr (.agg [.lit (.string [105, 116, 32, 101, 110, 100, 115, 32, 116, 111, 111, 32, 101, 97, 114, 108, 121])]))) ∈ l) : ∃ v, ErS (mem W) v (Er.b 9) :=
  sent_of_laid h hm (by kernel_rfl) (by kernel_rfl) Tryd.underlying34 rowE Tryd.underlying206 Tryd.underlying223 rfl rfl Tryd.underlying9 ceE csE (fun s hs => by unfold errCode; rw [hs]; kernel_rfl)
theorem sent9 {W : World} {l : List (String × DataW Unit)} (h : laidMet Tryd.prog l W) (hm : ("sargasso/api.ErrBase", .iface "*errors.errorString" (.ptr (.agg [.lit (.string [110, 111, 32, 102, 105, 114, 115, 116, 32, 116, 114, 97, 110, 115, 97, 99, 116, 105, 111, 110, 32, 119, 104, 101, 114, 101, 32, 116, 104, 101, 114, 101, 32, 104, 97, 115, 32, 116, 111, 32, 98, 101, 32, 111, 110, 101, 44, 32, 111, 114, 32, 111, 110, 101, 32, 119, 104, 101, 114, 101, 32, 116, 104, 101, 114, 101, 32, 109, 97, 121, 32, 98, 101, 32, 110, 111, 110, 101])]))) ∈ l) : ∃ v, ErS (mem W) v (Er.b 10) :=
  sent_of_laid h hm (by kernel_rfl) (by kernel_rfl) Tryd.underlying34 rowE Tryd.underlying206 Tryd.underlying223 rfl rfl Tryd.underlying9 ceE csE (fun s hs => by unfold errCode; rw [hs]; kernel_rfl)
theorem sent10 {W : World} {l : List (String × DataW Unit)} (h : laidMet Tryd.prog l W) (hm : ("sargasso/api.ErrRoot", .iface "*errors.errorString" (.ptr (.agg [.lit (.string [97, 32, 114, 111, 111, 116, 32, 116, 104, 97, 116, 32, 100, 111, 101, 115, 32, 110, 111, 116, 32, 102, 105, 116])]))) ∈ l) : ∃ v, ErS (mem W) v (Er.b 11) :=
  sent_of_laid h hm (by kernel_rfl) (by kernel_rfl) Tryd.underlying34 rowE Tryd.underlying206 Tryd.underlying223 rfl rfl Tryd.underlying9 ceE csE (fun s hs => by unfold errCode; rw [hs]; kernel_rfl)
theorem sent11 {W : World} {l : List (String × DataW Unit)} (h : laidMet Tryd.prog l W) (hm : ("sargasso/api.ErrKnown", .iface "*errors.errorString" (.ptr (.agg [.lit (.string [107, 110, 111, 119, 110, 32, 97, 108, 114, 101, 97, 100, 121])]))) ∈ l) : ∃ v, ErS (mem W) v (Er.b 12) :=
  sent_of_laid h hm (by kernel_rfl) (by kernel_rfl) Tryd.underlying34 rowE Tryd.underlying206 Tryd.underlying223 rfl rfl Tryd.underlying9 ceE csE (fun s hs => by unfold errCode; rw [hs]; kernel_rfl)
theorem sent12 {W : World} {l : List (String × DataW Unit)} (h : laidMet Tryd.prog l W) (hm : ("sargasso/api.ErrParent", .iface "*errors.errorString" (.ptr (.agg [.lit (.string [110, 111, 32, 115, 117, 99, 104, 32, 112, 97, 114, 101, 110, 116])]))) ∈ l) : ∃ v, ErS (mem W) v (Er.b 13) :=
  sent_of_laid h hm (by kernel_rfl) (by kernel_rfl) Tryd.underlying34 rowE Tryd.underlying206 Tryd.underlying223 rfl rfl Tryd.underlying9 ceE csE (fun s hs => by unfold errCode; rw [hs]; kernel_rfl)
theorem sent13 {W : World} {l : List (String × DataW Unit)} (h : laidMet Tryd.prog l W) (hm : ("sargasso/api.ErrInvalid", .iface "*errors.errorString" (.ptr (.agg [.lit (.string [98, 101, 104, 105, 110, 100, 32, 119, 104, 97, 116, 32, 105, 115, 32, 110, 111, 116, 32, 118, 97, 108, 105, 100])]))) ∈ l) : ∃ v, ErS (mem W) v (Er.b 14) :=
  sent_of_laid h hm (by kernel_rfl) (by kernel_rfl) Tryd.underlying34 rowE Tryd.underlying206 Tryd.underlying223 rfl rfl Tryd.underlying9 ceE csE (fun s hs => by unfold errCode; rw [hs]; kernel_rfl)
theorem sent14 {W : World} {l : List (String × DataW Unit)} (h : laidMet Tryd.prog l W) (hm : ("sargasso/api.ErrTime", .iface "*errors.errorString" (.ptr (.agg [.lit (.string [97, 32, 116, 105, 109, 101, 32, 116, 104, 97, 116, 32, 105, 115, 32, 116, 111, 111, 32, 101, 97, 114, 108, 121])]))) ∈ l) : ∃ v, ErS (mem W) v (Er.b 15) :=
  sent_of_laid h hm (by kernel_rfl) (by kernel_rfl) Tryd.underlying34 rowE Tryd.underlying206 Tryd.underlying223 rfl rfl Tryd.underlying9 ceE csE (fun s hs => by unfold errCode; rw [hs]; kernel_rfl)
theorem sent15 {W : World} {l : List (String × DataW Unit)} (h : laidMet Tryd.prog l W) (hm : ("sargasso/api.ErrMissing", .iface "*errors.errorString" (.ptr (.agg [.lit (.string [97, 32, 99, 111, 105, 110, 32, 116, 104, 97, 116, 32, 105, 115, 32, 110, 111, 116, 32, 116, 104, 101, 114, 101])]))) ∈ l) : ∃ v, ErS (mem W) v (Er.b 16) :=
  sent_of_laid h hm (by kernel_rfl) (by kernel_rfl) Tryd.underlying34 rowE Tryd.underlying206 Tryd.underlying223 rfl rfl Tryd.underlying9 ceE csE (fun s hs => by unfold errCode; rw [hs]; kernel_rfl)
theorem sent16 {W : World} {l : List (String × DataW Unit)} (h : laidMet Tryd.prog l W) (hm : ("sargasso/api.ErrYoung", .iface "*errors.errorString" (.ptr (.agg [.lit (.string [97, 32, 99, 111, 105, 110, 32, 116, 104, 97, 116, 32, 105, 115, 32, 116, 111, 111, 32, 121, 111, 117, 110, 103])]))) ∈ l) : ∃ v, ErS (mem W) v (Er.b 17) :=
  sent_of_laid h hm (by kernel_rfl) (by kernel_rfl) Tryd.underlying34 rowE Tryd.underlying206 Tryd.underlying223 rfl rfl Tryd.underlying9 ceE csE (fun s hs => by unfold errCode; rw [hs]; kernel_rfl)
theorem sent17 {W : World} {l : List (String × DataW Unit)} (h : laidMet Tryd.prog l W) (hm : ("sargasso/api.ErrEarly", .iface "*errors.errorString" (.ptr (.agg [.lit (.string [116, 111, 111, 32, 101, 97, 114, 108, 121, 32, 116, 111, 32, 98, 101, 32, 116, 97, 107, 101, 110])]))) ∈ l) : ∃ v, ErS (mem W) v (Er.b 18) :=
  sent_of_laid h hm (by kernel_rfl) (by kernel_rfl) Tryd.underlying34 rowE Tryd.underlying206 Tryd.underlying223 rfl rfl Tryd.underlying9 ceE csE (fun s hs => by unfold errCode; rw [hs]; kernel_rfl)
theorem sent18 {W : World} {l : List (String × DataW Unit)} (h : laidMet Tryd.prog l W) (hm : ("sargasso/api.ErrReward", .iface "*errors.errorString" (.ptr (.agg [.lit (.string [109, 111, 114, 101, 32, 116, 104, 97, 110, 32, 116, 104, 101, 32, 114, 101, 119, 97, 114, 100])]))) ∈ l) : ∃ v, ErS (mem W) v (Er.b 19) :=
  sent_of_laid h hm (by kernel_rfl) (by kernel_rfl) Tryd.underlying34 rowE Tryd.underlying206 Tryd.underlying223 rfl rfl Tryd.underlying9 ceE csE (fun s hs => by unfold errCode; rw [hs]; kernel_rfl)
theorem sent19 {W : World} {l : List (String × DataW Unit)} (h : laidMet Tryd.prog l W) (hm : ("sargasso/api.ErrClash", .iface "*errors.errorString" (.ptr (.agg [.lit (.string [97, 32, 99, 111, 105, 110, 32, 116, 104, 97, 116, 32, 105, 115, 32, 115, 112, 101, 110, 116, 32, 105, 110, 32, 116, 104, 101, 32, 112, 111, 111, 108])]))) ∈ l) : ∃ v, ErS (mem W) v (Er.b 20) :=
  sent_of_laid h hm (by kernel_rfl) (by kernel_rfl) Tryd.underlying34 rowE Tryd.underlying206 Tryd.underlying223 rfl rfl Tryd.underlying9 ceE csE (fun s hs => by unfold errCode; rw [hs]; kernel_rfl)
theorem sent20 {W : World} {l : List (String × DataW Unit)} (h : laidMet Tryd.prog l W) (hm : ("sargasso/api.ErrLimit", .iface "*errors.errorString" (.ptr (.agg [.lit (.string [116, 111, 111, 32, 109, 97, 110, 121, 32, 116, 104, 97, 116, 32, 104, 97, 110, 103, 32, 116, 111, 103, 101, 116, 104, 101, 114])]))) ∈ l) : ∃ v, ErS (mem W) v (Er.b 21) :=
  sent_of_laid h hm (by kernel_rfl) (by kernel_rfl) Tryd.underlying34 rowE Tryd.underlying206 Tryd.underlying223 rfl rfl Tryd.underlying9 ceE csE (fun s hs => by unfold errCode; rw [hs]; kernel_rfl)
theorem sent21 {W : World} {l : List (String × DataW Unit)} (h : laidMet Tryd.prog l W) (hm : ("sargasso/api.ErrFull", .iface "*errors.errorString" (.ptr (.agg [.lit (.string [116, 104, 101, 114, 101, 32, 105, 115, 32, 110, 111, 32, 114, 111, 111, 109])]))) ∈ l) : ∃ v, ErS (mem W) v (Er.b 22) :=
  sent_of_laid h hm (by kernel_rfl) (by kernel_rfl) Tryd.underlying34 rowE Tryd.underlying206 Tryd.underlying223 rfl rfl Tryd.underlying9 ceE csE (fun s hs => by unfold errCode; rw [hs]; kernel_rfl)
theorem sent22 {W : World} {l : List (String × DataW Unit)} (h : laidMet Tryd.prog l W) (hm : ("sargasso/api.ErrNone", .iface "*errors.errorString" (.ptr (.agg [.lit (.string [116, 104, 101, 114, 101, 32, 105, 115, 32, 110, 111, 110, 101])]))) ∈ l) : ∃ v, ErS (mem W) v (Er.b 23) :=
  sent_of_laid h hm (by kernel_rfl) (by kernel_rfl) Tryd.underlying34 rowE Tryd.underlying206 Tryd.underlying223 rfl rfl Tryd.underlying9 ceE csE (fun s hs => by unfold errCode; rw [hs]; kernel_rfl)
theorem sent23 {W : World} {l : List (String × DataW Unit)} (h : laidMet Tryd.prog l W) (hm : ("sargasso/api.ErrWord", .iface "*errors.errorString" (.ptr (.agg [.lit (.string [110, 111, 32, 115, 117, 99, 104, 32, 119, 111, 114, 100])]))) ∈ l) : ∃ v, ErS (mem W) v (Er.b 24) :=
  sent_of_laid h hm (by kernel_rfl) (by kernel_rfl) Tryd.underlying34 rowE Tryd.underlying206 Tryd.underlying223 rfl rfl Tryd.underlying9 ceE csE (fun s hs => by unfold errCode; rw [hs]; kernel_rfl)
theorem sent24 {W : World} {l : List (String × DataW Unit)} (h : laidMet Tryd.prog l W) (hm : ("sargasso/api.ErrNumber", .iface "*errors.errorString" (.ptr (.agg [.lit (.string [110, 111, 116, 32, 97, 32, 110, 117, 109, 98, 101, 114])]))) ∈ l) : ∃ v, ErS (mem W) v (Er.b 25) :=
  sent_of_laid h hm (by kernel_rfl) (by kernel_rfl) Tryd.underlying34 rowE Tryd.underlying206 Tryd.underlying223 rfl rfl Tryd.underlying9 ceE csE (fun s hs => by unfold errCode; rw [hs]; kernel_rfl)
end Go.Proofs.YtpeelghbhihgkaaDoor.T
namespace Go.Proofs.YtpeelghbhihgkaaDoor.T
open Go Go.Proofs Go.Proofs.YtpeelghbhihgkaaDoor.K
set_option linter.unusedVariables false
set_option linter.unusedSimpArgs false
theorem laid : laidOutB Tryd.prog = true := by kernel_rfl
theorem rr22 : Tryd.prog.readableRec 22 = true := by kernel_rfl
theorem tr22 : 22 < Tryd.prog.types.size := of_decide_eq_true (by kernel_rfl)
theorem cl5 : Tryd.prog.cellsOf 5 = 1 := by kernel_rfl
theorem rr23 : Tryd.prog.readableRec 23 = true := by kernel_rfl
theorem tr23 : 23 < Tryd.prog.types.size := of_decide_eq_true (by kernel_rfl)
section
variable {H : Type} {enc : TypeId × Value → H} {w : World} {base : Nat} {spare : Nat → Bool} {held : Bool}
theorem rd5 : Rd enc Tryd.prog w base spare held 5 (fun c => ∃ n, RI .u8 n c) := rd_int Tryd.underlying5
theorem rd23 : Rd enc Tryd.prog w base spare held 23 (fun c => ∃ v xs, c = [v] ∧ Slc (RI .u8) 1 (mem w) v xs) := rd_slice Tryd.underlying23 cl5 (by decide) rd5
end
end Go.Proofs.YtpeelghbhihgkaaDoor.T
namespace Go.Proofs.YtpeelghbhihgkaaDoor.J
open Go Go.Proofs
theorem words_cons : ∀ (w r : List Char), w.all (· != ' ') = true → wordsSigns (w ++ ' ' :: r) = w :: wordsSigns r
  | [], r, _ => rfl
  | c :: w, r, h => by
    simp only [List.all_cons, Bool.and_eq_true, bne_iff_ne, ne_eq] at h
    have ih := words_cons w r h.2
    rw [List.cons_append, wordsSigns, ih]
    exact fun e => h.1 e
set_option maxRecDepth 100000
def w0 : List Char := ['h', 'a', 'r', 'n', 'e', 's', 's']
def w1 : List Char := ['4', '4', 'c', '8', '7', '2', '5', '3', 'b', '6', 'd', '1', 'd', '6', '4', '9', 'e', 'a', '9', 'f', '3', '2', '0', '8', '1', 'a', '4', 'd', 'd', '5', 'f', 'b', 'f', 'f', '2', '1', '7', 'a', 'e', 'd', '9', 'a', 'b', '5', 'f', '6', '6', 'e', '5', 'b', '0', '9', '9', '1', 'c', '7', '7', 'e', 'b', '1', '8', 'b', '9', '7']
def w2 : List Char := ['c', 'u', 't']
def w3 : List Char := ['a', 't', ' ', 's', 'a', 'r', 'g', 'a', 's', 's', 'o', '/', 's', 'a', 'r', 'g', 'a', 's', 's', 'o', 'l', 'a', 'w', '2', '.', 'C', 'o', 'm', 'p', 'a', 'c', 't', 'B', 'a', 'c', 'k', ' ', 's', 'a', 'r', 'g', 'a', 's', 's', 'o', '/', 's', 'a', 'r', 'g', 'a', 's', 's', 'o', 'l', 'a', 'w', '2', '.', 'C', 'o', 'm', 'p', 'a', 'c', 't', 'F', 'e', 'w', 'e', 's', 't', ' ', 's', 'a', 'r', 'g', 'a', 's', 's', 'o', '/', 's', 'a', 'r', 'g', 'a', 's', 's', 'o', 'l', 'a', 'w', '2', '.', 'C', 'o', 'm', 'p', 'a', 'c', 't', 'R', 'o', 'w', 's', ' ', 's', 'a', 'r', 'g', 'a', 's', 's', 'o', '/', 's', 'a', 'r', 'g', 'a', 's', 's', 'o', 'l', 'a', 'w', '2', '.', 'C', 'o', 'm', 'p', 'a', 'c', 't', 'R', 'e', 'a', 'd', 's', ' ', 's', 'a', 'r', 'g', 'a', 's', 's', 'o', '/', 's', 'a', 'r', 'g', 'a', 's', 's', 'o', 'l', 'a', 'w', '2', '.', 'C', 'o', 'm', 'p', 'a', 'c', 't', 'S', 't', 'o', 'p', 's', ' ', 's', 'a', 'r', 'g', 'a', 's', 's', 'o', '/', 's', 'a', 'r', 'g', 'a', 's', 's', 'o', 'l', 'a', 'w', '4', '.', 'T', 'x', 'B', 'o', 'u', 'n', 'd', 's', ' ', 's', 'a', 'r', 'g', 'a', 's', 's', 'o', '/', 's', 'a', 'r', 'g', 'a', 's', 's', 'o', 'l', 'a', 'w', '4', '.', 'T', 'x', 'B', 'a', 's', 'e', 's', ' ', 's', 'a', 'r', 'g', 'a', 's', 's', 'o', '/', 's', 'a', 'r', 'g', 'a', 's', 's', 'o', 'l', 'a', 'w', '4', '.', 'T', 'x', 'B', 'a', 'c', 'k', ' ', 's', 'a', 'r', 'g', 'a', 's', 's', 'o', '/', 's', 'a', 'r', 'g', 'a', 's', 's', 'o', 'l', 'a', 'w', '4', '.', 'T', 'x', 'S', 'i', 'z', 'e', 's', ' ', 's', 'a', 'r', 'g', 'a', 's', 's', 'o', '/', 's', 'a', 'r', 'g', 'a', 's', 's', 'o', 'l', 'a', 'w', '4', '.', 'T', 'x', 'T', 'u', 'r', 'n', 'e', 'd', ' ', 's', 'a', 'r', 'g', 'a', 's', 's', 'o', '/', 's', 'a', 'r', 'g', 'a', 's', 's', 'o', 'l', 'a', 'w', '4', '.', 'T', 'x', 'S', 'a', 'y', 's', ' ', 's', 'a', 'r', 'g', 'a', 's', 's', 'o', '/', 's', 'a', 'r', 'g', 'a', 's', 's', 'o', 'l', 'a', 'w', '5', '.', 'H', 'e', 'a', 'd', 'W', 'o', 'r', 'k', ' ', 's', 'a', 'r', 'g', 'a', 's', 's', 'o', '/', 's', 'a', 'r', 'g', 'a', 's', 's', 'o', 'l', 'a', 'w', '5', '.', 'H', 'e', 'a', 'd', 'B', 'a', 'c', 'k', ' ', 's', 'a', 'r', 'g', 'a', 's', 's', 'o', '/', 's', 'a', 'r', 'g', 'a', 's', 's', 'o', 'l', 'a', 'w', '1', '5', '.', 'V', 'a', 'l', 'u', 'e', 'R', 'u', 'l', 'e', 's', ' ', 's', 'a', 'r', 'g', 'a', 's', 's', 'o', '/', 's', 'a', 'r', 'g', 'a', 's', 's', 'o', 'l', 'a', 'w', '1', '5', '.', 'V', 'a', 'l', 'u', 'e', 'K', 'e', 'e', 'p', 's', ' ', 's', 'a', 'r', 'g', 'a', 's', 's', 'o', '/', 's', 'a', 'r', 'g', 'a', 's', 's', 'o', 'l', 'a', 'w', '1', '5', '.', 'V', 'a', 'l', 'u', 'e', 'S', 'a', 'y', 's', ' ', 's', 'a', 'r', 'g', 'a', 's', 's', 'o', '/', 's', 'a', 'r', 'g', 'a', 's', 's', 'o', 'l', 'a', 'w', '2', '0', '.', 'N', 'o', 't', 'e', 's', 'C', 'a', 'p', ' ', 's', 'a', 'r', 'g', 'a', 's', 's', 'o', '/', 's', 'a', 'r', 'g', 'a', 's', 's', 'o', 'l', 'a', 'w', '2', '0', '.', 'N', 'o', 't', 'e', 's', 'P', 'l', 'a', 'y', ' ', 's', 'a', 'r', 'g', 'a', 's', 's', 'o', '/', 's', 'a', 'r', 'g', 'a', 's', 's', 'o', 'l', 'a', 'w', '2', '0', '.', 'N', 'o', 't', 'e', 's', 'O', 'p', 's']
theorem io0 : Tryd.prog.initOrder = String.ofList (w0 ++ ' ' :: (w1 ++ ' ' :: (w2 ++ ' ' :: w3))) := by kernel_rfl
theorem io : Tryd.prog.initOrder.toList = w0 ++ ' ' :: (w1 ++ ' ' :: (w2 ++ ' ' :: w3)) := (congrArg String.toList io0).trans String.toList_ofList
theorem ws : wordsSigns Tryd.prog.initOrder.toList = w0 :: w1 :: w2 :: wordsSigns w3 := by
  rw [io, words_cons _ _ (by kernel_rfl), words_cons _ _ (by kernel_rfl), words_cons _ _ (by kernel_rfl)]
theorem bm (R : List (List Char)) : behindMainWord (w0 :: w1 :: w2 :: R) = w2 :: R := by kernel_rfl
theorem main_of {P : Program} {R : List (List Char)} (h : wordsSigns P.initOrder.toList = w0 :: w1 :: R) : P.mainIs = some (true, w1) := by
  unfold Program.mainIs
  rw [h]
  kernel_rfl
theorem mainIs : Tryd.prog.mainIs = some (true, w1) := main_of ws
theorem bw : behindMainWord (wordsSigns Tryd.prog.initOrder.toList) = w2 :: wordsSigns w3 := by rw [ws, bm]
theorem st (R : List (List Char)) : stripLifts liftWords (w2 :: R) = ([], w2 :: R) := by kernel_rfl
theorem make_of {P : Program} {R : List (List Char)} (h : behindMainWord (wordsSigns P.initOrder.toList) = w2 :: R) : P.make = some .cut := by
  unfold Program.make
  rw [h]
  kernel_rfl
theorem head_of {P : Program} {R : List (List Char)} (h : behindMainWord (wordsSigns P.initOrder.toList) = w2 :: R) : P.headLifts = [] := by
  unfold Program.headLifts
  rw [h, st]
  kernel_rfl
theorem lifts_of {P : Program} {R : List (List Char)} (h : behindMainWord (wordsSigns P.initOrder.toList) = w2 :: R) : P.liftsFinal = false := by
  unfold Program.liftsFinal
  rw [h, head_of h]
  kernel_rfl
theorem may_of {P : Program} {R : List (List Char)} (h : behindMainWord (wordsSigns P.initOrder.toList) = w2 :: R) (h1 : P.laysLater = false) (h2 : P.bearsReflect = false) (h3 : P.doorFits [] = true) : P.mayEnter = true := by
  unfold Program.mayEnter
  rw [h]
  simp only [st, h1, h2, h3]
  kernel_rfl
theorem later : Tryd.prog.laysLater = false := by kernel_rfl
theorem reflect : Tryd.prog.bearsReflect = false := by kernel_rfl
theorem door : Tryd.prog.doorFits [] = true := by kernel_rfl
theorem make : Tryd.prog.make = some .cut := make_of bw
theorem lifts : Tryd.prog.liftsFinal = false := lifts_of bw
theorem may : Tryd.prog.mayEnter = true := may_of bw later reflect door
end Go.Proofs.YtpeelghbhihgkaaDoor.J
namespace Go.Proofs.YtpeelghbhihgkaaDoor.zTxBases
open Go Go.Proofs Go.Proofs.YtpeelghbhihgkaaDoor.K Go.Proofs.YtpeelghbhihgkaaDoor.T
open Go.ChangeShapes Go.WideShapes Go.ChangeAt Go.RowKit
set_option linter.unusedVariables false
theorem met (os : Os) (args : Array Value) : laidMetH Tryd.prog Rows.txBasesRow.laid ((laidWorld os).forCall (fun _ _ => 0) ⟨#[], args, []⟩).memory :=
  laidMetH_of_parts (laidMet_of_run' 8 (by kernel_rfl) (by kernel_rfl)) (by kernel_rfl)
set_option maxRecDepth 100000 in
theorem lifted (os : Os) (started : os.Started) (H : Type) (enc : TypeId × Value → H) :
    ReturnsInHanded {} Tryd.checked os 9 .any (fun w args => (Rows.txBasesSpec.pre enc Tryd.prog Tryd.f9 [] false w args ∧ laidMetH Tryd.prog Rows.txBasesRow.laid w) ∧ sizedMet enc Tryd.prog Tryd.f9 (OpenSpec.ofChange Rows.txBasesSpec) false w args) (Rows.txBasesSpec.post enc Tryd.prog Tryd.f9 false true false false) := by
  refine returnsInHanded_of_change_and (C := Tryd.checked) (X := fun w _ => laidMetH Tryd.prog Rows.txBasesRow.laid w) (fun _ _ _ hh h => h.of_heap hh) own started (by kernel_rfl) Tryd.func9
    (ChangeSpec.witness_at (enc := enc) (C := Tryd.checked) (os := os) (X := fun w _ => laidMetH Tryd.prog Rows.txBasesRow.laid w) false (laidWorld os) #[.slice none 0 0, .int .u64 0] 8 rfl (by kernel_rfl) (by kernel_rfl) (by kernel_rfl) (by kernel_rfl) (by kernel_rfl) (met os _)) ?_
  intro W base args ds gs before hval0 hW hcnd hsz0 hL _
  have hL : laidMet Tryd.prog Rows.txBasesRow.laid W := hL
  have hG : Gl (mem W) := ⟨sent0 hL (List.mem_of_getElem? (i := 1) rfl), sent1 hL (List.mem_of_getElem? (i := 3) rfl), sent2 hL (List.mem_of_getElem? (i := 2) rfl), sent3 hL (List.mem_of_getElem? (i := 13) rfl), sent4 hL (List.mem_of_getElem? (i := 4) rfl), sent5 hL (List.mem_of_getElem? (i := 5) rfl), sent6 hL (List.mem_of_getElem? (i := 21) rfl), sent7 hL (List.mem_of_getElem? (i := 16) rfl), sent8 hL (List.mem_of_getElem? (i := 0) rfl), sent9 hL (List.mem_of_getElem? (i := 6) rfl), sent10 hL (List.mem_of_getElem? (i := 7) rfl), sent11 hL (List.mem_of_getElem? (i := 8) rfl), sent12 hL (List.mem_of_getElem? (i := 9) rfl), sent13 hL (List.mem_of_getElem? (i := 10) rfl), sent14 hL (List.mem_of_getElem? (i := 11) rfl), sent15 hL (List.mem_of_getElem? (i := 12) rfl), sent16 hL (List.mem_of_getElem? (i := 14) rfl), sent17 hL (List.mem_of_getElem? (i := 15) rfl), sent18 hL (List.mem_of_getElem? (i := 17) rfl), sent19 hL (List.mem_of_getElem? (i := 18) rfl), sent20 hL (List.mem_of_getElem? (i := 19) rfl), sent21 hL (List.mem_of_getElem? (i := 20) rfl), sent22 hL (List.mem_of_getElem? (i := 22) rfl), sent23 hL (List.mem_of_getElem? (i := 23) rfl), sent24 hL (List.mem_of_getElem? (i := 24) rfl)⟩
  have hW' := hW
  obtain ⟨p, q, hA0, hV, rfl, hfz, hnd⟩ := hW
  have hA : DataW.TrodAll enc Tryd.prog W 0 (fun _ => true) true Tryd.f9.params.toList args.toList ds p := hA0
  have hval : ∀ (j : Nat) t v, Tryd.f9.params[j]? = some t → args[j]? = some v → Value.okWide Tryd.prog W .any base t v := hval0
  rw [Tryd.params9] at hA hval
  obtain ⟨v0, vs0, d0, ds0, p0, q0, hargs, rfl, rfl, h0, r0⟩ := trodAll_cons hA
  obtain ⟨v1, vs1, d1, ds1, p1, q1, rfl, rfl, rfl, h1, r1⟩ := trodAll_cons r0
  obtain ⟨rfl, rfl, rfl⟩ := trodAll_nil r1
  obtain rfl : args = #[v0, v1] := by cases args; simp_all
  obtain ⟨rfl, rfl⟩ := trodVars_none hV
  obtain ⟨x0, w0⟩ := at_slice Tryd.underlying23 (hval 0 23 v0 rfl rfl) rd23 h0
  obtain ⟨x1, rfl, _, _, w1⟩ := open_int Tryd.underlying22 (hval 1 22 v1 rfl rfl) h1
  have hμ : Agr (mem W) W := agr_mem W
  have hm := sargassolaw4_TxBases.m (mem W) x0 v0 w0 x1 (wf_in w1)
  refine (sargassolaw4_TxBases.c (mem W) W hμ x0 v0 w0 x1 (wf_in w1) hG true hm).mono fun e W' ⟨v, he, hv, _, hI⟩ => ?_
  subst hv
  subst he
  have bel : Below W.heap.size W W' := hI.below
  exact ⟨_, rfl, _, _, _, [], _, [], hW', trodAll_mk1 (shut_bool Tryd.underlying4 _), (trodAll_cons_mk (again laid rr23 tr23 h0 bel) (trodAll_cons_mk (again laid rr22 tr22 h1 bel) trodAll_mk0)), rfl, bel.frame _, fun h => by cases h⟩
theorem closed : joinedFacts Tryd.prog 9 Tryd.f9 Rows.txBasesSpec Rows.txBasesRow = true := by
  unfold joinedFacts
  rw [J.may, J.lifts, J.make]
  kernel_rfl
theorem over : Rows.txBasesRow.holds Tryd.pinned (OpenSpec.ofChange Rows.txBasesSpec) :=
  OpenClaim.holds_of_wide 9 Tryd.f9 rfl rfl rfl rfl rfl rfl rfl ⟨rfl, rfl, rfl, rfl, rfl⟩ rfl rfl rfl rfl rfl (by kernel_rfl) Tryd.func9 closed
    (of_decide_eq_true (by kernel_rfl)) (by unfold Func.isWrapper; first | (rw [if_pos (by decide +kernel)]; kernel_rfl) | (rw [if_neg (by decide +kernel)]; exact ⟨rfl, rfl⟩))
    (fun os started H enc _ => lifted os started H enc)
theorem card : Rows.TxBasesCardSaid :=
  Claim7.holds_tied_plain_at .later [] [.sentinel, .sentinel, .sentinel, .sentinel, .sentinel, .sentinel, .sentinel, .sentinel, .sentinel, .sentinel, .sentinel, .sentinel, .sentinel, .sentinel, .sentinel, .sentinel, .sentinel, .sentinel, .sentinel, .sentinel, .sentinel, .sentinel, .sentinel, .sentinel, .sentinel] true (true, "44c87253b6d1d649ea9f32081a4dd5fbff217aed9ab5f66e5b0991c77eb18b97") true
    over (fun _ h => by cases h) (by kernel_rfl) (fun _ h => by cases h) txBases_row_tie rfl ⟨rfl, rfl⟩ (J.mainIs.trans (congrArg (fun s => some (true, s)) (by kernel_rfl))) rfl
    (fun f fn hf hfn => by
      obtain rfl : f = 9 := Option.some.inj ((show Tryd.prog.funcNamed "sargasso/sargassolaw4.TxBases" = some 9 by kernel_rfl).symm.trans hf) |>.symm
      obtain rfl : fn = Tryd.f9 := (Option.some.inj (Tryd.func9.symm.trans hfn)).symm
      exact ⟨by kernel_rfl, fun j t ht => by
        rw [Tryd.params9] at ht
        rcases j with _ | _ | j
        · obtain rfl : (23 : TypeId) = t := by simpa using ht
          exact (show Tryd.prog.wantsStandIn 23 = false by kernel_rfl)
        · obtain rfl : (22 : TypeId) = t := by simpa using ht
          exact (show Tryd.prog.wantsStandIn 22 = false by kernel_rfl)
        · simp at ht⟩)
    (by kernel_rfl)
end Go.Proofs.YtpeelghbhihgkaaDoor.zTxBases
namespace Go.Proofs.YtpeelghbhihgkaaDoor
theorem txBases_holds : Rows.TxBasesCardSaid := zTxBases.card
#print axioms txBases_holds
end Go.Proofs.YtpeelghbhihgkaaDoor
