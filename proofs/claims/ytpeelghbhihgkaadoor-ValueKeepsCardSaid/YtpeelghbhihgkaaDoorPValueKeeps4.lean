/- Proved: the statement ValueKeeps, as given (its conditions are those of the given row, and card where there is one; no others): the call ends, with true, and the input reads as it did. This file is one of its parts. -/
import Derived.Test.YtpeelghbhihgkaaDoorPValueKeeps3
import Derived.OpenShut
import Derived.ChangeArms
import Derived.DataReads
import Derived.WideShapes
import Derived.Below
import Derived.Carry
import Derived.ChangeOld
import Derived.LaidLaws
import Derived.Stop.ErrReads
import Derived.ChangeVars
import Derived.Test.YtpeelghbhihgkaaDoorRows
import Derived.Test.YtpeelghbhihgkaaDoorProg
import Derived.JoinedOf
import Derived.ProofKit
import Derived.WalkKit
import Derived.ShutString
import Derived.SizedLaws
import Derived.LaidHandle
import Derived.Handed
import Derived.SevenTiedAt
import Derived.Test.YtpeelghbhihgkaaDoorCards
import Derived.Test.YtpeelghbhihgkaaDoorTie
namespace Go.Proofs.YtpeelghbhihgkaaDoor.K
open Go
set_option linter.unusedVariables false
section
variable {W0 : World} {md : List Nat} {μ0 μ ν ν' : Store} {its : List It} {w : World} {v : Value} {e sz m : Nat} {cs : List Value} {tp ta : TypeId} {code : ByteArray → Nat} {x : Er} {u : Value}
theorem Iv.thawG {μ' : Store} {i : It} (h : Iv W0 md μ0 μ its w) (hi : i ∈ its) (hle : μ.le μ') (hs : ∀ g ∈ i.foot, ∃ o, w.heap[g]? = some o ∧ μ' g = some o) (hn : i.foot.Nodup) (ν : Store) (its' : List It) (w' : World) (hν : μ'.le ν) (h' : Iv W0 md μ0 ν its' w') :
    ∃ ν', μ.le ν' ∧ Iv W0 md μ0 ν' (i :: its') w' ∧ ∀ k o, ν k = some o → ν' k = some o ∨ k ∈ i.foot := by
  classical
  obtain ⟨hok, hfoot⟩ := h.own i hi
  have hsame : ∀ g ∈ i.foot, w'.heap[g]? = w.heap[g]? := fun g hg => by
    obtain ⟨o, h3, h4⟩ := hs g hg
    rw [h3]; exact h'.agr g o (hν _ _ h4)
  have hoff : ∀ k o, (if k ∈ i.foot then none else ν k) = some o → ν k = some o := fun k o hk => by
    split at hk
    · cases hk
    · exact hk
  have hlow : μ.le (fun k => if k ∈ i.foot then none else ν k) := fun k o hk => by
    have : k ∉ i.foot := fun hkf => by
      have := (hfoot k hkf).2.1
      rw [hk] at this; cases this
    show (if k ∈ i.foot then none else ν k) = some o
    rw [if_neg this]
    exact hν _ _ (hle _ _ hk)
  refine ⟨fun k => if k ∈ i.foot then none else ν k, hlow, ⟨h'.os, h'.tape, h'.out, h'.size, h'.frame, h.le.trans hlow, fun k o hk => h'.agr k o (hoff k o hk), fun k o hk => h'.fresh k o (hoff k o hk), ?_, fun k hk => ?_⟩, fun k o hk => ?_⟩
  · simp only [List.flatMap_cons, List.nodup_append]
    refine ⟨hn, h'.nodup, fun g hg g' hg' e => ?_⟩
    subst e
    obtain ⟨k, hk, hgk⟩ := List.mem_flatMap.1 hg'
    obtain ⟨o, _, h4⟩ := hs g hg
    have := ((h'.own k hk).2 g hgk).2.1
    rw [hν _ _ h4] at this
    cases this
  · rcases List.mem_cons.1 hk with rfl | hk
    · refine ⟨k.loc w w' hsame hok, fun g hg => ?_⟩
      obtain ⟨_, b, c⟩ := hfoot g hg
      obtain ⟨o, h3, h4⟩ := hs g hg
      exact ⟨(Array.getElem?_eq_some_iff.1 (h'.agr g o (hν _ _ h4))).1, by rw [if_pos hg], c⟩
    · obtain ⟨a, b⟩ := h'.own k hk
      refine ⟨a, fun g hg => ?_⟩
      obtain ⟨b1, b2, b3⟩ := b g hg
      refine ⟨b1, ?_, b3⟩
      split
      · rfl
      · exact b2
  · by_cases hkf : k ∈ i.foot
    · exact .inr hkf
    · exact .inl (show (if k ∈ i.foot then none else ν k) = some o by rw [if_neg hkf]; exact hk)
theorem Iv.freezeRowG (hI : Iv W0 md μ0 μ its w) (j : Nat) (hj : its[j]? = some (row e sz v m cs)) : ∃ μ', μ.le μ' ∧ SlV μ' v m cs ∧ (v.ownBlock = none ∨ so v = 0) ∧ Iv W0 md μ0 μ' (its.eraseIdx j) w ∧ (∀ (its' : List It) (w' : World), Iv W0 md μ0 μ' its' w' → Iv W0 md μ0 μ (row e sz v m cs :: its') w') ∧ (∀ (ν : Store) (its' : List It) (w' : World), μ'.le ν → Iv W0 md μ0 ν its' w' → ∃ ν', μ.le ν' ∧ Iv W0 md μ0 ν' (row e sz v m cs :: its') w' ∧ ∀ k o, ν k = some o → ν' k = some o ∨ v.ownBlock = some k) := by
  have hown := hI.row_ok hj
  have hmem := List.mem_of_getElem? hj
  have hfo : ∀ k, k ∈ (row e sz v m cs).foot ↔ v.ownBlock = some k := fun k => by simp [row]
  rcases hown.2 with ⟨rfl, rfl⟩ | ⟨g, cap, cur, rfl, hbg, hg, hnc, hcm, hcs, htake⟩
  · refine ⟨μ, Store.le.refl _, ⟨none, 0, rfl, Nat.le_refl _, by simp [maxLen], fun h => absurd rfl h, fun h => absurd rfl h⟩, .inl rfl, hI.drop (List.eraseIdx_sublist its j), hI.thaw hmem (Store.le.refl _) (by simp [row, Value.ownBlock]) (by simp [row, Value.ownBlock]), fun ν its' w' h1 h2 => ?_⟩
    obtain ⟨ν', a, b, c⟩ := hI.thawG hmem (Store.le.refl _) (by simp [row, Value.ownBlock]) (by simp [row, Value.ownBlock]) ν its' w' h1 h2
    exact ⟨ν', a, b, fun k o hk => (c k o hk).imp_right (hfo k).1⟩
  · obtain ⟨μ', h1, h2, h3⟩ := hI.freeze j hj (g := g) (by simp [row, Value.ownBlock]) hg
    refine ⟨μ', h1, ⟨_, _, rfl, hnc, hcm, fun _ => rfl, fun _ i u hu => ?_⟩, .inr rfl, h3, hI.thaw hmem h1 (fun g' hg' => ?_) (by simp [row, Value.ownBlock]), fun ν its' w' k1 k2 => ?_⟩
    · simp only [sb, so, Nat.zero_add, Store.cell, h2]
      rw [← htake, List.getElem?_take] at hu
      split at hu
      · simpa using hu
      · cases hu
    · have : g' = g := by simpa [row, Value.ownBlock] using hg'
      subst this
      exact ⟨_, hg, h2⟩
    · obtain ⟨ν', a, b, c⟩ := hI.thawG hmem h1 (fun g' hg' => by
        have : g' = g := by simpa [row, Value.ownBlock] using hg'
        subst this
        exact ⟨_, hg, h2⟩) (by simp [row, Value.ownBlock]) ν its' w' k1 k2
      exact ⟨ν', a, b, fun k o hk => (c k o hk).imp_right (hfo k).1⟩
theorem Els.cell0 {α : Type} {RE : α → List Value → Prop} {xs : List α} (h : Els RE sz xs cs) (hn : 0 < xs.length) (f : ∀ x c, RE x c → ∃ z, c[0]? = some z ∧ ∀ p, z ≠ .int .i64 p) : xs.length ≠ 0 ∧ ∃ z, cs[0]? = some z ∧ ∀ p, z ≠ .int .i64 p := by
  cases h with
  | nil => simp at hn
  | @cons x c cs xs h1 h2 h3 =>
    obtain ⟨z, hz, hp⟩ := f _ _ h1
    refine ⟨by simp, z, ?_, hp⟩
    rw [List.getElem?_append_left]
    · exact hz
    · exact (List.getElem?_eq_some_iff.1 hz).1
theorem cell0_av {k : IntKind} {n : Nat} {xs : List Int} {L : List (List Value)} (hn : 0 < n) (hk : k ≠ .i64) : ∃ z, ((av k n xs :: L).flatten)[0]? = some z ∧ ∀ p, z ≠ .int .i64 p := by
  refine ⟨.int k (xs.getD 0 0), ?_, fun p e => hk (by injection e)⟩
  rw [List.flatten_cons, List.getElem?_append_left (by rw [av_len]; exact hn), av_get _ _ _ hn]
theorem cell0_int {k : IntKind} {x : Int} {L : List (List Value)} (hk : k ≠ .i64) : ∃ z, (([.int k x] :: L).flatten)[0]? = some z ∧ ∀ p, z ≠ .int .i64 p :=
  ⟨.int k x, rfl, fun p e => hk (by injection e)⟩
theorem ErV.thaw {l : List (Er × Value)} (hle : μ.le ν) (hle' : μ.le ν') (hk : ∀ k o, ν k = some o → ν' k = some o ∨ v.ownBlock = some k) (hS : SlV ν v m cs) (h : ErV tp ta code ν x u) (hl : ∀ p ∈ l, ErV tp ta code μ p.1 p.2 ∧ p.1.isP = false)
    (hx : x ∈ l.map (·.1) ∨ ((x.isP = true ∧ x.err ∈ l.map (·.1)) ∧ m ≠ 0 ∧ ∃ z, cs[0]? = some z ∧ ∀ p, z ≠ .int .i64 p)) (h0 : v.ownBlock = none ∨ so v = 0) : ErV tp ta code ν' x u := by
  rcases hx with hx | ⟨⟨h1, h2⟩, hm, z, hz, hp⟩
  · exact (ErV.low hle h hx hl).le (fun _ _ h => h) hle'
  · cases x with
    | b n => cases h1
    | pl p y =>
      obtain ⟨g, u', rfl, hA, hr, he⟩ := h
      refine ⟨g, u', rfl, fun j c hc => ?_, hr, (ErV.low hle he h2 hl).le (fun _ _ h => h) hle'⟩
      have h3 := hA j c hc
      have hg : v.ownBlock ≠ some g := fun e => by
        obtain ⟨A, cp, e1, _, _, e4, e5⟩ := hS
        have e6 := e5 hm 0 z hz
        have e7 := e4 hm
        subst e7
        rw [e1] at e
        have : g = sb v := by simpa [Value.ownBlock] using e.symm
        have ho : so v = 0 := by
          rcases h0 with h0 | h0
          · rw [e1] at h0; simp [Value.ownBlock] at h0
          · exact h0
        rw [ho, ← this] at e6
        have e8 := hA 0 (.int .i64 p) rfl
        rw [e6] at e8
        exact hp p (Option.some.inj e8)
      unfold Store.cell at h3 ⊢
      cases hm' : ν g with
      | none => simp [hm'] at h3
      | some o =>
        rcases hk g o hm' with h4 | h4
        · rw [h4]; rw [hm'] at h3; exact h3
        · exact absurd h4 hg
end
end Go.Proofs.YtpeelghbhihgkaaDoor.K
namespace Go.Proofs.YtpeelghbhihgkaaDoor.T
open Go Go.Proofs Go.Proofs.YtpeelghbhihgkaaDoor.K
set_option linter.unusedVariables false
set_option linter.unusedSimpArgs false
set_option maxRecDepth 20000 in
theorem sargassolaw15_ValueKeeps.c (μ : Store) (w0 : World) (hμ : Agr μ w0) (x0 : List Int) (u0 : Value) (hx0 : Slc (RI .u64) 1 μ u0 x0) (x1 : Int) (hx1 : InR .u64 x1) (x2 : Int) (hx2 : InR .i64 x2) (hG : Gl μ) (r : Bool) (H : sargassolaw15_ValueKeeps.f x0 x1 x2 = some r) :
    Calls Tryd.prog 17 [u0, .int .u64 x1, .int .i64 x2].toArray w0 (fun e w' => ∃ v, e = .returned v ∧ v = .bool r ∧ True ∧ Iv w0 [] μ μ [] w') := by
  refine enter Tryd.func17 rfl Tryd.ntmps17 rfl fun a hA => ?_
  have hI := Iv.start hμ
  have H := bI H
  obtain ⟨e0, he0⟩ := hG.g0
  obtain ⟨e3, he3⟩ := hG.g3
  obtain ⟨e4, he4⟩ := hG.g4
  obtain ⟨e7, he7⟩ := hG.g7
  refine w_seq fun _ hN1 => ?_
  refine w_reg ?_
  refine stp hA (r_as hA rfl) rfl fun a hA => ?_
  refine o_nil ?_
  refine hN1 _ _ ?_
  refine w_seq fun _ hN2 => ?_
  refine w_reg ?_
  obtain ⟨r1, hr1, H⟩ := bB H
  refine o_callp (u := .bool r1) cf67 hA rfl hI (sargassolaw15_first.c μ _ hI.agr  r1 hr1) rfl fun a w hz1 hI hA => 
    stp hA (r_as hA rfl) rfl fun a hA => ?_
  refine o_nil ?_
  refine hN2 _ _ ?_
  refine w_seq fun _ hN3 => ?_
  refine w_seq fun _ hN4 => ?_
  refine w_reg ?_
  refine stp hA (r_mv hA rfl) rfl fun a hA => 
    stp hA (r_not hA rfl) rfl fun a hA => ?_
  refine o_nil ?_
  refine hN4 _ _ ?_
  refine w_cond hA rfl (fun hc1 => ?_) (fun hc1 => ?_)
  · have hc10 := hc1; have hc1 := nT hc1; have hc1 := ft hc1; have H := bF H hc1
    refine w_seq fun _ hN5 => ?_
    refine w_reg ?_
    refine stp hA (r_as hA rfl) rfl fun a hA => ?_
    refine o_nil ?_
    refine hN5 _ _ ?_
    refine w_ret ?_
    obtain rfl := Option.some.inj (bS H)
    exact ret1 hA Tryd.results17 rfl ⟨_, rfl, rfl, trivial, hI.forget0⟩
  · have hc10 := hc1; have hc1 := nF hc1; have H := bT H hc1
    refine w_skip ?_
    refine hN3 _ _ ?_
    refine w_seq fun _ hN6 => ?_
    obtain ⟨c1, hz2, Hk1⟩ := bB H
    refine w_cut (fun a w => Fr a 154 [(0, u0), (1, .int .u64 x1), (2, .int .i64 x2), (6, .bool false), (7, .bool r1), (26, .bool (!r1)), (34, .bool c1)] ∧ Iv w0 [] μ μ [] w) ?_ ?_
    · have H := bI hz2
      refine w_reg ?_
      refine stp hA (r_mv hA rfl) rfl fun a hA => ?_
      obtain ⟨_, hsl1⟩ := Slc.sv hx0
      refine stp hA (r_slen Tryd.underlying42 hsl1 hA rfl) rfl fun a hA => 
        stp hA (r_eql hA rfl rfl) rfl fun a hA => 
        stp hA (r_mv hA rfl) rfl fun a hA => ?_
      rcases Bool.eq_false_or_eq_true (decide ((x0.length : Int) = 0)) with hc2 | hc2
      · have hc20 := hc2; have hc2 := of_decide_eq_true hc2; have H := bT H hc2
        refine o_no hA rfl rfl (by rw [hc20]; simp [vb]) rfl fun a hA => 
          o_no hA rfl rfl (by rw [hc20]; simp [vb]) rfl fun a hA => 
          o_no hA rfl rfl (by rw [hc20]; simp [vb]) rfl fun a hA => 
          stp hA (r_pick_t hA rfl hc20 rfl) rfl fun a hA => ?_
        refine o_nil ?_
        cases Option.some.inj (bS H)
        exact ⟨hA.sub ⟨rfl, rfl, rfl, rfl, rfl, rfl, rfl, trivial⟩, hI⟩
      · have hc20 := hc2; have hc2 := of_decide_eq_false hc2; have H := bF H hc2
        refine o_yes hA rfl rfl hc20 <| 
          stp hA (r_mv hA rfl) rfl fun a hA => 
          o_yes hA rfl rfl hc20 <| ?_
        obtain ⟨_, hsl2⟩ := Slc.sv hx0
        refine stp hA (r_slen Tryd.underlying42 hsl2 hA rfl) rfl fun a hA => 
          o_yes hA rfl rfl hc20 <| 
          stp hA (r_gtr hA rfl rfl) rfl fun a hA => 
          stp hA (r_pick_f hA rfl hc20 rfl) rfl fun a hA => ?_
        refine o_nil ?_
        cases Option.some.inj (bS H)
        exact ⟨hA.sub ⟨rfl, rfl, rfl, rfl, rfl, rfl, rfl, trivial⟩, hI⟩
    · rintro a w ⟨hA, hI⟩
      have H := Hk1
      refine w_cond hA rfl (fun hc3 => ?_) (fun hc3 => ?_)
      · have hc30 := hc3; have H := bT H hc3
        refine w_seq fun _ hN7 => ?_
        refine w_reg ?_
        refine stp hA (r_mv hA rfl) rfl fun a hA => 
          stp hA (r_as hA rfl) rfl fun a hA => ?_
        refine o_nil ?_
        refine hN7 _ _ ?_
        refine w_ret ?_
        obtain rfl := Option.some.inj (bS H)
        exact ret1 hA Tryd.results17 rfl ⟨_, rfl, rfl, trivial, hI.forget0⟩
      · have hc30 := hc3; have hc3 := ft hc3; have H := bF H hc3
        refine w_skip ?_
        refine hN6 _ _ ?_
        refine w_seq fun _ hN8 => ?_
        refine w_reg ?_
        refine o_new [[.int .u32 0], [(.slice none 0 0)], [(.slice none 0 0)], [.int .u32 0]] zr68 hI hA rfl fun g1 a w hA hI hg1 => ?_
        refine o_nil ?_
        refine hN8 _ _ ?_
        refine w_seq fun _ hN9 => ?_
        refine w_reg ?_
        refine stp hA (r_as hA rfl) rfl fun a hA => ?_
        refine o_nil ?_
        refine hN9 _ _ ?_
        refine w_seq fun _ hN10 => ?_
        refine w_reg ?_
        refine stp hA (r_as hA rfl) rfl fun a hA => ?_
        refine o_nil ?_
        refine hN10 _ _ ?_
        obtain ⟨⟨c2, c3, c4⟩, hz3, Hk2⟩ := bB H
        refine w_cut (fun a w => ∃ (μ1 : Store) (vvc2 : Value) (ccc2 : List Value) (vvc4 : Value) (ccc4 : List Value), μ.le μ1 ∧ Els (RMoney μ1) 35 c2 ccc2 ∧ InR .u64 c3 ∧ Els (RIn μ1) 35 c4 ccc4 ∧ Fr a 154 [(0, u0), (1, .int .u64 x1), (2, .int .i64 x2), (6, .bool false), (7, .bool r1), (8, .pointer (some ⟨g1, 0, none⟩)), (9, vvc2), (10, .int .u64 c3), (26, .bool (!r1)), (34, .bool c1)] ∧ Iv w0 [] μ μ1 [row 104 35 vvc2 c2.length ccc2, row 62 35 vvc4 c4.length ccc4, cel g1 [[.int .u32 0], [vvc4], [(.slice none 0 0)], [.int .u32 0]] 68] w) ?_ ?_
        · have H := bI hz3
          refine w_seq fun _ hN11 => ?_
          refine w_reg ?_
          refine stp hA (r_as hA rfl) rfl fun a hA => ?_
          refine o_nil ?_
          refine hN11 _ _ ?_
          refine w_block ?_
          have hI := hI.nilRow 104 35
          have hI := hI.nilRow 62 35
          obtain ⟨z1, hz4, Hk3⟩ := bind_some H
          obtain ⟨n1, hn1⟩ := loopO_some hz4
          refine w_loop (fun n a w => ∃ (s1 : List Money) (s2 : Int) (s3 : Int) (s4 : List In) (μ2 : Store) (vvs1 : Value) (ccs1 : List Value) (vvs4 : Value) (ccs4 : List Value), loopN (sargassolaw15_ValueKeeps.s0 x0) n (s1, s2, s3, s4) = some z1 ∧ μ.le μ2 ∧ Els (RMoney μ2) 35 s1 ccs1 ∧ InR .u64 s2 ∧ InR .i64 s3 ∧ Els (RIn μ2) 35 s4 ccs4 ∧ Fr a 154 [(0, u0), (1, .int .u64 x1), (2, .int .i64 x2), (6, .bool false), (7, .bool r1), (8, .pointer (some ⟨g1, 0, none⟩)), (9, vvs1), (10, .int .u64 s2), (11, .int .i64 s3), (26, .bool (!r1)), (34, .bool c1)] ∧ Iv w0 [] μ μ2 [row 62 35 vvs4 s4.length ccs4, row 104 35 vvs1 s1.length ccs1, cel g1 [[.int .u32 0], [vvs4], [(.slice none 0 0)], [.int .u32 0]] 68] w) n1 ⟨[], 0, 0, [], μ, (.slice none 0 0), [], (.slice none 0 0), [], hn1, (Store.le.refl _), (Els.nil (RE := (RMoney μ)) (sz := 35)), (in_lit .u64 0 rfl), (in_lit .i64 0 rfl), (Els.nil (RE := (RIn μ)) (sz := 35)), hA.sub ⟨rfl, rfl, rfl, rfl, rfl, rfl, rfl, rfl, rfl, rfl, rfl, trivial⟩, hI⟩ ?_
          clear hA hI
          rintro n a w ⟨s1, s2, s3, s4, μ2, vvs1, ccs1, vvs4, ccs4, hn1, hle2, ws1, ws2, ws3, ws4, hA, hI⟩
          obtain ⟨m1, rfl, H⟩ := loopN_bind hn1
          clear hn1
          refine w_seq fun _ hN12 => ?_
          refine w_seq fun _ hN13 => ?_
          refine w_reg ?_
          refine stp hA (r_mv hA rfl) rfl fun a hA => 
            stp hA (r_mv hA rfl) rfl fun a hA => ?_
          obtain ⟨_, hsl3⟩ := Slc.sv (Slc.le hx0 (fun _ _ h => h) hle2)
          refine stp hA (r_slen Tryd.underlying42 hsl3 hA rfl) rfl fun a hA => 
            stp hA (r_lss hA rfl rfl) rfl fun a hA => ?_
          refine o_nil ?_
          refine hN13 _ _ ?_
          refine w_cond hA rfl (fun hc4 => ?_) (fun hc4 => ?_)
          · have hc40 := hc4; have hc4 := of_decide_eq_true hc4; have H := bT H hc4
            refine w_skip ?_
            refine hN12 _ _ ?_
            refine w_seq fun _ hN14 => ?_
            refine w_block ?_
            refine w_seq fun _ hN15 => ?_
            refine w_reg ?_
            refine stp hA (r_mv hA rfl) rfl fun a hA => 
              stp hA (r_mv hA rfl) rfl fun a hA => ?_
            obtain ⟨hb1, H⟩ := bG H
            obtain ⟨_, he1, _, hat1⟩ := Slc.elem1 (Slc.le hx0 (fun _ _ h => h) hle2) (getD_some 0 hb1.1 hb1.2)
            obtain ⟨rfl, hw1⟩ := he1
            obtain ⟨_, hsl4⟩ := Slc.sv (Slc.le hx0 (fun _ _ h => h) hle2)
            refine stp hA (r_six1 Tryd.underlying42 sz22 hsl4 hA rfl rfl hb1.1 hb1.2) rfl fun a hA => 
              stp hA (r_ldm1 [] [] Tryd.underlying22 rfl hI.agr hat1 hA rfl rfl) rfl fun a hA => 
              stp hA (r_rem hA rfl rfl (by decide)) rfl fun a hA => 
              stp hA (r_as hA rfl) rfl fun a hA => ?_
            refine o_nil ?_
            refine hN15 _ _ ?_
            refine w_seq fun _ hN16 => ?_
            refine w_reg ?_
            refine stp hA (r_mv hA rfl) rfl fun a hA => 
              stp hA (r_mv hA rfl) rfl fun a hA => 
              stp hA (r_add hA rfl rfl) rfl fun a hA => 
              stp hA (r_as hA rfl) rfl fun a hA => ?_
            refine o_nil ?_
            refine hN16 _ _ ?_
            refine w_seq fun _ hN17 => ?_
            refine w_reg ?_
            refine stp hA (r_mv hA rfl) rfl fun a hA => 
              stp hA (r_conv Tryd.underlying3 Tryd.underlying5 hA rfl) rfl fun a hA => ?_
            have hE1 : Els (RI .u8) 1 ([IntKind.u8.wrap s3, 7] : List Int) ([[.int .u8 (IntKind.u8.wrap s3)]].flatten ++ ([[.int .u8 7]].flatten ++ ([]))) := (Els.cons (c := [[.int .u8 (IntKind.u8.wrap s3)]].flatten) ⟨rfl, (wrap_in _ _)⟩ rfl (Els.cons (c := [[.int .u8 7]].flatten) ⟨rfl, (in_lit .u8 7 rfl)⟩ rfl Els.nil))
            refine o_bsl ([[.int .u8 (IntKind.u8.wrap s3)]].flatten ++ ([[.int .u8 7]].flatten ++ ([]))) te5 zr5 Tryd.underlying23 hI hA rfl rfl rfl rfl (by kernel_rfl) rfl fun g2 a w hA hI => ?_
            generalize hcs : ([[.int .u8 (IntKind.u8.wrap s3)]].flatten ++ ([[.int .u8 7]].flatten ++ ([])) : List Value) = cs1 at hE1 hI
            clear hcs
            refine stp hA (r_as hA rfl) rfl fun a hA => ?_
            refine o_nil ?_
            refine hN17 _ _ ?_
            refine w_seq fun _ hN18 => ?_
            refine w_reg ?_
            refine stp hA (r_fd (k := 1) Tryd.underlying68 rfl sz63 hA rfl rfl) rfl fun a hA => 
              stp hA (r_ld1 (j := 3) [[.int .u32 0]] [[(.slice none 0 0)], [.int .u32 0]] Tryd.underlying63 rfl hI rfl hA rfl rfl) rfl fun a hA => 
              stp hA (r_mv hA rfl) rfl fun a hA => 
              stp hA (r_bldS (cs := [av .u8 32 (List.replicate 32 0), [.int .u32 0], [(.slice (some ⟨g2, 0, none⟩) 2 2)], [.int .u32 0]].flatten.toArray) (pl := [(0, 33), (33, 1), (34, 1)]) zr62 Tryd.underlying62 ⟨rfl, sz60, rfl, sz23, rfl, sz39, trivial⟩ hA rfl ((fill_one (own_cell hI (j := 0) rfl) rfl (by kernel_rfl)).trans (by kernel_rfl))) rfl fun a hA => ?_
            obtain ⟨μ3, hle3, hsv1, hI⟩ := hI.freezeRow 0 rfl
            have hS1 : Slc (RI .u8) 1 μ3 (.slice (some ⟨g2, 0, none⟩) 2 2) ([IntKind.u8.wrap s3, 7] : List Int) := ⟨_, hE1, hsv1⟩
            have hE2 : Els (RIn μ3) 35 ([(⟨(⟨(List.replicate 32 0), 0⟩ : Point), ([IntKind.u8.wrap s3, 7] : List Int), 0⟩ : In)] : List In) ([av .u8 32 (List.replicate 32 0), [.int .u32 0], [(.slice (some ⟨g2, 0, none⟩) 2 2)], [.int .u32 0]].flatten ++ ([])) := (Els.cons (c := [av .u8 32 (List.replicate 32 0), [.int .u32 0], [(.slice (some ⟨g2, 0, none⟩) 2 2)], [.int .u32 0]].flatten) ⟨(.slice (some ⟨g2, 0, none⟩) 2 2), rfl, ⟨(arr_zero _ _), (in_lit .u32 0 rfl), hS1, (in_lit .u32 0 rfl)⟩⟩ rfl Els.nil)
            refine o_bsl ([av .u8 32 (List.replicate 32 0), [.int .u32 0], [(.slice (some ⟨g2, 0, none⟩) 2 2)], [.int .u32 0]].flatten ++ ([])) te62 zr62 Tryd.underlying63 hI hA rfl rfl rfl rfl (by kernel_rfl) rfl fun g3 a w hA hI => ?_
            generalize hcs : ([av .u8 32 (List.replicate 32 0), [.int .u32 0], [(.slice (some ⟨g2, 0, none⟩) 2 2)], [.int .u32 0]].flatten ++ ([]) : List Value) = cs2 at hE2 hI
            clear hcs
            obtain ⟨hb2, H⟩ := bG H
            have hE4 := (Els.mono ws4 (fun _ _ h => RIn.le hle3 h)).app hE2
            refine o_appL (xs := (s4 : List In)) (ys := (([(⟨(⟨(List.replicate 32 0), 0⟩ : Point), ([IntKind.u8.wrap s3, 7] : List Int), 0⟩ : In)] : List In) : List In)) (j := 1) te62 Tryd.underlying63 hI rfl hA rfl rfl (src_row hI (j := 0) rfl) hE2.len (hE2.ones RIn.ones) (by first | decide | (have hq := hb2; (try simp only [List.length_cons, List.length_nil] at hq); (try simp only [List.length_cons, List.length_nil]); (try simp only [maxLen]); omega)) (by first | decide | (have hq := hb2; (try simp only [List.length_cons, List.length_nil] at hq); (try simp only [List.length_cons, List.length_nil]); (try simp only [maxLen]); omega)) rfl fun v1 a w hA hI => 
              stp hA (r_fd (k := 1) Tryd.underlying68 rfl sz63 hA rfl rfl) rfl fun a hA => ?_
            have hone := own_one hI (j := 1) rfl
            have hcel := own_cell hI (j := 1) rfl
            refine o_st (j := 3) [[.int .u32 0]] [[vvs4]] [[v1]] [[(.slice none 0 0)], [.int .u32 0]] sz63 rfl rfl (by intro c hc; simp at hc; subst hc; exact hone) hI rfl hA rfl rfl hcel rfl fun w hI => ?_
            refine o_nil ?_
            refine hN18 _ _ ?_
            refine w_reg ?_
            refine stp hA (r_mv hA rfl) rfl fun a hA => 
              stp hA (r_mv hA rfl) rfl fun a hA => 
              stp hA (r_mv hA rfl) rfl fun a hA => ?_
            obtain ⟨r2, hr2, H⟩ := bB H
            refine o_callp (u := .agg [av .u8 32 r2].flatten.toArray) cf71 hA rfl hI (sargassoref1_Sha.c μ3 _ hI.agr ([IntKind.u8.wrap s3, 7] : List Int) (.slice (some ⟨g2, 0, none⟩) 2 2) hS1 r2 hr2) rfl fun a w hz5 hI hA => 
              stp hA (r_bldS (cs := [[.int .u64 (Int.tmod (x0.getD s3.toNat 0) 210000000000000)], av .u8 32 r2, [.int .i64 0], [.bool false]].flatten.toArray) (pl := [(0, 1), (1, 32), (33, 1), (34, 1)]) zr104 Tryd.underlying104 ⟨rfl, sz22, rfl, sz55, rfl, sz3, rfl, sz4, trivial⟩ hA rfl (by kernel_rfl)) rfl fun a hA => ?_
            have hE5 : Els (RMoney μ3) 35 ([(⟨Int.tmod (x0.getD s3.toNat 0) 210000000000000, r2, 0, false⟩ : Money)] : List Money) ([[.int .u64 (Int.tmod (x0.getD s3.toNat 0) 210000000000000)], av .u8 32 r2, [.int .i64 0], [.bool false]].flatten ++ ([])) := (Els.cons (c := [[.int .u64 (Int.tmod (x0.getD s3.toNat 0) 210000000000000)], av .u8 32 r2, [.int .i64 0], [.bool false]].flatten) ⟨rfl, ⟨(tmod_in hw1 _), hz5, (in_lit .i64 0 rfl)⟩⟩ rfl Els.nil)
            refine o_bsl ([[.int .u64 (Int.tmod (x0.getD s3.toNat 0) 210000000000000)], av .u8 32 r2, [.int .i64 0], [.bool false]].flatten ++ ([])) te104 zr104 Tryd.underlying102 hI hA rfl rfl rfl rfl (by kernel_rfl) rfl fun g4 a w hA hI => ?_
            generalize hcs : ([[.int .u64 (Int.tmod (x0.getD s3.toNat 0) 210000000000000)], av .u8 32 r2, [.int .i64 0], [.bool false]].flatten ++ ([]) : List Value) = cs5 at hE5 hI
            clear hcs
            obtain ⟨hb3, H⟩ := bG H
            have hE7 := (Els.mono ws1 (fun _ _ h => RMoney.le hle3 h)).app hE5
            refine o_appL (xs := (s1 : List Money)) (ys := (([(⟨Int.tmod (x0.getD s3.toNat 0) 210000000000000, r2, 0, false⟩ : Money)] : List Money) : List Money)) (j := 3) te104 Tryd.underlying102 hI rfl hA rfl rfl (src_row hI (j := 0) rfl) hE5.len (hE5.ones RMoney.ones) (by first | decide | (have hq := hb3; (try simp only [List.length_cons, List.length_nil] at hq); (try simp only [List.length_cons, List.length_nil]); (try simp only [maxLen]); omega)) (by first | decide | (have hq := hb3; (try simp only [List.length_cons, List.length_nil] at hq); (try simp only [List.length_cons, List.length_nil]); (try simp only [maxLen]); omega)) rfl fun v2 a w hA hI => 
              stp hA (r_as hA rfl) rfl fun a hA => ?_
            refine o_nil ?_
            refine hN14 _ _ ?_
            refine w_reg ?_
            refine stp hA (r_mv hA rfl) rfl fun a hA => 
              stp hA (r_add hA rfl rfl) rfl fun a hA => 
              stp hA (r_as hA rfl) rfl fun a hA => ?_
            refine o_nil ?_
            exact ⟨m1, Nat.lt_succ_self _, s1 ++ ([(⟨Int.tmod (x0.getD s3.toNat 0) 210000000000000, r2, 0, false⟩ : Money)] : List Money), IntKind.u64.wrap (s2 + (Int.tmod (x0.getD s3.toNat 0) 210000000000000)), IntKind.i64.wrap (s3 + 1), s4 ++ ([(⟨(⟨(List.replicate 32 0), 0⟩ : Point), ([IntKind.u8.wrap s3, 7] : List Int), 0⟩ : In)] : List In), μ3, v2, ccs1 ++ cs5, v1, ccs4 ++ cs2, H, (hle2.trans hle3), hE7, (wrap_in _ _), (wrap_in _ _), hE4, hA.sub ⟨rfl, rfl, rfl, rfl, rfl, rfl, rfl, rfl, rfl, rfl, rfl, trivial⟩, (hI.sel [2, 3, 4] (by decide) rfl)⟩
          · have hc40 := hc4; have hc4 := of_decide_eq_false hc4; have H := bF H hc4
            refine w_exit rfl ?_
            have H : some (s1, s2, s4) = some z1 := H
            obtain rfl := Option.some.inj H
            have H := Hk3
            cases Option.some.inj (bS H)
            exact ⟨μ2, vvs1, ccs1, vvs4, ccs4, hle2, ws1, ws2, ws4, hA.sub ⟨rfl, rfl, rfl, rfl, rfl, rfl, rfl, rfl, rfl, rfl, trivial⟩, (hI.sel [1, 0, 2] (by decide) rfl)⟩
        · rintro a w ⟨μ1, vvc2, ccc2, vvc4, ccc4, hle1, wc2, wc3, wc4, hA, hI⟩
          have H := Hk2
          refine w_seq fun _ hN19 => ?_
          refine w_reg ?_
          refine stp hA (r_mv hA rfl) rfl fun a hA => 
            stp hA (r_mv hA rfl) rfl fun a hA => 
            stp hA (r_add hA rfl rfl) rfl fun a hA => ?_
          obtain ⟨hb4, H⟩ := bG H
          refine stp hA (r_rem hA rfl rfl hb4) rfl fun a hA => 
            stp hA (r_as hA rfl) rfl fun a hA => ?_
          refine o_nil ?_
          refine hN19 _ _ ?_
          refine w_seq fun _ hN20 => ?_
          refine w_reg ?_
          refine stp hA (r_mv hA rfl) rfl fun a hA => 
            stp hA (r_mv hA rfl) rfl fun a hA => 
            stp hA (r_sub hA rfl rfl) rfl fun a hA => 
            stp hA (r_bldS (cs := [[.int .u64 (IntKind.u64.wrap (c3 - (Int.tmod x1 (IntKind.u64.wrap (c3 + 1)))))], av .u8 32 (List.replicate 32 0)].flatten.toArray) (pl := [(0, 1), (1, 32)]) zr65 Tryd.underlying65 ⟨rfl, sz22, rfl, sz55, trivial⟩ hA rfl (by kernel_rfl)) rfl fun a hA => ?_
          have hE8 : Els (ROut μ1) 33 ([(⟨IntKind.u64.wrap (c3 - (Int.tmod x1 (IntKind.u64.wrap (c3 + 1)))), (List.replicate 32 0)⟩ : Out)] : List Out) ([[.int .u64 (IntKind.u64.wrap (c3 - (Int.tmod x1 (IntKind.u64.wrap (c3 + 1)))))], av .u8 32 (List.replicate 32 0)].flatten ++ ([])) := (Els.cons (c := [[.int .u64 (IntKind.u64.wrap (c3 - (Int.tmod x1 (IntKind.u64.wrap (c3 + 1)))))], av .u8 32 (List.replicate 32 0)].flatten) ⟨rfl, ⟨(wrap_in _ _), (arr_zero _ _)⟩⟩ rfl Els.nil)
          refine o_bsl ([[.int .u64 (IntKind.u64.wrap (c3 - (Int.tmod x1 (IntKind.u64.wrap (c3 + 1)))))], av .u8 32 (List.replicate 32 0)].flatten ++ ([])) te65 zr65 Tryd.underlying66 hI hA rfl rfl rfl rfl (by kernel_rfl) rfl fun g5 a w hA hI => ?_
          generalize hcs : ([[.int .u64 (IntKind.u64.wrap (c3 - (Int.tmod x1 (IntKind.u64.wrap (c3 + 1)))))], av .u8 32 (List.replicate 32 0)].flatten ++ ([]) : List Value) = cs8 at hE8 hI
          clear hcs
          refine stp hA (r_fd (k := 2) Tryd.underlying68 rfl sz66 hA rfl rfl) rfl fun a hA => ?_
          have hone := own_one hI (j := 0) rfl
          have hcel := own_cell hI (j := 0) rfl
          refine o_st (j := 3) [[.int .u32 0], [vvc4]] [[(.slice none 0 0)]] [[(.slice (some ⟨g5, 0, none⟩) 1 1)]] [[.int .u32 0]] sz66 rfl rfl (by intro c hc; simp at hc; subst hc; exact hone) hI rfl hA rfl rfl hcel rfl fun w hI => ?_
          refine o_nil ?_
          refine hN20 _ _ ?_
          refine w_seq fun _ hN21 => ?_
          refine w_reg ?_
          refine stp hA (r_ldA (j := 3) [] [[.int .u32 0], [vvc4], [(.slice (some ⟨g5, 0, none⟩) 1 1)], [.int .u32 0]] [] Tryd.underlying68 rfl sz68 rfl hI rfl hA rfl rfl) rfl fun a hA => 
            stp hA (r_mv hA rfl) rfl fun a hA => ?_
          obtain ⟨μ4, hle4, hsv4, hzo1, hI, hth2, htg1⟩ := hI.freezeRowG 2 rfl
          have hS2 : Slc (RIn μ4) 35 μ4 vvc4 c4 := ⟨_, (Els.mono wc4 (fun _ _ h => RIn.le hle4 h)), hsv4⟩
          obtain ⟨μ5, hle5, hsv5, hzo2, hI, hth3, htg2⟩ := hI.freezeRowG 0 rfl
          have hS3 : Slc (ROut μ5) 33 μ5 (.slice (some ⟨g5, 0, none⟩) 1 1) ([(⟨IntKind.u64.wrap (c3 - (Int.tmod x1 (IntKind.u64.wrap (c3 + 1)))), (List.replicate 32 0)⟩ : Out)] : List Out) := ⟨_, (Els.mono hE8 (fun _ _ h => ROut.le (hle4.trans hle5) h)), hsv5⟩
          obtain ⟨μ6, hle6, hsv6, hzo3, hI, hth4, htg3⟩ := hI.freezeRowG 0 rfl
          have hS4 : Slc (RMoney μ6) 35 μ6 vvc2 c2 := ⟨_, (Els.mono wc2 (fun _ _ h => RMoney.le ((hle4.trans hle5).trans hle6) h)), hsv6⟩
          obtain ⟨r3, hr3, H⟩ := bB H
          refine o_call _ cf72 hA rfl (value_Fee.c μ6 _ hI.agr (⟨0, c4, ([(⟨IntKind.u64.wrap (c3 - (Int.tmod x1 (IntKind.u64.wrap (c3 + 1)))), (List.replicate 32 0)⟩ : Out)] : List Out), 0⟩ : Tx) vvc4 (.slice (some ⟨g5, 0, none⟩) 1 1) ⟨(in_lit .u32 0 rfl), (Slc.le hS2 (fun _ _ h => RIn.le (hle5.trans hle6) h) (hle5.trans hle6)), (Slc.le hS3 (fun _ _ h => ROut.le hle6 h) hle6), (in_lit .u32 0 rfl)⟩ c2 vvc2 hS4 e0 (ErV.le (fun _ _ h => h) (((hle1.trans hle4).trans hle5).trans hle6) he0) e3 (ErV.le (fun _ _ h => h) (((hle1.trans hle4).trans hle5).trans hle6) he3) e4 (ErV.le (fun _ _ h => h) (((hle1.trans hle4).trans hle5).trans hle6) he4) e7 (ErV.le (fun _ _ h => h) (((hle1.trans hle4).trans hle5).trans hle6) he7) r3 hr3) rfl fun v3 a w hz6 hA => ?_
          obtain ⟨v4, μ7, rfl, hw2, hS5, hi1⟩ := hz6
          have hI := hI.call hi1
          refine stp hA (r_mv hA rfl) rfl fun a hA => 
            stp hA (r_extr (vs := [.int .u64 r3.1, v4]) hA rfl rfl) rfl fun a hA => 
            stp hA (r_extr (vs := [.int .u64 r3.1, v4]) hA rfl rfl) rfl fun a hA => 
            stp hA (r_as hA rfl) rfl fun a hA => 
            stp hA (r_as hA rfl) rfl fun a hA => ?_
          refine o_nil ?_
          obtain ⟨μ8, hle7, hI, hkk1⟩ := htg3 _ _ _ hi1.le hI
          obtain ⟨hb5, H⟩ := bG H
          have hS6 : ErS μ8 v4 r3.2 := ErV.thaw (l := [((Er.b 0 : Er), (.nilIface : Value)), (Er.b 1, e0), (Er.b 4, e3), (Er.b 5, e4), (Er.b 8, e7)]) (hle6.trans hi1.le) hle7 hkk1 (SlV.le hi1.le hsv6) hS5 (by simp only [List.forall_mem_cons]; exact ⟨⟨erv_nil, rfl⟩, ⟨(ErV.le (fun _ _ h => h) ((hle1.trans hle4).trans hle5) he0), rfl⟩, ⟨(ErV.le (fun _ _ h => h) ((hle1.trans hle4).trans hle5) he3), rfl⟩, ⟨(ErV.le (fun _ _ h => h) ((hle1.trans hle4).trans hle5) he4), rfl⟩, ⟨(ErV.le (fun _ _ h => h) ((hle1.trans hle4).trans hle5) he7), rfl⟩, by simp⟩) (Or.imp (fun h => show _ ∈ List.map Prod.fst [((Er.b 0 : Er), (.nilIface : Value)), (Er.b 1, e0), (Er.b 4, e3), (Er.b 5, e4), (Er.b 8, e7)] from h) (fun h => ⟨⟨h.1.1, show _ ∈ List.map Prod.fst [((Er.b 0 : Er), (.nilIface : Value)), (Er.b 1, e0), (Er.b 4, e3), (Er.b 5, e4), (Er.b 8, e7)] from h.1.2⟩, Els.cell0 wc2 h.2 (fun _ _ h => by obtain ⟨rfl, _⟩ := h; exact cell0_int (by decide))⟩) hb5) hzo3
          have hI : Iv w0 [] μ μ8 [row 104 35 vvc2 c2.length ccc2, cel g1 [[.int .u32 0], [vvc4], [(.slice (some ⟨g5, 0, none⟩) 1 1)], [.int .u32 0]] 68] w := hI
          obtain ⟨μ9, hle8, hI, hkk2⟩ := htg2 _ _ _ hle7 hI
          obtain ⟨hb6, H⟩ := bG H
          have hS7 : ErS μ9 v4 r3.2 := ErV.thaw (l := [((Er.b 0 : Er), (.nilIface : Value)), (Er.b 1, e0), (Er.b 4, e3), (Er.b 5, e4), (Er.b 8, e7)]) (hle5.trans hle7) hle8 hkk2 (SlV.le hle7 hsv5) hS6 (by simp only [List.forall_mem_cons]; exact ⟨⟨erv_nil, rfl⟩, ⟨(ErV.le (fun _ _ h => h) (hle1.trans hle4) he0), rfl⟩, ⟨(ErV.le (fun _ _ h => h) (hle1.trans hle4) he3), rfl⟩, ⟨(ErV.le (fun _ _ h => h) (hle1.trans hle4) he4), rfl⟩, ⟨(ErV.le (fun _ _ h => h) (hle1.trans hle4) he7), rfl⟩, by simp⟩) (Or.imp (fun h => show _ ∈ List.map Prod.fst [((Er.b 0 : Er), (.nilIface : Value)), (Er.b 1, e0), (Er.b 4, e3), (Er.b 5, e4), (Er.b 8, e7)] from h) (fun h => ⟨⟨h.1.1, show _ ∈ List.map Prod.fst [((Er.b 0 : Er), (.nilIface : Value)), (Er.b 1, e0), (Er.b 4, e3), (Er.b 5, e4), (Er.b 8, e7)] from h.1.2⟩, Els.cell0 hE8 h.2 (fun _ _ h => by obtain ⟨rfl, _⟩ := h; exact cell0_int (by decide))⟩) hb6) hzo2
          have hI : Iv w0 [] μ μ9 [row 65 33 (.slice (some ⟨g5, 0, none⟩) 1 1) ([(⟨IntKind.u64.wrap (c3 - (Int.tmod x1 (IntKind.u64.wrap (c3 + 1)))), (List.replicate 32 0)⟩ : Out)] : List Out).length cs8, row 104 35 vvc2 c2.length ccc2, cel g1 [[.int .u32 0], [vvc4], [(.slice (some ⟨g5, 0, none⟩) 1 1)], [.int .u32 0]] 68] w := hI
          obtain ⟨μ10, hle9, hI, hkk3⟩ := htg1 _ _ _ hle8 hI
          obtain ⟨hb7, H⟩ := bG H
          have hS8 : ErS μ10 v4 r3.2 := ErV.thaw (l := [((Er.b 0 : Er), (.nilIface : Value)), (Er.b 1, e0), (Er.b 4, e3), (Er.b 5, e4), (Er.b 8, e7)]) (hle4.trans hle8) hle9 hkk3 (SlV.le hle8 hsv4) hS7 (by simp only [List.forall_mem_cons]; exact ⟨⟨erv_nil, rfl⟩, ⟨(ErV.le (fun _ _ h => h) hle1 he0), rfl⟩, ⟨(ErV.le (fun _ _ h => h) hle1 he3), rfl⟩, ⟨(ErV.le (fun _ _ h => h) hle1 he4), rfl⟩, ⟨(ErV.le (fun _ _ h => h) hle1 he7), rfl⟩, by simp⟩) (Or.imp (fun h => show _ ∈ List.map Prod.fst [((Er.b 0 : Er), (.nilIface : Value)), (Er.b 1, e0), (Er.b 4, e3), (Er.b 5, e4), (Er.b 8, e7)] from h) (fun h => ⟨⟨h.1.1, show _ ∈ List.map Prod.fst [((Er.b 0 : Er), (.nilIface : Value)), (Er.b 1, e0), (Er.b 4, e3), (Er.b 5, e4), (Er.b 8, e7)] from h.1.2⟩, Els.cell0 wc4 h.2 (fun _ _ h => by obtain ⟨_, rfl, _⟩ := h; exact cell0_av (by decide) (by decide))⟩) hb7) hzo1
          have hI : Iv w0 [] μ μ10 [row 62 35 vvc4 c4.length ccc4, row 65 33 (.slice (some ⟨g5, 0, none⟩) 1 1) ([(⟨IntKind.u64.wrap (c3 - (Int.tmod x1 (IntKind.u64.wrap (c3 + 1)))), (List.replicate 32 0)⟩ : Out)] : List Out).length cs8, row 104 35 vvc2 c2.length ccc2, cel g1 [[.int .u32 0], [vvc4], [(.slice (some ⟨g5, 0, none⟩) 1 1)], [.int .u32 0]] 68] w := hI
          refine hN21 _ _ ?_
          refine w_seq fun _ hN22 => ?_
          refine w_reg ?_
          refine stp hA (r_fd (k := 2) Tryd.underlying68 rfl sz66 hA rfl rfl) rfl fun a hA => 
            stp hA (r_ld1 (j := 3) [[.int .u32 0], [vvc4]] [[.int .u32 0]] Tryd.underlying66 rfl hI rfl hA rfl rfl) rfl fun a hA => 
            stp hA (r_mv hA rfl) rfl fun a hA => 
            stp hA (r_add hA rfl rfl) rfl fun a hA => 
            stp hA (r_bldS (cs := [[.int .u64 (IntKind.u64.wrap ((Int.tmod x1 (IntKind.u64.wrap (c3 + 1))) + 1))], av .u8 32 (List.replicate 32 0)].flatten.toArray) (pl := [(0, 1), (1, 32)]) zr65 Tryd.underlying65 ⟨rfl, sz22, rfl, sz55, trivial⟩ hA rfl (by kernel_rfl)) rfl fun a hA => ?_
          have hE9 : Els (ROut μ10) 33 ([(⟨IntKind.u64.wrap ((Int.tmod x1 (IntKind.u64.wrap (c3 + 1))) + 1), (List.replicate 32 0)⟩ : Out)] : List Out) ([[.int .u64 (IntKind.u64.wrap ((Int.tmod x1 (IntKind.u64.wrap (c3 + 1))) + 1))], av .u8 32 (List.replicate 32 0)].flatten ++ ([])) := (Els.cons (c := [[.int .u64 (IntKind.u64.wrap ((Int.tmod x1 (IntKind.u64.wrap (c3 + 1))) + 1))], av .u8 32 (List.replicate 32 0)].flatten) ⟨rfl, ⟨(wrap_in _ _), (arr_zero _ _)⟩⟩ rfl Els.nil)
          refine o_bsl ([[.int .u64 (IntKind.u64.wrap ((Int.tmod x1 (IntKind.u64.wrap (c3 + 1))) + 1))], av .u8 32 (List.replicate 32 0)].flatten ++ ([])) te65 zr65 Tryd.underlying66 hI hA rfl rfl rfl rfl (by kernel_rfl) rfl fun g6 a w hA hI => ?_
          generalize hcs : ([[.int .u64 (IntKind.u64.wrap ((Int.tmod x1 (IntKind.u64.wrap (c3 + 1))) + 1))], av .u8 32 (List.replicate 32 0)].flatten ++ ([]) : List Value) = cs9 at hE9 hI
          clear hcs
          have hE11 := (Els.mono hE8 (fun _ _ h => ROut.le hle9 h)).app hE9
          refine o_appL (xs := (([(⟨IntKind.u64.wrap (c3 - (Int.tmod x1 (IntKind.u64.wrap (c3 + 1)))), (List.replicate 32 0)⟩ : Out)] : List Out) : List Out)) (ys := (([(⟨IntKind.u64.wrap ((Int.tmod x1 (IntKind.u64.wrap (c3 + 1))) + 1), (List.replicate 32 0)⟩ : Out)] : List Out) : List Out)) (j := 2) te65 Tryd.underlying66 hI rfl hA rfl rfl (src_row hI (j := 0) rfl) hE9.len (hE9.ones ROut.ones) (by first | decide | (have hq := trivial; (try simp only [List.length_cons, List.length_nil] at hq); (try simp only [List.length_cons, List.length_nil]); (try simp only [maxLen]); omega)) (by first | decide | (have hq := trivial; (try simp only [List.length_cons, List.length_nil] at hq); (try simp only [List.length_cons, List.length_nil]); (try simp only [maxLen]); omega)) rfl fun v5 a w hA hI => 
            stp hA (r_fd (k := 2) Tryd.underlying68 rfl sz66 hA rfl rfl) rfl fun a hA => ?_
          have hone := own_one hI (j := 2) rfl
          have hcel := own_cell hI (j := 2) rfl
          refine o_st (j := 4) [[.int .u32 0], [vvc4]] [[(.slice (some ⟨g5, 0, none⟩) 1 1)]] [[v5]] [[.int .u32 0]] sz66 rfl rfl (by intro c hc; simp at hc; subst hc; exact hone) hI rfl hA rfl rfl hcel rfl fun w hI => ?_
          refine o_nil ?_
          refine hN22 _ _ ?_
          refine w_seq fun _ hN23 => ?_
          refine w_reg ?_
          refine stp hA (r_ldA (j := 4) [] [[.int .u32 0], [vvc4], [v5], [.int .u32 0]] [] Tryd.underlying68 rfl sz68 rfl hI rfl hA rfl rfl) rfl fun a hA => 
            stp hA (r_mv hA rfl) rfl fun a hA => ?_
          obtain ⟨μ11, hle10, hsv8, hzo4, hI, hth5, htg4⟩ := hI.freezeRowG 1 rfl
          have hS9 : Slc (RIn μ11) 35 μ11 vvc4 c4 := ⟨_, (Els.mono wc4 (fun _ _ h => RIn.le (hle9.trans hle10) h)), hsv8⟩
          obtain ⟨μ12, hle11, hsv9, hzo5, hI, hth6, htg5⟩ := hI.freezeRowG 1 rfl
          have hS10 : Slc (ROut μ12) 33 μ12 v5 (([(⟨IntKind.u64.wrap (c3 - (Int.tmod x1 (IntKind.u64.wrap (c3 + 1)))), (List.replicate 32 0)⟩ : Out)] : List Out) ++ ([(⟨IntKind.u64.wrap ((Int.tmod x1 (IntKind.u64.wrap (c3 + 1))) + 1), (List.replicate 32 0)⟩ : Out)] : List Out)) := ⟨_, (Els.mono hE11 (fun _ _ h => ROut.le (hle10.trans hle11) h)), hsv9⟩
          obtain ⟨μ13, hle12, hsv10, hzo6, hI, hth7, htg6⟩ := hI.freezeRowG 1 rfl
          have hS11 : Slc (RMoney μ13) 35 μ13 vvc2 c2 := ⟨_, (Els.mono wc2 (fun _ _ h => RMoney.le (((hle9.trans hle10).trans hle11).trans hle12) h)), hsv10⟩
          obtain ⟨r4, hr4, H⟩ := bB H
          refine o_call _ cf72 hA rfl (value_Fee.c μ13 _ hI.agr (⟨0, c4, ([(⟨IntKind.u64.wrap (c3 - (Int.tmod x1 (IntKind.u64.wrap (c3 + 1)))), (List.replicate 32 0)⟩ : Out)] : List Out) ++ ([(⟨IntKind.u64.wrap ((Int.tmod x1 (IntKind.u64.wrap (c3 + 1))) + 1), (List.replicate 32 0)⟩ : Out)] : List Out), 0⟩ : Tx) vvc4 v5 ⟨(in_lit .u32 0 rfl), (Slc.le hS9 (fun _ _ h => RIn.le (hle11.trans hle12) h) (hle11.trans hle12)), (Slc.le hS10 (fun _ _ h => ROut.le hle12 h) hle12), (in_lit .u32 0 rfl)⟩ c2 vvc2 hS11 e0 (ErV.le (fun _ _ h => h) ((((hle1.trans hle9).trans hle10).trans hle11).trans hle12) he0) e3 (ErV.le (fun _ _ h => h) ((((hle1.trans hle9).trans hle10).trans hle11).trans hle12) he3) e4 (ErV.le (fun _ _ h => h) ((((hle1.trans hle9).trans hle10).trans hle11).trans hle12) he4) e7 (ErV.le (fun _ _ h => h) ((((hle1.trans hle9).trans hle10).trans hle11).trans hle12) he7) r4 hr4) rfl fun v6 a w hz7 hA => ?_
          obtain ⟨v7, μ14, rfl, hw3, hS12, hi2⟩ := hz7
          have hI := hI.call hi2
          refine stp hA (r_mv hA rfl) rfl fun a hA => 
            stp hA (r_extr (vs := [.int .u64 r4.1, v7]) hA rfl rfl) rfl fun a hA => 
            stp hA (r_extr (vs := [.int .u64 r4.1, v7]) hA rfl rfl) rfl fun a hA => 
            stp hA (r_as hA rfl) rfl fun a hA => 
            stp hA (r_as hA rfl) rfl fun a hA => ?_
          refine o_nil ?_
          obtain ⟨μ15, hle13, hI, hkk4⟩ := htg6 _ _ _ hi2.le hI
          obtain ⟨hb8, H⟩ := bG H
          have hS13 : ErS μ15 v7 r4.2 := ErV.thaw (l := [((Er.b 0 : Er), (.nilIface : Value)), (Er.b 1, e0), (Er.b 4, e3), (Er.b 5, e4), (Er.b 8, e7)]) (hle12.trans hi2.le) hle13 hkk4 (SlV.le hi2.le hsv10) hS12 (by simp only [List.forall_mem_cons]; exact ⟨⟨erv_nil, rfl⟩, ⟨(ErV.le (fun _ _ h => h) (((hle1.trans hle9).trans hle10).trans hle11) he0), rfl⟩, ⟨(ErV.le (fun _ _ h => h) (((hle1.trans hle9).trans hle10).trans hle11) he3), rfl⟩, ⟨(ErV.le (fun _ _ h => h) (((hle1.trans hle9).trans hle10).trans hle11) he4), rfl⟩, ⟨(ErV.le (fun _ _ h => h) (((hle1.trans hle9).trans hle10).trans hle11) he7), rfl⟩, by simp⟩) (Or.imp (fun h => show _ ∈ List.map Prod.fst [((Er.b 0 : Er), (.nilIface : Value)), (Er.b 1, e0), (Er.b 4, e3), (Er.b 5, e4), (Er.b 8, e7)] from h) (fun h => ⟨⟨h.1.1, show _ ∈ List.map Prod.fst [((Er.b 0 : Er), (.nilIface : Value)), (Er.b 1, e0), (Er.b 4, e3), (Er.b 5, e4), (Er.b 8, e7)] from h.1.2⟩, Els.cell0 wc2 h.2 (fun _ _ h => by obtain ⟨rfl, _⟩ := h; exact cell0_int (by decide))⟩) hb8) hzo6
          have hI : Iv w0 [] μ μ15 [row 104 35 vvc2 c2.length ccc2, row 65 33 (.slice (some ⟨g6, 0, none⟩) 1 1) ([(⟨IntKind.u64.wrap ((Int.tmod x1 (IntKind.u64.wrap (c3 + 1))) + 1), (List.replicate 32 0)⟩ : Out)] : List Out).length cs9, cel g1 [[.int .u32 0], [vvc4], [v5], [.int .u32 0]] 68] w := hI
          obtain ⟨μ16, hle14, hI, hkk5⟩ := htg5 _ _ _ hle13 hI
          obtain ⟨hb9, H⟩ := bG H
          have hS14 : ErS μ16 v7 r4.2 := ErV.thaw (l := [((Er.b 0 : Er), (.nilIface : Value)), (Er.b 1, e0), (Er.b 4, e3), (Er.b 5, e4), (Er.b 8, e7)]) (hle11.trans hle13) hle14 hkk5 (SlV.le hle13 hsv9) hS13 (by simp only [List.forall_mem_cons]; exact ⟨⟨erv_nil, rfl⟩, ⟨(ErV.le (fun _ _ h => h) ((hle1.trans hle9).trans hle10) he0), rfl⟩, ⟨(ErV.le (fun _ _ h => h) ((hle1.trans hle9).trans hle10) he3), rfl⟩, ⟨(ErV.le (fun _ _ h => h) ((hle1.trans hle9).trans hle10) he4), rfl⟩, ⟨(ErV.le (fun _ _ h => h) ((hle1.trans hle9).trans hle10) he7), rfl⟩, by simp⟩) (Or.imp (fun h => show _ ∈ List.map Prod.fst [((Er.b 0 : Er), (.nilIface : Value)), (Er.b 1, e0), (Er.b 4, e3), (Er.b 5, e4), (Er.b 8, e7)] from h) (fun h => ⟨⟨h.1.1, show _ ∈ List.map Prod.fst [((Er.b 0 : Er), (.nilIface : Value)), (Er.b 1, e0), (Er.b 4, e3), (Er.b 5, e4), (Er.b 8, e7)] from h.1.2⟩, Els.cell0 hE11 h.2 (fun _ _ h => by obtain ⟨rfl, _⟩ := h; exact cell0_int (by decide))⟩) hb9) hzo5
          have hI : Iv w0 [] μ μ16 [row 65 33 v5 (([(⟨IntKind.u64.wrap (c3 - (Int.tmod x1 (IntKind.u64.wrap (c3 + 1)))), (List.replicate 32 0)⟩ : Out)] : List Out) ++ ([(⟨IntKind.u64.wrap ((Int.tmod x1 (IntKind.u64.wrap (c3 + 1))) + 1), (List.replicate 32 0)⟩ : Out)] : List Out)).length (cs8 ++ cs9), row 104 35 vvc2 c2.length ccc2, row 65 33 (.slice (some ⟨g6, 0, none⟩) 1 1) ([(⟨IntKind.u64.wrap ((Int.tmod x1 (IntKind.u64.wrap (c3 + 1))) + 1), (List.replicate 32 0)⟩ : Out)] : List Out).length cs9, cel g1 [[.int .u32 0], [vvc4], [v5], [.int .u32 0]] 68] w := hI
          obtain ⟨μ17, hle15, hI, hkk6⟩ := htg4 _ _ _ hle14 hI
          obtain ⟨hb10, H⟩ := bG H
          have hS15 : ErS μ17 v7 r4.2 := ErV.thaw (l := [((Er.b 0 : Er), (.nilIface : Value)), (Er.b 1, e0), (Er.b 4, e3), (Er.b 5, e4), (Er.b 8, e7)]) (hle10.trans hle14) hle15 hkk6 (SlV.le hle14 hsv8) hS14 (by simp only [List.forall_mem_cons]; exact ⟨⟨erv_nil, rfl⟩, ⟨(ErV.le (fun _ _ h => h) (hle1.trans hle9) he0), rfl⟩, ⟨(ErV.le (fun _ _ h => h) (hle1.trans hle9) he3), rfl⟩, ⟨(ErV.le (fun _ _ h => h) (hle1.trans hle9) he4), rfl⟩, ⟨(ErV.le (fun _ _ h => h) (hle1.trans hle9) he7), rfl⟩, by simp⟩) (Or.imp (fun h => show _ ∈ List.map Prod.fst [((Er.b 0 : Er), (.nilIface : Value)), (Er.b 1, e0), (Er.b 4, e3), (Er.b 5, e4), (Er.b 8, e7)] from h) (fun h => ⟨⟨h.1.1, show _ ∈ List.map Prod.fst [((Er.b 0 : Er), (.nilIface : Value)), (Er.b 1, e0), (Er.b 4, e3), (Er.b 5, e4), (Er.b 8, e7)] from h.1.2⟩, Els.cell0 wc4 h.2 (fun _ _ h => by obtain ⟨_, rfl, _⟩ := h; exact cell0_av (by decide) (by decide))⟩) hb10) hzo4
          have hI : Iv w0 [] μ μ17 [row 62 35 vvc4 c4.length ccc4, row 65 33 v5 (([(⟨IntKind.u64.wrap (c3 - (Int.tmod x1 (IntKind.u64.wrap (c3 + 1)))), (List.replicate 32 0)⟩ : Out)] : List Out) ++ ([(⟨IntKind.u64.wrap ((Int.tmod x1 (IntKind.u64.wrap (c3 + 1))) + 1), (List.replicate 32 0)⟩ : Out)] : List Out)).length (cs8 ++ cs9), row 104 35 vvc2 c2.length ccc2, row 65 33 (.slice (some ⟨g6, 0, none⟩) 1 1) ([(⟨IntKind.u64.wrap ((Int.tmod x1 (IntKind.u64.wrap (c3 + 1))) + 1), (List.replicate 32 0)⟩ : Out)] : List Out).length cs9, cel g1 [[.int .u32 0], [vvc4], [v5], [.int .u32 0]] 68] w := hI
          refine hN23 _ _ ?_
          refine w_seq fun _ hN24 => ?_
          refine w_reg ?_
          refine stp hA (r_mv hA rfl) rfl fun a hA => 
            stp hA (r_mv hA rfl) rfl fun a hA => ?_
          obtain ⟨_, hsl5⟩ := Slc.sv (Slc.le hx0 (fun _ _ h => h) ((hle1.trans hle9).trans hle15))
          refine stp hA (r_slen Tryd.underlying42 hsl5 hA rfl) rfl fun a hA => ?_
          obtain ⟨r5, hr5, H⟩ := bB H
          refine o_callp (u := .int .i64 r5) cf29 hA rfl hI (sargassoworld_Number.c μ17 _ hI.agr x2 hx2 (x0.length : Int) (len_in (Slc.le hx0 (fun _ _ h => h) ((hle1.trans hle9).trans hle15))) r5 hr5) rfl fun a w hz8 hI hA => 
            stp hA (r_as hA rfl) rfl fun a hA => ?_
          refine o_nil ?_
          refine hN24 _ _ ?_
          refine w_seq fun _ hN25 => ?_
          refine w_reg ?_
          refine stp hA (r_fd (k := 1) Tryd.underlying68 rfl sz63 hA rfl rfl) rfl fun a hA => 
            stp hA (r_ld1 (j := 4) [[.int .u32 0]] [[v5], [.int .u32 0]] Tryd.underlying63 rfl hI rfl hA rfl rfl) rfl fun a hA => 
            stp hA (r_mv hA rfl) rfl fun a hA => ?_
          have hE12 : Els (RI .u8) 1 ([9] : List Int) ([[.int .u8 9]].flatten ++ ([])) := (Els.cons (c := [[.int .u8 9]].flatten) ⟨rfl, (in_lit .u8 9 rfl)⟩ rfl Els.nil)
          refine o_bsl ([[.int .u8 9]].flatten ++ ([])) te5 zr5 Tryd.underlying23 hI hA rfl rfl rfl rfl (by kernel_rfl) rfl fun g7 a w hA hI => ?_
          generalize hcs : ([[.int .u8 9]].flatten ++ ([]) : List Value) = cs12 at hE12 hI
          clear hcs
          obtain ⟨hb11, H⟩ := bG H
          refine stp hA (r_rix (j := 1) Tryd.underlying63 sz62 hI rfl hA rfl rfl hb11.1 hb11.2) rfl fun a hA => 
            stp hA (r_fd (k := so vvc4 + r5.toNat * 35 + 33) Tryd.underlying62 rfl sz23 hA rfl rfl) rfl fun a hA => ?_
          obtain ⟨μ18, hle16, hsv11, hI⟩ := hI.freezeRow 0 rfl
          have hS16 : Slc (RI .u8) 1 μ18 (.slice (some ⟨g7, 0, none⟩) 1 1) ([9] : List Int) := ⟨_, hE12, hsv11⟩
          obtain ⟨A1, _, B1, hc5, hl1, hl2, he2⟩ := Els.at_ (Els.mono wc4 (fun _ _ h => RIn.le ((hle9.trans hle15).trans hle16) h)) (getD_some default hb11.1 hb11.2)
          obtain ⟨v8, rfl, hw4⟩ := he2
          have hE13 := Els.setAt (y := (⟨(c4.getD r5.toNat default).From, ([9] : List Int), (c4.getD r5.toNat default).Seq⟩ : In)) (d := [av .u8 32 ((c4.getD r5.toNat default).From.Tx), [.int .u32 ((c4.getD r5.toNat default).From.N)], [(.slice (some ⟨g7, 0, none⟩) 1 1)], [.int .u32 ((c4.getD r5.toNat default).Seq)]].flatten) (Els.mono wc4 (fun _ _ h => RIn.le ((hle9.trans hle15).trans hle16) h)) hc5 (idx_lt hb11.1 hb11.2) hl1 hl2 ⟨(.slice (some ⟨g7, 0, none⟩) 1 1), rfl, ⟨hw4.1, hw4.2.1, hS16, hw4.2.2.2⟩⟩ rfl
          obtain ⟨_, hsc1⟩ := Slc.sv hS16
          refine o_rstPL (j := 0) (q := r5.toNat * 35) (off := 33) (m' := (c4.set r5.toNat (⟨(c4.getD r5.toNat default).From, ([9] : List Int), (c4.getD r5.toNat default).Seq⟩ : In)).length) A1 B1 [av .u8 32 ((c4.getD r5.toNat default).From.Tx), [.int .u32 ((c4.getD r5.toNat default).From.N)]] [[v8]] [[(.slice (some ⟨g7, 0, none⟩) 1 1)]] [[.int .u32 ((c4.getD r5.toNat default).Seq)]] hc5 hl1 rfl sz23 rfl rfl (fl_cons (one_one (one_sl hsc1)) fl_nil) hI rfl hA rfl rfl (cells_sl hsc1) (by omega) (by first | exact (List.length_set ..).symm | simp) fun w hI => ?_
          refine o_nil ?_
          refine hN25 _ _ ?_
          refine w_seq fun _ hN26 => ?_
          refine w_reg ?_
          refine stp hA (r_ldA (j := 4) [] [[.int .u32 0], [vvc4], [v5], [.int .u32 0]] [] Tryd.underlying68 rfl sz68 rfl hI rfl hA rfl rfl) rfl fun a hA => 
            stp hA (r_mv hA rfl) rfl fun a hA => ?_
          obtain ⟨μ19, hle17, hsv12, hzo7, hI, hth9, htg7⟩ := hI.freezeRowG 0 rfl
          have hS17 : Slc (RIn μ19) 35 μ19 vvc4 (c4.set r5.toNat (⟨(c4.getD r5.toNat default).From, ([9] : List Int), (c4.getD r5.toNat default).Seq⟩ : In)) := ⟨_, (Els.mono hE13 (fun _ _ h => RIn.le hle17 h)), hsv12⟩
          obtain ⟨μ20, hle18, hsv13, hzo8, hI, hth10, htg8⟩ := hI.freezeRowG 0 rfl
          have hS18 : Slc (ROut μ20) 33 μ20 v5 (([(⟨IntKind.u64.wrap (c3 - (Int.tmod x1 (IntKind.u64.wrap (c3 + 1)))), (List.replicate 32 0)⟩ : Out)] : List Out) ++ ([(⟨IntKind.u64.wrap ((Int.tmod x1 (IntKind.u64.wrap (c3 + 1))) + 1), (List.replicate 32 0)⟩ : Out)] : List Out)) := ⟨_, (Els.mono hE11 (fun _ _ h => ROut.le (((hle15.trans hle16).trans hle17).trans hle18) h)), hsv13⟩
          obtain ⟨μ21, hle19, hsv14, hzo9, hI, hth11, htg9⟩ := hI.freezeRowG 0 rfl
          have hS19 : Slc (RMoney μ21) 35 μ21 vvc2 c2 := ⟨_, (Els.mono wc2 (fun _ _ h => RMoney.le (((((hle9.trans hle15).trans hle16).trans hle17).trans hle18).trans hle19) h)), hsv14⟩
          obtain ⟨r6, hr6, H⟩ := bB H
          refine o_call _ cf72 hA rfl (value_Fee.c μ21 _ hI.agr (⟨0, c4.set r5.toNat (⟨(c4.getD r5.toNat default).From, ([9] : List Int), (c4.getD r5.toNat default).Seq⟩ : In), ([(⟨IntKind.u64.wrap (c3 - (Int.tmod x1 (IntKind.u64.wrap (c3 + 1)))), (List.replicate 32 0)⟩ : Out)] : List Out) ++ ([(⟨IntKind.u64.wrap ((Int.tmod x1 (IntKind.u64.wrap (c3 + 1))) + 1), (List.replicate 32 0)⟩ : Out)] : List Out), 0⟩ : Tx) vvc4 v5 ⟨(in_lit .u32 0 rfl), (Slc.le hS17 (fun _ _ h => RIn.le (hle18.trans hle19) h) (hle18.trans hle19)), (Slc.le hS18 (fun _ _ h => ROut.le hle19 h) hle19), (in_lit .u32 0 rfl)⟩ c2 vvc2 hS19 e0 (ErV.le (fun _ _ h => h) ((((((hle1.trans hle9).trans hle15).trans hle16).trans hle17).trans hle18).trans hle19) he0) e3 (ErV.le (fun _ _ h => h) ((((((hle1.trans hle9).trans hle15).trans hle16).trans hle17).trans hle18).trans hle19) he3) e4 (ErV.le (fun _ _ h => h) ((((((hle1.trans hle9).trans hle15).trans hle16).trans hle17).trans hle18).trans hle19) he4) e7 (ErV.le (fun _ _ h => h) ((((((hle1.trans hle9).trans hle15).trans hle16).trans hle17).trans hle18).trans hle19) he7) r6 hr6) rfl fun v9 a w hz9 hA => ?_
          obtain ⟨v10, μ22, rfl, hw5, hS20, hi3⟩ := hz9
          have hI := hI.call hi3
          refine stp hA (r_mv hA rfl) rfl fun a hA => 
            stp hA (r_extr (vs := [.int .u64 r6.1, v10]) hA rfl rfl) rfl fun a hA => 
            stp hA (r_extr (vs := [.int .u64 r6.1, v10]) hA rfl rfl) rfl fun a hA => 
            stp hA (r_as hA rfl) rfl fun a hA => 
            stp hA (r_as hA rfl) rfl fun a hA => ?_
          refine o_nil ?_
          obtain ⟨μ23, hle20, hI, hkk7⟩ := htg9 _ _ _ hi3.le hI
          obtain ⟨hb12, H⟩ := bG H
          have hS21 : ErS μ23 v10 r6.2 := ErV.thaw (l := [((Er.b 0 : Er), (.nilIface : Value)), (Er.b 1, e0), (Er.b 4, e3), (Er.b 5, e4), (Er.b 8, e7)]) (hle19.trans hi3.le) hle20 hkk7 (SlV.le hi3.le hsv14) hS20 (by simp only [List.forall_mem_cons]; exact ⟨⟨erv_nil, rfl⟩, ⟨(ErV.le (fun _ _ h => h) (((((hle1.trans hle9).trans hle15).trans hle16).trans hle17).trans hle18) he0), rfl⟩, ⟨(ErV.le (fun _ _ h => h) (((((hle1.trans hle9).trans hle15).trans hle16).trans hle17).trans hle18) he3), rfl⟩, ⟨(ErV.le (fun _ _ h => h) (((((hle1.trans hle9).trans hle15).trans hle16).trans hle17).trans hle18) he4), rfl⟩, ⟨(ErV.le (fun _ _ h => h) (((((hle1.trans hle9).trans hle15).trans hle16).trans hle17).trans hle18) he7), rfl⟩, by simp⟩) (Or.imp (fun h => show _ ∈ List.map Prod.fst [((Er.b 0 : Er), (.nilIface : Value)), (Er.b 1, e0), (Er.b 4, e3), (Er.b 5, e4), (Er.b 8, e7)] from h) (fun h => ⟨⟨h.1.1, show _ ∈ List.map Prod.fst [((Er.b 0 : Er), (.nilIface : Value)), (Er.b 1, e0), (Er.b 4, e3), (Er.b 5, e4), (Er.b 8, e7)] from h.1.2⟩, Els.cell0 wc2 h.2 (fun _ _ h => by obtain ⟨rfl, _⟩ := h; exact cell0_int (by decide))⟩) hb12) hzo9
          have hI : Iv w0 [] μ μ23 [row 104 35 vvc2 c2.length ccc2, row 65 33 (.slice (some ⟨g6, 0, none⟩) 1 1) ([(⟨IntKind.u64.wrap ((Int.tmod x1 (IntKind.u64.wrap (c3 + 1))) + 1), (List.replicate 32 0)⟩ : Out)] : List Out).length cs9, cel g1 [[.int .u32 0], [vvc4], [v5], [.int .u32 0]] 68] w := hI
          obtain ⟨μ24, hle21, hI, hkk8⟩ := htg8 _ _ _ hle20 hI
          obtain ⟨hb13, H⟩ := bG H
          have hS22 : ErS μ24 v10 r6.2 := ErV.thaw (l := [((Er.b 0 : Er), (.nilIface : Value)), (Er.b 1, e0), (Er.b 4, e3), (Er.b 5, e4), (Er.b 8, e7)]) (hle18.trans hle20) hle21 hkk8 (SlV.le hle20 hsv13) hS21 (by simp only [List.forall_mem_cons]; exact ⟨⟨erv_nil, rfl⟩, ⟨(ErV.le (fun _ _ h => h) ((((hle1.trans hle9).trans hle15).trans hle16).trans hle17) he0), rfl⟩, ⟨(ErV.le (fun _ _ h => h) ((((hle1.trans hle9).trans hle15).trans hle16).trans hle17) he3), rfl⟩, ⟨(ErV.le (fun _ _ h => h) ((((hle1.trans hle9).trans hle15).trans hle16).trans hle17) he4), rfl⟩, ⟨(ErV.le (fun _ _ h => h) ((((hle1.trans hle9).trans hle15).trans hle16).trans hle17) he7), rfl⟩, by simp⟩) (Or.imp (fun h => show _ ∈ List.map Prod.fst [((Er.b 0 : Er), (.nilIface : Value)), (Er.b 1, e0), (Er.b 4, e3), (Er.b 5, e4), (Er.b 8, e7)] from h) (fun h => ⟨⟨h.1.1, show _ ∈ List.map Prod.fst [((Er.b 0 : Er), (.nilIface : Value)), (Er.b 1, e0), (Er.b 4, e3), (Er.b 5, e4), (Er.b 8, e7)] from h.1.2⟩, Els.cell0 hE11 h.2 (fun _ _ h => by obtain ⟨rfl, _⟩ := h; exact cell0_int (by decide))⟩) hb13) hzo8
          have hI : Iv w0 [] μ μ24 [row 65 33 v5 (([(⟨IntKind.u64.wrap (c3 - (Int.tmod x1 (IntKind.u64.wrap (c3 + 1)))), (List.replicate 32 0)⟩ : Out)] : List Out) ++ ([(⟨IntKind.u64.wrap ((Int.tmod x1 (IntKind.u64.wrap (c3 + 1))) + 1), (List.replicate 32 0)⟩ : Out)] : List Out)).length (cs8 ++ cs9), row 104 35 vvc2 c2.length ccc2, row 65 33 (.slice (some ⟨g6, 0, none⟩) 1 1) ([(⟨IntKind.u64.wrap ((Int.tmod x1 (IntKind.u64.wrap (c3 + 1))) + 1), (List.replicate 32 0)⟩ : Out)] : List Out).length cs9, cel g1 [[.int .u32 0], [vvc4], [v5], [.int .u32 0]] 68] w := hI
          obtain ⟨μ25, hle22, hI, hkk9⟩ := htg7 _ _ _ hle21 hI
          obtain ⟨hb14, H⟩ := bG H
          have hS23 : ErS μ25 v10 r6.2 := ErV.thaw (l := [((Er.b 0 : Er), (.nilIface : Value)), (Er.b 1, e0), (Er.b 4, e3), (Er.b 5, e4), (Er.b 8, e7)]) (hle17.trans hle21) hle22 hkk9 (SlV.le hle21 hsv12) hS22 (by simp only [List.forall_mem_cons]; exact ⟨⟨erv_nil, rfl⟩, ⟨(ErV.le (fun _ _ h => h) (((hle1.trans hle9).trans hle15).trans hle16) he0), rfl⟩, ⟨(ErV.le (fun _ _ h => h) (((hle1.trans hle9).trans hle15).trans hle16) he3), rfl⟩, ⟨(ErV.le (fun _ _ h => h) (((hle1.trans hle9).trans hle15).trans hle16) he4), rfl⟩, ⟨(ErV.le (fun _ _ h => h) (((hle1.trans hle9).trans hle15).trans hle16) he7), rfl⟩, by simp⟩) (Or.imp (fun h => show _ ∈ List.map Prod.fst [((Er.b 0 : Er), (.nilIface : Value)), (Er.b 1, e0), (Er.b 4, e3), (Er.b 5, e4), (Er.b 8, e7)] from h) (fun h => ⟨⟨h.1.1, show _ ∈ List.map Prod.fst [((Er.b 0 : Er), (.nilIface : Value)), (Er.b 1, e0), (Er.b 4, e3), (Er.b 5, e4), (Er.b 8, e7)] from h.1.2⟩, Els.cell0 hE13 h.2 (fun _ _ h => by obtain ⟨_, rfl, _⟩ := h; exact cell0_av (by decide) (by decide))⟩) hb14) hzo7
          have hI : Iv w0 [] μ μ25 [row 62 35 vvc4 (c4.set r5.toNat (⟨(c4.getD r5.toNat default).From, ([9] : List Int), (c4.getD r5.toNat default).Seq⟩ : In)).length (A1 ++ ([av .u8 32 ((c4.getD r5.toNat default).From.Tx), [.int .u32 ((c4.getD r5.toNat default).From.N)], [(.slice (some ⟨g7, 0, none⟩) 1 1)], [.int .u32 ((c4.getD r5.toNat default).Seq)]].flatten ++ B1)), row 65 33 v5 (([(⟨IntKind.u64.wrap (c3 - (Int.tmod x1 (IntKind.u64.wrap (c3 + 1)))), (List.replicate 32 0)⟩ : Out)] : List Out) ++ ([(⟨IntKind.u64.wrap ((Int.tmod x1 (IntKind.u64.wrap (c3 + 1))) + 1), (List.replicate 32 0)⟩ : Out)] : List Out)).length (cs8 ++ cs9), row 104 35 vvc2 c2.length ccc2, row 65 33 (.slice (some ⟨g6, 0, none⟩) 1 1) ([(⟨IntKind.u64.wrap ((Int.tmod x1 (IntKind.u64.wrap (c3 + 1))) + 1), (List.replicate 32 0)⟩ : Out)] : List Out).length cs9, cel g1 [[.int .u32 0], [vvc4], [v5], [.int .u32 0]] 68] w := hI
          refine hN26 _ _ ?_
          refine w_seq fun _ hN27 => ?_
          obtain ⟨μ26, hle23, hsv15, hI⟩ := hI.freezeRow 2 rfl
          have hS24 : Slc (RMoney μ26) 35 μ26 vvc2 c2 := ⟨_, (Els.mono wc2 (fun _ _ h => RMoney.le ((((hle9.trans hle15).trans hle16).trans hle22).trans hle23) h)), hsv15⟩
          obtain ⟨μ27, hle24, hsv16, hzo10, hI, hth13, htg10⟩ := hI.freezeRowG 0 rfl
          have hS25 : Slc (RIn μ27) 35 μ27 vvc4 (c4.set r5.toNat (⟨(c4.getD r5.toNat default).From, ([9] : List Int), (c4.getD r5.toNat default).Seq⟩ : In)) := ⟨_, (Els.mono hE13 (fun _ _ h => RIn.le ((hle22.trans hle23).trans hle24) h)), hsv16⟩
          obtain ⟨μ28, hle25, hsv17, hzo11, hI, hth14, htg11⟩ := hI.freezeRowG 0 rfl
          have hS26 : Slc (ROut μ28) 33 μ28 v5 (([(⟨IntKind.u64.wrap (c3 - (Int.tmod x1 (IntKind.u64.wrap (c3 + 1)))), (List.replicate 32 0)⟩ : Out)] : List Out) ++ ([(⟨IntKind.u64.wrap ((Int.tmod x1 (IntKind.u64.wrap (c3 + 1))) + 1), (List.replicate 32 0)⟩ : Out)] : List Out)) := ⟨_, (Els.mono hE11 (fun _ _ h => ROut.le (((((hle15.trans hle16).trans hle22).trans hle23).trans hle24).trans hle25) h)), hsv17⟩
          refine w_any [] mo hI fun w hI => ?_
          refine g_take (i := 0) hA rfl rfl (by kernel_rfl) hI (fun w hI => r_ldA (j := 1) [] [[.int .u32 0], [vvc4], [v5], [.int .u32 0]] [] Tryd.underlying68 rfl sz68 rfl hI rfl hA rfl rfl) rfl fun a hA => ?_
          refine g_easy (i := 1) hA rfl rfl (by kernel_rfl) (.inr hI) (fun _ => r_mv hA rfl) rfl fun a hA => ?_
          obtain ⟨hb15, H⟩ := bG H
          obtain ⟨v11, hS27, hr7⟩ := r_sl (P := Tryd.prog) (t := 102) (x := .tmp 115) (l := (some (.const (.int .i64 1)))) (h := none) (i := 1) (j := (c2.length : Int)) Tryd.underlying102 sz104 (Slc.le hS24 (fun _ _ h => RMoney.le (hle24.trans hle25) h) (hle24.trans hle25)) hA rfl rfl rfl (by have hq := hb15; omega) (by have hq := hb15; omega) (by have hq := hb15; omega)
          refine g_easy (i := 2) hA rfl rfl (by kernel_rfl) (.inr hI) (fun _ => hr7 _ _ _ _ _ _) rfl fun a hA => ?_
          refine g_forced (i := 3) rfl (by kernel_rfl) ?_
          obtain ⟨r7, hr8, H⟩ := bB H
          refine o_call _ cf72 hA rfl (value_Fee.c μ28 _ hI.agr (⟨0, c4.set r5.toNat (⟨(c4.getD r5.toNat default).From, ([9] : List Int), (c4.getD r5.toNat default).Seq⟩ : In), ([(⟨IntKind.u64.wrap (c3 - (Int.tmod x1 (IntKind.u64.wrap (c3 + 1)))), (List.replicate 32 0)⟩ : Out)] : List Out) ++ ([(⟨IntKind.u64.wrap ((Int.tmod x1 (IntKind.u64.wrap (c3 + 1))) + 1), (List.replicate 32 0)⟩ : Out)] : List Out), 0⟩ : Tx) vvc4 v5 ⟨(in_lit .u32 0 rfl), (Slc.le hS25 (fun _ _ h => RIn.le hle25 h) hle25), hS26, (in_lit .u32 0 rfl)⟩ ((c2.take ((c2.length : Int)).toNat).drop (1 : Int).toNat) v11 hS27 e0 (ErV.le (fun _ _ h => h) (((((((hle1.trans hle9).trans hle15).trans hle16).trans hle22).trans hle23).trans hle24).trans hle25) he0) e3 (ErV.le (fun _ _ h => h) (((((((hle1.trans hle9).trans hle15).trans hle16).trans hle22).trans hle23).trans hle24).trans hle25) he3) e4 (ErV.le (fun _ _ h => h) (((((((hle1.trans hle9).trans hle15).trans hle16).trans hle22).trans hle23).trans hle24).trans hle25) he4) e7 (ErV.le (fun _ _ h => h) (((((((hle1.trans hle9).trans hle15).trans hle16).trans hle22).trans hle23).trans hle24).trans hle25) he7) r7 hr8) rfl fun v12 a w hz10 hA => ?_
          obtain ⟨v13, μ29, rfl, hw6, hS28, hi4⟩ := hz10
          have hI := hI.call hi4
          refine o_nil ?_
          refine ⟨(.inr (hI.less (((((((hle1.trans hle9).trans hle15).trans hle16).trans hle22).trans hle23).trans hle24).trans hle25) hi4.le)), ?_⟩
          refine g_easy (i := 4) hA rfl rfl (by kernel_rfl) (.inr (hI.less (((((((hle1.trans hle9).trans hle15).trans hle16).trans hle22).trans hle23).trans hle24).trans hle25) hi4.le)) (fun _ => r_mv hA rfl) rfl fun a hA => ?_
          refine g_easy (i := 5) hA rfl rfl (by kernel_rfl) (.inr (hI.less (((((((hle1.trans hle9).trans hle15).trans hle16).trans hle22).trans hle23).trans hle24).trans hle25) hi4.le)) (fun _ => r_extr (vs := [.int .u64 r7.1, v13]) hA rfl rfl) rfl fun a hA => ?_
          refine g_easy (i := 6) hA rfl rfl (by kernel_rfl) (.inr (hI.less (((((((hle1.trans hle9).trans hle15).trans hle16).trans hle22).trans hle23).trans hle24).trans hle25) hi4.le)) (fun _ => r_extr (vs := [.int .u64 r7.1, v13]) hA rfl rfl) rfl fun a hA => ?_
          refine g_easy (i := 7) hA rfl rfl (by kernel_rfl) (.inr (hI.less (((((((hle1.trans hle9).trans hle15).trans hle16).trans hle22).trans hle23).trans hle24).trans hle25) hi4.le)) (fun _ => r_as hA rfl) rfl fun a hA => ?_
          refine g_easy (i := 8) hA rfl rfl (by kernel_rfl) (.inr (hI.less (((((((hle1.trans hle9).trans hle15).trans hle16).trans hle22).trans hle23).trans hle24).trans hle25) hi4.le)) (fun _ => r_as hA rfl) rfl fun a hA => ?_
          refine g_nil (by kernel_rfl) ?_
          obtain ⟨μ30, hle26, hI, hkk10⟩ := htg11 _ _ _ hi4.le hI
          obtain ⟨hb16, H⟩ := bG H
          have hS29 : ErS μ30 v13 r7.2 := ErV.thaw (l := [((Er.b 0 : Er), (.nilIface : Value)), (Er.b 1, e0), (Er.b 4, e3), (Er.b 5, e4), (Er.b 8, e7)]) (hle25.trans hi4.le) hle26 hkk10 (SlV.le hi4.le hsv17) hS28 (by simp only [List.forall_mem_cons]; exact ⟨⟨erv_nil, rfl⟩, ⟨(ErV.le (fun _ _ h => h) ((((((hle1.trans hle9).trans hle15).trans hle16).trans hle22).trans hle23).trans hle24) he0), rfl⟩, ⟨(ErV.le (fun _ _ h => h) ((((((hle1.trans hle9).trans hle15).trans hle16).trans hle22).trans hle23).trans hle24) he3), rfl⟩, ⟨(ErV.le (fun _ _ h => h) ((((((hle1.trans hle9).trans hle15).trans hle16).trans hle22).trans hle23).trans hle24) he4), rfl⟩, ⟨(ErV.le (fun _ _ h => h) ((((((hle1.trans hle9).trans hle15).trans hle16).trans hle22).trans hle23).trans hle24) he7), rfl⟩, by simp⟩) (Or.imp (fun h => show _ ∈ List.map Prod.fst [((Er.b 0 : Er), (.nilIface : Value)), (Er.b 1, e0), (Er.b 4, e3), (Er.b 5, e4), (Er.b 8, e7)] from h) (fun h => ⟨⟨h.1.1, show _ ∈ List.map Prod.fst [((Er.b 0 : Er), (.nilIface : Value)), (Er.b 1, e0), (Er.b 4, e3), (Er.b 5, e4), (Er.b 8, e7)] from h.1.2⟩, Els.cell0 hE11 h.2 (fun _ _ h => by obtain ⟨rfl, _⟩ := h; exact cell0_int (by decide))⟩) hb16) hzo11
          have hI : Iv w0 [] μ μ30 [row 65 33 v5 (([(⟨IntKind.u64.wrap (c3 - (Int.tmod x1 (IntKind.u64.wrap (c3 + 1)))), (List.replicate 32 0)⟩ : Out)] : List Out) ++ ([(⟨IntKind.u64.wrap ((Int.tmod x1 (IntKind.u64.wrap (c3 + 1))) + 1), (List.replicate 32 0)⟩ : Out)] : List Out)).length (cs8 ++ cs9), row 65 33 (.slice (some ⟨g6, 0, none⟩) 1 1) ([(⟨IntKind.u64.wrap ((Int.tmod x1 (IntKind.u64.wrap (c3 + 1))) + 1), (List.replicate 32 0)⟩ : Out)] : List Out).length cs9, cel g1 [[.int .u32 0], [vvc4], [v5], [.int .u32 0]] 68] w := hI
          obtain ⟨μ31, hle27, hI, hkk11⟩ := htg10 _ _ _ hle26 hI
          obtain ⟨hb17, H⟩ := bG H
          have hS30 : ErS μ31 v13 r7.2 := ErV.thaw (l := [((Er.b 0 : Er), (.nilIface : Value)), (Er.b 1, e0), (Er.b 4, e3), (Er.b 5, e4), (Er.b 8, e7)]) (hle24.trans hle26) hle27 hkk11 (SlV.le hle26 hsv16) hS29 (by simp only [List.forall_mem_cons]; exact ⟨⟨erv_nil, rfl⟩, ⟨(ErV.le (fun _ _ h => h) (((((hle1.trans hle9).trans hle15).trans hle16).trans hle22).trans hle23) he0), rfl⟩, ⟨(ErV.le (fun _ _ h => h) (((((hle1.trans hle9).trans hle15).trans hle16).trans hle22).trans hle23) he3), rfl⟩, ⟨(ErV.le (fun _ _ h => h) (((((hle1.trans hle9).trans hle15).trans hle16).trans hle22).trans hle23) he4), rfl⟩, ⟨(ErV.le (fun _ _ h => h) (((((hle1.trans hle9).trans hle15).trans hle16).trans hle22).trans hle23) he7), rfl⟩, by simp⟩) (Or.imp (fun h => show _ ∈ List.map Prod.fst [((Er.b 0 : Er), (.nilIface : Value)), (Er.b 1, e0), (Er.b 4, e3), (Er.b 5, e4), (Er.b 8, e7)] from h) (fun h => ⟨⟨h.1.1, show _ ∈ List.map Prod.fst [((Er.b 0 : Er), (.nilIface : Value)), (Er.b 1, e0), (Er.b 4, e3), (Er.b 5, e4), (Er.b 8, e7)] from h.1.2⟩, Els.cell0 hE13 h.2 (fun _ _ h => by obtain ⟨_, rfl, _⟩ := h; exact cell0_av (by decide) (by decide))⟩) hb17) hzo10
          have hI : Iv w0 [] μ μ31 [row 62 35 vvc4 (c4.set r5.toNat (⟨(c4.getD r5.toNat default).From, ([9] : List Int), (c4.getD r5.toNat default).Seq⟩ : In)).length (A1 ++ ([av .u8 32 ((c4.getD r5.toNat default).From.Tx), [.int .u32 ((c4.getD r5.toNat default).From.N)], [(.slice (some ⟨g7, 0, none⟩) 1 1)], [.int .u32 ((c4.getD r5.toNat default).Seq)]].flatten ++ B1)), row 65 33 v5 (([(⟨IntKind.u64.wrap (c3 - (Int.tmod x1 (IntKind.u64.wrap (c3 + 1)))), (List.replicate 32 0)⟩ : Out)] : List Out) ++ ([(⟨IntKind.u64.wrap ((Int.tmod x1 (IntKind.u64.wrap (c3 + 1))) + 1), (List.replicate 32 0)⟩ : Out)] : List Out)).length (cs8 ++ cs9), row 65 33 (.slice (some ⟨g6, 0, none⟩) 1 1) ([(⟨IntKind.u64.wrap ((Int.tmod x1 (IntKind.u64.wrap (c3 + 1))) + 1), (List.replicate 32 0)⟩ : Out)] : List Out).length cs9, cel g1 [[.int .u32 0], [vvc4], [v5], [.int .u32 0]] 68] w := hI
          refine hN27 _ _ ?_
          obtain ⟨c5, hz11, Hk4⟩ := bB H
          refine w_cut (fun a w => Fr a 154 [(0, u0), (1, .int .u64 (Int.tmod x1 (IntKind.u64.wrap (c3 + 1)))), (2, .int .i64 x2), (6, .bool false), (7, .bool r1), (8, .pointer (some ⟨g1, 0, none⟩)), (9, vvc2), (10, .int .u64 c3), (14, .int .u64 r3.1), (15, v4), (17, v7), (18, .int .i64 r5), (20, v10), (22, v13), (23, .bool c5), (26, .bool (!r1)), (34, .bool c1)] ∧ Iv w0 [] μ μ31 [row 62 35 vvc4 (c4.set r5.toNat (⟨(c4.getD r5.toNat default).From, ([9] : List Int), (c4.getD r5.toNat default).Seq⟩ : In)).length (A1 ++ ([av .u8 32 ((c4.getD r5.toNat default).From.Tx), [.int .u32 ((c4.getD r5.toNat default).From.N)], [(.slice (some ⟨g7, 0, none⟩) 1 1)], [.int .u32 ((c4.getD r5.toNat default).Seq)]].flatten ++ B1)), row 65 33 v5 (([(⟨IntKind.u64.wrap (c3 - (Int.tmod x1 (IntKind.u64.wrap (c3 + 1)))), (List.replicate 32 0)⟩ : Out)] : List Out) ++ ([(⟨IntKind.u64.wrap ((Int.tmod x1 (IntKind.u64.wrap (c3 + 1))) + 1), (List.replicate 32 0)⟩ : Out)] : List Out)).length (cs8 ++ cs9), row 65 33 (.slice (some ⟨g6, 0, none⟩) 1 1) ([(⟨IntKind.u64.wrap ((Int.tmod x1 (IntKind.u64.wrap (c3 + 1))) + 1), (List.replicate 32 0)⟩ : Out)] : List Out).length cs9, cel g1 [[.int .u32 0], [vvc4], [v5], [.int .u32 0]] 68] w) ?_ ?_
          · have H := bI hz11
            refine w_reg ?_
            refine stp hA (r_mv hA rfl) rfl fun a hA => 
              stp hA (r_gtr hA rfl rfl) rfl fun a hA => 
              stp hA (r_mv hA rfl) rfl fun a hA => ?_
            rcases Bool.eq_false_or_eq_true (decide (2100000000000000 < c3)) with hc6 | hc6
            · have hc60 := hc6; have hc6 := of_decide_eq_true hc6; have H := bT H hc6
              refine o_no hA rfl rfl (by rw [hc60]; simp [vb]) rfl fun a hA => 
                o_no hA rfl rfl (by rw [hc60]; simp [vb]) rfl fun a hA => 
                o_no hA rfl rfl (by rw [hc60]; simp [vb]) rfl fun a hA => 
                stp hA (r_pick_t hA rfl hc60 rfl) rfl fun a hA => 
                stp hA (r_as hA rfl) rfl fun a hA => ?_
              refine o_nil ?_
              cases Option.some.inj (bS H)
              exact ⟨hA.sub ⟨rfl, rfl, rfl, rfl, rfl, rfl, rfl, rfl, rfl, rfl, rfl, rfl, rfl, rfl, rfl, rfl, rfl, trivial⟩, hI⟩
            · have hc60 := hc6; have hc6 := of_decide_eq_false hc6; have H := bF H hc6
              refine o_yes hA rfl rfl hc60 <| 
                stp hA (r_mv hA rfl) rfl fun a hA => 
                o_yes hA rfl rfl hc60 <| 
                stp hA (r_add hA rfl rfl) rfl fun a hA => 
                o_yes hA rfl rfl hc60 <| 
                stp hA (r_gtr hA rfl rfl) rfl fun a hA => 
                stp hA (r_pick_f hA rfl hc60 rfl) rfl fun a hA => 
                stp hA (r_as hA rfl) rfl fun a hA => ?_
              refine o_nil ?_
              cases Option.some.inj (bS H)
              exact ⟨hA.sub ⟨rfl, rfl, rfl, rfl, rfl, rfl, rfl, rfl, rfl, rfl, rfl, rfl, rfl, rfl, rfl, rfl, rfl, trivial⟩, hI⟩
          · rintro a w ⟨hA, hI⟩
            have H := Hk4
            obtain ⟨c6, hz12, Hk5⟩ := bB H
            refine w_cut (fun a w => Fr a 154 [(0, u0), (1, .int .u64 (Int.tmod x1 (IntKind.u64.wrap (c3 + 1)))), (2, .int .i64 x2), (6, .bool c6), (7, .bool r1), (8, .pointer (some ⟨g1, 0, none⟩)), (9, vvc2), (10, .int .u64 c3), (14, .int .u64 r3.1), (15, v4), (17, v7), (18, .int .i64 r5), (20, v10), (22, v13), (23, .bool c5), (26, .bool (!r1)), (34, .bool c1)] ∧ Iv w0 [] μ μ31 [row 62 35 vvc4 (c4.set r5.toNat (⟨(c4.getD r5.toNat default).From, ([9] : List Int), (c4.getD r5.toNat default).Seq⟩ : In)).length (A1 ++ ([av .u8 32 ((c4.getD r5.toNat default).From.Tx), [.int .u32 ((c4.getD r5.toNat default).From.N)], [(.slice (some ⟨g7, 0, none⟩) 1 1)], [.int .u32 ((c4.getD r5.toNat default).Seq)]].flatten ++ B1)), row 65 33 v5 (([(⟨IntKind.u64.wrap (c3 - (Int.tmod x1 (IntKind.u64.wrap (c3 + 1)))), (List.replicate 32 0)⟩ : Out)] : List Out) ++ ([(⟨IntKind.u64.wrap ((Int.tmod x1 (IntKind.u64.wrap (c3 + 1))) + 1), (List.replicate 32 0)⟩ : Out)] : List Out)).length (cs8 ++ cs9), row 65 33 (.slice (some ⟨g6, 0, none⟩) 1 1) ([(⟨IntKind.u64.wrap ((Int.tmod x1 (IntKind.u64.wrap (c3 + 1))) + 1), (List.replicate 32 0)⟩ : Out)] : List Out).length cs9, cel g1 [[.int .u32 0], [vvc4], [v5], [.int .u32 0]] 68] w) ?_ ?_
            · have H := bI hz12
              refine w_reg ?_
              refine stp hA (r_mv hA rfl) rfl fun a hA => 
                stp hA (r_mv hA rfl) rfl fun a hA => ?_
              rcases Bool.eq_false_or_eq_true r1 with hc7 | hc7
              · have hc70 := hc7; have H := bT H hc7
                refine o_yes hA rfl rfl hc70 <| 
                  stp hA (r_mv hA rfl) rfl fun a hA => 
                  o_yes hA rfl rfl hc70 <| 
                  stp hA (r_eqE erF hI.agr (ErV.le (fun _ _ h => h) ((((hle15.trans hle16).trans hle22).trans hle23).trans hle27) hS8) erv_nil (.inl ⟨.inr ⟨_, rfl⟩, Er.fitR⟩) hA rfl rfl) rfl fun a hA => 
                  stp hA (r_pick_t hA rfl hc70 rfl) rfl fun a hA => 
                  stp hA (r_mv hA rfl) rfl fun a hA => ?_
                rcases Bool.eq_false_or_eq_true (decide (r3.2 = (Er.b 0))) with hc8 | hc8
                · have hc80 := hc8; have hc8 := of_decide_eq_true hc8; have H := bT H hc8
                  refine o_yes hA rfl rfl hc80 <| 
                    stp hA (r_mv hA rfl) rfl fun a hA => 
                    o_yes hA rfl rfl hc80 <| 
                    stp hA (r_mv hA rfl) rfl fun a hA => 
                    o_yes hA rfl rfl hc80 <| 
                    stp hA (r_eql hA rfl rfl) rfl fun a hA => 
                    stp hA (r_pick_t hA rfl hc80 rfl) rfl fun a hA => 
                    stp hA (r_mv hA rfl) rfl fun a hA => ?_
                  rcases Bool.eq_false_or_eq_true (decide (r3.1 = (Int.tmod x1 (IntKind.u64.wrap (c3 + 1))))) with hc9 | hc9
                  · have hc90 := hc9; have hc9 := of_decide_eq_true hc9; have H := bT H hc9
                    refine o_yes hA rfl rfl hc90 <| 
                      stp hA (r_mv hA rfl) rfl fun a hA => 
                      o_yes hA rfl rfl hc90 <| 
                      stp hA (r_mv hA rfl) rfl fun a hA => ?_
                    rcases Bool.eq_false_or_eq_true c5 with hc10 | hc10
                    · have hc100 := hc10; have H := bT H hc10
                      refine o_no hA rfl rfl (by rw [hc100]; simp [vb]) rfl fun a hA => 
                        o_no hA rfl rfl (by rw [hc100]; simp [vb]) rfl fun a hA => 
                        o_yes hA rfl rfl hc90 <| 
                        stp hA (r_pick_t hA rfl hc100 rfl) rfl fun a hA => 
                        stp hA (r_pick_t hA rfl hc90 rfl) rfl fun a hA => 
                        stp hA (r_mv hA rfl) rfl fun a hA => 
                        o_yes hA rfl rfl rfl <| 
                        stp hA (r_mv hA rfl) rfl fun a hA => 
                        o_yes hA rfl rfl rfl <| 
                        stp hA (r_mv hA rfl) rfl fun a hA => 
                        o_yes hA rfl rfl rfl <| ?_
                      obtain ⟨r8, hr9, H⟩ := bB H
                      refine o_callp (u := .agg [[.int .i64 r8.Code], [.bool r8.Placed], [.int .i64 r8.Pos], [.bool r8.Outer], [.int .i64 r8.At]].flatten.toArray) cf74 hA rfl hI (sargassoref_Placed.c μ31 _ hI.agr 114 (in_lit .i64 114 rfl) r5 hz8 r8 hr9) rfl fun a w hz13 hI hA => 
                        o_yes hA rfl rfl rfl <| ?_
                      obtain ⟨r9, hr10, H⟩ := bB H
                      refine o_callp (u := .bool r9) cf73 hA rfl hI (sargassosee_Same.c μ31 _ hI.agr r6.2 v10 (ErV.le (fun _ _ h => h) (hle23.trans hle27) hS23) r8 ⟨hz13.1, hz13.2.1, hz13.2.2⟩ (Gl.le ((((((hle1.trans hle9).trans hle15).trans hle16).trans hle22).trans hle23).trans hle27) hG) r9 hr10) rfl fun a w hz14 hI hA => 
                        stp hA (r_pick_t hA rfl rfl rfl) rfl fun a hA => 
                        stp hA (r_mv hA rfl) rfl fun a hA => ?_
                      rcases Bool.eq_false_or_eq_true r9 with hc11 | hc11
                      · have hc110 := hc11; have H := bT H hc11
                        refine o_yes hA rfl rfl hc110 <| 
                          stp hA (r_mv hA rfl) rfl fun a hA => 
                          o_yes hA rfl rfl hc110 <| ?_
                        obtain ⟨r10, hr11, H⟩ := bB H
                        refine o_callp (u := .bool r10) cf31 hA rfl hI (sargassosee_Is.c μ31 _ hI.agr r7.2 v13 hS30 102 (in_lit .i64 102 rfl) (Gl.le ((((((hle1.trans hle9).trans hle15).trans hle16).trans hle22).trans hle23).trans hle27) hG) r10 hr11) rfl fun a w hz15 hI hA => 
                          stp hA (r_pick_t hA rfl hc110 rfl) rfl fun a hA => 
                          stp hA (r_as hA rfl) rfl fun a hA => ?_
                        refine o_nil ?_
                        cases Option.some.inj (bS H)
                        exact ⟨hA.sub ⟨rfl, rfl, rfl, rfl, rfl, rfl, rfl, rfl, rfl, rfl, rfl, rfl, rfl, rfl, rfl, rfl, rfl, trivial⟩, hI⟩
                      · have hc110 := hc11; have hc11 := ft hc11; have H := bF H hc11
                        refine o_no hA rfl rfl (by rw [hc110]; simp [vb]) rfl fun a hA => 
                          o_no hA rfl rfl (by rw [hc110]; simp [vb]) rfl fun a hA => 
                          stp hA (r_pick_f hA rfl hc110 rfl) rfl fun a hA => 
                          stp hA (r_as hA rfl) rfl fun a hA => ?_
                        refine o_nil ?_
                        cases Option.some.inj (bS H)
                        exact ⟨hA.sub ⟨rfl, rfl, rfl, rfl, rfl, rfl, rfl, rfl, rfl, rfl, rfl, rfl, rfl, rfl, rfl, rfl, rfl, trivial⟩, hI⟩
                    · have hc100 := hc10; have hc10 := ft hc10; have H := bF H hc10
                      refine o_yes hA rfl rfl hc100 <| 
                        stp hA (r_mv hA rfl) rfl fun a hA => 
                        o_yes hA rfl rfl hc100 <| ?_
                      obtain ⟨r11, hr12, H⟩ := bB H
                      refine o_callp (u := .bool r11) cf31 hA rfl hI (sargassosee_Is.c μ31 _ hI.agr r4.2 v7 (ErV.le (fun _ _ h => h) (((hle16.trans hle22).trans hle23).trans hle27) hS15) 117 (in_lit .i64 117 rfl) (Gl.le ((((((hle1.trans hle9).trans hle15).trans hle16).trans hle22).trans hle23).trans hle27) hG) r11 hr12) rfl fun a w hz16 hI hA => 
                        o_yes hA rfl rfl hc90 <| 
                        stp hA (r_pick_f hA rfl hc100 rfl) rfl fun a hA => 
                        stp hA (r_pick_t hA rfl hc90 rfl) rfl fun a hA => 
                        stp hA (r_mv hA rfl) rfl fun a hA => ?_
                      rcases Bool.eq_false_or_eq_true r11 with hc12 | hc12
                      · have hc120 := hc12; have H := bT H hc12
                        refine o_yes hA rfl rfl hc120 <| 
                          stp hA (r_mv hA rfl) rfl fun a hA => 
                          o_yes hA rfl rfl hc120 <| 
                          stp hA (r_mv hA rfl) rfl fun a hA => 
                          o_yes hA rfl rfl hc120 <| ?_
                        obtain ⟨r12, hr13, H⟩ := bB H
                        refine o_callp (u := .agg [[.int .i64 r12.Code], [.bool r12.Placed], [.int .i64 r12.Pos], [.bool r12.Outer], [.int .i64 r12.At]].flatten.toArray) cf74 hA rfl hI (sargassoref_Placed.c μ31 _ hI.agr 114 (in_lit .i64 114 rfl) r5 hz8 r12 hr13) rfl fun a w hz17 hI hA => 
                          o_yes hA rfl rfl hc120 <| ?_
                        obtain ⟨r13, hr14, H⟩ := bB H
                        refine o_callp (u := .bool r13) cf73 hA rfl hI (sargassosee_Same.c μ31 _ hI.agr r6.2 v10 (ErV.le (fun _ _ h => h) (hle23.trans hle27) hS23) r12 ⟨hz17.1, hz17.2.1, hz17.2.2⟩ (Gl.le ((((((hle1.trans hle9).trans hle15).trans hle16).trans hle22).trans hle23).trans hle27) hG) r13 hr14) rfl fun a w hz18 hI hA => 
                          stp hA (r_pick_t hA rfl hc120 rfl) rfl fun a hA => 
                          stp hA (r_mv hA rfl) rfl fun a hA => ?_
                        rcases Bool.eq_false_or_eq_true r13 with hc13 | hc13
                        · have hc130 := hc13; have H := bT H hc13
                          refine o_yes hA rfl rfl hc130 <| 
                            stp hA (r_mv hA rfl) rfl fun a hA => 
                            o_yes hA rfl rfl hc130 <| ?_
                          obtain ⟨r14, hr15, H⟩ := bB H
                          refine o_callp (u := .bool r14) cf31 hA rfl hI (sargassosee_Is.c μ31 _ hI.agr r7.2 v13 hS30 102 (in_lit .i64 102 rfl) (Gl.le ((((((hle1.trans hle9).trans hle15).trans hle16).trans hle22).trans hle23).trans hle27) hG) r14 hr15) rfl fun a w hz19 hI hA => 
                            stp hA (r_pick_t hA rfl hc130 rfl) rfl fun a hA => 
                            stp hA (r_as hA rfl) rfl fun a hA => ?_
                          refine o_nil ?_
                          cases Option.some.inj (bS H)
                          exact ⟨hA.sub ⟨rfl, rfl, rfl, rfl, rfl, rfl, rfl, rfl, rfl, rfl, rfl, rfl, rfl, rfl, rfl, rfl, rfl, trivial⟩, hI⟩
                        · have hc130 := hc13; have hc13 := ft hc13; have H := bF H hc13
                          refine o_no hA rfl rfl (by rw [hc130]; simp [vb]) rfl fun a hA => 
                            o_no hA rfl rfl (by rw [hc130]; simp [vb]) rfl fun a hA => 
                            stp hA (r_pick_f hA rfl hc130 rfl) rfl fun a hA => 
                            stp hA (r_as hA rfl) rfl fun a hA => ?_
                          refine o_nil ?_
                          cases Option.some.inj (bS H)
                          exact ⟨hA.sub ⟨rfl, rfl, rfl, rfl, rfl, rfl, rfl, rfl, rfl, rfl, rfl, rfl, rfl, rfl, rfl, rfl, rfl, trivial⟩, hI⟩
                      · have hc120 := hc12; have hc12 := ft hc12; have H := bF H hc12
                        refine o_no hA rfl rfl (by rw [hc120]; simp [vb]) rfl fun a hA => 
                          o_no hA rfl rfl (by rw [hc120]; simp [vb]) rfl fun a hA => 
                          o_no hA rfl rfl (by rw [hc120]; simp [vb]) rfl fun a hA => 
                          o_no hA rfl rfl (by rw [hc120]; simp [vb]) rfl fun a hA => 
                          stp hA (r_pick_f hA rfl hc120 rfl) rfl fun a hA => 
                          stp hA (r_mv hA rfl) rfl fun a hA => 
                          o_no hA rfl rfl (by simp [vb]) rfl fun a hA => 
                          o_no hA rfl rfl (by simp [vb]) rfl fun a hA => 
                          stp hA (r_pick_f hA rfl rfl rfl) rfl fun a hA => 
                          stp hA (r_as hA rfl) rfl fun a hA => ?_
                        refine o_nil ?_
                        cases Option.some.inj (bS H)
                        exact ⟨hA.sub ⟨rfl, rfl, rfl, rfl, rfl, rfl, rfl, rfl, rfl, rfl, rfl, rfl, rfl, rfl, rfl, rfl, rfl, trivial⟩, hI⟩
                  · have hc90 := hc9; have hc9 := of_decide_eq_false hc9; have H := bF H hc9
                    refine o_no hA rfl rfl (by rw [hc90]; simp [vb]) rfl fun a hA => 
                      o_no hA rfl rfl (by rw [hc90]; simp [vb]) rfl fun a hA => 
                      o_no hA rfl rfl (by simp [vb, undef]) rfl fun a hA => 
                      o_no hA rfl rfl (by simp [vb, undef]) rfl fun a hA => 
                      o_no hA rfl rfl (by rw [hc90]; simp [vb]) rfl fun a hA => 
                      stp hA (r_pick_f hA rfl hc90 rfl) rfl fun a hA => 
                      stp hA (r_mv hA rfl) rfl fun a hA => 
                      o_no hA rfl rfl (by simp [vb]) rfl fun a hA => 
                      o_no hA rfl rfl (by simp [vb]) rfl fun a hA => 
                      o_no hA rfl rfl (by simp [vb]) rfl fun a hA => 
                      o_no hA rfl rfl (by simp [vb]) rfl fun a hA => 
                      stp hA (r_pick_f hA rfl rfl rfl) rfl fun a hA => 
                      stp hA (r_mv hA rfl) rfl fun a hA => 
                      o_no hA rfl rfl (by simp [vb]) rfl fun a hA => 
                      o_no hA rfl rfl (by simp [vb]) rfl fun a hA => 
                      stp hA (r_pick_f hA rfl rfl rfl) rfl fun a hA => 
                      stp hA (r_as hA rfl) rfl fun a hA => ?_
                    refine o_nil ?_
                    cases Option.some.inj (bS H)
                    exact ⟨hA.sub ⟨rfl, rfl, rfl, rfl, rfl, rfl, rfl, rfl, rfl, rfl, rfl, rfl, rfl, rfl, rfl, rfl, rfl, trivial⟩, hI⟩
                · have hc80 := hc8; have hc8 := of_decide_eq_false hc8; have H := bF H hc8
                  refine o_no hA rfl rfl (by rw [hc80]; simp [vb]) rfl fun a hA => 
                    o_no hA rfl rfl (by rw [hc80]; simp [vb]) rfl fun a hA => 
                    o_no hA rfl rfl (by rw [hc80]; simp [vb]) rfl fun a hA => 
                    stp hA (r_pick_f hA rfl hc80 rfl) rfl fun a hA => 
                    stp hA (r_mv hA rfl) rfl fun a hA => 
                    o_no hA rfl rfl (by simp [vb]) rfl fun a hA => 
                    o_no hA rfl rfl (by simp [vb]) rfl fun a hA => 
                    o_no hA rfl rfl (by simp [vb, undef]) rfl fun a hA => 
                    o_no hA rfl rfl (by simp [vb, undef]) rfl fun a hA => 
                    o_no hA rfl rfl (by simp [vb]) rfl fun a hA => 
                    stp hA (r_pick_f hA rfl rfl rfl) rfl fun a hA => 
                    stp hA (r_mv hA rfl) rfl fun a hA => 
                    o_no hA rfl rfl (by simp [vb]) rfl fun a hA => 
                    o_no hA rfl rfl (by simp [vb]) rfl fun a hA => 
                    o_no hA rfl rfl (by simp [vb]) rfl fun a hA => 
                    o_no hA rfl rfl (by simp [vb]) rfl fun a hA => 
                    stp hA (r_pick_f hA rfl rfl rfl) rfl fun a hA => 
                    stp hA (r_mv hA rfl) rfl fun a hA => 
                    o_no hA rfl rfl (by simp [vb]) rfl fun a hA => 
                    o_no hA rfl rfl (by simp [vb]) rfl fun a hA => 
                    stp hA (r_pick_f hA rfl rfl rfl) rfl fun a hA => 
                    stp hA (r_as hA rfl) rfl fun a hA => ?_
                  refine o_nil ?_
                  cases Option.some.inj (bS H)
                  exact ⟨hA.sub ⟨rfl, rfl, rfl, rfl, rfl, rfl, rfl, rfl, rfl, rfl, rfl, rfl, rfl, rfl, rfl, rfl, rfl, trivial⟩, hI⟩
              · have hc70 := hc7; have hc7 := ft hc7; have H := bF H hc7
                refine o_no hA rfl rfl (by rw [hc70]; simp [vb]) rfl fun a hA => 
                  o_no hA rfl rfl (by rw [hc70]; simp [vb]) rfl fun a hA => 
                  stp hA (r_pick_f hA rfl hc70 rfl) rfl fun a hA => 
                  stp hA (r_mv hA rfl) rfl fun a hA => 
                  o_no hA rfl rfl (by simp [vb]) rfl fun a hA => 
                  o_no hA rfl rfl (by simp [vb]) rfl fun a hA => 
                  o_no hA rfl rfl (by simp [vb]) rfl fun a hA => 
                  stp hA (r_pick_f hA rfl rfl rfl) rfl fun a hA => 
                  stp hA (r_mv hA rfl) rfl fun a hA => 
                  o_no hA rfl rfl (by simp [vb]) rfl fun a hA => 
                  o_no hA rfl rfl (by simp [vb]) rfl fun a hA => 
                  o_no hA rfl rfl (by simp [vb, undef]) rfl fun a hA => 
                  o_no hA rfl rfl (by simp [vb, undef]) rfl fun a hA => 
                  o_no hA rfl rfl (by simp [vb]) rfl fun a hA => 
                  stp hA (r_pick_f hA rfl rfl rfl) rfl fun a hA => 
                  stp hA (r_mv hA rfl) rfl fun a hA => 
                  o_no hA rfl rfl (by simp [vb]) rfl fun a hA => 
                  o_no hA rfl rfl (by simp [vb]) rfl fun a hA => 
                  o_no hA rfl rfl (by simp [vb]) rfl fun a hA => 
                  o_no hA rfl rfl (by simp [vb]) rfl fun a hA => 
                  stp hA (r_pick_f hA rfl rfl rfl) rfl fun a hA => 
                  stp hA (r_mv hA rfl) rfl fun a hA => 
                  o_no hA rfl rfl (by simp [vb]) rfl fun a hA => 
                  o_no hA rfl rfl (by simp [vb]) rfl fun a hA => 
                  stp hA (r_pick_f hA rfl rfl rfl) rfl fun a hA => 
                  stp hA (r_as hA rfl) rfl fun a hA => ?_
                refine o_nil ?_
                cases Option.some.inj (bS H)
                exact ⟨hA.sub ⟨rfl, rfl, rfl, rfl, rfl, rfl, rfl, rfl, rfl, rfl, rfl, rfl, rfl, rfl, rfl, rfl, rfl, trivial⟩, hI⟩
            · rintro a w ⟨hA, hI⟩
              have H := Hk5
              refine w_ret ?_
              obtain rfl := Option.some.inj (bS H)
              exact ret1 hA Tryd.results17 rfl ⟨_, rfl, rfl, trivial, hI.forget0⟩
end Go.Proofs.YtpeelghbhihgkaaDoor.T
namespace Go.Proofs.YtpeelghbhihgkaaDoor.T
open Go Go.Proofs Go.Proofs.YtpeelghbhihgkaaDoor.K
set_option linter.unusedVariables false
theorem w64 {x : Int} (h0 : -9223372036854775808 ≤ x) (h1 : x < 9223372036854775808) : IntKind.i64.wrap x = x := wrap_id ⟨h0, h1⟩
theorem wu64 {x : Int} (h0 : 0 ≤ x) (h1 : x < 18446744073709551616) : IntKind.u64.wrap x = x := wrap_id ⟨h0, h1⟩
theorem wu8 {x : Int} (h0 : 0 ≤ x) (h1 : x < 256) : IntKind.u8.wrap x = x := wrap_id ⟨h0, h1⟩
theorem number_eq {x n : Int} (hx : InR .i64 x) (h0 : 0 < n) (h1 : n < 9223372036854775808) : ∃ y, sargassoworld_Number.f x n = some y ∧ 0 ≤ y ∧ y < n := by
  obtain ⟨a, b⟩ := hx
  have hn : n ≠ 0 := by omega
  unfold sargassoworld_Number.f
  rw [if_pos hn]
  have hb : -n < Int.tmod x n ∧ Int.tmod x n < n := by
    rcases Int.le_total 0 x with h | h
    · rw [Int.tmod_eq_emod_of_nonneg h]; have := Int.emod_nonneg x hn; have := Int.emod_lt_of_pos x h0; omega
    · have e : Int.tmod x n = -(Int.tmod (-x) n) := by rw [Int.neg_tmod, Int.neg_neg]
      rw [e, Int.tmod_eq_emod_of_nonneg (by omega)]; have := Int.emod_nonneg (-x) hn; have := Int.emod_lt_of_pos (-x) h0; omega
  by_cases hc : Int.tmod x n < 0
  · rw [if_pos hc]
    exact ⟨_, rfl, by rw [w64 (by omega) (by omega)]; omega, by rw [w64 (by omega) (by omega)]; omega⟩
  · rw [if_neg hc]
    exact ⟨_, rfl, by omega, by omega⟩
end Go.Proofs.YtpeelghbhihgkaaDoor.T
namespace Go.Proofs.YtpeelghbhihgkaaDoor.T
open Go Go.Proofs Go.Proofs.YtpeelghbhihgkaaDoor.K
set_option linter.unusedVariables false
set_option linter.unusedSimpArgs false
theorem loop_idx {τ ρ : Type} {step : τ → Option (τ ⊕ ρ)} (st : Nat → τ) (n : Nat) (h : ∀ i, i < n → step (st i) = some (.inl (st (i + 1)))) : loopO step (st 0) = loopO step (st n) := by
  induction n with
  | zero => rfl
  | succ n ih => rw [ih (fun i hi => h i (by omega)), loopO_inl (h n (by omega))]
theorem loop_run {τ ρ : Type} {step : τ → Option (τ ⊕ ρ)} (st : Nat → τ) (n : Nat) {r : ρ} {s : τ} (h0 : s = st 0) (h : ∀ i, i < n → step (st i) = some (.inl (st (i + 1)))) (hn : step (st n) = some (.inr r)) : loopO step s = some r := by
  rw [h0, loop_idx st n h, loopO_inr hn]
theorem bv_nat (n a : Nat) (h : a < 2 ^ n) : (BitVec.ofInt n (a : Int)).toNat = a := by
  rw [BitVec.toNat_ofInt]
  have : ((a : Int) % ((2 ^ n : Nat) : Int)) = a := Int.emod_eq_of_lt (by omega) (by exact_mod_cast h)
  rw [this]
  rfl
theorem in_u (k : IntKind) (hk : k.signed = false) {a : Nat} (h : a < 2 ^ k.bits) : InR k (a : Int) := by
  cases k <;> simp [IntKind.signed] at hk <;> simp [IntKind.bits] at h <;> simp [InR] <;> omega
theorem bAnd_nat (k : IntKind) (hk : k.signed = false) {a b : Nat} (ha : a < 2 ^ k.bits) (hb : b < 2 ^ k.bits) : bAnd k a b = ((a &&& b : Nat) : Int) := by
  unfold bAnd
  rw [BitVec.toNat_and, bv_nat _ _ ha, bv_nat _ _ hb]
  exact wrap_id (in_u k hk (Nat.lt_of_le_of_lt Nat.and_le_left ha))
theorem and_low (n i : Nat) : n &&& (2 ^ i - 1) = n % 2 ^ i := Nat.and_two_pow_sub_one_eq_mod n i
end Go.Proofs.YtpeelghbhihgkaaDoor.T
namespace Go.Proofs.YtpeelghbhihgkaaDoor.T
open Go Go.Proofs Go.Proofs.YtpeelghbhihgkaaDoor.K
set_option linter.unusedVariables false
set_option linter.unusedSimpArgs false
def rotr (x n : Int) : Int := bOr .u32 (sR .u32 x n) (sL .u32 x (32 - n))
def wordAt (b : List Int) (p : Nat) : Int :=
  bOr .u32 (bOr .u32 (bOr .u32 (sL .u32 (IntKind.u32.wrap (b.getD p 0)) 24) (sL .u32 (IntKind.u32.wrap (b.getD (p + 1) 0)) 16)) (sL .u32 (IntKind.u32.wrap (b.getD (p + 2) 0)) 8)) (IntKind.u32.wrap (b.getD (p + 3) 0))
def sg0 (y : Int) : Int := bXor .u32 (bXor .u32 (rotr y 7) (rotr y 18)) (sR .u32 y 3)
def sg1 (x : Int) : Int := bXor .u32 (bXor .u32 (rotr x 17) (rotr x 19)) (sR .u32 x 10)
def schedVal (b : List Int) (p : Nat) (w : List Int) (t : Nat) : Int :=
  if t < 16 then wordAt b (p + 4 * t) else IntKind.u32.wrap (w.getD (t - 16) 0 + sg0 (w.getD (t - 15) 0) + w.getD (t - 7) 0 + sg1 (w.getD (t - 2) 0))
def schedR (b : List Int) (p : Nat) : Nat → List Int
  | 0 => List.replicate 64 0
  | t + 1 => (fun w => w.set t (schedVal b p w t)) (schedR b p t)
def kc : List Int := digest_keys.lit0
def rt1 (x : List Int) (k w : Int) : Int := IntKind.u32.wrap (x.getD 7 0 + bXor .u32 (bXor .u32 (rotr (x.getD 4 0) 6) (rotr (x.getD 4 0) 11)) (rotr (x.getD 4 0) 25) + bXor .u32 (bAnd .u32 (x.getD 4 0) (x.getD 5 0)) (bAnd .u32 (bNot .u32 (x.getD 4 0)) (x.getD 6 0)) + k + w)
def rt2 (x : List Int) : Int := bXor .u32 (bXor .u32 (rotr (x.getD 0 0) 2) (rotr (x.getD 0 0) 13)) (rotr (x.getD 0 0) 22) + bXor .u32 (bXor .u32 (bAnd .u32 (x.getD 0 0) (x.getD 1 0)) (bAnd .u32 (x.getD 0 0) (x.getD 2 0))) (bAnd .u32 (x.getD 1 0) (x.getD 2 0))
def rstep (x : List Int) (k w : Int) : List Int :=
  [IntKind.u32.wrap (rt1 x k w + rt2 x), x.getD 0 0, x.getD 1 0, x.getD 2 0, IntKind.u32.wrap (x.getD 3 0 + rt1 x k w), x.getD 4 0, x.getD 5 0, x.getD 6 0]
def roundR (w s : List Int) : Nat → List Int
  | 0 => s
  | t + 1 => rstep (roundR w s t) (kc.getD t 0) (w.getD t 0)
def addR (x s : List Int) : Nat → List Int
  | 0 => s
  | i + 1 => (fun z => z.set i (IntKind.u32.wrap (z.getD i 0 + x.getD i 0))) (addR x s i)
def mixV (s b : List Int) (p : Nat) : List Int := addR (roundR (schedR b p 64) s 64) s 8
def blocksR (m s : List Int) : Nat → List Int
  | 0 => s
  | n + 1 => mixV (blocksR m s n) m (64 * n)
def iv0 : List Int := [1779033703, 3144134277, 1013904242, 2773480762, 1359893119, 2600822924, 528734635, 1541459225]
def outB (s : List Int) (i : Nat) : Int := IntKind.u8.wrap (sR .u32 (s.getD (i / 4) 0) (24 - 8 * ((i % 4 : Nat) : Int)))
def outL (s : List Int) : List Int := (List.range 32).map (outB s)
def zs (n : Nat) : Nat := (120 - n % 64) % 64
def lenB (n i : Nat) : Int := IntKind.u8.wrap (sR .u64 (IntKind.u64.wrap (8 * (n : Int))) (8 * (7 - (i : Int))))
def padR (m : List Int) : List Int := m ++ ([128] ++ (List.replicate (zs (m.length + 1)) 0 ++ (List.range 8).map (lenB m.length)))
def sha (m : List Int) : List Int := outL (blocksR (padR m) iv0 ((padR m).length / 64))
end Go.Proofs.YtpeelghbhihgkaaDoor.T
namespace Go.Proofs.YtpeelghbhihgkaaDoor.T
open Go Go.Proofs Go.Proofs.YtpeelghbhihgkaaDoor.K
set_option linter.unusedVariables false
set_option linter.unusedSimpArgs false
theorem u32e (x : Int) : IntKind.u32.wrap x = x % 4294967296 := by simp [IntKind.wrap, IntKind.signed, IntKind.bits]
theorem wl (a b : Int) : IntKind.u32.wrap (IntKind.u32.wrap a + b) = IntKind.u32.wrap (a + b) := by simp only [u32e]; omega
theorem wr (a b : Int) : IntKind.u32.wrap (a + IntKind.u32.wrap b) = IntKind.u32.wrap (a + b) := by simp only [u32e]; omega
theorem bOr_comm (k : IntKind) (a b : Int) : bOr k a b = bOr k b a := by unfold bOr; rw [BitVec.or_comm]
theorem right_f (x n : Int) (h0 : 0 ≤ n) (h1 : n ≤ 32) : sargassoref1_right.f x n = some (rotr x n) := by
  simp only [sargassoref1_right.f, rotr]
  rw [wu64 (x := 32 - n) (by omega) (by omega), if_pos h0, if_pos (by omega)]
theorem turn_f (x n : Int) (h0 : 0 < n) (h1 : n < 32) : digest_turn.f x n = some (rotr x n) := by
  simp only [digest_turn.f, math_bits_RotateLeft32.f, rotr]
  have e1 : IntKind.i64.wrap (0 - n) = -n := by rw [w64 (by omega) (by omega)]; omega
  have e2 : IntKind.u64.wrap (-n) = 18446744073709551616 - n := by
    simp [IntKind.wrap, IntKind.signed, IntKind.bits]
    omega
  obtain ⟨m, rfl⟩ : ∃ m : Nat, n = m := ⟨n.toNat, by omega⟩
  have e3 : bAnd .u64 (18446744073709551616 - (m : Int)) 31 = 32 - (m : Int) := by
    have h := bAnd_nat .u64 rfl (a := 18446744073709551616 - m) (b := 31) (by simp [IntKind.bits]; omega) (by simp [IntKind.bits])
    have e : ((18446744073709551616 - m : Nat) : Int) = 18446744073709551616 - (m : Int) := by omega
    rw [e] at h
    have h' : (18446744073709551616 - m) &&& 31 = (18446744073709551616 - m) % 32 := and_low _ 5
    rw [h'] at h
    rw [show ((31 : Nat) : Int) = 31 from rfl] at h
    rw [h]
    omega
  rw [e1, e2, e3, wu64 (x := 32 - (32 - (m : Int))) (by omega) (by omega), if_pos (by omega), if_pos (by omega)]
  have e4 : 32 - (32 - (m : Int)) = m := by omega
  rw [e4, bOr_comm]
  rfl
theorem schedR_len (b : List Int) (p t : Nat) : (schedR b p t).length = 64 := by
  induction t with
  | zero => simp [schedR]
  | succ t ih => simp [schedR, ih]
theorem getD_drop' (l : List Int) (a i : Nat) : (l.drop a).getD i 0 = l.getD (a + i) 0 := by simp [List.getD]
theorem getD_take' (l : List Int) (a i : Nat) (h : i < a) : (l.take a).getD i 0 = l.getD i 0 := by simp [List.getD, h]
theorem wsub (i c : Nat) (hc : c ≤ i) (hi : i < 1000) : IntKind.i64.wrap ((i : Int) - (c : Nat)) = ((i - c : Nat) : Int) := by
  rw [w64 (by omega) (by omega)]; omega
theorem wadd1 (i : Nat) (hi : i < 9223372036854775807) : IntKind.i64.wrap ((i : Int) + 1) = ((i + 1 : Nat) : Int) := by
  rw [w64 (by omega) (by omega)]; omega
theorem wmul4 (i : Nat) (hi : i < 1000) : IntKind.i64.wrap (4 * (i : Int)) = ((4 * i : Nat) : Int) := by
  rw [w64 (by omega) (by omega)]; omega
theorem spread_step (b : List Int) (h : b.length = 64) (w : List Int) (i : Nat) (hi : i < 64) : digest_spread.s0 b ((i : Int), w) = some (.inl (((i + 1 : Nat) : Int), w.set i (schedVal b 0 w i))) := by
  simp only [digest_spread.s0]
  rw [if_pos (by omega)]
  by_cases h16 : i < 16
  · have hl : (b.take ((b.length : Int)).toNat).drop (IntKind.i64.wrap (4 * (i : Int))).toNat = b.drop (4 * i) := by
      rw [wmul4 i (by omega), Int.toNat_natCast, Int.toNat_natCast, List.take_length]
    have hll : (b.drop (4 * i)).length = 64 - 4 * i := by simp [h]
    rw [if_pos (by omega), hl, hll, wmul4 i (by omega), if_pos (by omega), if_pos (by omega), if_pos (by omega), if_pos (by omega), if_pos (by omega), if_pos (by omega)]
    simp only [Option.bind_some, getD_drop', Int.toNat_natCast]
    rw [wadd1 i (by omega)]
    simp only [schedVal, if_pos h16, wordAt, Nat.zero_add]
    rfl
  · have e2 := wsub i 2 (by omega) (by omega)
    have e7 := wsub i 7 (by omega) (by omega)
    have e15 := wsub i 15 (by omega) (by omega)
    have e16 := wsub i 16 (by omega) (by omega)
    simp only [show ((2 : Nat) : Int) = 2 from rfl, show ((7 : Nat) : Int) = 7 from rfl, show ((15 : Nat) : Int) = 15 from rfl, show ((16 : Nat) : Int) = 16 from rfl] at e2 e7 e15 e16
    rw [if_neg (by omega), e2, e7, e15, e16, if_pos (by omega), if_pos (by omega), if_pos (by omega), if_pos (by omega)]
    simp only [Int.toNat_natCast, turn_f _ 17 (by omega) (by omega), turn_f _ 19 (by omega) (by omega), turn_f _ 7 (by omega) (by omega), turn_f _ 18 (by omega) (by omega), Option.bind_some]
    rw [if_pos (by omega), wadd1 i (by omega)]
    simp only [Option.bind_some, schedVal, if_neg h16, sg0, sg1]
    congr 4
    simp only [wl, wr]
    congr 1
    omega
theorem spread_eq (b : List Int) (h : b.length = 64) : digest_spread.f b = some (schedR b 0 64) := by
  simp only [digest_spread.f]
  have e := loop_run (step := digest_spread.s0 b) (s := (0, List.replicate 64 0)) (fun i => ((i : Int), schedR b 0 i)) 64 (r := schedR b 0 64) rfl (fun i hi => by
    rw [spread_step b h _ i hi]
    rfl) (by simp only [digest_spread.s0]; rw [if_neg (by decide)])
  rw [e]
  rfl
theorem mix0_step (w x : List Int) (i : Nat) (hi : i < 64) : digest_mix.s0 w digest_keys.lit0 ((i : Int), x) = some (.inl (((i + 1 : Nat) : Int), rstep x (kc.getD i 0) (w.getD i 0))) := by
  simp only [digest_mix.s0]
  rw [if_pos (by omega)]
  simp only [turn_f _ 6 (by omega) (by omega), turn_f _ 11 (by omega) (by omega), turn_f _ 25 (by omega) (by omega), turn_f _ 2 (by omega) (by omega), turn_f _ 13 (by omega) (by omega), turn_f _ 22 (by omega) (by omega), Option.bind_some, Int.toNat_natCast]
  rw [if_pos (by omega), wadd1 i (by omega)]
  simp only [rstep, rt1, rt2, kc, wl, wr, show (0 : Int).toNat = 0 from rfl, show (1 : Int).toNat = 1 from rfl, show (2 : Int).toNat = 2 from rfl, show (3 : Int).toNat = 3 from rfl, show (4 : Int).toNat = 4 from rfl, show (5 : Int).toNat = 5 from rfl, show (6 : Int).toNat = 6 from rfl, show (7 : Int).toNat = 7 from rfl]
theorem mix_eq (s b : List Int) (h : b.length = 64) : digest_mix.f s b = some (mixV s b 0) := by
  simp only [digest_mix.f, spread_eq b h, digest_keys.f, Option.bind_some]
  have e := loop_run (step := digest_mix.s0 (schedR b 0 64) digest_keys.lit0) (s := (0, s)) (fun i => ((i : Int), roundR (schedR b 0 64) s i)) 64 (r := roundR (schedR b 0 64) s 64) rfl (fun i hi => by
    rw [mix0_step _ _ i hi]
    rfl) (by simp only [digest_mix.s0]; rw [if_neg (by decide)])
  rw [e]
  simp only [Option.bind_some]
  have e := loop_run (step := digest_mix.s1 (roundR (schedR b 0 64) s 64)) (s := (0, s)) (fun i => ((i : Int), addR (roundR (schedR b 0 64) s 64) s i)) 8 (r := mixV s b 0) rfl (fun i hi => by
    simp only [digest_mix.s1]
    rw [if_pos (by omega), if_pos (by omega), wadd1 i (by omega)]
    simp only [Int.toNat_natCast, addR]) (by simp only [digest_mix.s1]; rw [if_neg (by decide)]; rfl)
  rw [e]
  rfl
theorem wordAt_in (m : List Int) (a n t : Nat) (h : t < 16) : wordAt ((m.take (a + 64)).drop a) (4 * t) = wordAt m (a + 4 * t) := by
  have e : ∀ j, j < 64 → ((m.take (a + 64)).drop a).getD j 0 = m.getD (a + j) 0 := fun j hj => by
    rw [getD_drop', getD_take' _ _ _ (by omega)]
  simp only [wordAt]
  rw [e _ (by omega), e _ (by omega), e _ (by omega), e _ (by omega)]
  simp only [Nat.add_assoc]
theorem schedR_in (m : List Int) (a t : Nat) : schedR ((m.take (a + 64)).drop a) 0 t = schedR m a t := by
  induction t with
  | zero => rfl
  | succ t ih =>
    simp only [schedR, ih]
    congr 1
    simp only [schedVal]
    by_cases h : t < 16
    · simp only [if_pos h, Nat.zero_add]
      exact wordAt_in m a 0 t h
    · simp only [if_neg h]
theorem mixV_in (s m : List Int) (a : Nat) : mixV s ((m.take (a + 64)).drop a) 0 = mixV s m a := by
  simp only [mixV, schedR_in]
theorem wordAt_app (m l : List Int) (p : Nat) (h : p + 3 < m.length) : wordAt (m ++ l) p = wordAt m p := by
  have e : ∀ j, j < m.length → (m ++ l).getD j 0 = m.getD j 0 := fun j hj => by simp [List.getD, List.getElem?_append_left hj]
  simp only [wordAt]
  rw [e _ (by omega), e _ (by omega), e _ (by omega), e _ (by omega)]
theorem schedR_app (m l : List Int) (p t : Nat) (h : p + 64 ≤ m.length) : schedR (m ++ l) p t = schedR m p t := by
  induction t with
  | zero => rfl
  | succ t ih =>
    simp only [schedR, ih]
    congr 1
    simp only [schedVal]
    by_cases h : t < 16
    · simp only [if_pos h]
      exact wordAt_app m l _ (by omega)
    · simp only [if_neg h]
theorem blocksR_app (m l s : List Int) (n : Nat) (h : 64 * n ≤ m.length) : blocksR (m ++ l) s n = blocksR m s n := by
  induction n with
  | zero => rfl
  | succ n ih =>
    simp only [blocksR, ih (by omega), mixV]
    rw [schedR_app _ _ _ _ (by omega)]
theorem mixV_drop (s m : List Int) (q a : Nat) : mixV s (m.drop q) a = mixV s m (q + a) := by
  have hw : ∀ p, wordAt (m.drop q) p = wordAt m (q + p) := fun p => by
    simp only [wordAt, getD_drop', Nat.add_assoc]
  have hs : ∀ t, schedR (m.drop q) a t = schedR m (q + a) t := fun t => by
    induction t with
    | zero => rfl
    | succ t ih =>
      simp only [schedR, ih]
      congr 1
      simp only [schedVal, hw, Nat.add_assoc]
  simp only [mixV, hs]
theorem addR_len (x s : List Int) (i : Nat) : (addR x s i).length = s.length := by
  induction i with
  | zero => rfl
  | succ i ih => simp [addR, ih]
theorem mixV_len (s m : List Int) (a : Nat) : (mixV s m a).length = s.length := addR_len _ _ _
theorem blocksR_len (m s : List Int) (n : Nat) : (blocksR m s n).length = s.length := by
  induction n with
  | zero => rfl
  | succ n ih => rw [blocksR, mixV_len, ih]
end Go.Proofs.YtpeelghbhihgkaaDoor.T
namespace Go.Proofs.YtpeelghbhihgkaaDoor.T
open Go Go.Proofs Go.Proofs.YtpeelghbhihgkaaDoor.K
set_option linter.unusedVariables false
set_option linter.unusedSimpArgs false
def WIn (w : digestWriter) (m : List Int) : Prop := w.n = m.length ∧ w.rest = m.drop (64 * (m.length / 64)) ∧ (64 ≤ m.length → w.s = blocksR m iv0 (m.length / 64))
theorem clone_eq (xs : List Int) (h : xs.length ≤ 140737488355328) : bytes_Clone.f xs = some xs := by
  unfold bytes_Clone.f
  rw [if_pos h]
theorem state_eq {w : digestWriter} {m : List Int} (h : WIn w m) : digest_Writer_state.f w = some (blocksR m iv0 (m.length / 64)) := by
  obtain ⟨h1, h2, h3⟩ := h
  simp only [digest_Writer_state.f, digest_begin.f, Option.bind_some, h1]
  by_cases hc : m.length < 64
  · rw [if_pos (by omega), Nat.div_eq_of_lt hc]
    rfl
  · rw [if_neg (by omega), h3 (by omega)]
theorem write_eq {w : digestWriter} {m b : List Int} (h : WIn w m) (hb : m.length + b.length ≤ 1000000) : ∃ w', digest_Writer_Write.f w b = some w' ∧ WIn w' (m ++ b) := by
  have hs := state_eq h
  obtain ⟨h1, h2, h3⟩ := h
  generalize hq : m.length / 64 = q at hs h2
  have hq1 : 64 * q ≤ m.length := by omega
  have hR : w.rest ++ b = (m ++ b).drop (64 * q) := by rw [h2, List.drop_append_of_le_length hq1]
  have hRl : (w.rest ++ b).length = m.length + b.length - 64 * q := by rw [hR]; simp
  generalize hRe : w.rest ++ b = R at hR hRl
  generalize hc : R.length / 64 = c
  have hloop : loopO digest_Writer_Write.s0 (0, blocksR m iv0 q, R) = some (((64 * c : Nat) : Int), blocksR (m ++ b) iv0 (q + c), R) := by
    refine loop_run (fun i => (((64 * i : Nat) : Int), blocksR (m ++ b) iv0 (q + i), R)) c ?_ (fun i hi => ?_) ?_
    · rw [Nat.add_zero, blocksR_app _ _ _ _ hq1]; rfl
    · simp only [digest_Writer_Write.s0]
      have e : IntKind.i64.wrap (((64 * i : Nat) : Int) + 64) = ((64 * i + 64 : Nat) : Int) := by rw [w64 (by omega) (by omega)]; omega
      rw [e, if_pos (by omega), if_pos (by omega), Int.toNat_natCast, Int.toNat_natCast, mix_eq _ _ (by simp; omega)]
      simp only [Option.bind_some]
      rw [mixV_in, hR, mixV_drop, ← Nat.mul_add]
      rfl
    · simp only [digest_Writer_Write.s0]
      rw [w64 (by omega) (by omega), if_neg (by omega)]
  refine ⟨⟨blocksR (m ++ b) iv0 (q + c), R.drop (64 * c), m.length + b.length⟩, ?_, by simp, ?_, fun _ => ?_⟩
  · simp only [digest_Writer_Write.f]
    have hs' : digest_Writer_state.f ⟨w.s, w.rest, w.n⟩ = some (blocksR m iv0 q) := hs
    have hw : w.rest.length + b.length = R.length := by rw [← hRe, List.length_append]
    rw [hs', hRe, hw]
    simp only [Option.bind_some]
    rw [if_pos (by omega), hloop]
    simp only [Option.bind_some]
    rw [if_pos (by omega), Int.toNat_natCast, Int.toNat_natCast, List.take_length, clone_eq _ (by simp; omega)]
    simp only [Option.bind_some]
    rw [h1, w64 (by omega) (by omega)]
  · have : 64 * ((m ++ b).length / 64) = 64 * q + 64 * c := by rw [List.length_append]; omega
    rw [this, hR, List.drop_drop]
  · have : (m ++ b).length / 64 = q + c := by rw [List.length_append]; omega
    rw [this]
theorem set_next {α : Type} (f : Nat → α) (n j : Nat) (z : α) (h : j < n) : ((List.range j).map f ++ List.replicate (n - j) z).set j (f j) = (List.range (j + 1)).map f ++ List.replicate (n - (j + 1)) z := by
  obtain ⟨k, hk⟩ : ∃ k, n - j = k + 1 := ⟨n - j - 1, by omega⟩
  have hk' : n - (j + 1) = k := by omega
  rw [hk, hk', List.set_append_right _ _ (by simp), List.range_succ, List.map_append, List.append_assoc]
  simp [List.replicate_succ]
theorem zeros_loop (step : List Int → Option (List Int ⊕ List Int)) (hs : ∀ l, step l = (if (Int.tmod (l.length : Int) 64) ≠ 56 then (if l.length + 1 ≤ 140737488355328 then some (.inl (l ++ ([0] : List Int))) else none) else some (.inr l)))
    (l : List Int) (h : l.length ≤ 2000000) : loopO step l = some (l ++ List.replicate (zs l.length) 0) := by
  refine loop_run (fun i => l ++ List.replicate i 0) (zs l.length) (by simp) (fun i hi => ?_) ?_
  · rw [hs, if_pos ?_, if_pos (by simp [zs] at hi ⊢; omega)]
    · simp [List.replicate_succ', List.append_assoc]
    · rw [List.length_append, List.length_replicate, Int.tmod_eq_emod_of_nonneg (by omega)]
      simp only [zs] at hi
      omega
  · rw [hs, if_neg ?_]
    rw [List.length_append, List.length_replicate, Int.tmod_eq_emod_of_nonneg (by omega)]
    simp only [zs]
    omega
theorem range_map_succ {α : Type} (f : Nat → α) (i : Nat) : (List.range (i + 1)).map f = (List.range i).map f ++ [f i] := by rw [List.range_succ, List.map_append]; rfl
theorem lenB_digest (n i : Nat) (hn : n ≤ 1000000) (hi : i < 8) : IntKind.u8.wrap (sR .u64 (sL .u64 (IntKind.u64.wrap (n : Int)) 3) (IntKind.i64.wrap (8 * (7 - (i : Int))))) = lenB n i := by
  have e1 : sL .u64 (IntKind.u64.wrap (n : Int)) 3 = IntKind.u64.wrap (8 * (n : Int)) := by
    rw [wu64 (by omega) (by omega)]
    simp only [sL, show (3 : Int).toNat = 3 from rfl]
    rw [show ((2 : Int) ^ (min 3 IntKind.u64.bits)) = 8 from rfl, Int.mul_comm]
  rw [e1, w64 (by omega) (by omega)]
  rfl
theorem padR_len (m : List Int) : (padR m).length = m.length + 1 + zs (m.length + 1) + 8 := by
  simp [padR]; omega
theorem padR_mod (m : List Int) : (padR m).length % 64 = 0 := by
  rw [padR_len]; simp only [zs]; omega
theorem out_eq4 (s : List Int) (i : Nat) (hi : i < 8) : loopO (digest_Writer_Sum.s4 s (i : Int)) (0, (List.range (4 * i)).map (outB s) ++ List.replicate (32 - 4 * i) 0) = some ((List.range (4 * (i + 1))).map (outB s) ++ List.replicate (32 - 4 * (i + 1)) 0) := by
  refine loop_run (fun k => ((k : Int), (List.range (4 * i + k)).map (outB s) ++ List.replicate (32 - (4 * i + k)) 0)) 4 (by simp) (fun k hk => ?_) ?_
  · simp only [digest_Writer_Sum.s4]
    have e1 : IntKind.i64.wrap (24 - IntKind.i64.wrap (8 * (k : Int))) = 24 - 8 * (k : Int) := by
      rw [w64 (x := 8 * (k : Int)) (by omega) (by omega), w64 (by omega) (by omega)]
    have e2 : IntKind.i64.wrap (IntKind.i64.wrap (4 * (i : Int)) + (k : Int)) = ((4 * i + k : Nat) : Int) := by
      rw [w64 (x := 4 * (i : Int)) (by omega) (by omega), w64 (by omega) (by omega)]; omega
    rw [if_pos (by omega), e1, e2, if_pos (by omega), if_pos (by omega), wadd1 k (by omega), Int.toNat_natCast, Int.toNat_natCast]
    have e3 : IntKind.u8.wrap (sR .u32 (s.getD i 0) (24 - 8 * (k : Int))) = outB s (4 * i + k) := by
      have a1 : (4 * i + k) / 4 = i := by omega
      have a2 : (4 * i + k) % 4 = k := by omega
      simp only [outB, a1, a2]
    rw [e3, set_next _ _ _ _ (by omega)]
    rfl
  · simp only [digest_Writer_Sum.s4]
    rw [if_neg (by decide)]
    rfl
theorem out_eq (s : List Int) : loopO (digest_Writer_Sum.s3 s) (0, List.replicate 32 0) = some (outL s) := by
  refine loop_run (fun i => ((i : Int), (List.range (4 * i)).map (outB s) ++ List.replicate (32 - 4 * i) 0)) 8 (by simp) (fun i hi => ?_) ?_
  · simp only [digest_Writer_Sum.s3]
    rw [if_pos (by omega), if_pos (by omega), out_eq4 s i hi]
    simp only [Option.bind_some]
    rw [wadd1 i (by omega)]
  · simp only [digest_Writer_Sum.s3]
    rw [if_neg (by decide)]
    rfl
theorem sum_eq' {w : digestWriter} {m : List Int} (h : WIn w m) (hb : m.length ≤ 1000000) : digest_Writer_Sum.f w = some (sha m) := by
  have hs := state_eq h
  obtain ⟨h1, h2, h3⟩ := h
  generalize hq : m.length / 64 = q at hs h2
  have hq1 : 64 * q ≤ m.length := by omega
  have hrl : w.rest.length = m.length - 64 * q := by rw [h2]; simp
  have hz : zs (w.rest ++ [128]).length = zs (m.length + 1) := by simp only [List.length_append, hrl, zs, List.length_cons, List.length_nil]; omega
  have hz64 : zs (m.length + 1) < 64 := by simp only [zs]; omega
  have hC : w.rest ++ [128] ++ List.replicate (zs (m.length + 1)) 0 ++ (List.range 8).map (lenB m.length) = (padR m).drop (64 * q) := by
    rw [h2, padR, List.drop_append_of_le_length hq1]
    simp only [List.append_assoc]
  have hl1 : loopO (digest_Writer_Sum.s1 w) (w.rest ++ [128] ++ List.replicate (zs (m.length + 1)) 0, 7) = some ((padR m).drop (64 * q)) := by
    refine loop_run (fun i => (w.rest ++ [128] ++ List.replicate (zs (m.length + 1)) 0 ++ (List.range i).map (lenB m.length), 7 - (i : Int))) 8 (by simp) (fun i hi => ?_) ?_
    · simp only [digest_Writer_Sum.s1]
      rw [if_pos (by omega), if_pos (by rw [w64 (by omega) (by omega)]; omega), if_pos (by simp; omega), h1, lenB_digest _ _ hb hi, w64 (by omega) (by omega)]
      congr 2
      rw [range_map_succ, ← List.append_assoc]
      congr 1
      omega
    · simp only [digest_Writer_Sum.s1]
      rw [if_neg (by decide), hC]
  have hpl := padR_len m
  have hpm := padR_mod m
  have hCl : ((padR m).drop (64 * q)).length = (padR m).length - 64 * q := by simp
  generalize hc : ((padR m).drop (64 * q)).length / 64 = c at *
  have hl2 : loopO digest_Writer_Sum.s2 ((padR m).drop (64 * q), 0, blocksR m iv0 q) = some ((padR m).drop (64 * q), blocksR (padR m) iv0 (q + c)) := by
    refine loop_run (fun i => ((padR m).drop (64 * q), ((64 * i : Nat) : Int), blocksR (padR m) iv0 (q + i))) c ?_ (fun i hi => ?_) ?_
    · rw [Nat.add_zero]
      have : blocksR (padR m) iv0 q = blocksR m iv0 q := blocksR_app _ _ _ _ hq1
      rw [this]; rfl
    · simp only [digest_Writer_Sum.s2]
      have e : IntKind.i64.wrap (((64 * i : Nat) : Int) + 64) = ((64 * i + 64 : Nat) : Int) := by rw [w64 (by omega) (by omega)]; omega
      rw [if_pos (by omega), e, if_pos (by omega), Int.toNat_natCast, Int.toNat_natCast, mix_eq _ _ (by simp; omega)]
      simp only [Option.bind_some]
      rw [mixV_in, mixV_drop, ← Nat.mul_add]
      rfl
    · simp only [digest_Writer_Sum.s2]
      rw [if_neg (by omega)]
  simp only [digest_Writer_Sum.f]
  have hs' : digest_Writer_state.f ⟨w.s, w.rest, w.n⟩ = some (blocksR m iv0 q) := hs
  rw [clone_eq _ (by omega)]
  simp only [Option.bind_some]
  rw [if_pos (by omega), zeros_loop digest_Writer_Sum.s0 (fun l => rfl) _ (by simp; omega), hz]
  simp only [Option.bind_some]
  rw [hl1]
  simp only [Option.bind_some]
  rw [hs']
  simp only [Option.bind_some]
  rw [hl2]
  simp only [Option.bind_some]
  rw [out_eq]
  simp only [Option.bind_some, sha]
  congr 3
  omega
theorem wIn0 (s : List Int) : WIn ⟨s, [], 0⟩ [] := ⟨rfl, rfl, fun h => by simp at h⟩
theorem sha_eq (m : List Int) (hb : m.length ≤ 1000000) : digest_Sha.f m = some (sha m) := by
  obtain ⟨w', e, hw⟩ := write_eq (wIn0 (List.replicate 8 0)) (b := m) (by simpa using hb)
  simp only [digest_Sha.f, e, Option.bind_some]
  have : digest_Writer_Sum.f ⟨w'.s, w'.rest, w'.n⟩ = some (sha m) := sum_eq' hw (by simpa using hb)
  rw [this]
  rfl
end Go.Proofs.YtpeelghbhihgkaaDoor.T
namespace Go.Proofs.YtpeelghbhihgkaaDoor.T
open Go Go.Proofs Go.Proofs.YtpeelghbhihgkaaDoor.K
set_option linter.unusedVariables false
set_option linter.unusedSimpArgs false
theorem els_all {α : Type} {RE : α → List Value → Prop} {sz : Nat} {xs : List α} {cs : List Value} {Q : α → Prop} (h : Els RE sz xs cs) (f : ∀ x c, RE x c → Q x) : ∀ x ∈ xs, Q x := by
  induction h with
  | nil => simp
  | cons h _ _ ih =>
    intro y hy
    rcases List.mem_cons.1 hy with rfl | hy
    · exact f _ _ h
    · exact ih y hy
theorem slc_ints {k : IntKind} {μ : Store} {v : Value} {xs : List Int} (h : Slc (RI k) 1 μ v xs) : ∀ x ∈ xs, InR k x := by
  obtain ⟨cs, he, _⟩ := h
  exact els_all he fun x c hc => hc.2
theorem getD_mid {α : Type} (pre r : List α) (x d : α) : (pre ++ x :: r).getD ((pre.length : Int).toNat) d = x := by
  simp [List.getD]
theorem mid_lt {α : Type} (pre r : List α) (x : α) : 0 ≤ (pre.length : Int) ∧ (pre.length : Int) < ((pre ++ x :: r).length : Int) := by
  simp; omega
theorem mid_next {α : Type} (pre r : List α) (x : α) (h : (pre ++ x :: r).length ≤ 140737488355328) : IntKind.i64.wrap ((pre.length : Int) + 1) = ((pre ++ [x]).length : Int) := by
  simp at h
  rw [w64 (by omega) (by omega)]; simp
theorem winc (i : Nat) (hi : i < 9223372036854775807) : IntKind.i64.wrap ((i : Int) + 1) = ((i + 1 : Nat) : Int) := by
  rw [w64 (by omega) (by omega)]; omega
theorem take_next {α : Type} (xs : List α) (i : Nat) (d : α) (h : i < xs.length) : xs.take i ++ [xs.getD i d] = xs.take (i + 1) := by
  rw [List.take_add_one]
  simp [List.getD, h]
theorem copy_run {α : Type} {step : (List α × Int) → Option ((List α × Int) ⊕ List α)} (xs : List α) (d : α) (h : xs.length < 9223372036854775807)
    (hs : ∀ i, i < xs.length → step (xs.take i, (i : Int)) = some (.inl (xs.take i ++ [xs.getD i d], IntKind.i64.wrap ((i : Int) + 1)))) (hn : step (xs, (xs.length : Int)) = some (.inr xs)) : loopO step ([], 0) = some xs :=
  loop_run (fun i => (xs.take i, (i : Int))) xs.length rfl (fun i hi => by
    rw [hs i hi, take_next _ _ _ hi, winc i (by omega)]) (by simpa using hn)
theorem bytes_eq (xs : List Int) (h : xs.length ≤ 140737488355328) : sargassoref_Bytes.f xs = some xs := by
  unfold sargassoref_Bytes.f
  rw [if_pos ⟨by omega, by omega, by omega⟩]
  simp only [Int.toNat_zero, List.replicate_zero]
  rw [copy_run xs 0 (by omega) (fun i hi => by
    simp only [sargassoref_Bytes.s0]
    rw [if_pos (by omega), if_pos (by omega), if_pos (by simp; omega), Int.toNat_natCast]) (by simp [sargassoref_Bytes.s0])]
  rfl
end Go.Proofs.YtpeelghbhihgkaaDoor.T
namespace Go.Proofs.YtpeelghbhihgkaaDoor.T
open Go Go.Proofs Go.Proofs.YtpeelghbhihgkaaDoor.K
set_option linter.unusedVariables false
set_option linter.unusedSimpArgs false
theorem ref_sched_step (m : List Int) (a : Nat) (ha : a + 64 ≤ m.length) (hm : m.length ≤ 3000000) (w : List Int) (hw : w.length = 64) (i : Nat) (hi : i < 64) : sargassoref1_Sha.s3 m (a : Int) ((i : Int), w) = some (.inl (((i + 1 : Nat) : Int), w.set i (schedVal m a w i))) := by
  simp only [sargassoref1_Sha.s3, hw]
  rw [if_pos (by omega)]
  by_cases h16 : i < 16
  · have e0 : IntKind.i64.wrap ((a : Int) + IntKind.i64.wrap (4 * (i : Int))) = ((a + 4 * i : Nat) : Int) := by
      rw [wmul4 i (by omega), w64 (by omega) (by omega)]; omega
    have e1 : IntKind.i64.wrap (((a + 4 * i : Nat) : Int) + 1) = ((a + 4 * i + 1 : Nat) : Int) := by rw [w64 (by omega) (by omega)]; omega
    have e2 : IntKind.i64.wrap (((a + 4 * i : Nat) : Int) + 2) = ((a + 4 * i + 2 : Nat) : Int) := by rw [w64 (by omega) (by omega)]; omega
    have e3 : IntKind.i64.wrap (((a + 4 * i : Nat) : Int) + 3) = ((a + 4 * i + 3 : Nat) : Int) := by rw [w64 (by omega) (by omega)]; omega
    rw [if_pos (by omega), e0, e1, e2, e3, if_pos (by omega), if_pos (by omega), if_pos (by omega), if_pos (by omega), if_pos (by omega)]
    simp only [Option.bind_some, Int.toNat_natCast]
    rw [wadd1 i (by omega)]
    simp only [schedVal, if_pos h16, wordAt]
  · have e2 := wsub i 2 (by omega) (by omega)
    have e7 := wsub i 7 (by omega) (by omega)
    have e15 := wsub i 15 (by omega) (by omega)
    have e16 := wsub i 16 (by omega) (by omega)
    simp only [show ((2 : Nat) : Int) = 2 from rfl, show ((7 : Nat) : Int) = 7 from rfl, show ((15 : Nat) : Int) = 15 from rfl, show ((16 : Nat) : Int) = 16 from rfl] at e2 e7 e15 e16
    rw [if_neg (by omega), e2, e7, e15, e16, if_pos (by omega), if_pos (by omega), if_pos (by omega), if_pos (by omega)]
    simp only [Int.toNat_natCast, right_f _ 17 (by omega) (by omega), right_f _ 19 (by omega) (by omega), right_f _ 7 (by omega) (by omega), right_f _ 18 (by omega) (by omega), Option.bind_some]
    rw [if_pos (by omega), wadd1 i (by omega)]
    simp only [Option.bind_some, schedVal, if_neg h16, sg0, sg1, wl, wr]
theorem ref_sched (m : List Int) (a : Nat) (ha : a + 64 ≤ m.length) (hm : m.length ≤ 3000000) : loopO (sargassoref1_Sha.s3 m (a : Int)) (0, List.replicate ((64 : Int).toNat) 0) = some (schedR m a 64) := by
  refine loop_run (fun i => ((i : Int), schedR m a i)) 64 rfl (fun i hi => ?_) ?_
  · rw [ref_sched_step m a ha hm _ (schedR_len _ _ _) i hi]
    rfl
  · simp only [sargassoref1_Sha.s3]
    rw [if_neg (by decide)]
theorem roundR_len (w s : List Int) (hs : s.length = 8) (i : Nat) : (roundR w s i).length = 8 := by
  cases i with
  | zero => exact hs
  | succ i => rfl
theorem kc_len : kc.length = 64 := by kernel_rfl
theorem k1_eq : sargassoref1_k.lit0 = kc := by kernel_rfl
theorem ref_round (w s : List Int) (hs : s.length = 8) (hw : w.length = 64) : loopO (sargassoref1_Sha.s4 kc w) (([] : List Int) ++ s, 0) = some (roundR w s 64) := by
  refine loop_run (fun i => (roundR w s i, (i : Int))) 64 rfl (fun i hi => ?_) ?_
  · have hl := roundR_len w s hs i
    have hk := kc_len
    simp only [sargassoref1_Sha.s4, hl]
    rw [if_pos (by omega), if_pos (by decide), if_pos (by decide), if_pos (by decide)]
    simp only [right_f _ 6 (by omega) (by omega), right_f _ 11 (by omega) (by omega), right_f _ 25 (by omega) (by omega), right_f _ 2 (by omega) (by omega), right_f _ 13 (by omega) (by omega), right_f _ 22 (by omega) (by omega), Option.bind_some, Int.toNat_natCast]
    rw [if_pos (by decide), if_pos (by decide), if_pos (by omega), if_pos (by omega), if_pos (by decide), if_pos (by decide), if_pos (by decide), wadd1 i (by omega)]
    simp only [roundR, rstep, rt1, rt2, wl, wr, show (0 : Int).toNat = 0 from rfl, show (1 : Int).toNat = 1 from rfl, show (2 : Int).toNat = 2 from rfl, show (3 : Int).toNat = 3 from rfl, show (4 : Int).toNat = 4 from rfl, show (5 : Int).toNat = 5 from rfl, show (6 : Int).toNat = 6 from rfl, show (7 : Int).toNat = 7 from rfl]
  · simp only [sargassoref1_Sha.s4]
    rw [if_neg (by decide)]
theorem ref_add (x s : List Int) (hs : s.length = 8) (hx : x.length = 8) : loopO (sargassoref1_Sha.s5 x) (0, s) = some (addR x s 8) := by
  refine loop_run (fun i => ((i : Int), addR x s i)) 8 rfl (fun i hi => ?_) ?_
  · have hl := addR_len x s i
    simp only [sargassoref1_Sha.s5, hl, hs, hx]
    rw [if_pos (by omega), if_pos (by omega), if_pos (by omega), wadd1 i (by omega)]
    simp only [Int.toNat_natCast, addR]
  · simp only [sargassoref1_Sha.s5]
    rw [if_neg (by decide)]
theorem ref_out (s : List Int) (hs : s.length = 8) : loopO (sargassoref1_Sha.s6 s) (0, List.replicate 32 0) = some (outL s) := by
  refine loop_run (fun i => ((i : Int), (List.range i).map (outB s) ++ List.replicate (32 - i) 0)) 32 (by simp) (fun i hi => ?_) ?_
  · simp only [sargassoref1_Sha.s6, hs]
    have e1 : IntKind.i64.wrap (Int.tdiv (i : Int) 4) = ((i / 4 : Nat) : Int) := by
      rw [Int.tdiv_eq_ediv_of_nonneg (by omega), w64 (by omega) (by omega)]; omega
    have e2 : Int.tmod (i : Int) 4 = ((i % 4 : Nat) : Int) := by rw [Int.tmod_eq_emod_of_nonneg (by omega)]; omega
    have e3 : IntKind.u64.wrap (IntKind.i64.wrap (24 - IntKind.i64.wrap (8 * ((i % 4 : Nat) : Int)))) = 24 - 8 * ((i % 4 : Nat) : Int) := by
      rw [w64 (x := 8 * ((i % 4 : Nat) : Int)) (by omega) (by omega), w64 (by omega) (by omega), wu64 (by omega) (by omega)]
    rw [if_pos (by omega), e1, e2, e3, if_pos (by omega), if_pos (by omega), if_pos (by omega), wadd1 i (by omega), Int.toNat_natCast, Int.toNat_natCast]
    have e4 : IntKind.u8.wrap (sR .u32 (s.getD (i / 4) 0) (24 - 8 * ((i % 4 : Nat) : Int))) = outB s i := rfl
    rw [e4, set_next _ _ _ _ (by omega)]
  · simp only [sargassoref1_Sha.s6]
    rw [if_neg (by decide)]
    rfl
theorem lenB_ref (n i : Nat) (hn : n ≤ 1000000) (hi : i < 8) : IntKind.u8.wrap (sR .u64 (IntKind.u64.wrap (8 * IntKind.u64.wrap (n : Int))) (IntKind.u64.wrap (IntKind.i64.wrap (8 * (7 - (i : Int)))))) = lenB n i := by
  rw [w64 (by omega) (by omega), wu64 (x := (n : Int)) (by omega) (by omega), wu64 (x := 8 * (7 - (i : Int))) (by omega) (by omega)]
  rfl
theorem ref_pad (m : List Int) (hb : m.length ≤ 1000000) : loopO (sargassoref1_Sha.s1 m) (m ++ [128] ++ List.replicate (zs (m.length + 1)) 0, 7) = some (padR m) := by
  have hz64 : zs (m.length + 1) < 64 := by simp only [zs]; omega
  refine loop_run (fun i => (m ++ [128] ++ List.replicate (zs (m.length + 1)) 0 ++ (List.range i).map (lenB m.length), 7 - (i : Int))) 8 (by simp) (fun i hi => ?_) ?_
  · simp only [sargassoref1_Sha.s1]
    rw [if_pos (by omega), if_pos (by rw [w64 (by omega) (by omega), wu64 (by omega) (by omega)]; omega), if_pos (by simp; omega), lenB_ref _ _ hb hi, w64 (by omega) (by omega)]
    congr 2
    rw [range_map_succ, ← List.append_assoc]
    congr 1
    omega
  · simp only [sargassoref1_Sha.s1]
    rw [if_neg (by decide)]
    simp only [padR, List.append_assoc]
theorem ref_block (M s : List Int) (a : Nat) (hs : s.length = 8) (ha : a + 64 ≤ M.length) (hM : M.length ≤ 3000000) : sargassoref1_Sha.s2 M kc ((a : Int), s) = some (.inl (IntKind.i64.wrap ((a : Int) + 64), mixV s M a)) := by
  simp only [sargassoref1_Sha.s2]
  rw [if_pos (by omega), if_pos (by decide), ref_sched M a ha hM]
  simp only [Option.bind_some]
  rw [if_pos (by omega), ref_round _ _ hs (schedR_len _ _ _)]
  simp only [Option.bind_some]
  rw [ref_add _ _ hs (roundR_len _ _ hs _)]
  simp only [Option.bind_some, mixV]
theorem ref_blocks (M : List Int) (hM : M.length ≤ 3000000) (h64 : M.length % 64 = 0) : loopO (sargassoref1_Sha.s2 M kc) (0, iv0) = some (blocksR M iv0 (M.length / 64)) := by
  refine loop_run (fun i => (((64 * i : Nat) : Int), blocksR M iv0 i)) (M.length / 64) (by simp only [Nat.mul_zero, blocksR]; rfl) (fun i hi => ?_) ?_
  · have hbl : (blocksR M iv0 i).length = 8 := blocksR_len _ _ _
    rw [ref_block M _ (64 * i) hbl (by omega) hM]
    have e : IntKind.i64.wrap (((64 * i : Nat) : Int) + 64) = ((64 * (i + 1) : Nat) : Int) := by rw [w64 (by omega) (by omega)]; omega
    rw [e, blocksR]
  · simp only [sargassoref1_Sha.s2]
    rw [if_neg (by omega)]
theorem ref_sha_eq (m : List Int) (hb : m.length ≤ 1000000) : sargassoref1_Sha.f m = some (sha m) := by
  have hz : zs (m ++ [128]).length = zs (m.length + 1) := by simp
  have hz64 : zs (m.length + 1) < 64 := by simp only [zs]; omega
  have hpl := padR_len m
  have hl2 := ref_blocks (padR m) (by omega) (padR_mod m)
  unfold sargassoref1_Sha.f
  rw [bytes_eq m (by omega), Option.bind_some, if_pos (by omega), zeros_loop sargassoref1_Sha.s0 (fun l => rfl) _ (by simp; omega), hz, Option.bind_some, ref_pad m hb, Option.bind_some]
  unfold sargassoref1_k.f
  rw [k1_eq, Option.bind_some]
  unfold iv0 at hl2
  rw [hl2, Option.bind_some, ref_out _ (blocksR_len _ _ _), Option.bind_some]
  rfl
end Go.Proofs.YtpeelghbhihgkaaDoor.T
namespace Go.Proofs.YtpeelghbhihgkaaDoor.T
open Go Go.Proofs Go.Proofs.YtpeelghbhihgkaaDoor.K
set_option linter.unusedVariables false
set_option linter.unusedSimpArgs false
def Hs (l : List (List Int)) : Prop := ∀ x ∈ l, x.length = 32
theorem Hs.at {l : List (List Int)} (h : Hs l) {i : Nat} (hi : i < l.length) : (l.getD i []).length = 32 := by
  have e : l.getD i [] = l[i] := by simp [List.getD, hi]
  rw [e]; exact h _ (List.getElem_mem hi)
end Go.Proofs.YtpeelghbhihgkaaDoor.T
namespace Go.Proofs.YtpeelghbhihgkaaDoor.T
open Go Go.Proofs Go.Proofs.YtpeelghbhihgkaaDoor.K
set_option linter.unusedVariables false
set_option linter.unusedSimpArgs false
def lb (a m : Nat) : List Int := (List.range m).map fun j => ((a / 2 ^ (8 * j) % 256 : Nat) : Int)
structure HN where
  v : Nat
  p : List Int
  r : List Int
  t : Nat
  w : Nat
  n : Nat
deriving DecidableEq
def HN.h (h : HN) : Head := ⟨h.v, h.p, h.r, h.t, h.w, h.n⟩
def hb (h : HN) : List Int := lb h.v 4 ++ (h.p ++ (h.r ++ (lb h.t 4 ++ (lb h.w 4 ++ lb h.n 4))))
end Go.Proofs.YtpeelghbhihgkaaDoor.T
namespace Go.Proofs.YtpeelghbhihgkaaDoor.T
open Go Go.Proofs Go.Proofs.YtpeelghbhihgkaaDoor.K
set_option linter.unusedVariables false
set_option linter.unusedSimpArgs false
def sl : List Er := [xErrEnd, xErrShape, xErrLong, xErrMany, xErrValue, xErrTwice, xErrBase, xErrRoot, xErrKnown, xErrParent, xErrInvalid, xErrTime, xErrMissing, xErrKey, xErrYoung, xErrEarly, xErrLess, xErrReward, xErrClash, xErrLimit, xErrFull, xErrRange, xErrNone, xErrWord, xErrNumber]
theorem sl_plain : ∀ e ∈ sl, e ≠ .b 0 ∧ e.isP = false := by decide
theorem alike_eq {e f : Er} (he : e ≠ .b 0) (hf : f ≠ .b 0) (hp : e.isP = false) : sargassosee_Alike.f e f = some (decide (e = f)) := by
  simp only [sargassosee_Alike.f]
  rw [if_neg he, Option.bind_some, if_neg (by simpa using hf), if_pos]
  cases e with
  | pl _ _ => cases hp
  | b n =>
    cases f with
    | pl _ _ => cases n <;> rfl
    | b m =>
      cases n with
      | zero => exact absurd rfl he
      | succ n => rfl
theorem gd {α : Type} (l : List α) (d : α) {i : Nat} (h : i < l.length) : l.getD i d = l[i] := by simp [List.getD, h]
theorem sl_ne : ∀ i, i < 25 → ∀ j, j < 25 → i ≠ j → sl.getD i (.b 0) ≠ sl.getD j (.b 0) := by decide +kernel
theorem sentinel_at (k : Nat) (hk : k < 25) : sargassosee_sentinel.f (sl.getD k (.b 0)) = some (101 + (k : Int)) := by
  have hl : sl.length = 25 := rfl
  have hmem : ∀ i, i < 25 → sl.getD i (.b 0) ∈ sl := fun i hi => by
    have e := gd sl (.b 0) (i := i) (by omega)
    rw [e]; exact List.getElem_mem _
  have h0 : sargassosee_sentinels.f = some sl := rfl
  unfold sargassosee_sentinel.f
  rw [h0, Option.bind_some]
  have hs : ∀ i : Nat, i < 25 → sargassosee_sentinel.s0 (sl.getD k (.b 0)) sl (i : Int) = if k = i then some (.inr (IntKind.i64.wrap (101 + (i : Int)))) else some (.inl (IntKind.i64.wrap ((i : Int) + 1))) := fun i hi => by
    simp only [sargassosee_sentinel.s0]
    rw [if_pos (by omega), if_pos (by omega), Int.toNat_natCast, alike_eq (sl_plain _ (hmem k hk)).1 (sl_plain _ (hmem i hi)).1 (sl_plain _ (hmem k hk)).2, Option.bind_some]
    by_cases h : k = i
    · subst h; rw [if_pos (by simp), if_pos rfl]
    · rw [if_neg (by simpa using sl_ne k hk i hi h), if_neg h]
  have key := loop_idx (step := sargassosee_sentinel.s0 (sl.getD k (.b 0)) sl) (fun i => (i : Int)) k (fun i hi => by rw [hs i (by omega), if_neg (by omega), winc i (by omega)])
  have e0 : ((0 : Nat) : Int) = 0 := rfl
  simp only [e0] at key
  have h1 := hs k hk
  rw [if_pos rfl] at h1
  rw [key, loopO_inr h1, w64 (by omega) (by omega)]
theorem samefault_bare (a b : Int) : sargassoref_SameFault.f ⟨a, false, 0, false, 0⟩ ⟨b, false, 0, false, 0⟩ = some (decide (a = b)) := by
  simp only [sargassoref_SameFault.f]
  by_cases h : a = b
  · simp [h]
  · simp [h]
theorem fault_at (k : Nat) (hk : k < 25) : sargassosee_Fault.f (sl.getD k (.b 0)) = some ⟨101 + (k : Int), false, 0, false, 0⟩ := by
  have hm : sl.getD k (.b 0) ∈ sl := by
    have hl : sl.length = 25 := rfl
    have e := gd sl (.b 0) (i := k) (by omega)
    rw [e]; exact List.getElem_mem _
  obtain ⟨h1, h2⟩ := sl_plain _ hm
  simp only [sargassosee_Fault.f]
  rw [if_neg h1, if_neg (by rw [h2]; decide), sentinel_at k hk]
  rfl
theorem is_at (k : Nat) (hk : k < 25) (c : Int) : sargassosee_Is.f (sl.getD k (.b 0)) c = some (decide (101 + (k : Int) = c)) := by
  simp only [sargassosee_Is.f, sargassosee_Same.f, sargassoref_Bare.f, Option.bind_some]
  rw [fault_at k hk, Option.bind_some, samefault_bare, Option.bind_some, Option.bind_some]
theorem is_shape (c : Int) : sargassosee_Is.f xErrShape c = some (decide (102 = c)) := is_at 1 (by decide) c
end Go.Proofs.YtpeelghbhihgkaaDoor.T
namespace Go.Proofs.YtpeelghbhihgkaaDoor.T
open Go Go.Proofs Go.Proofs.YtpeelghbhihgkaaDoor.K
set_option linter.unusedVariables false
set_option linter.unusedSimpArgs false
def Bs (l : List Int) : Prop := ∀ x ∈ l, InR .u8 x
theorem Bs.app {l m : List Int} (h : Bs l) (k : Bs m) : Bs (l ++ m) := fun x hx => (List.mem_append.1 hx).elim (h x) (k x)
theorem Bs.take {l : List Int} (h : Bs l) (n : Nat) : Bs (l.take n) := fun x hx => h x (List.mem_of_mem_take hx)
theorem Bs.drop {l : List Int} (h : Bs l) (n : Nat) : Bs (l.drop n) := fun x hx => h x (List.mem_of_mem_drop hx)
def vl : List Int → Nat
  | [] => 0
  | b :: l => b.toNat + 256 * vl l
def nx (n : Nat) (s : List Int × Er) : List Int × (List Int × Er) :=
  if s.2 ≠ .b 0 then ([], s) else if s.1.length < n then ([], (s.1, xErrEnd)) else (s.1.take n, (s.1.drop n, s.2))
def wh (n : Nat) (s : List Int × Er) : Nat × (List Int × Er) := (vl (nx n s).1, (nx n s).2)
def ln (n : Nat) : Nat := if n < 253 then 1 else if n < 65536 then 3 else if n < 4294967296 then 5 else 9
def my (n : Nat) : Nat := if n = 253 then 2 else if n = 254 then 4 else if n = 255 then 8 else 0
def nm (most : Int) (s : List Int × Er) : Nat × (List Int × Er) :=
  let a := wh 1 s
  let b := if 0 < my a.1 then wh (my a.1) a.2 else a
  if b.2.2 ≠ .b 0 then (0, b.2) else if ln b.1 ≠ 1 + my a.1 then (0, (b.2.1, xErrShape)) else if most < (b.1 : Int) then (0, (b.2.1, xErrMany)) else b
def by_ (n : Int) (s : List Int × Er) : List Int × (List Int × Er) := if n ≤ 0 then ([], s) else nx n.toNat s
end Go.Proofs.YtpeelghbhihgkaaDoor.T
namespace Go.Proofs.YtpeelghbhihgkaaDoor.T
open Go Go.Proofs Go.Proofs.YtpeelghbhihgkaaDoor.K
set_option linter.unusedVariables false
set_option linter.unusedSimpArgs false
abbrev Stp (α : Type) := List Int × Er → α × (List Int × Er)
section
variable {α β : Type}
def ret (x : α) : Stp α := fun s => (x, s)
end
end Go.Proofs.YtpeelghbhihgkaaDoor.T
namespace Go.Proofs.YtpeelghbhihgkaaDoor.T
open Go Go.Proofs Go.Proofs.YtpeelghbhihgkaaDoor.K
set_option linter.unusedVariables false
set_option linter.unusedSimpArgs false
structure Few (a b : Nat) (t : Tx) : Prop where
  ins : t.Ins.length ≤ a
  outs : t.Outs.length ≤ a
  key : ∀ i ∈ t.Ins, i.Key.length ≤ b
theorem Few.mono {a b c d : Nat} {t : Tx} (h : Few a b t) (h1 : a ≤ c) (h2 : b ≤ d) : Few c d t := ⟨Nat.le_trans h.ins h1, Nat.le_trans h.outs h1, fun i hi => Nat.le_trans (h.key i hi) h2⟩
theorem getD_mem {α : Type} {l : List α} {d : α} {i : Nat} (h : i < l.length) : l.getD i d ∈ l := by rw [gd l d h]; exact List.getElem_mem h
end Go.Proofs.YtpeelghbhihgkaaDoor.T
namespace Go.Proofs.YtpeelghbhihgkaaDoor.T
open Go Go.Proofs Go.Proofs.YtpeelghbhihgkaaDoor.K
set_option linter.unusedVariables false
set_option linter.unusedSimpArgs false
noncomputable instance (a b : Nat) (t : Tx) : Decidable (Few a b t) := Classical.propDecidable _
def nullP : Point := ⟨List.replicate 32 0, 4294967295⟩
end Go.Proofs.YtpeelghbhihgkaaDoor.T
namespace Go.Proofs.YtpeelghbhihgkaaDoor.T
open Go Go.Proofs Go.Proofs.YtpeelghbhihgkaaDoor.K
set_option linter.unusedVariables false
def goSum : Int → List Int → Int × Bool
  | s, [] => (s, true)
  | s, x :: r => if 2100000000000000 < s + x then (0, false) else goSum (s + x) r
theorem sum_loop (xs : List Int) (h : xs.length ≤ 140737488355328) (hx : ∀ x ∈ xs, InR .u64 x) : ∀ (r pre : List Int) (s : Int), xs = pre ++ r → 0 ≤ s → s ≤ 2100000000000000 →
    loopO (compact_Sum.s0 xs) (s, (pre.length : Int)) = some (goSum s r)
  | [], pre, s, e, _, _ => by
    obtain rfl : xs = pre := by simpa using e
    exact loopO_inr (by simp [compact_Sum.s0, goSum])
  | x :: r, pre, s, e, h0, h1 => by
    have hr : InR .u64 x := hx x (by simp [e])
    obtain ⟨a, b⟩ := hr
    have h3 := mid_lt pre r x
    have ih := sum_loop xs h hx r (pre ++ [x]) (s + x) (by simp [e]) (by omega)
    subst e
    unfold goSum
    by_cases hc : 2100000000000000 < s + x
    · rw [if_pos hc]
      refine loopO_inr ?_
      simp only [compact_Sum.s0, if_pos h3.2, if_pos h3, getD_mid]
      rw [if_pos (by rw [wu64 (by omega) (by omega)]; omega)]
    · rw [if_neg hc, loopO_inl (s' := (s + x, ((pre ++ [x]).length : Int)))]
      · exact ih (by omega)
      · simp only [compact_Sum.s0, if_pos h3.2, if_pos h3, getD_mid]
        rw [if_neg (by rw [wu64 (by omega) (by omega)]; omega), wu64 (by omega) (by omega), mid_next pre r x h]
theorem sum_eq (xs : List Int) (h : xs.length ≤ 140737488355328) (hx : ∀ x ∈ xs, InR .u64 x) : compact_Sum.f xs = some (goSum 0 xs) :=
  sum_loop xs h hx xs [] 0 rfl (by omega) (by omega)
end Go.Proofs.YtpeelghbhihgkaaDoor.T
namespace Go.Proofs.YtpeelghbhihgkaaDoor.T
open Go Go.Proofs Go.Proofs.YtpeelghbhihgkaaDoor.K
set_option linter.unusedVariables false
set_option linter.unusedSimpArgs false
theorem values_eq (t : Tx) (hl : t.Outs.length ≤ 1000000) : tx_values.f t = some (t.Outs.map (·.Value)) := by
  simp only [tx_values.f]
  rw [show loopO (tx_values.s0 t) ([], 0) = _ from loop_run (step := tx_values.s0 t) (fun i => ((t.Outs.take i).map (·.Value), (i : Int))) t.Outs.length (r := t.Outs.map (·.Value)) rfl (fun i hi => by
    simp only [tx_values.s0, Int.toNat_natCast]
    rw [if_pos (by omega), if_pos (by omega), if_pos (by simp; omega), winc i (by omega), ← take_next t.Outs i default hi]
    simp) (by simp only [tx_values.s0]; rw [if_neg (by omega), List.take_length])]
  rfl
def vs (t : Tx) : List Int := t.Outs.map (·.Value)
def isBase (t : Tx) : Prop := t.Ins.length = 1 ∧ (t.Ins.getD 0 default).From = nullP
instance (t : Tx) : Decidable (isBase t) := inferInstanceAs (Decidable (_ ∧ _))
def mn (t : Tx) : Prop := t.Ins.length = 0 ∨ 50 < t.Ins.length ∨ t.Outs.length = 0 ∨ 50 < t.Outs.length
instance (t : Tx) : Decidable (mn t) := inferInstanceAs (Decidable (_ ∨ _))
end Go.Proofs.YtpeelghbhihgkaaDoor.T
namespace Go.Proofs.YtpeelghbhihgkaaDoor.T
open Go Go.Proofs Go.Proofs.YtpeelghbhihgkaaDoor.K
set_option linter.unusedVariables false
set_option linter.unusedSimpArgs false
theorem same_placed (i : Int) : sargassosee_Same.f (.pl i xErrKey) ⟨114, true, i, false, 0⟩ = some true := by
  have h : sargassosee_sentinel.f xErrKey = some 114 := sentinel_at 13 (by decide)
  have e1 : (Er.pl i xErrKey) ≠ .b 0 := fun h => by cases h
  have e2 : (Er.pl i xErrKey).isP = true := rfl
  have e3 : (Er.pl i xErrKey).err = xErrKey := rfl
  have e4 : (Er.pl i xErrKey).pos = i := rfl
  simp only [sargassosee_Same.f, sargassosee_Fault.f]
  rw [if_neg e1, if_pos e2, e3, e4, Option.bind_some, decide_eq_false (by decide), if_neg (by decide), if_neg (by decide), h]
  simp [sargassoref_Placed.f, sargassoref_SameFault.f]
def op (k l : List Int) : Prop := k.length ≤ 80 ∧ sha k = l
instance (k l : List Int) : Decidable (op k l) := inferInstanceAs (Decidable (_ ∧ _))
theorem opens_eq (k l : List Int) : spend_Opens.f k l = some (decide (op k l)) := by
  simp only [spend_Opens.f, spend_Lock.f]
  by_cases c : k.length ≤ 80
  · rw [if_pos (by omega), sha_eq _ (by omega)]
    simp only [Option.bind_some]
    exact congrArg some (decide_eq_decide.2 ⟨fun h => ⟨c, h⟩, fun h => h.2⟩)
  · rw [if_neg (by omega), Option.bind_some, decide_eq_false (fun h => c h.1)]
end Go.Proofs.YtpeelghbhihgkaaDoor.T
namespace Go.Proofs.YtpeelghbhihgkaaDoor.T
open Go Go.Proofs Go.Proofs.YtpeelghbhihgkaaDoor.K
set_option linter.unusedVariables false
theorem reward_eq {x0 x1 : Int} (h0 : InR .i64 x0) (h1 : InR .i64 x1) : value_Reward.f x0 x1 = some (if x0 < 0 ∨ x1 < 1 then 0 else if 64 ≤ x0 / x1 then 0 else 5000000000 / 2 ^ (x0 / x1).toNat) := by
  obtain ⟨a, b⟩ := h0
  obtain ⟨c, d⟩ := h1
  unfold value_Reward.f
  by_cases h : x0 < 0
  · simp [h]
  by_cases h' : x1 < 1
  · simp [h, h']
  have hq : Int.tdiv x0 x1 = x0 / x1 := Int.tdiv_eq_ediv_of_nonneg (by omega)
  have q0 : 0 ≤ x0 / x1 := Int.ediv_nonneg (by omega) (by omega)
  have q1 : x0 / x1 ≤ x0 := Int.ediv_le_self _ (by omega)
  have hn : x1 ≠ 0 := by omega
  rw [hq, w64 (by omega) (by omega)]
  simp only [h, h', hn, if_false, Option.bind_some, or_self, ne_eq, not_false_eq_true, if_true, q0]
  by_cases h6 : 64 ≤ x0 / x1
  · simp [h6]
  · simp only [h6, decide_false, if_false, Bool.false_eq_true, sR]
    rw [show min (x0 / x1).toNat IntKind.u64.bits = (x0 / x1).toNat by simp [IntKind.bits]; omega, Int.fdiv_eq_ediv_of_nonneg _ (Int.pow_nonneg (by omega))]
theorem first15 : sargassolaw15_first.f = some true := by
  unfold sargassolaw15_first.f
  rw [reward_eq ⟨by omega, by omega⟩ ⟨by omega, by omega⟩, reward_eq ⟨by omega, by omega⟩ ⟨by omega, by omega⟩]
  rfl
end Go.Proofs.YtpeelghbhihgkaaDoor.T
namespace Go.Proofs.YtpeelghbhihgkaaDoor.T
open Go Go.Proofs Go.Proofs.YtpeelghbhihgkaaDoor.K
set_option linter.unusedVariables false
set_option linter.unusedSimpArgs false
set_option maxRecDepth 100000 in
theorem keys_apart : ∀ k : Nat, k < 10 → ¬ (sha [(k : Int), 7] = sha [9]) := by decide +kernel
def feeV (a b : Int × Bool) : Int × Er := if (!(a.2 && b.2)) = true then (0, xErrValue) else if a.1 < b.1 then (0, xErrLess) else (IntKind.u64.wrap (a.1 - b.1), .b 0)
theorem feeV_ok {a b : Int} (h : ¬ a < b) : feeV (a, true) (b, true) = (IntKind.u64.wrap (a - b), .b 0) := by
  unfold feeV
  rw [if_neg (by simp), if_neg h]
theorem feeV_less {a b : Int} (h : a < b) : feeV (a, true) (b, true) = (0, xErrLess) := by
  unfold feeV
  rw [if_neg (by simp), if_pos h]
theorem fee_open {t : Tx} {ms : List Money} (hn : t.Ins.length ≤ 20) (ho : t.Outs.length ≤ 20) (hv : ∀ x ∈ vs t, InR .u64 x) (hm : ms.length = t.Ins.length) (hw : ∀ m ∈ ms, InR .u64 m.Value) (hop : ∀ i, i < t.Ins.length → op (t.Ins.getD i default).Key (ms.getD i default).Lock) :
    value_Fee.f t ms = some (feeV (goSum 0 (ms.map (·.Value))) (goSum 0 (vs t))) := by
  simp only [value_Fee.f]
  rw [if_neg (by omega)]
  refine loop_run (step := value_Fee.s0 t ms) (fun i => ((ms.take i).map (·.Value), (i : Int))) t.Ins.length rfl (fun i hi => ?_) ?_
  · simp only [value_Fee.s0, Int.toNat_natCast]
    rw [if_pos (by omega), if_pos (by omega), if_pos (by omega), opens_eq, Option.bind_some, if_pos (decide_eq_true (hop i hi)), if_pos (by simp; omega), winc i (by omega), ← take_next ms i default (by omega)]
    simp
  · have e1 := sum_eq (ms.map (·.Value)) (by simp; omega) (fun x hx => by
      obtain ⟨m, h1, rfl⟩ := List.mem_map.1 hx
      exact hw m h1)
    have e3 : tx_Sum.f t = some (goSum 0 (vs t)) := by
      simp only [tx_Sum.f]
      rw [values_eq t (by omega), Option.bind_some, show t.Outs.map (·.Value) = vs t from rfl, sum_eq _ (by simp [vs]; omega) hv]
      rfl
    simp only [value_Fee.s0]
    rw [if_neg (by omega), List.take_of_length_le (by omega), e1, e3]
    simp only [Option.bind_some]
    unfold feeV
    generalize goSum 0 (ms.map (·.Value)) = a
    generalize goSum 0 (vs t) = b
    have hc : (if a.2 = true then some (!b.2) else some true) = some (!(a.2 && b.2)) := by cases a.2 <;> rfl
    rw [hc]
    simp only [Option.bind_some]
    by_cases c1 : (!(a.2 && b.2)) = true
    · rw [if_pos c1, if_pos c1]
    · rw [if_neg c1, if_neg c1]
      by_cases c2 : a.1 < b.1
      · rw [if_pos c2, if_pos c2]
      · rw [if_neg c2, if_neg c2]
theorem fee_shut {t : Tx} {ms : List Money} (hn : t.Ins.length ≤ 20) (hm : ms.length = t.Ins.length) (k : Nat) (hk : k < t.Ins.length) (hop : ∀ i, i < k → op (t.Ins.getD i default).Key (ms.getD i default).Lock) (hs : ¬ op (t.Ins.getD k default).Key (ms.getD k default).Lock) :
    value_Fee.f t ms = some (0, .pl (k : Int) xErrKey) := by
  simp only [value_Fee.f]
  rw [if_neg (by omega)]
  refine loop_run (step := value_Fee.s0 t ms) (fun i => ((ms.take i).map (·.Value), (i : Int))) k rfl (fun i hi => ?_) ?_
  · simp only [value_Fee.s0, Int.toNat_natCast]
    rw [if_pos (by omega), if_pos (by omega), if_pos (by omega), opens_eq, Option.bind_some, if_pos (decide_eq_true (hop i hi)), if_pos (by simp; omega), winc i (by omega), ← take_next ms i default (by omega)]
    simp
  · simp only [value_Fee.s0, Int.toNat_natCast]
    rw [if_pos (by omega), if_pos (by omega), if_pos (by omega), opens_eq, Option.bind_some, if_neg (by simp only [decide_eq_true_eq]; exact hs)]
theorem fee_odd {t : Tx} {ms : List Money} (h : ms.length ≠ t.Ins.length) : value_Fee.f t ms = some (0, xErrShape) := by
  simp only [value_Fee.f]
  rw [if_pos (by omega)]
theorem goSum_ok : ∀ (l : List Int) (s : Int), (∀ x ∈ l, 0 ≤ x) → s + l.sum ≤ 2100000000000000 → goSum s l = (s + l.sum, true)
  | [], s, _, _ => by simp [goSum]
  | x :: l, s, h, hs => by
    have hl : ∀ l : List Int, (∀ x ∈ l, 0 ≤ x) → 0 ≤ l.sum := by
      intro l
      induction l with
      | nil => simp
      | cons y l ih => intro h; have := ih fun z hz => h z (by simp [hz]); have := h y (by simp); simp; omega
    have h1 := hl l fun z hz => h z (by simp [hz])
    rw [List.sum_cons] at hs
    simp only [goSum]
    rw [if_neg (by omega), goSum_ok l (s + x) (fun z hz => h z (by simp [hz])) (by omega), List.sum_cons]
    rw [Int.add_assoc]
def vK (l : List Int) (i : Nat) : Int := Int.tmod (l.getD i 0) 210000000000000
def monK (l : List Int) (i : Nat) : Money := ⟨vK l i, sha [(i : Int), 7], 0, false⟩
def innK (i : Nat) : In := ⟨⟨List.replicate 32 0, 0⟩, [(i : Int), 7], 0⟩
def sumK (l : List Int) (n : Nat) : Int := ((List.range n).map (vK l)).sum
theorem sumK_succ (l : List Int) (n : Nat) : sumK l (n + 1) = sumK l n + vK l n := by simp [sumK, List.range_succ]
theorem vK_in {l : List Int} (h : ∀ x ∈ l, InR .u64 x) {i : Nat} (hi : i < l.length) : 0 ≤ vK l i ∧ vK l i < 210000000000000 := by
  have := h _ (getD_mem (d := 0) hi)
  obtain ⟨a, b⟩ := this
  unfold vK
  rw [Int.tmod_eq_emod_of_nonneg a]
  omega
theorem sumK_in {l : List Int} (h : ∀ x ∈ l, InR .u64 x) : ∀ n, n ≤ l.length → 0 ≤ sumK l n ∧ sumK l n ≤ 209999999999999 * (n : Int)
  | 0, _ => by simp [sumK]
  | n + 1, hn => by
    have h1 := sumK_in h n (by omega)
    have h2 := vK_in h (i := n) (by omega)
    rw [sumK_succ]
    omega
theorem loopK {l : List Int} (h : ∀ x ∈ l, InR .u64 x) (hl : l.length ≤ 10) : loopO (sargassolaw15_ValueKeeps.s0 l) ([], 0, 0, []) = some ((List.range l.length).map (monK l), sumK l l.length, (List.range l.length).map innK) := by
  refine loop_run (step := sargassolaw15_ValueKeeps.s0 l) (fun i => ((List.range i).map (monK l), sumK l i, (i : Int), (List.range i).map innK)) l.length (by simp [sumK]) (fun i hi => ?_) ?_
  · have h1 := sumK_in h i (by omega)
    have h2 := vK_in h hi
    simp only [sargassolaw15_ValueKeeps.s0, Int.toNat_natCast]
    rw [show Int.tmod (l.getD i 0) 210000000000000 = vK l i from rfl, if_pos (by omega), if_pos (by omega), if_pos (by simp; omega), wu8 (by omega) (by omega), ref_sha_eq _ (by simp), Option.bind_some, if_pos (by simp; omega), wu64 (by omega) (by omega), winc i (by omega), sumK_succ, List.range_succ, List.map_append, List.map_append]
    rfl
  · simp only [sargassolaw15_ValueKeeps.s0]
    rw [if_neg (by omega)]
theorem op_same (i : Nat) (l : List Int) : op (innK i).Key (monK l i).Lock := ⟨by simp [innK], rfl⟩
theorem getK {α : Type} (f : Nat → α) (d : α) {n i : Nat} (h : i < n) : ((List.range n).map f).getD i d = f i := by
  rw [gd _ _ (by simpa using h)]
  simp
theorem sargassolaw15_ValueKeeps.m (μ : Store) (x0 : List Int) (u0 : Value) (h0 : Slc (RI .u64) 1 μ u0 x0) (x1 : Int) (h1 : InR .u64 x1) (x2 : Int) (h2 : InR .i64 x2) : sargassolaw15_ValueKeeps.f x0 x1 x2 = some true := by
  have hx : ∀ x ∈ x0, InR .u64 x := slc_ints h0
  simp only [sargassolaw15_ValueKeeps.f]
  rw [first15, Option.bind_some, if_pos rfl]
  by_cases c1 : x0.length = 0
  · rw [if_pos (by omega), Option.bind_some, if_pos rfl]
  rw [if_neg (by omega)]
  by_cases c2 : 10 < x0.length
  · rw [decide_eq_true (by omega), Option.bind_some, if_pos rfl]
  rw [decide_eq_false (by omega), Option.bind_some, if_neg (by decide), loopK hx (by omega), Option.bind_some]
  have hs := sumK_in hx x0.length (Nat.le_refl _)
  have hms : ∀ m ∈ (List.range x0.length).map (monK x0), InR .u64 m.Value := fun m hm => by
    obtain ⟨i, hi, rfl⟩ := List.mem_map.1 hm
    have := vK_in hx (List.mem_range.1 hi)
    exact ⟨this.1, by simp only [monK]; omega⟩
  have hsum : ((List.range x0.length).map (monK x0)).map (·.Value) = (List.range x0.length).map (vK x0) := by simp [monK, Function.comp_def]
  have hgs : goSum 0 (((List.range x0.length).map (monK x0)).map (·.Value)) = (sumK x0 x0.length, true) := by
    rw [hsum, goSum_ok _ _ (fun x hx' => by
      obtain ⟨i, hi, rfl⟩ := List.mem_map.1 hx'
      exact (vK_in hx (List.mem_range.1 hi)).1) (by show 0 + sumK x0 x0.length ≤ _; omega)]
    show (0 + sumK x0 x0.length, true) = _
    rw [Int.zero_add]
  generalize hS : sumK x0 x0.length = S at *
  generalize hM : (List.range x0.length).map (monK x0) = ms at *
  have hml : ms.length = x0.length := by rw [← hM]; simp
  have hil : ((List.range x0.length).map innK).length = x0.length := by simp
  have hmg : ∀ i, i < x0.length → ms.getD i default = monK x0 i := fun i hi => by rw [← hM]; exact getK _ _ hi
  have hig : ∀ i, i < x0.length → ((List.range x0.length).map innK).getD i default = innK i := fun i hi => getK _ _ hi
  generalize hN : (List.range x0.length).map innK = ins at *
  have w1 : IntKind.u64.wrap (S + 1) = S + 1 := wu64 (by omega) (by omega)
  have hfee : 0 ≤ Int.tmod x1 (S + 1) ∧ Int.tmod x1 (S + 1) ≤ S := by
    obtain ⟨a, b⟩ := h1
    rw [Int.tmod_eq_emod_of_nonneg a]
    have := Int.emod_nonneg x1 (show S + 1 ≠ 0 by omega)
    have := Int.emod_lt_of_pos x1 (show 0 < S + 1 by omega)
    omega
  simp only
  rw [w1]
  generalize Int.tmod x1 (S + 1) = F at *
  rw [wu64 (x := S - F) (by omega) (by omega), wu64 (x := F + 1) (by omega) (by omega)]
  generalize hO1 : ([(⟨S - F, List.replicate 32 0⟩ : Out)] : List Out) = o1
  generalize hO2 : ([(⟨F + 1, List.replicate 32 0⟩ : Out)] : List Out) = o2
  have v1 : vs ⟨0, ins, o1, 0⟩ = [S - F] := by simp [vs, ← hO1]
  have v2 : vs ⟨0, ins, o1 ++ o2, 0⟩ = [S - F, F + 1] := by simp [vs, ← hO1, ← hO2]
  have l1 : o1.length = 1 := by rw [← hO1]; rfl
  have l2 : (o1 ++ o2).length = 2 := by rw [← hO1, ← hO2]; rfl
  have op1 : ∀ i, i < ins.length → op (ins.getD i default).Key (ms.getD i default).Lock := fun i hi => by
    rw [hig i (by omega), hmg i (by omega)]
    exact op_same i x0
  have f1 : value_Fee.f ⟨0, ins, o1, 0⟩ ms = some (F, .b 0) := by
    rw [fee_open (by simp only; omega) (by simp only; omega) (by rw [v1]; intro x hx; obtain rfl := List.mem_singleton.1 hx; exact ⟨by omega, by omega⟩) (by simp only; omega) hms op1, hgs, v1, goSum_ok _ _ (by intro x hx; obtain rfl := List.mem_singleton.1 hx; omega) (by simp; omega)]
    rw [show 0 + [S - F].sum = S - F by simp, feeV_ok (by omega), show S - (S - F) = F by omega, wu64 (by omega) (by omega)]
  have f2 : value_Fee.f ⟨0, ins, o1 ++ o2, 0⟩ ms = some (0, xErrLess) := by
    rw [fee_open (by simp only; omega) (by simp only; omega) (by
      rw [v2]; intro x hx
      have : x = S - F ∨ x = F + 1 := by simpa using hx
      rcases this with rfl | rfl <;> exact ⟨by omega, by omega⟩) (by simp only; omega) hms op1, hgs, v2, goSum_ok _ _ (by
      intro x hx
      have : x = S - F ∨ x = F + 1 := by simpa using hx
      rcases this with rfl | rfl <;> omega) (by simp; omega)]
    rw [show 0 + [S - F, F + 1].sum = S + 1 by simp; omega, feeV_less (by omega)]
  obtain ⟨y, ey, y0, y1⟩ := number_eq h2 (show (0 : Int) < (x0.length : Int) by omega) (by omega)
  obtain ⟨k, rfl⟩ : ∃ k : Nat, y = (k : Int) := ⟨y.toNat, by omega⟩
  have hkl : k < ins.length := by omega
  have hset : ins.set k (⟨(ins.getD k default).From, ([9] : List Int), (ins.getD k default).Seq⟩ : In) = ins.set k ⟨⟨List.replicate 32 0, 0⟩, [9], 0⟩ := by rw [hig k (by omega)]; rfl
  have f3 : value_Fee.f ⟨0, ins.set k ⟨⟨List.replicate 32 0, 0⟩, [9], 0⟩, o1 ++ o2, 0⟩ ms = some (0, .pl (k : Int) xErrKey) := by
    refine fee_shut (by simp; omega) (by simp; omega) k (by simp; omega) (fun i hi => ?_) (fun h => ?_)
    · have e : (ins.set k (⟨⟨List.replicate 32 0, 0⟩, [9], 0⟩ : In)).getD i default = ins.getD i default := by
        rw [gd _ _ (by simp; omega), gd _ _ (show i < ins.length by omega)]
        exact List.getElem_set_ne (by omega) _
      show op ((ins.set k (⟨⟨List.replicate 32 0, 0⟩, [9], 0⟩ : In)).getD i default).Key _
      rw [e]
      exact op1 i (by omega)
    · have e : (ins.set k (⟨⟨List.replicate 32 0, 0⟩, [9], 0⟩ : In)).getD k default = ⟨⟨List.replicate 32 0, 0⟩, [9], 0⟩ := by
        rw [gd _ _ (by simp; omega)]
        exact List.getElem_set_self _
      have h' : op ((ins.set k (⟨⟨List.replicate 32 0, 0⟩, [9], 0⟩ : In)).getD k default).Key (ms.getD k default).Lock := h
      rw [e, hmg k (by omega)] at h'
      exact keys_apart k (by omega) h'.2.symm
  have f4 : value_Fee.f ⟨0, ins.set k ⟨⟨List.replicate 32 0, 0⟩, [9], 0⟩, o1 ++ o2, 0⟩ ((ms.take ((ms.length : Int)).toNat).drop (1 : Int).toNat) = some (0, xErrShape) := fee_odd (by simp; omega)
  have s1 : sargassosee_Is.f xErrLess 117 = some true := is_at 16 (by decide) 117
  have s2 : sargassosee_Is.f xErrShape 102 = some true := by rw [is_shape]; rfl
  have m0 : (Er.b 0) ∈ ([(Er.b 0), xErrShape, xErrKey, xErrValue, xErrLess] : List Er) := by decide
  have m1 : xErrLess ∈ ([(Er.b 0), xErrShape, xErrKey, xErrValue, xErrLess] : List Er) := by decide
  have m2 : xErrKey ∈ ([(Er.b 0), xErrShape, xErrKey, xErrValue, xErrLess] : List Er) := by decide
  have m3 : xErrShape ∈ ([(Er.b 0), xErrShape, xErrKey, xErrValue, xErrLess] : List Er) := by decide
  have m4 : (Er.pl (k : Int) xErrKey).isP = true ∧ (Er.pl (k : Int) xErrKey).err ∈ ([(Er.b 0), xErrShape, xErrKey, xErrValue, xErrLess] : List Er) := ⟨rfl, m2⟩
  have hp : sargassoref_Placed.f 114 (k : Int) = some ⟨114, true, (k : Int), false, 0⟩ := by simp [sargassoref_Placed.f]
  rw [if_pos (by omega), f1, Option.bind_some, if_pos (.inl m0), if_pos (.inl m0), if_pos (.inl m0), f2, Option.bind_some, if_pos (.inl m1), if_pos (.inl m1), if_pos (.inl m1), ey, Option.bind_some, if_pos (by omega), Int.toNat_natCast, hset, f3, Option.bind_some, if_pos (.inr ⟨m4, by omega⟩), if_pos (.inr ⟨m4, by omega⟩), if_pos (.inr ⟨m4, by simp; omega⟩), if_pos (by omega), f4, Option.bind_some, if_pos (.inl m3), if_pos (.inl m3), if_neg (by omega), decide_eq_false (by omega), Option.bind_some, if_pos rfl, if_pos rfl, if_pos trivial, if_neg (by decide), s1, Option.bind_some, if_pos rfl, hp, Option.bind_some, same_placed, Option.bind_some, if_pos rfl, s2]
  rfl
end Go.Proofs.YtpeelghbhihgkaaDoor.T
namespace Go.Proofs.YtpeelghbhihgkaaDoor.K
open Go Go.Proofs Go.ChangeShapes Go.WideShapes Go.RowKit
def mem (w : World) : Store := fun k => w.heap[k]?
theorem agr_mem (w : World) : Agr (mem w) w := fun _ _ h => h
theorem mem_cell {w : World} {g i : Nat} {v : Value} (h : w.cell? ⟨g, i, none⟩ = some v) : (mem w).cell g i = some v := by
  unfold World.cell? at h
  unfold Store.cell mem
  cases hm : w.heap[g]? with
  | none => simp [hm] at h
  | some o => cases o <;> simp_all
theorem wf_in {k : IntKind} {n : Int} (h : (Lit.int k n).wf = true) : InR k n := by
  cases k <;> simp [Lit.wf, IntKind.min, IntKind.max, IntKind.signed, IntKind.bits] at h <;> simp [InR] <;> omega
section
variable {H : Type} {enc : TypeId × Value → H} {P : Program} {w : World} {base : Nat} {spare : Nat → Bool} {held : Bool} {t e : TypeId}
def Rd (enc : TypeId × Value → H) (P : Program) (w : World) (base : Nat) (spare : Nat → Bool) (held : Bool) (t : TypeId) (R : List Value → Prop) : Prop :=
  ∀ fuel cs x, DataW.trod enc P w base spare held fuel t cs = some x → R cs
theorem rd_int {k : IntKind} (ht : P.underlying t = some (.int k)) : Rd enc P w base spare held t (fun c => ∃ n, RI k n c) := by
  intro fuel cs x h
  obtain ⟨n, rfl, _, hw⟩ := DataW.trod_int ht h
  exact ⟨n, rfl, wf_in hw⟩
theorem els_of {α : Type} {RE : α → List Value → Prop} {sz : Nat} : ∀ {n : Nat} {Q : Nat → Value → Prop}, (∀ i, i < n → ∃ x c, RE x c ∧ c.length = sz ∧ ∀ j v, c[j]? = some v → Q (i * sz + j) v) →
    ∃ xs cs, xs.length = n ∧ Els RE sz xs cs ∧ ∀ j v, cs[j]? = some v → Q j v
  | 0, _, _ => ⟨[], [], rfl, .nil, fun j v h => by simp at h⟩
  | n + 1, Q, f => by
    obtain ⟨x, c, h1, h2, h3⟩ := f 0 (by omega)
    obtain ⟨xs, cs, e1, e2, e3⟩ := els_of (n := n) (Q := fun m v => Q (sz + m) v) (fun i hi => by
      obtain ⟨x, c, h1, h2, h3⟩ := f (i + 1) (by omega)
      refine ⟨x, c, h1, h2, fun j v hj => ?_⟩
      have := h3 j v hj
      rwa [Nat.add_mul, Nat.one_mul, Nat.add_comm (i * sz), Nat.add_assoc] at this)
    refine ⟨x :: xs, c ++ cs, by simp [e1], .cons h1 h2 e2, fun j v hj => ?_⟩
    rcases Nat.lt_or_ge j c.length with h | h
    · rw [List.getElem?_append_left h] at hj
      simpa using h3 j v hj
    · rw [List.getElem?_append_right h] at hj
      have := e3 _ _ hj
      rwa [h2, Nat.add_sub_cancel' (by omega)] at this
theorem rd_slice {α : Type} {RE : α → List Value → Prop} {sz : Nat} (ht : P.underlying t = some (.slice e)) (hc : P.cellsOf e = sz) (h0 : 0 < sz) (hr : Rd enc P w base spare held e (fun c => ∃ x, RE x c)) :
    Rd enc P w base spare held t (fun c => ∃ v xs, c = [v] ∧ Slc RE sz (mem w) v xs) := by
  intro fuel cs x h
  rcases DataW.trod_slice ht h with ⟨rfl, _⟩ | ⟨a, len, cap, elems, rest, n, _, rfl, _, _, hl, hm, hlen, hel, _, _⟩
  · exact ⟨_, [], rfl, [], .nil, none, 0, rfl, Nat.le_refl _, Nat.zero_le _, fun h => absurd rfl h, fun h => absurd rfl h⟩
  have each0 : ∀ i, i < len → ∃ x c, RE x c ∧ c.length = sz ∧ ∀ j, j < sz → w.cell? ((a.add (i * sz)).add j) = c[j]? := by
    intro i hi
    have h1 := hel i hi
    rw [List.getElem?_eq_getElem (by omega), hc] at h1
    obtain ⟨c, hc1, hc2⟩ := Option.bind_eq_some_iff.1 h1
    obtain ⟨_, l1, l2⟩ := World.cells?_some hc1
    obtain ⟨x, hx⟩ := hr _ _ _ hc2
    exact ⟨x, c, hx, l1, l2⟩
  have hs : 0 < len → a.spot = none := by
    intro hp
    obtain ⟨x, c, _, l1, l2⟩ := each0 0 hp
    have h2 := (l2 0 h0).trans (List.getElem?_eq_getElem (by omega))
    simpa [Addr.add] using World.cell?_spot h2
  obtain ⟨b, off, spot⟩ := a
  simp only at hs
  have each : ∀ i, i < len → ∃ x c, RE x c ∧ c.length = sz ∧ ∀ j v, c[j]? = some v → (fun m v => w.cell? ⟨b, off + m, none⟩ = some v) (i * sz + j) v := by
    intro i hi
    obtain ⟨x, c, hx, l1, l2⟩ := each0 i hi
    refine ⟨x, c, hx, l1, fun j v hj => ?_⟩
    have hjl : j < sz := by
      have := (List.getElem?_eq_some_iff.1 hj).1
      omega
    have h2 := (l2 j hjl).trans hj
    rw [hs (by omega), add_plain, add_plain] at h2
    simpa [Nat.add_assoc] using h2
  obtain ⟨xs, cs, e1, e2, e3⟩ := els_of (RE := RE) (sz := sz) (Q := fun m v => w.cell? ⟨b, off + m, none⟩ = some v) each
  refine ⟨_, xs, rfl, cs, e2, some ⟨b, off, spot⟩, cap, by rw [e1], by omega, hm, fun hn => by rw [hs (by omega)]; rfl, fun hn j v hj => mem_cell (e3 j v hj)⟩
theorem rd_at {R : List Value → Prop} {v : Value} {d : DataW H} {ps : List MemPlace} (hr : Rd enc P w base spare held t R) (h : DataW.Trod enc P w base spare held t v d ps) : R v.cells.toList := by
  obtain ⟨fuel, hf⟩ := h
  exact hr _ _ _ hf
theorem at_slice {α : Type} {RE : α → List Value → Prop} {sz : Nat} {r : Reach} {b0 : Nat} {v : Value} {d : DataW H} {ps : List MemPlace} (ht : P.underlying t = some (.slice e)) (hval : Value.okWide P w r b0 t v)
    (hr : Rd enc P w base spare held t (fun c => ∃ v xs, c = [v] ∧ Slc RE sz (mem w) v xs)) (h : DataW.Trod enc P w base spare held t v d ps) : ∃ xs, Slc RE sz (mem w) v xs := by
  obtain ⟨a, len, cap, rfl⟩ := okWide_slice ht hval
  obtain ⟨u, xs, e1, h2⟩ := rd_at hr h
  simp [Value.cells] at e1
  subst e1
  exact ⟨xs, h2⟩
theorem again {W W' : World} {v : Value} {d : DataW H} {ps : List MemPlace} (hl : laidOutB P = true) (hr : P.readableRec t = true) (hrow : t < P.types.size) (h : DataW.Trod enc P W 0 (fun _ => true) true t v d ps) (hb : Below W.heap.size W W') :
    DataW.Trod enc P W' 0 (fun b => decide (b < W.heap.size)) true t v d ps :=
  Below.trod hl hr hrow h hb (fun p hp => let ⟨n, hn⟩ := h; DataW.trod_lt n _ _ _ hn p hp)
end
end Go.Proofs.YtpeelghbhihgkaaDoor.K
namespace Go.Proofs.YtpeelghbhihgkaaDoor.K
open Go Go.Proofs
set_option linter.unusedVariables false
theorem laid_each {P : Program} {W : World} : ∀ {l : List (String × DataW Unit)} {ps : List MemPlace}, DataW.LaidVars P W l ps → ∀ {n : String} {d : DataW Unit}, (n, d) ∈ l →
    ∃ g t cs fuel p, P.globalNamed n = some g ∧ (P.globals[g]?).map (·.type) = some t ∧ W.var? P n = some cs ∧ DataW.trod (fun _ => ()) P W 0 (fun _ => true) false fuel t cs.toList = some (d, p) ∧ ∀ x ∈ MemPlace.row ⟨g, 0, none⟩ cs.size ++ p, x ∈ ps
  | [], ps, h, n, d, hm => by cases hm
  | (m, e) :: r, ps, h, n, d, hm => by
    obtain ⟨g, t, cs, fuel, p, q, hg, ht, hv, hd, hr, rfl⟩ := h
    rcases List.mem_cons.1 hm with e1 | hm
    · cases e1
      exact ⟨g, t, cs, fuel, p, hg, ht, hv, hd, fun x hx => List.mem_append_left _ hx⟩
    · obtain ⟨g', t', cs', fuel', p', a1, a2, a3, a4, a5⟩ := laid_each hr hm
      exact ⟨g', t', cs', fuel', p', a1, a2, a3, a4, fun x hx => List.mem_append_right _ (a5 x hx)⟩
theorem sent_of_laid {P : Program} {W : World} {laid : List (String × DataW Unit)} {code : ByteArray → Nat} {n : String} {text : List UInt8} {g : Nat} {ti tp ta te ts : TypeId} {ms : Array (String × TypeId)} {f : Field}
    (h : laidMet P laid W) (hm : (n, .iface "*errors.errorString" (.ptr (.agg [.lit (.string text)]))) ∈ laid) (hg : P.globalNamed n = some g) (ht : (P.globals[g]?).map (·.type) = some ti)
    (hi : P.underlying ti = some (.interface ms)) (hrow : ∀ u, P.typeName? 3 u = some "*errors.errorString" → u = tp) (hp : P.underlying tp = some (.pointer te)) (he : P.underlying te = some (.struct #[f])) (hft : f.type = ts) (hfo : f.offset = 0) (hs : P.underlying ts = some .string) (hc : P.cellsOf te = 1) (hcs : P.cellsOf ts = 1)
    (hcode : ∀ s : ByteArray, s.data.toList = text → code s = g + 1) : ∃ v, ErV tp ta code (mem W) (.b (g + 1)) v := by
  obtain ⟨ps, hl, hnd, hrows⟩ := h
  obtain ⟨g', t', cs, fuel, p, a1, a2, a3, a4, a5⟩ := laid_each hl hm
  obtain rfl := Option.some.inj (hg.symm.trans a1)
  obtain rfl := Option.some.inj (ht.symm.trans a2)
  obtain ⟨l⟩ := cs
  have ok : ∀ u v, l = [.iface u v] → Value.okWide P W .any 0 u v := fun u v e => by
    subst e
    exact (hrows g 0 (a5 _ (by simp [MemPlace.row]))).2 u v (by simpa using World.var?_cell hg a3 0)
  obtain ⟨a, s, rfl, hcell, hst, hz, rfl⟩ := errorString_of_trod hi hrow hp he hft hfo hs hc hcs a4 ok
  obtain ⟨c, t, hb⟩ := (hrows a.block a.off (a5 _ (by simp [MemPlace.row]))).1
  refine ⟨.iface tp (.pointer (some a)), .inr ⟨by omega, mem_cell (by simpa using World.var?_cell hg a3 0), a, s, c, t, rfl, hb, hcode s hst, fun w hw => ?_⟩⟩
  have e : w.heap[a.block]? = W.heap[a.block]? := (hw _ _ hb).trans hb.symm
  unfold World.cell? at hcell ⊢
  rw [e]
  exact hcell
end Go.Proofs.YtpeelghbhihgkaaDoor.K
namespace Go.Proofs.YtpeelghbhihgkaaDoor.T
open Go Go.Proofs Go.Proofs.YtpeelghbhihgkaaDoor.K
set_option linter.unusedVariables false
set_option linter.unusedSimpArgs false
set_option maxRecDepth 100000
theorem own : ownKnob Tryd.prog.godebug = none := by kernel_rfl
noncomputable def low : Nat := (World.holding Tryd.prog default ⟨#[], #[], []⟩).heap.size
abbrev es0 : ByteArray := { data := #[110, 111, 116, 32, 97, 115, 32, 105, 116, 32, 104, 97, 115, 32, 116, 111, 32, 98, 101] }
abbrev es1 : ByteArray := { data := #[116, 111, 111, 32, 109, 97, 110, 121, 44, 32, 111, 114, 32, 116, 111, 111, 32, 102, 101, 119] }
abbrev es2 : ByteArray := { data := #[116, 111, 111, 32, 108, 111, 110, 103] }
abbrev es3 : ByteArray := { data := #[97, 32, 107, 101, 121, 32, 116, 104, 97, 116, 32, 100, 111, 101, 115, 32, 110, 111, 116, 32, 102, 105, 116] }
abbrev es4 : ByteArray := { data := #[97, 110, 32, 97, 109, 111, 117, 110, 116, 32, 116, 104, 97, 116, 32, 99, 97, 110, 39, 116, 32, 98, 101] }
abbrev es5 : ByteArray := { data := #[111, 110, 101, 32, 116, 104, 105, 110, 103, 32, 116, 119, 105, 99, 101] }
abbrev es6 : ByteArray := { data := #[97, 32, 110, 117, 109, 98, 101, 114, 32, 111, 117, 116, 32, 111, 102, 32, 105, 116, 115, 32, 114, 97, 110, 103, 101] }
abbrev es7 : ByteArray := { data := #[108, 101, 115, 115, 32, 99, 111, 109, 101, 115, 32, 105, 110, 32, 116, 104, 97, 110, 32, 103, 111, 101, 115, 32, 111, 117, 116] }
abbrev es8 : ByteArray := { data := #[105, 116, 32, 101, 110, 100, 115, 32, 116, 111, 111, 32, 101, 97, 114, 108, 121] }
abbrev es9 : ByteArray := { data := #[110, 111, 32, 102, 105, 114, 115, 116, 32, 116, 114, 97, 110, 115, 97, 99, 116, 105, 111, 110, 32, 119, 104, 101, 114, 101, 32, 116, 104, 101, 114, 101, 32, 104, 97, 115, 32, 116, 111, 32, 98, 101, 32, 111, 110, 101, 44, 32, 111, 114, 32, 111, 110, 101, 32, 119, 104, 101, 114, 101, 32, 116, 104, 101, 114, 101, 32, 109, 97, 121, 32, 98, 101, 32, 110, 111, 110, 101] }
abbrev es10 : ByteArray := { data := #[97, 32, 114, 111, 111, 116, 32, 116, 104, 97, 116, 32, 100, 111, 101, 115, 32, 110, 111, 116, 32, 102, 105, 116] }
abbrev es11 : ByteArray := { data := #[107, 110, 111, 119, 110, 32, 97, 108, 114, 101, 97, 100, 121] }
abbrev es12 : ByteArray := { data := #[110, 111, 32, 115, 117, 99, 104, 32, 112, 97, 114, 101, 110, 116] }
abbrev es13 : ByteArray := { data := #[98, 101, 104, 105, 110, 100, 32, 119, 104, 97, 116, 32, 105, 115, 32, 110, 111, 116, 32, 118, 97, 108, 105, 100] }
abbrev es14 : ByteArray := { data := #[97, 32, 116, 105, 109, 101, 32, 116, 104, 97, 116, 32, 105, 115, 32, 116, 111, 111, 32, 101, 97, 114, 108, 121] }
abbrev es15 : ByteArray := { data := #[97, 32, 99, 111, 105, 110, 32, 116, 104, 97, 116, 32, 105, 115, 32, 110, 111, 116, 32, 116, 104, 101, 114, 101] }
abbrev es16 : ByteArray := { data := #[97, 32, 99, 111, 105, 110, 32, 116, 104, 97, 116, 32, 105, 115, 32, 116, 111, 111, 32, 121, 111, 117, 110, 103] }
abbrev es17 : ByteArray := { data := #[116, 111, 111, 32, 101, 97, 114, 108, 121, 32, 116, 111, 32, 98, 101, 32, 116, 97, 107, 101, 110] }
abbrev es18 : ByteArray := { data := #[109, 111, 114, 101, 32, 116, 104, 97, 110, 32, 116, 104, 101, 32, 114, 101, 119, 97, 114, 100] }
abbrev es19 : ByteArray := { data := #[97, 32, 99, 111, 105, 110, 32, 116, 104, 97, 116, 32, 105, 115, 32, 115, 112, 101, 110, 116, 32, 105, 110, 32, 116, 104, 101, 32, 112, 111, 111, 108] }
abbrev es20 : ByteArray := { data := #[116, 111, 111, 32, 109, 97, 110, 121, 32, 116, 104, 97, 116, 32, 104, 97, 110, 103, 32, 116, 111, 103, 101, 116, 104, 101, 114] }
abbrev es21 : ByteArray := { data := #[116, 104, 101, 114, 101, 32, 105, 115, 32, 110, 111, 32, 114, 111, 111, 109] }
abbrev es22 : ByteArray := { data := #[116, 104, 101, 114, 101, 32, 105, 115, 32, 110, 111, 110, 101] }
abbrev es23 : ByteArray := { data := #[110, 111, 32, 115, 117, 99, 104, 32, 119, 111, 114, 100] }
abbrev es24 : ByteArray := { data := #[110, 111, 116, 32, 97, 32, 110, 117, 109, 98, 101, 114] }
def setC (v : Value) : Obj → Obj
  | .cells _ t frozen => .cells #[v] t frozen
  | x => x
noncomputable def laidWorld (os : Os) : World :=
  let w0 := World.holding Tryd.prog os ⟨#[.cells #[.string es0] 223, .cells #[.string es1] 223, .cells #[.string es2] 223, .cells #[.string es3] 223, .cells #[.string es4] 223, .cells #[.string es5] 223, .cells #[.string es6] 223, .cells #[.string es7] 223, .cells #[.string es8] 223, .cells #[.string es9] 223, .cells #[.string es10] 223, .cells #[.string es11] 223, .cells #[.string es12] 223, .cells #[.string es13] 223, .cells #[.string es14] 223, .cells #[.string es15] 223, .cells #[.string es16] 223, .cells #[.string es17] 223, .cells #[.string es18] 223, .cells #[.string es19] 223, .cells #[.string es20] 223, .cells #[.string es21] 223, .cells #[.string es22] 223, .cells #[.string es23] 223, .cells #[.string es24] 223], #[], []⟩
  { w0 with heap := (((((((((((((((((((((((((w0.heap.modify 0 (setC (.iface 206 (.pointer (some ⟨low + 0, 0, none⟩))))).modify 1 (setC (.iface 206 (.pointer (some ⟨low + 1, 0, none⟩))))).modify 2 (setC (.iface 206 (.pointer (some ⟨low + 2, 0, none⟩))))).modify 3 (setC (.iface 206 (.pointer (some ⟨low + 3, 0, none⟩))))).modify 4 (setC (.iface 206 (.pointer (some ⟨low + 4, 0, none⟩))))).modify 5 (setC (.iface 206 (.pointer (some ⟨low + 5, 0, none⟩))))).modify 6 (setC (.iface 206 (.pointer (some ⟨low + 6, 0, none⟩))))).modify 7 (setC (.iface 206 (.pointer (some ⟨low + 7, 0, none⟩))))).modify 8 (setC (.iface 206 (.pointer (some ⟨low + 8, 0, none⟩))))).modify 9 (setC (.iface 206 (.pointer (some ⟨low + 9, 0, none⟩))))).modify 10 (setC (.iface 206 (.pointer (some ⟨low + 10, 0, none⟩))))).modify 11 (setC (.iface 206 (.pointer (some ⟨low + 11, 0, none⟩))))).modify 12 (setC (.iface 206 (.pointer (some ⟨low + 12, 0, none⟩))))).modify 13 (setC (.iface 206 (.pointer (some ⟨low + 13, 0, none⟩))))).modify 14 (setC (.iface 206 (.pointer (some ⟨low + 14, 0, none⟩))))).modify 15 (setC (.iface 206 (.pointer (some ⟨low + 15, 0, none⟩))))).modify 16 (setC (.iface 206 (.pointer (some ⟨low + 16, 0, none⟩))))).modify 17 (setC (.iface 206 (.pointer (some ⟨low + 17, 0, none⟩))))).modify 18 (setC (.iface 206 (.pointer (some ⟨low + 18, 0, none⟩))))).modify 19 (setC (.iface 206 (.pointer (some ⟨low + 19, 0, none⟩))))).modify 20 (setC (.iface 206 (.pointer (some ⟨low + 20, 0, none⟩))))).modify 21 (setC (.iface 206 (.pointer (some ⟨low + 21, 0, none⟩))))).modify 22 (setC (.iface 206 (.pointer (some ⟨low + 22, 0, none⟩))))).modify 23 (setC (.iface 206 (.pointer (some ⟨low + 23, 0, none⟩))))).modify 24 (setC (.iface 206 (.pointer (some ⟨low + 24, 0, none⟩))))) }
theorem starE : "*" ++ "errors.errorString" = "*errors.errorString" := by decide
theorem rowE (u : TypeId) (h : Tryd.prog.typeName? 3 u = some "*errors.errorString") : u = 206 :=
  typeName_ptr_named (nm := "errors.errorString") (by rw [starE]; kernel_rfl) (by kernel_rfl) (by decide) u (by rw [starE]; exact h)
theorem ceE : Tryd.prog.cellsOf 223 = 1 := by kernel_rfl
theorem csE : Tryd.prog.cellsOf 9 = 1 := by kernel_rfl
theorem sent0 {W : World} {l : List (String × DataW Unit)} (h : laidMet Tryd.prog l W) (hm : ("sargasso/api.ErrShape", .iface "*errors.errorString" (.ptr (.agg [.lit (.string [110, 111, 116, 32, 97, 115, 32, 105, 116, 32, 104, 97, 115, 32, 116, 111, 32, 98, 101])]))) ∈ l) : ∃ v, ErS (mem W) v (Er.b 1) :=
  sent_of_laid h hm (by kernel_rfl) (by kernel_rfl) Tryd.underlying34 rowE Tryd.underlying206 Tryd.underlying223 rfl rfl Tryd.underlying9 ceE csE (fun s hs => by unfold errCode; rw [hs]; kernel_rfl)
theorem sent1 {W : World} {l : List (String × DataW Unit)} (h : laidMet Tryd.prog l W) (hm : ("sargasso/api.ErrMany", .iface "*errors.errorString" (.ptr (.agg [.lit (.string [116, 111, 111, 32, 109, 97, 110, 121, 44, 32, 111, 114, 32, 116, 111, 111, 32, 102, 101, 119])]))) ∈ l) : ∃ v, ErS (mem W) v (Er.b 2) :=
  sent_of_laid h hm (by kernel_rfl) (by kernel_rfl) Tryd.underlying34 rowE Tryd.underlying206 Tryd.underlying223 rfl rfl Tryd.underlying9 ceE csE (fun s hs => by unfold errCode; rw [hs]; kernel_rfl)
theorem sent2 {W : World} {l : List (String × DataW Unit)} (h : laidMet Tryd.prog l W) (hm : ("sargasso/api.ErrLong", .iface "*errors.errorString" (.ptr (.agg [.lit (.string [116, 111, 111, 32, 108, 111, 110, 103])]))) ∈ l) : ∃ v, ErS (mem W) v (Er.b 3) :=
  sent_of_laid h hm (by kernel_rfl) (by kernel_rfl) Tryd.underlying34 rowE Tryd.underlying206 Tryd.underlying223 rfl rfl Tryd.underlying9 ceE csE (fun s hs => by unfold errCode; rw [hs]; kernel_rfl)
theorem sent3 {W : World} {l : List (String × DataW Unit)} (h : laidMet Tryd.prog l W) (hm : ("sargasso/api.ErrKey", .iface "*errors.errorString" (.ptr (.agg [.lit (.string [97, 32, 107, 101, 121, 32, 116, 104, 97, 116, 32, 100, 111, 101, 115, 32, 110, 111, 116, 32, 102, 105, 116])]))) ∈ l) : ∃ v, ErS (mem W) v (Er.b 4) :=
  sent_of_laid h hm (by kernel_rfl) (by kernel_rfl) Tryd.underlying34 rowE Tryd.underlying206 Tryd.underlying223 rfl rfl Tryd.underlying9 ceE csE (fun s hs => by unfold errCode; rw [hs]; kernel_rfl)
theorem sent4 {W : World} {l : List (String × DataW Unit)} (h : laidMet Tryd.prog l W) (hm : ("sargasso/api.ErrValue", .iface "*errors.errorString" (.ptr (.agg [.lit (.string [97, 110, 32, 97, 109, 111, 117, 110, 116, 32, 116, 104, 97, 116, 32, 99, 97, 110, 39, 116, 32, 98, 101])]))) ∈ l) : ∃ v, ErS (mem W) v (Er.b 5) :=
  sent_of_laid h hm (by kernel_rfl) (by kernel_rfl) Tryd.underlying34 rowE Tryd.underlying206 Tryd.underlying223 rfl rfl Tryd.underlying9 ceE csE (fun s hs => by unfold errCode; rw [hs]; kernel_rfl)
theorem sent5 {W : World} {l : List (String × DataW Unit)} (h : laidMet Tryd.prog l W) (hm : ("sargasso/api.ErrTwice", .iface "*errors.errorString" (.ptr (.agg [.lit (.string [111, 110, 101, 32, 116, 104, 105, 110, 103, 32, 116, 119, 105, 99, 101])]))) ∈ l) : ∃ v, ErS (mem W) v (Er.b 6) :=
  sent_of_laid h hm (by kernel_rfl) (by kernel_rfl) Tryd.underlying34 rowE Tryd.underlying206 Tryd.underlying223 rfl rfl Tryd.underlying9 ceE csE (fun s hs => by unfold errCode; rw [hs]; kernel_rfl)
theorem sent6 {W : World} {l : List (String × DataW Unit)} (h : laidMet Tryd.prog l W) (hm : ("sargasso/api.ErrRange", .iface "*errors.errorString" (.ptr (.agg [.lit (.string [97, 32, 110, 117, 109, 98, 101, 114, 32, 111, 117, 116, 32, 111, 102, 32, 105, 116, 115, 32, 114, 97, 110, 103, 101])]))) ∈ l) : ∃ v, ErS (mem W) v (Er.b 7) :=
  sent_of_laid h hm (by kernel_rfl) (by kernel_rfl) Tryd.underlying34 rowE Tryd.underlying206 Tryd.underlying223 rfl rfl Tryd.underlying9 ceE csE (fun s hs => by unfold errCode; rw [hs]; kernel_rfl)
theorem sent7 {W : World} {l : List (String × DataW Unit)} (h : laidMet Tryd.prog l W) (hm : ("sargasso/api.ErrLess", .iface "*errors.errorString" (.ptr (.agg [.lit (.string [108, 101, 115, 115, 32, 99, 111, 109, 101, 115, 32, 105, 110, 32, 116, 104, 97, 110, 32, 103, 111, 101, 115, 32, 111, 117, 116])]))) ∈ l) : ∃ v, ErS (mem W) v (Er.b 8) :=
  sent_of_laid h hm (by kernel_rfl) (by kernel_rfl) Tryd.underlying34 rowE Tryd.underlying206 Tryd.underlying223 rfl rfl Tryd.underlying9 ceE csE (fun s hs => by unfold errCode; rw [hs]; kernel_rfl)
theorem sent8 {W : World} {l : List (String × DataW Unit)} (h : laidMet Tryd.prog l W) (hm : ("sargasso/api.ErrEnd", .iface "*errors.errorString" (.ptr (.agg [.lit (.string [105, 116, 32, 101, 110, 100, 115, 32, 116, 111, 111, 32, 101, 97, 114, 108, 121])]))) ∈ l) : ∃ v, ErS (mem W) v (Er.b 9) :=
  sent_of_laid h hm (by kernel_rfl) (by kernel_rfl) Tryd.underlying34 rowE Tryd.underlying206 Tryd.underlying223 rfl rfl Tryd.underlying9 ceE csE (fun s hs => by unfold errCode; rw [hs]; kernel_rfl)
theorem sent9 {W : World} {l : List (String × DataW Unit)} (h : laidMet Tryd.prog l W) (hm : ("sargasso/api.ErrBase", .iface "*errors.errorString" (.ptr (.agg [.lit (.string [110, 111, 32, 102, 105, 114, 115, 116, 32, 116, 114, 97, 110, 115, 97, 99, 116, 105, 111, 110, 32, 119, 104, 101, 114, 101, 32, 116, 104, 101, 114, 101, 32, 104, 97, 115, 32, 116, 111, 32, 98, 101, 32, 111, 110, 101, 44, 32, 111, 114, 32, 111, 110, 101, 32, 119, 104, 101, 114, 101, 32, 116, 104, 101, 114, 101, 32, 109, 97, 121, 32, 98, 101, 32, 110, 111, 110, 101])]))) ∈ l) : ∃ v, ErS (mem W) v (Er.b 10) :=
  sent_of_laid h hm (by kernel_rfl) (by kernel_rfl) Tryd.underlying34 rowE Tryd.underlying206 Tryd.underlying223 rfl rfl Tryd.underlying9 ceE csE (fun s hs => by unfold errCode; rw [hs]; kernel_rfl)
theorem sent10 {W : World} {l : List (String × DataW Unit)} (h : laidMet Tryd.prog l W) (hm : ("sargasso/api.ErrRoot", .iface "*errors.errorString" (.ptr (.agg [.lit (.string [97, 32, 114, 111, 111, 116, 32, 116, 104, 97, 116, 32, 100, 111, 101, 115, 32, 110, 111, 116, 32, 102, 105, 116])]))) ∈ l) : ∃ v, ErS (mem W) v (Er.b 11) :=
  sent_of_laid h hm (by kernel_rfl) (by kernel_rfl) Tryd.underlying34 rowE Tryd.underlying206 Tryd.underlying223 rfl rfl Tryd.underlying9 ceE csE (fun s hs => by unfold errCode; rw [hs]; kernel_rfl)
theorem sent11 {W : World} {l : List (String × DataW Unit)} (h : laidMet Tryd.prog l W) (hm : ("sargasso/api.ErrKnown", .iface "*errors.errorString" (.ptr (.agg [.lit (.string [107, 110, 111, 119, 110, 32, 97, 108, 114, 101, 97, 100, 121])]))) ∈ l) : ∃ v, ErS (mem W) v (Er.b 12) :=
  sent_of_laid h hm (by kernel_rfl) (by kernel_rfl) Tryd.underlying34 rowE Tryd.underlying206 Tryd.underlying223 rfl rfl Tryd.underlying9 ceE csE (fun s hs => by unfold errCode; rw [hs]; kernel_rfl)
theorem sent12 {W : World} {l : List (String × DataW Unit)} (h : laidMet Tryd.prog l W) (hm : ("sargasso/api.ErrParent", .iface "*errors.errorString" (.ptr (.agg [.lit (.string [110, 111, 32, 115, 117, 99, 104, 32, 112, 97, 114, 101, 110, 116])]))) ∈ l) : ∃ v, ErS (mem W) v (Er.b 13) :=
  sent_of_laid h hm (by kernel_rfl) (by kernel_rfl) Tryd.underlying34 rowE Tryd.underlying206 Tryd.underlying223 rfl rfl Tryd.underlying9 ceE csE (fun s hs => by unfold errCode; rw [hs]; kernel_rfl)
theorem sent13 {W : World} {l : List (String × DataW Unit)} (h : laidMet Tryd.prog l W) (hm : ("sargasso/api.ErrInvalid", .iface "*errors.errorString" (.ptr (.agg [.lit (.string [98, 101, 104, 105, 110, 100, 32, 119, 104, 97, 116, 32, 105, 115, 32, 110, 111, 116, 32, 118, 97, 108, 105, 100])]))) ∈ l) : ∃ v, ErS (mem W) v (Er.b 14) :=
  sent_of_laid h hm (by kernel_rfl) (by kernel_rfl) Tryd.underlying34 rowE Tryd.underlying206 Tryd.underlying223 rfl rfl Tryd.underlying9 ceE csE (fun s hs => by unfold errCode; rw [hs]; kernel_rfl)
theorem sent14 {W : World} {l : List (String × DataW Unit)} (h : laidMet Tryd.prog l W) (hm : ("sargasso/api.ErrTime", .iface "*errors.errorString" (.ptr (.agg [.lit (.string [97, 32, 116, 105, 109, 101, 32, 116, 104, 97, 116, 32, 105, 115, 32, 116, 111, 111, 32, 101, 97, 114, 108, 121])]))) ∈ l) : ∃ v, ErS (mem W) v (Er.b 15) :=
  sent_of_laid h hm (by kernel_rfl) (by kernel_rfl) Tryd.underlying34 rowE Tryd.underlying206 Tryd.underlying223 rfl rfl Tryd.underlying9 ceE csE (fun s hs => by unfold errCode; rw [hs]; kernel_rfl)
theorem sent15 {W : World} {l : List (String × DataW Unit)} (h : laidMet Tryd.prog l W) (hm : ("sargasso/api.ErrMissing", .iface "*errors.errorString" (.ptr (.agg [.lit (.string [97, 32, 99, 111, 105, 110, 32, 116, 104, 97, 116, 32, 105, 115, 32, 110, 111, 116, 32, 116, 104, 101, 114, 101])]))) ∈ l) : ∃ v, ErS (mem W) v (Er.b 16) :=
  sent_of_laid h hm (by kernel_rfl) (by kernel_rfl) Tryd.underlying34 rowE Tryd.underlying206 Tryd.underlying223 rfl rfl Tryd.underlying9 ceE csE (fun s hs => by unfold errCode; rw [hs]; kernel_rfl)
theorem sent16 {W : World} {l : List (String × DataW Unit)} (h : laidMet Tryd.prog l W) (hm : ("sargasso/api.ErrYoung", .iface "*errors.errorString" (.ptr (.agg [.lit (.string [97, 32, 99, 111, 105, 110, 32, 116, 104, 97, 116, 32, 105, 115, 32, 116, 111, 111, 32, 121, 111, 117, 110, 103])]))) ∈ l) : ∃ v, ErS (mem W) v (Er.b 17) :=
  sent_of_laid h hm (by kernel_rfl) (by kernel_rfl) Tryd.underlying34 rowE Tryd.underlying206 Tryd.underlying223 rfl rfl Tryd.underlying9 ceE csE (fun s hs => by unfold errCode; rw [hs]; kernel_rfl)
theorem sent17 {W : World} {l : List (String × DataW Unit)} (h : laidMet Tryd.prog l W) (hm : ("sargasso/api.ErrEarly", .iface "*errors.errorString" (.ptr (.agg [.lit (.string [116, 111, 111, 32, 101, 97, 114, 108, 121, 32, 116, 111, 32, 98, 101, 32, 116, 97, 107, 101, 110])]))) ∈ l) : ∃ v, ErS (mem W) v (Er.b 18) :=
  sent_of_laid h hm (by kernel_rfl) (by kernel_rfl) Tryd.underlying34 rowE Tryd.underlying206 Tryd.underlying223 rfl rfl Tryd.underlying9 ceE csE (fun s hs => by unfold errCode; rw [hs]; kernel_rfl)
theorem sent18 {W : World} {l : List (String × DataW Unit)} (h : laidMet Tryd.prog l W) (hm : ("sargasso/api.ErrReward", .iface "*errors.errorString" (.ptr (.agg [.lit (.string [109, 111, 114, 101, 32, 116, 104, 97, 110, 32, 116, 104, 101, 32, 114, 101, 119, 97, 114, 100])]))) ∈ l) : ∃ v, ErS (mem W) v (Er.b 19) :=
  sent_of_laid h hm (by kernel_rfl) (by kernel_rfl) Tryd.underlying34 rowE Tryd.underlying206 Tryd.underlying223 rfl rfl Tryd.underlying9 ceE csE (fun s hs => by unfold errCode; rw [hs]; kernel_rfl)
theorem sent19 {W : World} {l : List (String × DataW Unit)} (h : laidMet Tryd.prog l W) (hm : ("sargasso/api.ErrClash", .iface "*errors.errorString" (.ptr (.agg [.lit (.string [97, 32, 99, 111, 105, 110, 32, 116, 104, 97, 116, 32, 105, 115, 32, 115, 112, 101, 110, 116, 32, 105, 110, 32, 116, 104, 101, 32, 112, 111, 111, 108])]))) ∈ l) : ∃ v, ErS (mem W) v (Er.b 20) :=
  sent_of_laid h hm (by kernel_rfl) (by kernel_rfl) Tryd.underlying34 rowE Tryd.underlying206 Tryd.underlying223 rfl rfl Tryd.underlying9 ceE csE (fun s hs => by unfold errCode; rw [hs]; kernel_rfl)
theorem sent20 {W : World} {l : List (String × DataW Unit)} (h : laidMet Tryd.prog l W) (hm : ("sargasso/api.ErrLimit", .iface "*errors.errorString" (.ptr (.agg [.lit (.string [116, 111, 111, 32, 109, 97, 110, 121, 32, 116, 104, 97, 116, 32, 104, 97, 110, 103, 32, 116, 111, 103, 101, 116, 104, 101, 114])]))) ∈ l) : ∃ v, ErS (mem W) v (Er.b 21) :=
  sent_of_laid h hm (by kernel_rfl) (by kernel_rfl) Tryd.underlying34 rowE Tryd.underlying206 Tryd.underlying223 rfl rfl Tryd.underlying9 ceE csE (fun s hs => by unfold errCode; rw [hs]; kernel_rfl)
theorem sent21 {W : World} {l : List (String × DataW Unit)} (h : laidMet Tryd.prog l W) (hm : ("sargasso/api.ErrFull", .iface "*errors.errorString" (.ptr (.agg [.lit (.string [116, 104, 101, 114, 101, 32, 105, 115, 32, 110, 111, 32, 114, 111, 111, 109])]))) ∈ l) : ∃ v, ErS (mem W) v (Er.b 22) :=
  sent_of_laid h hm (by kernel_rfl) (by kernel_rfl) Tryd.underlying34 rowE Tryd.underlying206 Tryd.underlying223 rfl rfl Tryd.underlying9 ceE csE (fun s hs => by unfold errCode; rw [hs]; kernel_rfl)
theorem sent22 {W : World} {l : List (String × DataW Unit)} (h : laidMet Tryd.prog l W) (hm : ("sargasso/api.ErrNone", .iface "*errors.errorString" (.ptr (.agg [.lit (.string [116, 104, 101, 114, 101, 32, 105, 115, 32, 110, 111, 110, 101])]))) ∈ l) : ∃ v, ErS (mem W) v (Er.b 23) :=
  sent_of_laid h hm (by kernel_rfl) (by kernel_rfl) Tryd.underlying34 rowE Tryd.underlying206 Tryd.underlying223 rfl rfl Tryd.underlying9 ceE csE (fun s hs => by unfold errCode; rw [hs]; kernel_rfl)
theorem sent23 {W : World} {l : List (String × DataW Unit)} (h : laidMet Tryd.prog l W) (hm : ("sargasso/api.ErrWord", .iface "*errors.errorString" (.ptr (.agg [.lit (.string [110, 111, 32, 115, 117, 99, 104, 32, 119, 111, 114, 100])]))) ∈ l) : ∃ v, ErS (mem W) v (Er.b 24) :=
  sent_of_laid h hm (by kernel_rfl) (by kernel_rfl) Tryd.underlying34 rowE Tryd.underlying206 Tryd.underlying223 rfl rfl Tryd.underlying9 ceE csE (fun s hs => by unfold errCode; rw [hs]; kernel_rfl)
theorem sent24 {W : World} {l : List (String × DataW Unit)} (h : laidMet Tryd.prog l W) (hm : ("sargasso/api.ErrNumber", .iface "*errors.errorString" (.ptr (.agg [.lit (.string [110, 111, 116, 32, 97, 32, 110, 117, 109, 98, 101, 114])]))) ∈ l) : ∃ v, ErS (mem W) v (Er.b 25) :=
  sent_of_laid h hm (by kernel_rfl) (by kernel_rfl) Tryd.underlying34 rowE Tryd.underlying206 Tryd.underlying223 rfl rfl Tryd.underlying9 ceE csE (fun s hs => by unfold errCode; rw [hs]; kernel_rfl)
end Go.Proofs.YtpeelghbhihgkaaDoor.T
namespace Go.Proofs.YtpeelghbhihgkaaDoor.T
open Go Go.Proofs Go.Proofs.YtpeelghbhihgkaaDoor.K
set_option linter.unusedVariables false
set_option linter.unusedSimpArgs false
theorem laid : laidOutB Tryd.prog = true := by kernel_rfl
theorem rr3 : Tryd.prog.readableRec 3 = true := by kernel_rfl
theorem tr3 : 3 < Tryd.prog.types.size := of_decide_eq_true (by kernel_rfl)
theorem cl22 : Tryd.prog.cellsOf 22 = 1 := by kernel_rfl
theorem rr22 : Tryd.prog.readableRec 22 = true := by kernel_rfl
theorem tr22 : 22 < Tryd.prog.types.size := of_decide_eq_true (by kernel_rfl)
theorem rr42 : Tryd.prog.readableRec 42 = true := by kernel_rfl
theorem tr42 : 42 < Tryd.prog.types.size := of_decide_eq_true (by kernel_rfl)
section
variable {H : Type} {enc : TypeId × Value → H} {w : World} {base : Nat} {spare : Nat → Bool} {held : Bool}
theorem rd22 : Rd enc Tryd.prog w base spare held 22 (fun c => ∃ n, RI .u64 n c) := rd_int Tryd.underlying22
theorem rd42 : Rd enc Tryd.prog w base spare held 42 (fun c => ∃ v xs, c = [v] ∧ Slc (RI .u64) 1 (mem w) v xs) := rd_slice Tryd.underlying42 cl22 (by decide) rd22
end
end Go.Proofs.YtpeelghbhihgkaaDoor.T
namespace Go.Proofs.YtpeelghbhihgkaaDoor.J
open Go Go.Proofs
theorem words_cons : ∀ (w r : List Char), w.all (· != ' ') = true → wordsSigns (w ++ ' ' :: r) = w :: wordsSigns r
  | [], r, _ => rfl
  | c :: w, r, h => by
    simp only [List.all_cons, Bool.and_eq_true, bne_iff_ne, ne_eq] at h
    have ih := words_cons w r h.2
    rw [List.cons_append, wordsSigns, ih]
    exact fun e => h.1 e
set_option maxRecDepth 100000
def w0 : List Char := ['h', 'a', 'r', 'n', 'e', 's', 's']
def w1 : List Char := ['4', '4', 'c', '8', '7', '2', '5', '3', 'b', '6', 'd', '1', 'd', '6', '4', '9', 'e', 'a', '9', 'f', '3', '2', '0', '8', '1', 'a', '4', 'd', 'd', '5', 'f', 'b', 'f', 'f', '2', '1', '7', 'a', 'e', 'd', '9', 'a', 'b', '5', 'f', '6', '6', 'e', '5', 'b', '0', '9', '9', '1', 'c', '7', '7', 'e', 'b', '1', '8', 'b', '9', '7']
def w2 : List Char := ['c', 'u', 't']
def w3 : List Char := ['a', 't', ' ', 's', 'a', 'r', 'g', 'a', 's', 's', 'o', '/', 's', 'a', 'r', 'g', 'a', 's', 's', 'o', 'l', 'a', 'w', '2', '.', 'C', 'o', 'm', 'p', 'a', 'c', 't', 'B', 'a', 'c', 'k', ' ', 's', 'a', 'r', 'g', 'a', 's', 's', 'o', '/', 's', 'a', 'r', 'g', 'a', 's', 's', 'o', 'l', 'a', 'w', '2', '.', 'C', 'o', 'm', 'p', 'a', 'c', 't', 'F', 'e', 'w', 'e', 's', 't', ' ', 's', 'a', 'r', 'g', 'a', 's', 's', 'o', '/', 's', 'a', 'r', 'g', 'a', 's', 's', 'o', 'l', 'a', 'w', '2', '.', 'C', 'o', 'm', 'p', 'a', 'c', 't', 'R', 'o', 'w', 's', ' ', 's', 'a', 'r', 'g', 'a', 's', 's', 'o', '/', 's', 'a', 'r', 'g', 'a', 's', 's', 'o', 'l', 'a', 'w', '2', '.', 'C', 'o', 'm', 'p', 'a', 'c', 't', 'R', 'e', 'a', 'd', 's', ' ', 's', 'a', 'r', 'g', 'a', 's', 's', 'o', '/', 's', 'a', 'r', 'g', 'a', 's', 's', 'o', 'l', 'a', 'w', '2', '.', 'C', 'o', 'm', 'p', 'a', 'c', 't', 'S', 't', 'o', 'p', 's', ' ', 's', 'a', 'r', 'g', 'a', 's', 's', 'o', '/', 's', 'a', 'r', 'g', 'a', 's', 's', 'o', 'l', 'a', 'w', '4', '.', 'T', 'x', 'B', 'o', 'u', 'n', 'd', 's', ' ', 's', 'a', 'r', 'g', 'a', 's', 's', 'o', '/', 's', 'a', 'r', 'g', 'a', 's', 's', 'o', 'l', 'a', 'w', '4', '.', 'T', 'x', 'B', 'a', 's', 'e', 's', ' ', 's', 'a', 'r', 'g', 'a', 's', 's', 'o', '/', 's', 'a', 'r', 'g', 'a', 's', 's', 'o', 'l', 'a', 'w', '4', '.', 'T', 'x', 'B', 'a', 'c', 'k', ' ', 's', 'a', 'r', 'g', 'a', 's', 's', 'o', '/', 's', 'a', 'r', 'g', 'a', 's', 's', 'o', 'l', 'a', 'w', '4', '.', 'T', 'x', 'S', 'i', 'z', 'e', 's', ' ', 's', 'a', 'r', 'g', 'a', 's', 's', 'o', '/', 's', 'a', 'r', 'g', 'a', 's', 's', 'o', 'l', 'a', 'w', '4', '.', 'T', 'x', 'T', 'u', 'r', 'n', 'e', 'd', ' ', 's', 'a', 'r', 'g', 'a', 's', 's', 'o', '/', 's', 'a', 'r', 'g', 'a', 's', 's', 'o', 'l', 'a', 'w', '4', '.', 'T', 'x', 'S', 'a', 'y', 's', ' ', 's', 'a', 'r', 'g', 'a', 's', 's', 'o', '/', 's', 'a', 'r', 'g', 'a', 's', 's', 'o', 'l', 'a', 'w', '5', '.', 'H', 'e', 'a', 'd', 'W', 'o', 'r', 'k', ' ', 's', 'a', 'r', 'g', 'a', 's', 's', 'o', '/', 's', 'a', 'r', 'g', 'a', 's', 's', 'o', 'l', 'a', 'w', '5', '.', 'H', 'e', 'a', 'd', 'B', 'a', 'c', 'k', ' ', 's', 'a', 'r', 'g', 'a', 's', 's', 'o', '/', 's', 'a', 'r', 'g', 'a', 's', 's', 'o', 'l', 'a', 'w', '1', '5', '.', 'V', 'a', 'l', 'u', 'e', 'R', 'u', 'l', 'e', 's', ' ', 's', 'a', 'r', 'g', 'a', 's', 's', 'o', '/', 's', 'a', 'r', 'g', 'a', 's', 's', 'o', 'l', 'a', 'w', '1', '5', '.', 'V', 'a', 'l', 'u', 'e', 'K', 'e', 'e', 'p', 's', ' ', 's', 'a', 'r', 'g', 'a', 's', 's', 'o', '/', 's', 'a', 'r', 'g', 'a', 's', 's', 'o', 'l', 'a', 'w', '1', '5', '.', 'V', 'a', 'l', 'u', 'e', 'S', 'a', 'y', 's', ' ', 's', 'a', 'r', 'g', 'a', 's', 's', 'o', '/', 's', 'a', 'r', 'g', 'a', 's', 's', 'o', 'l', 'a', 'w', '2', '0', '.', 'N', 'o', 't', 'e', 's', 'C', 'a', 'p', ' ', 's', 'a', 'r', 'g', 'a', 's', 's', 'o', '/', 's', 'a', 'r', 'g', 'a', 's', 's', 'o', 'l', 'a', 'w', '2', '0', '.', 'N', 'o', 't', 'e', 's', 'P', 'l', 'a', 'y', ' ', 's', 'a', 'r', 'g', 'a', 's', 's', 'o', '/', 's', 'a', 'r', 'g', 'a', 's', 's', 'o', 'l', 'a', 'w', '2', '0', '.', 'N', 'o', 't', 'e', 's', 'O', 'p', 's']
theorem io0 : Tryd.prog.initOrder = String.ofList (w0 ++ ' ' :: (w1 ++ ' ' :: (w2 ++ ' ' :: w3))) := by kernel_rfl
theorem io : Tryd.prog.initOrder.toList = w0 ++ ' ' :: (w1 ++ ' ' :: (w2 ++ ' ' :: w3)) := (congrArg String.toList io0).trans String.toList_ofList
theorem ws : wordsSigns Tryd.prog.initOrder.toList = w0 :: w1 :: w2 :: wordsSigns w3 := by
  rw [io, words_cons _ _ (by kernel_rfl), words_cons _ _ (by kernel_rfl), words_cons _ _ (by kernel_rfl)]
theorem bm (R : List (List Char)) : behindMainWord (w0 :: w1 :: w2 :: R) = w2 :: R := by kernel_rfl
theorem main_of {P : Program} {R : List (List Char)} (h : wordsSigns P.initOrder.toList = w0 :: w1 :: R) : P.mainIs = some (true, w1) := by
  unfold Program.mainIs
  rw [h]
  kernel_rfl
theorem mainIs : Tryd.prog.mainIs = some (true, w1) := main_of ws
theorem bw : behindMainWord (wordsSigns Tryd.prog.initOrder.toList) = w2 :: wordsSigns w3 := by rw [ws, bm]
theorem st (R : List (List Char)) : stripLifts liftWords (w2 :: R) = ([], w2 :: R) := by kernel_rfl
theorem make_of {P : Program} {R : List (List Char)} (h : behindMainWord (wordsSigns P.initOrder.toList) = w2 :: R) : P.make = some .cut := by
  unfold Program.make
  rw [h]
  kernel_rfl
theorem head_of {P : Program} {R : List (List Char)} (h : behindMainWord (wordsSigns P.initOrder.toList) = w2 :: R) : P.headLifts = [] := by
  unfold Program.headLifts
  rw [h, st]
  kernel_rfl
theorem lifts_of {P : Program} {R : List (List Char)} (h : behindMainWord (wordsSigns P.initOrder.toList) = w2 :: R) : P.liftsFinal = false := by
  unfold Program.liftsFinal
  rw [h, head_of h]
  kernel_rfl
theorem may_of {P : Program} {R : List (List Char)} (h : behindMainWord (wordsSigns P.initOrder.toList) = w2 :: R) (h1 : P.laysLater = false) (h2 : P.bearsReflect = false) (h3 : P.doorFits [] = true) : P.mayEnter = true := by
  unfold Program.mayEnter
  rw [h]
  simp only [st, h1, h2, h3]
  kernel_rfl
theorem later : Tryd.prog.laysLater = false := by kernel_rfl
theorem reflect : Tryd.prog.bearsReflect = false := by kernel_rfl
theorem door : Tryd.prog.doorFits [] = true := by kernel_rfl
theorem make : Tryd.prog.make = some .cut := make_of bw
theorem lifts : Tryd.prog.liftsFinal = false := lifts_of bw
theorem may : Tryd.prog.mayEnter = true := may_of bw later reflect door
end Go.Proofs.YtpeelghbhihgkaaDoor.J
namespace Go.Proofs.YtpeelghbhihgkaaDoor.zValueKeeps
open Go Go.Proofs Go.Proofs.YtpeelghbhihgkaaDoor.K Go.Proofs.YtpeelghbhihgkaaDoor.T
open Go.ChangeShapes Go.WideShapes Go.ChangeAt Go.RowKit
set_option linter.unusedVariables false
theorem met (os : Os) (args : Array Value) : laidMetH Tryd.prog Rows.valueKeepsRow.laid ((laidWorld os).forCall (fun _ _ => 0) ⟨#[], args, []⟩).memory :=
  laidMetH_of_parts (laidMet_of_run' 8 (by kernel_rfl) (by kernel_rfl)) (by kernel_rfl)
set_option maxRecDepth 100000 in
theorem lifted (os : Os) (started : os.Started) (H : Type) (enc : TypeId × Value → H) :
    ReturnsInHanded {} Tryd.checked os 17 .any (fun w args => (Rows.valueKeepsSpec.pre enc Tryd.prog Tryd.f17 [] false w args ∧ laidMetH Tryd.prog Rows.valueKeepsRow.laid w) ∧ sizedMet enc Tryd.prog Tryd.f17 (OpenSpec.ofChange Rows.valueKeepsSpec) false w args) (Rows.valueKeepsSpec.post enc Tryd.prog Tryd.f17 false true false false) := by
  refine returnsInHanded_of_change_and (C := Tryd.checked) (X := fun w _ => laidMetH Tryd.prog Rows.valueKeepsRow.laid w) (fun _ _ _ hh h => h.of_heap hh) own started (by kernel_rfl) Tryd.func17
    (ChangeSpec.witness_at (enc := enc) (C := Tryd.checked) (os := os) (X := fun w _ => laidMetH Tryd.prog Rows.valueKeepsRow.laid w) false (laidWorld os) #[.slice none 0 0, .int .u64 0, .int .i64 0] 8 rfl (by kernel_rfl) (by kernel_rfl) (by kernel_rfl) (by kernel_rfl) (by kernel_rfl) (met os _)) ?_
  intro W base args ds gs before hval0 hW hcnd hsz0 hL _
  have hL : laidMet Tryd.prog Rows.valueKeepsRow.laid W := hL
  have hG : Gl (mem W) := ⟨sent0 hL (List.mem_of_getElem? (i := 1) rfl), sent1 hL (List.mem_of_getElem? (i := 3) rfl), sent2 hL (List.mem_of_getElem? (i := 2) rfl), sent3 hL (List.mem_of_getElem? (i := 13) rfl), sent4 hL (List.mem_of_getElem? (i := 4) rfl), sent5 hL (List.mem_of_getElem? (i := 5) rfl), sent6 hL (List.mem_of_getElem? (i := 21) rfl), sent7 hL (List.mem_of_getElem? (i := 16) rfl), sent8 hL (List.mem_of_getElem? (i := 0) rfl), sent9 hL (List.mem_of_getElem? (i := 6) rfl), sent10 hL (List.mem_of_getElem? (i := 7) rfl), sent11 hL (List.mem_of_getElem? (i := 8) rfl), sent12 hL (List.mem_of_getElem? (i := 9) rfl), sent13 hL (List.mem_of_getElem? (i := 10) rfl), sent14 hL (List.mem_of_getElem? (i := 11) rfl), sent15 hL (List.mem_of_getElem? (i := 12) rfl), sent16 hL (List.mem_of_getElem? (i := 14) rfl), sent17 hL (List.mem_of_getElem? (i := 15) rfl), sent18 hL (List.mem_of_getElem? (i := 17) rfl), sent19 hL (List.mem_of_getElem? (i := 18) rfl), sent20 hL (List.mem_of_getElem? (i := 19) rfl), sent21 hL (List.mem_of_getElem? (i := 20) rfl), sent22 hL (List.mem_of_getElem? (i := 22) rfl), sent23 hL (List.mem_of_getElem? (i := 23) rfl), sent24 hL (List.mem_of_getElem? (i := 24) rfl)⟩
  have hW' := hW
  obtain ⟨p, q, hA0, hV, rfl, hfz, hnd⟩ := hW
  have hA : DataW.TrodAll enc Tryd.prog W 0 (fun _ => true) true Tryd.f17.params.toList args.toList ds p := hA0
  have hval : ∀ (j : Nat) t v, Tryd.f17.params[j]? = some t → args[j]? = some v → Value.okWide Tryd.prog W .any base t v := hval0
  rw [Tryd.params17] at hA hval
  obtain ⟨v0, vs0, d0, ds0, p0, q0, hargs, rfl, rfl, h0, r0⟩ := trodAll_cons hA
  obtain ⟨v1, vs1, d1, ds1, p1, q1, rfl, rfl, rfl, h1, r1⟩ := trodAll_cons r0
  obtain ⟨v2, vs2, d2, ds2, p2, q2, rfl, rfl, rfl, h2, r2⟩ := trodAll_cons r1
  obtain ⟨rfl, rfl, rfl⟩ := trodAll_nil r2
  obtain rfl : args = #[v0, v1, v2] := by cases args; simp_all
  obtain ⟨rfl, rfl⟩ := trodVars_none hV
  obtain ⟨x0, w0⟩ := at_slice Tryd.underlying42 (hval 0 42 v0 rfl rfl) rd42 h0
  obtain ⟨x1, rfl, _, _, w1⟩ := open_int Tryd.underlying22 (hval 1 22 v1 rfl rfl) h1
  obtain ⟨x2, rfl, _, _, w2⟩ := open_int Tryd.underlying3 (hval 2 3 v2 rfl rfl) h2
  have hμ : Agr (mem W) W := agr_mem W
  have hm := sargassolaw15_ValueKeeps.m (mem W) x0 v0 w0 x1 (wf_in w1) x2 (wf_in w2)
  refine (sargassolaw15_ValueKeeps.c (mem W) W hμ x0 v0 w0 x1 (wf_in w1) x2 (wf_in w2) hG true hm).mono fun e W' ⟨v, he, hv, _, hI⟩ => ?_
  subst hv
  subst he
  have bel : Below W.heap.size W W' := hI.below
  exact ⟨_, rfl, _, _, _, [], _, [], hW', trodAll_mk1 (shut_bool Tryd.underlying4 _), (trodAll_cons_mk (again laid rr42 tr42 h0 bel) (trodAll_cons_mk (again laid rr22 tr22 h1 bel) (trodAll_cons_mk (again laid rr3 tr3 h2 bel) trodAll_mk0))), rfl, bel.frame _, fun h => by cases h⟩
theorem closed : joinedFacts Tryd.prog 17 Tryd.f17 Rows.valueKeepsSpec Rows.valueKeepsRow = true := by
  unfold joinedFacts
  rw [J.may, J.lifts, J.make]
  kernel_rfl
theorem over : Rows.valueKeepsRow.holds Tryd.pinned (OpenSpec.ofChange Rows.valueKeepsSpec) :=
  OpenClaim.holds_of_wide 17 Tryd.f17 rfl rfl rfl rfl rfl rfl rfl ⟨rfl, rfl, rfl, rfl, rfl⟩ rfl rfl rfl rfl rfl (by kernel_rfl) Tryd.func17 closed
    (of_decide_eq_true (by kernel_rfl)) (by unfold Func.isWrapper; first | (rw [if_pos (by decide +kernel)]; kernel_rfl) | (rw [if_neg (by decide +kernel)]; exact ⟨rfl, rfl⟩))
    (fun os started H enc _ => lifted os started H enc)
theorem card : Rows.ValueKeepsCardSaid :=
  Claim7.holds_tied_plain_at .later [] [.sentinel, .sentinel, .sentinel, .sentinel, .sentinel, .sentinel, .sentinel, .sentinel, .sentinel, .sentinel, .sentinel, .sentinel, .sentinel, .sentinel, .sentinel, .sentinel, .sentinel, .sentinel, .sentinel, .sentinel, .sentinel, .sentinel, .sentinel, .sentinel, .sentinel] true (true, "44c87253b6d1d649ea9f32081a4dd5fbff217aed9ab5f66e5b0991c77eb18b97") true
    over (fun _ h => by cases h) (by kernel_rfl) (fun _ h => by cases h) valueKeeps_row_tie rfl ⟨rfl, rfl⟩ (J.mainIs.trans (congrArg (fun s => some (true, s)) (by kernel_rfl))) rfl
    (fun f fn hf hfn => by
      obtain rfl : f = 17 := Option.some.inj ((show Tryd.prog.funcNamed "sargasso/sargassolaw15.ValueKeeps" = some 17 by kernel_rfl).symm.trans hf) |>.symm
      obtain rfl : fn = Tryd.f17 := (Option.some.inj (Tryd.func17.symm.trans hfn)).symm
      exact ⟨by kernel_rfl, fun j t ht => by
        rw [Tryd.params17] at ht
        rcases j with _ | _ | _ | j
        · obtain rfl : (42 : TypeId) = t := by simpa using ht
          exact (show Tryd.prog.wantsStandIn 42 = false by kernel_rfl)
        · obtain rfl : (22 : TypeId) = t := by simpa using ht
          exact (show Tryd.prog.wantsStandIn 22 = false by kernel_rfl)
        · obtain rfl : (3 : TypeId) = t := by simpa using ht
          exact (show Tryd.prog.wantsStandIn 3 = false by kernel_rfl)
        · simp at ht⟩)
    (by kernel_rfl)
end Go.Proofs.YtpeelghbhihgkaaDoor.zValueKeeps
namespace Go.Proofs.YtpeelghbhihgkaaDoor
theorem valueKeeps_holds : Rows.ValueKeepsCardSaid := zValueKeeps.card
#print axioms valueKeeps_holds
end Go.Proofs.YtpeelghbhihgkaaDoor
