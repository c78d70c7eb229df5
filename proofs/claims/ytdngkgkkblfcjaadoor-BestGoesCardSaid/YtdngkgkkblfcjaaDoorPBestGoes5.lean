/- Proved: the statement BestGoes, as given (its conditions are those of the given row, and card where there is one; no others): the call ends, with true, and the input reads as it did. This file is one of its parts. -/
import Derived.Test.YtdngkgkkblfcjaaDoorPBestGoes4
namespace Go.Proofs.YtdngkgkkblfcjaaDoor.T
open Go Go.Proofs Go.Proofs.YtdngkgkkblfcjaaDoor.K
set_option linter.unusedVariables false
set_option linter.unusedSimpArgs false
set_option maxRecDepth 20000 in
theorem tree_New.c (μ : Store) (w0 : World) (hμ : Agr μ w0) (x0 : Head) (hx0 : HeadW μ x0) (r : treeTree) (H : tree_New.f x0 = some r) :
    Calls Tryd.prog 17 [.agg [[.int .u32 x0.Version], av .u8 32 x0.Prev, av .u8 32 x0.Root, [.int .u32 x0.Time], [.int .u32 x0.Work], [.int .u32 x0.Nonce]].flatten.toArray].toArray w0 (fun e w' => ∃ v, e = .returned v ∧ ∃ (gq_1 : Nat) (gm_1 : Nat) (gs_1 : (List Int) → NG), v = .pointer (some ⟨gq_1, 0, none⟩) ∧ nw95 μ r.m gs_1 ∧ Arr .u8 32 r.start ∧ Iv w0 [] μ μ [cel gq_1 [[.map (some gm_1)], av .u8 32 r.start] 97, nd95 gm_1 r.m gs_1] w') := by
  refine enter Tryd.func17 rfl Tryd.ntmps17 rfl fun a hA => ?_
  have hI := Iv.start hμ
  have H := bI H
  refine w_seq fun _ hN1 => w_reg <| o_box [[.int .u32 x0.Version], av .u8 32 x0.Prev, av .u8 32 x0.Root, [.int .u32 x0.Time], [.int .u32 x0.Work], [.int .u32 x0.Nonce]] hI hA rfl rfl rfl fun g1 a w hA hI hg1 => 
    sta hA rfl rfl fun a hA => ?_
  refine o_nil <| hN1 _ _ <| w_seq fun _ hN2 => w_reg <| stp hA (r_ldA (j := 0) [] [[.int .u32 x0.Version], av .u8 32 x0.Prev, av .u8 32 x0.Root, [.int .u32 x0.Time], [.int .u32 x0.Work], [.int .u32 x0.Nonce]] [] Tryd.underlying28 rfl sz28 rfl hI rfl hA rfl rfl) rfl fun a hA => ?_
  obtain ⟨r1, hr1, H⟩ := bB H
  refine o_callp (u := .agg [av .u8 32 r1].flatten.toArray) cf49 hA rfl hI (head_ID.c μ _ hI.agr x0 ⟨hx0.1, hx0.2.1, hx0.2.2.1, hx0.2.2.2.1, hx0.2.2.2.2.1, hx0.2.2.2.2.2⟩ r1 hr1) rfl fun a w hz1 hI hA => 
    o_new [av .u8 32 (List.replicate 32 0)] zr26 hI hA rfl fun g2 a w hA hI hg2 => 
    o_st (j := 0) [] [av .u8 32 (List.replicate 32 0)] [av .u8 32 r1] [] sz26 rfl rfl (fl_cons (one_av _ _ _) fl_nil) hI rfl hA rfl rfl rfl rfl fun w hI => ?_
  refine o_nil <| hN2 _ _ <| w_seq fun _ hN3 => ?_
  refine w_anyS [] mo (fun w (h : Iv w0 [] μ μ [cel g2 [av .u8 32 r1] 26, cel g1 [[.int .u32 x0.Version], av .u8 32 x0.Prev, av .u8 32 x0.Root, [.int .u32 x0.Time], [.int .u32 x0.Work], [.int .u32 x0.Nonce]] 28] w) => (h.sl [0, 1] rfl : Iv w0 [] μ μ [cel g2 [av .u8 32 r1] 26, cel g1 [[.int .u32 x0.Version], av .u8 32 x0.Prev, av .u8 32 x0.Root, [.int .u32 x0.Time], [.int .u32 x0.Work], [.int .u32 x0.Nonce]] 28] w)) hI fun w hI => ?_
  refine gT 1 hA rfl hI (fun w hI => r_ldA (j := 0) [] [av .u8 32 r1] [] Tryd.underlying26 rfl sz26 rfl hI rfl hA rfl rfl) fun a hA => ?_
  refine gT 2 hA rfl hI (fun w hI => r_ldA (j := 1) [] [[.int .u32 x0.Version], av .u8 32 x0.Prev, av .u8 32 x0.Root, [.int .u32 x0.Time], [.int .u32 x0.Work], [.int .u32 x0.Nonce]] [] Tryd.underlying28 rfl sz28 rfl hI rfl hA rfl rfl) fun a hA => ?_
  refine gE 3 hA rfl (.inr hI) (fun _ => r_fd (k := 66) Tryd.underlying28 rfl sz24 hA rfl rfl) fun a hA => ?_
  refine gT 4 hA rfl hI (fun w hI => r_ld1 (j := 1) [[.int .u32 x0.Version], av .u8 32 x0.Prev, av .u8 32 x0.Root, [.int .u32 x0.Time]] [[.int .u32 x0.Nonce]] Tryd.underlying24 rfl hI rfl hA rfl rfl) fun a hA => ?_
  refine gE 5 hA rfl (.inr hI) (fun _ => r_conv Tryd.underlying24 Tryd.underlying34 hA rfl) fun a hA => ?_
  refine gT 10 hA rfl hI (fun w hI => r_ldA (j := 0) [] [av .u8 32 r1] [] Tryd.underlying26 rfl sz26 rfl hI rfl hA rfl rfl) fun a hA => ?_
  refine g_fork (i := 0) (is := [6]) (by kernel_rfl) (List.forall_mem_cons.2 ⟨⟨_, rfl, ?_⟩, (List.forall_mem_cons.2 ⟨⟨_, rfl, ?_⟩, List.forall_mem_nil _⟩)⟩)
  · skip
    refine o_mknd kv95 treeNodeC 94 26 32 (fun x => x.up.length) hI hA rfl fun g3 a w hI hA => ?_
    refine o_nil <| ⟨(.inr (hI.sl [1, 2] rfl)), ?_⟩
    refine gF 6 rfl ?_
    refine stp hA (r_bldS (cs := [[.int .u32 x0.Version], av .u8 32 x0.Prev, av .u8 32 x0.Root, [.int .u32 x0.Time], [.int .u32 x0.Work], [.int .u32 x0.Nonce], [.int .i64 0], [.int .u64 (IntKind.u64.wrap x0.Work)], [(.slice none 0 0)]].flatten.toArray) (pl := [(0, 68), (68, 1), (69, 1), (70, 1)]) zr94 Tryd.underlying94 ⟨rfl, sz28, rfl, sz3, rfl, sz34, rfl, sz62, trivial⟩ hA rfl (by kernel_rfl)) rfl fun a hA => ?_
    refine o_nil <| ⟨(.inr (hI.sl [1, 2] rfl)), ?_⟩
    refine gF 7 rfl ?_
    refine o_box [[.int .u32 x0.Version], av .u8 32 x0.Prev, av .u8 32 x0.Root, [.int .u32 x0.Time], [.int .u32 x0.Work], [.int .u32 x0.Nonce], [.int .i64 0], [.int .u64 (IntKind.u64.wrap x0.Work)], [(.slice none 0 0)]] hI hA rfl rfl rfl fun g4 a w hA hI hg4 => ?_
    refine o_nil <| ⟨(.inr (hI.sl [2, 3] rfl)), ?_⟩
    refine gF 8 rfl ?_
    have hI := hI.nilRow 26 32
    obtain ⟨hb1, H⟩ := bG H
    have hno1 := Option.isNone_iff_eq_none.1 hb1
    have hI : Iv w0 [] μ μ [cel g4 (treeNodeC ((⟨x0, 0, IntKind.u64.wrap x0.Work, ([] : List (List Int))⟩ : treeNode) : treeNode) (.slice none 0 0)) 94, row 26 32 (.slice none 0 0) ((⟨x0, 0, IntKind.u64.wrap x0.Work, ([] : List (List Int))⟩ : treeNode) : treeNode).up.length ([]), nd95 g3 ([] : List ((List Int) × treeNode)) (fun _ => (0, .pointer none, [])), cel g2 [av .u8 32 r1] 26, cel g1 [[.int .u32 x0.Version], av .u8 32 x0.Prev, av .u8 32 x0.Root, [.int .u32 x0.Time], [.int .u32 x0.Work], [.int .u32 x0.Nonce]] 28] w := hI.sl [1, 0, 2, 3, 4] rfl
    refine o_nins (NC := treeNodeC) (ln := fun x => x.up.length) (kv := kv95) g4 ((⟨x0, 0, IntKind.u64.wrap x0.Work, ([] : List (List Int))⟩ : treeNode) : treeNode) kn95 Tryd.underlying95 (NdW.nil : nw95 μ [] (fun _ => (0, .pointer none, []))).1 hz1 hno1 hI hA rfl rfl rfl fun w hI => ?_
    refine o_nil <| ⟨(.inr (hI.sl [1, 2] rfl)), ?_⟩
    refine gE 9 hA rfl (.inr (hI.sl [1, 2] rfl)) (fun _ => r_mv hA rfl) fun a hA => ?_
    refine gF 11 rfl ?_
    refine stp hA (r_bldS (cs := [[.map (some g3)], av .u8 32 r1].flatten.toArray) (pl := [(0, 1), (1, 32)]) zr97 Tryd.underlying97 ⟨rfl, sz95, rfl, sz26, trivial⟩ hA rfl ((fill_seg [] [[.map none]] [[.map (some g3)]] [av .u8 32 (List.replicate 32 0)] rfl rfl rfl rfl rfl).trans ((fill_seg [[.map (some g3)]] [av .u8 32 (List.replicate 32 0)] [av .u8 32 r1] [] rfl rfl rfl rfl rfl).trans (rfl)))) rfl fun a hA => ?_
    refine o_nil <| ⟨(.inr (hI.sl [1, 2] rfl)), ?_⟩
    refine gF 12 rfl ?_
    refine o_box [[.map (some g3)], av .u8 32 r1] hI hA rfl rfl rfl fun g5 a w hA hI hg5 => ?_
    refine o_nil <| ⟨(.inr (hI.sl [2, 3] rfl)), ?_⟩
    refine gE 13 hA rfl (.inr (hI.sl [2, 3] rfl)) (fun _ => r_as hA rfl) fun a hA => ?_
    refine gN <| hN3 _ _ <| w_ret ?_
    obtain rfl := sJ H
    exact ret1 hA Tryd.results17 rfl ⟨_, rfl, g5, g3, (gup (fun _ => (0, .pointer none, [])) r1 (g4, (.slice none 0 0), [])), rfl, (NdW.put (u := (g4, (.slice none 0 0), [])) (NdW.nil : nw95 μ [] (fun _ => (0, .pointer none, []))) hz1 ⟨⟨hx0.1, hx0.2.1, hx0.2.2.1, hx0.2.2.2.1, hx0.2.2.2.2.1, hx0.2.2.2.2.2⟩, (in_lit .i64 0 rfl), (wrap_in _ _), (Els.nil (RE := (RA .u8 32)) (sz := 32))⟩), hz1, ((hI.sl [0, 1] rfl).less (Store.le.refl _) hI.le)⟩
  · skip
    refine stp hA (r_bldS (cs := [[.int .u32 x0.Version], av .u8 32 x0.Prev, av .u8 32 x0.Root, [.int .u32 x0.Time], [.int .u32 x0.Work], [.int .u32 x0.Nonce], [.int .i64 0], [.int .u64 (IntKind.u64.wrap x0.Work)], [(.slice none 0 0)]].flatten.toArray) (pl := [(0, 68), (68, 1), (69, 1), (70, 1)]) zr94 Tryd.underlying94 ⟨rfl, sz28, rfl, sz3, rfl, sz34, rfl, sz62, trivial⟩ hA rfl (by kernel_rfl)) rfl fun a hA => ?_
    refine o_nil <| ⟨(.inr hI), ?_⟩
    refine g_fork (i := 0) (is := [7]) (by kernel_rfl) (List.forall_mem_cons.2 ⟨⟨_, rfl, ?_⟩, (List.forall_mem_cons.2 ⟨⟨_, rfl, ?_⟩, List.forall_mem_nil _⟩)⟩)
    · skip
      refine o_mknd kv95 treeNodeC 94 26 32 (fun x => x.up.length) hI hA rfl fun g3 a w hI hA => ?_
      refine o_nil <| ⟨(.inr (hI.sl [1, 2] rfl)), ?_⟩
      refine gF 7 rfl ?_
      refine o_box [[.int .u32 x0.Version], av .u8 32 x0.Prev, av .u8 32 x0.Root, [.int .u32 x0.Time], [.int .u32 x0.Work], [.int .u32 x0.Nonce], [.int .i64 0], [.int .u64 (IntKind.u64.wrap x0.Work)], [(.slice none 0 0)]] hI hA rfl rfl rfl fun g4 a w hA hI hg4 => ?_
      refine o_nil <| ⟨(.inr (hI.sl [2, 3] rfl)), ?_⟩
      refine gF 8 rfl ?_
      have hI := hI.nilRow 26 32
      obtain ⟨hb1, H⟩ := bG H
      have hno1 := Option.isNone_iff_eq_none.1 hb1
      have hI : Iv w0 [] μ μ [cel g4 (treeNodeC ((⟨x0, 0, IntKind.u64.wrap x0.Work, ([] : List (List Int))⟩ : treeNode) : treeNode) (.slice none 0 0)) 94, row 26 32 (.slice none 0 0) ((⟨x0, 0, IntKind.u64.wrap x0.Work, ([] : List (List Int))⟩ : treeNode) : treeNode).up.length ([]), nd95 g3 ([] : List ((List Int) × treeNode)) (fun _ => (0, .pointer none, [])), cel g2 [av .u8 32 r1] 26, cel g1 [[.int .u32 x0.Version], av .u8 32 x0.Prev, av .u8 32 x0.Root, [.int .u32 x0.Time], [.int .u32 x0.Work], [.int .u32 x0.Nonce]] 28] w := hI.sl [1, 0, 2, 3, 4] rfl
      refine o_nins (NC := treeNodeC) (ln := fun x => x.up.length) (kv := kv95) g4 ((⟨x0, 0, IntKind.u64.wrap x0.Work, ([] : List (List Int))⟩ : treeNode) : treeNode) kn95 Tryd.underlying95 (NdW.nil : nw95 μ [] (fun _ => (0, .pointer none, []))).1 hz1 hno1 hI hA rfl rfl rfl fun w hI => ?_
      refine o_nil <| ⟨(.inr (hI.sl [1, 2] rfl)), ?_⟩
      refine gE 9 hA rfl (.inr (hI.sl [1, 2] rfl)) (fun _ => r_mv hA rfl) fun a hA => ?_
      refine gF 11 rfl ?_
      refine stp hA (r_bldS (cs := [[.map (some g3)], av .u8 32 r1].flatten.toArray) (pl := [(0, 1), (1, 32)]) zr97 Tryd.underlying97 ⟨rfl, sz95, rfl, sz26, trivial⟩ hA rfl ((fill_seg [] [[.map none]] [[.map (some g3)]] [av .u8 32 (List.replicate 32 0)] rfl rfl rfl rfl rfl).trans ((fill_seg [[.map (some g3)]] [av .u8 32 (List.replicate 32 0)] [av .u8 32 r1] [] rfl rfl rfl rfl rfl).trans (rfl)))) rfl fun a hA => ?_
      refine o_nil <| ⟨(.inr (hI.sl [1, 2] rfl)), ?_⟩
      refine gF 12 rfl ?_
      refine o_box [[.map (some g3)], av .u8 32 r1] hI hA rfl rfl rfl fun g5 a w hA hI hg5 => ?_
      refine o_nil <| ⟨(.inr (hI.sl [2, 3] rfl)), ?_⟩
      refine gE 13 hA rfl (.inr (hI.sl [2, 3] rfl)) (fun _ => r_as hA rfl) fun a hA => ?_
      refine gN <| hN3 _ _ <| w_ret ?_
      obtain rfl := sJ H
      exact ret1 hA Tryd.results17 rfl ⟨_, rfl, g5, g3, (gup (fun _ => (0, .pointer none, [])) r1 (g4, (.slice none 0 0), [])), rfl, (NdW.put (u := (g4, (.slice none 0 0), [])) (NdW.nil : nw95 μ [] (fun _ => (0, .pointer none, []))) hz1 ⟨⟨hx0.1, hx0.2.1, hx0.2.2.1, hx0.2.2.2.1, hx0.2.2.2.2.1, hx0.2.2.2.2.2⟩, (in_lit .i64 0 rfl), (wrap_in _ _), (Els.nil (RE := (RA .u8 32)) (sz := 32))⟩), hz1, ((hI.sl [0, 1] rfl).less (Store.le.refl _) hI.le)⟩
    · skip
      refine o_box [[.int .u32 x0.Version], av .u8 32 x0.Prev, av .u8 32 x0.Root, [.int .u32 x0.Time], [.int .u32 x0.Work], [.int .u32 x0.Nonce], [.int .i64 0], [.int .u64 (IntKind.u64.wrap x0.Work)], [(.slice none 0 0)]] hI hA rfl rfl rfl fun g3 a w hA hI hg3 => ?_
      refine o_nil <| ⟨(.inr (hI.sl [1, 2] rfl)), ?_⟩
      refine gF 0 rfl ?_
      refine o_mknd kv95 treeNodeC 94 26 32 (fun x => x.up.length) hI hA rfl fun g4 a w hI hA => ?_
      refine o_nil <| ⟨(.inr (hI.sl [2, 3] rfl)), ?_⟩
      refine gF 8 rfl ?_
      have hI := hI.nilRow 26 32
      obtain ⟨hb1, H⟩ := bG H
      have hno1 := Option.isNone_iff_eq_none.1 hb1
      have hI : Iv w0 [] μ μ [cel g3 (treeNodeC ((⟨x0, 0, IntKind.u64.wrap x0.Work, ([] : List (List Int))⟩ : treeNode) : treeNode) (.slice none 0 0)) 94, row 26 32 (.slice none 0 0) ((⟨x0, 0, IntKind.u64.wrap x0.Work, ([] : List (List Int))⟩ : treeNode) : treeNode).up.length ([]), nd95 g4 ([] : List ((List Int) × treeNode)) (fun _ => (0, .pointer none, [])), cel g2 [av .u8 32 r1] 26, cel g1 [[.int .u32 x0.Version], av .u8 32 x0.Prev, av .u8 32 x0.Root, [.int .u32 x0.Time], [.int .u32 x0.Work], [.int .u32 x0.Nonce]] 28] w := hI.sl [2, 0, 1, 3, 4] rfl
      refine o_nins (NC := treeNodeC) (ln := fun x => x.up.length) (kv := kv95) g3 ((⟨x0, 0, IntKind.u64.wrap x0.Work, ([] : List (List Int))⟩ : treeNode) : treeNode) kn95 Tryd.underlying95 (NdW.nil : nw95 μ [] (fun _ => (0, .pointer none, []))).1 hz1 hno1 hI hA rfl rfl rfl fun w hI => ?_
      refine o_nil <| ⟨(.inr (hI.sl [1, 2] rfl)), ?_⟩
      refine gE 9 hA rfl (.inr (hI.sl [1, 2] rfl)) (fun _ => r_mv hA rfl) fun a hA => ?_
      refine gF 11 rfl ?_
      refine stp hA (r_bldS (cs := [[.map (some g4)], av .u8 32 r1].flatten.toArray) (pl := [(0, 1), (1, 32)]) zr97 Tryd.underlying97 ⟨rfl, sz95, rfl, sz26, trivial⟩ hA rfl ((fill_seg [] [[.map none]] [[.map (some g4)]] [av .u8 32 (List.replicate 32 0)] rfl rfl rfl rfl rfl).trans ((fill_seg [[.map (some g4)]] [av .u8 32 (List.replicate 32 0)] [av .u8 32 r1] [] rfl rfl rfl rfl rfl).trans (rfl)))) rfl fun a hA => ?_
      refine o_nil <| ⟨(.inr (hI.sl [1, 2] rfl)), ?_⟩
      refine gF 12 rfl ?_
      refine o_box [[.map (some g4)], av .u8 32 r1] hI hA rfl rfl rfl fun g5 a w hA hI hg5 => ?_
      refine o_nil <| ⟨(.inr (hI.sl [2, 3] rfl)), ?_⟩
      refine gE 13 hA rfl (.inr (hI.sl [2, 3] rfl)) (fun _ => r_as hA rfl) fun a hA => ?_
      refine gN <| hN3 _ _ <| w_ret ?_
      obtain rfl := sJ H
      exact ret1 hA Tryd.results17 rfl ⟨_, rfl, g5, g4, (gup (fun _ => (0, .pointer none, [])) r1 (g3, (.slice none 0 0), [])), rfl, (NdW.put (u := (g3, (.slice none 0 0), [])) (NdW.nil : nw95 μ [] (fun _ => (0, .pointer none, []))) hz1 ⟨⟨hx0.1, hx0.2.1, hx0.2.2.1, hx0.2.2.2.1, hx0.2.2.2.2.1, hx0.2.2.2.2.2⟩, (in_lit .i64 0 rfl), (wrap_in _ _), (Els.nil (RE := (RA .u8 32)) (sz := 32))⟩), hz1, ((hI.sl [0, 1] rfl).less (Store.le.refl _) hI.le)⟩
set_option maxRecDepth 20000 in
theorem tree_Tree_Start.c (μ : Store) (w0 : World) (hμ : Agr μ w0) (x0 : treeTree) (gm1 : Nat) (gs1 : (List Int) → NG) (g0 : Nat) (hp1 : nw95 μ x0.m gs1) (hp2 : Arr .u8 32 x0.start) (ho0 : Its μ w0 [cel g0 [[.map (some gm1)], av .u8 32 x0.start] 97, nd95 gm1 x0.m gs1]) (r : List Int) (H : tree_Tree_Start.f x0 = some r) :
    Calls Tryd.prog 27 [.pointer (some ⟨g0, 0, none⟩)].toArray w0 (fun e w' => ∃ v, e = .returned v ∧ v = .agg [av .u8 32 r].flatten.toArray ∧ Arr .u8 32 r ∧ Iv w0 (many [cel g0 [[.map (some gm1)], av .u8 32 x0.start] 97, nd95 gm1 x0.m gs1]).foot μ μ [cel g0 [[.map (some gm1)], av .u8 32 x0.start] 97, nd95 gm1 x0.m gs1] w') := by
  refine enter Tryd.func27 rfl Tryd.ntmps27 rfl fun a hA => ?_
  have hI := Iv.startN hμ ho0
  have H := bI H
  refine w_seq fun _ hN1 => w_reg <| o_new [av .u8 32 (List.replicate 32 0)] zr26 hI hA rfl fun g1 a w hA hI hg1 => ?_
  refine o_nil <| hN1 _ _ <| w_seq fun _ hN2 => w_reg <| stm hA rfl rfl fun a hA => 
    stp hA (r_nilc hA rfl) rfl fun a hA => 
    stp hA (r_fd (k := 1) Tryd.underlying97 rfl sz26 hA rfl rfl) rfl fun a hA => 
    stp hA (r_ldA (j := 1) [[.map (some gm1)]] [av .u8 32 x0.start] [] Tryd.underlying26 rfl sz26 rfl hI rfl hA rfl rfl) rfl fun a hA => 
    o_st (j := 0) [] [av .u8 32 (List.replicate 32 0)] [av .u8 32 x0.start] [] sz26 rfl rfl (fl_cons (one_av _ _ _) fl_nil) hI rfl hA rfl rfl rfl rfl fun w hI => ?_
  refine o_nil <| hN2 _ _ <| w_ret ?_
  obtain rfl := sJ H
  exact retc Tryd.underlying26 rfl sz26 rfl hI (j := 0) rfl hA Tryd.results27 rfl ⟨_, rfl, rfl, hp2, ((hI.sl [1, 2] rfl).less (Store.le.refl _) hI.le)⟩
set_option maxRecDepth 20000 in
theorem tree_Tree_Add.c (μ : Store) (w0 : World) (hμ : Agr μ w0) (x0 : treeTree) (gm1 : Nat) (gs1 : (List Int) → NG) (g0 : Nat) (hp1 : nw95 μ x0.m gs1) (hp2 : Arr .u8 32 x0.start) (ho0 : Its μ w0 [cel g0 [[.map (some gm1)], av .u8 32 x0.start] 97, nd95 gm1 x0.m gs1]) (x1 : Head) (hx1 : HeadW μ x1) (e4 : Value) (he4 : ErS μ e4 (Er.b 5)) (e5 : Value) (he5 : ErS μ e5 (Er.b 6)) (e6 : Value) (he6 : ErS μ e6 (Er.b 7)) (r : Er × treeTree) (H : tree_Tree_Add.f x0 x1 = some r) :
    Calls Tryd.prog 18 [.pointer (some ⟨g0, 0, none⟩), .agg [[.int .u32 x1.Version], av .u8 32 x1.Prev, av .u8 32 x1.Root, [.int .u32 x1.Time], [.int .u32 x1.Work], [.int .u32 x1.Nonce]].flatten.toArray].toArray w0 (fun e w' => ∃ v, e = .returned v ∧ ∃ (v0 : Value) (gm_1 : Nat) (gs_1 : (List Int) → NG) (μ' : Store), v = v0 ∧ ErS μ' v0 (r.1) ∧ nw95 μ' (r.2).m gs_1 ∧ Arr .u8 32 (r.2).start ∧ Iv w0 (many [cel g0 [[.map (some gm1)], av .u8 32 x0.start] 97, nd95 gm1 x0.m gs1]).foot μ μ' [cel g0 [[.map (some gm_1)], av .u8 32 ((r.2).start)] 97, nd95 gm_1 ((r.2).m) gs_1] w') := by
  refine enter Tryd.func18 rfl Tryd.ntmps18 rfl fun a hA => ?_
  have hI := Iv.startN hμ ho0
  have H := bI H
  refine w_seq fun _ hN1 => w_reg <| o_box [[.int .u32 x1.Version], av .u8 32 x1.Prev, av .u8 32 x1.Root, [.int .u32 x1.Time], [.int .u32 x1.Work], [.int .u32 x1.Nonce]] hI hA rfl rfl rfl fun g1 a w hA hI hg1 => 
    sta hA rfl rfl fun a hA => ?_
  refine o_nil <| hN1 _ _ <| w_seq fun _ hN2 => w_reg <| stp hA (r_ldA (j := 0) [] [[.int .u32 x1.Version], av .u8 32 x1.Prev, av .u8 32 x1.Root, [.int .u32 x1.Time], [.int .u32 x1.Work], [.int .u32 x1.Nonce]] [] Tryd.underlying28 rfl sz28 rfl hI rfl hA rfl rfl) rfl fun a hA => ?_
  obtain ⟨r1, hr1, H⟩ := bB H
  refine o_callp (u := .agg [av .u8 32 r1].flatten.toArray) cf49 hA rfl hI (head_ID.c μ _ hI.agr x1 ⟨hx1.1, hx1.2.1, hx1.2.2.1, hx1.2.2.2.1, hx1.2.2.2.2.1, hx1.2.2.2.2.2⟩ r1 hr1) rfl fun a w hz1 hI hA => 
    o_new [av .u8 32 (List.replicate 32 0)] zr26 hI hA rfl fun g2 a w hA hI hg2 => 
    o_st (j := 0) [] [av .u8 32 (List.replicate 32 0)] [av .u8 32 r1] [] sz26 rfl rfl (fl_cons (one_av _ _ _) fl_nil) hI rfl hA rfl rfl rfl rfl fun w hI => ?_
  refine o_nil <| hN2 _ _ <| w_seq fun _ hN3 => w_seq fun _ hN4 => ?_
  refine w_draw mo (by kernel_rfl) hI ?_
  refine qtp hA (fun _ hI => r_mv hA rfl) rfl fun a hA => 
    qtp hA (fun _ hI => r_nilc hA rfl) rfl fun a hA => 
    qtp hA (fun _ hI => r_fd (k := 0) Tryd.underlying97 rfl sz95 hA rfl rfl) rfl fun a hA => 
    qtp hA (fun _ hI => r_ld1 (j := 2) [] [av .u8 32 x0.start] Tryd.underlying95 rfl hI rfl hA rfl rfl) rfl fun a hA => 
    qtp hA (fun _ hI => r_ldA (j := 0) [] [av .u8 32 r1] [] Tryd.underlying26 rfl sz26 rfl hI rfl hA rfl rfl) rfl fun a hA => 
    qtp hA (fun _ hI => r_nlook2 (j := 3) kn95 Tryd.underlying95 mz95 hp1.1 hz1 hI rfl hA rfl rfl) rfl fun a hA => 
    qtp hA (fun _ hI => r_mv hA rfl) rfl fun a hA => 
    qtp hA (fun _ hI => r_extr (vs := [pvn gs1 (lkn x0.m r1), .bool ((mget x0.m r1).isSome)]) hA rfl rfl) rfl fun a hA => 
    qtp hA (fun _ hI => r_extr (vs := [pvn gs1 (lkn x0.m r1), .bool ((mget x0.m r1).isSome)]) hA rfl rfl) rfl fun a hA => 
    qtp hA (fun _ hI => r_as hA rfl) rfl fun a hA => 
    qtp hA (fun _ hI => r_as hA rfl) rfl fun a hA => ?_
  refine q_nil fun w hI => ?_
  refine hN4 _ _ <| w_seq fun _ hN5 => w_reg <| stm hA rfl rfl fun a hA => ?_
  refine o_nil <| hN5 _ _ <| w_cond hA rfl (fun hc1 => ?_) (fun hc1 => ?_)
  · have H := bT H hc1
    refine w_seq fun _ hN6 => w_reg <| stp hA (r_ldG Tryd.underlying47 rfl hI.agr he4 hA) rfl fun a hA => 
      sta hA rfl rfl fun a hA => ?_
    refine o_nil <| hN6 _ _ <| w_ret ?_
    obtain rfl := sJ H
    exact ret1 hA Tryd.results18 rfl ⟨_, rfl, e4, gm1, gs1, μ, rfl, he4, hp1, hp2, (hI.sl [2, 3] rfl)⟩
  · have hc1 := ft hc1; have H := bF H hc1
    refine w_skip <| hN3 _ _ <| w_seq fun _ hN7 => ?_
    refine w_draw mo (by kernel_rfl) hI ?_
    refine qtp hA (fun _ hI => r_mv hA rfl) rfl fun a hA => 
      qtp hA (fun _ hI => r_nilc hA rfl) rfl fun a hA => 
      qtp hA (fun _ hI => r_fd (k := 0) Tryd.underlying97 rfl sz95 hA rfl rfl) rfl fun a hA => 
      qtp hA (fun _ hI => r_ld1 (j := 2) [] [av .u8 32 x0.start] Tryd.underlying95 rfl hI rfl hA rfl rfl) rfl fun a hA => 
      qtp hA (fun _ hI => r_fd (k := 1) Tryd.underlying28 rfl sz26 hA rfl rfl) rfl fun a hA => 
      qtp hA (fun _ hI => r_ldA (j := 1) [[.int .u32 x1.Version]] [av .u8 32 x1.Prev] [av .u8 32 x1.Root, [.int .u32 x1.Time], [.int .u32 x1.Work], [.int .u32 x1.Nonce]] Tryd.underlying26 rfl sz26 rfl hI rfl hA rfl rfl) rfl fun a hA => 
      qtp hA (fun _ hI => r_nlook2 (j := 3) kn95 Tryd.underlying95 mz95 hp1.1 hx1.2.1 hI rfl hA rfl rfl) rfl fun a hA => 
      qtp hA (fun _ hI => r_mv hA rfl) rfl fun a hA => 
      qtp hA (fun _ hI => r_extr (vs := [pvn gs1 (lkn x0.m x1.Prev), .bool ((mget x0.m x1.Prev).isSome)]) hA rfl rfl) rfl fun a hA => 
      qtp hA (fun _ hI => r_extr (vs := [pvn gs1 (lkn x0.m x1.Prev), .bool ((mget x0.m x1.Prev).isSome)]) hA rfl rfl) rfl fun a hA => 
      qtp hA (fun _ hI => r_as hA rfl) rfl fun a hA => 
      qtp hA (fun _ hI => r_as hA rfl) rfl fun a hA => ?_
    refine q_nil fun w hI => ?_
    refine hN7 _ _ <| w_seq fun _ hN8 => w_block <| w_seq fun _ hN9 => w_reg <| stm hA rfl rfl fun a hA => 
      stp hA (r_not hA rfl) rfl fun a hA => 
      sta hA rfl rfl fun a hA => ?_
    refine o_nil <| hN9 _ _ <| w_cond hA rfl (fun hc2 => ?_) (fun hc2 => ?_)
    · have hc2 := nT hc2; have hc2 := ft hc2; have H := bF H hc2
      refine w_seq fun _ hN10 => w_reg <| stp hA (r_ldG Tryd.underlying47 rfl hI.agr he5 hA) rfl fun a hA => 
        sta hA rfl rfl fun a hA => ?_
      refine o_nil <| hN10 _ _ <| w_ret ?_
      obtain rfl := sJ H
      exact ret1 hA Tryd.results18 rfl ⟨_, rfl, e5, gm1, gs1, μ, rfl, he5, hp1, hp2, (hI.sl [2, 3] rfl)⟩
    · have hc2 := nF hc2; have H := bT H hc2
      refine w_seq fun _ hN11 => w_reg <| stm hA rfl rfl fun a hA => 
        stp hA (r_nilc hA rfl) rfl fun a hA => 
        stp hA (r_fd (k := 0) Tryd.underlying97 rfl sz95 hA rfl rfl) rfl fun a hA => 
        stp hA (r_ld1 (j := 2) [] [av .u8 32 x0.start] Tryd.underlying95 rfl hI rfl hA rfl rfl) rfl fun a hA => 
        stp hA (r_nlen (j := 3) Tryd.underlying95 hI rfl hA rfl) rfl fun a hA => 
        stp hA (r_geq hA rfl rfl) rfl fun a hA => 
        sta hA rfl rfl fun a hA => ?_
      refine o_nil <| hN11 _ _ <| w_cond hA rfl (fun hc3 => ?_) (fun hc3 => ?_)
      · obtain ⟨hc3, H⟩ := dT H hc3
        refine w_seq fun _ hN12 => w_reg <| stp hA (r_ldG Tryd.underlying47 rfl hI.agr he6 hA) rfl fun a hA => 
          sta hA rfl rfl fun a hA => ?_
        refine o_nil <| hN12 _ _ <| w_ret ?_
        obtain rfl := sJ H
        exact ret1 hA Tryd.results18 rfl ⟨_, rfl, e6, gm1, gs1, μ, rfl, he6, hp1, hp2, (hI.sl [2, 3] rfl)⟩
      · obtain ⟨hc3, H⟩ := dF H hc3
        refine w_skip <| hN8 _ _ <| w_seq fun _ hN13 => ?_
        refine w_any [21] mo hI fun w hI => ?_
        refine gE 0 hA rfl (.inr hI) (fun _ => r_mv hA rfl) fun a hA => ?_
        refine gE 1 hA rfl (.inr hI) (fun _ => r_nilc hA rfl) fun a hA => ?_
        refine gE 2 hA rfl (.inr hI) (fun _ => r_fd (k := 0) Tryd.underlying97 rfl sz95 hA rfl rfl) fun a hA => ?_
        refine gT 3 hA rfl hI (fun w hI => r_ld1 (j := 2) [] [av .u8 32 x0.start] Tryd.underlying95 rfl hI rfl hA rfl rfl) fun a hA => ?_
        refine gT 4 hA rfl hI (fun w hI => r_ldA (j := 0) [] [av .u8 32 r1] [] Tryd.underlying26 rfl sz26 rfl hI rfl hA rfl rfl) fun a hA => ?_
        refine gT 5 hA rfl hI (fun w hI => r_ldA (j := 1) [] [[.int .u32 x1.Version], av .u8 32 x1.Prev, av .u8 32 x1.Root, [.int .u32 x1.Time], [.int .u32 x1.Work], [.int .u32 x1.Nonce]] [] Tryd.underlying28 rfl sz28 rfl hI rfl hA rfl rfl) fun a hA => ?_
        refine gE 6 hA rfl (.inr hI) (fun _ => r_mv hA rfl) fun a hA => ?_
        obtain ⟨nd1, hn1, H⟩ := bB H
        obtain ⟨kk1, ho1, hk1⟩ := nget_some hn1
        have hw1 : HeadW μ nd1.head := (NdW.at hp1 hk1).1
        refine gE 7 hA rfl (.inr hI) (fun _ => r_nilcN ho1 hA rfl) fun a hA => ?_
        refine gE 8 hA rfl (.inr hI) (fun _ => r_fd (k := 68) Tryd.underlying94 rfl sz3 hA rfl rfl) fun a hA => ?_
        refine gT 9 hA rfl hI (fun w hI => r_ld1 (j := 0) [[.int .u32 nd1.head.Version], av .u8 32 nd1.head.Prev, av .u8 32 nd1.head.Root, [.int .u32 nd1.head.Time], [.int .u32 nd1.head.Work], [.int .u32 nd1.head.Nonce]] [[.int .u64 nd1.work], [(gs1 kk1).2.1]] Tryd.underlying3 rfl ((hI.sl [3] rfl).focus hp1.1.2 hk1) rfl hA rfl rfl) fun a hA => ?_
        refine gE 10 hA rfl (.inr hI) (fun _ => r_add hA rfl rfl) fun a hA => ?_
        refine gE 11 hA rfl (.inr hI) (fun _ => r_mv hA rfl) fun a hA => ?_
        refine gE 12 hA rfl (.inr hI) (fun _ => r_nilcN ho1 hA rfl) fun a hA => ?_
        refine gE 13 hA rfl (.inr hI) (fun _ => r_fd (k := 69) Tryd.underlying94 rfl sz34 hA rfl rfl) fun a hA => ?_
        refine gT 14 hA rfl hI (fun w hI => r_ld1 (j := 0) [[.int .u32 nd1.head.Version], av .u8 32 nd1.head.Prev, av .u8 32 nd1.head.Root, [.int .u32 nd1.head.Time], [.int .u32 nd1.head.Work], [.int .u32 nd1.head.Nonce], [.int .i64 nd1.height]] [[(gs1 kk1).2.1]] Tryd.underlying34 rfl ((hI.sl [3] rfl).focus hp1.1.2 hk1) rfl hA rfl rfl) fun a hA => ?_
        refine gE 15 hA rfl (.inr hI) (fun _ => r_fd (k := 66) Tryd.underlying28 rfl sz24 hA rfl rfl) fun a hA => ?_
        refine gT 16 hA rfl hI (fun w hI => r_ld1 (j := 1) [[.int .u32 x1.Version], av .u8 32 x1.Prev, av .u8 32 x1.Root, [.int .u32 x1.Time]] [[.int .u32 x1.Nonce]] Tryd.underlying24 rfl hI rfl hA rfl rfl) fun a hA => ?_
        refine gE 17 hA rfl (.inr hI) (fun _ => r_conv Tryd.underlying24 Tryd.underlying34 hA rfl) fun a hA => ?_
        refine gE 18 hA rfl (.inr hI) (fun _ => r_add hA rfl rfl) fun a hA => ?_
        refine gF 19 rfl ?_
        refine stp hA (r_bldS (cs := [[.int .u32 x1.Version], av .u8 32 x1.Prev, av .u8 32 x1.Root, [.int .u32 x1.Time], [.int .u32 x1.Work], [.int .u32 x1.Nonce], [.int .i64 (IntKind.i64.wrap (nd1.height + 1))], [.int .u64 (IntKind.u64.wrap (nd1.work + (IntKind.u64.wrap x1.Work)))], [(.slice none 0 0)]].flatten.toArray) (pl := [(0, 68), (68, 1), (69, 1), (70, 1)]) zr94 Tryd.underlying94 ⟨rfl, sz28, rfl, sz3, rfl, sz34, rfl, sz62, trivial⟩ hA rfl (by kernel_rfl)) rfl fun a hA => ?_
        refine o_nil <| ⟨(.inr hI), ?_⟩
        refine gF 20 rfl ?_
        refine o_box [[.int .u32 x1.Version], av .u8 32 x1.Prev, av .u8 32 x1.Root, [.int .u32 x1.Time], [.int .u32 x1.Work], [.int .u32 x1.Nonce], [.int .i64 (IntKind.i64.wrap (nd1.height + 1))], [.int .u64 (IntKind.u64.wrap (nd1.work + (IntKind.u64.wrap x1.Work)))], [(.slice none 0 0)]] hI hA rfl rfl rfl fun g3 a w hA hI hg3 => ?_
        refine o_nil <| ⟨(.inr (hI.sl [1, 2, 3, 4] rfl)), ?_⟩
        refine gF 21 rfl ?_
        have hI := hI.nilRow 26 32
        obtain ⟨hb1, H⟩ := bG H
        have hno1 := Option.isNone_iff_eq_none.1 hb1
        have hI : Iv w0 (many [cel g0 [[.map (some gm1)], av .u8 32 x0.start] 97, nd95 gm1 x0.m gs1]).foot μ μ [cel g3 (treeNodeC ((⟨x1, IntKind.i64.wrap (nd1.height + 1), IntKind.u64.wrap (nd1.work + (IntKind.u64.wrap x1.Work)), ([] : List (List Int))⟩ : treeNode) : treeNode) (.slice none 0 0)) 94, row 26 32 (.slice none 0 0) ((⟨x1, IntKind.i64.wrap (nd1.height + 1), IntKind.u64.wrap (nd1.work + (IntKind.u64.wrap x1.Work)), ([] : List (List Int))⟩ : treeNode) : treeNode).up.length ([]), nd95 gm1 x0.m gs1, cel g2 [av .u8 32 r1] 26, cel g1 [[.int .u32 x1.Version], av .u8 32 x1.Prev, av .u8 32 x1.Root, [.int .u32 x1.Time], [.int .u32 x1.Work], [.int .u32 x1.Nonce]] 28, cel g0 [[.map (some gm1)], av .u8 32 x0.start] 97] w := hI.sl [1, 0, 5, 2, 3, 4] rfl
        refine o_nput (NC := treeNodeC) (ln := fun x => x.up.length) (kv := kv95) g3 ((⟨x1, IntKind.i64.wrap (nd1.height + 1), IntKind.u64.wrap (nd1.work + (IntKind.u64.wrap x1.Work)), ([] : List (List Int))⟩ : treeNode) : treeNode) kn95 Tryd.underlying95 hp1.1 hz1 hno1 hI hA rfl rfl rfl fun w hI => ?_
        have hk2 : mget (mput x0.m r1 ((⟨x1, IntKind.i64.wrap (nd1.height + 1), IntKind.u64.wrap (nd1.work + (IntKind.u64.wrap x1.Work)), ([] : List (List Int))⟩ : treeNode) : treeNode)) kk1 = some nd1 := (mget_mput_ne (mget_ne_of hno1 hk1)).trans hk1
        have hgs1 : (gup gs1 r1 (g3, (.slice none 0 0), [])) kk1 = gs1 kk1 := (gup_ne (mget_ne_of hno1 hk1))
        refine o_nil <| ⟨(.inl (by kernel_rfl)), ?_⟩
        refine gN <| hN13 _ _ <| w_seq fun _ hN14 => ?_
        have hw2 : HeadW μ nd1.head := (NdW.atB hgs1 (NdW.put (u := (g3, (.slice none 0 0), [])) hp1 hz1 ⟨⟨hx1.1, hx1.2.1, hx1.2.2.1, hx1.2.2.2.1, hx1.2.2.2.2.1, hx1.2.2.2.2.2⟩, (wrap_in _ _), (wrap_in _ _), (Els.nil (RE := (RA .u8 32)) (sz := 32))⟩) hk2).1
        have hI : Iv w0 (many [cel g0 [[.map (some gm1)], av .u8 32 x0.start] 97, nd95 gm1 x0.m gs1]).foot μ μ [cel (gs1 kk1).1 [[.int .u32 nd1.head.Version], av .u8 32 nd1.head.Prev, av .u8 32 nd1.head.Root, [.int .u32 nd1.head.Time], [.int .u32 nd1.head.Work], [.int .u32 nd1.head.Nonce], [.int .i64 nd1.height], [.int .u64 nd1.work], [(gs1 kk1).2.1]] 94, row 26 32 ((gs1 kk1).2.1) nd1.up.length ((gs1 kk1).2.2), nr95 gm1 (mput x0.m r1 ((⟨x1, IntKind.i64.wrap (nd1.height + 1), IntKind.u64.wrap (nd1.work + (IntKind.u64.wrap x1.Work)), ([] : List (List Int))⟩ : treeNode) : treeNode)) (gup gs1 r1 (g3, (.slice none 0 0), [])) kk1, cel g2 [av .u8 32 r1] 26, cel g1 [[.int .u32 x1.Version], av .u8 32 x1.Prev, av .u8 32 x1.Root, [.int .u32 x1.Time], [.int .u32 x1.Work], [.int .u32 x1.Nonce]] 28, cel g0 [[.map (some gm1)], av .u8 32 x0.start] 97] w := Iv.focusB hgs1 (hI.sl [0, 1, 2, 3] rfl) (NdW.put (u := (g3, (.slice none 0 0), [])) hp1 hz1 ⟨⟨hx1.1, hx1.2.1, hx1.2.2.1, hx1.2.2.2.1, hx1.2.2.2.2.1, hx1.2.2.2.2.2⟩, (wrap_in _ _), (wrap_in _ _), (Els.nil (RE := (RA .u8 32)) (sz := 32))⟩).1.2 hk2
        refine w_any [7, 10] mo hI fun w hI => ?_
        refine gE 0 hA rfl (.inr hI) (fun _ => r_mv hA rfl) fun a hA => ?_
        refine gE 1 hA rfl (.inr hI) (fun _ => r_mv hA rfl) fun a hA => ?_
        refine gE 2 hA rfl (.inr hI) (fun _ => r_nilcN ho1 hA rfl) fun a hA => ?_
        refine gE 3 hA rfl (.inr hI) (fun _ => r_fd (k := 70) Tryd.underlying94 rfl sz62 hA rfl rfl) fun a hA => ?_
        refine gT 4 hA rfl hI (fun w hI => r_ld1 (j := 0) [[.int .u32 nd1.head.Version], av .u8 32 nd1.head.Prev, av .u8 32 nd1.head.Root, [.int .u32 nd1.head.Time], [.int .u32 nd1.head.Work], [.int .u32 nd1.head.Nonce], [.int .i64 nd1.height], [.int .u64 nd1.work]] [] Tryd.underlying62 rfl hI rfl hA rfl rfl) fun a hA => ?_
        refine gT 5 hA rfl hI (fun w hI => r_ldA (j := 3) [] [av .u8 32 r1] [] Tryd.underlying26 rfl sz26 rfl hI rfl hA rfl rfl) fun a hA => ?_
        refine gF 6 rfl ?_
        have hE1 : Els (RA .u8 32) 32 ([r1] : List (List Int)) _ := (Els.cons (c := [av .u8 32 r1].flatten) ⟨rfl, hz1⟩ rfl Els.nil)
        refine o_bsl ([av .u8 32 r1].flatten ++ ([])) te26 zr26 Tryd.underlying62 hI hA rfl rfl rfl rfl (by kernel_rfl) rfl fun g4 a w hA hI => ?_
        generalize hcs : ([av .u8 32 r1].flatten ++ ([]) : List Value) = cs1 at hE1 hI
        clear hcs
        refine o_nil <| ⟨(.inr (hI.sl [1, 2, 3, 4, 5, 6] rfl)), ?_⟩
        refine gF 7 rfl ?_
        obtain ⟨hb2, H⟩ := bG H
        have hE3 := ((NdW.atB hgs1 (NdW.put (u := (g3, (.slice none 0 0), [])) hp1 hz1 ⟨⟨hx1.1, hx1.2.1, hx1.2.2.1, hx1.2.2.2.1, hx1.2.2.2.2.1, hx1.2.2.2.2.2⟩, (wrap_in _ _), (wrap_in _ _), (Els.nil (RE := (RA .u8 32)) (sz := 32))⟩) hk2).2.2.2).app hE1
        refine o_appG (xs := (nd1.up : List (List Int))) (ys := (([r1] : List (List Int)) : List (List Int))) (M := 4398046511104) 2 te26 Tryd.underlying62 hI rfl hA rfl rfl (src_row hI (j := 0) rfl) hE1.len (hE1.ones (one_RA _ _)) hb2 rfl fun v1 a w hA hI => ?_
        refine o_nil <| ⟨(.inl (by kernel_rfl)), ?_⟩
        refine gE 8 hA rfl (.inl (by kernel_rfl)) (fun _ => r_nilcN ho1 hA rfl) fun a hA => ?_
        refine gE 9 hA rfl (.inl (by kernel_rfl)) (fun _ => r_fd (k := 70) Tryd.underlying94 rfl sz62 hA rfl rfl) fun a hA => ?_
        refine gF 10 rfl ?_
        have hone := own_one hI (j := 2) rfl
        have hcel := own_cell hI (j := 2) rfl
        refine o_st (j := 1) [[.int .u32 nd1.head.Version], av .u8 32 nd1.head.Prev, av .u8 32 nd1.head.Root, [.int .u32 nd1.head.Time], [.int .u32 nd1.head.Work], [.int .u32 nd1.head.Nonce], [.int .i64 nd1.height], [.int .u64 nd1.work]] [[(gs1 kk1).2.1]] [[v1]] [] sz62 rfl rfl (by intro c hc; simp at hc; subst hc; exact hone) hI rfl hA rfl rfl hcel rfl fun w hI => ?_
        refine o_nil <| ⟨(.inl (by kernel_rfl)), ?_⟩
        refine gN ?_
        have hI : Iv w0 (many [cel g0 [[.map (some gm1)], av .u8 32 x0.start] 97, nd95 gm1 x0.m gs1]).foot μ μ [cel (gs1 kk1).1 (treeNodeC ((⟨nd1.head, nd1.height, nd1.work, nd1.up ++ ([r1] : List (List Int))⟩ : treeNode) : treeNode) v1) 94, row 26 32 v1 ((⟨nd1.head, nd1.height, nd1.work, nd1.up ++ ([r1] : List (List Int))⟩ : treeNode) : treeNode).up.length (((gs1 kk1).2.2) ++ cs1), nr95 gm1 (mput x0.m r1 ((⟨x1, IntKind.i64.wrap (nd1.height + 1), IntKind.u64.wrap (nd1.work + (IntKind.u64.wrap x1.Work)), ([] : List (List Int))⟩ : treeNode) : treeNode)) (gup gs1 r1 (g3, (.slice none 0 0), [])) kk1, row 26 32 (.slice (some ⟨g4, 0, none⟩) 1 1) ([r1] : List (List Int)).length cs1, cel g2 [av .u8 32 r1] 26, cel g1 [[.int .u32 x1.Version], av .u8 32 x1.Prev, av .u8 32 x1.Root, [.int .u32 x1.Time], [.int .u32 x1.Work], [.int .u32 x1.Nonce]] 28, cel g0 [[.map (some gm1)], av .u8 32 x0.start] 97] w := hI.sl [1, 2, 3, 0, 4, 5, 6] rfl
        have hI : Iv w0 (many [cel g0 [[.map (some gm1)], av .u8 32 x0.start] 97, nd95 gm1 x0.m gs1]).foot μ μ [nd95 gm1 (nput (mput x0.m r1 ((⟨x1, IntKind.i64.wrap (nd1.height + 1), IntKind.u64.wrap (nd1.work + (IntKind.u64.wrap x1.Work)), ([] : List (List Int))⟩ : treeNode) : treeNode)) (lkn x0.m x1.Prev) ((⟨nd1.head, nd1.height, nd1.work, nd1.up ++ ([r1] : List (List Int))⟩ : treeNode) : treeNode)) (gup (gup gs1 r1 (g3, (.slice none 0 0), [])) kk1 ((gs1 kk1).1, v1, ((gs1 kk1).2.2) ++ cs1)), row 26 32 (.slice (some ⟨g4, 0, none⟩) 1 1) ([r1] : List (List Int)).length cs1, cel g2 [av .u8 32 r1] 26, cel g1 [[.int .u32 x1.Version], av .u8 32 x1.Prev, av .u8 32 x1.Root, [.int .u32 x1.Time], [.int .u32 x1.Work], [.int .u32 x1.Nonce]] 28, cel g0 [[.map (some gm1)], av .u8 32 x0.start] 97] w := Iv.unfocusB (NC := treeNodeC) (ln := fun x => x.up.length) (kv := kv95) (n1 := ((⟨nd1.head, nd1.height, nd1.work, nd1.up ++ ([r1] : List (List Int))⟩ : treeNode) : treeNode)) (congrArg Prod.fst hgs1) ho1 hI (NdW.put (u := (g3, (.slice none 0 0), [])) hp1 hz1 ⟨⟨hx1.1, hx1.2.1, hx1.2.2.1, hx1.2.2.2.1, hx1.2.2.2.2.1, hx1.2.2.2.2.2⟩, (wrap_in _ _), (wrap_in _ _), (Els.nil (RE := (RA .u8 32)) (sz := 32))⟩).1.2 hk2
        refine hN14 _ _ <| w_seq fun _ hN15 => w_reg <| sta hA rfl rfl fun a hA => ?_
        refine o_nil <| hN15 _ _ <| w_ret ?_
        obtain rfl := sJ H
        exact ret1 hA Tryd.results18 rfl ⟨_, rfl, .nilIface, gm1, (gup (gup gs1 r1 (g3, (.slice none 0 0), [])) kk1 ((gs1 kk1).1, v1, ((gs1 kk1).2.2) ++ cs1)), μ, rfl, erv_nil, (NdW.nput (u := ((gs1 kk1).1, v1, ((gs1 kk1).2.2) ++ cs1)) ho1 (NdW.put (u := (g3, (.slice none 0 0), [])) hp1 hz1 ⟨⟨hx1.1, hx1.2.1, hx1.2.2.1, hx1.2.2.2.1, hx1.2.2.2.2.1, hx1.2.2.2.2.2⟩, (wrap_in _ _), (wrap_in _ _), (Els.nil (RE := (RA .u8 32)) (sz := 32))⟩) (NdW.kw (NdW.put (u := (g3, (.slice none 0 0), [])) hp1 hz1 ⟨⟨hx1.1, hx1.2.1, hx1.2.2.1, hx1.2.2.2.1, hx1.2.2.2.2.1, hx1.2.2.2.2.2⟩, (wrap_in _ _), (wrap_in _ _), (Els.nil (RE := (RA .u8 32)) (sz := 32))⟩) hk2) ⟨⟨hw2.1, hw2.2.1, hw2.2.2.1, hw2.2.2.2.1, hw2.2.2.2.2.1, hw2.2.2.2.2.2⟩, (NdW.atB hgs1 (NdW.put (u := (g3, (.slice none 0 0), [])) hp1 hz1 ⟨⟨hx1.1, hx1.2.1, hx1.2.2.1, hx1.2.2.2.1, hx1.2.2.2.2.1, hx1.2.2.2.2.2⟩, (wrap_in _ _), (wrap_in _ _), (Els.nil (RE := (RA .u8 32)) (sz := 32))⟩) hk2).2.1, (NdW.atB hgs1 (NdW.put (u := (g3, (.slice none 0 0), [])) hp1 hz1 ⟨⟨hx1.1, hx1.2.1, hx1.2.2.1, hx1.2.2.2.1, hx1.2.2.2.2.1, hx1.2.2.2.2.2⟩, (wrap_in _ _), (wrap_in _ _), (Els.nil (RE := (RA .u8 32)) (sz := 32))⟩) hk2).2.2.1, hE3⟩), hp2, (hI.sl [4, 0] rfl)⟩
set_option maxRecDepth 20000 in
theorem tree_Tree_Head.c (μ : Store) (w0 : World) (hμ : Agr μ w0) (x0 : treeTree) (gm1 : Nat) (gs1 : (List Int) → NG) (g0 : Nat) (hp1 : nw95 μ x0.m gs1) (hp2 : Arr .u8 32 x0.start) (ho0 : Its μ w0 [cel g0 [[.map (some gm1)], av .u8 32 x0.start] 97, nd95 gm1 x0.m gs1]) (x1 : List Int) (hx1 : Arr .u8 32 x1) (r : Head × Bool) (H : tree_Tree_Head.f x0 x1 = some r) :
    Calls Tryd.prog 22 [.pointer (some ⟨g0, 0, none⟩), .agg [av .u8 32 x1].flatten.toArray].toArray w0 (fun e w' => ∃ v, e = .returned v ∧ v = .tuple #[.agg [[.int .u32 ((r.1).Version)], av .u8 32 ((r.1).Prev), av .u8 32 ((r.1).Root), [.int .u32 ((r.1).Time)], [.int .u32 ((r.1).Work)], [.int .u32 ((r.1).Nonce)]].flatten.toArray, .bool (r.2)] ∧ HeadW μ (r.1) ∧ True ∧ Iv w0 (many [cel g0 [[.map (some gm1)], av .u8 32 x0.start] 97, nd95 gm1 x0.m gs1]).foot μ μ [cel g0 [[.map (some gm1)], av .u8 32 x0.start] 97, nd95 gm1 x0.m gs1] w') := by
  refine enter Tryd.func22 rfl Tryd.ntmps22 rfl fun a hA => ?_
  have hI := Iv.startN hμ ho0
  have H := bI H
  refine w_seq fun _ hN1 => w_reg <| o_box [av .u8 32 x1] hI hA rfl rfl rfl fun g1 a w hA hI hg1 => 
    o_new [[.int .u32 0], av .u8 32 (List.replicate 32 0), av .u8 32 (List.replicate 32 0), [.int .u32 0], [.int .u32 0], [.int .u32 0]] zr28 hI hA rfl fun g2 a w hA hI hg2 => 
    sta hA rfl rfl fun a hA => ?_
  refine o_nil <| hN1 _ _ <| w_seq fun _ hN2 => w_seq fun _ hN3 => ?_
  refine w_draw mo (by kernel_rfl) hI ?_
  refine qtp hA (fun _ hI => r_mv hA rfl) rfl fun a hA => 
    qtp hA (fun _ hI => r_nilc hA rfl) rfl fun a hA => 
    qtp hA (fun _ hI => r_fd (k := 0) Tryd.underlying97 rfl sz95 hA rfl rfl) rfl fun a hA => 
    qtp hA (fun _ hI => r_ld1 (j := 2) [] [av .u8 32 x0.start] Tryd.underlying95 rfl hI rfl hA rfl rfl) rfl fun a hA => 
    qtp hA (fun _ hI => r_ldA (j := 1) [] [av .u8 32 x1] [] Tryd.underlying26 rfl sz26 rfl hI rfl hA rfl rfl) rfl fun a hA => 
    qtp hA (fun _ hI => r_nlook2 (j := 3) kn95 Tryd.underlying95 mz95 hp1.1 hx1 hI rfl hA rfl rfl) rfl fun a hA => 
    qtp hA (fun _ hI => r_mv hA rfl) rfl fun a hA => 
    qtp hA (fun _ hI => r_extr (vs := [pvn gs1 (lkn x0.m x1), .bool ((mget x0.m x1).isSome)]) hA rfl rfl) rfl fun a hA => 
    qtp hA (fun _ hI => r_extr (vs := [pvn gs1 (lkn x0.m x1), .bool ((mget x0.m x1).isSome)]) hA rfl rfl) rfl fun a hA => 
    qtp hA (fun _ hI => r_as hA rfl) rfl fun a hA => 
    qtp hA (fun _ hI => r_as hA rfl) rfl fun a hA => ?_
  refine q_nil fun w hI => ?_
  refine hN3 _ _ <| w_seq fun _ hN4 => w_reg <| stm hA rfl rfl fun a hA => ?_
  refine o_nil <| hN4 _ _ <| w_cond hA rfl (fun hc1 => ?_) (fun hc1 => ?_)
  · have H := bT H hc1
    refine w_seq fun _ hN5 => w_reg <| stm hA rfl rfl fun a hA => ?_
    obtain ⟨nd1, hn1, H⟩ := bB H
    obtain ⟨kk1, ho1, hk1⟩ := nget_some hn1
    have hw1 : HeadW μ nd1.head := (NdW.at hp1 hk1).1
    refine stp hA (r_nilcN ho1 hA rfl) rfl fun a hA => 
      stp hA (r_fd (k := 0) Tryd.underlying94 rfl sz28 hA rfl rfl) rfl fun a hA => 
      stp hA (r_ldA (j := 0) [] [[.int .u32 nd1.head.Version], av .u8 32 nd1.head.Prev, av .u8 32 nd1.head.Root, [.int .u32 nd1.head.Time], [.int .u32 nd1.head.Work], [.int .u32 nd1.head.Nonce]] [[.int .i64 nd1.height], [.int .u64 nd1.work], [(gs1 kk1).2.1]] Tryd.underlying28 rfl sz28 rfl ((hI.sl [3] rfl).focus hp1.1.2 hk1) rfl hA rfl rfl) rfl fun a hA => 
      o_st (j := 0) [] [[.int .u32 0], av .u8 32 (List.replicate 32 0), av .u8 32 (List.replicate 32 0), [.int .u32 0], [.int .u32 0], [.int .u32 0]] [[.int .u32 nd1.head.Version], av .u8 32 nd1.head.Prev, av .u8 32 nd1.head.Root, [.int .u32 nd1.head.Time], [.int .u32 nd1.head.Work], [.int .u32 nd1.head.Nonce]] [] sz28 rfl rfl (fl_cons (oneC rfl) (fl_cons (one_av _ _ _) (fl_cons (one_av _ _ _) (fl_cons (oneC rfl) (fl_cons (oneC rfl) (fl_cons (oneC rfl) fl_nil)))))) hI rfl hA rfl rfl rfl rfl fun w hI => 
      sta hA rfl rfl fun a hA => ?_
    refine o_nil <| hN5 _ _ <| w_ret ?_
    obtain rfl := sJ H
    exact retN hA Tryd.results22 (.cell rfl (cell_ld Tryd.underlying28 rfl sz28 rfl hI (j := 0) rfl) (.tmp rfl .nil)) ⟨_, rfl, rfl, ⟨hw1.1, hw1.2.1, hw1.2.2.1, hw1.2.2.2.1, hw1.2.2.2.2.1, hw1.2.2.2.2.2⟩, trivial, ((hI.sl [2, 3] rfl).less (Store.le.refl _) hI.le)⟩
  · have hc1 := ft hc1; have H := bF H hc1
    refine w_skip <| hN2 _ _ <| w_seq fun _ hN6 => w_reg <| stp hA (r_bldS (cs := [[.int .u32 0], av .u8 32 (List.replicate 32 0), av .u8 32 (List.replicate 32 0), [.int .u32 0], [.int .u32 0], [.int .u32 0]].flatten.toArray) (pl := [(0, 1), (1, 32), (33, 32), (65, 1), (66, 1), (67, 1)]) zr28 Tryd.underlying28 ⟨rfl, sz24, rfl, sz26, rfl, sz26, rfl, sz24, rfl, sz24, rfl, sz24, trivial⟩ hA rfl (by kernel_rfl)) rfl fun a hA => 
      o_st (j := 0) [] [[.int .u32 0], av .u8 32 (List.replicate 32 0), av .u8 32 (List.replicate 32 0), [.int .u32 0], [.int .u32 0], [.int .u32 0]] [[.int .u32 0], av .u8 32 (List.replicate 32 0), av .u8 32 (List.replicate 32 0), [.int .u32 0], [.int .u32 0], [.int .u32 0]] [] sz28 rfl rfl (fl_cons (oneC rfl) (fl_cons (one_av _ _ _) (fl_cons (one_av _ _ _) (fl_cons (oneC rfl) (fl_cons (oneC rfl) (fl_cons (oneC rfl) fl_nil)))))) hI rfl hA rfl rfl rfl rfl fun w hI => 
      sta hA rfl rfl fun a hA => ?_
    refine o_nil <| hN6 _ _ <| w_ret ?_
    obtain rfl := sJ H
    exact retN hA Tryd.results22 (.cell rfl (cell_ld Tryd.underlying28 rfl sz28 rfl hI (j := 0) rfl) (.tmp rfl .nil)) ⟨_, rfl, rfl, ⟨(in_lit .u32 0 rfl), (arr_zero _ _), (arr_zero _ _), (in_lit .u32 0 rfl), (in_lit .u32 0 rfl), (in_lit .u32 0 rfl)⟩, trivial, ((hI.sl [2, 3] rfl).less (Store.le.refl _) hI.le)⟩
set_option maxRecDepth 20000 in
theorem best_New.c (μ : Store) (w0 : World) (hμ : Agr μ w0) (x0 : treeTree) (gm1 : Nat) (gs1 : (List Int) → NG) (g0 : Nat) (hp1 : nw95 μ x0.m gs1) (hp2 : Arr .u8 32 x0.start) (ho0 : Its μ w0 [cel g0 [[.map (some gm1)], av .u8 32 x0.start] 97, nd95 gm1 x0.m gs1]) (r : bestMarks) (H : best_New.f x0 = some r) :
    Calls Tryd.prog 26 [.pointer (some ⟨g0, 0, none⟩)].toArray w0 (fun e w' => ∃ v, e = .returned v ∧ ∃ (gq_1 : Nat) (gm_1 : Nat), v = .pointer (some ⟨gq_1, 0, none⟩) ∧ mw104 r.bad ∧ Iv w0 (many [cel g0 [[.map (some gm1)], av .u8 32 x0.start] 97, nd95 gm1 x0.m gs1]).foot μ μ [cel gq_1 [[.pointer (some ⟨g0, 0, none⟩)], [.map (some gm_1)]] 106, mpI gm_1 (ent kv104 vv104 r.bad), cel g0 [[.map (some gm1)], av .u8 32 x0.start] 97, nd95 gm1 x0.m gs1] w') := by
  refine enter Tryd.func26 rfl Tryd.ntmps26 rfl fun a hA => ?_
  have hI := Iv.startN hμ ho0
  have H := bI H
  refine w_seq fun _ hN1 => w_reg <| sta hA rfl rfl fun a hA => ?_
  refine o_nil <| hN1 _ _ <| w_seq fun _ hN2 => w_reg <| stm hA rfl rfl fun a hA => 
    o_mkmap kv104 vv104 hI hA rfl fun g1 a w hI hA => 
    stp hA (r_bldS (cs := [[.pointer (some ⟨g0, 0, none⟩)], [.map (some g1)]].flatten.toArray) (pl := [(0, 1), (1, 1)]) zr106 Tryd.underlying106 ⟨rfl, sz58, rfl, sz104, trivial⟩ hA rfl ((fill_seg [] [[.pointer none]] [[.pointer (some ⟨g0, 0, none⟩)]] [[.map none]] rfl rfl rfl rfl rfl).trans ((fill_seg [[.pointer (some ⟨g0, 0, none⟩)]] [[.map none]] [[.map (some g1)]] [] rfl rfl rfl rfl rfl).trans (rfl)))) rfl fun a hA => 
    o_box [[.pointer (some ⟨g0, 0, none⟩)], [.map (some g1)]] hI hA rfl rfl rfl fun g2 a w hA hI hg2 => 
    sta hA rfl rfl fun a hA => ?_
  refine o_nil <| hN2 _ _ <| w_ret ?_
  obtain rfl := sJ H
  exact ret1 hA Tryd.results26 rfl ⟨_, rfl, g2, g1, rfl, mw_nil, (hI.less (Store.le.refl _) hI.le)⟩
set_option maxRecDepth 20000 in
theorem best_Marks_Bad.c (μ : Store) (w0 : World) (hμ : Agr μ w0) (x0 : bestMarks) (gp1 : Nat) (gm1 : Nat) (gs1 : (List Int) → NG) (gm2 : Nat) (g0 : Nat) (hp1 : nw95 μ x0.t.m gs1) (hp2 : Arr .u8 32 x0.t.start) (hp3 : mw104 x0.bad) (ho0 : Its μ w0 [cel g0 [[.pointer (some ⟨gp1, 0, none⟩)], [.map (some gm2)]] 106, cel gp1 [[.map (some gm1)], av .u8 32 x0.t.start] 97, nd95 gm1 x0.t.m gs1, mpI gm2 (ent kv104 vv104 x0.bad)]) (x1 : List Int) (hx1 : Arr .u8 32 x1) (r : Bool × bestMarks) (H : best_Marks_Bad.f x0 x1 = some r) :
    Calls Tryd.prog 28 [.pointer (some ⟨g0, 0, none⟩), .agg [av .u8 32 x1].flatten.toArray].toArray w0 (fun e w' => ∃ v, e = .returned v ∧ ∃ (gm_1 : Nat) (gs_1 : (List Int) → NG) (gm_2 : Nat), v = .bool (r.1) ∧ True ∧ nw95 μ (r.2).t.m gs_1 ∧ Arr .u8 32 (r.2).t.start ∧ mw104 (r.2).bad ∧ Iv w0 (many [cel g0 [[.pointer (some ⟨gp1, 0, none⟩)], [.map (some gm2)]] 106, cel gp1 [[.map (some gm1)], av .u8 32 x0.t.start] 97, nd95 gm1 x0.t.m gs1, mpI gm2 (ent kv104 vv104 x0.bad)]).foot μ μ [cel g0 [[.pointer (some ⟨gp1, 0, none⟩)], [.map (some gm_2)]] 106, cel gp1 [[.map (some gm_1)], av .u8 32 ((r.2).t.start)] 97, nd95 gm_1 ((r.2).t.m) gs_1, mpI gm_2 (ent kv104 vv104 ((r.2).bad))] w') := by
  refine enter Tryd.func28 rfl Tryd.ntmps28 rfl fun a hA => ?_
  have hI := Iv.startN hμ ho0
  have H := bI H
  refine w_seq fun _ hN1 => w_reg <| o_box [av .u8 32 x1] hI hA rfl rfl rfl fun g1 a w hA hI hg1 => 
    sta hA rfl rfl fun a hA => ?_
  refine o_nil <| hN1 _ _ <| w_seq fun _ hN2 => ?_
  obtain ⟨c1, hz1, Hk1⟩ := bB H
  refine w_cut (fun a w => Fr a 32 [(0, .pointer (some ⟨g0, 0, none⟩)), (3, .pointer (some ⟨g1, 0, none⟩)), (4, .bool false), (6, .bool c1)] ∧ Iv w0 (many [cel g0 [[.pointer (some ⟨gp1, 0, none⟩)], [.map (some gm2)]] 106, cel gp1 [[.map (some gm1)], av .u8 32 x0.t.start] 97, nd95 gm1 x0.t.m gs1, mpI gm2 (ent kv104 vv104 x0.bad)]).foot μ μ [cel g1 [av .u8 32 x1] 26, cel g0 [[.pointer (some ⟨gp1, 0, none⟩)], [.map (some gm2)]] 106, cel gp1 [[.map (some gm1)], av .u8 32 x0.t.start] 97, nd95 gm1 x0.t.m gs1, mpI gm2 (ent kv104 vv104 x0.bad)] w) ?_ ?_
  · have H := bI hz1
    refine w_anyS [] mo (fun w (h : Iv w0 (many [cel g0 [[.pointer (some ⟨gp1, 0, none⟩)], [.map (some gm2)]] 106, cel gp1 [[.map (some gm1)], av .u8 32 x0.t.start] 97, nd95 gm1 x0.t.m gs1, mpI gm2 (ent kv104 vv104 x0.bad)]).foot μ μ [cel g1 [av .u8 32 x1] 26, cel g0 [[.pointer (some ⟨gp1, 0, none⟩)], [.map (some gm2)]] 106, cel gp1 [[.map (some gm1)], av .u8 32 x0.t.start] 97, nd95 gm1 x0.t.m gs1, mpI gm2 (ent kv104 vv104 x0.bad)] w) => (h.sl [0, 1, 2, 3, 4] rfl : Iv w0 (many [cel g0 [[.pointer (some ⟨gp1, 0, none⟩)], [.map (some gm2)]] 106, cel gp1 [[.map (some gm1)], av .u8 32 x0.t.start] 97, nd95 gm1 x0.t.m gs1, mpI gm2 (ent kv104 vv104 x0.bad)]).foot μ μ [cel g1 [av .u8 32 x1] 26, cel g0 [[.pointer (some ⟨gp1, 0, none⟩)], [.map (some gm2)]] 106, cel gp1 [[.map (some gm1)], av .u8 32 x0.t.start] 97, nd95 gm1 x0.t.m gs1, mpI gm2 (ent kv104 vv104 x0.bad)] w)) hI fun w hI => ?_
    refine gE 0 hA rfl (.inr hI) (fun _ => r_mv hA rfl) fun a hA => ?_
    refine gE 1 hA rfl (.inr hI) (fun _ => r_nilc hA rfl) fun a hA => ?_
    refine gE 2 hA rfl (.inr hI) (fun _ => r_fd (k := 0) Tryd.underlying106 rfl sz58 hA rfl rfl) fun a hA => ?_
    refine gT 3 hA rfl hI (fun w hI => r_ld1 (j := 1) [] [[.map (some gm2)]] Tryd.underlying58 rfl hI rfl hA rfl rfl) fun a hA => ?_
    refine gT 4 hA rfl hI (fun w hI => r_ldA (j := 0) [] [av .u8 32 x1] [] Tryd.underlying26 rfl sz26 rfl hI rfl hA rfl rfl) fun a hA => ?_
    refine g_fork (i := 5) (is := [9]) (by kernel_rfl) (List.forall_mem_cons.2 ⟨⟨_, rfl, ?_⟩, (List.forall_mem_cons.2 ⟨⟨_, rfl, ?_⟩, List.forall_mem_nil _⟩)⟩)
    · skip
      obtain ⟨r1, hr1, H⟩ := bB H
      have hI := hI.sl [2, 3, 0, 1, 4] rfl
      refine o_call _ cf22 hA rfl (tree_Tree_Head.c μ _ hI.agr (⟨x0.t.m, x0.t.start⟩ : treeTree) gm1 gs1 gp1 hp1 hp2 (hI.handN 2) x1 hx1 r1 hr1) rfl fun v1 a w hz2 hA => ?_
      obtain ⟨rfl, hw1, hw2, hi1⟩ := hz2
      have hI := hI.back2 hi1
      refine o_nil <| ⟨(.inr (hI.sl [2, 3, 0, 1, 4] rfl)), ?_⟩
      refine gE 6 hA rfl (.inr (hI.sl [2, 3, 0, 1, 4] rfl)) (fun _ => r_mv hA rfl) fun a hA => ?_
      refine gE 7 hA rfl (.inr (hI.sl [2, 3, 0, 1, 4] rfl)) (fun _ => r_extr (vs := [.agg [[.int .u32 r1.1.Version], av .u8 32 r1.1.Prev, av .u8 32 r1.1.Root, [.int .u32 r1.1.Time], [.int .u32 r1.1.Work], [.int .u32 r1.1.Nonce]].flatten.toArray, .bool r1.2]) hA rfl rfl) fun a hA => ?_
      refine gE 8 hA rfl (.inr (hI.sl [2, 3, 0, 1, 4] rfl)) (fun _ => r_extr (vs := [.agg [[.int .u32 r1.1.Version], av .u8 32 r1.1.Prev, av .u8 32 r1.1.Root, [.int .u32 r1.1.Time], [.int .u32 r1.1.Work], [.int .u32 r1.1.Nonce]].flatten.toArray, .bool r1.2]) hA rfl rfl) fun a hA => ?_
      refine gF 9 rfl ?_
      refine o_new [[.int .u32 0], av .u8 32 (List.replicate 32 0), av .u8 32 (List.replicate 32 0), [.int .u32 0], [.int .u32 0], [.int .u32 0]] zr28 hI hA rfl fun g2 a w hA hI hg2 => ?_
      refine o_nil <| ⟨(.inr (hI.sl [3, 4, 1, 2, 5] rfl)), ?_⟩
      refine gF 10 rfl ?_
      refine o_st (j := 0) [] [[.int .u32 0], av .u8 32 (List.replicate 32 0), av .u8 32 (List.replicate 32 0), [.int .u32 0], [.int .u32 0], [.int .u32 0]] [[.int .u32 r1.1.Version], av .u8 32 r1.1.Prev, av .u8 32 r1.1.Root, [.int .u32 r1.1.Time], [.int .u32 r1.1.Work], [.int .u32 r1.1.Nonce]] [] sz28 rfl rfl (fl_cons (oneC rfl) (fl_cons (one_av _ _ _) (fl_cons (one_av _ _ _) (fl_cons (oneC rfl) (fl_cons (oneC rfl) (fl_cons (oneC rfl) fl_nil)))))) hI rfl hA rfl rfl rfl rfl fun w hI => ?_
      refine o_nil <| ⟨(.inr (hI.sl [3, 4, 1, 2, 5] rfl)), ?_⟩
      refine gE 11 hA rfl (.inr (hI.sl [3, 4, 1, 2, 5] rfl)) (fun _ => r_as hA rfl) fun a hA => ?_
      refine gN ?_
      cases sJ H
      exact ⟨hA.sub ⟨rfl, rfl, rfl, rfl, trivial⟩, (hI.sl [3, 4, 1, 2, 5] rfl)⟩
    · skip
      refine o_new [[.int .u32 0], av .u8 32 (List.replicate 32 0), av .u8 32 (List.replicate 32 0), [.int .u32 0], [.int .u32 0], [.int .u32 0]] zr28 hI hA rfl fun g2 a w hA hI hg2 => ?_
      refine o_nil <| ⟨(.inr (hI.sl [1, 2, 3, 4, 5] rfl)), ?_⟩
      refine gF 5 rfl ?_
      obtain ⟨r1, hr1, H⟩ := bB H
      have hI := hI.sl [3, 4, 0, 1, 2, 5] rfl
      refine o_call _ cf22 hA rfl (tree_Tree_Head.c μ _ hI.agr (⟨x0.t.m, x0.t.start⟩ : treeTree) gm1 gs1 gp1 hp1 hp2 (hI.handN 2) x1 hx1 r1 hr1) rfl fun v1 a w hz2 hA => ?_
      obtain ⟨rfl, hw1, hw2, hi1⟩ := hz2
      have hI := hI.back2 hi1
      refine o_nil <| ⟨(.inr (hI.sl [3, 4, 0, 1, 5] rfl)), ?_⟩
      refine gE 6 hA rfl (.inr (hI.sl [3, 4, 0, 1, 5] rfl)) (fun _ => r_mv hA rfl) fun a hA => ?_
      refine gE 7 hA rfl (.inr (hI.sl [3, 4, 0, 1, 5] rfl)) (fun _ => r_extr (vs := [.agg [[.int .u32 r1.1.Version], av .u8 32 r1.1.Prev, av .u8 32 r1.1.Root, [.int .u32 r1.1.Time], [.int .u32 r1.1.Work], [.int .u32 r1.1.Nonce]].flatten.toArray, .bool r1.2]) hA rfl rfl) fun a hA => ?_
      refine gE 8 hA rfl (.inr (hI.sl [3, 4, 0, 1, 5] rfl)) (fun _ => r_extr (vs := [.agg [[.int .u32 r1.1.Version], av .u8 32 r1.1.Prev, av .u8 32 r1.1.Root, [.int .u32 r1.1.Time], [.int .u32 r1.1.Work], [.int .u32 r1.1.Nonce]].flatten.toArray, .bool r1.2]) hA rfl rfl) fun a hA => ?_
      refine gF 10 rfl ?_
      refine o_st (j := 2) [] [[.int .u32 0], av .u8 32 (List.replicate 32 0), av .u8 32 (List.replicate 32 0), [.int .u32 0], [.int .u32 0], [.int .u32 0]] [[.int .u32 r1.1.Version], av .u8 32 r1.1.Prev, av .u8 32 r1.1.Root, [.int .u32 r1.1.Time], [.int .u32 r1.1.Work], [.int .u32 r1.1.Nonce]] [] sz28 rfl rfl (fl_cons (oneC rfl) (fl_cons (one_av _ _ _) (fl_cons (one_av _ _ _) (fl_cons (oneC rfl) (fl_cons (oneC rfl) (fl_cons (oneC rfl) fl_nil)))))) hI rfl hA rfl rfl rfl rfl fun w hI => ?_
      refine o_nil <| ⟨(.inr (hI.sl [3, 4, 0, 1, 5] rfl)), ?_⟩
      refine gE 11 hA rfl (.inr (hI.sl [3, 4, 0, 1, 5] rfl)) (fun _ => r_as hA rfl) fun a hA => ?_
      refine gN ?_
      cases sJ H
      exact ⟨hA.sub ⟨rfl, rfl, rfl, rfl, trivial⟩, (hI.sl [3, 4, 0, 1, 5] rfl)⟩
  · rintro a w ⟨hA, hI⟩
    have H := Hk1
    obtain ⟨c2, hz3, Hk2⟩ := bB H
    refine w_cut (fun a w => Fr a 32 [(0, .pointer (some ⟨g0, 0, none⟩)), (3, .pointer (some ⟨g1, 0, none⟩)), (4, .bool false), (26, .bool c2)] ∧ Iv w0 (many [cel g0 [[.pointer (some ⟨gp1, 0, none⟩)], [.map (some gm2)]] 106, cel gp1 [[.map (some gm1)], av .u8 32 x0.t.start] 97, nd95 gm1 x0.t.m gs1, mpI gm2 (ent kv104 vv104 x0.bad)]).foot μ μ [cel g1 [av .u8 32 x1] 26, cel g0 [[.pointer (some ⟨gp1, 0, none⟩)], [.map (some gm2)]] 106, cel gp1 [[.map (some gm1)], av .u8 32 x0.t.start] 97, nd95 gm1 x0.t.m gs1, mpI gm2 (ent kv104 vv104 x0.bad)] w) ?_ ?_
    · have H := bI hz3
      refine w_any [] mo hI fun w hI => ?_
      refine gE 0 hA rfl (.inr hI) (fun _ => r_mv hA rfl) fun a hA => ?_
      refine gE 1 hA rfl (.inr hI) (fun _ => r_not hA rfl) fun a hA => ?_
      refine gE 2 hA rfl (.inr hI) (fun _ => r_mv hA rfl) fun a hA => ?_
      rcases Bool.eq_false_or_eq_true (!c1) with hc1 | hc1
      · have hc10 := hc1; have hc1 := nT hc1; have hc1 := ft hc1; have H := bF H hc1
        refine g_skip (i := 3) hA rfl (wanted_no hA rfl rfl (by rw [hc10]; simp [vb])) (by kernel_rfl) (.inr hI) rfl fun a hA => ?_
        refine g_skip (i := 4) hA rfl (wanted_no hA rfl rfl (by rw [hc10]; simp [vb])) (by kernel_rfl) (.inr hI) rfl fun a hA => ?_
        refine g_skip (i := 5) hA rfl (wanted_no hA rfl rfl (by rw [hc10]; simp [vb])) (by kernel_rfl) (.inr hI) rfl fun a hA => ?_
        refine g_skip (i := 6) hA rfl (wanted_no hA rfl rfl (by rw [hc10]; simp [vb])) (by kernel_rfl) (.inr hI) rfl fun a hA => ?_
        refine g_skip (i := 7) hA rfl (wanted_no hA rfl rfl (by rw [hc10]; simp [vb])) (by kernel_rfl) (.inr hI) rfl fun a hA => ?_
        refine g_skip (i := 8) hA rfl (wanted_no hA rfl rfl (by rw [hc10]; simp [vb])) (by kernel_rfl) (.inr hI) rfl fun a hA => ?_
        refine g_skip (i := 9) hA rfl (wanted_no hA rfl rfl (by rw [hc10]; simp [vb])) (by kernel_rfl) (.inr hI) rfl fun a hA => ?_
        refine gE 10 hA rfl (.inr hI) (fun _ => r_pick_t hA rfl hc10 rfl) fun a hA => ?_
        refine gN ?_
        cases sJ H
        exact ⟨hA.sub ⟨rfl, rfl, rfl, rfl, trivial⟩, hI⟩
      · have hc10 := hc1; have hc1 := nF hc1; have H := bT H hc1
        refine g_take (i := 3) hA rfl (wanted_yes hA rfl rfl hc10) (by kernel_rfl) hI (fun w hI => r_ldA (j := 0) [] [av .u8 32 x1] [] Tryd.underlying26 rfl sz26 rfl hI rfl hA rfl rfl) rfl fun a hA => ?_
        refine g_easy (i := 4) hA rfl (wanted_yes hA rfl rfl hc10) (by kernel_rfl) (.inr hI) (fun _ => r_mv hA rfl) rfl fun a hA => ?_
        refine g_easy (i := 5) hA rfl (wanted_yes hA rfl rfl hc10) (by kernel_rfl) (.inr hI) (fun _ => r_nilc hA rfl) rfl fun a hA => ?_
        refine g_easy (i := 6) hA rfl (wanted_yes hA rfl rfl hc10) (by kernel_rfl) (.inr hI) (fun _ => r_fd (k := 0) Tryd.underlying106 rfl sz58 hA rfl rfl) rfl fun a hA => ?_
        refine g_take (i := 7) hA rfl (wanted_yes hA rfl rfl hc10) (by kernel_rfl) hI (fun w hI => r_ld1 (j := 1) [] [[.map (some gm2)]] Tryd.underlying58 rfl hI rfl hA rfl rfl) rfl fun a hA => ?_
        refine gF 8 rfl ?_
        refine o_yes hA rfl rfl hc10 <| ?_
        obtain ⟨r2, hr2, H⟩ := bB H
        have hI := hI.sl [2, 3, 0, 1, 4] rfl
        refine o_call _ cf27 hA rfl (tree_Tree_Start.c μ _ hI.agr (⟨x0.t.m, x0.t.start⟩ : treeTree) gm1 gs1 gp1 hp1 hp2 (hI.handN 2) r2 hr2) rfl fun v2 a w hz4 hA => ?_
        obtain ⟨rfl, hw3, hi2⟩ := hz4
        have hI := hI.back2 hi2
        refine o_nil <| ⟨(.inr (hI.sl [2, 3, 0, 1, 4] rfl)), ?_⟩
        refine g_easy (i := 9) hA rfl (wanted_yes hA rfl rfl hc10) (by kernel_rfl) (.inr (hI.sl [2, 3, 0, 1, 4] rfl)) (fun _ => r_eqS hA rfl rfl eg26 (eqv_arr Tryd.underlying26 Tryd.underlying5 sz5 hx1 hw3)) rfl fun a hA => ?_
        refine gE 10 hA rfl (.inr (hI.sl [2, 3, 0, 1, 4] rfl)) (fun _ => r_pick_f hA rfl hc10 rfl) fun a hA => ?_
        refine gN ?_
        cases sJ H
        exact ⟨hA.sub ⟨rfl, rfl, rfl, rfl, trivial⟩, (hI.sl [2, 3, 0, 1, 4] rfl)⟩
    · rintro a w ⟨hA, hI⟩
      have H := Hk2
      refine w_cond hA rfl (fun hc2 => ?_) (fun hc2 => ?_)
      · have H := bT H hc2
        refine w_seq fun _ hN3 => w_reg <| sta hA rfl rfl fun a hA => ?_
        refine o_nil <| hN3 _ _ <| w_ret ?_
        obtain rfl := sJ H
        exact ret1 hA Tryd.results28 rfl ⟨_, rfl, gm1, gs1, gm2, rfl, trivial, hp1, hp2, hp3, ((hI.sl [1, 2, 3, 4] rfl).less (Store.le.refl _) hI.le)⟩
      · have hc2 := ft hc2; have H := bF H hc2
        refine w_skip <| hN2 _ _ <| w_seq fun _ hN4 => ?_
        refine w_anyS [] mo (fun w (h : Iv w0 (many [cel g0 [[.pointer (some ⟨gp1, 0, none⟩)], [.map (some gm2)]] 106, cel gp1 [[.map (some gm1)], av .u8 32 x0.t.start] 97, nd95 gm1 x0.t.m gs1, mpI gm2 (ent kv104 vv104 x0.bad)]).foot μ μ [cel g1 [av .u8 32 x1] 26, cel g0 [[.pointer (some ⟨gp1, 0, none⟩)], [.map (some gm2)]] 106, cel gp1 [[.map (some gm1)], av .u8 32 x0.t.start] 97, nd95 gm1 x0.t.m gs1, mpI gm2 (ent kv104 vv104 x0.bad)] w) => (h.sl [0, 1, 2, 3] rfl : Iv w0 (many [cel g0 [[.pointer (some ⟨gp1, 0, none⟩)], [.map (some gm2)]] 106, cel gp1 [[.map (some gm1)], av .u8 32 x0.t.start] 97, nd95 gm1 x0.t.m gs1, mpI gm2 (ent kv104 vv104 x0.bad)]).foot μ μ [cel g1 [av .u8 32 x1] 26, cel g0 [[.pointer (some ⟨gp1, 0, none⟩)], [.map (some gm2)]] 106, cel gp1 [[.map (some gm1)], av .u8 32 x0.t.start] 97, nd95 gm1 x0.t.m gs1] w)) hI fun w hI => ?_
        refine gE 0 hA rfl (.inr (hI.sl [0, 1, 2, 3] rfl)) (fun _ => r_mv hA rfl) fun a hA => ?_
        refine gE 1 hA rfl (.inr (hI.sl [0, 1, 2, 3] rfl)) (fun _ => r_nilc hA rfl) fun a hA => ?_
        refine gE 2 hA rfl (.inr (hI.sl [0, 1, 2, 3] rfl)) (fun _ => r_fd (k := 1) Tryd.underlying106 rfl sz104 hA rfl rfl) fun a hA => ?_
        refine gT 3 hA rfl (hI.sl [0, 1, 2, 3] rfl) (fun w hI => r_ld1 (j := 1) [[.pointer (some ⟨gp1, 0, none⟩)]] [] Tryd.underlying104 rfl hI rfl hA rfl rfl) fun a hA => ?_
        refine gT 4 hA rfl (hI.sl [0, 1, 2, 3] rfl) (fun w hI => r_ldA (j := 0) [] [av .u8 32 x1] [] Tryd.underlying26 rfl sz26 rfl hI rfl hA rfl rfl) fun a hA => ?_
        refine gF 5 rfl ?_
        refine o_mput (j := 4) (k := x1) true kn104 Tryd.underlying104 hp3 hx1 hI rfl hA rfl rfl rfl fun w hI => ?_
        refine o_nil <| ⟨(.inr (hI.sl [0, 1, 2, 3] rfl)), ?_⟩
        refine gN <| hN4 _ _ <| w_seq fun _ hN5 => w_reg <| sta hA rfl rfl fun a hA => ?_
        refine o_nil <| hN5 _ _ <| w_ret ?_
        obtain rfl := sJ H
        exact ret1 hA Tryd.results28 rfl ⟨_, rfl, gm1, gs1, gm2, rfl, trivial, hp1, hp2, (MW.put hp3 hx1 trivial), ((hI.sl [1, 2, 3, 4] rfl).less (Store.le.refl _) hI.le)⟩
set_option maxRecDepth 20000 in
theorem tree_Tree_Work.c (μ : Store) (w0 : World) (hμ : Agr μ w0) (x0 : treeTree) (gm1 : Nat) (gs1 : (List Int) → NG) (g0 : Nat) (hp1 : nw95 μ x0.m gs1) (hp2 : Arr .u8 32 x0.start) (ho0 : Its μ w0 [cel g0 [[.map (some gm1)], av .u8 32 x0.start] 97, nd95 gm1 x0.m gs1]) (x1 : List Int) (hx1 : Arr .u8 32 x1) (r : Int × Bool) (H : tree_Tree_Work.f x0 x1 = some r) :
    Calls Tryd.prog 58 [.pointer (some ⟨g0, 0, none⟩), .agg [av .u8 32 x1].flatten.toArray].toArray w0 (fun e w' => ∃ v, e = .returned v ∧ v = .tuple #[.int .u64 (r.1), .bool (r.2)] ∧ InR .u64 (r.1) ∧ True ∧ Iv w0 (many [cel g0 [[.map (some gm1)], av .u8 32 x0.start] 97, nd95 gm1 x0.m gs1]).foot μ μ [cel g0 [[.map (some gm1)], av .u8 32 x0.start] 97, nd95 gm1 x0.m gs1] w') := by
  refine enter Tryd.func58 rfl Tryd.ntmps58 rfl fun a hA => ?_
  have hI := Iv.startN hμ ho0
  have H := bI H
  refine w_seq fun _ hN1 => w_reg <| o_box [av .u8 32 x1] hI hA rfl rfl rfl fun g1 a w hA hI hg1 => 
    sta hA rfl rfl fun a hA => 
    sta hA rfl rfl fun a hA => ?_
  refine o_nil <| hN1 _ _ <| w_seq fun _ hN2 => w_seq fun _ hN3 => ?_
  refine w_draw mo (by kernel_rfl) hI ?_
  refine qtp hA (fun _ hI => r_mv hA rfl) rfl fun a hA => 
    qtp hA (fun _ hI => r_nilc hA rfl) rfl fun a hA => 
    qtp hA (fun _ hI => r_fd (k := 0) Tryd.underlying97 rfl sz95 hA rfl rfl) rfl fun a hA => 
    qtp hA (fun _ hI => r_ld1 (j := 1) [] [av .u8 32 x0.start] Tryd.underlying95 rfl hI rfl hA rfl rfl) rfl fun a hA => 
    qtp hA (fun _ hI => r_ldA (j := 0) [] [av .u8 32 x1] [] Tryd.underlying26 rfl sz26 rfl hI rfl hA rfl rfl) rfl fun a hA => 
    qtp hA (fun _ hI => r_nlook2 (j := 2) kn95 Tryd.underlying95 mz95 hp1.1 hx1 hI rfl hA rfl rfl) rfl fun a hA => 
    qtp hA (fun _ hI => r_mv hA rfl) rfl fun a hA => 
    qtp hA (fun _ hI => r_extr (vs := [pvn gs1 (lkn x0.m x1), .bool ((mget x0.m x1).isSome)]) hA rfl rfl) rfl fun a hA => 
    qtp hA (fun _ hI => r_extr (vs := [pvn gs1 (lkn x0.m x1), .bool ((mget x0.m x1).isSome)]) hA rfl rfl) rfl fun a hA => 
    qtp hA (fun _ hI => r_as hA rfl) rfl fun a hA => 
    qtp hA (fun _ hI => r_as hA rfl) rfl fun a hA => ?_
  refine q_nil fun w hI => ?_
  refine hN3 _ _ <| w_seq fun _ hN4 => w_reg <| stm hA rfl rfl fun a hA => ?_
  refine o_nil <| hN4 _ _ <| w_cond hA rfl (fun hc1 => ?_) (fun hc1 => ?_)
  · have H := bT H hc1
    refine w_seq fun _ hN5 => w_reg <| stm hA rfl rfl fun a hA => ?_
    obtain ⟨nd1, hn1, H⟩ := bB H
    obtain ⟨kk1, ho1, hk1⟩ := nget_some hn1
    have hw1 : HeadW μ nd1.head := (NdW.at hp1 hk1).1
    refine stp hA (r_nilcN ho1 hA rfl) rfl fun a hA => 
      stp hA (r_fd (k := 69) Tryd.underlying94 rfl sz34 hA rfl rfl) rfl fun a hA => 
      stp hA (r_ld1 (j := 0) [[.int .u32 nd1.head.Version], av .u8 32 nd1.head.Prev, av .u8 32 nd1.head.Root, [.int .u32 nd1.head.Time], [.int .u32 nd1.head.Work], [.int .u32 nd1.head.Nonce], [.int .i64 nd1.height]] [[(gs1 kk1).2.1]] Tryd.underlying34 rfl ((hI.sl [2] rfl).focus hp1.1.2 hk1) rfl hA rfl rfl) rfl fun a hA => 
      sta hA rfl rfl fun a hA => 
      sta hA rfl rfl fun a hA => ?_
    refine o_nil <| hN5 _ _ <| w_ret ?_
    obtain rfl := sJ H
    exact ret2 hA Tryd.results58 rfl rfl ⟨_, rfl, rfl, (NdW.at hp1 hk1).2.2.1, trivial, ((hI.sl [1, 2] rfl).less (Store.le.refl _) hI.le)⟩
  · have hc1 := ft hc1; have H := bF H hc1
    refine w_skip <| hN2 _ _ <| w_seq fun _ hN6 => w_reg <| sta hA rfl rfl fun a hA => 
      sta hA rfl rfl fun a hA => ?_
    refine o_nil <| hN6 _ _ <| w_ret ?_
    obtain rfl := sJ H
    exact ret2 hA Tryd.results58 rfl rfl ⟨_, rfl, rfl, (in_lit .u64 0 rfl), trivial, ((hI.sl [1, 2] rfl).less (Store.le.refl _) hI.le)⟩
set_option maxRecDepth 20000 in
theorem best_Marks_Over.c (μ : Store) (w0 : World) (hμ : Agr μ w0) (x0 : bestMarks) (gp1 : Nat) (gm1 : Nat) (gs1 : (List Int) → NG) (gm2 : Nat) (g0 : Nat) (hp1 : nw95 μ x0.t.m gs1) (hp2 : Arr .u8 32 x0.t.start) (hp3 : mw104 x0.bad) (ho0 : Its μ w0 [cel g0 [[.pointer (some ⟨gp1, 0, none⟩)], [.map (some gm2)]] 106, cel gp1 [[.map (some gm1)], av .u8 32 x0.t.start] 97, nd95 gm1 x0.t.m gs1, mpI gm2 (ent kv104 vv104 x0.bad)]) (x1 : List Int) (hx1 : Arr .u8 32 x1) (x2 : List Int) (hx2 : Arr .u8 32 x2) (r : Bool) (H : best_Marks_Over.f x0 x1 x2 = some r) :
    Calls Tryd.prog 31 [.pointer (some ⟨g0, 0, none⟩), .agg [av .u8 32 x1].flatten.toArray, .agg [av .u8 32 x2].flatten.toArray].toArray w0 (fun e w' => ∃ v, e = .returned v ∧ v = .bool r ∧ True ∧ Iv w0 (many [cel g0 [[.pointer (some ⟨gp1, 0, none⟩)], [.map (some gm2)]] 106, cel gp1 [[.map (some gm1)], av .u8 32 x0.t.start] 97, nd95 gm1 x0.t.m gs1, mpI gm2 (ent kv104 vv104 x0.bad)]).foot μ μ [cel g0 [[.pointer (some ⟨gp1, 0, none⟩)], [.map (some gm2)]] 106, cel gp1 [[.map (some gm1)], av .u8 32 x0.t.start] 97, nd95 gm1 x0.t.m gs1, mpI gm2 (ent kv104 vv104 x0.bad)] w') := by
  refine enter Tryd.func31 rfl Tryd.ntmps31 rfl fun a hA => ?_
  have hI := Iv.startN hμ ho0
  have H := bI H
  refine w_seq fun _ hN1 => w_reg <| o_box [av .u8 32 x1] hI hA rfl rfl rfl fun g1 a w hA hI hg1 => 
    o_box [av .u8 32 x2] hI hA rfl rfl rfl fun g2 a w hA hI hg2 => 
    sta hA rfl rfl fun a hA => ?_
  refine o_nil <| hN1 _ _ <| w_seq fun _ hN2 => ?_
  refine w_any [] mo hI fun w hI => ?_
  refine gE 0 hA rfl (.inr hI) (fun _ => r_mv hA rfl) fun a hA => ?_
  refine gE 1 hA rfl (.inr hI) (fun _ => r_nilc hA rfl) fun a hA => ?_
  refine gE 2 hA rfl (.inr hI) (fun _ => r_fd (k := 0) Tryd.underlying106 rfl sz58 hA rfl rfl) fun a hA => ?_
  refine gT 3 hA rfl hI (fun w hI => r_ld1 (j := 2) [] [[.map (some gm2)]] Tryd.underlying58 rfl hI rfl hA rfl rfl) fun a hA => ?_
  refine gT 4 hA rfl hI (fun w hI => r_ldA (j := 1) [] [av .u8 32 x1] [] Tryd.underlying26 rfl sz26 rfl hI rfl hA rfl rfl) fun a hA => ?_
  refine gF 5 rfl ?_
  obtain ⟨r1, hr1, H⟩ := bB H
  have hI := hI.sl [3, 4, 0, 1, 2, 5] rfl
  refine o_call _ cf58 hA rfl (tree_Tree_Work.c μ _ hI.agr (⟨x0.t.m, x0.t.start⟩ : treeTree) gm1 gs1 gp1 hp1 hp2 (hI.handN 2) x1 hx1 r1 hr1) rfl fun v1 a w hz1 hA => ?_
  obtain ⟨rfl, hw1, hw2, hi1⟩ := hz1
  have hI := hI.back2 hi1
  refine o_nil <| ⟨(.inr (hI.sl [2, 3, 4, 0, 1, 5] rfl)), ?_⟩
  refine gE 6 hA rfl (.inr (hI.sl [2, 3, 4, 0, 1, 5] rfl)) (fun _ => r_mv hA rfl) fun a hA => ?_
  refine gE 7 hA rfl (.inr (hI.sl [2, 3, 4, 0, 1, 5] rfl)) (fun _ => r_extr (vs := [.int .u64 r1.1, .bool r1.2]) hA rfl rfl) fun a hA => ?_
  refine gE 8 hA rfl (.inr (hI.sl [2, 3, 4, 0, 1, 5] rfl)) (fun _ => r_extr (vs := [.int .u64 r1.1, .bool r1.2]) hA rfl rfl) fun a hA => ?_
  refine gE 9 hA rfl (.inr (hI.sl [2, 3, 4, 0, 1, 5] rfl)) (fun _ => r_as hA rfl) fun a hA => ?_
  refine gE 10 hA rfl (.inr (hI.sl [2, 3, 4, 0, 1, 5] rfl)) (fun _ => r_as hA rfl) fun a hA => ?_
  refine gN <| hN2 _ _ <| w_seq fun _ hN3 => ?_
  refine w_any [] mo hI fun w hI => ?_
  refine gE 0 hA rfl (.inr hI) (fun _ => r_mv hA rfl) fun a hA => ?_
  refine gE 1 hA rfl (.inr hI) (fun _ => r_nilc hA rfl) fun a hA => ?_
  refine gE 2 hA rfl (.inr hI) (fun _ => r_fd (k := 0) Tryd.underlying106 rfl sz58 hA rfl rfl) fun a hA => ?_
  refine gT 3 hA rfl hI (fun w hI => r_ld1 (j := 4) [] [[.map (some gm2)]] Tryd.underlying58 rfl hI rfl hA rfl rfl) fun a hA => ?_
  refine gT 4 hA rfl hI (fun w hI => r_ldA (j := 2) [] [av .u8 32 x2] [] Tryd.underlying26 rfl sz26 rfl hI rfl hA rfl rfl) fun a hA => ?_
  refine gF 5 rfl ?_
  obtain ⟨r2, hr2, H⟩ := bB H
  refine o_call _ cf58 hA rfl (tree_Tree_Work.c μ _ hI.agr (⟨x0.t.m, x0.t.start⟩ : treeTree) gm1 gs1 gp1 hp1 hp2 (hI.handN 2) x2 hx2 r2 hr2) rfl fun v2 a w hz2 hA => ?_
  obtain ⟨rfl, hw3, hw4, hi2⟩ := hz2
  have hI := hI.back2 hi2
  refine o_nil <| ⟨(.inr hI), ?_⟩
  refine gE 6 hA rfl (.inr hI) (fun _ => r_mv hA rfl) fun a hA => ?_
  refine gE 7 hA rfl (.inr hI) (fun _ => r_extr (vs := [.int .u64 r2.1, .bool r2.2]) hA rfl rfl) fun a hA => ?_
  refine gE 8 hA rfl (.inr hI) (fun _ => r_extr (vs := [.int .u64 r2.1, .bool r2.2]) hA rfl rfl) fun a hA => ?_
  refine gE 9 hA rfl (.inr hI) (fun _ => r_as hA rfl) fun a hA => ?_
  refine gE 10 hA rfl (.inr hI) (fun _ => r_as hA rfl) fun a hA => ?_
  refine gN <| hN3 _ _ <| w_seq fun _ hN4 => w_block ?_
  obtain ⟨c1, hz3, Hk1⟩ := bB H
  refine w_cut (fun a w => Fr a 46 [(4, .pointer (some ⟨g1, 0, none⟩)), (5, .pointer (some ⟨g2, 0, none⟩)), (6, .bool false), (7, .int .u64 r1.1), (9, .int .u64 r2.1), (29, .bool c1)] ∧ Iv w0 (many [cel g0 [[.pointer (some ⟨gp1, 0, none⟩)], [.map (some gm2)]] 106, cel gp1 [[.map (some gm1)], av .u8 32 x0.t.start] 97, nd95 gm1 x0.t.m gs1, mpI gm2 (ent kv104 vv104 x0.bad)]).foot μ μ [cel gp1 [[.map (some gm1)], av .u8 32 x0.t.start] 97, nd95 gm1 x0.t.m gs1, cel g2 [av .u8 32 x2] 26, cel g1 [av .u8 32 x1] 26, cel g0 [[.pointer (some ⟨gp1, 0, none⟩)], [.map (some gm2)]] 106, mpI gm2 (ent kv104 vv104 x0.bad)] w) ?_ ?_
  · have H := bI hz3
    refine w_reg <| stm hA rfl rfl fun a hA => 
      stp hA (r_not hA rfl) rfl fun a hA => 
      stm hA rfl rfl fun a hA => ?_
    rcases Bool.eq_false_or_eq_true (!r1.2) with hc1 | hc1
    · have hc10 := hc1; have hc1 := nT hc1; have hc1 := ft hc1; have H := bF H hc1
      refine o_no hA rfl rfl (by rw [hc10]; simp [vb]) rfl fun a hA => 
        o_no hA rfl rfl (by rw [hc10]; simp [vb]) rfl fun a hA => 
        stp hA (r_pick_t hA rfl hc10 rfl) rfl fun a hA => 
        sta hA rfl rfl fun a hA => ?_
      refine o_nil ?_
      cases sJ H
      exact ⟨hA.sub ⟨rfl, rfl, rfl, rfl, rfl, rfl, trivial⟩, hI⟩
    · have hc10 := hc1; have hc1 := nF hc1; have H := bT H hc1
      refine o_yes hA rfl rfl hc10 <| 
        stm hA rfl rfl fun a hA => 
        o_yes hA rfl rfl hc10 <| 
        stp hA (r_not hA rfl) rfl fun a hA => 
        stp hA (r_pick_f hA rfl hc10 rfl) rfl fun a hA => 
        sta hA rfl rfl fun a hA => ?_
      refine o_nil ?_
      cases sJ H
      exact ⟨hA.sub ⟨rfl, rfl, rfl, rfl, rfl, rfl, trivial⟩, hI⟩
  · rintro a w ⟨hA, hI⟩
    have H := Hk1
    refine w_cond hA rfl (fun hc2 => ?_) (fun hc2 => ?_)
    · have H := bT H hc2
      refine w_seq fun _ hN5 => w_reg <| sta hA rfl rfl fun a hA => ?_
      refine o_nil <| hN5 _ _ <| w_ret ?_
      obtain rfl := sJ H
      exact ret1 hA Tryd.results31 rfl ⟨_, rfl, rfl, trivial, ((hI.sl [4, 0, 1, 5] rfl).less (Store.le.refl _) hI.le)⟩
    · have hc2 := ft hc2; have H := bF H hc2
      refine w_seq fun _ hN6 => w_reg <| stm hA rfl rfl fun a hA => 
        stm hA rfl rfl fun a hA => 
        stp hA (r_neq hA rfl rfl) rfl fun a hA => 
        sta hA rfl rfl fun a hA => ?_
      refine o_nil <| hN6 _ _ <| w_cond hA rfl (fun hc3 => ?_) (fun hc3 => ?_)
      · obtain ⟨hc3, H⟩ := dT H hc3
        refine w_seq fun _ hN7 => w_reg <| stm hA rfl rfl fun a hA => 
          stm hA rfl rfl fun a hA => 
          stp hA (r_gtr hA rfl rfl) rfl fun a hA => 
          sta hA rfl rfl fun a hA => ?_
        refine o_nil <| hN7 _ _ <| w_ret ?_
        obtain rfl := sJ H
        exact ret1 hA Tryd.results31 rfl ⟨_, rfl, rfl, trivial, ((hI.sl [4, 0, 1, 5] rfl).less (Store.le.refl _) hI.le)⟩
      · obtain ⟨hc3, H⟩ := dF H hc3
        refine w_skip <| hN4 _ _ <| w_seq fun _ hN8 => w_reg <| stp hA (r_ldA (j := 3) [] [av .u8 32 x1] [] Tryd.underlying26 rfl sz26 rfl hI rfl hA rfl rfl) rfl fun a hA => 
          stp hA (r_ldA (j := 2) [] [av .u8 32 x2] [] Tryd.underlying26 rfl sz26 rfl hI rfl hA rfl rfl) rfl fun a hA => ?_
        obtain ⟨r3, hr3, H⟩ := bB H
        refine o_callp (u := .bool r3) cf59 hA rfl hI (digest_Less.c μ _ hI.agr x1 hx1 x2 hx2 r3 hr3) rfl fun a w hz4 hI hA => 
          sta hA rfl rfl fun a hA => ?_
        refine o_nil <| hN8 _ _ <| w_ret ?_
        obtain rfl := sJ H
        exact ret1 hA Tryd.results31 rfl ⟨_, rfl, rfl, trivial, ((hI.sl [4, 0, 1, 5] rfl).less (Store.le.refl _) hI.le)⟩
theorem bytes_Compare.e (μ : Store) (w0 : World) (hμ : Agr μ w0) (x0 : List Int) (u0 : Value) (hx0 : Slc (RI .u8) 1 μ u0 x0) (x1 : List Int) (u1 : Value) (hx1 : Slc (RI .u8) 1 μ u1 x1) :
    Calls Tryd.prog 104 [u0, u1].toArray w0 (fun e w' => e = .returned (.int .i64 (cmpI x0 x1)) ∧ w' = w0) := by
  refine enter Tryd.func104 rfl Tryd.ntmps104 rfl fun a hA => ?_
  have hI := Iv.start hμ
  refine w_seq fun _ hN1 => w_reg <| sta hA rfl rfl fun a hA => ?_
  refine o_nil <| hN1 _ _ <| w_seq fun _ hN2 => w_reg <| stm hA rfl rfl fun a hA => 
    stm hA rfl rfl fun a hA => 
    stp hA (r_cmp Tryd.func121 xc121.1 xc121.2.1 xc121.2.2 xe121 hA rfl rfl (rdb_sl hI.agr hx0) (rdb_sl hI.agr hx1) (Slc.rng hx0) (Slc.rng hx1)) rfl fun a hA => 
    sta hA rfl rfl fun a hA => ?_
  refine o_nil <| hN2 _ _ <| w_ret ?_
  exact ret1 hA Tryd.results104 rfl ⟨rfl, rfl⟩
set_option maxRecDepth 20000 in
theorem digest_Compare.e (x0 : List Int) (hx0 : Arr .u8 32 x0) (x1 : List Int) (hx1 : Arr .u8 32 x1) (W : World) :
    Calls Tryd.prog 80 [.agg [av .u8 32 x0].flatten.toArray, .agg [av .u8 32 x1].flatten.toArray].toArray W (fun e w' => e = .returned (.int .i64 (cmpI x0 x1)) ∧ ∃ q os', w' = Go.Sort.grow (W.drewN q) os') := by
  refine enter Tryd.func80 rfl Tryd.ntmps80 rfl fun a hA => ?_
  have hI := Iv.start (μ := fun _ => none) (w := W) (fun _ _ h => by cases h)
  refine w_seq fun _ hN1 => w_reg <| o_boxG [av .u8 32 x0] hI (Gw.refl W) hA rfl rfl rfl fun g1 a w hA hI hG => 
    o_boxG [av .u8 32 x1] hI hG hA rfl rfl rfl fun g2 a w hA hI hG => 
    sta hA rfl rfl fun a hA => ?_
  refine o_nil <| hN1 _ _ <| w_seq fun _ hN2 => ?_
  refine w_drawG mo (by kernel_rfl) hI hG ?_
  refine qtp hA (fun _ hI => r_slv (i := 0) (j := 32) Tryd.underlying26 sz5 hA rfl rfl rfl (by decide) (by decide) (by decide) (by decide) rfl) rfl fun a hA => 
    qtp hA (fun _ hI => r_slv (i := 0) (j := 32) Tryd.underlying26 sz5 hA rfl rfl rfl (by decide) (by decide) (by decide) (by decide) rfl) rfl fun a hA => ?_
  refine qcall (v := .int .i64 (cmpI x0 x1)) cf104 hA rfl (fun w hI => by obtain ⟨hI, hG⟩ := hI; have hI0 := hI; obtain ⟨μ1, hle1, hat1, hI⟩ := hI.freezeCel 1 rfl; have hS1 : Slc (RI .u8) 1 μ1 (.slice (some ⟨g1, 0, none⟩) 32 32) (x0) := slc_view0 [] [] hat1 hx0 rfl (by decide); obtain ⟨μ2, hle2, hat2, hI⟩ := hI.freezeCel 0 rfl; have hS2 : Slc (RI .u8) 1 μ2 (.slice (some ⟨g2, 0, none⟩) 32 32) (x1) := slc_view0 [] [] hat2 hx1 rfl (by decide); exact (bytes_Compare.e μ2 _ hI.agr x0 (.slice (some ⟨g1, 0, none⟩) 32 32) (Slc.le hS1 (fun _ _ h => h) hle2) x1 (.slice (some ⟨g2, 0, none⟩) 32 32) hS2).mono fun e w' ⟨h1, h2⟩ => ⟨h1, by rw [h2]; exact ⟨hI0, hG⟩⟩) rfl fun a hA => 
    qtp hA (fun _ hI => r_as hA rfl) rfl fun a hA => ?_
  refine q_nil fun w hI => ?_
  refine hN2 _ _ <| w_ret ?_
  exact ret1 hA Tryd.results80 rfl ⟨rfl, hI.2⟩
theorem slices_SortFunc_api_Hash_api_Hash_at_digest_Compare.c (μ : Store) (w0 : World) (hμ : Agr μ w0) (x0 : List (List Int)) (u0 : Value) (k0 : List Value) (hx0 : Els (RA .u8 32) 32 x0 k0) (ho0 : RowOK μ w0 26 32 u0 x0.length k0) (r : List (List Int)) (H : slices_SortFunc_api_Hash_api_Hash_at_digest_Compare.f x0 = some r) :
    Calls Tryd.prog 102 [u0, .func (.func 80) #[] #[]].toArray w0 (fun e w' => ∃ v, e = .returned v ∧ ∃ (c0 : List Value), v = .tuple #[] ∧ Els (RA .u8 32) 32 r c0 ∧ Iv w0 (row 26 32 u0 x0.length k0).foot μ μ [row 26 32 u0 r.length c0] w') := by
  obtain ⟨hb, H⟩ := guard_some H
  obtain rfl := sI H
  have hC : ∀ (x y : H32) (W : World), Calls Tryd.prog 80 #[.agg (henc x).toArray, .agg (henc y).toArray] W fun e w' => e = .returned (.int .i64 (hcf x y)) ∧ ∃ q os', w' = Go.Sort.grow (W.drewN q) os' := fun x y W => by
    have h := digest_Compare.e x.1 x.2 y.1 y.2 W
    simp only [List.flatten_cons, List.flatten_nil, List.append_nil] at h
    exact h
  exact sort_hash sortL Tryd.isAgg26 Tryd.sizeOf26 80 (enters_of Tryd.func80 (by kernel_rfl) rfl) hC hμ hx0 ho0 hb
set_option maxRecDepth 20000 in
theorem tree_Tree_Under.c (μ : Store) (w0 : World) (hμ : Agr μ w0) (x0 : treeTree) (gm1 : Nat) (gs1 : (List Int) → NG) (g0 : Nat) (hp1 : nw95 μ x0.m gs1) (hp2 : Arr .u8 32 x0.start) (ho0 : Its μ w0 [cel g0 [[.map (some gm1)], av .u8 32 x0.start] 97, nd95 gm1 x0.m gs1]) (x1 : List Int) (hx1 : Arr .u8 32 x1) (r : List (List Int)) (H : tree_Tree_Under.f x0 x1 = some r) :
    Calls Tryd.prog 78 [.pointer (some ⟨g0, 0, none⟩), .agg [av .u8 32 x1].flatten.toArray].toArray w0 (fun e w' => ∃ v, e = .returned v ∧ ∃ (v0 : Value) (c0 : List Value), v = v0 ∧ Els (RA .u8 32) 32 r c0 ∧ Iv w0 (many [cel g0 [[.map (some gm1)], av .u8 32 x0.start] 97, nd95 gm1 x0.m gs1]).foot μ μ [row 26 32 v0 r.length c0, cel g0 [[.map (some gm1)], av .u8 32 x0.start] 97, nd95 gm1 x0.m gs1] w') := by
  refine enter Tryd.func78 rfl Tryd.ntmps78 rfl fun a hA => ?_
  have hI := Iv.startN hμ ho0
  have H := bI H
  refine w_seq fun _ hN1 => w_reg <| o_box [av .u8 32 x1] hI hA rfl rfl rfl fun g1 a w hA hI hg1 => 
    sta hA rfl rfl fun a hA => ?_
  refine o_nil <| hN1 _ _ <| w_seq fun _ hN2 => w_seq fun _ hN3 => ?_
  refine w_draw mo (by kernel_rfl) hI ?_
  refine qtp hA (fun _ hI => r_mv hA rfl) rfl fun a hA => 
    qtp hA (fun _ hI => r_nilc hA rfl) rfl fun a hA => 
    qtp hA (fun _ hI => r_fd (k := 0) Tryd.underlying97 rfl sz95 hA rfl rfl) rfl fun a hA => 
    qtp hA (fun _ hI => r_ld1 (j := 1) [] [av .u8 32 x0.start] Tryd.underlying95 rfl hI rfl hA rfl rfl) rfl fun a hA => 
    qtp hA (fun _ hI => r_ldA (j := 0) [] [av .u8 32 x1] [] Tryd.underlying26 rfl sz26 rfl hI rfl hA rfl rfl) rfl fun a hA => 
    qtp hA (fun _ hI => r_nlook2 (j := 2) kn95 Tryd.underlying95 mz95 hp1.1 hx1 hI rfl hA rfl rfl) rfl fun a hA => 
    qtp hA (fun _ hI => r_mv hA rfl) rfl fun a hA => 
    qtp hA (fun _ hI => r_extr (vs := [pvn gs1 (lkn x0.m x1), .bool ((mget x0.m x1).isSome)]) hA rfl rfl) rfl fun a hA => 
    qtp hA (fun _ hI => r_extr (vs := [pvn gs1 (lkn x0.m x1), .bool ((mget x0.m x1).isSome)]) hA rfl rfl) rfl fun a hA => 
    qtp hA (fun _ hI => r_as hA rfl) rfl fun a hA => 
    qtp hA (fun _ hI => r_as hA rfl) rfl fun a hA => ?_
  refine q_nil fun w hI => ?_
  refine hN3 _ _ <| w_seq fun _ hN4 => w_reg <| stm hA rfl rfl fun a hA => 
    stp hA (r_not hA rfl) rfl fun a hA => ?_
  refine o_nil <| hN4 _ _ <| w_cond hA rfl (fun hc1 => ?_) (fun hc1 => ?_)
  · have hc1 := nT hc1; have hc1 := ft hc1; have H := bF H hc1
    refine w_seq fun _ hN5 => w_reg <| sta hA rfl rfl fun a hA => ?_
    refine o_nil <| hN5 _ _ <| w_ret ?_
    have hI := hI.nilRow 26 32
    obtain rfl := sJ H
    exact ret1 hA Tryd.results78 rfl ⟨_, rfl, (.slice none 0 0), [], rfl, (Els.nil (RE := (RA .u8 32)) (sz := 32)), ((hI.sl [0, 2, 3] rfl).less (Store.le.refl _) hI.le)⟩
  · have hc1 := nF hc1; have H := bT H hc1
    refine w_skip <| hN2 _ _ <| w_seq fun _ hN6 => w_reg <| stp hA (r_ldA (j := 0) [] [av .u8 32 x1] [] Tryd.underlying26 rfl sz26 rfl hI rfl hA rfl rfl) rfl fun a hA => ?_
    have hE1 : Els (RA .u8 32) 32 ([x1] : List (List Int)) _ := (Els.cons (c := [av .u8 32 x1].flatten) ⟨rfl, hx1⟩ rfl Els.nil)
    refine o_bsl ([av .u8 32 x1].flatten ++ ([])) te26 zr26 Tryd.underlying62 hI hA rfl rfl rfl rfl (by kernel_rfl) rfl fun g2 a w hA hI => ?_
    generalize hcs : ([av .u8 32 x1].flatten ++ ([]) : List Value) = cs1 at hE1 hI
    clear hcs
    refine sta hA rfl rfl fun a hA => ?_
    refine o_nil <| hN6 _ _ ?_
    obtain ⟨c1, hz1, Hk1⟩ := bB H
    refine w_cut (fun a w => ∃ (vvc1 : Value) (ccc1 : List Value), Els (RA .u8 32) 32 c1 ccc1 ∧ Fr a 45 [(4, (.slice none 0 0)), (7, vvc1)] ∧ Iv w0 (many [cel g0 [[.map (some gm1)], av .u8 32 x0.start] 97, nd95 gm1 x0.m gs1]).foot μ μ [row 26 32 vvc1 c1.length ccc1, cel g1 [av .u8 32 x1] 26, cel g0 [[.map (some gm1)], av .u8 32 x0.start] 97, nd95 gm1 x0.m gs1] w) ?_ ?_
    · have H := bI hz1
      refine w_seq fun _ hN7 => w_reg <| sta hA rfl rfl fun a hA => ?_
      refine o_nil <| hN7 _ _ <| w_block ?_
      obtain ⟨z1, hz2, Hk2⟩ := bind_some H
      obtain ⟨n1, hn1⟩ := loopO_some hz2
      refine w_loop (fun n a w => ∃ (s1 : List (List Int)) (s2 : Int) (vvs1 : Value) (ccs1 : List Value), loopN (tree_Tree_Under.s0 x0) n (s1, s2) = some z1 ∧ Els (RA .u8 32) 32 s1 ccs1 ∧ InR .i64 s2 ∧ Fr a 45 [(0, .pointer (some ⟨g0, 0, none⟩)), (4, (.slice none 0 0)), (7, vvs1), (8, .int .i64 s2)] ∧ Iv w0 (many [cel g0 [[.map (some gm1)], av .u8 32 x0.start] 97, nd95 gm1 x0.m gs1]).foot μ μ [row 26 32 vvs1 s1.length ccs1, cel g1 [av .u8 32 x1] 26, cel g0 [[.map (some gm1)], av .u8 32 x0.start] 97, nd95 gm1 x0.m gs1] w) n1 ⟨([x1] : List (List Int)), 0, (.slice (some ⟨g2, 0, none⟩) 1 1), cs1, hn1, hE1, (in_lit .i64 0 rfl), hA.sub ⟨rfl, rfl, rfl, rfl, trivial⟩, hI⟩ ?_
      clear hA hI
      rintro n a w ⟨s1, s2, vvs1, ccs1, hn1, ws1, ws2, hA, hI⟩
      obtain ⟨m1, rfl, H⟩ := loopN_bind hn1
      clear hn1
      refine w_seq fun _ hN8 => w_seq fun _ hN9 => w_reg <| stm hA rfl rfl fun a hA => 
        stm hA rfl rfl fun a hA => ?_
      have hlen1 := Iv.row_in hI (j := 0) rfl
      refine stp hA (r_rlen (xs := 0) Tryd.underlying62 hI (j := 0) rfl hA rfl) rfl fun a hA => 
        stp hA (r_lss hA rfl rfl) rfl fun a hA => ?_
      refine o_nil <| hN9 _ _ <| w_cond hA rfl (fun hc2 => ?_) (fun hc2 => ?_)
      · obtain ⟨hc2, H⟩ := dT H hc2
        refine w_skip <| hN8 _ _ <| w_seq fun _ hN10 => w_block ?_
        refine w_any [13] mo hI fun w hI => ?_
        refine gE 0 hA rfl (.inr hI) (fun _ => r_mv hA rfl) fun a hA => ?_
        refine gE 1 hA rfl (.inr hI) (fun _ => r_mv hA rfl) fun a hA => ?_
        refine gE 2 hA rfl (.inr hI) (fun _ => r_nilc hA rfl) fun a hA => ?_
        refine gE 3 hA rfl (.inr hI) (fun _ => r_fd (k := 0) Tryd.underlying97 rfl sz95 hA rfl rfl) fun a hA => ?_
        refine gT 4 hA rfl hI (fun w hI => r_ld1 (j := 2) [] [av .u8 32 x0.start] Tryd.underlying95 rfl hI rfl hA rfl rfl) fun a hA => ?_
        refine gE 5 hA rfl (.inr hI) (fun _ => r_mv hA rfl) fun a hA => ?_
        refine gE 6 hA rfl (.inr hI) (fun _ => r_mv hA rfl) fun a hA => ?_
        obtain ⟨hb1, H⟩ := bG H
        refine gT 7 hA rfl hI (fun w hI => r_rix (j := 0) Tryd.underlying62 sz26 hI rfl hA rfl rfl hb1.1 hb1.2) fun a hA => ?_
        obtain ⟨A1, _, B1, hc3, hl1, _, he1⟩ := Els.at_ ws1 (getD_some [] hb1.1 hb1.2)
        obtain ⟨rfl, hw1⟩ := he1
        refine gT 8 hA rfl hI (fun w hI => r_rldP (j := 0) (q := s2.toNat * 32) (off := 0) A1 B1 [] [av .u8 32 (s1.getD s2.toNat [])] [] hc3 hl1 rfl Tryd.underlying26 rfl sz26 rfl hI rfl hA rfl) fun a hA => ?_
        refine gT 9 hA rfl hI (fun w hI => r_nlook (j := 3) kn95 Tryd.underlying95 mz95 hp1.1 hw1 hI rfl hA rfl rfl) fun a hA => ?_
        obtain ⟨nd1, hn2, H⟩ := bB H
        obtain ⟨kk1, ho1, hk1⟩ := nget_some hn2
        have hw2 : HeadW μ nd1.head := (NdW.at hp1 hk1).1
        refine gE 10 hA rfl (.inr hI) (fun _ => r_nilcN ho1 hA rfl) fun a hA => ?_
        refine gE 11 hA rfl (.inr hI) (fun _ => r_fd (k := 70) Tryd.underlying94 rfl sz62 hA rfl rfl) fun a hA => ?_
        refine gT 12 hA rfl hI (fun w hI => r_ld1 (j := 0) [[.int .u32 nd1.head.Version], av .u8 32 nd1.head.Prev, av .u8 32 nd1.head.Root, [.int .u32 nd1.head.Time], [.int .u32 nd1.head.Work], [.int .u32 nd1.head.Nonce], [.int .i64 nd1.height], [.int .u64 nd1.work]] [] Tryd.underlying62 rfl ((hI.sl [3] rfl).focus hp1.1.2 hk1) rfl hA rfl rfl) fun a hA => ?_
        refine gF 13 rfl ?_
        obtain ⟨hb2, H⟩ := bG H
        have hE3 := ws1.app ((NdW.at hp1 hk1).2.2.2)
        refine o_appG (xs := (s1 : List (List Int))) (ys := (nd1.up : List (List Int))) (M := 4398046511104) 0 te26 Tryd.underlying62 hI rfl hA rfl rfl (src_row ((hI.sl [3] rfl).focus hp1.1.2 hk1) (j := 1) rfl) ((NdW.at hp1 hk1).2.2.2).len (((NdW.at hp1 hk1).2.2.2).ones (one_RA _ _)) hb2 rfl fun v1 a w hA hI => ?_
        refine o_nil <| ⟨(.inl (by kernel_rfl)), ?_⟩
        refine gE 14 hA rfl (.inl (by kernel_rfl)) (fun _ => r_as hA rfl) fun a hA => ?_
        refine gN <| hN10 _ _ <| w_reg <| stm hA rfl rfl fun a hA => 
          stp hA (r_add hA rfl rfl) rfl fun a hA => 
          sta hA rfl rfl fun a hA => ?_
        refine o_nil <| ⟨m1, Nat.lt_succ_self _, s1 ++ nd1.up, IntKind.i64.wrap (s2 + 1), v1, ccs1 ++ ((gs1 kk1).2.2), H, hE3, (wrap_in _ _), hA.sub ⟨rfl, rfl, rfl, rfl, trivial⟩, hI⟩
      · obtain ⟨hc2, H⟩ := dF H hc2
        refine w_exit rfl ?_
        have H : some s1 = some z1 := H
        obtain rfl := sI H
        have H := Hk2
        cases sJ H
        exact ⟨vvs1, ccs1, ws1, hA.sub ⟨rfl, rfl, trivial⟩, hI⟩
    · rintro a w ⟨vvc1, ccc1, wc1, hA, hI⟩
      have H := Hk1
      refine w_seq fun _ hN11 => w_reg <| stm hA rfl rfl fun a hA => ?_
      obtain ⟨r1, hr1, H⟩ := bB H
      refine o_call _ cf102 hA rfl (slices_SortFunc_api_Hash_api_Hash_at_digest_Compare.c μ _ hI.agr c1 vvc1 ccc1 wc1 (hI.item (j := 0) rfl) r1 hr1) rfl fun v2 a w hz3 hA => ?_
      obtain ⟨cs4, rfl, hE4, hi1⟩ := hz3
      have hI := hI.call1 0 rfl hi1
      refine o_nil <| hN11 _ _ <| w_seq fun _ hN12 => w_reg <| stm hA rfl rfl fun a hA => 
        sta hA rfl rfl fun a hA => ?_
      refine o_nil <| hN12 _ _ <| w_ret ?_
      obtain rfl := sJ H
      exact ret1 hA Tryd.results78 rfl ⟨_, rfl, vvc1, cs4, rfl, hE4, ((hI.sl [0, 2, 3] rfl).less (Store.le.refl _) hI.le)⟩
section
set_option maxRecDepth 20000
theorem pk_anti {a b : List Int} (h1 : hle a b = true) (h2 : hle b a = true) : a = b := by
  simp only [hle, Bool.not_eq_true', decide_eq_false_iff_not] at h1 h2
  have := ci_neg a b
  exact ci_zero _ _ (by omega)
theorem pk_trans (a b c : List Int) (h1 : hle a b = true) (h2 : hle b c = true) : hle a c = true := by
  simp only [hle, Bool.not_eq_true', decide_eq_false_iff_not] at *
  intro h3
  have a1 := ci_neg a b
  have a2 := ci_neg b c
  rcases Int.lt_trichotomy (cmpI a b) 0 with c1 | c1 | c1
  · have := ci_trans _ _ _ h3 c1; omega
  · rw [ci_zero _ _ c1] at h3; omega
  · omega
theorem pk_total (a b : List Int) : (hle a b || hle b a) = true := by
  simp only [hle, Bool.or_eq_true, Bool.not_eq_true', decide_eq_false_iff_not]
  have := ci_neg a b
  omega
theorem pk_perm {xs ys : List (List Int)} (h : xs.Perm ys) : hsort xs = hsort ys :=
  List.Perm.eq_of_pairwise (fun a b _ _ h1 h2 => pk_anti h1 h2) (List.pairwise_mergeSort pk_trans pk_total xs) (List.pairwise_mergeSort pk_trans pk_total ys)
    (((List.mergeSort_perm xs hle).trans h).trans (List.mergeSort_perm ys hle).symm)
theorem pk_len {α : Type} [DecidableEq α] : ∀ {xs ys : List α}, xs.Nodup → (∀ x ∈ xs, x ∈ ys) → xs.length ≤ ys.length
  | [], _, _, _ => Nat.zero_le _
  | x :: xs, ys, hn, hs => by
    rw [List.nodup_cons] at hn
    have hx := hs x (by simp)
    have ih := pk_len (xs := xs) (ys := ys.erase x) hn.2 fun y hy => (List.mem_erase_of_ne (fun (e : y = x) => hn.1 (e ▸ hy))).2 (hs y (by simp [hy]))
    rw [List.length_erase_of_mem hx] at ih
    have := List.length_pos_of_mem hx
    simp only [List.length_cons]
    omega
theorem pk_more {α : Type} [DecidableEq α] {pre ys : List α} {x : α} (hpn : pre.Nodup) (hpm : ∀ y ∈ pre, y ∈ ys) (hx : x ∈ ys) (hxn : x ∉ pre) : pre.length + 1 ≤ ys.length := by
  have := pk_len (xs := x :: pre) (ys := ys) (List.nodup_cons.2 ⟨hxn, hpn⟩) fun y hy => by
    rcases List.mem_cons.1 hy with rfl | hy
    · exact hx
    · exact hpm y hy
  simpa using this
theorem pk_cf120 : CalleeF Tryd.prog 120 := ⟨_, Tryd.func120, by kernel_rfl, rfl⟩
theorem pk_cf103 : CalleeF Tryd.prog 103 := ⟨_, Tryd.func103, by kernel_rfl, rfl⟩
theorem keys1.c : KC Tryd.prog 101 104 kv104 (fun x : List Int => Arr .u8 32 x) := by
  intro W0 md μ0 μ l gb gm arr cl ks S w its0 hS hk hnd hB hkw hI hY
  refine enter Tryd.func101 rfl Tryd.ntmps101 rfl fun a hA => ?_
  refine w_seq fun _ hN1 => w_reg <| stp hA (r_ld1 (j := 0) [] [] Tryd.underlying104 rfl hI rfl hA rfl rfl) rfl fun a hA => ?_
  refine o_range Tryd.underlying104 hI (j := 1) rfl hA rfl rfl fun r a w hI hA => ?_
  refine o_nil <| hN1 _ _ <| w_block ?_
  refine w_loop (fun n a w => ∃ (seen : Array Nat) (c0 : Nat) (pre : List (List Int)) (its1 : List It), n = (leftOf arr seen).size ∧ PC arr ks seen pre ∧ cl ≤ c0 ∧ S pre its1 ∧ Fr a 14 [(0, .func (.yield l) #[] #[]), (5, .pointer (some ⟨r, 0, none⟩))] ∧ Iv W0 md μ0 μ (obj r (.mapIter (some gm) cl seen c0) :: cel gb [[.map (some gm)]] 104 :: obj gm (.map arr cl) :: its1) w) _ ⟨#[], cl, [], its0, rfl, PC.nil, Nat.le_refl _, hS, hA.sub ⟨rfl, rfl, trivial⟩, hI⟩ ?_
  clear hA hI
  rintro n a w ⟨seen, c0, pre, its1, rfl, hP, hc, hS1, hA, hI⟩
  refine w_seq fun _ hN2 => w_reg <| o_next (j1 := 0) (j2 := 2) hI rfl rfl hB.1 hc hA rfl rfl (fun h0 a w hI hA => ?_) (fun e he a w hI hA => ?_)
  · refine stp hA (r_extr (vs := [.bool false]) hA rfl rfl) rfl fun a hA => ?_
    refine o_nil <| hN2 _ _ <| w_seq fun _ hN3 => w_cF hA rfl rfl ?_
    refine w_exit rfl ?_
    exact ret0 hA Tryd.results101 ⟨⟨_, rfl⟩, pre, its1, hP.done hk hB h0, hS1, hI.drop (List.sublist_cons_self _ _)⟩
  · obtain ⟨x, hx, hxm, hxn, hP2, hem, hlt⟩ := hP.step hk hB hnd he
    refine stp hA (r_extr (vs := [.bool true, e.key, e.val]) hA rfl rfl) rfl fun a hA => ?_
    refine o_nil <| hN2 _ _ <| w_seq fun _ hN3 => w_cT hA rfl rfl <| w_skip <| hN3 _ _ <| w_block <| w_seq fun _ hN4 => w_reg <| ?_
    have hI : Iv W0 md μ0 μ (obj r (.mapIter (some gm) cl (seen.push e.born) cl) :: cel gb [[.map (some gm)]] 104 :: obj gm (.map arr cl) :: its1) w := hI
    refine stp hA (r_entry (j1 := 0) (j2 := 2) hI rfl rfl hem hB hA rfl) rfl fun a hA => ?_
    refine stp hA (r_extr (vs := [e.key, e.val]) hA rfl rfl) rfl fun a hA => ?_
    refine o_new [av .u8 32 (List.replicate 32 0)] zr26 hI hA rfl fun g a w hA hI hg => ?_
    have hA : FrG [] a 14 _ := hA.sub (L' := [(3, .pointer (some ⟨g, 0, none⟩)), (9, kv104 x), (0, .func (.yield l) #[] #[]), (5, .pointer (some ⟨r, 0, none⟩))]) ⟨rfl, by rw [← hx]; rfl, rfl, rfl, trivial⟩
    refine o_st (j := 0) [] [av .u8 32 (List.replicate 32 0)] [av .u8 32 x] [] sz26 rfl rfl (fl_cons (one_av _ _ _) fl_nil) hI rfl hA rfl rfl rfl rfl fun w hI => ?_
    refine o_nil <| hN4 _ _ <| w_seq fun _ hN5 => (wpIn_wide (n := 1)).1 (wpIn_region_lit ?_)
    refine y_st (fun _ => trivial) hA rfl (r_mv hA rfl) rfl fun a hA => ?_
    refine y_st (fun _ => trivial) hA rfl (r_ldA (j := 0) [] [av .u8 32 x] [] Tryd.underlying26 rfl sz26 rfl hI rfl hA rfl rfl) rfl fun a hA => ?_
    refine y_call (Z := fun u w' => u = .bool true ∧ ∃ its2, S (pre ++ [x]) its2 ∧ Iv W0 md μ0 μ (cel g [av .u8 32 x] 26 :: obj r (.mapIter (some gm) cl (seen.push e.born) cl) :: cel gb [[.map (some gm)]] 104 :: obj gm (.map arr cl) :: its2) w') hA rfl rfl (hY pre x its1 _ _ _ _ w hS1 hxm hxn hP.mem (hP.nodup hnd) hI) rfl fun u a w hz hA => ?_
    obtain ⟨rfl, its2, hS2, hI⟩ := hz
    refine y_st (fun _ => trivial) hA rfl (r_not hA rfl) rfl fun a hA => ?_
    refine hN5 _ _ <| w_cF hA rfl rfl <| w_skip ?_
    exact ⟨_, hlt, seen.push e.born, cl, pre ++ [x], its2, rfl, hP2, Nat.le_refl _, hS2, hA.sub ⟨rfl, rfl, trivial⟩, hI.drop (List.sublist_cons_self _ _)⟩
theorem keys.c (m : Nat) (w : World) (μ : Store) (hμ : Agr μ w) :
    Calls Tryd.prog 77 [.map (some m)].toArray w (fun e w' => ∃ v, e = .returned v ∧ ∃ gb, v = .func (.func 101) #[] #[.pointer (some ⟨gb, 0, none⟩)] ∧ Iv w [] μ μ [cel gb [[.map (some m)]] 104] w') := by
  refine enter Tryd.func77 rfl Tryd.ntmps77 rfl fun a hA => ?_
  have hI := Iv.start hμ
  refine w_seq fun _ hN1 => w_reg <| o_box [[.map (some m)]] hI hA rfl rfl rfl fun g a w hA hI hg => ?_
  refine sta hA rfl rfl fun a hA => ?_
  refine o_nil <| hN1 _ _ <| w_seq fun _ hN2 => w_reg <| stp hA (r_mkfn hA rfl) rfl fun a hA => ?_
  refine sta hA rfl rfl fun a hA => ?_
  refine o_nil <| hN2 _ _ <| w_ret ?_
  exact ret1 hA Tryd.results77 rfl ⟨_, rfl, g, rfl, hI⟩
theorem appendSeq.c (μ : Store) (w0 : World) (hμ : Agr μ w0) (gb gm : Nat) (m : List (List Int × Bool)) (hm : mw104 m) (hl : m.length ≤ 4398046511104) (ho0 : Its μ w0 [cel gb [[.map (some gm)]] 104, mpI gm (ent kv104 vv104 m)]) :
    Calls Tryd.prog 120 [.slice none 0 0, .func (.func 101) #[] #[.pointer (some ⟨gb, 0, none⟩)]].toArray w0 (fun e w' => ∃ v, e = .returned v ∧ ∃ (ks : List (List Int)) (c0 : List Value), ks.Perm (m.map (·.1)) ∧ Els (RA .u8 32) 32 ks c0 ∧ Iv w0 (many [cel gb [[.map (some gm)]] 104, mpI gm (ent kv104 vv104 m)]).foot μ μ [row 26 32 v ks.length c0, cel gb [[.map (some gm)]] 104, mpI gm (ent kv104 vv104 m)] w') := by
  refine enterM Tryd.func120 rfl Tryd.ntmps120 rfl fun a hA => ?_
  have hI := Iv.startN hμ ho0
  refine w_seq fun _ hN1 => w_reg <| o_box [[.slice none 0 0]] hI hA rfl rfl rfl fun g a w hA hI hg => 
    sta hA rfl rfl fun a hA => ?_
  have hI := hI.nilRow 26 32
  have hI := hI.sl [2, 3, 0, 1] rfl
  refine o_nil <| hN1 _ _ <| w_seq fun _ hN2 => w_seq fun _ hN3 => w_reg <| stm hA rfl rfl fun a hA => ?_
  refine o_nil <| hN3 _ _ <| w_block ?_
  have hf : CalleeF Tryd.prog 101 := ⟨_, Tryd.func101, by kernel_rfl, rfl⟩
  refine w_range (t := 7) (gb := gb) (gm := gm) keys1.c hf (fun pre its => ∃ v c0, Els (RA .u8 32) 32 pre c0 ∧ its = [row 26 32 v pre.length c0, cel g [[v]] 62])
    (fun pre x a its => ∃ v c0 g5, Els (RA .u8 32) 32 pre c0 ∧ Arr .u8 32 x ∧ Fr a 13 [(2, .pointer (some ⟨g, 0, none⟩)), (5, .pointer (some ⟨g5, 0, none⟩))] ∧ its = [cel g5 [av .u8 32 x] 26, row 26 32 v pre.length c0, cel g [[v]] 62])
    hA rfl rfl ⟨_, [], Els.nil, rfl⟩ (fun p hp => (hm.1 p hp).1) hm.2 hI ?_ ?_ ?_
  · clear hA hI
    rintro pre x _ z1 z2 z3 z4 z5 z6 w a r ⟨v, c0, hE, rfl⟩ hx hxn hpm hpn hA hI
    obtain ⟨p, hp, rfl⟩ := List.mem_map.1 hx
    have hxa := (hm.1 p hp).1
    refine rw_reg rfl <| o_new [av .u8 32 (List.replicate 32 0)] zr26 hI hA rfl fun g5 a w hA hI hg => ?_
    have hA : FrG [] a 13 _ := hA.sub (L' := [(5, .pointer (some ⟨g5, 0, none⟩)), (7, kv104 p.1), (2, .pointer (some ⟨g, 0, none⟩))]) ⟨rfl, rfl, rfl, trivial⟩
    refine o_st (j := 0) [] [av .u8 32 (List.replicate 32 0)] [av .u8 32 p.1] [] sz26 rfl rfl (fl_cons (one_av _ _ _) fl_nil) hI rfl hA rfl rfl rfl rfl fun w hI => ?_
    refine o_nil ⟨_, ⟨v, c0, g5, hE, hxa, hA.sub ⟨rfl, rfl, trivial⟩, rfl⟩, ?_⟩
    exact hI.sl [1, 2, 3, 4, 5, 6, 0, 7, 8] rfl
  · clear hA hI
    rintro pre x _ z1 z2 z3 z4 z5 z6 w a r hx hxn hpm hpn ⟨v, c0, g5, hE, hxa, hA, rfl⟩ hI
    have hpl : pre.length + 1 ≤ 4398046511104 := by
      have h2 := pk_more hpn hpm hx hxn
      simp at h2
      omega
    refine rw_block <| rw_reg rfl <| stp hA (r_ld1 (j := 8) [] [] Tryd.underlying62 rfl hI rfl hA rfl rfl) rfl fun a hA => 
      stp hA (r_ldA (j := 6) [] [av .u8 32 x] [] Tryd.underlying26 rfl sz26 rfl hI rfl hA rfl rfl) rfl fun a hA => ?_
    have hE1 : Els (RA .u8 32) 32 ([x] : List (List Int)) _ := (Els.cons (c := [av .u8 32 x].flatten) ⟨rfl, hxa⟩ rfl Els.nil)
    refine o_bsl ([av .u8 32 x].flatten ++ ([])) te26 zr26 Tryd.underlying62 hI hA rfl rfl rfl rfl (by kernel_rfl) rfl fun g1 a w hA hI => ?_
    generalize hcs : ([av .u8 32 x].flatten ++ ([]) : List Value) = cs1 at hE1 hI
    clear hcs
    have hE3 := hE.app hE1
    refine o_appG (xs := (pre : List (List Int))) (ys := (([x] : List (List Int)) : List (List Int))) (M := 4398046511104) 8 te26 Tryd.underlying62 hI rfl hA rfl rfl (src_row hI (j := 0) rfl) hE1.len (hE1.ones (one_RA _ _)) hpl rfl fun v1 a w hA hI => ?_
    refine o_st (j := 9) [] [[v]] [[v1]] [] sz62 rfl rfl (fl_cons (oneC (own_one hI (j := 8) rfl)) fl_nil) hI rfl hA rfl rfl (own_cell hI (j := 8) rfl) rfl fun w hI => ?_
    refine o_nil ⟨_, ⟨v1, _, hE3, rfl⟩, ?_⟩
    exact hI.sl [1, 2, 3, 4, 5, 6, 8, 9] rfl
  · clear hA hI
    rintro ks _ D a w hp ⟨v, c0, hE, rfl⟩ hA hI
    refine hN2 _ _ <| w_seq fun _ hN4 => w_reg <| stp hA (r_ld1 (j := 4) [] [] Tryd.underlying62 rfl hI rfl hA rfl rfl) rfl fun a hA => 
      sta hA rfl rfl fun a hA => ?_
    refine o_nil <| hN4 _ _ <| w_ret ?_
    exact retM1 hA hI Tryd.results120 rfl fun w hI => ⟨_, rfl, ks, c0, hp, hE, hI.sl [2, 0, 1] rfl⟩
theorem collect.c (μ : Store) (w0 : World) (hμ : Agr μ w0) (gb gm : Nat) (m : List (List Int × Bool)) (hm : mw104 m) (hl : m.length ≤ 4398046511104) (ho0 : Its μ w0 [cel gb [[.map (some gm)]] 104, mpI gm (ent kv104 vv104 m)]) :
    Calls Tryd.prog 103 [.func (.func 101) #[] #[.pointer (some ⟨gb, 0, none⟩)]].toArray w0 (fun e w' => ∃ v, e = .returned v ∧ ∃ (ks : List (List Int)) (c0 : List Value), ks.Perm (m.map (·.1)) ∧ Els (RA .u8 32) 32 ks c0 ∧ Iv w0 (many [cel gb [[.map (some gm)]] 104, mpI gm (ent kv104 vv104 m)]).foot μ μ [row 26 32 v ks.length c0, cel gb [[.map (some gm)]] 104, mpI gm (ent kv104 vv104 m)] w') := by
  refine enter Tryd.func103 rfl Tryd.ntmps103 rfl fun a hA => ?_
  have hI := Iv.startN hμ ho0
  refine w_seq fun _ hN1 => w_reg <| sta hA rfl rfl fun a hA => ?_
  refine o_nil <| hN1 _ _ <| w_seq fun _ hN2 => w_reg <| stm hA rfl rfl fun a hA => ?_
  refine o_call _ pk_cf120 hA rfl (appendSeq.c μ _ hI.agr gb gm m hm hl ho0) rfl fun v2 a w hz hA => ?_
  obtain ⟨ks, c0, hp, hE, hI⟩ := hz
  refine sta hA rfl rfl fun a hA => ?_
  refine o_nil <| hN2 _ _ <| w_ret ?_
  exact ret1 hA Tryd.results103 rfl ⟨_, rfl, ks, c0, hp, hE, hI⟩
theorem sortedFunc.c (μ : Store) (w0 : World) (hμ : Agr μ w0) (gb gm : Nat) (m : List (List Int × Bool)) (hm : mw104 m) (hl : m.length ≤ 4398046511104) (ho0 : Its μ w0 [cel gb [[.map (some gm)]] 104, mpI gm (ent kv104 vv104 m)]) :
    Calls Tryd.prog 79 [.func (.func 101) #[] #[.pointer (some ⟨gb, 0, none⟩)], .func (.func 80) #[] #[]].toArray w0 (fun e w' => ∃ v, e = .returned v ∧ ∃ (c0 : List Value), Els (RA .u8 32) 32 (hsort (m.map (·.1))) c0 ∧ Iv w0 (many [cel gb [[.map (some gm)]] 104, mpI gm (ent kv104 vv104 m)]).foot μ μ [row 26 32 v (hsort (m.map (·.1))).length c0, cel gb [[.map (some gm)]] 104, mpI gm (ent kv104 vv104 m)] w') := by
  refine enter Tryd.func79 rfl Tryd.ntmps79 rfl fun a hA => ?_
  have hI := Iv.startN hμ ho0
  refine w_seq fun _ hN1 => w_reg <| sta hA rfl rfl fun a hA => ?_
  refine o_nil <| hN1 _ _ <| w_seq fun _ hN2 => w_reg <| stm hA rfl rfl fun a hA => ?_
  refine o_call _ pk_cf103 hA rfl (collect.c μ _ hI.agr gb gm m hm hl ho0) rfl fun v2 a w hz hA => ?_
  obtain ⟨ks, c0, hp, hE, hI⟩ := hz
  refine sta hA rfl rfl fun a hA => ?_
  refine o_nil <| hN2 _ _ <| w_seq fun _ hN3 => w_reg <| stm hA rfl rfl fun a hA => stm hA rfl rfl fun a hA => ?_
  have hlen : ks.length ≤ 4398046511104 := by rw [hp.length_eq]; simpa using hl
  have hr : slices_SortFunc_api_Hash_api_Hash_at_digest_Compare.f ks = some (hsort ks) := if_pos hlen
  refine o_call _ cf102 hA rfl (slices_SortFunc_api_Hash_api_Hash_at_digest_Compare.c μ _ hI.agr ks v2 c0 hE (hI.item (j := 0) rfl) (hsort ks) hr) rfl fun v3 a w hz3 hA => ?_
  obtain ⟨cs4, rfl, hE4, hi1⟩ := hz3
  have hI := hI.call1 0 rfl hi1
  refine o_nil <| hN3 _ _ <| w_seq fun _ hN4 => w_reg <| stm hA rfl rfl fun a hA => sta hA rfl rfl fun a hA => ?_
  refine o_nil <| hN4 _ _ <| w_ret ?_
  rw [← pk_perm hp]
  exact ret1 hA Tryd.results79 rfl ⟨_, rfl, cs4, hE4, hI⟩
theorem dd_mem : ∀ {l : List (List Int)} {y : List Int}, y ∈ dd l ↔ y ∈ l
  | [], _ => by simp [dd]
  | x :: xs, y => by
    unfold dd
    split
    · rename_i h
      rw [dd_mem, List.mem_cons]
      exact ⟨.inr, fun h' => by rcases h' with rfl | h'; exact h; exact h'⟩
    · rw [List.mem_cons, List.mem_cons, dd_mem]
theorem dd_nodup : ∀ l : List (List Int), (dd l).Nodup
  | [] => by simp [dd]
  | x :: xs => by
    unfold dd
    split
    · exact dd_nodup xs
    · rename_i h
      exact List.nodup_cons.2 ⟨fun h' => h (dd_mem.1 h'), dd_nodup xs⟩
theorem pkU_some {t : treeTree} : ∀ {xs u : List (List Int)}, pkU t xs = some u → (∀ x ∈ xs, ∃ l, tree_Tree_Under.f t x = some l) ∧ ∀ y, y ∈ u ↔ ∃ x ∈ xs, ∃ l, tree_Tree_Under.f t x = some l ∧ y ∈ l
  | [], u, h => by
    have : u = [] := by simpa [pkU] using h.symm
    subst this
    simp
  | x :: xs, u, h => by
    unfold pkU at h
    obtain ⟨l, h1, h⟩ := bind_some h
    obtain ⟨u', h2, h⟩ := bind_some h
    obtain rfl := sI h
    obtain ⟨i1, i2⟩ := pkU_some h2
    refine ⟨fun z hz => ?_, fun y => ?_⟩
    · rcases List.mem_cons.1 hz with rfl | hz
      · exact ⟨l, h1⟩
      · exact i1 z hz
    · rw [List.mem_append, i2]
      constructor
      · rintro (hy | ⟨z, hz, l', h3, h4⟩)
        · exact ⟨x, by simp, l, h1, hy⟩
        · exact ⟨z, by simp [hz], l', h3, h4⟩
      · rintro ⟨z, hz, l', h3, h4⟩
        rcases List.mem_cons.1 hz with rfl | hz
        · rw [h1] at h3; cases h3; exact .inl h4
        · exact .inr ⟨z, hz, l', h3, h4⟩
def MK (mk : List (List Int × Bool)) (p : List Int → Prop) : Prop := mw104 mk ∧ (∀ q ∈ mk, q.2 = true) ∧ ∀ k, k ∈ mk.map (·.1) ↔ p k
theorem mk_nil {p : List Int → Prop} (h : ∀ k, ¬ p k) : MK [] p := ⟨mw_nil, by simp, fun k => by simp [h k]⟩
theorem mput_mem (l : List (List Int × Bool)) (k : List Int) : (∀ y, y ∈ (mput l k true).map (·.1) ↔ y ∈ l.map (·.1) ∨ y = k) ∧ ((∀ q ∈ l, q.2 = true) → ∀ q ∈ mput l k true, q.2 = true) := by
  induction l with
  | nil => exact ⟨fun y => by simp [mput], fun _ q hq => by simp [mput] at hq; rw [hq]⟩
  | cons p l ih =>
    unfold mput
    split
    · rename_i e
      refine ⟨fun y => ?_, fun h q hq => ?_⟩
      · simp only [List.map_cons, List.mem_cons]
        constructor
        · rintro (h | h)
          · exact .inr h
          · exact .inl (.inr h)
        · rintro ((h | h) | h)
          · exact .inl (h.trans e)
          · exact .inr h
          · exact .inl h
      · rcases List.mem_cons.1 hq with rfl | hq
        · rfl
        · exact h q (by simp [hq])
    · refine ⟨fun y => ?_, fun h q hq => ?_⟩
      · simp only [List.map_cons, List.mem_cons, ih.1 y]
        constructor
        · rintro (h | h | h)
          · exact .inl (.inl h)
          · exact .inl (.inr h)
          · exact .inr h
        · rintro ((h | h) | h)
          · exact .inl h
          · exact .inr (.inl h)
          · exact .inr (.inr h)
      · rcases List.mem_cons.1 hq with rfl | hq
        · exact h _ (by simp)
        · exact ih.2 (fun q hq => h q (by simp [hq])) q hq
theorem MK.put {mk : List (List Int × Bool)} {p p' : List Int → Prop} {k : List Int} (h : MK mk p) (hk : Arr .u8 32 k) (hp : ∀ y, p' y ↔ p y ∨ y = k) : MK (mput mk k true) p' :=
  ⟨h.1.put hk trivial, (mput_mem mk k).2 h.2.1, fun y => by rw [(mput_mem mk k).1, h.2.2, hp]⟩
theorem MK.get {mk : List (List Int × Bool)} {p : List Int → Prop} (h : MK mk p) (k : List Int) : (mget mk k).getD false = true ↔ p k := by
  rw [← h.2.2 k]
  have h2 := h.2.1
  clear h
  induction mk with
  | nil => simp [mget]
  | cons q l ih =>
    unfold mget
    split
    · rename_i e
      have := h2 q (by simp)
      simp [this, e]
    · rename_i e
      have h3 : (mget l k).getD false = true ↔ k ∈ l.map (·.1) := ih fun x (hx : x ∈ l) => h2 x (List.mem_cons_of_mem _ hx)
      rw [h3, List.map_cons, List.mem_cons]
      exact ⟨.inr, fun h => by rcases h with h | h; exact absurd h.symm e; exact h⟩
theorem MK.sorted {mk : List (List Int × Bool)} {p : List Int → Prop} {u : List (List Int)} (h : MK mk p) (hu : ∀ y, y ∈ u ↔ p y) : hsort (mk.map (·.1)) = hsort (dd u) ∧ (mk.map (·.1)).length = (dd u).length := by
  have hp : (mk.map (·.1)).Perm (dd u) := by
    rw [List.perm_ext_iff_of_nodup h.1.2 (dd_nodup u)]
    intro y
    rw [h.2.2, dd_mem, hu]
  exact ⟨pk_perm hp, hp.length_eq⟩
theorem best_Marks_parted.c (μ : Store) (w0 : World) (hμ : Agr μ w0) (x0 : bestMarks) (gp1 : Nat) (gm1 : Nat) (gs1 : (List Int) → NG) (gm2 : Nat) (g0 : Nat) (hp1 : nw95 μ x0.t.m gs1) (hp2 : Arr .u8 32 x0.t.start) (hp3 : mw104 x0.bad) (ho0 : Its μ w0 [cel g0 [[.pointer (some ⟨gp1, 0, none⟩)], [.map (some gm2)]] 106, cel gp1 [[.map (some gm1)], av .u8 32 x0.t.start] 97, nd95 gm1 x0.t.m gs1, mpI gm2 (ent kv104 vv104 x0.bad)]) (r : List (List Int) × List (List Int)) (H : best_Marks_parted.f x0 = some r) :
    Calls Tryd.prog 56 [.pointer (some ⟨g0, 0, none⟩)].toArray w0 (fun e w' => ∃ v, e = .returned v ∧ ∃ (v0 : Value) (c0 : List Value) (v1 : Value) (c1 : List Value), v = .tuple #[v0, v1] ∧ Els (RA .u8 32) 32 (r.1) c0 ∧ Els (RA .u8 32) 32 (r.2) c1 ∧ Iv w0 (many [cel g0 [[.pointer (some ⟨gp1, 0, none⟩)], [.map (some gm2)]] 106, cel gp1 [[.map (some gm1)], av .u8 32 x0.t.start] 97, nd95 gm1 x0.t.m gs1, mpI gm2 (ent kv104 vv104 x0.bad)]).foot μ μ [row 26 32 v0 (r.1).length c0, row 26 32 v1 (r.2).length c1, cel g0 [[.pointer (some ⟨gp1, 0, none⟩)], [.map (some gm2)]] 106, cel gp1 [[.map (some gm1)], av .u8 32 x0.t.start] 97, nd95 gm1 x0.t.m gs1, mpI gm2 (ent kv104 vv104 x0.bad)] w') := by
  refine enterM Tryd.func56 rfl Tryd.ntmps56 rfl fun a hA => ?_
  have hI := Iv.startN hμ ho0
  obtain ⟨u, hu, H⟩ := bind_some H
  obtain ⟨st, hst, H⟩ := bind_some H
  obtain ⟨gd, hgd, H⟩ := bind_some H
  obtain ⟨⟨hlu, hlg⟩, H⟩ := guard_some H
  obtain rfl := sI H
  obtain ⟨hall, hmem⟩ := pkU_some hu
  refine w_seq fun _ hN1 => w_reg <| o_box [[.pointer (some ⟨g0, 0, none⟩)]] hI hA rfl rfl rfl fun gb1 a w hA hI hg => 
    sta hA rfl rfl fun a hA => sta hA rfl rfl fun a hA => ?_
  refine o_nil <| hN1 _ _ <| w_seq fun _ hN2 => w_reg <| o_mkmap kv104 vv104 hI hA rfl fun gk a w hI hA => 
    o_new [[.map none]] zr104 hI hA rfl fun g4 a w hA hI hg => 
    o_st (j := 0) [] [[.map none]] [[.map (some gk)]] [] sz104 rfl rfl (fl_cons (oneC rfl) fl_nil) hI rfl hA rfl rfl rfl rfl fun w hI => ?_
  refine o_nil <| hN2 _ _ <| w_seq fun _ hN3 => w_seq fun _ hN4 => w_reg <| stp hA (r_ld1 (j := 2) [] [] Tryd.underlying72 rfl hI rfl hA rfl rfl) rfl fun a hA => 
    stp hA (r_nilc hA rfl) rfl fun a hA => 
    stp hA (r_fd (k := 1) Tryd.underlying106 rfl sz104 hA rfl rfl) rfl fun a hA => 
    stp hA (r_ld1 (j := 3) [[.pointer (some ⟨gp1, 0, none⟩)]] [] Tryd.underlying104 rfl hI rfl hA rfl rfl) rfl fun a hA => ?_
  have hf77 : CalleeF Tryd.prog 77 := ⟨_, Tryd.func77, by kernel_rfl, rfl⟩
  have hf79 : CalleeF Tryd.prog 79 := ⟨_, Tryd.func79, by kernel_rfl, rfl⟩
  have hf101 : CalleeF Tryd.prog 101 := ⟨_, Tryd.func101, by kernel_rfl, rfl⟩
  refine o_call _ hf77 hA rfl (keys.c gm2 _ μ hI.agr) rfl fun v a w hz hA => ?_
  obtain ⟨gb, rfl, hi⟩ := hz
  have hI := hI.call hi
  refine o_nil <| hN4 _ _ <| w_block ?_
  -- items: box of the keys, the marks' variable, the marks, m's variable, m, the tree, its nodes, the bad ones
  have hI := hI.sl [0, 7, 1, 2, 3, 4, 5, 6] rfl
  refine w_range (t := 17) (gb := gb) (gm := gm2) keys1.c hf101
    (fun pre its => ∃ mk, MK mk (fun k => ∃ x ∈ pre, ∃ l, tree_Tree_Under.f x0.t x = some l ∧ k ∈ l) ∧ its = [cel g4 [[.map (some gk)]] 104, mpI gk (ent kv104 vv104 mk), cel gb1 [[.pointer (some ⟨g0, 0, none⟩)]] 72, cel g0 [[.pointer (some ⟨gp1, 0, none⟩)], [.map (some gm2)]] 106, cel gp1 [[.map (some gm1)], av .u8 32 x0.t.start] 97, nd95 gm1 x0.t.m gs1])
    (fun pre x a its => ∃ mk g5, MK mk (fun k => ∃ x ∈ pre, ∃ l, tree_Tree_Under.f x0.t x = some l ∧ k ∈ l) ∧ Arr .u8 32 x ∧ Fr a 60 [(1, .pointer (some ⟨gb1, 0, none⟩)), (4, .pointer (some ⟨g4, 0, none⟩)), (5, .pointer (some ⟨g5, 0, none⟩))] ∧ its = [cel g5 [av .u8 32 x] 26, cel g4 [[.map (some gk)]] 104, mpI gk (ent kv104 vv104 mk), cel gb1 [[.pointer (some ⟨g0, 0, none⟩)]] 72, cel g0 [[.pointer (some ⟨gp1, 0, none⟩)], [.map (some gm2)]] 106, cel gp1 [[.map (some gm1)], av .u8 32 x0.t.start] 97, nd95 gm1 x0.t.m gs1])
    hA rfl rfl ⟨[], mk_nil (by simp), rfl⟩ (fun p hp => (hp3.1 p hp).1) hp3.2 hI ?_ ?_ ?_
  · clear hA hI
    rintro pre x _ z1 z2 z3 z4 z5 z6 w a r ⟨mk, hmk, rfl⟩ hx hxn hpm hpn hA hI
    obtain ⟨p, hp, rfl⟩ := List.mem_map.1 hx
    have hxa := (hp3.1 p hp).1
    refine rw_reg rfl <| o_new [av .u8 32 (List.replicate 32 0)] zr26 hI hA rfl fun g5 a w hA hI hg => ?_
    have hA : FrG [] a 60 _ := hA.sub (L' := [(5, .pointer (some ⟨g5, 0, none⟩)), (17, kv104 p.1), (1, .pointer (some ⟨gb1, 0, none⟩)), (4, .pointer (some ⟨g4, 0, none⟩))]) ⟨rfl, rfl, rfl, rfl, trivial⟩
    refine o_st (j := 0) [] [av .u8 32 (List.replicate 32 0)] [av .u8 32 p.1] [] sz26 rfl rfl (fl_cons (one_av _ _ _) fl_nil) hI rfl hA rfl rfl rfl rfl fun w hI => ?_
    refine o_nil ⟨_, ⟨mk, g5, hmk, hxa, hA.sub ⟨rfl, rfl, rfl, trivial⟩, rfl⟩, ?_⟩
    exact hI.sl [1, 2, 3, 4, 5, 6, 0, 7, 8, 9, 10, 11, 12] rfl
  · clear hA hI
    rintro pre x _ z1 z2 z3 z4 z5 z6 w a r hx hxn hpm hpn ⟨mk, g5, hmk, hxa, hA, rfl⟩ hI
    obtain ⟨l, hl⟩ := hall x hx
    refine rw_block <| rw_seq fun _ hN5 => rw_any rfl [5] mo hI fun w hI => ?_
    refine gT 0 hA rfl hI (fun w hI => r_ld1 (j := 9) [] [] Tryd.underlying72 rfl hI rfl hA rfl rfl) fun a hA => ?_
    refine gE 1 hA rfl (.inr hI) (fun _ => r_nilc hA rfl) fun a hA => ?_
    refine gE 2 hA rfl (.inr hI) (fun _ => r_fd (k := 0) Tryd.underlying106 rfl sz58 hA rfl rfl) fun a hA => ?_
    refine gT 3 hA rfl hI (fun w hI => r_ld1 (j := 10) [] [[.map (some gm2)]] Tryd.underlying58 rfl hI rfl hA rfl rfl) fun a hA => ?_
    refine gT 4 hA rfl hI (fun w hI => r_ldA (j := 6) [] [av .u8 32 x] [] Tryd.underlying26 rfl sz26 rfl hI rfl hA rfl rfl) fun a hA => ?_
    refine gE 7 hA rfl (.inr hI) (fun _ => r_mv hA rfl) fun a hA => ?_
    refine gF 5 rfl ?_
    have hI := hI.sl [11, 12, 0, 1, 2, 3, 4, 5, 6, 7, 8, 9, 10] rfl
    refine o_call _ (⟨_, Tryd.func78, by kernel_rfl, rfl⟩ : CalleeF Tryd.prog 78) hA rfl (tree_Tree_Under.c μ _ hI.agr x0.t gm1 gs1 gp1 hp1 hp2 (hI.handN 2) x hxa l hl) rfl fun v a w hz hA => ?_
    obtain ⟨v0, c0, rfl, hE, hi⟩ := hz
    have hI := hI.backN 2 hi
    have hI := hI.sl [0, 3, 4, 5, 6, 7, 8, 9, 10, 11, 12, 13, 1, 2] rfl
    refine o_nil <| ⟨(.inl (by kernel_rfl)), ?_⟩
    have hlen1 := Iv.row_in hI (j := 0) rfl
    refine gF 6 rfl ?_
    refine stp hA (r_rlen (xs := 0) Tryd.underlying62 hI (j := 0) rfl hA rfl) rfl fun a hA => ?_
    refine o_nil <| ⟨(.inl (by kernel_rfl)), ?_⟩
    refine gN <| hN5 _ _ <| rw_block ?_
    refine rw_loop (fun n a w => ∃ (i : Nat) (mk : List (List Int × Bool)), n = l.length - i ∧ i ≤ l.length ∧ MK mk (fun k => (∃ x ∈ pre, ∃ l, tree_Tree_Under.f x0.t x = some l ∧ k ∈ l) ∨ k ∈ l.take i) ∧ Fr a 60 [(4, .pointer (some ⟨g4, 0, none⟩)), (23, v), (24, .int .i64 (l.length : Int)), (25, .int .i64 (i : Int))] ∧
      Iv w0 (many [cel g0 [[.pointer (some ⟨gp1, 0, none⟩)], [.map (some gm2)]] 106, cel gp1 [[.map (some gm1)], av .u8 32 x0.t.start] 97, nd95 gm1 x0.t.m gs1, mpI gm2 (ent kv104 vv104 x0.bad)]).foot μ μ [row 26 32 v l.length c0, z1, z2, z3, z4, z5, z6, cel g4 [[.map (some gk)]] 104, mpI gk (ent kv104 vv104 mk), cel gb1 [[.pointer (some ⟨g0, 0, none⟩)]] 72, cel g0 [[.pointer (some ⟨gp1, 0, none⟩)], [.map (some gm2)]] 106, cel gp1 [[.map (some gm1)], av .u8 32 x0.t.start] 97, nd95 gm1 x0.t.m gs1] w) _
      ⟨0, mk, rfl, Nat.zero_le _, by simpa using hmk, hA.sub ⟨rfl, rfl, rfl, rfl, trivial⟩, hI.sl [0, 1, 2, 3, 4, 5, 6, 8, 9, 10, 11, 12, 13] rfl⟩ ?_
    clear hA hI hmk
    rintro n a w ⟨i, mk, rfl, hil, hmk, hA, hI⟩
    refine rw_seq fun _ hN6 => rw_reg rfl <| stp hA (r_lss hA rfl rfl) rfl fun a hA => ?_
    refine o_nil <| hN6 _ _ <| rw_seq fun _ hN7 => rw_cond hA rfl (fun hc => ?_) (fun hc => ?_)
    · have hc : (i : Int) < (l.length : Int) := by simpa using hc
      have hil' : i < l.length := by omega
      refine rw_skip <| hN7 _ _ <| rw_seq fun _ hN8 => rw_block <| rw_seq fun _ hN9 => rw_reg rfl <| stp hA (r_rix (j := 0) Tryd.underlying62 sz26 hI rfl hA rfl rfl (by omega) hc) rfl fun a hA => ?_
      obtain ⟨A1, _, B1, hc3, hl1, _, he1⟩ := Els.at_ hE (getD_some [] (by omega : (0 : Int) ≤ (i : Int)) hc)
      obtain ⟨rfl, hw1⟩ := he1
      refine stp hA (r_rldP (j := 0) (q := (i : Int).toNat * 32) (off := 0) A1 B1 [] [av .u8 32 (l.getD (i : Int).toNat [])] [] hc3 hl1 rfl Tryd.underlying26 rfl sz26 rfl hI rfl hA rfl) rfl fun a hA => ?_
      refine o_new [av .u8 32 (List.replicate 32 0)] zr26 hI hA rfl fun g7 a w hA hI hg => ?_
      refine o_st (j := 0) [] [av .u8 32 (List.replicate 32 0)] [av .u8 32 (l.getD (i : Int).toNat [])] [] sz26 rfl rfl (fl_cons (one_av _ _ _) fl_nil) hI rfl hA rfl rfl rfl rfl fun w hI => ?_
      refine o_nil <| hN9 _ _ <| rw_reg rfl <| stp hA (r_ld1 (j := 8) [] [] Tryd.underlying104 rfl hI rfl hA rfl rfl) rfl fun a hA => 
        stp hA (r_ldA (j := 0) [] [av .u8 32 (l.getD (i : Int).toNat [])] [] Tryd.underlying26 rfl sz26 rfl hI rfl hA rfl rfl) rfl fun a hA => 
        o_mput (j := 9) (k := (l.getD (i : Int).toNat [])) true kn104 Tryd.underlying104 hmk.1 hw1 hI rfl hA rfl rfl rfl fun w hI => ?_
      refine o_nil <| hN8 _ _ <| rw_reg rfl <| stp hA (r_add hA rfl rfl) rfl fun a hA => stm hA rfl rfl fun a hA => ?_
      have hwr : IntKind.i64.wrap ((i : Int) + 1) = ((i + 1 : Nat) : Int) := by
        rw [show ((i : Int) + 1) = ((i + 1 : Nat) : Int) by omega]
        exact wrap_id ⟨by omega, by have := hlen1.2; omega⟩
      rw [hwr] at hA
      refine o_nil ⟨l.length - (i + 1), by omega, i + 1, _, rfl, by omega, hmk.put hw1 (fun y => ?_), hA.sub ⟨rfl, rfl, rfl, rfl, trivial⟩, hI.sl [1, 2, 3, 4, 5, 6, 7, 8, 9, 10, 11, 12, 13] rfl⟩
      have : l.take (i + 1) = l.take i ++ [l.getD (i : Int).toNat []] := by
        rw [List.take_add_one]
        simp [List.getD, hil']
      rw [this, List.mem_append, List.mem_singleton, or_assoc]
    · have hc : ¬ ((i : Int) < (l.length : Int)) := by simpa using hc
      have : i = l.length := by omega
      subst this
      refine rw_exit rfl ⟨_, ⟨mk, ?_, rfl⟩, hI.sl [1, 2, 3, 4, 5, 6, 7, 8, 9, 10, 11, 12] rfl⟩
      refine ⟨hmk.1, hmk.2.1, fun k => ?_⟩
      rw [hmk.2.2, List.take_length]
      constructor
      · rintro (⟨z, hz, h⟩ | h)
        · exact ⟨z, by simp [hz], h⟩
        · exact ⟨x, by simp, l, hl, h⟩
      · rintro ⟨z, hz, l', h3, h4⟩
        rcases List.mem_append.1 hz with hz | hz
        · exact .inl ⟨z, hz, l', h3, h4⟩
        · have : z = x := by simpa using hz
          subst this
          rw [hl] at h3
          cases h3
          exact .inr h4
  · clear hA hI
    rintro ks _ D a w hp ⟨mk, hmk0, rfl⟩ hA hI
    have hmk : MK mk (fun k => k ∈ u) := ⟨hmk0.1, hmk0.2.1, fun k => by
      rw [hmk0.2.2]
      show _ ↔ k ∈ u
      rw [hmem]
      constructor
      · rintro ⟨z, hz, h⟩; exact ⟨z, hp.mem_iff.1 hz, h⟩
      · rintro ⟨z, hz, h⟩; exact ⟨z, hp.mem_iff.2 hz, h⟩⟩
    clear hmk0
    obtain rfl := sI hst
    have hI := hI.nilRow 26 32
    -- items: the good ones, what is put off, the keys' box, the bad ones, the marks' variable, the marks, m's variable, m, the tree, its nodes
    refine hN3 _ _ <| w_seq fun _ hN5 => w_reg <| sta hA rfl rfl fun a hA => ?_
    refine o_nil <| hN5 _ _ <| w_seq fun _ hN6 => w_seq fun _ hN7 => ?_
    refine w_any [9] mo hI fun w hI => ?_
    refine gT 0 hA rfl hI (fun w hI => r_ld1 (j := 6) [] [] Tryd.underlying72 rfl hI rfl hA rfl rfl) fun a hA => ?_
    refine gE 1 hA rfl (.inr hI) (fun _ => r_nilc hA rfl) fun a hA => ?_
    refine gE 2 hA rfl (.inr hI) (fun _ => r_fd (k := 0) Tryd.underlying106 rfl sz58 hA rfl rfl) fun a hA => ?_
    refine gT 3 hA rfl hI (fun w hI => r_ld1 (j := 7) [] [[.map (some gm2)]] Tryd.underlying58 rfl hI rfl hA rfl rfl) fun a hA => ?_
    refine gT 4 hA rfl hI (fun w hI => r_ld1 (j := 6) [] [] Tryd.underlying72 rfl hI rfl hA rfl rfl) fun a hA => ?_
    refine gE 5 hA rfl (.inr hI) (fun _ => r_nilc hA rfl) fun a hA => ?_
    refine gE 6 hA rfl (.inr hI) (fun _ => r_fd (k := 0) Tryd.underlying106 rfl sz58 hA rfl rfl) fun a hA => ?_
    refine gT 7 hA rfl hI (fun w hI => r_ld1 (j := 7) [] [[.map (some gm2)]] Tryd.underlying58 rfl hI rfl hA rfl rfl) fun a hA => ?_
    refine gE 11 hA rfl (.inr hI) (fun _ => r_mv hA rfl) fun a hA => ?_
    refine gF 8 rfl ?_
    have hI := hI.sl [8, 9, 0, 1, 2, 3, 4, 5, 6, 7] rfl
    refine o_call _ cf27 hA rfl (tree_Tree_Start.c μ _ hI.agr x0.t gm1 gs1 gp1 hp1 hp2 (hI.handN 2) _ rfl) rfl fun v2 a w hz4 hA => ?_
    obtain ⟨rfl, hw3, hi2⟩ := hz4
    have hI := hI.back2 hi2
    refine o_nil <| ⟨(.inr (hI.sl [2, 3, 4, 5, 6, 7, 8, 9, 0, 1] rfl)), ?_⟩
    refine gF 9 rfl ?_
    refine o_call _ (⟨_, Tryd.func78, by kernel_rfl, rfl⟩ : CalleeF Tryd.prog 78) hA rfl (tree_Tree_Under.c μ _ hI.agr x0.t gm1 gs1 gp1 hp1 hp2 (hI.handN 2) _ hw3 gd hgd) rfl fun v a w hz hA => ?_
    obtain ⟨v0, c0, rfl, hE, hi⟩ := hz
    have hI := hI.backN 2 hi
    have hI := hI.sl [3, 0, 4, 5, 6, 7, 8, 9, 10, 1, 2] rfl
    -- items: the good ones, the row, what is put off, the keys' box, the bad ones, the marks' variable, the marks, m's variable, m, the tree, its nodes
    refine o_nil <| ⟨(.inl (by kernel_rfl)), ?_⟩
    have hlen1 := Iv.row_in hI (j := 1) rfl
    refine gF 10 rfl ?_
    refine stp hA (r_rlen (xs := 0) Tryd.underlying62 hI (j := 1) rfl hA rfl) rfl fun a hA => ?_
    refine o_nil <| ⟨(.inl (by kernel_rfl)), ?_⟩
    refine gN <| hN7 _ _ <| w_block ?_
    refine w_loop (fun n a w => ∃ (i : Nat) (vg : Value) (cg : List Value), n = gd.length - i ∧ i ≤ gd.length ∧ Els (RA .u8 32) 32 ((gd.take i).filter fun y => decide (y ∉ u)) cg ∧ FrG (dmark D) a 60 [(4, .pointer (some ⟨g4, 0, none⟩)), (8, vg), (41, v), (42, .int .i64 (gd.length : Int)), (43, .int .i64 (i : Int))] ∧
      Iv w0 (many [cel g0 [[.pointer (some ⟨gp1, 0, none⟩)], [.map (some gm2)]] 106, cel gp1 [[.map (some gm1)], av .u8 32 x0.t.start] 97, nd95 gm1 x0.t.m gs1, mpI gm2 (ent kv104 vv104 x0.bad)]).foot μ μ [row 26 32 vg ((gd.take i).filter fun y => decide (y ∉ u)).length cg, row 26 32 v gd.length c0, obj D (.deferred (some [])), cel gb [[.map (some gm2)]] 104, mpI gm2 (ent kv104 vv104 x0.bad), cel g4 [[.map (some gk)]] 104, mpI gk (ent kv104 vv104 mk), cel gb1 [[.pointer (some ⟨g0, 0, none⟩)]] 72, cel g0 [[.pointer (some ⟨gp1, 0, none⟩)], [.map (some gm2)]] 106, cel gp1 [[.map (some gm1)], av .u8 32 x0.t.start] 97, nd95 gm1 x0.t.m gs1] w) _
      ⟨0, _, [], rfl, Nat.zero_le _, Els.nil, hA.sub ⟨rfl, rfl, rfl, rfl, rfl, trivial⟩, hI⟩ ?_
    clear hA hI
    rintro n a w ⟨i, vg, cg, rfl, hil, hEg, hA, hI⟩
    refine w_seq fun _ hN8 => w_reg <| stp hA (r_lss hA rfl rfl) rfl fun a hA => ?_
    refine o_nil <| hN8 _ _ <| w_seq fun _ hN9 => w_cond hA rfl (fun hc => ?_) (fun hc => ?_)
    · have hc : (i : Int) < (gd.length : Int) := by simpa using hc
      have hil' : i < gd.length := by omega
      have hwr : IntKind.i64.wrap ((i : Int) + 1) = ((i + 1 : Nat) : Int) := by
        rw [show ((i : Int) + 1) = ((i + 1 : Nat) : Int) by omega]
        exact wrap_id ⟨by omega, by have := hlen1.2; omega⟩
      have htk : gd.take (i + 1) = gd.take i ++ [gd.getD (i : Int).toNat []] := by
        rw [List.take_add_one]
        simp [List.getD, hil']
      refine w_skip <| hN9 _ _ <| w_seq fun _ hN10 => w_block <| w_seq fun _ hN11 => w_reg <| stp hA (r_rix (j := 1) Tryd.underlying62 sz26 hI rfl hA rfl rfl (by omega) hc) rfl fun a hA => ?_
      obtain ⟨A1, _, B1, hc3, hl1, _, he1⟩ := Els.at_ hE (getD_some [] (by omega : (0 : Int) ≤ (i : Int)) hc)
      obtain ⟨rfl, hw1⟩ := he1
      refine stp hA (r_rldP (j := 1) (q := (i : Int).toNat * 32) (off := 0) A1 B1 [] [av .u8 32 (gd.getD (i : Int).toNat [])] [] hc3 hl1 rfl Tryd.underlying26 rfl sz26 rfl hI rfl hA rfl) rfl fun a hA => ?_
      refine o_new [av .u8 32 (List.replicate 32 0)] zr26 hI hA rfl fun g7 a w hA hI hg => ?_
      refine o_st (j := 0) [] [av .u8 32 (List.replicate 32 0)] [av .u8 32 (gd.getD (i : Int).toNat [])] [] sz26 rfl rfl (fl_cons (one_av _ _ _) fl_nil) hI rfl hA rfl rfl rfl rfl fun w hI => ?_
      refine o_nil <| hN11 _ _ <| w_seq fun _ hN12 => w_reg <| stp hA (r_ld1 (j := 6) [] [] Tryd.underlying104 rfl hI rfl hA rfl rfl) rfl fun a hA => 
        stp hA (r_ldA (j := 0) [] [av .u8 32 (gd.getD (i : Int).toNat [])] [] Tryd.underlying26 rfl sz26 rfl hI rfl hA rfl rfl) rfl fun a hA => 
        stp hA (r_look (j := 7) kn104 Tryd.underlying104 mz104 hmk.1 hw1 hI rfl hA rfl rfl) rfl fun a hA => 
        stp hA (r_not hA rfl) rfl fun a hA => ?_
      have hget := hmk.get (gd.getD (i : Int).toNat [])
      refine o_nil <| hN12 _ _ <| w_cond hA rfl (fun hb => ?_) (fun hb => ?_)
      · have hnu : gd.getD (i : Int).toNat [] ∉ u := fun h => by rw [hget.2 h] at hb; cases hb
        have hflt : (gd.take (i + 1)).filter (fun y => decide (y ∉ u)) = (gd.take i).filter (fun y => decide (y ∉ u)) ++ [gd.getD (i : Int).toNat []] := by
          rw [htk, List.filter_append]
          simp only [List.filter_cons, List.filter_nil, decide_eq_true hnu, if_true]
        have hgl : ((gd.take i).filter fun y => decide (y ∉ u)).length + 1 ≤ 4398046511104 := by
          have h1 := List.length_filter_le (fun y => decide (y ∉ u)) (gd.take i)
          have h2 : (gd.take i).length ≤ i := by rw [List.length_take]; omega
          omega
        refine w_reg <| stm hA rfl rfl fun a hA => stp hA (r_ldA (j := 0) [] [av .u8 32 (gd.getD (i : Int).toNat [])] [] Tryd.underlying26 rfl sz26 rfl hI rfl hA rfl rfl) rfl fun a hA => ?_
        have hE1 : Els (RA .u8 32) 32 ([gd.getD (i : Int).toNat []] : List (List Int)) _ := (Els.cons (c := [av .u8 32 (gd.getD (i : Int).toNat [])].flatten) ⟨rfl, hw1⟩ rfl Els.nil)
        refine o_bsl ([av .u8 32 (gd.getD (i : Int).toNat [])].flatten ++ ([])) te26 zr26 Tryd.underlying62 hI hA rfl rfl rfl rfl (by kernel_rfl) rfl fun g8 a w hA hI => ?_
        generalize hcs : ([av .u8 32 (gd.getD (i : Int).toNat [])].flatten ++ ([]) : List Value) = cs1 at hE1 hI
        clear hcs
        have hE3 := hEg.app hE1
        refine o_appG (xs := (((gd.take i).filter fun y => decide (y ∉ u)) : List (List Int))) (ys := (([gd.getD (i : Int).toNat []] : List (List Int)) : List (List Int))) (M := 4398046511104) 2 te26 Tryd.underlying62 hI rfl hA rfl rfl (src_row hI (j := 0) rfl) hE1.len (hE1.ones (one_RA _ _)) hgl rfl fun v1 a w hA hI => ?_
        refine sta hA rfl rfl fun a hA => ?_
        refine o_nil <| hN10 _ _ <| w_reg <| stp hA (r_add hA rfl rfl) rfl fun a hA => stm hA rfl rfl fun a hA => ?_
        rw [hwr] at hA
        rw [← hflt] at hE3 hI
        exact o_nil ⟨gd.length - (i + 1), by omega, i + 1, v1, _, rfl, by omega, hE3, hA.sub ⟨rfl, rfl, rfl, rfl, rfl, trivial⟩, hI.sl [2, 3, 4, 5, 6, 7, 8, 9, 10, 11, 12] rfl⟩
      · have hu' : gd.getD (i : Int).toNat [] ∈ u := Classical.byContradiction fun h => by
          have : (mget mk (gd.getD (i : Int).toNat [])).getD false = false := by
            cases hq : (mget mk (gd.getD (i : Int).toNat [])).getD false with
            | false => rfl
            | true => exact absurd (hget.1 hq) h
          rw [this] at hb
          cases hb
        have hflt : (gd.take (i + 1)).filter (fun y => decide (y ∉ u)) = (gd.take i).filter (fun y => decide (y ∉ u)) := by
          rw [htk, List.filter_append]
          simp only [List.filter_cons, List.filter_nil, decide_eq_false (fun h : gd.getD (i : Int).toNat [] ∉ u => h hu'), List.append_nil]
          simp
        refine w_skip <| hN10 _ _ <| w_reg <| stp hA (r_add hA rfl rfl) rfl fun a hA => stm hA rfl rfl fun a hA => ?_
        rw [hwr] at hA
        rw [← hflt] at hEg hI
        exact o_nil ⟨gd.length - (i + 1), by omega, i + 1, vg, _, rfl, by omega, hEg, hA.sub ⟨rfl, rfl, rfl, rfl, rfl, trivial⟩, hI.sl [1, 2, 3, 4, 5, 6, 7, 8, 9, 10, 11] rfl⟩
    · have hc : ¬ ((i : Int) < (gd.length : Int)) := by simpa using hc
      have : i = gd.length := by omega
      subst this
      refine w_exit rfl ?_
      rw [List.take_length] at hEg hI
      refine hN6 _ _ <| w_seq fun _ hN8 => w_reg <| stp hA (r_ld1 (j := 5) [] [] Tryd.underlying104 rfl hI rfl hA rfl rfl) rfl fun a hA => ?_
      refine o_call _ hf77 hA rfl (keys.c gk _ μ hI.agr) rfl fun v2 a w hz hA => ?_
      obtain ⟨gb2, rfl, hi⟩ := hz
      have hI := hI.call hi
      have hI := hI.sl [0, 7, 1, 2, 3, 4, 5, 6, 8, 9, 10, 11] rfl
      obtain ⟨hs1, hs2⟩ := hmk.sorted (u := u) (fun _ => Iff.rfl)
      refine o_call _ hf79 hA rfl (sortedFunc.c μ _ hI.agr gb2 gk mk hmk.1 (by rw [← hs2, List.length_map] at hlu; exact hlu) (hI.handN 2)) rfl fun v3 a w hz hA => ?_
      obtain ⟨c3, hE4, hi⟩ := hz
      rw [hs1] at hE4 hi
      have hI := hI.backN 2 hi
      -- items: the marks in order, the keys' box, the marks, the good ones, the row, what is put off, ..
      refine stm hA rfl rfl fun a hA => sta hA rfl rfl fun a hA => sta hA rfl rfl fun a hA => ?_
      refine o_nil <| hN8 _ _ <| w_ret ?_
      have hI := hI.sl [5, 0, 3, 10, 11, 12, 7] rfl
      exact retM2 hA hI Tryd.results56 rfl rfl fun w hI => ⟨_, rfl, v3, c3, vg, cg, rfl, hE4, hEg, hI⟩
end
set_option maxRecDepth 20000 in
theorem best_ranks_Len.c (μ : Store) (w0 : World) (hμ : Agr μ w0) (x0 : bestRanks) (vp1 : Value) (cp1 : List Value) (gp1 : Nat) (gp2 : Nat) (gm1 : Nat) (gs1 : (List Int) → NG) (gm2 : Nat) (g0 : Nat) (hp1 : Els (RA .u8 32) 32 x0.l cp1) (hp2 : nw95 μ x0.m.t.m gs1) (hp3 : Arr .u8 32 x0.m.t.start) (hp4 : mw104 x0.m.bad) (ho0 : Its μ w0 [cel g0 [[vp1], [.pointer (some ⟨gp1, 0, none⟩)], [.func (.func 31) #[] #[]]] 112, row 26 32 vp1 x0.l.length cp1, cel gp1 [[.pointer (some ⟨gp2, 0, none⟩)], [.map (some gm2)]] 106, cel gp2 [[.map (some gm1)], av .u8 32 x0.m.t.start] 97, nd95 gm1 x0.m.t.m gs1, mpI gm2 (ent kv104 vv104 x0.m.bad)]) (r : Int) (H : best_ranks_Len.f x0 = some r) :
    Calls Tryd.prog 164 [.pointer (some ⟨g0, 0, none⟩)].toArray w0 (fun e w' => ∃ v, e = .returned v ∧ v = .int .i64 r ∧ InR .i64 r ∧ Iv w0 (many [cel g0 [[vp1], [.pointer (some ⟨gp1, 0, none⟩)], [.func (.func 31) #[] #[]]] 112, row 26 32 vp1 x0.l.length cp1, cel gp1 [[.pointer (some ⟨gp2, 0, none⟩)], [.map (some gm2)]] 106, cel gp2 [[.map (some gm1)], av .u8 32 x0.m.t.start] 97, nd95 gm1 x0.m.t.m gs1, mpI gm2 (ent kv104 vv104 x0.m.bad)]).foot μ μ [cel g0 [[vp1], [.pointer (some ⟨gp1, 0, none⟩)], [.func (.func 31) #[] #[]]] 112, row 26 32 vp1 x0.l.length cp1, cel gp1 [[.pointer (some ⟨gp2, 0, none⟩)], [.map (some gm2)]] 106, cel gp2 [[.map (some gm1)], av .u8 32 x0.m.t.start] 97, nd95 gm1 x0.m.t.m gs1, mpI gm2 (ent kv104 vv104 x0.m.bad)] w') := by
  refine enter Tryd.func164 rfl Tryd.ntmps164 rfl fun a hA => ?_
  have hI := Iv.startN hμ ho0
  have H := bI H
  refine w_seq fun _ hN1 => w_reg <| sta hA rfl rfl fun a hA => ?_
  refine o_nil <| hN1 _ _ <| w_seq fun _ hN2 => w_reg <| stm hA rfl rfl fun a hA => 
    stp hA (r_nilc hA rfl) rfl fun a hA => 
    stp hA (r_fd (k := 0) Tryd.underlying112 rfl sz62 hA rfl rfl) rfl fun a hA => 
    stp hA (r_ld1 (j := 0) [] [[.pointer (some ⟨gp1, 0, none⟩)], [.func (.func 31) #[] #[]]] Tryd.underlying62 rfl hI rfl hA rfl rfl) rfl fun a hA => ?_
  have hlen1 := Iv.row_in hI (j := 1) rfl
  refine stp hA (r_rlen (xs := 0) Tryd.underlying62 hI (j := 1) rfl hA rfl) rfl fun a hA => 
    sta hA rfl rfl fun a hA => ?_
  refine o_nil <| hN2 _ _ <| w_ret ?_
  obtain rfl := sJ H
  exact ret1 hA Tryd.results164 rfl ⟨_, rfl, rfl, hlen1, (hI.less (Store.le.refl _) hI.le)⟩
set_option maxRecDepth 20000 in
theorem best_ranks_Less.c (μ : Store) (w0 : World) (hμ : Agr μ w0) (x0 : bestRanks) (vp1 : Value) (cp1 : List Value) (gp1 : Nat) (gp2 : Nat) (gm1 : Nat) (gs1 : (List Int) → NG) (gm2 : Nat) (g0 : Nat) (hp1 : Els (RA .u8 32) 32 x0.l cp1) (hp2 : nw95 μ x0.m.t.m gs1) (hp3 : Arr .u8 32 x0.m.t.start) (hp4 : mw104 x0.m.bad) (ho0 : Its μ w0 [cel g0 [[vp1], [.pointer (some ⟨gp1, 0, none⟩)], [.func (.func 31) #[] #[]]] 112, row 26 32 vp1 x0.l.length cp1, cel gp1 [[.pointer (some ⟨gp2, 0, none⟩)], [.map (some gm2)]] 106, cel gp2 [[.map (some gm1)], av .u8 32 x0.m.t.start] 97, nd95 gm1 x0.m.t.m gs1, mpI gm2 (ent kv104 vv104 x0.m.bad)]) (x1 : Int) (hx1 : InR .i64 x1) (x2 : Int) (hx2 : InR .i64 x2) (r : Bool) (H : best_ranks_Less.f x0 x1 x2 = some r) :
    Calls Tryd.prog 165 [.pointer (some ⟨g0, 0, none⟩), .int .i64 x1, .int .i64 x2].toArray w0 (fun e w' => ∃ v, e = .returned v ∧ v = .bool r ∧ True ∧ Iv w0 (many [cel g0 [[vp1], [.pointer (some ⟨gp1, 0, none⟩)], [.func (.func 31) #[] #[]]] 112, row 26 32 vp1 x0.l.length cp1, cel gp1 [[.pointer (some ⟨gp2, 0, none⟩)], [.map (some gm2)]] 106, cel gp2 [[.map (some gm1)], av .u8 32 x0.m.t.start] 97, nd95 gm1 x0.m.t.m gs1, mpI gm2 (ent kv104 vv104 x0.m.bad)]).foot μ μ [cel g0 [[vp1], [.pointer (some ⟨gp1, 0, none⟩)], [.func (.func 31) #[] #[]]] 112, row 26 32 vp1 x0.l.length cp1, cel gp1 [[.pointer (some ⟨gp2, 0, none⟩)], [.map (some gm2)]] 106, cel gp2 [[.map (some gm1)], av .u8 32 x0.m.t.start] 97, nd95 gm1 x0.m.t.m gs1, mpI gm2 (ent kv104 vv104 x0.m.bad)] w') := by
  refine enter Tryd.func165 rfl Tryd.ntmps165 rfl fun a hA => ?_
  have hI := Iv.startN hμ ho0
  have H := bI H
  refine w_seq fun _ hN1 => w_reg <| sta hA rfl rfl fun a hA => ?_
  refine o_nil <| hN1 _ _ <| w_seq fun _ hN2 => ?_
  refine w_any [] mo hI fun w hI => ?_
  refine gE 0 hA rfl (.inr hI) (fun _ => r_mv hA rfl) fun a hA => ?_
  refine gE 1 hA rfl (.inr hI) (fun _ => r_nilc hA rfl) fun a hA => ?_
  refine gE 2 hA rfl (.inr hI) (fun _ => r_fd (k := 2) Tryd.underlying112 rfl sz110 hA rfl rfl) fun a hA => ?_
  refine gT 3 hA rfl hI (fun w hI => r_ld1 (j := 0) [[vp1], [.pointer (some ⟨gp1, 0, none⟩)]] [] Tryd.underlying110 rfl hI rfl hA rfl rfl) fun a hA => ?_
  refine gE 4 hA rfl (.inr hI) (fun _ => r_mv hA rfl) fun a hA => ?_
  refine gE 5 hA rfl (.inr hI) (fun _ => r_nilc hA rfl) fun a hA => ?_
  refine gE 6 hA rfl (.inr hI) (fun _ => r_fd (k := 1) Tryd.underlying112 rfl sz72 hA rfl rfl) fun a hA => ?_
  refine gT 7 hA rfl hI (fun w hI => r_ld1 (j := 0) [[vp1]] [[.func (.func 31) #[] #[]]] Tryd.underlying72 rfl hI rfl hA rfl rfl) fun a hA => ?_
  refine gE 8 hA rfl (.inr hI) (fun _ => r_mv hA rfl) fun a hA => ?_
  refine gE 9 hA rfl (.inr hI) (fun _ => r_nilc hA rfl) fun a hA => ?_
  refine gE 10 hA rfl (.inr hI) (fun _ => r_fd (k := 0) Tryd.underlying112 rfl sz62 hA rfl rfl) fun a hA => ?_
  refine gT 11 hA rfl hI (fun w hI => r_ld1 (j := 0) [] [[.pointer (some ⟨gp1, 0, none⟩)], [.func (.func 31) #[] #[]]] Tryd.underlying62 rfl hI rfl hA rfl rfl) fun a hA => ?_
  refine gE 12 hA rfl (.inr hI) (fun _ => r_mv hA rfl) fun a hA => ?_
  obtain ⟨hb1, H⟩ := bG H
  refine gT 13 hA rfl hI (fun w hI => r_rix (j := 1) Tryd.underlying62 sz26 hI rfl hA rfl rfl hb1.1 hb1.2) fun a hA => ?_
  obtain ⟨A1, _, B1, hc1, hl1, _, he1⟩ := Els.at_ hp1 (getD_some [] hb1.1 hb1.2)
  obtain ⟨rfl, hw1⟩ := he1
  refine gT 14 hA rfl hI (fun w hI => r_rldP (j := 1) (q := x1.toNat * 32) (off := 0) A1 B1 [] [av .u8 32 (x0.l.getD x1.toNat [])] [] hc1 hl1 rfl Tryd.underlying26 rfl sz26 rfl hI rfl hA rfl) fun a hA => ?_
  refine gE 15 hA rfl (.inr hI) (fun _ => r_mv hA rfl) fun a hA => ?_
  refine gE 16 hA rfl (.inr hI) (fun _ => r_nilc hA rfl) fun a hA => ?_
  refine gE 17 hA rfl (.inr hI) (fun _ => r_fd (k := 0) Tryd.underlying112 rfl sz62 hA rfl rfl) fun a hA => ?_
  refine gT 18 hA rfl hI (fun w hI => r_ld1 (j := 0) [] [[.pointer (some ⟨gp1, 0, none⟩)], [.func (.func 31) #[] #[]]] Tryd.underlying62 rfl hI rfl hA rfl rfl) fun a hA => ?_
  refine gE 19 hA rfl (.inr hI) (fun _ => r_mv hA rfl) fun a hA => ?_
  obtain ⟨hb2, H⟩ := bG H
  refine gT 20 hA rfl hI (fun w hI => r_rix (j := 1) Tryd.underlying62 sz26 hI rfl hA rfl rfl hb2.1 hb2.2) fun a hA => ?_
  obtain ⟨A2, _, B2, hc2, hl2, _, he2⟩ := Els.at_ hp1 (getD_some [] hb2.1 hb2.2)
  obtain ⟨rfl, hw2⟩ := he2
  refine gT 21 hA rfl hI (fun w hI => r_rldP (j := 1) (q := x2.toNat * 32) (off := 0) A2 B2 [] [av .u8 32 (x0.l.getD x2.toNat [])] [] hc2 hl2 rfl Tryd.underlying26 rfl sz26 rfl hI rfl hA rfl) fun a hA => ?_
  refine gF 22 rfl ?_
  obtain ⟨r1, hr1, H⟩ := bB H
  have hI := hI.sl [2, 3, 4, 5, 0, 1] rfl
  refine o_callc _ cf31 hA rfl rfl (best_Marks_Over.c μ _ hI.agr (⟨(⟨x0.m.t.m, x0.m.t.start⟩ : treeTree), x0.m.bad⟩ : bestMarks) gp2 gm1 gs1 gm2 gp1 hp2 hp3 hp4 (hI.handN 4) (x0.l.getD x1.toNat []) hw1 (x0.l.getD x2.toNat []) hw2 r1 hr1) rfl fun v1 a w hz1 hA => ?_
  obtain ⟨rfl, hw3, hi1⟩ := hz1
  have hI := hI.backN 4 hi1
  have hI : Iv w0 (many [cel g0 [[vp1], [.pointer (some ⟨gp1, 0, none⟩)], [.func (.func 31) #[] #[]]] 112, row 26 32 vp1 x0.l.length cp1, cel gp1 [[.pointer (some ⟨gp2, 0, none⟩)], [.map (some gm2)]] 106, cel gp2 [[.map (some gm1)], av .u8 32 x0.m.t.start] 97, nd95 gm1 x0.m.t.m gs1, mpI gm2 (ent kv104 vv104 x0.m.bad)]).foot μ μ [cel gp1 [[.pointer (some ⟨gp2, 0, none⟩)], [.map (some gm2)]] 106, cel gp2 [[.map (some gm1)], av .u8 32 x0.m.t.start] 97, nd95 gm1 x0.m.t.m gs1, mpI gm2 (ent kv104 vv104 x0.m.bad), cel g0 [[vp1], [.pointer (some ⟨gp1, 0, none⟩)], [.func (.func 31) #[] #[]]] 112, row 26 32 vp1 x0.l.length cp1] w := hI
  refine o_nil <| ⟨(.inr (hI.sl [4, 5, 0, 1, 2, 3] rfl)), ?_⟩
  refine gE 23 hA rfl (.inr (hI.sl [4, 5, 0, 1, 2, 3] rfl)) (fun _ => r_as hA rfl) fun a hA => ?_
  refine gN <| hN2 _ _ <| w_ret ?_
  obtain rfl := sJ H
  exact ret1 hA Tryd.results165 rfl ⟨_, rfl, rfl, trivial, ((hI.sl [4, 5, 0, 1, 2, 3] rfl).less (Store.le.refl _) hI.le)⟩
set_option maxRecDepth 20000 in
theorem best_ranks_Swap.c (μ : Store) (w0 : World) (hμ : Agr μ w0) (x0 : bestRanks) (vp1 : Value) (cp1 : List Value) (gp1 : Nat) (gp2 : Nat) (gm1 : Nat) (gs1 : (List Int) → NG) (gm2 : Nat) (g0 : Nat) (hp1 : Els (RA .u8 32) 32 x0.l cp1) (hp2 : nw95 μ x0.m.t.m gs1) (hp3 : Arr .u8 32 x0.m.t.start) (hp4 : mw104 x0.m.bad) (ho0 : Its μ w0 [cel g0 [[vp1], [.pointer (some ⟨gp1, 0, none⟩)], [.func (.func 31) #[] #[]]] 112, row 26 32 vp1 x0.l.length cp1, cel gp1 [[.pointer (some ⟨gp2, 0, none⟩)], [.map (some gm2)]] 106, cel gp2 [[.map (some gm1)], av .u8 32 x0.m.t.start] 97, nd95 gm1 x0.m.t.m gs1, mpI gm2 (ent kv104 vv104 x0.m.bad)]) (x1 : Int) (hx1 : InR .i64 x1) (x2 : Int) (hx2 : InR .i64 x2) (r : bestRanks) (H : best_ranks_Swap.f x0 x1 x2 = some r) :
    Calls Tryd.prog 166 [.pointer (some ⟨g0, 0, none⟩), .int .i64 x1, .int .i64 x2].toArray w0 (fun e w' => ∃ v, e = .returned v ∧ ∃ (vp_1 : Value) (cp_1 : List Value) (gm_1 : Nat) (gs_1 : (List Int) → NG) (gm_2 : Nat), v = .tuple #[] ∧ Els (RA .u8 32) 32 r.l cp_1 ∧ nw95 μ r.m.t.m gs_1 ∧ Arr .u8 32 r.m.t.start ∧ mw104 r.m.bad ∧ Iv w0 (many [cel g0 [[vp1], [.pointer (some ⟨gp1, 0, none⟩)], [.func (.func 31) #[] #[]]] 112, row 26 32 vp1 x0.l.length cp1, cel gp1 [[.pointer (some ⟨gp2, 0, none⟩)], [.map (some gm2)]] 106, cel gp2 [[.map (some gm1)], av .u8 32 x0.m.t.start] 97, nd95 gm1 x0.m.t.m gs1, mpI gm2 (ent kv104 vv104 x0.m.bad)]).foot μ μ [cel g0 [[vp_1], [.pointer (some ⟨gp1, 0, none⟩)], [.func (.func 31) #[] #[]]] 112, row 26 32 vp_1 r.l.length cp_1, cel gp1 [[.pointer (some ⟨gp2, 0, none⟩)], [.map (some gm_2)]] 106, cel gp2 [[.map (some gm_1)], av .u8 32 r.m.t.start] 97, nd95 gm_1 r.m.t.m gs_1, mpI gm_2 (ent kv104 vv104 r.m.bad)] w') := by
  refine enter Tryd.func166 rfl Tryd.ntmps166 rfl fun a hA => ?_
  have hI := Iv.startN hμ ho0
  have H := bI H
  refine w_any [25, 27] mo hI fun w hI => ?_
  have hfm1 := own_form (hI.row_ok (j := 1) rfl)
  refine gE 0 hA rfl (.inr hI) (fun _ => r_mv hA rfl) fun a hA => ?_
  refine gE 1 hA rfl (.inr hI) (fun _ => r_nilc hA rfl) fun a hA => ?_
  refine gE 2 hA rfl (.inr hI) (fun _ => r_fd (k := 0) Tryd.underlying112 rfl sz62 hA rfl rfl) fun a hA => ?_
  refine gT 3 hA rfl hI (fun w hI => r_ld1 (j := 0) [] [[.pointer (some ⟨gp1, 0, none⟩)], [.func (.func 31) #[] #[]]] Tryd.underlying62 rfl hI rfl hA rfl rfl) fun a hA => ?_
  refine gE 4 hA rfl (.inr hI) (fun _ => r_mv hA rfl) fun a hA => ?_
  refine gE 5 hA rfl (.inr hI) (fun _ => r_mv hA rfl) fun a hA => ?_
  refine gE 6 hA rfl (.inr hI) (fun _ => r_nilc hA rfl) fun a hA => ?_
  refine gE 7 hA rfl (.inr hI) (fun _ => r_fd (k := 0) Tryd.underlying112 rfl sz62 hA rfl rfl) fun a hA => ?_
  refine gT 8 hA rfl hI (fun w hI => r_ld1 (j := 0) [] [[.pointer (some ⟨gp1, 0, none⟩)], [.func (.func 31) #[] #[]]] Tryd.underlying62 rfl hI rfl hA rfl rfl) fun a hA => ?_
  refine gE 9 hA rfl (.inr hI) (fun _ => r_mv hA rfl) fun a hA => ?_
  refine gE 10 hA rfl (.inr hI) (fun _ => r_mv hA rfl) fun a hA => ?_
  refine gE 11 hA rfl (.inr hI) (fun _ => r_nilc hA rfl) fun a hA => ?_
  refine gE 12 hA rfl (.inr hI) (fun _ => r_fd (k := 0) Tryd.underlying112 rfl sz62 hA rfl rfl) fun a hA => ?_
  refine gT 13 hA rfl hI (fun w hI => r_ld1 (j := 0) [] [[.pointer (some ⟨gp1, 0, none⟩)], [.func (.func 31) #[] #[]]] Tryd.underlying62 rfl hI rfl hA rfl rfl) fun a hA => ?_
  refine gE 14 hA rfl (.inr hI) (fun _ => r_mv hA rfl) fun a hA => ?_
  obtain ⟨hb1, H⟩ := bG H
  refine gT 15 hA rfl hI (fun w hI => r_rix (j := 1) Tryd.underlying62 sz26 hI rfl hA rfl rfl hb1.1 hb1.2) fun a hA => ?_
  obtain ⟨A1, _, B1, hc1, hl1, _, he1⟩ := Els.at_ hp1 (getD_some [] hb1.1 hb1.2)
  obtain ⟨rfl, hw1⟩ := he1
  refine gT 16 hA rfl hI (fun w hI => r_rldP (j := 1) (q := x2.toNat * 32) (off := 0) A1 B1 [] [av .u8 32 (x0.l.getD x2.toNat [])] [] hc1 hl1 rfl Tryd.underlying26 rfl sz26 rfl hI rfl hA rfl) fun a hA => ?_
  refine gE 17 hA rfl (.inr hI) (fun _ => r_mv hA rfl) fun a hA => ?_
  refine gE 18 hA rfl (.inr hI) (fun _ => r_nilc hA rfl) fun a hA => ?_
  refine gE 19 hA rfl (.inr hI) (fun _ => r_fd (k := 0) Tryd.underlying112 rfl sz62 hA rfl rfl) fun a hA => ?_
  refine gT 20 hA rfl hI (fun w hI => r_ld1 (j := 0) [] [[.pointer (some ⟨gp1, 0, none⟩)], [.func (.func 31) #[] #[]]] Tryd.underlying62 rfl hI rfl hA rfl rfl) fun a hA => ?_
  refine gE 21 hA rfl (.inr hI) (fun _ => r_mv hA rfl) fun a hA => ?_
  obtain ⟨hb2, H⟩ := bG H
  refine gT 22 hA rfl hI (fun w hI => r_rix (j := 1) Tryd.underlying62 sz26 hI rfl hA rfl rfl hb2.1 hb2.2) fun a hA => ?_
  obtain ⟨A2, _, B2, hc2, hl2, _, he2⟩ := Els.at_ hp1 (getD_some [] hb2.1 hb2.2)
  obtain ⟨rfl, hw2⟩ := he2
  refine gT 23 hA rfl hI (fun w hI => r_rldP (j := 1) (q := x1.toNat * 32) (off := 0) A2 B2 [] [av .u8 32 (x0.l.getD x1.toNat [])] [] hc2 hl2 rfl Tryd.underlying26 rfl sz26 rfl hI rfl hA rfl) fun a hA => ?_
  refine gT 24 hA rfl hI (fun w hI => r_rix (j := 1) Tryd.underlying62 sz26 hI rfl hA rfl rfl hb2.1 hb2.2) fun a hA => ?_
  refine gF 25 rfl ?_
  obtain ⟨A3, _, B3, hc3, hl3, hl4, he3⟩ := Els.at_ hp1 (getD_some [] hb2.1 hb2.2)
  obtain ⟨rfl, hw3⟩ := he3
  have hE1 := Els.setAt (y := (x0.l.getD x2.toNat [])) (d := [av .u8 32 (x0.l.getD x2.toNat [])].flatten) hp1 hc3 (idx_lt hb2.1 hb2.2) hl3 hl4 ⟨rfl, hw1⟩ rfl
  refine o_rstPL (j := 1) (q := x1.toNat * 32) (off := 0) (m' := (x0.l.set x1.toNat (x0.l.getD x2.toNat [])).length) A3 B3 [] [av .u8 32 (x0.l.getD x1.toNat [])] [av .u8 32 (x0.l.getD x2.toNat [])] [] hc3 hl3 rfl sz26 rfl rfl (fl_cons (one_av _ _ _) fl_nil) hI rfl hA rfl rfl rfl (by omega) (by first | exact (List.length_set ..).symm | simp) fun w hI => ?_
  refine o_nil <| ⟨(.inl (by kernel_rfl)), ?_⟩
  refine gE 26 hA rfl (.inl (by kernel_rfl)) (fun _ => r_rixF (m := x0.l.length) Tryd.underlying62 sz26 hfm1 hA rfl rfl hb1.1 hb1.2) fun a hA => ?_
  refine gF 27 rfl ?_
  have hbs1 : x2 < ((x0.l.set x1.toNat (x0.l.getD x2.toNat [])).length : Int) := by simpa only [List.length_set] using hb1.2
  obtain ⟨A4, _, B4, hc4, hl5, hl6, he4⟩ := Els.at_ hE1 (getD_some [] hb1.1 hbs1)
  obtain ⟨rfl, hw4⟩ := he4
  have hE2 := Els.setAt (y := (x0.l.getD x1.toNat [])) (d := [av .u8 32 (x0.l.getD x1.toNat [])].flatten) hE1 hc4 (idx_lt hb1.1 hbs1) hl5 hl6 ⟨rfl, hw2⟩ rfl
  refine o_rstPL (j := 1) (q := x2.toNat * 32) (off := 0) (m' := ((x0.l.set x1.toNat (x0.l.getD x2.toNat [])).set x2.toNat (x0.l.getD x1.toNat [])).length) A4 B4 [] [av .u8 32 ((x0.l.set x1.toNat (x0.l.getD x2.toNat [])).getD x2.toNat [])] [av .u8 32 (x0.l.getD x1.toNat [])] [] hc4 hl5 rfl sz26 rfl rfl (fl_cons (one_av _ _ _) fl_nil) hI rfl hA rfl rfl rfl (by simp only [List.length_set] at *; omega) (by first | exact (List.length_set ..).symm | simp) fun w hI => ?_
  refine o_nil <| ⟨(.inl (by kernel_rfl)), ?_⟩
  refine gN ?_
  obtain rfl := sJ H
  exact ret0 hA Tryd.results166 ⟨_, rfl, vp1, A4 ++ ([av .u8 32 (x0.l.getD x1.toNat [])].flatten ++ B4), gm1, gs1, gm2, rfl, hE2, hp2, hp3, hp4, (hI.less (Store.le.refl _) hI.le)⟩
set_option maxRecDepth 20000 in
theorem container_heap_down_at_bestRanks.c (μ : Store) (w0 : World) (hμ : Agr μ w0) (x0 : bestRanks) (vp1 : Value) (cp1 : List Value) (gp1 : Nat) (gp2 : Nat) (gm1 : Nat) (gs1 : (List Int) → NG) (gm2 : Nat) (g0 : Nat) (hp1 : Els (RA .u8 32) 32 x0.l cp1) (hp2 : nw95 μ x0.m.t.m gs1) (hp3 : Arr .u8 32 x0.m.t.start) (hp4 : mw104 x0.m.bad) (ho0 : Its μ w0 [cel g0 [[vp1], [.pointer (some ⟨gp1, 0, none⟩)], [.func (.func 31) #[] #[]]] 112, row 26 32 vp1 x0.l.length cp1, cel gp1 [[.pointer (some ⟨gp2, 0, none⟩)], [.map (some gm2)]] 106, cel gp2 [[.map (some gm1)], av .u8 32 x0.m.t.start] 97, nd95 gm1 x0.m.t.m gs1, mpI gm2 (ent kv104 vv104 x0.m.bad)]) (x1 : Int) (hx1 : InR .i64 x1) (x2 : Int) (hx2 : InR .i64 x2) (r : Bool × bestRanks) (H : container_heap_down_at_bestRanks.f x0 x1 x2 = some r) :
    Calls Tryd.prog 81 [.iface 109 (.pointer (some ⟨g0, 0, none⟩)), .int .i64 x1, .int .i64 x2].toArray w0 (fun e w' => ∃ v, e = .returned v ∧ ∃ (vp_1 : Value) (cp_1 : List Value) (gm_1 : Nat) (gs_1 : (List Int) → NG) (gm_2 : Nat), v = .bool (r.1) ∧ True ∧ Els (RA .u8 32) 32 (r.2).l cp_1 ∧ nw95 μ (r.2).m.t.m gs_1 ∧ Arr .u8 32 (r.2).m.t.start ∧ mw104 (r.2).m.bad ∧ Iv w0 (many [cel g0 [[vp1], [.pointer (some ⟨gp1, 0, none⟩)], [.func (.func 31) #[] #[]]] 112, row 26 32 vp1 x0.l.length cp1, cel gp1 [[.pointer (some ⟨gp2, 0, none⟩)], [.map (some gm2)]] 106, cel gp2 [[.map (some gm1)], av .u8 32 x0.m.t.start] 97, nd95 gm1 x0.m.t.m gs1, mpI gm2 (ent kv104 vv104 x0.m.bad)]).foot μ μ [cel g0 [[vp_1], [.pointer (some ⟨gp1, 0, none⟩)], [.func (.func 31) #[] #[]]] 112, row 26 32 vp_1 ((r.2).l).length cp_1, cel gp1 [[.pointer (some ⟨gp2, 0, none⟩)], [.map (some gm_2)]] 106, cel gp2 [[.map (some gm_1)], av .u8 32 ((r.2).m.t.start)] 97, nd95 gm_1 ((r.2).m.t.m) gs_1, mpI gm_2 (ent kv104 vv104 ((r.2).m.bad))] w') := by
  refine enter Tryd.func81 rfl Tryd.ntmps81 rfl fun a hA => ?_
  have hI := Iv.startN hμ ho0
  have H := bI H
  refine w_seq fun _ hN1 => w_reg <| sta hA rfl rfl fun a hA => ?_
  refine o_nil <| hN1 _ _ <| w_seq fun _ hN2 => w_reg <| stm hA rfl rfl fun a hA => 
    sta hA rfl rfl fun a hA => ?_
  refine o_nil <| hN2 _ _ ?_
  obtain ⟨⟨c1, c2, c3, c4, c5⟩, hz1, Hk1⟩ := bB H
  refine w_cut (fun a w => ∃ (vvc2 : Value) (ccc2 : List Value) (ggc3 : Nat) (ggc4 : Nat) (gsc4 : (List Int) → NG), InR .i64 c1 ∧ Els (RA .u8 32) 32 c2 ccc2 ∧ mw104 c3 ∧ nw95 μ c4 gsc4 ∧ Arr .u8 32 c5 ∧ Fr a 48 [(0, .iface 109 (.pointer (some ⟨g0, 0, none⟩))), (1, .int .i64 x1), (2, .int .i64 x2), (6, .bool false), (7, .int .i64 c1)] ∧ Iv w0 (many [cel g0 [[vp1], [.pointer (some ⟨gp1, 0, none⟩)], [.func (.func 31) #[] #[]]] 112, row 26 32 vp1 x0.l.length cp1, cel gp1 [[.pointer (some ⟨gp2, 0, none⟩)], [.map (some gm2)]] 106, cel gp2 [[.map (some gm1)], av .u8 32 x0.m.t.start] 97, nd95 gm1 x0.m.t.m gs1, mpI gm2 (ent kv104 vv104 x0.m.bad)]).foot μ μ [row 26 32 vvc2 c2.length ccc2, mpI ggc3 (ent kv104 vv104 c3), nd95 ggc4 c4 gsc4, cel g0 [[vvc2], [.pointer (some ⟨gp1, 0, none⟩)], [.func (.func 31) #[] #[]]] 112, cel gp1 [[.pointer (some ⟨gp2, 0, none⟩)], [.map (some ggc3)]] 106, cel gp2 [[.map (some ggc4)], av .u8 32 c5] 97] w) ?_ ?_
  · have H := bI hz1
    refine w_block ?_
    obtain ⟨z1, hz2, Hk2⟩ := bind_some H
    obtain ⟨n1, hn1⟩ := loopO_some hz2
    refine w_loop (fun n a w => ∃ (s1 : Int) (s2 : List (List Int)) (s3 : List ((List Int) × Bool)) (s4 : List ((List Int) × treeNode)) (s5 : List Int) (vvs2 : Value) (ccs2 : List Value) (ggs3 : Nat) (ggs4 : Nat) (gss4 : (List Int) → NG), loopN (container_heap_down_at_bestRanks.s0 x2) n (s1, s2, s3, s4, s5) = some z1 ∧ InR .i64 s1 ∧ Els (RA .u8 32) 32 s2 ccs2 ∧ mw104 s3 ∧ nw95 μ s4 gss4 ∧ Arr .u8 32 s5 ∧ Fr a 48 [(0, .iface 109 (.pointer (some ⟨g0, 0, none⟩))), (1, .int .i64 x1), (2, .int .i64 x2), (6, .bool false), (7, .int .i64 s1)] ∧ Iv w0 (many [cel g0 [[vp1], [.pointer (some ⟨gp1, 0, none⟩)], [.func (.func 31) #[] #[]]] 112, row 26 32 vp1 x0.l.length cp1, cel gp1 [[.pointer (some ⟨gp2, 0, none⟩)], [.map (some gm2)]] 106, cel gp2 [[.map (some gm1)], av .u8 32 x0.m.t.start] 97, nd95 gm1 x0.m.t.m gs1, mpI gm2 (ent kv104 vv104 x0.m.bad)]).foot μ μ [cel g0 [[vvs2], [.pointer (some ⟨gp1, 0, none⟩)], [.func (.func 31) #[] #[]]] 112, row 26 32 vvs2 s2.length ccs2, cel gp1 [[.pointer (some ⟨gp2, 0, none⟩)], [.map (some ggs3)]] 106, cel gp2 [[.map (some ggs4)], av .u8 32 s5] 97, nd95 ggs4 s4 gss4, mpI ggs3 (ent kv104 vv104 s3)] w) n1 ⟨x1, x0.l, x0.m.bad, x0.m.t.m, x0.m.t.start, vp1, cp1, gm2, gm1, gs1, hn1, hx1, hp1, hp4, hp2, hp3, hA.sub ⟨rfl, rfl, rfl, rfl, rfl, trivial⟩, hI⟩ ?_
    clear hA hI
    rintro n a w ⟨s1, s2, s3, s4, s5, vvs2, ccs2, ggs3, ggs4, gss4, hn1, ws1, ws2, ws3, ws4, ws5, hA, hI⟩
    obtain ⟨m1, rfl, H⟩ := loopN_bind hn1
    clear hn1
    dsimp only [container_heap_down_at_bestRanks.s0] at H
    refine w_block <| w_seq fun _ hN3 => w_reg <| stm hA rfl rfl fun a hA => 
      stp hA (r_mul hA rfl rfl) rfl fun a hA => 
      stp hA (r_add hA rfl rfl) rfl fun a hA => 
      sta hA rfl rfl fun a hA => ?_
    refine o_nil <| hN3 _ _ <| w_seq fun _ hN4 => ?_
    obtain ⟨c6, hz3, Hk3⟩ := bB H
    refine w_cut (fun a w => Fr a 48 [(0, .iface 109 (.pointer (some ⟨g0, 0, none⟩))), (1, .int .i64 x1), (2, .int .i64 x2), (6, .bool false), (7, .int .i64 s1), (8, .int .i64 (IntKind.i64.wrap ((IntKind.i64.wrap (2 * s1)) + 1))), (21, .bool c6)] ∧ Iv w0 (many [cel g0 [[vp1], [.pointer (some ⟨gp1, 0, none⟩)], [.func (.func 31) #[] #[]]] 112, row 26 32 vp1 x0.l.length cp1, cel gp1 [[.pointer (some ⟨gp2, 0, none⟩)], [.map (some gm2)]] 106, cel gp2 [[.map (some gm1)], av .u8 32 x0.m.t.start] 97, nd95 gm1 x0.m.t.m gs1, mpI gm2 (ent kv104 vv104 x0.m.bad)]).foot μ μ [cel g0 [[vvs2], [.pointer (some ⟨gp1, 0, none⟩)], [.func (.func 31) #[] #[]]] 112, row 26 32 vvs2 s2.length ccs2, cel gp1 [[.pointer (some ⟨gp2, 0, none⟩)], [.map (some ggs3)]] 106, cel gp2 [[.map (some ggs4)], av .u8 32 s5] 97, nd95 ggs4 s4 gss4, mpI ggs3 (ent kv104 vv104 s3)] w) ?_ ?_
    · have H := bI hz3
      refine w_reg <| stm hA rfl rfl fun a hA => 
        stm hA rfl rfl fun a hA => 
        stp hA (r_geq hA rfl rfl) rfl fun a hA => 
        stm hA rfl rfl fun a hA => ?_
      rcases Bool.eq_false_or_eq_true (decide (x2 ≤ (IntKind.i64.wrap ((IntKind.i64.wrap (2 * s1)) + 1)))) with hc1 | hc1
      · have hc10 := hc1; obtain ⟨hc1, H⟩ := dT H hc1
        refine o_no hA rfl rfl (by rw [hc10]; simp [vb]) rfl fun a hA => 
          o_no hA rfl rfl (by rw [hc10]; simp [vb]) rfl fun a hA => 
          stp hA (r_pick_t hA rfl hc10 rfl) rfl fun a hA => ?_
        refine o_nil ?_
        cases sJ H
        exact ⟨hA.sub ⟨rfl, rfl, rfl, rfl, rfl, rfl, rfl, trivial⟩, hI⟩
      · have hc10 := hc1; obtain ⟨hc1, H⟩ := dF H hc1
        refine o_yes hA rfl rfl hc10 <| 
          stm hA rfl rfl fun a hA => 
          o_yes hA rfl rfl hc10 <| 
          stp hA (r_lss hA rfl rfl) rfl fun a hA => 
          stp hA (r_pick_f hA rfl hc10 rfl) rfl fun a hA => ?_
        refine o_nil ?_
        cases sJ H
        exact ⟨hA.sub ⟨rfl, rfl, rfl, rfl, rfl, rfl, rfl, trivial⟩, hI⟩
    · rintro a w ⟨hA, hI⟩
      have H := Hk3
      refine w_cond hA rfl (fun hc2 => ?_) (fun hc2 => ?_)
      · have H := bT H hc2
        refine w_exit rfl ?_
        have H : some (s1, s2, s3, s4, s5) = some z1 := H
        obtain rfl := sI H
        have H := Hk2
        cases sJ H
        exact ⟨vvs2, ccs2, ggs3, ggs4, gss4, ws1, ws2, ws3, ws4, ws5, hA.sub ⟨rfl, rfl, rfl, rfl, rfl, trivial⟩, (hI.sl [1, 5, 4, 0, 2, 3] rfl)⟩
      · have hc2 := ft hc2; have H := bF H hc2
        refine w_skip <| hN4 _ _ <| w_seq fun _ hN5 => w_reg <| stm hA rfl rfl fun a hA => 
          sta hA rfl rfl fun a hA => ?_
        refine o_nil <| hN5 _ _ ?_
        obtain ⟨c7, hz4, Hk4⟩ := bB H
        refine w_cut (fun a w => InR .i64 c7 ∧ Fr a 48 [(0, .iface 109 (.pointer (some ⟨g0, 0, none⟩))), (1, .int .i64 x1), (2, .int .i64 x2), (6, .bool false), (7, .int .i64 s1), (8, .int .i64 (IntKind.i64.wrap ((IntKind.i64.wrap (2 * s1)) + 1))), (9, .int .i64 c7), (21, .bool c6)] ∧ Iv w0 (many [cel g0 [[vp1], [.pointer (some ⟨gp1, 0, none⟩)], [.func (.func 31) #[] #[]]] 112, row 26 32 vp1 x0.l.length cp1, cel gp1 [[.pointer (some ⟨gp2, 0, none⟩)], [.map (some gm2)]] 106, cel gp2 [[.map (some gm1)], av .u8 32 x0.m.t.start] 97, nd95 gm1 x0.m.t.m gs1, mpI gm2 (ent kv104 vv104 x0.m.bad)]).foot μ μ [cel g0 [[vvs2], [.pointer (some ⟨gp1, 0, none⟩)], [.func (.func 31) #[] #[]]] 112, row 26 32 vvs2 s2.length ccs2, cel gp1 [[.pointer (some ⟨gp2, 0, none⟩)], [.map (some ggs3)]] 106, cel gp2 [[.map (some ggs4)], av .u8 32 s5] 97, nd95 ggs4 s4 gss4, mpI ggs3 (ent kv104 vv104 s3)] w) ?_ ?_
        · have H := bI hz4
          refine w_seq fun _ hN6 => w_reg <| stm hA rfl rfl fun a hA => 
            stp hA (r_add hA rfl rfl) rfl fun a hA => 
            sta hA rfl rfl fun a hA => ?_
          refine o_nil <| hN6 _ _ ?_
          obtain ⟨c8, hz5, Hk5⟩ := bB H
          refine w_cut (fun a w => Fr a 48 [(0, .iface 109 (.pointer (some ⟨g0, 0, none⟩))), (1, .int .i64 x1), (2, .int .i64 x2), (6, .bool false), (7, .int .i64 s1), (8, .int .i64 (IntKind.i64.wrap ((IntKind.i64.wrap (2 * s1)) + 1))), (9, .int .i64 (IntKind.i64.wrap ((IntKind.i64.wrap (2 * s1)) + 1))), (10, .int .i64 (IntKind.i64.wrap ((IntKind.i64.wrap ((IntKind.i64.wrap (2 * s1)) + 1)) + 1))), (21, .bool c6), (33, .bool c8)] ∧ Iv w0 (many [cel g0 [[vp1], [.pointer (some ⟨gp1, 0, none⟩)], [.func (.func 31) #[] #[]]] 112, row 26 32 vp1 x0.l.length cp1, cel gp1 [[.pointer (some ⟨gp2, 0, none⟩)], [.map (some gm2)]] 106, cel gp2 [[.map (some gm1)], av .u8 32 x0.m.t.start] 97, nd95 gm1 x0.m.t.m gs1, mpI gm2 (ent kv104 vv104 x0.m.bad)]).foot μ μ [cel g0 [[vvs2], [.pointer (some ⟨gp1, 0, none⟩)], [.func (.func 31) #[] #[]]] 112, row 26 32 vvs2 s2.length ccs2, cel gp1 [[.pointer (some ⟨gp2, 0, none⟩)], [.map (some ggs3)]] 106, cel gp2 [[.map (some ggs4)], av .u8 32 s5] 97, nd95 ggs4 s4 gss4, mpI ggs3 (ent kv104 vv104 s3)] w) ?_ ?_
          · have H := bI hz5
            refine w_reg <| stm hA rfl rfl fun a hA => 
              stm hA rfl rfl fun a hA => 
              stp hA (r_lss hA rfl rfl) rfl fun a hA => 
              stm hA rfl rfl fun a hA => ?_
            rcases Bool.eq_false_or_eq_true (decide ((IntKind.i64.wrap ((IntKind.i64.wrap ((IntKind.i64.wrap (2 * s1)) + 1)) + 1)) < x2)) with hc3 | hc3
            · have hc30 := hc3; obtain ⟨hc3, H⟩ := dT H hc3
              refine o_yes hA rfl rfl hc30 <| 
                stm hA rfl rfl fun a hA => 
                o_yes hA rfl rfl hc30 <| 
                stm hA rfl rfl fun a hA => 
                o_yes hA rfl rfl hc30 <| 
                stm hA rfl rfl fun a hA => 
                o_yes hA rfl rfl hc30 <| ?_
              obtain ⟨r1, hr1, H⟩ := bB H
              refine o_calli _ cf165 (rch109_Less _) hA rfl rfl (best_ranks_Less.c μ _ hI.agr (⟨s2, (⟨(⟨s4, s5⟩ : treeTree), s3⟩ : bestMarks)⟩ : bestRanks) vvs2 ccs2 gp1 gp2 ggs4 gss4 ggs3 g0 ws2 ws4 ws5 ws3 (hI.handN 6) (IntKind.i64.wrap ((IntKind.i64.wrap ((IntKind.i64.wrap (2 * s1)) + 1)) + 1)) (wrap_in _ _) (IntKind.i64.wrap ((IntKind.i64.wrap (2 * s1)) + 1)) (wrap_in _ _) r1 hr1) rfl fun v1 a w hz6 hA => ?_
              obtain ⟨rfl, hw1, hi1⟩ := hz6
              have hI := hI.backN 6 hi1
              have hI : Iv w0 (many [cel g0 [[vp1], [.pointer (some ⟨gp1, 0, none⟩)], [.func (.func 31) #[] #[]]] 112, row 26 32 vp1 x0.l.length cp1, cel gp1 [[.pointer (some ⟨gp2, 0, none⟩)], [.map (some gm2)]] 106, cel gp2 [[.map (some gm1)], av .u8 32 x0.m.t.start] 97, nd95 gm1 x0.m.t.m gs1, mpI gm2 (ent kv104 vv104 x0.m.bad)]).foot μ μ [cel g0 [[vvs2], [.pointer (some ⟨gp1, 0, none⟩)], [.func (.func 31) #[] #[]]] 112, row 26 32 vvs2 s2.length ccs2, cel gp1 [[.pointer (some ⟨gp2, 0, none⟩)], [.map (some ggs3)]] 106, cel gp2 [[.map (some ggs4)], av .u8 32 s5] 97, nd95 ggs4 s4 gss4, mpI ggs3 (ent kv104 vv104 s3)] w := hI
              refine stp hA (r_pick_t hA rfl hc30 rfl) rfl fun a hA => ?_
              refine o_nil ?_
              cases sJ H
              exact ⟨hA.sub ⟨rfl, rfl, rfl, rfl, rfl, rfl, rfl, rfl, rfl, rfl, trivial⟩, hI⟩
            · have hc30 := hc3; obtain ⟨hc3, H⟩ := dF H hc3
              refine o_no hA rfl rfl (by rw [hc30]; simp [vb]) rfl fun a hA => 
                o_no hA rfl rfl (by rw [hc30]; simp [vb]) rfl fun a hA => 
                o_no hA rfl rfl (by rw [hc30]; simp [vb]) rfl fun a hA => 
                o_no hA rfl rfl (by rw [hc30]; simp [vb]) rfl fun a hA => 
                stp hA (r_pick_f hA rfl hc30 rfl) rfl fun a hA => ?_
              refine o_nil ?_
              cases sJ H
              exact ⟨hA.sub ⟨rfl, rfl, rfl, rfl, rfl, rfl, rfl, rfl, rfl, rfl, trivial⟩, hI⟩
          · rintro a w ⟨hA, hI⟩
            have H := Hk5
            refine w_cond hA rfl (fun hc4 => ?_) (fun hc4 => ?_)
            · have H := bT H hc4
              refine w_reg <| stm hA rfl rfl fun a hA => 
                sta hA rfl rfl fun a hA => ?_
              refine o_nil ?_
              cases sJ H
              exact ⟨(wrap_in _ _), hA.sub ⟨rfl, rfl, rfl, rfl, rfl, rfl, rfl, rfl, trivial⟩, hI⟩
            · have hc4 := ft hc4; have H := bF H hc4
              refine w_skip ?_
              cases sJ H
              exact ⟨(wrap_in _ _), hA.sub ⟨rfl, rfl, rfl, rfl, rfl, rfl, rfl, rfl, trivial⟩, hI⟩
        · rintro a w ⟨wc7, hA, hI⟩
          have H := Hk4
          refine w_seq fun _ hN7 => w_seq fun _ hN8 => w_reg <| stm hA rfl rfl fun a hA => 
            stm hA rfl rfl fun a hA => 
            stm hA rfl rfl fun a hA => ?_
          obtain ⟨r2, hr2, H⟩ := bB H
          refine o_calli _ cf165 (rch109_Less _) hA rfl rfl (best_ranks_Less.c μ _ hI.agr (⟨s2, (⟨(⟨s4, s5⟩ : treeTree), s3⟩ : bestMarks)⟩ : bestRanks) vvs2 ccs2 gp1 gp2 ggs4 gss4 ggs3 g0 ws2 ws4 ws5 ws3 (hI.handN 6) c7 wc7 s1 ws1 r2 hr2) rfl fun v2 a w hz7 hA => ?_
          obtain ⟨rfl, hw2, hi2⟩ := hz7
          have hI := hI.backN 6 hi2
          have hI : Iv w0 (many [cel g0 [[vp1], [.pointer (some ⟨gp1, 0, none⟩)], [.func (.func 31) #[] #[]]] 112, row 26 32 vp1 x0.l.length cp1, cel gp1 [[.pointer (some ⟨gp2, 0, none⟩)], [.map (some gm2)]] 106, cel gp2 [[.map (some gm1)], av .u8 32 x0.m.t.start] 97, nd95 gm1 x0.m.t.m gs1, mpI gm2 (ent kv104 vv104 x0.m.bad)]).foot μ μ [cel g0 [[vvs2], [.pointer (some ⟨gp1, 0, none⟩)], [.func (.func 31) #[] #[]]] 112, row 26 32 vvs2 s2.length ccs2, cel gp1 [[.pointer (some ⟨gp2, 0, none⟩)], [.map (some ggs3)]] 106, cel gp2 [[.map (some ggs4)], av .u8 32 s5] 97, nd95 ggs4 s4 gss4, mpI ggs3 (ent kv104 vv104 s3)] w := hI
          refine stp hA (r_not hA rfl) rfl fun a hA => ?_
          refine o_nil <| hN8 _ _ <| w_cond hA rfl (fun hc5 => ?_) (fun hc5 => ?_)
          · have hc5 := nT hc5; have hc5 := ft hc5; have H := bF H hc5
            refine w_exit rfl ?_
            have H : some (s1, s2, s3, s4, s5) = some z1 := H
            obtain rfl := sI H
            have H := Hk2
            cases sJ H
            exact ⟨vvs2, ccs2, ggs3, ggs4, gss4, ws1, ws2, ws3, ws4, ws5, hA.sub ⟨rfl, rfl, rfl, rfl, rfl, trivial⟩, (hI.sl [1, 5, 4, 0, 2, 3] rfl)⟩
          · have hc5 := nF hc5; have H := bT H hc5
            refine w_skip <| hN7 _ _ <| w_seq fun _ hN9 => w_reg <| stm hA rfl rfl fun a hA => 
              stm hA rfl rfl fun a hA => 
              stm hA rfl rfl fun a hA => ?_
            obtain ⟨r3, hr3, H⟩ := bB H
            refine o_calli _ cf166 (rch109_Swap _) hA rfl rfl (best_ranks_Swap.c μ _ hI.agr (⟨s2, (⟨(⟨s4, s5⟩ : treeTree), s3⟩ : bestMarks)⟩ : bestRanks) vvs2 ccs2 gp1 gp2 ggs4 gss4 ggs3 g0 ws2 ws4 ws5 ws3 (hI.handN 6) s1 ws1 c7 wc7 r3 hr3) rfl fun v3 a w hz8 hA => ?_
            obtain ⟨vp2, cp2, gm3, gs2, gm4, rfl, hp5, hp6, hp7, hp8, hi3⟩ := hz8
            have hI := hI.backN 6 hi3
            have hI : Iv w0 (many [cel g0 [[vp1], [.pointer (some ⟨gp1, 0, none⟩)], [.func (.func 31) #[] #[]]] 112, row 26 32 vp1 x0.l.length cp1, cel gp1 [[.pointer (some ⟨gp2, 0, none⟩)], [.map (some gm2)]] 106, cel gp2 [[.map (some gm1)], av .u8 32 x0.m.t.start] 97, nd95 gm1 x0.m.t.m gs1, mpI gm2 (ent kv104 vv104 x0.m.bad)]).foot μ μ [cel g0 [[vp2], [.pointer (some ⟨gp1, 0, none⟩)], [.func (.func 31) #[] #[]]] 112, row 26 32 vp2 r3.l.length cp2, cel gp1 [[.pointer (some ⟨gp2, 0, none⟩)], [.map (some gm4)]] 106, cel gp2 [[.map (some gm3)], av .u8 32 r3.m.t.start] 97, nd95 gm3 r3.m.t.m gs2, mpI gm4 (ent kv104 vv104 r3.m.bad)] w := hI
            refine o_nil <| hN9 _ _ <| w_reg <| stm hA rfl rfl fun a hA => 
              sta hA rfl rfl fun a hA => ?_
            refine o_nil <| ⟨m1, Nat.lt_succ_self _, c7, r3.l, r3.m.bad, r3.m.t.m, r3.m.t.start, vp2, cp2, gm4, gm3, gs2, H, wc7, hp5, hp8, hp6, hp7, hA.sub ⟨rfl, rfl, rfl, rfl, rfl, trivial⟩, hI⟩
  · rintro a w ⟨vvc2, ccc2, ggc3, ggc4, gsc4, wc1, wc2, wc3, wc4, wc5, hA, hI⟩
    have H := Hk1
    refine w_seq fun _ hN10 => w_reg <| stm hA rfl rfl fun a hA => 
      stm hA rfl rfl fun a hA => 
      stp hA (r_gtr hA rfl rfl) rfl fun a hA => 
      sta hA rfl rfl fun a hA => ?_
    refine o_nil <| hN10 _ _ <| w_ret ?_
    obtain rfl := sJ H
    exact ret1 hA Tryd.results81 rfl ⟨_, rfl, vvc2, ccc2, ggc4, gsc4, ggc3, rfl, trivial, wc2, wc4, wc5, wc3, ((hI.sl [3, 0, 4, 5, 2, 1] rfl).less (Store.le.refl _) hI.le)⟩
set_option maxRecDepth 20000 in
theorem container_heap_Init_at_bestRanks.c (μ : Store) (w0 : World) (hμ : Agr μ w0) (x0 : bestRanks) (vp1 : Value) (cp1 : List Value) (gp1 : Nat) (gp2 : Nat) (gm1 : Nat) (gs1 : (List Int) → NG) (gm2 : Nat) (g0 : Nat) (hp1 : Els (RA .u8 32) 32 x0.l cp1) (hp2 : nw95 μ x0.m.t.m gs1) (hp3 : Arr .u8 32 x0.m.t.start) (hp4 : mw104 x0.m.bad) (ho0 : Its μ w0 [cel g0 [[vp1], [.pointer (some ⟨gp1, 0, none⟩)], [.func (.func 31) #[] #[]]] 112, row 26 32 vp1 x0.l.length cp1, cel gp1 [[.pointer (some ⟨gp2, 0, none⟩)], [.map (some gm2)]] 106, cel gp2 [[.map (some gm1)], av .u8 32 x0.m.t.start] 97, nd95 gm1 x0.m.t.m gs1, mpI gm2 (ent kv104 vv104 x0.m.bad)]) (r : bestRanks) (H : container_heap_Init_at_bestRanks.f x0 = some r) :
    Calls Tryd.prog 57 [.iface 109 (.pointer (some ⟨g0, 0, none⟩))].toArray w0 (fun e w' => ∃ v, e = .returned v ∧ ∃ (vp_1 : Value) (cp_1 : List Value) (gm_1 : Nat) (gs_1 : (List Int) → NG) (gm_2 : Nat), v = .tuple #[] ∧ Els (RA .u8 32) 32 r.l cp_1 ∧ nw95 μ r.m.t.m gs_1 ∧ Arr .u8 32 r.m.t.start ∧ mw104 r.m.bad ∧ Iv w0 (many [cel g0 [[vp1], [.pointer (some ⟨gp1, 0, none⟩)], [.func (.func 31) #[] #[]]] 112, row 26 32 vp1 x0.l.length cp1, cel gp1 [[.pointer (some ⟨gp2, 0, none⟩)], [.map (some gm2)]] 106, cel gp2 [[.map (some gm1)], av .u8 32 x0.m.t.start] 97, nd95 gm1 x0.m.t.m gs1, mpI gm2 (ent kv104 vv104 x0.m.bad)]).foot μ μ [cel g0 [[vp_1], [.pointer (some ⟨gp1, 0, none⟩)], [.func (.func 31) #[] #[]]] 112, row 26 32 vp_1 r.l.length cp_1, cel gp1 [[.pointer (some ⟨gp2, 0, none⟩)], [.map (some gm_2)]] 106, cel gp2 [[.map (some gm_1)], av .u8 32 r.m.t.start] 97, nd95 gm_1 r.m.t.m gs_1, mpI gm_2 (ent kv104 vv104 r.m.bad)] w') := by
  refine enter Tryd.func57 rfl Tryd.ntmps57 rfl fun a hA => ?_
  have hI := Iv.startN hμ ho0
  have H := bI H
  refine w_seq fun _ hN1 => w_reg <| stm hA rfl rfl fun a hA => ?_
  obtain ⟨r1, hr1, H⟩ := bB H
  refine o_calli _ cf164 (rch109_Len _) hA rfl rfl (best_ranks_Len.c μ _ hI.agr (⟨x0.l, (⟨(⟨x0.m.t.m, x0.m.t.start⟩ : treeTree), x0.m.bad⟩ : bestMarks)⟩ : bestRanks) vp1 cp1 gp1 gp2 gm1 gs1 gm2 g0 hp1 hp2 hp3 hp4 (hI.handN 6) r1 hr1) rfl fun v1 a w hz1 hA => ?_
  obtain ⟨rfl, hw1, hi1⟩ := hz1
  have hI := hI.backN 6 hi1
  have hI : Iv w0 (many [cel g0 [[vp1], [.pointer (some ⟨gp1, 0, none⟩)], [.func (.func 31) #[] #[]]] 112, row 26 32 vp1 x0.l.length cp1, cel gp1 [[.pointer (some ⟨gp2, 0, none⟩)], [.map (some gm2)]] 106, cel gp2 [[.map (some gm1)], av .u8 32 x0.m.t.start] 97, nd95 gm1 x0.m.t.m gs1, mpI gm2 (ent kv104 vv104 x0.m.bad)]).foot μ μ [cel g0 [[vp1], [.pointer (some ⟨gp1, 0, none⟩)], [.func (.func 31) #[] #[]]] 112, row 26 32 vp1 x0.l.length cp1, cel gp1 [[.pointer (some ⟨gp2, 0, none⟩)], [.map (some gm2)]] 106, cel gp2 [[.map (some gm1)], av .u8 32 x0.m.t.start] 97, nd95 gm1 x0.m.t.m gs1, mpI gm2 (ent kv104 vv104 x0.m.bad)] w := hI
  refine sta hA rfl rfl fun a hA => ?_
  refine o_nil <| hN1 _ _ <| w_seq fun _ hN2 => w_reg <| stm hA rfl rfl fun a hA => 
    stp hA (r_quo hA rfl rfl (by decide)) rfl fun a hA => 
    stp hA (r_sub hA rfl rfl) rfl fun a hA => 
    sta hA rfl rfl fun a hA => ?_
  refine o_nil <| hN2 _ _ <| w_block ?_
  obtain ⟨z1, hz2, Hk1⟩ := bind_some H
  obtain ⟨n1, hn1⟩ := loopO_some hz2
  refine w_loop (fun n a w => ∃ (s1 : Int) (s2 : List (List Int)) (s3 : List ((List Int) × Bool)) (s4 : List ((List Int) × treeNode)) (s5 : List Int) (vvs2 : Value) (ccs2 : List Value) (ggs3 : Nat) (ggs4 : Nat) (gss4 : (List Int) → NG), loopN (container_heap_Init_at_bestRanks.s0 r1) n (s1, s2, s3, s4, s5) = some z1 ∧ InR .i64 s1 ∧ Els (RA .u8 32) 32 s2 ccs2 ∧ mw104 s3 ∧ nw95 μ s4 gss4 ∧ Arr .u8 32 s5 ∧ Fr a 17 [(0, .iface 109 (.pointer (some ⟨g0, 0, none⟩))), (2, .int .i64 r1), (3, .int .i64 s1)] ∧ Iv w0 (many [cel g0 [[vp1], [.pointer (some ⟨gp1, 0, none⟩)], [.func (.func 31) #[] #[]]] 112, row 26 32 vp1 x0.l.length cp1, cel gp1 [[.pointer (some ⟨gp2, 0, none⟩)], [.map (some gm2)]] 106, cel gp2 [[.map (some gm1)], av .u8 32 x0.m.t.start] 97, nd95 gm1 x0.m.t.m gs1, mpI gm2 (ent kv104 vv104 x0.m.bad)]).foot μ μ [cel g0 [[vvs2], [.pointer (some ⟨gp1, 0, none⟩)], [.func (.func 31) #[] #[]]] 112, row 26 32 vvs2 s2.length ccs2, cel gp1 [[.pointer (some ⟨gp2, 0, none⟩)], [.map (some ggs3)]] 106, cel gp2 [[.map (some ggs4)], av .u8 32 s5] 97, nd95 ggs4 s4 gss4, mpI ggs3 (ent kv104 vv104 s3)] w) n1 ⟨IntKind.i64.wrap ((IntKind.i64.wrap (Int.tdiv r1 2)) - 1), x0.l, x0.m.bad, x0.m.t.m, x0.m.t.start, vp1, cp1, gm2, gm1, gs1, hn1, (wrap_in _ _), hp1, hp4, hp2, hp3, hA.sub ⟨rfl, rfl, rfl, trivial⟩, hI⟩ ?_
  clear hA hI
  rintro n a w ⟨s1, s2, s3, s4, s5, vvs2, ccs2, ggs3, ggs4, gss4, hn1, ws1, ws2, ws3, ws4, ws5, hA, hI⟩
  obtain ⟨m1, rfl, H⟩ := loopN_bind hn1
  clear hn1
  refine w_seq fun _ hN3 => w_seq fun _ hN4 => w_reg <| stm hA rfl rfl fun a hA => 
    stp hA (r_geq hA rfl rfl) rfl fun a hA => ?_
  refine o_nil <| hN4 _ _ <| w_cond hA rfl (fun hc1 => ?_) (fun hc1 => ?_)
  · obtain ⟨hc1, H⟩ := dT H hc1
    refine w_skip <| hN3 _ _ <| w_seq fun _ hN5 => w_block <| w_reg <| stm hA rfl rfl fun a hA => 
      stm hA rfl rfl fun a hA => 
      stm hA rfl rfl fun a hA => ?_
    obtain ⟨r2, hr2, H⟩ := bB H
    refine o_call _ cf81 hA rfl (container_heap_down_at_bestRanks.c μ _ hI.agr (⟨s2, (⟨(⟨s4, s5⟩ : treeTree), s3⟩ : bestMarks)⟩ : bestRanks) vvs2 ccs2 gp1 gp2 ggs4 gss4 ggs3 g0 ws2 ws4 ws5 ws3 (hI.handN 6) s1 ws1 r1 hw1 r2 hr2) rfl fun v2 a w hz3 hA => ?_
    obtain ⟨vp2, cp2, gm3, gs2, gm4, rfl, hw2, hp5, hp6, hp7, hp8, hi2⟩ := hz3
    have hI := hI.backN 6 hi2
    have hI : Iv w0 (many [cel g0 [[vp1], [.pointer (some ⟨gp1, 0, none⟩)], [.func (.func 31) #[] #[]]] 112, row 26 32 vp1 x0.l.length cp1, cel gp1 [[.pointer (some ⟨gp2, 0, none⟩)], [.map (some gm2)]] 106, cel gp2 [[.map (some gm1)], av .u8 32 x0.m.t.start] 97, nd95 gm1 x0.m.t.m gs1, mpI gm2 (ent kv104 vv104 x0.m.bad)]).foot μ μ [cel g0 [[vp2], [.pointer (some ⟨gp1, 0, none⟩)], [.func (.func 31) #[] #[]]] 112, row 26 32 vp2 r2.2.l.length cp2, cel gp1 [[.pointer (some ⟨gp2, 0, none⟩)], [.map (some gm4)]] 106, cel gp2 [[.map (some gm3)], av .u8 32 r2.2.m.t.start] 97, nd95 gm3 r2.2.m.t.m gs2, mpI gm4 (ent kv104 vv104 r2.2.m.bad)] w := hI
    refine o_nil <| hN5 _ _ <| w_reg <| stm hA rfl rfl fun a hA => 
      stp hA (r_sub hA rfl rfl) rfl fun a hA => 
      sta hA rfl rfl fun a hA => ?_
    refine o_nil <| ⟨m1, Nat.lt_succ_self _, IntKind.i64.wrap (s1 - 1), r2.2.l, r2.2.m.bad, r2.2.m.t.m, r2.2.m.t.start, vp2, cp2, gm4, gm3, gs2, H, (wrap_in _ _), hp5, hp8, hp6, hp7, hA.sub ⟨rfl, rfl, rfl, trivial⟩, hI⟩
  · obtain ⟨hc1, H⟩ := dF H hc1
    refine w_exit rfl ?_
    have H : some (⟨s2, (⟨(⟨s4, s5⟩ : treeTree), s3⟩ : bestMarks)⟩ : bestRanks) = some z1 := H
    obtain rfl := sI H
    have H := Hk1
    obtain rfl := sJ H
    exact ret0 hA Tryd.results57 ⟨_, rfl, vvs2, ccs2, ggs4, gss4, ggs3, rfl, ws2, ws4, ws5, ws3, (hI.less (Store.le.refl _) hI.le)⟩
set_option maxRecDepth 20000 in
theorem best_Marks_Best.c (μ : Store) (w0 : World) (hμ : Agr μ w0) (x0 : bestMarks) (gp1 : Nat) (gm1 : Nat) (gs1 : (List Int) → NG) (gm2 : Nat) (g0 : Nat) (hp1 : nw95 μ x0.t.m gs1) (hp2 : Arr .u8 32 x0.t.start) (hp3 : mw104 x0.bad) (ho0 : Its μ w0 [cel g0 [[.pointer (some ⟨gp1, 0, none⟩)], [.map (some gm2)]] 106, cel gp1 [[.map (some gm1)], av .u8 32 x0.t.start] 97, nd95 gm1 x0.t.m gs1, mpI gm2 (ent kv104 vv104 x0.bad)]) (r : (List Int) × bestMarks) (H : best_Marks_Best.f x0 = some r) :
    Calls Tryd.prog 29 [.pointer (some ⟨g0, 0, none⟩)].toArray w0 (fun e w' => ∃ v, e = .returned v ∧ ∃ (gm_1 : Nat) (gs_1 : (List Int) → NG) (gm_2 : Nat), v = .agg [av .u8 32 (r.1)].flatten.toArray ∧ Arr .u8 32 (r.1) ∧ nw95 μ (r.2).t.m gs_1 ∧ Arr .u8 32 (r.2).t.start ∧ mw104 (r.2).bad ∧ Iv w0 (many [cel g0 [[.pointer (some ⟨gp1, 0, none⟩)], [.map (some gm2)]] 106, cel gp1 [[.map (some gm1)], av .u8 32 x0.t.start] 97, nd95 gm1 x0.t.m gs1, mpI gm2 (ent kv104 vv104 x0.bad)]).foot μ μ [cel g0 [[.pointer (some ⟨gp1, 0, none⟩)], [.map (some gm_2)]] 106, cel gp1 [[.map (some gm_1)], av .u8 32 ((r.2).t.start)] 97, nd95 gm_1 ((r.2).t.m) gs_1, mpI gm_2 (ent kv104 vv104 ((r.2).bad))] w') := by
  refine enter Tryd.func29 rfl Tryd.ntmps29 rfl fun a hA => ?_
  have hI := Iv.startN hμ ho0
  have H := bI H
  refine w_seq fun _ hN1 => w_reg <| o_new [av .u8 32 (List.replicate 32 0)] zr26 hI hA rfl fun g1 a w hA hI hg1 => ?_
  refine o_nil <| hN1 _ _ <| w_seq fun _ hN2 => w_reg <| stm hA rfl rfl fun a hA => ?_
  obtain ⟨r1, hr1, H⟩ := bB H
  have hI := hI.sl [1, 2, 3, 4, 0] rfl
  refine o_call _ cf56 hA rfl (best_Marks_parted.c μ _ hI.agr (⟨(⟨x0.t.m, x0.t.start⟩ : treeTree), x0.bad⟩ : bestMarks) gp1 gm1 gs1 gm2 g0 hp1 hp2 hp3 (hI.handN 4) r1 hr1) rfl fun v1 a w hz1 hA => ?_
  obtain ⟨v2, cs1, v3, cs2, rfl, hE1, hE2, hi1⟩ := hz1
  have hI := hI.backN 4 hi1
  have hI : Iv w0 (many [cel g0 [[.pointer (some ⟨gp1, 0, none⟩)], [.map (some gm2)]] 106, cel gp1 [[.map (some gm1)], av .u8 32 x0.t.start] 97, nd95 gm1 x0.t.m gs1, mpI gm2 (ent kv104 vv104 x0.bad)]).foot μ μ [row 26 32 v2 r1.1.length cs1, row 26 32 v3 r1.2.length cs2, cel g0 [[.pointer (some ⟨gp1, 0, none⟩)], [.map (some gm2)]] 106, cel gp1 [[.map (some gm1)], av .u8 32 x0.t.start] 97, nd95 gm1 x0.t.m gs1, mpI gm2 (ent kv104 vv104 x0.bad), cel g1 [av .u8 32 (List.replicate 32 0)] 26] w := hI
  refine stm hA rfl rfl fun a hA => 
    stp hA (r_extr (vs := [v2, v3]) hA rfl rfl) rfl fun a hA => 
    stp hA (r_extr (vs := [v2, v3]) hA rfl rfl) rfl fun a hA => 
    sta hA rfl rfl fun a hA => 
    sta hA rfl rfl fun a hA => ?_
  refine o_nil <| hN2 _ _ <| w_seq fun _ hN3 => w_reg <| stm hA rfl rfl fun a hA => 
    stm hA rfl rfl fun a hA => 
    stp hA (r_bldS (cs := [[v3], [.pointer (some ⟨g0, 0, none⟩)], [.func (.func 31) #[] #[]]].flatten.toArray) (pl := [(0, 1), (1, 1), (2, 1)]) zr112 Tryd.underlying112 ⟨rfl, sz62, rfl, sz72, rfl, sz110, trivial⟩ hA rfl ((fill_one (own_cell hI (j := 1) rfl) rfl (by kernel_rfl)).trans ((fill_one rfl rfl (by kernel_rfl)).trans ((fill_one rfl rfl (by kernel_rfl)).trans (by kernel_rfl))))) rfl fun a hA => 
    o_box [[v3], [.pointer (some ⟨g0, 0, none⟩)], [.func (.func 31) #[] #[]]] hI hA rfl rfl rfl fun g2 a w hA hI hg2 => 
    sta hA rfl rfl fun a hA => ?_
  refine o_nil <| hN3 _ _ <| w_seq fun _ hN4 => w_reg <| stm hA rfl rfl fun a hA => 
    stp hA (r_mkI Tryd.underlying109 hA rfl) rfl fun a hA => ?_
  obtain ⟨r2, hr2, H⟩ := bB H
  have hI := hI.sl [0, 2, 3, 4, 5, 6, 1, 7] rfl
  refine o_call _ cf57 hA rfl (container_heap_Init_at_bestRanks.c μ _ hI.agr (⟨r1.2, (⟨(⟨x0.t.m, x0.t.start⟩ : treeTree), x0.bad⟩ : bestMarks)⟩ : bestRanks) v3 cs2 g0 gp1 gm1 gs1 gm2 g2 hE2 hp1 hp2 hp3 (hI.handN 6) r2 hr2) rfl fun v4 a w hz2 hA => ?_
  obtain ⟨vp1, cp1, gm3, gs2, gm4, rfl, hp4, hp5, hp6, hp7, hi2⟩ := hz2
  have hI := hI.backN 6 hi2
  have hI : Iv w0 (many [cel g0 [[.pointer (some ⟨gp1, 0, none⟩)], [.map (some gm2)]] 106, cel gp1 [[.map (some gm1)], av .u8 32 x0.t.start] 97, nd95 gm1 x0.t.m gs1, mpI gm2 (ent kv104 vv104 x0.bad)]).foot μ μ [cel g2 [[vp1], [.pointer (some ⟨g0, 0, none⟩)], [.func (.func 31) #[] #[]]] 112, row 26 32 vp1 r2.l.length cp1, cel g0 [[.pointer (some ⟨gp1, 0, none⟩)], [.map (some gm4)]] 106, cel gp1 [[.map (some gm3)], av .u8 32 r2.m.t.start] 97, nd95 gm3 r2.m.t.m gs2, mpI gm4 (ent kv104 vv104 r2.m.bad), row 26 32 v2 r1.1.length cs1, cel g1 [av .u8 32 (List.replicate 32 0)] 26] w := hI
  refine o_nil <| hN4 _ _ <| w_seq fun _ hN5 => w_reg <| stm hA rfl rfl fun a hA => 
    stp hA (r_nilc hA rfl) rfl fun a hA => 
    stp hA (r_fd (k := 0) Tryd.underlying112 rfl sz62 hA rfl rfl) rfl fun a hA => 
    stp hA (r_ld1 (j := 0) [] [[.pointer (some ⟨g0, 0, none⟩)], [.func (.func 31) #[] #[]]] Tryd.underlying62 rfl hI rfl hA rfl rfl) rfl fun a hA => ?_
  obtain ⟨hb1, H⟩ := bG H
  refine stp hA (r_rix (j := 1) Tryd.underlying62 sz26 hI rfl hA rfl rfl (by decide) hb1) rfl fun a hA => ?_
  obtain ⟨A1, _, B1, hc1, hl1, _, he1⟩ := Els.at_ hp4 (getD_some [] (by decide) hb1)
  obtain ⟨rfl, hw1⟩ := he1
  refine stp hA (r_rldP (j := 1) (q := (0 : Int).toNat * 32) (off := 0) A1 B1 [] [av .u8 32 (r2.l.getD (0 : Int).toNat [])] [] hc1 hl1 rfl Tryd.underlying26 rfl sz26 rfl hI rfl hA rfl) rfl fun a hA => 
    o_st (j := 7) [] [av .u8 32 (List.replicate 32 0)] [av .u8 32 (r2.l.getD (0 : Int).toNat [])] [] sz26 rfl rfl (fl_cons (one_av _ _ _) fl_nil) hI rfl hA rfl rfl rfl rfl fun w hI => ?_
  refine o_nil <| hN5 _ _ <| w_ret ?_
  obtain rfl := sJ H
  exact retc Tryd.underlying26 rfl sz26 rfl hI (j := 7) rfl hA Tryd.results29 rfl ⟨_, rfl, gm3, gs2, gm4, rfl, hw1, hp5, hp6, hp7, ((hI.sl [2, 3, 4, 5] rfl).less (Store.le.refl _) hI.le)⟩
set_option maxRecDepth 20000 in
theorem best_Marks_Is.c (μ : Store) (w0 : World) (hμ : Agr μ w0) (x0 : bestMarks) (gp1 : Nat) (gm1 : Nat) (gs1 : (List Int) → NG) (gm2 : Nat) (g0 : Nat) (hp1 : nw95 μ x0.t.m gs1) (hp2 : Arr .u8 32 x0.t.start) (hp3 : mw104 x0.bad) (ho0 : Its μ w0 [cel g0 [[.pointer (some ⟨gp1, 0, none⟩)], [.map (some gm2)]] 106, cel gp1 [[.map (some gm1)], av .u8 32 x0.t.start] 97, nd95 gm1 x0.t.m gs1, mpI gm2 (ent kv104 vv104 x0.bad)]) (x1 : List Int) (hx1 : Arr .u8 32 x1) (r : Bool) (H : best_Marks_Is.f x0 x1 = some r) :
    Calls Tryd.prog 30 [.pointer (some ⟨g0, 0, none⟩), .agg [av .u8 32 x1].flatten.toArray].toArray w0 (fun e w' => ∃ v, e = .returned v ∧ v = .bool r ∧ True ∧ Iv w0 (many [cel g0 [[.pointer (some ⟨gp1, 0, none⟩)], [.map (some gm2)]] 106, cel gp1 [[.map (some gm1)], av .u8 32 x0.t.start] 97, nd95 gm1 x0.t.m gs1, mpI gm2 (ent kv104 vv104 x0.bad)]).foot μ μ [cel g0 [[.pointer (some ⟨gp1, 0, none⟩)], [.map (some gm2)]] 106, cel gp1 [[.map (some gm1)], av .u8 32 x0.t.start] 97, nd95 gm1 x0.t.m gs1, mpI gm2 (ent kv104 vv104 x0.bad)] w') := by
  refine enter Tryd.func30 rfl Tryd.ntmps30 rfl fun a hA => ?_
  have hI := Iv.startN hμ ho0
  have H := bI H
  refine w_seq fun _ hN1 => w_reg <| o_box [av .u8 32 x1] hI hA rfl rfl rfl fun g1 a w hA hI hg1 => 
    sta hA rfl rfl fun a hA => ?_
  refine o_nil <| hN1 _ _ <| w_seq fun _ hN2 => w_block ?_
  obtain ⟨z1, hz1, Hk1⟩ := bind_some H
  obtain ⟨n1, hn1⟩ := loopO_some hz1
  refine w_loop (fun n a w => ∃ (s1 : List Int), loopN (best_Marks_Is.s0 x0) n s1 = some z1 ∧ Arr .u8 32 s1 ∧ Fr a 35 [(0, .pointer (some ⟨g0, 0, none⟩)), (3, .pointer (some ⟨g1, 0, none⟩)), (4, .bool false)] ∧ Iv w0 (many [cel g0 [[.pointer (some ⟨gp1, 0, none⟩)], [.map (some gm2)]] 106, cel gp1 [[.map (some gm1)], av .u8 32 x0.t.start] 97, nd95 gm1 x0.t.m gs1, mpI gm2 (ent kv104 vv104 x0.bad)]).foot μ μ [cel g1 [av .u8 32 s1] 26, cel g0 [[.pointer (some ⟨gp1, 0, none⟩)], [.map (some gm2)]] 106, cel gp1 [[.map (some gm1)], av .u8 32 x0.t.start] 97, nd95 gm1 x0.t.m gs1, mpI gm2 (ent kv104 vv104 x0.bad)] w) n1 ⟨x1, hn1, hx1, hA.sub ⟨rfl, rfl, rfl, trivial⟩, hI⟩ ?_
  clear hA hI
  rintro n a w ⟨s1, hn1, ws1, hA, hI⟩
  obtain ⟨m1, rfl, H⟩ := loopN_bind hn1
  clear hn1
  dsimp only [best_Marks_Is.s0] at H
  refine w_seq fun _ hN3 => w_seq fun _ hN4 => ?_
  refine w_any [] mo hI fun w hI => ?_
  refine gT 0 hA rfl hI (fun w hI => r_ldA (j := 0) [] [av .u8 32 s1] [] Tryd.underlying26 rfl sz26 rfl hI rfl hA rfl rfl) fun a hA => ?_
  refine gE 1 hA rfl (.inr hI) (fun _ => r_mv hA rfl) fun a hA => ?_
  refine gE 2 hA rfl (.inr hI) (fun _ => r_nilc hA rfl) fun a hA => ?_
  refine gE 3 hA rfl (.inr hI) (fun _ => r_fd (k := 0) Tryd.underlying106 rfl sz58 hA rfl rfl) fun a hA => ?_
  refine gT 4 hA rfl hI (fun w hI => r_ld1 (j := 1) [] [[.map (some gm2)]] Tryd.underlying58 rfl hI rfl hA rfl rfl) fun a hA => ?_
  refine gF 5 rfl ?_
  obtain ⟨r1, hr1, H⟩ := bB H
  have hI := hI.sl [2, 3, 0, 1, 4] rfl
  refine o_call _ cf27 hA rfl (tree_Tree_Start.c μ _ hI.agr (⟨x0.t.m, x0.t.start⟩ : treeTree) gm1 gs1 gp1 hp1 hp2 (hI.handN 2) r1 hr1) rfl fun v1 a w hz2 hA => ?_
  obtain ⟨rfl, hw1, hi1⟩ := hz2
  have hI := hI.back2 hi1
  refine o_nil <| ⟨(.inr (hI.sl [2, 3, 0, 1, 4] rfl)), ?_⟩
  refine gE 6 hA rfl (.inr (hI.sl [2, 3, 0, 1, 4] rfl)) (fun _ => r_neS hA rfl rfl eg26 (eqv_arr Tryd.underlying26 Tryd.underlying5 sz5 ws1 hw1)) fun a hA => ?_
  refine gN <| hN4 _ _ <| w_cond hA rfl (fun hc1 => ?_) (fun hc1 => ?_)
  · obtain ⟨hc1, H⟩ := dT H hc1
    refine w_skip <| hN3 _ _ <| w_block ?_
    obtain ⟨⟨c1, c2, c3, c4, c5, c6, c7⟩, hz3, Hk2⟩ := bB H
    refine w_cut (fun a w => ∃ (gc1 : Nat), InR .u32 c2 ∧ Arr .u8 32 c3 ∧ Arr .u8 32 c4 ∧ InR .u32 c5 ∧ InR .u32 c6 ∧ InR .u32 c7 ∧ Fr a 35 [(0, .pointer (some ⟨g0, 0, none⟩)), (3, .pointer (some ⟨g1, 0, none⟩)), (4, .bool false), (5, .pointer (some ⟨gc1, 0, none⟩)), (6, .bool c1), (13, .bool (decide (¬ (s1 = r1))))] ∧ Iv w0 (many [cel g0 [[.pointer (some ⟨gp1, 0, none⟩)], [.map (some gm2)]] 106, cel gp1 [[.map (some gm1)], av .u8 32 x0.t.start] 97, nd95 gm1 x0.t.m gs1, mpI gm2 (ent kv104 vv104 x0.bad)]).foot μ μ [cel gc1 [[.int .u32 c2], av .u8 32 c3, av .u8 32 c4, [.int .u32 c5], [.int .u32 c6], [.int .u32 c7]] 28, cel gp1 [[.map (some gm1)], av .u8 32 x0.t.start] 97, nd95 gm1 x0.t.m gs1, cel g1 [av .u8 32 s1] 26, cel g0 [[.pointer (some ⟨gp1, 0, none⟩)], [.map (some gm2)]] 106, mpI gm2 (ent kv104 vv104 x0.bad)] w) ?_ ?_
    · have H := bI hz3
      refine w_anyS [] mo (fun w (h : Iv w0 (many [cel g0 [[.pointer (some ⟨gp1, 0, none⟩)], [.map (some gm2)]] 106, cel gp1 [[.map (some gm1)], av .u8 32 x0.t.start] 97, nd95 gm1 x0.t.m gs1, mpI gm2 (ent kv104 vv104 x0.bad)]).foot μ μ [cel gp1 [[.map (some gm1)], av .u8 32 x0.t.start] 97, nd95 gm1 x0.t.m gs1, cel g1 [av .u8 32 s1] 26, cel g0 [[.pointer (some ⟨gp1, 0, none⟩)], [.map (some gm2)]] 106, mpI gm2 (ent kv104 vv104 x0.bad)] w) => (h.sl [0, 1, 2, 3, 4] rfl : Iv w0 (many [cel g0 [[.pointer (some ⟨gp1, 0, none⟩)], [.map (some gm2)]] 106, cel gp1 [[.map (some gm1)], av .u8 32 x0.t.start] 97, nd95 gm1 x0.t.m gs1, mpI gm2 (ent kv104 vv104 x0.bad)]).foot μ μ [cel gp1 [[.map (some gm1)], av .u8 32 x0.t.start] 97, nd95 gm1 x0.t.m gs1, cel g1 [av .u8 32 s1] 26, cel g0 [[.pointer (some ⟨gp1, 0, none⟩)], [.map (some gm2)]] 106, mpI gm2 (ent kv104 vv104 x0.bad)] w)) hI fun w hI => ?_
      refine gE 0 hA rfl (.inr hI) (fun _ => r_mv hA rfl) fun a hA => ?_
      refine gE 1 hA rfl (.inr hI) (fun _ => r_nilc hA rfl) fun a hA => ?_
      refine gE 2 hA rfl (.inr hI) (fun _ => r_fd (k := 0) Tryd.underlying106 rfl sz58 hA rfl rfl) fun a hA => ?_
      refine gT 3 hA rfl hI (fun w hI => r_ld1 (j := 3) [] [[.map (some gm2)]] Tryd.underlying58 rfl hI rfl hA rfl rfl) fun a hA => ?_
      refine gT 4 hA rfl hI (fun w hI => r_ldA (j := 2) [] [av .u8 32 s1] [] Tryd.underlying26 rfl sz26 rfl hI rfl hA rfl rfl) fun a hA => ?_
      refine g_fork (i := 5) (is := [9]) (by kernel_rfl) (List.forall_mem_cons.2 ⟨⟨_, rfl, ?_⟩, (List.forall_mem_cons.2 ⟨⟨_, rfl, ?_⟩, List.forall_mem_nil _⟩)⟩)
      · skip
        obtain ⟨r2, hr2, H⟩ := bB H
        refine o_call _ cf22 hA rfl (tree_Tree_Head.c μ _ hI.agr (⟨x0.t.m, x0.t.start⟩ : treeTree) gm1 gs1 gp1 hp1 hp2 (hI.handN 2) s1 ws1 r2 hr2) rfl fun v2 a w hz4 hA => ?_
        obtain ⟨rfl, hw2, hw3, hi2⟩ := hz4
        have hI := hI.back2 hi2
        refine o_nil <| ⟨(.inr hI), ?_⟩
        refine gE 6 hA rfl (.inr hI) (fun _ => r_mv hA rfl) fun a hA => ?_
        refine gE 7 hA rfl (.inr hI) (fun _ => r_extr (vs := [.agg [[.int .u32 r2.1.Version], av .u8 32 r2.1.Prev, av .u8 32 r2.1.Root, [.int .u32 r2.1.Time], [.int .u32 r2.1.Work], [.int .u32 r2.1.Nonce]].flatten.toArray, .bool r2.2]) hA rfl rfl) fun a hA => ?_
        refine gE 8 hA rfl (.inr hI) (fun _ => r_extr (vs := [.agg [[.int .u32 r2.1.Version], av .u8 32 r2.1.Prev, av .u8 32 r2.1.Root, [.int .u32 r2.1.Time], [.int .u32 r2.1.Work], [.int .u32 r2.1.Nonce]].flatten.toArray, .bool r2.2]) hA rfl rfl) fun a hA => ?_
        refine gF 9 rfl ?_
        refine o_new [[.int .u32 0], av .u8 32 (List.replicate 32 0), av .u8 32 (List.replicate 32 0), [.int .u32 0], [.int .u32 0], [.int .u32 0]] zr28 hI hA rfl fun g2 a w hA hI hg2 => ?_
        refine o_nil <| ⟨(.inr (hI.sl [1, 2, 3, 4, 5] rfl)), ?_⟩
        refine gF 10 rfl ?_
        refine o_st (j := 0) [] [[.int .u32 0], av .u8 32 (List.replicate 32 0), av .u8 32 (List.replicate 32 0), [.int .u32 0], [.int .u32 0], [.int .u32 0]] [[.int .u32 r2.1.Version], av .u8 32 r2.1.Prev, av .u8 32 r2.1.Root, [.int .u32 r2.1.Time], [.int .u32 r2.1.Work], [.int .u32 r2.1.Nonce]] [] sz28 rfl rfl (fl_cons (oneC rfl) (fl_cons (one_av _ _ _) (fl_cons (one_av _ _ _) (fl_cons (oneC rfl) (fl_cons (oneC rfl) (fl_cons (oneC rfl) fl_nil)))))) hI rfl hA rfl rfl rfl rfl fun w hI => ?_
        refine o_nil <| ⟨(.inr (hI.sl [1, 2, 3, 4, 5] rfl)), ?_⟩
        refine gE 11 hA rfl (.inr (hI.sl [1, 2, 3, 4, 5] rfl)) (fun _ => r_as hA rfl) fun a hA => ?_
        refine gN ?_
        cases sJ H
        exact ⟨g2, hw2.1, hw2.2.1, hw2.2.2.1, hw2.2.2.2.1, hw2.2.2.2.2.1, hw2.2.2.2.2.2, hA.sub ⟨rfl, rfl, rfl, rfl, rfl, rfl, trivial⟩, hI⟩
      · skip
        refine o_new [[.int .u32 0], av .u8 32 (List.replicate 32 0), av .u8 32 (List.replicate 32 0), [.int .u32 0], [.int .u32 0], [.int .u32 0]] zr28 hI hA rfl fun g2 a w hA hI hg2 => ?_
        refine o_nil <| ⟨(.inr (hI.sl [1, 2, 3, 4, 5] rfl)), ?_⟩
        refine gF 5 rfl ?_
        obtain ⟨r2, hr2, H⟩ := bB H
        have hI := hI.sl [1, 2, 0, 3, 4, 5] rfl
        refine o_call _ cf22 hA rfl (tree_Tree_Head.c μ _ hI.agr (⟨x0.t.m, x0.t.start⟩ : treeTree) gm1 gs1 gp1 hp1 hp2 (hI.handN 2) s1 ws1 r2 hr2) rfl fun v2 a w hz4 hA => ?_
        obtain ⟨rfl, hw2, hw3, hi2⟩ := hz4
        have hI := hI.back2 hi2
        refine o_nil <| ⟨(.inr (hI.sl [0, 1, 3, 4, 5] rfl)), ?_⟩
        refine gE 6 hA rfl (.inr (hI.sl [0, 1, 3, 4, 5] rfl)) (fun _ => r_mv hA rfl) fun a hA => ?_
        refine gE 7 hA rfl (.inr (hI.sl [0, 1, 3, 4, 5] rfl)) (fun _ => r_extr (vs := [.agg [[.int .u32 r2.1.Version], av .u8 32 r2.1.Prev, av .u8 32 r2.1.Root, [.int .u32 r2.1.Time], [.int .u32 r2.1.Work], [.int .u32 r2.1.Nonce]].flatten.toArray, .bool r2.2]) hA rfl rfl) fun a hA => ?_
        refine gE 8 hA rfl (.inr (hI.sl [0, 1, 3, 4, 5] rfl)) (fun _ => r_extr (vs := [.agg [[.int .u32 r2.1.Version], av .u8 32 r2.1.Prev, av .u8 32 r2.1.Root, [.int .u32 r2.1.Time], [.int .u32 r2.1.Work], [.int .u32 r2.1.Nonce]].flatten.toArray, .bool r2.2]) hA rfl rfl) fun a hA => ?_
        refine gF 10 rfl ?_
        refine o_st (j := 2) [] [[.int .u32 0], av .u8 32 (List.replicate 32 0), av .u8 32 (List.replicate 32 0), [.int .u32 0], [.int .u32 0], [.int .u32 0]] [[.int .u32 r2.1.Version], av .u8 32 r2.1.Prev, av .u8 32 r2.1.Root, [.int .u32 r2.1.Time], [.int .u32 r2.1.Work], [.int .u32 r2.1.Nonce]] [] sz28 rfl rfl (fl_cons (oneC rfl) (fl_cons (one_av _ _ _) (fl_cons (one_av _ _ _) (fl_cons (oneC rfl) (fl_cons (oneC rfl) (fl_cons (oneC rfl) fl_nil)))))) hI rfl hA rfl rfl rfl rfl fun w hI => ?_
        refine o_nil <| ⟨(.inr (hI.sl [0, 1, 3, 4, 5] rfl)), ?_⟩
        refine gE 11 hA rfl (.inr (hI.sl [0, 1, 3, 4, 5] rfl)) (fun _ => r_as hA rfl) fun a hA => ?_
        refine gN ?_
        cases sJ H
        exact ⟨g2, hw2.1, hw2.2.1, hw2.2.2.1, hw2.2.2.2.1, hw2.2.2.2.2.1, hw2.2.2.2.2.2, hA.sub ⟨rfl, rfl, rfl, rfl, rfl, rfl, trivial⟩, (hI.sl [2, 0, 1, 3, 4, 5] rfl)⟩
    · rintro a w ⟨gc1, wc2, wc3, wc4, wc5, wc6, wc7, hA, hI⟩
      have H := Hk2
      refine w_seq fun _ hN5 => w_block <| w_seq fun _ hN6 => w_reg <| stm hA rfl rfl fun a hA => 
        stp hA (r_not hA rfl) rfl fun a hA => 
        sta hA rfl rfl fun a hA => ?_
      refine o_nil <| hN6 _ _ <| w_cond hA rfl (fun hc2 => ?_) (fun hc2 => ?_)
      · have hc2 := nT hc2; have hc2 := ft hc2; have H := bF H hc2
        refine w_seq fun _ hN7 => w_reg <| sta hA rfl rfl fun a hA => ?_
        refine o_nil <| hN7 _ _ <| w_ret ?_
        have H : some false = some z1 := H
        obtain rfl := sI H
        have H := Hk1
        obtain rfl := sJ H
        exact ret1 hA Tryd.results30 rfl ⟨_, rfl, rfl, trivial, ((hI.sl [4, 1, 2, 5] rfl).less (Store.le.refl _) hI.le)⟩
      · have hc2 := nF hc2; have H := bT H hc2
        refine w_seq fun _ hN8 => ?_
        refine w_draw mo (by kernel_rfl) hI ?_
        refine qtp hA (fun _ hI => r_mv hA rfl) rfl fun a hA => 
          qtp hA (fun _ hI => r_nilc hA rfl) rfl fun a hA => 
          qtp hA (fun _ hI => r_fd (k := 1) Tryd.underlying106 rfl sz104 hA rfl rfl) rfl fun a hA => 
          qtp hA (fun _ hI => r_ld1 (j := 4) [[.pointer (some ⟨gp1, 0, none⟩)]] [] Tryd.underlying104 rfl hI rfl hA rfl rfl) rfl fun a hA => 
          qtp hA (fun _ hI => r_ldA (j := 3) [] [av .u8 32 s1] [] Tryd.underlying26 rfl sz26 rfl hI rfl hA rfl rfl) rfl fun a hA => 
          qtp hA (fun _ hI => r_look (j := 5) kn104 Tryd.underlying104 mz104 hp3 ws1 hI rfl hA rfl rfl) rfl fun a hA => 
          qtp hA (fun _ hI => r_as hA rfl) rfl fun a hA => ?_
        refine q_nil fun w hI => ?_
        refine hN8 _ _ <| w_cond hA rfl (fun hc3 => ?_) (fun hc3 => ?_)
        · have H := bT H hc3
          refine w_seq fun _ hN9 => w_reg <| sta hA rfl rfl fun a hA => ?_
          refine o_nil <| hN9 _ _ <| w_ret ?_
          have H : some true = some z1 := H
          obtain rfl := sI H
          have H := Hk1
          obtain rfl := sJ H
          exact ret1 hA Tryd.results30 rfl ⟨_, rfl, rfl, trivial, ((hI.sl [4, 1, 2, 5] rfl).less (Store.le.refl _) hI.le)⟩
        · have hc3 := ft hc3; have H := bF H hc3
          refine w_skip <| hN5 _ _ <| w_reg <| stp hA (r_fd (k := 1) Tryd.underlying28 rfl sz26 hA rfl rfl) rfl fun a hA => 
            stp hA (r_ldA (j := 0) [[.int .u32 c2]] [av .u8 32 c3] [av .u8 32 c4, [.int .u32 c5], [.int .u32 c6], [.int .u32 c7]] Tryd.underlying26 rfl sz26 rfl hI rfl hA rfl rfl) rfl fun a hA => 
            o_st (j := 3) [] [av .u8 32 s1] [av .u8 32 c3] [] sz26 rfl rfl (fl_cons (one_av _ _ _) fl_nil) hI rfl hA rfl rfl rfl rfl fun w hI => ?_
          refine o_nil <| ⟨m1, Nat.lt_succ_self _, c3, H, wc3, hA.sub ⟨rfl, rfl, rfl, trivial⟩, (hI.sl [3, 4, 1, 2, 5] rfl)⟩
  · obtain ⟨hc1, H⟩ := dF H hc1
    refine w_exit rfl <| hN2 _ _ <| w_seq fun _ hN10 => w_reg <| sta hA rfl rfl fun a hA => ?_
    refine o_nil <| hN10 _ _ <| w_ret ?_
    have H : some false = some z1 := H
    obtain rfl := sI H
    have H := Hk1
    obtain rfl := sJ H
    exact ret1 hA Tryd.results30 rfl ⟨_, rfl, rfl, trivial, ((hI.sl [3, 0, 1, 4] rfl).less (Store.le.refl _) hI.le)⟩
set_option maxRecDepth 20000 in
theorem best_Marks_All.c (μ : Store) (w0 : World) (hμ : Agr μ w0) (x0 : bestMarks) (gp1 : Nat) (gm1 : Nat) (gs1 : (List Int) → NG) (gm2 : Nat) (g0 : Nat) (hp1 : nw95 μ x0.t.m gs1) (hp2 : Arr .u8 32 x0.t.start) (hp3 : mw104 x0.bad) (ho0 : Its μ w0 [cel g0 [[.pointer (some ⟨gp1, 0, none⟩)], [.map (some gm2)]] 106, cel gp1 [[.map (some gm1)], av .u8 32 x0.t.start] 97, nd95 gm1 x0.t.m gs1, mpI gm2 (ent kv104 vv104 x0.bad)]) (r : List (List Int)) (H : best_Marks_All.f x0 = some r) :
    Calls Tryd.prog 33 [.pointer (some ⟨g0, 0, none⟩)].toArray w0 (fun e w' => ∃ v, e = .returned v ∧ ∃ (v0 : Value) (c0 : List Value), v = v0 ∧ Els (RA .u8 32) 32 r c0 ∧ Iv w0 (many [cel g0 [[.pointer (some ⟨gp1, 0, none⟩)], [.map (some gm2)]] 106, cel gp1 [[.map (some gm1)], av .u8 32 x0.t.start] 97, nd95 gm1 x0.t.m gs1, mpI gm2 (ent kv104 vv104 x0.bad)]).foot μ μ [row 26 32 v0 r.length c0, cel g0 [[.pointer (some ⟨gp1, 0, none⟩)], [.map (some gm2)]] 106, cel gp1 [[.map (some gm1)], av .u8 32 x0.t.start] 97, nd95 gm1 x0.t.m gs1, mpI gm2 (ent kv104 vv104 x0.bad)] w') := by
  refine enter Tryd.func33 rfl Tryd.ntmps33 rfl fun a hA => ?_
  have hI := Iv.startN hμ ho0
  have H := bI H
  refine w_seq fun _ hN1 => w_reg <| sta hA rfl rfl fun a hA => ?_
  refine o_nil <| hN1 _ _ <| w_seq fun _ hN2 => w_reg <| stm hA rfl rfl fun a hA => ?_
  obtain ⟨r1, hr1, H⟩ := bB H
  refine o_call _ cf56 hA rfl (best_Marks_parted.c μ _ hI.agr (⟨(⟨x0.t.m, x0.t.start⟩ : treeTree), x0.bad⟩ : bestMarks) gp1 gm1 gs1 gm2 g0 hp1 hp2 hp3 (hI.handN 4) r1 hr1) rfl fun v1 a w hz1 hA => ?_
  obtain ⟨v2, cs1, v3, cs2, rfl, hE1, hE2, hi1⟩ := hz1
  have hI := hI.backN 4 hi1
  have hI : Iv w0 (many [cel g0 [[.pointer (some ⟨gp1, 0, none⟩)], [.map (some gm2)]] 106, cel gp1 [[.map (some gm1)], av .u8 32 x0.t.start] 97, nd95 gm1 x0.t.m gs1, mpI gm2 (ent kv104 vv104 x0.bad)]).foot μ μ [row 26 32 v2 r1.1.length cs1, row 26 32 v3 r1.2.length cs2, cel g0 [[.pointer (some ⟨gp1, 0, none⟩)], [.map (some gm2)]] 106, cel gp1 [[.map (some gm1)], av .u8 32 x0.t.start] 97, nd95 gm1 x0.t.m gs1, mpI gm2 (ent kv104 vv104 x0.bad)] w := hI
  refine stm hA rfl rfl fun a hA => 
    stp hA (r_extr (vs := [v2, v3]) hA rfl rfl) rfl fun a hA => 
    stp hA (r_extr (vs := [v2, v3]) hA rfl rfl) rfl fun a hA => 
    sta hA rfl rfl fun a hA => 
    sta hA rfl rfl fun a hA => ?_
  refine o_nil <| hN2 _ _ <| w_seq fun _ hN3 => w_reg <| stm hA rfl rfl fun a hA => 
    sta hA rfl rfl fun a hA => ?_
  refine o_nil <| hN3 _ _ <| w_ret ?_
  obtain rfl := sJ H
  exact ret1 hA Tryd.results33 rfl ⟨_, rfl, v2, cs1, rfl, hE1, ((hI.sl [0, 2, 3, 4, 5] rfl).less (Store.le.refl _) hI.le)⟩
end Go.Proofs.YtdngkgkkblfcjaaDoor.T
namespace Go.Proofs.YtdngkgkkblfcjaaDoor.T
open Go Go.Proofs Go.Proofs.YtdngkgkkblfcjaaDoor.K
set_option linter.unusedVariables false
set_option linter.unusedSimpArgs false
noncomputable def sargassolaw13_first.f : Option Bool := ((sargassoref1_Start.f).bind fun r1 => ((tree_New.f r1.Head).bind fun r2 => ((best_New.f (⟨r2.m, r2.start⟩ : treeTree)).bind fun r3 => ((((best_Marks_Best.f (⟨(⟨r2.m, r2.start⟩ : treeTree), r3.bad⟩ : bestMarks)).bind fun r4 => ((tree_Tree_Start.f (⟨r4.2.t.m, r4.2.t.start⟩ : treeTree)).bind fun r5 => ((sargassoref_SameHash.f r4.1 r5).bind fun r6 => (if r6 = true then ((tree_Tree_Start.f (⟨r4.2.t.m, r4.2.t.start⟩ : treeTree)).bind fun r7 => ((best_Marks_Bad.f (⟨(⟨r4.2.t.m, r4.2.t.start⟩ : treeTree), r4.2.bad⟩ : bestMarks) r7).bind fun r8 => some (!r8.1, r8.2.bad, r8.2.t.m, r8.2.t.start))) else some (false, r4.2.bad, r4.2.t.m, r4.2.t.start)))))).bind fun (c1, c2, c3, c4) => some c1))))
end Go.Proofs.YtdngkgkkblfcjaaDoor.T
namespace Go.Proofs.YtdngkgkkblfcjaaDoor.T
open Go Go.Proofs Go.Proofs.YtdngkgkkblfcjaaDoor.K
set_option linter.unusedVariables false
set_option linter.unusedSimpArgs false
set_option maxRecDepth 20000 in
theorem sargassolaw13_first.c (μ : Store) (w0 : World) (hμ : Agr μ w0) (r : Bool) (H : sargassolaw13_first.f = some r) :
    Calls Tryd.prog 24 [].toArray w0 (fun e w' => ∃ v, e = .returned v ∧ v = .bool r ∧ True ∧ Iv w0 [] μ μ [] w') := by
  refine enter Tryd.func24 rfl Tryd.ntmps24 rfl fun a hA => ?_
  have hI := Iv.start hμ
  have H := bI H
  refine w_seq fun _ hN1 => w_reg <| sta hA rfl rfl fun a hA => ?_
  refine o_nil <| hN1 _ _ <| w_seq fun _ hN2 => w_reg ?_
  obtain ⟨r1, hr1, H⟩ := bB H
  refine o_call _ cf25 hA rfl (sargassoref1_Start.c μ _ hI.agr  r1 hr1) rfl fun v1 a w hz1 hA => ?_
  obtain ⟨v2, μ1, rfl, hw1, hi1⟩ := hz1
  have hI := hI.call hi1
  refine stp hA (r_field Tryd.underlying37 rfl (partA [] [[.int .u32 r1.Head.Version], av .u8 32 r1.Head.Prev, av .u8 32 r1.Head.Root, [.int .u32 r1.Head.Time], [.int .u32 r1.Head.Work], [.int .u32 r1.Head.Nonce]] [[v2]] Tryd.underlying28 rfl sz28 rfl rfl) hA rfl) rfl fun a hA => ?_
  obtain ⟨r2, hr2, H⟩ := bB H
  refine o_call _ cf17 hA rfl (tree_New.c μ1 _ hI.agr r1.Head ⟨hw1.1, hw1.2.1, hw1.2.2.1, hw1.2.2.2.1, hw1.2.2.2.2.1, hw1.2.2.2.2.2.1⟩ r2 hr2) rfl fun v3 a w hz2 hA => ?_
  obtain ⟨g1, gm1, gs1, rfl, hp1, hp2, hi2⟩ := hz2
  have hI := hI.call hi2
  refine sta hA rfl rfl fun a hA => ?_
  refine o_nil <| hN2 _ _ <| w_seq fun _ hN3 => w_seq fun _ hN4 => w_reg <| stm hA rfl rfl fun a hA => 
    stp hA (r_ptrnil_eql Tryd.underlying58 hA rfl rfl) rfl fun a hA => ?_
  refine o_nil <| hN4 _ _ <| w_cF hA rfl rfl ?_
  refine w_skip <| hN3 _ _ <| w_seq fun _ hN5 => w_reg <| stm hA rfl rfl fun a hA => ?_
  obtain ⟨r3, hr3, H⟩ := bB H
  refine o_call _ cf26 hA rfl (best_New.c μ1 _ hI.agr (⟨r2.m, r2.start⟩ : treeTree) gm1 gs1 g1 hp1 hp2 (hI.handN 2) r3 hr3) rfl fun v4 a w hz3 hA => ?_
  obtain ⟨g2, gm2, rfl, hp3, hi3⟩ := hz3
  have hI := hI.backN 2 hi3
  have hI : Iv w0 [] μ μ1 [cel g2 [[.pointer (some ⟨g1, 0, none⟩)], [.map (some gm2)]] 106, mpI gm2 (ent kv104 vv104 r3.bad), cel g1 [[.map (some gm1)], av .u8 32 r2.start] 97, nd95 gm1 r2.m gs1] w := hI
  refine sta hA rfl rfl fun a hA => ?_
  refine o_nil <| hN5 _ _ ?_
  obtain ⟨⟨c1, c2, c3, c4⟩, hz4, Hk1⟩ := bB H
  refine w_cut (fun a w => ∃ (ggc2 : Nat) (ggc3 : Nat) (gsc3 : (List Int) → NG), mw104 c2 ∧ nw95 μ1 c3 gsc3 ∧ Arr .u8 32 c4 ∧ Fr a 26 [(0, .bool c1)] ∧ Iv w0 [] μ μ1 [mpI ggc2 (ent kv104 vv104 c2), nd95 ggc3 c3 gsc3, cel g2 [[.pointer (some ⟨g1, 0, none⟩)], [.map (some ggc2)]] 106, cel g1 [[.map (some ggc3)], av .u8 32 c4] 97] w) ?_ ?_
  · have H := bI hz4
    refine w_reg <| stm hA rfl rfl fun a hA => 
      stp hA (r_ptrnil_neq Tryd.underlying72 hA rfl rfl) rfl fun a hA => 
      stm hA rfl rfl fun a hA => 
      o_yes hA rfl rfl rfl <| 
      stm hA rfl rfl fun a hA => 
      o_yes hA rfl rfl rfl <| ?_
    obtain ⟨r4, hr4, H⟩ := bB H
    have hI := hI.sl [0, 2, 3, 1] rfl
    refine o_call _ cf29 hA rfl (best_Marks_Best.c μ1 _ hI.agr (⟨(⟨r2.m, r2.start⟩ : treeTree), r3.bad⟩ : bestMarks) g1 gm1 gs1 gm2 g2 hp1 hp2 hp3 (hI.handN 4) r4 hr4) rfl fun v5 a w hz5 hA => ?_
    obtain ⟨gm3, gs2, gm4, rfl, hw2, hp4, hp5, hp6, hi4⟩ := hz5
    have hI := hI.backN 4 hi4
    have hI : Iv w0 [] μ μ1 [cel g2 [[.pointer (some ⟨g1, 0, none⟩)], [.map (some gm4)]] 106, cel g1 [[.map (some gm3)], av .u8 32 r4.2.t.start] 97, nd95 gm3 r4.2.t.m gs2, mpI gm4 (ent kv104 vv104 r4.2.bad)] w := hI
    refine o_yes hA rfl rfl rfl <| 
      stm hA rfl rfl fun a hA => 
      o_yes hA rfl rfl rfl <| ?_
    obtain ⟨r5, hr5, H⟩ := bB H
    have hI := hI.sl [1, 2, 0, 3] rfl
    refine o_call _ cf27 hA rfl (tree_Tree_Start.c μ1 _ hI.agr (⟨r4.2.t.m, r4.2.t.start⟩ : treeTree) gm3 gs2 g1 hp4 hp5 (hI.handN 2) r5 hr5) rfl fun v6 a w hz6 hA => ?_
    obtain ⟨rfl, hw3, hi5⟩ := hz6
    have hI := hI.back2 hi5
    refine o_yes hA rfl rfl rfl <| ?_
    obtain ⟨r6, hr6, H⟩ := bB H
    refine o_callp (u := .bool r6) cf23 hA rfl hI (sargassoref_SameHash.c μ1 _ hI.agr r4.1 hw2 r5 hw3 r6 hr6) rfl fun a w hz7 hI hA => 
      stp hA (r_pick_t hA rfl rfl rfl) rfl fun a hA => 
      stm hA rfl rfl fun a hA => ?_
    rcases Bool.eq_false_or_eq_true r6 with hc1 | hc1
    · have hc10 := hc1; have H := bT H hc1
      refine o_yes hA rfl rfl hc10 <| 
        stm hA rfl rfl fun a hA => 
        o_yes hA rfl rfl hc10 <| 
        stm hA rfl rfl fun a hA => 
        o_yes hA rfl rfl hc10 <| ?_
      obtain ⟨r7, hr7, H⟩ := bB H
      refine o_call _ cf27 hA rfl (tree_Tree_Start.c μ1 _ hI.agr (⟨r4.2.t.m, r4.2.t.start⟩ : treeTree) gm3 gs2 g1 hp4 hp5 (hI.handN 2) r7 hr7) rfl fun v7 a w hz8 hA => ?_
      obtain ⟨rfl, hw4, hi6⟩ := hz8
      have hI := hI.back2 hi6
      refine o_yes hA rfl rfl hc10 <| ?_
      obtain ⟨r8, hr8, H⟩ := bB H
      have hI := hI.sl [2, 0, 1, 3] rfl
      refine o_call _ cf28 hA rfl (best_Marks_Bad.c μ1 _ hI.agr (⟨(⟨r4.2.t.m, r4.2.t.start⟩ : treeTree), r4.2.bad⟩ : bestMarks) g1 gm3 gs2 gm4 g2 hp4 hp5 hp6 (hI.handN 4) r7 hw4 r8 hr8) rfl fun v8 a w hz9 hA => ?_
      obtain ⟨gm5, gs3, gm6, rfl, hw5, hp7, hp8, hp9, hi7⟩ := hz9
      have hI := hI.backN 4 hi7
      have hI : Iv w0 [] μ μ1 [cel g2 [[.pointer (some ⟨g1, 0, none⟩)], [.map (some gm6)]] 106, cel g1 [[.map (some gm5)], av .u8 32 r8.2.t.start] 97, nd95 gm5 r8.2.t.m gs3, mpI gm6 (ent kv104 vv104 r8.2.bad)] w := hI
      refine o_yes hA rfl rfl hc10 <| 
        stp hA (r_not hA rfl) rfl fun a hA => 
        stp hA (r_pick_t hA rfl hc10 rfl) rfl fun a hA => 
        sta hA rfl rfl fun a hA => ?_
      refine o_nil ?_
      cases sJ H
      exact ⟨gm6, gm5, gs3, hp9, hp7, hp8, hA.sub ⟨rfl, trivial⟩, (hI.sl [3, 2, 0, 1] rfl)⟩
    · have hc10 := hc1; have hc1 := ft hc1; have H := bF H hc1
      refine o_no hA rfl rfl (by rw [hc10]; simp [vb]) rfl fun a hA => 
        o_no hA rfl rfl (by rw [hc10]; simp [vb]) rfl fun a hA => 
        o_no hA rfl rfl (by rw [hc10]; simp [vb]) rfl fun a hA => 
        o_no hA rfl rfl (by rw [hc10]; simp [vb]) rfl fun a hA => 
        o_no hA rfl rfl (by rw [hc10]; simp [vb]) rfl fun a hA => 
        stp hA (r_pick_f hA rfl hc10 rfl) rfl fun a hA => 
        sta hA rfl rfl fun a hA => ?_
      refine o_nil ?_
      cases sJ H
      exact ⟨gm4, gm3, gs2, hp6, hp4, hp5, hA.sub ⟨rfl, trivial⟩, (hI.sl [3, 1, 2, 0] rfl)⟩
  · rintro a w ⟨ggc2, ggc3, gsc3, wc2, wc3, wc4, hA, hI⟩
    have H := Hk1
    refine w_ret ?_
    obtain rfl := sJ H
    exact ret1 hA Tryd.results24 rfl ⟨_, rfl, rfl, trivial, hI.forget0⟩
end Go.Proofs.YtdngkgkkblfcjaaDoor.T
namespace Go.Proofs.YtdngkgkkblfcjaaDoor.T
open Go Go.Proofs Go.Proofs.YtdngkgkkblfcjaaDoor.K
set_option linter.unusedVariables false
set_option linter.unusedSimpArgs false
noncomputable def sargassolaw13_BestGoes.s1 (x0 : List Int) (r1 : Bool) (s1 : List (List Int)) : (Int × (List Int) × (List ((List Int) × Bool)) × (List ((List Int) × treeNode)) × (List Int)) → Option ((Int × (List Int) × (List ((List Int) × Bool)) × (List ((List Int) × treeNode)) × (List Int)) ⊕ (((List (List Int)) × Int × (List ((List Int) × treeNode)) × (List Int)) ⊕ Bool)) := fun (s5, s6, s7, s8, s9) => (if s5 < (x0.length : Int) then ((best_Marks_Best.f (⟨(⟨s8, s9⟩ : treeTree), s7⟩ : bestMarks)).bind fun r8 => ((((sargassoref_HasHash.f s1 r8.1).bind fun r9 => (if r9 = true then ((best_Marks_Is.f (⟨(⟨r8.2.t.m, r8.2.t.start⟩ : treeTree), r8.2.bad⟩ : bestMarks) r8.1).bind fun r10 => (if r10 = true then some (r8.2.bad, r8.2.t.m, r8.2.t.start, true) else (if 0 < s5 then ((best_Marks_Over.f (⟨(⟨r8.2.t.m, r8.2.t.start⟩ : treeTree), r8.2.bad⟩ : bestMarks) s6 r8.1).bind fun r11 => (if r11 = true then ((best_Marks_Bad.f (⟨(⟨r8.2.t.m, r8.2.t.start⟩ : treeTree), r8.2.bad⟩ : bestMarks) r8.1).bind fun r12 => (if r12.1 = true then ((best_Marks_Is.f (⟨(⟨r12.2.t.m, r12.2.t.start⟩ : treeTree), r12.2.bad⟩ : bestMarks) r8.1).bind fun r13 => some (r12.2.bad, r12.2.t.m, r12.2.t.start, !r13)) else some (r12.2.bad, r12.2.t.m, r12.2.t.start, true))) else some (r8.2.bad, r8.2.t.m, r8.2.t.start, true))) else ((best_Marks_Bad.f (⟨(⟨r8.2.t.m, r8.2.t.start⟩ : treeTree), r8.2.bad⟩ : bestMarks) r8.1).bind fun r14 => (if r14.1 = true then ((best_Marks_Is.f (⟨(⟨r14.2.t.m, r14.2.t.start⟩ : treeTree), r14.2.bad⟩ : bestMarks) r8.1).bind fun r15 => some (r14.2.bad, r14.2.t.m, r14.2.t.start, !r15)) else some (r14.2.bad, r14.2.t.m, r14.2.t.start, true)))))) else some (r8.2.bad, r8.2.t.m, r8.2.t.start, true)))).bind fun (c2, c3, c4, c5) => (if c5 = true then some (.inr (.inr false)) else ((((tree_Tree_Add.f (⟨c3, c4⟩ : treeTree) (⟨99, r8.1, (List.replicate 32 0), 0, 1000, 0⟩ : Head)).bind fun r16 => (if r16.1 ≠ (Er.b 0) then some (r16.2.m, r16.2.start, true) else ((sargassoref1_HeadID.f (⟨99, r8.1, (List.replicate 32 0), 0, 1000, 0⟩ : Head)).bind fun r17 => ((best_Marks_Is.f (⟨(⟨r16.2.m, r16.2.start⟩ : treeTree), c2⟩ : bestMarks) r17).bind fun r18 => some (r16.2.m, r16.2.start, !r18)))))).bind fun (c6, c7, c8) => (if c8 = true then some (.inr (.inr false)) else some (.inl (IntKind.i64.wrap (s5 + 1), r8.1, c2, c6, c7))))))) else (((if r1 = true then ((best_Marks_Best.f (⟨(⟨s8, s9⟩ : treeTree), s7⟩ : bestMarks)).bind fun r19 => ((tree_Tree_Start.f (⟨r19.2.t.m, r19.2.t.start⟩ : treeTree)).bind fun r20 => ((sargassoref_SameHash.f r19.1 r20).bind fun r21 => (if r21 = true then ((best_Marks_All.f (⟨(⟨r19.2.t.m, r19.2.t.start⟩ : treeTree), r19.2.bad⟩ : bestMarks)).bind fun r22 => some (decide ((r22.length : Int) = (IntKind.i64.wrap (2 * (x0.length : Int)))), r19.2.bad, r19.2.t.m, r19.2.t.start)) else some (false, r19.2.bad, r19.2.t.m, r19.2.t.start))))) else some (false, s7, s8, s9))).bind fun (c9, c10, c11, c12) => some (.inr (.inr c9))))
noncomputable def sargassolaw13_BestGoes.s0 (x0 : List Int) (r1 : Bool) (r4 : bestMarks) : ((List (List Int)) × Int × (List ((List Int) × treeNode)) × (List Int)) → Option (((List (List Int)) × Int × (List ((List Int) × treeNode)) × (List Int)) ⊕ Bool) := fun (s1, s2, s3, s4) => (if s2 < (x0.length : Int) then (if 0 ≤ s2 ∧ s2 < (x0.length : Int) then (((if (x0.getD s2.toNat 0) < 0 then some (IntKind.i64.wrap (0 - (IntKind.i64.wrap ((x0.getD s2.toNat 0) + 1)))) else some (x0.getD s2.toNat 0))).bind fun c1 => ((tree_Tree_Start.f (⟨s3, s4⟩ : treeTree)).bind fun r5 => ((tree_Tree_Add.f (⟨s3, s4⟩ : treeTree) (⟨IntKind.u32.wrap s2, r5, (List.replicate 32 0), 0, IntKind.u32.wrap (IntKind.i64.wrap (1 + (Int.tmod c1 5))), 0⟩ : Head)).bind fun r6 => (if r6.1 ≠ (Er.b 0) then some (.inr false) else ((sargassoref1_HeadID.f (⟨IntKind.u32.wrap s2, r5, (List.replicate 32 0), 0, IntKind.u32.wrap (IntKind.i64.wrap (1 + (Int.tmod c1 5))), 0⟩ : Head)).bind fun r7 => (if s1.length + 1 ≤ 4398046511104 then some (.inl (s1 ++ ([r7] : List (List Int)), IntKind.i64.wrap (s2 + 1), r6.2.m, r6.2.start)) else none)))))) else none) else loopO (sargassolaw13_BestGoes.s1 x0 r1 s1) (0, [0, 0, 0, 0, 0, 0, 0, 0, 0, 0, 0, 0, 0, 0, 0, 0, 0, 0, 0, 0, 0, 0, 0, 0, 0, 0, 0, 0, 0, 0, 0, 0], r4.bad, s3, s4))
noncomputable def sargassolaw13_BestGoes.f (x0 : List Int) : Option Bool := ((sargassolaw13_first.f).bind fun r1 => (if r1 = true then (if 15 < (x0.length : Int) then some r1 else ((sargassoref1_Start.f).bind fun r2 => ((tree_New.f r2.Head).bind fun r3 => ((best_New.f (⟨r3.m, r3.start⟩ : treeTree)).bind fun r4 => loopO (sargassolaw13_BestGoes.s0 x0 r1 r4) (([] : List (List Int)), 0, r3.m, r3.start))))) else some false))
end Go.Proofs.YtdngkgkkblfcjaaDoor.T
