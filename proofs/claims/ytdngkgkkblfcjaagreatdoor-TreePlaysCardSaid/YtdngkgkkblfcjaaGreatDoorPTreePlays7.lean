/- Proved: the statement TreePlays, as given (its conditions are those of the given row, and card where there is one; no others): the call ends, with true, and the input reads as it did. This file is one of its parts. -/
import Derived.Test.YtdngkgkkblfcjaaGreatDoorPTreePlays6
import Derived.OpenShut
import Derived.ChangeArms
import Derived.DataReads
import Derived.WideShapes
import Derived.Below
import Derived.Carry
import Derived.ChangeOld
import Derived.LaidLaws
import Derived.Stop.ErrReads
import Derived.ChangeVars
import Derived.Test.YtdngkgkkblfcjaaGreatDoorRows
import Derived.Test.YtdngkgkkblfcjaaGreatDoorProg
import Derived.JoinedOf
import Derived.ProofKit
import Derived.WalkKit
import Derived.ShutString
import Derived.SizedLaws
import Derived.LaidHandle
import Derived.Handed
import Derived.SevenTiedAt
import Derived.Test.YtdngkgkkblfcjaaGreatDoorCards
import Derived.Test.YtdngkgkkblfcjaaGreatDoorTie
namespace Go.Proofs.YtdngkgkkblfcjaaGreatDoor.T
open Go Go.Proofs Go.Proofs.YtdngkgkkblfcjaaGreatDoor.K
set_option linter.unusedVariables false
def tnew (h : HN) : treeTree := ⟨[(hid h, ⟨h.h, 0, IntKind.u64.wrap h.h.Work, []⟩)], hid h⟩
theorem tnew_eq {h : HN} (o : h.Ok) : tree_New.f h.h = some (tnew h) := by
  simp only [tree_New.f]
  rw [hidp_eq o, Option.bind_some, if_pos (by simp [mget])]
  rfl
theorem tnew_get {h : HN} {k : List Int} {nd : treeNode} (hk : mget (tnew h).m k = some nd) : k = hid h ∧ nd = ⟨h.h, 0, IntKind.u64.wrap h.h.Work, []⟩ := by
  simp only [tnew, mget] at hk
  split at hk
  · rename_i e
    cases hk
    exact ⟨e.symm, rfl⟩
  · cases hk
theorem tnew_ok (h : HN) : TOk (tnew h) 1 := by
  refine ⟨fun k nd hk => ?_, fun k nd hk _ => (tnew_get hk).1, by simp [tnew], fun k nd hk => ?_, fun k nd hk => by rw [(tnew_get hk).1]; exact hid_len h⟩
  · obtain ⟨_, rfl⟩ := tnew_get hk
    exact ⟨by simp, fun h => absurd h (by simp)⟩
  · obtain ⟨_, rfl⟩ := tnew_get hk
    exact ⟨by simp, by simp⟩
theorem TOk.mono {t : treeTree} {N M : Nat} (h : TOk t N) (hl : N ≤ M) : TOk t M := ⟨h.tin, h.one, by have := h.len; omega, fun k nd hk => by have := h.bnd k nd hk; exact ⟨by omega, by omega⟩, h.k32⟩
theorem first11 : sargassolaw11_first.f = some true := by
  simp only [sargassolaw11_first.f]
  rw [start1_eq, Option.bind_some, tnew_eq H0_ok, Option.bind_some]
  simp [tree_Tree_Start.f, tree_Tree_Height.f, tree_Tree_Len.f, tnew, mget, nget, lkn]
def Gr (hs : List HN) : Prop := ∀ (i : Nat) (h : HN), hs[i]? = some h → 0 < i → ∃ (j : Nat) (g : HN), j < i ∧ hs[j]? = some g ∧ h.p = hid g
theorem Gr.snoc {hs : List HN} {h g : HN} {j : Nat} (hg : Gr hs) (hj : hs[j]? = some g) (hp : h.p = hid g) : Gr (hs ++ [h]) := by
  have hjl : j < hs.length := (List.getElem?_eq_some_iff.1 hj).1
  intro i x hx hi
  rcases Nat.lt_or_ge i hs.length with hlt | hge
  · rw [List.getElem?_append_left hlt] at hx
    obtain ⟨k, y, h1, h2, h3⟩ := hg i x hx hi
    exact ⟨k, y, h1, by rw [List.getElem?_append_left (by omega)]; exact h2, h3⟩
  · rw [List.getElem?_append_right hge] at hx
    have : i - hs.length = 0 := by
      rcases Nat.eq_zero_or_pos (i - hs.length) with h | h
      · exact h
      · rw [List.getElem?_eq_none (by simp; omega)] at hx; cases hx
    rw [this] at hx
    simp at hx
    subst hx
    exact ⟨j, g, by omega, by rw [List.getElem?_append_left hjl]; exact hj, hp⟩
theorem mk_head (a t w : Int) (p : List Int) (hp : p.length = 32) : ∃ h : HN, h.Ok ∧ h.p = p ∧ h.h = ⟨IntKind.u32.wrap a, p, List.replicate 32 0, IntKind.u32.wrap t, IntKind.u32.wrap w, 0⟩ := by
  obtain ⟨a1, a2⟩ := u32_nat a
  obtain ⟨t1, t2⟩ := u32_nat t
  obtain ⟨w1, w2⟩ := u32_nat w
  refine ⟨⟨(IntKind.u32.wrap a).toNat, p, List.replicate 32 0, (IntKind.u32.wrap t).toNat, (IntKind.u32.wrap w).toNat, 0⟩, ⟨a2, hp, by simp, t2, w2, by simp⟩, rfl, ?_⟩
  simp only [HN.h]
  rw [← a1, ← t1, ← w1]
  rfl
theorem map_get {hs : List HN} {j : Nat} {g : HN} (h : hs[j]? = some g) : (hs.map HN.h).getD j default = g.h := by
  simp [List.getD, h]
theorem grown_eq (x0 : List Int) (hx : ∀ x ∈ x0, InR .i64 x) (hl : x0.length ≤ 60) : ∃ hs : List HN, sargassolaw11_grown.f x0 = some (hs.map HN.h) ∧ hs.length = x0.length + 1 ∧ (∀ h ∈ hs, h.Ok) ∧ hs[0]? = some H0 ∧ Gr hs := by
  simp only [sargassolaw11_grown.f]
  rw [start1_eq, Option.bind_some]
  obtain ⟨r, hr, hs, rfl, h1, h2, h3, h4⟩ := loop_exists2 (step := sargassolaw11_grown.s0 x0) (fun i s => s.2 = (i : Int) ∧ ∃ hs : List HN, s.1 = hs.map HN.h ∧ hs.length = i + 1 ∧ (∀ h ∈ hs, h.Ok) ∧ hs[0]? = some H0 ∧ Gr hs)
    (fun r => ∃ hs : List HN, r = hs.map HN.h ∧ hs.length = x0.length + 1 ∧ (∀ h ∈ hs, h.Ok) ∧ hs[0]? = some H0 ∧ Gr hs) x0.length (s := ([H0.h], 0))
    ⟨rfl, [H0], rfl, rfl, fun h hh => by obtain rfl := List.mem_singleton.1 hh; exact H0_ok, rfl, fun i h hi h0 => by
      rw [List.getElem?_eq_none (by simp; omega)] at hi; cases hi⟩
    (fun i hi s ih => by
      obtain ⟨s1, s2⟩ := s
      obtain ⟨e2, hs, e1, h1, h2, h3, h4⟩ := ih
      simp only at e1 e2
      subst e1 e2
      have hm := getD_mem (l := x0) (d := 0) hi
      obtain ⟨y, hy, y0, y1⟩ := number_eq (x := x0.getD i 0) (n := ((hs.map HN.h).length : Int)) (hx _ hm) (by simp; omega) (by simp; omega)
      obtain ⟨z, hz, z0, z1⟩ := number_eq (x := IntKind.i64.wrap (Int.tdiv (x0.getD i 0) 64)) (n := 30) (wrap_in _ _) (by omega) (by omega)
      obtain ⟨u, hu, u0, u1⟩ := number_eq (x := IntKind.i64.wrap (Int.tdiv (x0.getD i 0) 2048)) (n := 4) (wrap_in _ _) (by omega) (by omega)
      have hyl : y.toNat < hs.length := by simp at y1; omega
      obtain ⟨g, hg⟩ : ∃ g, hs[y.toNat]? = some g := ⟨_, List.getElem?_eq_getElem hyl⟩
      have go := h2 g (List.mem_of_getElem? hg)
      obtain ⟨h, ho, hp, hh⟩ := mk_head (i : Int) (g.h.Time + IntKind.u32.wrap z) (IntKind.i64.wrap (1 + u)) (hid g) (hid_len g)
      simp only [sargassolaw11_grown.s0, Int.toNat_natCast]
      rw [if_pos (by omega), if_pos (by omega), hy, Option.bind_some, if_pos ⟨y0, y1⟩, map_get hg, hidr_eq go, Option.bind_some, hz, Option.bind_some, hu, Option.bind_some, if_pos (by simp; omega), winc i (by omega), ← hh]
      exact ⟨_, rfl, rfl, hs ++ [h], by simp, by simp; omega, fun x hx => by
        rcases List.mem_append.1 hx with hx | hx
        · exact h2 x hx
        · obtain rfl := List.mem_singleton.1 hx; exact ho, by rw [List.getElem?_append_left (by omega)]; exact h3, h4.snoc hg hp⟩)
    (fun s ih => by
      obtain ⟨s1, s2⟩ := s
      obtain ⟨e2, hs, e1, h1⟩ := ih
      simp only at e1 e2
      subst e1 e2
      simp only [sargassolaw11_grown.s0]
      rw [if_neg (by omega)]
      exact ⟨_, rfl, hs, rfl, h1⟩)
  rw [hr, Option.bind_some]
  exact ⟨hs, rfl, h1, h2, h3, h4⟩
end Go.Proofs.YtdngkgkkblfcjaaGreatDoor.T
namespace Go.Proofs.YtdngkgkkblfcjaaGreatDoor.T
open Go Go.Proofs Go.Proofs.YtdngkgkkblfcjaaGreatDoor.K
set_option linter.unusedVariables false
abbrev N8 := sargassoref8Node
def gn (l : List N8) (i : Nat) : N8 := l.getD i default
def kidx (l : List N8) (i : Nat) : List Nat := (List.range l.length).filter fun j => decide ((gn l j).parent = (i : Int))
def kids (l : List N8) (i : Nat) : List (List Int) := (kidx l i).map fun j => (gn l j).id
def ndo (l : List N8) (i : Nat) : treeNode := ⟨(gn l i).h, (gn l i).height, (gn l i).work, kids l i⟩
structure TR (t : treeTree) (l : List N8) : Prop where
  pos : 0 < l.length
  small : l.length ≤ 1000
  inj : ∀ i j, i < l.length → j < l.length → (gn l i).id = (gn l j).id → i = j
  st : (gn l 0).id = t.start
  root : (gn l 0).parent = -1 ∧ (gn l 0).height = 0
  par : ∀ i, 0 < i → i < l.length → ∃ p, p < i ∧ (gn l i).parent = (p : Int) ∧ (gn l i).h.Prev = (gn l p).id ∧ (gn l i).height = (gn l p).height + 1
  hok : ∀ i, i < l.length → ∃ h : HN, h.Ok ∧ (gn l i).h = h.h ∧ (gn l i).id = hid h
  known : ∀ i, i < l.length → mget t.m (gn l i).id = some (ndo l i)
  unk : ∀ k, (∀ i, i < l.length → (gn l i).id ≠ k) → mget t.m k = none
  len : t.m.length = l.length
  ok : TOk t l.length
theorem gn_old {l : List N8} {x : N8} {i : Nat} (h : i < l.length) : gn (l ++ [x]) i = gn l i := by simp [gn, List.getD, List.getElem?_append_left h]
theorem gn_new {l : List N8} {x : N8} : gn (l ++ [x]) l.length = x := by simp [gn, List.getD]
theorem TR.id32 {t : treeTree} {l : List N8} (h : TR t l) {i : Nat} (hi : i < l.length) : (gn l i).id.length = 32 := by
  obtain ⟨y, _, _, e⟩ := h.hok i hi
  rw [e]; exact hid_len y
theorem kidx_mem {l : List N8} {i j : Nat} : j ∈ kidx l i ↔ j < l.length ∧ (gn l j).parent = (i : Int) := by simp [kidx]
theorem kidx_snoc (l : List N8) (x : N8) (i : Nat) : kidx (l ++ [x]) i = kidx l i ++ (if x.parent = (i : Int) then [l.length] else []) := by
  unfold kidx
  rw [List.length_append, List.length_singleton, List.range_succ, List.filter_append]
  congr 1
  · apply List.filter_congr
    intro j hj
    rw [gn_old (List.mem_range.1 hj)]
  · rw [List.filter_cons, gn_new]
    by_cases h : x.parent = (i : Int)
    · simp [h]
    · simp [h]
theorem kids_snoc {l : List N8} (x : N8) (i : Nat) : kids (l ++ [x]) i = kids l i ++ (if x.parent = (i : Int) then [x.id] else []) := by
  unfold kids
  rw [kidx_snoc, List.map_append]
  congr 1
  · apply List.map_congr_left
    intro j hj
    rw [gn_old (kidx_mem.1 hj).1]
  · split
    · simp [gn_new]
    · rfl
theorem TR.key {t : treeTree} {l : List N8} (h : TR t l) (k : List Int) : (∃ i, i < l.length ∧ (gn l i).id = k) ∨ (∀ i, i < l.length → (gn l i).id ≠ k) := by
  by_cases c : ∃ i, i < l.length ∧ (gn l i).id = k
  · exact .inl c
  · exact .inr fun i hi e => c ⟨i, hi, e⟩
theorem find_known {t : treeTree} {l : List N8} (h : TR t l) {i : Nat} (hi : i < l.length) : sargassoref8_Tree_Find.f ⟨l⟩ (gn l i).id = some (i : Int) := by
  simp only [sargassoref8_Tree_Find.f]
  have hs := h.small
  refine loop_run (step := sargassoref8_Tree_Find.s0 ⟨l⟩ (gn l i).id) (fun j => (j : Int)) i rfl (fun j hj => ?_) ?_
  · have hj' : j < l.length := by omega
    have hne : (gn l j).id ≠ (gn l i).id := fun e => by have := h.inj j i hj' hi e; omega
    simp only [sargassoref8_Tree_Find.s0, Int.toNat_natCast]
    rw [if_pos (by omega), if_pos (by omega), show (l.getD j default).id = (gn l j).id from rfl, samehash_eq _ _ (h.id32 hj') (h.id32 hi), decide_eq_false hne, Option.bind_some, if_neg (by decide), winc j (by omega)]
  · simp only [sargassoref8_Tree_Find.s0, Int.toNat_natCast]
    rw [if_pos (by omega), if_pos (by omega), show (l.getD i default).id = (gn l i).id from rfl, samehash_eq _ _ (h.id32 hi) (h.id32 hi), decide_eq_true rfl, Option.bind_some, if_pos rfl]
theorem find_unk {t : treeTree} {l : List N8} (h : TR t l) {k : List Int} (hk : k.length = 32) (hn : ∀ i, i < l.length → (gn l i).id ≠ k) : sargassoref8_Tree_Find.f ⟨l⟩ k = some (-1) := by
  simp only [sargassoref8_Tree_Find.f]
  have hs := h.small
  refine loop_run (step := sargassoref8_Tree_Find.s0 ⟨l⟩ k) (fun j => (j : Int)) l.length rfl (fun j hj => ?_) ?_
  · simp only [sargassoref8_Tree_Find.s0, Int.toNat_natCast]
    rw [if_pos (by omega), if_pos (by omega), show (l.getD j default).id = (gn l j).id from rfl, samehash_eq _ _ (h.id32 hj) hk, decide_eq_false (hn j hj), Option.bind_some, if_neg (by decide), winc j (by omega)]
  · simp only [sargassoref8_Tree_Find.s0]
    rw [if_neg (by omega)]
def n8new (h : HN) : List N8 := [⟨hid h, h.h, -1, 0, IntKind.u64.wrap h.h.Work, false⟩]
theorem newtree_eq {h : HN} (o : h.Ok) : sargassoref8_NewTree.f h.h = some ⟨n8new h⟩ := by
  simp only [sargassoref8_NewTree.f]
  rw [hidr_eq o, Option.bind_some]
  rfl
theorem tr_new {h : HN} (o : h.Ok) : TR (tnew h) (n8new h) := by
  have e0 : gn (n8new h) 0 = ⟨hid h, h.h, -1, 0, IntKind.u64.wrap h.h.Work, false⟩ := rfl
  have hl : (n8new h).length = 1 := rfl
  have hz : ∀ i, i < (n8new h).length → i = 0 := fun i hi => by rw [hl] at hi; omega
  refine ⟨by rw [hl]; omega, by rw [hl]; omega, fun i j hi hj _ => by rw [hz i hi, hz j hj], by rw [e0]; rfl, by rw [e0]; exact ⟨rfl, rfl⟩, fun i h0 hi => by have := hz i hi; omega, fun i hi => ?_, fun i hi => ?_, fun k hk => ?_, rfl, tnew_ok h⟩
  · rw [hz i hi, e0]; exact ⟨h, o, rfl, rfl⟩
  · rw [hz i hi]
    have hkid : kids (n8new h) 0 = [] := by
      have : kidx (n8new h) 0 = [] := by
        rw [List.eq_nil_iff_forall_not_mem]
        intro j hj
        obtain ⟨h1, h2⟩ := kidx_mem.1 hj
        rw [hz j h1, e0] at h2
        simp at h2
      simp [kids, this]
    unfold ndo
    rw [hkid, e0]
    simp [tnew, mget]
  · have := hk 0 (by rw [hl]; omega)
    rw [e0] at this
    simp only [tnew, mget]
    rw [if_neg this]
theorem addr_known {t : treeTree} {l : List N8} (h : TR t l) {c : HN} (o : c.Ok) {i : Nat} (hi : i < l.length) (e : (gn l i).id = hid c) : sargassoref8_Tree_Add.f ⟨l⟩ c.h = some (109, ⟨l⟩) ∧ tree_Tree_Add.f t c.h = some (xErrKnown, t) := by
  constructor
  · simp only [sargassoref8_Tree_Add.f]
    rw [hidr_eq o, Option.bind_some, ← e, find_known h hi, Option.bind_some, if_pos (by omega)]
  · refine add_known o ?_
    rw [← e, h.known i hi]; rfl
theorem addr_parent {t : treeTree} {l : List N8} (h : TR t l) {c : HN} (o : c.Ok) (hn : ∀ i, i < l.length → (gn l i).id ≠ hid c) (hp : ∀ i, i < l.length → (gn l i).id ≠ c.p) : sargassoref8_Tree_Add.f ⟨l⟩ c.h = some (110, ⟨l⟩) ∧ tree_Tree_Add.f t c.h = some (xErrParent, t) := by
  constructor
  · simp only [sargassoref8_Tree_Add.f]
    rw [hidr_eq o, Option.bind_some, find_unk h (hid_len c) hn, Option.bind_some, if_neg (by omega), show c.h.Prev = c.p from rfl, find_unk h o.p hp, Option.bind_some, if_pos (by omega)]
  · exact add_parent o (h.unk _ hn) (h.unk _ hp)
theorem addr_new {t : treeTree} {l : List N8} (h : TR t l) (hs : l.length < 1000) {c : HN} (o : c.Ok) (hn : ∀ i, i < l.length → (gn l i).id ≠ hid c) {p : Nat} (hpl : p < l.length) (hp : (gn l p).id = c.p) :
    ∃ t' l', sargassoref8_Tree_Add.f ⟨l⟩ c.h = some (0, ⟨l'⟩) ∧ tree_Tree_Add.f t c.h = some (Er.b 0, t') ∧ TR t' l' ∧ l'.length = l.length + 1 ∧ (∀ i, i < l.length → gn l' i = gn l i) ∧ (gn l' l.length).id = hid c := by
  have hx : mget t.m (hid c) = none := h.unk _ hn
  have hpp : mget t.m c.h.Prev = some (ndo l p) := by show mget t.m c.p = _; rw [← hp]; exact h.known p hpl
  have hb := h.ok.bnd _ _ hpp
  have h0 := (h.ok.tin _ _ hpp).1
  have hb1 : (gn l p).height < l.length := hb.1
  have h01 : 0 ≤ (gn l p).height := h0
  let x : N8 := ⟨hid c, c.h, (p : Int), (gn l p).height + 1, IntKind.u64.wrap ((gn l p).work + IntKind.u64.wrap c.h.Work), (gn l p).bad⟩
  refine ⟨tgrow t c.h (hid c) (ndo l p), l ++ [x], ?_, add_new (by omega) h.ok o hx hpp, ?_, by simp, fun i hi => gn_old hi, by rw [gn_new]⟩
  · simp only [sargassoref8_Tree_Add.f]
    have e1 : sargassoref8_Tree_Find.f ⟨l⟩ c.h.Prev = some (p : Int) := by rw [show c.h.Prev = c.p from rfl, ← hp]; exact find_known h hpl
    rw [hidr_eq o, Option.bind_some, find_unk h (hid_len c) hn, Option.bind_some, if_neg (by omega), e1, Option.bind_some, if_neg (by omega), if_neg (by omega), if_pos (by omega), if_pos (by omega), Int.toNat_natCast, show l.getD p default = gn l p from rfl, w64 (by omega) (by omega)]
  · have hg := tgrow_get hx hpp
    have hlen : (l ++ [x]).length = l.length + 1 := by simp
    have hcase : ∀ i, i < (l ++ [x]).length → (i < l.length ∧ gn (l ++ [x]) i = gn l i) ∨ (i = l.length ∧ gn (l ++ [x]) i = x) := fun i hi => by
      rw [hlen] at hi
      rcases Nat.lt_or_ge i l.length with h1 | h1
      · exact .inl ⟨h1, gn_old h1⟩
      · have : i = l.length := by omega
        exact .inr ⟨this, by rw [this, gn_new]⟩
    have hxid : x.id = hid c := rfl
    refine ⟨by rw [hlen]; omega, by rw [hlen]; omega, fun i j hi hj e => ?_, by rw [gn_old h.pos]; exact h.st, by rw [gn_old h.pos]; exact h.root, fun i hi0 hi => ?_, fun i hi => ?_, fun i hi => ?_, fun k hk => ?_, ?_, ?_⟩
    · rcases hcase i hi with ⟨a1, a2⟩ | ⟨a1, a2⟩ <;> rcases hcase j hj with ⟨b1, b2⟩ | ⟨b1, b2⟩
      · rw [a2, b2] at e; exact h.inj i j a1 b1 e
      · rw [a2, b2, hxid] at e; exact absurd e (hn i a1)
      · rw [a2, b2, hxid] at e; exact absurd e.symm (hn j b1)
      · omega
    · rcases hcase i hi with ⟨a1, a2⟩ | ⟨a1, a2⟩
      · obtain ⟨q, q1, q2, q3, q4⟩ := h.par i hi0 a1
        rw [a2]
        exact ⟨q, q1, q2, by rw [gn_old (show q < l.length by omega)]; exact q3, by rw [gn_old (show q < l.length by omega)]; exact q4⟩
      · rw [a2]
        exact ⟨p, by omega, rfl, by rw [gn_old hpl]; exact hp.symm, by rw [gn_old hpl]⟩
    · rcases hcase i hi with ⟨a1, a2⟩ | ⟨a1, a2⟩
      · rw [a2]; exact h.hok i a1
      · rw [a2]; exact ⟨c, o, rfl, rfl⟩
    · rcases hcase i hi with ⟨a1, a2⟩ | ⟨a1, a2⟩
      · rw [a2, hg]
        unfold ndo
        rw [a2, kids_snoc]
        by_cases c1 : i = p
        · subst c1
          rw [if_pos (show (gn l i).id = c.h.Prev from hp), if_pos rfl]
          first | done | rfl
        · have c2 : (gn l i).id ≠ c.h.Prev := fun e => c1 (h.inj i p a1 hpl (e.trans hp.symm))
          rw [if_neg c2, if_neg (hn i a1), h.known i a1, if_neg (show ¬ x.parent = (i : Int) from fun e => c1 (by have : (p : Int) = (i : Int) := e; omega))]
          simp [ndo]
      · have e2 : kids l l.length = [] := by
          have : kidx l l.length = [] := by
            rw [List.eq_nil_iff_forall_not_mem]
            intro j hj
            obtain ⟨h1, h2⟩ := kidx_mem.1 hj
            rcases Nat.eq_zero_or_pos j with e | e
            · rw [e, h.root.1] at h2; omega
            · obtain ⟨q, q1, q2, _⟩ := h.par j e h1; rw [q2] at h2; omega
          simp [kids, this]
        rw [a2, hxid, hg, if_neg (fun e : hid c = c.h.Prev => hn p hpl (hp.trans e.symm)), if_pos rfl]
        unfold ndo
        rw [a2, kids_snoc, a1, e2, if_neg (show ¬ x.parent = ((l.length : Nat) : Int) from fun e => by have : (p : Int) = (l.length : Int) := e; omega)]
        rfl
    · rw [hg, if_neg (fun e => hk p (by omega) (by rw [gn_old hpl, e]; exact hp)), if_neg (fun e => hk l.length (by omega) (by rw [gn_new, e])), h.unk k (fun i hi => by rw [← gn_old (x := x) hi]; exact hk i (by omega))]
    · unfold tgrow
      rw [mput_len_old (n := ndo l p) (by rw [mget_mput_ne (show c.h.Prev ≠ hid c from fun e => hn p hpl (hp.trans e))]; exact hpp), mput_len_new hx, hlen, h.len]
    · rw [hlen]; exact tgrow_ok (by omega) h.ok (hid_len c) hx hpp
end Go.Proofs.YtdngkgkkblfcjaaGreatDoor.T
namespace Go.Proofs.YtdngkgkkblfcjaaGreatDoor.T
open Go Go.Proofs Go.Proofs.YtdngkgkkblfcjaaGreatDoor.K
set_option linter.unusedVariables false
set_option linter.unusedSimpArgs false
theorem hashes_eq (xs : List (List Int)) (h : xs.length ≤ 100000) : sargassoref_Hashes.f xs = some xs := by
  simp only [sargassoref_Hashes.f]
  rw [if_pos (by omega)]
  have e : loopO (sargassoref_Hashes.s0 xs) ([], 0) = some xs := by
    refine copy_run xs [] (by omega) (fun i hi => ?_) ?_
    · simp only [sargassoref_Hashes.s0, Int.toNat_natCast, List.length_take]
      rw [if_pos (by omega), if_pos (by omega), if_pos (by omega)]
    · simp only [sargassoref_Hashes.s0]
      rw [if_neg (by omega)]
  have z : List.replicate (Int.toNat 0) (List.replicate 32 (0 : Int)) = [] := rfl
  rw [z, e, Option.bind_some]
theorem samehashes_eq (xs ys : List (List Int)) (hx : Hs xs) (hy : Hs ys) (h : xs.length ≤ 100000) : sargassoref_SameHashes.f xs ys = some (decide (xs = ys)) := by
  simp only [sargassoref_SameHashes.f]
  by_cases c : xs.length = ys.length
  · have hs : ∀ i, i < xs.length → sargassoref_SameHashes.s0 xs ys (i : Int) = if xs.getD i [] = ys.getD i [] then some (.inl (IntKind.i64.wrap ((i : Int) + 1))) else some (.inr false) := fun i hi => by
      simp only [sargassoref_SameHashes.s0, Int.toNat_natCast]
      rw [if_pos (by omega), if_pos (by omega), if_pos (by omega), samehash_eq _ _ (hx.at hi) (hy.at (by omega)), Option.bind_some]
      by_cases d : xs.getD i [] = ys.getD i []
      · rw [if_pos (by simpa using d), if_pos d]
      · rw [if_neg (by simpa using d), if_neg d]
    rw [if_neg (by omega), all_run xs.length (fun i => xs.getD i [] = ys.getD i []) (by omega) hs (by simp only [sargassoref_SameHashes.s0]; rw [if_neg (by omega)])]
    congr 1
    exact decide_eq_decide.2 (ext_iff xs ys [] c)
  · rw [if_pos (by omega), decide_eq_false (fun e => c (by rw [e]))]
end Go.Proofs.YtdngkgkkblfcjaaGreatDoor.T
namespace Go.Proofs.YtdngkgkkblfcjaaGreatDoor.T
open Go Go.Proofs Go.Proofs.YtdngkgkkblfcjaaGreatDoor.K
set_option linter.unusedVariables false
variable {t : treeTree} {l : List N8}
def zh : Head := ⟨0, List.replicate 32 0, List.replicate 32 0, 0, 0, 0⟩
theorem zh_same : sargassoref_SameHead.f zh zh = some true := by
  have := same_eq (a := ⟨0, List.replicate 32 0, List.replicate 32 0, 0, 0, 0⟩) (b := ⟨0, List.replicate 32 0, List.replicate 32 0, 0, 0, 0⟩) ⟨by decide, by simp, by simp, by decide, by decide, by decide⟩ ⟨by decide, by simp, by simp, by decide, by decide, by decide⟩
  rw [decide_eq_true rfl] at this
  exact this
theorem ask_known (h : TR t l) {i : Nat} (hi : i < l.length) : tree_Tree_Head.f t (gn l i).id = some ((gn l i).h, true) ∧ tree_Tree_Height.f t (gn l i).id = some ((gn l i).height, true) ∧ tree_Tree_Work.f t (gn l i).id = some ((gn l i).work, true) ∧
    sargassoref8_Tree_Of.f ⟨l⟩ (gn l i).id = some ((gn l i).h, (gn l i).height, (gn l i).work, true) ∧ sargassoref_SameHead.f (gn l i).h (gn l i).h = some true := by
  have hk := h.known i hi
  obtain ⟨y, yo, e1, e2⟩ := h.hok i hi
  refine ⟨thead_eq hk, ?_, ?_, ?_, ?_⟩
  · simp only [tree_Tree_Height.f]
    rw [if_pos (by rw [hk]; rfl), lkn_some hk]
    simp [nget, hk, ndo]
  · simp only [tree_Tree_Work.f]
    rw [if_pos (by rw [hk]; rfl), lkn_some hk]
    simp [nget, hk, ndo]
  · simp only [sargassoref8_Tree_Of.f]
    rw [find_known h hi, Option.bind_some, if_neg (by omega), if_pos (by omega), Int.toNat_natCast]
    rfl
  · rw [e1, same_eq yo yo, decide_eq_true rfl]
theorem ask_unk (h : TR t l) {k : List Int} (hk : k.length = 32) (hn : ∀ i, i < l.length → (gn l i).id ≠ k) : tree_Tree_Head.f t k = some (zh, false) ∧ tree_Tree_Height.f t k = some (0, false) ∧ tree_Tree_Work.f t k = some (0, false) ∧ sargassoref8_Tree_Of.f ⟨l⟩ k = some (zh, 0, 0, false) := by
  have hu := h.unk k hn
  refine ⟨?_, ?_, ?_, ?_⟩
  · simp only [tree_Tree_Head.f]
    rw [if_neg (by rw [hu]; simp)]; rfl
  · simp only [tree_Tree_Height.f]
    rw [if_neg (by rw [hu]; simp)]
  · simp only [tree_Tree_Work.f]
    rw [if_neg (by rw [hu]; simp)]
  · simp only [sargassoref8_Tree_Of.f]
    rw [find_unk h hk hn, Option.bind_some, if_pos (by omega)]; rfl
theorem TR.hpos (h : TR t l) {i : Nat} (hi : i < l.length) : 0 ≤ (gn l i).height := (h.ok.tin _ _ (h.known i hi)).1
theorem TR.lkn (h : TR t l) {i : Nat} (hi : i < l.length) : lkn t.m (gn l i).id = some (gn l i).id := lkn_some (h.known i hi)
theorem anc_in (h : TR t l) (x : Int) (hx : 0 ≤ x) : ∀ (n i : Nat), i ≤ n → i < l.length → x ≤ (gn l i).height → ∃ j, j < l.length ∧ loopO (tree_Tree_Ancestor.s0 t x) (some (gn l i).id, (gn l i).id) = some (some (gn l j).id, (gn l j).id) ∧ loopO (sargassoref8_Tree_Ancestor.s0 ⟨l⟩ x) (i : Int) = some (j : Int) := by
  intro n
  induction n with
  | zero =>
    intro i hin hi hh
    have : i = 0 := by omega
    subst this
    have h0 := h.root.2
    refine ⟨0, hi, loopO_inr ?_, loopO_inr ?_⟩
    · simp only [tree_Tree_Ancestor.s0, nget, Option.bind_some, h.known 0 hi]
      rw [if_neg (show ¬ x < (ndo l 0).height by show ¬ x < (gn l 0).height; omega)]
    · simp only [sargassoref8_Tree_Ancestor.s0]
      rw [if_pos (by omega), if_pos (by omega), Int.toNat_natCast, show l.getD 0 default = gn l 0 from rfl, decide_eq_false (by omega), Option.bind_some, if_neg (by decide)]
  | succ n ih =>
    intro i hin hi hh
    by_cases e : (gn l i).height = x
    · refine ⟨i, hi, loopO_inr ?_, loopO_inr ?_⟩
      · simp only [tree_Tree_Ancestor.s0, nget, Option.bind_some, h.known i hi]
        rw [if_neg (show ¬ x < (ndo l i).height by show ¬ x < (gn l i).height; omega)]
      · simp only [sargassoref8_Tree_Ancestor.s0]
        rw [if_pos (by omega), if_pos (by omega), Int.toNat_natCast, show l.getD i default = gn l i from rfl, decide_eq_false (by omega), Option.bind_some, if_neg (by decide)]
    · have hi0 : 0 < i := by
        rcases Nat.eq_zero_or_pos i with z | z
        · subst z; have := h.root.2; omega
        · exact z
      obtain ⟨p, p1, p2, p3, p4⟩ := h.par i hi0 hi
      obtain ⟨j, j1, j2, j3⟩ := ih p (by omega) (by omega) (by omega)
      refine ⟨j, j1, ?_, ?_⟩
      · rw [loopO_inl (s' := (some (gn l p).id, (gn l p).id)) (by
          simp only [tree_Tree_Ancestor.s0, nget, Option.bind_some, h.known i hi]
          rw [if_pos (show x < (ndo l i).height by show x < (gn l i).height; omega), show (ndo l i).head.Prev = (gn l i).h.Prev from rfl, p3, h.lkn (by omega)])]
        exact j2
      · rw [loopO_inl (s' := (p : Int)) (by
          simp only [sargassoref8_Tree_Ancestor.s0]
          rw [if_pos (by omega), if_pos (by omega), Int.toNat_natCast, show l.getD i default = gn l i from rfl, decide_eq_true (by omega), Option.bind_some, if_pos rfl, if_pos (by omega), p2])]
        exact j3
theorem anc_out (h : TR t l) (x : Int) : ∀ (n i : Nat), i ≤ n → i < l.length → (x < 0 ∨ (gn l i).height < x) → loopO (sargassoref8_Tree_Ancestor.s0 ⟨l⟩ x) (i : Int) = some (-1) := by
  have hend : loopO (sargassoref8_Tree_Ancestor.s0 ⟨l⟩ x) (-1) = some (-1) := loopO_inr (by
    simp only [sargassoref8_Tree_Ancestor.s0]
    rw [if_neg (by omega), Option.bind_some, if_neg (by decide)])
  intro n
  induction n with
  | zero =>
    intro i hin hi hh
    have : i = 0 := by omega
    subst this
    have h0 := h.root
    have hp := h.hpos hi
    rw [loopO_inl (s' := -1) (by
      simp only [sargassoref8_Tree_Ancestor.s0]
      rw [if_pos (by omega), if_pos (by omega), Int.toNat_natCast, show l.getD 0 default = gn l 0 from rfl, decide_eq_true (by omega), Option.bind_some, if_pos rfl, if_pos (by omega), h0.1])]
    exact hend
  | succ n ih =>
    intro i hin hi hh
    rcases Nat.eq_zero_or_pos i with z | z
    · exact ih i (by omega) hi hh
    · obtain ⟨p, p1, p2, p3, p4⟩ := h.par i z hi
      have hp := h.hpos hi
      rw [loopO_inl (s' := (p : Int)) (by
        simp only [sargassoref8_Tree_Ancestor.s0]
        rw [if_pos (by omega), if_pos (by omega), Int.toNat_natCast, show l.getD i default = gn l i from rfl, decide_eq_true (by omega), Option.bind_some, if_pos rfl, if_pos (by omega), p2])]
      exact ih p (by omega) (by omega) (by omega)
def z32 : List Int := [0, 0, 0, 0, 0, 0, 0, 0, 0, 0, 0, 0, 0, 0, 0, 0, 0, 0, 0, 0, 0, 0, 0, 0, 0, 0, 0, 0, 0, 0, 0, 0]
theorem anc_both (h : TR t l) {k : List Int} (hk : k.length = 32) (x : Int) : ∃ r : List Int × Bool, tree_Tree_Ancestor.f t k x = some r ∧ sargassoref8_Tree_Ancestor.f ⟨l⟩ k x = some r ∧ r.1.length = 32 := by
  rcases h.key k with ⟨i, hi, rfl⟩ | hn
  · have hk := h.known i hi
    have hs := h.hpos hi
    by_cases c : 0 ≤ x ∧ x ≤ (gn l i).height
    · obtain ⟨j, j1, j2, j3⟩ := anc_in h x c.1 i i (Nat.le_refl _) hi c.2
      refine ⟨((gn l j).id, true), ?_, ?_, h.id32 j1⟩
      · simp only [tree_Tree_Ancestor.f]
        rw [if_pos (by rw [hk]; rfl), if_neg (by omega), h.lkn hi]
        simp only [nget, Option.bind_some, hk]
        rw [decide_eq_false (show ¬ (ndo l i).height < x from by show ¬ (gn l i).height < x; omega), if_neg (by decide), j2, Option.bind_some]
      · simp only [sargassoref8_Tree_Ancestor.f]
        rw [find_known h hi, Option.bind_some, j3, Option.bind_some, if_neg (by omega), if_pos (by omega), Int.toNat_natCast]
        rfl
    · refine ⟨(z32, false), ?_, ?_, rfl⟩
      · simp only [tree_Tree_Ancestor.f]
        rw [if_pos (by rw [hk]; rfl), h.lkn hi]
        by_cases c1 : x < 0
        · rw [if_pos c1, Option.bind_some, if_pos rfl]; rfl
        · rw [if_neg c1]
          simp only [nget, Option.bind_some, hk]
          rw [decide_eq_true (show (ndo l i).height < x from by show (gn l i).height < x; omega), if_pos rfl]; rfl
      · simp only [sargassoref8_Tree_Ancestor.f]
        rw [find_known h hi, Option.bind_some, anc_out h x i i (Nat.le_refl _) hi (by omega), Option.bind_some, if_pos (by omega)]; rfl
  · refine ⟨(z32, false), ?_, ?_, rfl⟩
    · simp only [tree_Tree_Ancestor.f]
      rw [if_neg (by rw [h.unk k hn]; simp), Option.bind_some, if_pos rfl]; rfl
    · simp only [sargassoref8_Tree_Ancestor.f]
      rw [find_unk h hk hn, Option.bind_some, loopO_inr (r := -1) (by
        simp only [sargassoref8_Tree_Ancestor.s0]
        rw [if_neg (by omega), Option.bind_some, if_neg (by decide)]), Option.bind_some, if_pos (by omega)]; rfl
end Go.Proofs.YtdngkgkkblfcjaaGreatDoor.T
namespace Go.Proofs.YtdngkgkkblfcjaaGreatDoor.T
open Go Go.Proofs Go.Proofs.YtdngkgkkblfcjaaGreatDoor.K
set_option linter.unusedVariables false
def Asc (l : List (List Int)) : Prop := l.Pairwise fun a b => cmpI a b < 0
theorem hle_of {a b : List Int} (h : cmpI a b < 0) : hle a b = true := by
  have := ci_neg a b
  simp only [hle, Bool.not_eq_true', decide_eq_false_iff_not]
  omega
theorem hle_anti {a b : List Int} (h1 : hle a b = true) (h2 : hle b a = true) : a = b := by
  simp only [hle, Bool.not_eq_true', decide_eq_false_iff_not] at h1 h2
  have := ci_neg a b
  exact ci_zero _ _ (by omega)
theorem hle_trans (a b c : List Int) (h1 : hle a b = true) (h2 : hle b c = true) : hle a c = true := by
  simp only [hle, Bool.not_eq_true', decide_eq_false_iff_not] at *
  intro h3
  have a1 := ci_neg a b
  have a2 := ci_neg b c
  rcases Int.lt_trichotomy (cmpI a b) 0 with c1 | c1 | c1
  · have := ci_trans _ _ _ h3 c1; omega
  · rw [ci_zero _ _ c1] at h3; omega
  · omega
theorem hle_total (a b : List Int) : (hle a b || hle b a) = true := by
  simp only [hle, Bool.or_eq_true, Bool.not_eq_true', decide_eq_false_iff_not]
  have := ci_neg a b
  omega
theorem hsort_asc (l : List (List Int)) : (hsort l).Pairwise fun a b => hle a b = true := List.pairwise_mergeSort hle_trans hle_total l
theorem hsort_eq {l o : List (List Int)} (hp : o.Perm l) (ho : Asc o) : o = hsort l :=
  List.Perm.eq_of_pairwise (fun a b _ _ h1 h2 => hle_anti h1 h2) (ho.imp hle_of) (hsort_asc l) (hp.trans (List.mergeSort_perm l hle).symm)
theorem split_at (x : List Int) : ∀ l : List (List Int), ∃ T D, l = T ++ D ∧ (∀ a ∈ T, cmpI a x < 0) ∧ (∀ d D', D = d :: D' → ¬ cmpI d x < 0)
  | [] => ⟨[], [], rfl, by simp, by simp⟩
  | a :: l => by
    by_cases h : cmpI a x < 0
    · obtain ⟨T, D, h1, h2, h3⟩ := split_at x l
      exact ⟨a :: T, D, by rw [h1]; rfl, fun b hb => by
        rcases List.mem_cons.1 hb with rfl | hb
        · exact h
        · exact h2 b hb, h3⟩
    · exact ⟨[], a :: l, rfl, by simp, fun d D' e => by cases e; exact h⟩
theorem getD_app {α : Type} (T D : List α) (d : α) (i : Nat) (h : i < T.length) : (T ++ D).getD i d = T.getD i d := by simp [List.getD, List.getElem?_append_left h]
theorem puthash_eq {l : List (List Int)} {x : List Int} (ha : Asc l) (h32 : Hs l) (hx : x.length = 32) (hl : l.length ≤ 2000) (hn : x ∉ l) : ∃ r, sargassoref_PutHash.f l x = some r ∧ Asc r ∧ r.Perm (x :: l) := by
  obtain ⟨T, D, rfl, h1, h2⟩ := split_at x l
  have hTl : T.length + D.length ≤ 2000 := by simpa using hl
  have hloop : loopO (sargassoref_PutHash.s0 (T ++ D) x) 0 = some (T.length : Int) := by
    refine loop_run (step := sargassoref_PutHash.s0 (T ++ D) x) (fun i => (i : Int)) T.length rfl (fun i hi => ?_) ?_
    · have hm : (T ++ D).getD i [] ∈ T := by rw [getD_app T D [] i hi]; exact getD_mem hi
      simp only [sargassoref_PutHash.s0, Int.toNat_natCast, List.length_append]
      rw [if_pos (by omega), if_pos (by omega), lesshash_eq _ _ (h32 _ (List.mem_append_left _ hm)) hx, decide_eq_true (h1 _ hm), Option.bind_some, Option.bind_some, if_pos rfl, winc i (by omega)]
    · simp only [sargassoref_PutHash.s0, Int.toNat_natCast, List.length_append]
      cases D with
      | nil => rw [if_neg (by simp), Option.bind_some, if_neg (by decide)]
      | cons d D' =>
        have e : (T ++ d :: D').getD T.length [] = d := by simp [List.getD]
        rw [if_pos (by simp only [List.length_cons]; omega), if_pos (by simp only [List.length_cons]; omega), e, lesshash_eq _ _ (h32 _ (by simp)) hx, decide_eq_false (h2 d D' rfl), Option.bind_some, Option.bind_some, if_neg (by decide)]
  have hpw := List.pairwise_append.1 ha
  refine ⟨T ++ [x] ++ D, ?_, ?_, ?_⟩
  · simp only [sargassoref_PutHash.f]
    have e1 : ((T ++ D).take (T.length : Int).toNat).drop (0 : Int).toNat = T := by simp
    have e2 : ((T ++ D).take (((T ++ D).length : Int)).toNat).drop (T.length : Int).toNat = D := by rw [Int.toNat_natCast, Int.toNat_natCast, List.take_length, List.drop_left]
    have e3 : (if (T.length : Int) < ((T ++ D).length : Int) then (if 0 ≤ (T.length : Int) ∧ (T.length : Int) < ((T ++ D).length : Int) then ((sargassoref_SameHash.f ((T ++ D).getD (T.length : Int).toNat []) x).bind fun r2 => some r2) else none) else some false) = some false := by
      cases D with
      | nil => rw [if_neg (by simp)]
      | cons d D' =>
        have e : (T ++ d :: D').getD T.length [] = d := by simp [List.getD]
        rw [if_pos (by simp only [List.length_append, List.length_cons]; omega), if_pos (by simp only [List.length_append, List.length_cons]; omega), Int.toNat_natCast, e, samehash_eq _ _ (h32 _ (by simp)) hx, decide_eq_false (fun e => hn (by simp [e])), Option.bind_some]
    rw [hloop, Option.bind_some, e3, Option.bind_some, if_neg (by decide), if_pos (by simp only [List.length_append]; omega), e1, hashes_eq T (by omega), Option.bind_some, if_pos (by omega), Option.bind_some, if_pos (by simp only [List.length_append]; omega), e2, if_pos (by simp only [List.length_append, List.length_singleton]; omega)]
  · rw [Asc, List.append_assoc, List.pairwise_append]
    refine ⟨hpw.1, ?_, fun a ha' b hb => ?_⟩
    · rw [List.singleton_append, List.pairwise_cons]
      refine ⟨fun b hb => ?_, hpw.2.1⟩
      cases D with
      | nil => cases hb
      | cons d D' =>
        have hd : cmpI x d < 0 := by
          have a1 := h2 d D' rfl
          have a2 := ci_neg d x
          rcases Int.lt_trichotomy (cmpI x d) 0 with c | c | c
          · exact c
          · exact absurd (by rw [ci_zero _ _ c]; simp) hn
          · omega
        rcases List.mem_cons.1 hb with rfl | hb
        · exact hd
        · exact ci_trans _ _ _ hd ((List.pairwise_cons.1 hpw.2.1).1 b hb)
    · rcases List.mem_append.1 hb with hb | hb
      · rw [List.mem_singleton.1 hb]; exact h1 a ha'
      · exact hpw.2.2 a ha' b hb
  · rw [List.append_assoc]
    exact (List.perm_middle (l₁ := T) (a := x) (l₂ := D))
variable {t : treeTree} {l : List N8}
def ids (l : List N8) (js : List Nat) : List (List Int) := js.map fun j => (gn l j).id
structure BI (l : List N8) (r : Nat) (js : List Nat) (i : Nat) : Prop where
  ile : i ≤ js.length
  nd : js.Nodup
  lt : ∀ j ∈ js, j < l.length ∧ r ≤ j
  root : r ∈ js
  clos : ∀ m, m < i → ∀ j ∈ kidx l (js.getD m 0), j ∈ js
  par : ∀ j ∈ js, j = r ∨ ∃ m, m < i ∧ (gn l j).parent = (js.getD m 0 : Nat)
theorem TR.parlt (h : TR t l) {j p : Nat} (hj : j < l.length) (hp : (gn l j).parent = (p : Int)) : p < j := by
  rcases Nat.eq_zero_or_pos j with z | z
  · subst z; rw [h.root.1] at hp; omega
  · obtain ⟨q, q1, q2, _⟩ := h.par j z hj
    rw [q2] at hp; omega
theorem kidx_nodup (l : List N8) (i : Nat) : (kidx l i).Nodup := List.Nodup.sublist List.filter_sublist List.nodup_range
theorem BI.len {r i : Nat} {js : List Nat} (h : BI l r js i) : js.length ≤ l.length := by
  have := h.nd.length_le_of_subset (l₂ := List.range l.length) fun j hj => List.mem_range.2 (h.lt j hj).1
  simpa using this
theorem BI.step (ht : TR t l) {r i : Nat} {js : List Nat} (h : BI l r js i) (hi : i < js.length) : BI l r (js ++ kidx l (js.getD i 0)) (i + 1) := by
  have hm : js.getD i 0 ∈ js := getD_mem hi
  have hpar : ∀ j ∈ kidx l (js.getD i 0), js.getD i 0 < j := fun j hj => ht.parlt (kidx_mem.1 hj).1 (kidx_mem.1 hj).2
  refine ⟨by simp; omega, ?_, fun j hj => ?_, List.mem_append_left _ h.root, fun m hmi j hj => ?_, fun j hj => ?_⟩
  · rw [List.nodup_append]
    refine ⟨h.nd, kidx_nodup _ _, fun a ha b hb e => ?_⟩
    subst e
    have hb2 := (kidx_mem.1 hb).2
    rcases h.par a ha with rfl | ⟨m, hmi, hp⟩
    · have := hpar a hb
      have := (h.lt _ hm).2
      omega
    · rw [hp] at hb2
      have hml : m < js.length := by omega
      have e1 : js.getD m 0 = js.getD i 0 := by omega
      rw [show js.getD m 0 = js[m] by simp [List.getD, hml], show js.getD i 0 = js[i] by simp [List.getD, hi]] at e1
      have := (List.getElem_inj h.nd).1 e1
      omega
  · rcases List.mem_append.1 hj with hj | hj
    · exact h.lt j hj
    · have := hpar j hj
      have := (h.lt _ hm).2
      exact ⟨(kidx_mem.1 hj).1, by omega⟩
  · rw [getD_app js _ 0 m (by omega)] at hj
    rcases Nat.lt_or_ge m i with c | c
    · exact List.mem_append_left _ (h.clos m c j hj)
    · have : m = i := by omega
      subst this
      exact List.mem_append_right _ hj
  · rcases List.mem_append.1 hj with hj | hj
    · rcases h.par j hj with e | ⟨m, h1, h2⟩
      · exact .inl e
      · exact .inr ⟨m, by omega, by rw [getD_app js _ 0 m (by omega)]; exact h2⟩
    · exact .inr ⟨i, by omega, by rw [getD_app js _ 0 i hi]; exact (kidx_mem.1 hj).2⟩
theorem bfs (ht : TR t l) {r : Nat} : ∀ (n i : Nat) (js : List Nat), BI l r js i → l.length - i ≤ n → ∃ js', BI l r js' js'.length ∧ loopO (tree_Tree_Under.s0 t) (ids l js, (i : Int)) = some (ids l js') := by
  intro n
  induction n with
  | zero =>
    intro i js h hn
    have h1 := h.ile
    have h2 := h.len
    have e : i = js.length := by omega
    refine ⟨js, e ▸ h, loopO_inr ?_⟩
    simp only [tree_Tree_Under.s0]
    rw [if_neg (by simp [ids]; omega)]
  | succ n ih =>
    intro i js h hn
    by_cases c : i < js.length
    · have hlen := h.len
      have hs := ht.small
      have hm : js.getD i 0 ∈ js := getD_mem c
      have hk := ht.known _ (h.lt _ hm).1
      have e1 : (ids l js).getD i [] = (gn l (js.getD i 0)).id := by simp [ids, List.getD, c]
      have e2 : (kidx l (js.getD i 0)).length ≤ l.length := by
        have := (kidx_nodup l (js.getD i 0)).length_le_of_subset (l₂ := List.range l.length) fun j hj => List.mem_range.2 (kidx_mem.1 hj).1
        simpa using this
      obtain ⟨js', h1, h2⟩ := ih (i + 1) _ (h.step ht c) (by omega)
      refine ⟨js', h1, ?_⟩
      rw [loopO_inl (s' := (ids l (js ++ kidx l (js.getD i 0)), ((i + 1 : Nat) : Int))) (by
        simp only [tree_Tree_Under.s0, Int.toNat_natCast]
        rw [if_pos (by simp [ids]; omega), if_pos (by simp [ids]; omega), e1, lkn_some hk]
        simp only [nget, Option.bind_some, hk]
        rw [if_pos (by simp only [ids, ndo, kids, List.length_map]; omega), winc i (by omega)]
        simp [ids, ndo, kids])]
      exact h2
    · have h1 := h.ile
      have e : i = js.length := by omega
      refine ⟨js, e ▸ h, loopO_inr ?_⟩
      simp only [tree_Tree_Under.s0]
      rw [if_neg (by simp [ids]; omega)]
theorem below_eq (ht : TR t l) {r : Nat} {js : List Nat} (h : BI l r js js.length) : ∀ (n i : Nat), i ≤ n → i < l.length → sargassoref8_Tree_below.f ⟨l⟩ (i : Int) (r : Int) = some (decide (i ∈ js)) := by
  have hout : loopO (sargassoref8_Tree_below.s0 ⟨l⟩ (r : Int)) (-1) = some false := loopO_inr (by
    simp only [sargassoref8_Tree_below.s0]
    rw [if_neg (by omega)])
  have hself : loopO (sargassoref8_Tree_below.s0 ⟨l⟩ (r : Int)) (r : Int) = some true := loopO_inr (by
    simp only [sargassoref8_Tree_below.s0]
    rw [if_pos (by omega), if_pos trivial])
  intro n
  induction n with
  | zero =>
    intro i hin hi
    have : i = 0 := by omega
    subst this
    simp only [sargassoref8_Tree_below.f]
    by_cases c : r = 0
    · subst c
      rw [hself, decide_eq_true h.root]
    · rw [decide_eq_false (fun hm => c (by have := (h.lt 0 hm).2; omega)), loopO_inl (s' := -1) (by
        simp only [sargassoref8_Tree_below.s0, Int.toNat_natCast]
        rw [if_pos (by omega), if_neg (by omega), if_pos (by omega), show l.getD 0 default = gn l 0 from rfl, ht.root.1])]
      exact hout
  | succ n ih =>
    intro i hin hi
    rcases Nat.eq_zero_or_pos i with z | z
    · exact ih i (by omega) hi
    · simp only [sargassoref8_Tree_below.f]
      by_cases c : i = r
      · subst c
        rw [hself, decide_eq_true h.root]
      · obtain ⟨p, p1, p2, p3, p4⟩ := ht.par i z hi
        have e := ih p (by omega) (by omega)
        simp only [sargassoref8_Tree_below.f] at e
        rw [loopO_inl (s' := (p : Int)) (by
          simp only [sargassoref8_Tree_below.s0, Int.toNat_natCast]
          rw [if_pos (by omega), if_neg (by omega), if_pos (by omega), show l.getD i default = gn l i from rfl, p2]), e]
        congr 1
        refine decide_eq_decide.2 ⟨fun hp => ?_, fun hm => ?_⟩
        · obtain ⟨m, hm, e⟩ := List.mem_iff_getElem.1 hp
          refine h.clos m hm i (kidx_mem.2 ⟨hi, ?_⟩)
          rw [show js.getD m 0 = js[m] by simp [List.getD, hm], e]; exact p2
        · rcases h.par i hm with e | ⟨m, h1, h2⟩
          · exact absurd e c
          · rw [p2] at h2
            have : p = js.getD m 0 := by omega
            rw [this]; exact getD_mem h1
theorem under_ref (ht : TR t l) {r : Nat} {js : List Nat} (hr : r < l.length) (h : BI l r js js.length) : sargassoref8_Tree_Under.f ⟨l⟩ (gn l r).id = some (hsort (ids l js)) := by
  have hs := ht.small
  simp only [sargassoref8_Tree_Under.f]
  rw [find_known ht hr, Option.bind_some]
  obtain ⟨o, h1, h2, h3⟩ := loop_exists2 (step := sargassoref8_Tree_Under.s0 ⟨l⟩ (r : Int)) (fun i s => s.2 = (i : Int) ∧ Asc s.1 ∧ s.1.Perm (ids l ((List.range i).filter fun j => decide (j ∈ js))))
    (fun o => Asc o ∧ o.Perm (ids l ((List.range l.length).filter fun j => decide (j ∈ js)))) l.length (s := ([], 0)) ⟨rfl, List.Pairwise.nil, by simp [ids]⟩
    (fun i hi s ih => by
      obtain ⟨s1, s2⟩ := s
      obtain ⟨e1, ha, hp⟩ := ih
      simp only at e1 ha hp
      subst e1
      have hbel := below_eq ht h i i (Nat.le_refl _) hi
      have hmem : ∀ x ∈ s1, ∃ j, j < i ∧ j ∈ js ∧ (gn l j).id = x := fun x hx => by
        obtain ⟨j, hj, e⟩ := List.mem_map.1 (hp.mem_iff.1 hx)
        rw [List.mem_filter, List.mem_range] at hj
        exact ⟨j, hj.1, of_decide_eq_true hj.2, e⟩
      have hlen : s1.length ≤ i := by
        rw [hp.length_eq]
        simp only [ids, List.length_map]
        exact Nat.le_trans (List.length_filter_le _ _) (by simp)
      simp only [sargassoref8_Tree_Under.s0, Int.toNat_natCast]
      rw [if_pos (by omega), decide_eq_true (by omega), Option.bind_some, if_pos rfl, hbel, Option.bind_some]
      by_cases c : i ∈ js
      · rw [decide_eq_true c, if_pos rfl, if_pos (by omega), show l.getD i default = gn l i from rfl]
        obtain ⟨r', e1, e2, e3⟩ := puthash_eq (l := s1) (x := (gn l i).id) ha (fun x hx => by
          obtain ⟨j, h1, h2, rfl⟩ := hmem x hx
          exact ht.id32 (by omega)) (ht.id32 hi) (by omega) (fun hx => by
          obtain ⟨j, h1, h2, e⟩ := hmem _ hx
          have := ht.inj j i (by omega) hi e
          omega)
        rw [e1, Option.bind_some, Option.bind_some, winc i (by omega)]
        refine ⟨_, rfl, rfl, e2, ?_⟩
        rw [List.range_succ, List.filter_append]
        simp only [List.filter_cons, List.filter_nil, decide_eq_true c, if_true]
        refine e3.trans ?_
        simp only [ids, List.map_append, List.map_cons, List.map_nil]
        refine ((hp.cons (gn l i).id).trans ?_)
        exact (List.perm_append_singleton _ _).symm
      · rw [decide_eq_false c, if_neg (by decide), Option.bind_some, winc i (by omega)]
        refine ⟨_, rfl, rfl, ha, ?_⟩
        rw [List.range_succ, List.filter_append]
        simpa [c] using hp)
    (fun s ih => by
      obtain ⟨s1, s2⟩ := s
      obtain ⟨e1, ha, hp⟩ := ih
      simp only at e1 ha hp
      subst e1
      simp only [sargassoref8_Tree_Under.s0]
      rw [if_neg (by omega), Option.bind_some, if_neg (by decide)]
      exact ⟨_, rfl, ha, hp⟩)
  rw [h1, Option.bind_some]
  congr 1
  refine hsort_eq (h3.trans ?_) h2
  refine List.Perm.map _ ?_
  rw [List.perm_ext_iff_of_nodup (List.Nodup.sublist List.filter_sublist List.nodup_range) h.nd]
  intro a
  rw [List.mem_filter, List.mem_range, decide_eq_true_eq]
  exact ⟨fun h => h.2, fun hm => ⟨(h.lt a hm).1, hm⟩⟩
theorem under_both (ht : TR t l) {k : List Int} (hk : k.length = 32) : ∃ r, tree_Tree_Under.f t k = some r ∧ sargassoref8_Tree_Under.f ⟨l⟩ k = some r ∧ Hs r ∧ r.length ≤ 1000 := by
  have hs := ht.small
  rcases ht.key k with ⟨i, hi, rfl⟩ | hn
  · have h0 : BI l i [i] 0 := ⟨by omega, by simp, fun j hj => by rw [List.mem_singleton.1 hj]; exact ⟨hi, Nat.le_refl _⟩, by simp, fun m hm => by omega, fun j hj => .inl (List.mem_singleton.1 hj)⟩
    obtain ⟨js, h1, h2⟩ := bfs ht l.length 0 [i] h0 (by omega)
    have hjl := h1.len
    refine ⟨hsort (ids l js), ?_, under_ref ht hi h1, fun x hx => ?_, ?_⟩
    · simp only [tree_Tree_Under.f]
      rw [if_pos (by rw [ht.known i hi]; rfl), show ([(gn l i).id] : List (List Int)) = ids l [i] from rfl, show (0 : Int) = ((0 : Nat) : Int) from rfl, h2, Option.bind_some]
      simp only [slices_SortFunc_api_Hash_api_Hash_at_digest_Compare.f]
      rw [if_pos (by simp [ids]; omega), Option.bind_some]
    · have := (List.mergeSort_perm (ids l js) hle).mem_iff.1 hx
      obtain ⟨j, hj, rfl⟩ := List.mem_map.1 this
      exact ht.id32 (h1.lt j hj).1
    · show ((ids l js).mergeSort hle).length ≤ 1000
      rw [List.length_mergeSort]
      simp [ids]; omega
  · refine ⟨[], ?_, ?_, fun x hx => (by cases hx), by simp⟩
    · simp only [tree_Tree_Under.f]
      rw [if_neg (by rw [ht.unk k hn]; simp)]
    · simp only [sargassoref8_Tree_Under.f]
      have hp := ht.pos
      rw [find_unk ht hk hn, Option.bind_some, loopO_inr (r := ([] : List (List Int))) (by
        simp only [sargassoref8_Tree_Under.s0]
        rw [if_pos (by omega), decide_eq_false (by omega), Option.bind_some, if_neg (by decide)]), Option.bind_some]
end Go.Proofs.YtdngkgkkblfcjaaGreatDoor.T
namespace Go.Proofs.YtdngkgkkblfcjaaGreatDoor.T
open Go Go.Proofs Go.Proofs.YtdngkgkkblfcjaaGreatDoor.K
set_option linter.unusedVariables false
variable {t : treeTree} {l : List N8}
def idl (l : List N8) (js : List Nat) : List (List Int) := js.map fun j => (gn l j).id
def il (js : List Nat) : List Int := js.map fun (j : Nat) => (j : Int)
def Upl (l : List N8) : List Nat → Nat → Prop
  | [], _ => False
  | [x], i => x = i ∧ i = 0
  | x :: y :: r, i => x = i ∧ 0 < i ∧ (gn l i).parent = (y : Int) ∧ y < i ∧ Upl l (y :: r) y
theorem upl_cons {U : List Nat} {i p : Nat} (hi : 0 < i) (hp : (gn l i).parent = (p : Int)) (hlt : p < i) (h : Upl l U p) : Upl l (i :: U) i := by
  cases U with
  | nil => exact h.elim
  | cons x U =>
    have : x = p := by
      cases U with
      | nil => exact h.1
      | cons y U => exact h.1
    subst this
    exact ⟨rfl, hi, hp, hlt, h⟩
theorem upl_ex (h : TR t l) : ∀ (n i : Nat), i ≤ n → i < l.length → ∃ U, Upl l U i := by
  intro n
  induction n with
  | zero => intro i hin hi; exact ⟨[i], rfl, by omega⟩
  | succ n ih =>
    intro i hin hi
    rcases Nat.eq_zero_or_pos i with z | z
    · exact ⟨[i], rfl, z⟩
    · obtain ⟨p, p1, p2, _⟩ := h.par i z hi
      obtain ⟨U, hU⟩ := ih p (by omega) (by omega)
      exact ⟨i :: U, upl_cons z p2 p1 hU⟩
theorem upl_lt : ∀ (U : List Nat) (i : Nat), Upl l U i → (∀ a ∈ U, a ≤ i) ∧ U.length ≤ i + 1 ∧ ∃ r, U = i :: r
  | [], _, h => h.elim
  | [x], i, h => by
    obtain ⟨rfl, rfl⟩ := h
    exact ⟨by simp, by simp, [], rfl⟩
  | x :: y :: r, i, h => by
    obtain ⟨rfl, h1, h2, h3, h4⟩ := h
    obtain ⟨a, b, _⟩ := upl_lt (y :: r) y h4
    refine ⟨fun z hz => ?_, by simp only [List.length_cons] at *; omega, _, rfl⟩
    rcases List.mem_cons.1 hz with rfl | hz
    · exact Nat.le_refl _
    · have := a z hz; omega
theorem tup_loop (h : TR t l) : ∀ (U : List Nat) (i : Nat) (o : List Int), Upl l U i → i < l.length → o.length + U.length ≤ 100000 → loopO (sargassoref8_Tree_up.s0 ⟨l⟩) ((i : Int), o) = some (-1, o ++ il U)
  | [], _, _, h, _, _ => h.elim
  | [x], i, o, hu, hi, hl => by
    obtain ⟨rfl, rfl⟩ := hu
    rw [loopO_inl (s' := (-1, o ++ il [0])) (by
      simp only [sargassoref8_Tree_up.s0, Int.toNat_natCast]
      simp only [List.length_cons, List.length_nil] at hl
      rw [if_pos (by omega), if_pos (by omega), if_pos (by omega), show l.getD 0 default = gn l 0 from rfl, h.root.1]
      rfl)]
    refine loopO_inr ?_
    simp only [sargassoref8_Tree_up.s0]
    rw [if_neg (by omega)]
  | x :: y :: r, i, o, hu, hi, hl => by
    obtain ⟨rfl, h1, h2, h3, h4⟩ := hu
    simp only [List.length_cons] at hl
    rw [loopO_inl (s' := ((y : Int), o ++ il [x])) (by
      simp only [sargassoref8_Tree_up.s0, Int.toNat_natCast]
      rw [if_pos (by omega), if_pos (by omega), if_pos (by omega), show l.getD x default = gn l x from rfl, h2]
      rfl), tup_loop h (y :: r) y _ h4 (by omega) (by simp [il]; omega)]
    simp [il]
theorem tup_eq (h : TR t l) {U : List Nat} {i : Nat} (hu : Upl l U i) (hi : i < l.length) : sargassoref8_Tree_up.f ⟨l⟩ (i : Int) = some (il U) := by
  have hs := h.small
  have := (upl_lt U i hu).2.1
  simp only [sargassoref8_Tree_up.f]
  rw [tup_loop h U i [] hu hi (by simp; omega), Option.bind_some]
  simp
theorem dn_upl (h : TR t l) {k : Nat} (hk : k < l.length) {U : List Nat} (hU : Upl l U k) : ∀ (la : List (List Int)) (i : Nat), i < l.length → Dn t.m la (gn l i).id (gn l k).id → ∃ A, Upl l (A ++ U) i ∧ idl l A = la ∧ ∀ a ∈ A, a < l.length
  | [], i, hi, hd => by
    have : i = k := h.inj i k hi hk hd
    subst this
    exact ⟨[], hU, rfl, by simp⟩
  | x :: la, i, hi, hd => by
    obtain ⟨rfl, nd, p', hnd, hp', hh, hd⟩ := hd
    rw [h.known i hi] at hnd
    cases hnd
    have hi0 : 0 < i := by
      rcases Nat.eq_zero_or_pos i with z | z
      · subst z
        have h1 := h.root.2
        have h2 := (h.ok.tin _ _ hp').1
        have h3 : (gn l 0).height = p'.height + 1 := hh
        omega
      · exact z
    obtain ⟨p, p1, p2, p3, p4⟩ := h.par i hi0 hi
    have hd' : Dn t.m la (gn l p).id (gn l k).id := by rw [← p3]; exact hd
    obtain ⟨A, a1, a2, a3⟩ := dn_upl h hk hU la p (by omega) hd'
    refine ⟨i :: A, upl_cons hi0 p2 p1 a1, by rw [← a2]; rfl, fun a ha => ?_⟩
    rcases List.mem_cons.1 ha with rfl | ha
    · exact hi
    · exact a3 a ha
theorem il_len (U : List Nat) : (il U).length = U.length := by simp [il]
theorem il_get (U : List Nat) (i : Nat) (h : i < U.length) : (il U).getD i 0 = ((U.getD i 0 : Nat) : Int) := by simp [il, List.getD, h]
theorem app_l (A S : List Nat) (i : Nat) (h : i < A.length) : (A ++ S).getD i 0 = A.getD i 0 := by simp [List.getD, List.getElem?_append_left h]
theorem app_r (A S : List Nat) (i : Nat) : (A ++ S).getD (A.length + i) 0 = S.getD i 0 := by
  simp only [List.getD]
  rw [List.getElem?_append_right (by omega)]
  congr 2
  omega
theorem both_loop (A B S : List Nat) (hA : A.length + B.length + S.length ≤ 10000) (hne : ∀ a b, A.getLast? = some a → B.getLast? = some b → a ≠ b) : loopO (sargassoref8_Tree_Path.s0 (il (A ++ S)) (il (B ++ S))) 0 = some (S.length : Int) := by
  refine loop_run (step := sargassoref8_Tree_Path.s0 (il (A ++ S)) (il (B ++ S))) (fun i => (i : Int)) S.length rfl (fun i hi => ?_) ?_
  · have e1 : (((A ++ S).length : Int) - 1 - i).toNat = A.length + (S.length - 1 - i) := by simp only [List.length_append]; omega
    have e2 : (((B ++ S).length : Int) - 1 - i).toNat = B.length + (S.length - 1 - i) := by simp only [List.length_append]; omega
    simp only [sargassoref8_Tree_Path.s0, il_len]
    rw [if_pos (by simp only [List.length_append]; omega), if_pos (by simp only [List.length_append]; omega), w64 (x := ((A ++ S).length : Int) - 1) (by simp only [List.length_append]; omega) (by simp only [List.length_append]; omega), w64 (x := ((A ++ S).length : Int) - 1 - i) (by simp only [List.length_append]; omega) (by simp only [List.length_append]; omega),
      w64 (x := ((B ++ S).length : Int) - 1) (by simp only [List.length_append]; omega) (by simp only [List.length_append]; omega), w64 (x := ((B ++ S).length : Int) - 1 - i) (by simp only [List.length_append]; omega) (by simp only [List.length_append]; omega),
      if_pos (by simp only [List.length_append]; omega), if_pos (by simp only [List.length_append]; omega), e1, e2, il_get _ _ (by simp only [List.length_append]; omega), il_get _ _ (by simp only [List.length_append]; omega), app_r, app_r, decide_eq_true rfl, Option.bind_some, if_pos rfl, winc i (by omega)]
  · simp only [sargassoref8_Tree_Path.s0, il_len]
    by_cases ca : A = []
    · subst ca
      rw [if_neg (by simp), Option.bind_some, if_neg (by decide)]
    by_cases cb : B = []
    · subst cb
      rw [if_neg (show ¬ (S.length : Int) < ((([] : List Nat) ++ S).length : Int) by simp)]
      simp
    have pa : 0 < A.length := List.length_pos_iff.2 ca
    have pb : 0 < B.length := List.length_pos_iff.2 cb
    have e1 : (((A ++ S).length : Int) - 1 - S.length).toNat = A.length - 1 := by simp only [List.length_append]; omega
    have e2 : (((B ++ S).length : Int) - 1 - S.length).toNat = B.length - 1 := by simp only [List.length_append]; omega
    have g1 : A.getLast? = some (A.getD (A.length - 1) 0) := by
      rw [List.getLast?_eq_getElem?]
      simp [List.getD, show A.length - 1 < A.length by omega]
    have g2 : B.getLast? = some (B.getD (B.length - 1) 0) := by
      rw [List.getLast?_eq_getElem?]
      simp [List.getD, show B.length - 1 < B.length by omega]
    have hn := hne _ _ g1 g2
    rw [if_pos (by simp only [List.length_append]; omega), if_pos (by simp only [List.length_append]; omega), w64 (x := ((A ++ S).length : Int) - 1) (by simp only [List.length_append]; omega) (by simp only [List.length_append]; omega), w64 (x := ((A ++ S).length : Int) - 1 - S.length) (by simp only [List.length_append]; omega) (by simp only [List.length_append]; omega),
      w64 (x := ((B ++ S).length : Int) - 1) (by simp only [List.length_append]; omega) (by simp only [List.length_append]; omega), w64 (x := ((B ++ S).length : Int) - 1 - S.length) (by simp only [List.length_append]; omega) (by simp only [List.length_append]; omega),
      if_pos (by simp only [List.length_append]; omega), if_pos (by simp only [List.length_append]; omega), e1, e2, il_get _ _ (by simp only [List.length_append]; omega), il_get _ _ (by simp only [List.length_append]; omega), app_l _ _ _ (by omega), app_l _ _ _ (by omega), decide_eq_false (by omega), Option.bind_some, if_neg (by decide)]
theorem idl_take (l : List N8) (A : List Nat) (i : Nat) (h : i < A.length) : idl l (A.take i) ++ [(gn l (A.getD i 0)).id] = idl l (A.take (i + 1)) := by
  rw [← take_next A i 0 h]
  simp [idl]
theorem path_ref (h : TR t l) {i j k : Nat} (hi : i < l.length) (hj : j < l.length) (hk : k < l.length) {A B S : List Nat} (hA : Upl l (A ++ S) i) (hB : Upl l (B ++ S) j) (hS : Upl l S k) (ha : ∀ a ∈ A, a < l.length) (hb : ∀ b ∈ B, b < l.length)
    (hne : ∀ a b, A.getLast? = some a → B.getLast? = some b → a ≠ b) : sargassoref8_Tree_Path.f ⟨l⟩ (gn l i).id (gn l j).id = some (idl l A, idl l B.reverse, (gn l k).id, true) := by
  have hs := h.small
  have l1 := (upl_lt _ _ hA).2.1
  have l2 := (upl_lt _ _ hB).2.1
  obtain ⟨_, l3, r, hr⟩ := upl_lt _ _ hS
  have hSpos : 0 < S.length := by rw [hr]; simp
  simp only [List.length_append] at l1 l2
  have eb := both_loop A B S (by omega) hne
  have e1 : IntKind.i64.wrap (((il (A ++ S)).length : Int) - (S.length : Int)) = (A.length : Int) := by rw [il_len, w64 (by simp only [List.length_append]; omega) (by simp only [List.length_append]; omega)]; simp only [List.length_append]; omega
  have e2 : IntKind.i64.wrap (((il (B ++ S)).length : Int) - (S.length : Int)) = (B.length : Int) := by rw [il_len, w64 (by simp only [List.length_append]; omega) (by simp only [List.length_append]; omega)]; simp only [List.length_append]; omega
  have back : loopO (sargassoref8_Tree_Path.s1 ⟨l⟩ (il (A ++ S)) (S.length : Int)) ([], 0) = some (idl l A) := by
    refine loop_run (step := sargassoref8_Tree_Path.s1 ⟨l⟩ (il (A ++ S)) (S.length : Int)) (fun n => (idl l (A.take n), (n : Int))) A.length (by simp [idl]) (fun n hn => ?_) ?_
    · have hm := ha _ (getD_mem (d := 0) hn)
      simp only [sargassoref8_Tree_Path.s1, Int.toNat_natCast]
      rw [e1, if_pos (by omega), if_pos (by rw [il_len]; simp only [List.length_append]; omega), il_get _ _ (by simp only [List.length_append]; omega), app_l _ _ _ hn, if_pos (by omega), Int.toNat_natCast, if_pos (by simp [idl]; omega), winc n (by omega), ← idl_take l A n hn]
      rfl
    · simp only [sargassoref8_Tree_Path.s1]
      rw [e1, if_neg (by omega), List.take_length]
  have on : loopO (sargassoref8_Tree_Path.s2 ⟨l⟩ (il (B ++ S))) ([], IntKind.i64.wrap ((B.length : Int) - 1)) = some (idl l B.reverse) := by
    rw [w64 (by omega) (by omega)]
    have hlr : B.reverse.length = B.length := by simp
    refine loop_run (step := sargassoref8_Tree_Path.s2 ⟨l⟩ (il (B ++ S))) (fun n => (idl l (B.reverse.take n), (B.length : Int) - 1 - n)) B.length (by simp [idl]) (fun n hn => ?_) ?_
    · have e3 : ((B.length : Int) - 1 - n).toNat = B.length - 1 - n := by omega
      have e4 : B.getD (B.length - 1 - n) 0 = B.reverse.getD n 0 := by
        simp only [List.getD]
        rw [List.getElem?_reverse hn]
      have hm := hb _ (getD_mem (l := B) (i := B.length - 1 - n) (d := 0) (by omega))
      simp only [sargassoref8_Tree_Path.s2]
      rw [if_pos (by omega), if_pos (by rw [il_len]; simp only [List.length_append]; omega), e3, il_get _ _ (by simp only [List.length_append]; omega), app_l _ _ _ (by omega), if_pos (by omega), Int.toNat_natCast, if_pos (by simp [idl]; omega), w64 (by omega) (by omega), e4, ← idl_take l B.reverse n (by omega), show (B.length : Int) - 1 - n - 1 = (B.length : Int) - 1 - ((n + 1 : Nat) : Int) by push_cast; omega]
      rfl
    · simp only [sargassoref8_Tree_Path.s2]
      rw [if_neg (by omega), ← hlr, List.take_length]
  simp only [sargassoref8_Tree_Path.f]
  rw [find_known h hi, Option.bind_some, find_known h hj, Option.bind_some, if_neg (by omega), decide_eq_false (by omega), Option.bind_some, if_neg (by decide), tup_eq h hA hi, Option.bind_some, tup_eq h hB hj, Option.bind_some, eb, Option.bind_some, back, Option.bind_some, e2, on, Option.bind_some, e1, if_pos (by rw [il_len]; simp only [List.length_append]; omega), Int.toNat_natCast, il_get _ _ (by simp only [List.length_append]; omega)]
  have e5 : (A ++ S).getD A.length 0 = k := by
    have := app_r A S 0
    rw [Nat.add_zero] at this
    rw [this, hr]; rfl
  rw [e5, if_pos (by omega), Int.toNat_natCast]
  rfl
theorem path_both (h : TR t l) {a b : List Int} (ha : a.length = 32) (hb : b.length = 32) : ∃ (u v : List (List Int)) (c : List Int) (ok : Bool), tree_Tree_Path.f t a b = some (u, v, ok) ∧ tree_Tree_Common.f t a b = some (c, ok) ∧ sargassoref8_Tree_Path.f ⟨l⟩ a b = some (u, v, c, ok) ∧ Hs u ∧ Hs v ∧ u.length ≤ 1000 ∧ v.length ≤ 1000 ∧ c.length = 32 := by
  have hs := h.small
  have miss : ∀ a b : List Int, (mget t.m a = none ∨ mget t.m b = none) → tree_Tree_Path.f t a b = some ([], [], false) ∧ tree_Tree_Common.f t a b = some (z32, false) := fun a b hn => by
    have e : tree_Tree_Common.f t a b = some (z32, false) := by
      simp only [tree_Tree_Common.f]
      rcases hn with hn | hn
      · rw [if_neg (by rw [hn]; simp), Option.bind_some, if_pos rfl]; rfl
      · by_cases c : (mget t.m a).isSome = true
        · rw [if_pos c, hn]; rfl
        · rw [if_neg c, Option.bind_some, if_pos rfl]; rfl
    refine ⟨?_, e⟩
    simp only [tree_Tree_Path.f]
    rw [e, Option.bind_some, if_neg (by decide)]
  rcases h.key a with ⟨i, hi, rfl⟩ | hna
  · rcases h.key b with ⟨j, hj, rfl⟩ | hnb
    · have hna := h.known i hi
      have hnb := h.known j hj
      have p1 := (h.ok.tin _ _ hna).1
      have p2 := (h.ok.tin _ _ hnb).1
      obtain ⟨cc, la, lb, nc, hc, d1, d2, c1, c2, ds⟩ := com_all h.ok.tin h.ok.one ((ndo l i).height + (ndo l j).height).toNat _ _ _ _ hna hnb (by omega)
      obtain ⟨k, hk, rfl⟩ : ∃ k, k < l.length ∧ (gn l k).id = cc := by
        rcases h.key cc with h' | h'
        · exact h'
        · rw [h.unk cc h'] at hc; cases hc
      obtain ⟨S, hS⟩ := upl_ex h k k (Nat.le_refl _) hk
      obtain ⟨A, a1, a2, a3⟩ := dn_upl h hk hS la i hi d1
      obtain ⟨B, b1, b2, b3⟩ := dn_upl h hk hS lb j hj d2
      have l1 := (upl_lt _ _ a1).2.1
      have l2 := (upl_lt _ _ b1).2.1
      simp only [List.length_append] at l1 l2
      have la1 : la.length = A.length := by rw [← a2]; simp [idl]
      have lb1 : lb.length = B.length := by rw [← b2]; simp [idl]
      have hA : Hs la := fun x hx => by
        rw [← a2] at hx
        obtain ⟨y, hy, rfl⟩ := List.mem_map.1 hx
        exact h.id32 (a3 y hy)
      have hB : Hs lb := fun x hx => by
        rw [← b2] at hx
        obtain ⟨y, hy, rfl⟩ := List.mem_map.1 hx
        exact h.id32 (b3 y hy)
      refine ⟨la, lb.reverse, _, true, tpath_eq hna hnb hc d1 d2 c1 (by omega) (by omega), tcommon_eq hna hnb c1, ?_, hA, fun x hx => hB x (List.mem_reverse.1 hx), by omega, by rw [List.length_reverse]; omega, h.id32 hk⟩
      have := path_ref h hi hj hk a1 b1 hS a3 b3 (fun x y hx hy e => by
        subst e
        have m1 : x ∈ A := List.mem_of_getLast? hx
        have m2 : x ∈ B := List.mem_of_getLast? hy
        exact ds (gn l x).id (by rw [← a2]; exact List.mem_map.2 ⟨x, m1, rfl⟩) (by rw [← b2]; exact List.mem_map.2 ⟨x, m2, rfl⟩))
      rw [this, a2]
      congr 2
      rw [← b2]
      simp [idl]
    · obtain ⟨m1, m2⟩ := miss (gn l i).id b (.inr (h.unk b hnb))
      refine ⟨[], [], z32, false, m1, m2, ?_, fun x hx => (by cases hx), fun x hx => (by cases hx), by simp, by simp, rfl⟩
      simp only [sargassoref8_Tree_Path.f]
      rw [find_known h hi, Option.bind_some, find_unk h hb hnb, Option.bind_some, if_neg (by omega), decide_eq_true (by omega), Option.bind_some, if_pos rfl]; rfl
  · obtain ⟨m1, m2⟩ := miss a b (.inl (h.unk a hna))
    refine ⟨[], [], z32, false, m1, m2, ?_, fun x hx => (by cases hx), fun x hx => (by cases hx), by simp, by simp, rfl⟩
    simp only [sargassoref8_Tree_Path.f]
    rw [find_unk h ha hna, Option.bind_some]
    rcases h.key b with ⟨j, hj, rfl⟩ | hnb
    · rw [find_known h hj, Option.bind_some, if_pos (by omega), Option.bind_some, if_pos rfl]; rfl
    · rw [find_unk h hb hnb, Option.bind_some, if_pos (by omega), Option.bind_some, if_pos rfl]; rfl
end Go.Proofs.YtdngkgkkblfcjaaGreatDoor.T
namespace Go.Proofs.YtdngkgkkblfcjaaGreatDoor.T
open Go Go.Proofs Go.Proofs.YtdngkgkkblfcjaaGreatDoor.K
set_option linter.unusedVariables false
theorem is_known (c : Int) : sargassosee_Is.f xErrKnown c = some (decide (109 = c)) := is_at 8 (by decide) c
theorem is_parent (c : Int) : sargassosee_Is.f xErrParent c = some (decide (110 = c)) := is_at 9 (by decide) c
def Has (l : List N8) (k : List Int) : Prop := ∃ i, i < l.length ∧ (gn l i).id = k
theorem add_any {t : treeTree} {l : List N8} (h : TR t l) (hs : l.length < 1000) {c : HN} (o : c.Ok) : ∃ (e : Er) (t' : treeTree) (cc : Int) (l' : List N8), tree_Tree_Add.f t c.h = some (e, t') ∧ sargassoref8_Tree_Add.f ⟨l⟩ c.h = some (cc, ⟨l'⟩) ∧ sargassosee_Is.f e cc = some true ∧ TR t' l' ∧ l'.length ≤ l.length + 1 ∧ (∀ k, Has l k → Has l' k) ∧ (Has l c.p → Has l' (hid c)) := by
  rcases h.key (hid c) with ⟨i, hi, e⟩ | hn
  · obtain ⟨a1, a2⟩ := addr_known h o hi e
    exact ⟨_, _, _, _, a2, a1, by rw [is_known, decide_eq_true rfl], h, by omega, fun k hk => hk, fun _ => ⟨i, hi, e⟩⟩
  · rcases h.key c.p with ⟨p, hp, e⟩ | hp
    · obtain ⟨t', l', a1, a2, a3, a4, a5, a6⟩ := addr_new h hs o hn hp e
      exact ⟨_, _, _, _, a2, a1, by rw [is_nil, decide_eq_true rfl], a3, by omega, fun k ⟨i, hi, e⟩ => ⟨i, by omega, by rw [a5 i hi]; exact e⟩, fun _ => ⟨l.length, by omega, a6⟩⟩
    · obtain ⟨a1, a2⟩ := addr_parent h o hn hp
      exact ⟨_, _, _, _, a2, a1, by rw [is_parent, decide_eq_true rfl], h, by omega, fun k hk => hk, fun ⟨i, hi, e⟩ => absurd e (hp i hi)⟩
theorem ask_both {t : treeTree} {l : List N8} (h : TR t l) {k : List Int} (hk : k.length = 32) : ∃ (hd : Head) (ht wk : Int) (ok : Bool), tree_Tree_Head.f t k = some (hd, ok) ∧ tree_Tree_Height.f t k = some (ht, ok) ∧ tree_Tree_Work.f t k = some (wk, ok) ∧ sargassoref8_Tree_Of.f ⟨l⟩ k = some (hd, ht, wk, ok) ∧ sargassoref_SameHead.f hd hd = some true := by
  rcases h.key k with ⟨i, hi, rfl⟩ | hn
  · obtain ⟨a, b, c, d, e⟩ := ask_known h hi
    exact ⟨_, _, _, _, a, b, c, d, e⟩
  · obtain ⟨a, b, c, d⟩ := ask_unk h hk hn
    exact ⟨_, _, _, _, a, b, c, d, zh_same⟩
theorem plays_ways {t1 : TM} {t2 : List Int} {l : List N8} (h : TR ⟨t1, t2⟩ l) {a b : List Int} (ha : a.length = 32) (hb : b.length = 32) (i : Nat) (hi : i < 3) : loopO (sargassolaw11_TreePlays.s2 l t1 t2 a b (i : Int)) 0 = some (.inl ((i + 1 : Nat) : Int)) := by
  have hL : ∀ j, j < 3 → (([a, b, [7, 0, 0, 0, 0, 0, 0, 0, 0, 0, 0, 0, 0, 0, 0, 0, 0, 0, 0, 0, 0, 0, 0, 0, 0, 0, 0, 0, 0, 0, 0, 0]] : List (List Int)).getD j []).length = 32 := fun j hj => by
    match j, hj with
    | 0, _ => exact ha
    | 1, _ => exact hb
    | 2, _ => rfl
  refine loop_run (step := sargassolaw11_TreePlays.s2 l t1 t2 a b (i : Int)) (fun j => (j : Int)) 3 rfl (fun j hj => ?_) ?_
  · obtain ⟨u, v, c, ok, p1, p2, p3, p4, p5, p6, p7, p8⟩ := path_both h (hL i hi) (hL j hj)
    have e1 : ((([a, b, [7, 0, 0, 0, 0, 0, 0, 0, 0, 0, 0, 0, 0, 0, 0, 0, 0, 0, 0, 0, 0, 0, 0, 0, 0, 0, 0, 0, 0, 0, 0, 0]] : List (List Int)).length : Nat) : Int) = 3 := rfl
    simp only [sargassolaw11_TreePlays.s2, Int.toNat_natCast]
    rw [if_pos (by omega), if_pos (by rw [e1]; omega), if_pos (by rw [e1]; omega), p1, Option.bind_some, p3, Option.bind_some, Option.bind_some, p2, Option.bind_some, Option.bind_some]
    simp only
    rw [if_neg (fun h => h rfl), if_neg (fun h => h rfl), samehash_eq _ _ p8 p8, decide_eq_true rfl, Option.bind_some, if_pos rfl, samehashes_eq _ _ p4 p4 (by omega), decide_eq_true rfl, Option.bind_some, if_pos rfl, samehashes_eq _ _ p5 p5 (by omega), decide_eq_true rfl, Option.bind_some, Option.bind_some, if_neg (by decide), winc j (by omega)]
  · simp only [sargassolaw11_TreePlays.s2]
    rw [if_neg (by omega), winc i (by omega)]
theorem plays_all {t1 : TM} {t2 : List Int} {l : List N8} (h : TR ⟨t1, t2⟩ l) {a b : List Int} (ha : a.length = 32) (hb : b.length = 32) (x : Int) : loopO (sargassolaw11_TreePlays.s1 x true l t1 t2 a b) 0 = some (.inr true) := by
  have hL : ∀ j, j < 3 → (([a, b, [7, 0, 0, 0, 0, 0, 0, 0, 0, 0, 0, 0, 0, 0, 0, 0, 0, 0, 0, 0, 0, 0, 0, 0, 0, 0, 0, 0, 0, 0, 0, 0]] : List (List Int)).getD j []).length = 32 := fun j hj => by
    match j, hj with
    | 0, _ => exact ha
    | 1, _ => exact hb
    | 2, _ => rfl
  have e1 : ((([a, b, [7, 0, 0, 0, 0, 0, 0, 0, 0, 0, 0, 0, 0, 0, 0, 0, 0, 0, 0, 0, 0, 0, 0, 0, 0, 0, 0, 0, 0, 0, 0, 0]] : List (List Int)).length : Nat) : Int) = 3 := rfl
  refine loop_run (step := sargassolaw11_TreePlays.s1 x true l t1 t2 a b) (fun j => (j : Int)) 3 rfl (fun j hj => ?_) ?_
  · obtain ⟨hd, ht, wk, ok, q1, q2, q3, q4, q5⟩ := ask_both h (hL j hj)
    obtain ⟨r, r1, r2, r3⟩ := anc_both h (hL j hj) x
    obtain ⟨u, u1, u2, u3, u4⟩ := under_both h (hL j hj)
    have ew := plays_ways h ha hb j hj
    simp only [sargassolaw11_TreePlays.s1, Int.toNat_natCast]
    rw [if_pos (by omega), if_pos (by rw [e1]; omega), q1, Option.bind_some, q4, Option.bind_some, q2, Option.bind_some, q3, Option.bind_some]
    simp only
    rw [if_neg (fun h => h rfl), if_neg (fun h => h rfl), if_neg (fun h => h rfl), q5, Option.bind_some, if_pos rfl, if_neg (fun h => h rfl), decide_eq_false (fun h => h rfl), Option.bind_some, if_neg (by decide), r1, Option.bind_some, r2, Option.bind_some, if_neg (fun h => h rfl), samehash_eq _ _ r3 r3, decide_eq_true rfl, Option.bind_some, if_pos rfl, u1, Option.bind_some, u2, Option.bind_some, samehashes_eq _ _ u3 u3 (by omega), decide_eq_true rfl, Option.bind_some, Option.bind_some, if_neg (by decide), ew]
  · simp only [sargassolaw11_TreePlays.s1]
    have hp := h.pos
    have hst : (gn l 0).id = t2 := h.st
    have h32 : t2.length = 32 := by rw [← hst]; exact h.id32 hp
    have hln : (t1.length : Int) = (l.length : Int) := by have : t1.length = l.length := h.len; omega
    rw [if_neg (by omega), if_pos trivial]
    simp only [tree_Tree_Len.f, sargassoref8_Tree_Len.f, tree_Tree_Start.f, sargassoref8_Tree_Start.f, Option.bind_some]
    rw [if_pos hln, if_pos (by omega), Option.bind_some, show (l.getD (0 : Int).toNat default).id = (gn l 0).id from rfl, hst, samehash_eq _ _ h32 h32, decide_eq_true rfl, Option.bind_some, Option.bind_some]
theorem number_at' {hs : List HN} {x : Int} (hx : InR .i64 x) (h0 : 0 < hs.length) (hl : hs.length ≤ 1000) : ∃ (y : Int) (g : HN), sargassoworld_Number.f x ((hs.map HN.h).length : Int) = some y ∧ (0 ≤ y ∧ y < ((hs.map HN.h).length : Int)) ∧ hs[y.toNat]? = some g := by
  obtain ⟨y, hy, y0, y1⟩ := number_eq (x := x) (n := ((hs.map HN.h).length : Int)) hx (by simp; omega) (by simp; omega)
  have hyl : y.toNat < hs.length := by simp at y1; omega
  exact ⟨y, _, hy, ⟨y0, y1⟩, List.getElem?_eq_getElem hyl⟩
theorem sargassolaw11_TreePlays.m (μ : Store) (x0 : List Int) (u0 : Value) (h0 : Slc (RI .i64) 1 μ u0 x0) (x1 : Head) (h1 : HeadW μ x1) (x2 : Int) (h2 : InR .i64 x2) (x3 : Int) (h3 : InR .i64 x3) (x4 : Int) (h4 : InR .i64 x4) : sargassolaw11_TreePlays.f x0 x1 x2 x3 x4 = some true := by
  simp only [sargassolaw11_TreePlays.f]
  rw [first11, Option.bind_some, if_pos rfl]
  by_cases c : 60 < (x0.length : Int)
  · rw [if_pos c]
  rw [if_neg c]
  obtain ⟨hs, eg, hl, ho, hz, hg⟩ := grown_eq x0 (slc_ints h0) (by omega)
  obtain ⟨sy, rfl, so⟩ := hn_of h1
  rw [eg, Option.bind_some, if_pos (by simp; omega), show (0 : Int).toNat = 0 from rfl, map_get hz, tnew_eq H0_ok, Option.bind_some, newtree_eq H0_ok, Option.bind_some]
  refine loop_exists (step := sargassolaw11_TreePlays.s0 sy.h x2 x3 x4 true (hs.map HN.h)) (fun i s => s.1 = ((i + 1 : Nat) : Int) ∧ TR ⟨s.2.2.1, s.2.2.2⟩ s.2.1 ∧ s.2.1.length ≤ i + 1 ∧ ∀ (j : Nat) (g : HN), j < i + 1 → hs[j]? = some g → Has s.2.1 (hid g)) (hs.length - 1) (r := true) ⟨rfl, tr_new H0_ok, Nat.le_refl _, fun j g hj hjg => by
      have : j = 0 := by omega
      subst this
      rw [hz] at hjg; cases hjg
      exact ⟨0, by simp [n8new], rfl⟩⟩ (fun i hi s ih => ?_) (fun s ih => ?_)
  · obtain ⟨s1, s2, s3, s4⟩ := s
    obtain ⟨e1, ht, hlen, hk⟩ := ih
    simp only at e1 ht hlen hk
    subst e1
    obtain ⟨h, hh⟩ : ∃ h, hs[i + 1]? = some h := ⟨_, List.getElem?_eq_getElem (by omega)⟩
    obtain ⟨j, g, hj, hjg, hp⟩ := hg (i + 1) h hh (by omega)
    obtain ⟨e, t', cc, l', a1, a2, a3, a4, a5, a6, a7⟩ := add_any ht (by omega) (ho h (List.mem_of_getElem? hh))
    simp only [sargassolaw11_TreePlays.s0, Int.toNat_natCast, List.length_map]
    rw [if_pos (by omega), if_pos (by omega), map_get hh, a1, Option.bind_some, a2, Option.bind_some]
    simp only
    rw [a3, Option.bind_some, if_pos rfl, winc (i + 1) (by omega)]
    refine ⟨_, rfl, rfl, a4, by simp only; omega, fun k y hk' hy => ?_⟩
    rcases Nat.lt_or_ge k (i + 1) with c1 | c1
    · exact a6 _ (hk k y c1 hy)
    · have : k = i + 1 := by omega
      subst this
      rw [hh] at hy; cases hy
      exact a7 (by rw [hp]; exact hk j g hj hjg)
  · obtain ⟨s1, s2, s3, s4⟩ := s
    obtain ⟨e1, ht, hlen, hk⟩ := ih
    simp only at e1 ht hlen hk
    subst e1
    obtain ⟨e, t', cc, l', a1, a2, a3, a4, a5, a6, a7⟩ := add_any ht (by omega) so
    obtain ⟨y, ga, ey, yb, ya⟩ := number_at' (hs := hs) h2 (by omega) (by omega)
    obtain ⟨z, gb, ez, zb, za⟩ := number_at' (hs := hs) h3 (by omega) (by omega)
    have oa := ho ga (List.mem_of_getElem? ya)
    have ob := ho gb (List.mem_of_getElem? za)
    obtain ⟨q, q1, q2⟩ := a6 _ (hk _ _ (by have := (List.getElem?_eq_some_iff.1 ya).1; omega) ya)
    obtain ⟨_, b2⟩ := addr_known a4 oa q1 q2
    obtain ⟨t1, t2⟩ := t'
    simp only [sargassolaw11_TreePlays.s0]
    rw [if_neg (by simp only [List.length_map]; omega), a1, Option.bind_some, a2, Option.bind_some]
    simp only
    rw [a3, Option.bind_some, if_pos rfl, ey, Option.bind_some, if_pos yb, map_get ya, b2, Option.bind_some]
    simp only
    rw [is_known, decide_eq_true rfl, Option.bind_some, Option.bind_some, if_neg (fun h : (!true) = true => by cases h), Option.bind_some, if_pos yb, map_get ya, hidr_eq oa, Option.bind_some, ez, Option.bind_some, if_pos zb, map_get za, hidr_eq ob, Option.bind_some, plays_all a4 (hid_len ga) (hid_len gb) x4]
end Go.Proofs.YtdngkgkkblfcjaaGreatDoor.T
namespace Go.Proofs.YtdngkgkkblfcjaaGreatDoor.K
open Go Go.Proofs Go.ChangeShapes Go.WideShapes Go.RowKit
def mem (w : World) : Store := fun k => w.heap[k]?
theorem agr_mem (w : World) : Agr (mem w) w := fun _ _ h => h
theorem mem_cell {w : World} {g i : Nat} {v : Value} (h : w.cell? ⟨g, i, none⟩ = some v) : (mem w).cell g i = some v := by
  unfold World.cell? at h
  unfold Store.cell mem
  cases hm : w.heap[g]? with
  | none => simp [hm] at h
  | some o => cases o <;> simp_all
theorem wf_in {k : IntKind} {n : Int} (h : (Lit.int k n).wf = true) : InR k n := by
  cases k <;> simp [Lit.wf, IntKind.min, IntKind.max, IntKind.signed, IntKind.bits] at h <;> simp [InR] <;> omega
section
variable {H : Type} {enc : TypeId × Value → H} {P : Program} {w : World} {base : Nat} {spare : Nat → Bool} {held : Bool} {t e : TypeId}
def Rd (enc : TypeId × Value → H) (P : Program) (w : World) (base : Nat) (spare : Nat → Bool) (held : Bool) (t : TypeId) (R : List Value → Prop) : Prop :=
  ∀ fuel cs x, DataW.trod enc P w base spare held fuel t cs = some x → R cs
theorem rd_int {k : IntKind} (ht : P.underlying t = some (.int k)) : Rd enc P w base spare held t (fun c => ∃ n, RI k n c) := by
  intro fuel cs x h
  obtain ⟨n, rfl, _, hw⟩ := DataW.trod_int ht h
  exact ⟨n, rfl, wf_in hw⟩
theorem rd_array {k : IntKind} {n : Nat} (ht : P.underlying t = some (.array n e)) (he : P.underlying e = some (.int k)) (hc : P.cellsOf e = 1) (hn : P.cellsOf t = n) :
    Rd enc P w base spare held t (fun c => ∃ xs, RA k n xs c) := by
  intro fuel cs x h
  obtain ⟨xs, m, _, _, hl, hx, hf⟩ := DataW.trod_array ht h
  rw [hn] at hl
  have each : ∀ i, i < n → ∃ z, cs[i]? = some (.int k z) ∧ InR k z := by
    intro i hi
    have h1 := hf i hi
    rw [hc, Nat.mul_one, List.getElem?_eq_getElem (by omega)] at h1
    obtain ⟨z, hz, _, hw⟩ := DataW.trod_int he h1
    refine ⟨z, ?_, wf_in hw⟩
    have := congrArg (·[0]?) hz
    simpa using this
  refine ⟨cs.map fun v => match v with | .int _ z => z | _ => 0, ?_, ?_, ?_⟩
  · simp only [List.flatten_cons, List.flatten_nil, List.append_nil]
    apply List.ext_getElem?
    intro i
    by_cases hi : i < n
    · obtain ⟨z, hz, _⟩ := each i hi
      rw [av_get _ _ _ hi, hz]
      simp [List.getD, hz]
    · rw [List.getElem?_eq_none (by omega), List.getElem?_eq_none (by rw [av_len]; omega)]
  · simpa using hl
  · intro y hy
    obtain ⟨v, hv, rfl⟩ := List.mem_map.1 hy
    obtain ⟨i, hi, rfl⟩ := List.getElem_of_mem hv
    obtain ⟨z, hz, hr⟩ := each i (by omega)
    rw [List.getElem?_eq_getElem hi] at hz
    rw [Option.some.inj hz]
    exact hr
theorem els_of {α : Type} {RE : α → List Value → Prop} {sz : Nat} : ∀ {n : Nat} {Q : Nat → Value → Prop}, (∀ i, i < n → ∃ x c, RE x c ∧ c.length = sz ∧ ∀ j v, c[j]? = some v → Q (i * sz + j) v) →
    ∃ xs cs, xs.length = n ∧ Els RE sz xs cs ∧ ∀ j v, cs[j]? = some v → Q j v
  | 0, _, _ => ⟨[], [], rfl, .nil, fun j v h => by simp at h⟩
  | n + 1, Q, f => by
    obtain ⟨x, c, h1, h2, h3⟩ := f 0 (by omega)
    obtain ⟨xs, cs, e1, e2, e3⟩ := els_of (n := n) (Q := fun m v => Q (sz + m) v) (fun i hi => by
      obtain ⟨x, c, h1, h2, h3⟩ := f (i + 1) (by omega)
      refine ⟨x, c, h1, h2, fun j v hj => ?_⟩
      have := h3 j v hj
      rwa [Nat.add_mul, Nat.one_mul, Nat.add_comm (i * sz), Nat.add_assoc] at this)
    refine ⟨x :: xs, c ++ cs, by simp [e1], .cons h1 h2 e2, fun j v hj => ?_⟩
    rcases Nat.lt_or_ge j c.length with h | h
    · rw [List.getElem?_append_left h] at hj
      simpa using h3 j v hj
    · rw [List.getElem?_append_right h] at hj
      have := e3 _ _ hj
      rwa [h2, Nat.add_sub_cancel' (by omega)] at this
theorem rd_slice {α : Type} {RE : α → List Value → Prop} {sz : Nat} (ht : P.underlying t = some (.slice e)) (hc : P.cellsOf e = sz) (h0 : 0 < sz) (hr : Rd enc P w base spare held e (fun c => ∃ x, RE x c)) :
    Rd enc P w base spare held t (fun c => ∃ v xs, c = [v] ∧ Slc RE sz (mem w) v xs) := by
  intro fuel cs x h
  rcases DataW.trod_slice ht h with ⟨rfl, _⟩ | ⟨a, len, cap, elems, rest, n, _, rfl, _, _, hl, hm, hlen, hel, _, _⟩
  · exact ⟨_, [], rfl, [], .nil, none, 0, rfl, Nat.le_refl _, Nat.zero_le _, fun h => absurd rfl h, fun h => absurd rfl h⟩
  have each0 : ∀ i, i < len → ∃ x c, RE x c ∧ c.length = sz ∧ ∀ j, j < sz → w.cell? ((a.add (i * sz)).add j) = c[j]? := by
    intro i hi
    have h1 := hel i hi
    rw [List.getElem?_eq_getElem (by omega), hc] at h1
    obtain ⟨c, hc1, hc2⟩ := Option.bind_eq_some_iff.1 h1
    obtain ⟨_, l1, l2⟩ := World.cells?_some hc1
    obtain ⟨x, hx⟩ := hr _ _ _ hc2
    exact ⟨x, c, hx, l1, l2⟩
  have hs : 0 < len → a.spot = none := by
    intro hp
    obtain ⟨x, c, _, l1, l2⟩ := each0 0 hp
    have h2 := (l2 0 h0).trans (List.getElem?_eq_getElem (by omega))
    simpa [Addr.add] using World.cell?_spot h2
  obtain ⟨b, off, spot⟩ := a
  simp only at hs
  have each : ∀ i, i < len → ∃ x c, RE x c ∧ c.length = sz ∧ ∀ j v, c[j]? = some v → (fun m v => w.cell? ⟨b, off + m, none⟩ = some v) (i * sz + j) v := by
    intro i hi
    obtain ⟨x, c, hx, l1, l2⟩ := each0 i hi
    refine ⟨x, c, hx, l1, fun j v hj => ?_⟩
    have hjl : j < sz := by
      have := (List.getElem?_eq_some_iff.1 hj).1
      omega
    have h2 := (l2 j hjl).trans hj
    rw [hs (by omega), add_plain, add_plain] at h2
    simpa [Nat.add_assoc] using h2
  obtain ⟨xs, cs, e1, e2, e3⟩ := els_of (RE := RE) (sz := sz) (Q := fun m v => w.cell? ⟨b, off + m, none⟩ = some v) each
  refine ⟨_, xs, rfl, cs, e2, some ⟨b, off, spot⟩, cap, by rw [e1], by omega, hm, fun hn => by rw [hs (by omega)]; rfl, fun hn j v hj => mem_cell (e3 j v hj)⟩
theorem rd_struct {fs : Array Field} {fuel : Nat} {cs : List Value} {x : DataW H × List MemPlace} (ht : P.underlying t = some (.struct fs)) (h : DataW.trod enc P w base spare held fuel t cs = some x) :
    cs.length = P.cellsOf t ∧ ∀ (i : Nat) (f : Field), fs[i]? = some f → ∃ n y, DataW.trod enc P w base spare held n f.type ((cs.drop f.offset).take (P.cellsOf f.type)) = some y := by
  obtain ⟨xs, n, _, _, hl, hx, hf⟩ := DataW.trod_struct ht h
  refine ⟨hl, fun i f hi => ?_⟩
  have h1 := hf i f hi
  have : i < fs.size := (Array.getElem?_eq_some_iff.1 hi).1
  rw [List.getElem?_eq_getElem (by omega)] at h1
  exact ⟨n, _, h1⟩
theorem chop {α : Type} (cs : List α) (o n m : Nat) (h : o + n = m) : cs.drop o = (cs.drop o).take n ++ cs.drop m := by
  subst h
  rw [← List.drop_drop, List.take_append_drop]
theorem rd_at {R : List Value → Prop} {v : Value} {d : DataW H} {ps : List MemPlace} (hr : Rd enc P w base spare held t R) (h : DataW.Trod enc P w base spare held t v d ps) : R v.cells.toList := by
  obtain ⟨fuel, hf⟩ := h
  exact hr _ _ _ hf
theorem at_slice {α : Type} {RE : α → List Value → Prop} {sz : Nat} {r : Reach} {b0 : Nat} {v : Value} {d : DataW H} {ps : List MemPlace} (ht : P.underlying t = some (.slice e)) (hval : Value.okWide P w r b0 t v)
    (hr : Rd enc P w base spare held t (fun c => ∃ v xs, c = [v] ∧ Slc RE sz (mem w) v xs)) (h : DataW.Trod enc P w base spare held t v d ps) : ∃ xs, Slc RE sz (mem w) v xs := by
  obtain ⟨a, len, cap, rfl⟩ := okWide_slice ht hval
  obtain ⟨u, xs, e1, h2⟩ := rd_at hr h
  simp [Value.cells] at e1
  subst e1
  exact ⟨xs, h2⟩
theorem at_agg {R : List Value → Prop} {v : Value} {d : DataW H} {ps : List MemPlace} (hv : ∃ cs, v = .agg cs) (hr : Rd enc P w base spare held t R) (h : DataW.Trod enc P w base spare held t v d ps) : ∃ cs : List Value, v = .agg cs.toArray ∧ R cs := by
  obtain ⟨cs, rfl⟩ := hv
  exact ⟨cs.toList, by simp, rd_at hr h⟩
theorem agg_struct {fs : Array Field} {r : Reach} {b0 : Nat} {v : Value} (ht : P.underlying t = some (.struct fs)) (hval : Value.okWide P w r b0 t v) : ∃ cs, v = .agg cs := let ⟨cs, h, _⟩ := okWide_struct ht hval; ⟨cs, h⟩
theorem again {W W' : World} {v : Value} {d : DataW H} {ps : List MemPlace} (hl : laidOutB P = true) (hr : P.readableRec t = true) (hrow : t < P.types.size) (h : DataW.Trod enc P W 0 (fun _ => true) true t v d ps) (hb : Below W.heap.size W W') :
    DataW.Trod enc P W' 0 (fun b => decide (b < W.heap.size)) true t v d ps :=
  Below.trod hl hr hrow h hb (fun p hp => let ⟨n, hn⟩ := h; DataW.trod_lt n _ _ _ hn p hp)
end
end Go.Proofs.YtdngkgkkblfcjaaGreatDoor.K
namespace Go.Proofs.YtdngkgkkblfcjaaGreatDoor.K
open Go Go.Proofs
set_option linter.unusedVariables false
theorem laid_each {P : Program} {W : World} : ∀ {l : List (String × DataW Unit)} {ps : List MemPlace}, DataW.LaidVars P W l ps → ∀ {n : String} {d : DataW Unit}, (n, d) ∈ l →
    ∃ g t cs fuel p, P.globalNamed n = some g ∧ (P.globals[g]?).map (·.type) = some t ∧ W.var? P n = some cs ∧ DataW.trod (fun _ => ()) P W 0 (fun _ => true) false fuel t cs.toList = some (d, p) ∧ ∀ x ∈ MemPlace.row ⟨g, 0, none⟩ cs.size ++ p, x ∈ ps
  | [], ps, h, n, d, hm => by cases hm
  | (m, e) :: r, ps, h, n, d, hm => by
    obtain ⟨g, t, cs, fuel, p, q, hg, ht, hv, hd, hr, rfl⟩ := h
    rcases List.mem_cons.1 hm with e1 | hm
    · cases e1
      exact ⟨g, t, cs, fuel, p, hg, ht, hv, hd, fun x hx => List.mem_append_left _ hx⟩
    · obtain ⟨g', t', cs', fuel', p', a1, a2, a3, a4, a5⟩ := laid_each hr hm
      exact ⟨g', t', cs', fuel', p', a1, a2, a3, a4, fun x hx => List.mem_append_right _ (a5 x hx)⟩
theorem sent_of_laid {P : Program} {W : World} {laid : List (String × DataW Unit)} {code : ByteArray → Nat} {n : String} {text : List UInt8} {g : Nat} {ti tp ta te ts : TypeId} {ms : Array (String × TypeId)} {f : Field}
    (h : laidMet P laid W) (hm : (n, .iface "*errors.errorString" (.ptr (.agg [.lit (.string text)]))) ∈ laid) (hg : P.globalNamed n = some g) (ht : (P.globals[g]?).map (·.type) = some ti)
    (hi : P.underlying ti = some (.interface ms)) (hrow : ∀ u, P.typeName? 3 u = some "*errors.errorString" → u = tp) (hp : P.underlying tp = some (.pointer te)) (he : P.underlying te = some (.struct #[f])) (hft : f.type = ts) (hfo : f.offset = 0) (hs : P.underlying ts = some .string) (hc : P.cellsOf te = 1) (hcs : P.cellsOf ts = 1)
    (hcode : ∀ s : ByteArray, s.data.toList = text → code s = g + 1) : ∃ v, ErV tp ta code (mem W) (.b (g + 1)) v := by
  obtain ⟨ps, hl, hnd, hrows⟩ := h
  obtain ⟨g', t', cs, fuel, p, a1, a2, a3, a4, a5⟩ := laid_each hl hm
  obtain rfl := Option.some.inj (hg.symm.trans a1)
  obtain rfl := Option.some.inj (ht.symm.trans a2)
  obtain ⟨l⟩ := cs
  have ok : ∀ u v, l = [.iface u v] → Value.okWide P W .any 0 u v := fun u v e => by
    subst e
    exact (hrows g 0 (a5 _ (by simp [MemPlace.row]))).2 u v (by simpa using World.var?_cell hg a3 0)
  obtain ⟨a, s, rfl, hcell, hst, hz, rfl⟩ := errorString_of_trod hi hrow hp he hft hfo hs hc hcs a4 ok
  obtain ⟨c, t, hb⟩ := (hrows a.block a.off (a5 _ (by simp [MemPlace.row]))).1
  refine ⟨.iface tp (.pointer (some a)), .inr ⟨by omega, mem_cell (by simpa using World.var?_cell hg a3 0), a, s, c, t, rfl, hb, hcode s hst, fun w hw => ?_⟩⟩
  have e : w.heap[a.block]? = W.heap[a.block]? := (hw _ _ hb).trans hb.symm
  unfold World.cell? at hcell ⊢
  rw [e]
  exact hcell
end Go.Proofs.YtdngkgkkblfcjaaGreatDoor.K
namespace Go.Proofs.YtdngkgkkblfcjaaGreatDoor.T
open Go Go.Proofs Go.Proofs.YtdngkgkkblfcjaaGreatDoor.K
set_option linter.unusedVariables false
set_option linter.unusedSimpArgs false
set_option maxRecDepth 100000
theorem own : ownKnob Tryz.prog.godebug = none := by kernel_rfl
noncomputable def low : Nat := (World.holding Tryz.prog default ⟨#[], #[], []⟩).heap.size
abbrev es0 : ByteArray := { data := #[107, 110, 111, 119, 110, 32, 97, 108, 114, 101, 97, 100, 121] }
abbrev es1 : ByteArray := { data := #[110, 111, 32, 115, 117, 99, 104, 32, 112, 97, 114, 101, 110, 116] }
abbrev es2 : ByteArray := { data := #[116, 104, 101, 114, 101, 32, 105, 115, 32, 110, 111, 32, 114, 111, 111, 109] }
abbrev es3 : ByteArray := { data := #[97, 32, 110, 117, 109, 98, 101, 114, 32, 111, 117, 116, 32, 111, 102, 32, 105, 116, 115, 32, 114, 97, 110, 103, 101] }
abbrev es5 : ByteArray := { data := #[105, 116, 32, 101, 110, 100, 115, 32, 116, 111, 111, 32, 101, 97, 114, 108, 121] }
abbrev es6 : ByteArray := { data := #[110, 111, 116, 32, 97, 115, 32, 105, 116, 32, 104, 97, 115, 32, 116, 111, 32, 98, 101] }
abbrev es7 : ByteArray := { data := #[116, 111, 111, 32, 108, 111, 110, 103] }
abbrev es8 : ByteArray := { data := #[116, 111, 111, 32, 109, 97, 110, 121, 44, 32, 111, 114, 32, 116, 111, 111, 32, 102, 101, 119] }
abbrev es9 : ByteArray := { data := #[97, 110, 32, 97, 109, 111, 117, 110, 116, 32, 116, 104, 97, 116, 32, 99, 97, 110, 39, 116, 32, 98, 101] }
abbrev es10 : ByteArray := { data := #[111, 110, 101, 32, 116, 104, 105, 110, 103, 32, 116, 119, 105, 99, 101] }
abbrev es11 : ByteArray := { data := #[110, 111, 32, 102, 105, 114, 115, 116, 32, 116, 114, 97, 110, 115, 97, 99, 116, 105, 111, 110, 32, 119, 104, 101, 114, 101, 32, 116, 104, 101, 114, 101, 32, 104, 97, 115, 32, 116, 111, 32, 98, 101, 32, 111, 110, 101, 44, 32, 111, 114, 32, 111, 110, 101, 32, 119, 104, 101, 114, 101, 32, 116, 104, 101, 114, 101, 32, 109, 97, 121, 32, 98, 101, 32, 110, 111, 110, 101] }
abbrev es12 : ByteArray := { data := #[97, 32, 114, 111, 111, 116, 32, 116, 104, 97, 116, 32, 100, 111, 101, 115, 32, 110, 111, 116, 32, 102, 105, 116] }
abbrev es13 : ByteArray := { data := #[98, 101, 104, 105, 110, 100, 32, 119, 104, 97, 116, 32, 105, 115, 32, 110, 111, 116, 32, 118, 97, 108, 105, 100] }
abbrev es14 : ByteArray := { data := #[97, 32, 116, 105, 109, 101, 32, 116, 104, 97, 116, 32, 105, 115, 32, 116, 111, 111, 32, 101, 97, 114, 108, 121] }
abbrev es15 : ByteArray := { data := #[97, 32, 99, 111, 105, 110, 32, 116, 104, 97, 116, 32, 105, 115, 32, 110, 111, 116, 32, 116, 104, 101, 114, 101] }
abbrev es16 : ByteArray := { data := #[97, 32, 107, 101, 121, 32, 116, 104, 97, 116, 32, 100, 111, 101, 115, 32, 110, 111, 116, 32, 102, 105, 116] }
abbrev es17 : ByteArray := { data := #[97, 32, 99, 111, 105, 110, 32, 116, 104, 97, 116, 32, 105, 115, 32, 116, 111, 111, 32, 121, 111, 117, 110, 103] }
abbrev es18 : ByteArray := { data := #[116, 111, 111, 32, 101, 97, 114, 108, 121, 32, 116, 111, 32, 98, 101, 32, 116, 97, 107, 101, 110] }
abbrev es19 : ByteArray := { data := #[108, 101, 115, 115, 32, 99, 111, 109, 101, 115, 32, 105, 110, 32, 116, 104, 97, 110, 32, 103, 111, 101, 115, 32, 111, 117, 116] }
abbrev es20 : ByteArray := { data := #[109, 111, 114, 101, 32, 116, 104, 97, 110, 32, 116, 104, 101, 32, 114, 101, 119, 97, 114, 100] }
abbrev es21 : ByteArray := { data := #[97, 32, 99, 111, 105, 110, 32, 116, 104, 97, 116, 32, 105, 115, 32, 115, 112, 101, 110, 116, 32, 105, 110, 32, 116, 104, 101, 32, 112, 111, 111, 108] }
abbrev es22 : ByteArray := { data := #[116, 111, 111, 32, 109, 97, 110, 121, 32, 116, 104, 97, 116, 32, 104, 97, 110, 103, 32, 116, 111, 103, 101, 116, 104, 101, 114] }
abbrev es23 : ByteArray := { data := #[116, 104, 101, 114, 101, 32, 105, 115, 32, 110, 111, 110, 101] }
abbrev es24 : ByteArray := { data := #[110, 111, 32, 115, 117, 99, 104, 32, 119, 111, 114, 100] }
abbrev es25 : ByteArray := { data := #[110, 111, 116, 32, 97, 32, 110, 117, 109, 98, 101, 114] }
def setC (v : Value) : Obj → Obj
  | .cells _ t frozen => .cells #[v] t frozen
  | x => x
noncomputable def laidWorld (os : Os) : World :=
  let w0 := World.holding Tryz.prog os ⟨#[.cells #[.string es0] 391, .cells #[.string es1] 391, .cells #[.string es2] 391, .cells #[.string es3] 391, .cells #[.string es5] 391, .cells #[.string es6] 391, .cells #[.string es7] 391, .cells #[.string es8] 391, .cells #[.string es9] 391, .cells #[.string es10] 391, .cells #[.string es11] 391, .cells #[.string es12] 391, .cells #[.string es13] 391, .cells #[.string es14] 391, .cells #[.string es15] 391, .cells #[.string es16] 391, .cells #[.string es17] 391, .cells #[.string es18] 391, .cells #[.string es19] 391, .cells #[.string es20] 391, .cells #[.string es21] 391, .cells #[.string es22] 391, .cells #[.string es23] 391, .cells #[.string es24] 391, .cells #[.string es25] 391], #[], []⟩
  { w0 with heap := (((((((((((((((((((((((((w0.heap.modify 0 (setC (.iface 374 (.pointer (some ⟨low + 0, 0, none⟩))))).modify 1 (setC (.iface 374 (.pointer (some ⟨low + 1, 0, none⟩))))).modify 2 (setC (.iface 374 (.pointer (some ⟨low + 2, 0, none⟩))))).modify 3 (setC (.iface 374 (.pointer (some ⟨low + 3, 0, none⟩))))).modify 5 (setC (.iface 374 (.pointer (some ⟨low + 4, 0, none⟩))))).modify 6 (setC (.iface 374 (.pointer (some ⟨low + 5, 0, none⟩))))).modify 7 (setC (.iface 374 (.pointer (some ⟨low + 6, 0, none⟩))))).modify 8 (setC (.iface 374 (.pointer (some ⟨low + 7, 0, none⟩))))).modify 9 (setC (.iface 374 (.pointer (some ⟨low + 8, 0, none⟩))))).modify 10 (setC (.iface 374 (.pointer (some ⟨low + 9, 0, none⟩))))).modify 11 (setC (.iface 374 (.pointer (some ⟨low + 10, 0, none⟩))))).modify 12 (setC (.iface 374 (.pointer (some ⟨low + 11, 0, none⟩))))).modify 13 (setC (.iface 374 (.pointer (some ⟨low + 12, 0, none⟩))))).modify 14 (setC (.iface 374 (.pointer (some ⟨low + 13, 0, none⟩))))).modify 15 (setC (.iface 374 (.pointer (some ⟨low + 14, 0, none⟩))))).modify 16 (setC (.iface 374 (.pointer (some ⟨low + 15, 0, none⟩))))).modify 17 (setC (.iface 374 (.pointer (some ⟨low + 16, 0, none⟩))))).modify 18 (setC (.iface 374 (.pointer (some ⟨low + 17, 0, none⟩))))).modify 19 (setC (.iface 374 (.pointer (some ⟨low + 18, 0, none⟩))))).modify 20 (setC (.iface 374 (.pointer (some ⟨low + 19, 0, none⟩))))).modify 21 (setC (.iface 374 (.pointer (some ⟨low + 20, 0, none⟩))))).modify 22 (setC (.iface 374 (.pointer (some ⟨low + 21, 0, none⟩))))).modify 23 (setC (.iface 374 (.pointer (some ⟨low + 22, 0, none⟩))))).modify 24 (setC (.iface 374 (.pointer (some ⟨low + 23, 0, none⟩))))).modify 25 (setC (.iface 374 (.pointer (some ⟨low + 24, 0, none⟩))))) }
theorem starE : "*" ++ "errors.errorString" = "*errors.errorString" := by decide
theorem rowE (u : TypeId) (h : Tryz.prog.typeName? 3 u = some "*errors.errorString") : u = 374 :=
  typeName_ptr_named (nm := "errors.errorString") (by rw [starE]; kernel_rfl) (by kernel_rfl) (by decide) u (by rw [starE]; exact h)
theorem ceE : Tryz.prog.cellsOf 391 = 1 := by kernel_rfl
theorem csE : Tryz.prog.cellsOf 9 = 1 := by kernel_rfl
theorem sent0 {W : World} {l : List (String × DataW Unit)} (h : laidMet Tryz.prog l W) (hm : ("sargasso/api.ErrKnown", .iface "*errors.errorString" (.ptr (.agg [.lit (.string [107, 110, 111, 119, 110, 32, 97, 108, 114, 101, 97, 100, 121])]))) ∈ l) : ∃ v, ErS (mem W) v (Er.b 1) :=
  sent_of_laid h hm (by kernel_rfl) (by kernel_rfl) Tryz.underlying37 rowE Tryz.underlying374 Tryz.underlying391 rfl rfl Tryz.underlying9 ceE csE (fun s hs => by unfold errCode; rw [hs]; kernel_rfl)
theorem sent1 {W : World} {l : List (String × DataW Unit)} (h : laidMet Tryz.prog l W) (hm : ("sargasso/api.ErrParent", .iface "*errors.errorString" (.ptr (.agg [.lit (.string [110, 111, 32, 115, 117, 99, 104, 32, 112, 97, 114, 101, 110, 116])]))) ∈ l) : ∃ v, ErS (mem W) v (Er.b 2) :=
  sent_of_laid h hm (by kernel_rfl) (by kernel_rfl) Tryz.underlying37 rowE Tryz.underlying374 Tryz.underlying391 rfl rfl Tryz.underlying9 ceE csE (fun s hs => by unfold errCode; rw [hs]; kernel_rfl)
theorem sent2 {W : World} {l : List (String × DataW Unit)} (h : laidMet Tryz.prog l W) (hm : ("sargasso/api.ErrFull", .iface "*errors.errorString" (.ptr (.agg [.lit (.string [116, 104, 101, 114, 101, 32, 105, 115, 32, 110, 111, 32, 114, 111, 111, 109])]))) ∈ l) : ∃ v, ErS (mem W) v (Er.b 3) :=
  sent_of_laid h hm (by kernel_rfl) (by kernel_rfl) Tryz.underlying37 rowE Tryz.underlying374 Tryz.underlying391 rfl rfl Tryz.underlying9 ceE csE (fun s hs => by unfold errCode; rw [hs]; kernel_rfl)
theorem sent3 {W : World} {l : List (String × DataW Unit)} (h : laidMet Tryz.prog l W) (hm : ("sargasso/api.ErrRange", .iface "*errors.errorString" (.ptr (.agg [.lit (.string [97, 32, 110, 117, 109, 98, 101, 114, 32, 111, 117, 116, 32, 111, 102, 32, 105, 116, 115, 32, 114, 97, 110, 103, 101])]))) ∈ l) : ∃ v, ErS (mem W) v (Er.b 4) :=
  sent_of_laid h hm (by kernel_rfl) (by kernel_rfl) Tryz.underlying37 rowE Tryz.underlying374 Tryz.underlying391 rfl rfl Tryz.underlying9 ceE csE (fun s hs => by unfold errCode; rw [hs]; kernel_rfl)
theorem sent5 {W : World} {l : List (String × DataW Unit)} (h : laidMet Tryz.prog l W) (hm : ("sargasso/api.ErrEnd", .iface "*errors.errorString" (.ptr (.agg [.lit (.string [105, 116, 32, 101, 110, 100, 115, 32, 116, 111, 111, 32, 101, 97, 114, 108, 121])]))) ∈ l) : ∃ v, ErS (mem W) v (Er.b 6) :=
  sent_of_laid h hm (by kernel_rfl) (by kernel_rfl) Tryz.underlying37 rowE Tryz.underlying374 Tryz.underlying391 rfl rfl Tryz.underlying9 ceE csE (fun s hs => by unfold errCode; rw [hs]; kernel_rfl)
theorem sent6 {W : World} {l : List (String × DataW Unit)} (h : laidMet Tryz.prog l W) (hm : ("sargasso/api.ErrShape", .iface "*errors.errorString" (.ptr (.agg [.lit (.string [110, 111, 116, 32, 97, 115, 32, 105, 116, 32, 104, 97, 115, 32, 116, 111, 32, 98, 101])]))) ∈ l) : ∃ v, ErS (mem W) v (Er.b 7) :=
  sent_of_laid h hm (by kernel_rfl) (by kernel_rfl) Tryz.underlying37 rowE Tryz.underlying374 Tryz.underlying391 rfl rfl Tryz.underlying9 ceE csE (fun s hs => by unfold errCode; rw [hs]; kernel_rfl)
theorem sent7 {W : World} {l : List (String × DataW Unit)} (h : laidMet Tryz.prog l W) (hm : ("sargasso/api.ErrLong", .iface "*errors.errorString" (.ptr (.agg [.lit (.string [116, 111, 111, 32, 108, 111, 110, 103])]))) ∈ l) : ∃ v, ErS (mem W) v (Er.b 8) :=
  sent_of_laid h hm (by kernel_rfl) (by kernel_rfl) Tryz.underlying37 rowE Tryz.underlying374 Tryz.underlying391 rfl rfl Tryz.underlying9 ceE csE (fun s hs => by unfold errCode; rw [hs]; kernel_rfl)
theorem sent8 {W : World} {l : List (String × DataW Unit)} (h : laidMet Tryz.prog l W) (hm : ("sargasso/api.ErrMany", .iface "*errors.errorString" (.ptr (.agg [.lit (.string [116, 111, 111, 32, 109, 97, 110, 121, 44, 32, 111, 114, 32, 116, 111, 111, 32, 102, 101, 119])]))) ∈ l) : ∃ v, ErS (mem W) v (Er.b 9) :=
  sent_of_laid h hm (by kernel_rfl) (by kernel_rfl) Tryz.underlying37 rowE Tryz.underlying374 Tryz.underlying391 rfl rfl Tryz.underlying9 ceE csE (fun s hs => by unfold errCode; rw [hs]; kernel_rfl)
theorem sent9 {W : World} {l : List (String × DataW Unit)} (h : laidMet Tryz.prog l W) (hm : ("sargasso/api.ErrValue", .iface "*errors.errorString" (.ptr (.agg [.lit (.string [97, 110, 32, 97, 109, 111, 117, 110, 116, 32, 116, 104, 97, 116, 32, 99, 97, 110, 39, 116, 32, 98, 101])]))) ∈ l) : ∃ v, ErS (mem W) v (Er.b 10) :=
  sent_of_laid h hm (by kernel_rfl) (by kernel_rfl) Tryz.underlying37 rowE Tryz.underlying374 Tryz.underlying391 rfl rfl Tryz.underlying9 ceE csE (fun s hs => by unfold errCode; rw [hs]; kernel_rfl)
theorem sent10 {W : World} {l : List (String × DataW Unit)} (h : laidMet Tryz.prog l W) (hm : ("sargasso/api.ErrTwice", .iface "*errors.errorString" (.ptr (.agg [.lit (.string [111, 110, 101, 32, 116, 104, 105, 110, 103, 32, 116, 119, 105, 99, 101])]))) ∈ l) : ∃ v, ErS (mem W) v (Er.b 11) :=
  sent_of_laid h hm (by kernel_rfl) (by kernel_rfl) Tryz.underlying37 rowE Tryz.underlying374 Tryz.underlying391 rfl rfl Tryz.underlying9 ceE csE (fun s hs => by unfold errCode; rw [hs]; kernel_rfl)
theorem sent11 {W : World} {l : List (String × DataW Unit)} (h : laidMet Tryz.prog l W) (hm : ("sargasso/api.ErrBase", .iface "*errors.errorString" (.ptr (.agg [.lit (.string [110, 111, 32, 102, 105, 114, 115, 116, 32, 116, 114, 97, 110, 115, 97, 99, 116, 105, 111, 110, 32, 119, 104, 101, 114, 101, 32, 116, 104, 101, 114, 101, 32, 104, 97, 115, 32, 116, 111, 32, 98, 101, 32, 111, 110, 101, 44, 32, 111, 114, 32, 111, 110, 101, 32, 119, 104, 101, 114, 101, 32, 116, 104, 101, 114, 101, 32, 109, 97, 121, 32, 98, 101, 32, 110, 111, 110, 101])]))) ∈ l) : ∃ v, ErS (mem W) v (Er.b 12) :=
  sent_of_laid h hm (by kernel_rfl) (by kernel_rfl) Tryz.underlying37 rowE Tryz.underlying374 Tryz.underlying391 rfl rfl Tryz.underlying9 ceE csE (fun s hs => by unfold errCode; rw [hs]; kernel_rfl)
theorem sent12 {W : World} {l : List (String × DataW Unit)} (h : laidMet Tryz.prog l W) (hm : ("sargasso/api.ErrRoot", .iface "*errors.errorString" (.ptr (.agg [.lit (.string [97, 32, 114, 111, 111, 116, 32, 116, 104, 97, 116, 32, 100, 111, 101, 115, 32, 110, 111, 116, 32, 102, 105, 116])]))) ∈ l) : ∃ v, ErS (mem W) v (Er.b 13) :=
  sent_of_laid h hm (by kernel_rfl) (by kernel_rfl) Tryz.underlying37 rowE Tryz.underlying374 Tryz.underlying391 rfl rfl Tryz.underlying9 ceE csE (fun s hs => by unfold errCode; rw [hs]; kernel_rfl)
theorem sent13 {W : World} {l : List (String × DataW Unit)} (h : laidMet Tryz.prog l W) (hm : ("sargasso/api.ErrInvalid", .iface "*errors.errorString" (.ptr (.agg [.lit (.string [98, 101, 104, 105, 110, 100, 32, 119, 104, 97, 116, 32, 105, 115, 32, 110, 111, 116, 32, 118, 97, 108, 105, 100])]))) ∈ l) : ∃ v, ErS (mem W) v (Er.b 14) :=
  sent_of_laid h hm (by kernel_rfl) (by kernel_rfl) Tryz.underlying37 rowE Tryz.underlying374 Tryz.underlying391 rfl rfl Tryz.underlying9 ceE csE (fun s hs => by unfold errCode; rw [hs]; kernel_rfl)
theorem sent14 {W : World} {l : List (String × DataW Unit)} (h : laidMet Tryz.prog l W) (hm : ("sargasso/api.ErrTime", .iface "*errors.errorString" (.ptr (.agg [.lit (.string [97, 32, 116, 105, 109, 101, 32, 116, 104, 97, 116, 32, 105, 115, 32, 116, 111, 111, 32, 101, 97, 114, 108, 121])]))) ∈ l) : ∃ v, ErS (mem W) v (Er.b 15) :=
  sent_of_laid h hm (by kernel_rfl) (by kernel_rfl) Tryz.underlying37 rowE Tryz.underlying374 Tryz.underlying391 rfl rfl Tryz.underlying9 ceE csE (fun s hs => by unfold errCode; rw [hs]; kernel_rfl)
theorem sent15 {W : World} {l : List (String × DataW Unit)} (h : laidMet Tryz.prog l W) (hm : ("sargasso/api.ErrMissing", .iface "*errors.errorString" (.ptr (.agg [.lit (.string [97, 32, 99, 111, 105, 110, 32, 116, 104, 97, 116, 32, 105, 115, 32, 110, 111, 116, 32, 116, 104, 101, 114, 101])]))) ∈ l) : ∃ v, ErS (mem W) v (Er.b 16) :=
  sent_of_laid h hm (by kernel_rfl) (by kernel_rfl) Tryz.underlying37 rowE Tryz.underlying374 Tryz.underlying391 rfl rfl Tryz.underlying9 ceE csE (fun s hs => by unfold errCode; rw [hs]; kernel_rfl)
theorem sent16 {W : World} {l : List (String × DataW Unit)} (h : laidMet Tryz.prog l W) (hm : ("sargasso/api.ErrKey", .iface "*errors.errorString" (.ptr (.agg [.lit (.string [97, 32, 107, 101, 121, 32, 116, 104, 97, 116, 32, 100, 111, 101, 115, 32, 110, 111, 116, 32, 102, 105, 116])]))) ∈ l) : ∃ v, ErS (mem W) v (Er.b 17) :=
  sent_of_laid h hm (by kernel_rfl) (by kernel_rfl) Tryz.underlying37 rowE Tryz.underlying374 Tryz.underlying391 rfl rfl Tryz.underlying9 ceE csE (fun s hs => by unfold errCode; rw [hs]; kernel_rfl)
theorem sent17 {W : World} {l : List (String × DataW Unit)} (h : laidMet Tryz.prog l W) (hm : ("sargasso/api.ErrYoung", .iface "*errors.errorString" (.ptr (.agg [.lit (.string [97, 32, 99, 111, 105, 110, 32, 116, 104, 97, 116, 32, 105, 115, 32, 116, 111, 111, 32, 121, 111, 117, 110, 103])]))) ∈ l) : ∃ v, ErS (mem W) v (Er.b 18) :=
  sent_of_laid h hm (by kernel_rfl) (by kernel_rfl) Tryz.underlying37 rowE Tryz.underlying374 Tryz.underlying391 rfl rfl Tryz.underlying9 ceE csE (fun s hs => by unfold errCode; rw [hs]; kernel_rfl)
theorem sent18 {W : World} {l : List (String × DataW Unit)} (h : laidMet Tryz.prog l W) (hm : ("sargasso/api.ErrEarly", .iface "*errors.errorString" (.ptr (.agg [.lit (.string [116, 111, 111, 32, 101, 97, 114, 108, 121, 32, 116, 111, 32, 98, 101, 32, 116, 97, 107, 101, 110])]))) ∈ l) : ∃ v, ErS (mem W) v (Er.b 19) :=
  sent_of_laid h hm (by kernel_rfl) (by kernel_rfl) Tryz.underlying37 rowE Tryz.underlying374 Tryz.underlying391 rfl rfl Tryz.underlying9 ceE csE (fun s hs => by unfold errCode; rw [hs]; kernel_rfl)
theorem sent19 {W : World} {l : List (String × DataW Unit)} (h : laidMet Tryz.prog l W) (hm : ("sargasso/api.ErrLess", .iface "*errors.errorString" (.ptr (.agg [.lit (.string [108, 101, 115, 115, 32, 99, 111, 109, 101, 115, 32, 105, 110, 32, 116, 104, 97, 110, 32, 103, 111, 101, 115, 32, 111, 117, 116])]))) ∈ l) : ∃ v, ErS (mem W) v (Er.b 20) :=
  sent_of_laid h hm (by kernel_rfl) (by kernel_rfl) Tryz.underlying37 rowE Tryz.underlying374 Tryz.underlying391 rfl rfl Tryz.underlying9 ceE csE (fun s hs => by unfold errCode; rw [hs]; kernel_rfl)
theorem sent20 {W : World} {l : List (String × DataW Unit)} (h : laidMet Tryz.prog l W) (hm : ("sargasso/api.ErrReward", .iface "*errors.errorString" (.ptr (.agg [.lit (.string [109, 111, 114, 101, 32, 116, 104, 97, 110, 32, 116, 104, 101, 32, 114, 101, 119, 97, 114, 100])]))) ∈ l) : ∃ v, ErS (mem W) v (Er.b 21) :=
  sent_of_laid h hm (by kernel_rfl) (by kernel_rfl) Tryz.underlying37 rowE Tryz.underlying374 Tryz.underlying391 rfl rfl Tryz.underlying9 ceE csE (fun s hs => by unfold errCode; rw [hs]; kernel_rfl)
theorem sent21 {W : World} {l : List (String × DataW Unit)} (h : laidMet Tryz.prog l W) (hm : ("sargasso/api.ErrClash", .iface "*errors.errorString" (.ptr (.agg [.lit (.string [97, 32, 99, 111, 105, 110, 32, 116, 104, 97, 116, 32, 105, 115, 32, 115, 112, 101, 110, 116, 32, 105, 110, 32, 116, 104, 101, 32, 112, 111, 111, 108])]))) ∈ l) : ∃ v, ErS (mem W) v (Er.b 22) :=
  sent_of_laid h hm (by kernel_rfl) (by kernel_rfl) Tryz.underlying37 rowE Tryz.underlying374 Tryz.underlying391 rfl rfl Tryz.underlying9 ceE csE (fun s hs => by unfold errCode; rw [hs]; kernel_rfl)
theorem sent22 {W : World} {l : List (String × DataW Unit)} (h : laidMet Tryz.prog l W) (hm : ("sargasso/api.ErrLimit", .iface "*errors.errorString" (.ptr (.agg [.lit (.string [116, 111, 111, 32, 109, 97, 110, 121, 32, 116, 104, 97, 116, 32, 104, 97, 110, 103, 32, 116, 111, 103, 101, 116, 104, 101, 114])]))) ∈ l) : ∃ v, ErS (mem W) v (Er.b 23) :=
  sent_of_laid h hm (by kernel_rfl) (by kernel_rfl) Tryz.underlying37 rowE Tryz.underlying374 Tryz.underlying391 rfl rfl Tryz.underlying9 ceE csE (fun s hs => by unfold errCode; rw [hs]; kernel_rfl)
theorem sent23 {W : World} {l : List (String × DataW Unit)} (h : laidMet Tryz.prog l W) (hm : ("sargasso/api.ErrNone", .iface "*errors.errorString" (.ptr (.agg [.lit (.string [116, 104, 101, 114, 101, 32, 105, 115, 32, 110, 111, 110, 101])]))) ∈ l) : ∃ v, ErS (mem W) v (Er.b 24) :=
  sent_of_laid h hm (by kernel_rfl) (by kernel_rfl) Tryz.underlying37 rowE Tryz.underlying374 Tryz.underlying391 rfl rfl Tryz.underlying9 ceE csE (fun s hs => by unfold errCode; rw [hs]; kernel_rfl)
theorem sent24 {W : World} {l : List (String × DataW Unit)} (h : laidMet Tryz.prog l W) (hm : ("sargasso/api.ErrWord", .iface "*errors.errorString" (.ptr (.agg [.lit (.string [110, 111, 32, 115, 117, 99, 104, 32, 119, 111, 114, 100])]))) ∈ l) : ∃ v, ErS (mem W) v (Er.b 25) :=
  sent_of_laid h hm (by kernel_rfl) (by kernel_rfl) Tryz.underlying37 rowE Tryz.underlying374 Tryz.underlying391 rfl rfl Tryz.underlying9 ceE csE (fun s hs => by unfold errCode; rw [hs]; kernel_rfl)
theorem sent25 {W : World} {l : List (String × DataW Unit)} (h : laidMet Tryz.prog l W) (hm : ("sargasso/api.ErrNumber", .iface "*errors.errorString" (.ptr (.agg [.lit (.string [110, 111, 116, 32, 97, 32, 110, 117, 109, 98, 101, 114])]))) ∈ l) : ∃ v, ErS (mem W) v (Er.b 26) :=
  sent_of_laid h hm (by kernel_rfl) (by kernel_rfl) Tryz.underlying37 rowE Tryz.underlying374 Tryz.underlying391 rfl rfl Tryz.underlying9 ceE csE (fun s hs => by unfold errCode; rw [hs]; kernel_rfl)
end Go.Proofs.YtdngkgkkblfcjaaGreatDoor.T
namespace Go.Proofs.YtdngkgkkblfcjaaGreatDoor.T
open Go Go.Proofs Go.Proofs.YtdngkgkkblfcjaaGreatDoor.K
set_option linter.unusedVariables false
set_option linter.unusedSimpArgs false
theorem laid : laidOutB Tryz.prog = true := by kernel_rfl
theorem cl3 : Tryz.prog.cellsOf 3 = 1 := by kernel_rfl
theorem rr3 : Tryz.prog.readableRec 3 = true := by kernel_rfl
theorem tr3 : 3 < Tryz.prog.types.size := of_decide_eq_true (by kernel_rfl)
theorem rr22 : Tryz.prog.readableRec 22 = true := by kernel_rfl
theorem tr22 : 22 < Tryz.prog.types.size := of_decide_eq_true (by kernel_rfl)
theorem cl23 : Tryz.prog.cellsOf 23 = 1 := by kernel_rfl
theorem cl5 : Tryz.prog.cellsOf 5 = 1 := by kernel_rfl
theorem cl25 : Tryz.prog.cellsOf 25 = 32 := by kernel_rfl
theorem cl27 : Tryz.prog.cellsOf 27 = 68 := by kernel_rfl
theorem rr27 : Tryz.prog.readableRec 27 = true := by kernel_rfl
theorem tr27 : 27 < Tryz.prog.types.size := of_decide_eq_true (by kernel_rfl)
section
variable {H : Type} {enc : TypeId × Value → H} {w : World} {base : Nat} {spare : Nat → Bool} {held : Bool}
theorem rd3 : Rd enc Tryz.prog w base spare held 3 (fun c => ∃ n, RI .i64 n c) := rd_int Tryz.underlying3
theorem rd22 : Rd enc Tryz.prog w base spare held 22 (fun c => ∃ v xs, c = [v] ∧ Slc (RI .i64) 1 (mem w) v xs) := rd_slice Tryz.underlying22 cl3 (by decide) rd3
theorem rd23 : Rd enc Tryz.prog w base spare held 23 (fun c => ∃ n, RI .u32 n c) := rd_int Tryz.underlying23
theorem rd25 : Rd enc Tryz.prog w base spare held 25 (fun c => ∃ xs, RA .u8 32 xs c) := rd_array Tryz.underlying25 Tryz.underlying5 cl5 cl25
theorem rd27 : Rd enc Tryz.prog w base spare held 27 (fun c => ∃ x, RHead (mem w) x c) := by
  intro fuel cs x h
  obtain ⟨hl, hf⟩ := rd_struct Tryz.underlying27 h
  rw [cl27] at hl
  obtain ⟨n0, y0, h0⟩ := hf 0 _ rfl
  obtain ⟨x0, e0, w0⟩ := rd23 _ _ _ h0
  have e0 : (cs.drop 0).take (Tryz.prog.cellsOf 23) = _ := e0
  rw [cl23] at e0
  have c0 := chop cs 0 1 1 rfl
  rw [e0] at c0
  obtain ⟨n1, y1, h1⟩ := hf 1 _ rfl
  obtain ⟨x1, e1, w1⟩ := rd25 _ _ _ h1
  have e1 : (cs.drop 1).take (Tryz.prog.cellsOf 25) = _ := e1
  rw [cl25] at e1
  have c1 := chop cs 1 32 33 rfl
  rw [e1] at c1
  obtain ⟨n2, y2, h2⟩ := hf 2 _ rfl
  obtain ⟨x2, e2, w2⟩ := rd25 _ _ _ h2
  have e2 : (cs.drop 33).take (Tryz.prog.cellsOf 25) = _ := e2
  rw [cl25] at e2
  have c2 := chop cs 33 32 65 rfl
  rw [e2] at c2
  obtain ⟨n3, y3, h3⟩ := hf 3 _ rfl
  obtain ⟨x3, e3, w3⟩ := rd23 _ _ _ h3
  have e3 : (cs.drop 65).take (Tryz.prog.cellsOf 23) = _ := e3
  rw [cl23] at e3
  have c3 := chop cs 65 1 66 rfl
  rw [e3] at c3
  obtain ⟨n4, y4, h4⟩ := hf 4 _ rfl
  obtain ⟨x4, e4, w4⟩ := rd23 _ _ _ h4
  have e4 : (cs.drop 66).take (Tryz.prog.cellsOf 23) = _ := e4
  rw [cl23] at e4
  have c4 := chop cs 66 1 67 rfl
  rw [e4] at c4
  obtain ⟨n5, y5, h5⟩ := hf 5 _ rfl
  obtain ⟨x5, e5, w5⟩ := rd23 _ _ _ h5
  have e5 : (cs.drop 67).take (Tryz.prog.cellsOf 23) = _ := e5
  rw [cl23] at e5
  have c5 := chop cs 67 1 68 rfl
  rw [e5] at c5
  rw [List.drop_eq_nil_of_le (i := 68) (by omega)] at c5
  rw [c5] at c4
  rw [c4] at c3
  rw [c3] at c2
  rw [c2] at c1
  rw [c1] at c0
  rw [List.drop_zero] at c0
  exact ⟨⟨x0, x1, x2, x3, x4, x5⟩,  by rw [c0]; simp [HeadC], ⟨w0, w1, w2, w3, w4, w5⟩⟩
end
end Go.Proofs.YtdngkgkkblfcjaaGreatDoor.T
namespace Go.Proofs.YtdngkgkkblfcjaaGreatDoor.J
open Go Go.Proofs
theorem words_cons : ∀ (w r : List Char), w.all (· != ' ') = true → wordsSigns (w ++ ' ' :: r) = w :: wordsSigns r
  | [], r, _ => rfl
  | c :: w, r, h => by
    simp only [List.all_cons, Bool.and_eq_true, bne_iff_ne, ne_eq] at h
    have ih := words_cons w r h.2
    rw [List.cons_append, wordsSigns, ih]
    exact fun e => h.1 e
set_option maxRecDepth 100000
def w0 : List Char := ['h', 'a', 'r', 'n', 'e', 's', 's']
def w1 : List Char := ['9', '0', '6', 'd', '0', '9', 'e', '0', '1', 'b', '9', 'e', 'b', '0', '7', '3', 'f', '2', '4', 'a', 'f', '9', '9', 'c', '0', '0', 'e', 'c', 'b', 'e', '9', 'e', '9', '6', 'b', '0', '3', 'e', 'e', 'c', 'e', '3', '5', '0', '2', '0', 'a', 'f', '1', '5', '1', 'b', '8', 'f', '1', '2', '0', '6', '1', 'd', 'b', '2', 'e', '7']
def w2 : List Char := ['c', 'u', 't']
def w3 : List Char := ['a', 't', ' ', 's', 'a', 'r', 'g', 'a', 's', 's', 'o', '/', 's', 'a', 'r', 'g', 'a', 's', 's', 'o', 'l', 'a', 'w', '1', '1', '.', 'T', 'r', 'e', 'e', 'P', 'l', 'a', 'y', 's', ' ', 's', 'a', 'r', 'g', 'a', 's', 's', 'o', '/', 's', 'a', 'r', 'g', 'a', 's', 's', 'o', 'l', 'a', 'w', '2', '4', '.', 'R', 'e', 'd', 'o', 'P', 'l', 'a', 'y', 's']
theorem io0 : Tryz.prog.initOrder = String.ofList (w0 ++ ' ' :: (w1 ++ ' ' :: (w2 ++ ' ' :: w3))) := by kernel_rfl
theorem io : Tryz.prog.initOrder.toList = w0 ++ ' ' :: (w1 ++ ' ' :: (w2 ++ ' ' :: w3)) := (congrArg String.toList io0).trans String.toList_ofList
theorem ws : wordsSigns Tryz.prog.initOrder.toList = w0 :: w1 :: w2 :: wordsSigns w3 := by
  rw [io, words_cons _ _ (by kernel_rfl), words_cons _ _ (by kernel_rfl), words_cons _ _ (by kernel_rfl)]
theorem bm (R : List (List Char)) : behindMainWord (w0 :: w1 :: w2 :: R) = w2 :: R := by kernel_rfl
theorem main_of {P : Program} {R : List (List Char)} (h : wordsSigns P.initOrder.toList = w0 :: w1 :: R) : P.mainIs = some (true, w1) := by
  unfold Program.mainIs
  rw [h]
  kernel_rfl
theorem mainIs : Tryz.prog.mainIs = some (true, w1) := main_of ws
theorem bw : behindMainWord (wordsSigns Tryz.prog.initOrder.toList) = w2 :: wordsSigns w3 := by rw [ws, bm]
theorem st (R : List (List Char)) : stripLifts liftWords (w2 :: R) = ([], w2 :: R) := by kernel_rfl
theorem make_of {P : Program} {R : List (List Char)} (h : behindMainWord (wordsSigns P.initOrder.toList) = w2 :: R) : P.make = some .cut := by
  unfold Program.make
  rw [h]
  kernel_rfl
theorem head_of {P : Program} {R : List (List Char)} (h : behindMainWord (wordsSigns P.initOrder.toList) = w2 :: R) : P.headLifts = [] := by
  unfold Program.headLifts
  rw [h, st]
  kernel_rfl
theorem lifts_of {P : Program} {R : List (List Char)} (h : behindMainWord (wordsSigns P.initOrder.toList) = w2 :: R) : P.liftsFinal = false := by
  unfold Program.liftsFinal
  rw [h, head_of h]
  kernel_rfl
theorem may_of {P : Program} {R : List (List Char)} (h : behindMainWord (wordsSigns P.initOrder.toList) = w2 :: R) (h1 : P.laysLater = false) (h2 : P.bearsReflect = false) (h3 : P.doorFits [] = true) : P.mayEnter = true := by
  unfold Program.mayEnter
  rw [h]
  simp only [st, h1, h2, h3]
  kernel_rfl
theorem later : Tryz.prog.laysLater = false := by kernel_rfl
theorem reflect : Tryz.prog.bearsReflect = false := by kernel_rfl
theorem door : Tryz.prog.doorFits [] = true := by kernel_rfl
theorem make : Tryz.prog.make = some .cut := make_of bw
theorem lifts : Tryz.prog.liftsFinal = false := lifts_of bw
theorem may : Tryz.prog.mayEnter = true := may_of bw later reflect door
end Go.Proofs.YtdngkgkkblfcjaaGreatDoor.J
namespace Go.Proofs.YtdngkgkkblfcjaaGreatDoor.zTreePlays
open Go Go.Proofs Go.Proofs.YtdngkgkkblfcjaaGreatDoor.K Go.Proofs.YtdngkgkkblfcjaaGreatDoor.T
open Go.ChangeShapes Go.WideShapes Go.ChangeAt Go.RowKit
set_option linter.unusedVariables false
theorem met (os : Os) (args : Array Value) : laidMetH Tryz.prog Rows.treePlaysRow.laid ((laidWorld os).forCall (fun _ _ => 0) ⟨#[], args, []⟩).memory :=
  laidMetH_of_parts (laidMet_of_run' 8 (by kernel_rfl) (by kernel_rfl)) (by kernel_rfl)
set_option maxRecDepth 100000 in
theorem lifted (os : Os) (started : os.Started) (H : Type) (enc : TypeId × Value → H) :
    ReturnsInHanded {} Tryz.checked os 3 .any (fun w args => (Rows.treePlaysSpec.pre enc Tryz.prog Tryz.f3 [] false w args ∧ laidMetH Tryz.prog Rows.treePlaysRow.laid w) ∧ sizedMet enc Tryz.prog Tryz.f3 (OpenSpec.ofChange Rows.treePlaysSpec) false w args) (Rows.treePlaysSpec.post enc Tryz.prog Tryz.f3 false true false false) := by
  refine returnsInHanded_of_change_and (C := Tryz.checked) (X := fun w _ => laidMetH Tryz.prog Rows.treePlaysRow.laid w) (fun _ _ _ hh h => h.of_heap hh) own started (by kernel_rfl) Tryz.func3
    (ChangeSpec.witness_at (enc := enc) (C := Tryz.checked) (os := os) (X := fun w _ => laidMetH Tryz.prog Rows.treePlaysRow.laid w) false (laidWorld os) #[.slice none 0 0, .agg #[.int .u32 0, .int .u8 0, .int .u8 0, .int .u8 0, .int .u8 0, .int .u8 0, .int .u8 0, .int .u8 0, .int .u8 0, .int .u8 0, .int .u8 0, .int .u8 0, .int .u8 0, .int .u8 0, .int .u8 0, .int .u8 0, .int .u8 0, .int .u8 0, .int .u8 0, .int .u8 0, .int .u8 0, .int .u8 0, .int .u8 0, .int .u8 0, .int .u8 0, .int .u8 0, .int .u8 0, .int .u8 0, .int .u8 0, .int .u8 0, .int .u8 0, .int .u8 0, .int .u8 0, .int .u8 0, .int .u8 0, .int .u8 0, .int .u8 0, .int .u8 0, .int .u8 0, .int .u8 0, .int .u8 0, .int .u8 0, .int .u8 0, .int .u8 0, .int .u8 0, .int .u8 0, .int .u8 0, .int .u8 0, .int .u8 0, .int .u8 0, .int .u8 0, .int .u8 0, .int .u8 0, .int .u8 0, .int .u8 0, .int .u8 0, .int .u8 0, .int .u8 0, .int .u8 0, .int .u8 0, .int .u8 0, .int .u8 0, .int .u8 0, .int .u8 0, .int .u8 0, .int .u32 0, .int .u32 0, .int .u32 0], .int .i64 0, .int .i64 0, .int .i64 0] 8 rfl (by kernel_rfl) (by kernel_rfl) (by kernel_rfl) (by kernel_rfl) (by kernel_rfl) (met os _)) ?_
  intro W base args ds gs before hval0 hW hcnd hsz0 hL _
  have hL : laidMet Tryz.prog Rows.treePlaysRow.laid W := hL
  have hG : Gl (mem W) := ⟨sent0 hL (List.mem_of_getElem? (i := 8) rfl), sent1 hL (List.mem_of_getElem? (i := 9) rfl), sent2 hL (List.mem_of_getElem? (i := 20) rfl), sent3 hL (List.mem_of_getElem? (i := 21) rfl), sent5 hL (List.mem_of_getElem? (i := 0) rfl), sent6 hL (List.mem_of_getElem? (i := 1) rfl), sent7 hL (List.mem_of_getElem? (i := 2) rfl), sent8 hL (List.mem_of_getElem? (i := 3) rfl), sent9 hL (List.mem_of_getElem? (i := 4) rfl), sent10 hL (List.mem_of_getElem? (i := 5) rfl), sent11 hL (List.mem_of_getElem? (i := 6) rfl), sent12 hL (List.mem_of_getElem? (i := 7) rfl), sent13 hL (List.mem_of_getElem? (i := 10) rfl), sent14 hL (List.mem_of_getElem? (i := 11) rfl), sent15 hL (List.mem_of_getElem? (i := 12) rfl), sent16 hL (List.mem_of_getElem? (i := 13) rfl), sent17 hL (List.mem_of_getElem? (i := 14) rfl), sent18 hL (List.mem_of_getElem? (i := 15) rfl), sent19 hL (List.mem_of_getElem? (i := 16) rfl), sent20 hL (List.mem_of_getElem? (i := 17) rfl), sent21 hL (List.mem_of_getElem? (i := 18) rfl), sent22 hL (List.mem_of_getElem? (i := 19) rfl), sent23 hL (List.mem_of_getElem? (i := 22) rfl), sent24 hL (List.mem_of_getElem? (i := 23) rfl), sent25 hL (List.mem_of_getElem? (i := 24) rfl)⟩
  have hW' := hW
  obtain ⟨p, q, hA0, hV, rfl, hfz, hnd⟩ := hW
  have hA : DataW.TrodAll enc Tryz.prog W 0 (fun _ => true) true Tryz.f3.params.toList args.toList ds p := hA0
  have hval : ∀ (j : Nat) t v, Tryz.f3.params[j]? = some t → args[j]? = some v → Value.okWide Tryz.prog W .any base t v := hval0
  rw [Tryz.params3] at hA hval
  obtain ⟨v0, vs0, d0, ds0, p0, q0, hargs, rfl, rfl, h0, r0⟩ := trodAll_cons hA
  obtain ⟨v1, vs1, d1, ds1, p1, q1, rfl, rfl, rfl, h1, r1⟩ := trodAll_cons r0
  obtain ⟨v2, vs2, d2, ds2, p2, q2, rfl, rfl, rfl, h2, r2⟩ := trodAll_cons r1
  obtain ⟨v3, vs3, d3, ds3, p3, q3, rfl, rfl, rfl, h3, r3⟩ := trodAll_cons r2
  obtain ⟨v4, vs4, d4, ds4, p4, q4, rfl, rfl, rfl, h4, r4⟩ := trodAll_cons r3
  obtain ⟨rfl, rfl, rfl⟩ := trodAll_nil r4
  obtain rfl : args = #[v0, v1, v2, v3, v4] := by cases args; simp_all
  obtain ⟨rfl, rfl⟩ := trodVars_none hV
  obtain ⟨x0, w0⟩ := at_slice Tryz.underlying22 (hval 0 22 v0 rfl rfl) rd22 h0
  obtain ⟨c1, rfl, x1, rfl, w1⟩ := at_agg (agg_struct Tryz.underlying27 (hval 1 27 v1 rfl rfl)) rd27 h1
  obtain ⟨x2, rfl, _, _, w2⟩ := open_int Tryz.underlying3 (hval 2 3 v2 rfl rfl) h2
  obtain ⟨x3, rfl, _, _, w3⟩ := open_int Tryz.underlying3 (hval 3 3 v3 rfl rfl) h3
  obtain ⟨x4, rfl, _, _, w4⟩ := open_int Tryz.underlying3 (hval 4 3 v4 rfl rfl) h4
  have hμ : Agr (mem W) W := agr_mem W
  have hm := sargassolaw11_TreePlays.m (mem W) x0 v0 w0 x1 w1 x2 (wf_in w2) x3 (wf_in w3) x4 (wf_in w4)
  refine (sargassolaw11_TreePlays.c (mem W) W hμ x0 v0 w0 x1 w1 x2 (wf_in w2) x3 (wf_in w3) x4 (wf_in w4) hG true hm).mono fun e W' ⟨v, he, hv, _, hI⟩ => ?_
  subst hv
  subst he
  have bel : Below W.heap.size W W' := hI.below
  exact ⟨_, rfl, _, _, _, [], _, [], hW', trodAll_mk1 (shut_bool Tryz.underlying4 _), (trodAll_cons_mk (again laid rr22 tr22 h0 bel) (trodAll_cons_mk (again laid rr27 tr27 h1 bel) (trodAll_cons_mk (again laid rr3 tr3 h2 bel) (trodAll_cons_mk (again laid rr3 tr3 h3 bel) (trodAll_cons_mk (again laid rr3 tr3 h4 bel) trodAll_mk0))))), rfl, bel.frame _, fun h => by cases h⟩
theorem closed : joinedFacts Tryz.prog 3 Tryz.f3 Rows.treePlaysSpec Rows.treePlaysRow = true := by
  unfold joinedFacts
  rw [J.may, J.lifts, J.make]
  kernel_rfl
theorem over : Rows.treePlaysRow.holds Tryz.pinned (OpenSpec.ofChange Rows.treePlaysSpec) :=
  OpenClaim.holds_of_wide 3 Tryz.f3 rfl rfl rfl rfl rfl rfl rfl ⟨rfl, rfl, rfl, rfl, rfl⟩ rfl rfl rfl rfl rfl (by kernel_rfl) Tryz.func3 closed
    (of_decide_eq_true (by kernel_rfl)) (by unfold Func.isWrapper; first | (rw [if_pos (by decide +kernel)]; kernel_rfl) | (rw [if_neg (by decide +kernel)]; exact ⟨rfl, rfl⟩))
    (fun os started H enc _ => lifted os started H enc)
theorem card : Rows.TreePlaysCardSaid :=
  Claim7.holds_tied_plain_at .later [] [.sentinel, .sentinel, .sentinel, .sentinel, .sentinel, .sentinel, .sentinel, .sentinel, .sentinel, .sentinel, .sentinel, .sentinel, .sentinel, .sentinel, .sentinel, .sentinel, .sentinel, .sentinel, .sentinel, .sentinel, .sentinel, .sentinel, .sentinel, .sentinel, .sentinel] true (true, "906d09e01b9eb073f24af99c00ecbe9e96b03eece35020af151b8f12061db2e7") true
    over (fun _ h => by cases h) (by kernel_rfl) (fun _ h => by cases h) treePlays_row_tie rfl ⟨rfl, rfl⟩ (J.mainIs.trans (congrArg (fun s => some (true, s)) (by kernel_rfl))) rfl
    (fun f fn hf hfn => by
      obtain rfl : f = 3 := Option.some.inj ((show Tryz.prog.funcNamed "sargasso/sargassolaw11.TreePlays" = some 3 by kernel_rfl).symm.trans hf) |>.symm
      obtain rfl : fn = Tryz.f3 := (Option.some.inj (Tryz.func3.symm.trans hfn)).symm
      exact ⟨by kernel_rfl, fun j t ht => by
        rw [Tryz.params3] at ht
        rcases j with _ | _ | _ | _ | _ | j
        · obtain rfl : (22 : TypeId) = t := by simpa using ht
          exact (show Tryz.prog.wantsStandIn 22 = false by kernel_rfl)
        · obtain rfl : (27 : TypeId) = t := by simpa using ht
          exact (show Tryz.prog.wantsStandIn 27 = false by kernel_rfl)
        · obtain rfl : (3 : TypeId) = t := by simpa using ht
          exact (show Tryz.prog.wantsStandIn 3 = false by kernel_rfl)
        · obtain rfl : (3 : TypeId) = t := by simpa using ht
          exact (show Tryz.prog.wantsStandIn 3 = false by kernel_rfl)
        · obtain rfl : (3 : TypeId) = t := by simpa using ht
          exact (show Tryz.prog.wantsStandIn 3 = false by kernel_rfl)
        · simp at ht⟩)
    (by kernel_rfl)
end Go.Proofs.YtdngkgkkblfcjaaGreatDoor.zTreePlays
namespace Go.Proofs.YtdngkgkkblfcjaaGreatDoor
theorem treePlays_holds : Rows.TreePlaysCardSaid := zTreePlays.card
#print axioms treePlays_holds
end Go.Proofs.YtdngkgkkblfcjaaGreatDoor
