/- Proved: the statement BestGoes, as given (its conditions are those of the given row, and card where there is one; no others): the call ends, with true, and the input reads as it did. This file is one of its parts. -/
import Derived.Test.YtdngkgkkblfcjaaDoorPBestGoes6
import Derived.OpenShut
import Derived.ChangeArms
import Derived.DataReads
import Derived.WideShapes
import Derived.Below
import Derived.Carry
import Derived.ChangeOld
import Derived.LaidLaws
import Derived.Stop.ErrReads
import Derived.ChangeVars
import Derived.Test.YtdngkgkkblfcjaaDoorRows
import Derived.Test.YtdngkgkkblfcjaaDoorProg
import Derived.JoinedOf
import Derived.ProofKit
import Derived.WalkKit
import Derived.ShutString
import Derived.SizedLaws
import Derived.LaidHandle
import Derived.Handed
import Derived.SevenTiedAt
import Derived.Test.YtdngkgkkblfcjaaDoorCards
import Derived.Test.YtdngkgkkblfcjaaDoorTie
namespace Go.Proofs.YtdngkgkkblfcjaaDoor.T
open Go Go.Proofs Go.Proofs.YtdngkgkkblfcjaaDoor.K
set_option linter.unusedVariables false
variable {t : treeTree} {l : List N8}
def ovW (l : List N8) (a b : Nat) : Bool := if (gn l a).work ≠ (gn l b).work then decide ((gn l b).work < (gn l a).work) else decide (cmpI (gn l a).id (gn l b).id < 0)
theorem ovT_row (ht : TR t l) {a b : Nat} (ha : a < l.length) (hb : b < l.length) : ovT t.m (gn l a).id (gn l b).id = ovW l a b := by
  unfold ovT ovW
  rw [ht.known a ha, ht.known b hb]
  rfl
theorem ovW_grow {l' : List N8} (hg : ∀ i, i < l.length → gn l' i = gn l i) {a b : Nat} (ha : a < l.length) (hb : b < l.length) : ovW l' a b = ovW l a b := by
  unfold ovW
  rw [hg a ha, hg b hb]
theorem hashash_eq {ids : List (List Int)} (h32 : ∀ x ∈ ids, x.length = 32) (hl : ids.length ≤ 1000) {x : List Int} (hx : x.length = 32) : ∀ (n i : Nat), ids.length - i = n → (∃ k, i ≤ k ∧ k < ids.length ∧ ids.getD k [] = x) → loopO (sargassoref_HasHash.s0 ids x) (i : Int) = some true := by
  intro n
  induction n with
  | zero => rintro i hi ⟨k, k1, k2, _⟩; omega
  | succ n ih =>
    rintro i hi ⟨k, k1, k2, k3⟩
    have hil : i < ids.length := by omega
    have hs := samehash_eq (ids.getD i []) x (h32 _ (getD_mem hil)) hx
    by_cases c : ids.getD i [] = x
    · refine loopO_inr ?_
      simp only [sargassoref_HasHash.s0, Int.toNat_natCast]
      rw [if_pos (by omega), if_pos (by omega), hs, decide_eq_true c, Option.bind_some, if_pos rfl]
    · rw [loopO_inl (s' := ((i + 1 : Nat) : Int)) (by
        simp only [sargassoref_HasHash.s0, Int.toNat_natCast]
        rw [if_pos (by omega), if_pos (by omega), hs, decide_eq_false c, Option.bind_some, if_neg (by decide), winc i (by omega)])]
      refine ih (i + 1) (by omega) ⟨k, ?_, k2, k3⟩
      rcases Nat.lt_or_ge i k with h | h
      · omega
      · have : i = k := by omega
        subst this
        exact absurd k3 c
def ids' (l : List N8) (js : List Nat) : List (List Int) := js.map fun j => (gn l j).id
structure GB (ks : List Nat) (l : List N8) : Prop where
  k5 : ∀ k ∈ ks, k < 5
  len : ks.length + 1 ≤ l.length
  st : (gn l 0).id = hid H0
  wk : (gn l 0).work = 1
  br : ∀ i, i < ks.length → (gn l (i + 1)).id = hid (mc i (ks.getD i 0)) ∧ (gn l (i + 1)).parent = 0 ∧ 2 ≤ (gn l (i + 1)).work
def plc (ks : List Nat) (i : Nat) : Nat := 5 * i + ks.getD i 0
theorem GB.k {ks : List Nat} (h : GB ks l) {i : Nat} (hi : i < ks.length) : ks.getD i 0 < 5 := h.k5 _ (getD_mem hi)
theorem GB.grow {ks : List Nat} (h : GB ks l) {l' : List N8} (hl : l.length ≤ l'.length) (hg : ∀ i, i < l.length → gn l' i = gn l i) : GB ks l' := by
  have hlen := h.len
  exact ⟨h.k5, by omega, by rw [hg 0 (by omega)]; exact h.st, by rw [hg 0 (by omega)]; exact h.wk, fun i hi => by rw [hg (i + 1) (by omega)]; exact h.br i hi⟩
theorem GB.id0 {ks : List Nat} (h : GB ks l) : (gn l 0).id = gall 0 := h.st
theorem GB.idb {ks : List Nat} (h : GB ks l) (h15 : ks.length ≤ 15) {i : Nat} (hi : i < ks.length) : (gn l (i + 1)).id = gall (1 + plc ks i) ∧ 1 + plc ks i < 76 := by
  have hk := h.k hi
  have hp : plc ks i = 5 * i + ks.getD i 0 := rfl
  refine ⟨?_, by omega⟩
  rw [(h.br i hi).1, hid_mc (by omega) hk]
  unfold gall
  rw [if_neg (by omega), if_pos (by omega), show 1 + plc ks i - 1 = 5 * i + ks.getD i 0 by omega]
theorem mc_head {n k : Nat} (hn : n < 15) (hk : k < 5) {w : Int} (hw : w = (k : Int)) : (⟨IntKind.u32.wrap (n : Int), hid H0, List.replicate 32 0, 0, IntKind.u32.wrap (IntKind.i64.wrap (1 + w)), 0⟩ : Head) = (mc n k).h := by
  have e1 : IntKind.u32.wrap (n : Int) = (n : Int) := wu32 (by omega) (by omega)
  have e2 : IntKind.i64.wrap (1 + w) = 1 + (k : Int) := by rw [hw]; exact w64 (by omega) (by omega)
  have e3 : IntKind.u32.wrap (1 + (k : Int)) = 1 + (k : Int) := wu32 (by omega) (by omega)
  rw [e1, e2, e3, g_hid]
  simp only [HN.h, mc]
  simp
theorem goes_step (x0 : List Int) (hx : ∀ x ∈ x0, InR .i64 x) (hl15 : x0.length ≤ 15) (r1 : Bool) (r4 : bestMarks) {ks : List Nat} (hn : ks.length < x0.length) {m : List ((List Int) × treeNode)} {st : List Int} {l : List N8} (hst : st = hid H0) (ht : TR ⟨m, st⟩ l) (hll : l.length = ks.length + 1) (h : GB ks l) {ids : List (List Int)} (hids : ids.length = ks.length) :
    ∃ k m' l', sargassolaw13_BestGoes.s0 x0 r1 r4 (ids, (ks.length : Int), m, st) = some (.inl (ids ++ [hid (mc ks.length k)], ((ks.length + 1 : Nat) : Int), m', st)) ∧ k < 5 ∧ TR ⟨m', st⟩ l' ∧ l'.length = ks.length + 2 ∧ GB (ks ++ [k]) l' := by
  have hxn : InR .i64 (x0.getD ks.length 0) := hx _ (getD_mem hn)
  -- how much work
  obtain ⟨c1, hc1, hc0⟩ : ∃ c1 : Int, ((if (x0.getD ks.length 0) < 0 then some (IntKind.i64.wrap (0 - (IntKind.i64.wrap ((x0.getD ks.length 0) + 1)))) else some (x0.getD ks.length 0)) : Option Int) = some c1 ∧ 0 ≤ c1 := by
    obtain ⟨a, b⟩ := hxn
    by_cases c : x0.getD ks.length 0 < 0
    · rw [if_pos c, w64 (x := x0.getD ks.length 0 + 1) (by omega) (by omega), w64 (by omega) (by omega)]
      exact ⟨_, rfl, by omega⟩
    · rw [if_neg c]
      exact ⟨_, rfl, by omega⟩
  have hm := Int.tmod_eq_emod_of_nonneg (b := 5) hc0
  obtain ⟨k, hk, hkw⟩ : ∃ k : Nat, k < 5 ∧ Int.tmod c1 5 = (k : Int) := ⟨(c1 % 5).toNat, by omega, by rw [hm]; omega⟩
  have hH := mc_head (n := ks.length) (k := k) (by omega) hk hkw
  have ok := mc_ok (i := ks.length) (k := k) (by omega) hk
  have hlen := h.len
  have hfresh : ∀ i, i < l.length → (gn l i).id ≠ hid (mc ks.length k) := fun i hi e => by
    have e2 : hid (mc ks.length k) = gall (1 + (5 * ks.length + k)) := by
      rw [hid_mc (by omega) hk]
      unfold gall
      rw [if_neg (by omega), if_pos (by omega), show 1 + (5 * ks.length + k) - 1 = 5 * ks.length + k by omega]
    rw [e2] at e
    rcases Nat.eq_zero_or_pos i with z | z
    · subst z
      rw [h.id0] at e
      have := gall_inj (by omega) (by omega) e
      omega
    · obtain ⟨q, rfl⟩ : ∃ q, i = q + 1 := ⟨i - 1, by omega⟩
      obtain ⟨b1, b2⟩ := h.idb (by omega) (i := q) (by omega)
      rw [b1] at e
      have := gall_inj (by omega) (by omega) e
      have hkq := h.k (i := q) (by omega)
      have : plc ks q = 5 * q + ks.getD q 0 := rfl
      omega
  obtain ⟨t', l', a1, a2, a3, a4, a5, a6⟩ := addr_new ht (by omega) ok hfresh (p := 0) ht.pos (by rw [h.st, g_hid]; rfl)
  obtain ⟨m', st'⟩ := t'
  have : st' = st := a4
  subst this
  refine ⟨k, m', l', ?_, hk, a2, by omega, ?_⟩
  · simp only [sargassolaw13_BestGoes.s0, Int.toNat_natCast]
    rw [if_pos (by omega), if_pos (by omega), hc1, Option.bind_some]
    simp only [tree_Tree_Start.f, Option.bind_some]
    rw [hst, hH, ← hst, a1, Option.bind_some]
    simp only []
    rw [if_neg (by simp), hidr_eq ok, Option.bind_some, if_pos (by omega), winc _ (by omega)]
  · have hg := h.grow (l' := l') (by omega) a5
    refine ⟨fun q hq => ?_, by simp; omega, hg.st, hg.wk, fun i hi => ?_⟩
    · rcases List.mem_append.1 hq with hq | hq
      · exact h.k5 q hq
      · have : q = k := by simpa using hq
        omega
    · have hi' : i < ks.length + 1 := by simpa using hi
      rcases Nat.lt_or_ge i ks.length with c | c
      · have e : (ks ++ [k]).getD i 0 = ks.getD i 0 := by simp [List.getD, List.getElem?_append_left c]
        rw [e]
        exact hg.br i c
      · have e0 : i = ks.length := by omega
        subst e0
        have e : (ks ++ [k]).getD ks.length 0 = k := by simp [List.getD]
        rw [e, ← hll, a6]
        refine ⟨rfl, rfl, ?_⟩
        show 2 ≤ IntKind.u64.wrap ((gn l 0).work + IntKind.u64.wrap ((1 + k : Nat) : Int))
        rw [h.wk, wu64 (x := ((1 + k : Nat) : Int)) (by omega) (by omega), wu64 (by omega) (by omega)]
        omega
structure GM (ks B : List Nat) (l : List N8) (bad : List (List Int × Bool)) : Prop where
  gb : GB ks l
  len : l.length = ks.length + 1 + B.length
  nd : B.Nodup
  bn : ∀ p ∈ B, 1 ≤ p ∧ p ≤ ks.length
  ch : ∀ j, j < B.length → (gn l (ks.length + 1 + j)).parent = (B.getD j 0 : Nat) ∧ (gn l (ks.length + 1 + j)).id = gall (76 + plc ks (B.getD j 0 - 1))
  key : ∀ k, k ∈ bad.map (·.1) ↔ ∃ p ∈ B, (gn l p).id = k
  tru : ∀ q ∈ bad, q.2 = true
variable {ks B : List Nat} {bad : List (List Int × Bool)}
theorem GM.mb (h : GM ks B l bad) : MB l bad := ⟨h.tru, fun k hk => by
  obtain ⟨p, hp, e⟩ := (h.key k).1 hk
  have := h.bn p hp
  have := h.len
  exact ⟨p, by omega, by omega, e⟩⟩
theorem dsc_top (ht : TR t l) {b : Nat} (h : Dsc l b 0) : b = 0 := by
  cases h with
  | self => rfl
  | step hj hp _ => rw [ht.root.1] at hp; omega
theorem GM.mkb (ht : TR t l) (h : GM ks B l bad) {p : Nat} (p1 : 1 ≤ p) (p2 : p ≤ ks.length) : Mkd l bad p ↔ p ∈ B := by
  have hl := h.len
  constructor
  · rintro ⟨b, b1, b2, b3⟩
    obtain ⟨q, hq, e⟩ := (h.key _).1 b2
    have hqb := h.bn q hq
    have : q = b := ht.inj q b (by omega) b1 e
    subst this
    cases b3 with
    | self => exact hq
    | @step _ p' hj hp hd =>
      obtain ⟨i, rfl⟩ : ∃ i, p = i + 1 := ⟨p - 1, by omega⟩
      rw [(h.gb.br i (by omega)).2.1] at hp
      have : p' = 0 := by omega
      subst this
      have := dsc_top ht hd
      omega
  · intro hp
    exact ⟨p, by omega, (h.key _).2 ⟨p, hp, rfl⟩, .self⟩
theorem GM.mkc (h : GM ks B l bad) {j : Nat} (hj : j < B.length) : Mkd l bad (ks.length + 1 + j) := by
  have hm := getD_mem (d := 0) hj
  have hb := h.bn _ hm
  have hl := h.len
  exact ⟨B.getD j 0, by omega, (h.key _).2 ⟨_, hm, rfl⟩, .step (by omega) (h.ch j hj).1 .self⟩
theorem free_ex (h : GM ks B l bad) (hlt : B.length < ks.length) : ∃ q, 1 ≤ q ∧ q ≤ ks.length ∧ q ∉ B := Classical.byContradiction fun hno => by
  have hs : ∀ q ∈ List.range' 1 ks.length, q ∈ B := fun q hq => Classical.byContradiction fun hn => by
    have := List.mem_range'_1.1 hq
    exact hno ⟨q, by omega, by omega, hn⟩
  have := (List.nodup_range' (s := 1) (n := ks.length)).length_le_of_subset hs
  simp at this
  omega
theorem goes_best (ht : TR t l) (h : GM ks B l bad) (hlt : B.length < ks.length) : ∃ i, 1 ≤ i ∧ i ≤ ks.length ∧ i ∉ B ∧ best_Marks_Best.f ⟨t, bad⟩ = some ((gn l i).id, ⟨t, bad⟩) ∧ ∀ q, 1 ≤ q → q ≤ ks.length → q ∉ B → ovW l q i = false := by
  have hl := h.len
  obtain ⟨i, hi, him, e, hb⟩ := best_eq ht h.mb
  obtain ⟨q, q1, q2, q3⟩ := free_ex h hlt
  have hq := hb q (by omega) (fun hm => q3 ((h.mkb ht q1 q2).1 hm))
  rw [ovT_row ht (by omega) hi] at hq
  have i0 : i ≠ 0 := fun e0 => by
    subst e0
    obtain ⟨p, rfl⟩ : ∃ p, q = p + 1 := ⟨q - 1, by omega⟩
    have hw := (h.gb.br p (by omega)).2.2
    have h0 := h.gb.wk
    unfold ovW at hq
    rw [h0, if_pos (by omega)] at hq
    simp only [decide_eq_false_iff_not] at hq
    omega
  have i1 : i ≤ ks.length := by
    rcases Nat.lt_or_ge ks.length i with c | c
    · exact absurd (by have := h.mkc (j := i - (ks.length + 1)) (by omega); rwa [show ks.length + 1 + (i - (ks.length + 1)) = i by omega] at this) him
    · exact c
  refine ⟨i, by omega, i1, fun hm => him ((h.mkb ht (by omega) i1).2 hm), e, fun p p1 p2 p3 => ?_⟩
  have := hb p (by omega) (fun hm => p3 ((h.mkb ht p1 p2).1 hm))
  rwa [ovT_row ht (by omega) hi] at this
theorem mis_at (ht : TR t l) (hb : MB l bad) {i : Nat} (hi : i < l.length) (hm : Mkd l bad i) : best_Marks_Is.f ⟨t, bad⟩ (gn l i).id = some true := by
  obtain ⟨r, h1, h2⟩ := mis_eq ht hb hi
  rw [h1, h2.2 hm]
theorem mis_not (ht : TR t l) (hb : MB l bad) {i : Nat} (hi : i < l.length) (hm : ¬ Mkd l bad i) : best_Marks_Is.f ⟨t, bad⟩ (gn l i).id = some false := by
  obtain ⟨r, h1, h2⟩ := mis_eq ht hb hi
  rw [h1]
  cases r with
  | false => rfl
  | true => exact absurd (h2.1 rfl) hm
theorem goes_round (x0 : List Int) {ids : List (List Int)} (hids : ids = (List.range ks.length).map fun i => hid (mc i (ks.getD i 0))) (h15 : ks.length ≤ 15) (hx0 : x0.length = ks.length) {m : List ((List Int) × treeNode)} {st : List Int} {last : List Int} (hst : st = hid H0) (ht : TR ⟨m, st⟩ l) (h : GM ks B l bad) (hlt : B.length < ks.length)
    (hlast : 0 < B.length → ∃ p, 1 ≤ p ∧ p ≤ ks.length ∧ last = (gn l p).id ∧ ∀ q, 1 ≤ q → q ≤ ks.length → q ∉ B → ovW l p q = true) :
    ∃ i m' bad' l', sargassolaw13_BestGoes.s1 x0 true ids ((B.length : Int), last, bad, m, st) = some (.inl (((B.length + 1 : Nat) : Int), (gn l i).id, bad', m', st)) ∧ TR ⟨m', st⟩ l' ∧ GM ks (B ++ [i]) l' bad' ∧ (∃ p, 1 ≤ p ∧ p ≤ ks.length ∧ (gn l i).id = (gn l' p).id ∧ ∀ q, 1 ≤ q → q ≤ ks.length → q ∉ B ++ [i] → ovW l' p q = true) := by
  have hl := h.len
  obtain ⟨i, i1, i2, i3, eb, hbest⟩ := goes_best ht h hlt
  have hil : i < l.length := by omega
  obtain ⟨i', rfl⟩ : ∃ i', i = i' + 1 := ⟨i - 1, by omega⟩
  obtain ⟨b1, b2, b3⟩ := h.gb.br i' (by omega)
  obtain ⟨d1, d2⟩ := h.gb.idb h15 (i := i') (by omega)
  have hk := h.gb.k (i := i') (by omega)
  have hplc : plc ks i' = 5 * i' + ks.getD i' 0 := rfl
  have hnm : ¬ Mkd l bad (i' + 1) := fun hm => i3 ((h.mkb ht i1 i2).1 hm)
  have hin : sargassoref_HasHash.f ids (gn l (i' + 1)).id = some true := by
    have h32 : ∀ x ∈ ids, x.length = 32 := fun x hx => by
      rw [hids] at hx
      obtain ⟨q, _, rfl⟩ := List.mem_map.1 hx
      exact hid_len _
    refine hashash_eq h32 (by rw [hids]; simp; omega) (ht.id32 hil) ids.length 0 rfl ⟨i', Nat.zero_le _, by rw [hids]; simp; omega, ?_⟩
    rw [hids, b1]
    simp [List.getD, show i' < ks.length by omega]
  -- marked
  have hbad := bad_eq ht (bad := bad) hil
  rw [if_neg (by omega)] at hbad
  have hmb' : MB l (mput bad (gn l (i' + 1)).id true) := h.mb.put (by omega) hil
  have hmk' : Mkd l (mput bad (gn l (i' + 1)).id true) (i' + 1) := ⟨i' + 1, hil, ((mb_put _ _).1 _).2 (.inr rfl), .self⟩
  have hnis := mis_not ht h.mb hil hnm
  have his := mis_at ht hmb' hil hmk'
  -- the child
  have hcd := ctab_ok _ (gcdm (q := plc ks i') (by omega))
  have ok := mch_ok hcd.2
  have hbid : (gn l (i' + 1)).id = ci (gcd_ (plc ks i')) := by rw [b1, hid_mc (by omega) hk]; rfl
  have hfresh : ∀ a, a < l.length → (gn l a).id ≠ hid (mch (gcd_ (plc ks i'))) := fun a ha e => by
    have e2 : hid (mch (gcd_ (plc ks i'))) = gall (76 + plc ks i') := by
      unfold gall
      rw [if_neg (by omega), if_neg (by omega), show 76 + plc ks i' - 76 = plc ks i' by omega]
    rw [e2] at e
    rcases Nat.eq_zero_or_pos a with z | z
    · subst z
      rw [h.gb.id0] at e
      have := gall_inj (by omega) (by omega) e
      omega
    · rcases Nat.lt_or_ge ks.length a with c | c
      · obtain ⟨j, rfl⟩ : ∃ j, a = ks.length + 1 + j := ⟨a - (ks.length + 1), by omega⟩
        have hjB : j < B.length := by omega
        have hm := getD_mem (d := 0) hjB
        have hp := h.bn _ hm
        have hkp := h.gb.k (i := B.getD j 0 - 1) (by omega)
        have hpp : plc ks (B.getD j 0 - 1) = 5 * (B.getD j 0 - 1) + ks.getD (B.getD j 0 - 1) 0 := rfl
        rw [(h.ch j hjB).2] at e
        have := gall_inj (by omega) (by omega) e
        have : B.getD j 0 = i' + 1 := by omega
        rw [this] at hm
        exact i3 hm
      · obtain ⟨q, rfl⟩ : ∃ q, a = q + 1 := ⟨a - 1, by omega⟩
        obtain ⟨q1, q2⟩ := h.gb.idb h15 (i := q) (by omega)
        rw [q1] at e
        have := gall_inj (by omega) (by omega) e
        omega
  obtain ⟨t', l', a1, a2, a3, a4, a5, a6⟩ := addr_new ht (by omega) ok hfresh (p := i' + 1) hil hbid
  obtain ⟨m', st'⟩ := t'
  have : st' = st := a4
  subst this
  have hchid : (gn l' l.length).id = hid (mch (gcd_ (plc ks i'))) := by rw [a6]
  have hmb2 : MB l' (mput bad (gn l (i' + 1)).id true) := hmb'.grow (by omega) a5
  have hmk2 : Mkd l' (mput bad (gn l (i' + 1)).id true) l.length := ⟨i' + 1, by omega, by rw [a5 _ hil]; exact ((mb_put _ _).1 _).2 (.inr rfl), .step (by omega) (by rw [a6]) .self⟩
  have his2 := mis_at a2 hmb2 (by omega) hmk2
  rw [hchid] at his2
  have hhead : (⟨99, (gn l (i' + 1)).id, List.replicate 32 0, 0, 1000, 0⟩ : Head) = (mch (gcd_ (plc ks i'))).h := by
    rw [hbid]
    simp [HN.h, mch]
  refine ⟨i' + 1, m', mput bad (gn l (i' + 1)).id true, l', ?_, a2, ?_, i' + 1, i1, i2, by rw [a5 _ hil], fun q q1 q2 q3 => ?_⟩
  · simp only [sargassolaw13_BestGoes.s1]
    rw [if_pos (by omega), eb, Option.bind_some]
    simp only []
    rw [hin, Option.bind_some, if_pos rfl, hnis, Option.bind_some, if_neg (by decide)]
    have ov : (if 0 < (B.length : Int) then ((best_Marks_Over.f (⟨(⟨m, st'⟩ : treeTree), bad⟩ : bestMarks) last (gn l (i' + 1)).id).bind fun r11 => (if r11 = true then ((best_Marks_Bad.f (⟨(⟨m, st'⟩ : treeTree), bad⟩ : bestMarks) (gn l (i' + 1)).id).bind fun r12 => (if r12.1 = true then ((best_Marks_Is.f (⟨(⟨r12.2.t.m, r12.2.t.start⟩ : treeTree), r12.2.bad⟩ : bestMarks) (gn l (i' + 1)).id).bind fun r13 => some (r12.2.bad, r12.2.t.m, r12.2.t.start, !r13)) else some (r12.2.bad, r12.2.t.m, r12.2.t.start, true))) else some (bad, m, st', true))) else ((best_Marks_Bad.f (⟨(⟨m, st'⟩ : treeTree), bad⟩ : bestMarks) (gn l (i' + 1)).id).bind fun r14 => (if r14.1 = true then ((best_Marks_Is.f (⟨(⟨r14.2.t.m, r14.2.t.start⟩ : treeTree), r14.2.bad⟩ : bestMarks) (gn l (i' + 1)).id).bind fun r15 => some (r14.2.bad, r14.2.t.m, r14.2.t.start, !r15)) else some (r14.2.bad, r14.2.t.m, r14.2.t.start, true)))) = some (mput bad (gn l (i' + 1)).id true, m, st', false) := by
      by_cases c : 0 < (B.length : Int)
      · obtain ⟨p, p1, p2, p3, p4⟩ := hlast (by omega)
        rw [if_pos c, over_eq, Option.bind_some, p3, ovT_row ht (by omega) hil, p4 _ i1 i2 i3, if_pos rfl, hbad, Option.bind_some]
        simp only [if_true]
        rw [his]
        rfl
      · rw [if_neg c, hbad, Option.bind_some]
        simp only [if_true]
        rw [his]
        rfl
    rw [ov, Option.bind_some]
    simp only [Bool.false_eq_true, if_false]
    rw [hhead, a1, Option.bind_some]
    simp only [ne_eq, not_true_eq_false, if_false]
    rw [hidr_eq ok, Option.bind_some, his2]
    simp only [Option.bind_some, Bool.not_true, Bool.false_eq_true, if_false]
    rw [winc _ (by omega)]
  · refine ⟨h.gb.grow (by omega) a5, by simp; omega, ?_, fun p hp => ?_, fun j hj => ?_, fun k => ?_, (mb_put _ _).2 h.tru⟩
    · rw [List.nodup_append]
      exact ⟨h.nd, by simp, fun a ha b hb e => i3 (by have : b = i' + 1 := by simpa using hb
                                                      rw [← this, ← e]; exact ha)⟩
    · rcases List.mem_append.1 hp with hp | hp
      · exact h.bn p hp
      · have : p = i' + 1 := by simpa using hp
        omega
    · have hj' : j < B.length + 1 := by simpa using hj
      rcases Nat.lt_or_ge j B.length with c | c
      · have e : (B ++ [i' + 1]).getD j 0 = B.getD j 0 := by simp [List.getD, List.getElem?_append_left c]
        rw [e, a5 _ (by omega)]
        exact h.ch j c
      · have e0 : j = B.length := by omega
        subst e0
        have e : (B ++ [i' + 1]).getD B.length 0 = i' + 1 := by simp [List.getD]
        rw [e, ← hl, a6]
        refine ⟨rfl, ?_⟩
        show hid (mch (gcd_ (plc ks i'))) = _
        unfold gall
        rw [show i' + 1 - 1 = i' by omega, if_neg (by omega), if_neg (by omega), show 76 + plc ks i' - 76 = plc ks i' by omega]
    · rw [(mb_put _ _).1, h.key]
      constructor
      · rintro (⟨p, hp, e⟩ | e)
        · have := h.bn p hp
          exact ⟨p, List.mem_append_left _ hp, by rw [a5 _ (by omega)]; exact e⟩
        · exact ⟨i' + 1, by simp, by rw [a5 _ hil]; exact e.symm⟩
      · rintro ⟨p, hp, e⟩
        rcases List.mem_append.1 hp with hp | hp
        · have := h.bn p hp
          exact .inl ⟨p, hp, by rw [← a5 _ (by omega)]; exact e⟩
        · have : p = i' + 1 := by simpa using hp
          subst this
          exact .inr (by rw [← a5 _ hil]; exact e.symm)
  · have qB : q ∉ B := fun hm => q3 (List.mem_append_left _ hm)
    have qi : q ≠ i' + 1 := fun e => q3 (by rw [e]; simp)
    rw [ovW_grow a5 hil (by omega)]
    have h1 := hbest q q1 q2 qB
    have O := ov_o m
    have hK : ∀ j, j < l.length → (mget m (gn l j).id).isSome = true := fun j hj => by rw [ht.known j hj]; rfl
    rw [← ovT_row ht (by omega) hil] at h1
    have := O.tot _ _ (hK q (by omega)) (hK _ hil) (fun e => qi (ht.inj q _ (by omega) hil e)) h1
    rwa [ovT_row ht hil (by omega)] at this
theorem all_in (h : GM ks B l bad) (he : B.length = ks.length) {p : Nat} (p1 : 1 ≤ p) (p2 : p ≤ ks.length) : p ∈ B := Classical.byContradiction fun hn => by
  have hnd : (p :: B).Nodup := List.nodup_cons.2 ⟨hn, h.nd⟩
  have := hnd.length_le_of_subset (l₂ := List.range' 1 ks.length) fun q hq => by
    rw [List.mem_range'_1]
    rcases List.mem_cons.1 hq with rfl | hq
    · omega
    · have := h.bn q hq; omega
  simp at this
  omega
theorem all_mk (ht : TR t l) (h : GM ks B l bad) (he : B.length = ks.length) {j : Nat} (j0 : 0 < j) (hj : j < l.length) : Mkd l bad j := by
  have hl := h.len
  rcases Nat.lt_or_ge ks.length j with c | c
  · have := h.mkc (j := j - (ks.length + 1)) (by omega)
    rwa [show ks.length + 1 + (j - (ks.length + 1)) = j by omega] at this
  · exact (h.mkb ht j0 c).2 (all_in h he j0 c)
theorem goes_end (x0 : List Int) {ids : List (List Int)} (h15 : ks.length ≤ 15) (hx0 : x0.length = ks.length) {m : List ((List Int) × treeNode)} {st : List Int} {last : List Int} (ht : TR ⟨m, st⟩ l) (h : GM ks B l bad) (he : B.length = ks.length) :
    sargassolaw13_BestGoes.s1 x0 true ids ((B.length : Int), last, bad, m, st) = some (.inr (.inr true)) := by
  have hl := h.len
  obtain ⟨i, hi, him, eb, _⟩ := best_eq ht h.mb
  have i0 : i = 0 := by
    rcases Nat.eq_zero_or_pos i with z | z
    · exact z
    · exact absurd (all_mk ht h he z hi) him
  subst i0
  obtain ⟨a, g, e1, and_, _, ak, _, am, _⟩ := parted_eq ht h.mb
  have hlen : a.length = 2 * ks.length := by
    have hnd : (ids' l (List.range' 1 (2 * ks.length))).Nodup := by
      rw [ids', List.Nodup, List.pairwise_map]
      exact List.Pairwise.imp_of_mem (fun {x y} hx hy hne e => hne (ht.inj x y (by have := List.mem_range'_1.1 hx; omega) (by have := List.mem_range'_1.1 hy; omega) e)) (List.nodup_range' (s := 1) (n := 2 * ks.length))
    have h1 := and_.length_le_of_subset (l₂ := ids' l (List.range' 1 (2 * ks.length))) fun y hy => by
      obtain ⟨j, hj, e⟩ := ak y hy
      have hm := (am j hj).1 (by rw [e]; exact hy)
      have j0 : j ≠ 0 := fun z => by rw [z] at hm; exact mkd_zero ht h.mb hm
      exact List.mem_map.2 ⟨j, List.mem_range'_1.2 (by omega), e⟩
    have h2 := hnd.length_le_of_subset (l₂ := a) fun y hy => by
      obtain ⟨j, hj, e⟩ := List.mem_map.1 hy
      have hjr := List.mem_range'_1.1 hj
      rw [← e]
      exact (am j (by omega)).2 (all_mk ht h he (by omega) (by omega))
    simp [ids'] at h1 h2
    omega
  simp only [sargassolaw13_BestGoes.s1]
  rw [if_neg (by omega)]
  simp only [if_true]
  rw [eb, Option.bind_some]
  simp only [tree_Tree_Start.f, Option.bind_some]
  rw [show (gn l 0).id = st from ht.st, samehash_eq _ _ (by rw [← show (gn l 0).id = st from ht.st]; exact ht.id32 ht.pos) (by rw [← show (gn l 0).id = st from ht.st]; exact ht.id32 ht.pos), decide_eq_true rfl, Option.bind_some, if_pos rfl]
  simp only [best_Marks_All.f]
  rw [show (⟨⟨m, st⟩, bad⟩ : bestMarks) = ⟨⟨m, st⟩, bad⟩ from rfl, e1]
  simp only [Option.bind_some]
  rw [hlen, hx0, w64 (x := 2 * (ks.length : Int)) (by omega) (by omega), decide_eq_true (by omega)]
theorem goes_loop (x0 : List Int) {ids : List (List Int)} (hids : ids = (List.range ks.length).map fun i => hid (mc i (ks.getD i 0))) (h15 : ks.length ≤ 15) (hx0 : x0.length = ks.length) : ∀ (n : Nat) (B : List Nat) (l : List N8) (bad : List (List Int × Bool)) (m : List ((List Int) × treeNode)) (st last : List Int), ks.length - B.length = n → B.length ≤ ks.length → st = hid H0 → TR ⟨m, st⟩ l → GM ks B l bad →
    (0 < B.length → ∃ p, 1 ≤ p ∧ p ≤ ks.length ∧ last = (gn l p).id ∧ ∀ q, 1 ≤ q → q ≤ ks.length → q ∉ B → ovW l p q = true) →
    loopO (sargassolaw13_BestGoes.s1 x0 true ids) ((B.length : Int), last, bad, m, st) = some (.inr true) := by
  intro n
  induction n with
  | zero =>
    intro B l bad m st last hn hB hst ht h hlast
    exact loopO_inr (goes_end x0 h15 hx0 ht h (by omega))
  | succ n ih =>
    intro B l bad m st last hn hB hst ht h hlast
    have q1 : ks.length - (B.length + 1) = n := by clear hlast; omega
    have q2 : B.length + 1 ≤ ks.length := by clear hlast; omega
    obtain ⟨i, m', bad', l', e, a2, a3, a4⟩ := goes_round x0 hids h15 hx0 hst ht h q2 hlast
    have hlen : (B ++ [i]).length = B.length + 1 := by simp
    rw [loopO_inl e, ← hlen]
    exact ih (B ++ [i]) l' bad' m' st (gn l i).id (by rw [hlen]; exact q1) (by rw [hlen]; exact q2) hst a2 a3 fun _ => a4
theorem goes_first (x0 : List Int) (hx : ∀ x ∈ x0, InR .i64 x) (hl15 : x0.length ≤ 15) (r4 : bestMarks) (h4 : r4.bad = []) : ∀ (n : Nat) (ks : List Nat) (l : List N8) (m : List ((List Int) × treeNode)) (st : List Int), x0.length - ks.length = n → ks.length ≤ x0.length → st = hid H0 → TR ⟨m, st⟩ l → l.length = ks.length + 1 → GB ks l →
    loopO (sargassolaw13_BestGoes.s0 x0 true r4) ((List.range ks.length).map (fun i => hid (mc i (ks.getD i 0))), (ks.length : Int), m, st) = some true := by
  intro n
  induction n with
  | zero =>
    intro ks l m st hn hk hst ht hl h
    refine loopO_inr ?_
    have := goes_loop (ks := ks) x0 rfl (by omega) (by omega) ks.length [] l [] m st [0, 0, 0, 0, 0, 0, 0, 0, 0, 0, 0, 0, 0, 0, 0, 0, 0, 0, 0, 0, 0, 0, 0, 0, 0, 0, 0, 0, 0, 0, 0, 0] rfl (Nat.zero_le _) hst ht ⟨h, by simpa using hl, by simp, by simp, by simp, by simp, by simp⟩ (by simp)
    simp only [sargassolaw13_BestGoes.s0]
    rw [if_neg (by omega), h4]
    exact this
  | succ n ih =>
    intro ks l m st hn hk hst ht hl h
    obtain ⟨k, m', l', e, k5, a2, a3, a4⟩ := goes_step x0 hx hl15 true r4 (by omega) hst ht hl h (ids := (List.range ks.length).map (fun i => hid (mc i (ks.getD i 0)))) (by simp)
    have hlen : (ks ++ [k]).length = ks.length + 1 := by simp
    have e2 : (List.range ks.length).map (fun i => hid (mc i (ks.getD i 0))) ++ [hid (mc ks.length k)] = (List.range (ks ++ [k]).length).map (fun i => hid (mc i ((ks ++ [k]).getD i 0))) := by
      rw [hlen, List.range_succ, List.map_append]
      congr 1
      · refine List.map_congr_left fun i hi => ?_
        have := List.mem_range.1 hi
        simp [List.getD, List.getElem?_append_left this]
      · simp [List.getD]
    rw [loopO_inl e, e2, ← hlen]
    exact ih (ks ++ [k]) l' m' st (by omega) (by omega) hst a2 (by omega) a4
theorem sargassolaw13_BestGoes.m (μ : Store) (x0 : List Int) (u0 : Value) (h0 : Slc (RI .i64) 1 μ u0 x0) : sargassolaw13_BestGoes.f x0 = some true := by
  simp only [sargassolaw13_BestGoes.f]
  rw [first13, Option.bind_some, if_pos rfl]
  by_cases c : 15 < (x0.length : Int)
  · rw [if_pos c]
  rw [if_neg c, start1_eq, Option.bind_some, tnew_eq H0_ok, Option.bind_some]
  simp only [best_New.f, Option.bind_some]
  have ht0 := tr_new H0_ok
  have := goes_first x0 (slc_ints h0) (by omega) ⟨⟨(tnew H0).m, (tnew H0).start⟩, []⟩ rfl x0.length [] (n8new H0) (tnew H0).m (tnew H0).start rfl (Nat.zero_le _) rfl ht0 rfl ⟨by simp, Nat.le_refl _, rfl, by show IntKind.u64.wrap 1 = 1; rfl, by simp⟩
  exact this
end Go.Proofs.YtdngkgkkblfcjaaDoor.T
namespace Go.Proofs.YtdngkgkkblfcjaaDoor.K
open Go Go.Proofs Go.ChangeShapes Go.WideShapes Go.RowKit
def mem (w : World) : Store := fun k => w.heap[k]?
theorem agr_mem (w : World) : Agr (mem w) w := fun _ _ h => h
theorem mem_cell {w : World} {g i : Nat} {v : Value} (h : w.cell? ⟨g, i, none⟩ = some v) : (mem w).cell g i = some v := by
  unfold World.cell? at h
  unfold Store.cell mem
  cases hm : w.heap[g]? with
  | none => simp [hm] at h
  | some o => cases o <;> simp_all
theorem wf_in {k : IntKind} {n : Int} (h : (Lit.int k n).wf = true) : InR k n := by
  cases k <;> simp [Lit.wf, IntKind.min, IntKind.max, IntKind.signed, IntKind.bits] at h <;> simp [InR] <;> omega
section
variable {H : Type} {enc : TypeId × Value → H} {P : Program} {w : World} {base : Nat} {spare : Nat → Bool} {held : Bool} {t e : TypeId}
def Rd (enc : TypeId × Value → H) (P : Program) (w : World) (base : Nat) (spare : Nat → Bool) (held : Bool) (t : TypeId) (R : List Value → Prop) : Prop :=
  ∀ fuel cs x, DataW.trod enc P w base spare held fuel t cs = some x → R cs
theorem rd_int {k : IntKind} (ht : P.underlying t = some (.int k)) : Rd enc P w base spare held t (fun c => ∃ n, RI k n c) := by
  intro fuel cs x h
  obtain ⟨n, rfl, _, hw⟩ := DataW.trod_int ht h
  exact ⟨n, rfl, wf_in hw⟩
theorem els_of {α : Type} {RE : α → List Value → Prop} {sz : Nat} : ∀ {n : Nat} {Q : Nat → Value → Prop}, (∀ i, i < n → ∃ x c, RE x c ∧ c.length = sz ∧ ∀ j v, c[j]? = some v → Q (i * sz + j) v) →
    ∃ xs cs, xs.length = n ∧ Els RE sz xs cs ∧ ∀ j v, cs[j]? = some v → Q j v
  | 0, _, _ => ⟨[], [], rfl, .nil, fun j v h => by simp at h⟩
  | n + 1, Q, f => by
    obtain ⟨x, c, h1, h2, h3⟩ := f 0 (by omega)
    obtain ⟨xs, cs, e1, e2, e3⟩ := els_of (n := n) (Q := fun m v => Q (sz + m) v) (fun i hi => by
      obtain ⟨x, c, h1, h2, h3⟩ := f (i + 1) (by omega)
      refine ⟨x, c, h1, h2, fun j v hj => ?_⟩
      have := h3 j v hj
      rwa [Nat.add_mul, Nat.one_mul, Nat.add_comm (i * sz), Nat.add_assoc] at this)
    refine ⟨x :: xs, c ++ cs, by simp [e1], .cons h1 h2 e2, fun j v hj => ?_⟩
    rcases Nat.lt_or_ge j c.length with h | h
    · rw [List.getElem?_append_left h] at hj
      simpa using h3 j v hj
    · rw [List.getElem?_append_right h] at hj
      have := e3 _ _ hj
      rwa [h2, Nat.add_sub_cancel' (by omega)] at this
theorem rd_slice {α : Type} {RE : α → List Value → Prop} {sz : Nat} (ht : P.underlying t = some (.slice e)) (hc : P.cellsOf e = sz) (h0 : 0 < sz) (hr : Rd enc P w base spare held e (fun c => ∃ x, RE x c)) :
    Rd enc P w base spare held t (fun c => ∃ v xs, c = [v] ∧ Slc RE sz (mem w) v xs) := by
  intro fuel cs x h
  rcases DataW.trod_slice ht h with ⟨rfl, _⟩ | ⟨a, len, cap, elems, rest, n, _, rfl, _, _, hl, hm, hlen, hel, _, _⟩
  · exact ⟨_, [], rfl, [], .nil, none, 0, rfl, Nat.le_refl _, Nat.zero_le _, fun h => absurd rfl h, fun h => absurd rfl h⟩
  have each0 : ∀ i, i < len → ∃ x c, RE x c ∧ c.length = sz ∧ ∀ j, j < sz → w.cell? ((a.add (i * sz)).add j) = c[j]? := by
    intro i hi
    have h1 := hel i hi
    rw [List.getElem?_eq_getElem (by omega), hc] at h1
    obtain ⟨c, hc1, hc2⟩ := Option.bind_eq_some_iff.1 h1
    obtain ⟨_, l1, l2⟩ := World.cells?_some hc1
    obtain ⟨x, hx⟩ := hr _ _ _ hc2
    exact ⟨x, c, hx, l1, l2⟩
  have hs : 0 < len → a.spot = none := by
    intro hp
    obtain ⟨x, c, _, l1, l2⟩ := each0 0 hp
    have h2 := (l2 0 h0).trans (List.getElem?_eq_getElem (by omega))
    simpa [Addr.add] using World.cell?_spot h2
  obtain ⟨b, off, spot⟩ := a
  simp only at hs
  have each : ∀ i, i < len → ∃ x c, RE x c ∧ c.length = sz ∧ ∀ j v, c[j]? = some v → (fun m v => w.cell? ⟨b, off + m, none⟩ = some v) (i * sz + j) v := by
    intro i hi
    obtain ⟨x, c, hx, l1, l2⟩ := each0 i hi
    refine ⟨x, c, hx, l1, fun j v hj => ?_⟩
    have hjl : j < sz := by
      have := (List.getElem?_eq_some_iff.1 hj).1
      omega
    have h2 := (l2 j hjl).trans hj
    rw [hs (by omega), add_plain, add_plain] at h2
    simpa [Nat.add_assoc] using h2
  obtain ⟨xs, cs, e1, e2, e3⟩ := els_of (RE := RE) (sz := sz) (Q := fun m v => w.cell? ⟨b, off + m, none⟩ = some v) each
  refine ⟨_, xs, rfl, cs, e2, some ⟨b, off, spot⟩, cap, by rw [e1], by omega, hm, fun hn => by rw [hs (by omega)]; rfl, fun hn j v hj => mem_cell (e3 j v hj)⟩
theorem rd_at {R : List Value → Prop} {v : Value} {d : DataW H} {ps : List MemPlace} (hr : Rd enc P w base spare held t R) (h : DataW.Trod enc P w base spare held t v d ps) : R v.cells.toList := by
  obtain ⟨fuel, hf⟩ := h
  exact hr _ _ _ hf
theorem at_slice {α : Type} {RE : α → List Value → Prop} {sz : Nat} {r : Reach} {b0 : Nat} {v : Value} {d : DataW H} {ps : List MemPlace} (ht : P.underlying t = some (.slice e)) (hval : Value.okWide P w r b0 t v)
    (hr : Rd enc P w base spare held t (fun c => ∃ v xs, c = [v] ∧ Slc RE sz (mem w) v xs)) (h : DataW.Trod enc P w base spare held t v d ps) : ∃ xs, Slc RE sz (mem w) v xs := by
  obtain ⟨a, len, cap, rfl⟩ := okWide_slice ht hval
  obtain ⟨u, xs, e1, h2⟩ := rd_at hr h
  simp [Value.cells] at e1
  subst e1
  exact ⟨xs, h2⟩
theorem again {W W' : World} {v : Value} {d : DataW H} {ps : List MemPlace} (hl : laidOutB P = true) (hr : P.readableRec t = true) (hrow : t < P.types.size) (h : DataW.Trod enc P W 0 (fun _ => true) true t v d ps) (hb : Below W.heap.size W W') :
    DataW.Trod enc P W' 0 (fun b => decide (b < W.heap.size)) true t v d ps :=
  Below.trod hl hr hrow h hb (fun p hp => let ⟨n, hn⟩ := h; DataW.trod_lt n _ _ _ hn p hp)
end
end Go.Proofs.YtdngkgkkblfcjaaDoor.K
namespace Go.Proofs.YtdngkgkkblfcjaaDoor.K
open Go Go.Proofs
set_option linter.unusedVariables false
theorem laid_each {P : Program} {W : World} : ∀ {l : List (String × DataW Unit)} {ps : List MemPlace}, DataW.LaidVars P W l ps → ∀ {n : String} {d : DataW Unit}, (n, d) ∈ l →
    ∃ g t cs fuel p, P.globalNamed n = some g ∧ (P.globals[g]?).map (·.type) = some t ∧ W.var? P n = some cs ∧ DataW.trod (fun _ => ()) P W 0 (fun _ => true) false fuel t cs.toList = some (d, p) ∧ ∀ x ∈ MemPlace.row ⟨g, 0, none⟩ cs.size ++ p, x ∈ ps
  | [], ps, h, n, d, hm => by cases hm
  | (m, e) :: r, ps, h, n, d, hm => by
    obtain ⟨g, t, cs, fuel, p, q, hg, ht, hv, hd, hr, rfl⟩ := h
    rcases List.mem_cons.1 hm with e1 | hm
    · cases e1
      exact ⟨g, t, cs, fuel, p, hg, ht, hv, hd, fun x hx => List.mem_append_left _ hx⟩
    · obtain ⟨g', t', cs', fuel', p', a1, a2, a3, a4, a5⟩ := laid_each hr hm
      exact ⟨g', t', cs', fuel', p', a1, a2, a3, a4, fun x hx => List.mem_append_right _ (a5 x hx)⟩
theorem sent_of_laid {P : Program} {W : World} {laid : List (String × DataW Unit)} {code : ByteArray → Nat} {n : String} {text : List UInt8} {g : Nat} {ti tp ta te ts : TypeId} {ms : Array (String × TypeId)} {f : Field}
    (h : laidMet P laid W) (hm : (n, .iface "*errors.errorString" (.ptr (.agg [.lit (.string text)]))) ∈ laid) (hg : P.globalNamed n = some g) (ht : (P.globals[g]?).map (·.type) = some ti)
    (hi : P.underlying ti = some (.interface ms)) (hrow : ∀ u, P.typeName? 3 u = some "*errors.errorString" → u = tp) (hp : P.underlying tp = some (.pointer te)) (he : P.underlying te = some (.struct #[f])) (hft : f.type = ts) (hfo : f.offset = 0) (hs : P.underlying ts = some .string) (hc : P.cellsOf te = 1) (hcs : P.cellsOf ts = 1)
    (hcode : ∀ s : ByteArray, s.data.toList = text → code s = g + 1) : ∃ v, ErV tp ta code (mem W) (.b (g + 1)) v := by
  obtain ⟨ps, hl, hnd, hrows⟩ := h
  obtain ⟨g', t', cs, fuel, p, a1, a2, a3, a4, a5⟩ := laid_each hl hm
  obtain rfl := Option.some.inj (hg.symm.trans a1)
  obtain rfl := Option.some.inj (ht.symm.trans a2)
  obtain ⟨l⟩ := cs
  have ok : ∀ u v, l = [.iface u v] → Value.okWide P W .any 0 u v := fun u v e => by
    subst e
    exact (hrows g 0 (a5 _ (by simp [MemPlace.row]))).2 u v (by simpa using World.var?_cell hg a3 0)
  obtain ⟨a, s, rfl, hcell, hst, hz, rfl⟩ := errorString_of_trod hi hrow hp he hft hfo hs hc hcs a4 ok
  obtain ⟨c, t, hb⟩ := (hrows a.block a.off (a5 _ (by simp [MemPlace.row]))).1
  refine ⟨.iface tp (.pointer (some a)), .inr ⟨by omega, mem_cell (by simpa using World.var?_cell hg a3 0), a, s, c, t, rfl, hb, hcode s hst, fun w hw => ?_⟩⟩
  have e : w.heap[a.block]? = W.heap[a.block]? := (hw _ _ hb).trans hb.symm
  unfold World.cell? at hcell ⊢
  rw [e]
  exact hcell
end Go.Proofs.YtdngkgkkblfcjaaDoor.K
namespace Go.Proofs.YtdngkgkkblfcjaaDoor.T
open Go Go.Proofs Go.Proofs.YtdngkgkkblfcjaaDoor.K
set_option linter.unusedVariables false
set_option linter.unusedSimpArgs false
set_option maxRecDepth 100000
theorem own : ownKnob Tryd.prog.godebug = none := by kernel_rfl
noncomputable def low : Nat := (World.holding Tryd.prog default ⟨#[], #[], []⟩).heap.size
abbrev es0 : ByteArray := { data := #[116, 111, 111, 32, 109, 97, 110, 121, 44, 32, 111, 114, 32, 116, 111, 111, 32, 102, 101, 119] }
abbrev es1 : ByteArray := { data := #[116, 111, 111, 32, 108, 111, 110, 103] }
abbrev es2 : ByteArray := { data := #[111, 110, 101, 32, 116, 104, 105, 110, 103, 32, 116, 119, 105, 99, 101] }
abbrev es3 : ByteArray := { data := #[97, 32, 114, 111, 111, 116, 32, 116, 104, 97, 116, 32, 100, 111, 101, 115, 32, 110, 111, 116, 32, 102, 105, 116] }
abbrev es4 : ByteArray := { data := #[107, 110, 111, 119, 110, 32, 97, 108, 114, 101, 97, 100, 121] }
abbrev es5 : ByteArray := { data := #[110, 111, 32, 115, 117, 99, 104, 32, 112, 97, 114, 101, 110, 116] }
abbrev es6 : ByteArray := { data := #[116, 104, 101, 114, 101, 32, 105, 115, 32, 110, 111, 32, 114, 111, 111, 109] }
abbrev es7 : ByteArray := { data := #[97, 32, 110, 117, 109, 98, 101, 114, 32, 111, 117, 116, 32, 111, 102, 32, 105, 116, 115, 32, 114, 97, 110, 103, 101] }
abbrev es8 : ByteArray := { data := #[110, 111, 32, 102, 105, 114, 115, 116, 32, 116, 114, 97, 110, 115, 97, 99, 116, 105, 111, 110, 32, 119, 104, 101, 114, 101, 32, 116, 104, 101, 114, 101, 32, 104, 97, 115, 32, 116, 111, 32, 98, 101, 32, 111, 110, 101, 44, 32, 111, 114, 32, 111, 110, 101, 32, 119, 104, 101, 114, 101, 32, 116, 104, 101, 114, 101, 32, 109, 97, 121, 32, 98, 101, 32, 110, 111, 110, 101] }
abbrev es9 : ByteArray := { data := #[97, 32, 107, 101, 121, 32, 116, 104, 97, 116, 32, 100, 111, 101, 115, 32, 110, 111, 116, 32, 102, 105, 116] }
abbrev es10 : ByteArray := { data := #[97, 110, 32, 97, 109, 111, 117, 110, 116, 32, 116, 104, 97, 116, 32, 99, 97, 110, 39, 116, 32, 98, 101] }
abbrev es11 : ByteArray := { data := #[105, 116, 32, 101, 110, 100, 115, 32, 116, 111, 111, 32, 101, 97, 114, 108, 121] }
abbrev es12 : ByteArray := { data := #[110, 111, 116, 32, 97, 115, 32, 105, 116, 32, 104, 97, 115, 32, 116, 111, 32, 98, 101] }
abbrev es13 : ByteArray := { data := #[98, 101, 104, 105, 110, 100, 32, 119, 104, 97, 116, 32, 105, 115, 32, 110, 111, 116, 32, 118, 97, 108, 105, 100] }
abbrev es14 : ByteArray := { data := #[97, 32, 116, 105, 109, 101, 32, 116, 104, 97, 116, 32, 105, 115, 32, 116, 111, 111, 32, 101, 97, 114, 108, 121] }
abbrev es15 : ByteArray := { data := #[97, 32, 99, 111, 105, 110, 32, 116, 104, 97, 116, 32, 105, 115, 32, 110, 111, 116, 32, 116, 104, 101, 114, 101] }
abbrev es16 : ByteArray := { data := #[97, 32, 99, 111, 105, 110, 32, 116, 104, 97, 116, 32, 105, 115, 32, 116, 111, 111, 32, 121, 111, 117, 110, 103] }
abbrev es17 : ByteArray := { data := #[116, 111, 111, 32, 101, 97, 114, 108, 121, 32, 116, 111, 32, 98, 101, 32, 116, 97, 107, 101, 110] }
abbrev es18 : ByteArray := { data := #[108, 101, 115, 115, 32, 99, 111, 109, 101, 115, 32, 105, 110, 32, 116, 104, 97, 110, 32, 103, 111, 101, 115, 32, 111, 117, 116] }
abbrev es19 : ByteArray := { data := #[109, 111, 114, 101, 32, 116, 104, 97, 110, 32, 116, 104, 101, 32, 114, 101, 119, 97, 114, 100] }
abbrev es20 : ByteArray := { data := #[97, 32, 99, 111, 105, 110, 32, 116, 104, 97, 116, 32, 105, 115, 32, 115, 112, 101, 110, 116, 32, 105, 110, 32, 116, 104, 101, 32, 112, 111, 111, 108] }
abbrev es21 : ByteArray := { data := #[116, 111, 111, 32, 109, 97, 110, 121, 32, 116, 104, 97, 116, 32, 104, 97, 110, 103, 32, 116, 111, 103, 101, 116, 104, 101, 114] }
abbrev es22 : ByteArray := { data := #[116, 104, 101, 114, 101, 32, 105, 115, 32, 110, 111, 110, 101] }
abbrev es23 : ByteArray := { data := #[110, 111, 32, 115, 117, 99, 104, 32, 119, 111, 114, 100] }
abbrev es24 : ByteArray := { data := #[110, 111, 116, 32, 97, 32, 110, 117, 109, 98, 101, 114] }
def setC (v : Value) : Obj → Obj
  | .cells _ t frozen => .cells #[v] t frozen
  | x => x
noncomputable def laidWorld (os : Os) : World :=
  let w0 := World.holding Tryd.prog os ⟨#[.cells #[.string es0] 220, .cells #[.string es1] 220, .cells #[.string es2] 220, .cells #[.string es3] 220, .cells #[.string es4] 220, .cells #[.string es5] 220, .cells #[.string es6] 220, .cells #[.string es7] 220, .cells #[.string es8] 220, .cells #[.string es9] 220, .cells #[.string es10] 220, .cells #[.string es11] 220, .cells #[.string es12] 220, .cells #[.string es13] 220, .cells #[.string es14] 220, .cells #[.string es15] 220, .cells #[.string es16] 220, .cells #[.string es17] 220, .cells #[.string es18] 220, .cells #[.string es19] 220, .cells #[.string es20] 220, .cells #[.string es21] 220, .cells #[.string es22] 220, .cells #[.string es23] 220, .cells #[.string es24] 220], #[], []⟩
  { w0 with heap := (((((((((((((((((((((((((w0.heap.modify 0 (setC (.iface 201 (.pointer (some ⟨low + 0, 0, none⟩))))).modify 1 (setC (.iface 201 (.pointer (some ⟨low + 1, 0, none⟩))))).modify 2 (setC (.iface 201 (.pointer (some ⟨low + 2, 0, none⟩))))).modify 3 (setC (.iface 201 (.pointer (some ⟨low + 3, 0, none⟩))))).modify 4 (setC (.iface 201 (.pointer (some ⟨low + 4, 0, none⟩))))).modify 5 (setC (.iface 201 (.pointer (some ⟨low + 5, 0, none⟩))))).modify 6 (setC (.iface 201 (.pointer (some ⟨low + 6, 0, none⟩))))).modify 7 (setC (.iface 201 (.pointer (some ⟨low + 7, 0, none⟩))))).modify 8 (setC (.iface 201 (.pointer (some ⟨low + 8, 0, none⟩))))).modify 9 (setC (.iface 201 (.pointer (some ⟨low + 9, 0, none⟩))))).modify 10 (setC (.iface 201 (.pointer (some ⟨low + 10, 0, none⟩))))).modify 11 (setC (.iface 201 (.pointer (some ⟨low + 11, 0, none⟩))))).modify 12 (setC (.iface 201 (.pointer (some ⟨low + 12, 0, none⟩))))).modify 13 (setC (.iface 201 (.pointer (some ⟨low + 13, 0, none⟩))))).modify 14 (setC (.iface 201 (.pointer (some ⟨low + 14, 0, none⟩))))).modify 15 (setC (.iface 201 (.pointer (some ⟨low + 15, 0, none⟩))))).modify 16 (setC (.iface 201 (.pointer (some ⟨low + 16, 0, none⟩))))).modify 17 (setC (.iface 201 (.pointer (some ⟨low + 17, 0, none⟩))))).modify 18 (setC (.iface 201 (.pointer (some ⟨low + 18, 0, none⟩))))).modify 19 (setC (.iface 201 (.pointer (some ⟨low + 19, 0, none⟩))))).modify 20 (setC (.iface 201 (.pointer (some ⟨low + 20, 0, none⟩))))).modify 21 (setC (.iface 201 (.pointer (some ⟨low + 21, 0, none⟩))))).modify 22 (setC (.iface 201 (.pointer (some ⟨low + 22, 0, none⟩))))).modify 23 (setC (.iface 201 (.pointer (some ⟨low + 23, 0, none⟩))))).modify 24 (setC (.iface 201 (.pointer (some ⟨low + 24, 0, none⟩))))) }
theorem starE : "*" ++ "errors.errorString" = "*errors.errorString" := by decide
theorem rowE (u : TypeId) (h : Tryd.prog.typeName? 3 u = some "*errors.errorString") : u = 201 :=
  typeName_ptr_named (nm := "errors.errorString") (by rw [starE]; kernel_rfl) (by kernel_rfl) (by decide) u (by rw [starE]; exact h)
theorem ceE : Tryd.prog.cellsOf 220 = 1 := by kernel_rfl
theorem csE : Tryd.prog.cellsOf 9 = 1 := by kernel_rfl
theorem sent4 {W : World} {l : List (String × DataW Unit)} (h : laidMet Tryd.prog l W) (hm : ("sargasso/api.ErrKnown", .iface "*errors.errorString" (.ptr (.agg [.lit (.string [107, 110, 111, 119, 110, 32, 97, 108, 114, 101, 97, 100, 121])]))) ∈ l) : ∃ v, ErS (mem W) v (Er.b 5) :=
  sent_of_laid h hm (by kernel_rfl) (by kernel_rfl) Tryd.underlying47 rowE Tryd.underlying201 Tryd.underlying220 rfl rfl Tryd.underlying9 ceE csE (fun s hs => by unfold errCode; rw [hs]; kernel_rfl)
theorem sent5 {W : World} {l : List (String × DataW Unit)} (h : laidMet Tryd.prog l W) (hm : ("sargasso/api.ErrParent", .iface "*errors.errorString" (.ptr (.agg [.lit (.string [110, 111, 32, 115, 117, 99, 104, 32, 112, 97, 114, 101, 110, 116])]))) ∈ l) : ∃ v, ErS (mem W) v (Er.b 6) :=
  sent_of_laid h hm (by kernel_rfl) (by kernel_rfl) Tryd.underlying47 rowE Tryd.underlying201 Tryd.underlying220 rfl rfl Tryd.underlying9 ceE csE (fun s hs => by unfold errCode; rw [hs]; kernel_rfl)
theorem sent6 {W : World} {l : List (String × DataW Unit)} (h : laidMet Tryd.prog l W) (hm : ("sargasso/api.ErrFull", .iface "*errors.errorString" (.ptr (.agg [.lit (.string [116, 104, 101, 114, 101, 32, 105, 115, 32, 110, 111, 32, 114, 111, 111, 109])]))) ∈ l) : ∃ v, ErS (mem W) v (Er.b 7) :=
  sent_of_laid h hm (by kernel_rfl) (by kernel_rfl) Tryd.underlying47 rowE Tryd.underlying201 Tryd.underlying220 rfl rfl Tryd.underlying9 ceE csE (fun s hs => by unfold errCode; rw [hs]; kernel_rfl)
end Go.Proofs.YtdngkgkkblfcjaaDoor.T
namespace Go.Proofs.YtdngkgkkblfcjaaDoor.T
open Go Go.Proofs Go.Proofs.YtdngkgkkblfcjaaDoor.K
set_option linter.unusedVariables false
set_option linter.unusedSimpArgs false
theorem laid : laidOutB Tryd.prog = true := by kernel_rfl
theorem cl3 : Tryd.prog.cellsOf 3 = 1 := by kernel_rfl
theorem rr55 : Tryd.prog.readableRec 55 = true := by kernel_rfl
theorem tr55 : 55 < Tryd.prog.types.size := of_decide_eq_true (by kernel_rfl)
section
variable {H : Type} {enc : TypeId × Value → H} {w : World} {base : Nat} {spare : Nat → Bool} {held : Bool}
theorem rd3 : Rd enc Tryd.prog w base spare held 3 (fun c => ∃ n, RI .i64 n c) := rd_int Tryd.underlying3
theorem rd55 : Rd enc Tryd.prog w base spare held 55 (fun c => ∃ v xs, c = [v] ∧ Slc (RI .i64) 1 (mem w) v xs) := rd_slice Tryd.underlying55 cl3 (by decide) rd3
end
end Go.Proofs.YtdngkgkkblfcjaaDoor.T
namespace Go.Proofs.YtdngkgkkblfcjaaDoor.J
open Go Go.Proofs
theorem words_cons : ∀ (w r : List Char), w.all (· != ' ') = true → wordsSigns (w ++ ' ' :: r) = w :: wordsSigns r
  | [], r, _ => rfl
  | c :: w, r, h => by
    simp only [List.all_cons, Bool.and_eq_true, bne_iff_ne, ne_eq] at h
    have ih := words_cons w r h.2
    rw [List.cons_append, wordsSigns, ih]
    exact fun e => h.1 e
set_option maxRecDepth 100000
def w0 : List Char := ['h', 'a', 'r', 'n', 'e', 's', 's']
def w1 : List Char := ['d', '8', '8', '9', 'a', 'b', '0', '1', '8', '0', 'b', '3', '5', 'f', '7', 'd', 'f', 'd', 'f', 'b', '2', 'b', 'f', '9', 'e', '4', '3', '8', 'b', 'f', '8', '0', '7', 'b', 'f', '1', '6', 'e', '9', 'b', 'f', '6', '6', '4', '3', '8', '1', '4', '2', 'a', 'a', '2', '7', '7', '0', 'c', '9', 'f', '7', 'a', '0', 'a', 'b', '8']
def w2 : List Char := ['c', 'u', 't']
def w3 : List Char := ['a', 't', ' ', 's', 'a', 'r', 'g', 'a', 's', 's', 'o', '/', 's', 'a', 'r', 'g', 'a', 's', 's', 'o', 'l', 'a', 'w', '7', '.', 'B', 'l', 'o', 'c', 'k', 'K', 'i', 'n', 'd', 's', ' ', 's', 'a', 'r', 'g', 'a', 's', 's', 'o', '/', 's', 'a', 'r', 'g', 'a', 's', 's', 'o', 'l', 'a', 'w', '1', '1', '.', 'T', 'r', 'e', 'e', 'W', 'a', 'y', 's', ' ', 's', 'a', 'r', 'g', 'a', 's', 's', 'o', '/', 's', 'a', 'r', 'g', 'a', 's', 's', 'o', 'l', 'a', 'w', '1', '3', '.', 'B', 'e', 's', 't', 'O', 'v', 'e', 'r', ' ', 's', 'a', 'r', 'g', 'a', 's', 's', 'o', '/', 's', 'a', 'r', 'g', 'a', 's', 's', 'o', 'l', 'a', 'w', '1', '3', '.', 'B', 'e', 's', 't', 'G', 'o', 'e', 's']
theorem io0 : Tryd.prog.initOrder = String.ofList (w0 ++ ' ' :: (w1 ++ ' ' :: (w2 ++ ' ' :: w3))) := by kernel_rfl
theorem io : Tryd.prog.initOrder.toList = w0 ++ ' ' :: (w1 ++ ' ' :: (w2 ++ ' ' :: w3)) := (congrArg String.toList io0).trans String.toList_ofList
theorem ws : wordsSigns Tryd.prog.initOrder.toList = w0 :: w1 :: w2 :: wordsSigns w3 := by
  rw [io, words_cons _ _ (by kernel_rfl), words_cons _ _ (by kernel_rfl), words_cons _ _ (by kernel_rfl)]
theorem bm (R : List (List Char)) : behindMainWord (w0 :: w1 :: w2 :: R) = w2 :: R := by kernel_rfl
theorem main_of {P : Program} {R : List (List Char)} (h : wordsSigns P.initOrder.toList = w0 :: w1 :: R) : P.mainIs = some (true, w1) := by
  unfold Program.mainIs
  rw [h]
  kernel_rfl
theorem mainIs : Tryd.prog.mainIs = some (true, w1) := main_of ws
theorem bw : behindMainWord (wordsSigns Tryd.prog.initOrder.toList) = w2 :: wordsSigns w3 := by rw [ws, bm]
theorem st (R : List (List Char)) : stripLifts liftWords (w2 :: R) = ([], w2 :: R) := by kernel_rfl
theorem make_of {P : Program} {R : List (List Char)} (h : behindMainWord (wordsSigns P.initOrder.toList) = w2 :: R) : P.make = some .cut := by
  unfold Program.make
  rw [h]
  kernel_rfl
theorem head_of {P : Program} {R : List (List Char)} (h : behindMainWord (wordsSigns P.initOrder.toList) = w2 :: R) : P.headLifts = [] := by
  unfold Program.headLifts
  rw [h, st]
  kernel_rfl
theorem lifts_of {P : Program} {R : List (List Char)} (h : behindMainWord (wordsSigns P.initOrder.toList) = w2 :: R) : P.liftsFinal = false := by
  unfold Program.liftsFinal
  rw [h, head_of h]
  kernel_rfl
theorem may_of {P : Program} {R : List (List Char)} (h : behindMainWord (wordsSigns P.initOrder.toList) = w2 :: R) (h1 : P.laysLater = false) (h2 : P.bearsReflect = false) (h3 : P.doorFits [] = true) : P.mayEnter = true := by
  unfold Program.mayEnter
  rw [h]
  simp only [st, h1, h2, h3]
  kernel_rfl
theorem later : Tryd.prog.laysLater = false := by kernel_rfl
theorem reflect : Tryd.prog.bearsReflect = false := by kernel_rfl
theorem door : Tryd.prog.doorFits [] = true := by kernel_rfl
theorem make : Tryd.prog.make = some .cut := make_of bw
theorem lifts : Tryd.prog.liftsFinal = false := lifts_of bw
theorem may : Tryd.prog.mayEnter = true := may_of bw later reflect door
end Go.Proofs.YtdngkgkkblfcjaaDoor.J
namespace Go.Proofs.YtdngkgkkblfcjaaDoor.zBestGoes
open Go Go.Proofs Go.Proofs.YtdngkgkkblfcjaaDoor.K Go.Proofs.YtdngkgkkblfcjaaDoor.T
open Go.ChangeShapes Go.WideShapes Go.ChangeAt Go.RowKit
set_option linter.unusedVariables false
theorem met (os : Os) (args : Array Value) : laidMetH Tryd.prog Rows.bestGoesRow.laid ((laidWorld os).forCall (fun _ _ => 0) ⟨#[], args, []⟩).memory :=
  laidMetH_of_parts (laidMet_of_run' 8 (by kernel_rfl) (by kernel_rfl)) (by kernel_rfl)
set_option maxRecDepth 100000 in
theorem lifted (os : Os) (started : os.Started) (H : Type) (enc : TypeId × Value → H) :
    ReturnsInHanded {} Tryd.checked os 6 .any (fun w args => (Rows.bestGoesSpec.pre enc Tryd.prog Tryd.f6 [] false w args ∧ laidMetH Tryd.prog Rows.bestGoesRow.laid w) ∧ sizedMet enc Tryd.prog Tryd.f6 (OpenSpec.ofChange Rows.bestGoesSpec) false w args) (Rows.bestGoesSpec.post enc Tryd.prog Tryd.f6 false true false false) := by
  refine returnsInHanded_of_change_and (C := Tryd.checked) (X := fun w _ => laidMetH Tryd.prog Rows.bestGoesRow.laid w) (fun _ _ _ hh h => h.of_heap hh) own started (by kernel_rfl) Tryd.func6
    (ChangeSpec.witness_at (enc := enc) (C := Tryd.checked) (os := os) (X := fun w _ => laidMetH Tryd.prog Rows.bestGoesRow.laid w) false (laidWorld os) #[.slice none 0 0] 8 rfl (by kernel_rfl) (by kernel_rfl) (by kernel_rfl) (by kernel_rfl) (by kernel_rfl) (met os _)) ?_
  intro W base args ds gs before hval0 hW hcnd hsz0 hL _
  have hL : laidMet Tryd.prog Rows.bestGoesRow.laid W := hL
  obtain ⟨e4, he4⟩ := sent4 hL (List.mem_of_getElem? (i := 0) rfl)
  obtain ⟨e5, he5⟩ := sent5 hL (List.mem_of_getElem? (i := 1) rfl)
  obtain ⟨e6, he6⟩ := sent6 hL (List.mem_of_getElem? (i := 2) rfl)
  have hW' := hW
  obtain ⟨p, q, hA0, hV, rfl, hfz, hnd⟩ := hW
  have hA : DataW.TrodAll enc Tryd.prog W 0 (fun _ => true) true Tryd.f6.params.toList args.toList ds p := hA0
  have hval : ∀ (j : Nat) t v, Tryd.f6.params[j]? = some t → args[j]? = some v → Value.okWide Tryd.prog W .any base t v := hval0
  rw [Tryd.params6] at hA hval
  obtain ⟨v0, vs0, d0, ds0, p0, q0, hargs, rfl, rfl, h0, r0⟩ := trodAll_cons hA
  obtain ⟨rfl, rfl, rfl⟩ := trodAll_nil r0
  obtain rfl : args = #[v0] := by cases args; simp_all
  obtain ⟨rfl, rfl⟩ := trodVars_none hV
  obtain ⟨x0, w0⟩ := at_slice Tryd.underlying55 (hval 0 55 v0 rfl rfl) rd55 h0
  have hμ : Agr (mem W) W := agr_mem W
  have hm := sargassolaw13_BestGoes.m (mem W) x0 v0 w0
  refine (sargassolaw13_BestGoes.c (mem W) W hμ x0 v0 w0 e4 he4 e5 he5 e6 he6 true hm).mono fun e W' ⟨v, he, hv, _, hI⟩ => ?_
  subst hv
  subst he
  have bel : Below W.heap.size W W' := hI.below
  exact ⟨_, rfl, _, _, _, [], _, [], hW', trodAll_mk1 (shut_bool Tryd.underlying4 _), (trodAll_cons_mk (again laid rr55 tr55 h0 bel) trodAll_mk0), rfl, bel.frame _, fun h => by cases h⟩
theorem closed : joinedFacts Tryd.prog 6 Tryd.f6 Rows.bestGoesSpec Rows.bestGoesRow = true := by
  unfold joinedFacts
  rw [J.may, J.lifts, J.make]
  kernel_rfl
theorem over : Rows.bestGoesRow.holds Tryd.pinned (OpenSpec.ofChange Rows.bestGoesSpec) :=
  OpenClaim.holds_of_wide 6 Tryd.f6 rfl rfl rfl rfl rfl rfl rfl ⟨rfl, rfl, rfl, rfl, rfl⟩ rfl rfl rfl rfl rfl (by kernel_rfl) Tryd.func6 closed
    (of_decide_eq_true (by kernel_rfl)) (by unfold Func.isWrapper; first | (rw [if_pos (by decide +kernel)]; kernel_rfl) | (rw [if_neg (by decide +kernel)]; exact ⟨rfl, rfl⟩))
    (fun os started H enc _ => lifted os started H enc)
theorem card : Rows.BestGoesCardSaid :=
  Claim7.holds_tied_plain_at .later [] [.sentinel, .sentinel, .sentinel] true (true, "d889ab0180b35f7dfdfb2bf9e438bf807bf16e9bf66438142aa2770c9f7a0ab8") true
    over (fun _ h => by cases h) (by kernel_rfl) (fun _ h => by cases h) bestGoes_row_tie rfl ⟨rfl, rfl⟩ (J.mainIs.trans (congrArg (fun s => some (true, s)) (by kernel_rfl))) rfl
    (fun f fn hf hfn => by
      obtain rfl : f = 6 := Option.some.inj ((show Tryd.prog.funcNamed "sargasso/sargassolaw13.BestGoes" = some 6 by kernel_rfl).symm.trans hf) |>.symm
      obtain rfl : fn = Tryd.f6 := (Option.some.inj (Tryd.func6.symm.trans hfn)).symm
      exact ⟨by kernel_rfl, fun j t ht => by
        rw [Tryd.params6] at ht
        rcases j with _ | j
        · obtain rfl : (55 : TypeId) = t := by simpa using ht
          exact (show Tryd.prog.wantsStandIn 55 = false by kernel_rfl)
        · simp at ht⟩)
    (by kernel_rfl)
end Go.Proofs.YtdngkgkkblfcjaaDoor.zBestGoes
namespace Go.Proofs.YtdngkgkkblfcjaaDoor
theorem bestGoes_holds : Rows.BestGoesCardSaid := zBestGoes.card
#print axioms bestGoes_holds
end Go.Proofs.YtdngkgkkblfcjaaDoor
