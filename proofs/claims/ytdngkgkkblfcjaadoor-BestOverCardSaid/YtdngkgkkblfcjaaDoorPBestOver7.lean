/- Proved: the statement BestOver, as given (its conditions are those of the given row, and card where there is one; no others): the call ends, with true, and the input reads as it did. This file is one of its parts. -/
import Derived.Test.YtdngkgkkblfcjaaDoorPBestOver6
import Derived.OpenShut
import Derived.ChangeArms
import Derived.DataReads
import Derived.WideShapes
import Derived.Below
import Derived.Carry
import Derived.ChangeOld
import Derived.LaidLaws
import Derived.Stop.ErrReads
import Derived.ChangeVars
import Derived.Test.YtdngkgkkblfcjaaDoorRows
import Derived.Test.YtdngkgkkblfcjaaDoorProg
import Derived.JoinedOf
import Derived.ProofKit
import Derived.WalkKit
import Derived.ShutString
import Derived.SizedLaws
import Derived.LaidHandle
import Derived.Handed
import Derived.SevenTiedAt
import Derived.Test.YtdngkgkkblfcjaaDoorCards
import Derived.Test.YtdngkgkkblfcjaaDoorTie
namespace Go.Proofs.YtdngkgkkblfcjaaDoor.T
open Go Go.Proofs Go.Proofs.YtdngkgkkblfcjaaDoor.K
set_option linter.unusedVariables false
structure OInv (n : Nat) (ids : List (List Int)) (m : List ((List Int) × treeNode)) (st : List Int) (bad : List ((List Int) × Bool)) (l : List N8) : Prop where
  tr : TR ⟨m, st⟩ l
  len : l.length ≤ n + 1
  mb : MB l bad
  il : ids.length = n + 1
  kn : ∀ x ∈ ids, ∃ j, j < l.length ∧ (gn l j).id = x
theorem OInv.at {n : Nat} {ids : List (List Int)} {m : List ((List Int) × treeNode)} {st : List Int} {bad : List ((List Int) × Bool)} {l : List N8} (h : OInv n ids m st bad l) {k : Nat} (hk : k < ids.length) : ∃ j, j < l.length ∧ (gn l j).id = ids.getD k [] := h.kn _ (getD_mem hk)
theorem over_step (x0 : List Int) (hx : ∀ x ∈ x0, InR .i64 x) {n : Nat} (hn : n < x0.length) (hl : x0.length ≤ 40) {ids : List (List Int)} {m : List ((List Int) × treeNode)} {st : List Int} {bad : List ((List Int) × Bool)} {l : List N8} (h : OInv n ids m st bad l) :
    ∃ ids' m' st' bad' l', sargassolaw13_BestOver.s0 x0 (ids, (n : Int), m, st, bad) = some (.inl (ids', ((n + 1 : Nat) : Int), m', st', bad')) ∧ OInv (n + 1) ids' m' st' bad' l' ∧ st' = st := by
  have hxn : InR .i64 (x0.getD n 0) := hx _ (getD_mem hn)
  have hil := h.il
  obtain ⟨y, hy, y0, y1⟩ := number_eq (x := x0.getD n 0) (n := (ids.length : Int)) hxn (by omega) (by omega)
  obtain ⟨z, hz, z0, z1⟩ := number_eq (x := IntKind.i64.wrap (Int.tdiv (x0.getD n 0) 64)) (n := 3) (wrap_in _ _) (by omega) (by omega)
  obtain ⟨p, hp, ep⟩ := h.at (k := y.toNat) (by omega)
  obtain ⟨c, co, cp, ch⟩ := mk_head (n : Int) 0 (IntKind.i64.wrap (1 + z)) (ids.getD y.toNat []) (by rw [← ep]; exact h.tr.id32 hp)
  have ch' : (⟨IntKind.u32.wrap (n : Int), ids.getD y.toNat [], List.replicate 32 0, 0, IntKind.u32.wrap (IntKind.i64.wrap (1 + z)), 0⟩ : Head) = c.h := ch.symm
  -- the tree, grown or not
  obtain ⟨e, m', l', ha, ht', hl', hg', hk'⟩ : ∃ (e : Er) (m' : List ((List Int) × treeNode)) (l' : List N8), tree_Tree_Add.f ⟨m, st⟩ c.h = some (e, ⟨m', st⟩) ∧ TR ⟨m', st⟩ l' ∧ (l.length ≤ l'.length ∧ l'.length ≤ l.length + 1) ∧ (∀ i, i < l.length → gn l' i = gn l i) ∧ ∃ j, j < l'.length ∧ (gn l' j).id = hid c := by
    rcases h.tr.key (hid c) with ⟨i, hi, ei⟩ | hnew
    · exact ⟨_, m, l, add_known co (by rw [← ei, h.tr.known i hi]; rfl), h.tr, ⟨Nat.le_refl _, by omega⟩, fun _ _ => rfl, i, hi, ei⟩
    · obtain ⟨t', l', a1, a2, a3, a4, a5, a6⟩ := addr_new h.tr (by have := h.len; omega) co hnew hp (ep.trans cp.symm)
      obtain ⟨m', st'⟩ := t'
      have : st' = st := a4
      subst this
      exact ⟨_, m', l', a1, a2, ⟨by omega, by omega⟩, a5, l.length, by omega, a6⟩
  have hmb := h.mb.grow hl'.1 hg'
  have hkn : ∀ x ∈ ids ++ [hid c], ∃ j, j < l'.length ∧ (gn l' j).id = x := fun x hx => by
    rcases List.mem_append.1 hx with hx | hx
    · obtain ⟨j, hj, e⟩ := h.kn x hx
      exact ⟨j, by omega, by rw [hg' j hj]; exact e⟩
    · have : x = hid c := by simpa using hx
      rw [this]; exact hk'
  have hlen := h.len
  have hwr : IntKind.i64.wrap ((n : Int) + 1) = ((n + 1 : Nat) : Int) := winc n (by omega)
  have hl1 : (ids ++ [hid c]).length = ids.length + 1 := by simp
  obtain ⟨q, hq, q0, q1⟩ := number_eq (x := IntKind.i64.wrap (Int.tdiv (x0.getD n 0) 3)) (n := ((ids ++ [hid c]).length : Int)) (wrap_in _ _) (by omega) (by omega)
  have start : sargassolaw13_BestOver.s0 x0 (ids, (n : Int), m, st, bad) = ((if Int.tmod (x0.getD n 0) 5 = 0 then ((best_Marks_Bad.f (⟨(⟨m', st⟩ : treeTree), bad⟩ : bestMarks) ((ids ++ [hid c]).getD q.toNat [])).bind fun r11 => some (ids ++ [hid c], r11.2.t.m, r11.2.t.start, r11.2.bad)) else some (ids ++ [hid c], m', st, bad)).bind fun (c5, c6, c7, c8) => some (.inl (c5, ((n + 1 : Nat) : Int), c6, c7, c8))) := by
    simp only [sargassolaw13_BestOver.s0, Int.toNat_natCast]
    rw [if_pos (by omega), if_pos (by omega), hy, Option.bind_some, if_pos (by omega), hz, Option.bind_some]
    simp only [Option.bind_some]
    rw [ch', ha, Option.bind_some, hidr_eq co, Option.bind_some, if_pos (by omega), if_pos (by omega), hq, Option.bind_some, if_pos (show 0 ≤ q ∧ q < ((ids ++ [hid c]).length : Int) from ⟨q0, q1⟩), hwr]
  by_cases d : Int.tmod (x0.getD n 0) 5 = 0
  · obtain ⟨j, hj, ej⟩ := hkn _ (getD_mem (l := ids ++ [hid c]) (d := []) (i := q.toNat) (by omega))
    have hb := bad_eq ht' (bad := bad) hj
    rw [start, if_pos d, ← ej, hb]
    by_cases j0 : j = 0
    · rw [if_pos j0]
      exact ⟨ids ++ [hid c], m', st, bad, l', rfl, ⟨ht', by omega, hmb, by simp; omega, hkn⟩, rfl⟩
    · rw [if_neg j0]
      exact ⟨ids ++ [hid c], m', st, mput bad (gn l' j).id true, l', rfl, ⟨ht', by omega, hmb.put (by omega) hj, by simp; omega, hkn⟩, rfl⟩
  · rw [start, if_neg d]
    exact ⟨ids ++ [hid c], m', st, bad, l', rfl, ⟨ht', by omega, hmb, by simp; omega, hkn⟩, rfl⟩
theorem over_loop (x0 : List Int) (hx : ∀ x ∈ x0, InR .i64 x) (hl : x0.length ≤ 40) : ∀ (k n : Nat) (ids : List (List Int)) (m : List ((List Int) × treeNode)) (st : List Int) (bad : List ((List Int) × Bool)) (l : List N8), x0.length - n = k → n ≤ x0.length → OInv n ids m st bad l →
    ∃ ids' m' bad' l', loopO (sargassolaw13_BestOver.s0 x0) (ids, (n : Int), m, st, bad) = some (ids', m', st, bad') ∧ OInv x0.length ids' m' st bad' l' := by
  intro k
  induction k with
  | zero =>
    intro n ids m st bad l hk hn h
    have : n = x0.length := by omega
    subst this
    refine ⟨ids, m, bad, l, loopO_inr ?_, h⟩
    simp only [sargassolaw13_BestOver.s0]
    rw [if_neg (by omega)]
  | succ k ih =>
    intro n ids m st bad l hk hn h
    obtain ⟨ids1, m1, st1, bad1, l1, e1, h1, rfl⟩ := over_step x0 hx (n := n) (by omega) hl h
    obtain ⟨ids2, m2, bad2, l2, e2, h2⟩ := ih (n + 1) ids1 m1 st1 bad1 l1 (by omega) (by omega) h1
    exact ⟨ids2, m2, bad2, l2, (loopO_inl e1).trans e2, h2⟩
theorem sargassolaw13_BestOver.m (μ : Store) (x0 : List Int) (u0 : Value) (h0 : Slc (RI .i64) 1 μ u0 x0) (x1 : Int) (h1 : InR .i64 x1) (x2 : Int) (h2 : InR .i64 x2) : sargassolaw13_BestOver.f x0 x1 x2 = some true := by
  simp only [sargassolaw13_BestOver.f]
  rw [first13, Option.bind_some, if_pos rfl]
  by_cases c : 40 < (x0.length : Int)
  · rw [if_pos c]
  rw [if_neg c, start1_eq, Option.bind_some, tnew_eq H0_ok, Option.bind_some]
  simp only [best_New.f, tree_Tree_Start.f, Option.bind_some]
  have ht0 := tr_new H0_ok
  obtain ⟨ids, m, bad, l, e, h⟩ := over_loop x0 (slc_ints h0) (by omega) x0.length 0 [(tnew H0).start] (tnew H0).m (tnew H0).start [] (n8new H0) rfl (Nat.zero_le _) ⟨ht0, by simp [n8new], mb_nil, rfl, fun x hx => by
    have : x = (tnew H0).start := by simpa using hx
    rw [this]
    exact ⟨0, ht0.pos, ht0.st⟩⟩
  rw [show ((0 : Nat) : Int) = (0 : Int) from rfl] at e
  rw [e, Option.bind_some]
  obtain ⟨i, hi, him, eb, hbest⟩ := best_eq h.tr h.mb
  simp only []
  rw [eb, Option.bind_some]
  have hlen := h.len
  have hil := h.il
  have hM : (⟨⟨m, (tnew H0).start⟩, bad⟩ : bestMarks) = ⟨⟨m, (tnew H0).start⟩, bad⟩ := rfl
  have hK : ∀ j, j < l.length → (mget m (gn l j).id).isSome = true := fun j hj => by rw [h.tr.known j hj]; rfl
  have O := ov_o m
  -- the best is over each that is not marked
  have pass : ∀ k, k < ids.length → sargassolaw13_BestOver.s1 x1 x2 true ids ((gn l i).id, ⟨⟨m, (tnew H0).start⟩, bad⟩) (k : Int) = some (.inl ((k + 1 : Nat) : Int)) := fun k hk => by
    obtain ⟨j, hj, ej⟩ := h.at hk
    obtain ⟨r, hr, hrm⟩ := mis_eq h.tr h.mb hj
    simp only [sargassolaw13_BestOver.s1, Int.toNat_natCast]
    rw [if_pos (by omega), if_pos (by omega), ← ej, hr, Option.bind_some, over_eq, Option.bind_some]
    have fin : ((if r = ovT m (gn l i).id (gn l j).id then ((some r).bind fun r15 => (if r15 = true then some false else ((sargassoref_SameHash.f (gn l i).id (gn l j).id).bind fun r16 => some (!r16)))) else some false) : Option Bool) = some false := by
      by_cases d : r = ovT m (gn l i).id (gn l j).id
      · rw [if_pos d, Option.bind_some]
        cases r with
        | true => rw [if_pos rfl]
        | false =>
          rw [if_neg (by decide), samehash_eq _ _ (h.tr.id32 hi) (h.tr.id32 hj)]
          have hnm : ¬ Mkd l bad j := fun hm => by have := hrm.2 hm; cases this
          have h1 := hbest j hj hnm
          have : (gn l i).id = (gn l j).id := Classical.byContradiction fun hne => by
            have := O.tot _ _ (hK i hi) (hK j hj) hne d.symm
            rw [h1] at this
            cases this
          rw [this, decide_eq_true rfl]
          rfl
      · rw [if_neg d]
    rw [fin, Option.bind_some, if_neg (by decide), winc k (by omega)]
  refine loop_run (step := sargassolaw13_BestOver.s1 x1 x2 true ids ((gn l i).id, ⟨⟨m, (tnew H0).start⟩, bad⟩)) (fun k => (k : Int)) ids.length rfl (fun k hk => pass k hk) ?_
  obtain ⟨y, hy, y0, y1⟩ := number_eq (x := x1) (n := (ids.length : Int)) h1 (by omega) (by omega)
  obtain ⟨z, hz, z0, z1⟩ := number_eq (x := x2) (n := (ids.length : Int)) h2 (by omega) (by omega)
  obtain ⟨a, ha, ea⟩ := h.at (k := y.toNat) (by omega)
  obtain ⟨b, hb, ebb⟩ := h.at (k := z.toNat) (by omega)
  obtain ⟨r1, hr1, hrm1⟩ := mis_eq h.tr h.mb hi
  obtain ⟨r2, hr2, hrm2⟩ := mis_eq h.tr h.mb h.tr.pos
  have f1 : r1 = false := by
    cases r1 with
    | false => rfl
    | true => exact absurd (hrm1.1 rfl) him
  have f2 : r2 = false := by
    cases r2 with
    | false => rfl
    | true => exact absurd (hrm2.1 rfl) (mkd_zero h.tr h.mb)
  subst f1
  subst f2
  have hst : (gn l 0).id = (tnew H0).start := h.tr.st
  rw [hst] at hr2
  simp only [sargassolaw13_BestOver.s1]
  rw [if_neg (by omega), hy, Option.bind_some, if_pos ⟨y0, y1⟩, hz, Option.bind_some, if_pos ⟨z0, z1⟩, ← ea, ← ebb, hr1]
  simp only [Option.bind_some, if_true, Bool.false_eq_true, if_false, tree_Tree_Start.f]
  rw [hr2]
  simp only [Option.bind_some, Bool.false_eq_true, if_false]
  rw [over_eq, over_eq, samehash_eq _ _ (h.tr.id32 ha) (h.tr.id32 hb)]
  simp only [Option.bind_some]
  cases hab : ovT m (gn l a).id (gn l b).id with
  | true =>
    have hba := O.asy _ _ (hK a ha) (hK b hb) hab
    have hne : (gn l a).id ≠ (gn l b).id := fun e => by rw [e, O.irr] at hab; cases hab
    rw [decide_eq_false hne, hba]
    rfl
  | false =>
    by_cases e : (gn l a).id = (gn l b).id
    · rw [e, O.irr, decide_eq_true rfl]
      rfl
    · rw [O.tot _ _ (hK a ha) (hK b hb) e hab, decide_eq_false e]
      rfl
end Go.Proofs.YtdngkgkkblfcjaaDoor.T
namespace Go.Proofs.YtdngkgkkblfcjaaDoor.K
open Go Go.Proofs Go.ChangeShapes Go.WideShapes Go.RowKit
def mem (w : World) : Store := fun k => w.heap[k]?
theorem agr_mem (w : World) : Agr (mem w) w := fun _ _ h => h
theorem mem_cell {w : World} {g i : Nat} {v : Value} (h : w.cell? ⟨g, i, none⟩ = some v) : (mem w).cell g i = some v := by
  unfold World.cell? at h
  unfold Store.cell mem
  cases hm : w.heap[g]? with
  | none => simp [hm] at h
  | some o => cases o <;> simp_all
theorem wf_in {k : IntKind} {n : Int} (h : (Lit.int k n).wf = true) : InR k n := by
  cases k <;> simp [Lit.wf, IntKind.min, IntKind.max, IntKind.signed, IntKind.bits] at h <;> simp [InR] <;> omega
section
variable {H : Type} {enc : TypeId × Value → H} {P : Program} {w : World} {base : Nat} {spare : Nat → Bool} {held : Bool} {t e : TypeId}
def Rd (enc : TypeId × Value → H) (P : Program) (w : World) (base : Nat) (spare : Nat → Bool) (held : Bool) (t : TypeId) (R : List Value → Prop) : Prop :=
  ∀ fuel cs x, DataW.trod enc P w base spare held fuel t cs = some x → R cs
theorem rd_int {k : IntKind} (ht : P.underlying t = some (.int k)) : Rd enc P w base spare held t (fun c => ∃ n, RI k n c) := by
  intro fuel cs x h
  obtain ⟨n, rfl, _, hw⟩ := DataW.trod_int ht h
  exact ⟨n, rfl, wf_in hw⟩
theorem els_of {α : Type} {RE : α → List Value → Prop} {sz : Nat} : ∀ {n : Nat} {Q : Nat → Value → Prop}, (∀ i, i < n → ∃ x c, RE x c ∧ c.length = sz ∧ ∀ j v, c[j]? = some v → Q (i * sz + j) v) →
    ∃ xs cs, xs.length = n ∧ Els RE sz xs cs ∧ ∀ j v, cs[j]? = some v → Q j v
  | 0, _, _ => ⟨[], [], rfl, .nil, fun j v h => by simp at h⟩
  | n + 1, Q, f => by
    obtain ⟨x, c, h1, h2, h3⟩ := f 0 (by omega)
    obtain ⟨xs, cs, e1, e2, e3⟩ := els_of (n := n) (Q := fun m v => Q (sz + m) v) (fun i hi => by
      obtain ⟨x, c, h1, h2, h3⟩ := f (i + 1) (by omega)
      refine ⟨x, c, h1, h2, fun j v hj => ?_⟩
      have := h3 j v hj
      rwa [Nat.add_mul, Nat.one_mul, Nat.add_comm (i * sz), Nat.add_assoc] at this)
    refine ⟨x :: xs, c ++ cs, by simp [e1], .cons h1 h2 e2, fun j v hj => ?_⟩
    rcases Nat.lt_or_ge j c.length with h | h
    · rw [List.getElem?_append_left h] at hj
      simpa using h3 j v hj
    · rw [List.getElem?_append_right h] at hj
      have := e3 _ _ hj
      rwa [h2, Nat.add_sub_cancel' (by omega)] at this
theorem rd_slice {α : Type} {RE : α → List Value → Prop} {sz : Nat} (ht : P.underlying t = some (.slice e)) (hc : P.cellsOf e = sz) (h0 : 0 < sz) (hr : Rd enc P w base spare held e (fun c => ∃ x, RE x c)) :
    Rd enc P w base spare held t (fun c => ∃ v xs, c = [v] ∧ Slc RE sz (mem w) v xs) := by
  intro fuel cs x h
  rcases DataW.trod_slice ht h with ⟨rfl, _⟩ | ⟨a, len, cap, elems, rest, n, _, rfl, _, _, hl, hm, hlen, hel, _, _⟩
  · exact ⟨_, [], rfl, [], .nil, none, 0, rfl, Nat.le_refl _, Nat.zero_le _, fun h => absurd rfl h, fun h => absurd rfl h⟩
  have each0 : ∀ i, i < len → ∃ x c, RE x c ∧ c.length = sz ∧ ∀ j, j < sz → w.cell? ((a.add (i * sz)).add j) = c[j]? := by
    intro i hi
    have h1 := hel i hi
    rw [List.getElem?_eq_getElem (by omega), hc] at h1
    obtain ⟨c, hc1, hc2⟩ := Option.bind_eq_some_iff.1 h1
    obtain ⟨_, l1, l2⟩ := World.cells?_some hc1
    obtain ⟨x, hx⟩ := hr _ _ _ hc2
    exact ⟨x, c, hx, l1, l2⟩
  have hs : 0 < len → a.spot = none := by
    intro hp
    obtain ⟨x, c, _, l1, l2⟩ := each0 0 hp
    have h2 := (l2 0 h0).trans (List.getElem?_eq_getElem (by omega))
    simpa [Addr.add] using World.cell?_spot h2
  obtain ⟨b, off, spot⟩ := a
  simp only at hs
  have each : ∀ i, i < len → ∃ x c, RE x c ∧ c.length = sz ∧ ∀ j v, c[j]? = some v → (fun m v => w.cell? ⟨b, off + m, none⟩ = some v) (i * sz + j) v := by
    intro i hi
    obtain ⟨x, c, hx, l1, l2⟩ := each0 i hi
    refine ⟨x, c, hx, l1, fun j v hj => ?_⟩
    have hjl : j < sz := by
      have := (List.getElem?_eq_some_iff.1 hj).1
      omega
    have h2 := (l2 j hjl).trans hj
    rw [hs (by omega), add_plain, add_plain] at h2
    simpa [Nat.add_assoc] using h2
  obtain ⟨xs, cs, e1, e2, e3⟩ := els_of (RE := RE) (sz := sz) (Q := fun m v => w.cell? ⟨b, off + m, none⟩ = some v) each
  refine ⟨_, xs, rfl, cs, e2, some ⟨b, off, spot⟩, cap, by rw [e1], by omega, hm, fun hn => by rw [hs (by omega)]; rfl, fun hn j v hj => mem_cell (e3 j v hj)⟩
theorem rd_at {R : List Value → Prop} {v : Value} {d : DataW H} {ps : List MemPlace} (hr : Rd enc P w base spare held t R) (h : DataW.Trod enc P w base spare held t v d ps) : R v.cells.toList := by
  obtain ⟨fuel, hf⟩ := h
  exact hr _ _ _ hf
theorem at_slice {α : Type} {RE : α → List Value → Prop} {sz : Nat} {r : Reach} {b0 : Nat} {v : Value} {d : DataW H} {ps : List MemPlace} (ht : P.underlying t = some (.slice e)) (hval : Value.okWide P w r b0 t v)
    (hr : Rd enc P w base spare held t (fun c => ∃ v xs, c = [v] ∧ Slc RE sz (mem w) v xs)) (h : DataW.Trod enc P w base spare held t v d ps) : ∃ xs, Slc RE sz (mem w) v xs := by
  obtain ⟨a, len, cap, rfl⟩ := okWide_slice ht hval
  obtain ⟨u, xs, e1, h2⟩ := rd_at hr h
  simp [Value.cells] at e1
  subst e1
  exact ⟨xs, h2⟩
theorem again {W W' : World} {v : Value} {d : DataW H} {ps : List MemPlace} (hl : laidOutB P = true) (hr : P.readableRec t = true) (hrow : t < P.types.size) (h : DataW.Trod enc P W 0 (fun _ => true) true t v d ps) (hb : Below W.heap.size W W') :
    DataW.Trod enc P W' 0 (fun b => decide (b < W.heap.size)) true t v d ps :=
  Below.trod hl hr hrow h hb (fun p hp => let ⟨n, hn⟩ := h; DataW.trod_lt n _ _ _ hn p hp)
end
end Go.Proofs.YtdngkgkkblfcjaaDoor.K
namespace Go.Proofs.YtdngkgkkblfcjaaDoor.K
open Go Go.Proofs
set_option linter.unusedVariables false
theorem laid_each {P : Program} {W : World} : ∀ {l : List (String × DataW Unit)} {ps : List MemPlace}, DataW.LaidVars P W l ps → ∀ {n : String} {d : DataW Unit}, (n, d) ∈ l →
    ∃ g t cs fuel p, P.globalNamed n = some g ∧ (P.globals[g]?).map (·.type) = some t ∧ W.var? P n = some cs ∧ DataW.trod (fun _ => ()) P W 0 (fun _ => true) false fuel t cs.toList = some (d, p) ∧ ∀ x ∈ MemPlace.row ⟨g, 0, none⟩ cs.size ++ p, x ∈ ps
  | [], ps, h, n, d, hm => by cases hm
  | (m, e) :: r, ps, h, n, d, hm => by
    obtain ⟨g, t, cs, fuel, p, q, hg, ht, hv, hd, hr, rfl⟩ := h
    rcases List.mem_cons.1 hm with e1 | hm
    · cases e1
      exact ⟨g, t, cs, fuel, p, hg, ht, hv, hd, fun x hx => List.mem_append_left _ hx⟩
    · obtain ⟨g', t', cs', fuel', p', a1, a2, a3, a4, a5⟩ := laid_each hr hm
      exact ⟨g', t', cs', fuel', p', a1, a2, a3, a4, fun x hx => List.mem_append_right _ (a5 x hx)⟩
theorem sent_of_laid {P : Program} {W : World} {laid : List (String × DataW Unit)} {code : ByteArray → Nat} {n : String} {text : List UInt8} {g : Nat} {ti tp ta te ts : TypeId} {ms : Array (String × TypeId)} {f : Field}
    (h : laidMet P laid W) (hm : (n, .iface "*errors.errorString" (.ptr (.agg [.lit (.string text)]))) ∈ laid) (hg : P.globalNamed n = some g) (ht : (P.globals[g]?).map (·.type) = some ti)
    (hi : P.underlying ti = some (.interface ms)) (hrow : ∀ u, P.typeName? 3 u = some "*errors.errorString" → u = tp) (hp : P.underlying tp = some (.pointer te)) (he : P.underlying te = some (.struct #[f])) (hft : f.type = ts) (hfo : f.offset = 0) (hs : P.underlying ts = some .string) (hc : P.cellsOf te = 1) (hcs : P.cellsOf ts = 1)
    (hcode : ∀ s : ByteArray, s.data.toList = text → code s = g + 1) : ∃ v, ErV tp ta code (mem W) (.b (g + 1)) v := by
  obtain ⟨ps, hl, hnd, hrows⟩ := h
  obtain ⟨g', t', cs, fuel, p, a1, a2, a3, a4, a5⟩ := laid_each hl hm
  obtain rfl := Option.some.inj (hg.symm.trans a1)
  obtain rfl := Option.some.inj (ht.symm.trans a2)
  obtain ⟨l⟩ := cs
  have ok : ∀ u v, l = [.iface u v] → Value.okWide P W .any 0 u v := fun u v e => by
    subst e
    exact (hrows g 0 (a5 _ (by simp [MemPlace.row]))).2 u v (by simpa using World.var?_cell hg a3 0)
  obtain ⟨a, s, rfl, hcell, hst, hz, rfl⟩ := errorString_of_trod hi hrow hp he hft hfo hs hc hcs a4 ok
  obtain ⟨c, t, hb⟩ := (hrows a.block a.off (a5 _ (by simp [MemPlace.row]))).1
  refine ⟨.iface tp (.pointer (some a)), .inr ⟨by omega, mem_cell (by simpa using World.var?_cell hg a3 0), a, s, c, t, rfl, hb, hcode s hst, fun w hw => ?_⟩⟩
  have e : w.heap[a.block]? = W.heap[a.block]? := (hw _ _ hb).trans hb.symm
  unfold World.cell? at hcell ⊢
  rw [e]
  exact hcell
end Go.Proofs.YtdngkgkkblfcjaaDoor.K
namespace Go.Proofs.YtdngkgkkblfcjaaDoor.T
open Go Go.Proofs Go.Proofs.YtdngkgkkblfcjaaDoor.K
set_option linter.unusedVariables false
set_option linter.unusedSimpArgs false
set_option maxRecDepth 100000
theorem own : ownKnob Tryd.prog.godebug = none := by kernel_rfl
noncomputable def low : Nat := (World.holding Tryd.prog default ⟨#[], #[], []⟩).heap.size
abbrev es0 : ByteArray := { data := #[116, 111, 111, 32, 109, 97, 110, 121, 44, 32, 111, 114, 32, 116, 111, 111, 32, 102, 101, 119] }
abbrev es1 : ByteArray := { data := #[116, 111, 111, 32, 108, 111, 110, 103] }
abbrev es2 : ByteArray := { data := #[111, 110, 101, 32, 116, 104, 105, 110, 103, 32, 116, 119, 105, 99, 101] }
abbrev es3 : ByteArray := { data := #[97, 32, 114, 111, 111, 116, 32, 116, 104, 97, 116, 32, 100, 111, 101, 115, 32, 110, 111, 116, 32, 102, 105, 116] }
abbrev es4 : ByteArray := { data := #[107, 110, 111, 119, 110, 32, 97, 108, 114, 101, 97, 100, 121] }
abbrev es5 : ByteArray := { data := #[110, 111, 32, 115, 117, 99, 104, 32, 112, 97, 114, 101, 110, 116] }
abbrev es6 : ByteArray := { data := #[116, 104, 101, 114, 101, 32, 105, 115, 32, 110, 111, 32, 114, 111, 111, 109] }
abbrev es7 : ByteArray := { data := #[97, 32, 110, 117, 109, 98, 101, 114, 32, 111, 117, 116, 32, 111, 102, 32, 105, 116, 115, 32, 114, 97, 110, 103, 101] }
abbrev es8 : ByteArray := { data := #[110, 111, 32, 102, 105, 114, 115, 116, 32, 116, 114, 97, 110, 115, 97, 99, 116, 105, 111, 110, 32, 119, 104, 101, 114, 101, 32, 116, 104, 101, 114, 101, 32, 104, 97, 115, 32, 116, 111, 32, 98, 101, 32, 111, 110, 101, 44, 32, 111, 114, 32, 111, 110, 101, 32, 119, 104, 101, 114, 101, 32, 116, 104, 101, 114, 101, 32, 109, 97, 121, 32, 98, 101, 32, 110, 111, 110, 101] }
abbrev es9 : ByteArray := { data := #[97, 32, 107, 101, 121, 32, 116, 104, 97, 116, 32, 100, 111, 101, 115, 32, 110, 111, 116, 32, 102, 105, 116] }
abbrev es10 : ByteArray := { data := #[97, 110, 32, 97, 109, 111, 117, 110, 116, 32, 116, 104, 97, 116, 32, 99, 97, 110, 39, 116, 32, 98, 101] }
abbrev es11 : ByteArray := { data := #[105, 116, 32, 101, 110, 100, 115, 32, 116, 111, 111, 32, 101, 97, 114, 108, 121] }
abbrev es12 : ByteArray := { data := #[110, 111, 116, 32, 97, 115, 32, 105, 116, 32, 104, 97, 115, 32, 116, 111, 32, 98, 101] }
abbrev es13 : ByteArray := { data := #[98, 101, 104, 105, 110, 100, 32, 119, 104, 97, 116, 32, 105, 115, 32, 110, 111, 116, 32, 118, 97, 108, 105, 100] }
abbrev es14 : ByteArray := { data := #[97, 32, 116, 105, 109, 101, 32, 116, 104, 97, 116, 32, 105, 115, 32, 116, 111, 111, 32, 101, 97, 114, 108, 121] }
abbrev es15 : ByteArray := { data := #[97, 32, 99, 111, 105, 110, 32, 116, 104, 97, 116, 32, 105, 115, 32, 110, 111, 116, 32, 116, 104, 101, 114, 101] }
abbrev es16 : ByteArray := { data := #[97, 32, 99, 111, 105, 110, 32, 116, 104, 97, 116, 32, 105, 115, 32, 116, 111, 111, 32, 121, 111, 117, 110, 103] }
abbrev es17 : ByteArray := { data := #[116, 111, 111, 32, 101, 97, 114, 108, 121, 32, 116, 111, 32, 98, 101, 32, 116, 97, 107, 101, 110] }
abbrev es18 : ByteArray := { data := #[108, 101, 115, 115, 32, 99, 111, 109, 101, 115, 32, 105, 110, 32, 116, 104, 97, 110, 32, 103, 111, 101, 115, 32, 111, 117, 116] }
abbrev es19 : ByteArray := { data := #[109, 111, 114, 101, 32, 116, 104, 97, 110, 32, 116, 104, 101, 32, 114, 101, 119, 97, 114, 100] }
abbrev es20 : ByteArray := { data := #[97, 32, 99, 111, 105, 110, 32, 116, 104, 97, 116, 32, 105, 115, 32, 115, 112, 101, 110, 116, 32, 105, 110, 32, 116, 104, 101, 32, 112, 111, 111, 108] }
abbrev es21 : ByteArray := { data := #[116, 111, 111, 32, 109, 97, 110, 121, 32, 116, 104, 97, 116, 32, 104, 97, 110, 103, 32, 116, 111, 103, 101, 116, 104, 101, 114] }
abbrev es22 : ByteArray := { data := #[116, 104, 101, 114, 101, 32, 105, 115, 32, 110, 111, 110, 101] }
abbrev es23 : ByteArray := { data := #[110, 111, 32, 115, 117, 99, 104, 32, 119, 111, 114, 100] }
abbrev es24 : ByteArray := { data := #[110, 111, 116, 32, 97, 32, 110, 117, 109, 98, 101, 114] }
def setC (v : Value) : Obj → Obj
  | .cells _ t frozen => .cells #[v] t frozen
  | x => x
noncomputable def laidWorld (os : Os) : World :=
  let w0 := World.holding Tryd.prog os ⟨#[.cells #[.string es0] 220, .cells #[.string es1] 220, .cells #[.string es2] 220, .cells #[.string es3] 220, .cells #[.string es4] 220, .cells #[.string es5] 220, .cells #[.string es6] 220, .cells #[.string es7] 220, .cells #[.string es8] 220, .cells #[.string es9] 220, .cells #[.string es10] 220, .cells #[.string es11] 220, .cells #[.string es12] 220, .cells #[.string es13] 220, .cells #[.string es14] 220, .cells #[.string es15] 220, .cells #[.string es16] 220, .cells #[.string es17] 220, .cells #[.string es18] 220, .cells #[.string es19] 220, .cells #[.string es20] 220, .cells #[.string es21] 220, .cells #[.string es22] 220, .cells #[.string es23] 220, .cells #[.string es24] 220], #[], []⟩
  { w0 with heap := (((((((((((((((((((((((((w0.heap.modify 0 (setC (.iface 201 (.pointer (some ⟨low + 0, 0, none⟩))))).modify 1 (setC (.iface 201 (.pointer (some ⟨low + 1, 0, none⟩))))).modify 2 (setC (.iface 201 (.pointer (some ⟨low + 2, 0, none⟩))))).modify 3 (setC (.iface 201 (.pointer (some ⟨low + 3, 0, none⟩))))).modify 4 (setC (.iface 201 (.pointer (some ⟨low + 4, 0, none⟩))))).modify 5 (setC (.iface 201 (.pointer (some ⟨low + 5, 0, none⟩))))).modify 6 (setC (.iface 201 (.pointer (some ⟨low + 6, 0, none⟩))))).modify 7 (setC (.iface 201 (.pointer (some ⟨low + 7, 0, none⟩))))).modify 8 (setC (.iface 201 (.pointer (some ⟨low + 8, 0, none⟩))))).modify 9 (setC (.iface 201 (.pointer (some ⟨low + 9, 0, none⟩))))).modify 10 (setC (.iface 201 (.pointer (some ⟨low + 10, 0, none⟩))))).modify 11 (setC (.iface 201 (.pointer (some ⟨low + 11, 0, none⟩))))).modify 12 (setC (.iface 201 (.pointer (some ⟨low + 12, 0, none⟩))))).modify 13 (setC (.iface 201 (.pointer (some ⟨low + 13, 0, none⟩))))).modify 14 (setC (.iface 201 (.pointer (some ⟨low + 14, 0, none⟩))))).modify 15 (setC (.iface 201 (.pointer (some ⟨low + 15, 0, none⟩))))).modify 16 (setC (.iface 201 (.pointer (some ⟨low + 16, 0, none⟩))))).modify 17 (setC (.iface 201 (.pointer (some ⟨low + 17, 0, none⟩))))).modify 18 (setC (.iface 201 (.pointer (some ⟨low + 18, 0, none⟩))))).modify 19 (setC (.iface 201 (.pointer (some ⟨low + 19, 0, none⟩))))).modify 20 (setC (.iface 201 (.pointer (some ⟨low + 20, 0, none⟩))))).modify 21 (setC (.iface 201 (.pointer (some ⟨low + 21, 0, none⟩))))).modify 22 (setC (.iface 201 (.pointer (some ⟨low + 22, 0, none⟩))))).modify 23 (setC (.iface 201 (.pointer (some ⟨low + 23, 0, none⟩))))).modify 24 (setC (.iface 201 (.pointer (some ⟨low + 24, 0, none⟩))))) }
theorem starE : "*" ++ "errors.errorString" = "*errors.errorString" := by decide
theorem rowE (u : TypeId) (h : Tryd.prog.typeName? 3 u = some "*errors.errorString") : u = 201 :=
  typeName_ptr_named (nm := "errors.errorString") (by rw [starE]; kernel_rfl) (by kernel_rfl) (by decide) u (by rw [starE]; exact h)
theorem ceE : Tryd.prog.cellsOf 220 = 1 := by kernel_rfl
theorem csE : Tryd.prog.cellsOf 9 = 1 := by kernel_rfl
theorem sent4 {W : World} {l : List (String × DataW Unit)} (h : laidMet Tryd.prog l W) (hm : ("sargasso/api.ErrKnown", .iface "*errors.errorString" (.ptr (.agg [.lit (.string [107, 110, 111, 119, 110, 32, 97, 108, 114, 101, 97, 100, 121])]))) ∈ l) : ∃ v, ErS (mem W) v (Er.b 5) :=
  sent_of_laid h hm (by kernel_rfl) (by kernel_rfl) Tryd.underlying47 rowE Tryd.underlying201 Tryd.underlying220 rfl rfl Tryd.underlying9 ceE csE (fun s hs => by unfold errCode; rw [hs]; kernel_rfl)
theorem sent5 {W : World} {l : List (String × DataW Unit)} (h : laidMet Tryd.prog l W) (hm : ("sargasso/api.ErrParent", .iface "*errors.errorString" (.ptr (.agg [.lit (.string [110, 111, 32, 115, 117, 99, 104, 32, 112, 97, 114, 101, 110, 116])]))) ∈ l) : ∃ v, ErS (mem W) v (Er.b 6) :=
  sent_of_laid h hm (by kernel_rfl) (by kernel_rfl) Tryd.underlying47 rowE Tryd.underlying201 Tryd.underlying220 rfl rfl Tryd.underlying9 ceE csE (fun s hs => by unfold errCode; rw [hs]; kernel_rfl)
theorem sent6 {W : World} {l : List (String × DataW Unit)} (h : laidMet Tryd.prog l W) (hm : ("sargasso/api.ErrFull", .iface "*errors.errorString" (.ptr (.agg [.lit (.string [116, 104, 101, 114, 101, 32, 105, 115, 32, 110, 111, 32, 114, 111, 111, 109])]))) ∈ l) : ∃ v, ErS (mem W) v (Er.b 7) :=
  sent_of_laid h hm (by kernel_rfl) (by kernel_rfl) Tryd.underlying47 rowE Tryd.underlying201 Tryd.underlying220 rfl rfl Tryd.underlying9 ceE csE (fun s hs => by unfold errCode; rw [hs]; kernel_rfl)
end Go.Proofs.YtdngkgkkblfcjaaDoor.T
namespace Go.Proofs.YtdngkgkkblfcjaaDoor.T
open Go Go.Proofs Go.Proofs.YtdngkgkkblfcjaaDoor.K
set_option linter.unusedVariables false
set_option linter.unusedSimpArgs false
theorem laid : laidOutB Tryd.prog = true := by kernel_rfl
theorem cl3 : Tryd.prog.cellsOf 3 = 1 := by kernel_rfl
theorem rr3 : Tryd.prog.readableRec 3 = true := by kernel_rfl
theorem tr3 : 3 < Tryd.prog.types.size := of_decide_eq_true (by kernel_rfl)
theorem rr55 : Tryd.prog.readableRec 55 = true := by kernel_rfl
theorem tr55 : 55 < Tryd.prog.types.size := of_decide_eq_true (by kernel_rfl)
section
variable {H : Type} {enc : TypeId × Value → H} {w : World} {base : Nat} {spare : Nat → Bool} {held : Bool}
theorem rd3 : Rd enc Tryd.prog w base spare held 3 (fun c => ∃ n, RI .i64 n c) := rd_int Tryd.underlying3
theorem rd55 : Rd enc Tryd.prog w base spare held 55 (fun c => ∃ v xs, c = [v] ∧ Slc (RI .i64) 1 (mem w) v xs) := rd_slice Tryd.underlying55 cl3 (by decide) rd3
end
end Go.Proofs.YtdngkgkkblfcjaaDoor.T
namespace Go.Proofs.YtdngkgkkblfcjaaDoor.J
open Go Go.Proofs
theorem words_cons : ∀ (w r : List Char), w.all (· != ' ') = true → wordsSigns (w ++ ' ' :: r) = w :: wordsSigns r
  | [], r, _ => rfl
  | c :: w, r, h => by
    simp only [List.all_cons, Bool.and_eq_true, bne_iff_ne, ne_eq] at h
    have ih := words_cons w r h.2
    rw [List.cons_append, wordsSigns, ih]
    exact fun e => h.1 e
set_option maxRecDepth 100000
def w0 : List Char := ['h', 'a', 'r', 'n', 'e', 's', 's']
def w1 : List Char := ['d', '8', '8', '9', 'a', 'b', '0', '1', '8', '0', 'b', '3', '5', 'f', '7', 'd', 'f', 'd', 'f', 'b', '2', 'b', 'f', '9', 'e', '4', '3', '8', 'b', 'f', '8', '0', '7', 'b', 'f', '1', '6', 'e', '9', 'b', 'f', '6', '6', '4', '3', '8', '1', '4', '2', 'a', 'a', '2', '7', '7', '0', 'c', '9', 'f', '7', 'a', '0', 'a', 'b', '8']
def w2 : List Char := ['c', 'u', 't']
def w3 : List Char := ['a', 't', ' ', 's', 'a', 'r', 'g', 'a', 's', 's', 'o', '/', 's', 'a', 'r', 'g', 'a', 's', 's', 'o', 'l', 'a', 'w', '7', '.', 'B', 'l', 'o', 'c', 'k', 'K', 'i', 'n', 'd', 's', ' ', 's', 'a', 'r', 'g', 'a', 's', 's', 'o', '/', 's', 'a', 'r', 'g', 'a', 's', 's', 'o', 'l', 'a', 'w', '1', '1', '.', 'T', 'r', 'e', 'e', 'W', 'a', 'y', 's', ' ', 's', 'a', 'r', 'g', 'a', 's', 's', 'o', '/', 's', 'a', 'r', 'g', 'a', 's', 's', 'o', 'l', 'a', 'w', '1', '3', '.', 'B', 'e', 's', 't', 'O', 'v', 'e', 'r', ' ', 's', 'a', 'r', 'g', 'a', 's', 's', 'o', '/', 's', 'a', 'r', 'g', 'a', 's', 's', 'o', 'l', 'a', 'w', '1', '3', '.', 'B', 'e', 's', 't', 'G', 'o', 'e', 's']
theorem io0 : Tryd.prog.initOrder = String.ofList (w0 ++ ' ' :: (w1 ++ ' ' :: (w2 ++ ' ' :: w3))) := by kernel_rfl
theorem io : Tryd.prog.initOrder.toList = w0 ++ ' ' :: (w1 ++ ' ' :: (w2 ++ ' ' :: w3)) := (congrArg String.toList io0).trans String.toList_ofList
theorem ws : wordsSigns Tryd.prog.initOrder.toList = w0 :: w1 :: w2 :: wordsSigns w3 := by
  rw [io, words_cons _ _ (by kernel_rfl), words_cons _ _ (by kernel_rfl), words_cons _ _ (by kernel_rfl)]
theorem bm (R : List (List Char)) : behindMainWord (w0 :: w1 :: w2 :: R) = w2 :: R := by kernel_rfl
theorem main_of {P : Program} {R : List (List Char)} (h : wordsSigns P.initOrder.toList = w0 :: w1 :: R) : P.mainIs = some (true, w1) := by
  unfold Program.mainIs
  rw [h]
  kernel_rfl
theorem mainIs : Tryd.prog.mainIs = some (true, w1) := main_of ws
theorem bw : behindMainWord (wordsSigns Tryd.prog.initOrder.toList) = w2 :: wordsSigns w3 := by rw [ws, bm]
theorem st (R : List (List Char)) : stripLifts liftWords (w2 :: R) = ([], w2 :: R) := by kernel_rfl
theorem make_of {P : Program} {R : List (List Char)} (h : behindMainWord (wordsSigns P.initOrder.toList) = w2 :: R) : P.make = some .cut := by
  unfold Program.make
  rw [h]
  kernel_rfl
theorem head_of {P : Program} {R : List (List Char)} (h : behindMainWord (wordsSigns P.initOrder.toList) = w2 :: R) : P.headLifts = [] := by
  unfold Program.headLifts
  rw [h, st]
  kernel_rfl
theorem lifts_of {P : Program} {R : List (List Char)} (h : behindMainWord (wordsSigns P.initOrder.toList) = w2 :: R) : P.liftsFinal = false := by
  unfold Program.liftsFinal
  rw [h, head_of h]
  kernel_rfl
theorem may_of {P : Program} {R : List (List Char)} (h : behindMainWord (wordsSigns P.initOrder.toList) = w2 :: R) (h1 : P.laysLater = false) (h2 : P.bearsReflect = false) (h3 : P.doorFits [] = true) : P.mayEnter = true := by
  unfold Program.mayEnter
  rw [h]
  simp only [st, h1, h2, h3]
  kernel_rfl
theorem later : Tryd.prog.laysLater = false := by kernel_rfl
theorem reflect : Tryd.prog.bearsReflect = false := by kernel_rfl
theorem door : Tryd.prog.doorFits [] = true := by kernel_rfl
theorem make : Tryd.prog.make = some .cut := make_of bw
theorem lifts : Tryd.prog.liftsFinal = false := lifts_of bw
theorem may : Tryd.prog.mayEnter = true := may_of bw later reflect door
end Go.Proofs.YtdngkgkkblfcjaaDoor.J
namespace Go.Proofs.YtdngkgkkblfcjaaDoor.zBestOver
open Go Go.Proofs Go.Proofs.YtdngkgkkblfcjaaDoor.K Go.Proofs.YtdngkgkkblfcjaaDoor.T
open Go.ChangeShapes Go.WideShapes Go.ChangeAt Go.RowKit
set_option linter.unusedVariables false
theorem met (os : Os) (args : Array Value) : laidMetH Tryd.prog Rows.bestOverRow.laid ((laidWorld os).forCall (fun _ _ => 0) ⟨#[], args, []⟩).memory :=
  laidMetH_of_parts (laidMet_of_run' 8 (by kernel_rfl) (by kernel_rfl)) (by kernel_rfl)
set_option maxRecDepth 100000 in
theorem lifted (os : Os) (started : os.Started) (H : Type) (enc : TypeId × Value → H) :
    ReturnsInHanded {} Tryd.checked os 5 .any (fun w args => (Rows.bestOverSpec.pre enc Tryd.prog Tryd.f5 [] false w args ∧ laidMetH Tryd.prog Rows.bestOverRow.laid w) ∧ sizedMet enc Tryd.prog Tryd.f5 (OpenSpec.ofChange Rows.bestOverSpec) false w args) (Rows.bestOverSpec.post enc Tryd.prog Tryd.f5 false true false false) := by
  refine returnsInHanded_of_change_and (C := Tryd.checked) (X := fun w _ => laidMetH Tryd.prog Rows.bestOverRow.laid w) (fun _ _ _ hh h => h.of_heap hh) own started (by kernel_rfl) Tryd.func5
    (ChangeSpec.witness_at (enc := enc) (C := Tryd.checked) (os := os) (X := fun w _ => laidMetH Tryd.prog Rows.bestOverRow.laid w) false (laidWorld os) #[.slice none 0 0, .int .i64 0, .int .i64 0] 8 rfl (by kernel_rfl) (by kernel_rfl) (by kernel_rfl) (by kernel_rfl) (by kernel_rfl) (met os _)) ?_
  intro W base args ds gs before hval0 hW hcnd hsz0 hL _
  have hL : laidMet Tryd.prog Rows.bestOverRow.laid W := hL
  obtain ⟨e4, he4⟩ := sent4 hL (List.mem_of_getElem? (i := 0) rfl)
  obtain ⟨e5, he5⟩ := sent5 hL (List.mem_of_getElem? (i := 1) rfl)
  obtain ⟨e6, he6⟩ := sent6 hL (List.mem_of_getElem? (i := 2) rfl)
  have hW' := hW
  obtain ⟨p, q, hA0, hV, rfl, hfz, hnd⟩ := hW
  have hA : DataW.TrodAll enc Tryd.prog W 0 (fun _ => true) true Tryd.f5.params.toList args.toList ds p := hA0
  have hval : ∀ (j : Nat) t v, Tryd.f5.params[j]? = some t → args[j]? = some v → Value.okWide Tryd.prog W .any base t v := hval0
  rw [Tryd.params5] at hA hval
  obtain ⟨v0, vs0, d0, ds0, p0, q0, hargs, rfl, rfl, h0, r0⟩ := trodAll_cons hA
  obtain ⟨v1, vs1, d1, ds1, p1, q1, rfl, rfl, rfl, h1, r1⟩ := trodAll_cons r0
  obtain ⟨v2, vs2, d2, ds2, p2, q2, rfl, rfl, rfl, h2, r2⟩ := trodAll_cons r1
  obtain ⟨rfl, rfl, rfl⟩ := trodAll_nil r2
  obtain rfl : args = #[v0, v1, v2] := by cases args; simp_all
  obtain ⟨rfl, rfl⟩ := trodVars_none hV
  obtain ⟨x0, w0⟩ := at_slice Tryd.underlying55 (hval 0 55 v0 rfl rfl) rd55 h0
  obtain ⟨x1, rfl, _, _, w1⟩ := open_int Tryd.underlying3 (hval 1 3 v1 rfl rfl) h1
  obtain ⟨x2, rfl, _, _, w2⟩ := open_int Tryd.underlying3 (hval 2 3 v2 rfl rfl) h2
  have hμ : Agr (mem W) W := agr_mem W
  have hm := sargassolaw13_BestOver.m (mem W) x0 v0 w0 x1 (wf_in w1) x2 (wf_in w2)
  refine (sargassolaw13_BestOver.c (mem W) W hμ x0 v0 w0 x1 (wf_in w1) x2 (wf_in w2) e4 he4 e5 he5 e6 he6 true hm).mono fun e W' ⟨v, he, hv, _, hI⟩ => ?_
  subst hv
  subst he
  have bel : Below W.heap.size W W' := hI.below
  exact ⟨_, rfl, _, _, _, [], _, [], hW', trodAll_mk1 (shut_bool Tryd.underlying4 _), (trodAll_cons_mk (again laid rr55 tr55 h0 bel) (trodAll_cons_mk (again laid rr3 tr3 h1 bel) (trodAll_cons_mk (again laid rr3 tr3 h2 bel) trodAll_mk0))), rfl, bel.frame _, fun h => by cases h⟩
theorem closed : joinedFacts Tryd.prog 5 Tryd.f5 Rows.bestOverSpec Rows.bestOverRow = true := by
  unfold joinedFacts
  rw [J.may, J.lifts, J.make]
  kernel_rfl
theorem over : Rows.bestOverRow.holds Tryd.pinned (OpenSpec.ofChange Rows.bestOverSpec) :=
  OpenClaim.holds_of_wide 5 Tryd.f5 rfl rfl rfl rfl rfl rfl rfl ⟨rfl, rfl, rfl, rfl, rfl⟩ rfl rfl rfl rfl rfl (by kernel_rfl) Tryd.func5 closed
    (of_decide_eq_true (by kernel_rfl)) (by unfold Func.isWrapper; first | (rw [if_pos (by decide +kernel)]; kernel_rfl) | (rw [if_neg (by decide +kernel)]; exact ⟨rfl, rfl⟩))
    (fun os started H enc _ => lifted os started H enc)
theorem card : Rows.BestOverCardSaid :=
  Claim7.holds_tied_plain_at .later [] [.sentinel, .sentinel, .sentinel] true (true, "d889ab0180b35f7dfdfb2bf9e438bf807bf16e9bf66438142aa2770c9f7a0ab8") true
    over (fun _ h => by cases h) (by kernel_rfl) (fun _ h => by cases h) bestOver_row_tie rfl ⟨rfl, rfl⟩ (J.mainIs.trans (congrArg (fun s => some (true, s)) (by kernel_rfl))) rfl
    (fun f fn hf hfn => by
      obtain rfl : f = 5 := Option.some.inj ((show Tryd.prog.funcNamed "sargasso/sargassolaw13.BestOver" = some 5 by kernel_rfl).symm.trans hf) |>.symm
      obtain rfl : fn = Tryd.f5 := (Option.some.inj (Tryd.func5.symm.trans hfn)).symm
      exact ⟨by kernel_rfl, fun j t ht => by
        rw [Tryd.params5] at ht
        rcases j with _ | _ | _ | j
        · obtain rfl : (55 : TypeId) = t := by simpa using ht
          exact (show Tryd.prog.wantsStandIn 55 = false by kernel_rfl)
        · obtain rfl : (3 : TypeId) = t := by simpa using ht
          exact (show Tryd.prog.wantsStandIn 3 = false by kernel_rfl)
        · obtain rfl : (3 : TypeId) = t := by simpa using ht
          exact (show Tryd.prog.wantsStandIn 3 = false by kernel_rfl)
        · simp at ht⟩)
    (by kernel_rfl)
end Go.Proofs.YtdngkgkkblfcjaaDoor.zBestOver
namespace Go.Proofs.YtdngkgkkblfcjaaDoor
theorem bestOver_holds : Rows.BestOverCardSaid := zBestOver.card
#print axioms bestOver_holds
end Go.Proofs.YtdngkgkkblfcjaaDoor
