/- A helper of this seat's claims. It proves no statement by itself. -/
/- Memory: what is never written again ('Store'), blocks of one's own (items), what a call may have turned ('Iv'). -/
import Derived.Test.YtnbnnphlffhgiaaK1
namespace Go.Proofs.Ytnbnnphlffhgiaa.K
open Go

/-! ### The store: blocks that nobody writes -/
abbrev Store := Nat → Option Obj
def Store.cell (μ : Store) (g i : Nat) : Option Value := match μ g with
  | some (.cells c _ _) => c[i]?
  | _ => none
def Store.le (μ ν : Store) : Prop := ∀ k o, μ k = some o → ν k = some o
theorem Store.le.refl (μ : Store) : μ.le μ := fun _ _ h => h
theorem Store.le.trans {μ ν ρ : Store} (h : μ.le ν) (h' : ν.le ρ) : μ.le ρ := fun k o e => h' k o (h k o e)
theorem Store.le.cell {μ ν : Store} (h : μ.le ν) {g i : Nat} {v : Value} (hc : μ.cell g i = some v) : ν.cell g i = some v := by
  unfold Store.cell at hc ⊢
  cases hm : μ g with
  | none => simp [hm] at hc
  | some o => rw [h _ _ hm]; simpa [hm] using hc
def Agr (μ : Store) (w : World) : Prop := ∀ k o, μ k = some o → w.heap[k]? = some o
theorem Agr.cell {μ : Store} {w : World} (h : Agr μ w) {g i : Nat} {v : Value} (hc : μ.cell g i = some v) : w.cell? ⟨g, i, none⟩ = some v := by
  unfold Store.cell at hc
  cases hm : μ g with
  | none => simp [hm] at hc
  | some o =>
    rw [hm] at hc
    cases o <;> simp at hc
    simp [World.cell?, h _ _ hm, hc]
/-- From place 'o' of block 'g' on these cells stand. -/
def At (μ : Store) (g o : Nat) (cs : List Value) : Prop := ∀ j v, cs[j]? = some v → μ.cell g (o + j) = some v
theorem At.le {μ ν : Store} (h : μ.le ν) {g o : Nat} {cs : List Value} (ha : At μ g o cs) : At ν g o cs := fun j v e => h.cell (ha j v e)
theorem At.part {μ : Store} {g o : Nat} {A B C : List Value} (h : At μ g o (A ++ (B ++ C))) : At μ g (o + A.length) B := fun j v e => by
  have hj : j < B.length := by
    rcases Nat.lt_or_ge j B.length with h' | h'
    · exact h'
    · rw [List.getElem?_eq_none h'] at e; cases e
  have := h (A.length + j) v (by rw [List.getElem?_append_right (by omega), Nat.add_sub_cancel_left, List.getElem?_append_left hj]; exact e)
  rwa [← Nat.add_assoc] at this

/-! ### Blocks of one's own -/
structure It where
  foot : List Nat
  ok : World → Prop
  loc : ∀ w w' : World, (∀ g ∈ foot, w'.heap[g]? = w.heap[g]?) → ok w → ok w'

/-- A block of cells, told in chunks. -/
def cel (g : Nat) (chs : List (List Value)) (T : TypeId) : It where
  foot := [g]
  ok w := w.heap[g]? = some (.cells chs.flatten.toArray T (0, 0))
  loc w w' h hk := by rw [h g (by simp)]; exact hk

/-- A slice of the call's own, that may grow. -/
def row (e : TypeId) (size : Nat) (v : Value) (n : Nat) (xs : List Value) : It where
  foot := v.ownBlock.toList
  ok w := w.ownsRow 0 e size v n xs
  loc w w' h hk := by
    refine ⟨hk.1, ?_⟩
    rcases hk.2 with hn | ⟨g, cap, cur, rfl, hb, hg, r⟩
    · exact .inl hn
    · exact .inr ⟨g, cap, cur, rfl, hb, by rw [h g (by simp [Value.ownBlock])]; exact hg, r⟩

theorem sub_foot {l l' : List It} (h : l'.Sublist l) : (l'.flatMap (·.foot)).Sublist (l.flatMap (·.foot)) := by
  induction h with
  | slnil => exact List.Sublist.refl _
  | cons i _ ih => exact ih.trans (by rw [List.flatMap_cons]; exact List.sublist_append_right ..)
  | cons_cons i _ ih => rw [List.flatMap_cons, List.flatMap_cons]; exact (List.Sublist.refl _).append ih

structure Iv (W0 : World) (md : List Nat) (μ0 μ : Store) (its : List It) (w : World) : Prop where
  os : w.os = W0.os
  tape : w.tape = W0.tape
  out : w.output = W0.output
  size : W0.heap.size ≤ w.heap.size
  frame : ∀ k, k < W0.heap.size → k ∉ md → w.heap[k]? = W0.heap[k]?
  le : μ0.le μ
  agr : Agr μ w
  fresh : ∀ k o, μ k = some o → μ0 k = some o ∨ W0.heap.size ≤ k ∨ k ∈ md
  nodup : (its.flatMap (·.foot)).Nodup
  own : ∀ i ∈ its, i.ok w ∧ ∀ g ∈ i.foot, g < w.heap.size ∧ μ g = none ∧ (W0.heap.size ≤ g ∨ g ∈ md)

theorem Iv.start {μ : Store} {w : World} (h : Agr μ w) : Iv w [] μ μ [] w :=
  ⟨rfl, rfl, rfl, Nat.le_refl _, fun _ _ _ => rfl, Store.le.refl _, h, fun _ _ h => .inl h, by simp, by simp⟩

/-- The beginning of a function that is handed an item to write. -/
theorem Iv.start1 {μ : Store} {w : World} (h : Agr μ w) {i : It} (ho : i.ok w) (hn : i.foot.Nodup) (hg : ∀ g ∈ i.foot, g < w.heap.size ∧ μ g = none) : Iv w i.foot μ μ [i] w :=
  ⟨rfl, rfl, rfl, Nat.le_refl _, fun _ _ _ => rfl, Store.le.refl _, h, fun _ _ h => .inl h, by simpa using hn, fun j hj => by
    have : j = i := by simpa using hj
    subst this
    exact ⟨ho, fun g h => ⟨(hg g h).1, (hg g h).2, .inr h⟩⟩⟩

section
variable {W0 : World} {md : List Nat} {μ0 μ μ' : Store} {its its' : List It} {w w' : World}

theorem Iv.below (h : Iv W0 [] μ0 μ its w) : RowKit.Below W0.heap.size W0 w := ⟨h.os, h.tape, h.out, h.size, fun k hk => h.frame k hk (by simp)⟩

theorem Iv.drew (h : Iv W0 md μ0 μ its w) (n : Nat) : Iv W0 md μ0 μ its (w.drewN n) := by
  have e : (w.drewN n).heap = w.heap := rfl
  refine ⟨h.os, h.tape, h.out, h.size, h.frame, h.le, h.agr, h.fresh, h.nodup, fun i hi => ?_⟩
  obtain ⟨h1, h2⟩ := h.own i hi
  exact ⟨i.loc w _ (fun g _ => by rw [e]) h1, h2⟩
theorem Iv.drew1 (h : Iv W0 md μ0 μ its w) : Iv W0 md μ0 μ its { w with drawn := w.drawn + 1 } := by
  refine ⟨h.os, h.tape, h.out, h.size, h.frame, h.le, h.agr, h.fresh, h.nodup, fun i hi => ?_⟩
  obtain ⟨h1, h2⟩ := h.own i hi
  exact ⟨i.loc w _ (fun g _ => rfl) h1, h2⟩

/-- What has been laid into the store since is forgotten, and all items. -/
theorem Iv.forget (h : Iv W0 md μ0 μ' its' w) (h0 : μ0.le μ) (h1 : μ.le μ') : Iv W0 md μ0 μ [] w :=
  ⟨h.os, h.tape, h.out, h.size, h.frame, h0, fun k o e => h.agr k o (h1 k o e), fun k o e => h.fresh k o (h1 k o e), by simp, by simp⟩
theorem Iv.forget0 (h : Iv W0 md μ0 μ' its' w) : Iv W0 md μ0 μ0 [] w := h.forget (Store.le.refl _) h.le
/-- Items are dropped. -/
theorem Iv.drop (h : Iv W0 md μ0 μ its w) (hs : its'.Sublist its) : Iv W0 md μ0 μ its' w :=
  ⟨h.os, h.tape, h.out, h.size, h.frame, h.le, h.agr, h.fresh, h.nodup.sublist (sub_foot hs), fun i hi => h.own i (hs.subset hi)⟩
theorem Iv.drop0 (h : Iv W0 md μ0 μ its w) : Iv W0 md μ0 μ [] w := h.drop (List.nil_sublist _)
/-- The store told smaller. -/
theorem Iv.less (h : Iv W0 md μ0 μ' its w) (h0 : μ0.le μ) (h1 : μ.le μ') : Iv W0 md μ0 μ its w :=
  ⟨h.os, h.tape, h.out, h.size, h.frame, h0, fun k o e => h.agr k o (h1 k o e), fun k o e => h.fresh k o (h1 k o e), h.nodup, fun i hi => ⟨(h.own i hi).1, fun g hg => by
    obtain ⟨a, b, c⟩ := (h.own i hi).2 g hg
    refine ⟨a, ?_, c⟩
    cases e : μ g with
    | none => rfl
    | some o => rw [h1 g o e] at b; cases b⟩⟩

/-- A new block. -/
theorem Iv.alloc (h : Iv W0 md μ0 μ its w) (o : Obj) (i : It) (hf : i.foot = [w.heap.size]) (ho : i.ok (w.alloc o)) : Iv W0 md μ0 μ (i :: its) (w.alloc o) := by
  have hb : ∀ k, k < w.heap.size → (w.alloc o).heap[k]? = w.heap[k]? := fun k hk => RowKit.Below.heap_alloc w o k hk
  have hsz : (w.alloc o).heap.size = w.heap.size + 1 := by show (w.heap.push o).size = _; simp
  refine ⟨h.os, h.tape, h.out, by rw [hsz]; have := h.size; omega, fun k hk hm => (hb k (Nat.lt_of_lt_of_le hk h.size)).trans (h.frame k hk hm), h.le, fun k o' e => ?_, h.fresh, ?_, ?_⟩
  · have := h.agr k o' e
    rw [hb k (Array.getElem?_eq_some_iff.1 this).1]
    exact this
  · simp only [List.flatMap_cons, hf, List.singleton_append, List.nodup_cons]
    refine ⟨fun hm => ?_, h.nodup⟩
    obtain ⟨j, hj, hg⟩ := List.mem_flatMap.1 hm
    have := ((h.own j hj).2 _ hg).1
    omega
  · intro j hj
    rcases List.mem_cons.1 hj with rfl | hj
    · refine ⟨ho, fun g hg => ?_⟩
      rw [hf] at hg
      have : g = w.heap.size := by simpa using hg
      subst this
      refine ⟨by rw [hsz]; omega, ?_, .inl h.size⟩
      cases e : μ w.heap.size with
      | none => rfl
      | some o' =>
        have := (Array.getElem?_eq_some_iff.1 (h.agr _ _ e)).1
        omega
    · obtain ⟨h1, h2⟩ := h.own j hj
      refine ⟨j.loc w _ (fun g hg => hb g (h2 g hg).1) h1, fun g hg => ?_⟩
      obtain ⟨a, b, c⟩ := h2 g hg
      exact ⟨by rw [hsz]; omega, b, c⟩

/-- An item is written: of what was there only its blocks have turned. -/
theorem Iv.upd (h : Iv W0 md μ0 μ its w) (j : Nat) (i i' : It) (hj : its[j]? = some i) (hos : w'.os = w.os) (htape : w'.tape = w.tape) (hout : w'.output = w.output) (hsz : w.heap.size ≤ w'.heap.size)
    (hb : ∀ k, k < w.heap.size → k ∉ i.foot → w'.heap[k]? = w.heap[k]?) (hf : ∀ g ∈ i'.foot, g ∈ i.foot ∨ w.heap.size ≤ g) (hfl : ∀ g ∈ i'.foot, g < w'.heap.size) (hn : i'.foot.Nodup) (ho : i'.ok w') : Iv W0 md μ0 μ (its.set j i') w' := by
  have hi : i ∈ its := List.mem_of_getElem? hj
  have hjl : j < its.length := (List.getElem?_eq_some_iff.1 hj).1
  have hsplit : its = its.take j ++ i :: its.drop (j + 1) := by
    have := (List.getElem?_eq_some_iff.1 hj).2
    rw [← this]
    simp
  have hset : its.set j i' = its.take j ++ i' :: its.drop (j + 1) := List.set_eq_take_append_cons_drop.trans (by rw [if_pos hjl])
  obtain ⟨hiok, hifoot⟩ := h.own i hi
  have hnd := h.nodup
  rw [hsplit, List.flatMap_append, List.flatMap_cons] at hnd
  have hdis : ∀ k ∈ its.take j ++ its.drop (j + 1), ∀ g ∈ k.foot, g ∉ i.foot := by
    intro k hk g hg hgi
    rw [List.nodup_append, List.nodup_append] at hnd
    obtain ⟨_, ⟨_, _, h2⟩, h3⟩ := hnd
    rcases List.mem_append.1 hk with hk | hk
    · exact h3 g (List.mem_flatMap.2 ⟨k, hk, hg⟩) g (List.mem_append_left _ hgi) rfl
    · exact h2 g hgi g (List.mem_flatMap.2 ⟨k, hk, hg⟩) rfl
  have hmem : ∀ k ∈ its.take j ++ its.drop (j + 1), k ∈ its := by
    intro k hk
    rw [hsplit]
    rcases List.mem_append.1 hk with hk | hk
    · exact List.mem_append_left _ hk
    · exact List.mem_append_right _ (List.mem_cons_of_mem _ hk)
  refine ⟨hos.trans h.os, htape.trans h.tape, hout.trans h.out, Nat.le_trans h.size hsz, fun k hk hm => ?_, h.le, fun k o e => ?_, h.fresh, ?_, ?_⟩
  · rw [hb k (Nat.lt_of_lt_of_le hk h.size) (fun hki => ?_)]
    · exact h.frame k hk hm
    · rcases (hifoot k hki).2.2 with h' | h'
      · omega
      · exact hm h'
  · have hk := h.agr k o e
    rw [hb k (Array.getElem?_eq_some_iff.1 hk).1 (fun hki => by have := (hifoot k hki).2.1; rw [e] at this; cases this)]
    exact hk
  · rw [hset, List.flatMap_append, List.flatMap_cons]
    rw [List.nodup_append, List.nodup_append] at hnd ⊢
    obtain ⟨n1, ⟨_, n2, d2⟩, d1⟩ := hnd
    have hnew : ∀ k ∈ its.take j ++ its.drop (j + 1), ∀ g ∈ k.foot, g ∉ i'.foot := by
      intro k hk g hg hg'
      rcases hf g hg' with h' | h'
      · exact hdis k hk g hg h'
      · have := ((h.own k (hmem k hk)).2 g hg).1; omega
    refine ⟨n1, ⟨hn, n2, fun g hg g' hg' e => ?_⟩, fun g hg g' hg' e => ?_⟩
    · subst e
      obtain ⟨k, hk, hgk⟩ := List.mem_flatMap.1 hg'
      exact hnew k (List.mem_append_right _ hk) g hgk hg
    · subst e
      obtain ⟨k, hk, hgk⟩ := List.mem_flatMap.1 hg
      rcases List.mem_append.1 hg' with hg' | hg'
      · exact hnew k (List.mem_append_left _ hk) g hgk hg'
      · exact d1 g hg g (List.mem_append_right _ hg') rfl
  · intro k hk
    rw [hset] at hk
    rcases List.mem_append.1 hk with hk' | hk'
    · obtain ⟨h1, h2⟩ := h.own k (hmem k (List.mem_append_left _ hk'))
      exact ⟨k.loc w _ (fun g hg => hb g (h2 g hg).1 (hdis k (List.mem_append_left _ hk') g hg)) h1, fun g hg => ⟨Nat.lt_of_lt_of_le (h2 g hg).1 hsz, (h2 g hg).2⟩⟩
    · rcases List.mem_cons.1 hk' with rfl | hk'
      · refine ⟨ho, fun g hg => ⟨hfl g hg, ?_⟩⟩
        rcases hf g hg with h' | h'
        · exact ⟨(hifoot g h').2.1, (hifoot g h').2.2⟩
        · refine ⟨?_, .inl (Nat.le_trans h.size h')⟩
          cases e : μ g with
          | none => rfl
          | some o =>
            have := (Array.getElem?_eq_some_iff.1 (h.agr g o e)).1
            omega
      · obtain ⟨h1, h2⟩ := h.own k (hmem k (List.mem_append_right _ hk'))
        exact ⟨k.loc w _ (fun g hg => hb g (h2 g hg).1 (hdis k (List.mem_append_right _ hk') g hg)) h1, fun g hg => ⟨Nat.lt_of_lt_of_le (h2 g hg).1 hsz, (h2 g hg).2⟩⟩

/-- A call that was handed no block to write: what it has made comes beside what there was. -/
theorem Iv.call (h : Iv W0 md μ0 μ its w) (h' : Iv w [] μ μ' its' w') : Iv W0 md μ0 μ' (its' ++ its) w' := by
  refine ⟨h'.os.trans h.os, h'.tape.trans h.tape, h'.out.trans h.out, Nat.le_trans h.size h'.size, fun k hk hm => (h'.frame k (Nat.lt_of_lt_of_le hk h.size) (by simp)).trans (h.frame k hk hm), h.le.trans h'.le, h'.agr, fun k o e => ?_, ?_, ?_⟩
  · rcases h'.fresh k o e with e' | e' | e'
    · exact h.fresh k o e'
    · exact .inr (.inl (Nat.le_trans h.size e'))
    · simp at e'
  · rw [List.flatMap_append, List.nodup_append]
    refine ⟨h'.nodup, h.nodup, fun g hg g' hg' e => ?_⟩
    subst e
    obtain ⟨i, hi, hgi⟩ := List.mem_flatMap.1 hg
    obtain ⟨j, hj, hgj⟩ := List.mem_flatMap.1 hg'
    have h1 := ((h'.own i hi).2 g hgi).2.2
    have h2 := ((h.own j hj).2 g hgj).1
    simp at h1
    omega
  · intro i hi
    rcases List.mem_append.1 hi with hi | hi
    · refine ⟨(h'.own i hi).1, fun g hg => ?_⟩
      obtain ⟨a, b, c⟩ := (h'.own i hi).2 g hg
      refine ⟨a, b, ?_⟩
      simp at c
      exact .inl (Nat.le_trans h.size c)
    · obtain ⟨h1, h2⟩ := h.own i hi
      refine ⟨i.loc w _ (fun g hg => h'.frame g (h2 g hg).1 (by simp)) h1, fun g hg => ?_⟩
      obtain ⟨a, b, c⟩ := h2 g hg
      refine ⟨Nat.lt_of_lt_of_le a h'.size, ?_, c⟩
      cases e : μ' g with
      | none => rfl
      | some o =>
        rcases h'.fresh g o e with e' | e' | e'
        · rw [b] at e'; cases e'
        · omega
        · simp at e'

/-- A call that was handed item 'j' to write. -/
theorem Iv.call1 (h : Iv W0 md μ0 μ its w) (j : Nat) {i : It} (hj : its[j]? = some i) (h' : Iv w i.foot μ μ' its' w') : Iv W0 md μ0 μ' (its' ++ its.eraseIdx j) w' := by
  have hi : i ∈ its := List.mem_of_getElem? hj
  have hsplit : its = its.take j ++ i :: its.drop (j + 1) := by
    have := (List.getElem?_eq_some_iff.1 hj).2
    rw [← this]
    simp
  have her : its.eraseIdx j = its.take j ++ its.drop (j + 1) := List.eraseIdx_eq_take_drop_succ ..
  obtain ⟨hiok, hifoot⟩ := h.own i hi
  have hnd := h.nodup
  rw [hsplit, List.flatMap_append, List.flatMap_cons] at hnd
  have hdis : ∀ k ∈ its.eraseIdx j, ∀ g ∈ k.foot, g ∉ i.foot := by
    intro k hk g hg hgi
    rw [her] at hk
    rw [List.nodup_append, List.nodup_append] at hnd
    obtain ⟨_, ⟨_, _, h2⟩, h3⟩ := hnd
    rcases List.mem_append.1 hk with hk | hk
    · exact h3 g (List.mem_flatMap.2 ⟨k, hk, hg⟩) g (List.mem_append_left _ hgi) rfl
    · exact h2 g hgi g (List.mem_flatMap.2 ⟨k, hk, hg⟩) rfl
  have hmem : ∀ k ∈ its.eraseIdx j, k ∈ its := fun k hk => List.mem_of_mem_eraseIdx hk
  have hnd' : ((its.eraseIdx j).flatMap (·.foot)).Nodup := h.nodup.sublist (sub_foot (List.eraseIdx_sublist its j))
  refine ⟨h'.os.trans h.os, h'.tape.trans h.tape, h'.out.trans h.out, Nat.le_trans h.size h'.size, fun k hk hm => ?_, h.le.trans h'.le, h'.agr, fun k o e => ?_, ?_, ?_⟩
  · have hki : k ∉ i.foot := fun e => by
      rcases (hifoot k e).2.2 with h1 | h1
      · omega
      · exact hm h1
    exact (h'.frame k (Nat.lt_of_lt_of_le hk h.size) hki).trans (h.frame k hk hm)
  · rcases h'.fresh k o e with e' | e' | e'
    · exact h.fresh k o e'
    · exact .inr (.inl (Nat.le_trans h.size e'))
    · exact .inr (hifoot k e').2.2
  · rw [List.flatMap_append, List.nodup_append]
    refine ⟨h'.nodup, hnd', fun x hx x' hx' e => ?_⟩
    subst e
    obtain ⟨k, hk, hxk⟩ := List.mem_flatMap.1 hx
    obtain ⟨l, hl, hxl⟩ := List.mem_flatMap.1 hx'
    have h1 := ((h'.own k hk).2 x hxk).2.2
    have h2 := ((h.own l (hmem l hl)).2 x hxl).1
    rcases h1 with h1 | h1
    · omega
    · exact hdis l hl x hxl h1
  · intro k hk
    rcases List.mem_append.1 hk with hk | hk
    · refine ⟨(h'.own k hk).1, fun x hx => ?_⟩
      obtain ⟨a, b, c⟩ := (h'.own k hk).2 x hx
      refine ⟨a, b, ?_⟩
      rcases c with c | c
      · exact .inl (Nat.le_trans h.size c)
      · exact (hifoot x c).2.2
    · obtain ⟨h1, h2⟩ := h.own k (hmem k hk)
      refine ⟨k.loc w _ (fun x hx => h'.frame x (h2 x hx).1 (hdis k hk x hx)) h1, fun x hx => ?_⟩
      obtain ⟨a, b, c⟩ := h2 x hx
      refine ⟨Nat.lt_of_lt_of_le a h'.size, ?_, c⟩
      cases e : μ' x with
      | none => rfl
      | some o =>
        rcases h'.fresh x o e with e' | e' | e'
        · rw [b] at e'; cases e'
        · omega
        · exact absurd e' (hdis k hk x hx)
/-- What a callee that is handed item 'j' may lean on. -/
theorem Iv.item (h : Iv W0 md μ0 μ its w) {j : Nat} {i : It} (hj : its[j]? = some i) : i.ok w ∧ i.foot.Nodup ∧ ∀ g ∈ i.foot, g < w.heap.size ∧ μ g = none := by
  have hi := List.mem_of_getElem? hj
  refine ⟨(h.own i hi).1, ?_, fun g hg => ⟨((h.own i hi).2 g hg).1, ((h.own i hi).2 g hg).2.1⟩⟩
  have hnd := h.nodup
  have hsplit : its = its.take j ++ i :: its.drop (j + 1) := by
    have := (List.getElem?_eq_some_iff.1 hj).2
    rw [← this]
    simp
  rw [hsplit, List.flatMap_append, List.flatMap_cons, List.nodup_append, List.nodup_append] at hnd
  exact hnd.2.1.1

/-- An item is written no more: its blocks go into the store. -/
theorem Iv.freeze (h : Iv W0 md μ0 μ its w) (j : Nat) {i : It} {g : Nat} {o : Obj} (hj : its[j]? = some i) (hf : i.foot = [g]) (ho : w.heap[g]? = some o) :
    ∃ μ', μ.le μ' ∧ μ' g = some o ∧ Iv W0 md μ0 μ' (its.eraseIdx j) w := by
  have hi : i ∈ its := List.mem_of_getElem? hj
  obtain ⟨hiok, hifoot⟩ := h.own i hi
  have hgi := hifoot g (by rw [hf]; simp)
  have hsplit : its = its.take j ++ i :: its.drop (j + 1) := by
    have := (List.getElem?_eq_some_iff.1 hj).2
    rw [← this]
    simp
  have her : its.eraseIdx j = its.take j ++ its.drop (j + 1) := List.eraseIdx_eq_take_drop_succ ..
  have hnd := h.nodup
  rw [hsplit, List.flatMap_append, List.flatMap_cons, hf] at hnd
  have hdis : ∀ k ∈ its.eraseIdx j, g ∉ k.foot := by
    intro k hk hg
    rw [her] at hk
    rw [List.nodup_append, List.nodup_append] at hnd
    obtain ⟨_, ⟨_, _, h2⟩, h3⟩ := hnd
    rcases List.mem_append.1 hk with hk | hk
    · exact h3 g (List.mem_flatMap.2 ⟨k, hk, hg⟩) g (List.mem_append_left _ (by simp)) rfl
    · exact h2 g (by simp) g (List.mem_flatMap.2 ⟨k, hk, hg⟩) rfl
  have hle : μ.le (fun k => if k = g then some o else μ k) := fun k o' e => by
    by_cases hk : k = g
    · subst hk; rw [hgi.2.1] at e; cases e
    · simp [hk, e]
  refine ⟨fun k => if k = g then some o else μ k, hle, by simp, h.os, h.tape, h.out, h.size, h.frame, h.le.trans hle, fun k o' e => ?_, fun k o' e => ?_, h.nodup.sublist (sub_foot (List.eraseIdx_sublist its j)), fun k hk => ?_⟩
  · by_cases hk : k = g
    · subst hk
      simp only [if_pos] at e
      cases e
      exact ho
    · simp only [if_neg hk] at e
      exact h.agr k o' e
  · by_cases hk : k = g
    · subst hk; exact .inr hgi.2.2
    · simp only [if_neg hk] at e
      exact h.fresh k o' e
  · obtain ⟨h1, h2⟩ := h.own k (List.mem_of_mem_eraseIdx hk)
    refine ⟨h1, fun x hx => ?_⟩
    obtain ⟨a, b, c⟩ := h2 x hx
    refine ⟨a, ?_, c⟩
    have : x ≠ g := fun e => hdis k hk (e ▸ hx)
    simp [this, b]
/-- A part of the items, in another order. -/
theorem Iv.sel (h : Iv W0 md μ0 μ its w) (ix : List Nat) (hn : ix.Nodup) {its' : List It} (he : ix.filterMap (its[·]?) = its') : Iv W0 md μ0 μ its' w := by
  subst he
  have hp : ∀ (i j : Nat) (x y : It), its[i]? = some x → its[j]? = some y → i ≠ j → ∀ g ∈ x.foot, g ∉ y.foot := by
    intro i j x y hx hy hij g hg hg'
    have hw : ∀ (i j : Nat) (x y : It), i < j → its[i]? = some x → its[j]? = some y → g ∈ x.foot → g ∈ y.foot → False := by
      intro i j x y hlt hx hy hg hg'
      have hsplit : its = its.take j ++ its.drop j := by simp
      have hnd := h.nodup
      rw [hsplit, List.flatMap_append, List.nodup_append] at hnd
      refine hnd.2.2 g (List.mem_flatMap.2 ⟨x, ?_, hg⟩) g (List.mem_flatMap.2 ⟨y, ?_, hg'⟩) rfl
      · exact List.mem_of_getElem? (i := i) (by rw [List.getElem?_take, if_pos hlt]; exact hx)
      · exact List.mem_of_getElem? (i := 0) (by rw [List.getElem?_drop]; exact hy)
    rcases Nat.lt_or_gt_of_ne hij with h' | h'
    · exact hw i j x y h' hx hy hg hg'
    · exact hw j i y x h' hy hx hg' hg
  have hone : ∀ (i : Nat) (x : It), its[i]? = some x → x.foot.Nodup := by
    intro i x hx
    have hnd := h.nodup
    have hsplit : its = its.take i ++ x :: its.drop (i + 1) := by
      have := (List.getElem?_eq_some_iff.1 hx).2
      rw [← this]
      simp
    rw [hsplit, List.flatMap_append, List.flatMap_cons, List.nodup_append, List.nodup_append] at hnd
    exact hnd.2.1.1
  refine ⟨h.os, h.tape, h.out, h.size, h.frame, h.le, h.agr, h.fresh, ?_, fun i hi => ?_⟩
  · induction ix with
    | nil => simp
    | cons i ix ih =>
      rw [List.nodup_cons] at hn
      rw [List.filterMap_cons]
      cases hx : its[i]? with
      | none => exact ih hn.2
      | some x =>
        simp only [List.flatMap_cons, List.nodup_append]
        refine ⟨hone i x hx, ih hn.2, fun g hg g' hg' e => ?_⟩
        subst e
        obtain ⟨y, hy, hgy⟩ := List.mem_flatMap.1 hg'
        obtain ⟨j, hj, hjy⟩ := List.mem_filterMap.1 hy
        exact hp i j x y hx hjy (fun e => hn.1 (e ▸ hj)) g hg hgy
  · obtain ⟨j, _, hj⟩ := List.mem_filterMap.1 hi
    exact h.own i (List.mem_of_getElem? hj)
end

end Go.Proofs.Ytnbnnphlffhgiaa.K
