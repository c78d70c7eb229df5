/- A helper of this seat's claims. It proves no statement by itself. -/
/- Regions that draw their order, in which memory is made and written: what only reads is taken first, what writes is forced. -/
import Derived.Test.YtnbnnphlffhgiaaK5
import Derived.OrdersHeld
namespace Go.Proofs.Ytnbnnphlffhgiaa.K
open Go

section
variable {P : Program} {ops : Array Oper} {Q : Exit → Act → World → Prop} {I I' : World → Prop} {T : List Nat} {l : Array Bool}

/-- Operation 't' waits, sooner or later, for operation 'i'. -/
def waitsL (ops : Array Oper) : Nat → Nat → Nat → Bool
  | 0, _, _ => false
  | f + 1, t, i => match ops[t]? with
    | some o => o.after.any fun e => Region.binds .any e && (e.on == i || waitsL ops f e.on i)
    | none => false
/-- Who has come up waits for none who hasn't. -/
def Shut (ops : Array Oper) (l : Array Bool) : Prop :=
  ∀ (j : Nat) (oj : Oper), ops[j]? = some oj → l.getD j false = true → ∀ e ∈ oj.after, Region.binds .any e = true → l.getD e.on false = true
def shutB (ops : Array Oper) (l : Array Bool) : Bool :=
  (List.range ops.size).all fun j => !l.getD j false || match ops[j]? with
    | some oj => oj.after.all fun e => !Region.binds .any e || l.getD e.on false
    | none => true
theorem shut_of (h : shutB ops l = true) : Shut ops l := by
  intro j oj hj hl e he hb
  have hlt : j < ops.size := (Array.getElem?_eq_some_iff.1 hj).1
  have h1 := List.all_eq_true.1 h j (List.mem_range.2 hlt)
  rw [hl, hj] at h1
  simp only [Bool.not_true, Bool.false_or] at h1
  have h2 := Array.all_eq_true'.1 h1 e he
  rw [hb] at h2
  simpa using h2
theorem waitsL_not {i : Nat} (hs : Shut ops l) (hi : l.getD i false = false) : ∀ (f t : Nat), waitsL ops f t i = true → l.getD t false = false ∧ t ∉ Region.ready .any ops l
  | 0, t, h => by cases h
  | f + 1, t, h => by
    unfold waitsL at h
    split at h
    case h_2 => cases h
    rename_i o ho
    obtain ⟨e, he, hb⟩ := Array.any_eq_true'.1 h
    simp only [Bool.and_eq_true, Bool.or_eq_true, beq_iff_eq] at hb
    have hn : l.getD e.on false = false := by
      rcases hb.2 with h1 | h1
      · rw [h1]; exact hi
      · exact (waitsL_not hs hi f e.on h1).1
    refine ⟨?_, fun hr => ?_⟩
    · cases hl : l.getD t false with
      | false => rfl
      | true =>
        have := hs t o ho hl e he hb.1
        rw [hn] at this
        cases this
    · obtain ⟨_, o', ho', hall⟩ := mem_ready.1 hr
      have : o' = o := Option.some.inj (ho'.symm.trans ho)
      subst this
      have := hall e he hb.1
      rw [hn] at this
      cases this
theorem Shut.set {i : Nat} (hs : Shut ops l) (hi : i ∈ Region.ready .any ops l) : Shut ops (l.setIfInBounds i true) := by
  obtain ⟨_, oi, hoi, hall⟩ := mem_ready.1 hi
  intro j oj hj hl e he hb
  by_cases hij : i = j
  · subst hij
    have : oj = oi := Option.some.inj (hj.symm.trans hoi)
    subst this
    exact getD_set_true (hall e he hb)
  · rw [getD_set_ne false hij] at hl
    exact getD_set_true (hs j oj hj hl e he hb)
theorem getD_tf {l : Array Bool} {i : Nat} (h : l.getD i true = false) : l.getD i false = false := by
  rcases Nat.lt_or_ge i l.size with h' | h'
  · simp [h'] at h ⊢; exact h
  · simp [Array.getElem?_eq_none h'] at h

/-- One of those that write has come up. -/
def wrote (T : List Nat) (l : Array Bool) : Bool := T.any (l.getD · false)
theorem wrote_set {i : Nat} (h : wrote T (l.setIfInBounds i true) = true) (hi : T.contains i = false) : wrote T l = true := by
  obtain ⟨t, ht, hl⟩ := List.any_eq_true.1 h
  have hne : i ≠ t := fun e => by subst e; rw [List.contains_iff_mem.2 ht] at hi; cases hi
  rw [getD_set_ne false hne] at hl
  exact List.any_eq_true.2 ⟨t, ht, hl⟩

/-- Whatever order is picked; till one of 'T' comes up, 'I' holds behind every operation. -/
def wpG (P : Program) (ops : Array Oper) (Q : Exit → Act → World → Prop) (T : List Nat) (I : World → Prop) : Nat → Array Bool → Act → World → Prop
  | 0, l, a, w => Region.ready .any ops l = [] ∧ Q .normal a w
  | f + 1, l, a, w =>
    (Region.ready .any ops l = [] → Q .normal a w) ∧
    ∀ i ∈ Region.ready .any ops l, wpOp P ops Q i (fun a' w' => (wrote T (l.setIfInBounds i true) = true ∨ I w') ∧ wpG P ops Q T I f (l.setIfInBounds i true) a' w') a w
theorem wpAny_of_G : ∀ (f : Nat) (l : Array Bool) (a : Act) (w : World), wpG P ops Q T I f l a w → wpAny P .any ops Q f l a w
  | 0, _, _, _, h => h
  | f + 1, _, _, _, h => ⟨h.1, fun i hi => wpOp_mono (fun a' w' h' => wpAny_of_G f _ a' w' h'.2) (h.2 i hi)⟩
theorem g_mono (hI : ∀ w, I' w → I w) : ∀ (f : Nat) (l : Array Bool) (a : Act) (w : World), wpG P ops Q T I' f l a w → wpG P ops Q T I f l a w
  | 0, _, _, _, h => h
  | f + 1, _, _, _, h => ⟨h.1, fun i hi => wpOp_mono (fun a' w' h' => ⟨h'.1.imp id (hI w'), g_mono hI f _ a' w' h'.2⟩) (h.2 i hi)⟩

theorem g_first {i : Nat} {oi : Oper} {v : Value} (hi : ops[i]? = some oi) (hsel : ∀ (j : Nat) (o : Oper) cs b, ops[j]? = some o → o.op ≠ .select cs b)
    (hQ : ∀ c a w, Q (.panic c) (a.put oi.dst v) w → Q (.panic c) a w) (hT : T.contains i = false) (hW : ∀ t ∈ T, ∃ f, waitsL ops f t i = true) :
    ∀ (f : Nat) (l : Array Bool) (a : Act) (w : World), Shut ops l → wrote T l = false →
      (∀ j oj, ops[j]? = some oj → j ≠ i → l.getD j true = false → (∀ e ∈ oj.after, Region.binds .any e = true → e.on ≠ i) → oi.apart ops oj = true) →
      i ∈ Region.ready .any ops l → YieldsIf P ops I oi v a → I w →
      wpG P ops Q T I f (l.setIfInBounds i true) (a.put oi.dst v) w → wpG P ops Q T I (f + 1) l a w := by
  intro f
  induction f with
  | zero =>
    intro l a w _ _ _ hr hy hS H
    refine ⟨fun h => (by rw [h] at hr; cases hr), fun j hj => ?_⟩
    by_cases hji : j = i
    · subst hji; exact hy.wpOp hi hS ⟨.inr hS, H⟩
    · have := ready_mono hj hji
      rw [H.1] at this
      cases this
  | succ f ih =>
    intro l a w hsh hnw hfree hr hy hS H
    refine ⟨fun h => (by rw [h] at hr; cases hr), fun j hj => ?_⟩
    by_cases hji : j = i
    · subst hji; exact hy.wpOp hi hS ⟨.inr hS, H⟩
    · have h1 := H.2 j (ready_mono hj hji)
      obtain ⟨hjun, oj, hoj, hall⟩ := mem_ready.1 hj
      have hiun := (mem_ready.1 hr).1
      have hnot : ∀ e ∈ oj.after, Region.binds .any e = true → e.on ≠ i := fun e he hb heq => by
        have h1 := hall e he hb
        rw [heq, getD_tf hiun] at h1
        cases h1
      have hjT : T.contains j = false := by
        cases hc : T.contains j with
        | false => rfl
        | true =>
          obtain ⟨f', hf'⟩ := hW j (List.contains_iff_mem.1 hc)
          exact absurd hj (waitsL_not hsh (getD_tf hiun) f' j hf').2
      have h2 := wpOp_putIf hoj (hfree j oj hoj hji hjun hnot) (fun cs b => hsel i oi cs b hi) (fun cs b => hsel j oj cs b hoj) hQ hy h1
      have hfree' : ∀ k ok, ops[k]? = some ok → k ≠ i → (l.setIfInBounds j true).getD k true = false →
          (∀ e ∈ ok.after, Region.binds .any e = true → e.on ≠ i) → oi.apart ops ok = true := fun k ok hk hki hun hno => by
        refine hfree k ok hk hki ?_ hno
        by_cases hjk : j = k
        · subst hjk; exact hjun
        · rw [getD_set_ne true hjk] at hun; exact hun
      have hnw' : wrote T (l.setIfInBounds j true) = false := by
        cases hc : wrote T (l.setIfInBounds j true) with
        | false => rfl
        | true => rw [wrote_set hc hjT] at hnw; cases hnw
      refine wpOp_mono (fun a' w' h3 => ?_) h2
      have hw' : I w' := by
        rcases h3.2.1 with h4 | h4
        · rw [wrote_set (wrote_set h4 hjT) hT] at hnw; cases hnw
        · exact h4
      refine ⟨.inr hw', ih (l.setIfInBounds j true) a' w' (hsh.set hj) hnw' hfree' (ready_mono hr (Ne.symm hji)) h3.1 hw' ?_⟩
      rw [Array.setIfInBounds_comm _ _ hji]
      exact h3.2.2

theorem g_weak {i : Nat} {oi : Oper} {v : Value} (hi : ops[i]? = some oi) (hsel : ∀ (j : Nat) (o : Oper) cs b, ops[j]? = some o → o.op ≠ .select cs b)
    (hQ : ∀ c a w, Q (.panic c) (a.put oi.dst v) w → Q (.panic c) a w) (hT : T.contains i = false) :
    ∀ (f : Nat) (l : Array Bool) (a : Act) (w : World), (wrote T l = true ∨ I w) →
      (∀ j oj, ops[j]? = some oj → j ≠ i → l.getD j true = false → (∀ e ∈ oj.after, Region.binds .any e = true → e.on ≠ i) → oi.apart ops oj = true) →
      i ∈ Region.ready .any ops l → YieldsIf P ops (fun _ => True) oi v a →
      wpG P ops Q T I f (l.setIfInBounds i true) (a.put oi.dst v) w → wpG P ops Q T I (f + 1) l a w := by
  have up : ∀ {l : Array Bool} {k : Nat}, wrote T l = true → wrote T (l.setIfInBounds k true) = true := by
    intro l k h
    obtain ⟨t, ht, hl⟩ := List.any_eq_true.1 h
    exact List.any_eq_true.2 ⟨t, ht, getD_set_true hl⟩
  intro f
  induction f with
  | zero =>
    intro l a w hS _ hr hy H
    refine ⟨fun h => (by rw [h] at hr; cases hr), fun j hj => ?_⟩
    by_cases hji : j = i
    · subst hji; exact hy.wpOp hi trivial ⟨hS.imp up id, H⟩
    · have := ready_mono hj hji
      rw [H.1] at this
      cases this
  | succ f ih =>
    intro l a w hS hfree hr hy H
    refine ⟨fun h => (by rw [h] at hr; cases hr), fun j hj => ?_⟩
    by_cases hji : j = i
    · subst hji; exact hy.wpOp hi trivial ⟨hS.imp up id, H⟩
    · have h1 := H.2 j (ready_mono hj hji)
      obtain ⟨hjun, oj, hoj, hall⟩ := mem_ready.1 hj
      have hiun := (mem_ready.1 hr).1
      have hnot : ∀ e ∈ oj.after, Region.binds .any e = true → e.on ≠ i := fun e he hb heq => by
        have h1 := hall e he hb
        rw [heq, getD_tf hiun] at h1
        cases h1
      have h2 := wpOp_putIf hoj (hfree j oj hoj hji hjun hnot) (fun cs b => hsel i oi cs b hi) (fun cs b => hsel j oj cs b hoj) hQ hy h1
      have hfree' : ∀ k ok, ops[k]? = some ok → k ≠ i → (l.setIfInBounds j true).getD k true = false →
          (∀ e ∈ ok.after, Region.binds .any e = true → e.on ≠ i) → oi.apart ops ok = true := fun k ok hk hki hun hno => by
        refine hfree k ok hk hki ?_ hno
        by_cases hjk : j = k
        · subst hjk; exact hjun
        · rw [getD_set_ne true hjk] at hun; exact hun
      refine wpOp_mono (fun a' w' h3 => ?_) h2
      have hw' : wrote T (l.setIfInBounds j true) = true ∨ I w' := by
        rcases h3.2.1 with h4 | h4
        · rw [Array.setIfInBounds_comm _ _ (Ne.symm hji)] at h4
          exact .inl (wrote_set h4 hT)
        · exact .inr h4
      refine ⟨hw', ih (l.setIfInBounds j true) a' w' hw' hfree' (ready_mono hr (Ne.symm hji)) h3.1 ?_⟩
      rw [Array.setIfInBounds_comm _ _ hji]
      exact h3.2.2
end

/-! ### The moves -/
section
variable {P : Program} {ops : Array Oper} {N R : AW} {E : List (Nat × AW)} {I I' : World → Prop} {T : List Nat} {l : Array Bool} {f i d n : Nat} {L : List (Nat × Value)} {a : Act} {w : World} {v : Value} {op : Op} {ty : TypeId} {pos : String} {aft : Array Edge} {gd : Option (Nat × Bool)} {dst : Option Nat}

theorem wp_pq {N' : AW} {o : Oper} {K : Act → World → Prop} (h : o.wp P a w K (PQ N' E R)) : o.wp P a w K (PQ N E R) := by
  unfold Oper.wp at *
  generalize (execOp a.eval o).run P w = r at *
  cases r with
  | ok n w' =>
    cases n <;> simp only [Oper.upon] at h ⊢ <;>
      first
        | exact h
        | exact Calls.mono h (fun e w'' he => by cases e <;> exact he)
        | exact Rows.mono h (fun _ _ he => he)
  | halt x w' => cases x <;> simp only [Oper.upon] at h ⊢ <;> exact h
theorem g_forced {o : Oper} (hi : ops[i]? = some o) (hr : Region.ready .any ops l = [i])
    (h : wpList P ops (PQ (fun a' w' => (wrote T (l.setIfInBounds i true) = true ∨ I w') ∧ wpG P ops (PQ N E R) T I f (l.setIfInBounds i true) a' w') E R) [o] a w) : wpG P ops (PQ N E R) T I (f + 1) l a w := by
  refine ⟨fun h0 => (by rw [h0] at hr; cases hr), fun j hj => ?_⟩
  rw [hr] at hj
  obtain rfl : j = i := by simpa using hj
  unfold wpOp
  simp only [hi]
  unfold wpList at h
  split
  · rename_i hw
    rw [if_pos hw] at h
    rcases h with h | ⟨_, _, _, h⟩
    · exact .inl (wp_pq h)
    · exact h.elim
  · rename_i hw
    rw [if_neg hw] at h
    exact h

def weakB (ops : Array Oper) (T : List Nat) (l : Array Bool) (i : Nat) : Bool :=
  Region.noSelect ops && Region.free .any ops l i && (Region.ready .any ops l).contains i && !T.contains i
def takeB (ops : Array Oper) (T : List Nat) (l : Array Bool) (i : Nat) : Bool :=
  weakB ops T l i && shutB ops l && !wrote T l && T.all (waitsL ops 12 · i)
theorem g_take (hA : Fr a n L) (hi : ops[i]? = some ⟨some d, op, ty, pos, aft, gd⟩) (hw : Region.wanted ⟨some d, op, ty, pos, aft, gd⟩ (yielded ops a.tmps) = true) (hB : takeB ops T l i = true) (hI : I w)
    (h : ∀ w, I w → (execOp a.eval ⟨some d, op, ty, pos, aft, gd⟩).run P w = .ok (.value v) w) (hd : Nat.ble (d + 1) n = true)
    (k : ∀ a, Fr a n ((d, v) :: L) → wpG P ops (PQ N E R) T I f (l.setIfInBounds i true) a w) : wpG P ops (PQ N E R) T I (f + 1) l a w := by
  simp only [takeB, weakB, Bool.and_eq_true, Bool.not_eq_true', List.all_eq_true] at hB
  obtain ⟨⟨⟨⟨⟨⟨h1, h2⟩, h3⟩, h4⟩, h5⟩, h6⟩, h7⟩ := hB
  exact g_first (v := v) hi (Region.noSelect_spec h1) (fun c a w h => h) h4 (fun t ht => ⟨_, h7 t ht⟩) f l a w (shut_of h5) h6 (Region.free_spec hi h2) (by simpa using h3) (.inl ⟨hw, h⟩) hI (k _ (hA.put hd v))
theorem g_easy (hA : Fr a n L) (hi : ops[i]? = some ⟨some d, op, ty, pos, aft, gd⟩) (hw : Region.wanted ⟨some d, op, ty, pos, aft, gd⟩ (yielded ops a.tmps) = true) (hB : weakB ops T l i = true) (hI : wrote T l = true ∨ I w)
    (h : ∀ w, (execOp a.eval ⟨some d, op, ty, pos, aft, gd⟩).run P w = .ok (.value v) w) (hd : Nat.ble (d + 1) n = true)
    (k : ∀ a, Fr a n ((d, v) :: L) → wpG P ops (PQ N E R) T I f (l.setIfInBounds i true) a w) : wpG P ops (PQ N E R) T I (f + 1) l a w := by
  simp only [weakB, Bool.and_eq_true, Bool.not_eq_true'] at hB
  obtain ⟨⟨⟨h1, h2⟩, h3⟩, h4⟩ := hB
  exact g_weak (v := v) hi (Region.noSelect_spec h1) (fun c a w h => h) h4 f l a w hI (Region.free_spec hi h2) (by simpa using h3) (.inl ⟨hw, fun w _ => h w⟩) (k _ (hA.put hd v))
theorem g_skip (hA : Fr a n L) (hi : ops[i]? = some ⟨some d, op, ty, pos, aft, gd⟩) (hw : Region.wanted ⟨some d, op, ty, pos, aft, gd⟩ (yielded ops a.tmps) = false) (hB : weakB ops T l i = true) (hI : wrote T l = true ∨ I w)
    (hd : Nat.ble (d + 1) n = true) (k : ∀ a, Fr a n ((d, undef) :: L) → wpG P ops (PQ N E R) T I f (l.setIfInBounds i true) a w) : wpG P ops (PQ N E R) T I (f + 1) l a w := by
  simp only [weakB, Bool.and_eq_true, Bool.not_eq_true'] at hB
  obtain ⟨⟨⟨h1, h2⟩, h3⟩, h4⟩ := hB
  exact g_weak (v := undef) hi (Region.noSelect_spec h1) (fun c a w h => h) h4 f l a w hI (Region.free_spec hi h2) (by simpa using h3) (.inr ⟨hw, rfl⟩) (k _ (hA.put hd undef))
theorem wanted_yes (hA : Fr a n L) {j t : Nat} {b β : Bool} (hj : ((ops[j]?).bind (·.dst)) = some t) (ht : lk L t = some (.bool β)) (hb : β = b) :
    Region.wanted ⟨dst, op, ty, pos, aft, some (j, b)⟩ (yielded ops a.tmps) = true := by
  have := yields (ops := ops) hA hj ht
  simp [Region.wanted, this, vb, hb]
theorem wanted_no (hA : Fr a n L) {j t : Nat} {b : Bool} (hj : ((ops[j]?).bind (·.dst)) = some t) (ht : lk L t = some v) (hne : vb v ≠ some b) :
    Region.wanted ⟨dst, op, ty, pos, aft, some (j, b)⟩ (yielded ops a.tmps) = false := by
  have hy := yields (ops := ops) hA hj ht
  simp only [Region.wanted, hy]
  simpa using hne
theorem w_any {id : Nat} {l : List Oper} {W0 : World} {md : List Nat} {μ0 μ : Store} {its : List It} (T : List Nat) (hm : P.follows .mixedOrders = true) (hI : Iv W0 md μ0 μ its w)
    (h : ∀ w, Iv W0 md μ0 μ its w → wpG P l.toArray (PQ N E R) T (fun w => Iv W0 md μ0 μ its w) l.toArray.size (Array.replicate l.toArray.size false) a w) : (Code.region id l.toArray true).wp P (PQ N E R) a w :=
  wp_region_any hm (wpAny_of_G _ _ _ _ (h _ hI.drew1))
theorem g_nil (hr : Region.ready .any ops l = []) (h : N a w) : wpG P ops (PQ N E R) T I 0 l a w := ⟨hr, h⟩
end
end Go.Proofs.Ytnbnnphlffhgiaa.K
