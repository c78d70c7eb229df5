/- A helper of this seat's claims. It proves no statement by itself. -/
/- Regions that draw their order and only read; loops as functions; partial answers. -/
import Derived.Test.YtnbnnphlffhgiaaK3
namespace Go.Proofs.Ytnbnnphlffhgiaa.K
open Go

/-! ### Quiet regions -/
section
variable {P : Program} {ops : Array Oper} {rest : List Oper} {W0 : World} {md : List Nat} {μ0 μ : Store} {its : List It} {w : World} {a : Act} {n : Nat} {L : List (Nat × Value)} {d : Nat} {ty : TypeId} {pos : String} {aft : Array Edge} {v : Value} {op : Op}
  {C : World → Prop} {Q : Act → Prop} {N R : AW} {E : List (Nat × AW)}

theorem qtp (hA : Fr a n L) (h : ∀ w, C w → (execOp a.eval ⟨some d, op, ty, pos, aft, none⟩).run P w = .ok (.value v) w) (hd : Nat.ble (d + 1) n = true)
    (k : ∀ a, Fr a n ((d, v) :: L) → wpQuiet P ops C Q rest a) : wpQuiet P ops C Q (⟨some d, op, ty, pos, aft, none⟩ :: rest) a :=
  wpQuiet_step fun K hK => by
    rw [if_pos (show Region.wanted ⟨some d, op, ty, pos, aft, none⟩ (yielded ops a.tmps) = true from rfl)]
    refine ⟨v, fun w hw => ?_, hK _ (k _ (hA.put hd v))⟩
    unfold Oper.quietAt
    rw [h w hw]
    exact ⟨rfl, rfl⟩
theorem qcall {f : FuncId} {xs : List Operand} {vs : List Value} {ats : Array TypeId} (hf : CalleeF P f) (hA : Fr a n L) (hv : ovs L xs = some vs) (hc : ∀ w, C w → Calls P f vs.toArray w fun e w' => e = .returned v ∧ C w') (hd : Nat.ble (d + 1) n = true)
    (k : ∀ a, Fr a n ((d, v) :: L) → wpQuiet P ops C Q rest a) : wpQuiet P ops C Q (⟨some d, .call { callee := .value (.func f), args := xs.toArray, argTypes := ats }, ty, pos, aft, none⟩ :: rest) a :=
  wpQuiet_step fun K hK => by
    rw [if_pos (show Region.wanted ⟨some d, .call { callee := .value (.func f), args := xs.toArray, argTypes := ats }, ty, pos, aft, none⟩ (yielded ops a.tmps) = true from rfl)]
    refine ⟨v, fun w hw => ?_, hK _ (k _ (hA.put hd v))⟩
    unfold Oper.quietAt
    rw [run_call hf hA hv]
    exact ⟨rfl, hc w hw⟩
theorem qun {dst : Option Nat} {g : Option (Nat × Bool)} (hw : Region.wanted ⟨dst, op, ty, pos, aft, g⟩ (yielded ops a.tmps) = true)
    (k : wpQuiet P ops C Q (⟨dst, op, ty, pos, aft, none⟩ :: rest) a) : wpQuiet P ops C Q (⟨dst, op, ty, pos, aft, g⟩ :: rest) a := by
  unfold wpQuiet at k ⊢
  rw [if_pos hw]
  rw [if_pos (show Region.wanted ⟨dst, op, ty, pos, aft, none⟩ (yielded ops a.tmps) = true from rfl)] at k
  exact k
theorem q_yes (hA : Fr a n L) {dst : Option Nat} {j t : Nat} {b β : Bool} (hj : ((ops[j]?).bind (·.dst)) = some t) (ht : lk L t = some (.bool β)) (hb : β = b)
    (k : wpQuiet P ops C Q (⟨dst, op, ty, pos, aft, none⟩ :: rest) a) : wpQuiet P ops C Q (⟨dst, op, ty, pos, aft, some (j, b)⟩ :: rest) a :=
  qun (by have := yields (ops := ops) hA hj ht; simp [Region.wanted, this, vb, hb]) k
theorem q_no (hA : Fr a n L) {j t : Nat} {b : Bool} (hj : ((ops[j]?).bind (·.dst)) = some t) (ht : lk L t = some v) (hne : vb v ≠ some b)
    (hd : Nat.ble (d + 1) n = true) (k : ∀ a, Fr a n ((d, undef) :: L) → wpQuiet P ops C Q rest a) : wpQuiet P ops C Q (⟨some d, op, ty, pos, aft, some (j, b)⟩ :: rest) a := by
  have hy := yields (ops := ops) hA hj ht
  have hw : Region.wanted ⟨some d, op, ty, pos, aft, some (j, b)⟩ (yielded ops a.tmps) = false := by
    simp only [Region.wanted, hy]
    simpa using hne
  unfold wpQuiet
  rw [if_neg (by rw [hw]; simp)]
  exact k _ (hA.put hd undef)
theorem q_nil (h : Q a) : wpQuiet P ops C Q [] a := h
/-- A plain contract, in a quiet region. -/
theorem plq {f : FuncId} {vs : List Value} {u : Value} {Z : Prop} {w : World} (hc : Calls P f vs.toArray w fun e w' => ∃ v, e = .returned v ∧ v = u ∧ Z ∧ Iv w [] μ μ [] w') (hI : Iv W0 md μ0 μ its w) :
    Calls P f vs.toArray w fun e w' => e = .returned u ∧ Iv W0 md μ0 μ its w' :=
  hc.mono fun e w' ⟨v, he, hv, _, h'⟩ => ⟨by rw [he, hv], hI.call h'⟩
theorem w_draw {id : Nat} {l : List Oper} (hm : P.follows .mixedOrders = true) (hB : Region.lexB .any l.toArray = true) (hI : Iv W0 md μ0 μ its w)
    (h : wpQuiet P l.toArray (fun w => Iv W0 md μ0 μ its w) (fun a => ∀ w, Iv W0 md μ0 μ its w → N a w) l a) : (Code.region id l.toArray true).wp P (PQ N E R) a w :=
  wp_region_quiet (C := fun w => Iv W0 md μ0 μ its w) hm hB hI.drew1 h
end

/-! ### Partial answers -/
theorem bind_some {α β : Type} {o : Option α} {f : α → Option β} {r : β} (h : o.bind f = some r) : ∃ x, o = some x ∧ f x = some r := by
  cases o with
  | none => cases h
  | some x => exact ⟨x, rfl, h⟩
theorem guard_some {α : Type} {c : Prop} [Decidable c] {o : Option α} {r : α} (h : (if c then o else none) = some r) : c ∧ o = some r := by
  by_cases hc : c
  · rw [if_pos hc] at h; exact ⟨hc, h⟩
  · rw [if_neg hc] at h; cases h
theorem ite_t {α : Type} {b : Bool} {o o' : Option α} {r : α} (h : (if b = true then o else o') = some r) (hb : b = true) : o = some r := by rwa [if_pos hb] at h
theorem ite_f {α : Type} {b : Bool} {o o' : Option α} {r : α} (h : (if b = true then o else o') = some r) (hb : b = false) : o' = some r := by
  subst hb; exact h

theorem bT {α β : Type} {c : Prop} [Decidable c] {A B : Option α} {K : α → Option β} {r : β} (h : (if c then A else B).bind K = some r) (hc : c) : A.bind K = some r := by rwa [if_pos hc] at h
theorem bF {α β : Type} {c : Prop} [Decidable c] {A B : Option α} {K : α → Option β} {r : β} (h : (if c then A else B).bind K = some r) (hc : ¬ c) : B.bind K = some r := by rwa [if_neg hc] at h
theorem bG {α β : Type} {c : Prop} [Decidable c] {A : Option α} {K : α → Option β} {r : β} (h : (if c then A else none).bind K = some r) : c ∧ A.bind K = some r := by
  by_cases hc : c
  · rw [if_pos hc] at h; exact ⟨hc, h⟩
  · rw [if_neg hc] at h; cases h
theorem bB {α β γ : Type} {o : Option α} {f : α → Option β} {K : β → Option γ} {r : γ} (h : (o.bind f).bind K = some r) : ∃ x, o = some x ∧ (f x).bind K = some r := by
  cases o with
  | none => cases h
  | some x => exact ⟨x, rfl, h⟩
theorem bS {α β : Type} {v : α} {K : α → Option β} {r : β} (h : (some v).bind K = some r) : K v = some r := h
theorem bI {α : Type} {o : Option α} {r : α} (h : o = some r) : o.bind some = some r := by rw [h]; rfl
theorem nT {b : Bool} (h : (!b) = true) : b = false := by cases b <;> first | rfl | cases h
theorem nF {b : Bool} (h : (!b) = false) : b = true := by cases b <;> first | rfl | cases h
theorem ft {b : Bool} (h : b = false) : ¬ b = true := by rw [h]; exact Bool.false_ne_true

/-- A loop: rounds, till one says what comes of it. -/
def loopN {σ ρ : Type} (step : σ → Option (σ ⊕ ρ)) : Nat → σ → Option ρ
  | 0, _ => none
  | n + 1, s => match step s with
    | none => none
    | some (.inl s') => loopN step n s'
    | some (.inr r) => some r
open Classical in
noncomputable def loopO {σ ρ : Type} (step : σ → Option (σ ⊕ ρ)) (s : σ) : Option ρ :=
  if h : ∃ n r, loopN step n s = some r then some (h.choose_spec.choose) else none
section
variable {σ ρ : Type} {step : σ → Option (σ ⊕ ρ)} {s : σ} {r : ρ}
theorem loopN_mono {n : Nat} : ∀ {s : σ}, loopN step n s = some r → ∀ m, n ≤ m → loopN step m s = some r := by
  induction n with
  | zero => intro s h; cases h
  | succ n ih =>
    intro s h m hm
    obtain ⟨m, rfl⟩ : ∃ k, m = k + 1 := ⟨m - 1, by omega⟩
    simp only [loopN] at h ⊢
    cases hs : step s with
    | none => rw [hs] at h; cases h
    | some x =>
      rw [hs] at h
      cases x with
      | inl s' => exact ih h m (by omega)
      | inr r' => exact h
theorem loopN_one {n m : Nat} {r' : ρ} (h : loopN step n s = some r) (h' : loopN step m s = some r') : r = r' := by
  have h1 := loopN_mono h (max n m) (Nat.le_max_left _ _)
  have h2 := loopN_mono h' (max n m) (Nat.le_max_right _ _)
  rw [h1] at h2
  exact Option.some.inj h2
theorem loopO_of {n : Nat} (h : loopN step n s = some r) : loopO step s = some r := by
  unfold loopO
  have hx : ∃ n r, loopN step n s = some r := ⟨n, r, h⟩
  rw [dif_pos hx]
  exact congrArg some (loopN_one hx.choose_spec.choose_spec h)
theorem loopO_some (h : loopO step s = some r) : ∃ n, loopN step n s = some r := by
  unfold loopO at h
  split at h
  · rename_i hx
    have := Option.some.inj h
    subst this
    exact ⟨_, hx.choose_spec.choose_spec⟩
  · cases h
/-- One round. -/
theorem loopO_eq : loopO step s = match step s with
    | none => none
    | some (.inl s') => loopO step s'
    | some (.inr r) => some r := by
  cases hs : step s with
  | none =>
    simp only
    cases h : loopO step s with
    | none => rfl
    | some r =>
      obtain ⟨n, hn⟩ := loopO_some h
      cases n with
      | zero => cases hn
      | succ n => simp only [loopN, hs] at hn; cases hn
  | some x =>
    cases x with
    | inr r => exact loopO_of (n := 1) (by simp [loopN, hs])
    | inl s' =>
      simp only
      cases h' : loopO step s' with
      | some r =>
        obtain ⟨n, hn⟩ := loopO_some h'
        exact loopO_of (n := n + 1) (by simpa [loopN, hs] using hn)
      | none =>
        cases h : loopO step s with
        | none => rfl
        | some r =>
          obtain ⟨n, hn⟩ := loopO_some h
          cases n with
          | zero => cases hn
          | succ n =>
            simp only [loopN, hs] at hn
            rw [loopO_of hn] at h'
            cases h'
theorem loopO_inl {s' : σ} (h : step s = some (.inl s')) : loopO step s = loopO step s' := by rw [loopO_eq, h]
theorem loopO_inr (h : step s = some (.inr r)) : loopO step s = some r := by rw [loopO_eq, h]
theorem loopN_succ {n : Nat} (h : loopN step n s = some r) : ∃ m, n = m + 1 ∧ ((∃ s', step s = some (.inl s') ∧ loopN step m s' = some r) ∨ step s = some (.inr r)) := by
  cases n with
  | zero => cases h
  | succ n =>
    refine ⟨n, rfl, ?_⟩
    simp only [loopN] at h
    cases hs : step s with
    | none => rw [hs] at h; cases h
    | some x =>
      rw [hs] at h
      cases x with
      | inl s' => exact .inl ⟨s', rfl, h⟩
      | inr r' => exact .inr (by rw [Option.some.inj h])
theorem loopN_bind {n : Nat} (h : loopN step n s = some r) : ∃ m, n = m + 1 ∧ (step s).bind (fun x => Sum.elim (loopN step m) some x) = some r := by
  cases n with
  | zero => cases h
  | succ n =>
    refine ⟨n, rfl, ?_⟩
    simp only [loopN] at h
    cases hs : step s with
    | none => rw [hs] at h; cases h
    | some x =>
      rw [hs] at h
      cases x with
      | inl s' => exact h
      | inr r' => exact h
end

end Go.Proofs.Ytnbnnphlffhgiaa.K
